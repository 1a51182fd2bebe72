import PyProof.Rows.All
import Wide.All
import OpenK.AllK
import Wide.FinOn
import HandS.Head0
import HandS.Head1
import HandS.Head2
import HandS.HeadHook1
import HandS.HeadHook2
import HandS.HeadHook3
import HandS.HeadHook4
import HandS.HeadWalk
import HandS.ExcField
import HandS.Words
import HandS.ForMost
import HandS.Exc
import HandS.TryMany
import HandS.IsInst
import HandS.Deep
import HandS.Wide
import HandS.Nested
import HandS.ExcInit
import HandS.ExcOwn
import HandS.TryOnly
import HandS.CallSlots
import HandS.WordsExc
import HandS.Text
import HandS.TupAny
import HandS.TupLe
import HandS.Conv
import HandS.TupLen
import HandS.Style
import HandS.AnyAll
import HandS.WordsDict
import HandS.More
import HandS.Zip
import HandS.Iter
import KE.SortData
import HandS.RaiseMore
import HandS.Small
import HandS.Flow
import HandS.DictComp
import HandS.Comp
import KE.KDictPairs
import KE.KExcSuper
import HandS.MakeKwOnly
import PyProof.ReprRoads
import KE.KExcIs
import PySem.Challenge.RW_oneortwo_k00_errors_made
set_option Elab.async false
section
set_option Elab.async false
set_option linter.all false
set_option maxRecDepth 100000
set_option maxHeartbeats 2000000
/-! HZ0: what a Hook looks at behind the head; the run's equation in parts. -/
namespace DV
open PySem PySem.Spec PyProof.Rows L2 He
/-- the class object of an own error -/
def oexB (K : PySem.W.Frag) (C : Addr) : Bool := (match K.lookup C with
  | some ⟨.type t, _, .cls cd, sl⟩ => decide (t = "type") && (match cd.mro, sl.toList with
    | .ref C' :: bm, [_, _, _, _, some (.builtin n), _] => C' == C && (n == "ValueError.__new__" && (!cd.hasDel && (cd.hasDict && PySem.HandSPX.refsVE bm)))
    | _, _ => false)
  | _ => false) && (eqO (PySem.W.findIn K (.ref C) "__setattr__") (some (some (.builtin "object.__setattr__"))) && (decide (PySem.W.subIn K (.ref C) (.type "BaseException") = some true) && (decide (PySem.W.typeIn K (.ref C) = some (.type "type")) && PySem.W.keepIn K (.ref C))))
/-- an own error: its class's name, its __init__, its parameter and field -/
structure IniD where
  cls : Str
  st : Stmt
  par : Str
  fld : Str
abbrev FnY : Type := Option (Str × Str × Arguments × FuncBody × Scope × Addr × List Str × Addr)
def fnY (K : PySem.W.Frag) (d : IniD) : FnY := match K.lookup (ma K (ga K d.cls) "__init__") with
  | some ⟨_, _, .func fd, _⟩ => some (fd.name, fd.qualname, fd.params, fd.body, fd.scope, fd.globals, fd.closure.map (·.1), fd.builtins)
  | _ => none
def IniD.val (d : IniD) : FnY := some ("__init__", d.cls ++ ".__init__", defArgs d.st, .stmts (defBody d.st), defScope d.st, mainGlobals, ["__class__"], builtinsNs)
def IniD.ok (P : Program) (K : PySem.W.Frag) (d : IniD) : Bool :=
  eqO (PySem.W.findIn K (.ref (ga K d.cls)) "__init__") (some (some (.ref (ma K (ga K d.cls) "__init__")))) && (decide (PySem.W.typeIn K (.ref (ma K (ga K d.cls) "__init__")) = some (.type "function")) &&
  ((match K.lookup (ma K (ga K d.cls) "__init__") with
    | some ⟨_, _, .func fd, _⟩ => (match fd.defaults with
      | .none => true
      | _ => false) && (PySem.W.codeIn K fd.code (d.cls ++ ".__init__") && ((match fd.code with
      | .ref cda => (match K.lookup cda with
        | some ⟨_, _, .fields vs, _⟩ => (match (vs[2]? : Option Value) with
          | some (.str file _) => (P.main.file : Str) == file
          | _ => false)
        | _ => false)
      | _ => false) && (match fd.closure with
        | [(_, cc)] => (match K.lookup cc with
          | some ⟨_, _, .cell (some (.ref C')), _⟩ => C' == ga K d.cls
          | _ => false)
        | _ => false)))
    | _ => false) &&
  ((PySem.W.clsIn K (ga K d.cls)).isSome && (decide (PySem.W.mroIn K (ga K d.cls) (.ref (ga K d.cls)) = some true) && (decide (PySem.W.ks_superIn K (ga K d.cls) (ga K d.cls) "__init__" = some (some (.builtin "ValueError.__init__"))) &&
  (decide (PySem.W.subIn K (.ref (ga K d.cls)) (.type "ValueError") = some true) && (eqO (PySem.W.nsIn K cStatics "thirdparty.any") (some none) && (oexB K (ga K d.cls) && (xfB K (ga K d.cls) && eqO (PySem.W.findIn K (.ref (ga K d.cls)) d.fld) (some none))))))))))
abbrev tyNames : List String := ["NoneType", "bool", "int", "str", "list", "tuple", "dict"]
def isiB (K : PySem.W.Frag) (a : Addr) : Bool := eqO (PySem.W.findIn K (.ref a) "__class__") (some (some (.builtin "object.__class__"))) && (eqO (PySem.W.specialIn K (.builtin "object.__class__") "__get__") (some (some (.builtin "getset_descriptor.__get__"))) && (decide (PySem.W.takesIn K (.builtin "object.__class__") = some true) && (decide (PySem.W.mroIn K a (.type "object") = some true) && tyNames.all fun n => decide (PySem.W.kitAny K (.type n) [.ref a] = some false))))
abbrev AlY : Type := AlD × List FnY × Bool
def frY (n : Nat) (g : Addr → Option Obj) : PySem.W.Frag := frT g (asD g n ++ [cStatics])
def obsY (P : Program) (n : Nat) (fa : List Fa) (fn : List DefD) (ini : List IniD) (isi : List Str) (tf : List Defn) (g : Addr → Option Obj) : AlY :=
  (obsD fa fn (frY n g), ini.map (fnY (frY n g)), (ini.all fun d => d.ok P (frY n g)) && ((isi.all fun x => isiB (frY n g) (ga (frY n g) x)) && tabsB g tf (frY n g)))
def valY (fn : List DefD) (ini : List IniD) : AlY := (valD fn, ini.map IniD.val, true)
structure IniV where
  cls : Str
  fs : List Str
def exI_b (K : PySem.W.Frag) (C : Addr) : Bool := (PySem.W.clsIn K C).isSome && (xfB K C && (eqO (PySem.W.findIn K (.ref C) "__class__") (some (some (.builtin "object.__class__"))) && (eqO (PySem.W.specialIn K (.builtin "object.__class__") "__get__") (some (some (.builtin "getset_descriptor.__get__"))) && (decide (PySem.W.takesIn K (.builtin "object.__class__") = some true) && decide (PySem.W.mroIn K C (.type "object") = some true)))))
/-- which class is which; bs: their bases -/
def okZ (K : PySem.W.Frag) (tf : List Defn) (vs : List IniV) (bs : List Str) : Bool := decide ((tf.map fun p => (cT K p).2).Nodup) && vs.all fun v => exI_b K (ga K v.cls) && (v.fs.all (fun f => eqO (PySem.W.findIn K (.ref (ga K v.cls)) f) (some none)) && (vs.all (fun x => decide (PySem.W.kitOne K (.ref (ga K v.cls)) (.ref (ga K x.cls)) = some (decide (v.cls = x.cls)))) &&
  (bs.all (fun b => decide (PySem.W.kitOne K (.ref (ga K v.cls)) (.ref (ga K b)) = some true)) && decide (PySem.W.kitOne K (.ref (ga K v.cls)) (.type "ValueError") = some true))))
abbrev AlZ : Type := AlY × Bool
def obsZ (P : Program) (n : Nat) (fa : List Fa) (fn : List DefD) (ini : List IniD) (isi : List Str) (tf : List Defn) (vs : List IniV) (bs : List Str) (g : Addr → Option Obj) : AlZ := (obsY P n fa fn ini isi tf g, okZ (frY n g) tf vs bs)

def inCls (s : Stmt) (j : Nat) : Stmt := match s with
  | .ClassDef (body := b) .. => b.getD j s
  | _ => s
theorem opt_and {α β γ : Type} {o : Option α} {f : α → β} {g : α → γ} {b : β} {c : γ} (h1 : o.map f = some b) (h2 : o.map g = some c) : o.map (fun x => (f x, g x)) = some (b, c) := by
  cases o with
  | none => cases h1
  | some x =>
    have e1 : f x = b := Option.some.inj h1
    have e2 : g x = c := Option.some.inj h2
    rw [← e1, ← e2]
    rfl
theorem opt_look {α β γ δ : Type} {o : Option α} {f : α → β} {g : α → γ} {k : α → δ} {b : β} {c : γ} {d : δ} (h1 : o.map (fun x => (f x, g x)) = some (b, c)) (h2 : o.map k = some d) : o.map (fun x => (f x, g x, k x)) = some (b, c, d) := by
  cases o with
  | none => cases h1
  | some x =>
    have e1 : (f x, g x) = (b, c) := Option.some.inj h1
    have e2 : k x = d := Option.some.inj h2
    cases e1
    rw [← e2]
    rfl
theorem opt_band {α : Type} {o : Option α} {f g : α → Bool} (h1 : o.map f = some true) (h2 : o.map g = some true) : o.map (fun x => f x && g x) = some true := by
  cases o with
  | none => cases h1
  | some x =>
    have e1 : f x = true := Option.some.inj h1
    have e2 : g x = true := Option.some.inj h2
    show some (f x && g x) = some true
    rw [e1, e2]
    rfl
end DV
end
section
set_option Elab.async false
set_option linter.all false
set_option maxRecDepth 100000
set_option maxHeartbeats 8000000
/-! statements' names -/
namespace K00
open PySem PySem.Spec PyProof.Rows L2 DV He
def top (i : Nat) : Stmt := PySem.Challenge.pw_oneortwo_k00_errors_made.main.body.getD i (.Pass ⟨0, 0, 0, 0⟩)
abbrev st__law_spring : Stmt := top 41
abbrev st__law_draw : Stmt := top 42
abbrev st__law_pick : Stmt := top 43
abbrev st__law_e_drawn : Stmt := top 52
abbrev st__law_e_fourth : Stmt := top 50
abbrev st__law_e_third : Stmt := top 49
abbrev st__law_e_kinds : Stmt := top 51
abbrev st__law_same : Stmt := top 46
abbrev st__law_very : Stmt := top 45
abbrev st__law_e_right : Stmt := top 53
abbrev st__law_e_first : Stmt := top 47
abbrev st__law_e_second : Stmt := top 48
abbrev st_law : Stmt := top 54
end K00
end
section
set_option Elab.async false
set_option linter.all false
set_option maxRecDepth 100000
set_option maxHeartbeats 8000000
/-! the head's run, in parts -/
namespace K00
open PySem PySem.Spec PyProof.Rows L2 DV He
abbrev RW : PySem.W.OpenLaw := PySem.Challenge.rw_oneortwo_k00_errors_made
abbrev PR : Program := RW.prog
def fa : List He.Fa := [.free "len", .free "enumerate", .free "int", .free "range", .free "tuple", .free "dict", .free "isinstance", .free "list", .free "zip", .free "all", .free "bool", .free "str", .free "ValueError", .free "super", .glo "_law_spring", .glo "_law_draw", .glo "_law_pick", .glo "_law_e_drawn", .glo "_law_e_fourth", .glo "_law_e_third", .glo "_law_e_kinds", .glo "_law_same", .glo "_law_very", .glo "_law_e_right", .glo "_law_e_first", .glo "_law_e_second", .glo "law", .glo "BadNames", .glo "BadLots", .glo "BadImage", .glo "BadLot", .glo "NoLot", .glo "NoName", .glo "BadWeights", .glo "BadTable", .glo "BadNumber", .glo "TooMany", .glo "BadQuestion", .glo "BadTies", .glo "BadTwin", .glo "Overlap", .glo "BadPoints", .glo "BadRow", .glo "BadHeights", .glo "BadRing", .glo "NotWeighed", .glo "OnlyName", .glo "AllHave", .glo "NoneHas", .glo "Shared", .glo "BadName", .glo "Taken", .glo "There", .glo "Lone", .glo "NothingDone", .glo "NothingUndone", .glo "BadStep", .glo "BadSteps", .glo "Refused", .glo "BadText", .glo "BadJournal", .glo "LotError"]
def fd0 : He.DefD := ⟨("_law_spring", none), "_law_spring", "_law_spring", defArgs st__law_spring, defBody st__law_spring, defScope st__law_spring, [], []⟩
def fd1 : He.DefD := ⟨("_law_draw", none), "_law_draw", "_law_draw", defArgs st__law_draw, defBody st__law_draw, defScope st__law_draw, [], []⟩
def fd2 : He.DefD := ⟨("_law_pick", none), "_law_pick", "_law_pick", defArgs st__law_pick, defBody st__law_pick, defScope st__law_pick, [], []⟩
def fd3 : He.DefD := ⟨("_law_e_drawn", none), "_law_e_drawn", "_law_e_drawn", defArgs st__law_e_drawn, defBody st__law_e_drawn, defScope st__law_e_drawn, [], []⟩
def fd4 : He.DefD := ⟨("_law_e_fourth", none), "_law_e_fourth", "_law_e_fourth", defArgs st__law_e_fourth, defBody st__law_e_fourth, defScope st__law_e_fourth, [], []⟩
def fd5 : He.DefD := ⟨("_law_e_third", none), "_law_e_third", "_law_e_third", defArgs st__law_e_third, defBody st__law_e_third, defScope st__law_e_third, [], []⟩
def fd6 : He.DefD := ⟨("_law_e_kinds", none), "_law_e_kinds", "_law_e_kinds", defArgs st__law_e_kinds, defBody st__law_e_kinds, defScope st__law_e_kinds, [], []⟩
def fd7 : He.DefD := ⟨("_law_same", none), "_law_same", "_law_same", defArgs st__law_same, defBody st__law_same, defScope st__law_same, [], []⟩
def fd8 : He.DefD := ⟨("_law_very", none), "_law_very", "_law_very", defArgs st__law_very, defBody st__law_very, defScope st__law_very, [], []⟩
def fd9 : He.DefD := ⟨("_law_e_right", none), "_law_e_right", "_law_e_right", defArgs st__law_e_right, defBody st__law_e_right, defScope st__law_e_right, [], []⟩
def fd10 : He.DefD := ⟨("_law_e_first", none), "_law_e_first", "_law_e_first", defArgs st__law_e_first, defBody st__law_e_first, defScope st__law_e_first, [], []⟩
def fd11 : He.DefD := ⟨("_law_e_second", none), "_law_e_second", "_law_e_second", defArgs st__law_e_second, defBody st__law_e_second, defScope st__law_e_second, [], []⟩
def fd12 : He.DefD := ⟨("law", none), "law", "law", defArgs st_law, defBody st_law, defScope st_law, [], []⟩
def fn : List He.DefD := [fd0, fd1, fd2, fd3, fd4, fd5, fd6, fd7, fd8, fd9, fd10, fd11, fd12]
def id_BadNames : IniD := ⟨"BadNames", (inCls (top 2) 0), "given", "given"⟩
def id_BadLots : IniD := ⟨"BadLots", (inCls (top 3) 0), "given", "given"⟩
def id_BadImage : IniD := ⟨"BadImage", (inCls (top 4) 0), "image", "image"⟩
def id_BadLot : IniD := ⟨"BadLot", (inCls (top 5) 0), "lot", "lot"⟩
def id_NoLot : IniD := ⟨"NoLot", (inCls (top 6) 0), "lot", "lot"⟩
def id_NoName : IniD := ⟨"NoName", (inCls (top 7) 0), "named", "named"⟩
def id_BadWeights : IniD := ⟨"BadWeights", (inCls (top 8) 0), "weights", "weights"⟩
def id_BadTable : IniD := ⟨"BadTable", (inCls (top 9) 0), "table", "table"⟩
def id_BadNumber : IniD := ⟨"BadNumber", (inCls (top 10) 0), "number", "number"⟩
def id_TooMany : IniD := ⟨"TooMany", (inCls (top 11) 0), "most", "most"⟩
def id_BadQuestion : IniD := ⟨"BadQuestion", (inCls (top 13) 0), "question", "question"⟩
def id_BadTies : IniD := ⟨"BadTies", (inCls (top 15) 0), "ties", "ties"⟩
def id_BadTwin : IniD := ⟨"BadTwin", (inCls (top 16) 0), "twin", "twin"⟩
def id_Overlap : IniD := ⟨"Overlap", (inCls (top 17) 0), "named", "named"⟩
def id_BadPoints : IniD := ⟨"BadPoints", (inCls (top 18) 0), "points", "points"⟩
def id_BadRow : IniD := ⟨"BadRow", (inCls (top 19) 0), "row", "row"⟩
def id_BadHeights : IniD := ⟨"BadHeights", (inCls (top 20) 0), "heights", "heights"⟩
def id_BadRing : IniD := ⟨"BadRing", (inCls (top 21) 0), "ring", "ring"⟩
def id_NotWeighed : IniD := ⟨"NotWeighed", (inCls (top 22) 0), "heights", "heights"⟩
def id_OnlyName : IniD := ⟨"OnlyName", (inCls (top 24) 0), "named", "named"⟩
def id_AllHave : IniD := ⟨"AllHave", (inCls (top 25) 0), "named", "named"⟩
def id_NoneHas : IniD := ⟨"NoneHas", (inCls (top 26) 0), "named", "named"⟩
def id_Shared : IniD := ⟨"Shared", (inCls (top 27) 0), "named", "named"⟩
def id_BadName : IniD := ⟨"BadName", (inCls (top 28) 0), "name", "name"⟩
def id_Taken : IniD := ⟨"Taken", (inCls (top 29) 0), "name", "name"⟩
def id_There : IniD := ⟨"There", (inCls (top 31) 0), "lot", "lot"⟩
def id_Lone : IniD := ⟨"Lone", (inCls (top 32) 0), "lot", "lot"⟩
def id_NothingDone : IniD := ⟨"NothingDone", (inCls (top 33) 0), "zz9", "zz9"⟩
def id_NothingUndone : IniD := ⟨"NothingUndone", (inCls (top 34) 0), "zz9", "zz9"⟩
def id_BadStep : IniD := ⟨"BadStep", (inCls (top 35) 0), "step", "step"⟩
def id_BadSteps : IniD := ⟨"BadSteps", (inCls (top 36) 0), "steps", "steps"⟩
def id_Refused : IniD := ⟨"Refused", (inCls (top 37) 0), "fault", "fault"⟩
def id_BadText : IniD := ⟨"BadText", (inCls (top 38) 0), "text", "text"⟩
def id_BadJournal : IniD := ⟨"BadJournal", (inCls (top 39) 0), "journal", "journal"⟩
def ini : List IniD := [id_BadNames, id_BadLots, id_BadImage, id_BadLot, id_NoLot, id_NoName, id_BadWeights, id_BadTable, id_BadNumber, id_TooMany, id_BadQuestion, id_BadTies, id_BadTwin, id_Overlap, id_BadPoints, id_BadRow, id_BadHeights, id_BadRing, id_NotWeighed, id_OnlyName, id_AllHave, id_NoneHas, id_Shared, id_BadName, id_Taken, id_There, id_Lone, id_NothingDone, id_NothingUndone, id_BadStep, id_BadSteps, id_Refused, id_BadText, id_BadJournal]
def isi : List Str := []
def tf : List He.Defn := [("_law_e_fourth", none), ("_law_e_third", none), ("_law_e_first", none), ("_law_e_second", none)]
def vs : List IniV := [⟨"BadNames", ["given"]⟩, ⟨"BadLots", ["given"]⟩, ⟨"BadImage", ["image"]⟩, ⟨"BadLot", ["lot"]⟩, ⟨"NoLot", ["lot"]⟩, ⟨"NoName", ["named"]⟩, ⟨"BadWeights", ["weights"]⟩, ⟨"BadTable", ["table"]⟩, ⟨"BadNumber", ["number"]⟩, ⟨"TooMany", ["most"]⟩, ⟨"BadQuestion", ["question"]⟩, ⟨"BadTies", ["ties"]⟩, ⟨"BadTwin", ["twin"]⟩, ⟨"Overlap", ["named"]⟩, ⟨"BadPoints", ["points"]⟩, ⟨"BadRow", ["row"]⟩, ⟨"BadHeights", ["heights"]⟩, ⟨"BadRing", ["ring"]⟩, ⟨"NotWeighed", ["heights"]⟩, ⟨"OnlyName", ["named"]⟩, ⟨"AllHave", ["named"]⟩, ⟨"NoneHas", ["named"]⟩, ⟨"Shared", ["named"]⟩, ⟨"BadName", ["name"]⟩, ⟨"Taken", ["name"]⟩, ⟨"There", ["lot"]⟩, ⟨"Lone", ["lot"]⟩, ⟨"NothingDone", []⟩, ⟨"NothingUndone", []⟩, ⟨"BadStep", ["step"]⟩, ⟨"BadSteps", ["steps"]⟩, ⟨"Refused", ["fault"]⟩, ⟨"BadText", ["text", "line"]⟩, ⟨"BadJournal", ["journal"]⟩]
def bs : List Str := ["LotError"]
def ln0 : List PySem.Str := [("LotError" : PySem.Str), ("BadNames" : PySem.Str), ("BadLots" : PySem.Str), ("BadImage" : PySem.Str), ("BadLot" : PySem.Str), ("NoLot" : PySem.Str), ("NoName" : PySem.Str), ("BadWeights" : PySem.Str), ("BadTable" : PySem.Str), ("BadNumber" : PySem.Str), ("TooMany" : PySem.Str), ("BadQuestion" : PySem.Str), ("BadTies" : PySem.Str), ("BadTwin" : PySem.Str), ("Overlap" : PySem.Str), ("BadPoints" : PySem.Str), ("BadRow" : PySem.Str), ("BadHeights" : PySem.Str), ("BadRing" : PySem.Str), ("NotWeighed" : PySem.Str), ("OnlyName" : PySem.Str), ("AllHave" : PySem.Str), ("NoneHas" : PySem.Str), ("Shared" : PySem.Str), ("BadName" : PySem.Str), ("Taken" : PySem.Str), ("There" : PySem.Str), ("Lone" : PySem.Str), ("NothingDone" : PySem.Str), ("NothingUndone" : PySem.Str), ("BadStep" : PySem.Str), ("BadSteps" : PySem.Str), ("Refused" : PySem.Str), ("BadText" : PySem.Str), ("BadJournal" : PySem.Str), ("_law_spring" : PySem.Str), ("_law_draw" : PySem.Str), ("_law_pick" : PySem.Str), ("_law_mixed" : PySem.Str), ("_law_very" : PySem.Str)]
def ln1 : List PySem.Str := [("_law_same" : PySem.Str), ("_law_e_first" : PySem.Str), ("_law_e_second" : PySem.Str), ("_law_e_third" : PySem.Str), ("_law_e_fourth" : PySem.Str), ("_law_e_kinds" : PySem.Str), ("_law_e_drawn" : PySem.Str), ("_law_e_right" : PySem.Str)]
def ln2 : List PySem.Str := []
def ln3 : List PySem.Str := []
def lnames : List PySem.Str := ln0 ++ ln1 ++ ln2 ++ ln3
abbrev qv : Program := PySem.W.view (PySem.W.OpenLaw.row RW).prog [54]
theorem run_look (w : World) (os : OsState) : (HandSHeadRun.endF (HandSHeadRun.stepQ (HandSHeadRun.denQ HandSHeadRun.tabQ) (PySem.W.OpenLaw.row RW).prog w) 20000 (PySem.W.OpenLaw.row RW).prog w os).map (fun s => (HandSHeadRun.looksF (PySem.W.OpenLaw.row RW).prog (PySem.W.boot_heap w.params) s.abs, HandSHeadRun.seenQ qv lnames (importedModules (PySem.W.OpenLaw.row RW).prog.main.body) (fun s => PySem.W.xlAt qv [] s && PySem.W.recOk (PySem.W.OpenLaw.row RW).toRowW.records s) s.abs)) = some (((true : Bool), PySem.W.openGood qv lnames)) := by kernel_rfl
theorem run_defs (w : World) (os : OsState) : (HandSHeadRun.endF (HandSHeadRun.stepQ (HandSHeadRun.denQ HandSHeadRun.tabQ) (PySem.W.OpenLaw.row RW).prog w) 20000 (PySem.W.OpenLaw.row RW).prog w os).map (fun s => (obsD fa fn (frY 5 (HandSHeadRun.getT s)), ini.map (fnY (frY 5 (HandSHeadRun.getT s))))) = some ((valD fn, ini.map IniD.val)) := by kernel_rfl
theorem run_oks (w : World) (os : OsState) : (HandSHeadRun.endF (HandSHeadRun.stepQ (HandSHeadRun.denQ HandSHeadRun.tabQ) (PySem.W.OpenLaw.row RW).prog w) 20000 (PySem.W.OpenLaw.row RW).prog w os).map (fun s => ((ini.all fun d => d.ok PR (frY 5 (HandSHeadRun.getT s))) && ((isi.all fun x => isiB (frY 5 (HandSHeadRun.getT s)) (ga (frY 5 (HandSHeadRun.getT s)) x)) && tabsB (HandSHeadRun.getT s) tf (frY 5 (HandSHeadRun.getT s))))) = some (true) := by kernel_rfl
theorem run_okz (w : World) (os : OsState) : (HandSHeadRun.endF (HandSHeadRun.stepQ (HandSHeadRun.denQ HandSHeadRun.tabQ) (PySem.W.OpenLaw.row RW).prog w) 20000 (PySem.W.OpenLaw.row RW).prog w os).map (fun s => okZ (frY 5 (HandSHeadRun.getT s)) tf vs bs) = some (true) := by kernel_rfl
end K00
end
section
set_option Elab.async false
set_option linter.all false
set_option maxRecDepth 100000
/-! DA: what a Python value is worth as plain data (D), the state of the few objects that change (S), how both lie in the heap (RD, StS, StE, Le). -/
namespace DV
open PySem PySem.Spec PyProof.Rows L2
abbrev Hp := L2.Hp

/-! ### data -/
inductive D where
  | non | bl (b : Bool) | int (i : Int) | str (x : Str)
  | lst (xs : List D) | tup (xs : List D) | dct (ks vs : List D)
  | ref (i : Nat)
  | inst (c : Nat) (vs : List D)
  | fn (i : Nat)
  | tag (i : Nat) (d : D)
  | exn (c : Nat) (vs : List D)
  | lam (i : Nat) (caps : List D)
  /-- the law's script; a list of the module's own top -/
  | scr (ns : List Int) | kl (xs : List D)
deriving Inhabited

mutual
/-- as the library's data, where it is plain -/
def D.pd : D → Option PyData
  | .non => some .none
  | .bl b => some (.bool b)
  | .int i => some (.int i)
  | .str x => some (.str x)
  | .lst xs => match D.pds xs with
    | some l => some (.list l)
    | none => none
  | .tup xs => match D.pds xs with
    | some l => some (.tuple l)
    | none => none
  | .tag _ d => d.pd
  | .dct _ _ => none
  | .ref _ => none
  | .inst _ _ => none
  | .fn _ => none
  | .exn _ _ => none
  | .lam _ _ => none
  | .scr _ => none
  | .kl _ => none
def D.pds : List D → Option (List PyData)
  | [] => some []
  | d :: ds => match d.pd, D.pds ds with
    | some a, some b => some (a :: b)
    | _, _ => none
end
mutual
/-- no reference from n on (tags stay) -/
def D.low (n t : Nat) : D → Bool
  | .non => true
  | .bl _ => true
  | .int _ => true
  | .str _ => true
  | .lst xs => D.lows n t xs
  | .tup xs => D.lows n t xs
  | .dct ks vs => D.lows n t ks && D.lows n t vs
  | .ref i => decide (i < n)
  | .inst _ vs => D.lows n t vs
  | .fn _ => true
  | .tag _ d => d.low n t
  | .exn _ vs => D.lows n t vs
  | .lam _ _ => false
  | .scr _ => true
  | .kl xs => D.lows n t xs
def D.lows (n t : Nat) : List D → Bool
  | [] => true
  | d :: ds => d.low n t && D.lows n t ds
end
/-- the outermost tags off -/
def D.strip : D → D
  | .tag _ d => d.strip
  | d => d

/-- an object that changes -/
inductive MO where
  | lst (xs : List D)
  | dK (ks vs : List D) | dT (ks vs : List D)
  | ins (c : Nat) (vs : List D)
  | dead
structure S where
  mo : List MO
  tg : Nat

/-! ### how it lies in the heap -/
structure Wd where
  F : Addr → Prop
  al : List Addr
  ts : List V
/-- frozen data stay -/
structure Lf (W : Wd) (H : Hp) (W' : Wd) (H' : Hp) : Prop where
  fz : ∀ a, W.F a → W'.F a
  al : ∀ (i : Nat) (a : Addr), W.al[i]? = some a → W'.al[i]? = some a
  ts : ∀ (i : Nat) (v : V), W.ts[i]? = some v → W'.ts[i]? = some v
  at_ : ∀ a o, W.F a → H a = some o → H' a = some o
/-- what a lambda's value means in this frame: it stays while what is frozen stays -/
structure LamR where
  r : Nat → Addr → Wd → Hp → Prop
  st : ∀ i a W H W' H', Lf W H W' H' → r i a W H → r i a W' H'
/-- an error's dict, if it has one -/
def ExD (F : Addr → Prop) (H : Hp) (dx : Option Addr) (fs : List (Str × V)) : Prop := (dx = none ∧ fs = []) ∨ ∃ d, dx = some d ∧ F d ∧ H d = some (exd d fs)
theorem ExD.mono {F F' : Addr → Prop} {H H' : Hp} {dx : Option Addr} {fs : List (Str × V)} (h : ExD F H dx fs) (hF : ∀ b, F b → F' b) (hH : ∀ b o, F b → H b = some o → H' b = some o) : ExD F' H' dx fs := by
  rcases h with h | ⟨d, h1, h2, h3⟩
  · exact .inl h
  · exact .inr ⟨d, h1, hF d h2, hH d _ h2 h3⟩
/-- what a function held as a value is: it stays while what is frozen stays -/
structure GlR where
  r : Nat → Addr → (Addr → Prop) → Hp → Prop
  st : ∀ i a (F F' : Addr → Prop) H H', (∀ b, F b → F' b) → (∀ b o, F b → H b = some o → H' b = some o) → r i a F H → r i a F' H'
structure Cfg where
  ca : Nat → Addr
  cf : Nat → List Str
  fa : GlR
  ex : Option (Addr × Addr)
  /-- tables of code objects; lambdas -/
  T : List NdefX.NTab
  lr : LamR
def keyD : Key → D
  | .inl i => .int i
  | .inr x => .str x
/-- a dict of such keys and values at a -/
def DctAt (H : Hp) (a : Addr) (ks : List D) (ws : List V) : Prop :=
  (∃ kvs : List (Key × V), H a = some (.dK kvs) ∧ ks = kvs.map (fun p => keyD p.1) ∧ ws = kvs.map (·.2)) ∨
  (∃ kvs : List (List Key × V), H a = some (.dT kvs) ∧ ks = kvs.map (fun p => D.tup (p.1.map keyD)) ∧ ws = kvs.map (·.2) ∧ kvs ≠ [])
/-- .. or an empty one that may get tuples as keys -/
def DctL (H : Hp) (a : Addr) (ks : List D) (ws : List V) : Prop :=
  (∃ kvs : List (Key × V), H a = some (.dK kvs) ∧ ks = kvs.map (fun p => keyD p.1) ∧ ws = kvs.map (·.2)) ∨
  (∃ kvs : List (List Key × V), H a = some (.dT kvs) ∧ ks = kvs.map (fun p => D.tup (p.1.map keyD)) ∧ ws = kvs.map (·.2))
theorem DctAt.l {H : Hp} {a : Addr} {ks : List D} {ws : List V} (h : DctAt H a ks ws) : DctL H a ks ws := by
  rcases h with h | ⟨kvs, h1, h2, h3, _⟩
  · exact .inl h
  · exact .inr ⟨kvs, h1, h2, h3⟩
def KL (K : PySem.W.Frag) (a : Addr) (xs : List V) : Prop :=
  ∃ (o : Obj) (its : Array Value) (n : Nat), K.lookup a = some o ∧ o.cls = .type "list" ∧ o.dict = none ∧ o.data = .seq its n ∧ its.size ≤ sizeLine ∧ Vals xs its.toList
mutual
def RD (C : Cfg) (K : PySem.W.Frag) (W : Wd) (H : Hp) : D → V → Prop
  | .non, v => v = .non
  | .bl b, v => v = .bl b
  | .int i, v => v = .int i
  | .str x, v => v = .str x
  | .lst xs, v => ∃ a vs, v = .ref a ∧ W.F a ∧ H a = some (.lst vs) ∧ RDs C K W H xs vs
  | .tup xs, v => ∃ a vs, v = .ref a ∧ W.F a ∧ H a = some (.tup vs) ∧ RDs C K W H xs vs
  | .dct ks vs, v => ∃ a ws, v = .ref a ∧ W.F a ∧ DctAt H a ks ws ∧ RDs C K W H vs ws
  | .ref i, v => ∃ a, W.al[i]? = some a ∧ v = .ref a
  | .inst c vs, v => ∃ a dx ws, v = .ref a ∧ W.F a ∧ H a = some (.ins (C.ca c) dx ((C.cf c).zip ws)) ∧ (C.cf c).length = ws.length ∧ RDs C K W H vs ws
  | .fn i, v => ∃ a, v = .ref a ∧ C.fa.r i a W.F H
  | .tag i d, v => W.ts[i]? = some v ∧ RD C K W H d v
  | .exn c vs, v => ∃ a dx ws, v = .ref a ∧ W.F a ∧ H a = some (exo a (C.ca c) dx) ∧ ExD W.F H dx ((C.cf c).zip ws) ∧ (C.cf c).length = ws.length ∧ RDs C K W H vs ws
  | .lam i caps, v => caps = [] ∧ ∃ a, v = .ref a ∧ C.lr.r i a W H
  | .scr ns, v => ∃ a, v = .ref a ∧ W.F a ∧ Rd H a (.lst (ns.map V.int))
  | .kl xs, v => ∃ a vs, v = .ref a ∧ KL K a vs ∧ RDs C K W H xs vs
def RDs (C : Cfg) (K : PySem.W.Frag) (W : Wd) (H : Hp) : List D → List V → Prop
  | [], vs => vs = []
  | d :: ds, vs => ∃ v r, vs = v :: r ∧ RD C K W H d v ∧ RDs C K W H ds r
end
def ntb (o : HO) : Prop := ∀ ps, o ≠ .tbl ps
def MOk (C : Cfg) (K : PySem.W.Frag) (W : Wd) (H : Hp) (a : Addr) : MO → Prop
  | .lst xs => ∃ vs, H a = some (.lst vs) ∧ RDs C K W H xs vs ∧ D.lows 0 0 xs = true
  | .dK ks vs => ∃ kvs : List (Key × V), H a = some (.dK kvs) ∧ ks = kvs.map (fun p => keyD p.1) ∧ RDs C K W H vs (kvs.map (·.2)) ∧ D.lows 0 0 vs = true
  | .dT ks vs => ∃ kvs : List (List Key × V), H a = some (.dT kvs) ∧ ks = kvs.map (fun p => D.tup (p.1.map keyD)) ∧ RDs C K W H vs (kvs.map (·.2)) ∧ D.lows 0 0 vs = true
  | .ins c vs => ∃ dx ws, H a = some (.ins (C.ca c) dx ((C.cf c).zip ws)) ∧ ws.length ≤ (C.cf c).length ∧ RDs C K W H vs ws ∧ D.lows 0 0 vs = true
  | .dead => True
/-- the tables of code objects; their code objects are frozen -/
def Tbs (T : List NdefX.NTab) (W : Wd) (H : Hp) : Prop := NdefX.TabsN T H ∧ ∀ p ∈ T, ∀ ps, H p.1 = some (.tbl ps) → ∀ (pos : Pos) (c : Addr), codeAmong pos ps.toList = some (.ref c) → W.F c
/-- the objects that change stand where W says; what is frozen is none of them -/
structure StS (C : Cfg) (K : PySem.W.Frag) (W : Wd) (H : Hp) (s : S) : Prop where
  len : W.al.length = s.mo.length
  tln : W.ts.length = s.tg
  nod : W.al.Nodup
  mo : ∀ (i : Nat) (o : MO) (a : Addr), s.mo[i]? = some o → W.al[i]? = some a → MOk C K W H a o
  fz : ∀ a, W.F a → H a ≠ none ∧ (∀ o, H a = some o → ntb o) ∧ ∀ i : Nat, W.al[i]? = some a → s.mo[i]? = some .dead
  alh : ∀ a ∈ W.al, H a ≠ none
  tb : Tbs C.T W H
abbrev Env := List (Option D)
structure StE (C : Cfg) (K : PySem.W.Frag) (W : Wd) (H : Hp) (σ : L2.St) (env : Env) (s : S) : Prop where
  st : StS C K W H s
  sl : σ.length = env.length
  sv : ∀ (i : Nat) (d : D), env[i]? = some (some d) → ∃ v, σ[i]? = some (some v) ∧ RD C K W H d v
/-- from one state to a later one -/
structure Le (W : Wd) (H : Hp) (s : S) (W' : Wd) (H' : Hp) (s' : S) : Prop where
  fz : ∀ a, W.F a → W'.F a
  al : ∀ (i : Nat) (a : Addr), W.al[i]? = some a → W'.al[i]? = some a
  ts : ∀ (i : Nat) (v : V), W.ts[i]? = some v → W'.ts[i]? = some v
  ext : ∀ a o, H a = some o → ntb o → (∀ i : Nat, W.al[i]? = some a → s.mo[i]? = some .dead) → H' a = some o
  dom : ∀ a, H a ≠ none → H' a ≠ none
  ded : ∀ i : Nat, s.mo[i]? = some .dead → s'.mo[i]? = some .dead
  new : ∀ (i : Nat) (a : Addr), W.al.length ≤ i → W'.al[i]? = some a → H a = none
  nw : ∀ a, W'.F a → W.F a ∨ H a = none ∨ a ∈ W.al

section
variable {C : Cfg} {K : PySem.W.Frag} {W W' W'' : Wd} {H H' H'' : Hp} {s s' s'' : S}
theorem Le.refl : Le W H s W H s :=
  ⟨fun _ h => h, fun _ _ h => h, fun _ _ h => h, fun _ _ h _ _ => h, fun _ h => h, fun _ h => h, (fun i a hi h => by
    rw [List.getElem?_eq_none hi] at h
    cases h), fun _ h => .inl h⟩
theorem Le.wasNone (p : Le W H s W' H' s') {a : Addr} (h : H' a = none) : H a = none := by
  cases e : H a with
  | none => rfl
  | some o => exact absurd h (p.dom a (by rw [e]; exact fun z => nomatch z))
theorem Le.old (p : Le W H s W' H' s') {a : Addr} (h : a ∈ W'.al) : a ∈ W.al ∨ H a = none := by
  obtain ⟨i, hi, e⟩ := List.mem_iff_getElem.mp h
  have e1 : W'.al[i]? = some a := by rw [List.getElem?_eq_getElem hi, e]
  by_cases hl : i < W.al.length
  · have e2 := p.al i _ (List.getElem?_eq_getElem hl)
    rw [e1] at e2
    rw [Option.some.inj e2]
    exact .inl (List.getElem_mem hl)
  · exact .inr (p.new i a (Nat.le_of_not_lt hl) e1)
theorem Le.trans (p : Le W H s W' H' s') (q : Le W' H' s' W'' H'' s'') : Le W H s W'' H'' s'' := by
  refine ⟨fun a h => q.fz a (p.fz a h), fun i a h => q.al i a (p.al i a h), fun i a h => q.ts i a (p.ts i a h), fun a o h n l => ?_, fun a h => q.dom a (p.dom a h), fun i h => q.ded i (p.ded i h), fun i a hi h => ?_, fun a h => ?_⟩
  · refine q.ext a o (p.ext a o h n l) n fun i hi => ?_
    by_cases hl : i < W.al.length
    · have e : W.al[i]? = some W.al[i] := List.getElem?_eq_getElem hl
      have e2 := p.al i _ e
      rw [e2] at hi
      have e3 : W.al[i] = a := Option.some.inj hi
      rw [e3] at e
      exact p.ded i (l i e)
    · have z := p.new i a (Nat.le_of_not_lt hl) hi
      rw [z] at h
      cases h
  · by_cases hl : i < W'.al.length
    · have e : W'.al[i]? = some W'.al[i] := List.getElem?_eq_getElem hl
      have e2 := q.al i _ e
      rw [e2] at h
      have e3 : W'.al[i] = a := Option.some.inj h
      rw [e3] at e
      exact p.new i a hi e
    · exact p.wasNone (q.new i a (Nat.le_of_not_lt hl) h)
  · rcases q.nw a h with z | z | z
    · exact p.nw a z
    · exact .inr (.inl (p.wasNone z))
    · exact .inr ((p.old z).symm)
/-- a frozen object stays as it is -/
theorem Le.frozen (p : Le W H s W' H' s') (t : StS C K W H s) {a : Addr} {o : HO} (h : W.F a) (e : H a = some o) : H' a = some o := by
  obtain ⟨_, n, l⟩ := t.fz a h
  exact p.ext a o e (n o e) l
theorem Le.lf (p : Le W H s W' H' s') (t : StS C K W H s) : Lf W H W' H' := ⟨p.fz, p.al, p.ts, fun _ _ f e => p.frozen t f e⟩
theorem Le.rd (p : Le W H s W' H' s') (t : StS C K W H s) {a : Addr} {u : HO} (h : W.F a) (e : Rd H a u) : Rd H' a u := by
  rcases e with e | ⟨o, e⟩
  · exact .inl (p.frozen t h e)
  · exact .inr ⟨o, p.frozen t h e⟩
theorem DctAt.same {a : Addr} {ks : List D} {ws : List V} (h : DctAt H a ks ws) (e : ∀ o, H a = some o → H' a = some o) : DctAt H' a ks ws := by
  rcases h with ⟨kvs, q, r⟩ | ⟨kvs, q, r⟩
  · exact .inl ⟨kvs, e _ q, r⟩
  · exact .inr ⟨kvs, e _ q, r⟩
mutual
theorem RD.mono (p : Le W H s W' H' s') (t : StS C K W H s) : ∀ (d : D) (v : V), RD C K W H d v → RD C K W' H' d v
  | .non, _, q => q
  | .bl _, _, q => q
  | .int _, _, q => q
  | .str _, _, q => q
  | .lst xs, v, q => by
    obtain ⟨a, vs, e, f, l, r⟩ := q
    exact ⟨a, vs, e, p.fz a f, p.frozen t f l, RDs.mono p t xs vs r⟩
  | .tup xs, v, q => by
    obtain ⟨a, vs, e, f, l, r⟩ := q
    exact ⟨a, vs, e, p.fz a f, p.frozen t f l, RDs.mono p t xs vs r⟩
  | .scr ns, v, q => by
    obtain ⟨a, e, f, l⟩ := q
    exact ⟨a, e, p.fz a f, p.rd t f l⟩
  | .kl xs, v, q => by
    obtain ⟨a, vs, e, l, r⟩ := q
    exact ⟨a, vs, e, l, RDs.mono p t xs vs r⟩
  | .dct ks vs, v, q => by
    obtain ⟨a, ws, e, f, l, r⟩ := q
    exact ⟨a, ws, e, p.fz a f, l.same fun o z => p.frozen t f z, RDs.mono p t vs ws r⟩
  | .ref i, v, q => by
    obtain ⟨a, l, e⟩ := q
    exact ⟨a, p.al i a l, e⟩
  | .inst c vs, v, q => by
    obtain ⟨a, dx, ws, e, f, l, n, r⟩ := q
    exact ⟨a, dx, ws, e, p.fz a f, p.frozen t f l, n, RDs.mono p t vs ws r⟩
  | .fn i, v, q => by
    obtain ⟨a, e, r⟩ := q
    exact ⟨a, e, C.fa.st i a _ _ _ _ p.fz (fun b o f e => p.frozen t f e) r⟩
  | .tag i d, v, q => ⟨p.ts i v q.1, RD.mono p t d v q.2⟩
  | .exn c vs, v, q => by
    obtain ⟨a, dx, ws, e, f, l, l2, n, r⟩ := q
    exact ⟨a, dx, ws, e, p.fz a f, p.frozen t f l, l2.mono p.fz (fun b o f e => p.frozen t f e), n, RDs.mono p t vs ws r⟩
  | .lam i caps, v, q => by
    obtain ⟨e, a, e2, r⟩ := q
    exact ⟨e, a, e2, C.lr.st i a _ _ _ _ (p.lf t) r⟩
theorem RDs.mono (p : Le W H s W' H' s') (t : StS C K W H s) : ∀ (ds : List D) (vs : List V), RDs C K W H ds vs → RDs C K W' H' ds vs
  | [], _, q => q
  | d :: ds, vs, q => by
    obtain ⟨v, r, e, h1, h2⟩ := q
    exact ⟨v, r, e, RD.mono p t d v h1, RDs.mono p t ds r h2⟩
end
theorem RDs.length : ∀ {ds : List D} {vs : List V}, RDs C K W H ds vs → ds.length = vs.length
  | [], vs, q => by
    have e : vs = [] := q
    rw [e]
    rfl
  | d :: ds, vs, q => by
    obtain ⟨v, r, e, _, h2⟩ := q
    rw [e, List.length_cons, List.length_cons, RDs.length h2]
theorem RDs.get : ∀ {ds : List D} {vs : List V} {i : Nat} {d : D}, RDs C K W H ds vs → ds[i]? = some d → ∃ v, vs[i]? = some v ∧ RD C K W H d v
  | [], _, _, _, _, h => by simp at h
  | d :: ds, vs, 0, d', q, h => by
    obtain ⟨v, r, e, h1, _⟩ := q
    have e2 : d = d' := by simpa using h
    subst e2
    exact ⟨v, by rw [e]; rfl, h1⟩
  | d :: ds, vs, i + 1, d', q, h => by
    obtain ⟨v, r, e, _, h2⟩ := q
    obtain ⟨w, g1, g2⟩ := RDs.get (i := i) h2 (by simpa using h)
    exact ⟨w, by rw [e]; simpa using g1, g2⟩
theorem RDs.append : ∀ {ds es : List D} {vs ws : List V}, RDs C K W H ds vs → RDs C K W H es ws → RDs C K W H (ds ++ es) (vs ++ ws)
  | [], es, vs, ws, q, h => by
    have e : vs = [] := q
    rw [e]
    exact h
  | d :: ds, es, vs, ws, q, h => by
    obtain ⟨v, r, e, h1, h2⟩ := q
    rw [e]
    exact ⟨v, r ++ ws, rfl, h1, RDs.append h2 h⟩
theorem RD.strip : ∀ {d : D} {v : V}, RD C K W H d v → RD C K W H d.strip v
  | .tag i d, v, q => RD.strip (d := d) q.2
  | .non, _, q => q
  | .bl _, _, q => q
  | .int _, _, q => q
  | .str _, _, q => q
  | .lst _, _, q => q
  | .tup _, _, q => q
  | .dct _ _, _, q => q
  | .ref _, _, q => q
  | .inst _ _, _, q => q
  | .fn _, _, q => q
  | .exn _ _, _, q => q
  | .lam _ _, _, q => q
  | .scr _, _, q => q
  | .kl _, _, q => q
end
/-! ### tables of code objects -/
def plainO (o : HO) : Prop := (∀ ps, o ≠ .tbl ps) ∧ ∀ φ, o ≠ .ext φ
def plainAt (H : Hp) (p : Addr) : Prop := ∀ o, H p = some o → plainO o
theorem plainAt.none {H : Hp} {p : Addr} (h : H p = Option.none) : plainAt H p := fun o e => by rw [h] at e; cases e
theorem plainAt.of {H : Hp} {p : Addr} {o : HO} (h : H p = some o) (q : plainO o) : plainAt H p := fun o' e => by rw [h] at e; cases e; exact q
theorem plain_lst {xs : List V} : plainO (.lst xs) := ⟨(fun _ z => nomatch z), (fun _ z => nomatch z)⟩
theorem plain_dK {xs : List (Key × V)} : plainO (.dK xs) := ⟨(fun _ z => nomatch z), (fun _ z => nomatch z)⟩
theorem plain_dT {xs : List (List Key × V)} : plainO (.dT xs) := ⟨(fun _ z => nomatch z), (fun _ z => nomatch z)⟩
theorem plain_ins {c d : Addr} {fs : List (Str × V)} : plainO (.ins c d fs) := ⟨(fun _ z => nomatch z), (fun _ z => nomatch z)⟩
theorem tabs_keep {T : List NdefX.NTab} {H H' : Hp} (t : NdefX.TabsN T H) (h : ∀ a o, H a = some o → ¬ plainO o → H' a = some o) : NdefX.TabsN T H' := fun p hp => by
  obtain ⟨ps, h1, h2, h3⟩ := t p hp
  refine ⟨ps, h _ _ h1 (fun z => z.1 ps rfl), h2, fun pos cv hc => ?_⟩
  obtain ⟨c, e1, e2⟩ := h3 pos cv hc
  refine ⟨c, e1, h _ _ e2 fun z => ?_⟩
  unfold LamX.CodeO at z
  exact z.2 _ rfl
theorem tbs_at {T : List NdefX.NTab} {W W' : Wd} {H H' : Hp} (t : Tbs T W H) (h : ∀ a o, H a = some o → ¬ plainO o → H' a = some o) (hF : ∀ a, W.F a → W'.F a) : Tbs T W' H' := ⟨tabs_keep t.1 h, fun p hp ps e pos c hc => by
  obtain ⟨qs, h1, _⟩ := t.1 p hp
  have h2 := h _ _ h1 fun z => z.1 qs rfl
  rw [e] at h2
  cases h2
  exact hF c (t.2 p hp _ h1 pos c hc)⟩
theorem tabs_upd {T : List NdefX.NTab} {W W' : Wd} {H : Hp} {p : Addr} {o : HO} (t : Tbs T W H) (hp : plainAt H p) (hF : ∀ a, W.F a → W'.F a := by exact fun _ h => h) : Tbs T W' (L2.upd H p o) := tbs_at t (fun a u e n => by
  have ne : a ≠ p := fun z => n (hp u (by rw [← z]; exact e))
  rw [upd_ne ne]
  exact e) hF
theorem tbs_mono {T : List NdefX.NTab} {W W' : Wd} {H : Hp} (t : Tbs T W H) (hF : ∀ a, W.F a → W'.F a) : Tbs T W' H := tbs_at t (fun _ _ h _ => h) hF
end DV
end
section
set_option Elab.async false
set_option linter.all false
set_option maxRecDepth 100000
/-! DB: the judgements over data, their plumbing, expressions. -/
namespace DV
open PySem PySem.Spec PyProof.Rows L2

/-! ### results -/
inductive Out (α : Type) where
  | ok (a : α) (s : S) | exc (c : Nat) (vs : List D) (s : S) | stuck
def Out.bind {α β : Type} : Out α → (α → S → Out β) → Out β
  | .ok a s, f => f a s
  | .exc c vs s, _ => .exc c vs s
  | .stuck, _ => .stuck
def Out.of {α : Type} (o : Option α) (s : S) : Out α := match o with
  | some a => .ok a s
  | none => .stuck
abbrev Ex := Env → S → Out D
abbrev Tx := Env → S → Out Bool
abbrev Ax := Env → S → Out (List D)

/-- what a result wants of what comes -/
def Res {α β : Type} (C : Cfg) (K : PySem.W.Frag) (R : Wd → Hp → α → β → Prop) (Wx : WX) (σ : L2.St) (env : Env) (W : Wd) (H : Hp) (s : S) (o : Out α) (Q : β → Hp → Prop) : Prop :=
  match o with
  | .ok a s' => ∀ W' H' b, Le W H s W' H' s' → StE C K W' H' σ env s' → R W' H' a b → Q b H'
  | .exc c vs s' => ∀ W' H' dd ws, Le W H s W' H' s' → StE C K W' H' σ env s' → W'.F dd → H' dd = some (.xd ((C.cf c).zip ws)) → (C.cf c).length = ws.length → RDs C K W' H' vs ws → Wx (.ref (C.ca c)) (some dd) σ H'
  | .stuck => False
section
variable {C : Cfg} {K : PySem.W.Frag} {Wx : WX} {σ : L2.St} {env : Env} {W W' : Wd} {H H' : Hp} {s s' : S} {α β γ δ : Type} {R : Wd → Hp → α → β → Prop} {R' : Wd → Hp → γ → δ → Prop}
theorem Res.later {o : Out α} {Q : β → Hp → Prop} (h : Res C K R Wx σ env W H s o Q) (l : Le W H s W' H' s') : Res C K R Wx σ env W' H' s' o Q := by
  cases o with
  | ok a s2 => exact fun W2 H2 b q e r => h W2 H2 b (l.trans q) e r
  | exc c vs s2 => exact fun W2 H2 dd ws q e f g n r => h W2 H2 dd ws (l.trans q) e f g n r
  | stuck => exact h
theorem Res.step {o : Out α} {k : α → S → Out γ} {Q : δ → Hp → Prop} {Q1 : β → Hp → Prop} (h : Res C K R' Wx σ env W H s (o.bind k) Q)
    (f : ∀ W1 H1 s1 a b, Le W H s W1 H1 s1 → StE C K W1 H1 σ env s1 → R W1 H1 a b → Res C K R' Wx σ env W1 H1 s1 (k a s1) Q → Q1 b H1) : Res C K R Wx σ env W H s o Q1 := by
  cases o with
  | ok a s2 => exact fun W2 H2 b q e r => f W2 H2 s2 a b q e r (Res.later h q)
  | exc c vs s2 => exact h
  | stuck => exact h
theorem Res.imp {o : Out α} {Q Q' : β → Hp → Prop} (h : Res C K R Wx σ env W H s o Q) (f : ∀ b H', Q b H' → Q' b H') : Res C K R Wx σ env W H s o Q' := by
  cases o with
  | ok a s2 => exact fun W2 H2 b q e r => f _ _ (h W2 H2 b q e r)
  | exc c vs s2 => exact h
  | stuck => exact h
theorem Res.here {a : α} {b : β} {Q : β → Hp → Prop} (h : Res C K R Wx σ env W H s (.ok a s) Q) (e : StE C K W H σ env s) (r : R W H a b) : Q b H := h W H b Le.refl e r
end
/-- the state grows or changes: the frame's values stay -/
theorem StE.later {C : Cfg} {K : PySem.W.Frag} {σ : L2.St} {env : Env} {W W' : Wd} {H H' : Hp} {s s' : S} (e : StE C K W H σ env s) (l : Le W H s W' H' s') (t : StS C K W' H' s') : StE C K W' H' σ env s' :=
  ⟨t, e.sl, fun i d h => let ⟨v, a, b⟩ := e.sv i d h; ⟨v, a, b.mono l e.st⟩⟩

/-! ### readings of data -/
def rB : Wd → Hp → Bool → Bool → Prop := fun _ _ a b => a = b
def tD (C : Cfg) (K : PySem.W.Frag) (Wx : WX) (f : Ex) : TE := fun σ H Q => ∃ W env s, StE C K W H σ env s ∧ Res C K (fun W H => RD C K W H) Wx σ env W H s (f env s) Q
def tT (C : Cfg) (K : PySem.W.Frag) (Wx : WX) (f : Tx) : TT := fun σ H Q => ∃ W env s, StE C K W H σ env s ∧ Res C K rB Wx σ env W H s (f env s) Q
def tAx (C : Cfg) (K : PySem.W.Frag) (Wx : WX) (f : Ax) : TA := fun σ H Q => ∃ W env s, StE C K W H σ env s ∧ Res C K (fun W H => RDs C K W H) Wx σ env W H s (f env s) Q
def DE (C : Cfg) (X : Cx) (Wx : WX) (e : Expr) (f : Ex) : Prop := PE X e (tD C X.K Wx f)
def DT (C : Cfg) (X : Cx) (Wx : WX) (e : Expr) (f : Tx) : Prop := PT X e (tT C X.K Wx f)
def DW (C : Cfg) (X : Cx) (Wx : WX) (e : Expr) (f : Tx) : Prop := PW X e (tT C X.K Wx f)
def DA (C : Cfg) (X : Cx) (Wx : WX) (es : List Expr) (f : Ax) : Prop := PA X es (tAx C X.K Wx f)
theorem PE.imp {X : Cx} {e : Expr} {t t' : TE} (h : PE X e t) (f : ∀ σ H Q, t' σ H Q → t σ H Q) : PE X e t' := ⟨fun pins s σ H Q I q => h.run pins s σ H Q I (f _ _ _ q)⟩
theorem PT.imp {X : Cx} {e : Expr} {t t' : TT} (h : PT X e t) (f : ∀ σ H Q, t' σ H Q → t σ H Q) : PT X e t' := ⟨fun pins s σ H Q I q => h.run pins s σ H Q I (f _ _ _ q)⟩
theorem PW.imp {X : Cx} {e : Expr} {t t' : TT} (h : PW X e t) (f : ∀ σ H Q, t' σ H Q → t σ H Q) : PW X e t' := ⟨fun wh pins s σ H Q I q => h.run wh pins s σ H Q I (f _ _ _ q)⟩
theorem PA.imp {X : Cx} {e : List Expr} {t t' : TA} (h : PA X e t) (f : ∀ σ H Q, t' σ H Q → t σ H Q) : PA X e t' := ⟨fun pos pins s σ H Q I q => h.run pos pins s σ H Q I (f _ _ _ q)⟩
theorem DW.dt {C : Cfg} {X : Cx} {Wx : WX} {e : Expr} {f : Tx} (h : DW C X Wx e f) : DT C X Wx e f := PW.pt h

/-! ### combinators -/
def xVar (i : Nat) : Ex := fun e s => match e[i]? with
  | some (some d) => .ok d s
  | _ => .stuck
def xC (d : D) : Ex := fun _ s => .ok d s
def xBin (g : S → D → D → Option D) (a b : Ex) : Ex := fun e s => (a e s).bind fun x s => (b e s).bind fun y s => Out.of (g s x y) s
def xUn (g : S → D → Option D) (a : Ex) : Ex := fun e s => (a e s).bind fun x s => Out.of (g s x) s
def xIf (t : Tx) (a b : Ex) : Ex := fun e s => (t e s).bind fun c s => if c = true then a e s else b e s
def xAnd (a b : Ex) : Ex := fun e s => (a e s).bind fun x s => match x.strip with
  | .bl true => b e s
  | .bl false => .ok (.bl false) s
  | _ => .stuck
def xOr (a b : Ex) : Ex := fun e s => (a e s).bind fun x s => match x.strip with
  | .bl true => .ok (.bl true) s
  | .bl false => b e s
  | _ => .stuck
def xNot (a : Ex) : Ex := fun e s => (a e s).bind fun x s => match x.strip with
  | .bl b => .ok (.bl (!b)) s
  | _ => .stuck
def aNil : Ax := fun _ s => .ok [] s
def aCons (a : Ex) (r : Ax) : Ax := fun e s => (a e s).bind fun x s => (r e s).bind fun xs s => .ok (x :: xs) s
def xLst (a : Ax) : Ex := fun e s => (a e s).bind fun xs s => if xs.length ≤ sizeLine then .ok (.lst xs) s else .stuck
def xTup (a : Ax) : Ex := fun e s => (a e s).bind fun xs s => if xs.length ≤ sizeLine then .ok (.tup xs) s else .stuck
def xCall (g : S → List D → Out D) (a : Ax) : Ex := fun e s => (a e s).bind fun xs s => g s xs
def xBl (t : Tx) : Ex := fun e s => (t e s).bind fun b s => .ok (.bl b) s
def tVal (a : Ex) : Tx := fun e s => (a e s).bind fun x s => match x.strip with
  | .bl b => .ok b s
  | _ => .stuck
def tNot (t : Tx) : Tx := fun e s => (t e s).bind fun b s => .ok (!b) s
def tAnd (t u : Tx) : Tx := fun e s => (t e s).bind fun b s => if b = true then u e s else .ok false s
def tOr (t u : Tx) : Tx := fun e s => (t e s).bind fun b s => if b = true then .ok true s else u e s

section
variable {C : Cfg} {X : Cx} {Wx : WX} {a b c : Expr} {fa fb fc : Ex} {pos : Pos} {rest : List Expr} {ft fu : Tx}
theorem de_var {i : Nat} {x : Str} (hN : X.N[i]? = some x) (hv : Vis X.env.scope x) (hd : (x == ("__debug__" : Str)) = false := by decide) (hcd : (x == ("__classdict__" : Str)) = false := by decide) : DE C X Wx (.Name x pos) (xVar i) := by
  refine PE.imp (pe_var hN hv hd hcd) fun σ H Q h => ?_
  obtain ⟨W, env, s, e, q⟩ := h
  unfold xVar at q
  split at q
  · rename_i d hd
    obtain ⟨v, h1, h2⟩ := e.sv i d hd
    exact ⟨v, h1, q.here e h2⟩
  · exact q.elim
theorem tD_c {d : D} {v : V} (r : ∀ W H, RD C X.K W H d v) : ∀ σ H Q, tD C X.K Wx (xC d) σ H Q → tC v σ H Q := fun σ H Q h => by
  obtain ⟨W, env, s, e, q⟩ := h
  exact Res.here (a := d) (b := v) q e (r W H)
theorem de_int {i : Int} {j : Nat} : DE C X Wx (.Constant (.int i) j pos) (xC (.int i)) := PE.imp pe_int (tD_c fun _ _ => rfl)
theorem de_bl {b : Bool} {j : Nat} : DE C X Wx (.Constant (.bool b) j pos) (xC (.bl b)) := PE.imp pe_bl (tD_c fun _ _ => rfl)
theorem de_non {j : Nat} : DE C X Wx (.Constant .none j pos) (xC .non) := PE.imp pe_non (tD_c fun _ _ => rfl)
theorem de_str {x : Str} {j : Nat} : DE C X Wx (.Constant (.str x) j pos) (xC (.str x)) := PE.imp pe_str (tD_c fun _ _ => rfl)
/-- a constant of the module, a class, a def, as a value -/
theorem de_glob {x : Str} {v : V} {u : Value} {d : D} (hg : Gl X x) (hm : X.mg x = some u) (r : RelV v u) (hr : ∀ W H, RD C X.K W H d v) (hd : (x == ("__debug__" : Str)) = false := by decide) : DE C X Wx (.Name x pos) (xC d) :=
  PE.imp (pe_glob hg hm r hd) (tD_c hr)

/-- an operation by its data -/
def r2 (C : Cfg) (K : PySem.W.Frag) (g : S → D → D → Option D) : R2 := fun x y H Q => ∃ W s d e, StS C K W H s ∧ RD C K W H d x ∧ RD C K W H e y ∧ match g s d e with
  | some z => ∀ W' H' v, Le W H s W' H' s → StS C K W' H' s → RD C K W' H' z v → Q v H'
  | none => False
def r1 (C : Cfg) (K : PySem.W.Frag) (g : S → D → Option D) : V → Hp → VK → Prop := fun x H Q => ∃ W s d, StS C K W H s ∧ RD C K W H d x ∧ match g s d with
  | some z => ∀ W' H' v, Le W H s W' H' s → StS C K W' H' s → RD C K W' H' z v → Q v H'
  | none => False
theorem tD_bin {g : S → D → D → Option D} {K : PySem.W.Frag} : ∀ σ H Q, tD C K Wx (xBin g fa fb) σ H Q → tOp (r2 C K g) (tD C K Wx fa) (tD C K Wx fb) σ H Q := fun σ H Q h => by
  obtain ⟨W, env, s, e, q⟩ := h
  refine ⟨W, env, s, e, Res.step q fun W1 H1 s1 d x l1 e1 h1 q1 => ⟨W1, env, s1, e1, Res.step q1 fun W2 H2 s2 d2 y l2 e2 h2 q2 => ⟨W2, s2, d, d2, e2.st, h1.mono l2 e1.st, h2, ?_⟩⟩⟩
  revert q2
  unfold Out.of
  cases g s2 d d2 with
  | none => exact fun q => q
  | some z => exact fun q W3 H3 v l3 t3 r3 => q W3 H3 v l3 (e2.later l3 t3) r3
theorem de_bin {op : Operator} {g : S → D → D → Option D} (ho : OpR X (binaryOp op) (r2 C X.K g)) (ha : DE C X Wx a fa) (hb : DE C X Wx b fb) : DE C X Wx (.BinOp a op b pos) (xBin g fa fb) := PE.imp (pe_op ho ha hb) tD_bin
theorem tD_un {g : S → D → Option D} {K : PySem.W.Frag} : ∀ σ H Q, tD C K Wx (xUn g fa) σ H Q → tUn (r1 C K g) (tD C K Wx fa) σ H Q := fun σ H Q h => by
  obtain ⟨W, env, s, e, q⟩ := h
  refine ⟨W, env, s, e, Res.step q fun W1 H1 s1 d x l1 e1 h1 q1 => ⟨W1, s1, d, e1.st, h1, ?_⟩⟩
  revert q1
  unfold Out.of
  cases g s1 d with
  | none => exact fun q => q
  | some z => exact fun q W3 H3 v l3 t3 r3 => q W3 H3 v l3 (e1.later l3 t3) r3
theorem de_un {op : UnaryOp} {g : S → D → Option D} (ho : UnR X (unaryOp op) (r1 C X.K g)) (ha : DE C X Wx a fa) : DE C X Wx (.UnaryOp op a pos) (xUn g fa) := PE.imp (pe_un ho ha) tD_un
theorem de_cmp {op : CmpOp} {g : S → D → D → Option D} (ho : OpR X (compareOp op) (r2 C X.K g)) (ha : DE C X Wx a fa) (hb : DE C X Wx b fb) (hm : behindInMarks op b = false) : DE C X Wx (.Compare a [op] [b] pos) (xBin g fa fb) :=
  PE.imp (pe_cmpR ho ha hb hm) tD_bin
/-- a value that is a bool, as a test -/
theorem tT_val {K : PySem.W.Frag} : ∀ σ H Q, tT C K Wx (tVal fa) σ H Q → tTest (tD C K Wx fa) σ H Q := fun σ H Q h => by
  obtain ⟨W, env, s, e, q⟩ := h
  refine ⟨W, env, s, e, Res.step q fun W1 H1 s1 d x l1 e1 h1 q1 => ?_⟩
  have h2 := h1.strip
  revert q1
  split
  · rename_i b hb
    intro q1
    rw [hb] at h2
    exact ⟨b, h2, q1.here e1 rfl⟩
  · exact fun q => q.elim
theorem dt_cmp {op : CmpOp} {g : S → D → D → Option D} (ho : OpR X (compareOp op) (r2 C X.K g)) (ha : DE C X Wx a fa) (hb : DE C X Wx b fb) (hm : behindInMarks op b = false) : DT C X Wx (.Compare a [op] [b] pos) (tVal (xBin g fa fb)) :=
  PT.imp (pt_cmpR ho ha hb hm) fun σ H Q h => by
    obtain ⟨x, h1⟩ := tT_val σ H Q h
    exact tD_bin σ H _ ⟨x, h1⟩
/-- a op b op c -/
def xChain (g g' : S → D → D → Option D) (a b c : Ex) : Ex := fun e s => (a e s).bind fun x s => (b e s).bind fun y s => (Out.of (g s x y) s).bind fun z s => match z.strip with
  | .bl true => (c e s).bind fun w s => Out.of (g' s y w) s
  | .bl false => .ok (.bl false) s
  | _ => .stuck
theorem tD_chain {g g' : S → D → D → Option D} {K : PySem.W.Frag} : ∀ σ H Q, tD C K Wx (xChain g g' fa fb fc) σ H Q → tChain (r2 C K g) (r2 C K g') (tD C K Wx fa) (tD C K Wx fb) (tD C K Wx fc) σ H Q := fun σ H Q h => by
  obtain ⟨W, env, s, e, q⟩ := h
  refine ⟨W, env, s, e, Res.step q fun W1 H1 s1 d x l1 e1 h1 q1 => ⟨W1, env, s1, e1, Res.step q1 fun W2 H2 s2 d2 y l2 e2 h2 q2 => ⟨W2, s2, d, d2, e2.st, h1.mono l2 e1.st, h2, ?_⟩⟩⟩
  revert q2
  unfold Out.of
  cases hg : g s2 d d2 with
  | none => exact fun q => q
  | some z =>
    intro q W3 H3 v l3 t3 r3
    have e3 := e2.later l3 t3
    have r4 := r3.strip
    have q3 := Res.later q l3
    revert q3
    show Res _ _ _ _ _ _ _ _ _ (match z.strip with
      | .bl true => _
      | .bl false => _
      | _ => _) _ → _
    split
    · rename_i hz
      rw [hz] at r4
      intro q3
      refine ⟨true, r4, ?_⟩
      rw [if_pos rfl]
      refine ⟨W3, env, s2, e3, Res.step q3 fun W4 H4 s4 d4 w l4 e4 h4 q4 => ⟨W4, s4, d2, d4, e4.st, (h2.mono l3 e2.st).mono l4 e3.st, h4, ?_⟩⟩
      revert q4
      cases g' s4 d2 d4 with
      | none => exact fun q => q
      | some z' => exact fun q W5 H5 v l5 t5 r5 => q W5 H5 v l5 (e4.later l5 t5) r5
    · rename_i hz
      rw [hz] at r4
      intro q3
      refine ⟨false, r4, ?_⟩
      rw [if_neg Bool.false_ne_true]
      exact Res.here (b := V.bl false) q3 e3 rfl
    · exact fun q => q.elim
theorem de_chain {op op' : CmpOp} {g g' : S → D → D → Option D} (ho : OpR X (compareOp op) (r2 C X.K g)) (ho' : OpR X (compareOp op') (r2 C X.K g')) (ha : DE C X Wx a fa) (hb : DE C X Wx b fb) (hc : DE C X Wx c fc)
    (hm : lastMarks [op, op'] [b, c] = false := by with_unfolding_all rfl) : DE C X Wx (.Compare a [op, op'] [b, c] pos) (xChain g g' fa fb fc) := PE.imp (pe_chain ho ho' ha hb hc hm) tD_chain
theorem dt_chain {op op' : CmpOp} {g g' : S → D → D → Option D} (ho : OpR X (compareOp op) (r2 C X.K g)) (ho' : OpR X (compareOp op') (r2 C X.K g')) (ha : DE C X Wx a fa) (hb : DE C X Wx b fb) (hc : DE C X Wx c fc)
    (hm : lastMarks [op, op'] [b, c] = false := by with_unfolding_all rfl) : DT C X Wx (.Compare a [op, op'] [b, c] pos) (tVal (xChain g g' fa fb fc)) :=
  PT.imp (pt_chain ho ho' ha hb hc hm) fun σ H Q h => by
    obtain ⟨x, h1⟩ := tT_val σ H Q h
    exact tD_chain σ H _ ⟨x, h1⟩

/-! ### tests -/
theorem dt_val (h : DE C X Wx a fa) (he : ∀ whole, isTrue a X.env whole = (do let v ← whole; standAt a.pos; holding [v] (truthy v)) := by intro _; rfl) : DT C X Wx a (tVal fa) :=
  PT.imp (pt_val h he) tT_val
/-- truth of any value -/
def D.tru : D → Option Bool
  | .non => some false
  | .bl b => some b
  | .int i => some (i != 0)
  | .str x => if x.length ≤ sizeLine then some ((x.length : Int) != 0) else none
  | .lst xs => some (!xs.isEmpty)
  | .tup xs => some (!xs.isEmpty)
  | _ => none
/-- what an object that changes holds now -/
def view (s : S) (d : D) : D := match d.strip with
  | .ref i => (match s.mo[i]? with
    | some (.lst xs) => .lst xs
    | some (.dK ks vs) => .dct ks vs
    | some (.dT ks vs) => .dct ks vs
    | some (.ins c vs) => .inst c vs
    | _ => .ref i)
  | d => d
/-- a value as it is seen -/
def See (C : Cfg) (K : PySem.W.Frag) (W : Wd) (H : Hp) : D → V → Prop
  | .lst xs, v => ∃ a vs, v = .ref a ∧ H a = some (.lst vs) ∧ RDs C K W H xs vs
  | .tup xs, v => ∃ a vs, v = .ref a ∧ H a = some (.tup vs) ∧ RDs C K W H xs vs
  | .dct ks vs, v => ∃ a ws, v = .ref a ∧ DctL H a ks ws ∧ RDs C K W H vs ws
  | .inst c vs, v => ∃ a dx ws, v = .ref a ∧ H a = some (.ins (C.ca c) dx ((C.cf c).zip ws)) ∧ ws.length ≤ (C.cf c).length ∧ RDs C K W H vs ws
  | d, v => RD C K W H d v
theorem see_strip {C : Cfg} {K : PySem.W.Frag} {W : Wd} {H : Hp} : ∀ {d : D} {v : V}, RD C K W H d v → d.strip = d → See C K W H d v
  | .non, _, q, _ => q
  | .bl _, _, q, _ => q
  | .int _, _, q, _ => q
  | .str _, _, q, _ => q
  | .lst xs, v, q, _ => by
    obtain ⟨a, vs, e, _, l, r⟩ := q
    exact ⟨a, vs, e, l, r⟩
  | .tup xs, v, q, _ => by
    obtain ⟨a, vs, e, _, l, r⟩ := q
    exact ⟨a, vs, e, l, r⟩
  | .dct _ _, _, q, _ => by
    obtain ⟨a, ws, e, _, l, r⟩ := q
    exact ⟨a, ws, e, l.l, r⟩
  | .ref _, _, q, _ => q
  | .inst _ _, _, q, _ => by
    obtain ⟨a, dx, ws, e, _, l, n, r⟩ := q
    exact ⟨a, dx, ws, e, l, Nat.le_of_eq n.symm, r⟩
  | .fn _, _, q, _ => q
  | .tag i d, v, q, e => q
  | .exn _ _, _, q, _ => q
  | .lam _ _, _, q, _ => q
  | .scr _, _, q, _ => q
  | .kl _, _, q, _ => q
theorem strip_strip : ∀ d : D, d.strip.strip = d.strip
  | .tag i d => strip_strip d
  | .non => rfl
  | .bl _ => rfl
  | .int _ => rfl
  | .str _ => rfl
  | .lst _ => rfl
  | .tup _ => rfl
  | .dct _ _ => rfl
  | .ref _ => rfl
  | .inst _ _ => rfl
  | .fn _ => rfl
  | .exn _ _ => rfl
  | .lam _ _ => rfl
  | .scr _ => rfl
  | .kl _ => rfl
theorem see_of {C : Cfg} {K : PySem.W.Frag} {W : Wd} {H : Hp} {s : S} (t : StS C K W H s) {d : D} {v : V} (r : RD C K W H d v) : See C K W H (view s d) v := by
  have r2 := r.strip
  have e := strip_strip d
  unfold view
  generalize d.strip = d0 at r2 e
  split
  · rename_i i
    obtain ⟨a, h1, h2⟩ := id r2
    split
    · rename_i xs hx
      obtain ⟨vs, g1, g2, _⟩ := t.mo i _ a hx h1
      exact ⟨a, vs, h2, g1, g2⟩
    · rename_i ks vs hx
      obtain ⟨kvs, g1, g2, g3, _⟩ := t.mo i _ a hx h1
      exact ⟨a, _, h2, .inl ⟨kvs, g1, g2, rfl⟩, g3⟩
    · rename_i ks vs hx
      obtain ⟨kvs, g1, g2, g3, _⟩ := t.mo i _ a hx h1
      exact ⟨a, _, h2, .inr ⟨kvs, g1, g2, rfl⟩, g3⟩
    · rename_i c vs hx
      obtain ⟨dx, ws, g1, g2, g3, _⟩ := t.mo i _ a hx h1
      exact ⟨a, dx, ws, h2, g1, g2, g3⟩
    · exact r2
  · exact see_strip r2 e
theorem RDs.isEmpty {C : Cfg} {K : PySem.W.Frag} {W : Wd} {H : Hp} : ∀ {ds : List D} {vs : List V}, RDs C K W H ds vs → vs.isEmpty = ds.isEmpty
  | [], vs, q => by
    have e : vs = [] := q
    rw [e]
    rfl
  | d :: ds, vs, q => by
    obtain ⟨v, r, e, _, _⟩ := q
    rw [e]
    rfl
/-- the truth of any value, as a test -/
def tTru (a : Ex) : Tx := fun e s => (a e s).bind fun x s => Out.of (view s x).tru s
theorem tru_of {K : PySem.W.Frag} {W : Wd} {H : Hp} {d : D} {v : V} {k : Bool} (r : See C K W H d v) (h : d.tru = some k) : TruV K v H k := by
  cases d with
  | non =>
    have e : v = .non := r
    subst e
    exact (Option.some.inj h).symm
  | bl b =>
    have e : v = .bl b := r
    subst e
    exact (Option.some.inj h).symm
  | int i =>
    have e : v = .int i := r
    subst e
    exact (Option.some.inj h).symm
  | str x =>
    have e : v = .str x := r
    subst e
    have h' : (if x.length ≤ sizeLine then some ((x.length : Int) != 0) else none) = some k := h
    split at h'
    · rename_i hx
      exact ⟨hx, (Option.some.inj h').symm⟩
    · cases h'
  | lst xs =>
    obtain ⟨a, vs, e, l, q⟩ := r
    subst e
    refine .inl ⟨vs, SqL.of l, ?_⟩
    rw [q.isEmpty]
    exact (Option.some.inj h).symm
  | tup xs =>
    obtain ⟨a, vs, e, l, q⟩ := r
    subst e
    refine .inr (.inl ⟨vs, SqT.of l, ?_⟩)
    rw [q.isEmpty]
    exact (Option.some.inj h).symm
  | _ => cases h
theorem dt_tru (h : DE C X Wx a fa) (he : ∀ whole, isTrue a X.env whole = (do let v ← whole; standAt a.pos; holding [v] (truthy v)) := by intro _; rfl) : DT C X Wx a (tTru fa) :=
  PT.imp (pt_truth h he) fun σ H Q h => by
    obtain ⟨W, env, s, e, q⟩ := h
    refine ⟨W, env, s, e, Res.step q fun W1 H1 s1 d x l1 e1 h1 q1 => ?_⟩
    revert q1
    unfold Out.of
    cases hk : (view s1 d).tru with
    | none => exact fun q => q.elim
    | some k => exact fun q => ⟨k, tru_of (see_of e1.st h1) hk, q.here e1 rfl⟩
theorem tT_not {K : PySem.W.Frag} : ∀ σ H Q, tT C K Wx (tNot ft) σ H Q → L2.tNot (tT C K Wx ft) σ H Q := fun σ H Q h => by
  obtain ⟨W, env, s, e, q⟩ := h
  refine ⟨W, env, s, e, Res.step q fun W1 H1 s1 d x l1 e1 h1 q1 => ?_⟩
  have h2 : d = x := h1
  subst h2
  exact q1.here e1 rfl
theorem dt_not (h : DT C X Wx a ft) : DT C X Wx (.UnaryOp .Not a pos) (tNot ft) := PT.imp (pt_not h) tT_not
theorem dw_and1 (ha : DT C X Wx a ft) : DW C X Wx (.BoolOp .And [a] pos) ft := pw_and1 ha
theorem dw_or1 (ha : DT C X Wx a ft) : DW C X Wx (.BoolOp .Or [a] pos) ft := pw_or1 ha
theorem dw_and (ha : DT C X Wx a ft) (hb : DW C X Wx (.BoolOp .And (b :: rest) pos) fu) : DW C X Wx (.BoolOp .And (a :: b :: rest) pos) (tAnd ft fu) :=
  PW.imp (pw_and ha hb) fun σ H Q h => by
    obtain ⟨W, env, s, e, q⟩ := h
    refine ⟨W, env, s, e, Res.step q fun W1 H1 s1 d x l1 e1 h1 q1 => ?_⟩
    have h2 : d = x := h1
    subst h2
    cases d with
    | true => exact ⟨W1, env, s1, e1, q1⟩
    | false => exact Res.here (b := false) q1 e1 rfl
theorem dw_or (ha : DT C X Wx a ft) (hb : DW C X Wx (.BoolOp .Or (b :: rest) pos) fu) : DW C X Wx (.BoolOp .Or (a :: b :: rest) pos) (tOr ft fu) :=
  PW.imp (pw_or ha hb) fun σ H Q h => by
    obtain ⟨W, env, s, e, q⟩ := h
    refine ⟨W, env, s, e, Res.step q fun W1 H1 s1 d x l1 e1 h1 q1 => ?_⟩
    have h2 : d = x := h1
    subst h2
    cases d with
    | true => exact Res.here (b := true) q1 e1 rfl
    | false => exact ⟨W1, env, s1, e1, q1⟩
/-! as values -/
theorem de_one {op : PySem.BoolOp} (h : DE C X Wx a fa) : DE C X Wx (.BoolOp op [a] pos) fa := pe_one h
theorem de_and (ha : DE C X Wx a fa) (hb : DE C X Wx (.BoolOp .And (b :: rest) pos) fb) : DE C X Wx (.BoolOp .And (a :: b :: rest) pos) (xAnd fa fb) :=
  PE.imp (pe_and ha hb) fun σ H Q h => by
    obtain ⟨W, env, s, e, q⟩ := h
    refine ⟨W, env, s, e, Res.step q fun W1 H1 s1 d x l1 e1 h1 q1 => ?_⟩
    have h2 := h1.strip
    revert q1
    split
    · rename_i hz
      rw [hz] at h2
      exact fun q1 => ⟨true, h2, ⟨W1, env, s1, e1, q1⟩⟩
    · rename_i hz
      rw [hz] at h2
      exact fun q1 => ⟨false, h2, Res.here (b := V.bl false) q1 e1 rfl⟩
    · exact fun q => q.elim
theorem de_or (ha : DE C X Wx a fa) (hb : DE C X Wx (.BoolOp .Or (b :: rest) pos) fb) : DE C X Wx (.BoolOp .Or (a :: b :: rest) pos) (xOr fa fb) :=
  PE.imp (pe_or ha hb) fun σ H Q h => by
    obtain ⟨W, env, s, e, q⟩ := h
    refine ⟨W, env, s, e, Res.step q fun W1 H1 s1 d x l1 e1 h1 q1 => ?_⟩
    have h2 := h1.strip
    revert q1
    split
    · rename_i hz
      rw [hz] at h2
      exact fun q1 => ⟨true, h2, Res.here (b := V.bl true) q1 e1 rfl⟩
    · rename_i hz
      rw [hz] at h2
      exact fun q1 => ⟨false, h2, ⟨W1, env, s1, e1, q1⟩⟩
    · exact fun q => q.elim
theorem de_not (ha : DE C X Wx a fa) : DE C X Wx (.UnaryOp .Not a pos) (xNot fa) :=
  PE.imp (pe_not ha) fun σ H Q h => by
    obtain ⟨W, env, s, e, q⟩ := h
    refine ⟨W, env, s, e, Res.step q fun W1 H1 s1 d x l1 e1 h1 q1 => ?_⟩
    have h2 := h1.strip
    revert q1
    split
    · rename_i b hz
      rw [hz] at h2
      exact fun q1 => ⟨b, h2, Res.here (b := V.bl !b) q1 e1 rfl⟩
    · exact fun q => q.elim
theorem de_if {t : Expr} (ht : DT C X Wx t ft) (ha : DE C X Wx a fa) (hb : DE C X Wx b fb) : DE C X Wx (.IfExp t a b pos) (xIf ft fa fb) :=
  PE.imp (pe_ifExp ht ha hb) fun σ H Q h => by
    obtain ⟨W, env, s, e, q⟩ := h
    refine ⟨W, env, s, e, Res.step q fun W1 H1 s1 d x l1 e1 h1 q1 => ?_⟩
    have h2 : d = x := h1
    subst h2
    cases d with
    | true => exact ⟨W1, env, s1, e1, q1⟩
    | false => exact ⟨W1, env, s1, e1, q1⟩
end

/-! ### new objects -/
def Wd.add (W : Wd) (p : Addr) : Wd := { W with F := fun a => W.F a ∨ a = p }
section
variable {C : Cfg} {K : PySem.W.Frag} {W W' : Wd} {H H' : Hp} {s s' : S}
/-- an object is laid that nobody writes any more -/
theorem Le.laid {p : Addr} {o : HO} (t : StS C K W H s) (hp : H p = none) : Le W H s (W.add p) (upd H p o) s :=
  ⟨fun _ h => .inl h, fun _ _ h => h, fun _ _ h => h, fun a u h _ _ => by rw [upd_ne (ne_of_none h hp)]; exact h, fun a h => by
    by_cases e : a = p
    · rw [e, upd_same]
      exact fun z => nomatch z
    · rw [upd_ne e]
      exact h, fun _ h => h, (fun i a hi h => by
      have e : W.al[i]? = none := List.getElem?_eq_none hi
      have h' : W.al[i]? = some a := h
      rw [e] at h'
      cases h'), fun a h => Or.imp id (fun z => .inl (by rw [z]; exact hp)) h⟩
theorem mok_later {a : Addr} {o : MO} (l : Le W H s W' H' s') (t : StS C K W H s) (e : ∀ u, H a = some u → H' a = some u) (m : MOk C K W H a o) : MOk C K W' H' a o := by
  cases o with
  | lst xs =>
    obtain ⟨vs, h1, h2, h3⟩ := m
    exact ⟨vs, e _ h1, h2.mono l t, h3⟩
  | dK ks vs =>
    obtain ⟨kvs, h1, h2, h3, h4⟩ := m
    exact ⟨kvs, e _ h1, h2, h3.mono l t, h4⟩
  | dT ks vs =>
    obtain ⟨kvs, h1, h2, h3, h4⟩ := m
    exact ⟨kvs, e _ h1, h2, h3.mono l t, h4⟩
  | ins c vs =>
    obtain ⟨dx, ws, h1, h2, h3, h4⟩ := m
    exact ⟨dx, ws, e _ h1, h2, h3.mono l t, h4⟩
  | dead => exact True.intro
theorem StS.laid {p : Addr} {o : HO} (t : StS C K W H s) (hp : H p = none) (n : ntb o) : StS C K (W.add p) (upd H p o) s := by
  have l : Le W H s (W.add p) (upd H p o) s := Le.laid t hp
  have nal : ∀ a, a ∈ W.al → a ≠ p := fun a ha z => t.alh a ha (by rw [z]; exact hp)
  refine ⟨t.len, t.tln, t.nod, fun i u a h1 h2 => ?_, fun a h => ?_, fun a ha => l.dom a (t.alh a ha), tabs_upd t.tb (.none hp) fun _ h => .inl h⟩
  · have h2' : W.al[i]? = some a := h2
    refine mok_later l t (fun v e => ?_) (t.mo i u a h1 h2')
    rw [upd_ne (nal a (List.mem_of_getElem? h2'))]
    exact e
  · rcases h with h | h
    · obtain ⟨g1, g2, g3⟩ := t.fz a h
      have ne : a ≠ p := fun z => g1 (by rw [z]; exact hp)
      rw [upd_ne ne]
      exact ⟨g1, g2, g3⟩
    · subst h
      refine ⟨fun z => ?_, fun u e => ?_, fun i hi => absurd rfl (nal _ (List.mem_of_getElem? (show W.al[i]? = some _ from hi)))⟩
      · rw [upd_same] at z
        cases z
      · rw [upd_same] at e
        cases e
        exact n
end
section
variable {C : Cfg} {X : Cx} {Wx : WX} {e : Expr} {es : List Expr} {fe : Ex} {fs : Ax} {pos : Pos}
theorem da_nil : DA C X Wx [] aNil := PA.imp pa_nil fun σ H Q h => by
  obtain ⟨W, env, s, e, q⟩ := h
  exact Res.here (b := ([] : List V)) q e rfl
theorem da_cons (ha : DE C X Wx e fe) (hr : DA C X Wx es fs) (hs : starEach (e :: es) X.env = (false, eval e X.env) :: starEach es X.env := by rfl) : DA C X Wx (e :: es) (aCons fe fs) := PA.imp (pa_cons ha hr hs) fun σ H Q h => by
  obtain ⟨W, env, s, e, q⟩ := h
  refine ⟨W, env, s, e, Res.step q fun W1 H1 s1 d x l1 e1 h1 q1 => ⟨W1, env, s1, e1, Res.step q1 fun W2 H2 s2 ds xs l2 e2 h2 q2 => ?_⟩⟩
  exact Res.here (b := x :: xs) q2 e2 ⟨x, xs, rfl, h1.mono l2 e1.st, h2⟩
theorem de_lst (h : DA C X Wx es fs) : DE C X Wx (.List es pos) (xLst fs) := PE.imp (pe_lst h) fun σ H Q h => by
  obtain ⟨W, env, s, e, q⟩ := h
  refine ⟨W, env, s, e, Res.step q fun W1 H1 s1 ds xs l1 e1 h1 q1 => ?_⟩
  revert q1
  split
  · rename_i hl
    intro q1
    refine ⟨by rw [← h1.length]; exact hl, fun p hp => ?_⟩
    have l2 := Le.laid (o := .lst xs) e1.st hp
    have t2 := e1.st.laid hp (o := .lst xs) (fun _ z => nomatch z)
    exact q1 _ _ (.ref p) l2 (e1.later l2 t2) ⟨p, xs, rfl, .inr rfl, upd_same, h1.mono l2 e1.st⟩
  · exact fun q => q.elim
theorem de_tup {k : Nat} (h : DA C X Wx es fs) : DE C X Wx (.Tuple es k pos) (xTup fs) := PE.imp (pe_tup h) fun σ H Q h => by
  obtain ⟨W, env, s, e, q⟩ := h
  refine ⟨W, env, s, e, Res.step q fun W1 H1 s1 ds xs l1 e1 h1 q1 => ?_⟩
  revert q1
  split
  · rename_i hl
    intro q1
    refine ⟨by rw [← h1.length]; exact hl, fun p hp => ?_⟩
    have l2 := Le.laid (o := .tup xs) e1.st hp
    have t2 := e1.st.laid hp (o := .tup xs) (fun _ z => nomatch z)
    exact q1 _ _ (.ref p) l2 (e1.later l2 t2) ⟨p, xs, rfl, .inr rfl, upd_same, h1.mono l2 e1.st⟩
  · exact fun q => q.elim
end
end DV
end
section
set_option Elab.async false
set_option linter.all false
set_option maxRecDepth 100000
/-! DC: statements over data, defs and their calls. -/
namespace DV
open PySem PySem.Spec PyProof.Rows L2

inductive Fl where
  | next (e : Env) (s : S) | ret (d : D) (s : S) | brk (e : Env) (s : S) | cont (e : Env) (s : S)
  | exc (c : Nat) (vs : List D) (e : Env) (s : S) | stuck
abbrev Sx := Env → S → Fl
def ResS (C : Cfg) (K : PySem.W.Frag) (Wx : WX) (D : Ends) (W : Wd) (H : Hp) (s : S) : Fl → Prop
  | .next env' s' => ∀ W' σ' H', Le W H s W' H' s' → StE C K W' H' σ' env' s' → D.nx σ' H'
  | .ret d s' => ∀ W' v H', Le W H s W' H' s' → StS C K W' H' s' → RD C K W' H' d v → D.rt v H'
  | .brk env' s' => ∀ W' σ' H', Le W H s W' H' s' → StE C K W' H' σ' env' s' → D.bk σ' H'
  | .cont env' s' => ∀ W' σ' H', Le W H s W' H' s' → StE C K W' H' σ' env' s' → D.ct σ' H'
  | .exc c vs env' s' => ∀ W' σ' H' dd ws, Le W H s W' H' s' → StE C K W' H' σ' env' s' → W'.F dd → H' dd = some (.xd ((C.cf c).zip ws)) → (C.cf c).length = ws.length → RDs C K W' H' vs ws → Wx (.ref (C.ca c)) (some dd) σ' H'
  | .stuck => False
theorem ResS.later {C : Cfg} {K : PySem.W.Frag} {Wx : WX} {D : Ends} {W W' : Wd} {H H' : Hp} {s s' : S} {o : Fl} (h : ResS C K Wx D W H s o) (l : Le W H s W' H' s') : ResS C K Wx D W' H' s' o := by
  cases o with
  | next _ _ => exact fun W2 σ2 H2 q => h W2 σ2 H2 (l.trans q)
  | ret _ _ => exact fun W2 v H2 q => h W2 v H2 (l.trans q)
  | brk _ _ => exact fun W2 σ2 H2 q => h W2 σ2 H2 (l.trans q)
  | cont _ _ => exact fun W2 σ2 H2 q => h W2 σ2 H2 (l.trans q)
  | exc _ _ _ _ => exact fun W2 σ2 H2 dd ws q => h W2 σ2 H2 dd ws (l.trans q)
  | stuck => exact h
def tS (C : Cfg) (K : PySem.W.Frag) (Wx : WX) (f : Sx) : TS := fun D σ H => ∃ W env s, StE C K W H σ env s ∧ ResS C K Wx D W H s (f env s)
def DS (C : Cfg) (X : Cx) (Wx : WX) (st : Stmt) (f : Sx) : Prop := PS X st (tS C X.K Wx f)
def DSs (C : Cfg) (X : Cx) (Wx : WX) (st : List Stmt) (f : Sx) : Prop := PSs X st (tS C X.K Wx f)
theorem PS.imp {X : Cx} {e : Stmt} {t t' : TS} (h : PS X e t) (f : ∀ D σ H, t' D σ H → t D σ H) : PS X e t' := ⟨fun pins s σ H D I q => h.run pins s σ H D I (f _ _ _ q)⟩
theorem PSs.imp {X : Cx} {e : List Stmt} {t t' : TS} (h : PSs X e t) (f : ∀ D σ H, t' D σ H → t D σ H) : PSs X e t' := ⟨fun pins s σ H D I q => h.run pins s σ H D I (f _ _ _ q)⟩
theorem PG.imp {X : Cx} {e : Expr} {t t' : TG} (h : PG X e t) (f : ∀ v σ H Q, t' v σ H Q → t v σ H Q) : PG X e t' := ⟨fun pins s σ H v u Q I r q => h.run pins s σ H v u Q I r (f _ _ _ _ q)⟩
theorem PGs.imp {X : Cx} {e : List Expr} {t t' : TGs} (h : PGs X e t) (f : ∀ v σ H Q, t' v σ H Q → t v σ H Q) : PGs X e t' := ⟨fun pins s σ H v u Q I r q => h.run pins s σ H v u Q I r (f _ _ _ _ q)⟩
theorem PG.or {X : Cx} {e : Expr} {t t' : TG} (h : PG X e t) (h' : PG X e t') : PG X e (fun v σ H Q => t v σ H Q ∨ t' v σ H Q) := ⟨fun pins s σ H v u Q I r q => by
  rcases q with q | q
  · exact h.run pins s σ H v u Q I r q
  · exact h'.run pins s σ H v u Q I r q⟩

/-! ### combinators -/
def sNext : Sx := fun e s => .next e s
def sSeq (f g : Sx) : Sx := fun e s => match f e s with
  | .next e' s' => g e' s'
  | r => r
/-- an expression's result ahead of a statement's -/
def Out.fl {α : Type} (o : Out α) (e : Env) (k : α → S → Fl) : Fl := match o with
  | .ok a s => k a s
  | .exc c vs s => .exc c vs e s
  | .stuck => .stuck
def sExpr (a : Ex) : Sx := fun e s => (a e s).fl e fun _ s => .next e s
def sRet (a : Ex) : Sx := fun e s => (a e s).fl e fun d s => .ret d s
def sRetN : Sx := fun _ s => .ret .non s
def sIf (t : Tx) (f g : Sx) : Sx := fun e s => (t e s).fl e fun b s => if b = true then f e s else g e s
def sBrk : Sx := fun e s => .brk e s
def sCont : Sx := fun e s => .cont e s
abbrev Gx := D → Env → S → Out Env
def sAsg (a : Ex) (g : Gx) : Sx := fun e s => (a e s).fl e fun d s => match g d e s with
  | .ok e' s' => .next e' s'
  | _ => .stuck
def gVar (i : Nat) : Gx := fun d e s => .ok (e.set i (some d)) s
def gsNil : List D → Env → S → Out Env := fun ds e s => match ds with
  | [] => .ok e s
  | _ => .stuck
def gsCons (g : Gx) (r : List D → Env → S → Out Env) : List D → Env → S → Out Env := fun ds e s => match ds with
  | d :: ds => (g d e s).bind fun e' s' => r ds e' s'
  | [] => .stuck
def gUnp (n : Nat) (r : List D → Env → S → Out Env) : Gx := fun d e s => match view s d with
  | .tup xs => if xs.length = n then r xs e s else .stuck
  | .lst xs => if xs.length = n then r xs e s else .stuck
  | _ => .stuck
def sAug (i : Nat) (g : S → D → D → Option D) (a : Ex) : Sx := fun e s => match e[i]? with
  | some (some x) => (a e s).fl e fun y s => match g s x y with
    | some z => .next (e.set i (some z)) s
    | none => .stuck
  | _ => .stuck

section
variable {C : Cfg} {K : PySem.W.Frag} {Wx : WX} {D : Ends} {σ : L2.St} {env : Env} {W W' : Wd} {H H' : Hp} {s s' : S} {α β : Type} {R : Wd → Hp → α → β → Prop}
/-- an expression's result ahead of a statement's -/
theorem Res.fl {o : Out α} {k : α → S → Fl} {Q1 : β → Hp → Prop} (h : ResS C K Wx D W H s (o.fl env k))
    (f : ∀ W1 H1 s1 a b, Le W H s W1 H1 s1 → StE C K W1 H1 σ env s1 → R W1 H1 a b → ResS C K Wx D W1 H1 s1 (k a s1) → Q1 b H1) : Res C K R Wx σ env W H s o Q1 := by
  cases o with
  | ok a s2 => exact fun W2 H2 b q e r => f W2 H2 s2 a b q e r (ResS.later h q)
  | exc c vs s2 => exact fun W2 H2 dd ws q e => h W2 σ H2 dd ws q e
  | stuck => exact h
theorem ResS.here (h : ResS C K Wx D W H s (.next env s)) (e : StE C K W H σ env s) : D.nx σ H := h W σ H Le.refl e
end
section
variable {C : Cfg} {X : Cx} {Wx : WX} {st : Stmt} {rest : List Stmt} {f g : Sx} {e : Expr} {fe : Ex} {ft : Tx} {pos : Pos}
theorem dss_nil : DSs C X Wx [] sNext := PSs.imp pss_nil fun D σ H h => by
  obtain ⟨W, env, s, e, q⟩ := h
  exact ResS.here q e
theorem tS_seq {K : PySem.W.Frag} : ∀ D σ H, tS C K Wx (sSeq f g) D σ H → tSeq (tS C K Wx f) (tS C K Wx g) D σ H := fun D σ H h => by
  obtain ⟨W, env, s, e, q⟩ := h
  refine ⟨W, env, s, e, ?_⟩
  unfold sSeq at q
  revert q
  cases f env s with
  | next e' s' => exact fun q W' σ' H' l e2 => ⟨W', e', s', e2, ResS.later q l⟩
  | ret _ _ => exact fun q => q
  | brk _ _ => exact fun q => q
  | cont _ _ => exact fun q => q
  | exc _ _ _ _ => exact fun q => q
  | stuck => exact fun q => q
theorem dss_cons (h1 : DS C X Wx st f) (h2 : DSs C X Wx rest g) : DSs C X Wx (st :: rest) (sSeq f g) := PSs.imp (pss_cons h1 h2) tS_seq
theorem dss_one (h1 : DS C X Wx st f) : DSs C X Wx [st] f := pss_one h1
theorem ds_pass : DS C X Wx (.Pass pos) sNext := PS.imp ps_pass fun D σ H h => by
  obtain ⟨W, env, s, e, q⟩ := h
  exact ResS.here q e
theorem ds_brk : DS C X Wx (.Break pos) sBrk := PS.imp ps_break fun D σ H h => by
  obtain ⟨W, env, s, e, q⟩ := h
  exact q W σ H Le.refl e
theorem ds_cont : DS C X Wx (.Continue pos) sCont := PS.imp ps_continue fun D σ H h => by
  obtain ⟨W, env, s, e, q⟩ := h
  exact q W σ H Le.refl e
theorem ds_expr (he : DE C X Wx e fe) (hs : swapsWith e none pos.line X.env = pure false := by rfl) : DS C X Wx (.Expr e pos) (sExpr fe) := PS.imp (ps_expr he hs) fun D σ H h => by
  obtain ⟨W, env, s, e, q⟩ := h
  exact ⟨W, env, s, e, Res.fl q fun W1 H1 s1 d x l1 e1 h1 q1 => ResS.here q1 e1⟩
theorem ds_ret (he : DE C X Wx e fe) : DS C X Wx (.Return (some e) pos) (sRet fe) := PS.imp (ps_ret he) fun D σ H h => by
  obtain ⟨W, env, s, e, q⟩ := h
  exact ⟨W, env, s, e, Res.fl q fun W1 H1 s1 d x l1 e1 h1 q1 => q1 W1 x H1 Le.refl e1.st h1⟩
theorem ds_retN : DS C X Wx (.Return none pos) sRetN := PS.imp ps_retN fun D σ H h => by
  obtain ⟨W, env, s, e, q⟩ := h
  exact q W .non H Le.refl e.st rfl
theorem ds_if {c : Expr} {a b : List Stmt} (hc : DT C X Wx c ft) (ha : DSs C X Wx a f) (hb : DSs C X Wx b g) : DS C X Wx (.If c a b pos) (sIf ft f g) := PS.imp (ps_if hc ha hb) fun D σ H h => by
  obtain ⟨W, env, s, e, q⟩ := h
  refine ⟨W, env, s, e, Res.fl q fun W1 H1 s1 d x l1 e1 h1 q1 => ?_⟩
  have h2 : d = x := h1
  subst h2
  cases d with
  | true => exact ⟨W1, env, s1, e1, q1⟩
  | false => exact ⟨W1, env, s1, e1, q1⟩
end

/-! ### targets -/
def tG (C : Cfg) (K : PySem.W.Frag) (g : Gx) : TG := fun v σ H Q => ∃ W env s d, StE C K W H σ env s ∧ RD C K W H d v ∧ match g d env s with
  | .ok env' s' => ∀ W' σ' H', Le W H s W' H' s' → StE C K W' H' σ' env' s' → Q σ' H'
  | _ => False
def tGs (C : Cfg) (K : PySem.W.Frag) (g : List D → Env → S → Out Env) : TGs := fun vs σ H Q => ∃ W env s ds, StE C K W H σ env s ∧ RDs C K W H ds vs ∧ match g ds env s with
  | .ok env' s' => ∀ W' σ' H', Le W H s W' H' s' → StE C K W' H' σ' env' s' → Q σ' H'
  | _ => False
def DG (C : Cfg) (X : Cx) (tg : Expr) (g : Gx) : Prop := PG X tg (tG C X.K g)
def DGs (C : Cfg) (X : Cx) (tg : List Expr) (g : List D → Env → S → Out Env) : Prop := PGs X tg (tGs C X.K g)
theorem StE.set {C : Cfg} {K : PySem.W.Frag} {σ : L2.St} {env : Env} {W : Wd} {H : Hp} {s : S} (e : StE C K W H σ env s) (i : Nat) {d : D} {v : V} (r : RD C K W H d v) : StE C K W H (σ.set i (some v)) (env.set i (some d)) s := by
  refine ⟨e.st, by rw [List.length_set, List.length_set]; exact e.sl, fun j d' h => ?_⟩
  by_cases hj : i = j
  · subst hj
    by_cases hl : i < env.length
    · rw [List.getElem?_set_self hl] at h
      have e2 : d = d' := Option.some.inj (Option.some.inj h)
      subst e2
      exact ⟨v, List.getElem?_set_self (by rw [e.sl]; exact hl), r⟩
    · rw [List.getElem?_eq_none (by simpa using hl)] at h
      cases h
  · rw [List.getElem?_set_ne hj] at h ⊢
    exact e.sv j d' h
theorem StE.unset {C : Cfg} {K : PySem.W.Frag} {σ : L2.St} {env : Env} {W : Wd} {H : Hp} {s : S} (e : StE C K W H σ env s) (i : Nat) : StE C K W H (σ.set i none) (env.set i none) s := by
  refine ⟨e.st, by rw [List.length_set, List.length_set]; exact e.sl, fun j d' h => ?_⟩
  by_cases hj : i = j
  · subst hj
    by_cases hl : i < env.length
    · rw [List.getElem?_set_self hl] at h
      cases h
    · rw [List.getElem?_eq_none (by simpa using hl)] at h
      cases h
  · rw [List.getElem?_set_ne hj] at h ⊢
    exact e.sv j d' h
section
variable {C : Cfg} {X : Cx} {Wx : WX} {e : Expr} {es : List Expr} {fe : Ex} {g : Gx} {gs : List D → Env → S → Out Env} {pos : Pos}
theorem dg_name {i : Nat} {x : Str} (hN : X.N.Nodup) (hi : X.N[i]? = some x) (hx : Loc X.env.scope x) (hf : X.fn x = true ∨ X.env.scope.names.lookup x = some .local := by first | exact .inl rfl | exact .inr rfl | assumption) : DG C X (.Name x pos) (gVar i) :=
  PG.imp (pg_name hN hi hx hf) fun v σ H Q h => by
    obtain ⟨W, env, s, d, e, r, q⟩ := h
    exact q W _ H Le.refl (e.set i r)
theorem dgs_nil : DGs C X [] gsNil := PGs.imp pgs_nil fun vs σ H Q h => by
  obtain ⟨W, env, s, ds, e, r, q⟩ := h
  cases ds with
  | nil => exact ⟨r, q W σ H Le.refl e⟩
  | cons _ _ => exact q.elim
theorem dgs_cons (h1 : DG C X e g) (h2 : DGs C X es gs) (hs : (assignEach (e :: es) X.env).map (·.2) = assign e X.env :: (assignEach es X.env).map (·.2) := by rfl) : DGs C X (e :: es) (gsCons g gs) := PGs.imp (pgs_cons h1 h2 hs) fun vs σ H Q h => by
  obtain ⟨W, env, s, ds, e, r, q⟩ := h
  cases ds with
  | nil => exact q.elim
  | cons d ds =>
    obtain ⟨v, rs, e1, r1, r2⟩ := r
    refine ⟨v, rs, e1, W, env, s, d, e, r1, ?_⟩
    revert q
    show (match (g d env s).bind fun e' s' => gs ds e' s' with
      | .ok env' s' => _
      | _ => False) → _
    cases g d env s with
    | ok e' s' =>
      intro q W1 σ1 H1 l1 e2
      refine ⟨W1, e', s', ds, e2, r2.mono l1 e.st, ?_⟩
      revert q
      show (match gs ds e' s' with
        | .ok env' s' => _
        | _ => False) → _
      cases gs ds e' s' with
      | ok e3 s3 => exact fun q W2 σ2 H2 l2 e4 => q W2 σ2 H2 (l1.trans l2) e4
      | exc _ _ _ => exact fun q => q
      | stuck => exact fun q => q
    | exc _ _ _ => exact fun q => q.elim
    | stuck => exact fun q => q.elim
theorem dg_unp {n k : Nat} (hc : X.calm = true) (h : DGs C X es gs) (hn : (assignEach es X.env).length = n := by rfl) (hst : (assignEach es X.env).findIdx? (·.1) = none := by rfl) : DG C X (.Tuple es k pos) (gUnp n gs) :=
  PG.imp (PG.or (pg_tup hc h hn hst) (pg_lst hc h hn hst)) fun v σ H Q h => by
    obtain ⟨W, env, s, d, e, r, q⟩ := h
    have z := see_of e.st r
    revert q
    unfold gUnp
    cases hv : view s d with
    | tup xs =>
      rw [hv] at z
      obtain ⟨a, vs, e1, l, rs⟩ := z
      intro q
      by_cases hl : xs.length = n
      · have q2 : (match if xs.length = n then gs xs env s else .stuck with
          | .ok env' s' => ∀ W' σ' H', Le W H s W' H' s' → StE C X.K W' H' σ' env' s' → Q σ' H'
          | _ => False) := q
        rw [if_pos hl] at q2
        exact .inl ⟨a, vs, e1, SqT.of l, by rw [← rs.length]; exact hl, W, env, s, xs, e, rs, q2⟩
      · have q2 : (match if xs.length = n then gs xs env s else .stuck with
          | .ok env' s' => ∀ W' σ' H', Le W H s W' H' s' → StE C X.K W' H' σ' env' s' → Q σ' H'
          | _ => False) := q
        rw [if_neg hl] at q2
        exact q2.elim
    | lst xs =>
      rw [hv] at z
      obtain ⟨a, vs, e1, l, rs⟩ := z
      intro q
      by_cases hl : xs.length = n
      · have q2 : (match if xs.length = n then gs xs env s else .stuck with
          | .ok env' s' => ∀ W' σ' H', Le W H s W' H' s' → StE C X.K W' H' σ' env' s' → Q σ' H'
          | _ => False) := q
        rw [if_pos hl] at q2
        exact .inr ⟨a, vs, e1, SqL.of l, by rw [← rs.length]; exact hl, W, env, s, xs, e, rs, q2⟩
      · have q2 : (match if xs.length = n then gs xs env s else .stuck with
          | .ok env' s' => ∀ W' σ' H', Le W H s W' H' s' → StE C X.K W' H' σ' env' s' → Q σ' H'
          | _ => False) := q
        rw [if_neg hl] at q2
        exact q2.elim
    | _ => exact fun q => q.elim
theorem tS_asg {K : PySem.W.Frag} : ∀ D σ H, tS C K Wx (sAsg fe g) D σ H → tAsg (tD C K Wx fe) (tG C K g) D σ H := fun D σ H h => by
  obtain ⟨W, env, s, e, q⟩ := h
  refine ⟨W, env, s, e, Res.fl q fun W1 H1 s1 d x l1 e1 h1 q1 => ⟨W1, env, s1, d, e1, h1, ?_⟩⟩
  revert q1
  cases g d env s1 with
  | ok e' s' => exact fun q => q
  | exc _ _ _ => exact fun q => q
  | stuck => exact fun q => q
theorem ds_asg {tg : Expr} (he : DE C X Wx e fe) (hg : DG C X tg g) (hs : swapsWithSole [tg] e pos.line X.env = pure false := by rfl) (hw : swappedStores [tg] e X.env = pure none := by rfl)
    (h1 : (assignEach [tg] X.env).map (·.2) = [assign tg X.env] := by rfl) : DS C X Wx (.Assign [tg] e pos) (sAsg fe g) := PS.imp (ps_asg he hg hs hw h1) tS_asg
theorem ds_set {i : Nat} {x : Str} {pos' : Pos} (hN : X.N.Nodup) (hi : X.N[i]? = some x) (hx : Loc X.env.scope x) (he : DE C X Wx e fe) (hs : swapsWith e (some (.Name x pos')) pos.line X.env = pure false := by rfl)
    (hf : X.fn x = true ∨ X.env.scope.names.lookup x = some .local := by first | exact .inl rfl | exact .inr rfl | assumption) : DS C X Wx (.Assign [.Name x pos'] e pos) (sAsg fe (gVar i)) :=
  PS.imp (ps_set hN hi hx he hs hf) fun D σ H h => by
    obtain ⟨W, env, s, e, q⟩ := h
    refine ⟨W, env, s, e, Res.fl q fun W1 H1 s1 d x l1 e1 h1 q1 => ?_⟩
    exact ResS.here q1 (e1.set i h1)
/-- a, b = e1, e2 (two local names) -/
def sPar (i j : Nat) (a : Ax) : Sx := fun e s => (a e s).fl e fun ds s => match ds with
  | [x, y] => .next ((e.set i (some x)).set j (some y)) s
  | _ => .stuck
theorem ds_par {i j : Nat} {x y : Str} {a b : Expr} {fa : Ax} {px py pt : Pos} {kt k2 : Nat} {pt2 : Pos} (hc : X.calm = true) (hN : X.N.Nodup) (hi : X.N[i]? = some x) (hj : X.N[j]? = some y) (hij : i ≠ j)
    (hx : X.env.scope.names.lookup x = some .local) (hy : X.env.scope.names.lookup y = some .local) (ha : DA C X Wx [a, b] fa)
    (hw : swappedStores [.Tuple [.Name x px, .Name y py] kt pt] (.Tuple [a, b] k2 pt2) X.env = pure (some [x, y]))
    (hs : swapsWithSole [.Tuple [.Name x px, .Name y py] kt pt] (.Tuple [a, b] k2 pt2) pos.line X.env = pure false := by rfl) :
    DS C X Wx (.Assign [.Tuple [.Name x px, .Name y py] kt pt] (.Tuple [a, b] k2 pt2) pos) (sPar i j fa) := PS.imp (ps_par hc hN hi hj hij hx hy ha hw hs) fun D σ H h => by
  obtain ⟨W, env, s, e, q⟩ := h
  refine ⟨W, env, s, e, Res.fl q fun W1 H1 s1 ds xs l1 e1 h1 q1 => ?_⟩
  revert q1
  split
  · rename_i d1 d2
    intro q1
    obtain ⟨v1, r1, rfl, g1, v2, r2, rfl, g2, rfl⟩ := h1
    exact ⟨v1, v2, rfl, ResS.here q1 ((e1.set i g1).set j g2)⟩
  · exact fun q => q.elim
theorem ds_aug {i : Nat} {x : Str} {op : Operator} {pos' : Pos} {g : S → D → D → Option D} (hN : X.N.Nodup) (hi : X.N[i]? = some x) (hx : Loc X.env.scope x) (he : DE C X Wx e fe) (ho : PIp X op (r2 C X.K g))
    (hf : X.fn x = true ∨ X.env.scope.names.lookup x = some .local := by first | exact .inl rfl | exact .inr rfl | assumption) : DS C X Wx (.AugAssign (.Name x pos') op e pos) (sAug i g fe) := PS.imp (ps_aug hN hi hx he ho hf) fun D σ H h => by
  obtain ⟨W, env, s, e, q⟩ := h
  unfold sAug at q
  split at q
  · rename_i d hd
    obtain ⟨v, hv, rv⟩ := e.sv i d hd
    refine ⟨v, hv, W, env, s, e, Res.fl q fun W1 H1 s1 d1 x1 l1 e1 h1 q1 => ⟨W1, s1, d, d1, e1.st, rv.mono l1 e.st, h1, ?_⟩⟩
    revert q1
    cases g s1 d d1 with
    | none => exact fun q => q
    | some z => exact fun q W2 H2 v2 l2 t2 r2 => q W2 _ H2 l2 ((e1.later l2 t2).set i r2)
  · exact q.elim
end

/-! ### defs -/
/-- a result ahead of the frame's end: an object of its own is nobody's any more -/
def fzD (n : Nat) (s : S) (d : D) : Option D := match d with
  | .ref i => if i < n then some d else match s.mo[i]? with
    | some (.lst xs) => some (.lst xs)
    | some (.dK ks vs) => some (.dct ks vs)
    | some (.dT (k :: ks) vs) => some (.dct (k :: ks) vs)
    | _ => none
  | d => some d
def back (s s' : S) : S := ⟨s'.mo.take s.mo.length, s'.tg⟩
def fin (s : S) (d : D) (s' : S) : Out D := match fzD s.mo.length s' d with
  | some d' => if d'.low s.mo.length s.tg = true then .ok d' (back s s') else .stuck
  | none => .stuck
/-- a def's body as a function of its arguments -/
def endDef (s : S) : Fl → Out D
  | .next _ s' => .ok .non (back s s')
  | .ret d s' => fin s d s'
  | .exc c vs _ s' => if D.lows s.mo.length s.tg vs = true then .exc c vs (back s s') else .stuck
  | _ => .stuck
def runDef (n nN : Nat) (f : Sx) : S → List D → Out D := fun s ds => if ds.length = n then endDef s (f (ds.map some ++ List.replicate (nN - ds.length) none) s) else .stuck
/-- a def's promise, told by such a function -/
def spD (C : Cfg) (K : PySem.W.Frag) (F : S → List D → Out D) : Sp := fun vs H Q E => ∃ W s ds, StS C K W H s ∧ RDs C K W H ds vs ∧ match F s ds with
  | .ok d s' => ∀ W' H' v, Le W H s W' H' s' → StS C K W' H' s' → RD C K W' H' d v → Q v H'
  | .exc c es s' => ∀ W' H' dd ws, Le W H s W' H' s' → StS C K W' H' s' → W'.F dd → H' dd = some (.xd ((C.cf c).zip ws)) → (C.cf c).length = ws.length → RDs C K W' H' es ws → E (.ref (C.ca c)) (some dd) H'
  | .stuck => False

mutual
/-- low data hang on the lower part alone -/
theorem RD.low {C C' : Cfg} {K : PySem.W.Frag} {W W' : Wd} {H : Hp} {n t : Nat} (hca : C'.ca = C.ca) (hcf : C'.cf = C.cf) (hfa : C'.fa = C.fa) (hF : ∀ a, W.F a → W'.F a) (ha : ∀ i, i < n → W.al[i]? = W'.al[i]?) (ht : ∀ (i : Nat) (v : V), W.ts[i]? = some v → W'.ts[i]? = some v) :
    ∀ (d : D) (v : V), d.low n t = true → RD C K W H d v → RD C' K W' H d v
  | .non, _, _, q => q
  | .bl _, _, _, q => q
  | .int _, _, _, q => q
  | .str _, _, _, q => q
  | .lst xs, v, h, q => by
    obtain ⟨a, vs, e, f, l, r⟩ := q
    exact ⟨a, vs, e, hF a f, l, RDs.low hca hcf hfa hF ha ht xs vs h r⟩
  | .tup xs, v, h, q => by
    obtain ⟨a, vs, e, f, l, r⟩ := q
    exact ⟨a, vs, e, hF a f, l, RDs.low hca hcf hfa hF ha ht xs vs h r⟩
  | .dct ks vs, v, h, q => by
    obtain ⟨a, ws, e, f, l, r⟩ := q
    exact ⟨a, ws, e, hF a f, l, RDs.low hca hcf hfa hF ha ht vs ws (Bool.and_eq_true_iff.mp h).2 r⟩
  | .ref i, v, h, q => by
    obtain ⟨a, l, e⟩ := q
    exact ⟨a, (ha i (of_decide_eq_true h)).symm.trans l, e⟩
  | .inst c vs, v, h, q => by
    obtain ⟨a, dx, ws, e, f, l, m, r⟩ := q
    exact ⟨a, dx, ws, e, hF a f, by rw [hca, hcf]; exact l, by rw [hcf]; exact m, RDs.low hca hcf hfa hF ha ht vs ws h r⟩
  | .fn i, v, _, q => by
    obtain ⟨a, e, r⟩ := q
    exact ⟨a, e, by rw [hfa]; exact C.fa.st i a _ _ _ _ hF (fun _ _ _ z => z) r⟩
  | .tag i d, v, h, q => ⟨ht i v q.1, RD.low hca hcf hfa hF ha ht d v h q.2⟩
  | .exn c vs, v, h, q => by
    obtain ⟨a, dx, ws, e, f, l, l2, m, r⟩ := q
    exact ⟨a, dx, ws, e, hF a f, by rw [hca]; exact l, by rw [hcf]; exact l2.mono hF (fun _ _ _ z => z), by rw [hcf]; exact m, RDs.low hca hcf hfa hF ha ht vs ws h r⟩
  | .lam _ _, _, h, _ => nomatch h
  | .scr _, _, _, q => by
    obtain ⟨a, e, f, l⟩ := q
    exact ⟨a, e, hF a f, l⟩
  | .kl xs, v, h, q => by
    obtain ⟨a, vs, e, l, r⟩ := q
    exact ⟨a, vs, e, l, RDs.low hca hcf hfa hF ha ht xs vs h r⟩
theorem RDs.low {C C' : Cfg} {K : PySem.W.Frag} {W W' : Wd} {H : Hp} {n t : Nat} (hca : C'.ca = C.ca) (hcf : C'.cf = C.cf) (hfa : C'.fa = C.fa) (hF : ∀ a, W.F a → W'.F a) (ha : ∀ i, i < n → W.al[i]? = W'.al[i]?) (ht : ∀ (i : Nat) (v : V), W.ts[i]? = some v → W'.ts[i]? = some v) :
    ∀ (ds : List D) (vs : List V), D.lows n t ds = true → RDs C K W H ds vs → RDs C' K W' H ds vs
  | [], _, _, q => q
  | d :: ds, vs, h, q => by
    obtain ⟨v, r, e, h1, h2⟩ := q
    have h' := Bool.and_eq_true_iff.mp h
    exact ⟨v, r, e, RD.low hca hcf hfa hF ha ht d v h'.1 h1, RDs.low hca hcf hfa hF ha ht ds r h'.2 h2⟩
end
/-- the world that the caller sees -/
def Wd.back (W W' : Wd) : Wd := ⟨W'.F, W.al, W'.ts⟩
section
variable {C : Cfg} {K : PySem.W.Frag} {W W' : Wd} {H H' : Hp} {s s' : S}
theorem take_get {α : Type} {l : List α} {n i : Nat} {x : α} (h : (l.take n)[i]? = some x) : i < n ∧ l[i]? = some x := by
  rw [List.getElem?_take] at h
  split at h
  · rename_i hi
    exact ⟨hi, h⟩
  · cases h
theorem Le.back (l : Le W H s W' H' s') (t : StS C K W H s) : Le W H s (W.back W') H' (back s s') := by
  refine ⟨l.fz, fun _ _ h => h, l.ts, l.ext, l.dom, fun i h => ?_, fun i a hi h => ?_, l.nw⟩
  · have hi : i < s.mo.length := (List.getElem?_eq_some_iff.mp h).1
    show (s'.mo.take s.mo.length)[i]? = some .dead
    rw [List.getElem?_take, if_pos hi]
    exact l.ded i h
  · have e : W.al[i]? = none := List.getElem?_eq_none hi
    have h' : W.al[i]? = some a := h
    rw [e] at h'
    cases h'
theorem back_al (l : Le W H s W' H' s') : ∀ i, i < W.al.length → W'.al[i]? = W.al[i]? := fun i hi => by
  have e : W.al[i]? = some W.al[i] := List.getElem?_eq_getElem hi
  rw [e]
  exact l.al i _ e
theorem back_ts (l : Le W H s W' H' s') : ∀ i, i < W.ts.length → W'.ts[i]? = W.ts[i]? := fun i hi => by
  have e : W.ts[i]? = some W.ts[i] := List.getElem?_eq_getElem hi
  rw [e]
  exact l.ts i _ e
theorem len_al (l : Le W H s W' H' s') : W.al.length ≤ W'.al.length := by
  cases h : W.al.length with
  | zero => exact Nat.zero_le _
  | succ n =>
    have hi : n < W.al.length := by omega
    have e : W.al[n]? = some W.al[n] := List.getElem?_eq_getElem hi
    have := (List.getElem?_eq_some_iff.mp (l.al n _ e)).1
    omega
theorem StS.back (l : Le W H s W' H' s') (t : StS C K W H s) (t' : StS C K W' H' s') : StS C K (W.back W') H' (DV.back s s') := by
  have hl := len_al l
  have e1 := t.len
  have e2 := t'.len
  refine ⟨?_, t'.tln, t.nod, fun i o a h1 h2 => ?_, fun a h => ?_, fun a ha => l.dom a (t.alh a ha), tbs_mono t'.tb fun _ h => h⟩
  · show W.al.length = (s'.mo.take s.mo.length).length
    rw [List.length_take]
    omega
  · obtain ⟨hi, h3⟩ := take_get h1
    have h2' : W.al[i]? = some a := h2
    have m := t'.mo i o a h3 (l.al i a h2')
    cases o with
    | lst xs =>
      obtain ⟨vs, g1, g2, g3⟩ := m
      exact ⟨vs, g1, RDs.low (W := W') (W' := W.back W') (n := 0) (t := 0) rfl rfl rfl (fun _ z => z) (fun i z => absurd z (Nat.not_lt_zero _)) (fun _ _ z => z) xs vs g3 g2, g3⟩
    | dK ks vs =>
      obtain ⟨kvs, g1, g2, g3, g4⟩ := m
      exact ⟨kvs, g1, g2, RDs.low (W := W') (W' := W.back W') (n := 0) (t := 0) rfl rfl rfl (fun _ z => z) (fun i z => absurd z (Nat.not_lt_zero _)) (fun _ _ z => z) vs _ g4 g3, g4⟩
    | dT ks vs =>
      obtain ⟨kvs, g1, g2, g3, g4⟩ := m
      exact ⟨kvs, g1, g2, RDs.low (W := W') (W' := W.back W') (n := 0) (t := 0) rfl rfl rfl (fun _ z => z) (fun i z => absurd z (Nat.not_lt_zero _)) (fun _ _ z => z) vs _ g4 g3, g4⟩
    | ins c vs =>
      obtain ⟨dx, ws, g1, g2, g3, g4⟩ := m
      exact ⟨dx, ws, g1, g2, RDs.low (W := W') (W' := W.back W') (n := 0) (t := 0) rfl rfl rfl (fun _ z => z) (fun i z => absurd z (Nat.not_lt_zero _)) (fun _ _ z => z) vs _ g4 g3, g4⟩
    | dead => exact True.intro
  · obtain ⟨g1, g2, g3⟩ := t'.fz a h
    refine ⟨g1, g2, fun i hi => ?_⟩
    have hi' : W.al[i]? = some a := hi
    have hlt := (List.getElem?_eq_some_iff.mp hi').1
    show (s'.mo.take s.mo.length)[i]? = some .dead
    rw [List.getElem?_take, if_pos (by omega)]
    exact g3 i (l.al i a hi')
end
/-- an object that changed is frozen -/
theorem StS.freeze {C : Cfg} {K : PySem.W.Frag} {W : Wd} {H : Hp} {s : S} (t : StS C K W H s) {i : Nat} {a : Addr} (ha : W.al[i]? = some a) (n : ∀ o, H a = some o → ntb o) : StS C K (W.add a) H ⟨s.mo.set i .dead, s.tg⟩ ∧ Le W H s (W.add a) H ⟨s.mo.set i .dead, s.tg⟩ := by
  have hi : i < s.mo.length := by rw [← t.len]; exact (List.getElem?_eq_some_iff.mp ha).1
  have l : Le W H s (W.add a) H ⟨s.mo.set i .dead, s.tg⟩ := by
    refine ⟨fun _ h => .inl h, fun _ _ h => h, fun _ _ h => h, fun _ _ h _ _ => h, fun _ h => h, fun j h => ?_, fun j b hj h => ?_, fun b h => Or.imp id (fun z => .inr (by rw [z]; exact List.mem_of_getElem? ha)) h⟩
    · show (s.mo.set i .dead)[j]? = some .dead
      by_cases e : i = j
      · subst e
        exact List.getElem?_set_self hi
      · rw [List.getElem?_set_ne e]
        exact h
    · have e : W.al[j]? = none := List.getElem?_eq_none hj
      have h' : W.al[j]? = some b := h
      rw [e] at h'
      cases h'
  refine ⟨⟨?_, t.tln, t.nod, fun j o b h1 h2 => ?_, fun b h => ?_, t.alh, tbs_mono t.tb fun _ h => .inl h⟩, l⟩
  · show W.al.length = (s.mo.set i .dead).length
    rw [List.length_set]
    exact t.len
  · have h1' : (s.mo.set i .dead)[j]? = some o := h1
    have h2' : W.al[j]? = some b := h2
    by_cases e : i = j
    · subst e
      rw [List.getElem?_set_self hi] at h1'
      cases h1'
      exact True.intro
    · rw [List.getElem?_set_ne e] at h1'
      exact mok_later l t (fun _ z => z) (t.mo j o b h1' h2')
  · have key : ∀ j : Nat, W.al[j]? = some b → (b = a → j = i) := fun j hj e => by
      subst e
      obtain ⟨q1, q2⟩ := List.getElem?_eq_some_iff.mp hj
      obtain ⟨q3, q4⟩ := List.getElem?_eq_some_iff.mp ha
      exact (List.getElem_inj t.nod).mp (q2.trans q4.symm)
    rcases h with h | h
    · obtain ⟨g1, g2, g3⟩ := t.fz b h
      refine ⟨g1, g2, fun j hj => ?_⟩
      show (s.mo.set i .dead)[j]? = some .dead
      by_cases e : i = j
      · subst e
        exact List.getElem?_set_self hi
      · rw [List.getElem?_set_ne e]
        exact g3 j hj
    · refine ⟨t.alh b (by rw [h]; exact List.mem_of_getElem? ha), fun o ho => n o (by rw [← h]; exact ho), fun j hj => ?_⟩
      have e := key j hj h
      subst e
      exact List.getElem?_set_self hi
theorem sst_dK {kvs : List (Key × V)} : ntb (.dK kvs) := fun _ z => nomatch z
theorem fz_ok {C : Cfg} {K : PySem.W.Frag} {W : Wd} {H : Hp} {s : S} {n : Nat} {d d' : D} {v : V} (t : StS C K W H s) (r : RD C K W H d v) (h : fzD n s d = some d') :
    ∃ W' s', Le W H s W' H s' ∧ StS C K W' H s' ∧ RD C K W' H d' v ∧ s'.tg = s.tg ∧ s'.mo.take n = s.mo.take n := by
  unfold fzD at h
  split at h
  · rename_i i
    split at h
    · cases h
      exact ⟨W, s, Le.refl, t, r, rfl, rfl⟩
    · rename_i hn
      obtain ⟨a, ha, e⟩ := r
      have tk : (s.mo.set i .dead).take n = s.mo.take n := by
        rw [List.take_set, List.set_eq_of_length_le]
        rw [List.length_take]
        omega
      split at h
      · rename_i xs hx
        cases h
        obtain ⟨vs, g1, g2, g3⟩ := t.mo i _ a hx ha
        obtain ⟨t2, l2⟩ := t.freeze ha (fun o ho => by rw [g1] at ho; cases ho; exact fun _ z => nomatch z)
        exact ⟨_, _, l2, t2, ⟨a, vs, e, .inr rfl, g1, g2.mono l2 t⟩, rfl, tk⟩
      · rename_i ks vs hx
        cases h
        obtain ⟨kvs, g1, g2, g3, g4⟩ := t.mo i _ a hx ha
        obtain ⟨t2, l2⟩ := t.freeze ha (fun o ho => by rw [g1] at ho; cases ho; exact fun _ z => nomatch z)
        exact ⟨_, _, l2, t2, ⟨a, _, e, .inr rfl, .inl ⟨kvs, g1, g2, rfl⟩, g3.mono l2 t⟩, rfl, tk⟩
      · rename_i k0 ks vs hx
        cases h
        obtain ⟨kvs, g1, g2, g3, g4⟩ := t.mo i _ a hx ha
        obtain ⟨t2, l2⟩ := t.freeze ha (fun o ho => by rw [g1] at ho; cases ho; exact fun _ z => nomatch z)
        exact ⟨_, _, l2, t2, ⟨a, _, e, .inr rfl, .inr ⟨kvs, g1, g2, rfl, by intro z; rw [z] at g2; cases g2⟩, g3.mono l2 t⟩, rfl, tk⟩
      · cases h
  · cases h
    exact ⟨W, s, Le.refl, t, r, rfl, rfl⟩
theorem back_eq {s s1 s2 : S} (h : s2.mo.take s.mo.length = s1.mo.take s.mo.length) (ht : s2.tg = s1.tg) : DV.back s s2 = DV.back s s1 := by
  unfold DV.back
  rw [h, ht]
/-- THE END OF A FRAME -/
theorem end_ok {C : Cfg} {K : PySem.W.Frag} {W W1 : Wd} {H H1 : Hp} {s s1 : S} {d : D} {v : V} {Q : VK} {E : XK} (t : StS C K W H s) (l : Le W H s W1 H1 s1) (t1 : StS C K W1 H1 s1) (r : RD C K W1 H1 d v)
    (h : match fin s d s1 with
      | .ok d s' => ∀ W' H' v, Le W H s W' H' s' → StS C K W' H' s' → RD C K W' H' d v → Q v H'
      | .exc c es s' => ∀ W' H' dd ws, Le W H s W' H' s' → StS C K W' H' s' → W'.F dd → H' dd = some (.xd ((C.cf c).zip ws)) → (C.cf c).length = ws.length → RDs C K W' H' es ws → E (.ref (C.ca c)) (some dd) H'
      | .stuck => False) : Q v H1 := by
  revert h
  unfold fin
  cases hf : fzD s.mo.length s1 d with
  | none => exact fun h => h.elim
  | some d' =>
    obtain ⟨W2, s2, l2, t2, r2, e1, e2⟩ := fz_ok t1 r hf
    have l3 := l.trans l2
    by_cases hlow : d'.low s.mo.length s.tg = true
    · simp only [if_pos hlow]
      intro h
      refine h (W.back W2) H1 v ?_ ?_ (RD.low (W := W2) (W' := W.back W2) (n := s.mo.length) (t := s.tg) rfl rfl rfl (fun _ z => z) (fun i hi => back_al l3 i (by rw [t.len]; exact hi)) (fun _ _ z => z) d' v hlow r2)
      · rw [← back_eq e2 e1]
        exact l3.back t
      · rw [← back_eq e2 e1]
        exact StS.back l3 t t2
    · simp only [if_neg hlow]
      exact fun h => h.elim
theorem RDs.start {C : Cfg} {K : PySem.W.Frag} {W : Wd} {H : Hp} {s : S} {N : List Str} {ds : List D} {vs : List V} (t : StS C K W H s) (r : RDs C K W H ds vs) : StE C K W H (L2.start N vs) (ds.map some ++ List.replicate (N.length - ds.length) none) s := by
  have e := r.length
  refine ⟨t, ?_, fun i d h => ?_⟩
  · unfold L2.start
    simp only [List.length_append, List.length_map, List.length_replicate, e]
  · by_cases hi : i < ds.length
    · rw [List.getElem?_append_left (by simpa using hi), List.getElem?_map] at h
      cases q : ds[i]? with
      | none => rw [q] at h; cases h
      | some d' =>
        rw [q] at h
        have e2 : d' = d := Option.some.inj (Option.some.inj h)
        subst e2
        obtain ⟨v, g1, g2⟩ := r.get q
        refine ⟨v, ?_, g2⟩
        unfold L2.start
        rw [List.getElem?_append_left (by simpa [← e] using hi), List.getElem?_map, g1]
        rfl
    · rw [List.getElem?_append_right (by simpa using hi), List.getElem?_replicate] at h
      split at h <;> cases h
/-- THE RULE of a def: its body -/
theorem fn_def {C : Cfg} {P : Program} {w : World} {K : PySem.W.Frag} {mg : Str → Option Value} {base : Heap} {k : Nat} {x qual : Str} {st : Stmt} {f : Addr} {fd : FuncData} {N ps : List Str} {body : Sx} (F : Fun K x qual st f fd) (S : FnScope N ps (defScope st))
    (hb : ∀ (cdv : Value) (A : Around) (outer : List PySem.Env) (s : Shared) (H : Hp) (E : XK), Room k (A.deeper (envOfC qual (defScope st) s.heap.objs.size f cdv)) →
      DSs C (cxOf (L2.CX P w) P w K mg base N qual (defScope st) f cdv A outer s H E) (fun c d _ H => E c d H) (defBody st) body) : FnOk P w K mg base (L2.CX P w) (k + 1) f fd ps (spD C K (runDef ps.length N.length body)) := by
  refine F.okX S (fun vs H Q E h => ?_) (fun cdv A outer s H vs Q E hr h => ?_)
  · obtain ⟨W, s, ds, t, r, q⟩ := h
    rw [← r.length]
    by_cases hn : ds.length = ps.length
    · exact hn
    · unfold runDef at q
      rw [if_neg hn] at q
      exact q.elim
  · obtain ⟨W, s0, ds, t, r, q⟩ := h
    refine ⟨_, hb cdv A outer s H E hr, W, _, s0, RDs.start t r, ?_⟩
    unfold runDef at q
    by_cases hn : ds.length = ps.length
    · rw [if_pos hn] at q
      revert q
      cases body (ds.map some ++ List.replicate (N.length - ds.length) none) s0 with
      | next e' s' => exact fun q W1 σ1 H1 l1 e1 => q (W.back W1) H1 .non (l1.back t) (StS.back l1 t e1.st) rfl
      | ret d s' => exact fun q W1 v H1 l1 t1 r1 => end_ok (E := E) t l1 t1 r1 q
      | exc c vs e' s' =>
        unfold endDef
        by_cases hlow : D.lows s0.mo.length s0.tg vs = true
        · simp only [if_pos hlow]
          intro q W1 σ1 H1 dd ws l1 e1 f1 g1 n1 r1
          exact q (W.back W1) H1 dd ws (l1.back t) (StS.back l1 t e1.st) f1 g1 n1 (RDs.low (W := W1) (W' := W.back W1) (n := s0.mo.length) (t := s0.tg) rfl rfl rfl (fun _ z => z) (fun i hi => back_al l1 i (by rw [t.len]; exact hi)) (fun _ _ z => z) vs ws hlow r1)
        · simp only [if_neg hlow]
          exact fun q => q.elim
      | brk _ _ => exact fun q => q.elim
      | cont _ _ => exact fun q => q.elim
      | stuck => exact fun q => q.elim
    · rw [if_neg hn] at q
      exact q.elim

section
variable {C : Cfg} {X : Cx} {Wx : WX} {e : Expr} {es : List Expr} {fa : Ax} {pos p : Pos} {x : Str} {k n : Nat} {f : Addr} {fd : FuncData} {ps : List Str} {F : S → List D → Out D}
/-- a function of data on values -/
def rc (C : Cfg) (K : PySem.W.Frag) (F : S → List D → Out D) : List V → Hp → VK → Prop := fun vs H Q => ∃ W s ds, StS C K W H s ∧ RDs C K W H ds vs ∧ match F s ds with
  | .ok d s' => ∀ W' H' v, Le W H s W' H' s' → StS C K W' H' s' → RD C K W' H' d v → Q v H'
  | _ => False
/-- never an exception -/
def noX (F : S → List D → Out D) : S → List D → Out D := fun s ds => match F s ds with
  | .ok d s' => .ok d s'
  | _ => .stuck
theorem tD_call {K : PySem.W.Frag} : ∀ σ H Q, tD C K Wx (xCall F fa) σ H Q → tAx C K Wx fa σ H fun vs H1 => spD C K F vs H1 Q (WE Wx σ) := fun σ H Q h => by
  obtain ⟨W, env, s, e, q⟩ := h
  refine ⟨W, env, s, e, Res.step q fun W1 H1 s1 ds vs l1 e1 h1 q1 => ⟨W1, s1, ds, e1.st, h1, ?_⟩⟩
  revert q1
  cases F s1 ds with
  | ok d s2 => exact fun q3 W2 H2 v l2 t2 r2 => q3 W2 H2 v l2 (e1.later l2 t2) r2
  | exc c vs s2 => exact fun q3 W2 H2 dd ws l2 t2 f2 g2 n2 r2 => q3 W2 H2 dd ws l2 (e1.later l2 t2) f2 g2 n2 r2
  | stuck => exact fun q3 => q3
theorem tD_callB {K : PySem.W.Frag} : ∀ σ H Q, tD C K Wx (xCall (noX F) fa) σ H Q → tAx C K Wx fa σ H fun vs H1 => rc C K F vs H1 Q := fun σ H Q h => by
  obtain ⟨W, env, s, e, q⟩ := h
  refine ⟨W, env, s, e, Res.step q fun W1 H1 s1 ds vs l1 e1 h1 q1 => ⟨W1, s1, ds, e1.st, h1, ?_⟩⟩
  revert q1
  unfold noX
  cases F s1 ds with
  | ok d s2 => exact fun q3 W2 H2 v l2 t2 r2 => q3 W2 H2 v l2 (e1.later l2 t2) r2
  | exc c vs s2 => exact fun q3 => q3
  | stuck => exact fun q3 => q3
/-- f(..), f a def -/
theorem de_call (G : FnOk X.prog X.w X.K X.mg X.base (L2.CX X.prog X.w) k f fd ps (spD C X.K F)) (hr : Room k X.A) (hg : Gl X x) (hm : X.mg x = some (.ref f)) (hk : PySem.W.keepIn X.K (.ref f) = true) (hb : Binds X.K fd ps []) (tk : Takes X Wx)
    (ha : DA C X Wx (e :: es) fa) (hdb : (x == ("__debug__" : Str)) = false := by decide) (he : starEach (e :: es) X.env = (false, eval e X.env) :: starEach es X.env := by rfl) (hpl : (backTo pos (starEach es X.env)).any (·.1) = false := by rfl) :
    DE C X Wx (.Call (.Name x p) (e :: es) [] pos) (xCall F fa) := PE.imp (pe_callS G hr hg hm hk hb (fun σ => passAt tk σ) ha hdb he hpl) tD_call
theorem de_callB {id : String} (hc : CallR X (.builtin id) (rc C X.K F)) (hg : Gl X x) (hm : X.mg x = none) (hv : bootBuiltins x = some (.builtin id)) (ha : DA C X Wx (e :: es) fa) (hn : x ≠ "__name__" := by decide) (hdb : (x == ("__debug__" : Str)) = false := by decide)
    (he : starEach (e :: es) X.env = (false, eval e X.env) :: starEach es X.env := by rfl) (hpl : (backTo pos (starEach es X.env)).any (·.1) = false := by rfl) : DE C X Wx (.Call (.Name x p) (e :: es) [] pos) (xCall (noX F) fa) :=
  PE.imp (pe_callB hc hg hm hv ha hn hdb he hpl) tD_callB
theorem de_callTy {T : String} (hc : CallR X (.type T) (rc C X.K F)) (hg : Gl X x) (hm : X.mg x = none) (hv : bootBuiltins x = some (.type T)) (ha : DA C X Wx (e :: es) fa) (hn : x ≠ "__name__" := by decide) (hdb : (x == ("__debug__" : Str)) = false := by decide)
    (he : starEach (e :: es) X.env = (false, eval e X.env) :: starEach es X.env := by rfl) (hpl : (backTo pos (starEach es X.env)).any (·.1) = false := by rfl) : DE C X Wx (.Call (.Name x p) (e :: es) [] pos) (xCall (noX F) fa) :=
  PE.imp (pe_callTy hc hg hm hv ha hn hdb he hpl) tD_callB
end
end DV
end
section
set_option Elab.async false
set_option linter.all false
set_option maxRecDepth 100000
/-! DL: what is walked, for, while, list comprehensions. -/
namespace DV
open PySem PySem.Spec PyProof.Rows L2

/-! ### frozen data stay -/
theorem Lf.rd {W W' : Wd} {H H' : Hp} (p : Lf W H W' H') {a : Addr} {u : HO} (h : W.F a) (e : Rd H a u) : Rd H' a u := by
  rcases e with e | ⟨o, e⟩
  · exact .inl (p.at_ a _ h e)
  · exact .inr ⟨o, p.at_ a _ h e⟩
section
variable {C : Cfg} {K : PySem.W.Frag} {W W' : Wd} {H H' : Hp} {s s' : S}
mutual
theorem RD.lf (p : Lf W H W' H') : ∀ (d : D) (v : V), RD C K W H d v → RD C K W' H' d v
  | .non, _, q => q
  | .bl _, _, q => q
  | .int _, _, q => q
  | .str _, _, q => q
  | .lst xs, v, q => by
    obtain ⟨a, vs, e, f, l, r⟩ := q
    exact ⟨a, vs, e, p.fz a f, p.at_ a _ f l, RDs.lf p xs vs r⟩
  | .tup xs, v, q => by
    obtain ⟨a, vs, e, f, l, r⟩ := q
    exact ⟨a, vs, e, p.fz a f, p.at_ a _ f l, RDs.lf p xs vs r⟩
  | .scr ns, v, q => by
    obtain ⟨a, e, f, l⟩ := q
    exact ⟨a, e, p.fz a f, p.rd f l⟩
  | .kl xs, v, q => by
    obtain ⟨a, vs, e, l, r⟩ := q
    exact ⟨a, vs, e, l, RDs.lf p xs vs r⟩
  | .dct ks vs, v, q => by
    obtain ⟨a, ws, e, f, l, r⟩ := q
    exact ⟨a, ws, e, p.fz a f, l.same fun o z => p.at_ a o f z, RDs.lf p vs ws r⟩
  | .ref i, v, q => by
    obtain ⟨a, l, e⟩ := q
    exact ⟨a, p.al i a l, e⟩
  | .inst c vs, v, q => by
    obtain ⟨a, dx, ws, e, f, l, n, r⟩ := q
    exact ⟨a, dx, ws, e, p.fz a f, p.at_ a _ f l, n, RDs.lf p vs ws r⟩
  | .fn i, v, q => by
    obtain ⟨a, e, r⟩ := q
    exact ⟨a, e, C.fa.st i a _ _ _ _ p.fz p.at_ r⟩
  | .tag i d, v, q => ⟨p.ts i v q.1, RD.lf p d v q.2⟩
  | .exn c vs, v, q => by
    obtain ⟨a, dx, ws, e, f, l, l2, n, r⟩ := q
    exact ⟨a, dx, ws, e, p.fz a f, p.at_ a _ f l, l2.mono p.fz p.at_, n, RDs.lf p vs ws r⟩
  | .lam i caps, v, q => by
    obtain ⟨e, a, e2, r⟩ := q
    exact ⟨e, a, e2, C.lr.st i a _ _ _ _ p r⟩
theorem RDs.lf (p : Lf W H W' H') : ∀ (ds : List D) (vs : List V), RDs C K W H ds vs → RDs C K W' H' ds vs
  | [], _, q => q
  | d :: ds, vs, q => by
    obtain ⟨v, r, e, h1, h2⟩ := q
    exact ⟨v, r, e, RD.lf p d v h1, RDs.lf p ds r h2⟩
end
/-- an object that nobody knows as data is written -/
theorem Lf.upd {p : Addr} {o : HO} (h : ¬ W.F p) : Lf W H W (upd H p o) :=
  ⟨fun _ h => h, fun _ _ h => h, fun _ _ h => h, fun a u f e => by
    have ne : a ≠ p := fun z => h (by rw [← z]; exact f)
    rw [upd_ne ne]
    exact e⟩
theorem mok_lf {a : Addr} {o : MO} (l : Lf W H W' H') (e : ∀ u, H a = some u → H' a = some u) (m : MOk C K W H a o) : MOk C K W' H' a o := by
  cases o with
  | lst xs =>
    obtain ⟨vs, h1, h2, h3⟩ := m
    exact ⟨vs, e _ h1, h2.lf l, h3⟩
  | dK ks vs =>
    obtain ⟨kvs, h1, h2, h3, h4⟩ := m
    exact ⟨kvs, e _ h1, h2, h3.lf l, h4⟩
  | dT ks vs =>
    obtain ⟨kvs, h1, h2, h3, h4⟩ := m
    exact ⟨kvs, e _ h1, h2, h3.lf l, h4⟩
  | ins c vs =>
    obtain ⟨dx, ws, h1, h2, h3, h4⟩ := m
    exact ⟨dx, ws, e _ h1, h2, h3.lf l, h4⟩
  | dead => exact True.intro
theorem StS.upd {p : Addr} {o : HO} (t : StS C K W H s) (h : ¬ W.F p) (hal : p ∉ W.al) (pl : plainAt H p) : StS C K W (upd H p o) s := by
  have l : Lf W H W (L2.upd H p o) := Lf.upd h
  refine ⟨t.len, t.tln, t.nod, fun i u a h1 h2 => ?_, fun a f => ?_, fun a ha => ?_, tabs_upd t.tb pl⟩
  · have ne : a ≠ p := fun z => hal (by rw [← z]; exact List.mem_of_getElem? h2)
    exact mok_lf l (fun v e => by rw [upd_ne ne]; exact e) (t.mo i u a h1 h2)
  · have ne : a ≠ p := fun z => h (by rw [← z]; exact f)
    rw [upd_ne ne]
    exact t.fz a f
  · have ne : a ≠ p := fun z => hal (by rw [← z]; exact ha)
    rw [upd_ne ne]
    exact t.alh a ha
theorem StE.upd {σ : L2.St} {env : Env} {p : Addr} {o : HO} (t : StE C K W H σ env s) (h : ¬ W.F p) (hal : p ∉ W.al) (pl : plainAt H p) : StE C K W (L2.upd H p o) σ env s :=
  ⟨t.st.upd h hal pl, t.sl, fun i d e => let ⟨v, a, b⟩ := t.sv i d e; ⟨v, a, b.lf (Lf.upd h)⟩⟩
end

/-! ### what is walked -/
/-- the items, and the object that must stand still meanwhile -/
structure Wk where
  items : List D
  src : List (Nat × List D)
abbrev Ix := Env → S → Out Wk
def Wk.same (w : Wk) (s : S) : Prop := ∀ p ∈ w.src, s.mo[p.1]? = some (.lst p.2)
noncomputable instance (w : Wk) (s : S) : Decidable (w.same s) := Classical.propDecidable _
/-- the iterator J gives these items, whatever else goes on -/
def Gives (C : Cfg) (K : PySem.W.Frag) (W : Wd) (H : Hp) (w : Wk) (J : It) : Prop :=
  ∀ s, StS C K W H s → ∀ W' H' s', Le W H s W' H' s' → StS C K W' H' s' → w.same s' → ∀ i : Nat, (i = w.items.length → J.stop i H') ∧
    ∀ d, w.items[i]? = some d → J.go i H' ∧ ∀ x H2, J.yld i H' x H2 → ∃ W2, Le W' H' s' W2 H2 s' ∧ StS C K W2 H2 s' ∧ RD C K W2 H2 d x
def tI (C : Cfg) (K : PySem.W.Frag) (Wx : WX) (f : Ix) : TI := fun σ H R => ∃ W env s, StE C K W H σ env s ∧ Res C K (Gives C K) Wx σ env W H s (f env s) R
def DI (C : Cfg) (X : Cx) (Wx : WX) (tg iter : Expr) (f : Ix) : Prop := PI X tg iter (tI C X.K Wx f)
theorem PI.imp {X : Cx} {tg e : Expr} {t t' : TI} (h : PI X tg e t) (f : ∀ σ H R, t' σ H R → t σ H R) : PI X tg e t' := ⟨fun pins s σ H R I q => h.run pins s σ H R I (f _ _ _ q)⟩
theorem PI.or {X : Cx} {tg e : Expr} {t t' : TI} (h : PI X tg e t) (h' : PI X tg e t') : PI X tg e (fun σ H R => t σ H R ∨ t' σ H R) := ⟨fun pins s σ H R I q => by
  rcases q with q | q
  · exact h.run pins s σ H R I q
  · exact h'.run pins s σ H R I q⟩

/-! ### for -/
/-- a turn's end, and what follows -/
def Fl.loop (r : Fl) (k : Env → S → Fl) : Fl := match r with
  | .next e s => k e s
  | .cont e s => k e s
  | .brk e s => .next e s
  | .ret d s => .ret d s
  | .exc c vs e s => .exc c vs e s
  | .stuck => .stuck
def Out.gt (o : Out Env) (k : Env → S → Fl) : Fl := match o with
  | .ok e s => k e s
  | _ => .stuck
noncomputable def forRun (g : Gx) (body : Sx) (w : Wk) : List D → Env → S → Fl
  | [], e, s => if w.same s then .next e s else .stuck
  | d :: ds, e, s => if w.same s then (g d e s).gt fun e1 s1 => (body e1 s1).loop (forRun g body w ds) else .stuck
noncomputable def sFor (ix : Ix) (g : Gx) (body : Sx) : Sx := fun e s => (ix e s).fl e fun w s => forRun g body w w.items e s
section
variable {C : Cfg} {X : Cx} {Wx : WX} {tg iter : Expr} {ix : Ix} {g : Gx} {body : List Stmt} {fb : Sx} {pos : Pos}
theorem tS_for {K : PySem.W.Frag} : ∀ D σ H, tS C K Wx (sFor ix g fb) D σ H → tFor (tI C K Wx ix) (tG C K g) (tS C K Wx fb) D σ H := fun D σ H h => by
  obtain ⟨W, env, s, e, q⟩ := h
  refine ⟨W, env, s, e, ?_⟩
  cases ho : ix env s with
  | exc c vs s1 =>
    unfold sFor at q
    rw [ho] at q
    exact fun W2 H2 dd ws q1 e1 => q W2 σ H2 dd ws q1 e1
  | stuck =>
    unfold sFor at q
    rw [ho] at q
    exact q
  | ok w s1 =>
    unfold sFor at q
    rw [ho] at q
    intro W1 H1 J l1 e1 giv
    have giv := giv s1 e1.st
    have q := ResS.later q l1
    have q : ResS C K Wx D W1 H1 s1 (forRun g fb w w.items env s1) := q
    refine ⟨fun i m σ' H' => m = w.items.length - i ∧ i ≤ w.items.length ∧ ∃ W2 env2 s2, Le W1 H1 s1 W2 H' s2 ∧ StE C K W2 H' σ' env2 s2 ∧ ResS C K Wx D W2 H' s2 (forRun g fb w (w.items.drop i) env2 s2), ⟨w.items.length, by omega, Nat.zero_le _, W1, env, s1, Le.refl, e1, q⟩, ?_⟩
    rintro i m σ2 H2 ⟨rfl, hi, W2, env2, s2, l2, e2, q2⟩
    have gv := giv W2 H2 s2 l2 e2.st
    by_cases hlt : i < w.items.length
    · have hd : w.items.drop i = w.items[i] :: w.items.drop (i + 1) := List.drop_eq_getElem_cons hlt
      rw [hd] at q2
      unfold forRun at q2
      by_cases hs : w.same s2
      · rw [if_pos hs] at q2
        obtain ⟨_, h2⟩ := gv hs i
        obtain ⟨go, yl⟩ := h2 _ (List.getElem?_eq_getElem hlt)
        refine .inr ⟨go, fun σ' H' => i + 1 ≤ w.items.length ∧ ∃ W3 env3 s3, Le W1 H1 s1 W3 H' s3 ∧ StE C K W3 H' σ' env3 s3 ∧ ResS C K Wx D W3 H' s3 (forRun g fb w (w.items.drop (i + 1)) env3 s3),
          fun σ' H' ⟨a, b⟩ => ⟨w.items.length - (i + 1), by omega, rfl, a, b⟩, fun x H3 y => ?_⟩
        obtain ⟨W3, l3, t3, r3⟩ := yl x H3 y
        have e3 := e2.later l3 t3
        refine ⟨W3, env2, s2, _, e3, r3, ?_⟩
        revert q2
        cases g w.items[i] env2 s2 with
        | ok e4 s4 =>
          intro q2 W4 σ4 H4 l4 e4'
          refine ⟨W4, e4, s4, e4', ?_⟩
          have l5 := (l2.trans l3).trans l4
          have q2 : ResS C K Wx D W4 H4 s4 ((fb e4 s4).loop (forRun g fb w (w.items.drop (i + 1)))) := ResS.later q2 (l3.trans l4)
          revert q2
          cases fb e4 s4 with
          | next e5 s5 => exact fun q2 W5 σ5 H5 l6 e6 => ⟨hlt, W5, e5, s5, l5.trans l6, e6, ResS.later q2 l6⟩
          | cont e5 s5 => exact fun q2 W5 σ5 H5 l6 e6 => ⟨hlt, W5, e5, s5, l5.trans l6, e6, ResS.later q2 l6⟩
          | brk e5 s5 => exact fun q2 => q2
          | ret d s5 => exact fun q2 => q2
          | exc _ _ _ _ => exact fun q2 => q2
          | stuck => exact fun q2 => q2
        | exc _ _ _ => exact fun q2 => q2.elim
        | stuck => exact fun q2 => q2.elim
      · rw [if_neg hs] at q2
        exact q2.elim
    · have hi' : i = w.items.length := by omega
      subst hi'
      rw [List.drop_length] at q2
      unfold forRun at q2
      by_cases hs : w.same s2
      · rw [if_pos hs] at q2
        exact .inl ⟨(gv hs _).1 rfl, ResS.here q2 e2⟩
      · rw [if_neg hs] at q2
        exact q2.elim
theorem ds_for (hp : PassesOwn (model X.prog X.w) X.A X.env X.xe) (hc : X.calm = true) (hi : DI C X Wx tg iter ix) (hg : DG C X tg g) (hb : DSs C X Wx body fb) (hs : ∀ x, foldedSetIterable iter X.env x = pure x := by intro _; rfl) :
    DS C X Wx (.For tg iter body [] pos) (sFor ix g fb) := PS.imp (ps_for hp hc hi hg hb hs) tS_for
end

/-! ### while -/
def whileRun (t : Tx) (body : Sx) : Nat → Env → S → Fl
  | 0, _, _ => .stuck
  | n + 1, e, s => (t e s).fl e fun b s1 => if b = true then (body e s1).loop (whileRun t body n) else .next e s1
def sWhile (n : Nat) (t : Tx) (body : Sx) : Sx := fun e s => whileRun t body n e s
section
variable {C : Cfg} {X : Cx} {Wx : WX} {c : Expr} {ft : Tx} {body : List Stmt} {fb : Sx} {pos : Pos} {n : Nat}
theorem tS_while {K : PySem.W.Frag} : ∀ D σ H, tS C K Wx (sWhile n ft fb) D σ H → tWhile (tT C K Wx ft) (tS C K Wx fb) D σ H := fun D σ H h => by
  obtain ⟨W, env, s, e, q⟩ := h
  refine ⟨fun m σ' H' => ∃ W2 env2 s2, StE C K W2 H' σ' env2 s2 ∧ ResS C K Wx D W2 H' s2 (whileRun ft fb m env2 s2), ⟨n, W, env, s, e, q⟩, ?_⟩
  rintro m σ2 H2 ⟨W2, env2, s2, e2, q2⟩
  cases m with
  | zero => exact q2.elim
  | succ m =>
    unfold whileRun at q2
    refine ⟨W2, env2, s2, e2, Res.fl q2 fun W3 H3 s3 b b' l3 e3 h3 q3 => ?_⟩
    have h4 : b = b' := h3
    subst h4
    cases b with
    | false => exact ResS.here q3 e3
    | true =>
      rw [if_pos rfl] at q3 ⊢
      refine ⟨fun σ' H' => ∃ W4 env4 s4, StE C K W4 H' σ' env4 s4 ∧ ResS C K Wx D W4 H' s4 (whileRun ft fb m env4 s4), fun σ' H' z => ⟨m, Nat.lt_succ_self _, z⟩, W3, env2, s3, e3, ?_⟩
      revert q3
      cases fb env2 s3 with
      | next e5 s5 => exact fun q3 W5 σ5 H5 l5 e6 => ⟨W5, e5, s5, e6, ResS.later q3 l5⟩
      | cont e5 s5 => exact fun q3 W5 σ5 H5 l5 e6 => ⟨W5, e5, s5, e6, ResS.later q3 l5⟩
      | brk e5 s5 => exact fun q3 => q3
      | ret d s5 => exact fun q3 => q3
      | exc _ _ _ _ => exact fun q3 => q3
      | stuck => exact fun q3 => q3
theorem ds_while (hp : PassesOwn (model X.prog X.w) X.A X.env X.xe) (hc : DT C X Wx c ft) (hb : DSs C X Wx body fb) : DS C X Wx (.While c body [] pos) (sWhile n ft fb) := PS.imp (ps_while hp hc hb) tS_while
end

/-! ### new lists: nobody's yet -/
theorem Le.addF {H H' : Hp} {W W' : Wd} {s s' : S} {p : Addr} (l : Le W H s W' H' s') (hD : H p = none) : Le W H s (W'.add p) H' s' :=
  ⟨fun a h => .inl (l.fz a h), l.al, l.ts, l.ext, l.dom, l.ded, l.new, fun a h => Or.elim h (l.nw a) fun z => .inr (.inl (by rw [z]; exact hD))⟩
theorem StE.addF {C : Cfg} {K : PySem.W.Frag} {H : Hp} {W : Wd} {s : S} {p : Addr} {σ : L2.St} {env : Env} (t : StE C K W H σ env s) (h1 : H p ≠ none) (h2 : ∀ o, H p = some o → ntb o) (h3 : p ∉ W.al) : StE C K (W.add p) H σ env s := by
  have l : Lf W H (W.add p) H := ⟨fun _ h => .inl h, fun _ _ h => h, fun _ _ h => h, fun _ _ _ h => h⟩
  refine ⟨⟨t.st.len, t.st.tln, t.st.nod, fun i o a g1 g2 => mok_lf l (fun _ z => z) (t.st.mo i o a g1 g2), fun a h => ?_, t.st.alh, tbs_mono t.st.tb fun _ h => .inl h⟩, t.sl, fun i d e => let ⟨v, a, b⟩ := t.sv i d e; ⟨v, a, b.lf l⟩⟩
  rcases h with h | h
  · exact t.st.fz a h
  · rw [h]
    exact ⟨h1, h2, fun i hi => absurd (List.mem_of_getElem? (show W.al[i]? = some p from hi)) h3⟩
/-- an object that is nobody's becomes one that changes -/
def Wd.own (W : Wd) (p : Addr) : Wd := ⟨W.F, W.al ++ [p], W.ts⟩
def S.own (s : S) (o : MO) : S := ⟨s.mo ++ [o], s.tg⟩
theorem Lf.own {H : Hp} {W : Wd} {p : Addr} : Lf W H (W.own p) H := ⟨fun _ h => h, fun i a h => by
  show (W.al ++ [p])[i]? = some a
  rw [List.getElem?_append_left (List.getElem?_eq_some_iff.mp h).1]
  exact h, fun _ _ h => h, fun _ _ _ h => h⟩
theorem Le.own {H H' : Hp} {W W' : Wd} {s s' : S} {p : Addr} {o : MO} (l : Le W H s W' H' s') (e : W'.al.length = s'.mo.length) (hp : H p = none) : Le W H s (W'.own p) H' (s'.own o) := by
  refine ⟨l.fz, fun i a h => Lf.own.al (H := H') i a (l.al i a h), l.ts, l.ext, l.dom, fun i h => ?_, fun i a hi h => ?_, l.nw⟩
  · have h2 := l.ded i h
    show (s'.mo ++ [o])[i]? = some .dead
    rw [List.getElem?_append_left (List.getElem?_eq_some_iff.mp h2).1]
    exact h2
  · have h2 : (W'.al ++ [p])[i]? = some a := h
    by_cases hl : i < W'.al.length
    · rw [List.getElem?_append_left hl] at h2
      exact l.new i a hi h2
    · rw [List.getElem?_append_right (Nat.le_of_not_lt hl)] at h2
      have h3 := List.mem_of_getElem? h2
      have h4 : a = p := by simpa using h3
      rw [h4]
      exact hp
theorem StE.own {C : Cfg} {K : PySem.W.Frag} {H : Hp} {W : Wd} {s : S} {p : Addr} {o : MO} {σ : L2.St} {env : Env} (t : StE C K W H σ env s) (h1 : H p ≠ none) (h2 : ¬ W.F p) (h3 : p ∉ W.al) (m : MOk C K (W.own p) H p o) : StE C K (W.own p) H σ env (s.own o) := by
  have lf : Lf W H (W.own p) H := Lf.own
  refine ⟨⟨?_, t.st.tln, ?_, fun i u a g1 g2 => ?_, fun a h => ?_, fun a ha => ?_, tbs_mono t.st.tb fun _ h => h⟩, t.sl, fun i d e => let ⟨v, a, b⟩ := t.sv i d e; ⟨v, a, b.lf lf⟩⟩
  · show (W.al ++ [p]).length = (s.mo ++ [o]).length
    rw [List.length_append, List.length_append, t.st.len]
    rfl
  · show (W.al ++ [p]).Nodup
    refine List.nodup_append.mpr ⟨t.st.nod, by simp, fun a ha b hb => ?_⟩
    have e : b = p := by simpa using hb
    rw [e]
    exact fun z => h3 (by rw [← z]; exact ha)
  · have g1' : (s.mo ++ [o])[i]? = some u := g1
    have g2' : (W.al ++ [p])[i]? = some a := g2
    by_cases hl : i < W.al.length
    · rw [List.getElem?_append_left (by rw [← t.st.len]; exact hl)] at g1'
      rw [List.getElem?_append_left hl] at g2'
      exact mok_lf lf (fun _ z => z) (t.st.mo i u a g1' g2')
    · have hl' := Nat.le_of_not_lt hl
      rw [List.getElem?_append_right (by rw [← t.st.len]; exact hl')] at g1'
      rw [List.getElem?_append_right hl'] at g2'
      have e1 : u = o := by simpa using List.mem_of_getElem? g1'
      have e2 : a = p := by simpa using List.mem_of_getElem? g2'
      rw [e1, e2]
      exact m
  · obtain ⟨g1, g2, g3⟩ := t.st.fz a h
    refine ⟨g1, g2, fun i hi => ?_⟩
    have hi' : (W.al ++ [p])[i]? = some a := hi
    by_cases hl : i < W.al.length
    · rw [List.getElem?_append_left hl] at hi'
      show (s.mo ++ [o])[i]? = some .dead
      rw [List.getElem?_append_left (by rw [← t.st.len]; exact hl)]
      exact g3 i hi'
    · rw [List.getElem?_append_right (Nat.le_of_not_lt hl)] at hi'
      have e2 : a = p := by simpa using List.mem_of_getElem? hi'
      exact absurd (by rw [← e2]; exact h) h2
  · have ha' : a ∈ W.al ++ [p] := ha
    rcases List.mem_append.mp ha' with z | z
    · exact t.st.alh a z
    · have e2 : a = p := by simpa using z
      rw [e2]
      exact h1
def tN (C : Cfg) (K : PySem.W.Frag) (Wx : WX) (f : Ax) : TE := fun σ H Q => ∃ W env s, StE C K W H σ env s ∧ match f env s with
  | .ok ds s' => ∀ W' H' p vs, Le W H s W' H' s' → StE C K W' H' σ env s' → ¬ W'.F p → p ∉ W'.al → H p = none → H' p = some (.lst vs) → RDs C K W' H' ds vs → Q (.ref p) H'
  | .exc c vs s' => ∀ W' H' dd ws, Le W H s W' H' s' → StE C K W' H' σ env s' → W'.F dd → H' dd = some (.xd ((C.cf c).zip ws)) → (C.cf c).length = ws.length → RDs C K W' H' vs ws → Wx (.ref (C.ca c)) (some dd) σ H'
  | .stuck => False
/-- an expression that makes a new list -/
def NE (C : Cfg) (X : Cx) (Wx : WX) (e : Expr) (f : Ax) : Prop := PE X e (tN C X.K Wx f)
/-- .. that nobody writes any more -/
def xFz (f : Ax) : Ex := fun e s => (f e s).bind fun ds s => .ok (.lst ds) s
/-- .. that is written later -/
def xOwn (f : Ax) : Ex := fun e s => (f e s).bind fun ds s => if D.lows 0 0 ds = true then .ok (.ref s.mo.length) (s.own (.lst ds)) else .stuck
section
variable {C : Cfg} {X : Cx} {Wx : WX} {e : Expr} {f : Ax}
theorem NE.fz (h : NE C X Wx e f) : DE C X Wx e (xFz f) := PE.imp h fun σ H Q h => by
  obtain ⟨W, env, s, e, q⟩ := h
  refine ⟨W, env, s, e, ?_⟩
  unfold xFz at q
  revert q
  cases f env s with
  | ok ds s' =>
    intro q W' H' p vs l e1 n1 n2 hp h1 r
    have lf : Lf W' H' (W'.add p) H' := ⟨fun _ h => .inl h, fun _ _ h => h, fun _ _ h => h, fun _ _ _ h => h⟩
    exact q _ _ (.ref p) (l.addF hp) (e1.addF (by rw [h1]; exact fun z => nomatch z) (fun o z => by rw [h1] at z; cases z; exact fun _ z => nomatch z) n2) ⟨p, vs, rfl, .inr rfl, h1, r.lf lf⟩
  | exc c vs s' => exact fun q => q
  | stuck => exact fun q => q
theorem NE.own (h : NE C X Wx e f) : DE C X Wx e (xOwn f) := PE.imp h fun σ H Q h => by
  obtain ⟨W, env, s, e, q⟩ := h
  refine ⟨W, env, s, e, ?_⟩
  unfold xOwn at q
  revert q
  cases f env s with
  | ok ds s' =>
    intro q W' H' p vs l e1 n1 n2 hp h1 r
    have q : Res C X.K (fun W H => RD C X.K W H) Wx σ env W H s (if D.lows 0 0 ds = true then .ok (.ref s'.mo.length) (s'.own (.lst ds)) else .stuck) Q := q
    by_cases hz : D.lows 0 0 ds = true
    · rw [if_pos hz] at q
      refine q (W'.own p) H' (.ref p) (l.own e1.st.len hp) (e1.own (by rw [h1]; exact fun z => nomatch z) n1 n2 ⟨vs, h1, r.lf Lf.own, hz⟩) ⟨p, ?_, rfl⟩
      show (W'.al ++ [p])[s'.mo.length]? = some p
      rw [← e1.st.len, List.getElem?_append_right (Nat.le_refl _), Nat.sub_self]
      rfl
    · rw [if_neg hz] at q
      exact q.elim
  | exc c vs s' => exact fun q => q
  | stuck => exact fun q => q
/-- a new list is laid -/
theorem new_n {K : PySem.W.Frag} {W : Wd} {H : Hp} {s : S} {σ : L2.St} {env : Env} {ds : List D} {vs : List V} {Q : VK} (H0 : Hp) (h0 : ∀ p, H p = none → H0 p = none) (t : StE C K W H σ env s) (r : RDs C K W H ds vs)
    (q : ∀ W' H' p vs, Le W H s W' H' s → StE C K W' H' σ env s → ¬ W'.F p → p ∉ W'.al → H0 p = none → H' p = some (.lst vs) → RDs C K W' H' ds vs → Q (.ref p) H') : ∀ p, H p = none → Q (.ref p) (L2.upd H p (.lst vs)) := fun p hp => by
  have nF : ¬ W.F p := fun z => (t.st.fz p z).1 hp
  have nA : p ∉ W.al := fun z => t.st.alh p z hp
  have l : Le W H s W (L2.upd H p (.lst vs)) s := ⟨fun _ h => h, fun _ _ h => h, fun _ _ h => h, fun a o h n l => by
    rw [upd_ne (ne_of_none h hp)]
    exact h, fun a h => by
    by_cases z : a = p
    · rw [z, upd_same]
      exact (fun z => nomatch z)
    · rw [upd_ne z]
      exact h, fun _ h => h, (fun i a hi h => by
      rw [List.getElem?_eq_none hi] at h
      cases h), fun _ h => .inl h⟩
  exact q W _ p vs l (t.upd nF nA (.none hp)) nF nA (h0 p hp) upd_same (r.lf (Lf.upd nF))
end

/-! ### list comprehensions -/
def wipeE (e : Env) : List Nat → Env
  | [] => e
  | v :: vs => (wipeE e vs).set v none
/-- a comprehension's target: one name, or several -/
inductive CT where
  | one (i : Nat) | many (is : List Nat)
def setAll : Env → List Nat → List D → Env
  | e, i :: is, d :: ds => setAll (e.set i (some d)) is ds
  | e, _, _ => e
def setAllV : L2.St → List Nat → List V → L2.St
  | e, i :: is, d :: ds => setAllV (e.set i (some d)) is ds
  | e, _, _ => e
def CT.bind (c : CT) (d : D) (e : Env) (s : S) : Option Env := match c with
  | .one i => some (e.set i (some d))
  | .many is => match view s d with
    | .tup xs => if xs.length = is.length then some (setAll e is xs) else none
    | .lst xs => if xs.length = is.length then some (setAll e is xs) else none
    | _ => none
def CT.slots : CT → List Nat
  | .one i => [i]
  | .many is => is
def gsN : List Nat → TGs
  | [] => gNil
  | i :: is => gCons (gName i) (gsN is)
/-- what the target is to the layer -/
def CT.ok (X : Cx) (tg : Expr) : CT → Prop
  | .one i => PG X tg (gName i)
  | .many is => PG X tg (gTup X.K is.length (gsN is)) ∧ PG X tg (gLst X.K is.length (gsN is))
def CT.tg (K : PySem.W.Frag) : CT → TG
  | .one i => gName i
  | .many is => fun v σ H Q => gTup K is.length (gsN is) v σ H Q ∨ gLst K is.length (gsN is) v σ H Q
theorem CT.pg {X : Cx} {tg : Expr} {c : CT} (h : c.ok X tg) : PG X tg (c.tg X.K) := by
  cases c with
  | one i => exact h
  | many is => exact PG.or h.1 h.2
noncomputable def compRun (c : CT) (t : Tx) (f : Ex) (vs : List Nat) (w : Wk) (e : Env) : List D → List D → S → Out (List D)
  | [], acc, s => if w.same s then .ok acc s else .stuck
  | d :: ds, acc, s => if w.same s then (match c.bind d (wipeE e vs) s with
    | some e1 => (t e1 s).bind fun b s1 => if b = true then (f e1 s1).bind fun y s2 => if acc.length < sizeLine then compRun c t f vs w e ds (acc ++ [y]) s2 else .stuck else compRun c t f vs w e ds acc s1
    | none => .stuck) else .stuck
/-- nothing is raised within a comprehension -/
def Out.lst (o : Out (List D)) : Out (List D) := match o with
  | .ok xs s => .ok xs s
  | _ => .stuck
noncomputable def aComp (ix : Ix) (c : CT) (t : Tx) (f : Ex) (vs : List Nat) : Ax := fun e s => (ix e s).bind fun w s => (compRun c t f vs w e w.items [] s).lst
def tAll : Tx := fun _ s => .ok true s
abbrev W0 : WX := fun _ _ _ _ => False
theorem wipe_setV {σ : L2.St} {i : Nat} {v : V} : ∀ {vs : List Nat}, i ∈ vs → wipe (σ.set i (some v)) vs = wipe σ vs
  | [], h => by simp at h
  | u :: vs, h => by
    show (wipe (σ.set i (some v)) vs).set u none = (wipe σ vs).set u none
    by_cases hm : i ∈ vs
    · rw [wipe_setV hm]
    · have e : i = u := by
        rcases List.mem_cons.mp h with h | h
        · exact h
        · exact absurd h hm
      subst e
      have key : ∀ (ws : List Nat), i ∉ ws → wipe (σ.set i (some v)) ws = (wipe σ ws).set i (some v) := by
        intro ws
        induction ws with
        | nil => intro _; rfl
        | cons a ws ih =>
          intro hn
          have n1 : i ≠ a := fun z => hn (by rw [z]; exact List.mem_cons_self)
          show (wipe (σ.set i (some v)) ws).set a none = ((wipe σ ws).set a none).set i (some v)
          rw [ih (fun z => hn (List.mem_cons_of_mem _ z)), List.set_comm _ _ n1]
      rw [key vs hm, List.set_set]
theorem wipe_idem {σ : L2.St} : ∀ {vs : List Nat}, wipe (wipe σ vs) vs = wipe σ vs := by
  have key : ∀ (vs ws : List Nat) (σ : L2.St), wipe (wipe σ ws) vs = wipe (wipe σ vs) ws := by
    intro vs
    induction vs with
    | nil => intro ws σ; rfl
    | cons a vs ih =>
      intro ws σ
      show (wipe (wipe σ ws) vs).set a none = wipe ((wipe σ vs).set a none) ws
      rw [ih]
      generalize wipe σ vs = τ
      induction ws with
      | nil => rfl
      | cons b ws ih2 =>
        show ((wipe τ ws).set b none).set a none = (wipe (τ.set a none) ws).set b none
        rw [← ih2]
        by_cases e : a = b
        · rw [e]
        · rw [List.set_comm _ _ (Ne.symm e)]
  intro vs
  induction vs with
  | nil => rfl
  | cons a vs ih =>
    show (wipe ((wipe σ vs).set a none) vs).set a none = (wipe σ vs).set a none
    have h := key vs [a] (wipe σ vs)
    have h' : wipe ((wipe σ vs).set a none) vs = (wipe (wipe σ vs) vs).set a none := h
    rw [h', ih, List.set_set]
theorem StE.wipe {C : Cfg} {K : PySem.W.Frag} {σ : L2.St} {env : Env} {W : Wd} {H : Hp} {s : S} (e : StE C K W H σ env s) : ∀ vs : List Nat, StE C K W H (L2.wipe σ vs) (wipeE env vs) s
  | [] => e
  | v :: vs => (StE.wipe e vs).unset v
theorem gsN_of {is : List Nat} : ∀ {vs : List V} {σ : L2.St} {H : Hp} {Q : L2.St → Hp → Prop}, vs.length = is.length → Q (setAllV σ is vs) H → gsN is vs σ H Q := by
  induction is with
  | nil =>
    intro vs σ H Q h q
    cases vs with
    | nil => exact ⟨rfl, q⟩
    | cons _ _ => cases h
  | cons i is ih =>
    intro vs σ H Q h q
    cases vs with
    | nil => cases h
    | cons v vs => exact ⟨v, vs, rfl, ih (by simpa using h) q⟩
theorem StE.setAll {C : Cfg} {K : PySem.W.Frag} {W : Wd} {H : Hp} {s : S} : ∀ {is : List Nat} {σ : L2.St} {env : Env} {ds : List D} {vs : List V}, StE C K W H σ env s → RDs C K W H ds vs → StE C K W H (setAllV σ is vs) (DV.setAll env is ds) s
  | [], σ, env, ds, vs, e, r => by
    cases ds <;> cases vs <;> exact e
  | i :: is, σ, env, [], vs, e, r => by
    have h : vs = [] := r
    subst h
    exact e
  | i :: is, σ, env, d :: ds, vs, e, r => by
    obtain ⟨v, rs, rfl, h1, h2⟩ := r
    show StE C K W H (setAllV (σ.set i (some v)) is rs) (DV.setAll (env.set i (some d)) is ds) s
    exact StE.setAll (e.set i h1) h2
theorem wipe_setAll : ∀ {is : List Nat} {σ : L2.St} {vs : List V} {ws : List Nat}, (∀ i ∈ is, i ∈ ws) → wipe (setAllV σ is vs) ws = wipe σ ws
  | [], σ, vs, ws, h => by cases vs <;> rfl
  | i :: is, σ, [], ws, h => rfl
  | i :: is, σ, v :: vs, ws, h => by
    show wipe (setAllV (σ.set i (some v)) is vs) ws = wipe σ ws
    rw [wipe_setAll (fun j hj => h j (List.mem_cons_of_mem _ hj)), wipe_setV (h i List.mem_cons_self)]
/-- the target takes the item -/
theorem CT.take {C : Cfg} {K : PySem.W.Frag} {W : Wd} {H : Hp} {σ : L2.St} {env e1 : Env} {s : S} {c : CT} {d : D} {x : V} {ws : List Nat} {Q : L2.St → Hp → Prop} (e : StE C K W H σ env s) (r : RD C K W H d x) (h : c.bind d env s = some e1) (hw : ∀ i ∈ c.slots, i ∈ ws)
    (q : ∀ σ2, StE C K W H σ2 e1 s → L2.wipe σ2 ws = L2.wipe σ ws → Q σ2 H) : c.tg K x σ H Q := by
  cases c with
  | one i =>
    cases h
    exact q _ (e.set i r) (wipe_setV (hw i (List.mem_cons_self)))
  | many is =>
    have z := see_of e.st r
    have h : (match view s d with
      | .tup xs => if xs.length = is.length then some (DV.setAll env is xs) else none
      | .lst xs => if xs.length = is.length then some (DV.setAll env is xs) else none
      | _ => none) = some e1 := h
    cases hv : view s d with
    | tup xs =>
      rw [hv] at z h
      obtain ⟨a, vs, e2, l, rs⟩ := z
      by_cases hl : xs.length = is.length
      · simp only [if_pos hl] at h
        cases h
        have hl2 : vs.length = is.length := by rw [← rs.length]; exact hl
        exact .inl ⟨a, vs, e2, SqT.of l, hl2, gsN_of hl2 (q _ (e.setAll rs) (wipe_setAll hw))⟩
      · simp only [if_neg hl] at h
        cases h
    | lst xs =>
      rw [hv] at z h
      obtain ⟨a, vs, e2, l, rs⟩ := z
      by_cases hl : xs.length = is.length
      · simp only [if_pos hl] at h
        cases h
        have hl2 : vs.length = is.length := by rw [← rs.length]; exact hl
        exact .inr ⟨a, vs, e2, SqL.of l, hl2, gsN_of hl2 (q _ (e.setAll rs) (wipe_setAll hw))⟩
      · simp only [if_neg hl] at h
        cases h
    | _ =>
      rw [hv] at h
      cases h
section
variable {C : Cfg} {X : Cx} {Wx : WX} {tg iter elt : Expr} {ix : Ix} {c : CT} {ft : Tx} {fe : Ex} {pos : Pos} {vs : List Nat}
theorem Le.fresh {H : Hp} {W : Wd} {s : S} {p : Addr} {o : HO} (hD : H p = none) : Le W H s W (L2.upd H p o) s := by
  refine ⟨fun _ h => h, fun _ _ h => h, fun _ _ h => h, fun a o h n l => ?_, fun a h => ?_, fun _ h => h, fun i a hi h => ?_, fun _ h => .inl h⟩
  · rw [upd_ne (ne_of_none h hD)]
    exact h
  · by_cases z : a = p
    · rw [z, upd_same]
      exact fun z => nomatch z
    · rw [upd_ne z]
      exact h
  · rw [List.getElem?_eq_none hi] at h
    cases h
/-- from a state in which p did not stand: p may be written -/
theorem Le.over {H H' : Hp} {W W' : Wd} {s s' : S} {p : Addr} {o : HO} (l : Le W H s W' H' s') (hD : H p = none) : Le W H s W' (L2.upd H' p o) s' := by
  refine ⟨l.fz, l.al, l.ts, fun a u h n q => ?_, fun a h => ?_, l.ded, l.new, l.nw⟩
  · rw [upd_ne (ne_of_none h hD)]
    exact l.ext a u h n q
  · by_cases z : a = p
    · rw [z, upd_same]
      exact fun z => nomatch z
    · rw [upd_ne z]
      exact l.dom a h
theorem tN_comp {K : PySem.W.Frag} (hw : ∀ i ∈ c.slots, i ∈ vs) : ∀ σ H Q, tN C K Wx (aComp ix c ft fe vs) σ H Q → tLc (tI C K Wx ix) (c.tg K) (tT C K W0 ft) (tD C K W0 fe) vs σ H Q := fun σ H Q h => by
  obtain ⟨W, env, s, e, q⟩ := h
  refine ⟨W, env, s, e, ?_⟩
  unfold aComp at q
  cases hix : ix env s with
  | exc c vs s1 =>
    rw [hix] at q
    exact q
  | stuck =>
    rw [hix] at q
    exact q
  | ok w s1 =>
  rw [hix] at q
  intro W1 H1 J l1 e1 giv
  have giv := giv s1 e1.st
  intro D hD
  have nF : ¬ W1.F D := fun z => (e1.st.fz D z).1 hD
  have nA : D ∉ W1.al := fun z => e1.st.alh D z hD
  have ntl : ∀ xs : List V, ntb (.lst xs) := fun _ _ z => nomatch z
  -- what stays true between two turns
  let Inv1 : Nat → Hp → Prop := fun i H' => ∃ W2 s2 acc av, Le W1 H1 s1 W2 H' s2 ∧ StE C K W2 H' σ env s2 ∧ ¬ W2.F D ∧ D ∉ W2.al ∧ H' D = some (.lst av) ∧ RDs C K W2 H' acc av ∧
      (∃ xs s3, compRun c ft fe vs w env (w.items.drop i) acc s2 = .ok xs s3 ∧ ∀ W' H'' p vs, Le W1 H1 s1 W' H'' s3 → StE C K W' H'' σ env s3 → ¬ W'.F p → p ∉ W'.al → H1 p = none → H'' p = some (.lst vs) → RDs C K W' H'' xs vs → Q (.ref p) H'')
  have key : ∃ xs s3, compRun c ft fe vs w env w.items [] s1 = .ok xs s3 ∧ ∀ W' H'' p vs, Le W1 H1 s1 W' H'' s3 → StE C K W' H'' σ env s3 → ¬ W'.F p → p ∉ W'.al → H1 p = none → H'' p = some (.lst vs) → RDs C K W' H'' xs vs → Q (.ref p) H'' := by
    revert q
    show (match (compRun c ft fe vs w env w.items [] s1).lst with
      | .ok ds s' => _
      | .exc c vs s' => _
      | .stuck => False) → _
    cases compRun c ft fe vs w env w.items [] s1 with
    | ok xs s3 => exact fun q => ⟨xs, s3, rfl, fun W' H'' p vs l => fun a b d g => q W' H'' p vs (l1.trans l) a b d (l1.wasNone g)⟩
    | exc _ _ _ => exact fun q => q.elim
    | stuck => exact fun q => q.elim
  refine ⟨fun i m H' => m = w.items.length - i ∧ i ≤ w.items.length ∧ Inv1 i H', ⟨w.items.length, by omega, Nat.zero_le _, W1, s1, [], [], Le.fresh hD, e1.upd nF nA (.none hD), nF, nA, upd_same, rfl, key⟩, ?_⟩
  rintro i m H2 ⟨rfl, hi, W2, s2, acc, av, l2, e2, nF2, nA2, hD2, r2, xs, s3, hrun, fin⟩
  have gv := giv W2 H2 s2 l2 e2.st
  -- D is out of the reach of what is evaluated
  have outF : ∀ {W5 : Wd} {H5 : Hp} {s5 : S}, Le W2 H2 s2 W5 H5 s5 → ¬ W5.F D ∧ D ∉ W5.al ∧ H5 D = some (.lst av) := fun {W5 H5 s5} l5 => by
    refine ⟨fun z => ?_, fun z => ?_, l5.ext D _ hD2 (ntl _) fun i hi => absurd (List.mem_of_getElem? hi) nA2⟩
    · rcases l5.nw D z with z | z | z
      · exact nF2 z
      · rw [hD2] at z
        cases z
      · exact nA2 z
    · rcases l5.old z with z | z
      · exact nA2 z
      · rw [hD2] at z
        cases z
  by_cases hlt : i < w.items.length
  · have hd : w.items.drop i = w.items[i] :: w.items.drop (i + 1) := List.drop_eq_getElem_cons hlt
    rw [hd] at hrun
    unfold compRun at hrun
    by_cases hs : w.same s2
    · rw [if_pos hs] at hrun
      obtain ⟨_, h2⟩ := gv hs i
      obtain ⟨go, yl⟩ := h2 _ (List.getElem?_eq_getElem hlt)
      refine .inr ⟨go, fun H' => i + 1 ≤ w.items.length ∧ Inv1 (i + 1) H', fun H' ⟨a, b⟩ => ⟨w.items.length - (i + 1), by omega, rfl, a, b⟩, fun x H3 y => ?_⟩
      obtain ⟨W3, l3, t3, r3⟩ := yl x H3 y
      have e3 := (e2.later l3 t3).wipe vs
      revert hrun
      cases hb : c.bind w.items[i] (wipeE env vs) s2 with
      | none => exact fun z => nomatch z
      | some e4 =>
        intro hrun
        have hrun : ((ft e4 s2).bind fun b s1 => if b = true then (fe e4 s1).bind fun y s2 => if acc.length < sizeLine then compRun c ft fe vs w env (w.items.drop (i + 1)) (acc ++ [y]) s2 else .stuck else compRun c ft fe vs w env (w.items.drop (i + 1)) acc s1) = .ok xs s3 := hrun
        refine CT.take e3 r3 hb hw fun σ4 e4' hw4 => ⟨by rw [hw4, wipe_idem], W3, e4, s2, e4', ?_⟩
        revert hrun
        cases ft e4 s2 with
        | exc _ _ _ => exact fun z => nomatch z
        | stuck => exact fun z => nomatch z
        | ok b s4 =>
          intro hrun
          have hrun : (if b = true then (fe e4 s4).bind fun y s2 => if acc.length < sizeLine then compRun c ft fe vs w env (w.items.drop (i + 1)) (acc ++ [y]) s2 else .stuck else compRun c ft fe vs w env (w.items.drop (i + 1)) acc s4) = .ok xs s3 := hrun
          intro W4 H4 b' l4 e5 hbb
          have hbb : b = b' := hbb
          subst hbb
          have l34 := l3.trans l4
          cases b with
          | false =>
            rw [if_neg Bool.false_ne_true] at hrun ⊢
            obtain ⟨o1, o2, o3⟩ := outF l34
            exact ⟨hlt, W4, s4, acc, av, l2.trans l34, e2.later l34 e5.st, o1, o2, o3, r2.mono l34 e2.st, xs, s3, hrun, fin⟩
          | true =>
            rw [if_pos rfl] at hrun ⊢
            refine ⟨W4, e4, s4, e5, ?_⟩
            revert hrun
            cases fe e4 s4 with
            | exc _ _ _ => exact fun z => nomatch z
            | stuck => exact fun z => nomatch z
            | ok dy s5 =>
              intro hrun
              have hrun : (if acc.length < sizeLine then compRun c ft fe vs w env (w.items.drop (i + 1)) (acc ++ [dy]) s5 else .stuck) = .ok xs s3 := hrun
              by_cases hz : acc.length < sizeLine
              · rw [if_pos hz] at hrun
                intro W5 H5 y l5 e6 r5
                have l35 := l34.trans l5
                obtain ⟨o1, o2, o3⟩ := outF l35
                have ra : RDs C K W5 H5 (acc ++ [dy]) (av ++ [y]) := (r2.mono l35 e2.st).append ⟨y, [], rfl, r5, rfl⟩
                exact ⟨av, o3, by rw [← r2.length]; exact hz, hlt, W5, s5, acc ++ [dy], av ++ [y], (l2.trans l35).over hD, (e2.later l35 e6.st).upd o1 o2 (.of o3 plain_lst), o1, o2, upd_same, ra.lf (Lf.upd o1), xs, s3, hrun, fin⟩
              · rw [if_neg hz] at hrun
                cases hrun
    · rw [if_neg hs] at hrun
      cases hrun
  · have hi' : i = w.items.length := by omega
    subst hi'
    rw [List.drop_length] at hrun
    unfold compRun at hrun
    by_cases hs : w.same s2
    · rw [if_pos hs] at hrun
      cases hrun
      refine .inl ⟨(gv hs _).1 rfl, ?_⟩
      exact fin W2 H2 D av l2 e2 nF2 nA2 hD hD2 r2
    · rw [if_neg hs] at hrun
      cases hrun
/-- a clause's tests -/
def DTs (C : Cfg) (X : Cx) (ifs : List Expr) (f : Tx) : Prop := PTs X ifs (tT C X.K W0 f)
theorem dts_nil : DTs C X [] tAll := ⟨fun pins s σ H Q I h => pts_nil.run pins s σ H Q I (by
  obtain ⟨W, env, s, e, q⟩ := h
  exact Res.here (b := true) q e rfl)⟩
theorem dts_one {t : Expr} (h : DT C X W0 t ft) : DTs C X [t] ft := pts_one h
theorem ne_lc {scope : Scope} {ifs : List Expr} {own : List (Str × Nat)} (hc : X.calm = true) (hN : X.N.Nodup) (hi : DI C X Wx tg iter ix) (ok : BlkOk X.N X.env.scope scope own) (hw : ∀ i ∈ c.slots, i ∈ own.map (·.2))
    (hg : ∀ (s : Shared) (H : Hp) (A : Addr) (cl : List (Str × Addr)) (fp : List Addr), c.ok (X.blk s H scope (compEnvC scope cl A X.env) fp) tg)
    (ht : ∀ (s : Shared) (H : Hp) (A : Addr) (cl : List (Str × Addr)) (fp : List Addr), DTs C (X.blk s H scope (compEnvC scope cl A X.env) fp) ifs ft)
    (he : ∀ (s : Shared) (H : Hp) (A : Addr) (cl : List (Str × Addr)) (fp : List Addr), DE C (X.blk s H scope (compEnvC scope cl A X.env) fp) W0 elt fe) (hs : ∀ x, foldedSetIterable iter X.env x = pure x := by intro _; rfl) :
    NE C X Wx (.ListComp elt [⟨tg, iter, ifs, 0⟩] scope pos) (aComp ix c ft fe (own.map (·.2))) :=
  PE.imp (pe_lc (tt := tT C X.K W0 ft) (te := tD C X.K W0 fe) (g := c.tg X.K) hc hN hi ok (fun s H A cl fp => CT.pg (hg s H A cl fp)) (fun s H A cl fp => ht s H A cl fp) (fun s H A cl fp => he s H A cl fp) hs) (tN_comp hw)
/-- name = [..] on one line; own: whether it is written later -/
theorem ds_setLc {i : Nat} {y : Str} {py spos : Pos} {scope : Scope} {ifs : List Expr} {own : List (Str × Nat)} {fx : Ex} (k : fx = xFz (aComp ix c ft fe (own.map (·.2))) ∨ fx = xOwn (aComp ix c ft fe (own.map (·.2)))) (hc : X.calm = true) (hN : X.N.Nodup) (hy : X.N[i]? = some y) (hyl : X.env.scope.names.lookup y = some .local)
    (hsw : swapsWith (.ListComp elt [⟨tg, iter, ifs, 0⟩] scope pos) (some (.Name y py)) spos.line X.env = pure true) (hi : DI C X Wx tg iter ix) (ok : BlkOk X.N X.env.scope scope own) (hw : ∀ i ∈ c.slots, i ∈ own.map (·.2))
    (hg : ∀ (s : Shared) (H : Hp) (A : Addr) (cl : List (Str × Addr)) (fp : List Addr), c.ok (X.blk s H scope (compEnvC scope cl A X.env) fp) tg)
    (ht : ∀ (s : Shared) (H : Hp) (A : Addr) (cl : List (Str × Addr)) (fp : List Addr), DTs C (X.blk s H scope (compEnvC scope cl A X.env) fp) ifs ft)
    (he : ∀ (s : Shared) (H : Hp) (A : Addr) (cl : List (Str × Addr)) (fp : List Addr), DE C (X.blk s H scope (compEnvC scope cl A X.env) fp) W0 elt fe) (hs : ∀ x, foldedSetIterable iter X.env x = pure x := by intro _; rfl) :
    DS C X Wx (.Assign [.Name y py] (.ListComp elt [⟨tg, iter, ifs, 0⟩] scope pos) spos) (sAsg fx (gVar i)) :=
  PS.imp (ps_setLc (tt := tT C X.K W0 ft) (te := tD C X.K W0 fe) (g := c.tg X.K) hc hN hy hyl hsw hi ok (fun s H A cl fp => CT.pg (hg s H A cl fp)) (fun s H A cl fp => ht s H A cl fp) (fun s H A cl fp => he s H A cl fp) hs) fun En σ H h => by
    obtain ⟨W, env, s, e, q⟩ := h
    refine tN_comp hw σ H _ ⟨W, env, s, e, ?_⟩
    revert q
    rcases k with rfl | rfl
    · unfold sAsg xFz
      cases aComp ix c ft fe (own.map (·.2)) env s with
      | ok ds s' =>
        intro q W' H' p vs l e1 n1 n2 hp h1 r
        have lf : Lf W' H' (W'.add p) H' := ⟨fun _ h => .inl h, fun _ _ h => h, fun _ _ h => h, fun _ _ _ h => h⟩
        have e2 := e1.addF (p := p) (by rw [h1]; exact fun z => nomatch z) (fun o z => by rw [h1] at z; cases z; exact fun _ z => nomatch z) n2
        have r2 : RD C X.K (W'.add p) H' (.lst ds) (.ref p) := ⟨p, vs, rfl, .inr rfl, h1, r.lf lf⟩
        exact q _ _ _ (l.addF hp) (e2.set i r2)
      | exc c vs s' => exact fun q W' H' => q W' σ H'
      | stuck => exact fun q => q
    · unfold sAsg xOwn
      cases aComp ix c ft fe (own.map (·.2)) env s with
      | ok ds s' =>
        intro q W' H' p vs l e1 n1 n2 hp h1 r
        have q : ResS C X.K Wx En W H s ((if D.lows 0 0 ds = true then Out.ok (D.ref s'.mo.length) (s'.own (.lst ds)) else .stuck).fl env fun d s => match gVar i d env s with
          | .ok e' s' => .next e' s'
          | _ => .stuck) := q
        by_cases hz : D.lows 0 0 ds = true
        · rw [if_pos hz] at q
          have e2 := e1.own (o := .lst ds) (by rw [h1]; exact fun z => nomatch z) n1 n2 ⟨vs, h1, r.lf Lf.own, hz⟩
          have r2 : RD C X.K (W'.own p) H' (.ref s'.mo.length) (.ref p) := ⟨p, by
            show (W'.al ++ [p])[s'.mo.length]? = some p
            rw [← e1.st.len, List.getElem?_append_right (Nat.le_refl _), Nat.sub_self]
            rfl, rfl⟩
          exact q _ _ _ (l.own e1.st.len hp) (e2.set i r2)
        · rw [if_neg hz] at q
          exact q.elim
      | exc c vs s' => exact fun q W' H' => q W' σ H'
      | stuck => exact fun q => q
theorem ct_one {i : Nat} {x : Str} (h : PG X (.Name x pos) (gName i)) : (CT.one i).ok X (.Name x pos) := h
theorem ct_many {is : List Nat} {es : List Expr} {k : Nat} (hc : X.calm = true) (h : PGs X es (gsN is)) (hn : (assignEach es X.env).length = is.length := by rfl) (hst : (assignEach es X.env).findIdx? (·.1) = none := by rfl) : (CT.many is).ok X (.Tuple es k pos) :=
  ⟨pg_tup hc h hn hst, pg_lst hc h hn hst⟩
end
end DV
end
section
set_option Elab.async false
set_option linter.all false
set_option maxRecDepth 100000
/-! DO: the operators over data. -/
namespace DV
open PySem PySem.Spec PyProof.Rows L2

theorem OpR.imp {X : Cx} {f : Value → Value → Sem Value} {r r' : R2} (h : OpR X f r) (i : ∀ x y H Q, r' x y H Q → r x y H Q) : OpR X f r' := fun pins s σ H x y v u Q I rx ry q => h pins s σ H x y v u Q I rx ry (i _ _ _ _ q)
theorem UnR.imp {X : Cx} {f : Value → Sem Value} {r r' : V → Hp → VK → Prop} (h : UnR X f r) (i : ∀ x H Q, r' x H Q → r x H Q) : UnR X f r' := fun pins s σ H x v Q I rx q => h pins s σ H x v Q I rx (i _ _ _ q)
theorem CallR.imp {X : Cx} {f : Value} {r r' : List V → Hp → VK → Prop} (h : CallR X f r) (i : ∀ x H Q, r' x H Q → r x H Q) : CallR X f r' := fun pins s σ H x v Q I rx q => h pins s σ H x v Q I rx (i _ _ _ q)
theorem CallR.or {X : Cx} {f : Value} {r r' : List V → Hp → VK → Prop} (h : CallR X f r) (h' : CallR X f r') : CallR X f (fun x H Q => r x H Q ∨ r' x H Q) := fun pins s σ H x v Q I rx q => by
  rcases q with q | q
  · exact h pins s σ H x v Q I rx q
  · exact h' pins s σ H x v Q I rx q
theorem PE.or {X : Cx} {e : Expr} {t t' : TE} (h : PE X e t) (h' : PE X e t') : PE X e (fun σ H Q => t σ H Q ∨ t' σ H Q) := ⟨fun pins s σ H Q I q => by
  rcases q with q | q
  · exact h.run pins s σ H Q I q
  · exact h'.run pins s σ H Q I q⟩

section
variable {C : Cfg} {K : PySem.W.Frag} {W : Wd} {H : Hp} {s : S}
/-- what is wanted of a new list -/
theorem new_lst {xs : List D} {vs : List V} {Q : VK} (t : StS C K W H s) (r : RDs C K W H xs vs) (q : ∀ W' H' v, Le W H s W' H' s → StS C K W' H' s → RD C K W' H' (.lst xs) v → Q v H') : ∀ p, H p = none → Q (.ref p) (upd H p (.lst vs)) := fun p hp => by
  have l : Le W H s (W.add p) (L2.upd H p (.lst vs)) s := Le.laid t hp
  exact q _ _ _ l (t.laid hp fun _ z => nomatch z) ⟨p, vs, rfl, .inr rfl, upd_same, r.mono l t⟩
theorem new_tup {xs : List D} {vs : List V} {Q : VK} (t : StS C K W H s) (r : RDs C K W H xs vs) (q : ∀ W' H' v, Le W H s W' H' s → StS C K W' H' s → RD C K W' H' (.tup xs) v → Q v H') : ∀ p, H p = none → Q (.ref p) (upd H p (.tup vs)) := fun p hp => by
  have l : Le W H s (W.add p) (L2.upd H p (.tup vs)) s := Le.laid t hp
  exact q _ _ _ l (t.laid hp fun _ z => nomatch z) ⟨p, vs, rfl, .inr rfl, upd_same, r.mono l t⟩
/-- what is wanted of a value that changes nothing -/
theorem same_q {d : D} {v : V} {Q : VK} (t : StS C K W H s) (q : ∀ W' H' v, Le W H s W' H' s → StS C K W' H' s → RD C K W' H' d v → Q v H') (r : RD C K W H d v) : Q v H := q W H v Le.refl t r
theorem view_tup {d : D} {xs : List D} (h : view s d = .tup xs) : d.strip = .tup xs := by
  unfold view at h
  split at h
  · split at h <;> cases h
  · exact h
theorem view_kl {d : D} {xs : List D} (h : view s d = .kl xs) : d.strip = .kl xs := by
  unfold view at h
  split at h
  · split at h <;> cases h
  · exact h
theorem RDs.nil_iff {xs : List D} {vs : List V} (r : RDs C K W H xs vs) : vs = [] ↔ xs = [] := by
  cases xs with
  | nil => exact ⟨fun _ => rfl, fun _ => r⟩
  | cons d ds =>
    obtain ⟨v, rs, e, _⟩ := r
    rw [e]
    exact ⟨(fun z => nomatch z), (fun z => nomatch z)⟩
end

/-! ### + - * // % ** and bits -/
def addD : D → D → Option D
  | .int i, .int j => some (.int (i + j))
  | .str x, .str y => if x.length + y.length ≤ sizeLine then some (.str (x ++ y)) else none
  | .lst xs, .lst ys => if xs.length + ys.length ≤ sizeLine then some (.lst (xs ++ ys)) else none
  | .tup xs, .tup ys => if xs.length + ys.length ≤ sizeLine then some (.tup (xs ++ ys)) else none
  | _, _ => none
def gAdd (s : S) (a b : D) : Option D := addD (view s a) (view s b)
def intD (g : Int → Int → Option D) : D → D → Option D
  | .int i, .int j => g i j
  | _, _ => none
def gInt (g : Int → Int → Option D) (s : S) (a b : D) : Option D := intD g (view s a) (view s b)
theorem intD_inv {g : Int → Int → Option D} {a b z : D} (h : intD g a b = some z) : ∃ i j, a = .int i ∧ b = .int j ∧ g i j = some z := by
  unfold intD at h
  split at h
  · exact ⟨_, _, rfl, rfl, h⟩
  · cases h
section
variable {C : Cfg} {X : Cx}
theorem o_int {f : Value → Value → Sem Value} {P : Int → Int → Prop} {k : Int → Int → V} {g : Int → Int → Option D} (ho : OpR X f (rI P k)) (hg : ∀ i j z, g i j = some z → P i j ∧ ∀ W H, RD C X.K W H z (k i j)) : OpR X f (r2 C X.K (gInt g)) :=
  OpR.imp ho fun x y H Q h => by
    obtain ⟨W, s, d, e, t, hd, he, q⟩ := h
    have sd := see_of t hd
    have se := see_of t he
    unfold gInt at q
    cases hz : intD g (view s d) (view s e) with
    | none =>
      rw [hz] at q
      exact q.elim
    | some z =>
      rw [hz] at q
      obtain ⟨i, j, e1, e2, e3⟩ := intD_inv hz
      rw [e1] at sd
      rw [e2] at se
      obtain ⟨c, r⟩ := hg i j z e3
      exact ⟨i, j, sd, se, c, same_q t q (r W H)⟩
theorem o_int0 {f : Value → Value → Sem Value} {k : Int → Int → V} {g : Int → Int → Option D} (ho : OpR X f (rI0 k)) (hg : ∀ i j z, g i j = some z → ∀ W H, RD C X.K W H z (k i j)) : OpR X f (r2 C X.K (gInt g)) :=
  o_int (P := fun _ _ => True) (k := k) (OpR.imp ho fun x y H Q ⟨i, j, a, b, _, q⟩ => ⟨i, j, a, b, q⟩) fun i j z e => ⟨trivial, hg i j z e⟩
end
def nSub (i j : Int) : Option D := some (.int (i - j))
/-- * of two factors of together less than a hundred million bits -/
def CMulV (i j : Int) : Prop := i.natAbs.log2 + j.natAbs.log2 < 100000000
theorem CMulV.ok {i j : Int} (h : CMulV i j) : IntMulOk i j := by
  have b : ∀ x : Int, Builtin.Int.intBits x ≤ x.natAbs.log2 + 1 := fun x => by
    unfold Builtin.Int.intBits
    split <;> omega
  have h1 := b i
  have h2 := b j
  have h3 : i.natAbs.log2 + j.natAbs.log2 < 100000000 := h
  have e : bitsLine = 134217728 := by decide
  unfold IntMulOk
  intro z
  rw [Bool.and_eq_true] at z
  have z2 := z.2
  unfold Builtin.Int.intTooBig at z2
  have z3 := of_decide_eq_true z2
  rw [e] at z3
  omega
theorem op_mulV {X : Cx} : OpR X (binaryOp .Mult) (rI CMulV fun i j => .int (i * j)) := opI fun _ _ _ _ _ _ _ hc q => mul_int q (CMulV.ok hc)
def nMul (i j : Int) : Option D := if i.natAbs.log2 + j.natAbs.log2 < 100000000 then some (.int (i * j)) else none
def nDiv (i j : Int) : Option D := if j ≠ 0 ∧ j.natAbs.log2 < 9000 then some (.int (i.fdiv j)) else none
def nMod (i j : Int) : Option D := if j ≠ 0 then some (.int (i.fmod j)) else none
def nPow (i j : Int) : Option D := if 0 ≤ j ∧ j ≤ 1000000 ∧ i.natAbs < 2 ^ 64 then some (.int (i ^ j.toNat)) else none
def nShl (i j : Int) : Option D := if 0 ≤ j ∧ j ≤ 1000000 ∧ i.natAbs < 2 ^ 64 then some (.int (i * 2 ^ j.toNat)) else none
def nShr (i j : Int) : Option D := if 0 ≤ j then some (.int (i / 2 ^ j.toNat)) else none
def nAnd (i j : Int) : Option D := some (.int (Builtin.bitAnd i j))
def nOr (i j : Int) : Option D := some (.int (Builtin.bitOr i j))
def nXor (i j : Int) : Option D := some (.int (Builtin.bitXor i j))
section
variable {C : Cfg} {X : Cx}
theorem op_fdivB : OpR X (binaryOp .FloorDiv) (rI (fun _ j => j ≠ 0 ∧ j.natAbs.log2 < 9000) fun i j => .int (i.fdiv j)) := opI fun i j _ _ _ _ _ hc q => floordiv_int hc.1 q (.inl (PyProof.noPylong_of_log2 hc.2))
theorem o_sub : OpR X (binaryOp .Sub) (r2 C X.K (gInt nSub)) := o_int0 op_sub fun i j z e => by cases e; exact fun _ _ => rfl
theorem o_div : OpR X (binaryOp .FloorDiv) (r2 C X.K (gInt nDiv)) := o_int op_fdivB fun i j z e => by
  unfold nDiv at e
  split at e
  · rename_i h
    cases e
    exact ⟨h, fun _ _ => rfl⟩
  · cases e
theorem o_mod : OpR X (binaryOp .Mod) (r2 C X.K (gInt nMod)) := o_int op_modN fun i j z e => by
  unfold nMod at e
  split at e
  · rename_i h
    cases e
    exact ⟨h, fun _ _ => rfl⟩
  · cases e
theorem o_pow : OpR X (binaryOp .Pow) (r2 C X.K (gInt nPow)) := o_int op_pow fun i j z e => by
  unfold nPow at e
  split at e
  · rename_i h
    cases e
    exact ⟨h, fun _ _ => rfl⟩
  · cases e
theorem o_shl : OpR X (binaryOp .LShift) (r2 C X.K (gInt nShl)) := o_int op_shl fun i j z e => by
  unfold nShl at e
  split at e
  · rename_i h
    cases e
    exact ⟨h, fun _ _ => rfl⟩
  · cases e
theorem o_shr : OpR X (binaryOp .RShift) (r2 C X.K (gInt nShr)) := o_int op_shr fun i j z e => by
  unfold nShr at e
  split at e
  · rename_i h
    cases e
    exact ⟨h, fun _ _ => rfl⟩
  · cases e
theorem o_and : OpR X (binaryOp .BitAnd) (r2 C X.K (gInt nAnd)) := o_int0 op_and fun i j z e => by cases e; exact fun _ _ => rfl
theorem o_or : OpR X (binaryOp .BitOr) (r2 C X.K (gInt nOr)) := o_int0 op_or fun i j z e => by cases e; exact fun _ _ => rfl
theorem o_xor : OpR X (binaryOp .BitXor) (r2 C X.K (gInt nXor)) := o_int0 op_xor fun i j z e => by cases e; exact fun _ _ => rfl
theorem addD_inv {a b z : D} (h : addD a b = some z) : (∃ i j, a = .int i ∧ b = .int j ∧ z = .int (i + j)) ∨ (∃ x y, a = .str x ∧ b = .str y ∧ x.length + y.length ≤ sizeLine ∧ z = .str (x ++ y)) ∨
    (∃ xs ys, a = .lst xs ∧ b = .lst ys ∧ xs.length + ys.length ≤ sizeLine ∧ z = .lst (xs ++ ys)) ∨ (∃ xs ys, a = .tup xs ∧ b = .tup ys ∧ xs.length + ys.length ≤ sizeLine ∧ z = .tup (xs ++ ys)) := by
  unfold addD at h
  split at h
  · cases h
    exact .inl ⟨_, _, rfl, rfl, rfl⟩
  · split at h
    · rename_i hl
      cases h
      exact .inr (.inl ⟨_, _, rfl, rfl, hl, rfl⟩)
    · cases h
  · split at h
    · rename_i hl
      cases h
      exact .inr (.inr (.inl ⟨_, _, rfl, rfl, hl, rfl⟩))
    · cases h
  · split at h
    · rename_i hl
      cases h
      exact .inr (.inr (.inr ⟨_, _, rfl, rfl, hl, rfl⟩))
    · cases h
  · cases h
theorem o_add : OpR X (binaryOp .Add) (r2 C X.K gAdd) := OpR.imp (op_add.or (op_add_str.or (op_cat.or op_catA))) fun x y H Q h => by
  obtain ⟨W, s, d, e, t, hd, he, q⟩ := h
  have sd := see_of t hd
  have se := see_of t he
  unfold gAdd at q
  cases hz : addD (view s d) (view s e) with
  | none =>
    rw [hz] at q
    exact q.elim
  | some z =>
    rw [hz] at q
    rcases addD_inv hz with ⟨i, j, e1, e2, rfl⟩ | ⟨i, j, e1, e2, hl, rfl⟩ | ⟨xs, ys, e1, e2, hl, rfl⟩ | ⟨xs, ys, e1, e2, hl, rfl⟩
    · rw [e1] at sd
      rw [e2] at se
      exact .inl ⟨i, j, sd, se, same_q t q rfl⟩
    · rw [e1] at sd
      rw [e2] at se
      exact .inr (.inl ⟨i, j, sd, se, hl, same_q t q rfl⟩)
    · rw [e1] at sd
      rw [e2] at se
      obtain ⟨a, vs, rfl, g1, r1⟩ := sd
      obtain ⟨b, ws, rfl, g2, r2⟩ := se
      exact .inr (.inr (.inl ⟨a, b, vs, ws, rfl, rfl, g1, g2, by rw [← r1.length, ← r2.length]; exact hl, new_lst t (r1.append r2) q⟩))
    · have hd' := hd.strip
      have he' := he.strip
      rw [view_tup e1] at hd'
      rw [view_tup e2] at he'
      obtain ⟨a, vs, rfl, _, g1, r1⟩ := id hd'
      obtain ⟨b, ws, rfl, _, g2, r2⟩ := id he'
      refine .inr (.inr (.inr ⟨a, b, vs, ws, rfl, rfl, SqT.of g1, SqT.of g2, by rw [← r1.length, ← r2.length]; exact hl, fun z => ?_, fun _ z => ?_, fun _ _ => new_tup t (r1.append r2) q⟩))
      · have e3 := r1.nil_iff.mp z
        subst e3
        exact same_q t q he'
      · have e3 := r2.nil_iff.mp z
        subst e3
        rw [List.append_nil] at q
        exact same_q t q hd'
/-- ints, or a list so many times -/
def mulD : D → D → Option D
  | .int i, .int j => nMul i j
  | .lst xs, .int k => if -(2 ^ 63) ≤ k ∧ k < 2 ^ 63 ∧ xs.length * k.toNat ≤ sizeLine then some (.lst (List.replicate k.toNat xs).flatten) else none
  | _, _ => none
def gMul (s : S) (a b : D) : Option D := mulD (view s a) (view s b)
theorem mulD_inv {a b z : D} (h : mulD a b = some z) : (∃ i j, a = .int i ∧ b = .int j ∧ CMulV i j ∧ z = .int (i * j)) ∨
    (∃ xs k, a = .lst xs ∧ b = .int k ∧ (-(2 ^ 63) ≤ k ∧ k < 2 ^ 63 ∧ xs.length * k.toNat ≤ sizeLine) ∧ z = .lst (List.replicate k.toNat xs).flatten) := by
  unfold mulD at h
  split at h
  · unfold nMul at h
    split at h
    · rename_i hl
      cases h
      exact .inl ⟨_, _, rfl, rfl, hl, rfl⟩
    · cases h
  · split at h
    · rename_i hl
      cases h
      exact .inr ⟨_, _, rfl, rfl, hl, rfl⟩
    · cases h
  · cases h
theorem RDs.rep {K : PySem.W.Frag} {W : Wd} {H : Hp} {xs : List D} {vs : List V} (r : RDs C K W H xs vs) : ∀ n : Nat, RDs C K W H (List.replicate n xs).flatten (List.replicate n vs).flatten
  | 0 => rfl
  | n + 1 => by
    rw [List.replicate_succ, List.replicate_succ, List.flatten_cons, List.flatten_cons]
    exact r.append (RDs.rep r n)
theorem o_mul : OpR X (binaryOp .Mult) (r2 C X.K gMul) := OpR.imp (op_mulV.or op_rep) fun x y H Q h => by
  obtain ⟨W, s, d, e, t, hd, he, q⟩ := h
  have sd := see_of t hd
  have se := see_of t he
  unfold gMul at q
  cases hz : mulD (view s d) (view s e) with
  | none =>
    rw [hz] at q
    exact q.elim
  | some z =>
    rw [hz] at q
    rcases mulD_inv hz with ⟨i, j, e1, e2, hl, rfl⟩ | ⟨xs, k, e1, e2, ⟨h1, h2, h3⟩, rfl⟩
    · rw [e1] at sd
      rw [e2] at se
      exact .inl ⟨i, j, sd, se, hl, same_q t q rfl⟩
    · rw [e1] at sd
      rw [e2] at se
      obtain ⟨a, vs, rfl, g1, r1⟩ := sd
      exact .inr ⟨a, k, vs, rfl, se, g1, h1, h2, by rw [← r1.length]; exact h3, new_lst t (r1.rep _) q⟩
/-- - of an int -/
def gNeg (s : S) (a : D) : Option D := match view s a with
  | .int i => some (.int (-i))
  | _ => none
theorem o_neg : UnR X (unaryOp .USub) (r1 C X.K gNeg) := UnR.imp un_neg fun x H Q h => by
  obtain ⟨W, s, d, t, hd, q⟩ := h
  have sd := see_of t hd
  unfold gNeg at q
  cases hv : view s d with
  | int i =>
    rw [hv] at q sd
    exact ⟨i, sd, same_q t q rfl⟩
  | _ =>
    rw [hv] at q
    exact q.elim

/-! ### comparisons -/
def cI (p : Int → Int → Bool) (q : Str → Str → Bool) : D → D → Option D
  | .int i, .int j => some (.bl (p i j))
  | .str x, .str y => some (.bl (q x y))
  | _, _ => none
def gLt (s : S) (a b : D) : Option D := cI (fun i j => decide (i < j)) (fun x y => decide (x.cps.toList < y.cps.toList)) (view s a) (view s b)
def gLe (s : S) (a b : D) : Option D := intD (fun i j => some (.bl (decide (i ≤ j)))) (view s a) (view s b)
def gGt (s : S) (a b : D) : Option D := intD (fun i j => some (.bl (decide (j < i)))) (view s a) (view s b)
def gGe (s : S) (a b : D) : Option D := intD (fun i j => some (.bl (decide (j ≤ i)))) (view s a) (view s b)
theorem o_lt : OpR X (compareOp .Lt) (r2 C X.K gLt) := OpR.imp (op_lt.or op_lt_str) fun x y H Q h => by
  obtain ⟨W, s, d, e, t, hd, he, q⟩ := h
  have sd := see_of t hd
  have se := see_of t he
  unfold gLt at q
  cases hv : view s d with
  | int i =>
    cases hw : view s e with
    | int j =>
      rw [hv] at q sd
      rw [hw] at q se
      exact .inl ⟨i, j, sd, se, same_q t q rfl⟩
    | _ =>
      rw [hv, hw] at q
      exact q.elim
  | str i =>
    cases hw : view s e with
    | str j =>
      rw [hv] at q sd
      rw [hw] at q se
      exact .inr ⟨i, j, sd, se, same_q t q rfl⟩
    | _ =>
      rw [hv, hw] at q
      exact q.elim
  | _ =>
    rw [hv] at q
    exact q.elim
theorem o_le : OpR X (compareOp .LtE) (r2 C X.K gLe) := o_int0 op_le fun i j z e => by cases e; exact fun _ _ => rfl
theorem o_gt : OpR X (compareOp .Gt) (r2 C X.K gGt) := o_int0 op_gt fun i j z e => by cases e; exact fun _ _ => rfl
theorem o_ge : OpR X (compareOp .GtE) (r2 C X.K gGe) := o_int0 op_ge fun i j z e => by cases e; exact fun _ _ => rfl
/-! == and != of plain data -/
mutual
theorem dp_of {K : PySem.W.Frag} {W : Wd} {H : Hp} : ∀ {d : D} {v : V} {p : PyData}, RD C K W H d v → d.pd = some p → Dp K H v p
  | .non, v, p, r, h => by
    have e : v = .non := r
    subst e
    cases h
    exact .non
  | .bl b, v, p, r, h => by
    have e : v = .bl b := r
    subst e
    cases h
    exact .bl b
  | .int i, v, p, r, h => by
    have e : v = .int i := r
    subst e
    cases h
    exact .int i
  | .str x, v, p, r, h => by
    have e : v = .str x := r
    subst e
    cases h
    exact .str x
  | .lst xs, v, p, r, h => by
    obtain ⟨a, vs, rfl, _, l, q⟩ := r
    unfold D.pd at h
    cases hx : D.pds xs with
    | none =>
      rw [hx] at h
      cases h
    | some ps =>
      rw [hx] at h
      cases h
      exact .lst (SqL.of l) (dps_of q hx)
  | .tup xs, v, p, r, h => by
    obtain ⟨a, vs, rfl, _, l, q⟩ := r
    unfold D.pd at h
    cases hx : D.pds xs with
    | none =>
      rw [hx] at h
      cases h
    | some ps =>
      rw [hx] at h
      cases h
      exact .tup (SqT.of l) (dps_of q hx)
  | .tag i d, v, p, r, h => dp_of (d := d) r.2 h
  | .dct _ _, _, _, _, h => nomatch h
  | .ref _, _, _, _, h => nomatch h
  | .inst _ _, _, _, _, h => nomatch h
  | .fn _, _, _, _, h => nomatch h
  | .exn _ _, _, _, _, h => nomatch h
  | .lam _ _, _, _, _, h => nomatch h
  | .scr _, _, _, _, h => nomatch h
  | .kl _, _, _, _, h => nomatch h
theorem dps_of {K : PySem.W.Frag} {W : Wd} {H : Hp} : ∀ {ds : List D} {vs : List V} {ps : List PyData}, RDs C K W H ds vs → D.pds ds = some ps → DpAll K H vs ps
  | [], vs, ps, r, h => by
    have e : vs = [] := r
    subst e
    cases h
    exact .nil
  | d :: ds, vs, ps, r, h => by
    obtain ⟨v, rs, rfl, h1, h2⟩ := r
    unfold D.pds at h
    cases ha : d.pd with
    | none =>
      rw [ha] at h
      cases h
    | some a =>
      cases hb : D.pds ds with
      | none =>
        rw [ha, hb] at h
        cases h
      | some b =>
        rw [ha, hb] at h
        cases h
        exact .cons (dp_of h1 ha) (dps_of h2 hb)
end
theorem dp_see {K : PySem.W.Frag} {W : Wd} {H : Hp} {d : D} {v : V} {p : PyData} (r : See C K W H d v) (h : d.pd = some p) : Dp K H v p := by
  cases d with
  | lst xs =>
    obtain ⟨a, vs, rfl, l, q⟩ := r
    unfold D.pd at h
    cases hx : D.pds xs with
    | none =>
      rw [hx] at h
      cases h
    | some ps =>
      rw [hx] at h
      cases h
      exact .lst (SqL.of l) (dps_of q hx)
  | tup xs =>
    obtain ⟨a, vs, rfl, l, q⟩ := r
    unfold D.pd at h
    cases hx : D.pds xs with
    | none =>
      rw [hx] at h
      cases h
    | some ps =>
      rw [hx] at h
      cases h
      exact .tup (SqT.of l) (dps_of q hx)
  | non => exact dp_of (C := C) (W := W) r h
  | bl _ => exact dp_of (C := C) (W := W) r h
  | int _ => exact dp_of (C := C) (W := W) r h
  | str _ => exact dp_of (C := C) (W := W) r h
  | tag _ _ => exact dp_of (C := C) (W := W) r h
  | _ => cases h
/-- as shaped data -/
def D.pdS (d : D) : Option PyData := match d.pd with
  | some p => if SeqAt.shaped p = true then some p else none
  | none => none
theorem pdS_inv {d : D} {p : PyData} (h : d.pdS = some p) : d.pd = some p ∧ SeqAt.shaped p = true := by
  unfold D.pdS at h
  split at h
  · split at h
    · rename_i q hq hs
      cases h
      exact ⟨hq, hs⟩
    · cases h
  · cases h
/-- texts, ints: by themselves; other data by the library's equality -/
def eqD : D → D → Option Bool
  | .int i, .int j => some (decide (i = j))
  | .str x, .str y => some (decide (x = y))
  | a, b => match a.pdS, b.pdS with
    | some p, some q => some (PyData.eqv p q)
    | _, _ => none
def gEq (s : S) (a b : D) : Option D := match eqD (view s a) (view s b) with
  | some k => some (.bl k)
  | none => none
def gNe (s : S) (a b : D) : Option D := match eqD (view s a) (view s b) with
  | some k => some (.bl (!k))
  | none => none
theorem eqD_inv {a b : D} {k : Bool} (h : eqD a b = some k) : (∃ i j, a = .int i ∧ b = .int j ∧ k = decide (i = j)) ∨ (∃ x y, a = .str x ∧ b = .str y ∧ k = decide (x = y)) ∨ (∃ p q, a.pdS = some p ∧ b.pdS = some q ∧ k = PyData.eqv p q) := by
  unfold eqD at h
  split at h
  · cases h
    exact .inl ⟨_, _, rfl, rfl, rfl⟩
  · cases h
    exact .inr (.inl ⟨_, _, rfl, rfl, rfl⟩)
  · split at h
    · rename_i p q hp hq
      cases h
      exact .inr (.inr ⟨p, q, hp, hq, rfl⟩)
    · cases h
theorem dI {i j : Int} : decide (V.int i = V.int j) = decide (i = j) := by
  rw [dec_int]
  exact Bool.beq_eq_decide_eq i j
theorem dS {i j : Str} : decide (V.str i = V.str j) = decide (i = j) := by
  by_cases e : i = j
  · rw [decide_eq_true e, decide_eq_true (by rw [e])]
  · rw [decide_eq_false e, decide_eq_false fun z => e (V.str.inj z)]
theorem o_eq (hu : X.A.units + 64 < cLine) : OpR X (compareOp .Eq) (r2 C X.K gEq) := OpR.imp (op_eq.or (op_eqD hu)) fun x y H Q h => by
  obtain ⟨W, s, d, e, t, hd, he, q⟩ := h
  have sd := see_of t hd
  have se := see_of t he
  unfold gEq at q
  cases hz : eqD (view s d) (view s e) with
  | none =>
    rw [hz] at q
    exact q.elim
  | some k =>
    rw [hz] at q
    rcases eqD_inv hz with ⟨i, j, e1, e2, rfl⟩ | ⟨i, j, e1, e2, rfl⟩ | ⟨p, r, e1, e2, rfl⟩
    · rw [e1] at sd
      rw [e2] at se
      have h1 : x = .int i := sd
      have h2 : y = .int j := se
      subst h1 h2
      exact .inl ⟨rfl, by rw [dI]; exact same_q t q rfl⟩
    · rw [e1] at sd
      rw [e2] at se
      have h1 : x = .str i := sd
      have h2 : y = .str j := se
      subst h1 h2
      exact .inl ⟨rfl, by rw [dS]; exact same_q t q rfl⟩
    · obtain ⟨a1, a2⟩ := pdS_inv e1
      obtain ⟨b1, b2⟩ := pdS_inv e2
      exact .inr ⟨p, r, dp_see sd a1, dp_see se b1, a2, b2, same_q t q rfl⟩
theorem o_ne (hu : X.A.units + 64 < cLine) : OpR X (compareOp .NotEq) (r2 C X.K gNe) := OpR.imp (op_ne.or (op_neD hu)) fun x y H Q h => by
  obtain ⟨W, s, d, e, t, hd, he, q⟩ := h
  have sd := see_of t hd
  have se := see_of t he
  unfold gNe at q
  cases hz : eqD (view s d) (view s e) with
  | none =>
    rw [hz] at q
    exact q.elim
  | some k =>
    rw [hz] at q
    rcases eqD_inv hz with ⟨i, j, e1, e2, rfl⟩ | ⟨i, j, e1, e2, rfl⟩ | ⟨p, r, e1, e2, rfl⟩
    · rw [e1] at sd
      rw [e2] at se
      have h1 : x = .int i := sd
      have h2 : y = .int j := se
      subst h1 h2
      exact .inl ⟨rfl, by rw [dI]; exact same_q t q rfl⟩
    · rw [e1] at sd
      rw [e2] at se
      have h1 : x = .str i := sd
      have h2 : y = .str j := se
      subst h1 h2
      exact .inl ⟨rfl, by rw [dS]; exact same_q t q rfl⟩
    · obtain ⟨a1, a2⟩ := pdS_inv e1
      obtain ⟨b1, b2⟩ := pdS_inv e2
      exact .inr ⟨p, r, dp_see sd a1, dp_see se b1, a2, b2, same_q t q rfl⟩
end
end DV
end
section
set_option Elab.async false
set_option linter.all false
set_option maxRecDepth 100000
/-! DP: parts of values over data: in, [], slices, len, list, tuple, sorted, isinstance .. -/
namespace DV
open PySem PySem.Spec PyProof.Rows L2

/-! ### what is never reached -/
def xStuck : Ex := fun _ _ => .stuck
def tStuck : Tx := fun _ _ => .stuck
def sStuck : Sx := fun _ _ => .stuck
section
variable {C : Cfg} {X : Cx} {Wx : WX}
theorem de_stuck {e : Expr} : DE C X Wx e xStuck := ⟨fun _ _ _ _ _ _ h => by
  obtain ⟨W, env, s, e, q⟩ := h
  exact q.elim⟩
theorem dt_stuck {e : Expr} : DT C X Wx e tStuck := ⟨fun _ _ _ _ _ _ h => by
  obtain ⟨W, env, s, e, q⟩ := h
  exact q.elim⟩
theorem ds_stuck {st : Stmt} : DS C X Wx st sStuck := ⟨fun _ _ _ _ _ _ h => by
  obtain ⟨W, env, s, e, q⟩ := h
  exact q.elim⟩
theorem dss_stuck {st : List Stmt} : DSs C X Wx st sStuck := ⟨fun _ _ _ _ _ _ h => by
  obtain ⟨W, env, s, e, q⟩ := h
  exact q.elim⟩
end

/-! ### items of lists and tuples as they are seen -/
def seqD : D → Option (List D)
  | .lst xs => some xs
  | .tup xs => some xs
  | .scr ns => some (ns.map .int)
  | .kl xs => some xs
  | _ => none
def lstD : D → Option (List D)
  | .lst xs => some xs
  | .scr ns => some (ns.map .int)
  | .kl xs => some xs
  | _ => none
theorem rds_ints {C : Cfg} {K : PySem.W.Frag} {W : Wd} {H : Hp} : ∀ ns : List Int, RDs C K W H (ns.map .int) (ns.map V.int)
  | [] => rfl
  | n :: ns => ⟨.int n, ns.map V.int, rfl, rfl, rds_ints ns⟩
section
variable {C : Cfg} {K : PySem.W.Frag} {W : Wd} {H : Hp}
theorem lst_of {d : D} {v : V} {xs : List D} (r : See C K W H d v) (h : lstD d = some xs) : ∃ a vs, v = .ref a ∧ SqL K H a vs ∧ RDs C K W H xs vs := by
  unfold lstD at h
  split at h
  · cases h
    obtain ⟨a, vs, e, l, q⟩ := r
    exact ⟨a, vs, e, SqL.of l, q⟩
  · cases h
    obtain ⟨a, e, f, l⟩ := r
    exact ⟨a, _, e, .inl l, rds_ints _⟩
  · cases h
    obtain ⟨a, vs, e, l, q⟩ := r
    exact ⟨a, vs, e, .inr l, q⟩
  · cases h
theorem seq_of {d : D} {v : V} {xs : List D} (r : See C K W H d v) (h : seqD d = some xs) : ∃ a vs, v = .ref a ∧ (SqL K H a vs ∨ SqT K H a vs) ∧ RDs C K W H xs vs := by
  cases d with
  | lst _ => obtain ⟨a, vs, e, l, q⟩ := lst_of r (xs := xs) h; exact ⟨a, vs, e, .inl l, q⟩
  | scr _ => obtain ⟨a, vs, e, l, q⟩ := lst_of r (xs := xs) h; exact ⟨a, vs, e, .inl l, q⟩
  | kl _ => obtain ⟨a, vs, e, l, q⟩ := lst_of r (xs := xs) h; exact ⟨a, vs, e, .inl l, q⟩
  | tup _ =>
    cases h
    obtain ⟨a, vs, e, l, q⟩ := r
    exact ⟨a, vs, e, .inr (SqT.of l), q⟩
  | _ => cases h
end

/-! ### is -/
theorem non_iff {C : Cfg} {K : PySem.W.Frag} {W : Wd} {H : Hp} {d : D} {v : V} (r : RD C K W H d v) : decide (v = .non) = (match d.strip with
    | .non => true
    | _ => false) := by
  have r2 := r.strip
  have e := strip_strip d
  generalize d.strip = d0 at r2 e
  cases d0 with
  | non => exact decide_eq_true r2
  | bl b => rw [show v = .bl b from r2]; rfl
  | int b => rw [show v = .int b from r2]; rfl
  | str b => rw [show v = .str b from r2]; rfl
  | lst xs => obtain ⟨a, vs, e, _⟩ := r2; rw [e]; rfl
  | tup xs => obtain ⟨a, vs, e, _⟩ := r2; rw [e]; rfl
  | dct ks vs => obtain ⟨a, vs, e, _⟩ := r2; rw [e]; rfl
  | ref i => obtain ⟨a, _, e⟩ := r2; rw [e]; rfl
  | inst c vs => obtain ⟨a, _, _, e, _⟩ := r2; rw [e]; rfl
  | fn i => obtain ⟨a, e, _⟩ := r2; rw [e]; rfl
  | tag i d =>
    have h : D.strip d = D.tag i d := e
    exact absurd h (by
      have key : ∀ (d0 : D), ∀ i d', D.strip d0 ≠ .tag i d' := by
        intro d0
        induction d0 using D.strip.induct with
        | case1 i d ih => exact fun i' d' z => ih i' d' z
        | case2 d h => intro i' d' z; unfold D.strip at z; split at z
                       · exact absurd rfl (h _ _)
                       · exact h _ _ z
      exact key d i d)
  | exn c vs => obtain ⟨a, dd, ws, e, _⟩ := r2; rw [e]; rfl
  | lam i c => obtain ⟨_, a, e, _⟩ := r2; rw [e]; rfl
  | scr ns => obtain ⟨a, e, _⟩ := r2; rw [e]; rfl
  | kl xs => obtain ⟨a, _, e, _⟩ := r2; rw [e]; rfl
def D.isNon (d : D) : Bool := match d.strip with
  | .non => true
  | _ => false
def gIsN (s : S) (a b : D) : Option D := if b.isNon = true then some (.bl a.isNon) else none
def gNotN (s : S) (a b : D) : Option D := if b.isNon = true then some (.bl (!a.isNon)) else none
def gIsB (s : S) (a b : D) : Option D := match a.strip, b.strip with
  | .bl x, .bl y => some (.bl (decide (x = y)))
  | _, _ => none
section
variable {C : Cfg} {X : Cx}
theorem isNon_eq {W : Wd} {H : Hp} {d : D} {v : V} (r : RD C X.K W H d v) (h : d.isNon = true) : v = .non := by
  have e := non_iff r
  have e2 : decide (v = .non) = d.isNon := e
  rw [h] at e2
  exact of_decide_eq_true e2
theorem o_isN : OpR X (compareOp .Is) (r2 C X.K gIsN) := OpR.imp op_isN fun x y H Q h => by
  obtain ⟨W, s, d, e, t, hd, he, q⟩ := h
  unfold gIsN at q
  by_cases z : e.isNon = true
  · rw [if_pos z] at q
    exact ⟨isNon_eq he z, same_q t q (by rw [non_iff hd]; rfl)⟩
  · rw [if_neg z] at q
    exact q.elim
theorem o_notN : OpR X (compareOp .IsNot) (r2 C X.K gNotN) := OpR.imp op_notN fun x y H Q h => by
  obtain ⟨W, s, d, e, t, hd, he, q⟩ := h
  unfold gNotN at q
  by_cases z : e.isNon = true
  · rw [if_pos z] at q
    exact ⟨isNon_eq he z, same_q t q (by rw [non_iff hd]; rfl)⟩
  · rw [if_neg z] at q
    exact q.elim
theorem o_isB : OpR X (compareOp .Is) (r2 C X.K gIsB) := OpR.imp op_is_bl fun x y H Q h => by
  obtain ⟨W, s, d, e, t, hd, he, q⟩ := h
  have hd := hd.strip
  have he := he.strip
  unfold gIsB at q
  generalize d.strip = d0 at q hd
  generalize e.strip = e0 at q he
  split at q
  · rename_i z hz
    split at hz
    · cases hz
      exact ⟨_, _, hd, he, same_q t q rfl⟩
    · cases hz
  · exact q.elim
end
end DV
end
section
set_option Elab.async false
set_option linter.all false
set_option maxRecDepth 100000
/-! DQ: dicts, in, [], slices over data. -/
namespace DV
open PySem PySem.Spec PyProof.Rows L2

/-! ### keys -/
def kD (d : D) : Option Key := match d.strip with
  | .int i => some (.inl i)
  | .str x => some (.inr x)
  | _ => none
def kDs : List D → Option (List Key)
  | [] => some []
  | d :: ds => match kD d, kDs ds with
    | some a, some b => some (a :: b)
    | _, _ => none
def kTD (d : D) : Option (List Key) := match d.strip with
  | .tup xs => kDs xs
  | _ => none
def look1 : List D → List D → Key → Option D
  | k :: ks, v :: vs, q => if kD k = some q then some v else look1 ks vs q
  | _, _, _ => none
def lookT : List D → List D → List Key → Option D
  | k :: ks, v :: vs, q => if kTD k = some q then some v else lookT ks vs q
  | _, _, _ => none
theorem kD_keyD (k : Key) : kD (keyD k) = some k := by cases k <;> rfl
theorem kDs_map : ∀ ks : List Key, kDs (ks.map keyD) = some ks
  | [] => rfl
  | k :: ks => by
    show (match kD (keyD k), kDs (ks.map keyD) with
      | some a, some b => some (a :: b)
      | _, _ => none) = _
    rw [kD_keyD, kDs_map ks]
theorem kTD_map (ks : List Key) : kTD (.tup (ks.map keyD)) = some ks := kDs_map ks
section
variable {C : Cfg} {K : PySem.W.Frag} {W : Wd} {H : Hp}
theorem kD_rd {d : D} {v : V} {k : Key} (r : RD C K W H d v) (h : kD d = some k) : v = kV k := by
  have r2 := r.strip
  unfold kD at h
  generalize d.strip = d0 at r2 h
  cases d0 with
  | int i => cases h; exact r2
  | str i => cases h; exact r2
  | _ => cases h
theorem kDs_rd : ∀ {ds : List D} {vs : List V} {k : List Key}, RDs C K W H ds vs → kDs ds = some k → vs = k.map kV
  | [], vs, k, r, h => by
    cases h
    exact r
  | d :: ds, vs, k, r, h => by
    obtain ⟨v, rs, rfl, h1, h2⟩ := r
    unfold kDs at h
    cases ha : kD d with
    | none => rw [ha] at h; cases h
    | some a =>
      cases hb : kDs ds with
      | none => rw [ha, hb] at h; cases h
      | some b =>
        rw [ha, hb] at h
        cases h
        rw [kD_rd h1 ha, kDs_rd h2 hb]
        rfl
theorem kTD_rd {d : D} {v : V} {k : List Key} (r : RD C K W H d v) (h : kTD d = some k) : ∃ b, v = .ref b ∧ H b = some (.tup (k.map kV)) := by
  have r2 := r.strip
  unfold kTD at h
  generalize d.strip = d0 at r2 h
  cases d0 with
  | tup xs =>
    obtain ⟨a, vs, e, _, l, q⟩ := r2
    rw [kDs_rd q h] at l
    exact ⟨a, e, l⟩
  | _ => cases h
theorem look1_rd : ∀ {kvs : List (Key × V)} {vs : List D} {q : Key}, RDs C K W H vs (kvs.map (·.2)) → match look1 (kvs.map fun p => keyD p.1) vs q with
    | some d => ∃ v, valV kvs q = some v ∧ RD C K W H d v
    | none => valV kvs q = none
  | [], vs, q, r => by
    show valV [] q = none
    rfl
  | p :: kvs, [], q, r => by
    have r' : p.2 :: kvs.map (·.2) = [] := r
    cases r'
  | p :: kvs, d :: vs, q, r => by
    obtain ⟨v, rs, e, h1, h2⟩ := r
    have e' : p.2 :: kvs.map (·.2) = v :: rs := e
    injection e' with e1 e2
    have ih := look1_rd (q := q) (kvs := kvs) (vs := vs) (by rw [e2]; exact h2)
    by_cases hk : p.1 = q
    · have z : look1 ((p :: kvs).map fun p => keyD p.1) (d :: vs) q = some d := by
        show (if kD (keyD p.1) = some q then some d else _) = some d
        rw [kD_keyD, if_pos (by rw [hk])]
      rw [z, valV_pos hk]
      exact ⟨v, by rw [e1], h1⟩
    · have z : look1 ((p :: kvs).map fun p => keyD p.1) (d :: vs) q = look1 (kvs.map fun p => keyD p.1) vs q := by
        show (if kD (keyD p.1) = some q then some d else look1 (kvs.map fun p => keyD p.1) vs q) = _
        rw [kD_keyD, if_neg (fun z => hk (Option.some.inj z))]
      rw [z, valV_neg hk]
      exact ih
theorem lookT_rd : ∀ {kvs : List (List Key × V)} {vs : List D} {q : List Key}, RDs C K W H vs (kvs.map (·.2)) → match lookT (kvs.map fun p => D.tup (p.1.map keyD)) vs q with
    | some d => ∃ v, valV kvs q = some v ∧ RD C K W H d v
    | none => valV kvs q = none
  | [], vs, q, r => by
    show valV [] q = none
    rfl
  | p :: kvs, [], q, r => by
    have r' : p.2 :: kvs.map (·.2) = [] := r
    cases r'
  | p :: kvs, d :: vs, q, r => by
    obtain ⟨v, rs, e, h1, h2⟩ := r
    have e' : p.2 :: kvs.map (·.2) = v :: rs := e
    injection e' with e1 e2
    have ih := lookT_rd (q := q) (kvs := kvs) (vs := vs) (by rw [e2]; exact h2)
    by_cases hk : p.1 = q
    · have z : lookT ((p :: kvs).map fun p => D.tup (p.1.map keyD)) (d :: vs) q = some d := by
        show (if kTD (.tup (p.1.map keyD)) = some q then some d else _) = some d
        rw [kTD_map, if_pos (by rw [hk])]
      rw [z, valV_pos hk]
      exact ⟨v, by rw [e1], h1⟩
    · have z : lookT ((p :: kvs).map fun p => D.tup (p.1.map keyD)) (d :: vs) q = lookT (kvs.map fun p => D.tup (p.1.map keyD)) vs q := by
        show (if kTD (.tup (p.1.map keyD)) = some q then some d else lookT (kvs.map fun p => D.tup (p.1.map keyD)) vs q) = _
        rw [kTD_map, if_neg (fun z => hk (Option.some.inj z))]
      rw [z, valV_neg hk]
      exact ih
end

/-! ### a dict, and which keys it takes -/
/-- keys, values, whether the keys are tuples -/
def dctD (s : S) (d : D) : Option (List D × List D × Bool) := match d.strip with
  | .ref i => (match s.mo[i]? with
    | some (.dK ks vs) => some (ks, vs, false)
    | some (.dT ks vs) => some (ks, vs, true)
    | _ => none)
  | .dct ks vs => (match ks with
    | .tup _ :: _ => some (ks, vs, true)
    | .int _ :: _ => some (ks, vs, false)
    | .str _ :: _ => some (ks, vs, false)
    | [] => some (ks, vs, false)
    | _ => none)
  | _ => none
section
variable {C : Cfg} {K : PySem.W.Frag} {W : Wd} {H : Hp} {s : S}
theorem dct_of {d : D} {v : V} {ks vs : List D} {t : Bool} (z : StS C K W H s) (r : RD C K W H d v) (h : dctD s d = some (ks, vs, t)) : ∃ a, v = .ref a ∧
    ((t = false ∧ ∃ kvs : List (Key × V), H a = some (.dK kvs) ∧ ks = kvs.map (fun p => keyD p.1) ∧ RDs C K W H vs (kvs.map (·.2))) ∨
     (t = true ∧ ∃ kvs : List (List Key × V), H a = some (.dT kvs) ∧ ks = kvs.map (fun p => D.tup (p.1.map keyD)) ∧ RDs C K W H vs (kvs.map (·.2)))) := by
  have r2 := r.strip
  unfold dctD at h
  generalize d.strip = d0 at r2 h
  cases d0 with
  | ref i =>
    obtain ⟨a, h1, h2⟩ := r2
    have h : (match s.mo[i]? with
      | some (.dK ks vs) => some (ks, vs, false)
      | some (.dT ks vs) => some (ks, vs, true)
      | _ => none) = some (ks, vs, t) := h
    split at h
    · rename_i hx
      cases h
      obtain ⟨kvs, g1, g2, g3, _⟩ := z.mo i _ a hx h1
      exact ⟨a, h2, .inl ⟨rfl, kvs, g1, g2, g3⟩⟩
    · rename_i hx
      cases h
      obtain ⟨kvs, g1, g2, g3, _⟩ := z.mo i _ a hx h1
      exact ⟨a, h2, .inr ⟨rfl, kvs, g1, g2, g3⟩⟩
    · cases h
  | dct ks' vs' =>
    obtain ⟨a, ws, e, _, l, q⟩ := r2
    refine ⟨a, e, ?_⟩
    have h : (match (generalizing := false) ks' with
      | .tup _ :: _ => some (ks', vs', true)
      | .int _ :: _ => some (ks', vs', false)
      | .str _ :: _ => some (ks', vs', false)
      | [] => some (ks', vs', false)
      | _ => none) = some (ks, vs, t) := h
    rcases l with ⟨kvs, g1, g2, g3⟩ | ⟨kvs, g1, g2, g3, g4⟩
    · subst g2 g3
      cases kvs with
      | nil => cases h; exact .inl ⟨rfl, _, g1, rfl, q⟩
      | cons p kvs =>
        obtain ⟨k, x⟩ := p
        cases k with
        | inl i => cases h; exact .inl ⟨rfl, _, g1, rfl, q⟩
        | inr i => cases h; exact .inl ⟨rfl, _, g1, rfl, q⟩
    · subst g2 g3
      cases kvs with
      | nil => exact absurd rfl g4
      | cons p kvs => cases h; exact .inr ⟨rfl, _, g1, rfl, q⟩
  | _ => cases h
/-- what is found at a key: none of the option where the key is no key -/
def findD (x : List D × List D × Bool) (k : D) : Option (Option D) := if x.2.2 = true then (kTD k).map (lookT x.1 x.2.1) else (kD k).map (look1 x.1 x.2.1)
theorem find_of {d k : D} {v y : V} {x : List D × List D × Bool} {o : Option D} (z : StS C K W H s) (r : RD C K W H d v) (rk : RD C K W H k y) (h : dctD s d = some x) (hk : findD x k = some o) : ∃ a, v = .ref a ∧ match o with
    | some e => ∃ u, DGet H a y (some u) ∧ RD C K W H e u
    | none => DGet H a y none := by
  obtain ⟨ks, vs, t⟩ := x
  obtain ⟨a, e, q⟩ := dct_of z r h
  refine ⟨a, e, ?_⟩
  rcases q with ⟨rfl, kvs, g1, rfl, g3⟩ | ⟨rfl, kvs, g1, rfl, g3⟩
  · have hk : (kD k).map (look1 (kvs.map fun p => keyD p.1) vs) = some o := hk
    cases hq : kD k with
    | none => rw [hq] at hk; cases hk
    | some q =>
      rw [hq] at hk
      have hk : look1 (kvs.map fun p => keyD p.1) vs q = o := Option.some.inj hk
      have l := look1_rd (q := q) g3
      rw [hk] at l
      have ey := kD_rd rk hq
      cases o with
      | none => exact .inl ⟨kvs, q, .inl g1, ey, l.symm⟩
      | some e =>
        obtain ⟨u, l1, l2⟩ := l
        exact ⟨u, .inl ⟨kvs, q, .inl g1, ey, l1.symm⟩, l2⟩
  · have hk : (kTD k).map (lookT (kvs.map fun p => D.tup (p.1.map keyD)) vs) = some o := hk
    cases hq : kTD k with
    | none => rw [hq] at hk; cases hk
    | some q =>
      rw [hq] at hk
      have hk : lookT (kvs.map fun p => D.tup (p.1.map keyD)) vs q = o := Option.some.inj hk
      have l := lookT_rd (q := q) g3
      rw [hk] at l
      obtain ⟨b, ey, hb⟩ := kTD_rd rk hq
      cases o with
      | none => exact .inr ⟨kvs, q, b, .inl g1, ey, hb, l.symm⟩
      | some e =>
        obtain ⟨u, l1, l2⟩ := l
        exact ⟨u, .inr ⟨kvs, q, b, .inl g1, ey, hb, l1.symm⟩, l2⟩
end

/-! ### in -/
def fl (d : D) : Option V := match d.strip with
  | .non => some .non
  | .bl b => some (.bl b)
  | .int i => some (.int i)
  | .str x => some (.str x)
  | _ => none
def fls : List D → Option (List V)
  | [] => some []
  | d :: ds => match fl d, fls ds with
    | some a, some b => some (a :: b)
    | _, _ => none
def inLst (x : D) (xs : List D) : Option Bool := match fl x, fls xs with
  | some a, some as => some (inV a as)
  | _, _ => match x.pdS, (D.lst xs).pdS with
    | some d, some (.list ds) => some (ds.any fun z => PyData.eqv z d)
    | _, _ => none
def inTup (x : D) (xs : List D) : Option Bool := match fl x, fls xs with
  | some a, some as => some (inV a as)
  | _, _ => none
def inStr (x : D) (z : Str) : Option Bool := match x with
  | .str ⟨c⟩ => (match c.toList with
    | [k] => some (decide (k ∈ z.cps.toList))
    | _ => none)
  | _ => none
/-- x in y -/
def inD (s : S) (x y : D) : Option Bool := match dctD s y with
  | some t => (findD t x).map (·.isSome)
  | none => match view s y with
    | .str z => inStr (view s x) z
    | .lst xs => inLst (view s x) xs
    | .kl xs => inTup (view s x) xs
    | .tup xs => inTup (view s x) xs
    | _ => none
def gIn (s : S) (x y : D) : Option D := (inD s x y).map .bl
def gNotIn (s : S) (x y : D) : Option D := (inD s x y).map fun b => .bl (!b)
section
variable {C : Cfg} {K : PySem.W.Frag} {W : Wd} {H : Hp} {s : S}
theorem fl_see {d : D} {v u : V} (r : See C K W H d v) (h : fl d = some u) : v = u ∧ flatV u = true := by
  cases d with
  | non => cases h; exact ⟨r, rfl⟩
  | bl b => cases h; exact ⟨r, rfl⟩
  | int b => cases h; exact ⟨r, rfl⟩
  | str b => cases h; exact ⟨r, rfl⟩
  | tag i d =>
    have r : RD C K W H (.tag i d) v := r
    have r2 := r.strip
    unfold fl at h
    generalize D.strip (.tag i d) = d0 at r2 h
    cases d0 with
    | non => cases h; exact ⟨r2, rfl⟩
    | bl b => cases h; exact ⟨r2, rfl⟩
    | int b => cases h; exact ⟨r2, rfl⟩
    | str b => cases h; exact ⟨r2, rfl⟩
    | _ => cases h
  | _ => cases h
theorem fl_rd {d : D} {v u : V} (r : RD C K W H d v) (h : fl d = some u) : v = u ∧ flatV u = true := by
  have r2 := r.strip
  unfold fl at h
  generalize d.strip = d0 at r2 h
  cases d0 with
  | non => cases h; exact ⟨r2, rfl⟩
  | bl b => cases h; exact ⟨r2, rfl⟩
  | int b => cases h; exact ⟨r2, rfl⟩
  | str b => cases h; exact ⟨r2, rfl⟩
  | _ => cases h
theorem fls_rd : ∀ {ds : List D} {vs us : List V}, RDs C K W H ds vs → fls ds = some us → vs = us ∧ us.all flatV = true
  | [], vs, us, r, h => by
    cases h
    exact ⟨r, rfl⟩
  | d :: ds, vs, us, r, h => by
    obtain ⟨v, rs, rfl, h1, h2⟩ := r
    unfold fls at h
    cases ha : fl d with
    | none => rw [ha] at h; cases h
    | some a =>
      cases hb : fls ds with
      | none => rw [ha, hb] at h; cases h
      | some b =>
        rw [ha, hb] at h
        cases h
        obtain ⟨e1, e2⟩ := fl_rd h1 ha
        obtain ⟨e3, e4⟩ := fls_rd h2 hb
        rw [e1, e3, List.all_cons, e2, e4]
        exact ⟨rfl, rfl⟩
end
def rDIn (neg : Bool) : R2 := fun x y H Q => ∃ a o, y = .ref a ∧ DGet H a x o ∧ Q (.bl (if neg then !o.isSome else o.isSome)) H
theorem op_dIn {X : Cx} (hu : X.A.units + 1 < cLine) : OpR X (compareOp .In) (rDIn false) := fun pins s σ H x y v u Q I rx ry h => by
  obtain ⟨a, o, rfl, g, q⟩ := h
  obtain rfl : u = Value.ref a := ry
  exact d_in hu I g rx fun s3 I3 => ⟨.bl o.isSome, H, I3, rfl, q⟩
theorem op_dNotIn {X : Cx} (hu : X.A.units + 1 < cLine) : OpR X (compareOp .NotIn) (rDIn true) := fun pins s σ H x y v u Q I rx ry h => by
  obtain ⟨a, o, rfl, g, q⟩ := h
  obtain rfl : u = Value.ref a := ry
  exact d_notIn hu I g rx fun s3 I3 => ⟨.bl (!o.isSome), H, I3, rfl, q⟩
section
variable {C : Cfg} {X : Cx}
theorem inStr_inv {x : D} {z : Str} {k : Bool} (h : inStr x z = some k) : ∃ c, x = .str ⟨#[c]⟩ ∧ k = decide (c ∈ z.cps.toList) := by
  unfold inStr at h
  split at h
  · rename_i c
    split at h
    · rename_i k hc
      cases h
      refine ⟨k, ?_, rfl⟩
      have e : c = #[k] := by rw [← Array.toArray_toList (xs := c), hc]
      rw [e]
    · cases h
  · cases h
abbrev InR (K : PySem.W.Frag) (neg : Bool) (x y : V) (H : Hp) (Q : VK) : Prop :=
  rDIn neg x y H Q ∨ (∃ c z, x = .str ⟨#[c]⟩ ∧ y = .str z ∧ Q (.bl (if neg then !decide (c ∈ z.cps.toList) else decide (c ∈ z.cps.toList))) H) ∨ rIn K neg x y H Q ∨
      (∃ d ds, Dp K H x d ∧ Dp K H y (.list ds) ∧ SeqAt.shaped d = true ∧ SeqAt.shaped (.list ds) = true ∧ Q (.bl (if neg then !ds.any fun z => PyData.eqv z d else ds.any fun z => PyData.eqv z d)) H)
/-- the reading that x in y wants, with and without not -/
theorem in_reads {neg : Bool} {W : Wd} {H : Hp} {s : S} {d e : D} {x y : V} {k : Bool} {Q : VK} (t : StS C X.K W H s) (hd : RD C X.K W H d x) (he : RD C X.K W H e y) (h : inD s d e = some k) (q : Q (.bl (if neg then !k else k)) H) :
    InR X.K neg x y H Q := by
  have sd := see_of t hd
  have se := see_of t he
  unfold inD at h
  cases hc : dctD s e with
  | some tt =>
    rw [hc] at h
    cases hf : findD tt d with
    | none => 
      have h : (findD tt d).map (·.isSome) = some k := h
      rw [hf] at h; cases h
    | some o =>
      have h : (findD tt d).map (·.isSome) = some k := h
      rw [hf] at h
      cases h
      obtain ⟨a, rfl, g⟩ := find_of t he hd hc hf
      cases o with
      | none => exact .inl ⟨a, none, rfl, g, q⟩
      | some w =>
        obtain ⟨u, g, _⟩ := g
        exact .inl ⟨a, some u, rfl, g, q⟩
  | none =>
    rw [hc] at h
    have tupc : ∀ (xs : List D) (a : Addr) (vs : List V), y = .ref a → (SqL X.K H a vs ∨ SqT X.K H a vs) → RDs C X.K W H xs vs → (∀ a1 a2, fl (view s d) = some a1 → fls xs = some a2 → inV a1 a2 = k → rIn X.K neg x y H Q) := by
      intro xs a vs e0 sq rs a1 a2 f1 f2 f3
      obtain ⟨e1, e2⟩ := fl_see sd f1
      obtain ⟨e3, e4⟩ := fls_rd rs f2
      exact ⟨a, vs, e0, sq, by rw [e1]; exact e2, by rw [e3]; exact e4, by rw [e1, e3, f3]; exact q⟩
    cases hv : view s e with
    | str z =>
      rw [hv] at h se
      obtain ⟨c, e1, e2⟩ := inStr_inv h
      rw [e1] at sd
      exact .inr (.inl ⟨c, z, sd, se, by rw [← e2]; exact q⟩)
    | lst xs =>
      rw [hv] at h se
      have h : inLst (view s d) xs = some k := h
      obtain ⟨a, vs, e0, l, rs⟩ := id se
      have deep : (match (generalizing := false) (view s d).pdS, (D.lst xs).pdS with
          | some d, some (.list ds) => some (ds.any fun z => PyData.eqv z d)
          | _, _ => none) = some k → InR X.K neg x y H Q := fun h => by
        split at h
        · rename_i p ps hp hps
          cases h
          obtain ⟨p1, p2⟩ := pdS_inv hp
          obtain ⟨p3, p4⟩ := pdS_inv hps
          exact .inr (.inr (.inr ⟨p, ps, dp_see sd p1, dp_see se p3, p2, p4, q⟩))
        · cases h
      unfold inLst at h
      cases f1 : fl (view s d) with
      | some a1 =>
        cases f2 : fls xs with
        | some a2 =>
          rw [f1, f2] at h
          exact .inr (.inr (.inl (tupc xs a vs e0 (.inl (SqL.of l)) rs a1 a2 f1 f2 (Option.some.inj h))))
        | none =>
          rw [f1, f2] at h
          exact deep h
      | none =>
        rw [f1] at h
        exact deep h
    | tup xs =>
      rw [hv] at h se
      have h : inTup (view s d) xs = some k := h
      obtain ⟨a, vs, e0, l, rs⟩ := se
      unfold inTup at h
      split at h
      · rename_i a1 a2 f1 f2
        exact .inr (.inr (.inl (tupc xs a vs e0 (.inr (SqT.of l)) rs a1 a2 f1 f2 (Option.some.inj h))))
      · cases h
    | kl xs =>
      rw [hv] at h se
      have h : inTup (view s d) xs = some k := h
      obtain ⟨a, vs, e0, l, rs⟩ := se
      unfold inTup at h
      split at h
      · rename_i a1 a2 f1 f2
        exact .inr (.inr (.inl (tupc xs a vs e0 (.inl (.inr l)) rs a1 a2 f1 f2 (Option.some.inj h))))
      · cases h
    | _ =>
      rw [hv] at h
      cases h
theorem o_in (hu : X.A.units + 65 < cLine) : OpR X (compareOp .In) (r2 C X.K gIn) := OpR.imp ((op_dIn (by omega)).or (op_in_sign.or (op_in_seq.or (op_inD hu)))) fun x y H Q h => by
  obtain ⟨W, s, d, e, t, hd, he, q⟩ := h
  unfold gIn at q
  cases hz : inD s d e with
  | none => rw [hz] at q; exact q.elim
  | some k =>
    rw [hz] at q
    exact in_reads (neg := false) t hd he hz (same_q t q rfl)
theorem o_notIn (hu : X.A.units + 65 < cLine) : OpR X (compareOp .NotIn) (r2 C X.K gNotIn) := OpR.imp ((op_dNotIn (by omega)).or (op_notIn_sign.or (op_notIn_seq.or (op_notInD hu)))) fun x y H Q h => by
  obtain ⟨W, s, d, e, t, hd, he, q⟩ := h
  unfold gNotIn at q
  cases hz : inD s d e with
  | none => rw [hz] at q; exact q.elim
  | some k =>
    rw [hz] at q
    exact in_reads (neg := true) t hd he hz (same_q t q rfl)
end
end DV
end
section
set_option Elab.async false
set_option linter.all false
set_option maxRecDepth 100000
/-! DR: [], slices, calls of built-in functions over data. -/
namespace DV
open PySem PySem.Spec PyProof.Rows L2

/-! ### a[b] -/
def rDGet : R2 := fun x y H Q => ∃ a v, x = .ref a ∧ DGet H a y (some v) ∧ Q v H
theorem ix_dget {X : Cx} (hu : X.A.units + 1 < cLine) : IxR X rDGet := by
  intro value slice pins s σ H x y o i Q I rx ry h hs
  obtain ⟨a, v, rfl, g, q⟩ := h
  obtain rfl : o = Value.ref a := rx
  have hT := dict_typeIs I g
  have h₂ : wpAny (model X.prog X.w) X.A (getItem (.ref a) i) (EP X pins σ Q) X.xe s := d_getItem hu I g ry fun w' s3 I3 rw' => ⟨v, H, I3, rw', q⟩
  unfold subscriptTail
  refine wpAny_bind ?_
  rw [getitemInPython_of_ne hT.not_modules]
  refine wpAny_bind (wpAny_specialOf hT PySem.F.slot_dict_getitem.lookup ?_)
  have fin : wpAny (model X.prog X.w) X.A (subscripted slice false (.ref a) i) (fun r s₃ => wpAny (model X.prog X.w) X.A (letTemporaryGo value (.ref a) r >>= fun _ => pure r) (EP X pins σ Q) X.xe s₃) X.xe s := by
    rw [hs]
    exact wpAny_operating (wpAny_mono h₂ (fun r s₃ h₃ => wpAny_bind (wpAny_letTemporaryGo (wpAny_pure h₃))) fun _ _ x => x)
  first
    | exact wpAny_pure (wpAny_bind fin)
    | exact wpAny_bind (wpAny_pure (wpAny_bind fin))
    | exact wpAny_bind fin
def ixD (v : D) (i : Int) : Option D := match v with
  | .str z => if z.length ≤ sizeLine then (atI z.cps.toList i).map fun c => .str ⟨#[c]⟩ else none
  | v => (seqD v).bind fun xs => atI xs i
def gIx (s : S) (a b : D) : Option D := match dctD s a with
  | some t => (findD t b).bind id
  | none => match view s b with
    | .int i => ixD (view s a) i
    | _ => none
theorem RDs.atI {C : Cfg} {K : PySem.W.Frag} {W : Wd} {H : Hp} {xs : List D} {vs : List V} {i : Int} {d : D} (r : RDs C K W H xs vs) (h : L2.atI xs i = some d) : ∃ v, L2.atI vs i = some v ∧ RD C K W H d v := by
  unfold L2.atI at h ⊢
  rw [r.length] at h
  cases hi : ixN vs.length i with
  | none => rw [hi] at h; cases h
  | some j =>
    rw [hi] at h
    exact r.get h
section
variable {C : Cfg} {X : Cx} {Wx : WX} {a b : Expr} {fa fb : Ex} {pos : Pos}
theorem ix_reads {W : Wd} {H : Hp} {s : S} {d e z : D} {x y : V} {Q : VK} (t : StS C X.K W H s) (hd : RD C X.K W H d x) (he : RD C X.K W H e y) (h : gIx s d e = some z) (q : ∀ v, RD C X.K W H z v → Q v H) : rDGet x y H Q ∨ rIx X.K x y H Q := by
  have sd := see_of t hd
  have se := see_of t he
  unfold gIx at h
  cases hc : dctD s d with
  | some tt =>
    rw [hc] at h
    have h : (findD tt e).bind id = some z := h
    cases hf : findD tt e with
    | none => rw [hf] at h; cases h
    | some o =>
      rw [hf] at h
      have h : o = some z := h
      subst h
      obtain ⟨a, rfl, u, g, r⟩ := find_of t hd he hc hf
      exact .inl ⟨a, u, rfl, g, q u r⟩
  | none =>
    rw [hc] at h
    cases hw : view s e with
    | int i =>
      rw [hw] at h se
      have h : ixD (view s d) i = some z := h
      refine .inr ?_
      have seqc : ∀ xs, seqD (view s d) = some xs → L2.atI xs i = some z → rIx X.K x y H Q := fun xs e1 e2 => by
        obtain ⟨a, vs, rfl, l, r⟩ := seq_of sd e1
        obtain ⟨v, g1, g2⟩ := r.atI e2
        rcases l with l | l
        · exact .inl ⟨a, vs, i, v, rfl, se, l, g1, q v g2⟩
        · exact .inr (.inl ⟨a, vs, i, v, rfl, se, l, g1, q v g2⟩)
      unfold ixD at h
      split at h
      · rename_i zz hz
        rw [hz] at sd
        split at h
        · rename_i hl
          cases hat : L2.atI zz.cps.toList i with
          | none => rw [hat] at h; cases h
          | some c =>
            rw [hat] at h
            cases h
            exact .inr (.inr ⟨zz, i, c, sd, se, hl, hat, q _ rfl⟩)
        · cases h
      · cases hs : seqD (view s d) with
        | none => rw [hs] at h; cases h
        | some xs =>
          rw [hs] at h
          exact seqc xs hs h
    | _ =>
      rw [hw] at h
      cases h
theorem de_ix (hu : X.A.units + 1 < cLine) (ha : DE C X Wx a fa) (hb : DE C X Wx b fb) (hs : PlainIx b := by intro _ _; with_unfolding_all rfl) : DE C X Wx (.Subscript a b pos) (xBin gIx fa fb) :=
  PE.imp (pe_ix ((ix_dget hu).or ix_seq) ha hb hs) fun σ H Q h => by
    have h2 := tD_bin (K := X.K) σ H Q h
    refine (show ∀ σ H Q, tOp (r2 C X.K gIx) (tD C X.K Wx fa) (tD C X.K Wx fb) σ H Q → _ from fun σ H Q h => ?_) σ H Q h2
    obtain ⟨W, env, s, e, q⟩ := h
    refine ⟨W, env, s, e, Res.imp q fun x H1 q1 => ?_⟩
    obtain ⟨W1, env1, s1, e1, q1⟩ := q1
    refine ⟨W1, env1, s1, e1, Res.imp q1 fun y H2 q2 => ?_⟩
    obtain ⟨W2, s2, d, e', t, hd, he, q2⟩ := q2
    cases hz : gIx s2 d e' with
    | none => rw [hz] at q2; exact q2.elim
    | some z =>
      rw [hz] at q2
      exact ix_reads t hd he hz fun v r => q2 W2 H2 v Le.refl t r
end

/-! ### slices -/
abbrev Px := Env → S → Out (Option Int)
def pNo : Px := fun _ s => .ok none s
def pAt (a : Ex) : Px := fun e s => (a e s).bind fun x s => match view s x with
  | .int i => .ok (some i) s
  | _ => .stuck
def cutL {α : Type} (xs : List α) (lo hi : Option Int) : List α := (xs.drop (HT.sIx xs.length 0 lo)).take (HT.sIx xs.length xs.length hi - HT.sIx xs.length 0 lo)
def sliceD (v : D) (lo hi : Option Int) : Option D := match v with
  | .str z => if z.length ≤ sizeLine then some (.str (cutS z lo hi)) else none
  | .tup xs => some (.tup (cutL xs lo hi))
  | v => (lstD v).map fun xs => .lst (cutL xs lo hi)
def xSlice (a : Ex) (lo hi : Px) : Ex := fun e s => (a e s).bind fun x s => (lo e s).bind fun l s => (hi e s).bind fun h s => Out.of (sliceD (view s x) l h) s
def tPx (C : Cfg) (K : PySem.W.Frag) (Wx : WX) (f : Px) : TO := fun σ H Q => ∃ W env s, StE C K W H σ env s ∧ Res C K (fun _ _ a b => a = b) Wx σ env W H s (f env s) Q
def DPt (C : Cfg) (X : Cx) (Wx : WX) (e : Option Expr) (f : Px) : Prop := PO X e (tPx C X.K Wx f)
theorem PO.imp {X : Cx} {e : Option Expr} {t t' : TO} (h : PO X e t) (f : ∀ σ H Q, t' σ H Q → t σ H Q) : PO X e t' := ⟨fun pins s σ H Q I q => h.run pins s σ H Q I (f _ _ _ q)⟩
theorem RDs.drop {C : Cfg} {K : PySem.W.Frag} {W : Wd} {H : Hp} : ∀ {xs : List D} {vs : List V} (n : Nat), RDs C K W H xs vs → RDs C K W H (xs.drop n) (vs.drop n)
  | _, _, 0, r => r
  | [], vs, n + 1, r => by
    have e : vs = [] := r
    subst e
    rfl
  | x :: xs, vs, n + 1, r => by
    obtain ⟨v, rs, rfl, _, h2⟩ := r
    exact RDs.drop n h2
theorem RDs.take {C : Cfg} {K : PySem.W.Frag} {W : Wd} {H : Hp} : ∀ {xs : List D} {vs : List V} (n : Nat), RDs C K W H xs vs → RDs C K W H (xs.take n) (vs.take n)
  | _, _, 0, r => by
    rw [List.take_zero, List.take_zero]
    rfl
  | [], vs, n + 1, r => by
    have e : vs = [] := r
    subst e
    rfl
  | x :: xs, vs, n + 1, r => by
    obtain ⟨v, rs, rfl, h1, h2⟩ := r
    exact ⟨v, rs.take n, rfl, h1, RDs.take n h2⟩
theorem RDs.cut {C : Cfg} {K : PySem.W.Frag} {W : Wd} {H : Hp} {xs : List D} {vs : List V} (lo hi : Option Int) (r : RDs C K W H xs vs) : RDs C K W H (cutL xs lo hi) (cutV vs lo hi) := by
  unfold cutL cutV
  rw [r.length]
  exact (r.drop _).take _
section
variable {C : Cfg} {X : Cx} {Wx : WX} {a b : Expr} {fa fb : Ex} {pos : Pos}
theorem dp_no : DPt C X Wx none pNo := PO.imp po_none fun σ H Q h => by
  obtain ⟨W, env, s, e, q⟩ := h
  exact Res.here (a := none) q e rfl
theorem dp_at (ha : DE C X Wx a fa) : DPt C X Wx (some a) (pAt fa) := PO.imp (po_some ha) fun σ H Q h => by
  obtain ⟨W, env, s, e, q⟩ := h
  refine ⟨W, env, s, e, Res.step q fun W1 H1 s1 d x l1 e1 h1 q1 => ?_⟩
  have z := see_of e1.st h1
  revert q1
  split
  · rename_i i hi
    rw [hi] at z
    exact fun q1 => ⟨i, z, Res.here (b := some i) q1 e1 rfl⟩
  · exact fun q1 => q1.elim
theorem slice_reads {W : Wd} {H : Hp} {s : S} {d z : D} {x : V} {lo hi : Option Int} {Q : VK} (t : StS C X.K W H s) (hd : RD C X.K W H d x) (h : sliceD (view s d) lo hi = some z) (q : ∀ W' H' v, Le W H s W' H' s → StS C X.K W' H' s → RD C X.K W' H' z v → Q v H') :
    rSlL X.K x lo hi H Q ∨ rSlS x lo hi H Q ∨ rSlA X.K x lo hi H Q := by
  have sd := see_of t hd
  have lc : ∀ v, view s d = v → (lstD v).map (fun xs => D.lst (cutL xs lo hi)) = some z → rSlL X.K x lo hi H Q := fun v e h => by
    rw [e] at sd
    cases hl : lstD v with
    | none => rw [hl] at h; cases h
    | some xs =>
      rw [hl] at h
      cases h
      obtain ⟨a, vs, rfl, l, r⟩ := lst_of sd hl
      exact ⟨a, vs, rfl, l, new_lst t (r.cut lo hi) q⟩
  cases hv : view s d with
  | str zz =>
    rw [hv] at h sd
    have h : (if zz.length ≤ sizeLine then some (D.str (cutS zz lo hi)) else none) = some z := h
    split at h
    · rename_i hl
      cases h
      exact .inr (.inl ⟨zz, sd, hl, same_q t q rfl⟩)
    · cases h
  | tup xs =>
    rw [hv] at h
    have h : some (D.tup (cutL xs lo hi)) = some z := h
    cases h
    have hd' := hd.strip
    rw [view_tup hv] at hd'
    obtain ⟨a, vs, rfl, f, l, r⟩ := hd'
    refine .inr (.inr ⟨a, vs, rfl, SqT.of l, fun hw => ?_, fun _ => new_tup t (r.cut lo hi) q⟩)
    refine same_q t q ⟨a, vs, rfl, f, l, ?_⟩
    have e : cutL xs lo hi = xs := by
      unfold cutL
      rw [r.length, hw.1, hw.2, List.drop_zero, Nat.sub_zero, ← r.length, List.take_length]
    rw [e]
    exact r
  | lst xs => exact .inl (lc _ hv (by rw [hv] at h; exact h))
  | scr xs => exact .inl (lc _ hv (by rw [hv] at h; exact h))
  | kl xs => exact .inl (lc _ hv (by rw [hv] at h; exact h))
  | _ =>
    rw [hv] at h
    cases h
theorem de_slice {lo hi : Option Expr} {fl fh : Px} {p2 : Pos} (ha : DE C X Wx a fa) (hl : DPt C X Wx lo fl) (hh : DPt C X Wx hi fh) : DE C X Wx (.Subscript a (.Slice lo hi none p2) pos) (xSlice fa fl fh) :=
  PE.imp (pe_slice (sl_list.or (sl_str.or sl_tupA)) ha hl hh) fun σ H Q h => by
    obtain ⟨W, env, s, e, q⟩ := h
    refine ⟨W, env, s, e, Res.step q fun W1 H1 s1 d x l1 e1 h1 q1 => ⟨W1, env, s1, e1, Res.step q1 fun W2 H2 s2 lo' lo2 l2 e2 h2 q2 => ⟨W2, env, s2, e2, Res.step q2 fun W3 H3 s3 hi' hi2 l3 e3 h3 q3 => ?_⟩⟩⟩
    have h2 : lo' = lo2 := h2
    have h3 : hi' = hi2 := h3
    subst h2 h3
    have h4 := (h1.mono l2 e1.st).mono l3 e2.st
    revert q3
    unfold Out.of
    cases hz : sliceD (view s3 d) lo' hi' with
    | none => exact fun q => q.elim
    | some z => exact fun q => slice_reads e3.st h4 hz fun W4 H4 v l4 t4 r4 => q W4 H4 v l4 (e3.later l4 t4) r4
/-- xs[::-1] -/
def gRevL (s : S) (a : D) : Option D := (lstD (view s a)).map fun xs => .lst xs.reverse
theorem RDs.rev {K : PySem.W.Frag} {W : Wd} {H : Hp} : ∀ {xs : List D} {vs : List V}, RDs C K W H xs vs → RDs C K W H xs.reverse vs.reverse
  | [], vs, r => by
    have e : vs = [] := r
    subst e
    rfl
  | x :: xs, vs, r => by
    obtain ⟨v, rs, rfl, h1, h2⟩ := r
    rw [List.reverse_cons, List.reverse_cons]
    exact (RDs.rev h2).append ⟨v, [], rfl, h1, rfl⟩
theorem de_revL {k : Nat} {p1 p2 p3 : Pos} (ha : DE C X Wx a fa) : DE C X Wx (.Subscript a (.Slice none none (some (.UnaryOp .USub (.Constant (.int 1) k p1) p2)) p3) pos) (xUn gRevL fa) :=
  PE.imp (pe_revL ha) fun σ H Q h => by
    obtain ⟨W, env, s, e, q⟩ := h
    refine ⟨W, env, s, e, Res.step q fun W1 H1 s1 d x l1 e1 h1 q1 => ?_⟩
    have z := see_of e1.st h1
    revert q1
    unfold Out.of gRevL
    cases hl : lstD (view s1 d) with
    | none => exact fun q => q.elim
    | some xs =>
      intro q
      obtain ⟨a, vs, rfl, l, r⟩ := lst_of z hl
      exact ⟨a, vs, rfl, l, new_lst e1.st r.rev fun W4 H4 v l4 t4 r4 => q W4 H4 v l4 (e1.later l4 t4) r4⟩
end
end DV
end
section
set_option Elab.async false
set_option linter.all false
set_option maxRecDepth 100000
/-! DS: calls of built-in functions over data. -/
namespace DV
open PySem PySem.Spec PyProof.Rows L2

/-! ### a call of one argument -/
/-- a rule of one value -/
def f1 (g : S → D → Option D) : S → List D → Out D := fun s ds => match ds with
  | [d] => Out.of (g s d) s
  | _ => .stuck
theorem rds1 {C : Cfg} {K : PySem.W.Frag} {W : Wd} {H : Hp} {d : D} {vs : List V} (r : RDs C K W H [d] vs) : ∃ v, vs = [v] ∧ RD C K W H d v := by
  obtain ⟨v, rs, e, h1, h2⟩ := r
  have h2 : rs = [] := h2
  subst h2
  exact ⟨v, e, h1⟩
theorem rds2 {C : Cfg} {K : PySem.W.Frag} {W : Wd} {H : Hp} {d e : D} {vs : List V} (r : RDs C K W H [d, e] vs) : ∃ v u, vs = [v, u] ∧ RD C K W H d v ∧ RD C K W H e u := by
  obtain ⟨v, rs, e, h1, h2⟩ := r
  obtain ⟨u, e2, h3⟩ := rds1 h2
  subst e2
  exact ⟨v, u, e, h1, h3⟩
section
variable {C : Cfg} {K : PySem.W.Frag}
theorem rc1 {g : S → D → Option D} {vs : List V} {H : Hp} {Q : VK} (h : rc C K (f1 g) vs H Q) : ∃ W s d v z, vs = [v] ∧ StS C K W H s ∧ RD C K W H d v ∧ g s d = some z ∧ ∀ W' H' v, Le W H s W' H' s → StS C K W' H' s → RD C K W' H' z v → Q v H' := by
  obtain ⟨W, s, ds, t, r, q⟩ := h
  match ds, r, q with
  | [], _, q => exact q.elim
  | [d], r, q =>
    obtain ⟨v, e, r1⟩ := rds1 r
    have q : (match Out.of (g s d) s with
      | .ok d s' => ∀ W' H' v, Le W H s W' H' s' → StS C K W' H' s' → RD C K W' H' d v → Q v H'
      | _ => False) := q
    cases hz : g s d with
    | none => rw [hz] at q; exact q.elim
    | some z =>
      rw [hz] at q
      exact ⟨W, s, d, v, z, e, t, r1, hz, q⟩
  | _ :: _ :: _, _, q => exact q.elim
end
theorem CallR.r1 {C : Cfg} {X : Cx} {f : Value} {r : List V → Hp → VK → Prop} {g : S → D → Option D} (h : CallR X f r) (i : ∀ W s d z v H Q, StS C X.K W H s → RD C X.K W H d v → g s d = some z → (∀ W' H' v, Le W H s W' H' s → StS C X.K W' H' s → RD C X.K W' H' z v → Q v H') → r [v] H Q) :
    CallR X f (rc C X.K (f1 g)) := CallR.imp h fun vs H Q h => by
  obtain ⟨W, s, d, v, z, rfl, t, rd, hz, q⟩ := rc1 h
  exact i W s d z v H Q t rd hz q

/-! ### new lists from calls -/
def rcN (C : Cfg) (K : PySem.W.Frag) (F : S → List D → Option (List D)) : List V → Hp → VK → Prop := fun vs H Q => ∃ W s ds, StS C K W H s ∧ RDs C K W H ds vs ∧ match F s ds with
  | some xs => ∀ W' H' p ws, Le W H s W' H' s → StS C K W' H' s → ¬ W'.F p → p ∉ W'.al → H p = none → H' p = some (.lst ws) → RDs C K W' H' xs ws → Q (.ref p) H'
  | none => False
def aCallN (F : S → List D → Option (List D)) (a : Ax) : Ax := fun e s => (a e s).bind fun ds s => Out.of (F s ds) s
def fn1 (g : S → D → Option (List D)) : S → List D → Option (List D) := fun s ds => match ds with
  | [d] => g s d
  | _ => none
section
variable {C : Cfg} {K : PySem.W.Frag} {Wx : WX}
theorem tN_callB {F : S → List D → Option (List D)} {fa : Ax} : ∀ σ H Q, tN C K Wx (aCallN F fa) σ H Q → tAx C K Wx fa σ H fun vs H1 => rcN C K F vs H1 Q := fun σ H Q h => by
  obtain ⟨W, env, s, e, q⟩ := h
  refine ⟨W, env, s, e, ?_⟩
  unfold aCallN at q
  revert q
  cases fa env s with
  | ok ds s1 =>
    intro q W1 H1 vs l1 e1 r1
    refine ⟨W1, s1, ds, e1.st, r1, ?_⟩
    revert q
    show (match Out.of (F s1 ds) s1 with
      | .ok ds s' => _
      | .exc c vs s' => _
      | .stuck => False) → _
    cases F s1 ds with
    | some xs => exact fun q W2 H2 p ws l2 t2 n1 n2 hp h1 r => q W2 H2 p ws (l1.trans l2) (e1.later l2 t2) n1 n2 (l1.wasNone hp) h1 r
    | none => exact fun q => q
  | exc c vs s1 => exact fun q => q
  | stuck => exact fun q => q
theorem new_r {W : Wd} {H : Hp} {s : S} {ds : List D} {vs : List V} {Q : VK} (t : StS C K W H s) (r : RDs C K W H ds vs)
    (q : ∀ W' H' p ws, Le W H s W' H' s → StS C K W' H' s → ¬ W'.F p → p ∉ W'.al → H p = none → H' p = some (.lst ws) → RDs C K W' H' ds ws → Q (.ref p) H') : ∀ p, H p = none → Q (.ref p) (L2.upd H p (.lst vs)) := fun p hp => by
  have nF : ¬ W.F p := fun z => (t.fz p z).1 hp
  have nA : p ∉ W.al := fun z => t.alh p z hp
  exact q W _ p vs (Le.fresh hp) (t.upd nF nA (.none hp)) nF nA hp upd_same (r.lf (Lf.upd nF))
end
theorem CallR.n1 {C : Cfg} {X : Cx} {f : Value} {r : List V → Hp → VK → Prop} {g : S → D → Option (List D)} (h : CallR X f r)
    (i : ∀ W s d xs v H Q, StS C X.K W H s → RD C X.K W H d v → g s d = some xs → (∀ W' H' p ws, Le W H s W' H' s → StS C X.K W' H' s → ¬ W'.F p → p ∉ W'.al → H p = none → H' p = some (.lst ws) → RDs C X.K W' H' xs ws → Q (.ref p) H') → r [v] H Q) :
    CallR X f (rcN C X.K (fn1 g)) := CallR.imp h fun vs H Q h => by
  obtain ⟨W, s, ds, t, r, q⟩ := h
  match ds, r, q with
  | [], _, q => exact q.elim
  | [d], r, q =>
    obtain ⟨v, rfl, r1⟩ := rds1 r
    have q : (match g s d with
      | some xs => ∀ W' H' p ws, Le W H s W' H' s → StS C X.K W' H' s → ¬ W'.F p → p ∉ W'.al → H p = none → H' p = some (.lst ws) → RDs C X.K W' H' xs ws → Q (.ref p) H'
      | none => False) := q
    cases hz : g s d with
    | none => rw [hz] at q; exact q.elim
    | some z =>
      rw [hz] at q
      exact i W s d z v H Q t r1 hz q
  | _ :: _ :: _, _, q => exact q.elim
section
variable {C : Cfg} {X : Cx} {Wx : WX} {e : Expr} {es : List Expr} {fa : Ax} {pos p : Pos} {x : Str} {F : S → List D → Option (List D)}
theorem ne_callB {id : String} (hc : CallR X (.builtin id) (rcN C X.K F)) (hg : Gl X x) (hm : X.mg x = none) (hv : bootBuiltins x = some (.builtin id)) (ha : DA C X Wx (e :: es) fa) (hn : x ≠ "__name__" := by decide) (hdb : (x == ("__debug__" : Str)) = false := by decide)
    (he : starEach (e :: es) X.env = (false, eval e X.env) :: starEach es X.env := by rfl) (hpl : (backTo pos (starEach es X.env)).any (·.1) = false := by rfl) : NE C X Wx (.Call (.Name x p) (e :: es) [] pos) (aCallN F fa) :=
  PE.imp (pe_callB hc hg hm hv ha hn hdb he hpl) tN_callB
theorem ne_callTy {T : String} (hc : CallR X (.type T) (rcN C X.K F)) (hg : Gl X x) (hm : X.mg x = none) (hv : bootBuiltins x = some (.type T)) (ha : DA C X Wx (e :: es) fa) (hn : x ≠ "__name__" := by decide) (hdb : (x == ("__debug__" : Str)) = false := by decide)
    (he : starEach (e :: es) X.env = (false, eval e X.env) :: starEach es X.env := by rfl) (hpl : (backTo pos (starEach es X.env)).any (·.1) = false := by rfl) : NE C X Wx (.Call (.Name x p) (e :: es) [] pos) (aCallN F fa) :=
  PE.imp (pe_callTy hc hg hm hv ha hn hdb he hpl) tN_callB
/-- [a, b, ..] -/
def aLst (a : Ax) : Ax := fun e s => (a e s).bind fun xs s => if xs.length ≤ sizeLine then .ok xs s else .stuck
theorem ne_lst (h : DA C X Wx es fa) : NE C X Wx (.List es pos) (aLst fa) := PE.imp (pe_lst h) fun σ H Q h => by
  obtain ⟨W, env, s, e, q⟩ := h
  refine ⟨W, env, s, e, ?_⟩
  unfold aLst at q
  revert q
  cases fa env s with
  | ok ds s1 =>
    intro q W1 H1 vs l1 e1 r1
    have q : (match (if ds.length ≤ sizeLine then Out.ok ds s1 else .stuck) with
      | .ok ds s' => ∀ W' H' p vs, Le W H s W' H' s' → StE C X.K W' H' σ env s' → ¬ W'.F p → p ∉ W'.al → H p = none → H' p = some (.lst vs) → RDs C X.K W' H' ds vs → Q (.ref p) H'
      | .exc c vs s' => _
      | .stuck => False) := q
    by_cases hl : ds.length ≤ sizeLine
    · rw [if_pos hl] at q
      exact ⟨by rw [← r1.length]; exact hl, new_r e1.st r1 fun W2 H2 p ws l2 t2 n1 n2 hp h1 r => q W2 H2 p ws (l1.trans l2) (e1.later l2 t2) n1 n2 (l1.wasNone hp) h1 r⟩
    · rw [if_neg hl] at q
      exact q.elim
  | exc c vs s1 => exact fun q => q
  | stuck => exact fun q => q
/-- a + b, lists -/
def aCat (a b : Ex) : Ax := fun e s => (a e s).bind fun x s => (b e s).bind fun y s => match view s x, view s y with
  | .lst xs, .lst ys => if xs.length + ys.length ≤ sizeLine then .ok (xs ++ ys) s else .stuck
  | _, _ => .stuck
theorem ne_cat {a b : Expr} {fa fb : Ex} (ha : DE C X Wx a fa) (hb : DE C X Wx b fb) : NE C X Wx (.BinOp a .Add b pos) (aCat fa fb) := PE.imp (pe_op op_cat ha hb) fun σ H Q h => by
  obtain ⟨W, env, s, e, q⟩ := h
  refine ⟨W, env, s, e, ?_⟩
  unfold aCat at q
  revert q
  cases fa env s with
  | exc c vs s1 => exact fun q => q
  | stuck => exact fun q => q
  | ok x s1 =>
    intro q W1 H1 v l1 e1 r1
    refine ⟨W1, env, s1, e1, ?_⟩
    revert q
    show (match ((fb env s1).bind fun y s => match view s x, view s y with
      | .lst xs, .lst ys => if xs.length + ys.length ≤ sizeLine then Out.ok (xs ++ ys) s else .stuck
      | _, _ => .stuck) with
      | .ok ds s' => _
      | .exc c vs s' => _
      | .stuck => False) → _
    cases fb env s1 with
    | exc c vs s2 => exact fun q W2 H2 dd ws l2 => q W2 H2 dd ws (l1.trans l2)
    | stuck => exact fun q => q
    | ok y s2 =>
      intro q W2 H2 u l2 e2 r2
      have v1 := see_of e2.st (r1.mono l2 e1.st)
      have v2 := see_of e2.st r2
      have q : (match (match view s2 x, view s2 y with
        | .lst xs, .lst ys => if xs.length + ys.length ≤ sizeLine then Out.ok (xs ++ ys) s2 else .stuck
        | _, _ => .stuck) with
        | .ok ds s' => ∀ W' H' p vs, Le W H s W' H' s' → StE C X.K W' H' σ env s' → ¬ W'.F p → p ∉ W'.al → H p = none → H' p = some (.lst vs) → RDs C X.K W' H' ds vs → Q (.ref p) H'
        | .exc c vs s' => _
        | .stuck => False) := q
      cases hx : view s2 x with
      | lst xs =>
        cases hy : view s2 y with
        | lst ys =>
          rw [hx, hy] at q
          rw [hx] at v1
          rw [hy] at v2
          obtain ⟨a1, us, rfl, g1, z1⟩ := v1
          obtain ⟨a2, ws, rfl, g2, z2⟩ := v2
          have q : (match (if xs.length + ys.length ≤ sizeLine then Out.ok (xs ++ ys) s2 else .stuck) with
            | .ok ds s' => ∀ W' H' p vs, Le W H s W' H' s' → StE C X.K W' H' σ env s' → ¬ W'.F p → p ∉ W'.al → H p = none → H' p = some (.lst vs) → RDs C X.K W' H' ds vs → Q (.ref p) H'
            | .exc c vs s' => _
            | .stuck => False) := q
          by_cases hl : xs.length + ys.length ≤ sizeLine
          · rw [if_pos hl] at q
            have l12 := l1.trans l2
            exact ⟨a1, a2, us, ws, rfl, rfl, g1, g2, by rw [← z1.length, ← z2.length]; exact hl, new_r e2.st (z1.append z2) fun W3 H3 p ws l3 t3 n1 n2 hp h1 r => q W3 H3 p ws (l12.trans l3) (e2.later l3 t3) n1 n2 (l12.wasNone hp) h1 r⟩
          · rw [if_neg hl] at q
            exact q.elim
        | _ =>
          rw [hx, hy] at q
          exact q.elim
      | _ =>
        rw [hx] at q
        exact q.elim
end

/-! ### len, list, tuple -/
def gLen (s : S) (d : D) : Option D := match view s d with
  | .str x => if x.length ≤ sizeLine then some (.int x.length) else none
  | .dct ks _ => some (.int ks.length)
  | v => (seqD v).map fun xs => .int xs.length
def signsD (z : Str) : List D := z.cps.toList.map fun c => .str ⟨#[c]⟩
def gList (s : S) (d : D) : Option (List D) := match dctD s d with
  | some (ks, _, false) => some ks
  | some (_, _, true) => none
  | none => match view s d with
    | .str z => if z.cps.size ≤ sizeLine then some (signsD z) else none
    | v => seqD v
def gTuple (s : S) (d : D) : Option D := (seqD (view s d)).map .tup
def rListStr : List V → Hp → VK → Prop := fun xs H Q => ∃ z : Str, xs = [.str z] ∧ z.cps.size ≤ sizeLine ∧ ∀ p, H p = none → Q (.ref p) (L2.upd H p (.lst (z.cps.toList.map fun c => V.str ⟨#[c]⟩)))
theorem cr_listStr {X : Cx} (hc : X.calm = true) : CallR X (.type "list") rListStr := fun pins s σ H xs us Q I r h => by
  obtain ⟨z, rfl, hz, q⟩ := h
  obtain ⟨u, rfl, ru⟩ := vals1 r
  obtain ⟨t, rfl⟩ := ru
  refine call_list_str (hn := hz) (I.ok.hd hc) z t fun h' tk acc c' hk e hi => ?_
  have hl : (z.cps.toList.map fun c => V.str ⟨#[c]⟩).length = z.cps.size := by simp
  refine ⟨.ref s.heap.objs.size, _, I.laid (o := .lst (z.cps.toList.map fun c => V.str ⟨#[c]⟩)) hk (Nat.le_refl _) ⟨by rw [hl]; exact hz, acc.toList, c', ?_, by rw [Array.toArray_toList]; exact e⟩, rfl, q _ (I.hok.fresh (Nat.le_refl _))⟩
  refine vals_of_idx _ _ (by rw [hl, Array.length_toList]; exact hi.1) fun j u hj => ?_
  obtain ⟨c, t', hc, rfl⟩ := hi.2 j u (by rw [← Array.getElem?_toList]; exact hj)
  refine ⟨.str ⟨#[c]⟩, ?_, ⟨_, rfl⟩⟩
  rw [List.getElem?_map, Array.getElem?_toList, hc]
  rfl
theorem rds_signs {C : Cfg} {K : PySem.W.Frag} {W : Wd} {H : Hp} : ∀ cs : List Nat, RDs C K W H (cs.map fun c => .str ⟨#[c]⟩) (cs.map fun c => V.str ⟨#[c]⟩)
  | [] => rfl
  | c :: cs => ⟨.str ⟨#[c]⟩, cs.map fun c => V.str ⟨#[c]⟩, rfl, rfl, rds_signs cs⟩
theorem rds_keys {C : Cfg} {K : PySem.W.Frag} {W : Wd} {H : Hp} : ∀ kvs : List (Key × V), RDs C K W H (kvs.map fun p => keyD p.1) (kvs.map fun p => kV p.1)
  | [] => rfl
  | (k, v) :: kvs => by
    refine ⟨kV k, kvs.map fun p => kV p.1, rfl, ?_, rds_keys kvs⟩
    cases k <;> rfl
section
variable {C : Cfg} {X : Cx}
theorem seqD_dct {s : S} {d : D} {xs : List D} (h : seqD (view s d) = some xs) : ∀ ks vs, view s d ≠ .dct ks vs := fun ks vs z => by
  rw [z] at h
  cases h
theorem c_len : CallR X (.builtin "len") (rc C X.K (f1 gLen)) := CallR.r1 (call_len.or (call_lenD.or call_len_dT)) fun W s d z v H Q t r h q => by
  have sd := see_of t r
  have key : ∀ xs, seqD (view s d) = some xs → z = .int xs.length → ∃ (x : V) (n : Nat), [v] = [x] ∧ LenV X.K x H n ∧ Q (.int n) H := fun xs e1 e2 => by
    obtain ⟨a, vs, rfl, l, rs⟩ := seq_of sd e1
    subst e2
    refine ⟨V.ref a, vs.length, rfl, l.elim (fun l => .inl ⟨vs, l, rfl⟩) (fun l => .inr ⟨vs, l, rfl⟩), same_q t q ?_⟩
    show V.int _ = V.int _
    rw [rs.length]
  unfold gLen at h
  cases hv : view s d with
  | str x =>
    rw [hv] at h sd
    have h : (if x.length ≤ sizeLine then some (D.int x.length) else none) = some z := h
    split at h
    · rename_i hl
      cases h
      exact .inl ⟨v, x.length, rfl, by rw [show v = .str x from sd]; exact ⟨hl, rfl⟩, same_q t q rfl⟩
    · cases h
  | dct ks vs =>
    rw [hv] at h sd
    cases h
    obtain ⟨a, ws, rfl, l, rs⟩ := sd
    rcases l with ⟨kvs, g1, g2, g3⟩ | ⟨kvs, g1, g2, g3⟩
    · refine .inr (.inl ⟨a, kvs, rfl, g1, same_q t q ?_⟩)
      show V.int (kvs.length : Int) = V.int (ks.length : Int)
      rw [g2, List.length_map]
    · refine .inr (.inr ⟨a, kvs, rfl, g1, same_q t q ?_⟩)
      show V.int (kvs.length : Int) = V.int (ks.length : Int)
      rw [g2, List.length_map]
  | lst xs => rw [hv] at h; exact .inl <| key _ (by rw [hv]; rfl) (Option.some.inj h).symm
  | tup xs => rw [hv] at h; exact .inl <| key _ (by rw [hv]; rfl) (Option.some.inj h).symm
  | scr xs => rw [hv] at h; exact .inl <| key _ (by rw [hv]; rfl) (Option.some.inj h).symm
  | kl xs => rw [hv] at h; exact .inl <| key _ (by rw [hv]; rfl) (Option.some.inj h).symm
  | _ =>
    rw [hv] at h
    cases h
theorem c_tuple : CallR X (.type "tuple") (rc C X.K (f1 gTuple)) := CallR.r1 call_tuple_of fun W s d z v H Q t r h q => by
  have sd := see_of t r
  unfold gTuple at h
  cases hs : seqD (view s d) with
  | none => rw [hs] at h; cases h
  | some xs =>
    rw [hs] at h
    cases h
    cases hl : lstD (view s d) with
    | some ys =>
      have e : xs = ys := by
        cases hv : view s d <;> rw [hv] at hs hl <;> first | (cases hs; done) | (cases hs; cases hl; rfl) | (cases hl; done)
      subst e
      obtain ⟨a, vs, rfl, l, rs⟩ := lst_of sd hl
      exact ⟨a, vs, rfl, .inl ⟨l, new_tup t rs q⟩⟩
    | none =>
      cases hv : view s d with
      | tup ys =>
        rw [hv] at hs
        cases hs
        have hd := r.strip
        rw [view_tup hv] at hd
        obtain ⟨a, vs, e, f, l, rs⟩ := id hd
        subst e
        exact ⟨a, vs, rfl, .inr ⟨SqT.of l, same_q t q hd⟩⟩
      | _ => rw [hv] at hs hl; first | (cases hs; done) | (cases hl; done)
theorem c_list (hc : X.calm = true) : CallR X (.type "list") (rcN C X.K (fn1 gList)) := CallR.n1 (call_list_of.or (((call_listD hc).or (cr_listStr hc)))) fun W s d xs v H Q t r h q => by
  have sd := see_of t r
  unfold gList at h
  cases hk : dctD s d with
  | some kk =>
    obtain ⟨ks, vs, tt⟩ := kk
    rw [hk] at h
    cases tt with
    | true => cases h
    | false =>
      cases h
      obtain ⟨a, rfl, z⟩ := dct_of t r hk
      rcases z with ⟨_, kvs, g1, g2, g3⟩ | ⟨z, _⟩
      · subst g2
        exact .inr (.inl ⟨a, kvs, rfl, .inl g1, new_r t (rds_keys kvs) q⟩)
      · cases z
  | none =>
    rw [hk] at h
    have h : (match view s d with
      | .str z => if z.cps.size ≤ sizeLine then some (signsD z) else none
      | v => seqD v) = some xs := h
    split at h
    · rename_i z hz
      rw [hz] at sd
      split at h
      · rename_i hl
        cases h
        exact .inr (.inr ⟨z, by rw [show v = .str z from sd], hl, new_r t (rds_signs _) q⟩)
      · cases h
    · obtain ⟨a, vs, rfl, l, rs⟩ := seq_of sd h
      exact .inl ⟨a, vs, rfl, l, new_r t rs q⟩
end
end DV
end
section
set_option Elab.async false
set_option linter.all false
set_option maxRecDepth 100000
/-! DT: what is walked: lists, tuples, texts, range, enumerate, zip. -/
namespace DV
open PySem PySem.Spec PyProof.Rows L2

def srcD (d : D) (xs : List D) : List (Nat × List D) := match d.strip with
  | .ref i => [(i, xs)]
  | _ => []
def wkD (d : D) (xs : List D) : Wk := ⟨xs, srcD d xs⟩
theorem view_same {s s' : S} {d : D} {xs : List D} (h : view s d = .lst xs) (w : ∀ p ∈ srcD d xs, s'.mo[p.1]? = some (.lst p.2)) : view s' d = .lst xs := by
  unfold view at h ⊢
  unfold srcD at w
  generalize d.strip = d0 at h w
  cases d0 with
  | ref i =>
    have w : s'.mo[i]? = some (.lst xs) := w (i, xs) List.mem_cons_self
    show (match s'.mo[i]? with
      | some (.lst xs) => D.lst xs
      | some (.dK ks vs) => .dct ks vs
      | some (.dT ks vs) => .dct ks vs
      | some (.ins c vs) => .inst c vs
      | _ => .ref i) = _
    rw [w]
  | lst ys => exact h
  | _ => cases h
theorem view_fix {s s' : S} {d : D} (h : match view s d with
    | .tup _ => True
    | .kl _ => True
    | .scr _ => True
    | _ => False) : view s' d = view s d := by
  unfold view at h ⊢
  generalize d.strip = d0 at h
  cases d0 with
  | ref i =>
    have h : (match (match s.mo[i]? with
      | some (.lst xs) => D.lst xs
      | some (.dK ks vs) => .dct ks vs
      | some (.dT ks vs) => .dct ks vs
      | some (.ins c vs) => .inst c vs
      | _ => .ref i) with
      | .tup _ => True
      | .kl _ => True
      | .scr _ => True
      | _ => False) := h
    split at h
    · rename_i hz; split at hz <;> cases hz
    · rename_i hz; split at hz <;> cases hz
    · rename_i hz; split at hz <;> cases hz
    · exact h.elim
  | _ => rfl
section
variable {C : Cfg} {K : PySem.W.Frag} {W : Wd} {H : Hp} {s : S}
/-- a list, whatever goes on -/
theorem gives_l {a : Addr} {w : Wk} (h : ∀ s, StS C K W H s → ∀ W' H' s', Le W H s W' H' s' → StS C K W' H' s' → w.same s' → ∃ vs, SqL K H' a vs ∧ RDs C K W' H' w.items vs) : Gives C K W H w (Itl K a) := fun s t W' H' s' l t' sm i => by
  obtain ⟨vs, g, r⟩ := h s t W' H' s' l t' sm
  refine ⟨fun e => ⟨vs, g, by rw [e, r.length]; exact Nat.le_refl _⟩, fun d hd => ?_⟩
  obtain ⟨v, hv, rv⟩ := r.get hd
  refine ⟨⟨vs, v, g, hv⟩, fun x H2 y => ?_⟩
  obtain ⟨rfl, y⟩ := y
  have e := y vs g
  rw [hv] at e
  cases e
  exact ⟨W', Le.refl, t', rv⟩
theorem gives_t {a : Addr} {w : Wk} (h : ∀ s, StS C K W H s → ∀ W' H' s', Le W H s W' H' s' → StS C K W' H' s' → w.same s' → ∃ vs, SqT K H' a vs ∧ RDs C K W' H' w.items vs) : Gives C K W H w (Itt K a) := fun s t W' H' s' l t' sm i => by
  obtain ⟨vs, g, r⟩ := h s t W' H' s' l t' sm
  refine ⟨fun e => ⟨vs, g, by rw [e, r.length]; exact Nat.le_refl _⟩, fun d hd => ?_⟩
  obtain ⟨v, hv, rv⟩ := r.get hd
  refine ⟨⟨vs, v, g, hv⟩, fun x H2 y => ?_⟩
  obtain ⟨rfl, y⟩ := y
  have e := y vs g
  rw [hv] at e
  cases e
  exact ⟨W', Le.refl, t', rv⟩
theorem gives_s {z : Str} : Gives C K W H ⟨signsD z, []⟩ (Its z) := fun s t W' H' s' l t' sm i => by
  have hl : (signsD z).length = z.cps.size := by unfold signsD; simp
  refine ⟨fun e => by
    have e : i = (signsD z).length := e
    show z.cps.size ≤ i
    rw [e, hl]; exact Nat.le_refl _, fun d hd => ?_⟩
  have hd : (signsD z)[i]? = some d := hd
  unfold signsD at hd
  rw [List.getElem?_map] at hd
  cases hc : z.cps.toList[i]? with
  | none => rw [hc] at hd; cases hd
  | some c =>
    rw [hc] at hd
    cases hd
    have hi : i < z.cps.size := by simpa using (List.getElem?_eq_some_iff.mp hc).1
    refine ⟨hi, fun x H2 y => ?_⟩
    obtain ⟨rfl, c', hc', rfl⟩ := y
    rw [← Array.getElem?_toList, hc] at hc'
    cases hc'
    exact ⟨W', Le.refl, t', rfl⟩
end
def ixSeq (a : Ex) : Ix := fun e s => (a e s).bind fun d s => match view s d with
  | .lst xs => .ok (wkD d xs) s
  | .tup xs => .ok ⟨xs, []⟩ s
  | .kl xs => .ok ⟨xs, []⟩ s
  | .scr ns => .ok ⟨ns.map .int, []⟩ s
  | .str z => .ok ⟨signsD z, []⟩ s
  | _ => .stuck
section
variable {C : Cfg} {X : Cx} {Wx : WX} {tg e : Expr} {fe : Ex} {pos p : Pos}
theorem Res.ok' {α β : Type} {R : Wd → Hp → α → β → Prop} {C : Cfg} {K : PySem.W.Frag} {σ : L2.St} {env : Env} {W : Wd} {H : Hp} {s s' : S} {a : α} {Q : β → Hp → Prop} (h : Res C K R Wx σ env W H s (.ok a s') Q) {W' : Wd} {H' : Hp} {b : β} (l : Le W H s W' H' s') (t : StE C K W' H' σ env s') (r : R W' H' a b) : Q b H' := h W' H' b l t r
theorem di_seq (h : DE C X Wx e fe) : DI C X Wx tg e (ixSeq fe) := PI.imp (PI.or (pi_list h) (PI.or (pi_tup h) (pi_str h))) fun σ H R q => by
  obtain ⟨W, env, s, e, q⟩ := q
  unfold ixSeq at q
  cases hf : fe env s with
  | exc c vs s1 =>
    rw [hf] at q
    exact .inl ⟨W, env, s, e, by rw [hf]; exact q⟩
  | stuck =>
    rw [hf] at q
    exact q.elim
  | ok d s1 =>
    rw [hf] at q
    have q : Res C X.K (Gives C X.K) Wx σ env W H s (match view s1 d with
      | .lst xs => .ok (wkD d xs) s1
      | .tup xs => .ok ⟨xs, []⟩ s1
      | .kl xs => .ok ⟨xs, []⟩ s1
      | .scr ns => .ok ⟨ns.map .int, []⟩ s1
      | .str z => .ok ⟨signsD z, []⟩ s1
      | _ => .stuck) R := q
    have viaL : ∀ xs w, lstD (view s1 d) = some xs → w.items = xs → (∀ s', w.same s' → view s' d = view s1 d) → Res C X.K (Gives C X.K) Wx σ env W H s (.ok w s1) R → iList X.K (tD C X.K Wx fe) σ H R := fun xs w e1 e2 e3 q => by
      refine ⟨W, env, s, e, ?_⟩
      rw [hf]
      intro W1 H1 v l1 t1 r1
      obtain ⟨a, vs, rfl, sq, rs⟩ := lst_of (see_of t1.st r1) e1
      refine ⟨a, rfl, ⟨vs, sq⟩, q.ok' l1 t1 (gives_l fun s2 t2 W' H' s' l t' sm => ?_)⟩
      have z := see_of t' (r1.mono l t2)
      rw [e3 s' sm] at z
      obtain ⟨a', vs', e4, sq', rs'⟩ := lst_of z e1
      cases e4
      rw [e2]
      exact ⟨vs', sq', rs'⟩
    cases hv : view s1 d with
    | lst xs =>
      rw [hv] at q
      exact .inl (viaL xs _ (by rw [hv]; rfl) rfl (fun s' sm => by rw [hv]; exact view_same hv sm) q)
    | scr ns =>
      rw [hv] at q
      exact .inl (viaL _ _ (by rw [hv]; rfl) rfl (fun s' sm => view_fix (by rw [hv]; trivial)) q)
    | kl xs =>
      rw [hv] at q
      exact .inl (viaL _ _ (by rw [hv]; rfl) rfl (fun s' sm => view_fix (by rw [hv]; trivial)) q)
    | tup xs =>
      rw [hv] at q
      refine .inr (.inl ⟨W, env, s, e, ?_⟩)
      rw [hf]
      intro W1 H1 v l1 t1 r1
      have z := see_of t1.st r1
      rw [hv] at z
      obtain ⟨a, vs, rfl, sq, rs⟩ := z
      refine ⟨a, rfl, ⟨vs, SqT.of sq⟩, q.ok' l1 t1 (gives_t fun s2 t2 W' H' s' l t' sm => ?_)⟩
      have z := see_of t' (r1.mono l t2)
      rw [view_fix (s := s1) (s' := s') (by rw [hv]; trivial), hv] at z
      obtain ⟨a', vs', e4, sq', rs'⟩ := z
      cases e4
      exact ⟨vs', SqT.of sq', rs'⟩
    | str z =>
      rw [hv] at q
      refine .inr (.inr ⟨W, env, s, e, ?_⟩)
      rw [hf]
      intro W1 H1 v l1 t1 r1
      have w := see_of t1.st r1
      rw [hv] at w
      exact ⟨z, w, q.ok' l1 t1 gives_s⟩
    | _ =>
      rw [hv] at q
      exact q.elim
end

/-! ### range -/
def rngD (lo : Int) (n : Nat) : List D := (List.range n).map fun i : Nat => .int (lo + i)
theorem rngD_get {lo : Int} {n i : Nat} {d : D} (h : (rngD lo n)[i]? = some d) : i < n ∧ d = .int (lo + i) := by
  unfold rngD at h
  rw [List.getElem?_map] at h
  cases hr : (List.range n)[i]? with
  | none => rw [hr] at h; cases h
  | some j =>
    rw [hr] at h
    cases h
    obtain ⟨h1, h2⟩ := List.getElem?_eq_some_iff.mp hr
    rw [List.getElem_range] at h2
    subst h2
    exact ⟨by simpa using h1, rfl⟩
theorem rngD_len {lo : Int} {n : Nat} : (rngD lo n).length = n := by
  unfold rngD
  rw [List.length_map, List.length_range]
theorem gives_r {C : Cfg} {K : PySem.W.Frag} {W : Wd} {H : Hp} {lo : Int} {n : Nat} : Gives C K W H ⟨rngD lo n, []⟩ (Itr lo n) := fun s t W' H' s' l t' sm i => by
  refine ⟨fun e => by
    have e : i = (rngD lo n).length := e
    rw [rngD_len] at e
    show n ≤ i
    omega, fun d hd => ?_⟩
  obtain ⟨h1, rfl⟩ := rngD_get hd
  refine ⟨h1, fun x H2 y => ?_⟩
  obtain ⟨rfl, rfl⟩ := y
  exact ⟨W', Le.refl, t', rfl⟩
def ixRng1 (a : Ax) : Ix := fun e s => (a e s).bind fun ds s => match ds.map (view s) with
  | [.int j] => if -(2 ^ 62) ≤ j ∧ j < 2 ^ 62 then .ok ⟨rngD 0 j.toNat, []⟩ s else .stuck
  | _ => .stuck
def ixRng2 (a : Ax) : Ix := fun e s => (a e s).bind fun ds s => match ds.map (view s) with
  | [.int i, .int j] => if -(2 ^ 62) ≤ i ∧ i < 2 ^ 62 ∧ -(2 ^ 62) ≤ j ∧ j < 2 ^ 62 then .ok ⟨rngD i (j - i).toNat, []⟩ s else .stuck
  | _ => .stuck
section
variable {C : Cfg} {X : Cx} {Wx : WX} {tg a b : Expr} {fa : Ax} {pos p : Pos}
theorem di_range1 (hg : Gl X "range") (hm : X.mg "range" = none) (ha : DA C X Wx [a] fa) (hs : starEach [a] X.env = [(false, eval a X.env)] := by rfl) : DI C X Wx tg (.Call (.Name "range" p) [a] [] pos) (ixRng1 fa) := PI.imp (pi_range1 hg hm ha hs) fun σ H R q => by
  obtain ⟨W, env, s, e, q⟩ := q
  refine ⟨W, env, s, e, Res.step q fun W1 H1 s1 ds vs l1 e1 h1 q1 => ?_⟩
  revert q1
  split
  · rename_i j hj
    have hl : ds.length = 1 := by rw [← List.length_map (f := view s1), hj]; rfl
    match ds, hl with
    | [d], _ =>
      obtain ⟨v, rfl, r⟩ := rds1 h1
      have z := see_of e1.st r
      have hj : [view s1 d] = [.int j] := hj
      injection hj with hj _
      rw [hj] at z
      split
      · rename_i hb
        exact fun q => ⟨j, by rw [show v = .int j from z], hb.1, hb.2, q.ok' Le.refl e1 gives_r⟩
      · exact fun q => q.elim
  · exact fun q => q.elim
theorem di_range2 (hg : Gl X "range") (hm : X.mg "range" = none) (ha : DA C X Wx [a, b] fa) (hs : starEach [a, b] X.env = [(false, eval a X.env), (false, eval b X.env)] := by rfl) (hs2 : starEach [b] X.env = [(false, eval b X.env)] := by rfl) :
    DI C X Wx tg (.Call (.Name "range" p) [a, b] [] pos) (ixRng2 fa) := PI.imp (pi_range2 hg hm ha hs hs2) fun σ H R q => by
  obtain ⟨W, env, s, e, q⟩ := q
  refine ⟨W, env, s, e, Res.step q fun W1 H1 s1 ds vs l1 e1 h1 q1 => ?_⟩
  revert q1
  split
  · rename_i i j hj
    have hl : ds.length = 2 := by rw [← List.length_map (f := view s1), hj]; rfl
    match ds, hl with
    | [d, d'], _ =>
      obtain ⟨v, u, rfl, r, r'⟩ := rds2 h1
      have z := see_of e1.st r
      have z' := see_of e1.st r'
      have hj : [view s1 d, view s1 d'] = [.int i, .int j] := hj
      injection hj with hi hj
      injection hj with hj _
      rw [hi] at z
      rw [hj] at z'
      split
      · rename_i hb
        exact fun q => ⟨i, j, by rw [show v = .int i from z, show u = .int j from z'], hb, q.ok' Le.refl e1 gives_r⟩
      · exact fun q => q.elim
  · exact fun q => q.elim
end

/-! ### enumerate, zip -/
def enumD (i : Nat) : List D → List D
  | [] => []
  | d :: ds => .tup [.int i, d] :: enumD (i + 1) ds
theorem enumD_get {d : D} : ∀ {ds : List D} {k i : Nat}, (enumD k ds)[i]? = some d → ∃ e, ds[i]? = some e ∧ d = .tup [.int ((k + i : Nat) : Int), e]
  | [], k, i, h => by cases i <;> cases h
  | e :: ds, k, 0, h => by
    cases h
    exact ⟨e, rfl, rfl⟩
  | e :: ds, k, i + 1, h => by
    obtain ⟨e', h1, h2⟩ := enumD_get (ds := ds) (k := k + 1) (i := i) h
    exact ⟨e', h1, by rw [h2]; congr 4; omega⟩
theorem enumD_len : ∀ (ds : List D) (k : Nat), (enumD k ds).length = ds.length
  | [], _ => rfl
  | d :: ds, k => by
    show (enumD (k + 1) ds).length + 1 = ds.length + 1
    rw [enumD_len ds]
def zipD : List D → List D → List D
  | a :: as, b :: bs => .tup [a, b] :: zipD as bs
  | _, _ => []
theorem zipD_get {d : D} : ∀ {as bs : List D} {i : Nat}, (zipD as bs)[i]? = some d → ∃ a b, as[i]? = some a ∧ bs[i]? = some b ∧ d = .tup [a, b]
  | [], bs, i, h => by cases bs <;> cases i <;> cases h
  | a :: as, [], i, h => by cases i <;> cases h
  | a :: as, b :: bs, 0, h => by
    cases h
    exact ⟨a, b, rfl, rfl, rfl⟩
  | a :: as, b :: bs, i + 1, h => zipD_get (as := as) (bs := bs) (i := i) h
theorem zipD_len : ∀ as bs : List D, (zipD as bs).length = min as.length bs.length
  | [], bs => by cases bs <;> simp [zipD]
  | a :: as, [] => by simp [zipD]
  | a :: as, b :: bs => by
    show (zipD as bs).length + 1 = min (as.length + 1) (bs.length + 1)
    rw [zipD_len as bs]
    omega
section
variable {C : Cfg} {K : PySem.W.Frag} {W : Wd} {H : Hp} {s : S}
theorem fresh_tup {T : Addr} {xs : List D} {vs : List V} (t : StS C K W H s) (hT : H T = none) (r : RDs C K W H xs vs) : ∃ W2, Le W H s W2 (L2.upd H T (.tup vs)) s ∧ StS C K W2 (L2.upd H T (.tup vs)) s ∧ RD C K W2 (L2.upd H T (.tup vs)) (.tup xs) (.ref T) := by
  have l : Le W H s (W.add T) (L2.upd H T (.tup vs)) s := Le.laid t hT
  exact ⟨W.add T, l, t.laid hT (fun _ z => nomatch z), T, vs, rfl, .inr rfl, upd_same, r.mono l t⟩
theorem gives_e {a : Addr} {xs : List D} {src : List (Nat × List D)} (h : ∀ s, StS C K W H s → ∀ W' H' s', Le W H s W' H' s' → StS C K W' H' s' → (∀ p ∈ src, s'.mo[p.1]? = some (.lst p.2)) → ∃ vs, SqL K H' a vs ∧ RDs C K W' H' xs vs) :
    Gives C K W H ⟨enumD 0 xs, src⟩ (Ite K a) := fun s t W' H' s' l t' sm i => by
  obtain ⟨vs, g, r⟩ := h s t W' H' s' l t' sm
  refine ⟨fun e => ⟨vs, g, ?_⟩, fun d hd => ?_⟩
  · have e : i = (enumD 0 xs).length := e
    rw [enumD_len, r.length] at e
    omega
  · have hd : (enumD 0 xs)[i]? = some d := hd
    obtain ⟨d', h1, rfl⟩ := enumD_get hd
    obtain ⟨v, hv, rv⟩ := r.get h1
    refine ⟨⟨vs, v, g, hv⟩, fun x H2 y => ?_⟩
    obtain ⟨T, x', rfl, hT, rfl, y⟩ := y
    have e := y vs g
    rw [hv] at e
    cases e
    rw [Nat.zero_add]
    exact fresh_tup t' hT ⟨.int (i : Nat), [v], rfl, rfl, v, [], rfl, rv, rfl⟩
theorem gives_z {a b : Addr} {xs ys : List D} {src : List (Nat × List D)} (h : ∀ s, StS C K W H s → ∀ W' H' s', Le W H s W' H' s' → StS C K W' H' s' → (∀ p ∈ src, s'.mo[p.1]? = some (.lst p.2)) → ∃ vs us, SqL K H' a vs ∧ SqL K H' b us ∧ RDs C K W' H' xs vs ∧ RDs C K W' H' ys us) :
    Gives C K W H ⟨zipD xs ys, src⟩ (Itz K a b) := fun s t W' H' s' l t' sm i => by
  obtain ⟨vs, us, g, g', r, r'⟩ := h s t W' H' s' l t' sm
  refine ⟨fun e => ⟨vs, us, g, g', ?_⟩, fun d hd => ?_⟩
  · have e : i = (zipD xs ys).length := e
    rw [zipD_len, r.length, r'.length] at e
    omega
  · have hd : (zipD xs ys)[i]? = some d := hd
    obtain ⟨d1, d2, h1, h2, rfl⟩ := zipD_get hd
    obtain ⟨v, hv, rv⟩ := r.get h1
    obtain ⟨u, hu, ru⟩ := r'.get h2
    refine ⟨⟨vs, us, v, u, g, g', hv, hu⟩, fun x H2 y => ?_⟩
    obtain ⟨T, x', y', rfl, hT, rfl, y1, y2⟩ := y
    have e := y1 vs g
    rw [hv] at e
    cases e
    have e := y2 us g'
    rw [hu] at e
    cases e
    exact fresh_tup t' hT ⟨v, [u], rfl, rv, u, [], rfl, ru, rfl⟩
theorem gives_zt {a b : Addr} {xs ys : List D} {src : List (Nat × List D)} (h : ∀ s, StS C K W H s → ∀ W' H' s', Le W H s W' H' s' → StS C K W' H' s' → ∃ vs us, SqT K H' a vs ∧ SqT K H' b us ∧ RDs C K W' H' xs vs ∧ RDs C K W' H' ys us) :
    Gives C K W H ⟨zipD xs ys, src⟩ (RZ.ItzT K a b) := fun s t W' H' s' l t' sm i => by
  obtain ⟨vs, us, g, g', r, r'⟩ := h s t W' H' s' l t'
  refine ⟨fun e => ⟨vs, us, g, g', ?_⟩, fun d hd => ?_⟩
  · have e : i = (zipD xs ys).length := e
    rw [zipD_len, r.length, r'.length] at e
    omega
  · have hd : (zipD xs ys)[i]? = some d := hd
    obtain ⟨d1, d2, h1, h2, rfl⟩ := zipD_get hd
    obtain ⟨v, hv, rv⟩ := r.get h1
    obtain ⟨u, hu, ru⟩ := r'.get h2
    refine ⟨⟨vs, us, v, u, g, g', hv, hu⟩, fun x H2 y => ?_⟩
    obtain ⟨T, x', y', rfl, hT, rfl, y1, y2⟩ := y
    have e := y1 vs g
    rw [hv] at e
    cases e
    have e := y2 us g'
    rw [hu] at e
    cases e
    exact fresh_tup t' hT ⟨v, [u], rfl, rv, u, [], rfl, ru, rfl⟩
end
/-- items of a list, and what must stand still -/
def lsD (s : S) (d : D) : Option (List D × List (Nat × List D)) := match view s d with
  | .lst xs => some (xs, srcD d xs)
  | .kl xs => some (xs, [])
  | .scr ns => some (ns.map .int, [])
  | _ => none
theorem lsD_of {s : S} {d : D} {x : List D × List (Nat × List D)} (h : lsD s d = some x) : lstD (view s d) = some x.1 ∧ ∀ s', (∀ p ∈ x.2, s'.mo[p.1]? = some (.lst p.2)) → view s' d = view s d := by
  unfold lsD at h
  cases hv : view s d with
  | lst xs =>
    rw [hv] at h
    cases h
    exact ⟨rfl, fun s' sm => view_same hv sm⟩
  | kl xs =>
    rw [hv] at h
    cases h
    exact ⟨rfl, fun s' sm => by rw [← hv]; exact view_fix (by rw [hv]; trivial)⟩
  | scr xs =>
    rw [hv] at h
    cases h
    exact ⟨rfl, fun s' sm => by rw [← hv]; exact view_fix (by rw [hv]; trivial)⟩
  | _ =>
    rw [hv] at h
    cases h
def ixEnum (a : Ax) : Ix := fun e s => (a e s).bind fun ds s => match ds with
  | [d] => (match lsD s d with
    | some x => .ok ⟨enumD 0 x.1, x.2⟩ s
    | none => .stuck)
  | _ => .stuck
def zipIx (s : S) (a b : D) : Out Wk := match lsD s a, lsD s b with
  | some x, some y => .ok ⟨zipD x.1 y.1, x.2 ++ y.2⟩ s
  | _, _ => match view s a, view s b with
    | .tup xs, .tup ys => .ok ⟨zipD xs ys, []⟩ s
    | _, _ => .stuck
def ixZip (a : Ax) : Ix := fun e s => (a e s).bind fun ds s => match ds with
  | [d, d'] => zipIx s d d'
  | _ => .stuck
section
variable {C : Cfg} {X : Cx} {Wx : WX} {tg a b : Expr} {fa : Ax} {pos p tpos : Pos} {elts : List Expr} {kk : Nat}
theorem di_enum (hg : Gl X "enumerate") (hm : X.mg "enumerate" = none) (ha : DA C X Wx [a] fa) (hs : starEach [a] X.env = [(false, eval a X.env)] := by rfl) :
    DI C X Wx (.Tuple elts kk tpos) (.Call (.Name "enumerate" p) [a] [] pos) (ixEnum fa) := PI.imp (pi_enum hg hm ha hs) fun σ H R q => by
  obtain ⟨W, env, s, e, q⟩ := q
  refine ⟨W, env, s, e, Res.step q fun W1 H1 s1 ds vs l1 e1 h1 q1 => ?_⟩
  revert q1
  match ds, h1 with
  | [], _ => exact fun q => q.elim
  | _ :: _ :: _, _ => exact fun q => q.elim
  | [d], h1 =>
    intro q
    have q : Res C X.K (Gives C X.K) Wx σ env W1 H1 s1 (match lsD s1 d with
      | some x => Out.ok ⟨enumD 0 x.1, x.2⟩ s1
      | none => .stuck) R := q
    obtain ⟨v, rfl, r⟩ := rds1 h1
    cases hx : lsD s1 d with
    | none => rw [hx] at q; exact q.elim
    | some x =>
      rw [hx] at q
      obtain ⟨k1, k2⟩ := lsD_of hx
      obtain ⟨a, us, rfl, sq, rs⟩ := lst_of (see_of e1.st r) k1
      refine ⟨a, us, rfl, sq, q.ok' Le.refl e1 (gives_e fun s2 t2 W' H' s' l t' sm => ?_)⟩
      have z := see_of t' (r.mono l t2)
      rw [k2 s' sm] at z
      obtain ⟨a', vs', e4, sq', rs'⟩ := lst_of z k1
      cases e4
      exact ⟨vs', sq', rs'⟩
theorem di_zip (hg : Gl X "zip") (hm : X.mg "zip" = none) (ha : DA C X Wx [a, b] fa) (hs : starEach [a, b] X.env = (false, eval a X.env) :: starEach [b] X.env := by rfl) (hpl : (backTo pos (starEach [b] X.env)).any (·.1) = false := by rfl) :
    DI C X Wx (.Tuple elts kk tpos) (.Call (.Name "zip" p) [a, b] [] pos) (ixZip fa) := PI.imp (RZ.pi_zipA hg hm ha hs hpl) fun σ H R q => by
  obtain ⟨W, env, s, e, q⟩ := q
  refine ⟨W, env, s, e, Res.step q fun W1 H1 s1 ds vs l1 e1 h1 q1 => ?_⟩
  revert q1
  match ds, h1 with
  | [], _ => exact fun q => q.elim
  | [_], _ => exact fun q => q.elim
  | _ :: _ :: _ :: _, _ => exact fun q => q.elim
  | [d, d'], h1 =>
    intro q
    have q : Res C X.K (Gives C X.K) Wx σ env W1 H1 s1 (zipIx s1 d d') R := q
    obtain ⟨v, u, rfl, r, r'⟩ := rds2 h1
    have tupc : ∀ xs ys, view s1 d = .tup xs → view s1 d' = .tup ys → Res C X.K (Gives C X.K) Wx σ env W1 H1 s1 (Out.ok (Wk.mk (zipD xs ys) []) s1) R → ∃ a b zs ys, [v, u] = [V.ref a, V.ref b] ∧ ((SqL X.K H1 a zs ∧ SqL X.K H1 b ys ∧ R (Itz X.K a b) H1) ∨ (SqT X.K H1 a zs ∧ SqT X.K H1 b ys ∧ R (RZ.ItzT X.K a b) H1)) := fun xs ys ex ey q => by
      have z := see_of e1.st r
      have z' := see_of e1.st r'
      rw [ex] at z
      rw [ey] at z'
      obtain ⟨a, us, rfl, sq, rs⟩ := z
      obtain ⟨a', us', rfl, sq', rs'⟩ := z'
      refine ⟨a, a', us, us', rfl, .inr ⟨SqT.of sq, SqT.of sq', q.ok' Le.refl e1 (gives_zt fun s2 t2 W' H' s' l t' => ?_)⟩⟩
      have z := see_of t' (r.mono l t2)
      have z' := see_of t' (r'.mono l t2)
      rw [view_fix (s := s1) (s' := s') (by rw [ex]; trivial), ex] at z
      rw [view_fix (s := s1) (s' := s') (by rw [ey]; trivial), ey] at z'
      obtain ⟨b1, ws, e4, g1, g2⟩ := z
      obtain ⟨b2, ws', e5, g3, g4⟩ := z'
      cases e4
      cases e5
      exact ⟨ws, ws', SqT.of g1, SqT.of g3, g2, g4⟩
    unfold zipIx at q
    split at q
    · rename_i x y hx hy
      obtain ⟨k1, k2⟩ := lsD_of hx
      obtain ⟨k3, k4⟩ := lsD_of hy
      obtain ⟨a, us, rfl, sq, rs⟩ := lst_of (see_of e1.st r) k1
      obtain ⟨a', us', rfl, sq', rs'⟩ := lst_of (see_of e1.st r') k3
      refine ⟨a, a', us, us', rfl, .inl ⟨sq, sq', q.ok' Le.refl e1 (gives_z fun s2 t2 W' H' s' l t' sm => ?_)⟩⟩
      have z := see_of t' (r.mono l t2)
      have z' := see_of t' (r'.mono l t2)
      rw [k2 s' fun p hp => sm p (List.mem_append_left _ hp)] at z
      rw [k4 s' fun p hp => sm p (List.mem_append_right _ hp)] at z'
      obtain ⟨b1, ws, e4, g1, g2⟩ := lst_of z k1
      obtain ⟨b2, ws', e5, g3, g4⟩ := lst_of z' k3
      cases e4
      cases e5
      exact ⟨ws, ws', g1, g3, g2, g4⟩
    · split at q
      · rename_i xs ys ex ey
        exact tupc xs ys ex ey q
      · exact q.elim
end
end DV
end
section
set_option Elab.async false
set_option linter.all false
set_option maxRecDepth 100000
/-! DU: all, any, sum, str, int, sorted, isinstance; methods and items of what changes. -/
namespace DV
open PySem PySem.Spec PyProof.Rows L2

/-! ### all, any, sum, str, int, abs -/
def blsD : List D → Option (List Bool)
  | [] => some []
  | d :: ds => match d.strip, blsD ds with
    | .bl b, some bs => some (b :: bs)
    | _, _ => none
def intsD : List D → Option (List Int)
  | [] => some []
  | d :: ds => match d.strip, intsD ds with
    | .int b, some bs => some (b :: bs)
    | _, _ => none
section
variable {C : Cfg} {K : PySem.W.Frag} {W : Wd} {H : Hp}
theorem blsD_rd : ∀ {ds : List D} {vs : List V} {bs : List Bool}, RDs C K W H ds vs → blsD ds = some bs → vs = bs.map V.bl
  | [], vs, bs, r, h => by
    cases h
    exact r
  | d :: ds, vs, bs, r, h => by
    obtain ⟨v, rs, rfl, h1, h2⟩ := r
    unfold blsD at h
    split at h
    · rename_i b bs' hd hb
      cases h
      have z := h1.strip
      rw [hd] at z
      rw [show v = .bl b from z, blsD_rd h2 hb]
      rfl
    · cases h
theorem intsD_rd : ∀ {ds : List D} {vs : List V} {bs : List Int}, RDs C K W H ds vs → intsD ds = some bs → vs = bs.map V.int
  | [], vs, bs, r, h => by
    cases h
    exact r
  | d :: ds, vs, bs, r, h => by
    obtain ⟨v, rs, rfl, h1, h2⟩ := r
    unfold intsD at h
    split at h
    · rename_i b bs' hd hb
      cases h
      have z := h1.strip
      rw [hd] at z
      rw [show v = .int b from z, intsD_rd h2 hb]
      rfl
    · cases h
end
def gAll (s : S) (d : D) : Option D := ((lstD (view s d)).bind blsD).map fun bs => .bl (bs.all id)
def gAny (s : S) (d : D) : Option D := ((lstD (view s d)).bind blsD).map fun bs => .bl (bs.any id)
def gSum (s : S) (d : D) : Option D := ((lstD (view s d)).bind intsD).map fun bs => .int bs.sum
def gStr (s : S) (d : D) : Option D := match view s d with
  | .int i => if i.natAbs.log2 < 1920 then some (.str (toString i)) else none
  | .str x => some (.str x)
  | _ => none
def gInt1 (s : S) (d : D) : Option D := match view s d with
  | .int i => some (.int i)
  | .bl k => some (.int (if k then 1 else 0))
  | _ => none
def gAbs (s : S) (d : D) : Option D := match view s d with
  | .int i => some (.int (if i < 0 then -i else i))
  | _ => none
section
variable {C : Cfg} {X : Cx}
theorem c_all (hc : X.calm = true) : CallR X (.builtin "all") (rc C X.K (f1 gAll)) := CallR.r1 (cr_all hc) fun W s d z v H Q t r h q => by
  have sd := see_of t r
  unfold gAll at h
  cases hs : lstD (view s d) with
  | none => rw [hs] at h; cases h
  | some xs =>
    rw [hs] at h
    obtain ⟨a, vs, rfl, l, rs⟩ := lst_of sd hs
    have h : (blsD xs).map (fun bs => D.bl (bs.all id)) = some z := h
    cases hb : blsD xs with
    | none => rw [hb] at h; cases h
    | some bs =>
      rw [hb] at h
      cases h
      exact ⟨a, bs, rfl, by rw [← blsD_rd rs hb]; exact l, same_q t q rfl⟩
theorem c_any (hc : X.calm = true) : CallR X (.builtin "any") (rc C X.K (f1 gAny)) := CallR.r1 (cr_any hc) fun W s d z v H Q t r h q => by
  have sd := see_of t r
  unfold gAny at h
  cases hs : lstD (view s d) with
  | none => rw [hs] at h; cases h
  | some xs =>
    rw [hs] at h
    obtain ⟨a, vs, rfl, l, rs⟩ := lst_of sd hs
    have h : (blsD xs).map (fun bs => D.bl (bs.any id)) = some z := h
    cases hb : blsD xs with
    | none => rw [hb] at h; cases h
    | some bs =>
      rw [hb] at h
      cases h
      exact ⟨a, bs, rfl, by rw [← blsD_rd rs hb]; exact l, same_q t q rfl⟩
theorem c_sum (hc : X.calm = true) : CallR X (.builtin "sum") (rc C X.K (f1 gSum)) := CallR.r1 (cr_sum hc) fun W s d z v H Q t r h q => by
  have sd := see_of t r
  unfold gSum at h
  cases hs : lstD (view s d) with
  | none => rw [hs] at h; cases h
  | some xs =>
    rw [hs] at h
    obtain ⟨a, vs, rfl, l, rs⟩ := lst_of sd hs
    have h : (intsD xs).map (fun bs => D.int bs.sum) = some z := h
    cases hb : intsD xs with
    | none => rw [hb] at h; cases h
    | some bs =>
      rw [hb] at h
      cases h
      exact ⟨a, bs, rfl, by rw [← intsD_rd rs hb]; exact l, same_q t q rfl⟩
theorem c_str : CallR X (.type "str") (rc C X.K (f1 gStr)) := CallR.r1 (call_str_int.or SkE.call_str_str) fun W s d z v H Q t r h q => by
  have sd := see_of t r
  unfold gStr at h
  split at h
  · rename_i i hi
    rw [hi] at sd
    split at h
    · rename_i hl
      cases h
      exact .inl ⟨i, by rw [show v = .int i from sd], hl, same_q t q rfl⟩
    · cases h
  · rename_i i hi
    rw [hi] at sd
    cases h
    exact .inr ⟨i, by rw [show v = .str i from sd], same_q t q rfl⟩
  · cases h
theorem c_int : CallR X (.type "int") (rc C X.K (f1 gInt1)) := CallR.r1 call_int1 fun W s d z v H Q t r h q => by
  have sd := see_of t r
  unfold gInt1 at h
  split at h
  · rename_i i hi
    rw [hi] at sd
    cases h
    exact .inl ⟨i, by rw [show v = .int i from sd], same_q t q rfl⟩
  · rename_i i hi
    rw [hi] at sd
    cases h
    exact .inr ⟨i, by rw [show v = .bl i from sd], same_q t q rfl⟩
  · cases h
theorem c_abs : CallR X (.builtin "abs") (rc C X.K (f1 gAbs)) := CallR.r1 call_abs fun W s d z v H Q t r h q => by
  have sd := see_of t r
  unfold gAbs at h
  split at h
  · rename_i i hi
    rw [hi] at sd
    cases h
    exact ⟨i, by rw [show v = .int i from sd], same_q t q rfl⟩
  · cases h
end

/-! ### sorted -/
def D.pd0 (d : D) : PyData := d.pd.getD .none
def leD : D → D → Bool := PySem.W.dataLe false D.pd0
structure SortOk (xs : List D) : Prop where
  pd : ∀ d ∈ xs, d.pd = some d.pd0
  al : PySem.W.AllAlike (xs.map D.pd0)
  so : PySem.W.Sortable (xs.map D.pd0)
  ln : xs.length ≤ sizeLine
  dp : ∀ d ∈ xs, d.pd0.depth ≤ 60
noncomputable instance (xs : List D) : Decidable (SortOk xs) := Classical.propDecidable _
noncomputable def gSorted (s : S) (d : D) : Option (List D) := (lstD (view s d)).bind fun xs => if SortOk xs then some (xs.mergeSort leD) else none
section
variable {C : Cfg} {K : PySem.W.Frag} {W : Wd} {H : Hp}
theorem each_rd {X : Cx} {pins : List (Addr × Obj)} {σ : L2.St} {sh : Shared} (I : Inv X pins σ H sh) : ∀ {xs : List D} {vs : List V} {us : List Value}, RDs C X.K W H xs vs → Vals vs us → (∀ d ∈ xs, d.pd = some d.pd0) →
    PySem.W.EachIs (fun u (b : D × V) => RelV b.2 u ∧ RD C X.K W H b.1 b.2) us (xs.zip vs) ∧ PySem.W.EachIs (fun u (b : D × V) => ∃ as, Reads sh.heap u (b.1.pd0) as) us (xs.zip vs)
  | [], vs, us, r, h, _ => by
    have e : vs = [] := r
    subst e
    cases h
    exact ⟨.nil, .nil⟩
  | d :: xs, vs, us, r, h, hp => by
    obtain ⟨v, rs, rfl, h1, h2⟩ := r
    cases h with
    | cons k1 k2 =>
      obtain ⟨z1, z2⟩ := each_rd I h2 k2 fun d hd => hp d (List.mem_cons_of_mem _ hd)
      exact ⟨.cons ⟨k1, h1⟩ z1, .cons (Dp.reads I _ _ _ (dp_of h1 (hp d List.mem_cons_self)) k1) z2⟩
theorem each_back : ∀ {us : List Value} {bs : List (D × V)}, PySem.W.EachIs (fun u (b : D × V) => RelV b.2 u ∧ RD C K W H b.1 b.2) us bs → Vals (bs.map (·.2)) us ∧ RDs C K W H (bs.map (·.1)) (bs.map (·.2))
  | _, _, .nil => ⟨.nil, rfl⟩
  | _, _, .cons ⟨h1, h2⟩ t => by
    obtain ⟨z1, z2⟩ := each_back t
    exact ⟨.cons h1 z1, _, _, rfl, h2, z2⟩
theorem zip_fst : ∀ {xs : List D} {vs : List V}, RDs C K W H xs vs → (xs.zip vs).map (·.1) = xs
  | [], vs, r => rfl
  | d :: xs, vs, r => by
    obtain ⟨v, rs, rfl, h1, h2⟩ := r
    show d :: (xs.zip rs).map (·.1) = d :: xs
    rw [zip_fst h2]
end
theorem c_sorted {C : Cfg} {X : Cx} (hu : X.A.units + 64 < cLine) : CallR X (.builtin "sorted") (rcN C X.K (fn1 gSorted)) := fun pins sh σ H xs us Q I r h => by
  obtain ⟨W, s, ds, t, rds, q⟩ := h
  match ds, rds, q with
  | [], _, q => exact q.elim
  | _ :: _ :: _, _, q => exact q.elim
  | [d], rds, q =>
    obtain ⟨v, rfl, r1⟩ := rds1 rds
    have q : (match gSorted s d with
      | some xs => ∀ W' H' p ws, Le W H s W' H' s → StS C X.K W' H' s → ¬ W'.F p → p ∉ W'.al → H p = none → H' p = some (.lst ws) → RDs C X.K W' H' xs ws → Q (.ref p) H'
      | none => False) := q
    unfold gSorted at q
    cases hs : lstD (view s d) with
    | none => rw [hs] at q; exact q.elim
    | some ys =>
      rw [hs] at q
      have q : (match (if SortOk ys then some (ys.mergeSort leD) else none) with
        | some xs => ∀ W' H' p ws, Le W H s W' H' s → StS C X.K W' H' s → ¬ W'.F p → p ∉ W'.al → H p = none → H' p = some (.lst ws) → RDs C X.K W' H' xs ws → Q (.ref p) H'
        | none => False) := q
      by_cases ok : SortOk ys
      · rw [if_pos ok] at q
        obtain ⟨a, vs, rfl, sq, rs⟩ := lst_of (see_of t r1) hs
        obtain ⟨its, rv, hl, hz⟩ := I.list sq
        rw [Vals.ref1 r]
        obtain ⟨e1, e2⟩ := each_rd I rs rv ok.pd
        have ef := zip_fst rs
        have len : (ys.zip vs).length = ys.length := by rw [List.length_zip, rs.length, Nat.min_self]
        have em : (ys.zip vs).map (fun b => b.1.pd0) = ys.map D.pd0 := by
          exact (List.map_map (g := D.pd0) (f := fun b : D × V => b.1)).symm.trans (by rw [ef])
        refine PySem.W.sorted_data (enc := fun b : D × V => b.1.pd0) hl.isList e1 e2 (by rw [em]; exact ok.al) (by rw [em]; exact ok.so) (by rw [len]; exact ok.ln) (fun b hb => ?_) fun out ho eo => ?_
        · have hb2 : b.1 ∈ ys := by
            rw [← ef]
            exact List.mem_map.mpr ⟨b, hb, rfl⟩
          have := ok.dp _ hb2
          omega
        · obtain ⟨z1, z2⟩ := each_back eo
          have ms : ((ys.zip vs).mergeSort (PySem.W.dataLe false fun b : D × V => b.1.pd0)).map (·.1) = ys.mergeSort leD := by
            exact (List.map_mergeSort (r := PySem.W.dataLe false fun b : D × V => b.1.pd0) (s := leD) (f := fun b : D × V => b.1) (fun a _ b _ => rfl)).trans (by rw [ef])
          rw [ms] at z2
          obtain ⟨ep, he'⟩ := PyProof.Rows.sortedAll_at sh.heap its out.toArray
          have hn : H (sh.heap.objs.size + 1) = none := I.hok.fresh (Nat.le_succ _)
          have hlen : ((((ys.zip vs).mergeSort (PySem.W.dataLe false fun b : D × V => b.1.pd0))).map (·.2)).length ≤ sizeLine := by
            rw [List.length_map, List.length_mergeSort, len]
            exact ok.ln
          have he2 : (sortedAll sh.heap its out.toArray).get? (sh.heap.objs.size + 1) = some { cls := .type "list", data := .seq out.toArray ep } := he'
          exact ⟨.ref _, _, I.laid (t' := sh.toks) (o := .lst ((((ys.zip vs).mergeSort (PySem.W.dataLe false fun b : D × V => b.1.pd0))).map (·.2))) (fun _ _ => PyProof.Rows.sortedAll_old) (Nat.le_succ _) ⟨hlen, out, ep, z1, he2⟩, rfl, new_r t z2 q _ hn⟩
      · rw [if_neg ok] at q
        exact q.elim

/-! ### isinstance -/
def tyD : D → Option String
  | .non => some "NoneType"
  | .bl _ => some "bool"
  | .int _ => some "int"
  | .str _ => some "str"
  | .lst _ => some "list"
  | .scr _ => some "list"
  | .kl _ => some "list"
  | .tup _ => some "tuple"
  | .dct _ _ => some "dict"
  | _ => none
theorem tyD_mem {d : D} {n : String} (h : tyD d = some n) : n ∈ tyNames := by
  unfold tyD at h
  split at h <;> cases h <;> simp
/-- which types; and of the module's own classes -/
def gIsi (tb : String → Bool) (cb : Nat → Option Bool) (s : S) (d : D) : Option D := match view s d with
  | .inst c _ => (cb c).map .bl
  | v => (tyD v).map fun n => .bl (tb n)
theorem ty_of {C : Cfg} {K : PySem.W.Frag} {W : Wd} {H : Hp} {d : D} {v : V} {n : String} (r : See C K W H d v) (h : tyD d = some n) : TyX K H v (.type n) := by
  cases d with
  | non => cases h; rw [show v = .non from r]; exact .base .non
  | bl b => cases h; rw [show v = .bl b from r]; exact .base (.bl b)
  | int b => cases h; rw [show v = .int b from r]; exact .base (.int b)
  | str b => cases h; rw [show v = .str b from r]; exact .base (.str b)
  | lst xs => cases h; obtain ⟨a, vs, rfl, l, _⟩ := r; exact .base (.lst l)
  | tup xs => cases h; obtain ⟨a, vs, rfl, l, _⟩ := r; exact .base (.tup l)
  | scr xs => cases h; obtain ⟨a, rfl, _, l⟩ := r; exact l.elim (fun l => .base (.lst l)) fun ⟨o, l⟩ => .base (.frz l)
  | kl xs => cases h; obtain ⟨a, vs, rfl, ⟨o, its, n, l1, l2, _⟩, _⟩ := r; exact .kList l1 l2
  | dct ks vs =>
    cases h
    obtain ⟨a, ws, rfl, l, _⟩ := r
    rcases l with ⟨kvs, l, _⟩ | ⟨kvs, l, _⟩
    · exact .base (.dK l)
    · exact .base (.dT l)
  | _ => cases h
/-- what isinstance asks of an own class -/
structure IsiC (K : PySem.W.Frag) (a : Addr) : Prop where
  cl : Cls K a
  ha : PySem.W.findIn K (.ref a) "__class__" = some (some (.builtin "object.__class__"))
  hn : PySem.W.specialIn K (.builtin "object.__class__") "__get__" = some (some (.builtin "getset_descriptor.__get__"))
  htk : PySem.W.takesIn K (.builtin "object.__class__") = some true
  hm : PySem.W.mroIn K a (.type "object") = some true
  oth : ∀ n ∈ tyNames, PySem.W.kitAny K (.type n) [.ref a] = some false
section
variable {C : Cfg} {X : Cx} {Wx : WX} {a : Expr} {fa : Ex} {pos p : Pos}
theorem isi_ty {tb : String → Bool} {cb : Nat → Option Bool} {us : List Value} {W : Wd} {H : Hp} {s : S} {d z : D} {v : V} (hT : ∀ n ∈ tyNames, PySem.W.kitAny X.K (.type n) us = some (tb n)) (hC : ∀ c b, cb c = some b → PySem.W.kitAny X.K (.ref (C.ca c)) us = some b ∧ IsiC X.K (C.ca c))
    (t : StS C X.K W H s) (r : RD C X.K W H d v) (h : gIsi tb cb s d = some z) : ∃ ty b, z = .bl b ∧ TyX X.K H v ty ∧ PySem.W.kitAny X.K ty us = some b := by
  have sd := see_of t r
  unfold gIsi at h
  split at h
  · rename_i c vs hv
    rw [hv] at sd
    cases hb : cb c with
    | none => rw [hb] at h; cases h
    | some b =>
      rw [hb] at h
      cases h
      obtain ⟨k, ⟨c1, c2, c3, c4, c5, _⟩⟩ := hC c b hb
      obtain ⟨a, dx, ws, rfl, l, _⟩ := sd
      exact ⟨_, b, rfl, .base (.ins l c1 c2 c3 c4 c5), k⟩
  · cases ht : tyD (view s d) with
    | none => rw [ht] at h; cases h
    | some n =>
      rw [ht] at h
      cases h
      exact ⟨_, _, rfl, ty_of sd ht, hT n (tyD_mem ht)⟩
/-- isinstance(x, T) -/
theorem de_isi {tb : String → Bool} {cb : Nat → Option Bool} {c : Expr} {cv : V} {u : Value} (hg : Gl X "isinstance") (hm : X.mg "isinstance" = none) (ha : DE C X Wx a fa) (hc : PE X c (tC cv)) (hk : ClsV cv u)
    (hT : ∀ n ∈ tyNames, PySem.W.kitAny X.K (.type n) [u] = some (tb n)) (hC : ∀ c b, cb c = some b → PySem.W.kitAny X.K (.ref (C.ca c)) [u] = some b ∧ IsiC X.K (C.ca c))
    (hs1 : starEach [a, c] X.env = (false, eval a X.env) :: starEach [c] X.env := by rfl) (hs2 : starEach [c] X.env = (false, eval c X.env) :: starEach [] X.env := by rfl) (hpl : (backTo pos (starEach [c] X.env)).any (·.1) = false := by rfl) :
    DE C X Wx (.Call (.Name "isinstance" p) [a, c] [] pos) (xUn (gIsi tb cb) fa) :=
  PE.imp (pe_callB call_isi hg hm (by decide +kernel) (pa_cons ha (pa_cons hc pa_nil hs2) hs1) (he := hs1) (hpl := hpl)) fun σ H Q h => by
    obtain ⟨W, env, s, e, q⟩ := h
    refine ⟨W, env, s, e, Res.step q fun W1 H1 s1 d x l1 e1 h1 q1 => ?_⟩
    revert q1
    unfold Out.of
    cases hz : gIsi tb cb s1 d with
    | none => exact fun q => q.elim
    | some z =>
      intro q
      obtain ⟨ty, b, rfl, t1, t2⟩ := isi_ty hT hC e1.st h1 hz
      refine ⟨x, cv, ty, u, b, rfl, hk, t1, ?_, q.ok' Le.refl e1 rfl⟩
      unfold PySem.W.kitAny at t2
      split at t2
      · rename_i k; cases t2; exact k
      · rename_i k; cases t2; exact k
      · cases t2
/-- isinstance(x, (T, ..)) -/
theorem de_isiT {tb : String → Bool} {cb : Nat → Option Bool} {cs : List Expr} {cvs : List V} {us : List Value} {kt : Nat} {tpos : Pos} (hg : Gl X "isinstance") (hm : X.mg "isinstance" = none) (ha : DE C X Wx a fa) (hk : Paired ClsV cvs us)
    (hz : cvs.length ≤ sizeLine)
    (hT : ∀ n ∈ tyNames, PySem.W.kitAny X.K (.type n) us = some (tb n)) (hC : ∀ c b, cb c = some b → PySem.W.kitAny X.K (.ref (C.ca c)) us = some b ∧ IsiC X.K (C.ca c))
    (hs1 : starEach [a, .Tuple cs kt tpos] X.env = (false, eval a X.env) :: starEach [.Tuple cs kt tpos] X.env := by rfl) (hs2 : starEach [.Tuple cs kt tpos] X.env = (false, eval (.Tuple cs kt tpos) X.env) :: starEach [] X.env := by rfl) (hpl : (backTo pos (starEach [.Tuple cs kt tpos] X.env)).any (·.1) = false := by rfl)
    (hcs : PA X cs (fun σ H Q => Q cvs H)) :
    DE C X Wx (.Call (.Name "isinstance" p) [a, .Tuple cs kt tpos] [] pos) (xUn (gIsi tb cb) fa) :=
  PE.imp (pe_callB call_isiT hg hm (by decide +kernel) (pa_cons ha (pa_cons (pe_tup hcs) pa_nil hs2) hs1) (he := hs1) (hpl := hpl)) fun σ H Q h => by
    obtain ⟨W, env, s, e, q⟩ := h
    refine ⟨W, env, s, e, Res.step q fun W1 H1 s1 d x l1 e1 h1 q1 => ?_⟩
    revert q1
    unfold Out.of
    cases hz2 : gIsi tb cb s1 d with
    | none => exact fun q => q.elim
    | some z =>
      intro q
      refine ⟨hz, fun pt hpt => ?_⟩
      have l2 : Le W1 H1 s1 (W1.add pt) (L2.upd H1 pt (.tup cvs)) s1 := Le.laid e1.st hpt
      have t2 := e1.st.laid hpt (o := .tup cvs) (fun _ z => nomatch z)
      obtain ⟨ty, b, rfl, k1, k2⟩ := isi_ty hT hC t2 (h1.mono l2 e1.st) hz2
      exact ⟨x, pt, cvs, ty, us, b, rfl, upd_same, hk, k1, k2, q.ok' l2 (e1.later l2 t2) rfl⟩
end
end DV
end
section
set_option Elab.async false
set_option linter.all false
set_option maxRecDepth 100000
/-! DW: what changes: items set, methods; dicts that are new. -/
namespace DV
open PySem PySem.Spec PyProof.Rows L2

def S.put (s : S) (i : Nat) (o : MO) : S := ⟨s.mo.set i o, s.tg⟩
section
variable {C : Cfg} {K : PySem.W.Frag} {W : Wd} {H : Hp} {s : S}
theorem mok_plain {a : Addr} {o : MO} (nd : o ≠ .dead) (m : MOk C K W H a o) : plainAt H a := by
  cases o with
  | lst xs => obtain ⟨vs, h, _⟩ := m; exact .of h plain_lst
  | dK ks vs => obtain ⟨kvs, h, _⟩ := m; exact .of h plain_dK
  | dT ks vs => obtain ⟨kvs, h, _⟩ := m; exact .of h plain_dT
  | ins c vs => obtain ⟨dx, ws, h, _⟩ := m; exact .of h plain_ins
  | dead => exact absurd rfl nd
theorem StS.write {i : Nat} {a : Addr} {o o' : MO} {u : HO} (t : StS C K W H s) (ha : W.al[i]? = some a) (hi : s.mo[i]? = some o) (nd : o ≠ .dead) (new : Lf W H W (L2.upd H a u) → MOk C K W (L2.upd H a u) a o') : StS C K W (L2.upd H a u) (s.put i o') ∧ Le W H s W (L2.upd H a u) (s.put i o') := by
  have hlt : i < s.mo.length := (List.getElem?_eq_some_iff.mp hi).1
  have nF : ¬ W.F a := fun z => by
    have h := (t.fz a z).2.2 i ha
    rw [hi] at h
    exact nd (Option.some.inj h)
  have lf : Lf W H W (L2.upd H a u) := Lf.upd nF
  have inj : ∀ {j : Nat} {b : Addr}, W.al[j]? = some b → b = a → j = i := fun {j b} hj e => by
    subst e
    obtain ⟨q1, q2⟩ := List.getElem?_eq_some_iff.mp hj
    obtain ⟨q3, q4⟩ := List.getElem?_eq_some_iff.mp ha
    exact (List.getElem_inj t.nod).mp (q2.trans q4.symm)
  have dedp : ∀ j : Nat, s.mo[j]? = some .dead → (s.mo.set i o')[j]? = some .dead := fun j hj => by
    by_cases e : i = j
    · subst e
      rw [hi] at hj
      exact absurd (Option.some.inj hj) nd
    · rw [List.getElem?_set_ne e]
      exact hj
  refine ⟨⟨?_, t.tln, t.nod, fun j v b h1 h2 => ?_, fun b f => ?_, fun b hb => ?_, tabs_upd t.tb (mok_plain nd (t.mo i o a hi ha))⟩, ⟨fun _ h => h, fun _ _ h => h, fun _ _ h => h, fun b v h n l => ?_, fun b h => ?_, dedp, fun j b hj h => ?_, fun _ h => .inl h⟩⟩
  · show W.al.length = (s.mo.set i o').length
    rw [List.length_set]
    exact t.len
  · have h1 : (s.mo.set i o')[j]? = some v := h1
    by_cases e : i = j
    · subst e
      rw [List.getElem?_set_self hlt] at h1
      cases h1
      rw [ha] at h2
      cases h2
      exact new lf
    · rw [List.getElem?_set_ne e] at h1
      have ne : b ≠ a := fun z => e (inj h2 z).symm
      exact mok_lf lf (fun v e => by rw [upd_ne ne]; exact e) (t.mo j v b h1 h2)
  · obtain ⟨g1, g2, g3⟩ := t.fz b f
    have ne : b ≠ a := fun z => nF (by rw [← z]; exact f)
    rw [upd_ne ne]
    exact ⟨g1, g2, fun j hj => dedp j (g3 j hj)⟩
  · by_cases z : b = a
    · rw [z, upd_same]
      exact fun z => nomatch z
    · rw [upd_ne z]
      exact t.alh b hb
  · have ne : b ≠ a := fun z => by
      have h2 := l i (by rw [z]; exact ha)
      rw [hi] at h2
      exact nd (Option.some.inj h2)
    rw [upd_ne ne]
    exact h
  · by_cases z : b = a
    · rw [z, upd_same]
      exact fun z => nomatch z
    · rw [upd_ne z]
      exact h
  · rw [List.getElem?_eq_none hj] at h
    cases h
end

/-! ### dicts: a key set -/
def rep1 : List D → List D → Key → D → List D
  | k :: ks, w :: vs, q, v => (if kD k = some q then v else w) :: rep1 ks vs q v
  | _, _, _, _ => []
def repT : List D → List D → List Key → D → List D
  | k :: ks, w :: vs, q, v => (if kTD k = some q then v else w) :: repT ks vs q v
  | _, _, _, _ => []
/-- keys and values with a key set -/
def putKD (ks vs : List D) (q : Key) (v : D) : List D × List D := if (look1 ks vs q).isSome then (ks, rep1 ks vs q v) else (ks ++ [keyD q], vs ++ [v])
def putTD (ks vs : List D) (q : List Key) (v : D) : List D × List D := if (lookT ks vs q).isSome then (ks, repT ks vs q v) else (ks ++ [.tup (q.map keyD)], vs ++ [v])
section
variable {C : Cfg} {K : PySem.W.Frag} {W : Wd} {H : Hp}
theorem rep1_rd {q : Key} {d : D} {v : V} (rv : RD C K W H d v) : ∀ {kvs : List (Key × V)} {vs : List D}, RDs C K W H vs (kvs.map (·.2)) → RDs C K W H (rep1 (kvs.map fun p => keyD p.1) vs q d) ((kvs.map fun kv => if kv.1 = q then (kv.1, v) else kv).map (·.2))
  | [], vs, r => by
    cases vs <;> rfl
  | p :: kvs, [], r => by
    have r' : p.2 :: kvs.map (·.2) = [] := r
    cases r'
  | p :: kvs, w :: vs, r => by
    obtain ⟨x, rs, e, h1, h2⟩ := r
    have e' : p.2 :: kvs.map (·.2) = x :: rs := e
    injection e' with e1 e2
    have ih := rep1_rd (q := q) rv (kvs := kvs) (vs := vs) (by rw [e2]; exact h2)
    refine ⟨_, _, rfl, ?_, ih⟩
    show RD C K W H (if kD (keyD p.1) = some q then d else w) (if p.1 = q then (p.1, v) else p).2
    rw [kD_keyD]
    by_cases hk : p.1 = q
    · rw [if_pos hk, if_pos (by rw [hk])]
      exact rv
    · rw [if_neg hk, if_neg fun z => hk (Option.some.inj z), e1]
      exact h1
theorem repT_rd {q : List Key} {d : D} {v : V} (rv : RD C K W H d v) : ∀ {kvs : List (List Key × V)} {vs : List D}, RDs C K W H vs (kvs.map (·.2)) → RDs C K W H (repT (kvs.map fun p => D.tup (p.1.map keyD)) vs q d) ((kvs.map fun kv => if kv.1 = q then (kv.1, v) else kv).map (·.2))
  | [], vs, r => by
    cases vs <;> rfl
  | p :: kvs, [], r => by
    have r' : p.2 :: kvs.map (·.2) = [] := r
    cases r'
  | p :: kvs, w :: vs, r => by
    obtain ⟨x, rs, e, h1, h2⟩ := r
    have e' : p.2 :: kvs.map (·.2) = x :: rs := e
    injection e' with e1 e2
    have ih := repT_rd (q := q) rv (kvs := kvs) (vs := vs) (by rw [e2]; exact h2)
    refine ⟨_, _, rfl, ?_, ih⟩
    show RD C K W H (if kTD (.tup (p.1.map keyD)) = some q then d else w) (if p.1 = q then (p.1, v) else p).2
    rw [kTD_map]
    by_cases hk : p.1 = q
    · rw [if_pos hk, if_pos (by rw [hk])]
      exact rv
    · rw [if_neg hk, if_neg fun z => hk (Option.some.inj z), e1]
      exact h1
theorem map_fst_rep {κ : Type} [DecidableEq κ] {β : Type} (f : κ → β) (q : κ) (v : V) : ∀ kvs : List (κ × V), (kvs.map fun kv => if kv.1 = q then (kv.1, v) else kv).map (fun p => f p.1) = kvs.map fun p => f p.1
  | [] => rfl
  | p :: kvs => by
    show f (if p.1 = q then (p.1, v) else p).1 :: _ = f p.1 :: _
    rw [map_fst_rep f q v kvs]
    by_cases h : p.1 = q
    · rw [if_pos h]
    · rw [if_neg h]
theorem putKD_rd {q : Key} {d : D} {v : V} {kvs : List (Key × V)} {vs : List D} (rv : RD C K W H d v) (r : RDs C K W H vs (kvs.map (·.2))) :
    (putKD (kvs.map fun p => keyD p.1) vs q d).1 = (putK kvs q v).map (fun p => keyD p.1) ∧ RDs C K W H (putKD (kvs.map fun p => keyD p.1) vs q d).2 ((putK kvs q v).map (·.2)) := by
  have l := look1_rd (q := q) r
  unfold putKD putK
  rw [valV_any]
  cases hl : look1 (kvs.map fun p => keyD p.1) vs q with
  | none =>
    rw [hl] at l
    rw [l]
    refine ⟨?_, ?_⟩
    · show kvs.map (fun p => keyD p.1) ++ [keyD q] = (kvs ++ [(q, v)]).map fun p => keyD p.1
      rw [List.map_append]
      rfl
    · show RDs C K W H (vs ++ [d]) ((kvs ++ [(q, v)]).map (·.2))
      rw [List.map_append]
      exact r.append ⟨v, [], rfl, rv, rfl⟩
  | some e =>
    rw [hl] at l
    obtain ⟨x, l, _⟩ := l
    rw [l]
    exact ⟨(map_fst_rep keyD q v kvs).symm, rep1_rd rv r⟩
theorem putTD_rd {q : List Key} {d : D} {v : V} {kvs : List (List Key × V)} {vs : List D} (rv : RD C K W H d v) (r : RDs C K W H vs (kvs.map (·.2))) :
    (putTD (kvs.map fun p => D.tup (p.1.map keyD)) vs q d).1 = (putK kvs q v).map (fun p => D.tup (p.1.map keyD)) ∧ RDs C K W H (putTD (kvs.map fun p => D.tup (p.1.map keyD)) vs q d).2 ((putK kvs q v).map (·.2)) := by
  have l := lookT_rd (q := q) r
  unfold putTD putK
  rw [valV_any]
  cases hl : lookT (kvs.map fun p => D.tup (p.1.map keyD)) vs q with
  | none =>
    rw [hl] at l
    rw [l]
    refine ⟨?_, ?_⟩
    · show kvs.map (fun p => D.tup (p.1.map keyD)) ++ [.tup (q.map keyD)] = (kvs ++ [(q, v)]).map fun p => D.tup (p.1.map keyD)
      rw [List.map_append]
      rfl
    · show RDs C K W H (vs ++ [d]) ((kvs ++ [(q, v)]).map (·.2))
      rw [List.map_append]
      exact r.append ⟨v, [], rfl, rv, rfl⟩
  | some e =>
    rw [hl] at l
    obtain ⟨x, l, _⟩ := l
    rw [l]
    exact ⟨(map_fst_rep (fun k : List Key => D.tup (k.map keyD)) q v kvs).symm, repT_rd rv r⟩
theorem rep1_low {q : Key} {d : D} (hd : d.low 0 0 = true) : ∀ {ks vs : List D}, D.lows 0 0 vs = true → D.lows 0 0 (rep1 ks vs q d) = true
  | [], vs, h => by cases vs <;> rfl
  | k :: ks, [], h => rfl
  | k :: ks, w :: vs, h => by
    have h : (w.low 0 0 && D.lows 0 0 vs) = true := h
    rw [Bool.and_eq_true] at h
    show ((if kD k = some q then d else w).low 0 0 && D.lows 0 0 (rep1 ks vs q d)) = true
    rw [rep1_low hd h.2, Bool.and_true]
    split
    · exact hd
    · exact h.1
theorem repT_low {q : List Key} {d : D} (hd : d.low 0 0 = true) : ∀ {ks vs : List D}, D.lows 0 0 vs = true → D.lows 0 0 (repT ks vs q d) = true
  | [], vs, h => by cases vs <;> rfl
  | k :: ks, [], h => rfl
  | k :: ks, w :: vs, h => by
    have h : (w.low 0 0 && D.lows 0 0 vs) = true := h
    rw [Bool.and_eq_true] at h
    show ((if kTD k = some q then d else w).low 0 0 && D.lows 0 0 (repT ks vs q d)) = true
    rw [repT_low hd h.2, Bool.and_true]
    split
    · exact hd
    · exact h.1
theorem lows_app {xs ys : List D} (h : D.lows 0 0 xs = true) (h' : D.lows 0 0 ys = true) : D.lows 0 0 (xs ++ ys) = true := by
  induction xs with
  | nil => exact h'
  | cons x xs ih =>
    have h : (x.low 0 0 && D.lows 0 0 xs) = true := h
    rw [Bool.and_eq_true] at h
    show (x.low 0 0 && D.lows 0 0 (xs ++ ys)) = true
    rw [h.1, ih h.2]
    rfl
theorem lows_one {d : D} (h : d.low 0 0 = true) : D.lows 0 0 [d] = true := by
  show (d.low 0 0 && D.lows 0 0 []) = true
  rw [h]
  rfl
theorem lows_set {d : D} (hd : d.low 0 0 = true) : ∀ {xs : List D} {n : Nat}, D.lows 0 0 xs = true → D.lows 0 0 (xs.set n d) = true
  | [], n, h => rfl
  | x :: xs, 0, h => by
    have h : (x.low 0 0 && D.lows 0 0 xs) = true := h
    rw [Bool.and_eq_true] at h
    show (d.low 0 0 && D.lows 0 0 xs) = true
    rw [hd, h.2]
    rfl
  | x :: xs, n + 1, h => by
    have h : (x.low 0 0 && D.lows 0 0 xs) = true := h
    rw [Bool.and_eq_true] at h
    show (x.low 0 0 && D.lows 0 0 (xs.set n d)) = true
    rw [h.1, lows_set hd h.2]
    rfl
theorem lows_sub {xs ys : List D} (h : D.lows 0 0 xs = true) (hs : ∀ y ∈ ys, y ∈ xs) : D.lows 0 0 ys = true := by
  have all : ∀ {zs : List D}, D.lows 0 0 zs = true ↔ ∀ z ∈ zs, z.low 0 0 = true := by
    intro zs
    induction zs with
    | nil => exact ⟨fun _ z hz => by simp at hz, fun _ => rfl⟩
    | cons z zs ih =>
      show (z.low 0 0 && D.lows 0 0 zs) = true ↔ _
      rw [Bool.and_eq_true, ih]
      simp
  exact all.mpr fun y hy => all.mp h y (hs y hy)
theorem RDs.set {d : D} {v : V} (rv : RD C K W H d v) : ∀ {xs : List D} {vs : List V} (n : Nat), RDs C K W H xs vs → RDs C K W H (xs.set n d) (vs.set n v)
  | [], vs, n, r => by
    have e : vs = [] := r
    subst e
    rfl
  | x :: xs, vs, 0, r => by
    obtain ⟨w, rs, rfl, h1, h2⟩ := r
    exact ⟨v, rs, rfl, rv, h2⟩
  | x :: xs, vs, n + 1, r => by
    obtain ⟨w, rs, rfl, h1, h2⟩ := r
    exact ⟨w, rs.set n v, rfl, h1, RDs.set rv n h2⟩
theorem RDs.erase : ∀ {xs : List D} {vs : List V} (n : Nat), RDs C K W H xs vs → RDs C K W H (xs.eraseIdx n) (vs.eraseIdx n)
  | [], vs, n, r => by
    have e : vs = [] := r
    subst e
    rfl
  | x :: xs, vs, 0, r => by
    obtain ⟨w, rs, rfl, h1, h2⟩ := r
    exact h2
  | x :: xs, vs, n + 1, r => by
    obtain ⟨w, rs, rfl, h1, h2⟩ := r
    exact ⟨w, rs.eraseIdx n, rfl, h1, RDs.erase n h2⟩
theorem RDs.dropLast {xs : List D} {vs : List V} (r : RDs C K W H xs vs) : RDs C K W H xs.dropLast vs.dropLast := by
  rw [List.dropLast_eq_take, List.dropLast_eq_take, r.length]
  exact r.take _
end

/-! ### a[b] = v -/
def mSet (s : S) (o i d : D) : Option S := match o.strip with
  | .ref j => (match s.mo[j]? with
    | some (.lst xs) => (match view s i with
      | .int k => (match ixN xs.length k with
        | some n => if d.low 0 0 = true then some (s.put j (.lst (xs.set n d))) else none
        | none => none)
      | _ => none)
    | some (.dK ks vs) => (match kD i with
      | some k => if ks.length < sizeLine ∧ d.low 0 0 = true then some (s.put j (.dK (putKD ks vs k d).1 (putKD ks vs k d).2)) else none
      | none => none)
    | some (.dT ks vs) => (match kTD i with
      | some k => if ks.length < sizeLine ∧ d.low 0 0 = true then some (s.put j (.dT (putTD ks vs k d).1 (putTD ks vs k d).2)) else none
      | none => none)
    | _ => none)
  | _ => none
def gSet (fo fi : Ex) : Gx := fun d e s => (fo e s).bind fun o s => (fi e s).bind fun i s => match mSet s o i d with
  | some s' => .ok e s'
  | none => .stuck
theorem PSet.or {X : Cx} {t t' : TSet} (h : PSet X t) (h' : PSet X t') : PSet X (fun o i v H Q => t o i v H Q ∨ t' o i v H Q) := fun pins s σ H o i v ov iv u Q I ro ri rv q => by
  rcases q with q | q
  · exact h pins s σ H o i v ov iv u Q I ro ri rv q
  · exact h' pins s σ H o i v ov iv u Q I ro ri rv q
section
variable {C : Cfg} {X : Cx} {o i : Expr} {fo fi : Ex} {pos : Pos}
theorem set_reads {W : Wd} {H : Hp} {s s' : S} {od id d : D} {ov iv v : V} {Q : Hp → Prop} (t : StS C X.K W H s) (ro : RD C X.K W H od ov) (ri : RD C X.K W H id iv) (rv : RD C X.K W H d v) (h : mSet s od id d = some s') (q : ∀ H', StS C X.K W H' s' → Le W H s W H' s' → Q H') :
    rSetL ov iv v H Q ∨ rSetD ov iv v H Q := by
  have ro := ro.strip
  unfold mSet at h
  generalize od.strip = od0 at ro h
  cases od0 with
  | ref j =>
    obtain ⟨a, ha, rfl⟩ := ro
    have h : (match s.mo[j]? with
      | some (.lst xs) => (match view s id with
        | .int k => (match ixN xs.length k with
          | some n => if d.low 0 0 = true then some (s.put j (.lst (xs.set n d))) else none
          | none => none)
        | _ => none)
      | some (.dK ks vs) => (match kD id with
        | some k => if ks.length < sizeLine ∧ d.low 0 0 = true then some (s.put j (.dK (putKD ks vs k d).1 (putKD ks vs k d).2)) else none
        | none => none)
      | some (.dT ks vs) => (match kTD id with
        | some k => if ks.length < sizeLine ∧ d.low 0 0 = true then some (s.put j (.dT (putTD ks vs k d).1 (putTD ks vs k d).2)) else none
        | none => none)
      | _ => none) = some s' := h
    split at h
    · rename_i xs hx
      obtain ⟨vs, g1, g2, g3⟩ := t.mo j _ a hx ha
      split at h
      · rename_i k hk
        have si := see_of t ri
        rw [hk] at si
        split at h
        · rename_i n hn
          split at h
          · rename_i hl
            cases h
            obtain ⟨t2, l2⟩ := t.write (o' := .lst (xs.set n d)) (u := .lst (vs.set n v)) ha hx (fun z => nomatch z) fun lf => ⟨vs.set n v, upd_same, (g2.lf lf).set (rv.lf lf) n, lows_set hl g3⟩
            exact .inl ⟨a, vs, k, n, rfl, si, g1, by rw [← g2.length]; exact hn, q _ t2 l2⟩
          · cases h
        · cases h
      · cases h
    · rename_i ks vs hx
      obtain ⟨kvs, g1, g2, g3, g4⟩ := t.mo j _ a hx ha
      split at h
      · rename_i k hk
        split at h
        · rename_i hl
          cases h
          subst g2
          have e := kD_rd ri hk
          obtain ⟨t2, l2⟩ := t.write (o' := .dK (putKD (kvs.map fun p => keyD p.1) vs k d).1 (putKD (kvs.map fun p => keyD p.1) vs k d).2) (u := .dK (putK kvs k v)) ha hx (fun z => nomatch z) fun lf => by
            obtain ⟨p1, p2⟩ := putKD_rd (q := k) (kvs := kvs) (rv.lf lf) (g3.lf lf)
            refine ⟨_, upd_same, p1, p2, ?_⟩
            unfold putKD
            split
            · exact rep1_low hl.2 g4
            · exact lows_app g4 (lows_one hl.2)
          exact .inr ⟨a, _, rfl, .inl ⟨kvs, k, g1, e, by have := hl.1; rw [List.length_map] at this; exact this, rfl⟩, q _ t2 l2⟩
        · cases h
      · cases h
    · rename_i ks vs hx
      obtain ⟨kvs, g1, g2, g3, g4⟩ := t.mo j _ a hx ha
      split at h
      · rename_i k hk
        split at h
        · rename_i hl
          cases h
          subst g2
          obtain ⟨b, e, hb⟩ := kTD_rd ri hk
          obtain ⟨t2, l2⟩ := t.write (o' := .dT (putTD (kvs.map fun p => D.tup (p.1.map keyD)) vs k d).1 (putTD (kvs.map fun p => D.tup (p.1.map keyD)) vs k d).2) (u := .dT (putK kvs k v)) ha hx (fun z => nomatch z) fun lf => by
            obtain ⟨p1, p2⟩ := putTD_rd (q := k) (kvs := kvs) (rv.lf lf) (g3.lf lf)
            refine ⟨_, upd_same, p1, p2, ?_⟩
            unfold putTD
            split
            · exact repT_low hl.2 g4
            · exact lows_app g4 (lows_one hl.2)
          exact .inr ⟨a, _, rfl, .inr ⟨kvs, k, b, g1, e, hb, by have := hl.1; rw [List.length_map] at this; exact this, rfl⟩, q _ t2 l2⟩
        · cases h
      · cases h
    · cases h
  | _ => cases h
theorem dg_sub (hu : X.A.units + 1 < cLine) (ho : DE C X W0 o fo) (hi : DE C X W0 i fi)
    (ha : ∀ v, assign (.Subscript o i pos) X.env v = (do
      let ov ← holding [v] (eval o X.env)
      let iv ← holding [v, ov] (eval i X.env)
      standAt pos
      holding [v, ov, iv] (setItem ov iv v)
      release [v, ov, iv] []) := by intro _; rfl) : DG C X (.Subscript o i pos) (gSet fo fi) := PG.imp (t := L2.gSub (tD C X.K W0 fo) (tD C X.K W0 fi) fun o i v H Q => rSetL o i v H Q ∨ rSetD o i v H Q) (pg_sub ho hi (PSet.or set_list (set_dict hu)) ha) fun v σ H Q h => by
  obtain ⟨W, env, s, d, e, r, q⟩ := h
  refine ⟨W, env, s, e, ?_⟩
  revert q
  unfold gSet
  cases fo env s with
  | exc _ _ _ => exact fun q => q.elim
  | stuck => exact fun q => q.elim
  | ok od s1 =>
    intro q W1 H1 ov l1 e1 r1
    refine ⟨W1, env, s1, e1, ?_⟩
    revert q
    show (match ((fi env s1).bind fun i s => match mSet s od i d with
      | some s' => Out.ok env s'
      | none => .stuck) with
      | .ok env' s' => _
      | _ => False) → _
    cases fi env s1 with
    | exc _ _ _ => exact fun q => q.elim
    | stuck => exact fun q => q.elim
    | ok id s2 =>
      intro q W2 H2 iv l2 e2 r2
      have q : (match (match mSet s2 od id d with
        | some s' => Out.ok env s'
        | none => .stuck) with
        | .ok env' s' => ∀ W' σ' H', Le W H s W' H' s' → StE C X.K W' H' σ' env' s' → Q σ' H'
        | _ => False) := q
      cases hm : mSet s2 od id d with
      | none => rw [hm] at q; exact q.elim
      | some s3 =>
        rw [hm] at q
        exact set_reads e2.st (r1.mono l2 e1.st) r2 ((r.mono l1 e.st).mono l2 e1.st) hm fun H3 t3 l3 => q W2 σ H3 ((l1.trans l2).trans l3) (e2.later l3 t3)
end

/-! ### methods of built-in kinds -/
def rm (C : Cfg) (K : PySem.W.Frag) (m : S → D → List D → Out D) : V → List V → Hp → VK → Prop := fun v vs H Q => ∃ W s x ys, StS C K W H s ∧ RD C K W H x v ∧ RDs C K W H ys vs ∧ match m s x ys with
  | .ok d s' => ∀ W' H' u, Le W H s W' H' s' → StS C K W' H' s' → RD C K W' H' d u → Q u H'
  | _ => False
def xBm (chk : S → D → Bool) (m : S → D → List D → Out D) (fo : Ex) (fa : Ax) : Ex := fun e s => (fo e s).bind fun x s => if chk s x = true then (fa e s).bind fun ys s => noX (fun s ys => m s x ys) s ys else .stuck
def TyChk (C : Cfg) (K : PySem.W.Frag) (T : String) (chk : S → D → Bool) : Prop := ∀ W H s d v, StS C K W H s → RD C K W H d v → chk s d = true → tyV K T v H
theorem MtR.imp {X : Cx} {id : String} {r r' : V → List V → Hp → VK → Prop} (h : MtR X id r) (i : ∀ x xs H Q, r' x xs H Q → r x xs H Q) : MtR X id r' := fun pins s σ H x xs v us Q I rx rs q => h pins s σ H x xs v us Q I rx rs (i _ _ _ _ q)
section
variable {C : Cfg} {X : Cx} {Wx : WX} {o e : Expr} {es : List Expr} {fo : Ex} {fa : Ax} {apos cpos : Pos} {T id : String} {name : Str} {m : S → D → List D → Out D} {chk : S → D → Bool}
theorem tD_bm {K : PySem.W.Frag} (hT : TyChk C K T chk) : ∀ σ H Q, tD C K Wx (xBm chk m fo fa) σ H Q → tBM K T (rm C K m) (tD C K Wx fo) (tAx C K Wx fa) σ H Q := fun σ H Q h => by
  obtain ⟨W, env, s, e, q⟩ := h
  refine ⟨W, env, s, e, Res.step q fun W1 H1 s1 d x l1 e1 h1 q1 => ?_⟩
  by_cases hc : chk s1 d = true
  · rw [if_pos hc] at q1
    refine ⟨hT _ _ _ _ _ e1.st h1 hc, W1, env, s1, e1, Res.step q1 fun W2 H2 s2 ds vs l2 e2 h2 q2 => ⟨W2, s2, d, ds, e2.st, h1.mono l2 e1.st, h2, ?_⟩⟩
    have q2 : Res C K (fun W H => RD C K W H) Wx σ env W2 H2 s2 (match m s2 d ds with
      | .ok d s' => .ok d s'
      | _ => .stuck) Q := q2
    cases hm : m s2 d ds with
    | ok d s3 =>
      rw [hm] at q2
      exact fun W3 H3 v l3 t3 r3 => q2 W3 H3 v l3 (e2.later l3 t3) r3
    | exc c vs s2 => rw [hm] at q2; exact q2
    | stuck => rw [hm] at q2; exact q2
  · rw [if_neg hc] at q1
    exact q1.elim
theorem de_bm (hT : TyChk C X.K T chk) (pa : PlainAttrs T) (slot : Slot T name id) (hty : typeOf (.builtin id) = pure (.type "method_descriptor")) (hm : MtR X id (rm C X.K m)) (ho : DE C X Wx o fo) (ha : DA C X Wx (e :: es) fa)
    (hbase : attributeBase o name X.env (eval o X.env) = eval o X.env := by rfl)
    (hfew : ((backTo cpos (starEach (e :: es) X.env)).all (fun x => !x.1) && (backToKw cpos (keywordEach [] X.env)).all (fun x => x.1.isSome)
      && decide ((e :: es).length + ([] : List Keyword).length + (if ([] : List Keyword).isEmpty then 0 else 1) < 30)) = true := by rfl)
    (hline : (apos.endLine == cpos.line) = true := by rfl) (hs : starEach (e :: es) X.env = (false, eval e X.env) :: starEach es X.env := by rfl) (hplain : (backTo cpos (starEach es X.env)).any (·.1) = false := by rfl) :
    DE C X Wx (.Call (.Attribute o name apos) (e :: es) [] cpos) (xBm chk m fo fa) := PE.imp (pe_bm pa slot hty hm ho ha hbase hfew hline hs hplain) (tD_bm hT)
theorem de_bm0 (hT : TyChk C X.K T chk) (pa : PlainAttrs T) (slot : Slot T name id) (hty : typeOf (.builtin id) = pure (.type "method_descriptor")) (hm : MtR X id (rm C X.K m)) (ho : DE C X Wx o fo)
    (hbase : attributeBase o name X.env (eval o X.env) = eval o X.env := by rfl) (hline : (apos.endLine == cpos.line) = true := by rfl) : DE C X Wx (.Call (.Attribute o name apos) [] [] cpos) (xBm chk m fo aNil) :=
  PE.imp (pe_bm0 pa slot hty hm ho hbase hline) fun σ H Q h => by
    obtain ⟨W, env, s, e, q⟩ := tD_bm hT σ H Q h
    refine ⟨W, env, s, e, Res.imp q fun v H1 ⟨z1, W1, env1, s1, e1, z2⟩ => ⟨z1, ?_⟩⟩
    exact Res.here (a := ([] : List D)) (b := ([] : List V)) z2 e1 rfl
end
theorem rm_ok {C : Cfg} {K : PySem.W.Frag} {m : S → D → List D → Out D} {v : V} {vs : List V} {H : Hp} {Q : VK} (h : rm C K m v vs H Q) : ∃ W s x ys d s', StS C K W H s ∧ RD C K W H x v ∧ RDs C K W H ys vs ∧ m s x ys = .ok d s' ∧ ∀ W' H' u, Le W H s W' H' s' → StS C K W' H' s' → RD C K W' H' d u → Q u H' := by
  obtain ⟨W, s, x, ys, t, r, rs, q⟩ := h
  cases hm : m s x ys with
  | ok d s' => rw [hm] at q; exact ⟨W, s, x, ys, d, s', t, r, rs, hm, q⟩
  | exc _ _ _ => rw [hm] at q; exact q.elim
  | stuck => rw [hm] at q; exact q.elim
/-! the list's own -/
def isLst (s : S) (d : D) : Bool := (lstD (view s d)).isSome
theorem tyc_list {C : Cfg} {K : PySem.W.Frag} : TyChk C K "list" isLst := fun W H s d v t r h => by
  unfold isLst at h
  cases hl : lstD (view s d) with
  | none => rw [hl] at h; cases h
  | some xs =>
    obtain ⟨a, vs, rfl, l, _⟩ := lst_of (see_of t r) hl
    exact .inl ⟨rfl, vs, l⟩
/-- the list that changes -/
def ownL (s : S) (x : D) : Option (Nat × List D) := match x.strip with
  | .ref i => (match s.mo[i]? with
    | some (.lst xs) => some (i, xs)
    | _ => none)
  | _ => none
theorem ownL_of {C : Cfg} {K : PySem.W.Frag} {W : Wd} {H : Hp} {s : S} {x : D} {v : V} {i : Nat} {xs : List D} (t : StS C K W H s) (r : RD C K W H x v) (h : ownL s x = some (i, xs)) : ∃ a vs, v = .ref a ∧ W.al[i]? = some a ∧ s.mo[i]? = some (.lst xs) ∧ H a = some (.lst vs) ∧ RDs C K W H xs vs ∧ D.lows 0 0 xs = true := by
  have r := r.strip
  unfold ownL at h
  generalize x.strip = x0 at r h
  cases x0 with
  | ref j =>
    obtain ⟨a, ha, rfl⟩ := r
    have h : (match s.mo[j]? with
      | some (.lst xs) => some (j, xs)
      | _ => none) = some (i, xs) := h
    split at h
    · rename_i ys hx
      cases h
      obtain ⟨vs, g1, g2, g3⟩ := t.mo _ _ a hx ha
      exact ⟨a, vs, rfl, ha, hx, g1, g2, g3⟩
    · cases h
  | _ => cases h
def mAppend (s : S) (x : D) (ys : List D) : Out D := match ownL s x, ys with
  | some (i, xs), [y] => if xs.length < sizeLine ∧ y.low 0 0 = true then .ok .non (s.put i (.lst (xs ++ [y]))) else .stuck
  | _, _ => .stuck
def mPop (s : S) (x : D) (ys : List D) : Out D := match ownL s x, ys with
  | some (i, xs), [] => (match xs[xs.length - 1]? with
    | some y => .ok y (s.put i (.lst xs.dropLast))
    | none => .stuck)
  | some (i, xs), [j] => (match view s j with
    | .int k => if -(2 ^ 63) ≤ k ∧ k < 2 ^ 63 then (match seqIndex? k xs.length with
      | some n => (match xs[n]? with
        | some y => .ok y (s.put i (.lst (xs.eraseIdx n)))
        | none => .stuck)
      | none => .stuck) else .stuck
    | _ => .stuck)
  | _, _ => .stuck
section
variable {C : Cfg} {X : Cx}
theorem m_append : MtR X "list.append" (rm C X.K mAppend) := MtR.imp (r := rAppend) mt_append fun v vs H Q h => by
  obtain ⟨W, s, x, ys, d, s', t, r, rs, hm, q⟩ := rm_ok h
  unfold mAppend at hm
  split at hm
  · rename_i i xs y ho
    obtain ⟨a, us, rfl, ha, hx, g1, g2, g3⟩ := ownL_of t r ho
    obtain ⟨u, rfl, ru⟩ := rds1 rs
    split at hm
    · rename_i hl
      cases hm
      obtain ⟨t2, l2⟩ := t.write (o' := .lst (xs ++ [y])) (u := .lst (us ++ [u])) ha hx (fun z => nomatch z) fun lf => ⟨us ++ [u], upd_same, (g2.lf lf).append ⟨u, [], rfl, ru.lf lf, rfl⟩, lows_app g3 (lows_one hl.2)⟩
      exact ⟨a, us, u, rfl, rfl, g1, by rw [← g2.length]; exact hl.1, q _ _ _ l2 t2 rfl⟩
    · cases hm
  · cases hm
theorem m_pop : MtR X "list.pop" (rm C X.K mPop) := MtR.imp (MtR.or (r := rPop) (r' := rPopAt) mt_pop mt_popAt) fun v vs H Q h => by
  obtain ⟨W, s, x, ys, d, s', t, r, rs, hm, q⟩ := rm_ok h
  unfold mPop at hm
  split at hm
  · rename_i i xs ho
    obtain ⟨a, us, rfl, ha, hx, g1, g2, g3⟩ := ownL_of t r ho
    have e : vs = [] := rs
    subst e
    split at hm
    · rename_i y hy
      cases hm
      obtain ⟨w, hw, rw'⟩ := g2.get hy
      obtain ⟨t2, l2⟩ := t.write (o' := .lst xs.dropLast) (u := .lst us.dropLast) ha hx (fun z => nomatch z) fun lf => ⟨us.dropLast, upd_same, (g2.lf lf).dropLast, lows_sub g3 fun y hy => List.dropLast_subset xs hy⟩
      exact .inl ⟨a, us, w, rfl, rfl, g1, by rw [← g2.length]; exact hw, q _ _ _ l2 t2 (rw'.mono l2 t)⟩
    · cases hm
  · rename_i i xs j ho
    obtain ⟨a, us, rfl, ha, hx, g1, g2, g3⟩ := ownL_of t r ho
    obtain ⟨u, rfl, ru⟩ := rds1 rs
    have sj := see_of t ru
    split at hm
    · rename_i k hk
      rw [hk] at sj
      split at hm
      · rename_i hb
        split at hm
        · rename_i n hn
          split at hm
          · rename_i y hy
            cases hm
            obtain ⟨w, hw, rw'⟩ := g2.get hy
            obtain ⟨t2, l2⟩ := t.write (o' := .lst (xs.eraseIdx n)) (u := .lst (us.eraseIdx n)) ha hx (fun z => nomatch z) fun lf => ⟨us.eraseIdx n, upd_same, (g2.lf lf).erase n, lows_sub g3 fun y hy => (List.eraseIdx_sublist xs n).subset hy⟩
            exact .inr ⟨a, us, k, n, w, rfl, by rw [show u = .int k from sj], g1, hb.1, hb.2, by rw [← g2.length]; exact hn, hw, q _ _ _ l2 t2 (rw'.mono l2 t)⟩
          · cases hm
        · cases hm
      · cases hm
    · cases hm
  · cases hm
end

/-! ### a new dict -/
def xDK : Ex := fun _ s => .ok (.ref s.mo.length) (s.own (.dK [] []))
def xDT : Ex := fun _ s => .ok (.ref s.mo.length) (s.own (.dT [] []))
def xD0 : Ex := fun _ s => .ok (.dct [] []) s
section
variable {C : Cfg} {X : Cx} {Wx : WX} {pos : Pos}
theorem de_dctK : DE C X Wx (.Dict [] [] pos) xDK := PE.imp pe_dnewK fun σ H Q h => by
  obtain ⟨W, env, s, e, q⟩ := h
  intro p hp
  have nF : ¬ W.F p := fun z => (e.st.fz p z).1 hp
  have nA : p ∉ W.al := fun z => e.st.alh p z hp
  have q : Res C X.K (fun W H => RD C X.K W H) Wx σ env W H s (.ok (.ref s.mo.length) (s.own (.dK [] []))) Q := q
  have e2 := e.upd (o := .dK []) nF nA (.none hp)
  have e3 : StE C X.K (W.own p) (L2.upd H p (.dK [])) σ env (s.own (.dK [] [])) := e2.own (by rw [upd_same]; exact fun z => nomatch z) nF nA ⟨[], upd_same, rfl, rfl, rfl⟩
  refine q.ok' ((Le.fresh hp).own e2.st.len hp) e3 ⟨p, ?_, rfl⟩
  show (W.al ++ [p])[s.mo.length]? = some p
  rw [← e.st.len, List.getElem?_append_right (Nat.le_refl _), Nat.sub_self]
  rfl
theorem de_dctT : DE C X Wx (.Dict [] [] pos) xDT := PE.imp pe_dnewT fun σ H Q h => by
  obtain ⟨W, env, s, e, q⟩ := h
  intro p hp
  have nF : ¬ W.F p := fun z => (e.st.fz p z).1 hp
  have nA : p ∉ W.al := fun z => e.st.alh p z hp
  have q : Res C X.K (fun W H => RD C X.K W H) Wx σ env W H s (.ok (.ref s.mo.length) (s.own (.dT [] []))) Q := q
  have e2 := e.upd (o := .dT []) nF nA (.none hp)
  have e3 : StE C X.K (W.own p) (L2.upd H p (.dT [])) σ env (s.own (.dT [] [])) := e2.own (by rw [upd_same]; exact fun z => nomatch z) nF nA ⟨[], upd_same, rfl, rfl, rfl⟩
  refine q.ok' ((Le.fresh hp).own e2.st.len hp) e3 ⟨p, ?_, rfl⟩
  show (W.al ++ [p])[s.mo.length]? = some p
  rw [← e.st.len, List.getElem?_append_right (Nat.le_refl _), Nat.sub_self]
  rfl
theorem de_dct0 : DE C X Wx (.Dict [] [] pos) xD0 := PE.imp pe_dnewK fun σ H Q h => by
  obtain ⟨W, env, s, e, q⟩ := h
  intro p hp
  have l : Le W H s (W.add p) (L2.upd H p (.dK [])) s := Le.laid e.st hp
  have t2 := e.st.laid hp (o := .dK []) (fun _ z => nomatch z)
  exact q.ok' l (e.later l t2) ⟨p, [], rfl, .inr rfl, .inl ⟨[], upd_same, rfl, rfl⟩, rfl⟩
end
end DV
end
section
set_option Elab.async false
set_option linter.all false
set_option maxRecDepth 100000
/-! DX: truth of any value, or / and as values; two and three names at once; tags. -/
namespace DV
open PySem PySem.Spec PyProof.Rows L2

def truD (s : S) (x : D) : Option Bool := match dctD s x with
  | some (ks, _, false) => some (!ks.isEmpty)
  | some (_, _, true) => none
  | none => (view s x).tru
theorem truD_of {C : Cfg} {K : PySem.W.Frag} {W : Wd} {H : Hp} {s : S} {d : D} {v : V} {k : Bool} (t : StS C K W H s) (r : RD C K W H d v) (h : truD s d = some k) : TruV K v H k := by
  unfold truD at h
  split at h
  · rename_i ks vs hd
    cases h
    obtain ⟨a, rfl, z⟩ := dct_of t r hd
    rcases z with ⟨_, kvs, g1, g2, g3⟩ | ⟨z, _⟩
    · refine .inr (.inr ⟨kvs, g1, ?_⟩)
      rw [g2]
      cases kvs <;> rfl
    · cases z
  · cases h
  · exact tru_of (see_of t r) h
def tTr (a : Ex) : Tx := fun e s => (a e s).bind fun x s => Out.of (truD s x) s
def xOrT (a b : Ex) : Ex := fun e s => (a e s).bind fun x s => match truD s x with
  | some true => .ok x s
  | some false => b e s
  | none => .stuck
def xAndT (a b : Ex) : Ex := fun e s => (a e s).bind fun x s => match truD s x with
  | some true => b e s
  | some false => .ok x s
  | none => .stuck
def xNotT (a : Ex) : Ex := fun e s => (a e s).bind fun x s => match truD s x with
  | some k => .ok (.bl (!k)) s
  | none => .stuck
section
variable {C : Cfg} {X : Cx} {Wx : WX} {a b c : Expr} {fa fb fc : Ex} {pos : Pos} {rest : List Expr}
theorem dt_tr (h : DE C X Wx a fa) (he : ∀ whole, isTrue a X.env whole = (do let v ← whole; standAt a.pos; holding [v] (truthy v)) := by intro _; rfl) : DT C X Wx a (tTr fa) :=
  PT.imp (pt_truth h he) fun σ H Q h => by
    obtain ⟨W, env, s, e, q⟩ := h
    refine ⟨W, env, s, e, Res.step q fun W1 H1 s1 d x l1 e1 h1 q1 => ?_⟩
    revert q1
    unfold Out.of
    cases hk : truD s1 d with
    | none => exact fun q => q.elim
    | some k => exact fun q => ⟨k, truD_of e1.st h1 hk, q.here e1 rfl⟩
theorem de_orT (ha : DE C X Wx a fa) (hb : DE C X Wx (.BoolOp .Or (b :: rest) pos) fb) : DE C X Wx (.BoolOp .Or (a :: b :: rest) pos) (xOrT fa fb) :=
  PE.imp (pe_orT ha hb) fun σ H Q h => by
    obtain ⟨W, env, s, e, q⟩ := h
    refine ⟨W, env, s, e, Res.step q fun W1 H1 s1 d x l1 e1 h1 q1 => ?_⟩
    revert q1
    split
    · rename_i hk
      exact fun q => ⟨true, truD_of e1.st h1 hk, by rw [if_pos rfl]; exact q.here e1 h1⟩
    · rename_i hk
      exact fun q => ⟨false, truD_of e1.st h1 hk, by rw [if_neg Bool.false_ne_true]; exact ⟨W1, env, s1, e1, q⟩⟩
    · exact fun q => q.elim
theorem de_andT (ha : DE C X Wx a fa) (hb : DE C X Wx (.BoolOp .And (b :: rest) pos) fb) : DE C X Wx (.BoolOp .And (a :: b :: rest) pos) (xAndT fa fb) :=
  PE.imp (pe_andT ha hb) fun σ H Q h => by
    obtain ⟨W, env, s, e, q⟩ := h
    refine ⟨W, env, s, e, Res.step q fun W1 H1 s1 d x l1 e1 h1 q1 => ?_⟩
    revert q1
    split
    · rename_i hk
      exact fun q => ⟨true, truD_of e1.st h1 hk, by rw [if_pos rfl]; exact ⟨W1, env, s1, e1, q⟩⟩
    · rename_i hk
      exact fun q => ⟨false, truD_of e1.st h1 hk, by rw [if_neg Bool.false_ne_true]; exact q.here e1 h1⟩
    · exact fun q => q.elim
theorem de_notT (ha : DE C X Wx a fa) : DE C X Wx (.UnaryOp .Not a pos) (xNotT fa) :=
  PE.imp (pe_notT ha) fun σ H Q h => by
    obtain ⟨W, env, s, e, q⟩ := h
    refine ⟨W, env, s, e, Res.step q fun W1 H1 s1 d x l1 e1 h1 q1 => ?_⟩
    revert q1
    split
    · rename_i k hk
      exact fun q => ⟨k, truD_of e1.st h1 hk, q.here e1 rfl⟩
    · exact fun q => q.elim
end

/-! ### a, b, c = x, y, z of names -/
def sPar3 (i j l : Nat) (a : Ax) : Sx := fun e s => (a e s).fl e fun ds s => match ds with
  | [x, y, z] => .next (((e.set i (some x)).set j (some y)).set l (some z)) s
  | _ => .stuck
section
variable {C : Cfg} {X : Cx} {Wx : WX} {fa : Ax}
theorem ds_par3 {i j l : Nat} {x y z : Str} {a b c : Expr} {px py pz pt pos : Pos} {kt k2 pt2} (hc : X.calm = true) (hN : X.N.Nodup) (hi : X.N[i]? = some x) (hj : X.N[j]? = some y) (hl : X.N[l]? = some z) (hij : i ≠ j) (hil : i ≠ l) (hjl : j ≠ l)
    (hx : X.env.scope.names.lookup x = some .local) (hy : X.env.scope.names.lookup y = some .local) (hz : X.env.scope.names.lookup z = some .local) (ha : DA C X Wx [a, b, c] fa)
    (hw : swappedStores [.Tuple [.Name x px, .Name y py, .Name z pz] kt pt] (.Tuple [a, b, c] k2 pt2) X.env = pure (some [x, y, z]))
    (hs : swapsWithSole [.Tuple [.Name x px, .Name y py, .Name z pz] kt pt] (.Tuple [a, b, c] k2 pt2) pos.line X.env = pure false := by rfl) :
    DS C X Wx (.Assign [.Tuple [.Name x px, .Name y py, .Name z pz] kt pt] (.Tuple [a, b, c] k2 pt2) pos) (sPar3 i j l fa) := PS.imp (ps_par3 hc hN hi hj hl hij hil hjl hx hy hz ha hw hs) fun En σ H h => by
  obtain ⟨W, env, s, e, q⟩ := h
  refine ⟨W, env, s, e, Res.fl q fun W1 H1 s1 ds vs l1 e1 r q => ?_⟩
  match ds, r, q with
  | [], _, q => exact q.elim
  | [_], _, q => exact q.elim
  | [_, _], _, q => exact q.elim
  | _ :: _ :: _ :: _ :: _, _, q => exact q.elim
  | [d1, d2, d3], r, q =>
    obtain ⟨v1, rs, rfl, k1, k2⟩ := r
    obtain ⟨v2, v3, rfl, k2, k3⟩ := rds2 k2
    exact ⟨v1, v2, v3, rfl, ResS.here q (((e1.set i k1).set j k2).set l k3)⟩
end

/-! ### tags: a value that is known again -/
def gTag (i : Nat) : Gx := fun d e s => .ok (e.set i (some (.tag s.tg d))) ⟨s.mo, s.tg + 1⟩
def Wd.mark (W : Wd) (v : V) : Wd := { W with ts := W.ts ++ [v] }
section
variable {C : Cfg} {K : PySem.W.Frag} {W : Wd} {H : Hp} {s : S}
theorem Le.mark (t : StS C K W H s) (v : V) : Le W H s (W.mark v) H ⟨s.mo, s.tg + 1⟩ := ⟨fun _ h => h, fun _ _ h => h, fun i u h => by
  show (W.ts ++ [v])[i]? = some u
  rw [List.getElem?_append_left (List.getElem?_eq_some_iff.mp h).1]
  exact h, fun _ _ h _ _ => h, fun _ h => h, fun _ h => h, (fun i a hi h => by
    have h : W.al[i]? = some a := h
    rw [List.getElem?_eq_none hi] at h
    cases h), fun _ h => .inl h⟩
theorem StS.mark (t : StS C K W H s) (v : V) : StS C K (W.mark v) H ⟨s.mo, s.tg + 1⟩ := by
  have l := Le.mark t v
  refine ⟨t.len, ?_, t.nod, fun i o a h1 h2 => mok_later l t (fun _ z => z) (t.mo i o a h1 h2), t.fz, t.alh, tbs_mono t.tb fun _ h => h⟩
  show (W.ts ++ [v]).length = s.tg + 1
  rw [List.length_append, t.tln]
  rfl
end
section
variable {C : Cfg} {X : Cx} {pos : Pos}
theorem dg_tag {i : Nat} {x : Str} (hN : X.N.Nodup) (hi : X.N[i]? = some x) (hx : Loc X.env.scope x) (hf : X.fn x = true ∨ X.env.scope.names.lookup x = some .local := by first | exact .inl rfl | exact .inr rfl | assumption) : DG C X (.Name x pos) (gTag i) :=
  PG.imp (pg_name hN hi hx hf) fun v σ H Q h => by
    obtain ⟨W, env, s, d, e, r, q⟩ := h
    have l := Le.mark e.st v
    have t := e.st.mark v
    refine q (W.mark v) _ H l ((e.later l t).set i ⟨?_, r.mono l e.st⟩)
    show (W.ts ++ [v])[s.tg]? = some v
    rw [← e.st.tln, List.getElem?_append_right (Nat.le_refl _), Nat.sub_self]
    rfl
end
end DV
end
section
set_option Elab.async false
set_option linter.all false
set_option maxRecDepth 100000
/-! DK: dict comprehensions whose keys are tuples, and over data. -/
namespace DV
open PySem PySem.Spec PyProof.Rows L2

/-- one entry of a dict of tuple keys, set by a comprehension -/
theorem set_tk {X : Cx} {pn : List (Addr × Obj)} {σ : L2.St} {H : Hp} {sh : Shared} {Er : Value → Shared → Prop} {d b : Addr} {kvs : List (List Key × V)} {k : List Key} {v : V} {u : Value} {Q : Unit → Shared → Prop} (hu : X.A.units + 1 < cLine)
    (J : Inv X pn σ H sh) (ed : H d = some (.dT kvs)) (eb : H b = some (.tup (k.map kV))) (hz : kvs.length < sizeLine) (ru : RelV v u) (go : ∀ sh', Inv X pn σ (L2.upd H d (.dT (putK kvs k v))) sh' → Q () sh') :
    wpAny (model X.prog X.w) X.A (dictSet d (.ref b) u) Q Er sh := by
  obtain ⟨z, low, xs, rel, at_⟩ := dt_of J.hok ed
  have n1 : xs.length ≤ sizeLine := (Paired.length rel) ▸ z
  have n2 := length_putK kvs k v
  refine wpAny_dictSet_heap (hsz := n1) (show X.A.units < cLine by omega) (key_of J.hok eb) at_ fun hp at2 same => go _ ?_
  obtain ⟨ob, es, ep, q1, q2, q3, q4, _, q5⟩ := at2
  refine d_write J (by rw [ed]; exact trivial) same ⟨ob, q1⟩ ⟨by omega, low, _, (rel.put k eb ru).keeps fun c ys ec => ?_, ob, es, ep, q1, q2, q3, q4, q5⟩
  rw [upd_ne (ne_of ec ed fun z => nomatch z)]
  exact ec

/-- what a dict comprehension of tuple keys asks: R the loop's invariant -/
def tDcT (wi : TI) (g : TG) (tt : TT) (tk tv : TE) (vs : List Nat) : TE := fun σ H Q => wi σ H fun J H1 => ∀ d, H1 d = none → ∃ R : Nat → Nat → Hp → Prop, (∃ m, R 0 m (L2.upd H1 d (.dT []))) ∧
  ∀ i m H, R i m H → (J.stop i H ∧ Q (.ref d) H) ∨ (J.go i H ∧ ∃ Nx : Hp → Prop, (∀ H', Nx H' → ∃ m', m' < m ∧ R (i + 1) m' H') ∧
    ∀ x H', J.yld i H x H' → g x (wipe σ vs) H' fun σ2 H2 => wipe σ2 vs = wipe σ vs ∧ tt σ2 H2 fun b H3 => if b = true then tk σ2 H3 fun y H4 => tv σ2 H4 fun z H5 =>
      ∃ kvs k c, y = .ref c ∧ H5 c = some (.tup (k.map kV)) ∧ H5 d = some (.dT kvs) ∧ kvs.length < sizeLine ∧ Nx (L2.upd H5 d (.dT (putK kvs k z))) else Nx H3)
section
variable {X : Cx}
theorem pe_dcT {kx vx tg iter : Expr} {ifs : List Expr} {scope : Scope} {own : List (Str × Nat)} {pos : Pos} {wi : TI} {g : TG} {tt : TT} {tk tv : TE} (hu : X.A.units + 1 < cLine) (hc : X.calm = true) (hN : X.N.Nodup) (hi : PI X tg iter wi) (ok : BlkOk X.N X.env.scope scope own)
    (hg : ∀ (sh : Shared) (H : Hp) (b : Addr) (cl : List (Str × Addr)) (fp : List Addr), PG (X.blk sh H scope (compEnvC scope cl b X.env) fp) tg g)
    (ht : ∀ (sh : Shared) (H : Hp) (b : Addr) (cl : List (Str × Addr)) (fp : List Addr), PTs (X.blk sh H scope (compEnvC scope cl b X.env) fp) ifs tt)
    (hk : ∀ (sh : Shared) (H : Hp) (b : Addr) (cl : List (Str × Addr)) (fp : List Addr), PE (X.blk sh H scope (compEnvC scope cl b X.env) fp) kx tk)
    (hv : ∀ (sh : Shared) (H : Hp) (b : Addr) (cl : List (Str × Addr)) (fp : List Addr), PE (X.blk sh H scope (compEnvC scope cl b X.env) fp) vx tv) (hs : ∀ x, foldedSetIterable iter X.env x = pure x := by intro _; rfl) :
    PE X (.DictComp kx vx [⟨tg, iter, ifs, 0⟩] scope pos) (tDcT wi g tt tk tv (own.map (·.2))) := by
  refine ⟨fun pn sh0 σ H Q J0 h => ?_⟩
  rw [arm_eval_DictComp]
  have fr : ∀ y ∈ scope.names, y.2 = .free → ∃ c, X.env.cells.lookup y.1 = some c := fun y hy e => (ok.free y hy e).elim (fun z => J0.ok.has _ (.inl z)) fun z => J0.ok.has _ (.inr z)
  refine wpAny_comprehension_free rfl hs (closure_ok fr) ok.kind (fun y hy e => by rw [ok.uniq y hy, e]) (thn (hi.run pn sh0 σ H _ J0 h) fun v1 sh1 y1 => thn y1 fun v2 sh2 y2 => ?_)
  obtain ⟨it, fp, tn, It1, Ha, e, Ja, Tu, sa, fa, q⟩ := y2
  subst e
  refine wpAny_newObj_type (newEnv_comp ?_)
  -- the new dict lies at d
  obtain ⟨d, ed⟩ : ∃ d, sh2.heap.objs.size = d := ⟨_, rfl⟩
  rw [ed]
  have free_d : Ha d = none := Ja.hok.fresh (Nat.le_of_eq ed)
  obtain ⟨R, ⟨m0, R0⟩, turn⟩ := q d free_d
  let sh3 : Shared := { sh2 with heap := sh2.heap.push { cls := .type "dict", data := .dict #[] } }
  have Jb : Inv X pn σ (L2.upd Ha d (.dT [])) sh3 := by
    refine Ja.laid (t' := sh2.toks) (fun b o z => Heap.get?_push_of_some _ z) (Nat.le_of_eq ed) ?_
    rw [← ed]
    exact dt_empty sh2.heap Ja.big
  have below : ∀ b ∈ fp, b < sh2.heap.objs.size := fun b hb => let ⟨o, z, _⟩ := Tu.obj _ _ sa b hb; Heap.lt_size z
  have fb : ∀ b ∈ fp, FpOk X pn (L2.upd Ha d (.dT [])) b ∧ b < sh3.heap.objs.size := fun b hb => by
    have lt := below b hb
    have ne : b ≠ d := fun z => Nat.lt_irrefl _ (by rw [← ed] at z; rw [z] at lt; exact lt)
    refine ⟨⟨?_, (fa b hb).2⟩, ?_⟩
    · rw [upd_ne ne]
      exact (fa b hb).1
    · show b < (sh2.heap.push _).objs.size
      rw [Heap.size_push]
      exact Nat.lt_succ_of_lt lt
  have sb : tn 0 sh3.heap := Tu.keep _ _ _ sa fun b _ o z => Heap.get?_push_of_some _ z
  obtain ⟨cl, ecl⟩ : ∃ cl, cellsFrom (sh3.heap.objs.size + 1) scope.names (cloFrom X.env.cells scope.names []) = cl := ⟨_, rfl⟩
  obtain ⟨B, eB⟩ : ∃ B, sh3.heap.objs.size = B := ⟨_, rfl⟩
  have Jc := block_start Jb ok hN fb
  have pg := hg sh3 (L2.upd Ha d (.dT [])) B cl fp
  have pt := ht sh3 (L2.upd Ha d (.dT [])) B cl fp
  have pk := hk sh3 (L2.upd Ha d (.dT [])) B cl fp
  have pv := hv sh3 (L2.upd Ha d (.dT [])) B cl fp
  rw [ecl, eB] at Jc
  have none_fp : ∀ b ∈ fp, (L2.upd Ha d (.dT [])) b = none := fun b hb => (fb b hb).1.1
  suffices main : ∀ (ce : PySem.Env) (sh4 : Shared), ce = compEnvC scope cl B X.env → sh4 = { sh3 with heap := pushCells (sh3.heap.push { cls := .type "dict", data := .dict #[] }) scope.names } →
      codeAny (model X.prog X.w) X.A (.compStart (.DictComp kx vx [⟨tg, iter, ifs, 0⟩] scope pos) 0 (.ref it) (.ref d) ce) (compPost (model X.prog X.w) X.A X.xe none (EP X pn σ Q) (.ref d) B) sh4 by
    have z := main _ _ rfl rfl
    rw [← ecl, ← eB] at z
    rw [← ed] at z ⊢
    exact z
  intro ce sh4 ece e4
  rw [← ece] at Jc pg pt pk pv
  rw [← e4] at Jc
  have cL : ce.locals = B := by rw [ece]; rfl
  obtain ⟨Hb, eHb⟩ : ∃ Hb, L2.upd Ha d (.dT []) = Hb := ⟨_, rfl⟩
  rw [eHb] at Jb Jc pg pt pk pv R0 none_fp fb
  have sc : tn 0 sh4.heap := Tu.keep _ _ _ sb fun b _ o z => by
    rw [e4]
    exact pushCells_keeps _ _ _ _ (Heap.get?_push_of_some _ z)
  let Y : Cx := X.blk sh3 Hb scope ce fp
  have mine : ∀ {σ' : L2.St} {H' : Hp} {sh' : Shared}, Inv Y [] σ' H' sh' → (∀ b ∈ fp, H' b = none) → ∀ b ∈ fp, FpOk Y [] H' b := fun {σ' H' sh'} J' z b hb =>
    ⟨z b hb, (J'.ok.exf b hb).1, J'.ok.exfs b hb, .inl hb, fun x c w => (J'.ok.exf b hb).2 x c w, fun p hp => absurd (show p ∈ ([] : List (Addr × Obj)) ++ [] from hp) (by simp)⟩
  have run : codeAny (model X.prog X.w) X.A (.compLoop (.DictComp kx vx [⟨tg, iter, ifs, 0⟩] scope pos) 0 (.ref it) (.ref d) ce) (compPost (model X.prog X.w) X.A X.xe none (EP X pn σ Q) (.ref d) B) sh4 := by
    refine compLoop_anyD (fun m sh' => ∃ i H', Inv Y [] (wipe σ (own.map (·.2))) H' sh' ∧ tn i sh'.heap ∧ (∀ b ∈ fp, H' b = none) ∧ R i m H') ?_ m0 ⟨0, Hb, Jc, sc, none_fp, R0⟩
    rintro m sh5 ⟨i, Hc, Jd, sd, nd, rd⟩
    rcases turn i m Hc rd with ⟨stop, post⟩ | ⟨go, Nx, hNx, step⟩
    · refine thnF (Tu.done Y rfl rfl rfl hc i [] sh5 _ Hc (fun _ _ => False) Jd (mine Jd nd) sd stop) fun r sh6 ⟨er, Je⟩ => ?_
      subst er
      have Jx : Inv X pn σ Hc sh6 := Jb.call' (ch := fp) Je.os Je.base Je.hok Je.bare fun b hb => let z := (fb b hb).1.2; ⟨z.2.2.1, z.1, z.2.2.2.1, z.2.2.2.2⟩
      have nB : Hc B = none := cL ▸ (show Hc ce.locals = none from Je.free)
      obtain ⟨ns, hns, _⟩ := Je.loc
      have hns : sh6.heap.Ns B ns := cL ▸ (show sh6.heap.Ns ce.locals ns from hns)
      obtain ⟨f0, f1, f2, f3, f4, f5⟩ := Jb.fpOk (H' := Hc) (Nat.le_of_eq eB) nB
      exact ⟨ns, hns, fun h'' same => ⟨.ref d, Hc, Jx.turned (t' := sh6.toks) (fun b o hb z => (same.2 b hb).trans z) f0 f1 f3 f4 f5, rfl, post⟩⟩
    · refine thnF (Tu.item Y rfl rfl rfl hc i [] sh5 _ Hc (fun _ _ => False) Jd (mine Jd nd) sd go) fun r sh6 ⟨u, er, h6⟩ => ?_
      subst er
      refine thnF h6 fun _ sh7 ⟨x, He, Jf, rx, yx, s7, n7⟩ => ?_
      have Jg := Jf.pinned (mine Jf n7) (Tu.obj _ _ s7)
      refine thnF (pg.run _ sh7 _ He x u _ Jg rx (step x He yx)) fun _ sh8 ⟨σ8, H8, J8, w8, q8⟩ => ?_
      refine thnF (pt.run _ sh8 σ8 H8 _ J8 q8) fun b sh9 ⟨H9, J9, q9⟩ => ?_
      have next : ∀ {sh' : Shared} {H' : Hp}, Inv Y ([] ++ pinsAt fp sh7.heap) σ8 H' sh' → Nx H' → ∃ m', m' < m ∧ ∃ i H', Inv Y [] (wipe σ (own.map (·.2))) H' sh' ∧ tn i sh'.heap ∧ (∀ b ∈ fp, H' b = none) ∧ R i m' H' := fun {sh' H'} J' nx => by
        obtain ⟨m', lt, r'⟩ := hNx H' nx
        have held : ∀ b ∈ fp, ∀ o, sh7.heap.get? b = some o → sh'.heap.get? b = some o ∧ H' b = none := fun b hb o z =>
          let w := J'.pin (b, o) (List.mem_append_right _ (List.mem_append_right _ (mem_pinsAt hb z)))
          ⟨w.1, w.2.1⟩
        refine ⟨m', lt, i + 1, H', (J'.unpinned (pins := [])).weak (by rw [← w8, wipe_length]) (fun j v z => ?_), Tu.keep _ _ _ s7 fun b hb o z => (held b hb o z).1, fun b hb => ?_, r'⟩
        · rw [← w8] at z
          exact (wipe_some z).1
        · obtain ⟨o, z, _⟩ := Tu.obj _ _ s7 b hb
          exact (held b hb o z).2
      cases b with
      | false => exact next J9 q9
      | true =>
        refine thnF (pk.run _ sh9 σ8 H9 _ J9 q9) fun kv sh10 ⟨y, H10, J10, ry, q10⟩ => ?_
        refine thnF (pv.run _ sh10 σ8 H10 _ J10 q10) fun vv sh11 ⟨z, H11, J11, rz, kvs, k, c, ec, hc11, hd11, hz11, nx⟩ => ?_
        subst ec
        obtain rfl : kv = Value.ref c := ry
        exact set_tk (X := Y) hu J11 hd11 hc11 hz11 rz fun sh12 J12 => next J12 nx
  exact codeAny_compStart_dict run (Tu.self X.A 0 _ _ _ sc run)
end
/-! {k: v for ..}, keys numbers or texts -/
noncomputable def dcRunK (c : CT) (t : Tx) (fk fv : Ex) (vs : List Nat) (w : Wk) (e : Env) : List D → List D → List D → S → Out (List D × List D)
  | [], ka, va, s => if w.same s then .ok (ka, va) s else .stuck
  | d :: ds, ka, va, s => if w.same s then (match c.bind d (wipeE e vs) s with
    | some e1 => (t e1 s).bind fun b s1 => if b = true then (fk e1 s1).bind fun y s2 => (fv e1 s2).bind fun z s3 => (match kD y with
        | some q => if ka.length < sizeLine then dcRunK c t fk fv vs w e ds (putKD ka va q z).1 (putKD ka va q z).2 s3 else .stuck
        | none => .stuck) else dcRunK c t fk fv vs w e ds ka va s1
    | none => .stuck) else .stuck
def OutK (o : Out (List D × List D)) : Out D := match o with
  | .ok p s => .ok (.dct p.1 p.2) s
  | _ => .stuck
noncomputable def xDcK (ix : Ix) (c : CT) (t : Tx) (fk fv : Ex) (vs : List Nat) : Ex := fun e s => (ix e s).bind fun w s => OutK (dcRunK c t fk fv vs w e w.items [] [] s)
section
variable {C : Cfg} {X : Cx} {Wx : WX} {ix : Ix} {c : CT} {ft : Tx} {fk fv : Ex} {vs : List Nat}
theorem tD_dcK {K : PySem.W.Frag} (hw : ∀ i ∈ c.slots, i ∈ vs) : ∀ σ H Q, tD C K Wx (xDcK ix c ft fk fv vs) σ H Q → tDc (tI C K Wx ix) (c.tg K) (tT C K W0 ft) (tD C K W0 fk) (tD C K W0 fv) vs σ H Q := fun σ H Q h => by
  obtain ⟨W, env, s, e, q⟩ := h
  refine ⟨W, env, s, e, ?_⟩
  unfold xDcK at q
  cases hix : ix env s with
  | exc c vs s1 =>
    rw [hix] at q
    exact q
  | stuck =>
    rw [hix] at q
    exact q
  | ok w s1 =>
  rw [hix] at q
  intro W1 H1 J l1 e1 giv
  have giv := giv s1 e1.st
  intro d hD
  have nF : ¬ W1.F d := fun z => (e1.st.fz d z).1 hD
  have nA : d ∉ W1.al := fun z => e1.st.alh d z hD
  have ntd : ∀ xs, ntb (HO.dK xs) := fun _ _ z => nomatch z
  have q : Res C K (fun W H => RD C K W H) Wx σ env W H s (OutK (dcRunK c ft fk fv vs w env w.items [] [] s1)) Q := q
  let fin : List D × List D → S → Prop := fun p s3 => ∀ W' H' (kvs : List (Key × V)), Le W1 H1 s1 W' H' s3 → StE C K W' H' σ env s3 → ¬ W'.F d → d ∉ W'.al → H1 d = none → H' d = some (HO.dK kvs) → p.1 = kvs.map (fun p : Key × V => keyD p.1) → RDs C K W' H' p.2 (kvs.map (·.2)) → Q (.ref d) H'
  let Inv1 : Nat → Hp → Prop := fun i H' => ∃ (W2 : Wd) (s2 : S) (kvs : List (Key × V)) (va : List D), Le W1 H1 s1 W2 H' s2 ∧ StE C K W2 H' σ env s2 ∧ ¬ W2.F d ∧ d ∉ W2.al ∧ H' d = some (HO.dK kvs) ∧ RDs C K W2 H' va (kvs.map (·.2)) ∧
      ∃ p s3, dcRunK c ft fk fv vs w env (w.items.drop i) (kvs.map fun p : Key × V => keyD p.1) va s2 = .ok p s3 ∧ fin p s3
  have key : ∃ p s3, dcRunK c ft fk fv vs w env w.items [] [] s1 = .ok p s3 ∧ fin p s3 := by
    cases hr : dcRunK c ft fk fv vs w env w.items [] [] s1 with
    | ok p s3 =>
      rw [hr] at q
      refine ⟨p, s3, rfl, fun W' H' kvs l e2 n1 n2 hp hd hk r => ?_⟩
      have lf : Lf W' H' (W'.add d) H' := ⟨fun _ h => .inl h, fun _ _ h => h, fun _ _ h => h, fun _ _ _ h => h⟩
      have q : Res C K (fun W H => RD C K W H) Wx σ env W H s (.ok (.dct p.1 p.2) s3) Q := q
      refine q.ok' ((l1.trans l).addF (l1.wasNone hp)) (e2.addF (by rw [hd]; exact fun z => nomatch z) (fun o z => by rw [hd] at z; cases z; exact ntd _) n2) ⟨d, kvs.map (·.2), rfl, .inr rfl, .inl ⟨kvs, hd, hk, rfl⟩, r.lf lf⟩
    | exc _ _ _ => rw [hr] at q; exact q.elim
    | stuck => rw [hr] at q; exact q.elim
  refine ⟨fun i m H' => m = w.items.length - i ∧ i ≤ w.items.length ∧ Inv1 i H', ⟨w.items.length, by omega, Nat.zero_le _, W1, s1, [], [], Le.fresh hD, e1.upd nF nA (.none hD), nF, nA, upd_same, rfl, key⟩, ?_⟩
  rintro i m H2 ⟨rfl, hi, W2, s2, kvs, va, l2, e2, nF2, nA2, hD2, r2, p, s3, hrun, hfin⟩
  have gv := giv W2 H2 s2 l2 e2.st
  have outF : ∀ {W5 : Wd} {H5 : Hp} {s5 : S}, Le W2 H2 s2 W5 H5 s5 → ¬ W5.F d ∧ d ∉ W5.al ∧ H5 d = some (HO.dK kvs) := fun {W5 H5 s5} l5 => by
    refine ⟨fun z => ?_, fun z => ?_, l5.ext d _ hD2 (ntd _) fun i hi => absurd (List.mem_of_getElem? hi) nA2⟩
    · rcases l5.nw d z with z | z | z
      · exact nF2 z
      · rw [hD2] at z
        cases z
      · exact nA2 z
    · rcases l5.old z with z | z
      · exact nA2 z
      · rw [hD2] at z
        cases z
  by_cases hlt : i < w.items.length
  · have hd : w.items.drop i = w.items[i] :: w.items.drop (i + 1) := List.drop_eq_getElem_cons hlt
    rw [hd] at hrun
    unfold dcRunK at hrun
    by_cases hs : w.same s2
    · rw [if_pos hs] at hrun
      obtain ⟨_, h2⟩ := gv hs i
      obtain ⟨go, yl⟩ := h2 _ (List.getElem?_eq_getElem hlt)
      refine .inr ⟨go, fun H' => i + 1 ≤ w.items.length ∧ Inv1 (i + 1) H', fun H' ⟨a, b⟩ => ⟨w.items.length - (i + 1), by omega, rfl, a, b⟩, fun x H3 y => ?_⟩
      obtain ⟨W3, l3, t3, r3⟩ := yl x H3 y
      have e3 := (e2.later l3 t3).wipe vs
      cases hb : c.bind w.items[i] (wipeE env vs) s2 with
      | none => rw [hb] at hrun; cases hrun
      | some e4 =>
        rw [hb] at hrun
        have hrun : ((ft e4 s2).bind fun b s1 => if b = true then (fk e4 s1).bind fun y s2 => (fv e4 s2).bind fun z s3 => (match kD y with
          | some q => if (kvs.map fun p : Key × V => keyD p.1).length < sizeLine then dcRunK c ft fk fv vs w env (w.items.drop (i + 1)) (putKD (kvs.map fun p : Key × V => keyD p.1) va q z).1 (putKD (kvs.map fun p : Key × V => keyD p.1) va q z).2 s3 else .stuck
          | none => .stuck) else dcRunK c ft fk fv vs w env (w.items.drop (i + 1)) (kvs.map fun p : Key × V => keyD p.1) va s1) = .ok p s3 := hrun
        refine CT.take e3 r3 hb hw fun σ4 e4' hw4 => ⟨by rw [hw4, wipe_idem], W3, e4, s2, e4', ?_⟩
        cases hft : ft e4 s2 with
        | exc _ _ _ => rw [hft] at hrun; cases hrun
        | stuck => rw [hft] at hrun; cases hrun
        | ok b s4 =>
          rw [hft] at hrun
          intro W4 H4 b' l4 e5 hbb
          have hbb : b = b' := hbb
          subst hbb
          have l34 := l3.trans l4
          cases b with
          | false =>
            obtain ⟨o1, o2, o3⟩ := outF l34
            exact ⟨hlt, W4, s4, kvs, va, l2.trans l34, e2.later l34 e5.st, o1, o2, o3, r2.mono l34 e2.st, p, s3, hrun, hfin⟩
          | true =>
            have hrun : ((fk e4 s4).bind fun y s2 => (fv e4 s2).bind fun z s3 => (match kD y with
              | some q => if (kvs.map fun p : Key × V => keyD p.1).length < sizeLine then dcRunK c ft fk fv vs w env (w.items.drop (i + 1)) (putKD (kvs.map fun p : Key × V => keyD p.1) va q z).1 (putKD (kvs.map fun p : Key × V => keyD p.1) va q z).2 s3 else .stuck
              | none => .stuck)) = .ok p s3 := hrun
            refine ⟨W4, e4, s4, e5, ?_⟩
            cases hfk : fk e4 s4 with
            | exc _ _ _ => rw [hfk] at hrun; cases hrun
            | stuck => rw [hfk] at hrun; cases hrun
            | ok dy s5 =>
              rw [hfk] at hrun
              have hrun : ((fv e4 s5).bind fun z s3 => (match kD dy with
                | some q => if (kvs.map fun p : Key × V => keyD p.1).length < sizeLine then dcRunK c ft fk fv vs w env (w.items.drop (i + 1)) (putKD (kvs.map fun p : Key × V => keyD p.1) va q z).1 (putKD (kvs.map fun p : Key × V => keyD p.1) va q z).2 s3 else .stuck
                | none => .stuck)) = .ok p s3 := hrun
              intro W5 H5 y l5 e6 r5
              refine ⟨W5, e4, s5, e6, ?_⟩
              cases hfv : fv e4 s5 with
              | exc _ _ _ => rw [hfv] at hrun; cases hrun
              | stuck => rw [hfv] at hrun; cases hrun
              | ok dz s6 =>
                rw [hfv] at hrun
                have hrun : (match (generalizing := false) kD dy with
                  | some q => if (kvs.map fun p : Key × V => keyD p.1).length < sizeLine then dcRunK c ft fk fv vs w env (w.items.drop (i + 1)) (putKD (kvs.map fun p : Key × V => keyD p.1) va q dz).1 (putKD (kvs.map fun p : Key × V => keyD p.1) va q dz).2 s6 else .stuck
                  | none => .stuck) = .ok p s3 := hrun
                intro W6 H6 z l6 e7 r6
                cases hq : kD dy with
                | none => rw [hq] at hrun; cases hrun
                | some qk =>
                  rw [hq] at hrun
                  have hrun : (if (kvs.map fun p : Key × V => keyD p.1).length < sizeLine then dcRunK c ft fk fv vs w env (w.items.drop (i + 1)) (putKD (kvs.map fun p : Key × V => keyD p.1) va qk dz).1 (putKD (kvs.map fun p : Key × V => keyD p.1) va qk dz).2 s6 else .stuck) = .ok p s3 := hrun
                  by_cases hz : (kvs.map fun p : Key × V => keyD p.1).length < sizeLine
                  · rw [if_pos hz] at hrun
                    have l36 := (l34.trans l5).trans l6
                    obtain ⟨o1, o2, o3⟩ := outF l36
                    obtain ⟨k1, k2⟩ := putKD_rd (q := qk) (kvs := kvs) r6 (r2.mono l36 e2.st)
                    rw [k1] at hrun
                    have ey := kD_rd (r5.mono l6 e6.st) hq
                    exact ⟨kvs, qk, ey, o3, by rw [List.length_map] at hz; exact hz, hlt, W6, s6, putK kvs qk z, (putKD (kvs.map fun p : Key × V => keyD p.1) va qk dz).2, (l2.trans l36).over hD, (e2.later l36 e7.st).upd o1 o2 (.of o3 plain_dK), o1, o2, upd_same, k2.lf (Lf.upd o1), p, s3, hrun, hfin⟩
                  · rw [if_neg hz] at hrun
                    cases hrun
    · rw [if_neg hs] at hrun
      cases hrun
  · have hi' : i = w.items.length := by omega
    subst hi'
    rw [List.drop_length] at hrun
    unfold dcRunK at hrun
    by_cases hs : w.same s2
    · rw [if_pos hs] at hrun
      cases hrun
      exact .inl ⟨(gv hs _).1 rfl, hfin W2 H2 kvs l2 e2 nF2 nA2 hD hD2 rfl r2⟩
    · rw [if_neg hs] at hrun
      cases hrun
theorem de_dcK {tg iter kx vx : Expr} {ifs : List Expr} {scope : Scope} {own : List (Str × Nat)} {pos : Pos} (hc : X.calm = true) (hN : X.N.Nodup) (hi : DI C X Wx tg iter ix) (ok : BlkOk X.N X.env.scope scope own) (hw : ∀ i ∈ c.slots, i ∈ own.map (·.2))
    (hg : ∀ (s : Shared) (H : Hp) (A : Addr) (cl : List (Str × Addr)) (fp : List Addr), c.ok (X.blk s H scope (compEnvC scope cl A X.env) fp) tg)
    (ht : ∀ (s : Shared) (H : Hp) (A : Addr) (cl : List (Str × Addr)) (fp : List Addr), DTs C (X.blk s H scope (compEnvC scope cl A X.env) fp) ifs ft)
    (hk : ∀ (s : Shared) (H : Hp) (A : Addr) (cl : List (Str × Addr)) (fp : List Addr), DE C (X.blk s H scope (compEnvC scope cl A X.env) fp) W0 kx fk)
    (hv : ∀ (s : Shared) (H : Hp) (A : Addr) (cl : List (Str × Addr)) (fp : List Addr), DE C (X.blk s H scope (compEnvC scope cl A X.env) fp) W0 vx fv) (hs : ∀ x, foldedSetIterable iter X.env x = pure x := by intro _; rfl) :
    DE C X Wx (.DictComp kx vx [⟨tg, iter, ifs, 0⟩] scope pos) (xDcK ix c ft fk fv (own.map (·.2))) :=
  PE.imp (pe_dc (tt := tT C X.K W0 ft) (tk := tD C X.K W0 fk) (tv := tD C X.K W0 fv) (g := c.tg X.K) hc hN hi ok (fun s H A cl fp => CT.pg (hg s H A cl fp)) (fun s H A cl fp => ht s H A cl fp) (fun s H A cl fp => hk s H A cl fp) (fun s H A cl fp => hv s H A cl fp) hs) (tD_dcK hw)
end

abbrev tupD (k : List Key) : D := .tup (k.map keyD)

/-! {k: v for ..}, keys tuples -/
noncomputable def dcRunT (c : CT) (t : Tx) (fk fv : Ex) (vs : List Nat) (w : Wk) (e : Env) : List D → List D → List D → S → Out (List D × List D)
  | [], ka, va, s => if w.same s then .ok (ka, va) s else .stuck
  | d :: ds, ka, va, s => if w.same s then (match c.bind d (wipeE e vs) s with
    | some e1 => (t e1 s).bind fun b s1 => if b = true then (fk e1 s1).bind fun y s2 => (fv e1 s2).bind fun z s3 => (match kTD y with
        | some q => if ka.length < sizeLine then dcRunT c t fk fv vs w e ds (putTD ka va q z).1 (putTD ka va q z).2 s3 else .stuck
        | none => .stuck) else dcRunT c t fk fv vs w e ds ka va s1
    | none => .stuck) else .stuck
def OutT (o : Out (List D × List D)) : Out D := match o with
  | .ok p s => if p.1.isEmpty = true then .stuck else .ok (.dct p.1 p.2) s
  | _ => .stuck
noncomputable def xDcT (ix : Ix) (c : CT) (t : Tx) (fk fv : Ex) (vs : List Nat) : Ex := fun e s => (ix e s).bind fun w s => OutT (dcRunT c t fk fv vs w e w.items [] [] s)
section
variable {C : Cfg} {X : Cx} {Wx : WX} {ix : Ix} {c : CT} {ft : Tx} {fk fv : Ex} {vs : List Nat}
theorem tD_dcT {K : PySem.W.Frag} (hw : ∀ i ∈ c.slots, i ∈ vs) : ∀ σ H Q, tD C K Wx (xDcT ix c ft fk fv vs) σ H Q → tDcT (tI C K Wx ix) (c.tg K) (tT C K W0 ft) (tD C K W0 fk) (tD C K W0 fv) vs σ H Q := fun σ H Q h => by
  obtain ⟨W, env, s, e, q⟩ := h
  refine ⟨W, env, s, e, ?_⟩
  unfold xDcT at q
  cases hix : ix env s with
  | exc c vs s1 =>
    rw [hix] at q
    exact q
  | stuck =>
    rw [hix] at q
    exact q
  | ok w s1 =>
  rw [hix] at q
  intro W1 H1 J l1 e1 giv
  have giv := giv s1 e1.st
  intro d hD
  have nF : ¬ W1.F d := fun z => (e1.st.fz d z).1 hD
  have nA : d ∉ W1.al := fun z => e1.st.alh d z hD
  have ntd : ∀ xs, ntb (HO.dT xs) := fun _ _ z => nomatch z
  have q : Res C K (fun W H => RD C K W H) Wx σ env W H s (OutT (dcRunT c ft fk fv vs w env w.items [] [] s1)) Q := q
  let fin : List D × List D → S → Prop := fun p s3 => ∀ W' H' (kvs : List (List Key × V)), Le W1 H1 s1 W' H' s3 → StE C K W' H' σ env s3 → ¬ W'.F d → d ∉ W'.al → H1 d = none → H' d = some (HO.dT kvs) → p.1 = kvs.map (fun p : List Key × V => tupD p.1) → RDs C K W' H' p.2 (kvs.map (·.2)) → Q (.ref d) H'
  let Inv1 : Nat → Hp → Prop := fun i H' => ∃ (W2 : Wd) (s2 : S) (kvs : List (List Key × V)) (va : List D), Le W1 H1 s1 W2 H' s2 ∧ StE C K W2 H' σ env s2 ∧ ¬ W2.F d ∧ d ∉ W2.al ∧ H' d = some (HO.dT kvs) ∧ RDs C K W2 H' va (kvs.map (·.2)) ∧
      ∃ p s3, dcRunT c ft fk fv vs w env (w.items.drop i) (kvs.map fun p : List Key × V => tupD p.1) va s2 = .ok p s3 ∧ fin p s3
  have key : ∃ p s3, dcRunT c ft fk fv vs w env w.items [] [] s1 = .ok p s3 ∧ fin p s3 := by
    cases hr : dcRunT c ft fk fv vs w env w.items [] [] s1 with
    | ok p s3 =>
      rw [hr] at q
      refine ⟨p, s3, rfl, fun W' H' kvs l e2 n1 n2 hp hd hk r => ?_⟩
      have lf : Lf W' H' (W'.add d) H' := ⟨fun _ h => .inl h, fun _ _ h => h, fun _ _ h => h, fun _ _ _ h => h⟩
      have q : Res C K (fun W H => RD C K W H) Wx σ env W H s (if p.1.isEmpty = true then .stuck else .ok (.dct p.1 p.2) s3) Q := q
      by_cases hz : p.1.isEmpty = true
      · rw [if_pos hz] at q
        exact q.elim
      rw [if_neg hz] at q
      refine q.ok' ((l1.trans l).addF (l1.wasNone hp)) (e2.addF (by rw [hd]; exact fun z => nomatch z) (fun o z => by rw [hd] at z; cases z; exact ntd _) n2) ⟨d, kvs.map (·.2), rfl, .inr rfl, .inr ⟨kvs, hd, hk, rfl, by intro z; rw [z] at hk; exact hz (by rw [hk]; rfl)⟩, r.lf lf⟩
    | exc _ _ _ => rw [hr] at q; exact q.elim
    | stuck => rw [hr] at q; exact q.elim
  refine ⟨fun i m H' => m = w.items.length - i ∧ i ≤ w.items.length ∧ Inv1 i H', ⟨w.items.length, by omega, Nat.zero_le _, W1, s1, [], [], Le.fresh hD, e1.upd nF nA (.none hD), nF, nA, upd_same, rfl, key⟩, ?_⟩
  rintro i m H2 ⟨rfl, hi, W2, s2, kvs, va, l2, e2, nF2, nA2, hD2, r2, p, s3, hrun, hfin⟩
  have gv := giv W2 H2 s2 l2 e2.st
  have outF : ∀ {W5 : Wd} {H5 : Hp} {s5 : S}, Le W2 H2 s2 W5 H5 s5 → ¬ W5.F d ∧ d ∉ W5.al ∧ H5 d = some (HO.dT kvs) := fun {W5 H5 s5} l5 => by
    refine ⟨fun z => ?_, fun z => ?_, l5.ext d _ hD2 (ntd _) fun i hi => absurd (List.mem_of_getElem? hi) nA2⟩
    · rcases l5.nw d z with z | z | z
      · exact nF2 z
      · rw [hD2] at z
        cases z
      · exact nA2 z
    · rcases l5.old z with z | z
      · exact nA2 z
      · rw [hD2] at z
        cases z
  by_cases hlt : i < w.items.length
  · have hd : w.items.drop i = w.items[i] :: w.items.drop (i + 1) := List.drop_eq_getElem_cons hlt
    rw [hd] at hrun
    unfold dcRunT at hrun
    by_cases hs : w.same s2
    · rw [if_pos hs] at hrun
      obtain ⟨_, h2⟩ := gv hs i
      obtain ⟨go, yl⟩ := h2 _ (List.getElem?_eq_getElem hlt)
      refine .inr ⟨go, fun H' => i + 1 ≤ w.items.length ∧ Inv1 (i + 1) H', fun H' ⟨a, b⟩ => ⟨w.items.length - (i + 1), by omega, rfl, a, b⟩, fun x H3 y => ?_⟩
      obtain ⟨W3, l3, t3, r3⟩ := yl x H3 y
      have e3 := (e2.later l3 t3).wipe vs
      cases hb : c.bind w.items[i] (wipeE env vs) s2 with
      | none => rw [hb] at hrun; cases hrun
      | some e4 =>
        rw [hb] at hrun
        have hrun : ((ft e4 s2).bind fun b s1 => if b = true then (fk e4 s1).bind fun y s2 => (fv e4 s2).bind fun z s3 => (match kTD y with
          | some q => if (kvs.map fun p : List Key × V => tupD p.1).length < sizeLine then dcRunT c ft fk fv vs w env (w.items.drop (i + 1)) (putTD (kvs.map fun p : List Key × V => tupD p.1) va q z).1 (putTD (kvs.map fun p : List Key × V => tupD p.1) va q z).2 s3 else .stuck
          | none => .stuck) else dcRunT c ft fk fv vs w env (w.items.drop (i + 1)) (kvs.map fun p : List Key × V => tupD p.1) va s1) = .ok p s3 := hrun
        refine CT.take e3 r3 hb hw fun σ4 e4' hw4 => ⟨by rw [hw4, wipe_idem], W3, e4, s2, e4', ?_⟩
        cases hft : ft e4 s2 with
        | exc _ _ _ => rw [hft] at hrun; cases hrun
        | stuck => rw [hft] at hrun; cases hrun
        | ok b s4 =>
          rw [hft] at hrun
          intro W4 H4 b' l4 e5 hbb
          have hbb : b = b' := hbb
          subst hbb
          have l34 := l3.trans l4
          cases b with
          | false =>
            obtain ⟨o1, o2, o3⟩ := outF l34
            exact ⟨hlt, W4, s4, kvs, va, l2.trans l34, e2.later l34 e5.st, o1, o2, o3, r2.mono l34 e2.st, p, s3, hrun, hfin⟩
          | true =>
            have hrun : ((fk e4 s4).bind fun y s2 => (fv e4 s2).bind fun z s3 => (match kTD y with
              | some q => if (kvs.map fun p : List Key × V => tupD p.1).length < sizeLine then dcRunT c ft fk fv vs w env (w.items.drop (i + 1)) (putTD (kvs.map fun p : List Key × V => tupD p.1) va q z).1 (putTD (kvs.map fun p : List Key × V => tupD p.1) va q z).2 s3 else .stuck
              | none => .stuck)) = .ok p s3 := hrun
            refine ⟨W4, e4, s4, e5, ?_⟩
            cases hfk : fk e4 s4 with
            | exc _ _ _ => rw [hfk] at hrun; cases hrun
            | stuck => rw [hfk] at hrun; cases hrun
            | ok dy s5 =>
              rw [hfk] at hrun
              have hrun : ((fv e4 s5).bind fun z s3 => (match kTD dy with
                | some q => if (kvs.map fun p : List Key × V => tupD p.1).length < sizeLine then dcRunT c ft fk fv vs w env (w.items.drop (i + 1)) (putTD (kvs.map fun p : List Key × V => tupD p.1) va q z).1 (putTD (kvs.map fun p : List Key × V => tupD p.1) va q z).2 s3 else .stuck
                | none => .stuck)) = .ok p s3 := hrun
              intro W5 H5 y l5 e6 r5
              refine ⟨W5, e4, s5, e6, ?_⟩
              cases hfv : fv e4 s5 with
              | exc _ _ _ => rw [hfv] at hrun; cases hrun
              | stuck => rw [hfv] at hrun; cases hrun
              | ok dz s6 =>
                rw [hfv] at hrun
                have hrun : (match (generalizing := false) kTD dy with
                  | some q => if (kvs.map fun p : List Key × V => tupD p.1).length < sizeLine then dcRunT c ft fk fv vs w env (w.items.drop (i + 1)) (putTD (kvs.map fun p : List Key × V => tupD p.1) va q dz).1 (putTD (kvs.map fun p : List Key × V => tupD p.1) va q dz).2 s6 else .stuck
                  | none => .stuck) = .ok p s3 := hrun
                intro W6 H6 z l6 e7 r6
                cases hq : kTD dy with
                | none => rw [hq] at hrun; cases hrun
                | some qk =>
                  rw [hq] at hrun
                  have hrun : (if (kvs.map fun p : List Key × V => tupD p.1).length < sizeLine then dcRunT c ft fk fv vs w env (w.items.drop (i + 1)) (putTD (kvs.map fun p : List Key × V => tupD p.1) va qk dz).1 (putTD (kvs.map fun p : List Key × V => tupD p.1) va qk dz).2 s6 else .stuck) = .ok p s3 := hrun
                  by_cases hz : (kvs.map fun p : List Key × V => tupD p.1).length < sizeLine
                  · rw [if_pos hz] at hrun
                    have l36 := (l34.trans l5).trans l6
                    obtain ⟨o1, o2, o3⟩ := outF l36
                    obtain ⟨k1, k2⟩ := putTD_rd (q := qk) (kvs := kvs) r6 (r2.mono l36 e2.st)
                    rw [k1] at hrun
                    obtain ⟨b, ey, hb⟩ := kTD_rd (r5.mono l6 e6.st) hq
                    exact ⟨kvs, qk, b, ey, hb, o3, by rw [List.length_map] at hz; exact hz, hlt, W6, s6, putK kvs qk z, (putTD (kvs.map fun p : List Key × V => tupD p.1) va qk dz).2, (l2.trans l36).over hD, (e2.later l36 e7.st).upd o1 o2 (.of o3 plain_dT), o1, o2, upd_same, k2.lf (Lf.upd o1), p, s3, hrun, hfin⟩
                  · rw [if_neg hz] at hrun
                    cases hrun
    · rw [if_neg hs] at hrun
      cases hrun
  · have hi' : i = w.items.length := by omega
    subst hi'
    rw [List.drop_length] at hrun
    unfold dcRunT at hrun
    by_cases hs : w.same s2
    · rw [if_pos hs] at hrun
      cases hrun
      exact .inl ⟨(gv hs _).1 rfl, hfin W2 H2 kvs l2 e2 nF2 nA2 hD hD2 rfl r2⟩
    · rw [if_neg hs] at hrun
      cases hrun
theorem de_dcT {tg iter kx vx : Expr} {ifs : List Expr} {scope : Scope} {own : List (Str × Nat)} {pos : Pos} (hu : X.A.units + 1 < cLine) (hc : X.calm = true) (hN : X.N.Nodup) (hi : DI C X Wx tg iter ix) (ok : BlkOk X.N X.env.scope scope own) (hw : ∀ i ∈ c.slots, i ∈ own.map (·.2))
    (hg : ∀ (s : Shared) (H : Hp) (A : Addr) (cl : List (Str × Addr)) (fp : List Addr), c.ok (X.blk s H scope (compEnvC scope cl A X.env) fp) tg)
    (ht : ∀ (s : Shared) (H : Hp) (A : Addr) (cl : List (Str × Addr)) (fp : List Addr), DTs C (X.blk s H scope (compEnvC scope cl A X.env) fp) ifs ft)
    (hk : ∀ (s : Shared) (H : Hp) (A : Addr) (cl : List (Str × Addr)) (fp : List Addr), DE C (X.blk s H scope (compEnvC scope cl A X.env) fp) W0 kx fk)
    (hv : ∀ (s : Shared) (H : Hp) (A : Addr) (cl : List (Str × Addr)) (fp : List Addr), DE C (X.blk s H scope (compEnvC scope cl A X.env) fp) W0 vx fv) (hs : ∀ x, foldedSetIterable iter X.env x = pure x := by intro _; rfl) :
    DE C X Wx (.DictComp kx vx [⟨tg, iter, ifs, 0⟩] scope pos) (xDcT ix c ft fk fv (own.map (·.2))) :=
  PE.imp (pe_dcT (tt := tT C X.K W0 ft) (tk := tD C X.K W0 fk) (tv := tD C X.K W0 fv) (g := c.tg X.K) hu hc hN hi ok (fun s H A cl fp => CT.pg (hg s H A cl fp)) (fun s H A cl fp => ht s H A cl fp) (fun s H A cl fp => hk s H A cl fp) (fun s H A cl fp => hv s H A cl fp) hs) (tD_dcT hw)
end

end DV
end
section
set_option Elab.async false
set_option linter.all false
set_option maxRecDepth 100000
/-! DM: dict(pairs). -/
namespace DV
open PySem PySem.Spec PyProof.Rows L2

/-! ### dict(pairs), keys tuples -/
/-- pairs of a tuple key at an address and a value -/
abbrev QT := List Key × Addr × V
def QAt (H : Hp) (t : Addr) (q : QT) : Prop := H t = some (.tup [.ref q.2.1, q.2.2]) ∧ H q.2.1 = some (.tup (q.1.map kV))
abbrev PT3 := List Key × Addr × Value
def QRel (H : Hp) (q : QT) (r : PT3) : Prop := q.1 = r.1 ∧ q.2.1 = r.2.1 ∧ RelV q.2.2 r.2.2 ∧ H r.2.1 = some (.tup (r.1.map kV))
def kvT (qs : List QT) : List (List Key × V) := qs.foldl (fun acc q => putK acc q.1 q.2.2) []
theorem qt_of {X : Cx} {pins : List (Addr × Obj)} {σ : L2.St} {H : Hp} {s : Shared} (I : Inv X pins σ H s) : ∀ {ts : List Addr} {qs : List QT}, Paired (QAt H) ts qs → ∃ prs : List PT3, Paired (QRel H) qs prs ∧ prs.length = ts.length ∧
    ∀ (j : Nat) (r : PT3), prs[j]? = some r → ∃ b, ts[j]? = some b ∧ IsTup s.heap b #[.ref r.2.1, r.2.2]
  | _, _, .nil => ⟨[], .nil, rfl, fun j q e => by simp at e⟩
  | _, _, .cons (a := t) (b := q) h rest => by
    obtain ⟨prs, r, hl, hp⟩ := qt_of I rest
    obtain ⟨h1, h2⟩ := h
    obtain ⟨its, rv, ht, _⟩ := I.tuple (SqT.of h1)
    obtain ⟨u, y, ei, ru, ry⟩ := vals2 rv
    subst ei
    obtain rfl : u = Value.ref q.2.1 := ru
    refine ⟨(q.1, q.2.1, y) :: prs, .cons ⟨rfl, rfl, ry, h2⟩ r, by simp [hl], fun j w e => ?_⟩
    cases j with
    | zero =>
      cases e
      exact ⟨t, rfl, ht⟩
    | succ j => exact hp j w e
theorem kt_all {H : Hp} : ∀ {qs : List QT} {prs : List PT3} {acc : List (List Key × V)} {xs : List PT3}, Paired (QRel H) qs prs → KT H acc xs → KT H (qs.foldl (fun acc q => putK acc q.1 q.2.2) acc) (storedAllH xs prs)
  | _, _, acc, xs, .nil, h => h
  | _, _, acc, xs, .cons (a := q) (b := r) hq rest, h => by
    obtain ⟨h1, h2, h3, h4⟩ := hq
    exact kt_all (acc := putK acc q.1 q.2.2) (xs := storedH xs r.1 r.2.1 r.2.2) rest (by
      rw [← h1]
      exact h.put _ (by rw [h1]; exact h4) h3)
theorem len_fold : ∀ (qs : List QT) (acc : List (List Key × V)), (qs.foldl (fun acc q => putK acc q.1 q.2.2) acc).length ≤ acc.length + qs.length
  | [], acc => Nat.le_refl _
  | q :: qs, acc => by
    have h1 := len_fold qs (putK acc q.1 q.2.2)
    have h2 := length_putK acc q.1 q.2.2
    show (qs.foldl (fun acc q => putK acc q.1 q.2.2) (putK acc q.1 q.2.2)).length ≤ acc.length + (qs.length + 1)
    omega
def rDictT (K : PySem.W.Frag) : List V → Hp → VK → Prop := fun xs H Q => ∃ (a : Addr) (ts : List Addr) (qs : List QT), xs = [.ref a] ∧ SqL K H a (ts.map V.ref) ∧ Paired (QAt H) ts qs ∧ ∀ p, H p = none → Q (.ref p) (L2.upd H p (.dT (kvT qs)))
theorem cr_dictT {X : Cx} (hc : X.calm = true) (hu : X.A.units + 8 < cLine) : CallR X (.type "dict") (rDictT X.K) := fun pins s σ H xs us Q I r q => by
  obtain ⟨a, ts, qs, rfl, hq, hp, q⟩ := q
  obtain ⟨u, rfl, rx⟩ := vals1 r
  obtain rfl : u = Value.ref a := rx
  obtain ⟨its, rv, pl, hz⟩ := I.list hq
  have ei := refs_at rv
  subst ei
  rw [List.length_map] at hz
  obtain ⟨prs, rel, hl, hpr⟩ := qt_of I hp
  have lq : qs.length = prs.length := Paired.length rel
  have isk : ∀ x ∈ prs, (tupleKind (mixKind X.prog X.w)).is s.heap x.1 x.2.1 := by
    intro x hx
    obtain ⟨j, hj, ej⟩ := List.mem_iff_getElem.mp hx
    have : ∀ {qs : List QT} {ps : List PT3}, Paired (QRel H) qs ps → ∀ x ∈ ps, (tupleKind (mixKind X.prog X.w)).is s.heap x.1 x.2.1 := by
      intro qs ps h
      induction h with
      | nil => intro x hx; simp at hx
      | cons h t ih =>
        intro x hx
        rcases List.mem_cons.mp hx with e | hx
        · subst e
          exact key_of I.hok h.2.2.2
        · exact ih x hx
    exact this rel x hx
  let ps : List (Value × Value) := prs.map fun r => (Value.ref r.2.1, r.2.2)
  have lps : ps.length = prs.length := List.length_map _
  refine call_dict_pairsH (knd := tupleKind (mixKind X.prog X.w)) (wr := []) (ps := prs) (PairArg.list a (ts.map Value.ref).toArray (fun j => ts.getD j 0) ps) (I.ok.hd hc) (show X.A.units + 1 + 1 < cLine by omega) ⟨?_, ?_, ?_⟩ ⟨lps.symm, fun i key v hi => ?_⟩ (fun h' hk x hx => ?_) (by omega) fun h' tk hd hk => ?_
  · obtain ⟨o, n, h1, h2, h3, h4⟩ := pl
    exact ⟨o, n, h1, h2, h3, h4⟩
  · rw [lps, hl]
    simp
  · intro j k v hj
    have hj : (prs.map fun r => (Value.ref r.2.1, r.2.2))[j]? = some (k, v) := hj
    rw [List.getElem?_map] at hj
    cases hr : prs[j]? with
    | none => rw [hr] at hj; cases hj
    | some w =>
      rw [hr] at hj
      cases hj
      obtain ⟨b, hb, ht⟩ := hpr j w hr
      refine ⟨?_, .inl ?_⟩
      · simp [hb]
      · have e : ts.getD j 0 = b := by rw [List.getD_eq_getElem?_getD, hb]; rfl
        show s.heap.IsTuple (ts.getD j 0) _
        rw [e]
        obtain ⟨o, h1, h2, h3⟩ := ht
        exact ⟨o, h1, h2, h3⟩
  · have hi : (prs.map fun r => (Value.ref r.2.1, r.2.2))[i]? = some (key, v) := hi
    rw [List.getElem?_map] at hi
    cases hr : prs[i]? with
    | none => rw [hr] at hi; cases hi
    | some w =>
      rw [hr] at hi
      cases hi
      exact ⟨w.1, w.2.1, rfl, rfl⟩
  · obtain ⟨o, vs, n, h1, h2⟩ := isk x hx
    exact ⟨o, vs, n, hk _ _ (Nat.ne_of_lt (Heap.lt_size h1)) (by simp) h1, h2⟩
  · have hn : H s.heap.objs.size = none := I.hok.fresh (Nat.le_refl _)
    have kt : KT H (kvT qs) (storedAllH [] prs) := kt_all rel .nil
    obtain ⟨o, es, ep, g1, g2, g3, g4, _, g6⟩ := hd
    have len : (kvT qs).length ≤ sizeLine := by
      have := len_fold qs []
      have e : ts.length = prs.length := hl.symm
      simp only [List.length_nil] at this
      show (qs.foldl _ []).length ≤ sizeLine
      omega
    refine ⟨.ref s.heap.objs.size, _, I.laid (o := .dT (kvT qs)) (fun b o e => hk b o (by simp) e) (Nat.le_refl _) ⟨len, beq_eq_false_iff_ne.mpr (Nat.ne_of_gt I.big), _, kt.keeps fun c ys ec => ?_, o, es, ep, g1, g2, g3, g4, g6⟩, rfl, q _ hn⟩
    rw [upd_ne (ne_of_none ec hn)]
    exact ec

/-! ### over data -/
def pairsK : List D → Option (List (Key × D))
  | [] => some []
  | d :: ds => match d.strip, pairsK ds with
    | .tup [k, v], some r => (kD k).map fun q => (q, v) :: r
    | _, _ => none
def pairsT : List D → Option (List (List Key × D))
  | [] => some []
  | d :: ds => match d.strip, pairsT ds with
    | .tup [k, v], some r => (kTD k).map fun q => (q, v) :: r
    | _, _ => none
def foldK (ps : List (Key × D)) (ks vs : List D) : List D × List D := ps.foldl (fun acc p => putKD acc.1 acc.2 p.1 p.2) (ks, vs)
def foldT (ps : List (List Key × D)) (ks vs : List D) : List D × List D := ps.foldl (fun acc p => putTD acc.1 acc.2 p.1 p.2) (ks, vs)
def gDict (s : S) (d : D) : Option D := (lstD (view s d)).bind fun xs => match pairsK xs with
  | some ps => some (.dct (foldK ps [] []).1 (foldK ps [] []).2)
  | none => match pairsT xs with
    | some ps => if (foldT ps [] []).1.isEmpty = true then none else some (.dct (foldT ps [] []).1 (foldT ps [] []).2)
    | none => none
section
variable {C : Cfg} {K : PySem.W.Frag} {W : Wd} {H : Hp} {s : S}
theorem pairsK_rd : ∀ {xs : List D} {vs : List V} {ps : List (Key × D)}, RDs C K W H xs vs → pairsK xs = some ps → ∃ (as : List Addr) (kvs : List (Key × V)), vs = as.map V.ref ∧ Paired (fun p kv => SqT K H p [kV kv.1, kv.2]) as kvs ∧ kvs.map (·.1) = ps.map (·.1) ∧ RDs C K W H (ps.map (·.2)) (kvs.map (·.2))
  | [], vs, ps, r, h => by
    cases h
    have e : vs = [] := r
    subst e
    exact ⟨[], [], rfl, .nil, rfl, rfl⟩
  | d :: xs, vs, ps, r, h => by
    obtain ⟨v, rs, rfl, h1, h2⟩ := r
    unfold pairsK at h
    split at h
    · rename_i k w r' hd hr
      cases hk : kD k with
      | none => rw [hk] at h; cases h
      | some q =>
        rw [hk] at h
        cases h
        obtain ⟨as, kvs, rfl, p, e1, e2⟩ := pairsK_rd h2 hr
        have z := h1.strip
        rw [hd] at z
        obtain ⟨a, us, rfl, _, l, rr⟩ := z
        obtain ⟨x, y, rfl, r1, r2⟩ := rds2 rr
        refine ⟨a :: as, (q, y) :: kvs, rfl, .cons ?_ p, by simp [e1], ⟨y, _, rfl, r2, e2⟩⟩
        rw [← kD_rd r1 hk]
        exact SqT.of l
    · cases h
theorem pairsT_rd : ∀ {xs : List D} {vs : List V} {ps : List (List Key × D)}, RDs C K W H xs vs → pairsT xs = some ps → ∃ (as : List Addr) (qs : List QT), vs = as.map V.ref ∧ Paired (QAt H) as qs ∧ qs.map (·.1) = ps.map (·.1) ∧ RDs C K W H (ps.map (·.2)) (qs.map fun q => q.2.2)
  | [], vs, ps, r, h => by
    cases h
    have e : vs = [] := r
    subst e
    exact ⟨[], [], rfl, .nil, rfl, rfl⟩
  | d :: xs, vs, ps, r, h => by
    obtain ⟨v, rs, rfl, h1, h2⟩ := r
    unfold pairsT at h
    split at h
    · rename_i k w r' hd hr
      cases hk : kTD k with
      | none => rw [hk] at h; cases h
      | some q =>
        rw [hk] at h
        cases h
        obtain ⟨as, qs, rfl, p, e1, e2⟩ := pairsT_rd h2 hr
        have z := h1.strip
        rw [hd] at z
        obtain ⟨a, us, rfl, _, l, rr⟩ := z
        obtain ⟨x, y, rfl, r1, r2⟩ := rds2 rr
        obtain ⟨b, rfl, hb⟩ := kTD_rd r1 hk
        exact ⟨a :: as, (q, b, y) :: qs, rfl, .cons ⟨l, hb⟩ p, by simp [e1], ⟨y, _, rfl, r2, e2⟩⟩
    · cases h
theorem foldK_rd : ∀ {ps : List (Key × D)} {kvs acc : List (Key × V)} {va : List D}, kvs.map (·.1) = ps.map (·.1) → RDs C K W H (ps.map (·.2)) (kvs.map (·.2)) → RDs C K W H va (acc.map (·.2)) →
    (foldK ps (acc.map fun p => keyD p.1) va).1 = (mergeK acc kvs).map (fun p => keyD p.1) ∧ RDs C K W H (foldK ps (acc.map fun p => keyD p.1) va).2 ((mergeK acc kvs).map (·.2))
  | [], kvs, acc, va, h, r, ra => by
    have e : kvs = [] := by simpa using h
    subst e
    exact ⟨rfl, ra⟩
  | p :: ps, [], acc, va, h, r, ra => by simp at h
  | p :: ps, kv :: kvs, acc, va, h, r, ra => by
    obtain ⟨v, rs, e, r1, r2⟩ := r
    have e : kv.2 :: kvs.map (·.2) = v :: rs := e
    injection e with e1 e2
    have h : kv.1 :: kvs.map (·.1) = p.1 :: ps.map (·.1) := h
    injection h with h1 h2
    obtain ⟨z1, z2⟩ := putKD_rd (q := p.1) (kvs := acc) (v := kv.2) (by rw [e1]; exact r1) ra
    have ih := foldK_rd (ps := ps) (kvs := kvs) (acc := putK acc p.1 kv.2) (va := (putKD (acc.map fun p => keyD p.1) va p.1 p.2).2) h2 (by rw [e2]; exact r2) z2
    rw [← z1] at ih
    have em : mergeK acc (kv :: kvs) = mergeK (putK acc p.1 kv.2) kvs := by
      rw [← h1]
      rfl
    rw [em]
    exact ih
theorem foldT_rd : ∀ {ps : List (List Key × D)} {qs : List QT} {acc : List (List Key × V)} {va : List D}, qs.map (·.1) = ps.map (·.1) → RDs C K W H (ps.map (·.2)) (qs.map fun q => q.2.2) → RDs C K W H va (acc.map (·.2)) →
    (foldT ps (acc.map fun p => tupD p.1) va).1 = (qs.foldl (fun acc q => putK acc q.1 q.2.2) acc).map (fun p => tupD p.1) ∧ RDs C K W H (foldT ps (acc.map fun p => tupD p.1) va).2 ((qs.foldl (fun acc q => putK acc q.1 q.2.2) acc).map (·.2))
  | [], kvs, acc, va, h, r, ra => by
    have e : kvs = [] := by simpa using h
    subst e
    exact ⟨rfl, ra⟩
  | p :: ps, [], acc, va, h, r, ra => by simp at h
  | p :: ps, kv :: kvs, acc, va, h, r, ra => by
    obtain ⟨v, rs, e, r1, r2⟩ := r
    have e : kv.2.2 :: (kvs.map fun q => q.2.2) = v :: rs := e
    injection e with e1 e2
    have h : kv.1 :: kvs.map (·.1) = p.1 :: ps.map (·.1) := h
    injection h with h1 h2
    obtain ⟨z1, z2⟩ := putTD_rd (q := p.1) (kvs := acc) (v := kv.2.2) (by rw [e1]; exact r1) ra
    have ih := foldT_rd (ps := ps) (qs := kvs) (acc := putK acc p.1 kv.2.2) (va := (putTD (acc.map fun p => tupD p.1) va p.1 p.2).2) h2 (by rw [e2]; exact r2) z2
    rw [← z1] at ih
    have em : (kv :: kvs).foldl (fun acc q => putK acc q.1 q.2.2) acc = kvs.foldl (fun acc q => putK acc q.1 q.2.2) (putK acc p.1 kv.2.2) := by
      rw [← h1]
      rfl
    rw [em]
    exact ih
end
section
variable {C : Cfg} {X : Cx}
theorem c_dict (hc : X.calm = true) (hu : X.A.units + 8 < cLine) : CallR X (.type "dict") (rc C X.K (f1 gDict)) := CallR.r1 ((call_dictP hc).or (cr_dictT hc hu)) fun W s d z v H Q t r h q => by
  have sd := see_of t r
  unfold gDict at h
  cases hs : lstD (view s d) with
  | none => rw [hs] at h; cases h
  | some xs =>
    rw [hs] at h
    obtain ⟨a, vs, rfl, l, rs⟩ := lst_of sd hs
    have h : (match pairsK xs with
      | some ps => some (D.dct (foldK ps [] []).1 (foldK ps [] []).2)
      | none => match pairsT xs with
        | some ps => if (foldT ps [] []).1.isEmpty = true then none else some (D.dct (foldT ps [] []).1 (foldT ps [] []).2)
        | none => none) = some z := h
    split at h
    · rename_i ps hp
      cases h
      obtain ⟨as, kvs, rfl, pr, e1, e2⟩ := pairsK_rd rs hp
      refine .inl ⟨a, as, kvs, rfl, l, pr, fun p hp => ?_⟩
      have lw : Le W H s (W.add p) (L2.upd H p (.dK (mergeK [] kvs))) s := Le.laid t hp
      have t2 := t.laid hp (o := .dK (mergeK [] kvs)) (fun _ z => nomatch z)
      obtain ⟨k1, k2⟩ := foldK_rd (C := C) (K := X.K) (W := W) (H := H) (acc := []) (va := []) e1 e2 rfl
      exact q _ _ _ lw t2 ⟨p, _, rfl, .inr rfl, .inl ⟨mergeK [] kvs, upd_same, k1, rfl⟩, RDs.mono lw t _ _ k2⟩
    · split at h
      · rename_i ps hp
        by_cases hz : (foldT ps [] []).1.isEmpty = true
        · rw [if_pos hz] at h
          cases h
        rw [if_neg hz] at h
        cases h
        obtain ⟨as, qs, rfl, pr, e1, e2⟩ := pairsT_rd rs hp
        refine .inr ⟨a, as, qs, rfl, l, pr, fun p hp => ?_⟩
        have lw : Le W H s (W.add p) (L2.upd H p (.dT (kvT qs))) s := Le.laid t hp
        have t2 := t.laid hp (o := .dT (kvT qs)) (fun _ z => nomatch z)
        obtain ⟨k1, k2⟩ := foldT_rd (C := C) (K := X.K) (W := W) (H := H) (acc := []) (va := []) e1 e2 rfl
        exact q _ _ _ lw t2 ⟨p, _, rfl, .inr rfl, .inr ⟨kvT qs, upd_same, k1, rfl, by intro z; refine hz ?_; have k1' : (foldT ps [] []).1 = (kvT qs).map fun p => tupD p.1 := k1; rw [k1', z]; rfl⟩, RDs.mono lw t _ _ k2⟩
      · cases h
end
end DV
end
section
set_option Elab.async false
set_option linter.all false
set_option maxRecDepth 100000
set_option maxHeartbeats 2000000
/-! DN: the module's own errors: an __init__ that says super().__init__('..') and keeps what it got. -/
namespace DV
open PySem PySem.Spec PyProof.Rows L2 PySem.W

/-- what the written part says of such an __init__ of the class at C -/
structure SupI (P : Program) (K : PySem.W.Frag) (C f cc cda : Addr) (fd : FuncData) : Prop where
  fn : ∃ (oc : Value) (od : Option Addr) (osl : Array (Option Value)), K.lookup f = some ⟨oc, od, .func fd, osl⟩
  code : ∃ (oc : Value) (od : Option Addr) (sl : Array (Option Value)) (vs : Array Value) (file : Str) (t : Tok), K.lookup cda = some ⟨oc, od, .fields vs, sl⟩ ∧ vs[2]? = some (.str file t) ∧ ((P.main.file : Str) == file) = true
  cell : ∃ (oc : Value) (od : Option Addr) (sl : Array (Option Value)), K.lookup cc = some ⟨oc, od, .cell (some (.ref C)), sl⟩
  cls : ∃ cd, clsIn K C = some cd
  self : mroIn K C (.ref C) = some true
  sup : ks_superIn K C C "__init__" = some (some (.builtin "ValueError.__init__"))
  isV : subIn K (.ref C) (.type "ValueError") = some true
  opq : nsIn K cStatics "thirdparty.any" = some none
  top : (P.main.scope.names.lookup ("super" : Str)).isSome = false
  exc : OexC K C
/-- the object that the call of super makes, and the bound __init__ -/
abbrev supO (C a : Addr) : Obj := { cls := .type "super", dict := none, data := .fields #[.ref C, .ref a, .ref C], slots := #[] }
section
variable {X : Cx} {pins : List (Addr × Obj)} {σ : L2.St} {H : Hp} {s : Shared}
/-- the bound __init__ called: only the exception's args change -/
theorem call_mw {a C u : Addr} {rest : List Value} {A : Around} {Er : Value → Shared → Prop} {Q : Value → Shared → Prop} (T : OexC X.K C) (I : Inv X pins σ H s) (e : H a = some (exo a C none)) (hu : s.heap.get? u = some (kxs_mw "ValueError.__init__" a)) (hl : rest.length ≤ sizeLine)
    (go : ∀ s', Inv X pins σ H s' → Q .none s') : wpAny (model X.prog X.w) A (call (.ref u) rest) Q Er s := by
  obtain ⟨nm, q, N, bs, bm, sn, sub, ab, col, dd, k0, k1, k2, k3, k5, hC, hbm⟩ := T.cls
  obtain ⟨t1, ho⟩ := exo_at I.hok e
  obtain ⟨hp, g, d, t, os⟩ := s
  have fb := F.excBase_ValueError
  refine wpAny_call (codeAny_of_tree ?_)
  show wpAny _ A.in1 (callAny (.ref u) ⟨rest, []⟩) _ _ _
  simp only [callAny]
  refine wpAny_bind (wpAny_load hu ?_)
  simp only [kxs_mw, show (Value.type "method-wrapper" == Value.type "method" || Value.type "method-wrapper" == Value.type "builtin_function_or_method" || Value.type "method-wrapper" == Value.type "method-wrapper") = true by decide, if_true]
  refine KFB.if_so (by decide) ?_
  refine wpAny_bind (check_bound_init fb.toExcCallFacts (I.kIn _ _ hC) ho rfl ?_)
  refine wpAny_bind (wpAny_pure (wpAny_pure ⟨plainId_quiet fb.init.plain _, codeAny_builtin fb.initEntry ?_⟩))
  refine exc_init_tree (cls := .ref C) (t0 := t1) (dv := none) (c2 := .none) (c3 := .none) (b4 := .bool false) ho hl fun h' k hx _ => ?_
  have J := I.write (t' := t) (x := a) (e := a) (o := exo a C none) (by rw [e]; exact trivial) (.inl rfl) k ⟨_, hx⟩ (exo_ok hx)
  have same : L2.upd H a (exo a C none) = H := by
    funext b
    by_cases hb : b = a
    · rw [hb, upd_same, e]
    · rw [upd_ne hb]
  rw [same] at J
  exact go _ J
/-- super().__init__('..') -/
theorem super_step {body : List Stmt} {a C f cc cda : Addr} {fd : FuncData} {ar : Arg} {m : Str} {j : Nat} {p0 p1 ap p3 p4 p5 : Pos} {Er : Value → Shared → Prop} {Q : Flow → Shared → Prop} (S : SupI X.prog X.K C f cc cda fd) (I : Inv X pins σ H s) (e : H a = some (exo a C none))
    (hks : X.env.kindOf "super" = some .globalImplicit) (hkc : X.env.kindOf "__class__" = some .free) (hka : X.env.kindOf ar.arg = some .local) (hfu : X.env.func = some f) (hco : X.env.code = .ref cda) (hcl : X.env.cells.lookup ("__class__" : Str) = some cc)
    (hp : (fd.params.posonlyargs ++ fd.params.args).head? = some ar) (hN : X.N[0]? = some ar.arg) (h0 : σ[0]? = some (some (.ref a))) (hsup : X.mg "super" = none) (hi : interactive X.env = false) {pl : Sem Bool}
    (he : eval (.Call (.Attribute (.Call (.Name "super" p0) [] [] p1) "__init__" ap) [.Constant (.str m) j p3] [] p4) X.env = (do
      let ov ← attributeBase (.Call (.Name "super" p0) [] [] p1) "__init__" X.env (eval (.Call (.Name "super" p0) [] [] p1) X.env)
      standAt ap.atName
      let (f, first) ← holding [ov] (getMethod ov "__init__" pl)
      callWith p4 f first (backTo p4 (starEach [.Constant (.str m) j p3] X.env)) []))
    (go : ∀ s', Inv X pins σ H s' → Q .next s') :
    _root_.PySem.wpAt (model X.prog X.w) X.A (.func body X.env) (exec (.Expr (.Call (.Attribute (.Call (.Name "super" p0) [] [] p1) "__init__" ap) [.Constant (.str m) j p3] [] p4) p5) X.env) Q Er s := by
  obtain ⟨oc, od, osl, lf⟩ := S.fn
  obtain ⟨ccl, cdd, csl, vs, file, tf, lc, hvs, hfile⟩ := S.code
  obtain ⟨xcl, xcd, xsl, lx⟩ := S.cell
  obtain ⟨cd, hcd⟩ := S.cls
  have KX := I.kIn
  obtain ⟨oD, hD1, hD2⟩ : ∃ oD, s.heap.get? C = some oD ∧ oD.data = .cls cd := by
    have hcd2 := hcd
    unfold clsIn at hcd2
    split at hcd2
    · rename_i ho
      cases hcd2
      exact ⟨_, KX _ _ ho, rfl⟩
    · cases hcd2
  obtain ⟨t1, ho⟩ := exo_at I.hok e
  refine ks_wpAt_Expr_any ?h hi ?hs
  case hs => rfl
  refine ks_wpAt_MethodCall (pl := pl) ?_ he
  refine ks_wpAt_super_base hks hkc (by decide) hfu (KX _ _ lf) rfl hp hco (KX _ _ lc) rfl hvs hfile S.top ?_
  obtain ⟨mb, b1, b2⟩ := I.mod.blt
  refine ks_loadName_global I.ok.kind hks (Calls.loadGlobal_builtin (by rw [I.ok.glob]; exact I.mod.glob.keeps I.bk) hsup (by rw [I.ok.blt]; exact b1.keeps I.bk) ((b2 "super" (by decide)).trans (show bootBuiltins "super" = some (.type "super") by decide +kernel)) ⟨rfl, ?_⟩)
  refine wpAny_loadName_free I.ok.kind hkc hcl ⟨_, KX _ _ lx, rfl⟩ ?_
  obtain ⟨mm, hn, hloc⟩ := I.loc
  obtain ⟨u, ru, lk⟩ := hloc 0 ar.arg (.ref a) hN h0 (.inl hka)
  have hu : mm ar.arg = some (.ref a) := by
    rcases lk with ⟨_, z⟩ | ⟨z, _⟩
    · rw [z, show u = Value.ref a from ru]
    · have z : X.env.kindOf ar.arg = some .cell ∨ X.env.kindOf ar.arg = some .free := z
      rw [hka] at z
      rcases z with z | z <;> cases z
  refine wpAny_loadName_local I.ok.kind hka hn hu ?_
  obtain ⟨hp0, g, d, t, os⟩ := s
  refine ks_wpAny_isType_cls hD1 hD2 ⟨rfl, ?_⟩
  refine ks_wpAny_call_super hD1 hD2 ho rfl (fun c z => by cases z) (looks_mroIn KX S.self) fun h1 hs1 k1 => ?_
  have I1 : Inv X pins σ H ⟨h1, g, d, t, os⟩ := I.kept (t' := t) k1
  have ho1 := k1 _ _ ho
  have IA : InstAt h1 a { cls := .ref C, dict := none, data := .fields #[.ref t1, .none, .none, .none, .bool false, .none] } C none := ⟨ho1, rfl, rfl, trivial⟩
  have neC : a ≠ C := fun z => by
    rw [z] at ho
    rw [ho] at hD1
    cases hD1
    cases hD2
  have supf := S.sup
  unfold ks_superIn at supf
  rw [hcd] at supf
  refine kxs_getMethod kxs_ValueError hs1 (looks_opaque (I1.kIn) S.opq) (l₀ := cd.mro) (fun A Q E s k q => wpAny_bind ((looks_clsIn I1.kIn hcd) A _ E s k (wpAny_pure q))) rfl I1.kIn supf (IA.type.andThen (looks_subIn I1.kIn S.isV)) neC (by decide) ?_
  have I2 : Inv X pins σ H ⟨h1.push (kxs_mw "ValueError.__init__" a), g, d, t + 1, os⟩ := I1.kept fun b o z => Heap.get?_push_of_some _ z
  have hw : (h1.push (kxs_mw "ValueError.__init__" a)).get? h1.objs.size = some (kxs_mw "ValueError.__init__" a) := Heap.get?_push_size _ rfl
  have fresh : H h1.objs.size = none := I1.hok.fresh (Nat.le_refl _)
  refine kxs_callWith (i := "ValueError.__init__") (x := a) (by rfl) (Calls.evalArgs_plain ?_)
  refine Calls.spliced_cons (Calls.Constant_str (k := j) (pos := p3) ?_)
  refine Calls.spliced_nil ⟨hw, ?_⟩
  have I3 : Inv X pins σ H ⟨h1.push (kxs_mw "ValueError.__init__" a), g, d, t + 1 + 1, os⟩ := I2.tok _
  exact call_mw S.exc I3 e hw (by rw [sizeLine_eq]; simp) fun s' J => go s' J
end

/-- the promise of an __init__ that keeps one argument: self.f = y -/
def spI (C : Addr) (f : Str) : Sp := fun vs H Q _ => ∃ a y, vs = [.ref a, y] ∧ H a = some (exo a C none) ∧ ∀ dx, H dx = none → dx ≠ a → Q .non (L2.upd (L2.upd H dx (exd dx [(f, y)])) a (exo a C (some dx)))
/-- the words of such an __init__ -/
def initBody (m f p : Str) (j : Nat) (sf : Str) (q : Nat → Pos) : List Stmt :=
  [.Expr (.Call (.Attribute (.Call (.Name "super" (q 0)) [] [] (q 1)) "__init__" (q 2)) [.Constant (.str m) j (q 3)] [] (q 4)) (q 5), .Assign [.Attribute (.Name sf (q 6)) f (q 7)] (.Name p (q 8)) (q 9)]
section
variable {P : Program} {w : World} {K : PySem.W.Frag} {mg : Str → Option Value} {base : Heap}
open NdefX in
theorem fn_init {k : Nat} {C f cc cda : Addr} {name qual m fld p sf : Str} {params : Arguments} {scope : Scope} {dV kV doc pm ct : Value} {an : Option Addr} {j : Nat} {q : Nat → Pos} {r0 r1 : Arg} {pl : Sem Bool}
    (S : SupI P K C f cc cda (fnX name qual params (initBody m fld p j sf q) scope [("__class__", cc)] dV kV doc pm an (.ref cda) ct)) (hcd : codeIn K (.ref cda) qual = true) (hno : findIn K (.ref C) fld = some none)
    (NS : NScope [sf, p, "__class__"] [sf, p] ["__class__"] scope) (hks : scope.names.lookup ("super" : Str) = some .globalImplicit) (hsup : mg "super" = none) (hp : (params.posonlyargs ++ params.args).head? = some r0) (h0 : r0.arg = sf)
    (he : ∀ (L : Addr), eval (.Call (.Attribute (.Call (.Name "super" (q 0)) [] [] (q 1)) "__init__" (q 2)) [.Constant (.str m) j (q 3)] [] (q 4)) (envX qual scope L f (.ref cda) [("__class__", cc)]) = (do
      let ov ← attributeBase (.Call (.Name "super" (q 0)) [] [] (q 1)) "__init__" (envX qual scope L f (.ref cda) [("__class__", cc)]) (eval (.Call (.Name "super" (q 0)) [] [] (q 1)) (envX qual scope L f (.ref cda) [("__class__", cc)]))
      standAt (q 2).atName
      let (g0, first) ← holding [ov] (getMethod ov "__init__" pl)
      callWith (q 4) g0 first (backTo (q 4) (starEach [.Constant (.str m) j (q 3)] (envX qual scope L f (.ref cda) [("__class__", cc)]))) []))
    (dsf : (sf == ("__debug__" : Str)) = false := by decide) (csf : (sf == ("__classdict__" : Str)) = false := by decide) (dp : (p == ("__debug__" : Str)) = false := by decide) (cp : (p == ("__classdict__" : Str)) = false := by decide) :
    FnOk P w K mg base (L2.CX P w) (k + 1) f (fnX name qual params (initBody m fld p j sf q) scope [("__class__", cc)] dV kV doc pm an (.ref cda) ct) [sf, p] (spI C fld) := by
  refine ⟨fun vs H Q E ⟨a, y, e, _⟩ => by rw [e]; rfl, fun A outer s H args us vs Q E hr e0 hb r hsp => ?_⟩
  obtain ⟨a, y, rfl, ea, hq⟩ := hsp
  have KX : K.In s.heap := e0.mod.kin.keeps fun b o e => (e0.bs b o e).1
  have lim : s.heap.NoLimit := e0.mod.nolimit.keeps fun b o e => (e0.bs b o e).1
  obtain ⟨oc, od, osl, lf⟩ := S.fn
  obtain ⟨xcl, xcd, xsl, lx⟩ := S.cell
  let F : NF := ⟨name, qual, params, initBody m fld p j sf q, scope, [("__class__", cc)], cda⟩
  have cells : CellsAt F.cl ["__class__"] [none] s.heap H := by
    have look : ∀ {z : Str} {c : Addr}, ([(("__class__" : Str), cc)] : List (Str × Addr)).lookup z = some c → z = "__class__" ∧ c = cc := fun {z c} h => by
      have := PySem.mem_of_lookup h
      simp at this
      exact this
    obtain ⟨hb1, hb2⟩ := e0.bs cc _ (e0.mod.kin _ _ lx)
    refine ⟨rfl, fun z c h => ?_, fun x z c h1 h2 => by rw [(look h1).1, (look h2).1], fun i z h => ?_⟩
    · obtain ⟨_, rfl⟩ := look h
      exact ⟨hb2, _, _, hb1, rfl⟩
    · cases i with
      | zero =>
        cases h
        exact ⟨cc, rfl, fun v h => by cases h⟩
      | succ i => cases i <;> cases h
  refine codeAny_call_function hr.depth (KX _ _ lf) rfl NS.co NS.gen rfl (codeRec_of KX hcd) (hb _ _ _ _ ?_)
  refine wpAny_newFunctionEnv NS.nocell (fun ⟨n, _⟩ hy => NS.par n (List.of_mem_zip hy).1) (fun h₁ hns hsb => ⟨lim.fresh _ hsb, ?_⟩) NS.kind
  show codeAny _ _ (.func (initBody m fld p j sf q) (envF F f s.heap.objs.size)) _ _
  refine ks_codeAny_funcAt ?_
  have kp : ∀ b o, s.heap.get? b = some o → h₁.get? b = some o := fun b o e => hsb.extBut b o (Nat.ne_of_lt (Heap.lt_size e)) (Heap.get?_push_of_some _ e)
  have I : Inv (ncx (L2.CX P w) P w K mg base [sf, p, "__class__"] F f A outer s H E) [] (startF [sf, p, "__class__"] [.ref a, y] [none]) H { s with heap := h₁, toks := s.toks + ([sf, p].zip us).length } := inv_startN NS hr.hd e0 rfl r cells hns kp
  have kself : scope.names.lookup sf = some .local := NS.par sf (by simp)
  have kp2 : scope.names.lookup p = some .local := NS.par p (by simp)
  have kcls : scope.names.lookup ("__class__" : Str) = some .free := NS.frk _ (by simp)
  have hint : interactive (ncx (L2.CX P w) P w K mg base [sf, p, "__class__"] F f A outer s H E).env = false := by
    show (scope.kind == .module && _) = false
    rw [NS.kind]
    rfl
  refine ks_wpAt_mono (Q := fun fl s' => SP (ncx (L2.CX P w) P w K mg base [sf, p, "__class__"] F f A outer s H E) [] { nx := fun _ H' => Q .non H', rt := Q } fl s') (ks_wpAt_execs_cons (super_step (X := ncx (L2.CX P w) P w K mg base [sf, p, "__class__"] F f A outer s H E) S I ea hks kcls (by rw [h0]; exact kself) rfl rfl rfl hp (by rw [h0]; rfl) rfl hsup hint (he _) fun s' J => wpAt_of_wpAny ?_)) (fun fl s' hs => ?_) fun e s' hs => hs
  · have p1 : PE (ncx (L2.CX P w) P w K mg base [sf, p, "__class__"] F f A outer s H E) (.Name sf (q 6)) (tVar 0) := pe_var rfl (.inl kself) dsf csf
    have p2 : PE (ncx (L2.CX P w) P w K mg base [sf, p, "__class__"] F f A outer s H E) (.Name p (q 8)) (tVar 1) := pe_var rfl (.inl kp2) dp cp
    refine (pss_one (ps_ost p1 p2)).run [] s' _ H _ J ?_
    exact ⟨y, rfl, .ref a, rfl, a, C, rfl, S.exc, hno, .inl ⟨ea, fun dx h1 h2 => hq dx h1 h2⟩⟩
  · have fin : ∀ {σ' : L2.St} {H' : Hp} {v : V} {u : Value}, Inv (ncx (L2.CX P w) P w K mg base [sf, p, "__class__"] F f A outer s H E) [] σ' H' s' → L2.RelV v u → Q v H' → CE outer P w H s Q u s' :=
      fun {σ' H' v u} J rv q => ⟨v, H', J.os, J.bare, J.base, J.hok, rv, q⟩
    cases fl with
    | ret u =>
      obtain ⟨v, σ', H', J, rv, q⟩ := hs
      exact fin J rv q
    | next =>
      obtain ⟨σ', H', J, q⟩ := hs
      exact fin (v := V.non) (u := Value.none) J rfl q
    | brk =>
      obtain ⟨_, _, _, q⟩ := hs
      exact False.elim q
    | cont =>
      obtain ⟨_, _, _, q⟩ := hs
      exact False.elim q
end

/-! ### raise C(e) -/
def sRaise (c : Nat) (a : Ex) : Sx := fun e s => (a e s).fl e fun d s => .exc c [d] e s
section
variable {C : Cfg} {X : Cx} {Wx : WX} {e : Expr} {fe : Ex} {pos pos' p : Pos} {x : Str} {k c : Nat} {fI : Addr} {fd : FuncData} {ps : List Str} {fld : Str}
theorem ds_raise (hc : X.calm = true) (tk : Takes X Wx) (T : OexC X.K (C.ca c)) (iC : PySem.W.findIn X.K (.ref (C.ca c)) "__init__" = some (some (.ref fI))) (tI : PySem.W.typeIn X.K (.ref fI) = some (.type "function")) (hcf : C.cf c = [fld])
    (F1 : FnOk X.prog X.w X.K X.mg X.base (L2.CX X.prog X.w) k fI fd ps (spI (C.ca c) fld)) (hr : Room (k + 1) X.A) (hb : Binds X.K fd ps []) (hg : Gl X x) (hm : X.mg x = some (.ref (C.ca c))) (ha : DE C X Wx e fe)
    (hdb : (x == ("__debug__" : Str)) = false := by decide) (he : starEach [e] X.env = (false, eval e X.env) :: starEach [] X.env := by rfl) (hpl : (backTo pos (starEach [] X.env)).any (·.1) = false := by rfl) :
    DS C X Wx (.Raise (some (.Call (.Name x p) [e] [] pos)) none pos') (sRaise c fe) :=
  PS.imp (ps_raise hc tk (pmk_oex (dvs := []) T iC tI F1 hr hb .nil (passes_call (W := fun _ _ _ _ => False) takes_none5 fun _ _ _ _ h => h) hg hm (pa_cons ha pa_nil he) hdb he hpl)) fun En σ H h => by
    obtain ⟨W, env, s, e, q⟩ := h
    refine ⟨W, env, s, e, Res.fl q fun W1 H1 s1 d y l1 e1 r1 q1 => ?_⟩
    refine ⟨by simp, fun a ha => ⟨a, y, rfl, upd_same, fun dx h1 h2 => ⟨rfl, dx, [(fld, y)], upd_same, ?_, ?_, ?_⟩⟩⟩
    · rw [upd_ne h2, upd_same]
    · rw [upd_ne h2] at h1
      exact h1
    · rw [upd_ne h2] at h1
      have eH : L2.upd (del (L2.upd (L2.upd (L2.upd H1 a (exo a (C.ca c) none)) dx (exd dx [(fld, y)])) a (exo a (C.ca c) (some dx))) a) dx (.xd [(fld, y)]) = L2.upd H1 dx (.xd [(fld, y)]) := by
        funext b
        by_cases hb : b = dx
        · rw [hb, upd_same, upd_same]
        · rw [upd_ne hb, upd_ne hb]
          by_cases hb2 : b = a
          · rw [hb2, del_same, ha]
          · rw [del_ne hb2, upd_ne hb2, upd_ne hb, upd_ne hb2]
      rw [eH]
      have l2 : Le W1 H1 s1 (W1.add dx) (L2.upd H1 dx (.xd [(fld, y)])) s1 := Le.laid e1.st h1
      have t2 := e1.st.laid h1 (o := .xd [(fld, y)]) (fun _ z => nomatch z)
      refine q1 (W1.add dx) σ _ dx [y] l2 (e1.later l2 t2) (.inr rfl) ?_ (by rw [hcf]; rfl) ⟨y, [], rfl, r1.mono l2 e1.st, rfl⟩
      rw [upd_same, hcf]
      rfl
end
end DV
end
section
set_option Elab.async false
set_option linter.all false
set_option maxRecDepth 100000
/-! DY: calls by names; instances: made, their fields, their methods. -/
namespace DV
open PySem PySem.Spec PyProof.Rows L2

/-- what is wanted of an exception does not look at the frame -/
def Flat (Wx : WX) : Prop := ∀ c d σ σ' H, Wx c d σ H → Wx c d σ' H
theorem flat0 : Flat W0 := fun _ _ _ _ _ h => h
theorem flatE {E : XK} : Flat (fun c d _ H => E c d H) := fun _ _ _ _ _ h => h
theorem passF {X : Cx} {Wx : WX} (tk : Takes X Wx) (fl : Flat Wx) (σ : L2.St) : Passes (L2.CX X.prog X.w) X (WE Wx σ) := passes_call tk fun c d σ' H h => fl c d σ σ' H h

/-! ### arguments by name -/
def kwG (perm : List Nat) {α : Type} (us ws : List α) : List α := perm.filterMap fun i => (us ++ ws)[i]?
theorem kwG_rel {perm : List Nat} {vs : List V} {us : List Value} {zs : List V} {ws : List Value} (r : Vals vs us) (rz : Vals zs ws) : Vals (kwG perm vs zs) (kwG perm us ws) := by
  have ra : Vals (vs ++ zs) (us ++ ws) := Vals.append r rz
  unfold kwG
  induction perm with
  | nil => exact .nil
  | cons i perm ih =>
    rw [List.filterMap_cons, List.filterMap_cons]
    cases h : (vs ++ zs)[i]? with
    | some v =>
      obtain ⟨u, hu, ru⟩ := ra.get h
      rw [hu]
      exact .cons ru ih
    | none =>
      have hl := Paired.length ra
      have : (us ++ ws)[i]? = none := by
        rw [List.getElem?_eq_none_iff] at h ⊢
        omega
      rw [this]
      exact ih
theorem kwG_rds {C : Cfg} {K : PySem.W.Frag} {W : Wd} {H : Hp} {perm : List Nat} {ds es : List D} {vs zs : List V} (r : RDs C K W H ds vs) (rz : RDs C K W H es zs) : RDs C K W H (kwG perm ds es) (kwG perm vs zs) := by
  have ra := r.append rz
  unfold kwG
  induction perm with
  | nil => rfl
  | cons i perm ih =>
    rw [List.filterMap_cons, List.filterMap_cons]
    cases h : (ds ++ es)[i]? with
    | some d =>
      obtain ⟨v, hv, rv⟩ := ra.get h
      rw [hv]
      exact ⟨v, _, rfl, rv, ih⟩
    | none =>
      have hl := ra.length
      have : (vs ++ zs)[i]? = none := by
        rw [List.getElem?_eq_none_iff] at h ⊢
        omega
      rw [this]
      exact ih
theorem kbn_of {K : PySem.W.Frag} {x qual : Str} {st : Stmt} {f : Addr} {fd : FuncData} {ps ks : List Str} {n : Nat} {perm : List Nat} (F : Fun K x qual st f fd)
    (h : ∀ (kV doc pm : Value) (an : Option Addr) (cdv ct : Value) (us ws : List Value), us.length = n → ws.length = ks.length → bindArgs (PySem.W.fnOf x qual (defArgs st) (defBody st) (defScope st) .none kV doc pm an cdv ct) ⟨us, ks.zip ws⟩ = pure (ps.zip (kwG perm us ws))) :
    KBn K fd ps n ks (kwG perm) (kwG perm) := by
  obtain ⟨oc, od, kV, doc, pm, an, cdv, ct, osl, rfl, lk, hcd⟩ := F.ex
  exact ⟨fun s us ws _ l1 l2 => BindsTo.of_eq (h kV doc pm an cdv ct us ws l1 l2), kwG_rel⟩
theorem PK.imp {X : Cx} {e : List Keyword} {t t' : TA} (h : PK X e t) (f : ∀ σ H Q, t' σ H Q → t σ H Q) : PK X e t' := ⟨fun pos pins s σ H Q I q => h.run pos pins s σ H Q I (f _ _ _ q)⟩
def DKw (C : Cfg) (X : Cx) (Wx : WX) (es : List Keyword) (f : Ax) : Prop := PK X es (tAx C X.K Wx f)
def xCallK (n m : Nat) (perm : List Nat) (g : S → List D → Out D) (a k : Ax) : Ex := fun e s => (a e s).bind fun xs s => (k e s).bind fun zs s => if xs.length = n ∧ zs.length = m then g s (kwG perm xs zs) else .stuck
section
variable {C : Cfg} {X : Cx} {Wx : WX} {e : Expr} {es : List Expr} {kws : List Keyword} {fe : Ex} {fa fk : Ax} {pos p kpos : Pos} {x : Str} {k n : Nat} {f : Addr} {fd : FuncData} {ps ks : List Str} {F : S → List D → Out D} {perm : List Nat} {nm : Option Str}
theorem dk_nil : DKw C X Wx [] aNil := PK.imp pk_nil fun σ H Q h => by
  obtain ⟨W, env, s, e, q⟩ := h
  exact Res.here (b := ([] : List V)) q e rfl
theorem dk_cons (ha : DE C X Wx e fe) (hr : DKw C X Wx kws fk) : DKw C X Wx (⟨nm, e, kpos⟩ :: kws) (aCons fe fk) := PK.imp (pk_cons ha hr) fun σ H Q h => by
  obtain ⟨W, env, s, e, q⟩ := h
  refine ⟨W, env, s, e, Res.step q fun W1 H1 s1 d x l1 e1 h1 q1 => ⟨W1, env, s1, e1, Res.step q1 fun W2 H2 s2 ds xs l2 e2 h2 q2 => ?_⟩⟩
  exact Res.here (b := x :: xs) q2 e2 ⟨x, xs, rfl, h1.mono l2 e1.st, h2⟩
/-- a def's reading of data, where the exception's wish is Wx's -/
theorem sp_of {K : PySem.W.Frag} {σ : L2.St} {env : Env} {W : Wd} {H : Hp} {s : S} {ds : List D} {vs : List V} {Q : VK} (e : StE C K W H σ env s) (r : RDs C K W H ds vs) (q : Res C K (fun W H => RD C K W H) Wx σ env W H s (F s ds) Q) : spD C K F vs H Q (WE Wx σ) := by
  refine ⟨W, s, ds, e.st, r, ?_⟩
  revert q
  cases F s ds with
  | ok d s2 => exact fun q3 W2 H2 v l2 t2 r2 => q3 W2 H2 v l2 (e.later l2 t2) r2
  | exc c vs s2 => exact fun q3 W2 H2 dd ws l2 t2 f2 g2 n2 r2 => q3 W2 H2 dd ws l2 (e.later l2 t2) f2 g2 n2 r2
  | stuck => exact fun q3 => q3
/-- f(e, .., k = v, ..) -/
theorem de_callK (G : FnOk X.prog X.w X.K X.mg X.base (L2.CX X.prog X.w) k f fd ps (spD C X.K F)) (hr : Room k X.A) (hg : Gl X x) (hm : X.mg x = some (.ref f)) (hk : PySem.W.keepIn X.K (.ref f) = true) (hb : KBn X.K fd ps n ks (kwG perm) (kwG perm)) (tk : Takes X Wx) (fl : Flat Wx)
    (ha : DA C X Wx (e :: es) fa) (hkw : DKw C X Wx kws fk) (hall : (backToKw pos (keywordEach kws X.env)).all (·.1.isSome) = true := by rfl) (hks : (backToKw pos (keywordEach kws X.env)).filterMap (·.1) = ks := by rfl)
    (hdb : (x == ("__debug__" : Str)) = false := by decide) (he : starEach (e :: es) X.env = (false, eval e X.env) :: starEach es X.env := by rfl)
    (hpl : ((backTo pos (starEach (e :: es) X.env)).any (·.1) || (backToKw pos (keywordEach kws X.env)).any (·.1.isNone)) = false := by rfl) :
    DE C X Wx (.Call (.Name x p) (e :: es) kws pos) (xCallK n ks.length perm F fa fk) := ⟨fun pins s σ H Q I h => by
  refine (pe_callN (E := WE Wx σ) G hr hg hm hk hb (passF tk fl σ) ha hkw hall hks hdb he hpl).run pins s σ H Q I ?_
  obtain ⟨W, env, s, e, q⟩ := h
  refine ⟨W, env, s, e, Res.step q fun W1 H1 s1 ds vs l1 e1 r1 q1 => ⟨W1, env, s1, e1, Res.step q1 fun W2 H2 s2 es zs l2 e2 r2 q2 => ?_⟩⟩
  by_cases hl : ds.length = n ∧ es.length = ks.length
  · rw [if_pos hl] at q2
    have r1 := r1.mono l2 e1.st
    exact ⟨r1.length.symm.trans hl.1, r2.length.symm.trans hl.2, sp_of e2 (kwG_rds r1 r2) q2⟩
  · rw [if_neg hl] at q2
    exact q2.elim⟩
/-- f(k = v, ..) -/
theorem de_callK0 (G : FnOk X.prog X.w X.K X.mg X.base (L2.CX X.prog X.w) k f fd ps (spD C X.K F)) (hr : Room k X.A) (hg : Gl X x) (hm : X.mg x = some (.ref f)) (hk : PySem.W.keepIn X.K (.ref f) = true) (hb : KBn X.K fd ps 0 ks (kwG perm) (kwG perm)) (tk : Takes X Wx) (fl : Flat Wx)
    (hkw : DKw C X Wx kws fk) (hall : (backToKw pos (keywordEach kws X.env)).all (·.1.isSome) = true := by rfl) (hks : (backToKw pos (keywordEach kws X.env)).filterMap (·.1) = ks := by rfl)
    (hdb : (x == ("__debug__" : Str)) = false := by decide)
    (hpl : ((backTo pos (starEach [] X.env)).any (·.1) || (backToKw pos (keywordEach kws X.env)).any (·.1.isNone)) = false := by rfl) :
    DE C X Wx (.Call (.Name x p) [] kws pos) (xCallK 0 ks.length perm F aNil fk) := ⟨fun pins s σ H Q I h => by
  refine wpAny_Call_Name_kw (ld_glob I hg hm ?_ hdb)
  refine PySem.W.callWith_KW0 (h₀ := X.base) I.ok.mod.kin hk hall ?_ hpl
  obtain ⟨W, env, s1, e, q⟩ := h
  refine thn (hkw.run pos pins s σ H (fun zs H2 => zs.length = ks.length ∧ spD C X.K F (kwG perm [] zs) H2 Q (WE Wx σ)) I ⟨W, env, s1, e, ?_⟩) fun ws s2 ⟨zs, H2, I2, rz, l2, q2⟩ => ⟨I2.kIn, ?_⟩
  · have q : Res C X.K (fun W H => RD C X.K W H) Wx σ env W H s1 ((fk env s1).bind fun zs s => if ([] : List D).length = 0 ∧ zs.length = ks.length then F s (kwG perm [] zs) else .stuck) Q := q
    refine Res.step q fun W2 H2 s2 es zs l2 e2 r2 q2 => ?_
    by_cases hl : es.length = ks.length
    · rw [if_pos ⟨rfl, hl⟩] at q2
      exact ⟨r2.length.symm.trans hl, sp_of e2 (kwG_rds (ds := []) (vs := []) rfl r2) q2⟩
    · rw [if_neg fun z => hl z.2] at q2
      exact q2.elim
  · rw [hks]
    exact run_fnN (us := []) (vs := []) G hr hb (passF tk fl σ) I2 .nil rz rfl l2 q2⟩
end

/-! ### an instance is made -/
def runMake (c nf : Nat) (g : S → List D → Out D) (s1 : S) (ds : List D) : Out D := match g (s1.own (.ins c [])) (.ref s1.mo.length :: ds) with
  | .ok d s2 => (match d, s2.mo[s1.mo.length]? with
    | .non, some (.ins c' vs) => if c' = c ∧ vs.length = nf then .ok (.inst c vs) (back s1 s2) else .stuck
    | _, _ => .stuck)
  | .exc c vs s2 => if D.lows s1.mo.length s1.tg vs = true then .exc c vs (back s1 s2) else .stuck
  | .stuck => .stuck
section
variable {C : Cfg} {K : PySem.W.Frag} {Wx : WX}
theorem make_ok {c nf : Nat} {g : S → List D → Out D} {σ : L2.St} {env : Env} {W : Wd} {H : Hp} {s : S} {ds : List D} {vs : List V} {Q : VK} {x dx : Addr} (hcf : (C.cf c).length = nf) (e : StE C K W H σ env s) (r : RDs C K W H ds vs) (hx : H x = none) (hdx : H dx = none) (ne : dx ≠ x)
    (q : Res C K (fun W H => RD C K W H) Wx σ env W H s (runMake c nf g s ds) Q) : spD C K g (.ref x :: vs) (L2.upd (L2.upd H dx (.own x)) x (.ins (C.ca c) dx [])) (fun v H2 => v = .non ∧ Q (.ref x) H2) (WE Wx σ) := by
  have nF : ¬ W.F dx := fun z => (e.st.fz dx z).1 hdx
  have nA : dx ∉ W.al := fun z => e.st.alh dx z hdx
  have hx1 : (L2.upd H dx (.own x)) x = none := by rw [upd_ne (Ne.symm ne)]; exact hx
  have l1 : Le W H s W (L2.upd H dx (.own x)) s := Le.fresh hdx
  have e1 : StE C K W (L2.upd H dx (.own x)) σ env s := e.upd nF nA (.none hdx)
  have nF2 : ¬ W.F x := fun z => (e.st.fz x z).1 hx
  have nA2 : x ∉ W.al := fun z => e.st.alh x z hx
  have l2 : Le W H s W (L2.upd (L2.upd H dx (.own x)) x (.ins (C.ca c) dx [])) s := l1.trans (Le.fresh hx1)
  have e2 : StE C K W (L2.upd (L2.upd H dx (.own x)) x (.ins (C.ca c) dx [])) σ env s := e1.upd nF2 nA2 (.none hx1)
  have l3 : Le W H s (W.own x) (L2.upd (L2.upd H dx (.own x)) x (.ins (C.ca c) dx [])) (s.own (.ins c [])) := l2.own e2.st.len hx
  have e3 : StE C K (W.own x) (L2.upd (L2.upd H dx (.own x)) x (.ins (C.ca c) dx [])) σ env (s.own (.ins c [])) := e2.own (by rw [upd_same]; exact fun z => nomatch z) nF2 nA2 ⟨dx, [], by rw [upd_same, List.zip_nil_right], Nat.zero_le _, rfl, rfl⟩
  have at_ : (W.own x).al[s.mo.length]? = some x := by
    show (W.al ++ [x])[s.mo.length]? = some x
    rw [← e.st.len, List.getElem?_append_right (Nat.le_refl _), Nat.sub_self]
    rfl
  refine ⟨W.own x, s.own (.ins c []), .ref s.mo.length :: ds, e3.st, ⟨.ref x, vs, rfl, ⟨x, at_, rfl⟩, r.mono l3 e.st⟩, ?_⟩
  unfold runMake at q
  revert q
  cases g (s.own (.ins c [])) (.ref s.mo.length :: ds) with
  | stuck => exact fun q => q.elim
  | exc c' es s2 =>
    intro q W2 H2 dd ws l4 t4 f4 g4 n4 r4
    have l5 := l3.trans l4
    have q : Res C K (fun W H => RD C K W H) Wx σ env W H s (if D.lows s.mo.length s.tg es = true then .exc c' es (back s s2) else .stuck) Q := q
    by_cases hlow : D.lows s.mo.length s.tg es = true
    · rw [if_pos hlow] at q
      exact q (W.back W2) H2 dd ws (l5.back e.st) (e.later (l5.back e.st) (StS.back l5 e.st t4)) f4 g4 n4 (RDs.low (W := W2) (W' := W.back W2) (n := s.mo.length) (t := s.tg) rfl rfl rfl (fun _ z => z) (fun i hi => back_al l5 i (by rw [e.st.len]; exact hi)) (fun _ _ z => z) es ws hlow r4)
    · rw [if_neg hlow] at q
      exact q.elim
  | ok d s2 =>
    intro q W2 H2 v l4 t4 r4
    have l5 := l3.trans l4
    have q : Res C K (fun W H => RD C K W H) Wx σ env W H s (match (generalizing := false) d, s2.mo[s.mo.length]? with
      | .non, some (.ins c' vs) => if c' = c ∧ vs.length = nf then .ok (.inst c vs) (back s s2) else .stuck
      | _, _ => .stuck) Q := q
    have key : ∀ c' fs, d = .non → s2.mo[s.mo.length]? = some (.ins c' fs) → Res C K (fun W H => RD C K W H) Wx σ env W H s (if c' = c ∧ fs.length = nf then .ok (.inst c fs) (back s s2) else .stuck) Q → v = .non ∧ Q (.ref x) H2 := fun c' fs hd hfs q9 => by
      subst hd
      by_cases hh : c' = c ∧ fs.length = nf
      · rw [if_pos hh] at q9
        obtain ⟨rfl, hlen⟩ := hh
        refine ⟨r4, ?_⟩
        have at4 := l4.al _ _ at_
        obtain ⟨dx', ws, h1, h2, h3, h4⟩ := t4.mo _ _ x hfs at4
        obtain ⟨t5, l6⟩ := t4.freeze at4 (fun o ho => by rw [h1] at ho; cases ho; exact fun _ z => nomatch z)
        have l7 := l5.trans l6
        have hb : back s ⟨s2.mo.set s.mo.length .dead, s2.tg⟩ = back s s2 := by
          unfold back
          congr 1
          rw [List.take_set, List.set_eq_of_length_le]
          rw [List.length_take]
          omega
        have lb := l7.back e.st
        have tb := StS.back l7 e.st t5
        rw [hb] at lb tb
        refine q9 (W.back (W2.add x)) H2 (.ref x) lb (e.later lb tb) ⟨x, dx', ws, rfl, .inr rfl, h1, ?_, ?_⟩
        · rw [hcf, ← h3.length, hlen]
        · exact RDs.low (W := W2) (W' := W.back (W2.add x)) (n := 0) (t := 0) rfl rfl rfl (fun _ z => .inl z) (fun i hi => absurd hi (Nat.not_lt_zero _)) (fun _ _ z => z) fs ws h4 h3
      · rw [if_neg hh] at q9
        exact q9.elim
    cases d with
    | non =>
      cases hmo : s2.mo[s.mo.length]? with
      | none => rw [hmo] at q; exact q.elim
      | some o =>
        rw [hmo] at q
        cases o with
        | ins c' fs => exact key c' fs rfl hmo q
        | _ => exact q.elim
    | _ => exact q.elim
end
section
variable {C : Cfg} {X : Cx} {Wx : WX} {e : Expr} {es : List Expr} {kws : List Keyword} {fe : Ex} {fa fk : Ax} {pos p : Pos} {x : Str} {k n c nf : Nat} {f : Addr} {fd : FuncData} {ps ks : List Str} {F : S → List D → Out D} {perm : List Nat}
/-- C(e, ..) -/
theorem de_make (hcf : (C.cf c).length = nf) (M : Mk X.K (C.ca c) f) (G : FnOk X.prog X.w X.K X.mg X.base (L2.CX X.prog X.w) k f fd ps (spD C X.K F)) (hr : Room (k + 1) X.A) (hg : Gl X x) (hm : X.mg x = some (.ref (C.ca c))) (hb : Binds X.K fd ps []) (tk : Takes X Wx) (fl : Flat Wx)
    (ha : DA C X Wx (e :: es) fa) (hdb : (x == ("__debug__" : Str)) = false := by decide) (he : starEach (e :: es) X.env = (false, eval e X.env) :: starEach es X.env := by rfl) (hpl : (backTo pos (starEach es X.env)).any (·.1) = false := by rfl) :
    DE C X Wx (.Call (.Name x p) (e :: es) [] pos) (xCall (runMake c nf F) fa) := ⟨fun pins s σ H Q I h => by
  refine (pe_make (E := WE Wx σ) (dvs := []) M G hr hg hm hb .nil (passF tk fl σ) ha hdb he hpl).run pins s σ H Q I ?_
  obtain ⟨W, env, s, e, q⟩ := h
  refine ⟨W, env, s, e, Res.step q fun W1 H1 s1 ds vs l1 e1 r1 q1 => fun x dx hx hdx ne => ?_⟩
  rw [List.append_nil]
  exact make_ok hcf e1 r1 hx hdx ne q1⟩
/-- C(k = v, ..) -/
theorem de_makeK0 (hcf : (C.cf c).length = nf) (M : Mk X.K (C.ca c) f) (G : FnOk X.prog X.w X.K X.mg X.base (L2.CX X.prog X.w) k f fd ps (spD C X.K F)) (hr : Room (k + 1) X.A) (hg : Gl X x) (hm : X.mg x = some (.ref (C.ca c))) (hb : KBn X.K fd ps 1 ks (kwG (0 :: perm.map (· + 1))) (kwG (0 :: perm.map (· + 1)))) (tk : Takes X Wx) (fl : Flat Wx)
    (hkw : DKw C X Wx kws fk) (hall : (backToKw pos (keywordEach kws X.env)).all (·.1.isSome) = true := by rfl) (hks : (backToKw pos (keywordEach kws X.env)).filterMap (·.1) = ks := by rfl) (hdb : (x == ("__debug__" : Str)) = false := by decide)
    (hpl : ((backTo pos (starEach [] X.env)).any (·.1) || (backToKw pos (keywordEach kws X.env)).any (·.1.isNone)) = false := by rfl) :
    DE C X Wx (.Call (.Name x p) [] kws pos) (xCallK 0 ks.length perm (runMake c nf F) aNil fk) := ⟨fun pins s σ H Q I h => by
  refine (pe_makeK0 (E := WE Wx σ) M G hr hg hm hb (passF tk fl σ) hkw hall hks hdb hpl).run pins s σ H Q I ?_
  obtain ⟨W, env, s1, e, q⟩ := h
  refine ⟨W, env, s1, e, ?_⟩
  have q : Res C X.K (fun W H => RD C X.K W H) Wx σ env W H s1 ((fk env s1).bind fun zs s => if ([] : List D).length = 0 ∧ zs.length = ks.length then runMake c nf F s (kwG perm [] zs) else .stuck) Q := q
  refine Res.step q fun W2 H2 s2 es zs l2 e2 r2 q2 => ?_
  by_cases hl : es.length = ks.length
  · rw [if_pos ⟨rfl, hl⟩] at q2
    refine ⟨rfl, r2.length.symm.trans hl, fun a dx ha hdx ne => ?_⟩
    have ek : kwG (0 :: perm.map (· + 1)) [V.ref a] zs = V.ref a :: kwG perm [] zs := by
      unfold kwG
      rw [List.filterMap_cons, List.filterMap_map]
      rfl
    rw [ek]
    exact make_ok hcf e2 (kwG_rds (ds := []) (vs := []) rfl r2) ha hdx ne q2
  · rw [if_neg fun z => hl z.2] at q2
    exact q2.elim⟩
end

/-! ### fields -/
/-- ix: the field's place in each class -/
def gFld (ix : Nat → Option Nat) (s : S) (d : D) : Option D := match view s d with
  | .inst c vs => (ix c).bind fun i => vs[i]?
  | _ => none
theorem lookup_zip {f : Str} : ∀ {fs : List Str} {ws : List V} {i : Nat} {v : V}, fs.Nodup → fs[i]? = some f → ws[i]? = some v → (fs.zip ws).lookup f = some v
  | [], _, _, _, _, h, _ => by simp at h
  | g :: fs, [], _, _, _, _, h => by simp at h
  | g :: fs, w :: ws, 0, v, nd, h1, h2 => by
    simp at h1 h2
    subst h1 h2
    simp [List.lookup]
  | g :: fs, w :: ws, i + 1, v, nd, h1, h2 => by
    have hg : f ≠ g := fun z => (List.nodup_cons.mp nd).1 (by rw [← z]; exact List.mem_of_getElem? (by simpa using h1))
    have e : (f == g) = false := by simpa using hg
    show (match f == g with
      | true => some w
      | false => (fs.zip ws).lookup f) = some v
    rw [e]
    exact lookup_zip (List.nodup_cons.mp nd).2 (by simpa using h1) (by simpa using h2)
/-- what the written part says of a class and a field of its instances -/
structure FldC (C : Cfg) (K : PySem.W.Frag) (f : Str) (c i : Nat) : Prop where
  at_ : (C.cf c)[i]? = some f
  nd : (C.cf c).Nodup
  cl : Cls K (C.ca c)
  no : NoAttr K (C.ca c) f
section
variable {C : Cfg} {X : Cx} {Wx : WX} {o e : Expr} {fo fe : Ex} {pos pos' : Pos} {f : Str}
/-- o.f -/
theorem de_fld {ix : Nat → Option Nat} (hf : ∀ c i, ix c = some i → FldC C X.K f c i) (ho : DE C X Wx o fo) (hb : attributeBase o f X.env (eval o X.env) = eval o X.env := by rfl) : DE C X Wx (.Attribute o f pos) (xUn (gFld ix) fo) := PE.imp (pe_fld ho hb) fun σ H Q h => by
  obtain ⟨W, env, s, e, q⟩ := h
  refine ⟨W, env, s, e, Res.step q fun W1 H1 s1 d x l1 e1 h1 q1 => ?_⟩
  have sd := see_of e1.st h1
  revert q1
  unfold Out.of
  cases hz : gFld ix s1 d with
  | none => exact fun q => q.elim
  | some z =>
    intro q
    unfold gFld at hz
    split at hz
    · rename_i c vs hv
      rw [hv] at sd
      cases hi : ix c with
      | none => rw [hi] at hz; cases hz
      | some i =>
        rw [hi] at hz
        obtain ⟨a, dx, ws, rfl, l, n, r⟩ := sd
        obtain ⟨v, g1, g2⟩ := r.get (show vs[i]? = some z from hz)
        have F := hf c i hi
        exact ⟨a, C.ca c, dx, _, v, rfl, l, F.cl, F.no, lookup_zip F.nd F.at_ g1, q.ok' Le.refl e1 g2⟩
    · cases hz
/-- o.f = e: in its place, or behind the others -/
def insSet (i : Nat) (s : S) (x d : D) : Option S := match x.strip with
  | .ref j => (match s.mo[j]? with
    | some (.ins c vs) => if d.low 0 0 = true then (if i < vs.length then some (s.put j (.ins c (vs.set i d))) else if i = vs.length then some (s.put j (.ins c (vs ++ [d]))) else none) else none
    | _ => none)
  | _ => none
def sFldS (ix : Nat → Option Nat) (fo fe : Ex) : Sx := fun e s => (fe e s).fl e fun d s => (fo e s).fl e fun x s => match view s x with
  | .inst c _ => (match (ix c).bind fun i => insSet i s x d with
    | some s' => .next e s'
    | none => .stuck)
  | _ => .stuck
theorem putF_set {f : Str} {v : V} : ∀ {fs : List Str} {ws : List V} {i : Nat}, fs.Nodup → fs[i]? = some f → i < ws.length → putF f v (fs.zip ws) = fs.zip (ws.set i v)
  | [], _, _, _, h, _ => by simp at h
  | g :: fs, [], _, _, _, h => by simp at h
  | g :: fs, w :: ws, 0, nd, h, _ => by
    simp at h
    subst h
    show (if g = g then _ else _) = _
    rw [if_pos rfl]
    rfl
  | g :: fs, w :: ws, i + 1, nd, h, hl => by
    have hg : g ≠ f := fun z => (List.nodup_cons.mp nd).1 (by rw [z]; exact List.mem_of_getElem? (by simpa using h))
    show (if g = f then (g, v) :: fs.zip ws else (g, w) :: putF f v (fs.zip ws)) = _
    rw [if_neg hg, putF_set (List.nodup_cons.mp nd).2 (by simpa using h) (by simpa using hl)]
    rfl
theorem putF_new {f : Str} {v : V} : ∀ {fs : List Str} {ws : List V}, fs.Nodup → fs[ws.length]? = some f → putF f v (fs.zip ws) = fs.zip (ws ++ [v])
  | [], _, _, h => by simp at h
  | g :: fs, [], _, h => by
    simp at h
    subst h
    simp [putF]
  | g :: fs, w :: ws, nd, h => by
    have hg : g ≠ f := fun z => (List.nodup_cons.mp nd).1 (by rw [z]; exact List.mem_of_getElem? (by simpa using h))
    show (if g = f then (g, v) :: fs.zip ws else (g, w) :: putF f v (fs.zip ws)) = _
    rw [if_neg hg, putF_new (List.nodup_cons.mp nd).2 (by simpa using h)]
    rfl
theorem ds_fld {ix : Nat → Option Nat} (hf : ∀ c i, ix c = some i → FldC C X.K f c i) (hn : ∀ c, (C.cf c).length < 1000) (ho : DE C X Wx o fo) (he : DE C X Wx e fe) (hs : swapsWith e (some (.Attribute o f pos')) pos.line X.env = pure false := by rfl) : DS C X Wx (.Assign [.Attribute o f pos'] e pos) (sFldS ix fo fe) :=
  PS.imp (ps_fld ho he hs) fun En σ H h => by
    obtain ⟨W, env, s, e, q⟩ := h
    refine ⟨W, env, s, e, Res.fl q fun W1 H1 s1 d y l1 e1 r1 q1 => ⟨W1, env, s1, e1, Res.fl q1 fun W2 H2 s2 x vx l2 e2 r2 q2 => ?_⟩⟩
    have sd := see_of e2.st r2
    have r1 := r1.mono l2 e1.st
    revert q2
    split
    · rename_i c fs hv
      intro q2
      cases hi : ix c with
      | none => rw [hi] at q2; exact q2.elim
      | some i =>
        rw [hi] at q2
        have q4 : ResS C X.K Wx En W2 H2 s2 (match insSet i s2 x d with
          | some s' => .next env s'
          | none => .stuck) := q2
        clear q2
        have F := hf c i hi
        cases hz : insSet i s2 x d with
        | none => rw [hz] at q4; exact q4.elim
        | some s3 =>
          rw [hz] at q4
          have r2 := r2.strip
          unfold insSet at hz
          generalize hx : x.strip = x0 at r2 hz
          cases x0 with
          | ref j =>
            obtain ⟨a, ha, rfl⟩ := r2
            have hz : (match s2.mo[j]? with
              | some (.ins c vs) => if d.low 0 0 = true then (if i < vs.length then some (s2.put j (.ins c (vs.set i d))) else if i = vs.length then some (s2.put j (.ins c (vs ++ [d]))) else none) else none
              | _ => none) = some s3 := hz
            split at hz
            · rename_i c' us hu
              have hv2 : view s2 x = .inst c' us := by
                unfold view
                rw [hx]
                show (match s2.mo[j]? with
                  | some (.lst xs) => D.lst xs
                  | some (.dK ks vs) => .dct ks vs
                  | some (.dT ks vs) => .dct ks vs
                  | some (.ins c vs) => .inst c vs
                  | _ => .ref j) = _
                rw [hu]
              rw [hv] at hv2
              cases hv2
              obtain ⟨dx, ws, g1, g2, g3, g4⟩ := e2.st.mo j _ a hu ha
              split at hz
              · rename_i hl
                have zl : ((C.cf c).zip ws).length < 1000 := by
                  rw [List.length_zip]
                  have := hn c
                  omega
                split at hz
                · rename_i hlt
                  cases hz
                  obtain ⟨t3, l3⟩ := e2.st.write (o' := .ins c (fs.set i d)) (u := .ins (C.ca c) dx ((C.cf c).zip (ws.set i y))) ha hu (fun z => nomatch z) fun lf => ⟨dx, ws.set i y, upd_same, by rw [List.length_set]; exact g2, (g3.lf lf).set (r1.lf lf) i, lows_set hl g4⟩
                  refine ⟨a, C.ca c, dx, _, rfl, g1, F.cl, F.no, zl, ?_⟩
                  rw [putF_set F.nd F.at_ (by rw [← g3.length]; exact hlt)]
                  exact q4 W2 σ _ l3 (e2.later l3 t3)
                · split at hz
                  · rename_i heq
                    cases hz
                    subst heq
                    have at_ : (C.cf c)[ws.length]? = some f := by rw [← g3.length]; exact F.at_
                    obtain ⟨t3, l3⟩ := e2.st.write (o' := .ins c (fs ++ [d])) (u := .ins (C.ca c) dx ((C.cf c).zip (ws ++ [y]))) ha hu (fun z => nomatch z) fun lf => ⟨dx, ws ++ [y], upd_same, by
                      rw [List.length_append]
                      exact (List.getElem?_eq_some_iff.mp at_).1, (g3.lf lf).append ⟨y, [], rfl, r1.lf lf, rfl⟩, lows_app g4 (lows_one hl)⟩
                    refine ⟨a, C.ca c, dx, _, rfl, g1, F.cl, F.no, zl, ?_⟩
                    rw [putF_new F.nd at_]
                    exact q4 W2 σ _ l3 (e2.later l3 t3)
                  · cases hz
              · cases hz
            · cases hz
          | _ => cases hz
    · exact fun q2 => q2.elim
end
/-! ### methods of own classes -/
def xMeth (c : Nat) (g : S → List D → Out D) (fo : Ex) (fa : Ax) : Ex := fun e s => (fo e s).bind fun x s => match view s x with
  | .inst c' _ => if c' = c then (fa e s).bind fun ds s => g s (x :: ds) else .stuck
  | _ => .stuck
section
variable {C : Cfg} {X : Cx} {Wx : WX} {o e : Expr} {es : List Expr} {fo : Ex} {fa : Ax} {pos apos : Pos} {m : Str} {k c : Nat} {f : Addr} {fd : FuncData} {ps : List Str} {F : S → List D → Out D} {pl : Sem Bool}
theorem meth_ok {σ : L2.St} {env : Env} {W : Wd} {H : Hp} {s : S} {Q : VK} (hno : m ∉ C.cf c) (e : StE C X.K W H σ env s) (q : Res C X.K (fun W H => RD C X.K W H) Wx σ env W H s (xMeth c F fo fa env s) Q) : tMeth (C.ca c) m (spD C X.K F) [] (WE Wx σ) (tD C X.K Wx fo) (tAx C X.K Wx fa) σ H Q := by
  refine ⟨W, env, s, e, Res.step q fun W1 H1 s1 d x l1 e1 h1 q1 => ?_⟩
  have sd := see_of e1.st h1
  revert q1
  split
  · rename_i c' vs hv
    rw [hv] at sd
    split
    · rename_i hc
      subst hc
      intro q1
      obtain ⟨a, dx, ws, rfl, l, n, r⟩ := sd
      refine ⟨a, dx, _, rfl, l, ?_, W1, env, s1, e1, Res.step q1 fun W2 H2 s2 ds us l2 e2 r2 q2 => ?_⟩
      · cases hl : ((C.cf c').zip ws).lookup m with
        | none => rfl
        | some v => exact absurd (List.of_mem_zip (PySem.mem_of_lookup hl)).1 hno
      · rw [List.append_nil]
        exact sp_of (ds := d :: ds) e2 ⟨_, us, rfl, h1.mono l2 e1.st, r2⟩ q2
    · exact fun q => q.elim
  · exact fun q => q.elim
/-- o.m(e, ..) -/
theorem de_meth (hno : m ∉ C.cf c) (ho : DE C X Wx o fo) (cl : Cls X.K (C.ca c)) (hm : Meth X.K (C.ca c) m f) (G : FnOk X.prog X.w X.K X.mg X.base (L2.CX X.prog X.w) k f fd ps (spD C X.K F)) (hr : Room k X.A) (hb : Binds X.K fd ps []) (tk : Takes X Wx) (fl : Flat Wx) (ha : DA C X Wx (e :: es) fa)
    (hst : starEach (e :: es) X.env = (false, eval e X.env) :: starEach es X.env := by rfl) (hpl : (backTo pos (starEach es X.env)).any (·.1) = false := by rfl)
    (ht : eval (.Call (.Attribute o m apos) (e :: es) [] pos) X.env = (do
      let ov ← eval o X.env
      standAt apos.atName
      let (f, first) ← holding [ov] (getMethod ov m pl)
      callWith pos f first (backTo pos (starEach (e :: es) X.env)) (backToKw pos (keywordEach [] X.env))) := by rfl) :
    DE C X Wx (.Call (.Attribute o m apos) (e :: es) [] pos) (xMeth c F fo fa) := ⟨fun pins s σ H Q I h => by
  refine (pe_meth (E := WE Wx σ) (dvs := []) ho cl hm G hr hb .nil (passF tk fl σ) ha hst hpl ht).run pins s σ H Q I ?_
  obtain ⟨W, env, s, e, q⟩ := h
  exact meth_ok hno e q⟩
/-- o.m() -/
theorem de_meth0 (hno : m ∉ C.cf c) (ho : DE C X Wx o fo) (cl : Cls X.K (C.ca c)) (hm : Meth X.K (C.ca c) m f) (G : FnOk X.prog X.w X.K X.mg X.base (L2.CX X.prog X.w) k f fd ps (spD C X.K F)) (hr : Room k X.A) (hb : Binds X.K fd ps []) (tk : Takes X Wx) (fl : Flat Wx)
    (ht : eval (.Call (.Attribute o m apos) [] [] pos) X.env = (do
      let ov ← eval o X.env
      standAt apos.atName
      let (f, first) ← holding [ov] (getMethod ov m pl)
      callWith pos f first (backTo pos (starEach [] X.env)) (backToKw pos (keywordEach [] X.env))) := by rfl) :
    DE C X Wx (.Call (.Attribute o m apos) [] [] pos) (xMeth c F fo aNil) := ⟨fun pins s σ H Q I h => by
  refine (pe_meth0 (E := WE Wx σ) (dvs := []) ho cl hm G hr hb .nil (passF tk fl σ) ht).run pins s σ H Q I ?_
  obtain ⟨W, env, s, e, q⟩ := h
  have z := meth_ok (fa := aNil) hno e q
  obtain ⟨W, env, s, e, q⟩ := z
  refine ⟨W, env, s, e, Res.imp q fun x H1 ⟨a, dx, fs, h1, h2, h3, W1, env1, s1, e1, h4⟩ => ⟨a, dx, fs, h1, h2, h3, ?_⟩⟩
  exact Res.here (a := ([] : List D)) (b := ([] : List V)) h4 e1 rfl⟩
end
end DV
end
section
set_option Elab.async false
set_option linter.all false
set_option maxRecDepth 100000
set_option maxHeartbeats 1000000
/-! DZ: try with clauses «except C as e: return [word, e.field]». -/
namespace DV
open PySem PySem.Spec PyProof.Rows L2

abbrev TSu := Addr → Value → Option Addr → TS
/-- a clause: its class, the slot of its name, what its suite asks -/
abbrev Cla := Value × Nat × TSu
/-- what the clauses wish of an error that leaves the body -/
def wNam (K : PySem.W.Frag) (Wout : WX) (En : Ends) : List Cla → WX
  | [] => Wout
  | p :: r => fun cls d σ H => ∃ b, PySem.W.exmOne K cls p.1 = some b ∧ (b = false → wNam K Wout En r cls d σ H) ∧
      (b = true → ∀ a, H a = none → p.2.2 a cls d ⟨fun σ' H' => En.nx (σ'.set p.2.1 none) H', En.rt, fun σ' H' => En.bk (σ'.set p.2.1 none) H', fun σ' H' => En.ct (σ'.set p.2.1 none) H'⟩ (σ.set p.2.1 (some (.ref a))) H)
inductive ClasOk (X : Cx) : List ExceptHandler → List Cla → Prop
  | nil : ClasOk X [] []
  | cons {x n : Str} {c : Value} {i : Nat} {ts : TSu} {st : Stmt} {suite : List Stmt} {np hp : Pos} {hs : List ExceptHandler} {l : List Cla} (hc : Names X x c) (hi : X.N[i]? = some n) (hl : X.env.kindOf n = some .local)
      (su : ∀ (a : Addr) (oe : Obj) (cls : Value) (d : Option Addr) (pn : List (Addr × Obj)), Zc cls d oe → (∃ vs, oe.data = .fields vs) → PSs (X.suite a ((a, oe) :: pn)) (st :: suite) (ts a cls d)) (r : ClasOk X hs l) :
      ClasOk X (.ExceptHandler (some (.Name x np)) (some n) (st :: suite) hp :: hs) ((c, i, ts) :: l)
section
variable {X : Cx} {body : List Stmt} {h0 : ExceptHandler} {hs : List ExceptHandler} {l : List Cla} {pos : Pos} {tb : WX → TS} {Wout : WX}
theorem ps_try_named (e1 : X.stack = X.env :: X.outer) (e2 : X.env.frame = some X.env.locals) (hN : X.N.Nodup) (tk : Takes X Wout)
    (hb : ∀ (W : WX) (pn : List (Addr × Obj)) (xe : Value → Shared → Prop), Takes (X.tr pn xe) W → PassesOwn (model X.prog X.w) X.A X.env xe → PSs (X.tr pn xe) body (tb W)) (hk : ClasOk X (h0 :: hs) l) :
    PS X (.Try body (h0 :: hs) [] [] pos) (fun En σ H => tb (wNam X.K Wout En l) En σ H) := by
  refine ⟨fun pins sh σ H En J h => ?_⟩
  have ok := J.ok
  have frs_ : X.A.frames = some (X.env :: X.outer) := by rw [ok.frames, e1]
  let M := model X.prog X.w
  let XE' : Value → Shared → Prop := fun e y1 => wpAny M X.A (noteFrame e X.env) (fun _ y2 => wpAny M X.A (setFlight e none) (fun _ y3 => wpAny M X.A (handleBy e X.env (h0 :: hs)) (SP X pins En) X.xe y3) X.xe y2) X.xe y1
  have caught : Takes (X.tr (X.pn ++ pins) XE') (wNam X.K Wout En l) := by
    intro u y xx
    obtain ⟨a, B, sI, pins', σ1, H1, cls, d, rfl, J', nb, up, sky, na, os, ag, wish⟩ := xx
    have J1 : Inv X pins σ1 H1 sI := J'.ofTry ok
    have sky1 : Sky B (X.env :: X.outer) a (Zc cls d) X.env.locals y.heap := by rw [← e1]; exact sky
    show wpAny M X.A (noteFrame (.ref a) X.env) _ _ _
    refine Sky.land Zc.steady frs_ e2 sky1 fun g3 fl3 up3 => ?_
    have J3 : Inv X pins σ1 H1 { y with heap := g3 } := J1.landed nb fl3.1 (up.trans up3) os ag
    obtain ⟨oe, flds, at_a, zc, dat⟩ := fl3.there
    have off : a ∉ frs (X.env :: X.outer) := fun hm => by
      obtain ⟨_, o2, at2, no⟩ := fl3.2.2.1.mem hm
      rw [at_a] at at2
      cases at2
      exact no _ dat
    have offL : a ≠ X.env.locals := fun z => off (List.mem_filterMap.mpr ⟨X.env, List.mem_cons_self, by rw [e2, z]⟩)
    have offF : a ∉ X.fs := fun hm => by
      obtain ⟨en, hen, q⟩ := List.mem_filterMap.mp hm
      exact off (List.mem_filterMap.mpr ⟨en, List.mem_cons_of_mem _ hen, q⟩)
    have S3 := J3.suite at_a dat na offL offF
    suffices each : ∀ {hs' : List ExceptHandler} {l' : List Cla}, ClasOk X hs' l' → wNam X.K Wout En l' cls d σ1 H1 → wpAny M X.A (handleBy (.ref a) X.env hs') (SP X pins En) X.xe { y with heap := g3 } from each hk wish
    intro hs' l' k
    induction k with
    | nil =>
      intro wish
      refine wpAny_handleBy_nil ?_
      obtain ⟨_, _, _, oe5, flds5, T, _, _, at5, _, dat5, f5, _⟩ := id fl3
      unfold PySem.passOn
      refine wpAny_bind (wpAny_field at5 dat5 f5 ?_)
      rw [if_neg (show ¬ ((Value.ref T == Value.none) = true) from by simp)]
      have out : wpAny M X.A (setFlight (.ref a) X.env.frame) (fun _ y4 => wpAny M X.A (throw (.ref a) : Sem Flow) (SP X pins En) X.xe y4) X.xe { y with heap := g3 } := by
        rw [e2]
        exact HandSPX.setFlight_upZ fl3 fun g4 on4 up4 => wpAny_throw (tk _ _ ⟨a, B, sI, pins, σ1, H1, cls, d, rfl, J1, nb, (up.trans up3).trans up4, .inr (.inr (by rw [e1]; exact on4)), na, os, ag, wish⟩)
      first
        | exact wpAny_bind out
        | exact wpAny_bind (wpAny_pure (wpAny_bind out))
    | @cons x n c i ts st suite np hp hs2 l2 hc hi hl su r ih =>
      intro wish
      obtain ⟨b, cmp, no, yes⟩ := wish
      refine wpAny_handleBy_cons (codeAny_handlers_test ?_) (by intro z; cases z)
      have ty : PySem.W.Looks M g3 (typeOf (.ref a)) cls := fun A Q E s kp q => wpAny_typeOf_ref (kp _ _ at_a) (by rw [zc.1]; exact q)
      have looks := PySem.W.exm_one (M := M) J3.kIn ty cmp
      have named : ∀ {Q E : Value → Shared → Prop}, Q c { y with heap := g3 } → wpAny M (X.A.mark (some (.ref a))) (eval (.Name x np) X.env) Q E { y with heap := g3 } := fun {Q E} q => by
        obtain ⟨gl, db, own | ⟨nown, blt, nn⟩⟩ := hc
        · exact ld_glob (X := X.suite a ((a, oe) :: (X.pn ++ pins))) S3 gl own q db
        · exact ld_blt (X := X.suite a ((a, oe) :: (X.pn ++ pins))) S3 gl nown blt q nn db
      refine named (looks.here ?_)
      cases b with
      | false => exact ih (no rfl)
      | true =>
        refine codeAny_handlers_suite_as ?_
        refine HandSPX.lands_againZ fl3 fun g4 fl4 up4 => ?_
        have J4 : Inv X pins σ1 H1 { y with heap := g4 } := J1.landed nb fl4.1 ((up.trans up3).trans up4) os ag
        obtain ⟨oe4, flds4, at4, zc4, dat4⟩ := fl4.there
        have S4 := J4.suite at4 dat4 na offL offF
        refine store_ok (X := X.suite a ((a, oe4) :: (X.pn ++ pins))) (v := .ref a) S4 hN hi (.inl hl) rfl (fun y5 S5 => ?_) (.inr hl)
        refine wpAny_mono ((su a oe4 cls d (X.pn ++ pins) zc4 ⟨_, dat4⟩).run [] y5 _ H1 _ S5 (yes rfl a na)) (fun fl y6 post => ?_) fun _ _ z => z.elim
        have fin : ∀ {σ6 : L2.St} {H6 : Hp} {Q : Shared → Prop}, Inv (X.suite a ((a, oe4) :: (X.pn ++ pins))) [] σ6 H6 y6 → (∀ y7, Inv X pins (σ6.set i none) H6 y7 → Q y7) →
            wpAny M X.A (do bindName X.env n .none; unbindBehindTheSuite X.env n hp) (fun _ y7 => Q y7) X.xe y6 := fun {σ6 H6 Q} S6 q => gone_ok (S6.unsuite ok) hN hi hl q
        cases fl with
        | ret u =>
          obtain ⟨v, σ6, H6, S6, rv, q⟩ := post
          exact fin S6 fun y7 J7 => ⟨_, _, _, J7, rv, q⟩
        | next =>
          obtain ⟨σ6, H6, S6, q⟩ := post
          exact fin S6 fun y7 J7 => ⟨_, _, J7, q⟩
        | brk =>
          obtain ⟨σ6, H6, S6, q⟩ := post
          exact fin S6 fun y7 J7 => ⟨_, _, J7, q⟩
        | cont =>
          obtain ⟨σ6, H6, S6, q⟩ := post
          exact fin S6 fun y7 J7 => ⟨_, _, J7, q⟩
  refine wpAny_Try_except (wpAny_mono ((hb (wNam X.K Wout En l) (X.pn ++ pins) XE' caught PassesOwn.looking).run [] sh σ H En (J.toTry _) h) (fun fl y1 post => ?_) fun _ _ z => z)
  cases fl with
  | ret u =>
    obtain ⟨v, σ1, H1, J1, rv, q⟩ := post
    exact ⟨v, σ1, H1, J1.ofTry ok, rv, q⟩
  | next =>
    obtain ⟨σ1, H1, J1, q⟩ := post
    exact wpAny_execs_nil ⟨σ1, H1, J1.ofTry ok, q⟩
  | brk =>
    obtain ⟨σ1, H1, J1, q⟩ := post
    exact ⟨σ1, H1, J1.ofTry ok, q⟩
  | cont =>
    obtain ⟨σ1, H1, J1, q⟩ := post
    exact ⟨σ1, H1, J1.ofTry ok, q⟩
end

/-! ### over data: every clause is «except C as e: return [word, e.field]» -/
/-- what such a suite asks -/
def tsF (C : Addr) (i : Nat) (w f : Str) : TSu := fun a cls d => tRet (tLst (tCons (tC (.str w)) (tCons (tXf a cls d C f (tVar i)) tNil)))
/-- class, word, field -/
abbrev ClaD := Nat × Str × Str
def claD (C : Cfg) (i : Nat) : List ClaD → List Cla
  | [] => []
  | p :: r => (.ref (C.ca p.1), i, tsF (C.ca p.1) i p.2.1 p.2.2) :: claD C i r
def pick (c : Nat) : List ClaD → Option Str
  | [] => none
  | p :: r => if c = p.1 then some p.2.1 else pick c r
def sTryF (i : Nat) (known : List Nat) (hs : List ClaD) (body : Sx) : Sx := fun e s => match body e s with
  | .exc c vs e' s' => if c ∈ known ∧ i < e'.length then (match pick c hs with
    | some w => (match (generalizing := false) vs with
      | [y] => .ret (.lst [.str w, y]) s'
      | _ => .stuck)
    | none => .exc c vs e' s') else .stuck
  | r => r
section
variable {C : Cfg} {X : Cx} {Wx : WX} {i : Nat} {n : Str}
theorem cla_nil : ClasOk X [] (claD C i []) := .nil
theorem cla_cons {x w fld : Str} {c j : Nat} {np p1 p2 p3 p4 p5 hp : Pos} {hs : List ExceptHandler} {l : List ClaD} (hc : Names X x (.ref (C.ca c))) (hi : X.N[i]? = some n) (hl : X.env.kindOf n = some .local) (T : XfC X.K (C.ca c)) (hno : PySem.W.findIn X.K (.ref (C.ca c)) fld = some none)
    (r : ClasOk X hs (claD C i l)) (hd : (n == ("__debug__" : Str)) = false := by decide) (hcd : (n == ("__classdict__" : Str)) = false := by decide) (hba : attributeBase (.Name n p2) fld X.env (eval (.Name n p2) X.env) = eval (.Name n p2) X.env := by rfl)
    (hst : ∀ env : PySem.Env, starEach [.Constant (.str w) j p1, .Attribute (.Name n p2) fld p3] env = (false, eval (.Constant (.str w) j p1) env) :: starEach [.Attribute (.Name n p2) fld p3] env := by intro _; rfl)
    (hst2 : ∀ env : PySem.Env, starEach [.Attribute (.Name n p2) fld p3] env = (false, eval (.Attribute (.Name n p2) fld p3) env) :: starEach [] env := by intro _; rfl) :
    ClasOk X (.ExceptHandler (some (.Name x np)) (some n) [.Return (some (.List [.Constant (.str w) j p1, .Attribute (.Name n p2) fld p3] p4)) p5] hp :: hs) (claD C i ((c, w, fld) :: l)) :=
  .cons hc hi hl (fun a oe cls d pn z hf => by
    have pv : PE (X.suite a ((a, oe) :: pn)) (.Name n p2) (tVar i) := pe_var hi (.inl hl) hd hcd
    have px := pe_xf (pos := p3) T hno z hf pv hba
    exact pss_one (ps_ret (pe_lst (pa_cons pe_str (pa_cons px pa_nil (hst2 _)) (hst _))))) r
theorem nam_of {K : PySem.W.Frag} {known : List Nat} {c : Nat} {env : Env} {s : S} {W0' W : Wd} {H0 H : Hp} {s0 : S} {σ : L2.St} {En : Ends} {dd : Addr} {vs : List D} {ws : List V} (hc : c ∈ known) (hi : i < env.length) (l : Le W0' H0 s0 W H s) (e : StE C K W H σ env s) (f : W.F dd) (g : H dd = some (.xd ((C.cf c).zip ws))) (len : (C.cf c).length = ws.length) (r : RDs C K W H vs ws) :
    ∀ hs : List ClaD, (∀ p ∈ hs, C.cf p.1 = [p.2.2]) → (∀ p ∈ hs, ∀ k ∈ known, PySem.W.exmOne K (.ref (C.ca k)) (.ref (C.ca p.1)) = some (decide (k = p.1))) → ResS C K Wx En W0' H0 s0 (match pick c hs with
      | some w => (match (generalizing := false) vs with
        | [y] => .ret (.lst [.str w, y]) s
        | _ => .stuck)
      | none => .exc c vs env s) → wNam K Wx En (claD C i hs) (.ref (C.ca c)) (some dd) σ H
  | [], _, _, q => q W σ H dd ws l e f g len r
  | p :: hs, hf, hx, q => by
    refine ⟨decide (c = p.1), hx p List.mem_cons_self c hc, fun hn => ?_, fun hy a ha => ?_⟩
    · have ne := of_decide_eq_false hn
      have ep : pick c (p :: hs) = pick c hs := by
        show (if c = p.1 then some p.2.1 else pick c hs) = _
        exact if_neg ne
      rw [ep] at q
      exact nam_of hc hi l e f g len r hs (fun p hp => hf p (List.mem_cons_of_mem _ hp)) (fun p hp => hx p (List.mem_cons_of_mem _ hp)) q
    · have eq := of_decide_eq_true hy
      have ep : pick c (p :: hs) = some p.2.1 := by
        show (if c = p.1 then some p.2.1 else pick c hs) = _
        exact if_pos eq
      rw [ep] at q
      have hfld := hf p List.mem_cons_self
      rw [← eq] at hfld
      match vs, r, q with
      | [], _, q => exact q.elim
      | _ :: _ :: _, _, q => exact q.elim
      | [y], r, q =>
        obtain ⟨v, rfl, ry⟩ := rds1 r
        have q : ResS C K Wx En W0' H0 s0 (.ret (.lst [.str p.2.1, y]) s) := q
        refine ⟨.ref a, ?_, rfl, by rw [eq], dd, _, v, rfl, g, ?_, by show 2 ≤ sizeLine; decide, fun pt hpt => ?_⟩
        · exact List.getElem?_set_self (by rw [e.sl]; exact hi)
        · rw [hfld]
          simp [List.lookup]
        · have l2 : Le W H s (W.add pt) (L2.upd H pt (.lst [.str p.2.1, v])) s := Le.laid e.st hpt
          have t2 := e.st.laid hpt (o := .lst [.str p.2.1, v]) (fun _ z => nomatch z)
          exact q (W.add pt) (.ref pt) _ (l.trans l2) t2 ⟨pt, _, rfl, .inr rfl, upd_same, .str p.2.1, [v], rfl, rfl, v, [], rfl, ry.mono l2 e.st, rfl⟩
theorem ds_tryF {body : List Stmt} {h0 : ExceptHandler} {hd : List ExceptHandler} {pos : Pos} {known : List Nat} {hs : List ClaD} {fb : Sx} (e1 : X.stack = X.env :: X.outer) (e2 : X.env.frame = some X.env.locals) (hN : X.N.Nodup) (tk : Takes X Wx)
    (hb : ∀ (W : WX) (pn : List (Addr × Obj)) (xe : Value → Shared → Prop), Takes (X.tr pn xe) W → PassesOwn (model X.prog X.w) X.A X.env xe → DSs C (X.tr pn xe) W body fb) (hk : ClasOk X (h0 :: hd) (claD C i hs))
    (hf : ∀ p ∈ hs, C.cf p.1 = [p.2.2]) (hx : ∀ p ∈ hs, ∀ k ∈ known, PySem.W.exmOne X.K (.ref (C.ca k)) (.ref (C.ca p.1)) = some (decide (k = p.1))) :
    DS C X Wx (.Try body (h0 :: hd) [] [] pos) (sTryF i known hs fb) := PS.imp (ps_try_named (tb := fun W => tS C X.K W fb) e1 e2 hN tk hb hk) fun En σ H h => by
  obtain ⟨W, env, s, e, q⟩ := h
  refine ⟨W, env, s, e, ?_⟩
  unfold sTryF at q
  revert q
  cases fb env s with
  | next e' s' => exact fun q => q
  | ret d s' => exact fun q => q
  | brk e' s' => exact fun q => q
  | cont e' s' => exact fun q => q
  | stuck => exact fun q => q
  | exc c vs e' s' =>
    intro q W2 σ2 H2 dd ws l2 e3 f2 g2 n2 r2
    have q : ResS C X.K Wx En W H s (if c ∈ known ∧ i < e'.length then (match pick c hs with
      | some w => (match (generalizing := false) vs with
        | [y] => .ret (.lst [.str w, y]) s'
        | _ => .stuck)
      | none => .exc c vs e' s') else .stuck) := q
    by_cases hh : c ∈ known ∧ i < e'.length
    · rw [if_pos hh] at q
      exact nam_of hh.1 hh.2 l2 e3 f2 g2 n2 r2 hs hf hx q
    · rw [if_neg hh] at q
      exact q.elim
end
end DV
end
section
set_option Elab.async false
set_option linter.all false
set_option maxRecDepth 100000
set_option maxHeartbeats 2000000
/-! DJ: lambdas: a frame that makes some, a def that calls one. -/
namespace DV
open PySem PySem.Spec PyProof.Rows L2

/-! ### another meaning of lambdas: the same for what holds none -/
def Cfg.wl (C : Cfg) (r : LamR) : Cfg := { C with lr := r }
section
variable {C : Cfg} {K : PySem.W.Frag} {W : Wd} {H : Hp} {s : S} {r r' : LamR}
theorem RD.wl {n t : Nat} {d : D} {v : V} (h : d.low n t = true) (q : RD (C.wl r) K W H d v) : RD (C.wl r') K W H d v := RD.low (C := C.wl r) (C' := C.wl r') (n := n) (t := t) rfl rfl rfl (fun _ z => z) (fun _ _ => rfl) (fun _ _ z => z) d v h q
theorem RDs.wl {n t : Nat} {d : List D} {v : List V} (h : D.lows n t d = true) (q : RDs (C.wl r) K W H d v) : RDs (C.wl r') K W H d v := RDs.low (C := C.wl r) (C' := C.wl r') (n := n) (t := t) rfl rfl rfl (fun _ z => z) (fun _ _ => rfl) (fun _ _ z => z) d v h q
theorem MOk.wl {a : Addr} {o : MO} (m : MOk (C.wl r) K W H a o) : MOk (C.wl r') K W H a o := by
  cases o with
  | lst xs =>
    obtain ⟨vs, h1, h2, h3⟩ := m
    exact ⟨vs, h1, h2.wl h3, h3⟩
  | dK ks vs =>
    obtain ⟨kvs, h1, h2, h3, h4⟩ := m
    exact ⟨kvs, h1, h2, h3.wl h4, h4⟩
  | dT ks vs =>
    obtain ⟨kvs, h1, h2, h3, h4⟩ := m
    exact ⟨kvs, h1, h2, h3.wl h4, h4⟩
  | ins c vs =>
    obtain ⟨dx, ws, h1, h2, h3, h4⟩ := m
    exact ⟨dx, ws, h1, h2, h3.wl h4, h4⟩
  | dead => exact trivial
theorem StS.wl (t : StS (C.wl r) K W H s) : StS (C.wl r') K W H s := ⟨t.len, t.tln, t.nod, fun i o a h1 h2 => (t.mo i o a h1 h2).wl, t.fz, t.alh, t.tb⟩
end
/-- arguments and results hold no lambda -/
def lowO (o : Out D) : Out D := match o with
  | .ok d s' => if d.low s'.mo.length s'.tg = true then .ok d s' else .stuck
  | .exc c vs s' => if D.lows s'.mo.length s'.tg vs = true then .exc c vs s' else .stuck
  | .stuck => .stuck
def lowF (F : S → List D → Out D) : S → List D → Out D := fun s ds => if D.lows s.mo.length s.tg ds = true then lowO (F s ds) else .stuck
section
variable {C : Cfg} {K : PySem.W.Frag} {r r' : LamR} {F : S → List D → Out D}
theorem spD_wl {vs : List V} {H : Hp} {Q : VK} {E : XK} (h : spD (C.wl r) K (lowF F) vs H Q E) : spD (C.wl r') K F vs H Q E := by
  obtain ⟨W, s, ds, t, rd, q⟩ := h
  unfold lowF at q
  by_cases hl : D.lows s.mo.length s.tg ds = true
  · rw [if_pos hl] at q
    refine ⟨W, s, ds, t.wl, rd.wl hl, ?_⟩
    revert q
    cases F s ds with
    | stuck => exact fun q => q
    | ok d s' =>
      intro q W' H' v l t' r'
      have q : (match (if d.low s'.mo.length s'.tg = true then Out.ok d s' else .stuck) with
        | .ok d s' => ∀ W' H' v, Le W H s W' H' s' → StS (C.wl r) K W' H' s' → RD (C.wl r) K W' H' d v → Q v H'
        | .exc c es s' => ∀ W' H' dd ws, Le W H s W' H' s' → StS (C.wl r) K W' H' s' → W'.F dd → H' dd = some (.xd ((C.cf c).zip ws)) → (C.cf c).length = ws.length → RDs (C.wl r) K W' H' es ws → E (.ref (C.ca c)) (some dd) H'
        | .stuck => False) := q
      by_cases hd : d.low s'.mo.length s'.tg = true
      · rw [if_pos hd] at q
        exact q W' H' v l t'.wl (RD.wl hd r')
      · rw [if_neg hd] at q
        exact q.elim
    | exc c es s' =>
      intro q W' H' dd ws l t' f g n r'
      have q : (match (if D.lows s'.mo.length s'.tg es = true then Out.exc c es s' else .stuck) with
        | .ok d s' => ∀ W' H' v, Le W H s W' H' s' → StS (C.wl r) K W' H' s' → RD (C.wl r) K W' H' d v → Q v H'
        | .exc c es s' => ∀ W' H' dd ws, Le W H s W' H' s' → StS (C.wl r) K W' H' s' → W'.F dd → H' dd = some (.xd ((C.cf c).zip ws)) → (C.cf c).length = ws.length → RDs (C.wl r) K W' H' es ws → E (.ref (C.ca c)) (some dd) H'
        | .stuck => False) := q
      by_cases hd : D.lows s'.mo.length s'.tg es = true
      · rw [if_pos hd] at q
        exact q W' H' dd ws l t'.wl f g n (RDs.wl hd r')
      · rw [if_neg hd] at q
        exact q.elim
  · rw [if_neg hl] at q
    exact q.elim
end
/-- from what is wanted of a def to what is wanted of its body -/
theorem run_ts {C : Cfg} {K : PySem.W.Frag} {n : Nat} {N : List Str} {body : Sx} {vs : List V} {H : Hp} {Q : VK} {E : XK} (h : spD C K (runDef n N.length body) vs H Q E) : vs.length = n ∧ tS C K (fun c d _ H => E c d H) body { nx := fun _ H' => Q .non H', rt := Q } (L2.start N vs) H := by
  obtain ⟨W, s0, ds, t, r, q⟩ := h
  unfold runDef at q
  by_cases hn : ds.length = n
  · rw [if_pos hn] at q
    refine ⟨r.length.symm.trans hn, W, _, s0, RDs.start t r, ?_⟩
    revert q
    cases body (ds.map some ++ List.replicate (N.length - ds.length) none) s0 with
    | next e' s' => exact fun q W1 σ1 H1 l1 e1 => q (W.back W1) H1 .non (l1.back t) (StS.back l1 t e1.st) rfl
    | ret d s' => exact fun q W1 v H1 l1 t1 r1 => end_ok (E := E) t l1 t1 r1 q
    | exc c vs e' s' =>
      unfold endDef
      by_cases hlow : D.lows s0.mo.length s0.tg vs = true
      · simp only [if_pos hlow]
        intro q W1 σ1 H1 dd ws l1 e1 f1 g1 n1 r1
        exact q (W.back W1) H1 dd ws (l1.back t) (StS.back l1 t e1.st) f1 g1 n1 (RDs.low (W := W1) (W' := W.back W1) (n := s0.mo.length) (t := s0.tg) rfl rfl rfl (fun _ z => z) (fun i hi => back_al l1 i (by rw [t.len]; exact hi)) (fun _ _ z => z) vs ws hlow r1)
      · simp only [if_neg hlow]
        exact fun q => q.elim
    | brk _ _ => exact fun q => q.elim
    | cont _ _ => exact fun q => q.elim
    | stuck => exact fun q => q.elim
  · rw [if_neg hn] at q
    exact q.elim
/-- a def whose code object is known -/
structure FunC (K : PySem.W.Frag) (x qual : Str) (st : Stmt) (f : Addr) (fd : FuncData) (c : Addr) : Prop where
  ex : ∃ (oc : Value) (od : Option Addr) (kV doc pm : Value) (an : Option Addr) (ct : Value) (osl : Array (Option Value)),
    fd = PySem.W.fnOf x qual (defArgs st) (defBody st) (defScope st) .none kV doc pm an (.ref c) ct ∧ K.lookup f = some ⟨oc, od, .func fd, osl⟩ ∧ PySem.W.codeIn K (.ref c) qual = true
  kp : PySem.W.keepIn K (.ref f) = true
theorem FunC.fn {K : PySem.W.Frag} {x qual : Str} {st : Stmt} {f : Addr} {fd : FuncData} {c : Addr} (F : FunC K x qual st f fd c) : Fun K x qual st f fd := by
  obtain ⟨oc, od, kV, doc, pm, an, ct, osl, h1, h2, h3⟩ := F.ex
  exact ⟨⟨oc, od, kV, doc, pm, an, _, ct, osl, h1, h2, h3⟩, F.kp⟩
/-- THE RULE of a def that makes lambdas -/
theorem fn_defL {C : Cfg} {P : Program} {w : World} {K : PySem.W.Frag} {mg : Str → Option Value} {base : Heap} {k : Nat} {x qual : Str} {st : Stmt} {f c : Addr} {fd : FuncData} {N ps : List Str} {body : Sx} (F : FunC K x qual st f fd c) (S : FnScope N ps (defScope st))
    (hb : ∀ (A : Around) (outer : List PySem.Env) (s : Shared) (H : Hp) (E : XK), Room k (A.deeper (envOfC qual (defScope st) s.heap.objs.size f (.ref c))) →
      ∃ r : LamR, DSs (C.wl r) (cxOf (L2.CX P w) P w K mg base N qual (defScope st) f (.ref c) A outer s H E) (fun c d _ H => E c d H) (defBody st) body) : FnOk P w K mg base (L2.CX P w) (k + 1) f fd ps (spD C K (lowF (runDef ps.length N.length body))) := by
  obtain ⟨oc, od, kV, doc, pm, an, ct, osl, rfl, lk, hcd⟩ := F.ex
  refine fn_of lk hcd S (fun vs H Q E h => (run_ts (spD_wl (C := C) (r := C.lr) (r' := C.lr) h)).1) fun A outer s H vs Q E hr h => ?_
  obtain ⟨r, d⟩ := hb A outer s H E hr
  exact ⟨_, d, (run_ts (spD_wl (C := C) (r := C.lr) (r' := r) h)).2⟩

/-! ### a lambda is made -/
/-- its words; its defaults, numbers -/
structure LamT where
  params : Arguments
  body : Expr
  scope : Scope
  dn : List Int
abbrev lamFd (q : Str) (L : LamT) (cl : List (Str × Addr)) (dV pm cdv ct : Value) : FuncData :=
  { name := "<lambda>", qualname := q, params := L.params, body := .expr L.body, scope := L.scope, globals := mainGlobals, closure := cl, defaults := dV, kwdefaults := .none, doc := .none, pyModule := pm, annotations := none, code := cdv, closureTuple := ct, builtins := builtinsNs }
/-- where its defaults lie -/
def dflV (L : LamT) (T : Addr) : Value := if L.dn = [] then .none else .ref T
/-- the function object at f -/
def LamO (q : Str) (L : LamT) (cl : List (Str × Addr)) (f c' T : Addr) : HO := .ext fun h => ∃ (pm ctv : Value), h.get? f = some { cls := .type "function", data := .func (lamFd q L cl (dflV L T) pm (.ref c') ctv) }
theorem tail_of {M : Model} {A : Around} {Er : Value → Shared → Prop} {s : Shared} {q : Str} {L : LamT} {env : PySem.Env} {c P : Addr} {ps : Array Value} {pos : Pos} {l : Nat} {mg : Str → Option Value} {cl : List (Str × Addr)} {dV : Value} {Q : Value → Shared → Prop}
    (hcl : closureFor L.scope env = pure cl) (hge : env.globals = mainGlobals) (hg : s.heap.Ns mainGlobals mg) (hcode : env.code = .ref c) (hC : PySem.W.CodeHd s.heap c P) (hP : s.heap.get? P = some { cls := .none, data := .fields ps }) (ht : TriplesOk ps.toList) (hgP : mainGlobals ≠ P) (hb : s.heap.BuiltinsAt mg P)
    (new : codeAmong pos ps.toList = none → ∀ (c' : Addr) (ctv : Value) (h' : Heap) (tk : Tok), Heap.ExtBut P s.heap h' → s.heap.objs.size ≤ c' → c' < h'.objs.size → h'.CodeRec (.ref c') q → h'.get? P = some { cls := .none, data := .fields (ps ++ #[rawInt pos.line, rawInt pos.col, .ref c']) } →
      Q (.ref h'.objs.size) { s with heap := h'.push { cls := .type "function", data := .func (lamFd q L cl dV ((mg "__name__").getD .none) (.ref c') ctv) }, toks := tk })
    (old : ∀ cv, codeAmong pos ps.toList = some cv → ∀ (ctv : Value) (h' : Heap) (tk : Tok), (∀ b o, s.heap.get? b = some o → h'.get? b = some o) → s.heap.objs.size ≤ h'.objs.size →
      Q (.ref h'.objs.size) { s with heap := h'.push { cls := .type "function", data := .func (lamFd q L cl dV ((mg "__name__").getD .none) cv ctv) }, toks := tk }) :
    wpAny M A (makeTail "<lambda>" q L.params (.expr L.body) L.scope env dV .none none pos l) Q Er s := by
  obtain ⟨bm, ob, hbm, hne, _, hneP, hbo, hcls, hdict, hdata⟩ := hb
  unfold makeTail
  rw [hcl, hge]
  refine wpAny_bind (wpAny_pure ?_)
  -- ahead of the code object: the closure's tuple
  have go : ∀ (g : Heap) (ctv : Value), (∀ b o, s.heap.get? b = some o → g.get? b = some o) → s.heap.objs.size ≤ g.objs.size → wpAny M A (do
      let code ← functionCode env pos l "<lambda>" q L.params L.scope (.expr L.body)
      let builtins ← builtinsFor mainGlobals env.builtins
      let pm := (← nsGet mainGlobals "__name__").getD .none
      let doc ← (match FuncBody.expr L.body with
        | .stmts b => (match docOf b with | some s => mkText s | none => pure .none)
        | .expr _ => pure .none : Sem Value)
      newObj (.type "function") (.func { name := "<lambda>", qualname := q, params := L.params, body := .expr L.body, scope := L.scope, globals := mainGlobals, closure := cl, closureTuple := ctv, code := code, builtins := builtins, defaults := dV, kwdefaults := .none, annotations := none, pyModule := pm, doc := doc })) Q Er { s with heap := g } := fun g ctv kg sz => by
    have hg' := hg.keeps kg
    cases hf : codeAmong pos ps.toList with
    | none =>
      refine wpAny_bind (wpAny_functionCodeX hcode ((hC.keeps kg).code (kg _ _ hP) ht) ((hC.keeps kg).tab (kg _ _ hP)) hf fun c' h' tk hx hge' hlt _ hrec htb _ => ?_)
      have hg2 := hg'.extBut hx hgP
      refine wpAny_bind (wpAny_builtinsFor hg2 hbm hne (hx _ _ hneP (kg _ _ hbo)) hcls hdict hdata ?_)
      refine wpAny_bind (wpAny_nsGet hg2 ?_)
      exact wpAny_bind (wpAny_pure (wpAny_newObj_type (new hf c' ctv h' tk (fun b o hb' e => hx b o hb' (kg b o e)) (Nat.le_trans sz hge') hlt hrec htb.2) (by size_fits)))
    | some cv =>
      refine wpAny_bind (wpAny_functionCode_hit hcode ((hC.keeps kg).code (kg _ _ hP) ht) hf ?_)
      refine wpAny_bind (wpAny_builtinsFor hg' hbm hne (kg _ _ hbo) hcls hdict hdata ?_)
      refine wpAny_bind (wpAny_nsGet hg' ?_)
      exact wpAny_bind (wpAny_pure (wpAny_newObj_type (old cv hf ctv g s.toks kg sz) (by size_fits)))
  cases cl with
  | nil =>
    simp only [List.isEmpty_nil, if_true]
    exact wpAny_bind (wpAny_pure (go s.heap .none (fun _ _ e => e) (Nat.le_refl _)))
  | cons p r =>
    simp only [List.isEmpty_cons, Bool.false_eq_true, if_false]
    exact wpAny_bind (wpAny_newTextTuple (go _ _ (fun b o e => Heap.get?_push_of_some _ e) (by rw [Heap.size_push]; omega)))
theorem lamO_np {q : Str} {L : LamT} {cl : List (Str × Addr)} {f c' T : Addr} (ps : Array Value) : LamO q L cl f c' T ≠ .tbl ps := fun z => by
  unfold LamO at z
  cases z
/-- a lambda of the text at pos, its captured cells those of the frame -/
structure MakesL (X : Cx) (T : List NdefX.NTab) (c P : Addr) (nm : Nat → Nat → Str) (L : LamT) (pos : Pos) : Prop where
  tb : LamX.TabB X.base X.mg c P
  code : X.env.code = .ref c
  inT : (P, nm) ∈ T
  name : nm pos.line pos.col = X.env.qual ++ "<lambda>"
  uniq : ∀ p ∈ T, p.1 = P → p.2 = nm
  free : ∀ y ∈ L.scope.names, y.2 = .free → X.env.scope.names.lookup y.1 = some .cell ∨ X.env.scope.names.lookup y.1 = some .free
  kwo : L.params.kwonlyargs = []
  dfl : (L.dn = [] ∧ defaultsOf L.params X.env = ([], [])) ∨ ∃ (i : Int) (j : Nat) (p : Pos), L.dn = [i] ∧ defaultsOf L.params X.env = ([eval (.Constant (.int i) j p) X.env], [])
section
variable {X : Cx} {pins : List (Addr × Obj)} {σ : L2.St} {H : Hp} {s : Shared} {T : List NdefX.NTab} {c P : Addr} {nm : Nat → Nat → Str} {L : LamT} {pos : Pos}
theorem lam_fn {q : Str} {cl : List (Str × Addr)} {c' T0 : Addr} {t' : Nat} {pm ctv : Value} (I : Inv X pins σ H s) : Inv X pins σ (L2.upd H s.heap.objs.size (LamO q L cl s.heap.objs.size c' T0)) { s with heap := s.heap.push { cls := .type "function", data := .func (lamFd q L cl (dflV L T0) pm (.ref c') ctv) }, toks := t' } := by
  refine I.laid (a := s.heap.objs.size) (fun b u e => Heap.get?_push_of_some _ e) (Nat.le_refl _) ?_
  have e : (s.heap.push ({ cls := .type "function", data := .func (lamFd q L cl (dflV L T0) pm (.ref c') ctv) } : Obj)).get? s.heap.objs.size = some { cls := .type "function", data := .func (lamFd q L cl (dflV L T0) pm (.ref c') ctv) } := Heap.get?_push_size _ rfl
  exact ⟨⟨pm, ctv, e⟩, ⟨_, e⟩, fun h1 h2 ⟨pm, ct, z⟩ st => ⟨pm, ct, st _ z⟩⟩
/-- what is told of the lambda that is made -/
def Made (X : Cx) (H : Hp) (T : List NdefX.NTab) (L : LamT) (f c' T0 : Addr) (H1 : Hp) : Prop :=
  LamX.ExtN H H1 ∧ (∀ b, H1 b = none → H b = none) ∧ NdefX.TabsN T H1 ∧ H f = none ∧ H1 f = some (LamO (X.env.qual ++ "<lambda>") L (cloFrom X.env.cells L.scope.names []) f c' T0) ∧ H1 c' = some (LamX.CodeO c' (X.env.qual ++ "<lambda>")) ∧
    (H c' = none ∨ ∃ (ps : Array Value) (pos : Pos), ∃ p ∈ T, H p.1 = some (.tbl ps) ∧ codeAmong pos ps.toList = some (.ref c')) ∧
    (∀ p ∈ T, ∀ ps, H1 p.1 = some (.tbl ps) → ∀ (pos : Pos) (cc : Addr), codeAmong pos ps.toList = some (.ref cc) → cc = c' ∨ ∃ ps0, H p.1 = some (.tbl ps0) ∧ codeAmong pos ps0.toList = some (.ref cc))
theorem lam_body {Er : Value → Shared → Prop} {Q : Value → Shared → Prop} {T0 : Addr} (I : Inv X pins σ H s) (M : MakesL X T c P nm L pos) (hT : NdefX.TabsN T H)
    (go : ∀ (f c' : Addr) (H1 : Hp) (s' : Shared), Inv X pins σ H1 s' → Made X H T L f c' T0 H1 → Q (.ref f) s') :
    wpAny (model X.prog X.w) X.A (makeTail "<lambda>" (X.env.qual ++ "<lambda>") L.params (.expr L.body) L.scope X.env (dflV L T0) .none none pos pos.line) Q Er s := by
  obtain ⟨ps, hP, ht, ha⟩ := (show NdefX.TabN H P nm from hT _ M.inT)
  have bP : s.heap.BuiltinsAt X.mg P := M.tb.bm.keeps I.bk
  have hP' : s.heap.get? P = some { cls := .none, data := .fields ps } := I.hok P _ hP
  have hfr : ∀ y ∈ L.scope.names, y.2 = .free → ∃ c, X.env.cells.lookup y.1 = some c := fun y hy e => (M.free y hy e).elim (fun z => I.ok.has _ (.inl z)) fun z => I.ok.has _ (.inr z)
  refine tail_of (mg := X.mg) (c := c) (P := P) (ps := ps) (closure_ok hfr) I.ok.glob (I.mod.glob.keeps I.bk) M.code (M.tb.code.keeps I.bk) hP' ht M.tb.gP bP (fun hf c' ctv h' tk hx hge hlt hrec htb => ?_) (fun cv hf ctv h' tk hx hsz => ?_)
  · obtain ⟨c2, oc, vs, t, e2, hoc, hd, hv⟩ := hrec
    cases e2
    have nC : H c' = none := I.hok.fresh hge
    have I1 := LamX.inv_table (t' := tk) (more := #[rawInt pos.line, rawInt pos.col, .ref c']) (h' := h') (q := X.env.qual ++ "<lambda>") I hP (fun b o hb e => hx b o hb e) htb hge ⟨oc, vs, t, hoc, hd, hv⟩
    have hE : LamX.ExtN H (L2.upd (L2.upd H P (.tbl (ps ++ #[rawInt pos.line, rawInt pos.col, .ref c']))) c' (LamX.CodeO c' (X.env.qual ++ "<lambda>"))) := fun b o e n => by
      rw [upd_ne (ne_of_none e nC), upd_ne (fun z => n ps (Option.some.inj (e.symm.trans (by rw [z]; exact hP))))]
      exact e
    have eL : (ps ++ #[rawInt pos.line, rawInt pos.col, .ref c']).toList = ps.toList ++ [rawInt pos.line, rawInt pos.col, .ref c'] := by simp
    have atP : (L2.upd (L2.upd H P (.tbl (ps ++ #[rawInt pos.line, rawInt pos.col, .ref c']))) c' (LamX.CodeO c' (X.env.qual ++ "<lambda>"))) P = some (.tbl (ps ++ #[rawInt pos.line, rawInt pos.col, .ref c'])) := by rw [upd_ne (ne_of_none hP nC), upd_same]
    have T1 : NdefX.TabsN T (L2.upd (L2.upd H P (.tbl (ps ++ #[rawInt pos.line, rawInt pos.col, .ref c']))) c' (LamX.CodeO c' (X.env.qual ++ "<lambda>"))) := fun p hp => by
      by_cases hb : p.1 = P
      · rw [M.uniq p hp hb, hb]
        refine ⟨_, atP, by rw [eL]; exact PySem.TriplesOk_snoc _ _ _ _ ht, fun p' cv hcv => ?_⟩
        rw [eL] at hcv
        rcases NdefX.among_app2 _ ht hcv with z | ⟨z, z1, z2⟩
        · obtain ⟨c0, e1, e2⟩ := ha p' cv z
          exact ⟨c0, e1, hE _ _ e2 LamX.codeO_ne⟩
        · refine ⟨c', z, ?_⟩
          rw [← z1, ← z2, M.name]
          exact upd_same
      · obtain ⟨ps', a1, a2, a3⟩ := hT p hp
        refine ⟨ps', by rw [upd_ne (ne_of_none a1 nC), upd_ne hb]; exact a1, a2, fun p' cv hcv => ?_⟩
        obtain ⟨c0, e1, e2⟩ := a3 p' cv hcv
        exact ⟨c0, e1, hE _ _ e2 LamX.codeO_ne⟩
    have nF := I1.hok.fresh (Nat.le_refl _)
    have I2 := lam_fn (L := L) (q := X.env.qual ++ "<lambda>") (cl := cloFrom X.env.cells L.scope.names []) (c' := c') (T0 := T0) (t' := tk) (pm := (X.mg "__name__").getD .none) (ctv := ctv) I1
    refine go _ c' _ _ I2 ⟨fun b o e n => ?_, fun b e => NdefX.upd_none (NdefX.upd_none (NdefX.upd_none e)), T1.ext fun b o e => (upd_ne (ne_of_none e nF)).trans e, I.hok.fresh (Nat.le_trans hge (Nat.le_of_lt hlt)), upd_same, (upd_ne (Nat.ne_of_lt hlt)).trans upd_same, .inl nC, fun p hp qs e p' cc hcc => ?_⟩
    · have e1 := hE b o e n
      exact (upd_ne (ne_of_none e1 nF)).trans e1
    · have e1 : (L2.upd (L2.upd H P (.tbl (ps ++ #[rawInt pos.line, rawInt pos.col, .ref c']))) c' (LamX.CodeO c' (X.env.qual ++ "<lambda>"))) p.1 = some (.tbl qs) := by
        obtain ⟨qs0, a1, _⟩ := T1 p hp
        rw [upd_ne (ne_of_none a1 nF)] at e
        exact e
      by_cases hb : p.1 = P
      · rw [hb, atP] at e1
        cases e1
        rw [eL] at hcc
        rcases NdefX.among_app2 _ ht hcc with z | ⟨z, _, _⟩
        · exact .inr ⟨ps, by rw [hb]; exact hP, z⟩
        · cases z
          exact .inl rfl
      · obtain ⟨ps', a1, _⟩ := hT p hp
        rw [upd_ne (ne_of_none a1 nC), upd_ne hb] at e1
        exact .inr ⟨qs, e1, hcc⟩
  · obtain ⟨c', e, hco⟩ := ha pos cv hf
    subst e
    rw [M.name] at hco
    have I1 : Inv X pins σ H { s with heap := h', toks := tk } := I.kept hx
    have nF : H h'.objs.size = none := I1.hok.fresh (Nat.le_refl _)
    have I2 := lam_fn (L := L) (q := X.env.qual ++ "<lambda>") (cl := cloFrom X.env.cells L.scope.names []) (c' := c') (T0 := T0) (t' := tk) (pm := (X.mg "__name__").getD .none) (ctv := ctv) I1
    refine go _ c' _ _ I2 ⟨fun b o e n => (upd_ne (ne_of_none e nF)).trans e, fun b e => NdefX.upd_none e, hT.ext fun b o e => (upd_ne (ne_of_none e nF)).trans e, nF, upd_same, (upd_ne (ne_of_none hco nF)).trans hco, .inr ⟨ps, pos, _, M.inT, hP, hf⟩, fun p hp qs e p' cc hcc => ?_⟩
    obtain ⟨qs0, a1, _⟩ := hT p hp
    rw [upd_ne (ne_of_none a1 nF)] at e
    exact .inr ⟨qs, e, hcc⟩
/-- lambda ..: .. -/
theorem lam_eval {Er : Value → Shared → Prop} {Q : Value → Shared → Prop} (I : Inv X pins σ H s) (M : MakesL X T c P nm L pos) (hT : NdefX.TabsN T H)
    (go : ∀ (f c' T0 : Addr) (H0 H1 : Hp) (s' : Shared), Inv X pins σ H1 s' → (L.dn = [] ∧ H0 = H ∨ L.dn ≠ [] ∧ H T0 = none ∧ H0 = L2.upd H T0 (.tup (L.dn.map V.int))) → Made X H0 T L f c' T0 H1 → Q (.ref f) s') :
    wpAny (model X.prog X.w) X.A (eval (.Lambda L.params L.body L.scope pos) X.env) Q Er s := by
  rw [arm_eval_Lambda]
  rcases M.dfl with ⟨d0, hd⟩ | ⟨i, j, p, d1, hd⟩
  · rw [hd]
    show wpAny _ _ (do let dv ← evalAll []; let kdv ← holding dv (evalAllOpt []); makeFunction "<lambda>" (X.env.qual ++ "<lambda>") L.params (.expr L.body) L.scope X.env dv kdv [] pos pos.line) Q Er s
    refine wpAny_bind (wpAny_pure (wpAny_bind (wpAny_holding (wpAny_pure ?_))))
    rw [makeFunction_eq]
    simp only [List.zip_nil_right, List.filterMap_nil, List.isEmpty_nil, if_true, pure_bind]
    have ed : dflV L 0 = .none := by unfold dflV; rw [if_pos d0]
    have z := lam_body (T0 := 0) (Er := Er) (Q := Q) I M hT fun f c' H1 s' J m => go f c' 0 H H1 s' J (.inl ⟨d0, rfl⟩) m
    rw [ed] at z
    exact z
  · rw [hd]
    show wpAny _ _ (do let dv ← evalAll [eval (.Constant (.int i) j p) X.env]; let kdv ← holding dv (evalAllOpt []); makeFunction "<lambda>" (X.env.qual ++ "<lambda>") L.params (.expr L.body) L.scope X.env dv kdv [] pos pos.line) Q Er s
    refine wpAny_bind (wpAny_bind (wpAny_Constant_int ?_))
    refine wpAny_bind (wpAny_holding (wpAny_pure (wpAny_pure ?_)))
    refine wpAny_bind (wpAny_holding (wpAny_pure ?_))
    rw [makeFunction_eq]
    simp only [List.zip_nil_right, List.filterMap_nil, List.isEmpty_nil, List.isEmpty_cons, Bool.false_eq_true, if_false, if_true, pure_bind]
    refine wpAny_bind (wpAny_newTextTuple ?_)
    have J0 : Inv X pins σ H { s with toks := s.toks + 1 } := I.tok _
    have nT : H s.heap.objs.size = none := I.hok.fresh (Nat.le_refl _)
    have J1 : Inv X pins σ (L2.upd H s.heap.objs.size (.tup (L.dn.map V.int))) { s with heap := s.heap.push { cls := .type "tuple", data := .seq ([Value.int i s.toks] : List Value).toArray }, toks := s.toks + 1 } := by
      refine J0.laid (a := s.heap.objs.size) (t' := s.toks + 1) (fun b u e => Heap.get?_push_of_some _ e) (Nat.le_refl _) ?_
      rw [d1]
      exact ⟨by show 1 ≤ sizeLine; decide, [Value.int i s.toks], .cons ⟨_, rfl⟩ .nil, ⟨_, Heap.get?_push_size _ rfl, rfl, _, rfl⟩⟩
    have ed : dflV L s.heap.objs.size = .ref s.heap.objs.size := by unfold dflV; rw [if_neg (by rw [d1]; simp)]
    have z := lam_body (T0 := s.heap.objs.size) (Er := Er) (Q := Q) J1 M (hT.ext fun b o e => (upd_ne (ne_of_none e nT)).trans e) fun f c' H1 s' J m => go f c' _ _ H1 s' J (.inr ⟨by rw [d1]; simp, nT, rfl⟩) m
    rw [ed] at z
    exact z
end

/-! ### over data: a lambda as a value of the frame that made it -/
/-- what a frame's lambda is: tab tells their words -/
def lrOf (X : Cx) (tab : Nat → Option LamT) : LamR where
  r i a W H := ∃ (L : LamT) (c' T0 : Addr), tab i = some L ∧ W.F a ∧ H a = some (LamO (X.env.qual ++ "<lambda>") L (cloFrom X.env.cells L.scope.names []) a c' T0) ∧ W.F c' ∧ H c' = some (LamX.CodeO c' (X.env.qual ++ "<lambda>")) ∧ (L.dn = [] ∨ (W.F T0 ∧ H T0 = some (.tup (L.dn.map V.int))))
  st i a W H W' H' l h := by
    obtain ⟨L, c', T0, h1, h2, h3, h4, h5, h6⟩ := h
    exact ⟨L, c', T0, h1, l.fz _ h2, l.at_ _ _ h2 h3, l.fz _ h4, l.at_ _ _ h4 h5, h6.imp id fun ⟨a, b⟩ => ⟨l.fz _ a, l.at_ _ _ a b⟩⟩
def xLam (i : Nat) : Ex := fun _ s => .ok (.lam i []) s
section
variable {C : Cfg} {X : Cx} {Wx : WX} {c P : Addr} {nm : Nat → Nat → Str} {L : LamT} {pos : Pos} {tab : Nat → Option LamT} {i : Nat}
theorem de_lam (M : MakesL X C.T c P nm L pos) (ht : tab i = some L) : DE (C.wl (lrOf X tab)) X Wx (.Lambda L.params L.body L.scope pos) (xLam i) := ⟨fun pins sh σ H Q I h => by
  obtain ⟨W, env, s, e, q⟩ := h
  have t := e.st
  refine lam_eval I M t.tb.1 fun f c' T0 H0 H1 sh' J hT0 made => ⟨.ref f, H1, J, rfl, ?_⟩
  obtain ⟨ex, nn, tn, f0, f1, c1, cOld, cTab⟩ := made
  have up0 : ∀ a o, H a = some o → H0 a = some o := fun a o h => by
    rcases hT0 with ⟨_, rfl⟩ | ⟨_, nT, rfl⟩
    · exact h
    · exact (upd_ne (ne_of_none h nT)).trans h
  have dn0 : ∀ a, H0 a = none → H a = none := fun a h => by
    rcases hT0 with ⟨_, rfl⟩ | ⟨_, nT, rfl⟩
    · exact h
    · exact NdefX.upd_none h
  have tb0 : ∀ {a : Addr} {ps : Array Value}, H0 a = some (.tbl ps) → H a = some (.tbl ps) := fun {a ps} h => by
    rcases hT0 with ⟨_, rfl⟩ | ⟨_, nT, rfl⟩
    · exact h
    · by_cases z : a = T0
      · rw [z, upd_same] at h
        cases h
      · rw [upd_ne z] at h
        exact h
  have keep : ∀ a o, H a = some o → ntb o → H1 a = some o := fun a o h n => ex a o (up0 a o h) n
  have cF : H c' = none ∨ W.F c' := by
    rcases cOld with h | ⟨ps, p, tp, hp, e1, e2⟩
    · exact .inl (dn0 _ h)
    · exact .inr (t.tb.2 tp hp ps (tb0 e1) p c' e2)
  have hTn : L.dn ≠ [] → H T0 = none ∧ H1 T0 = some (.tup (L.dn.map V.int)) := fun hd => by
    rcases hT0 with ⟨z, _⟩ | ⟨_, nT, rfl⟩
    · exact absurd z hd
    · exact ⟨nT, ex T0 _ upd_same fun _ z => nomatch z⟩
  let W' : Wd := ⟨fun a => W.F a ∨ a = f ∨ a = c' ∨ (L.dn ≠ [] ∧ a = T0), W.al, W.ts⟩
  have l : Le W H s W' H1 s := ⟨fun _ h => .inl h, fun _ _ h => h, fun _ _ h => h, fun a o h n _ => keep a o h n, fun a h z => h (dn0 _ (nn _ z)), fun _ h => h, (fun j a hj h => by
    have h : W.al[j]? = some a := h
    rw [List.getElem?_eq_none hj] at h
    cases h), fun a h => by
      rcases h with h | rfl | rfl | ⟨hd, rfl⟩
      · exact .inl h
      · exact .inr (.inl (dn0 _ f0))
      · exact cF.elim (fun z => .inr (.inl z)) .inl
      · exact .inr (.inl (hTn hd).1)⟩
  have fresh_dead : ∀ a, H a = none → ∀ j : Nat, W.al[j]? = some a → s.mo[j]? = some .dead := fun a h j hj => absurd h (t.alh a (List.mem_of_getElem? hj))
  have t' : StS (C.wl (lrOf X tab)) X.K W' H1 s := by
    refine ⟨t.len, t.tln, t.nod, fun j o a h1 h2 => ?_, fun a h => ?_, fun a ha => l.dom a (t.alh a ha), tn, fun p hp ps e1 p' cc hcc => ?_⟩
    · have m := t.mo j o a h1 h2
      by_cases hd : o = .dead
      · rw [hd]
        exact trivial
      · exact mok_later l t (fun u hu => keep a u hu (mok_plain hd m u hu).1) m
    · rcases h with h | rfl | rfl | ⟨hd, rfl⟩
      · obtain ⟨g1, g2, g3⟩ := t.fz a h
        refine ⟨l.dom a g1, fun o ho => ?_, g3⟩
        cases ha : H a with
        | none => exact absurd ha g1
        | some o0 =>
          have e2 := keep a o0 ha (g2 o0 ha)
          rw [ho] at e2
          cases e2
          exact g2 _ ha
      · exact ⟨by rw [f1]; exact Option.some_ne_none _, fun o ho => by rw [f1] at ho; cases ho; exact lamO_np, fresh_dead _ (dn0 _ f0)⟩
      · refine ⟨by rw [c1]; exact Option.some_ne_none _, fun o ho => by rw [c1] at ho; cases ho; exact LamX.codeO_ne, ?_⟩
        rcases cF with z | z
        · exact fresh_dead _ z
        · exact (t.fz _ z).2.2
      · obtain ⟨z1, z2⟩ := hTn hd
        exact ⟨by rw [z2]; exact Option.some_ne_none _, fun o ho => by rw [z2] at ho; cases ho; exact (fun _ z => nomatch z), fresh_dead _ z1⟩
    · rcases cTab p hp ps e1 p' cc hcc with rfl | ⟨ps0, g1, g2⟩
      · exact .inr (.inr (.inl rfl))
      · exact .inl (t.tb.2 p hp ps0 (tb0 g1) p' cc g2)
  have q : Res (C.wl (lrOf X tab)) X.K (fun W H => RD (C.wl (lrOf X tab)) X.K W H) Wx σ env W H s (.ok (.lam i []) s) Q := q
  refine q.ok' l (e.later l t') ⟨rfl, f, rfl, L, c', T0, ht, .inr (.inl rfl), f1, .inr (.inr (.inl rfl)), c1, ?_⟩
  by_cases hd : L.dn = []
  · exact .inl hd
  · exact .inr ⟨.inr (.inr (.inr ⟨hd, rfl⟩)), (hTn hd).2⟩⟩
end
end DV
end
section
set_option Elab.async false
set_option linter.all false
set_option maxRecDepth 100000
set_option maxHeartbeats 2000000
/-! DI2: a lambda called in the def that got it. -/
namespace DV
open PySem PySem.Spec PyProof.Rows L2

/-- its names: parameters (with defaults) and captured ones; ks: the slots of the maker's names that the parameters hide -/
structure LamS (X : Cx) (L : LamT) (ks : List Nat) (pn : Str) : Prop where
  kind : L.scope.kind = .function
  co : L.scope.isCoroutine = false
  gen : L.scope.isGenerator = false
  nocell : ∀ y ∈ L.scope.names, y.2 ≠ .cell
  free : ∀ y ∈ L.scope.names, y.2 = .free → X.env.scope.names.lookup y.1 = some .cell ∨ X.env.scope.names.lookup y.1 = some .free
  hide : ∀ i x, X.N[i]? = some x → L.scope.names.lookup x = some .local → i ∈ ks
  b0 : L.dn = [] → ∀ (q : Str) (cl : List (Str × Addr)) (pm cdv ct : Value), bindArgs (lamFd q L cl .none pm cdv ct) ⟨[], []⟩ = pure []
  b1 : ∀ i, L.dn = [i] → L.scope.names.lookup pn = some .local ∧ ∀ (q : Str) (cl : List (Str × Addr)) (T : Addr) (pm cdv ct : Value), ∃ k : Option (Array Value) → Sem (List (Str × Value)), bindArgs (lamFd q L cl (.ref T) pm cdv ct) ⟨[], []⟩ = seqItems? (.ref T) >>= k ∧ ∀ v, k (some #[v]) = pure [(pn, v)]
  dn : L.dn = [] ∨ ∃ i, L.dn = [i]
theorem wipe_len {σ : L2.St} : ∀ vs : List Nat, (wipe σ vs).length = σ.length
  | [] => rfl
  | v :: vs => by
    show ((wipe σ vs).set v none).length = σ.length
    rw [List.length_set, wipe_len vs]
theorem wipe_in {σ : L2.St} {i : Nat} {v : V} : ∀ {vs : List Nat}, (wipe σ vs)[i]? = some (some v) → i ∉ vs ∧ σ[i]? = some (some v)
  | [], h => ⟨by simp, h⟩
  | u :: vs, h => by
    have h : ((wipe σ vs).set u none)[i]? = some (some v) := h
    by_cases e : u = i
    · subst e
      by_cases hl : u < (wipe σ vs).length
      · rw [List.getElem?_set_self hl] at h
        cases h
      · rw [List.getElem?_eq_none (by rw [List.length_set]; omega)] at h
        cases h
    · rw [List.getElem?_set_ne e] at h
      obtain ⟨h1, h2⟩ := wipe_in h
      exact ⟨fun z => (List.mem_cons.mp z).elim (fun z => e z.symm) h1, h2⟩
theorem wipeE_len {env : Env} : ∀ vs : List Nat, (wipeE env vs).length = env.length
  | [] => rfl
  | v :: vs => by
    show ((wipeE env vs).set v none).length = env.length
    rw [List.length_set, wipeE_len vs]
theorem wipeE_both {C : Cfg} {K : PySem.W.Frag} {W : Wd} {H : Hp} {σ : L2.St} {env : Env} (hl : σ.length = env.length) (h : ∀ (j : Nat) (d : D), env[j]? = some (some d) → ∃ v, σ[j]? = some (some v) ∧ RD C K W H d v) : ∀ vs : List Nat, ∀ (j : Nat) (d : D), (wipeE env vs)[j]? = some (some d) → ∃ v, (wipe σ vs)[j]? = some (some v) ∧ RD C K W H d v
  | [] => h
  | u :: vs => fun j d hj => by
    have hj : ((wipeE env vs).set u none)[j]? = some (some d) := hj
    show ∃ v, ((wipe σ vs).set u none)[j]? = some (some v) ∧ _
    by_cases e : u = j
    · subst e
      by_cases hb : u < (wipeE env vs).length
      · rw [List.getElem?_set_self hb] at hj
        cases hj
      · rw [List.getElem?_eq_none (by rw [List.length_set]; omega)] at hj
        cases hj
    · rw [List.getElem?_set_ne e] at hj ⊢
      exact wipeE_both hl h vs j d hj
section
variable {X : Cx} {pins : List (Addr × Obj)} {σ : L2.St} {H HZ : Hp} {s sZ : Shared} {L : LamT} {ks : List Nat} {pn : Str}
/-- the lambda's frame starts with what the maker's names hold -/
theorem lam_enter {A : Around} {outer : List PySem.Env} {E : XK} {f c' : Addr} {g : Heap} {tk : Nat} {bs : List (Str × Value)} (I : Inv X pins σ H s) (S : LamS X L ks pn) (e0 : Env0 X.prog X.w X.K X.mg X.base A outer sZ HZ) (hd : A.handled = none)
    (un : Un (frs X.stack) [] H HZ s.heap sZ.heap) (hns : g.Ns sZ.heap.objs.size fun y => bs.reverse.lookup y) (kp : ∀ b o, sZ.heap.get? b = some o → g.get? b = some o) :
    Inv (LamX.lamCx X A outer sZ HZ E L.scope f c') [] (wipe σ ks) HZ { sZ with heap := g, toks := tk } := by
  have has : ∀ y ∈ L.scope.names, y.2 = .free → ∃ c, X.env.cells.lookup y.1 = some c := fun y hy e => (S.free y hy e).elim (fun z => I.ok.has _ (.inl z)) fun z => I.ok.has _ (.inr z)
  have back : ∀ {y c}, (cloFrom X.env.cells L.scope.names []).lookup y = some c → X.env.cells.lookup y = some c := fun {y c} e => NdefX.clo_cm has e
  have fwd : ∀ {y}, L.scope.names.lookup y = some .free → ∃ c, (cloFrom X.env.cells L.scope.names []).lookup y = some c := fun {y} h => mem_lookup (cloFrom_has (cells := X.env.cells) (acc := []) (PySem.mem_of_lookup h))
  have stay : ∀ {c : Addr} {v : Option Value}, H c = none → s.heap.IsCell c v → g.IsCell c v := fun {c v} n ⟨o, ho, hdat⟩ => by
    obtain ⟨sl, q⟩ := un.any ho n (by simp)
    exact ⟨_, kp _ _ q, hdat⟩
  have none_ex : ∀ b : Addr, b ∉ (LamX.lamCx X A outer sZ HZ E L.scope f c').ex := fun b z => absurd (show b ∈ ([] : List Addr) from z) (by simp)
  refine ⟨⟨e0.mod, S.kind, rfl, rfl, Nat.le_refl _, fun y z c e1 e2 => I.ok.inj y z c (back e1) (back e2), fun y hy => ?_, fun y c z _ => ?_, fun _ => hd, Around.frames_deeper e0.frames, .inr ⟨rfl, rfl⟩, fun b z => absurd z (none_ex b), e0.bs, e0.bsz, fun b _ _ => none_ex b,
      fun b z => absurd z (none_ex b), e0.funs, e0.frf⟩,
    rfl, e0.bare, Un.kept kp, ⟨_, hns, fun i y v e1 e2 e3 => ?_⟩, fun y c e => ?_, e0.hok.fresh (Nat.le_refl _), fun y c e => ?_, fun q hq => absurd (show q ∈ ([] : List (Addr × Obj)) ++ [] from hq) (by simp), e0.hok.kept kp, (wipe_len ks).trans I.len⟩
  · have hy : L.scope.names.lookup y = some .cell ∨ L.scope.names.lookup y = some .free := hy
    exact hy.elim (fun z => absurd rfl (S.nocell _ (PySem.mem_of_lookup z))) fwd
  · have z : false = true := z
    cases z
  · obtain ⟨hk, e2⟩ := wipe_in e2
    have e3 : Vis L.scope y := e3
    rcases e3 with k | k | k
    · exact absurd (S.hide i y e1 k) hk
    · exact absurd rfl (S.nocell _ (PySem.mem_of_lookup k))
    · obtain ⟨m, hn, hl⟩ := I.loc
      have kin := S.free _ (PySem.mem_of_lookup k) rfl
      obtain ⟨u, r, q⟩ := hl i y v e1 e2 (kin.elim (fun k => .inr (.inl k)) fun k => .inr (.inr k))
      obtain ⟨c2, h2⟩ := fwd k
      refine ⟨u, r, .inr ⟨.inr k, c2, h2, ?_⟩⟩
      have c1 := back h2
      rcases q with ⟨k1, _⟩ | ⟨_, c3, e4, z⟩
      · have k1 : X.env.scope.names.lookup y = some .local := k1
        rcases kin with k2 | k2 <;> rw [show X.env.scope.names.lookup y = _ from k2] at k1 <;> cases k1
      · rw [c1] at e4
        cases e4
        exact stay (I.freeC y _ c1) z
  · obtain ⟨u, z⟩ := I.cell y c (back e)
    exact ⟨u, stay (I.freeC y c (back e)) z⟩
  · obtain ⟨v, o, ho, _⟩ := I.cell y c (back e)
    exact un.free c o ho (I.freeC y c (back e)) (by simp)
end

/-! ### over data -/
/-- what the got lambda means in the def that calls it: the maker's names as they stand -/
def actR (C' : Cfg) (K : PySem.W.Frag) (σ : L2.St) (env : Env) (f : Addr) (i : Nat) : LamR where
  r i' a W H := i' = i ∧ a = f ∧ C'.lr.r i f W H ∧ ∀ (j : Nat) (d : D), env[j]? = some (some d) → ∃ v, σ[j]? = some (some v) ∧ RD C' K W H d v
  st i' a W H W' H' l h := ⟨h.1, h.2.1, C'.lr.st _ _ _ _ _ _ l h.2.2.1, fun j d hj => let ⟨v, z, r⟩ := h.2.2.2 j d hj; ⟨v, z, r.lf l⟩⟩
def xAct (j i : Nat) (q : S → Out D) : Ex := fun e s => match e[j]? with
  | some (some (.lam i' [])) => if i' = i then q s else .stuck
  | _ => .stuck
section
variable {C : Cfg} {X : Cx} {pins : List (Addr × Obj)} {σ : L2.St} {H : Hp} {s : Shared} {env : Env} {tab : Nat → Option LamT} {L : LamT} {ks : List Nat} {pn : Str} {f : Addr} {i : Nat}
theorem de_act {Ng : List Str} {qg a : Str} {sg : Scope} {g : Addr} {cdg : Value} {Eg : XK} {k j : Nat} {fb : Ex} {pnz : List (Addr × Obj)} {xe : Value → Shared → Prop} {Wz : WX} {p1 p2 : Pos}
    (I : Inv X pins σ H s) (hl : σ.length = env.length) (ht : tab i = some L) (S : LamS X L ks pn) (tk : Takes ((cxOf (L2.CX X.prog X.w) X.prog X.w X.K X.mg X.base Ng qg sg g cdg X.A X.stack s H Eg).tr pnz xe) Wz)
    (hr : Room (k + 1) (X.A.deeper (envOfC qg sg s.heap.objs.size g cdg)))
    (hbody : ∀ (A : Around) (outer : List PySem.Env) (s : Shared) (H : Hp) (E : XK) (f c' : Addr), Room k (A.deeper (LamX.lamEnv X L.scope s.heap.objs.size f c')) → DE (C.wl (lrOf X tab)) (LamX.lamCx X A outer s H E L.scope f c') (fun c d _ H => E c d H) L.body fb)
    (hN : Ng[j]? = some a) (hv : Vis sg a) (hd : (a == ("__debug__" : Str)) = false := by decide) (hcd : (a == ("__classdict__" : Str)) = false := by decide) :
    DE (C.wl (actR (C.wl (lrOf X tab)) X.K σ env f i)) ((cxOf (L2.CX X.prog X.w) X.prog X.w X.K X.mg X.base Ng qg sg g cdg X.A X.stack s H Eg).tr pnz xe) Wz (.Call (.Name a p1) [] [] p2) (xAct j i fun s => lowO (fb (wipeE env ks) s)) := by
  refine ⟨fun pinsZ sZ σZ HZ QZ IZ h => ?_⟩
  obtain ⟨WZ, envZ, stZ, eZ, qZ⟩ := h
  unfold xAct at qZ
  split at qZ
  rotate_left
  · exact qZ.elim
  rename_i i' hslot
  split at qZ
  rotate_left
  · exact qZ.elim
  rename_i hi
  subst hi
  obtain ⟨v, hv1, hv2⟩ := eZ.sv j _ hslot
  obtain ⟨_, fz, rfl, _, rfl, ⟨L', c', T0, hL, F1, F2, F3, F4, F5⟩, vals⟩ := hv2
  rw [ht] at hL
  cases hL
  refine wpAny_Call_Name_kw (thn ((pe_var (pos := p1) (i := j) hN hv hd hcd).run pinsZ sZ σZ HZ (fun v H1 => v = .ref fz ∧ H1 = HZ) IZ ⟨.ref fz, hv1, rfl, rfl⟩) fun u s1 ⟨v, H1, I1, r1, q1⟩ => ?_)
  obtain ⟨ev, eH⟩ := q1
  subst ev
  rw [eH] at I1
  obtain rfl : u = Value.ref fz := r1
  obtain ⟨⟨pm, ctv, of1⟩, _, _⟩ := I1.hok fz _ F2
  refine PySem.W.callWith_F0 ⟨_, _, _, _, of1⟩ ?_
  have un : Un (frs X.stack) [] H HZ s.heap s1.heap := I1.base
  obtain ⟨⟨oc, vs, t, hoc, hdc, hvc⟩, _, _⟩ := I1.hok c' _ F4
  -- what the body is asked
  have ask : tD (C.wl (lrOf X tab)) X.K (fun c d _ H => WE Wz σZ c d H) fb (wipe σ ks) HZ QZ := by
    refine ⟨WZ, wipeE env ks, stZ, ⟨eZ.st.wl, by rw [wipe_len, wipeE_len]; exact hl, wipeE_both hl vals ks⟩, ?_⟩
    have qZ : Res (C.wl (actR (C.wl (lrOf X tab)) X.K σ env fz i')) X.K (fun W H => RD (C.wl (actR (C.wl (lrOf X tab)) X.K σ env fz i')) X.K W H) Wz σZ envZ WZ HZ stZ (lowO (fb (wipeE env ks) stZ)) QZ := qZ
    generalize fb (wipeE env ks) stZ = oZ at qZ ⊢
    revert qZ
    cases oZ with
    | stuck => exact fun q => False.elim q
    | ok d s' =>
      intro q W' H' b l e r
      have q : Res _ X.K (fun W H => RD _ X.K W H) Wz σZ envZ WZ HZ stZ (if d.low s'.mo.length s'.tg = true then Out.ok d s' else .stuck) QZ := q
      by_cases hlow : d.low s'.mo.length s'.tg = true
      · rw [if_pos hlow] at q
        exact q W' H' b l (eZ.later l e.st.wl) (RD.wl hlow r)
      · rw [if_neg hlow] at q
        exact q.elim
    | exc c es s' =>
      intro q W' H' dd ws l e fr g1 n r
      have q : Res _ X.K (fun W H => RD _ X.K W H) Wz σZ envZ WZ HZ stZ (if D.lows s'.mo.length s'.tg es = true then Out.exc c es s' else .stuck) QZ := q
      by_cases hlow : D.lows s'.mo.length s'.tg es = true
      · rw [if_pos hlow] at q
        exact q W' H' dd ws l (eZ.later l e.st.wl) fr g1 n (RDs.wl hlow r)
      · rw [if_neg hlow] at q
        exact q.elim
  have enter : ∀ bs : List (Str × Value), (∀ y ∈ bs, L.scope.names.lookup y.1 = some .local) → wpAny (model X.prog X.w) (X.A.deeper (envOfC qg sg s.heap.objs.size g cdg)).in1 (newFunctionEnv L.scope mainGlobals (cloFrom X.env.cells L.scope.names []) bs (X.env.qual ++ "<lambda>" ++ ".<locals>.") (some fz) (.ref c') none builtinsNs)
      (fun en s₂ => s₂.heap.NoLimit ∧ codeAny (model X.prog X.w) (X.A.deeper (envOfC qg sg s.heap.objs.size g cdg)) (.expr L.body en) (CR (L2.CX X.prog X.w) (envOfC qg sg s.heap.objs.size g cdg :: X.stack) X.prog X.w HZ s1 QZ (WE Wz σZ)) s₂)
      (fun e s' => CR (L2.CX X.prog X.w) (envOfC qg sg s.heap.objs.size g cdg :: X.stack) X.prog X.w HZ s1 QZ (WE Wz σZ) (.error e) s') s1 := fun bs hloc => by
    refine wpAny_newFunctionEnv (fun y hy => S.nocell y hy) hloc (fun h₁ hns hsb => ⟨I1.nolimit.fresh _ hsb, ?_⟩) S.kind
    show codeAny _ _ (.expr L.body (LamX.lamEnv X L.scope s1.heap.objs.size fz c')) _ _
    have kp : ∀ b o, s1.heap.get? b = some o → h₁.get? b = some o := fun b o e => hsb.extBut b o (Nat.ne_of_lt (Heap.lt_size e)) (Heap.get?_push_of_some _ e)
    have J : Inv (LamX.lamCx X (X.A.deeper (envOfC qg sg s.heap.objs.size g cdg)) (envOfC qg sg s.heap.objs.size g cdg :: X.stack) s1 HZ (WE Wz σZ) L.scope fz c') [] (wipe σ ks) HZ { s1 with heap := h₁, toks := s1.toks + bs.length } := lam_enter I S I1.env0 hr.hd un hns kp
    refine PySem.W.kla_codeExpr (wpAny_mono ((hbody _ _ s1 HZ (WE Wz σZ) fz c' (hr.deeper _)).run [] _ _ HZ QZ J ask) (fun v s' hq => ?_) fun e s' hq => hq)
    obtain ⟨w', H', J', rv, q⟩ := hq
    exact ⟨w', H', J'.os, J'.bare, J'.base, J'.hok, rv, q⟩
  have rc : codeAny (model X.prog X.w) (X.A.deeper (envOfC qg sg s.heap.objs.size g cdg)) (.call (.ref fz) ⟨[], []⟩) (CR (L2.CX X.prog X.w) (envOfC qg sg s.heap.objs.size g cdg :: X.stack) X.prog X.w HZ s1 QZ (WE Wz σZ)) s1 := by
    refine PySem.W.kla_callFunE hr.depth of1 rfl S.co S.gen rfl ⟨c', oc, vs, t, rfl, hoc, hdc, hvc⟩ ?_
    rcases S.dn with d0 | ⟨n, d1⟩
    · have ed : dflV L T0 = .none := by unfold dflV; rw [if_pos d0]
      rw [ed]
      show wpAny _ _ (bindArgs (lamFd (X.env.qual ++ "<lambda>") L (cloFrom X.env.cells L.scope.names []) .none pm (.ref c') ctv) ⟨[], []⟩) _ _ _
      rw [S.b0 d0]
      exact wpAny_pure (enter [] fun y hy => absurd hy (by simp))
    · have ed : dflV L T0 = .ref T0 := by unfold dflV; rw [if_neg (by rw [d1]; simp)]
      rw [ed]
      obtain ⟨b1, b2⟩ := S.b1 n d1
      obtain ⟨kk, k1, k2⟩ := b2 (X.env.qual ++ "<lambda>") (cloFrom X.env.cells L.scope.names []) T0 pm (.ref c') ctv
      rcases F5 with z | ⟨_, z⟩
      · rw [d1] at z
        cases z
      · rw [d1] at z
        obtain ⟨_, its, rvs, o, ho, hc, nn, hdat⟩ := I1.hok T0 _ z
        obtain ⟨u, rfl, ru⟩ := vals1 rvs
        exact BindsTo.of_defaults (fd := lamFd (X.env.qual ++ "<lambda>") L (cloFrom X.env.cells L.scope.names []) (.ref T0) pm (.ref c') ctv) rfl ho hdat k1 (k2 u) _ _ _ _ (enter [(pn, u)] fun y hy => by
          have e : y = (pn, u) := by simpa using hy
          rw [e]
          exact b1)
  refine wpAny_call (codeAny_mono rc fun r s' hq => ?_)
  cases r with
  | error e => exact passAt tk σZ pinsZ HZ s1 e s' I1 hq
  | ok fl =>
    cases fl with
    | ret u => exact I1.after hq
    | next => exact False.elim hq
    | brk => exact False.elim hq
    | cont => exact False.elim hq
end
end DV
end
section
set_option Elab.async false
set_option linter.all false
set_option maxRecDepth 100000
set_option maxHeartbeats 2000000
/-! DI3: the call of a def that gets a lambda of this frame first. -/
namespace DV
open PySem PySem.Spec PyProof.Rows L2

/-- a def whose first argument is a lambda that it calls -/
structure MetOk (C : Cfg) (P : Program) (w : World) (K : PySem.W.Frag) (mg : Str → Option Value) (base : Heap) (k : Nat) (x qual a : Str) (st : Stmt) (f : Addr) (fd : FuncData) (N ps : List Str) (mb : Nat → (S → Out D) → Sx) : Prop where
  F : Fun K x qual st f fd
  sc : FnScope N ps (defScope st)
  a0 : N[0]? = some a
  va : Vis (defScope st) a
  body : ∀ (cdv : Value) (A : Around) (outer : List PySem.Env) (s : Shared) (H : Hp) (E : XK) (r : LamR) (i : Nat) (q : S → Out D), Room k (A.deeper (envOfC qual (defScope st) s.heap.objs.size f cdv)) →
    (∀ (pn : List (Addr × Obj)) (xe : Value → Shared → Prop) (Wz : WX) (p1 p2 : Pos), Takes ((cxOf (L2.CX P w) P w K mg base N qual (defScope st) f cdv A outer s H E).tr pn xe) Wz → DE (C.wl r) ((cxOf (L2.CX P w) P w K mg base N qual (defScope st) f cdv A outer s H E).tr pn xe) Wz (.Call (.Name a p1) [] [] p2) (xAct 0 i q)) →
    DSs (C.wl r) (cxOf (L2.CX P w) P w K mg base N qual (defScope st) f cdv A outer s H E) (fun c d _ H => E c d H) (defBody st) (mb i q)
/-- met(lam, ..) -/
def xMet (mb : Nat → (S → Out D) → Sx) (n nN : Nat) (fbs : Nat → Ex) (fa : Ax) : Ex := fun e s => (fa e s).bind fun ds s1 => match ds with
  | .lam i [] :: r => if D.lows s1.mo.length s1.tg r = true then lowO (runDef n nN (mb i fun s' => lowO (fbs i e s')) s1 (.lam i [] :: r)) else .stuck
  | _ => .stuck
/-- a frame's lambdas -/
structure LamsOk (C : Cfg) (X : Cx) (k : Nat) (tab : Nat → Option LamT) (fbs : Nat → Ex) : Prop where
  each : ∀ i L, tab i = some L → ∃ (ks : List Nat) (pn : Str) (fb : Ex), LamS X L ks pn ∧ (fbs i = fun e s => fb (wipeE e ks) s) ∧
    ∀ (A : Around) (outer : List PySem.Env) (s : Shared) (H : Hp) (E : XK) (f c' : Addr), Room k (A.deeper (LamX.lamEnv X L.scope s.heap.objs.size f c')) → DE (C.wl (lrOf X tab)) (LamX.lamCx X A outer s H E L.scope f c') (fun c d _ H => E c d H) L.body fb
section
variable {C : Cfg} {X : Cx} {Wx : WX} {k : Nat} {x a : Str} {st : Stmt} {f : Addr} {fd : FuncData} {N ps : List Str} {mb : Nat → (S → Out D) → Sx} {tab : Nat → Option LamT} {fbs : Nat → Ex} {e : Expr} {es : List Expr} {fa : Ax} {p pos : Pos}
theorem de_met (M : MetOk C X.prog X.w X.K X.mg X.base (k + 1) x x a st f fd N ps mb) (Ls : LamsOk C X k tab fbs) (hr : Room (k + 2) X.A) (hg : Gl X x) (hm : X.mg x = some (.ref f)) (hk : PySem.W.keepIn X.K (.ref f) = true) (hb : Binds X.K fd ps []) (tk : Takes X Wx)
    (ha : DA (C.wl (lrOf X tab)) X Wx (e :: es) fa) (hdb : (x == ("__debug__" : Str)) = false := by decide) (hd : (a == ("__debug__" : Str)) = false := by decide) (hcd : (a == ("__classdict__" : Str)) = false := by decide)
    (he : starEach (e :: es) X.env = (false, eval e X.env) :: starEach es X.env := by rfl) (hpl : (backTo pos (starEach es X.env)).any (·.1) = false := by rfl) :
    DE (C.wl (lrOf X tab)) X Wx (.Call (.Name x p) (e :: es) [] pos) (xMet mb ps.length N.length fbs fa) := by
  refine ⟨fun pins s σ H Q I h => ?_⟩
  obtain ⟨W, env, s0, e0, q⟩ := h
  refine wpAny_Call_Name_kw (ld_glob I hg hm ?_ hdb)
  have h2 : tAx (C.wl (lrOf X tab)) X.K Wx fa σ H (fun vs H1 => ∃ W1 s1 ds, StE (C.wl (lrOf X tab)) X.K W1 H1 σ env s1 ∧ RDs (C.wl (lrOf X tab)) X.K W1 H1 ds vs ∧ Res (C.wl (lrOf X tab)) X.K (fun W H => RD (C.wl (lrOf X tab)) X.K W H) Wx σ env W1 H1 s1 (match ds with
      | .lam i [] :: r => if D.lows s1.mo.length s1.tg r = true then lowO (runDef ps.length N.length (mb i fun s' => lowO (fbs i env s')) s1 (.lam i [] :: r)) else .stuck
      | _ => .stuck) Q) :=
    ⟨W, env, s0, e0, Res.step q fun W1 H1 s1 ds vs l1 e1 h1 q1 => ⟨W1, s1, ds, e1, h1, q1⟩⟩
  refine PySem.W.callWith_K (h₀ := X.base) I.ok.mod.kin hk (thn (ha.run pos pins s σ H _ I h2) fun us sh1 ⟨vs, H1, I1, r, W1, s1, ds, e1, rds, q1⟩ => ⟨I1.kIn, ?_⟩) he hpl
  clear q h2
  split at q1
  rotate_left
  · exact q1.elim
  rename_i i rest
  split at q1
  rotate_left
  · exact q1.elim
  rename_i hlow
  obtain ⟨v0, vr, rfl, rd0, rdr⟩ := rds
  obtain ⟨_, fz, rfl, lr0⟩ := rd0
  obtain ⟨L, c', T0, hL, R1⟩ := lr0
  obtain ⟨ks, pn, fb, SL, hfb, hbody⟩ := Ls.each i L hL
  obtain ⟨oc, od, kV, doc, pm, an, cdv, ct, osl, rfl, lk, hcode⟩ := M.F.ex
  have HS : spD (C.wl (actR (C.wl (lrOf X tab)) X.K σ env fz i)) X.K (runDef ps.length N.length (mb i fun s' => lowO (fbs i env s'))) (.ref fz :: vr) H1 Q (WE Wx σ) := by
    refine ⟨W1, s1, .lam i [] :: rest, e1.st.wl, ⟨.ref fz, vr, rfl, ⟨rfl, fz, rfl, rfl, rfl, ⟨L, c', T0, hL, R1⟩, e1.sv⟩, RDs.wl hlow rdr⟩, ?_⟩
    revert q1
    cases runDef ps.length N.length (mb i fun s' => lowO (fbs i env s')) s1 (.lam i [] :: rest) with
    | stuck => exact fun q => False.elim q
    | ok d s' =>
      intro q W' H' b l t r'
      have q : Res (C.wl (lrOf X tab)) X.K (fun W H => RD (C.wl (lrOf X tab)) X.K W H) Wx σ env W1 H1 s1 (if d.low s'.mo.length s'.tg = true then Out.ok d s' else .stuck) Q := q
      by_cases hlow : d.low s'.mo.length s'.tg = true
      · rw [if_pos hlow] at q
        exact q W' H' b l (e1.later l t.wl) (RD.wl hlow r')
      · rw [if_neg hlow] at q
        exact q.elim
    | exc c es s' =>
      intro q W' H' dd ws l t f1 g1 n1 r'
      have q : Res (C.wl (lrOf X tab)) X.K (fun W H => RD (C.wl (lrOf X tab)) X.K W H) Wx σ env W1 H1 s1 (if D.lows s'.mo.length s'.tg es = true then Out.exc c es s' else .stuck) Q := q
      by_cases hlow : D.lows s'.mo.length s'.tg es = true
      · rw [if_pos hlow] at q
        exact q W' H' dd ws l (e1.later l t.wl) f1 g1 n1 (RDs.wl hlow r')
      · rw [if_neg hlow] at q
        exact q.elim
  obtain ⟨hn, hts⟩ := run_ts HS
  have hus : us.length = ps.length := by rw [← r.length]; exact hn
  have bt := hb sh1 us I1.kIn (by rw [List.append_nil]; exact hus)
  rw [List.append_nil] at bt
  have rc : codeAny (model X.prog X.w) X.A (.call (.ref f) ⟨us, []⟩) (CR (L2.CX X.prog X.w) X.stack X.prog X.w H1 sh1 Q (WE Wx σ)) sh1 :=
    LamX.run_ofS (N := N) (ps := ps) (us := us) (vs := .ref fz :: vr) lk hcode M.sc hr I1.env0 bt r hn fun hr' => by
      refine ⟨_, M.body cdv X.A X.stack sh1 H1 (WE Wx σ) _ i _ hr' (fun pn xe Wz p1 p2 tk' => ?_), hts⟩
      rw [hfb]
      exact de_act I1 e1.sl hL SL tk' hr' (fun A outer s H E f c' hr2 => hbody A outer s H E f c' hr2) M.a0 M.va hd hcd
  refine wpAny_call (codeAny_mono rc fun r s' hq => ?_)
  cases r with
  | error e => exact passAt tk σ pins H1 sh1 e s' I1 hq
  | ok fl =>
    cases fl with
    | ret u => exact I1.after hq
    | next => exact False.elim hq
    | brk => exact False.elim hq
    | cont => exact False.elim hq
end
end DV
end
section
set_option Elab.async false
set_option linter.all false
set_option maxRecDepth 100000
set_option maxHeartbeats 2000000
/-! DH: small helps for printed derivations. -/
namespace DV
open PySem PySem.Spec PyProof.Rows L2

/-- one of two readings of a text, as the state tells -/
def xEi (c : Env → S → Bool) (f g : Ex) : Ex := fun e s => if c e s = true then f e s else g e s
theorem de_ei {C : Cfg} {X : Cx} {Wx : WX} {e : Expr} {c : Env → S → Bool} {f g : Ex} (h1 : DE C X Wx e f) (h2 : DE C X Wx e g) : DE C X Wx e (xEi c f g) := ⟨fun pins s σ H Q I h => by
  obtain ⟨W, env, st, e, q⟩ := h
  by_cases hc : c env st = true
  · unfold xEi at q
    rw [if_pos hc] at q
    exact h1.run pins s σ H Q I ⟨W, env, st, e, q⟩
  · unfold xEi at q
    rw [if_neg hc] at q
    exact h2.run pins s σ H Q I ⟨W, env, st, e, q⟩⟩
/-- a + b joins two lists -/
def isCat (fa fb : Ex) : Env → S → Bool := fun e s => match fa e s with
  | .ok d s1 => match fb e s1 with
    | .ok _ s2 => (lstD (view s2 d)).isSome
    | _ => false
  | _ => false
def xAdd (fa fb : Ex) : Ex := xEi (isCat fa fb) (xFz (aCat fa fb)) (xBin gAdd fa fb)
theorem de_add {C : Cfg} {X : Cx} {Wx : WX} {a b : Expr} {fa fb : Ex} {pos : Pos} (ha : DE C X Wx a fa) (hb : DE C X Wx b fb) : DE C X Wx (.BinOp a .Add b pos) (xAdd fa fb) := de_ei (NE.fz (ne_cat ha hb)) (de_bin o_add ha hb)
section
variable {k : Nat} {A : Around}
theorem _root_.L2.Room.b64 (r : Room k A) : A.units + 64 < cLine := by have := r.un; omega
theorem _root_.L2.Room.b65 (r : Room k A) : A.units + 65 < cLine := by have := r.un; omega
theorem _root_.L2.Room.b1 (r : Room k A) : A.units + 1 < cLine := by have := r.un; omega
theorem _root_.L2.Room.b8 (r : Room k A) : A.units + 8 < cLine := by have := r.un; omega
end
theorem ip_addD {C : Cfg} {X : Cx} : PIp X .Add (r2 C X.K (gInt fun i j => some (.int (i + j)))) := by
  intro pins s σ H x y v u Q I r1 r2 h
  obtain ⟨W, st, d, e, t, a, b, q⟩ := h
  revert q
  cases hz : gInt (fun i j => some (D.int (i + j))) st d e with
  | none => exact fun q => q.elim
  | some z =>
    obtain ⟨i, j, e1, e2, e3⟩ := intD_inv hz
    have za := see_of t a
    have zb := see_of t b
    rw [e1] at za
    rw [e2] at zb
    cases e3
    exact fun q => ip_add pins s σ H x y v u Q I r1 r2 ⟨i, j, za, zb, q W H _ Le.refl t rfl⟩
def tbOf (ts : List String) (n : String) : Bool := ts.any fun t => n == t || (n == "bool" && t == "int")
example (K : PySem.W.Frag) : PySem.W.kitAny K (.type "bool") [.type "int"] = some true := by rfl
example (K : PySem.W.Frag) : PySem.W.kitAny K (.type "bool") [.type "list", .type "tuple"] = some false := by rfl
section
variable {C : Cfg} {X : Cx} {Wx : WX} {a : Expr} {fa : Ex} {pos p : Pos}
theorem de_is1 {T : Str} {n : String} {p2 : Pos} (hg : Gl X "isinstance") (hm : X.mg "isinstance" = none) (ha : DE C X Wx a fa) (g1 : Gl X T) (m1 : X.mg T = none) (b1 : bootBuiltins T = some (.type n)) (n1 : T ≠ "__name__") (d1 : (T == ("__debug__" : Str)) = false)
    (hT : ∀ m ∈ tyNames, PySem.W.kitAny X.K (.type m) [.type n] = some (tbOf [n] m))
    (hs1 : starEach [a, .Name T p2] X.env = (false, eval a X.env) :: starEach [.Name T p2] X.env := by rfl) (hs2 : starEach [.Name T p2] X.env = (false, eval (.Name T p2) X.env) :: starEach [] X.env := by rfl) (hpl : (backTo pos (starEach [.Name T p2] X.env)).any (·.1) = false := by rfl) :
    DE C X Wx (.Call (.Name "isinstance" p) [a, .Name T p2] [] pos) (xUn (gIsi (tbOf [n]) fun _ => none) fa) :=
  de_isi hg hm ha (pe_bltn (v := .ty n) g1 m1 b1 rfl n1 d1) (.ty n) hT (fun c b h => nomatch h) hs1 hs2 hpl
end
theorem kit7 {K : PySem.W.Frag} {us : List Value} {tb : String → Bool} (h1 : PySem.W.kitAny K (.type "NoneType") us = some (tb "NoneType")) (h2 : PySem.W.kitAny K (.type "bool") us = some (tb "bool")) (h3 : PySem.W.kitAny K (.type "int") us = some (tb "int"))
    (h4 : PySem.W.kitAny K (.type "str") us = some (tb "str")) (h5 : PySem.W.kitAny K (.type "list") us = some (tb "list")) (h6 : PySem.W.kitAny K (.type "tuple") us = some (tb "tuple")) (h7 : PySem.W.kitAny K (.type "dict") us = some (tb "dict")) : ∀ n ∈ tyNames, PySem.W.kitAny K (.type n) us = some (tb n) := fun n hn => by
  simp only [tyNames, List.mem_cons, List.mem_nil_iff, or_false] at hn
  rcases hn with rfl | rfl | rfl | rfl | rfl | rfl | rfl
  · exact h1
  · exact h2
  · exact h3
  · exact h4
  · exact h5
  · exact h6
  · exact h7
end DV
namespace DV
open PySem PySem.Spec PyProof.Rows L2
section
variable {P : Program} {w : World} {K : PySem.W.Frag} {mg : Str → Option Value} {base : Heap} {N : List Str} {q : Str} {sc : Scope} {f : Addr} {cd : Value} {A : Around} {outer : List PySem.Env} {s : Shared} {H : L2.Hp} {E : XK}
theorem tk_cx : Takes (cxOf (L2.CX P w) P w K mg base N q sc f cd A outer s H E) (fun c d _ H => E c d H) := L2.takes_of rfl rfl rfl rfl
theorem own_cx : PassesOwn (model P w) (cxOf (L2.CX P w) P w K mg base N q sc f cd A outer s H E).A (cxOf (L2.CX P w) P w K mg base N q sc f cd A outer s H E).env (cxOf (L2.CX P w) P w K mg base N q sc f cd A outer s H E).xe := passes_of rfl
end
end DV
namespace DV
open PySem PySem.Spec PyProof.Rows L2
section
variable {X : Cx}
theorem pa_ty0 : PA X [] (fun σ H Q => Q [] H) := pa_nil
theorem pa_ty {T : Str} {n : String} {p : Pos} {cs : List Expr} {cvs : List V} (h : PA X cs (fun σ H Q => Q cvs H)) (g1 : Gl X T) (m1 : X.mg T = none) (b1 : bootBuiltins T = some (.type n)) (n1 : T ≠ "__name__") (d1 : (T == ("__debug__" : Str)) = false) :
    PA X (.Name T p :: cs) (fun σ H Q => Q (.ty n :: cvs) H) := pa_cons (pe_bltn (v := .ty n) g1 m1 b1 rfl n1 d1) h
end
end DV
end
section
set_option Elab.async false
set_option linter.all false
set_option maxRecDepth 100000
set_option maxHeartbeats 2000000
/-! DV2: what the head tells, in bundles; parts of a text. -/
namespace DV
open PySem PySem.Spec PyProof.Rows L2
/-- an error of the module: class c, its field -/
structure ExcH (C : Cfg) (P : Program) (w : World) (K : PySem.W.Frag) (mg : Str → Option Value) (x p fld : Str) (c : Nat) where
  m : mg x = some (.ref (C.ca c))
  ox : OexC K (C.ca c)
  aI : Addr
  dI : FuncData
  init : PySem.W.findIn K (.ref (C.ca c)) "__init__" = some (some (.ref aI))
  ti : PySem.W.typeIn K (.ref aI) = some (.type "function")
  cf : C.cf c = [fld]
  ok : ∀ (base : Heap) (k : Nat), FnOk P w K mg base (L2.CX P w) (k + 1) aI dI ["self", p] (spI (C.ca c) fld)
  b : Binds K dI ["self", p] []
  xf : XfC K (C.ca c)
  nf : PySem.W.findIn K (.ref (C.ca c)) fld = some none
/-- a class whose instances are made -/
structure InsH (C : Cfg) (K : PySem.W.Frag) (mg : Str → Option Value) (x : Str) (fs : List Str) (c : Nat) where
  m : mg x = some (.ref (C.ca c))
  aI : Addr
  mkr : Mk K (C.ca c) aI
  cl : Cls K (C.ca c)
  cf : C.cf c = fs
  isi : IsiC K (C.ca c)
  no : ∀ f ∈ fs, NoAttr K (C.ca c) f
theorem InsH.fld {C : Cfg} {K : PySem.W.Frag} {mg : Str → Option Value} {x : Str} {fs : List Str} {c : Nat} (h : InsH C K mg x fs c) (nd : fs.Nodup) {f : Str} {i : Nat} (e : fs[i]? = some f) : FldC C K f c i :=
  ⟨by rw [h.cf]; exact e, by rw [h.cf]; exact nd, h.cl, h.no f (List.mem_of_getElem? e)⟩
def ix1 (c i : Nat) : Nat → Option Nat := fun k => if k = c then some i else none
theorem InsH.fx {C : Cfg} {K : PySem.W.Frag} {mg : Str → Option Value} {x : Str} {fs : List Str} {c : Nat} (h : InsH C K mg x fs c) (nd : fs.Nodup) {f : Str} {i : Nat} (e : fs[i]? = some f) : ∀ c' i', ix1 c i c' = some i' → FldC C K f c' i' := fun c' i' z => by
  unfold ix1 at z
  by_cases hc : c' = c
  · rw [if_pos hc] at z
    cases z
    rw [hc]
    exact h.fld nd e
  · rw [if_neg hc] at z
    cases z
end DV
/-! ### parts of a text; lambdas -/
namespace DV
open PySem PySem.Spec PyProof.Rows L2
def sAt (l : List Stmt) (i : Nat) : Stmt := l.getD i (.Pass ⟨0, 0, 0, 0⟩)
def sBody (s : Stmt) : List Stmt := match s with
  | .For _ _ b _ _ => b
  | .While _ b _ _ => b
  | .If _ b _ _ => b
  | .Try b _ _ _ _ => b
  | _ => []
def sElse (s : Stmt) : List Stmt := match s with
  | .For _ _ _ b _ => b
  | .If _ _ b _ => b
  | _ => []
def sVal (s : Stmt) : Expr := match s with
  | .Assign _ e _ => e
  | .Return (some e) _ => e
  | .Expr e _ => e
  | .For _ e _ _ _ => e
  | .If e _ _ _ => e
  | .AugAssign _ _ e _ => e
  | _ => .Name "" ⟨0, 0, 0, 0⟩
def eAt (e : Expr) (i : Nat) : Expr := (match e with
  | .Call f as ks _ => f :: (as ++ ks.map fun k => PySem.Keyword.value k)
  | .List es _ => es
  | .Tuple es _ _ => es
  | .BoolOp _ es _ => es
  | .BinOp a _ b _ => [a, b]
  | .UnaryOp _ a _ => [a]
  | .Compare a _ bs _ => a :: bs
  | .IfExp t a b _ => [t, a, b]
  | .Subscript a b _ => [a, b]
  | .Attribute a _ _ => [a]
  | _ => []).getD i e
def lamOf (e : Expr) (dn : List Int) : LamT := match e with
  | .Lambda p b s _ => ⟨p, b, s, dn⟩
  | _ => ⟨{ posonlyargs := [], args := [], vararg := none, kwonlyargs := [], kw_defaults := [], kwarg := none, defaults := [] }, e, { kind := .function, names := [], isGenerator := false, isCoroutine := false }, dn⟩
def lamC (L : LamT) (sc : Scope) (N : List Str) (ks : List Nat) : Bool :=
  (match L.scope.kind with | .function => true | _ => false) && !L.scope.isCoroutine && !L.scope.isGenerator && (L.scope.names.all fun y => decide (y.2 ≠ .cell)) &&
  (L.scope.names.all fun y => decide (y.2 ≠ .free) || decide (sc.names.lookup y.1 = some .cell) || decide (sc.names.lookup y.1 = some .free)) &&
  (N.zipIdx.all fun p => decide (L.scope.names.lookup p.1 ≠ some .local) || decide (p.2 ∈ ks))
theorem lamS_by {X : Cx} {L : LamT} {ks : List Nat} {pn : Str} (h : lamC L X.env.scope X.N ks = true)
    (b0 : L.dn = [] → ∀ (q : Str) (cl : List (Str × Addr)) (pm cdv ct : Value), bindArgs (lamFd q L cl .none pm cdv ct) ⟨[], []⟩ = pure [])
    (b1 : ∀ i, L.dn = [i] → L.scope.names.lookup pn = some .local ∧ ∀ (q : Str) (cl : List (Str × Addr)) (T : Addr) (pm cdv ct : Value), ∃ k : Option (Array Value) → Sem (List (Str × Value)), bindArgs (lamFd q L cl (.ref T) pm cdv ct) ⟨[], []⟩ = seqItems? (.ref T) >>= k ∧ ∀ v, k (some #[v]) = pure [(pn, v)])
    (dn : L.dn = [] ∨ ∃ i, L.dn = [i]) : LamS X L ks pn := by
  unfold lamC at h
  simp only [Bool.and_eq_true, List.all_eq_true, Bool.or_eq_true, decide_eq_true_eq, Bool.not_eq_true'] at h
  obtain ⟨⟨⟨⟨⟨h1, h2⟩, h3⟩, h4⟩, h5⟩, h6⟩ := h
  refine ⟨?_, h2, h3, fun y hy => h4 y hy, fun y hy e => ?_, fun i x hi hx => ?_, b0, b1, dn⟩
  · revert h1
    cases L.scope.kind <;> simp
  · rcases h5 y hy with (z | z) | z
    · exact absurd e z
    · exact .inl z
    · exact .inr z
  · have hm : (x, i) ∈ X.N.zipIdx := by
      rw [List.mem_zipIdx_iff_getElem?]
      exact hi
    rcases h6 _ hm with z | z
    · exact absurd hx z
    · exact z
section
variable {X : Cx} {A : Around} {outer : List PySem.Env} {s : Shared} {H : L2.Hp} {E : XK} {sc : Scope} {f c : Addr}
theorem tk_lam : Takes (LamX.lamCx X A outer s H E sc f c) (fun c d _ H => E c d H) := L2.takes_of rfl rfl rfl rfl
end
theorem makesL_by {X : Cx} {T : List NdefX.NTab} {c P : Addr} {L : LamT} {pos : Pos} {q : Str} (tb : LamX.TabB X.base X.mg c P) (code : X.env.code = .ref c) (hq : X.env.qual ++ "<lambda>" = q) (inT : (P, (fun _ _ => q : Nat → Nat → Str)) ∈ T) (uniq : ∀ p ∈ T, p.1 = P → p.2 = fun _ _ => q)
    (free : (L.scope.names.all fun y => decide (y.2 ≠ .free) || decide (X.env.scope.names.lookup y.1 = some .cell) || decide (X.env.scope.names.lookup y.1 = some .free)) = true) (kwo : L.params.kwonlyargs = [])
    (dfl : (L.dn = [] ∧ defaultsOf L.params X.env = ([], [])) ∨ ∃ (i : Int) (j : Nat) (p : Pos), L.dn = [i] ∧ defaultsOf L.params X.env = ([eval (.Constant (.int i) j p) X.env], [])) : MakesL X T c P (fun _ _ => q) L pos :=
  ⟨tb, code, inT, hq.symm, uniq, fun y hy e => by
    simp only [List.all_eq_true, Bool.or_eq_true, decide_eq_true_eq] at free
    rcases free y hy with (z | z) | z
    · exact absurd e z
    · exact .inl z
    · exact .inr z, kwo, dfl⟩
end DV
namespace DV
open PySem PySem.Spec PyProof.Rows L2
theorem fn_stuck {C : Cfg} {P : Program} {w : World} {K : PySem.W.Frag} {mg : Str → Option Value} {base : Heap} {CX : CXT} {k : Nat} {f : Addr} {fd : FuncData} {ps : List Str} : FnOk P w K mg base CX k f fd ps (spD C K fun _ _ => .stuck) :=
  ⟨fun vs H Q E ⟨_, _, _, _, _, q⟩ => q.elim, fun A outer s H args us vs Q E hr e0 hb r ⟨_, _, _, _, _, q⟩ => q.elim⟩
def ExcH.wl {C : Cfg} {P : Program} {w : World} {K : PySem.W.Frag} {mg : Str → Option Value} {x p fld : Str} {c : Nat} (h : ExcH C P w K mg x p fld c) (r : LamR) : ExcH (C.wl r) P w K mg x p fld c := ⟨h.m, h.ox, h.aI, h.dI, h.init, h.ti, h.cf, h.ok, h.b, h.xf, h.nf⟩
def InsH.wl {C : Cfg} {K : PySem.W.Frag} {mg : Str → Option Value} {x : Str} {fs : List Str} {c : Nat} (h : InsH C K mg x fs c) (r : LamR) : InsH (C.wl r) K mg x fs c := ⟨h.m, h.aI, h.mkr, h.cl, h.cf, h.isi, h.no⟩
end DV
namespace DV
theorem mk_eq {K : PySem.W.Frag} {c a b : PySem.Addr} (e : a = b) (h : L2.Mk K c a) : L2.Mk K c b := e ▸ h
end DV
end
section
set_option Elab.async false
set_option linter.all false
set_option maxRecDepth 100000
set_option maxHeartbeats 2000000
/-! DE2: a def that hands out an object of its own that its caller may change. -/
namespace DV
open PySem PySem.Spec PyProof.Rows L2
def MO.live : MO → Bool
  | .dead => false
  | _ => true
/-- as fin, but an own object stays one -/
def finO (s : S) (d : D) (s' : S) : Out D := match d with
  | .ref i => if i < s.mo.length then fin s d s' else match s'.mo[i]? with
    | some o => if o.live = true then .ok (.ref s.mo.length) ⟨s'.mo.take s.mo.length ++ [o], s'.tg⟩ else .stuck
    | none => .stuck
  | d => fin s d s'
def endDefO (s : S) : Fl → Out D
  | .ret d s' => finO s d s'
  | r => endDef s r
def runDefO (n nN : Nat) (f : Sx) : S → List D → Out D := fun s ds => if ds.length = n then endDefO s (f (ds.map some ++ List.replicate (nN - ds.length) none) s) else .stuck
theorem Le.len {W W' : Wd} {H H' : Hp} {s s' : S} (l : Le W H s W' H' s') : W.al.length ≤ W'.al.length := len_al l
/-- the world that the caller sees: one more object -/
def Wd.backO (W W' : Wd) (a : Addr) : Wd := ⟨W'.F, W.al ++ [a], W'.ts⟩
section
variable {C : Cfg} {K : PySem.W.Frag} {W W' : Wd} {H H' : Hp} {s s' : S} {i : Nat} {a : Addr} {o : MO}
theorem mok_low {W1 W2 : Wd} (h : MOk C K W1 H' a o) (hF : ∀ b, W1.F b → W2.F b) (hT : ∀ (i : Nat) (v : V), W1.ts[i]? = some v → W2.ts[i]? = some v) : MOk C K W2 H' a o := by
  cases o with
  | lst xs =>
    obtain ⟨vs, g1, g2, g3⟩ := h
    exact ⟨vs, g1, RDs.low (W := W1) (W' := W2) (n := 0) (t := 0) rfl rfl rfl hF (fun i z => absurd z (Nat.not_lt_zero _)) hT xs vs g3 g2, g3⟩
  | dK ks vs =>
    obtain ⟨kvs, g1, g2, g3, g4⟩ := h
    exact ⟨kvs, g1, g2, RDs.low (W := W1) (W' := W2) (n := 0) (t := 0) rfl rfl rfl hF (fun i z => absurd z (Nat.not_lt_zero _)) hT vs _ g4 g3, g4⟩
  | dT ks vs =>
    obtain ⟨kvs, g1, g2, g3, g4⟩ := h
    exact ⟨kvs, g1, g2, RDs.low (W := W1) (W' := W2) (n := 0) (t := 0) rfl rfl rfl hF (fun i z => absurd z (Nat.not_lt_zero _)) hT vs _ g4 g3, g4⟩
  | ins c vs =>
    obtain ⟨dx, ws, g1, g2, g3, g4⟩ := h
    exact ⟨dx, ws, g1, g2, RDs.low (W := W1) (W' := W2) (n := 0) (t := 0) rfl rfl rfl hF (fun i z => absurd z (Nat.not_lt_zero _)) hT vs _ g4 g3, g4⟩
  | dead => exact True.intro
theorem Le.backO (l : Le W H s W' H' s') (t : StS C K W H s) (hi : W.al.length ≤ i) (ha : W'.al[i]? = some a) : Le W H s (W.backO W' a) H' ⟨s'.mo.take s.mo.length ++ [o], s'.tg⟩ := by
  refine ⟨l.fz, fun j b h => ?_, l.ts, l.ext, l.dom, fun j h => ?_, fun j b hj h => ?_, l.nw⟩
  · show (W.al ++ [a])[j]? = some b
    rw [List.getElem?_append_left (List.getElem?_eq_some_iff.mp h).1]
    exact h
  · have hj : j < s.mo.length := (List.getElem?_eq_some_iff.mp h).1
    show (s'.mo.take s.mo.length ++ [o])[j]? = some .dead
    have h2 := l.ded j h
    have hl : j < (s'.mo.take s.mo.length).length := by
      rw [List.length_take]
      have := (List.getElem?_eq_some_iff.mp h2).1
      omega
    rw [List.getElem?_append_left hl, List.getElem?_take, if_pos hj]
    exact h2
  · have h' : (W.al ++ [a])[j]? = some b := h
    rw [List.getElem?_append_right hj] at h'
    cases e : j - W.al.length with
    | zero =>
      rw [e] at h'
      cases h'
      exact l.new i a hi ha
    | succ n =>
      rw [e] at h'
      simp at h'
theorem StS.backO (l : Le W H s W' H' s') (t : StS C K W H s) (t' : StS C K W' H' s') (hi : W.al.length ≤ i) (ha : W'.al[i]? = some a) (ho : s'.mo[i]? = some o) (lv : o.live = true) : StS C K (W.backO W' a) H' ⟨s'.mo.take s.mo.length ++ [o], s'.tg⟩ := by
  have hl := len_al l
  have e1 := t.len
  have e2 := t'.len
  have hb := StS.back l t t'
  have tl : (s'.mo.take s.mo.length).length = W.al.length := by
    rw [List.length_take]
    omega
  have na : a ∉ W.al := fun z => t.alh a z (l.new i a hi ha)
  refine ⟨?_, t'.tln, ?_, fun j u b h1 h2 => ?_, fun b h => ?_, fun b hb2 => ?_, tbs_mono hb.tb fun _ h => h⟩
  · show (W.al ++ [a]).length = (s'.mo.take s.mo.length ++ [o]).length
    rw [List.length_append, List.length_append, tl]
    rfl
  · show (W.al ++ [a]).Nodup
    rw [List.nodup_append]
    refine ⟨t.nod, by simp, fun b hb1 c hc => ?_⟩
    have hc : c = a := by simpa using hc
    subst hc
    exact fun z => na (z ▸ hb1)
  · have h1 : (s'.mo.take s.mo.length ++ [o])[j]? = some u := h1
    have h2 : (W.al ++ [a])[j]? = some b := h2
    by_cases hj : j < W.al.length
    · rw [List.getElem?_append_left (by omega)] at h1
      rw [List.getElem?_append_left hj] at h2
      exact mok_low (hb.mo j u b h1 h2) (fun _ h => h) fun _ _ h => h
    · have z : j < (W.al ++ [a]).length := (List.getElem?_eq_some_iff.mp h2).1
      rw [List.length_append, List.length_singleton] at z
      have hj2 : j = W.al.length := by omega
      subst hj2
      rw [List.getElem?_append_right (by omega)] at h1
      rw [List.getElem?_append_right (Nat.le_refl _)] at h2
      simp only [Nat.sub_self, List.getElem?_cons_zero, Option.some.injEq, tl] at h1 h2
      subst h1 h2
      exact mok_low (t'.mo i o a ho ha) (fun _ h => h) fun _ _ h => h
  · obtain ⟨g1, g2, g3⟩ := t'.fz b h
    refine ⟨g1, g2, fun j hj => ?_⟩
    have hj' : (W.al ++ [a])[j]? = some b := hj
    show (s'.mo.take s.mo.length ++ [o])[j]? = some .dead
    by_cases hj2 : j < W.al.length
    · rw [List.getElem?_append_left hj2] at hj'
      have := (hb.fz b h).2.2 j hj'
      rw [List.getElem?_append_left (by omega)]
      exact this
    · have z : j < (W.al ++ [a]).length := (List.getElem?_eq_some_iff.mp hj').1
      rw [List.length_append, List.length_singleton] at z
      have hj3 : j = W.al.length := by omega
      subst hj3
      rw [List.getElem?_append_right (Nat.le_refl _)] at hj'
      simp only [Nat.sub_self, List.getElem?_cons_zero, Option.some.injEq] at hj'
      subst hj'
      have := g3 i ha
      rw [ho] at this
      cases this
      cases lv
  · have hb2 : b ∈ W.al ++ [a] := hb2
    rw [List.mem_append, List.mem_singleton] at hb2
    rcases hb2 with z | z
    · exact l.dom b (t.alh b z)
    · subst z
      exact t'.alh _ (List.mem_of_getElem? ha)
end
/-- THE END OF A FRAME -/
theorem end_okO {C : Cfg} {K : PySem.W.Frag} {W W1 : Wd} {H H1 : Hp} {s s1 : S} {d : D} {v : V} {Q : VK} {E : XK} (t : StS C K W H s) (l : Le W H s W1 H1 s1) (t1 : StS C K W1 H1 s1) (r : RD C K W1 H1 d v)
    (h : match finO s d s1 with
      | .ok d s' => ∀ W' H' v, Le W H s W' H' s' → StS C K W' H' s' → RD C K W' H' d v → Q v H'
      | .exc c es s' => ∀ W' H' dd ws, Le W H s W' H' s' → StS C K W' H' s' → W'.F dd → H' dd = some (.xd ((C.cf c).zip ws)) → (C.cf c).length = ws.length → RDs C K W' H' es ws → E (.ref (C.ca c)) (some dd) H'
      | .stuck => False) : Q v H1 := by
  cases d with
  | ref i =>
    by_cases hi : i < s.mo.length
    · have e : finO s (.ref i) s1 = fin s (.ref i) s1 := if_pos hi
      rw [e] at h
      exact end_ok (E := E) t l t1 r h
    · have e : finO s (.ref i) s1 = match s1.mo[i]? with
        | some o => if o.live = true then .ok (.ref s.mo.length) ⟨s1.mo.take s.mo.length ++ [o], s1.tg⟩ else .stuck
        | none => .stuck := if_neg hi
      rw [e] at h
      revert h
      cases ho : s1.mo[i]? with
      | none => exact fun h => h.elim
      | some o =>
        by_cases lv : o.live = true
        · simp only [if_pos lv]
          intro h
          obtain ⟨a, ha, e⟩ := r
          have hi2 : W.al.length ≤ i := by rw [t.len]; exact Nat.le_of_not_lt hi
          refine h (W.backO W1 a) H1 v (l.backO t hi2 ha) (StS.backO l t t1 hi2 ha ho lv) ⟨a, ?_, e⟩
          show (W.al ++ [a])[s.mo.length]? = some a
          rw [← t.len, List.getElem?_append_right (Nat.le_refl _), Nat.sub_self]
          rfl
        · simp only [if_neg lv]
          exact fun h => h.elim
  | _ => exact end_ok (E := E) t l t1 r h
theorem fn_defO {C : Cfg} {P : Program} {w : World} {K : PySem.W.Frag} {mg : Str → Option Value} {base : Heap} {k : Nat} {x qual : Str} {st : Stmt} {f : Addr} {fd : FuncData} {N ps : List Str} {body : Sx} (F : Fun K x qual st f fd) (S : FnScope N ps (defScope st))
    (hb : ∀ (cdv : Value) (A : Around) (outer : List PySem.Env) (s : Shared) (H : Hp) (E : XK), Room k (A.deeper (envOfC qual (defScope st) s.heap.objs.size f cdv)) →
      DSs C (cxOf (L2.CX P w) P w K mg base N qual (defScope st) f cdv A outer s H E) (fun c d _ H => E c d H) (defBody st) body) : FnOk P w K mg base (L2.CX P w) (k + 1) f fd ps (spD C K (runDefO ps.length N.length body)) := by
  refine F.okX S (fun vs H Q E h => ?_) (fun cdv A outer s H vs Q E hr h => ?_)
  · obtain ⟨W, s, ds, t, r, q⟩ := h
    rw [← r.length]
    by_cases hn : ds.length = ps.length
    · exact hn
    · unfold runDefO at q
      rw [if_neg hn] at q
      exact q.elim
  · obtain ⟨W, s0, ds, t, r, q⟩ := h
    refine ⟨_, hb cdv A outer s H E hr, W, _, s0, RDs.start t r, ?_⟩
    unfold runDefO at q
    by_cases hn : ds.length = ps.length
    · rw [if_pos hn] at q
      revert q
      cases body (ds.map some ++ List.replicate (N.length - ds.length) none) s0 with
      | next e' s' => exact fun q W1 σ1 H1 l1 e1 => q (W.back W1) H1 .non (l1.back t) (StS.back l1 t e1.st) rfl
      | ret d s' => exact fun q W1 v H1 l1 t1 r1 => end_okO (E := E) t l1 t1 r1 q
      | exc c vs e' s' =>
        have e : endDefO s0 (.exc c vs e' s') = if D.lows s0.mo.length s0.tg vs = true then .exc c vs (DV.back s0 s') else .stuck := rfl
        rw [e]
        by_cases hlow : D.lows s0.mo.length s0.tg vs = true
        · simp only [if_pos hlow]
          intro q W1 σ1 H1 dd ws l1 e1 f1 g1 n1 r1
          exact q (W.back W1) H1 dd ws (l1.back t) (StS.back l1 t e1.st) f1 g1 n1 (RDs.low (W := W1) (W' := W.back W1) (n := s0.mo.length) (t := s0.tg) rfl rfl rfl (fun _ z => z) (fun i hi => back_al l1 i (by rw [t.len]; exact hi)) (fun _ _ z => z) vs ws hlow r1)
        · simp only [if_neg hlow]
          exact fun q => q.elim
      | brk _ _ => exact fun q => q.elim
      | cont _ _ => exact fun q => q.elim
      | stuck => exact fun q => q.elim
    · rw [if_neg hn] at q
      exact q.elim
end DV
end
section
set_option Elab.async false
set_option linter.all false
set_option maxRecDepth 100000
set_option maxHeartbeats 2000000
/-! DF: a told list (a told dict) is marked, looked at by another name, unmarked. -/
namespace DV
open PySem PySem.Spec PyProof.Rows L2
/-- one and the same thing, by its tag -/
def sameTag (a b : D) : Option D := match a, b with
  | .tag i _, .tag j d => if i = j then some d.strip else none
  | _, _ => none
def sVeryL : Sx := fun e s => match e with
  | [some a, some b, _] => (match sameTag a b with
    | some (.lst xs) => if xs.length < sizeLine then .ret (.bl true) s else .stuck
    | _ => .stuck)
  | _ => .stuck
def lateD (k : D) : Bool := match k with
  | .str x => decide (x = (" late " : Str))
  | _ => false
def sVeryD : Sx := fun e s => match e with
  | [some a, some b, _] => (match sameTag a b with
    | some (.dct ks vs) => if ks.length < sizeLine ∧ ks.all (fun k => match k with | .int _ => true | .str x => !decide (x = (" late " : Str)) | _ => false) = true then .ret (.bl true) s else .stuck
    | _ => .stuck)
  | _ => .stuck
abbrev tVL (K : PySem.W.Frag) : TS :=
  tSeq (tDrop (tBM K "list" rAppend (L2.tVar 1) (tCons (tC (.str " late ")) tNil)))
  (tSeq (tAsg (tAndV (tCB (rIsi K) (tCons (L2.tVar 0) (tCons (tC (.ty "list")) tNil)))
    (tAndV (tOp rEq (tCB (fun xs H Q => ∃ x n, xs = [x] ∧ LenV K x H n ∧ Q (.int n) H) (tCons (L2.tVar 0) tNil)) (tCB (fun xs H Q => ∃ x n, xs = [x] ∧ LenV K x H n ∧ Q (.int n) H) (tCons (L2.tVar 1) tNil)))
      (tOp rEq (tOp (rIx K) (L2.tVar 0) (tUn (rU fun i => .int (-i)) (tC (.int 1)))) (tC (.str " late "))))) (gName 2))
  (tSeq (tDrop (tBM0 K "list" rPop (L2.tVar 1))) (tRet (L2.tVar 2))))
abbrev tVD (K : PySem.W.Frag) : TS :=
  tSeq (tAsg (tC (.int 7)) (L2.gSub (L2.tVar 1) (tC (.str " late ")) rSetD))
  (tSeq (tAsg (tAndV (tCB (rIsi K) (tCons (L2.tVar 0) (tCons (tC (.ty "dict")) tNil)))
    (tAndV (tOp rEq (tCB (fun xs H Q => ∃ a kvs, xs = [V.ref a] ∧ H a = some (.dK kvs) ∧ Q (.int kvs.length) H) (tCons (L2.tVar 0) tNil)) (tCB (fun xs H Q => ∃ a kvs, xs = [V.ref a] ∧ H a = some (.dK kvs) ∧ Q (.int kvs.length) H) (tCons (L2.tVar 1) tNil)))
      (tOp rEq (tDGet1 (L2.tVar 0) (tC (.str " late "))) (tC (.int 7))))) (gName 2))
  (tSeq (tDrop (tDPop1 (L2.tVar 1) (tC (.str " late ")))) (tRet (L2.tVar 2))))
abbrev tV1 : TS := tAsg (tC (.int 7)) (L2.gSub (L2.tVar 1) (tC (.str " late ")) rSetD)
abbrev tV2 (K : PySem.W.Frag) : TS := tAsg (tAndV (tCB (rIsi K) (tCons (L2.tVar 0) (tCons (tC (.ty "dict")) tNil)))
    (tAndV (tOp rEq (tCB (fun xs H Q => ∃ a kvs, xs = [V.ref a] ∧ H a = some (.dK kvs) ∧ Q (.int kvs.length) H) (tCons (L2.tVar 0) tNil)) (tCB (fun xs H Q => ∃ a kvs, xs = [V.ref a] ∧ H a = some (.dK kvs) ∧ Q (.int kvs.length) H) (tCons (L2.tVar 1) tNil)))
      (tOp rEq (tDGet1 (L2.tVar 0) (tC (.str " late "))) (tC (.int 7))))) (gName 2)
abbrev tV3 : TS := tDrop (tDPop1 (L2.tVar 1) (tC (.str " late ")))
theorem upd_back {H : Hp} {a : Addr} {o o' : HO} (h : H a = some o) : L2.upd (L2.upd H a o') a o = H := by
  funext b
  by_cases e : b = a
  · rw [e, upd_same, h]
  · rw [upd_ne e, upd_ne e]
theorem σ3 {C : Cfg} {K : PySem.W.Frag} {W : Wd} {H : Hp} {σ : L2.St} {s : S} {a b : D} {c : Option D} (e : StE C K W H σ [some a, some b, c] s) : ∃ (u v : V) (w : Option V), σ = [some u, some v, w] ∧ RD C K W H a u ∧ RD C K W H b v := by
  have hl := e.sl
  obtain ⟨u, h1, r1⟩ := e.sv 0 a rfl
  obtain ⟨v, h2, r2⟩ := e.sv 1 b rfl
  match σ, hl, h1, h2 with
  | [x, y, z], _, h1, h2 =>
    have h1 : x = some u := by simpa using h1
    have h2 : y = some v := by simpa using h2
    exact ⟨u, v, z, by rw [h1, h2], r1, r2⟩
theorem tag_of {C : Cfg} {K : PySem.W.Frag} {W : Wd} {H : Hp} {a b d : D} {u v : V} (h : sameTag a b = some d) (r1 : RD C K W H a u) (r2 : RD C K W H b v) : u = v ∧ RD C K W H d v := by
  unfold sameTag at h
  split at h
  · rename_i i a' j b'
    by_cases e : i = j
    · rw [if_pos e] at h
      subst e
      cases h
      obtain ⟨h1, _⟩ := r1
      obtain ⟨h2, q⟩ := r2
      exact ⟨Option.some.inj (h1.symm.trans h2 |> Option.some.inj |> congrArg some), q.strip⟩
    · rw [if_neg e] at h
      cases h
  · cases h
theorem atI_last {xs : List V} {y : V} : L2.atI (xs ++ [y]) (-1) = some y := by
  unfold L2.atI L2.ixN
  have h1 : ¬ (0 ≤ (-1 : Int)) := by decide
  have h2 : -(((xs ++ [y]).length : Nat) : Int) ≤ -1 := by rw [List.length_append, List.length_singleton]; omega
  rw [if_neg h1, if_pos h2]
  have h3 : ((-1 : Int) + ((xs ++ [y]).length : Nat)).toNat = xs.length := by rw [List.length_append, List.length_singleton]; omega
  rw [h3]
  show (xs ++ [y])[xs.length]? = some y
  rw [List.getElem?_append_right (Nat.le_refl _), Nat.sub_self]
  rfl
theorem dss_veryL {C : Cfg} {X : Cx} {Wx : WX} {st : List Stmt} (h : PSs X st (tVL X.K)) : DSs C X Wx st sVeryL := PSs.imp h fun D σ H q => by
  obtain ⟨W, env, s, e, q⟩ := q
  unfold sVeryL at q
  split at q
  · rename_i a b c
    split at q
    · rename_i xs hx
      by_cases hl : xs.length < sizeLine
      · rw [if_pos hl] at q
        obtain ⟨u, v, w, rfl, r1, r2⟩ := σ3 e
        obtain ⟨rfl, p, vs, rfl, _, hp, rs⟩ := tag_of hx r1 r2
        have hlen := rs.length
        have hq : D.rt (.bl true) H := q W (.bl true) H Le.refl e.st rfl
        have n1 : L2.upd H p (.lst (vs ++ [V.str " late "])) p = some (.lst (vs ++ [V.str " late "])) := upd_same
        refine ⟨_, rfl, .inl ⟨rfl, vs, SqL.of hp⟩, p, vs, _, rfl, rfl, hp, by omega, ?_⟩
        refine ⟨_, rfl, _, _, _, _, true, rfl, .ty "list", .base (.lst n1), rfl, true, rfl, ?_⟩
        refine ⟨_, rfl, _, (vs ++ [V.str " late "]).length, rfl, .inl ⟨_, SqL.of n1, rfl⟩, _, rfl, _, (vs ++ [V.str " late "]).length, rfl, .inl ⟨_, SqL.of n1, rfl⟩, rfl, true, by simp, ?_⟩
        refine ⟨_, rfl, 1, rfl, .inl ⟨p, _, _, _, rfl, rfl, SqL.of n1, atI_last, rfl, ?_⟩⟩
        rw [decide_eq_true rfl]
        refine ⟨_, rfl, .inl ⟨rfl, _, SqL.of n1⟩, p, _, V.str " late ", rfl, rfl, n1, by rw [List.length_append, List.length_singleton, Nat.add_sub_cancel, List.getElem?_append_right (Nat.le_refl _), Nat.sub_self]; rfl, ?_⟩
        rw [List.dropLast_concat, upd_back hp]
        exact ⟨_, rfl, hq⟩
      · rw [if_neg hl] at q
        exact q.elim
    · exact q.elim
  · exact q.elim
theorem dss_veryD {C : Cfg} {X : Cx} {Wx : WX} {s1 s2 s3 s4 : Stmt} (h1 : PS X s1 tV1) (h2 : PS X s2 (tV2 X.K)) (h3 : PS X s3 tV3) (h4 : PS X s4 (tRet (L2.tVar 2))) : DSs C X Wx [s1, s2, s3, s4] sVeryD := PSs.imp (show PSs X _ (tVD X.K) from pss_cons h1 (pss_cons h2 (pss_cons h3 (pss_one h4)))) fun D σ H q => by
  obtain ⟨W, env, s, e, q⟩ := q
  unfold sVeryD at q
  split at q
  · rename_i a b c
    split at q
    · rename_i ks ws hx
      split at q
      · rename_i hl
        obtain ⟨hl, hk⟩ := hl
        obtain ⟨u, v, w, rfl, r1, r2⟩ := σ3 e
        obtain ⟨rfl, p, vs, rfl, _, hp, rs⟩ := tag_of hx r1 r2
        have hq : D.rt (.bl true) H := q W (.bl true) H Le.refl e.st rfl
        rcases hp with ⟨kvs, hp, hk2, _⟩ | ⟨kvs, hp, hk2, _, hk3⟩
        · have nk : ∀ kv ∈ kvs, kv.1 ≠ (.inr " late " : Key) := fun kv hkv z => by
            have h1 := List.all_eq_true.mp hk (keyD kv.1) (by rw [hk2]; exact List.mem_map.mpr ⟨kv, hkv, rfl⟩)
            rw [z] at h1
            have h1 : (!decide ((" late " : Str) = (" late " : Str))) = true := h1
            rw [decide_eq_true rfl] at h1
            cases h1
          have an : (kvs.any fun kv => decide (kv.1 = (.inr " late " : Key))) = false := by
            rw [List.any_eq_false]
            intro kv hkv
            simp [nk kv hkv]
          have pk : L2.putK kvs (.inr " late " : Key) (V.int 7) = kvs ++ [(.inr " late ", V.int 7)] := by
            unfold L2.putK
            rw [an]
            rfl
          have hlen : kvs.length < sizeLine := by rw [hk2, List.length_map] at hl; exact hl
          have n1 : L2.upd H p (.dK (kvs ++ [(.inr " late ", V.int 7)])) p = some (.dK (kvs ++ [(.inr " late ", V.int 7)])) := upd_same
          have vl : valV (kvs ++ [((.inr " late " : Key), V.int 7)]) (.inr " late ") = some (V.int 7) := by
            unfold valV
            rw [List.find?_append, show kvs.find? (fun kv => decide (kv.1 = (.inr " late " : Key))) = none from List.find?_eq_none.mpr fun kv hkv => by simp [nk kv hkv]]
            rfl
          have dk : dropK (kvs ++ [((.inr " late " : Key), V.int 7)]) (.inr " late ") = kvs := by
            unfold dropK
            rw [List.filter_append, List.filter_eq_self.mpr fun kv hkv => by simp [nk kv hkv]]
            simp
          refine ⟨_, rfl, p, _, rfl, .inl ⟨kvs, .inr " late ", hp, rfl, hlen, rfl⟩, ?_⟩
          rw [pk]
          refine ⟨_, rfl, _, _, _, _, true, rfl, .ty "dict", .base (.dK n1), rfl, true, rfl, ?_⟩
          refine ⟨_, rfl, p, _, rfl, n1, _, rfl, p, _, rfl, n1, rfl, true, by simp, ?_⟩
          refine ⟨_, rfl, p, rfl, .inl ⟨_, .of n1⟩, _, .inl ⟨_, .inr " late ", .of n1, rfl, rfl⟩, ?_⟩
          rw [vl]
          refine ⟨rfl, ?_⟩
          show (gName 2) (.bl (decide (V.int 7 = V.int 7))) _ _ _
          rw [decide_eq_true rfl]
          refine ⟨_, rfl, p, rfl, .inl ⟨_, .of n1⟩, _, .inr " late ", V.int 7, n1, rfl, vl, ?_⟩
          rw [dk, upd_back hp]
          exact ⟨_, rfl, hq⟩
        · cases kvs with
          | nil => exact absurd rfl hk3
          | cons kv kvs =>
            rw [hk2] at hk
            have h1 := List.all_eq_true.mp hk _ (List.mem_map.mpr ⟨kv, List.mem_cons_self, rfl⟩)
            cases h1
      · exact q.elim
    · exact q.elim
  · exact q.elim
end DV
end
section
set_option Elab.async false
set_option linter.all false
set_option maxRecDepth 100000
set_option maxHeartbeats 2000000
/-! EX1: an own error made by a call, with keywords too: its __init__ gets them. -/
namespace PySem.DVEX
open PySem.W PySem.Calls PyProof.Rows PySem.HandSPX
section
variable {prog : Program} {w : World} {A : Around} {E : Value → Shared → Prop} {R : Result → Shared → Prop} {h : Heap} {g : Array GenState} {d : Drawn} {t : Nat} {os : OsState}
variable {nm q : Str} {C N : Addr} {bs bm bmB : List Value} {hdct : Bool} {sn : List Str} {sub : List Value} {ab : Bool} {col : Option Bool} {dd : Option Addr} {k0 k1 k2 k3 k5 : Option Value} {B newId initId : String}
variable {us : List Value} {kw : List (Str × Value)}
/-- what is asked ahead of the making -/
theorem check_new {M : Model} {Q : Unit → Shared → Prop} (F : ExcBaseFacts B newId initId bmB) (hT : ∀ X : String, bm.contains (.type X) = bmB.contains (.type X)) (hC : h.get? C = some (excClassObj nm q C N bs bm hdct sn sub ab col dd k0 k1 k2 k3 k5 newId)) (hq : Q () ⟨h, g, d, t, os⟩) :
    wpAny M A (checkBuiltinCall newId ⟨.ref C :: us, kw⟩) Q E ⟨h, g, d, t, os⟩ := by
  have has : (Value.ref C :: bm).contains (.type B) = true := by rw [List.contains_cons, hT, F.hasB, Bool.or_true]
  have ns := F.noStar
  simp only [checkBuiltinCall, F.newKind, F.newSplit, F.newRow]
  repeat (first | refine wpAny_loadPart_at hC ?_ | (refine wpAny_isSubtype_exc hC ?_; rw [has]) | refine wpAny_staticBase_exc hC ?_ | refine wpAny_madeBy_exc hC ?_ | simp only [bne_self_eq_false, Bool.false_eq_true, if_false] | wp_step)
  exact hq
/-- the new object -/
theorem new_it (F : ExcBaseFacts B newId initId bmB) (hT : ∀ X : String, bm.contains (.type X) = bmB.contains (.type X)) (hC : h.get? C = some (excClassObj nm q C N bs bm hdct sn sub ab col dd k0 k1 k2 k3 k5 newId)) (few : us.length ≤ sizeLine)
    (hq : R (.ok (.ret (.ref (h.objs.size + 1)))) ⟨(h.push (kdv_tup us)).push (excO C h.objs.size), g, d, t, os⟩) : codeAny (model prog w) A (.builtin newId ⟨.ref C :: us, kw⟩) R ⟨h, g, d, t, os⟩ := by
  have ends := F.ends
  have hB : (Value.ref C :: bm).contains (.type B) = true := by rw [List.contains_cons, hT, F.hasB, Bool.or_true]
  have hA : (Value.ref C :: bm).contains (.type "AttributeError") = false := by rw [List.contains_cons, hT, F.noAttr]; rfl
  have hN : (Value.ref C :: bm).contains (.type "NameError") = false := by rw [List.contains_cons, hT, F.noName]; rfl
  refine codeAny_builtinAt F.entry ?_
  unfold Builtin.«BaseException.__new__»
  refine wpAt_bind ?_
  show wpAt _ _ _ (stack >>= _) _ _ _
  refine wpAt_bind (wpAt_stack fun p below => wpAt_of_wpAny ?_)
  wp_walk
  refine wpAt_of_wpAny ?_
  rw [F.owner]
  repeat (first | with_reducible refine wpAny_madeHere_exc F.canon hC ?_ | with_reducible refine wpAny_loadPart_at hC ?_ | (with_reducible refine wpAny_isSubtype_exc hC ?_; first | rw [hB] | rw [hA] | rw [hN]) | wp_step)
  show R _ _
  rw [Heap.size_push]
  exact hq
theorem type_call {fI : Addr} {Q : Fin → Shared → Prop} (F : ExcBaseFacts B newId initId bmB) (hT : ∀ X : String, bm.contains (.type X) = bmB.contains (.type X)) (hC : h.get? C = some (excClassObj nm q C N bs bm hdct sn sub ab col dd k0 k1 k2 k3 k5 newId)) (few : us.length ≤ sizeLine)
    (hi : Looks (model prog w) h (typeLookup (.ref C) "__init__") (some (.ref fI))) (hb : ∀ self, Looks (model prog w) h (bindSpecial (.ref fI) self) (.ref fI, [self]))
    (hq : codeAny (model prog w) A (.call (.ref fI) ⟨.ref (h.objs.size + 1) :: us, kw⟩) (fun r s' => match r with
      | .ok (.ret v) => v = .none ∧ Q (.done (.ret (.ref (h.objs.size + 1)))) s'
      | .ok _ => False
      | .error e => E e s') ⟨(h.push (kdv_tup us)).push (excO C h.objs.size), g, d, t, os⟩) :
    wpAny (model prog w) A (Builtin.«type.__call__» ⟨.ref C :: us, kw⟩) Q E ⟨h, g, d, t, os⟩ := by
  repeat (first | with_reducible refine wpAny_loadPart_at hC ?_ | with_reducible refine wpAny_madeBy_exc hC ?_ | wp_step)
  refine codeAny_call_builtin_code (Code.quiet_builtin _ F.quiet) (check_new F hT hC ?_)
  refine new_it F hT hC few ?_
  show wpAny _ _ _ _ _ _
  have kp : ∀ b o, h.get? b = some o → ((h.push (kdv_tup us)).push (excO C h.objs.size)).get? b = some o := fun b o e => Heap.get?_push_of_some _ (Heap.get?_push_of_some _ e)
  have hC1 := kp _ _ hC
  have here : ((h.push (kdv_tup us)).push (excO C h.objs.size)).get? (h.objs.size + 1) = some (excO C h.objs.size) := by heap_get
  have cc : (Value.ref C :: bm).contains (.ref C) = true := by simp
  have i1 := hi.keeps kp
  have b1 := (hb (.ref (h.objs.size + 1))).keeps kp
  unfold isInstance
  repeat (first | with_reducible refine wpAny_loadPart_at here ?_ | (with_reducible refine wpAny_isSubtype_exc hC1 ?_; rw [cc]) | wp_step)
  show wpAny _ _ (typeLookup (.ref C) _) _ _ _
  refine i1.at ?_
  refine wpAny_holding (wpAny_bind (b1.at ?_))
  refine wpAny_bind (wpAny_call (codeAny_mono hq fun r s' z => ?_))
  rcases r with e | (v | _ | _ | _) <;> first | exact z | exact z.elim | skip
  obtain ⟨rfl, z⟩ := z
  first
    | exact wpAny_pure (wpAny_pure z)
    | (wp_walk; exact z)
theorem check_tc {M : Model} {Q : Unit → Shared → Prop} (hC : h.get? C = some (excClassObj nm q C N bs bm hdct sn sub ab col dd k0 k1 k2 k3 k5 newId)) (hq : Q () ⟨h, g, d, t, os⟩) : wpAny M A (checkBuiltinCall "type.__call__" ⟨.ref C :: us, kw⟩) Q E ⟨h, g, d, t, os⟩ := by
  have f3 := tc_sub
  have ty : (⟨h, g, d, t, os⟩ : Shared).TypeIs (.ref C) "type" := ⟨_, hC, rfl⟩
  simp only [checkBuiltinCall, tc_kind, tc_split]
  repeat (any_goals (first | assumption | with_reducible refine wpAny_loadPart_at hC ?_ | with_reducible refine wpAny_onRaise ?_ | with_reducible refine wpAny_map ?_ | wp_step))
/-- THE CALL of such a class -/
theorem call_it {fI : Addr} (F : ExcBaseFacts B newId initId bmB) (hT : ∀ X : String, bm.contains (.type X) = bmB.contains (.type X)) (hC : h.get? C = some (excClassObj nm q C N bs bm hdct sn sub ab col dd k0 k1 k2 k3 k5 newId)) (few : us.length ≤ sizeLine)
    (hi : Looks (model prog w) h (typeLookup (.ref C) "__init__") (some (.ref fI))) (hb : ∀ self, Looks (model prog w) h (bindSpecial (.ref fI) self) (.ref fI, [self]))
    (hq : codeAny (model prog w) (A.under (.builtin "type.__call__" ⟨.ref C :: us, kw⟩)) (.call (.ref fI) ⟨.ref (h.objs.size + 1) :: us, kw⟩) (InitBack (h.objs.size + 1) R) ⟨(h.push (kdv_tup us)).push (excO C h.objs.size), g, d, t, os⟩) :
    codeAny (model prog w) A (.call (.ref C) ⟨us, kw⟩) R ⟨h, g, d, t, os⟩ := by
  have f1 := tc_lookup
  have f2 := tc_bind (.ref C)
  have ty : (⟨h, g, d, t, os⟩ : Shared).TypeIs (.ref C) "type" := ⟨_, hC, rfl⟩
  refine codeAny_of_tree ?_
  show wpAny _ _ (callAny (.ref C) _) _ _ _
  repeat (any_goals (first | assumption | with_reducible refine wpAny_loadPart_at hC ?_ | wp_step))
  refine ⟨rfl, ?_⟩
  refine codeAny_call_builtin_at (Code.quiet_builtin _ (by decide +kernel)) entry_typeCall (check_tc hC (type_call F hT hC few hi hb ?_))
  refine codeAny_mono hq fun r s' z => ?_
  rcases r with e | (v | _ | _ | _) <;> exact z
end
end PySem.DVEX
end
section
set_option Elab.async false
set_option linter.all false
set_option maxRecDepth 100000
set_option maxHeartbeats 2000000
/-! HY: what the head tells, read by a Hook: defs, classes, own errors. -/
namespace DV
open PySem PySem.Spec PyProof.Rows L2 He
theorem fun_of {K : PySem.W.Frag} {x q : Str} {st : Stmt} {f : Addr} {fd : FuncData} (F : FunD K x q (defArgs st) (defBody st) (defScope st) [] [] f fd) : Fun K x q st f fd := by
  obtain ⟨oc, od, dV, kV, doc, pm, an, cdv, ct, osl, h1, h2, h3, h4, _⟩ := F.ex
  rcases h4 with ⟨_, h4⟩ | ⟨h4, _⟩
  · subst h4
    exact ⟨⟨oc, od, kV, doc, pm, an, cdv, ct, osl, h1, h2, h3⟩, F.kp⟩
  · exact absurd rfl h4
theorem funC_of {K : PySem.W.Frag} {x q : Str} {st : Stmt} {p : Str × Option Str} {fd : FuncData} (F : FunD K x q (defArgs st) (defBody st) (defScope st) [] [] (fAd K p) fd) : FunC K x q st (fAd K p) fd (codeOf K p) := by
  obtain ⟨oc, od, dV, kV, doc, pm, an, cdv, ct, osl, h1, h2, h3, h4, _⟩ := F.ex
  obtain ⟨c, hc⟩ := codeIn_ref h3
  subst hc
  have e : codeOf K p = c := codeOf_eq h2 (by rw [h1])
  rcases h4 with ⟨_, h4⟩ | ⟨h4, _⟩
  · subst h4
    rw [e]
    exact ⟨⟨oc, od, kV, doc, pm, an, ct, osl, h1, h2, h3⟩, F.kp⟩
  · exact absurd rfl h4
theorem oexB_ok {K : PySem.W.Frag} {C : Addr} (h : oexB K C = true) : OexC K C := by
  unfold oexB at h
  obtain ⟨h0, h⟩ := ba h
  obtain ⟨h1, h⟩ := ba h
  obtain ⟨h2, h⟩ := ba h
  obtain ⟨h3, h4⟩ := ba h
  refine ⟨?_, eqO_ok h1, of_decide_eq_true h2, of_decide_eq_true h3, h4⟩
  split at h0
  · rename_i t od cd sl hl
    obtain ⟨ht, h0⟩ := ba h0
    have ht := of_decide_eq_true ht
    split at h0
    · rename_i C' bm k0 k1 k2 k3 n k5 hm hs
      simp only [Bool.and_eq_true, beq_iff_eq, Bool.not_eq_true'] at h0
      obtain ⟨rfl, rfl, hdel, hdct, hr⟩ := h0
      obtain ⟨nm, bs, mro, ns, qn, hd, sn, sub, ab, col, del⟩ := cd
      dsimp only at hm hdel hdct
      subst hm hdel hdct ht
      have hsl : sl = #[k0, k1, k2, k3, some (.builtin "ValueError.__new__"), k5] := by
        obtain ⟨l⟩ := sl
        simp only at hs
        rw [hs]
      subst hsl
      exact ⟨nm, qn, ns, bs, bm, sn, sub, ab, col, od, k0, k1, k2, k3, k5, hl, hr⟩
    · cases h0
  · cases h0
theorem IniD.sup {P : Program} {K : PySem.W.Frag} {d : IniD} (h : d.ok P K = true) (e : fnY K d = d.val) (top : (P.main.scope.names.lookup ("super" : Str)).isSome = false) :
    ∃ (cc cda : Addr) (kV doc pm ct : Value) (an : Option Addr), SupI P K (ga K d.cls) (ma K (ga K d.cls) "__init__") cc cda (PySem.W.fnX "__init__" (d.cls ++ ".__init__") (defArgs d.st) (defBody d.st) (defScope d.st) [("__class__", cc)] .none kV doc pm an (.ref cda) ct) ∧ PySem.W.codeIn K (.ref cda) (d.cls ++ ".__init__") = true := by
  unfold IniD.ok at h
  obtain ⟨h1, h⟩ := ba h
  obtain ⟨h2, h⟩ := ba h
  obtain ⟨h3, h⟩ := ba h
  obtain ⟨h4, h⟩ := ba h
  obtain ⟨h5, h⟩ := ba h
  obtain ⟨h6, h⟩ := ba h
  obtain ⟨h7, h⟩ := ba h
  obtain ⟨h8, h⟩ := ba h
  obtain ⟨h9, h⟩ := ba h
  obtain ⟨h10, h11⟩ := ba h
  unfold fnY at e
  cases q : K.lookup (ma K (ga K d.cls) "__init__") with
  | none =>
    rw [q] at h3
    cases h3
  | some o =>
    obtain ⟨oc, od, dt, osl⟩ := o
    rw [q] at h3 e
    cases dt with
    | func fd =>
      obtain ⟨n1, n2, n3, n4, n5, n6, n7, n8, n9, n10, n11, n12, n13, n14, n15⟩ := fd
      have e2 : (some (n1, n2, n3, n4, n5, n6, n7.map (·.1), n15) : FnY) = some (("__init__" : Str), d.cls ++ ".__init__", defArgs d.st, FuncBody.stmts (defBody d.st), defScope d.st, mainGlobals, [("__class__" : Str)], builtinsNs) := e
      simp only [Option.some.injEq, Prod.mk.injEq] at e2
      obtain ⟨g1, g2, g3, g4, g5, g6, g7, g8⟩ := e2
      subst g1 g2 g3 g4 g5 g6 g8
      obtain ⟨hdV, h3⟩ := ba h3
      dsimp only at hdV
      have hdV : n8 = .none := by
        cases n8 with
        | none => rfl
        | _ => cases hdV
      subst hdV
      obtain ⟨h3a, h3⟩ := ba h3
      obtain ⟨h3b, h3c⟩ := ba h3
      obtain ⟨cda, hcda⟩ := codeIn_ref h3a
      dsimp only at hcda h3b h3c
      subst hcda
      dsimp only at h3b
      match n7, g7, h3c with
      | [(y, cc)], g7, h3c =>
        have g7 : y = "__class__" := by simpa using g7
        subst g7
        dsimp only at h3c
        refine ⟨cc, cda, _, _, _, _, _, ⟨⟨oc, od, osl, q⟩, ?_, ?_, ?_, of_decide_eq_true h5, of_decide_eq_true h6, of_decide_eq_true h7, eqO_ok h8, top, oexB_ok h9⟩, h3a⟩
        · split at h3b
          · rename_i xc xd vs xs hx
            split at h3b
            · rename_i file t hf
              exact ⟨_, _, _, vs, file, t, hx, hf, h3b⟩
            · cases h3b
          · cases h3b
        · split at h3c
          · rename_i xc xd C' xs hx
            have z : C' = ga K d.cls := beq_iff_eq.mp h3c
            subst z
            exact ⟨_, _, _, hx⟩
          · cases h3c
        · exact Option.isSome_iff_exists.mp h4
    | _ => cases h3
theorem IniD.rest {P : Program} {K : PySem.W.Frag} {d : IniD} (h : d.ok P K = true) : PySem.W.findIn K (.ref (ga K d.cls)) "__init__" = some (some (.ref (ma K (ga K d.cls) "__init__"))) ∧ PySem.W.typeIn K (.ref (ma K (ga K d.cls) "__init__")) = some (.type "function") ∧ OexC K (ga K d.cls) ∧ XfC K (ga K d.cls) ∧ PySem.W.findIn K (.ref (ga K d.cls)) d.fld = some none := by
  unfold IniD.ok at h
  obtain ⟨h1, h⟩ := ba h
  obtain ⟨h2, h⟩ := ba h
  obtain ⟨h3, h⟩ := ba h
  obtain ⟨h4, h⟩ := ba h
  obtain ⟨h5, h⟩ := ba h
  obtain ⟨h6, h⟩ := ba h
  obtain ⟨h7, h⟩ := ba h
  obtain ⟨h8, h⟩ := ba h
  obtain ⟨h9, h⟩ := ba h
  obtain ⟨h10, h11⟩ := ba h
  exact ⟨eqO_ok h1, of_decide_eq_true h2, oexB_ok h9, xfB_ok h10, eqO_ok h11⟩
theorem isiB_ok {K : PySem.W.Frag} {a : Addr} (h : isiB K a = true) (c : Cls K a) : IsiC K a := by
  unfold isiB at h
  obtain ⟨h1, h⟩ := ba h
  obtain ⟨h2, h⟩ := ba h
  obtain ⟨h3, h⟩ := ba h
  obtain ⟨h4, h5⟩ := ba h
  exact ⟨c, eqO_ok h1, eqO_ok h2, of_decide_eq_true h3, of_decide_eq_true h4, fun n hn => of_decide_eq_true (List.all_eq_true.mp h5 n hn)⟩
/-! ### the Hook -/
structure SaysY (P : Program) (fa : List Fa) (fn : List DefD) (ini : List IniD) (isi : List Str) (tf : List Defn) (h : Heap) (K : PySem.W.Frag) : Prop where
  d : SaysD fa fn K
  i : ini.map (fnY K) = ini.map IniD.val
  io : ∀ d ∈ ini, d.ok P K = true
  is : ∀ x ∈ isi, isiB K (ga K x) = true
  hd : ∀ p ∈ tf, PySem.W.codeHdIn K (cT K p).1 (cT K p).2 = true
  out : ∀ p ∈ tf, K.lookup (cT K p).2 = none
  empty : ∀ p ∈ tf, h.get? (cT K p).2 = some { cls := .none, data := .fields #[] }
theorem SaysY.ini {P : Program} {fa : List Fa} {fn : List DefD} {ini : List IniD} {isi : List Str} {tf : List Defn} {h : Heap} {K : PySem.W.Frag} (c : SaysY P fa fn ini isi tf h K) {d : IniD} (hd : d ∈ ini) : d.ok P K = true ∧ fnY K d = d.val := by
  refine ⟨c.io d hd, ?_⟩
  obtain ⟨i, hi, e⟩ := List.mem_iff_getElem.mp hd
  have e2 : (ini.map (fnY K))[i]? = (ini.map IniD.val)[i]? := by rw [c.i]
  rw [List.getElem?_map, List.getElem?_map, List.getElem?_eq_getElem hi, e] at e2
  exact Option.some.inj e2
theorem saysY_of {P : Program} {n : Nat} {fa : List Fa} {fn : List DefD} {ini : List IniD} {isi : List Str} {tf : List Defn} {h : Heap} (e : obsY P n fa fn ini isi tf h.get? = valY fn ini) : SaysY P fa fn ini isi tf h (frY n h.get?) := by
  have e1 : obsD fa fn (frY n h.get?) = valD fn := congrArg (fun z : AlY => z.1) e
  have e2 : ini.map (fnY (frY n h.get?)) = ini.map IniD.val := congrArg (fun z : AlY => z.2.1) e
  have e3 : ((ini.all fun d => d.ok P (frY n h.get?)) && ((isi.all fun x => isiB (frY n h.get?) (ga (frY n h.get?) x)) && tabsB h.get? tf (frY n h.get?))) = true := congrArg (fun z : AlY => z.2.2) e
  obtain ⟨h1, h2⟩ := ba e3
  obtain ⟨h2, h3⟩ := ba h2
  have key : ∀ p ∈ tf, PySem.W.codeHdIn (frY n h.get?) (cT (frY n h.get?) p).1 (cT (frY n h.get?) p).2 = true ∧ ∃ o, h.get? (cT (frY n h.get?) p).2 = some o ∧ emptyTab o = true := fun p hp => by
    obtain ⟨h3, h4⟩ := ba (List.all_eq_true.mp h3 p hp)
    refine ⟨h3, ?_⟩
    cases q : h.get? (cT (frY n h.get?) p).2 with
    | none =>
      rw [q] at h4
      cases h4
    | some o =>
      rw [q] at h4
      exact ⟨o, rfl, h4⟩
  exact ⟨e1, e2, fun d hd => List.all_eq_true.mp h1 d hd, fun x hx => List.all_eq_true.mp h2 x hx, fun p hp => (key p hp).1, fun p hp => by
    obtain ⟨_, o, q, z⟩ := key p hp
    exact frT_none q z, fun p hp => by
    obtain ⟨_, o, q, z⟩ := key p hp
    rw [q, emptyTab_eq z]⟩
def hookY (P : Program) (n : Nat) (fa : List Fa) (fn : List DefD) (ini : List IniD) (isi : List Str) (tf : List Defn) : PySem.W.Hook where
  α := AlY
  obs := fun s => obsY P n fa fn ini isi tf s.heap.get?
  val := fun _ => valY fn ini
  says := fun _ h => ∃ K : PySem.W.Frag, K.In h ∧ SaysY P fa fn ini isi tf h K
  of := fun _ _ e => ⟨_, frT_in, saysY_of e⟩
  keeps := fun _ _ _ ⟨K, hK, c⟩ k => ⟨K, PySem.W.Frag.In.keeps hK k, ⟨c.d, c.i, c.io, c.is, c.hd, c.out, fun p hp => k _ _ (c.empty p hp)⟩⟩
theorem obsY_eq {P : Program} {n : Nat} {fa : List Fa} {fn : List DefD} {ini : List IniD} {isi : List Str} {tf : List Defn} {g : Addr → Option Obj} {s : Shared} (h : ∀ a, g a = s.heap.get? a) : obsY P n fa fn ini isi tf g = (hookY P n fa fn ini isi tf).obs s := by
  have e : g = s.heap.get? := funext h
  rw [e] <;> rfl
/-! ### an own error's facts -/
/-- what has the shape of such an __init__ -/
theorem excH_of {C : Cfg} {P : Program} {w : World} {K : PySem.W.Frag} {mg : Str → Option Value} {h : Heap} {d : IniD} {c : Nat} {m sf : Str} {j : Nat} {q : Nat → Pos} {r0 : Arg} {pl : Sem Bool}
    (X : K.In h) (G : h.Ns mainGlobals mg) (ok : d.ok P K = true) (e : fnY K d = d.val) (glo : (Fa.glo d.cls).ok K = true) (top : (P.main.scope.names.lookup ("super" : Str)).isSome = false)
    (ca : C.ca c = ga K d.cls) (cf : C.cf c = [d.fld]) (hsup : mg "super" = none)
    (body : defBody d.st = initBody m d.fld d.par j sf q) (NS : NdefX.nscB [sf, d.par, "__class__"] [sf, d.par] ["__class__"] (defScope d.st) = true) (hks : (defScope d.st).names.lookup ("super" : Str) = some .globalImplicit) (hp : ((defArgs d.st).posonlyargs ++ (defArgs d.st).args).head? = some r0) (h0 : r0.arg = sf)
    (he : ∀ (cc cda L : Addr), eval (.Call (.Attribute (.Call (.Name "super" (q 0)) [] [] (q 1)) "__init__" (q 2)) [.Constant (.str m) j (q 3)] [] (q 4)) (PySem.W.envX (d.cls ++ ".__init__") (defScope d.st) L (ma K (ga K d.cls) "__init__") (.ref cda) [("__class__", cc)]) = (do
      let ov ← attributeBase (.Call (.Name "super" (q 0)) [] [] (q 1)) "__init__" (PySem.W.envX (d.cls ++ ".__init__") (defScope d.st) L (ma K (ga K d.cls) "__init__") (.ref cda) [("__class__", cc)]) (eval (.Call (.Name "super" (q 0)) [] [] (q 1)) (PySem.W.envX (d.cls ++ ".__init__") (defScope d.st) L (ma K (ga K d.cls) "__init__") (.ref cda) [("__class__", cc)]))
      standAt (q 2).atName
      let (g0, first) ← holding [ov] (getMethod ov "__init__" pl)
      callWith (q 4) g0 first (backTo (q 4) (starEach [.Constant (.str m) j (q 3)] (PySem.W.envX (d.cls ++ ".__init__") (defScope d.st) L (ma K (ga K d.cls) "__init__") (.ref cda) [("__class__", cc)]))) []))
    (hb : ∀ (kV doc pm ct : Value) (an : Option Addr) (cda cc : Addr) (us : List Value), us.length = 2 → bindArgs (PySem.W.fnX "__init__" (d.cls ++ ".__init__") (defArgs d.st) (defBody d.st) (defScope d.st) [("__class__", cc)] .none kV doc pm an (.ref cda) ct) ⟨us, []⟩ = pure ([("self" : Str), d.par].zip us)) (hs : sf = "self")
    (dp : (d.par == ("__debug__" : Str)) = false := by decide) (cp : (d.par == ("__classdict__" : Str)) = false := by decide) : Nonempty (ExcH C P w K mg d.cls d.par d.fld c) := by
  subst hs
  obtain ⟨cc, cda, kV, doc, pm, ct, an, S, hcd⟩ := IniD.sup ok e top
  obtain ⟨e1, e2, e3, e4, e5⟩ := IniD.rest ok
  refine ⟨⟨?_, ?_, ma K (ga K d.cls) "__init__", PySem.W.fnX "__init__" (d.cls ++ ".__init__") (defArgs d.st) (defBody d.st) (defScope d.st) [("__class__", cc)] .none kV doc pm an (.ref cda) ct, ?_, e2, cf, fun base k => ?_, fun s us hl => ?_, ?_, ?_⟩⟩
  · rw [ca]
    exact glo_ok X G glo
  · rw [ca]
    exact e3
  · rw [ca]
    exact e1
  · rw [ca]
    have S' := S
    rw [body] at S' ⊢
    exact fn_init S' hcd e5 (NdefX.nscope_by NS) hks hsup hp h0 (fun L => he cc cda L) (r1 := r0) (by decide) (by decide) dp cp
  · exact Binds.all (fun us hl => hb kV doc pm ct an cda cc us hl) s us hl
  · rw [ca]
    exact e4
  · rw [ca]
    exact e5
end DV
end
section
set_option Elab.async false
set_option linter.all false
set_option maxRecDepth 100000
set_option maxHeartbeats 2000000
/-! EW: the end of a law over its mirror. -/
namespace DV
open PySem PySem.Spec PyProof.Rows L2 He
/-- how the script may come -/
def scrD (d : D) (ns : List Int) : Prop := d = .scr ns ∨ d = .kl (ns.map D.int)
theorem ints_rd {C : Cfg} {K : PySem.W.Frag} {W : Wd} {H : Hp} : ∀ ns : List Int, RDs C K W H (ns.map D.int) (ns.map V.int)
  | [] => rfl
  | n :: ns => ⟨_, _, rfl, rfl, ints_rd ns⟩
theorem sp_law {C : Cfg} {K : PySem.W.Frag} {F : S → List D → Out D} {H : Hp} {a : Addr} {ns : List Int} {Q : VK} {E : XK} (hT : ∀ p ∈ C.T, H p.1 = some (.tbl #[])) (hS : SqL K H a (ns.map V.int)) (hF : ∀ d, scrD d ns → ∃ s', F ⟨[], 0⟩ [d] = .ok (.bl true) s') (hQ : ∀ H', Q (.bl true) H') : spD C K F [.ref a] H Q E := by
  have tb : ∀ W, Tbs C.T W H := fun W => ⟨fun p hp => .nil (hT p hp), fun p hp ps e pos c hc => by
    rw [hT p hp] at e
    cases e
    simp [codeAmong] at hc⟩
  rcases hS with hS | hS
  · obtain ⟨s', e⟩ := hF (.scr ns) (.inl rfl)
    refine ⟨⟨fun b => b = a, [], []⟩, ⟨[], 0⟩, [.scr ns], ⟨rfl, rfl, .nil, fun i o b h => by simp at h, fun b hb => ?_, (fun b hb => by cases hb), tb _⟩, ⟨_, _, rfl, ⟨a, rfl, rfl, hS⟩, rfl⟩, ?_⟩
    · have hb : b = a := hb
      subst hb
      rcases hS with e | ⟨o, e⟩
      · exact ⟨by rw [e]; exact fun z => (nomatch z), fun o h => by rw [e] at h; cases h; exact fun _ z => (nomatch z), fun i h => by simp at h⟩
      · exact ⟨by rw [e]; exact fun z => (nomatch z), fun o h => by rw [e] at h; cases h; exact fun _ z => (nomatch z), fun i h => by simp at h⟩
    · rw [e]
      intro W' H' v _ _ r
      have r : v = .bl true := r
      rw [r]
      exact hQ H'
  · obtain ⟨s', e⟩ := hF (.kl (ns.map D.int)) (.inr rfl)
    refine ⟨⟨fun _ => False, [], []⟩, ⟨[], 0⟩, [.kl (ns.map D.int)], ⟨rfl, rfl, .nil, fun i o b h => by simp at h, fun b hb => hb.elim, (fun b hb => by cases hb), tb _⟩, ⟨_, _, rfl, ⟨a, _, rfl, hS, ints_rd ns⟩, rfl⟩, ?_⟩
    rw [e]
    intro W' H' v _ _ r
    have r : v = .bl true := r
    rw [r]
    exact hQ H'
/-- the law at the head's heap -/
theorem lawAt_of {l : PySem.W.OpenLaw} {fa : List Fa} {fn : List DefD} {ini : List IniD} {isi : List Str} {tf : List Defn} {w : World} {K : PySem.W.Frag} {mg : Str → Option Value} {h : Heap} {f : Addr} {fd : FuncData} {C : Cfg} {F : S → List D → Out D} {k : Nat}
    (X : K.In h) (c : SaysY l.prog fa fn ini isi tf h K) (hT : C.T.map (·.1) = tf.map fun p => (cT K p).2) (hb : Binds K fd ["script"] [])
    (hF : ∀ (ns : List Int) (d : D), ns.length ≤ 63 → (∀ z ∈ ns, Builtin.Int.intBits z ≤ 1048576) → scrD d ns → ∃ s', F ⟨[], 0⟩ [d] = .ok (.bl true) s')
    (ok : ∀ base : Heap, K.In base → base.Ns mainGlobals mg → (∀ p ∈ tf, LamX.TabB base mg (cT K p).1 (cT K p).2) → FnOk l.prog w K mg base (L2.CX l.prog w) k f fd ["script"] (spD C K F)) (hk : ∀ s : Shared, ∀ u : Value, BindsTo s fd ⟨[u], []⟩ [("script", u)]) :
    LamX.LawAtS l w K (L2.CX l.prog w) k 63 "script" mg f h := by
  refine ⟨fd, tf.map (cT K), spD C K F, fun p hp => ?_, fun p hp => ?_, fun p hp => ?_, hk, fun H a ns hl hbits hH hS => ?_, fun base b1 b2 b3 => ok base b1 b2 fun p hp => b3 _ (List.mem_map.mpr ⟨p, hp, rfl⟩)⟩
  · obtain ⟨q, hq, rfl⟩ := List.mem_map.mp hp
    exact c.empty q hq
  · obtain ⟨q, hq, rfl⟩ := List.mem_map.mp hp
    exact c.out q hq
  · obtain ⟨q, hq, rfl⟩ := List.mem_map.mp hp
    exact PySem.W.codeHd_of_K X (c.hd q hq)
  · refine sp_law (fun p hp => ?_) hS (fun d hd => hF ns d hl hbits hd) fun _ => rfl
    have e : p.1 ∈ tf.map fun p => (cT K p).2 := by
      rw [← hT]
      exact List.mem_map.mpr ⟨p, hp, rfl⟩
    obtain ⟨q, hq, z⟩ := List.mem_map.mp e
    have := hH _ (List.mem_map.mpr ⟨q, hq, rfl⟩)
    rw [← z]
    exact this
theorem fun_bindsTo {K : PySem.W.Frag} {x qual : Str} {st : Stmt} {f : Addr} {fd : FuncData} {ps : List Str} (F : Fun K x qual st f fd)
    (h : ∀ (kV doc pm : Value) (an : Option Addr) (cdv ct : Value) (us : List Value), us.length = ps.length → bindArgs (PySem.W.fnOf x qual (defArgs st) (defBody st) (defScope st) .none kV doc pm an cdv ct) ⟨us, []⟩ = pure (ps.zip us)) (s : Shared) (us : List Value) (hl : us.length = ps.length) : BindsTo s fd ⟨us, []⟩ (ps.zip us) := by
  obtain ⟨oc, od, kV, doc, pm, an, cdv, ct, osl, rfl, _, _⟩ := F.ex
  exact .of_eq (h _ _ _ _ _ _ us hl)
theorem cx_empty {P : Program} {w : World} {H : Hp} {s : Shared} {e : Value} {s' : Shared} (h : L2.CX P w [] H s (fun _ _ _ => False) e s') : False := by
  obtain ⟨_, _, _, _, _, _, _, _, _, _, _, _, z⟩ := h
  exact z
end DV
end
section
set_option Elab.async false
set_option linter.all false
set_option maxRecDepth 100000
set_option maxHeartbeats 2000000
/-! DG: in and not in by an own __contains__. -/
namespace DV
open PySem PySem.Spec PyProof.Rows L2
/-- b says whether the answer is turned -/
def xInC (b : Bool) (c : Nat) (g : S → List D → Out D) (fa fb : Ex) : Ex := fun e s => (fa e s).bind fun y s => (fb e s).bind fun x s => match view s x with
  | .inst c' _ => if c' = c then (g s [x, y]).bind fun d s => (match d with
    | .bl k => .ok (.bl (k != b)) s
    | _ => .stuck) else .stuck
  | _ => .stuck
def opC (b : Bool) : CmpOp := if b = true then .NotIn else .In
section
variable {C : Cfg} {X : Cx} {Wx : WX} {a b : Expr} {fa fb : Ex} {pos : Pos} {k c : Nat} {f : Addr} {fd : FuncData} {ps : List Str} {F : S → List D → Out D}
theorem has_ok {pins : List (Addr × Obj)} {σ : L2.St} {H : Hp} {s : Shared} {o dx C f : Addr} {fs : List (Str × V)} {v : Value} {Q : Bool → Shared → Prop} (I : Inv X pins σ H s) (e : H o = some (.ins C dx fs)) (hm : Meth X.K C "__contains__" f)
    (h : wpAny (model X.prog X.w) X.A (call (.ref f) [.ref o, v]) (fun r s' => wpAny (model X.prog X.w) X.A (truthy r) Q X.xe s') X.xe s) : wpAny (model X.prog X.w) X.A (contains (.ref o) v) Q X.xe s := by
  obtain ⟨mA, O, r, _, _, _⟩ := ins_get I.hok e
  obtain ⟨od, A, _⟩ := O.look
  unfold contains
  refine wpAny_holding (wpAny_bind (wpAny_bind (A.type.here ((PySem.W.looks_findIn I.kIn hm.at_).here ?_))))
  rw [if_neg (by simp)]
  exact wpAny_bind (PySem.W.unlessNone_K I.kIn A hm.at_ hm.fn h)
abbrev InQ (C : Cfg) (K : PySem.W.Frag) (c : Nat) (F : S → List D → Out D) (nb : Bool) (E : XK) (Q : VK) (y x : V) (H2 : Hp) : Prop := ∃ o dx fs, x = .ref o ∧ H2 o = some (.ins (C.ca c) dx fs) ∧ spD C K F [x, y] H2 (fun v H3 => ∃ k, v = .bl k ∧ Q (.bl (k != nb)) H3) E
theorem inC_op {nb : Bool} {pins : List (Addr × Obj)} {σ : L2.St} {H2 : Hp} {s2 : Shared} {y x : V} {v u : Value} {Q : VK} (hm : Meth X.K (C.ca c) "__contains__" f) (G : FnOk X.prog X.w X.K X.mg X.base (L2.CX X.prog X.w) k f fd ps (spD C X.K F)) (hr : Room k X.A) (hbn : Binds X.K fd ps []) (tk : Takes X Wx) (fl : Flat Wx)
    (I2 : Inv X pins σ H2 s2) (ry : RelV y v) (rx : RelV x u) (hq : InQ C X.K c F nb (WE Wx σ) Q y x H2) : wpAny (model X.prog X.w) X.A (compareOp (opC nb) v u) (EP X pins σ Q) X.xe s2 := by
  obtain ⟨o, dx, fs, rfl, eo, hq⟩ := hq
  obtain rfl : u = Value.ref o := rx
  have main : wpAny (model X.prog X.w) X.A (contains (.ref o) v) (fun kb s' => EP X pins σ Q (.bool (kb != nb)) s') X.xe s2 := by
    refine has_ok I2 eo hm (thn (run_fn (us := [.ref o, v]) (vs := [.ref o, y]) (dvs := []) G hr hbn .nil (passF tk fl σ) I2 (.cons rfl (.cons ry .nil)) hq) fun r s3 ⟨z, H3, I3, r3, k0, ez, q3⟩ => ?_)
    subst ez
    cases r3
    exact wpAny_truthy_bool ⟨.bl (k0 != nb), H3, I3, by first | rfl | constructor, q3⟩
  cases nb with
  | true => exact wpAny_bind (wpAny_mono main (fun kb s' z => wpAny_pure (by cases kb <;> exact z)) fun _ _ z => z)
  | false => exact wpAny_bind (wpAny_mono main (fun kb s' z => wpAny_pure (by cases kb <;> exact z)) fun _ _ z => z)
theorem inC_t {nb : Bool} {K : PySem.W.Frag} : ∀ σ H Q, tD C K Wx (xInC nb c F fa fb) σ H Q → tD C K Wx fa σ H fun y H1 => tD C K Wx fb σ H1 fun x H2 => InQ C K c F nb (WE Wx σ) Q y x H2 := fun σ H Q h => by
  obtain ⟨W, env, st, e, q⟩ := h
  refine ⟨W, env, st, e, Res.step q fun W1 H1 s1 d y l1 e1 h1 q1 => ⟨W1, env, s1, e1, Res.step q1 fun W2 H2 s2 d2 x l2 e2 h2 q2 => ?_⟩⟩
  have sd := see_of e2.st h2
  revert q2
  split
  · rename_i c' vs hv
    rw [hv] at sd
    split
    · rename_i hc
      subst hc
      intro q2
      obtain ⟨o, dx, ws, rfl, l, n, r⟩ := sd
      refine ⟨o, dx, _, rfl, l, sp_of (ds := [d2, d]) e2 ⟨_, [y], rfl, h2, _, [], rfl, h1.mono l2 e1.st, rfl⟩ ?_⟩
      refine Res.step q2 fun W3 H3 s3 z v l3 e3 h3 q3 => ?_
      revert q3
      split
      · rename_i k0
        intro q3
        exact ⟨k0, h3, q3.here e3 rfl⟩
      · exact fun q => q.elim
    · exact fun q => q.elim
  · exact fun q => q.elim
theorem de_inC {nb : Bool} (ha : DE C X Wx a fa) (hb : DE C X Wx b fb) (hm : Meth X.K (C.ca c) "__contains__" f) (G : FnOk X.prog X.w X.K X.mg X.base (L2.CX X.prog X.w) k f fd ps (spD C X.K F)) (hr : Room k X.A) (hbn : Binds X.K fd ps []) (tk : Takes X Wx) (fl : Flat Wx)
    (hk : behindInMarks (opC nb) b = false := by with_unfolding_all rfl) : DE C X Wx (.Compare a [opC nb] [b] pos) (xInC nb c F fa fb) := ⟨fun pins s σ H Q I h =>
  wpAny_Compare1 (binT ha hb I (inC_t σ H Q h) fun v u s2 y x H2 I2 ry rx hq => inC_op hm G hr hbn tk fl I2 ry rx hq) hk⟩
theorem dt_inC {nb : Bool} (ha : DE C X Wx a fa) (hb : DE C X Wx b fb) (hm : Meth X.K (C.ca c) "__contains__" f) (G : FnOk X.prog X.w X.K X.mg X.base (L2.CX X.prog X.w) k f fd ps (spD C X.K F)) (hr : Room k X.A) (hbn : Binds X.K fd ps []) (tk : Takes X Wx) (fl : Flat Wx)
    (hk : behindInMarks (opC nb) b = false := by with_unfolding_all rfl) : DT C X Wx (.Compare a [opC nb] [b] pos) (tVal (xInC nb c F fa fb)) := ⟨fun pins s σ H Q I h => by
  refine wpAny_isTrue_Compare1 (thn (ha.run pins s σ H _ I (inC_t σ H _ (tT_val σ H Q h))) fun v s1 ⟨y, H1, I1, r1, q1⟩ => thn (hb.run pins s1 σ H1 _ I1 q1) fun u s2 ⟨x, H2, I2, r2, q2⟩ =>
    thn (inC_op hm G hr hbn tk fl I2 r1 r2 q2) fun c s3 ⟨z, H3, I3, r3, k, e, q3⟩ => ?_) hk
  subst e
  cases r3
  exact wpAny_truthy_bool ⟨H3, I3, q3⟩⟩
/-! ### the place of a thing in a list -/
def idxV (y : V) : List V → Nat → Option Nat
  | [], _ => none
  | v :: vs, i => if eqV v y = true then some i else idxV y vs (i + 1)
theorem idxV_ok {y : V} : ∀ {vs : List V} {i j : Nat}, idxV y vs i = some j → ∃ n z, j = i + n ∧ vs[n]? = some z ∧ eqV z y = true ∧ ∀ (m : Nat) (z' : V), m < n → vs[m]? = some z' → eqV z' y = false
  | [], _, _, h => by cases h
  | v :: vs, i, j, h => by
    unfold idxV at h
    by_cases e : eqV v y = true
    · rw [if_pos e] at h
      cases h
      exact ⟨0, v, rfl, rfl, e, fun m _ hm _ => absurd hm (Nat.not_lt_zero m)⟩
    · rw [if_neg e] at h
      obtain ⟨n, z, h1, h2, h3, h4⟩ := idxV_ok h
      refine ⟨n + 1, z, by omega, h2, h3, fun m z' hm hz => ?_⟩
      cases m with
      | zero =>
        cases hz
        simpa using e
      | succ m => exact h4 m z' (by omega) hz
def mIndex (s : S) (x : D) (ys : List D) : Out D := match lstD (view s x), ys with
  | some xs, [y] => (match fl y, fls xs with
    | some b, some us => (match idxV b us 0 with
      | some j => .ok (.int (j : Nat)) s
      | none => .stuck)
    | _, _ => .stuck)
  | _, _ => .stuck
theorem m_index : MtR X "list.index" (rm C X.K mIndex) := MtR.imp (r := rIndex X.K) mt_index fun v vs H Q h => by
  obtain ⟨W, s, x, ys, d, s', t, r, rs, hm, q⟩ := rm_ok h
  unfold mIndex at hm
  split at hm
  · rename_i xs y hx
    split at hm
    · rename_i b us hb hu
      split at hm
      · rename_i j hj
        cases hm
        obtain ⟨a, ws, rfl, sq, rw_⟩ := lst_of (see_of t r) hx
        obtain ⟨u, rfl, ru⟩ := rds1 rs
        obtain ⟨e1, f1⟩ := fl_rd ru hb
        obtain ⟨e2, f2⟩ := fls_rd rw_ hu
        subst e1 e2
        obtain ⟨n, z, h1, h2, h3, h4⟩ := idxV_ok hj
        rw [Nat.zero_add] at h1
        subst h1
        exact ⟨a, ws, u, j, z, rfl, rfl, sq, f1, f2, h2, h3, h4, q W H _ Le.refl t rfl⟩
      · cases hm
    · cases hm
  · cases hm
/-- isinstance(x, C), an own class -/
def isC (c : Nat) : Nat → Option Bool := fun k => if k = c then some true else none
theorem de_isC {x : Str} {q p : Pos} (hg : Gl X "isinstance") (hm : X.mg "isinstance" = none) (ha : DE C X Wx a fa) (hgx : Gl X x) (hmx : X.mg x = some (.ref (C.ca c))) (hi : IsiC X.K (C.ca c)) (hd : (x == ("__debug__" : Str)) = false := by decide)
    (hs1 : starEach [a, .Name x q] X.env = (false, eval a X.env) :: starEach [.Name x q] X.env := by rfl) (hs2 : starEach [.Name x q] X.env = (false, eval (.Name x q) X.env) :: starEach [] X.env := by rfl) (hpl : (backTo pos (starEach [.Name x q] X.env)).any (·.1) = false := by rfl) :
    DE C X Wx (.Call (.Name "isinstance" p) [a, .Name x q] [] pos) (xUn (gIsi (fun _ => false) (isC c)) fa) :=
  de_isi hg hm ha (pe_glob (v := .ref (C.ca c)) hgx hmx rfl hd) (.own _) (fun n hn => hi.oth n hn) (fun k b hk => by
    unfold isC at hk
    by_cases e : k = c
    · rw [if_pos e] at hk
      cases hk
      rw [e]
      refine ⟨?_, hi⟩
      have z : PySem.W.kitOne X.K (.ref (C.ca c)) (.ref (C.ca c)) = some true := if_pos (by simp)
      unfold PySem.W.kitAny
      rw [z]
    · rw [if_neg e] at hk
      cases hk) hs1 hs2 hpl
end
end DV
end
section
set_option Elab.async false
set_option linter.all false
set_option maxRecDepth 100000
set_option maxHeartbeats 2000000
/-! DG2: name = {k: v for ..} on one line. -/
namespace DV
open PySem PySem.Spec PyProof.Rows L2
section
variable {X : Cx}
theorem ps_setDc {i : Nat} {z : Str} {pz : Pos} {kx vx tgt itr : Expr} {conds : List Expr} {blk : Scope} {own : List (Str × Nat)} {p1 p2 : Pos} {wi : TI} {g : TG} {tt : TT} {tk tv : TE} (calm : X.calm = true) (nod : X.N.Nodup) (at_ : X.N[i]? = some z) (loc : X.env.scope.names.lookup z = some .local)
    (sw : swapsWith (.DictComp kx vx [⟨tgt, itr, conds, 0⟩] blk p1) (some (.Name z pz)) p2.line X.env = pure true) (hi : PI X tgt itr wi) (ok : BlkOk X.N X.env.scope blk own)
    (hg : ∀ (sh : Shared) (H : Hp) (b : Addr) (cl : List (Str × Addr)) (fp : List Addr), PG (X.blk sh H blk (compEnvC blk cl b X.env) fp) tgt g) (ht : ∀ (sh : Shared) (H : Hp) (b : Addr) (cl : List (Str × Addr)) (fp : List Addr), PTs (X.blk sh H blk (compEnvC blk cl b X.env) fp) conds tt)
    (hk : ∀ (sh : Shared) (H : Hp) (b : Addr) (cl : List (Str × Addr)) (fp : List Addr), PE (X.blk sh H blk (compEnvC blk cl b X.env) fp) kx tk)
    (hv : ∀ (sh : Shared) (H : Hp) (b : Addr) (cl : List (Str × Addr)) (fp : List Addr), PE (X.blk sh H blk (compEnvC blk cl b X.env) fp) vx tv) (fold : ∀ x, foldedSetIterable itr X.env x = pure x := by intro _; rfl) :
    PS X (.Assign [.Name z pz] (.DictComp kx vx [⟨tgt, itr, conds, 0⟩] blk p1) p2) (tAsg (tDc wi g tt tk tv (own.map (·.2))) (gName i)) := ⟨fun pn sh σ H En J h => by
  rw [exec_Assign_Name_used _ _ _ _ sw]; refine wpAny_bind (wpAny_standAt (wpAny_bind ?_))
  show wpAny _ X.A (do let _ ← comprehension (.DictComp kx vx [⟨tgt, itr, conds, 0⟩] blk p1) blk X.env (firstIterPos [⟨tgt, itr, conds, 0⟩] p1) newDict false (eval itr X.env) (some (assign (.Name z pz) X.env))) _ _ sh
  have h2 : tDc wi g tt tk tv (own.map (·.2)) σ H (fun x H1 => gName i x σ H1 En.nx) := h
  refine wpAny_bind (thn (dc_core (Qf := fun _ sh' => SP X pn En .next sh') calm nod J hi ok hg ht hk hv fold h2 fun d b sh' m H' J' q ns f => ?_) fun _ sh' post => wpAny_pure (wpAny_pure post))
  show wpAny _ _ (assign (.Name z pz) X.env (.ref d)) _ _ _
  refine wpAny_assign_Name (store_ok2 (v := V.ref d) J' nod at_ (.inl loc) rfl (fun sh2 J2 ⟨a, sb, ha⟩ => ?_) (.inr loc))
  obtain ⟨f0, f1, f2, f3, f4, f5⟩ := f
  have away : b ≠ a := ha.elim (fun e => by rw [e]; exact f1) fun e e2 => f4 _ a e e2.symm
  refine ⟨m, ns.sameBut sb away, fun h3 sb3 => ⟨_, H', J2.turned (t' := sh2.toks) (fun c o hc e => (sb3.2 c hc).trans e) f0 f1 f3 f4 f5, q⟩⟩⟩
end
section
variable {C : Cfg} {X : Cx} {Wx : WX} {ix : Ix} {c : CT} {ft : Tx} {fk fv : Ex}
theorem ds_setDc {i : Nat} {y : Str} {py spos : Pos} {kx vx tg iter : Expr} {ifs : List Expr} {scope : Scope} {own : List (Str × Nat)} {pos : Pos} (hc : X.calm = true) (hN : X.N.Nodup) (hy : X.N[i]? = some y) (hyl : X.env.scope.names.lookup y = some .local)
    (hsw : swapsWith (.DictComp kx vx [⟨tg, iter, ifs, 0⟩] scope pos) (some (.Name y py)) spos.line X.env = pure true) (hi : DI C X Wx tg iter ix) (ok : BlkOk X.N X.env.scope scope own) (hw : ∀ i ∈ c.slots, i ∈ own.map (·.2))
    (hg : ∀ (s : Shared) (H : Hp) (A : Addr) (cl : List (Str × Addr)) (fp : List Addr), c.ok (X.blk s H scope (compEnvC scope cl A X.env) fp) tg)
    (ht : ∀ (s : Shared) (H : Hp) (A : Addr) (cl : List (Str × Addr)) (fp : List Addr), DTs C (X.blk s H scope (compEnvC scope cl A X.env) fp) ifs ft)
    (hk : ∀ (s : Shared) (H : Hp) (A : Addr) (cl : List (Str × Addr)) (fp : List Addr), DE C (X.blk s H scope (compEnvC scope cl A X.env) fp) W0 kx fk)
    (hv : ∀ (s : Shared) (H : Hp) (A : Addr) (cl : List (Str × Addr)) (fp : List Addr), DE C (X.blk s H scope (compEnvC scope cl A X.env) fp) W0 vx fv) (hs : ∀ x, foldedSetIterable iter X.env x = pure x := by intro _; rfl) :
    DS C X Wx (.Assign [.Name y py] (.DictComp kx vx [⟨tg, iter, ifs, 0⟩] scope pos) spos) (sAsg (xDcK ix c ft fk fv (own.map (·.2))) (gVar i)) :=
  PS.imp (ps_setDc (tt := tT C X.K W0 ft) (tk := tD C X.K W0 fk) (tv := tD C X.K W0 fv) (g := c.tg X.K) hc hN hy hyl hsw hi ok (fun s H A cl fp => CT.pg (hg s H A cl fp)) (fun s H A cl fp => ht s H A cl fp) (fun s H A cl fp => hk s H A cl fp) (fun s H A cl fp => hv s H A cl fp) hs) fun En σ H h => by
    obtain ⟨W, env, s, e, q⟩ := h
    refine tD_dcK hw σ H _ ⟨W, env, s, e, Res.fl q fun W1 H1 s1 d x l1 e1 h1 q1 => ?_⟩
    exact ResS.here q1 (e1.set i h1)
end
end DV
end
section
set_option Elab.async false
set_option linter.all false
set_option maxRecDepth 100000
set_option maxHeartbeats 2000000
/-! DG3: defs that are called where no repr is under way. -/
namespace DV
open PySem PySem.Spec PyProof.Rows L2
theorem deeper_guards {A : Around} {env : PySem.Env} : (A.deeper env).guards = A.guards := rfl
/-- FnOk, for a caller within which no repr is under way -/
structure FnG (P : Program) (w : World) (K : PySem.W.Frag) (mg : Str → Option Value) (base : Heap) (CX : CXT) (k : Nat) (f : Addr) (fd : FuncData) (ps : List Str) (sp : Sp) : Prop where
  len : ∀ vs H Q E, sp vs H Q E → vs.length = ps.length
  run : ∀ (A : Around) (outer : List PySem.Env) (sh : Shared) (H : Hp) (args : Args) (us : List Value) (vs : List V) (Q : VK) (E : XK), Room k A → A.guards = some [] → Env0 P w K mg base A outer sh H → BindsTo sh fd args (ps.zip us) → Vals vs us → sp vs H Q E →
    codeAny (model P w) A (.call (.ref f) args) (CR CX outer P w H sh Q E) sh
theorem FnG.of {P : Program} {w : World} {K : PySem.W.Frag} {mg : Str → Option Value} {base : Heap} {CX : CXT} {k : Nat} {f : Addr} {fd : FuncData} {ps : List Str} {sp : Sp} (F : FnOk P w K mg base CX k f fd ps sp) : FnG P w K mg base CX k f fd ps sp :=
  ⟨F.len, fun A outer sh H args us vs Q E hr _ => F.run A outer sh H args us vs Q E hr⟩
theorem fnG_of {CX : CXT} {P : Program} {w : World} {K : PySem.W.Frag} {mg : Str → Option Value} {base : Heap} {k : Nat} {f : Addr} {nm ql : Str} {pa : Arguments} {bd : List Stmt} {sc : Scope} {dV kV dc pm cd ct oc : Value} {an od : Option Addr}
    {sl : Array (Option Value)} {N ps : List Str} {sp : Sp} (lk : K.lookup f = some ⟨oc, od, .func (PySem.W.fnOf nm ql pa bd sc dV kV dc pm an cd ct), sl⟩) (code : PySem.W.codeIn K cd ql = true) (T : FnScope N ps sc) (ln : ∀ vs H Q E, sp vs H Q E → vs.length = ps.length)
    (body : ∀ (A : Around) (outer : List PySem.Env) (sh : Shared) (H : Hp) (vs : List V) (Q : VK) (E : XK), Room k (A.deeper (envOfC ql sc sh.heap.objs.size f cd)) → A.guards = some [] → sp vs H Q E →
      ∃ t, PSs (cxOf CX P w K mg base N ql sc f cd A outer sh H E) bd t ∧ t { nx := fun _ H' => Q .non H', rt := Q } (L2.start N vs) H) :
    FnG P w K mg base CX (k + 1) f (PySem.W.fnOf nm ql pa bd sc dV kV dc pm an cd ct) ps sp := ⟨ln, fun A outer sh H args us vs Q E room gd e0 bind rel want => by
  have count := ln _ _ _ _ want; have kin : K.In sh.heap := e0.mod.kin.keeps fun b o e => (e0.bs b o e).1; have lim : sh.heap.NoLimit := e0.mod.nolimit.keeps fun b o e => (e0.bs b o e).1
  have kinds : ∀ y ∈ ps.zip us, sc.names.lookup y.1 = some .local ∨ (sc.names.lookup y.1 = some .cell ∧ ((cellsFrom (sh.heap.objs.size + 1) sc.names []).lookup y.1).isSome = true) := fun ⟨n, v⟩ hy => (T.par n (List.of_mem_zip hy).1).elim .inl fun q => .inr ⟨q, PySem.W.cellsFrom_some _ _ _ (.inl q)⟩
  refine codeAny_call_function room.depth (kin _ _ lk) rfl T.co T.gen rfl (PySem.W.codeRec_of kin code) (bind _ _ _ _ (wpAny_newFunctionEnv_cells T.kind kinds fun env he s1 x => ?_))
  subst he
  obtain ⟨t, ht, hq⟩ := body A outer sh H vs Q E (room.deeper _) gd want
  have J : Inv (cxOf CX P w K mg base N ql sc f cd A outer sh H E) [] (L2.start N vs) H s1 := inv_start T room.hd e0 count rel x
  refine ⟨lim.keeps x.toInCall.keep, codeAny_func (wpAny_mono (ht.run [] s1 (L2.start N vs) H _ J hq) (fun fl sh' post => ?_) fun e s' hs => hs)⟩
  have done : ∀ {σ' : L2.St} {H' : Hp} {v : V} {u : Value}, Inv (cxOf CX P w K mg base N ql sc f cd A outer sh H E) [] σ' H' sh' → RelV v u → Q v H' → CE outer P w H sh Q u sh' := fun {σ' H' v u} J rv q => ⟨v, H', J.os, J.bare, J.base, J.hok, rv, q⟩
  match fl, post with
  | .ret u, ⟨v, σ', H', J2, rv, q⟩ => exact done J2 rv q
  | .next, ⟨σ', H', J2, q⟩ => exact done (v := V.non) (u := Value.none) J2 rfl q
  | .brk, ⟨_, _, _, q⟩ => exact q.elim
  | .cont, ⟨_, _, _, q⟩ => exact q.elim⟩
section
variable {X : Cx} {CX : CXT} {k : Nat} {f : Addr} {fd : FuncData} {ps : List Str} {sp : Sp} {E : XK} {x : Str} {p pos : Pos} {e : Expr} {es : List Expr} {t : TA}
theorem run_fnG {pins : List (Addr × Obj)} {σ : L2.St} {H : Hp} {sh : Shared} {Q : VK} {us : List Value} {vs : List V} (F : FnG X.prog X.w X.K X.mg X.base CX k f fd ps sp) (room : Room k X.A) (gd : X.A.guards = some []) (hb : Binds X.K fd ps []) (pass : Passes CX X E)
    (J : Inv X pins σ H sh) (r : Vals vs us) (want : sp vs H Q E) : wpAny (model X.prog X.w) X.A (call (.ref f) us) (EP X pins σ Q) X.xe sh := by
  have count : (us ++ []).length = ps.length := by rw [List.append_nil, ← r.length]; exact F.len _ _ _ _ want
  have bd := hb sh us J.kIn count; rw [List.append_nil] at bd
  refine wpAny_call (codeAny_mono (F.run X.A X.stack sh H ⟨us, []⟩ us vs Q E room gd J.env0 bd r want) fun res sh' post => ?_)
  match res, post with
  | .error er, post => exact pass pins σ H sh er sh' J post
  | .ok (.ret u), post => exact J.after post
theorem pe_callG (F : FnG X.prog X.w X.K X.mg X.base CX k f fd ps sp) (room : Room k X.A) (gd : X.A.guards = some []) (hg : Gl X x) (hm : X.mg x = some (.ref f)) (hk : PySem.W.keepIn X.K (.ref f) = true) (hb : Binds X.K fd ps []) (pass : Passes CX X E)
    (ha : PA X (e :: es) t) (hdb : (x == ("__debug__" : Str)) = false := by decide) (he : starEach (e :: es) X.env = (false, eval e X.env) :: starEach es X.env := by rfl) (hpl : (backTo pos (starEach es X.env)).any (·.1) = false := by rfl) :
    PE X (.Call (.Name x p) (e :: es) [] pos) (tCall sp [] E t) := ⟨fun pn sh σ H Q J h => wpAny_Call_Name_kw (ld_glob J hg hm (PySem.W.callWith_K (h₀ := X.base) J.ok.mod.kin hk (thn (ha.run pos pn sh σ H _ J h) fun us s1 ⟨vs, H1, I1, r, q⟩ => ⟨I1.kIn, run_fnG F room gd hb pass I1 r (by have q2 : sp (vs ++ []) H1 Q E := q; rw [List.append_nil] at q2; exact q2)⟩) he hpl) hdb)⟩
end
/-! ### repr of lists and tuples -/
def reprP (p : PyData) : Option D := if p.showable = true ∧ p.hasDict = false ∧ p.depth ≤ 60 ∧ p.shown.length ≤ sizeLine then some (.str p.shown) else none
def gRepr (s : S) (d : D) : Option D := match (view s d).pd with
  | some (.list ds) => reprP (.list ds)
  | some (.tuple ds) => reprP (.tuple ds)
  | _ => none
theorem c_repr {C : Cfg} {X : Cx} (gd : X.A.guards = some []) (hu : X.A.units + 64 < cLine) : CallR X (.builtin "repr") (rc C X.K (f1 gRepr)) := fun pins sh σ H xs us Q J r h => by
  obtain ⟨W, s, d, v, z, rfl, t, rd, hz, q⟩ := rc1 h
  obtain ⟨u, rfl, ru⟩ := vals1 r
  have go : ∀ p : PyData, (view s d).pd = some p → reprP p = some z → (∃ a, v = .ref a) → wpAny (model X.prog X.w) X.A (call (.builtin "repr") [u]) (EP X pins σ Q) X.xe sh := fun p hp hr ⟨a, ha⟩ => by
    have dp := dp_see (see_of t rd) hp
    obtain ⟨as, rr⟩ := Dp.reads J p v u dp ru
    subst ha
    obtain rfl : u = Value.ref a := ru
    unfold reprP at hr
    split at hr
    · rename_i c
      obtain ⟨c1, c2, c3, c4⟩ := c
      cases hr
      exact repr_of_reads' rr c1 (fun e => by rw [c2] at e; cases e) gd (by omega) (fun b o e => e) (fun h' y tk hk => ⟨.str p.shown, H, J.kept hk, ⟨y, rfl⟩, q W H _ Le.refl t rfl⟩) c4
    · cases hr
  unfold gRepr at hz
  split at hz
  · rename_i ds hp
    refine go _ hp hz ?_
    cases dp_see (see_of t rd) hp with
    | lst _ _ => exact ⟨_, rfl⟩
  · rename_i ds hp
    refine go _ hp hz ?_
    cases dp_see (see_of t rd) hp with
    | tup _ _ => exact ⟨_, rfl⟩
  · cases hz
/-! ### defs over data, called where no repr is under way -/
theorem fn_defG {C : Cfg} {P : Program} {w : World} {K : PySem.W.Frag} {mg : Str → Option Value} {base : Heap} {k : Nat} {x qual : Str} {st : Stmt} {f : Addr} {fd : FuncData} {N ps : List Str} {body : Sx} (F : Fun K x qual st f fd) (S : FnScope N ps (defScope st))
    (hb : ∀ (cdv : Value) (A : Around) (outer : List PySem.Env) (s : Shared) (H : Hp) (E : XK), Room k (A.deeper (envOfC qual (defScope st) s.heap.objs.size f cdv)) → A.guards = some [] →
      DSs C (cxOf (L2.CX P w) P w K mg base N qual (defScope st) f cdv A outer s H E) (fun c d _ H => E c d H) (defBody st) body) : FnG P w K mg base (L2.CX P w) (k + 1) f fd ps (spD C K (runDef ps.length N.length body)) := by
  obtain ⟨oc, od, kV, doc, pm, an, cdv, ct, osl, rfl, lk, hcd⟩ := F.ex
  refine fnG_of lk hcd S (fun vs H Q E h => ?_) (fun A outer s H vs Q E hr gd h => ?_)
  · obtain ⟨W, s, ds, t, r, q⟩ := h
    rw [← r.length]
    by_cases hn : ds.length = ps.length
    · exact hn
    · unfold runDef at q
      rw [if_neg hn] at q
      exact q.elim
  · obtain ⟨W, s0, ds, t, r, q⟩ := h
    refine ⟨_, hb cdv A outer s H E hr gd, W, _, s0, RDs.start t r, ?_⟩
    unfold runDef at q
    by_cases hn : ds.length = ps.length
    · rw [if_pos hn] at q
      revert q
      cases body (ds.map some ++ List.replicate (N.length - ds.length) none) s0 with
      | next e' s' => exact fun q W1 σ1 H1 l1 e1 => q (W.back W1) H1 .non (l1.back t) (StS.back l1 t e1.st) rfl
      | ret d s' => exact fun q W1 v H1 l1 t1 r1 => end_ok (E := E) t l1 t1 r1 q
      | exc c vs e' s' =>
        unfold endDef
        by_cases hlow : D.lows s0.mo.length s0.tg vs = true
        · simp only [if_pos hlow]
          intro q W1 σ1 H1 dd ws l1 e1 f1 g1 n1 r1
          exact q (W.back W1) H1 dd ws (l1.back t) (StS.back l1 t e1.st) f1 g1 n1 (RDs.low (W := W1) (W' := W.back W1) (n := s0.mo.length) (t := s0.tg) rfl rfl rfl (fun _ z => z) (fun i hi => back_al l1 i (by rw [t.len]; exact hi)) (fun _ _ z => z) vs ws hlow r1)
        · simp only [if_neg hlow]
          exact fun q => q.elim
      | brk _ _ => exact fun q => q.elim
      | cont _ _ => exact fun q => q.elim
      | stuck => exact fun q => q.elim
    · rw [if_neg hn] at q
      exact q.elim
theorem fn_defLG {C : Cfg} {P : Program} {w : World} {K : PySem.W.Frag} {mg : Str → Option Value} {base : Heap} {k : Nat} {x qual : Str} {st : Stmt} {f c : Addr} {fd : FuncData} {N ps : List Str} {body : Sx} (F : FunC K x qual st f fd c) (S : FnScope N ps (defScope st))
    (hb : ∀ (A : Around) (outer : List PySem.Env) (s : Shared) (H : Hp) (E : XK), Room k (A.deeper (envOfC qual (defScope st) s.heap.objs.size f (.ref c))) → A.guards = some [] →
      ∃ r : LamR, DSs (C.wl r) (cxOf (L2.CX P w) P w K mg base N qual (defScope st) f (.ref c) A outer s H E) (fun c d _ H => E c d H) (defBody st) body) : FnG P w K mg base (L2.CX P w) (k + 1) f fd ps (spD C K (lowF (runDef ps.length N.length body))) := by
  obtain ⟨oc, od, kV, doc, pm, an, ct, osl, rfl, lk, hcd⟩ := F.ex
  refine fnG_of lk hcd S (fun vs H Q E h => (run_ts (spD_wl (C := C) (r := C.lr) (r' := C.lr) h)).1) fun A outer s H vs Q E hr gd h => ?_
  obtain ⟨r, d⟩ := hb A outer s H E hr gd
  exact ⟨_, d, (run_ts (spD_wl (C := C) (r := C.lr) (r' := r) h)).2⟩
section
variable {C : Cfg} {X : Cx} {Wx : WX} {k : Nat} {f : Addr} {fd : FuncData} {ps : List Str} {x : Str} {p pos : Pos} {e : Expr} {es : List Expr} {fa : Ax} {F : S → List D → Out D}
theorem de_callG (G : FnG X.prog X.w X.K X.mg X.base (L2.CX X.prog X.w) k f fd ps (spD C X.K F)) (room : Room k X.A) (gd : X.A.guards = some []) (hg : Gl X x) (hm : X.mg x = some (.ref f)) (hk : PySem.W.keepIn X.K (.ref f) = true) (hb : Binds X.K fd ps []) (tk : Takes X Wx)
    (ha : DA C X Wx (e :: es) fa) (hdb : (x == ("__debug__" : Str)) = false := by decide) (he : starEach (e :: es) X.env = (false, eval e X.env) :: starEach es X.env := by rfl) (hpl : (backTo pos (starEach es X.env)).any (·.1) = false := by rfl) :
    DE C X Wx (.Call (.Name x p) (e :: es) [] pos) (xCall F fa) := ⟨fun pn sh σ H Q J h => by
  have h2 := tD_call σ H Q h
  refine wpAny_Call_Name_kw (ld_glob J hg hm (PySem.W.callWith_K (h₀ := X.base) J.ok.mod.kin hk (thn (ha.run pos pn sh σ H _ J h2) fun us s1 ⟨vs, H1, J1, r, q⟩ => ⟨J1.kIn, ?_⟩) he hpl) hdb)
  have count : (us ++ []).length = ps.length := by rw [List.append_nil, ← r.length]; exact G.len _ _ _ _ q
  have bd := hb s1 us J1.kIn count; rw [List.append_nil] at bd
  refine wpAny_call (codeAny_mono (G.run X.A X.stack s1 H1 ⟨us, []⟩ us vs Q _ room gd J1.env0 bd r q) fun res sh' post => ?_)
  match res, post with
  | .error er, post => exact passAt tk σ pn H1 s1 er sh' J1 post
  | .ok (.ret u), post => exact J1.after post⟩
end
end DV
end
section
set_option Elab.async false
set_option linter.all false
set_option maxRecDepth 100000
set_option maxHeartbeats 2000000
/-! DG4: the end of a law whose def is called where no repr is under way. -/
namespace DV
open PySem PySem.Spec PyProof.Rows L2 He
/-- what is tracked ahead of the law: the script, where the frame does not know it, and the empty tables -/
def scrO (vs : List Value) : Obj := { cls := .type "list", data := .seq vs.toArray }
def hpS (K : PySem.W.Frag) (a : Addr) (vs : List Value) (xs : List V) (T : List Addr) : Hp := fun b =>
  if b = a ∧ K.lookup a = none then some (.frz (scrO vs) (.lst xs)) else if b ∈ T then some (.tbl #[]) else none
section
variable {K : PySem.W.Frag} {a b : Addr} {vs : List Value} {xs : List V} {T : List Addr} {u : HO}
theorem hpS_some (h : hpS K a vs xs T b = some u) : (b = a ∧ K.lookup a = none ∧ u = .frz (scrO vs) (.lst xs)) ∨ (b ∈ T ∧ u = .tbl #[]) := by
  unfold hpS at h
  split at h
  · rename_i q
    exact .inl ⟨q.1, q.2, (Option.some.inj h).symm⟩
  · split at h
    · rename_i q
      exact .inr ⟨q, (Option.some.inj h).symm⟩
    · cases h
theorem hpS_tab (hb : b ∈ T) (ne : b ≠ a) : hpS K a vs xs T b = some (.tbl #[]) := by
  unfold hpS
  rw [if_neg (fun z => ne z.1), if_pos hb]
theorem hpS_scr (n : K.lookup a = none) : hpS K a vs xs T a = some (.frz (scrO vs) (.lst xs)) := by
  unfold hpS
  rw [if_pos ⟨rfl, n⟩]
end
/-- where the script and the tables stand at the law's call -/
structure Stand (K : PySem.W.Frag) (h : Heap) (a : Addr) (vs : List Value) (cs : List (Addr × Addr)) : Prop where
  kin : K.In h
  tab : ∀ p ∈ cs, h.get? p.2 = some { cls := .none, data := .fields #[] }
  out : ∀ p ∈ cs, K.lookup p.2 = none
  scr : h.get? a = some (scrO vs)
section
variable {K : PySem.W.Frag} {h : Heap} {a b : Addr} {vs : List Value} {xs : List V} {cs : List (Addr × Addr)} {o : Obj}
abbrev tabsOf (cs : List (Addr × Addr)) : List Addr := cs.map (·.2)
theorem Stand.tabE (S : Stand K h a vs cs) (hb : b ∈ tabsOf cs) : h.get? b = some { cls := .none, data := .fields #[] } := by
  obtain ⟨p, hp, e⟩ := List.mem_map.mp hb
  exact e ▸ S.tab p hp
theorem Stand.ne (S : Stand K h a vs cs) (hb : b ∈ tabsOf cs) : b ≠ a := fun z => by
  have q := S.tabE hb
  rw [z, S.scr] at q
  have q2 := congrArg Obj.data (Option.some.inj q)
  cases q2
/-- what is neither the script nor a table is not tracked -/
theorem Stand.free (S : Stand K h a vs cs) (e : h.get? b = some o) (n1 : ∀ ws n, o.data ≠ .seq ws n) (n2 : o.data ≠ .fields #[]) : hpS K a vs xs (tabsOf cs) b = none := by
  cases q : hpS K a vs xs (tabsOf cs) b with
  | none => rfl
  | some u =>
    rcases hpS_some q with ⟨z, _, _⟩ | ⟨z, _⟩
    · rw [z, S.scr] at e
      cases e
      exact absurd rfl (n1 _ _)
    · rw [S.tabE z] at e
      cases e
      exact absurd rfl n2
theorem Stand.keepG (S : Stand K h a vs cs) (e : h.get? b = some o) (n1 : ∀ ws n, o.data ≠ .seq ws n) (n2 : o.data ≠ .fields #[]) : (hidT h (hpS K a vs xs (tabsOf cs))).get? b = some o := hidT_get e (S.free e n1 n2)
theorem Stand.keepD (S : Stand K h a vs cs) {es : Array DictEntry} {ep : Nat} (e : h.get? b = some o) (d : o.data = .dict es ep) : (hidT h (hpS K a vs xs (tabsOf cs))).get? b = some o :=
  S.keepG e (fun ws n z => by rw [d] at z; cases z) (fun z => by rw [d] at z; cases z)
theorem Stand.ns (S : Stand K h a vs cs) {m : Str → Option Value} : h.Ns b m → (hidT h (hpS K a vs xs (tabsOf cs))).Ns b m := fun ⟨o, es, ep, e, d, r⟩ => ⟨o, es, ep, S.keepD e d, d, r⟩
theorem Stand.kIn (S : Stand K h a vs cs) : K.In (hidT h (hpS K a vs xs (tabsOf cs))) := fun b o e => hidT_get (S.kin b o e) (by
  cases q : hpS K a vs xs (tabsOf cs) b with
  | none => rfl
  | some u =>
    rcases hpS_some q with ⟨z, n, _⟩ | ⟨z, _⟩
    · rw [z, n] at e
      cases e
    · obtain ⟨p, hp, ep⟩ := List.mem_map.mp z
      rw [← ep, S.out p hp] at e
      cases e)
theorem Stand.hok (S : Stand K h a vs cs) {P : Program} {w : World} (r : Vals xs vs) (hl : xs.length ≤ sizeLine) : HOk P w (hpS K a vs xs (tabsOf cs)) h := fun b u z => by
  rcases hpS_some z with ⟨rfl, _, rfl⟩ | ⟨hb, rfl⟩
  · exact ⟨S.scr, hl, vs, _, r, S.scr⟩
  · exact S.tabE hb
theorem Stand.sq (S : Stand K h a vs cs) (r : Vals xs vs) (hl : xs.length ≤ sizeLine) : SqL K (hpS K a vs xs (tabsOf cs)) a xs := by
  cases hk : K.lookup a with
  | none => exact .inl (.inr ⟨_, hpS_scr hk⟩)
  | some o =>
    have e := S.kin a o hk
    rw [S.scr] at e
    cases e
    exact .inr ⟨_, vs.toArray, _, hk, rfl, rfl, rfl, by rw [List.size_toArray, ← r.length]; exact hl, by simpa using r⟩
/-- the tables, over the heap without what is tracked -/
theorem Stand.tb (S : Stand K h a vs cs) {mg : Str → Option Value} (hns : h.Ns mainGlobals mg) (hC : ∀ p ∈ cs, PySem.W.CodeHd h p.1 p.2)
    (hbm : ∃ (bm : Addr) (ob : Obj), mg "__builtins__" = some (.ref bm) ∧ bm ≠ builtinsNs ∧ h.get? bm = some ob ∧ ob.cls = .type "module" ∧ ob.dict = some builtinsNs ∧ ob.data = .plain) :
    ∀ p ∈ cs, LamX.TabB (hidT h (hpS K a vs xs (tabsOf cs))) mg p.1 p.2 := fun p hp => by
  obtain ⟨o1, us, file, tf, flags, tg, inF, text, tt, f1, f2, f3, f4, f5, f6, f7, f8, f9, f10⟩ := hC p hp
  obtain ⟨bm, ob, c1, c2, c3, c4, c5, c6⟩ := hbm
  obtain ⟨og, es, ep, g1, g2, g3⟩ := hns
  have tp := S.tab p hp
  refine ⟨⟨o1, us, file, tf, flags, tg, inF, text, tt, S.keepG f1 (fun ws n z => by rw [f3] at z; cases z) (fun z => by rw [f3] at z; cases z; simp at f4), f2, f3, f4, f5, f6, f7, f8, f9, f10⟩,
    ⟨bm, ob, c1, c2, fun z => ?_, fun z => ?_, S.keepG c3 (fun ws n z => by rw [c6] at z; cases z) (fun z => by rw [c6] at z; cases z), c4, c5, c6⟩, fun z => ?_⟩
  · rw [z, g1] at c3
    cases c3
    rw [g2] at c6
    cases c6
  · rw [z, tp] at c3
    cases c3
    cases c6
  · rw [z, tp] at g1
    cases g1
    cases g2
end
/-- the law's call -/
theorem law_callG {P : Program} {w : World} {K : PySem.W.Frag} {mg mb : Str → Option Value} {CX : CXT} {k : Nat} {f a : Addr} {cs : List (Addr × Addr)} {fd : FuncData} {x : Str} {sp : Sp} {sh : Shared} {vs : List Value} {ns : List Int}
    (S : Stand K sh.heap a vs cs) (gs : sh.heap.Ns mainGlobals mg) (bs : sh.heap.Ns builtinsNs mb) (be : ∀ y : Str, y ≠ "__name__" → mb y = bootBuiltins y) (lim : sh.heap.NoLimit) (ge : sh.gens = #[])
    (hC : ∀ p ∈ cs, PySem.W.CodeHd sh.heap p.1 p.2) (hbm : ∃ (bm : Addr) (ob : Obj), mg "__builtins__" = some (.ref bm) ∧ bm ≠ builtinsNs ∧ sh.heap.get? bm = some ob ∧ ob.cls = .type "module" ∧ ob.dict = some builtinsNs ∧ ob.data = .plain)
    (iv : IntsAre vs ns) (il : ns.length ≤ sizeLine) (room : Room k callerA)
    (G : ∀ base : Heap, K.In base → base.Ns mainGlobals mg → (∀ p ∈ cs, LamX.TabB base mg p.1 p.2) → FnG P w K mg base CX k f fd [x] sp) (bd : ∀ (s : Shared) (u : Value), BindsTo s fd ⟨[u], []⟩ [(x, u)])
    (want : ∀ H : Hp, (∀ p ∈ cs, H p.2 = some (.tbl #[])) → SqL K H a (ns.map V.int) → sp [.ref a] H (fun v _ => v = .bl true) fun _ _ _ => False) (hcx : ∀ H e s', CX [] H sh (fun _ _ _ => False) e s' → False) :
    codeAny (model P w) callerA (.call (.ref f) ⟨[.ref a], []⟩) (fun r t => r = .ok (.ret (.bool true)) ∧ OldK sh.heap t.heap ∧ t.os = sh.os ∧ AllBare t.gens) sh := by
  have rv := vals_ints iv
  have xl : (ns.map V.int).length ≤ sizeLine := by rw [List.length_map]; exact il
  generalize hX : ns.map V.int = xs at rv xl want
  obtain ⟨mc, l1, l2⟩ := lim
  have md : L2.Mod K mg (hidT sh.heap (hpS K a vs xs (tabsOf cs))) := ⟨S.kIn, S.ns gs, ⟨mb, S.ns bs, be⟩, ⟨mc, S.ns l1, l2⟩⟩
  have e0 : Env0 P w K mg (hidT sh.heap (hpS K a vs xs (tabsOf cs))) callerA [] sh (hpS K a vs xs (tabsOf cs)) :=
    ⟨rfl, md, fun b o e => of_hidT e, Nat.le_of_eq (hidT_size _ _), trivial, fun b hb => absurd (show b ∈ ([] : List Addr) from hb) (by simp), S.hok rv xl, .of_eq ge⟩
  have tE : ∀ p ∈ cs, hpS K a vs xs (tabsOf cs) p.2 = some (.tbl #[]) := fun p hp => by
    have hm : p.2 ∈ tabsOf cs := List.mem_map.mpr ⟨p, hp, rfl⟩
    exact hpS_tab hm (S.ne hm)
  refine codeAny_mono ((G _ S.kIn (S.ns gs) (S.tb gs hC hbm)).run callerA [] sh _ ⟨[.ref a], []⟩ [.ref a] [.ref a] _ _ room rfl e0 (bd sh (.ref a)) (.cons rfl .nil) (want _ tE (S.sq rv xl))) fun r t h => ?_
  match r, h with
  | .error e, h => exact (hcx _ e t h).elim
  | .ok .next, h => exact False.elim h
  | .ok .brk, h => exact False.elim h
  | .ok .cont, h => exact False.elim h
  | .ok (.ret u), ⟨v, H', os, bare, un, hok', rr, q⟩ =>
    have q : v = .bl true := q
    subst q
    obtain rfl : u = Value.bool true := rr
    have noF : ∀ b : Addr, b ∉ ([] : List Addr) := fun b z => (nomatch z)
    have grown : ∀ p ∈ cs, ∃ more : Array Value, t.heap.get? p.2 = some { cls := .none, data := .fields more } := fun p hp => by
      obtain ⟨more, z⟩ := un.tbls p.2 #[] (tE p hp)
      exact ⟨_, hok' p.2 _ z⟩
    have key : ∀ b o, sh.heap.get? b = some o → t.heap.get? b = some o ∨ ∃ p ∈ cs, p.2 = b := fun b o e => by
      cases z : hpS K a vs xs (tabsOf cs) b with
      | none => exact .inl (un.keep b o e z (fun y => absurd (show b ∈ ([] : List Addr) from y) (noF b)) (noF b))
      | some u =>
        rcases hpS_some z with ⟨rfl, _, rfl⟩ | ⟨hb, _⟩
        · have z2 := hok' b _ (un.frzs b _ _ z)
          rw [S.scr] at e
          cases e
          exact .inl z2.1
        · obtain ⟨p, hp, ep⟩ := List.mem_map.mp hb
          exact .inr ⟨p, hp, ep⟩
    refine ⟨rfl, ⟨fun b o e => ?_, fun b o e => ?_⟩, os, bare⟩
    · rcases key b o e with z | ⟨p, hp, rfl⟩
      · exact .inl z
      · obtain ⟨more, hm⟩ := grown p hp
        have tp := S.tab p hp
        rw [tp] at e
        cases e
        exact .inr (.inl ⟨((hC p hp).tab tp).isCodeTable, rfl, #[], more, rfl, by rw [Array.empty_append]; exact hm⟩)
    · rcases key b o e with z | ⟨p, hp, rfl⟩
      · exact ⟨o, z⟩
      · obtain ⟨more, hm⟩ := grown p hp
        exact ⟨_, hm⟩
/-- what is known of the law's def at the head's heap -/
structure LawG (l : PySem.W.OpenLaw) (w : World) (K : PySem.W.Frag) (k n : Nat) (x : Str) (mg : Str → Option Value) (f : Addr) (h : Heap) where
  fd : FuncData
  cs : List (Addr × Addr)
  sp : Sp
  tab : ∀ p ∈ cs, h.get? p.2 = some { cls := .none, data := .fields #[] }
  out : ∀ p ∈ cs, K.lookup p.2 = none
  code : ∀ p ∈ cs, PySem.W.CodeHd h p.1 p.2
  bd : ∀ (s : Shared) (u : Value), BindsTo s fd ⟨[u], []⟩ [(x, u)]
  want : ∀ (H : Hp) (a : Addr) (ns : List Int), ns.length ≤ n → (∀ z ∈ ns, Builtin.Int.intBits z ≤ 1048576) → (∀ p ∈ cs, H p.2 = some (.tbl #[])) → SqL K H a (ns.map V.int) → sp [.ref a] H (fun v _ => v = .bl true) fun _ _ _ => False
  ok : ∀ base : Heap, K.In base → base.Ns mainGlobals mg → (∀ p ∈ cs, LamX.TabB base mg p.1 p.2) → FnG l.prog w K mg base (L2.CX l.prog w) k f fd [x] sp
theorem walkG {l : PySem.W.OpenLaw} {n k : Nat} {q : Program} {loose : List Str} {XP : (Str → Option Value) → Heap → Prop} {YP : World → Heap → Prop} {d : DefRec} {x : Str} (hn : l.most = some n) (hn2 : n ≤ sizeLine) (hdf : d.params.defaults = []) (room : Room k callerA)
    (F : ∀ (w : World) (mg : Str → Option Value) (f : Addr) (h : Heap), YP w h → h.Ns mainGlobals mg → mg d.name = some (.ref f) → ∃ K : PySem.W.Frag, K.In h ∧ Nonempty (LawG l w K k n x mg f h)) : PySem.W.WalkO q loose XP YP l.row.toRowW d [] (fun f vs => PySem.call f vs) := by
  refine Att.attach_callB hn hdf fun w s₀ s₁ mg mb fa o pm cd doc a vs ns G Y ho hd hcd hmg hobj hints hlen hbits hg => ?_
  obtain ⟨K, kin, ⟨L⟩⟩ := F w mg fa _ Y G.T.g hmg
  exact law_callG ⟨kin, L.tab, L.out, hobj⟩ G.T.g G.T.b G.T.builtins G.T.nolimit hg L.code G.T.bmain hints (Nat.le_trans hlen hn2) room L.ok L.bd (fun H hH hS => L.want H a ns hlen hbits hH hS) fun H e s' => cx_empty
/-- the law at the head's heap -/
theorem lawG_of {l : PySem.W.OpenLaw} {fa : List Fa} {fn : List DefD} {ini : List IniD} {isi : List Str} {tf : List Defn} {w : World} {K : PySem.W.Frag} {mg : Str → Option Value} {h : Heap} {f : Addr} {fd : FuncData} {C : Cfg} {F : S → List D → Out D} {k : Nat}
    (X : K.In h) (c : SaysY l.prog fa fn ini isi tf h K) (hT : C.T.map (·.1) = tf.map fun p => (cT K p).2)
    (hF : ∀ (ns : List Int) (d : D), ns.length ≤ 63 → (∀ z ∈ ns, Builtin.Int.intBits z ≤ 1048576) → scrD d ns → ∃ s', F ⟨[], 0⟩ [d] = .ok (.bl true) s')
    (ok : ∀ base : Heap, K.In base → base.Ns mainGlobals mg → (∀ p ∈ tf, LamX.TabB base mg (cT K p).1 (cT K p).2) → FnG l.prog w K mg base (L2.CX l.prog w) k f fd ["script"] (spD C K F)) (hk : ∀ s : Shared, ∀ u : Value, BindsTo s fd ⟨[u], []⟩ [("script", u)]) :
    Nonempty (LawG l w K k 63 "script" mg f h) := by
  refine ⟨⟨fd, tf.map (cT K), spD C K F, fun p hp => ?_, fun p hp => ?_, fun p hp => ?_, hk, fun H a ns hl hbits hH hS => ?_, fun base b1 b2 b3 => ok base b1 b2 fun p hp => b3 _ (List.mem_map.mpr ⟨p, hp, rfl⟩)⟩⟩
  · obtain ⟨q, hq, rfl⟩ := List.mem_map.mp hp
    exact c.empty q hq
  · obtain ⟨q, hq, rfl⟩ := List.mem_map.mp hp
    exact c.out q hq
  · obtain ⟨q, hq, rfl⟩ := List.mem_map.mp hp
    exact PySem.W.codeHd_of_K X (c.hd q hq)
  · refine sp_law (fun p hp => ?_) hS (fun d hd => hF ns d hl hbits hd) fun _ => rfl
    have e : p.1 ∈ tf.map fun p => (cT K p).2 := by
      rw [← hT]
      exact List.mem_map.mpr ⟨p, hp, rfl⟩
    obtain ⟨q, hq, z⟩ := List.mem_map.mp e
    have := hH _ (List.mem_map.mpr ⟨q, hq, rfl⟩)
    rw [← z]
    exact this
end DV
end
section
set_option Elab.async false
set_option linter.all false
set_option maxRecDepth 100000
set_option maxHeartbeats 2000000
/-! EX2: own errors as values. -/
namespace DV
open PySem PySem.Spec PyProof.Rows L2
/-- the promise of an __init__ that keeps its arguments as fields -/
def spV (C : Addr) (fs : List Str) : Sp := fun vs H Q _ => ∃ a ys, vs = .ref a :: ys ∧ ys.length = fs.length ∧ H a = some (exo a C none) ∧
  (if fs = [] then Q .non H else ∀ dx, H dx = none → dx ≠ a → Q .non (L2.upd (L2.upd H dx (exd dx (fs.zip ys))) a (exo a C (some dx))))
theorem FnOk.imp {P : Program} {w : World} {K : PySem.W.Frag} {mg : Str → Option Value} {base : Heap} {CX : CXT} {k : Nat} {f : Addr} {fd : FuncData} {ps : List Str} {sp sp' : Sp} (F : FnOk P w K mg base CX k f fd ps sp) (h : ∀ vs H Q E, sp' vs H Q E → sp vs H Q E) : FnOk P w K mg base CX k f fd ps sp' :=
  ⟨fun vs H Q E q => F.len vs H Q E (h _ _ _ _ q), fun A outer s H args us vs Q E hr e0 hb r q => F.run A outer s H args us vs Q E hr e0 hb r (h _ _ _ _ q)⟩
theorem spV_one {C : Addr} {f : Str} {vs : List V} {H : Hp} {Q : VK} {E : XK} (h : spV C [f] vs H Q E) : spI C f vs H Q E := by
  obtain ⟨a, ys, rfl, l, e, q⟩ := h
  rw [if_neg (by simp)] at q
  match ys, l with
  | [y], _ => exact ⟨a, y, rfl, e, q⟩
section
variable {X : Cx} {pins : List (Addr × Obj)} {σ : L2.St} {H : Hp} {s : Shared} {Q : VK} {C fI : Addr} {k : Nat} {fd : FuncData} {ps : List Str} {sp : Sp} {us us' : List Value} {vs' : List V} {kw : List (Str × Value)}
theorem run_exc (T : OexC X.K C) (iC : PySem.W.findIn X.K (.ref C) "__init__" = some (some (.ref fI))) (tI : PySem.W.typeIn X.K (.ref fI) = some (.type "function")) (F1 : FnOk X.prog X.w X.K X.mg X.base (L2.CX X.prog X.w) k fI fd ps sp) (hr : Room (k + 1) X.A)
    (hb : ∀ (a : Addr) (t : Shared), X.K.In t.heap → BindsTo t fd ⟨.ref a :: us, kw⟩ (ps.zip (.ref a :: us'))) (I : Inv X pins σ H s) (r : Vals vs' us') (few : us.length ≤ sizeLine)
    (h : ∀ a, H a = none → sp (.ref a :: vs') (L2.upd H a (exo a C none)) (fun v H2 => v = .non ∧ Q (.ref a) H2) (fun _ _ _ => False)) : wpAny (model X.prog X.w) X.A (call (.ref C) us kw) (EP X pins σ Q) X.xe s := by
  obtain ⟨nm, q, N, bs, bm, sn, sub, ab, col, dd, k0, k1, k2, k3, k5, hC, hbm⟩ := T.cls
  obtain ⟨hp, g, dr, tk, os⟩ := s
  have sz : hp.objs.size ≤ hp.objs.size + 1 := Nat.le_succ _
  have hq := h (hp.objs.size + 1) (I.hok.fresh sz)
  have kp : ∀ b o, hp.get? b = some o → ((hp.push (PySem.W.kdv_tup us)).push (PySem.HandSPX.excO C hp.objs.size)).get? b = some o := fun b o e => Heap.get?_push_of_some _ (Heap.get?_push_of_some _ e)
  have here : ((hp.push (PySem.W.kdv_tup us)).push (PySem.HandSPX.excO C hp.objs.size)).get? (hp.objs.size + 1) = some (PySem.HandSPX.excO C hp.objs.size) := by heap_get
  have I2 : Inv X pins σ (L2.upd H (hp.objs.size + 1) (exo (hp.objs.size + 1) C none)) ⟨(hp.push (PySem.W.kdv_tup us)).push (PySem.HandSPX.excO C hp.objs.size), g, dr, tk, os⟩ :=
    I.laid (t' := tk) (a := hp.objs.size + 1) (o := exo (hp.objs.size + 1) C none) (h' := (hp.push (PySem.W.kdv_tup us)).push (PySem.HandSPX.excO C hp.objs.size)) kp sz (exo_ok here)
  have r2 : Vals (V.ref (hp.objs.size + 1) :: vs') (Value.ref (hp.objs.size + 1) :: us') := .cons rfl r
  refine wpAny_call (PySem.DVEX.call_it PySem.F.excBase_ValueError (fun Y => PySem.HandSPX.refsVE_contains Y bm hbm) (I.kIn _ _ hC) few (PySem.W.looks_findIn I.kIn iC) (fun self => PySem.W.bind_fn I.kIn self tI)
    (codeAny_mono (F1.run _ X.stack _ _ ⟨Value.ref (hp.objs.size + 1) :: us, kw⟩ (Value.ref (hp.objs.size + 1) :: us') _ _ (fun _ _ _ => False) (hr.make C us kw) (I2.env0.make C us kw) (hb _ _ I2.kIn) r2 hq) fun r s' hq' => ?_))
  have hx : Passes (L2.CX X.prog X.w) X (fun _ _ _ => False) := passes_call (W := fun _ _ _ _ => False) takes_none5 fun _ _ _ _ h => h
  match r, hq' with
  | .error e, hq' => exact hx pins σ _ _ e s' I2 hq'
  | .ok .next, hq' => exact False.elim hq'
  | .ok .brk, hq' => exact False.elim hq'
  | .ok .cont, hq' => exact False.elim hq'
  | .ok (.ret u), hq' =>
    obtain ⟨v, H', I3, rv, ev, q3⟩ := I2.after hq'
    subst ev
    exact ⟨rv, ⟨V.ref (hp.objs.size + 1), H', I3, rfl, q3⟩⟩
end
/-! ### over data -/
def xExn (c n : Nat) (fa : Ax) : Ex := fun e s => (fa e s).bind fun ds s => if ds.length = n then .ok (.exn c ds) s else .stuck
section
variable {C : Cfg} {X : Cx} {Wx : WX}
/-- what is laid by the making -/
theorem exn_ok {σ : L2.St} {env : Env} {W : Wd} {H : Hp} {s : S} {ds : List D} {vs : List V} {Q : VK} {c : Nat} {a : Addr} (e : StE C X.K W H σ env s) (r : RDs C X.K W H ds vs) (hl : ds.length = (C.cf c).length)
    (q : Res C X.K (fun W H => RD C X.K W H) Wx σ env W H s (.ok (.exn c ds) s) Q) (ha : H a = none) : spV (C.ca c) (C.cf c) (.ref a :: vs) (L2.upd H a (exo a (C.ca c) none)) (fun v H2 => v = .non ∧ Q (.ref a) H2) (fun _ _ _ => False) := by
  have hv : vs.length = (C.cf c).length := by rw [← r.length]; exact hl
  refine ⟨a, vs, rfl, hv, upd_same, ?_⟩
  split
  · rename_i h0
    rw [h0] at hv
    obtain rfl : vs = [] := List.length_eq_zero_iff.mp hv
    have l := Le.laid (o := exo a (C.ca c) none) e.st ha
    have t := e.st.laid (o := exo a (C.ca c) none) ha fun ps => exo_tbl
    refine ⟨rfl, q.ok' l (e.later l t) ⟨a, none, [], rfl, .inr rfl, upd_same, .inl ⟨rfl, by rw [h0]; rfl⟩, by rw [h0]; rfl, r.mono l e.st⟩⟩
  · intro dx hd ne
    rw [upd_ne ne] at hd
    have l1 := Le.laid (o := exd dx ((C.cf c).zip vs)) e.st hd
    have t1 := e.st.laid (o := exd dx ((C.cf c).zip vs)) hd fun ps z => by
      have z' : HO.ext _ = HO.tbl ps := z
      cases z'
    have ha1 : (L2.upd H dx (exd dx ((C.cf c).zip vs))) a = none := by rw [upd_ne (Ne.symm ne)]; exact ha
    have l2 := Le.laid (o := exo a (C.ca c) (some dx)) t1 ha1
    have t2 := t1.laid (o := exo a (C.ca c) (some dx)) ha1 fun ps => exo_tbl
    have eH : L2.upd (L2.upd (L2.upd H a (exo a (C.ca c) none)) dx (exd dx ((C.cf c).zip vs))) a (exo a (C.ca c) (some dx)) = L2.upd (L2.upd H dx (exd dx ((C.cf c).zip vs))) a (exo a (C.ca c) (some dx)) := by
      funext b
      by_cases hb : b = a
      · rw [hb, upd_same, upd_same]
      · rw [upd_ne hb, upd_ne hb]
        by_cases hb2 : b = dx
        · rw [hb2, upd_same, upd_same]
        · rw [upd_ne hb2, upd_ne hb2, upd_ne hb]
    rw [eH]
    have l := l1.trans l2
    refine ⟨rfl, q.ok' l (e.later l t2) ⟨a, some dx, vs, rfl, .inr rfl, upd_same, .inr ⟨dx, rfl, .inl (.inr rfl), by rw [upd_ne ne, upd_same]⟩, hv.symm, r.mono l e.st⟩⟩
/-- what the head tells of an own error that is made as a value -/
structure ExV (C : Cfg) (P : Program) (w : World) (K : PySem.W.Frag) (mg : Str → Option Value) (x : Str) (fs : List Str) (c : Nat) where
  m : mg x = some (.ref (C.ca c))
  ox : OexC K (C.ca c)
  aI : Addr
  dI : FuncData
  init : PySem.W.findIn K (.ref (C.ca c)) "__init__" = some (some (.ref aI))
  ti : PySem.W.typeIn K (.ref aI) = some (.type "function")
  cf : C.cf c = fs
  ok : ∀ (base : Heap) (k : Nat), FnOk P w K mg base (L2.CX P w) (k + 1) aI dI (("self" : Str) :: fs) (spV (C.ca c) fs)
  b : ∀ (s : Shared) (us : List Value), us.length = fs.length + 1 → BindsTo s dI ⟨us, []⟩ ((("self" : Str) :: fs).zip us)
  bk : ∀ (s : Shared) (u : Value) (ws : List Value), ws.length = fs.length → BindsTo s dI ⟨[u], fs.zip ws⟩ ((("self" : Str) :: fs).zip (u :: ws))
  xf : XfC K (C.ca c)
  nf : ∀ f ∈ fs, PySem.W.findIn K (.ref (C.ca c)) f = some none
variable {x : Str} {fs : List Str} {c k : Nat} {e : Expr} {es : List Expr} {fa : Ax} {p pos : Pos} {kws : List Keyword}
theorem de_exn (T : ExV C X.prog X.w X.K X.mg x fs c) (room : Room (k + 2) X.A) (hg : Gl X x) (ha : DA C X Wx (e :: es) fa) (hf : fs.length ≤ 1000) (hdb : (x == ("__debug__" : Str)) = false := by decide)
    (he : starEach (e :: es) X.env = (false, eval e X.env) :: starEach es X.env := by rfl) (hpl : (backTo pos (starEach es X.env)).any (·.1) = false := by rfl) : DE C X Wx (.Call (.Name x p) (e :: es) [] pos) (xExn c fs.length fa) := ⟨fun pn sh σ H Q J h => by
  obtain ⟨W, env, s, e0, q⟩ := h
  have h2 : tAx C X.K Wx fa σ H (fun vs H1 => ∃ W1 s1 ds, StE C X.K W1 H1 σ env s1 ∧ RDs C X.K W1 H1 ds vs ∧ Res C X.K (fun W H => RD C X.K W H) Wx σ env W1 H1 s1 (if ds.length = fs.length then .ok (.exn c ds) s1 else .stuck) Q) :=
    ⟨W, env, s, e0, Res.step q fun W1 H1 s1 ds vs l1 e1 h1 q1 => ⟨W1, s1, ds, e1, h1, q1⟩⟩
  refine wpAny_Call_Name_kw (ld_glob J hg T.m (PySem.W.callWith_K (h₀ := X.base) J.ok.mod.kin T.ox.kC (thn (ha.run pos pn sh σ H _ J h2) fun us s1 ⟨vs, H1, J1, r, W1, s2, ds, e1, rd, q1⟩ => ⟨J1.kIn, ?_⟩) he hpl) hdb)
  by_cases hl : ds.length = fs.length
  · rw [if_pos hl] at q1
    have uv : us.length = fs.length := by rw [← r.length, ← rd.length, hl]
    show wpAny _ _ (call (.ref (C.ca c)) us) _ _ _
    refine run_exc (us' := us) T.ox T.init T.ti (T.ok X.base k) room (fun a t _ => T.b t _ (by rw [List.length_cons, uv])) J1 r (by rw [uv, sizeLine_eq]; omega) fun a ha => ?_
    rw [← T.cf]
    exact exn_ok e1 rd (by rw [T.cf]; exact hl) q1 ha
  · rw [if_neg hl] at q1
    exact q1.elim⟩
theorem de_exn0 (T : ExV C X.prog X.w X.K X.mg x [] c) (room : Room (k + 2) X.A) (hg : Gl X x) (hdb : (x == ("__debug__" : Str)) = false := by decide) (hpl : ((backTo pos (starEach [] X.env)).any (·.1) || (backToKw pos (keywordEach [] X.env)).any (·.1.isNone)) = false := by rfl)
    (hall : (backToKw pos (keywordEach [] X.env)).all (·.1.isSome) = true := by rfl) (hks : (backToKw pos (keywordEach [] X.env)).filterMap (·.1) = [] := by rfl) : DE C X Wx (.Call (.Name x p) [] [] pos) (xExn c 0 aNil) := ⟨fun pn sh σ H Q J h => by
  obtain ⟨W, env, s, e0, q⟩ := h
  have q : Res C X.K (fun W H => RD C X.K W H) Wx σ env W H s (.ok (.exn c []) s) Q := q
  refine wpAny_Call_Name_kw (ld_glob J hg T.m ?_ hdb)
  refine PySem.W.callWith_KW0 (h₀ := X.base) J.ok.mod.kin T.ox.kC hall ?_ hpl
  refine thn ((pk_nil (X := X)).run pos pn sh σ H (fun zs H1 => zs = [] ∧ H1 = H) J ⟨rfl, rfl⟩) fun ws s2 ⟨zs, H2, I2, rz, e1, e2⟩ => ⟨I2.kIn, ?_⟩
  rw [hks]
  subst e1 e2
  refine run_exc (us := []) (us' := []) (kw := []) T.ox T.init T.ti (T.ok X.base k) room (fun a t _ => T.b t _ rfl) I2 .nil (Nat.zero_le _) fun a ha => ?_
  rw [← T.cf]
  exact exn_ok (ds := []) (vs := []) e0 rfl (by rw [T.cf]; rfl) q ha⟩
theorem de_exnK {ks : List Str} {fk : Ax} (T : ExV C X.prog X.w X.K X.mg x ks c) (room : Room (k + 2) X.A) (hg : Gl X x) (hkw : DKw C X Wx kws fk) (hall : (backToKw pos (keywordEach kws X.env)).all (·.1.isSome) = true := by rfl) (hks : (backToKw pos (keywordEach kws X.env)).filterMap (·.1) = ks := by rfl)
    (hdb : (x == ("__debug__" : Str)) = false := by decide) (hpl : ((backTo pos (starEach [] X.env)).any (·.1) || (backToKw pos (keywordEach kws X.env)).any (·.1.isNone)) = false := by rfl) : DE C X Wx (.Call (.Name x p) [] kws pos) (xExn c ks.length fk) := ⟨fun pn sh σ H Q J h => by
  obtain ⟨W, env, s, e0, q⟩ := h
  have h2 : tAx C X.K Wx fk σ H (fun vs H1 => ∃ W1 s1 ds, StE C X.K W1 H1 σ env s1 ∧ RDs C X.K W1 H1 ds vs ∧ Res C X.K (fun W H => RD C X.K W H) Wx σ env W1 H1 s1 (if ds.length = ks.length then .ok (.exn c ds) s1 else .stuck) Q) :=
    ⟨W, env, s, e0, Res.step q fun W1 H1 s1 ds vs l1 e1 h1 q1 => ⟨W1, s1, ds, e1, h1, q1⟩⟩
  refine wpAny_Call_Name_kw (ld_glob J hg T.m ?_ hdb)
  refine PySem.W.callWith_KW0 (h₀ := X.base) J.ok.mod.kin T.ox.kC hall ?_ hpl
  refine thn (hkw.run pos pn sh σ H _ J h2) fun ws s2 ⟨zs, H2, I2, rz, W1, s3, ds, e1, rd, q1⟩ => ⟨I2.kIn, ?_⟩
  rw [hks]
  by_cases hl : ds.length = ks.length
  · rw [if_pos hl] at q1
    have uv : ws.length = ks.length := by rw [← rz.length, ← rd.length, hl]
    refine run_exc (us := []) (us' := ws) T.ox T.init T.ti (T.ok X.base k) room (fun a t _ => T.bk t _ ws uv) I2 rz (Nat.zero_le _) fun a ha => ?_
    rw [← T.cf]
    exact exn_ok e1 rd (by rw [T.cf]; exact hl) q1 ha
  · rw [if_neg hl] at q1
    exact q1.elim⟩
end
end DV
end
section
set_option Elab.async false
set_option linter.all false
set_option maxRecDepth 100000
set_option maxHeartbeats 2000000
/-! EX3: own errors as values: their fields, isinstance; the walk of their __init__ with any number of fields. -/
namespace DV
open PySem PySem.Spec PyProof.Rows L2
/-- an error's object and its dict, as the library's rules ask -/
theorem exo_inst {X : Cx} {pins : List (Addr × Obj)} {σ : L2.St} {H : Hp} {s : Shared} {a C : Addr} {dx : Option Addr} {fs : List (Str × V)} {F : Addr → Prop} (I : Inv X pins σ H s) (ea : H a = some (exo a C dx)) (ed : ExD F H dx fs) :
    ∃ (oe : Obj) (od : Option Obj), PySem.W.InstAt s.heap a oe C od ∧ ∀ f v, fs.lookup f = some v → ∃ o u, od = some o ∧ PySem.W.lookIn f o = some (some u) ∧ RelV v u := by
  obtain ⟨t1, at1⟩ := exo_at I.hok ea
  rcases ed with ⟨h1, h2⟩ | ⟨d, h1, _, h3⟩
  · subst h1 h2
    exact ⟨_, none, ⟨at1, rfl, rfl, trivial⟩, fun f v h => by cases h⟩
  · subst h1
    obtain ⟨mA, hns, rel⟩ := exd_at I.hok h3
    obtain ⟨od, ho, hl⟩ := lookIn_ns hns
    refine ⟨_, some od, ⟨at1, rfl, rfl, ho⟩, fun f v h => ?_⟩
    obtain ⟨u, hu, ru⟩ := RelO.some_of (v := v) (o := mA f) (by rw [← h]; exact rel f)
    exact ⟨od, u, rfl, by rw [hl, hu], ru⟩
/-- e.f -/
def tXv (K : PySem.W.Frag) (f : Str) (te : TE) : TE := fun σ H Q => te σ H fun x H1 => ∃ (a C : Addr) (dx : Option Addr) (fs : List (Str × V)) (F : Addr → Prop) (v : V), x = .ref a ∧ XfC K C ∧ PySem.W.findIn K (.ref C) f = some none ∧ H1 a = some (exo a C dx) ∧ ExD F H1 dx fs ∧ fs.lookup f = some v ∧ Q v H1
theorem pe_xv {X : Cx} {e : Expr} {te : TE} {pos : Pos} {n : Str} (he : PE X e te) (hb : attributeBase e n X.env (eval e X.env) = eval e X.env := by rfl) : PE X (.Attribute e n pos) (tXv X.K n te) := by
  refine ⟨fun pins s σ H Q I h => ?_⟩
  refine attr_of hb (thn (he.run pins s σ H _ I h) fun u s1 hh => ?_)
  obtain ⟨x, H1, I1, rx, a, C, dx, fs, F, v, ex, T, hno, ea, ed, l, q⟩ := hh
  subst ex
  obtain rfl : u = Value.ref a := rx
  obtain ⟨oe, od, J, hv⟩ := exo_inst I1 ea ed
  obtain ⟨o, u, rfl, hu, ru⟩ := hv n v l
  exact HandSPX.exc_get I1.kIn J T.ga T.gg T.exC (PySem.W.findObj_own T.hdC hno rfl hu) (handed_of ru) ⟨v, H1, I1.tok _, ru, q⟩
/-- what isinstance asks of an own error's class -/
structure ExI (K : PySem.W.Frag) (C : Addr) : Prop where
  cl : (PySem.W.clsIn K C).isSome = true
  xf : XfC K C
  ha : PySem.W.findIn K (.ref C) "__class__" = some (some (.builtin "object.__class__"))
  hn : PySem.W.specialIn K (.builtin "object.__class__") "__get__" = some (some (.builtin "getset_descriptor.__get__"))
  ht : PySem.W.takesIn K (.builtin "object.__class__") = some true
  hm : PySem.W.mroIn K C (.type "object") = some true
def rIsX (K : PySem.W.Frag) : List V → Hp → VK → Prop := fun xs H Q => ∃ (a C : Addr) (dx : Option Addr) (fs : List (Str × V)) (F : Addr → Prop) (c : V) (u : Value) (b : Bool), xs = [.ref a, c] ∧ ClsV c u ∧ ExI K C ∧ H a = some (exo a C dx) ∧ ExD F H dx fs ∧ PySem.W.kitOne K (.ref C) u = some b ∧ Q (.bl b) H
theorem call_isX {X : Cx} : CallR X (.builtin "isinstance") (rIsX X.K) := by
  intro pins s σ H xs us Q I r h
  obtain ⟨a, C, dx, fs, F, c, u, b, rfl, k, T, ea, ed, e, q⟩ := h
  obtain ⟨u1, u2, rfl, r1, r2⟩ := vals2 r
  obtain rfl : u1 = Value.ref a := r1
  have e2 := k.eq r2
  subst e2
  obtain ⟨oe, od, J, _⟩ := exo_inst I ea ed
  exact PySem.W.kia_one (PySem.W.kitx_exc T.cl T.xf.ga T.xf.gg T.xf.exC T.ha T.hn T.ht T.hm) I.kIn J e (fun z => nomatch z) fun tk => ⟨.bl b, H, I.tok tk, rfl, q⟩
/-! ### over data -/
def gXv (ix : Nat → Option Nat) (s : S) (d : D) : Option D := match view s d with
  | .exn c vs => (ix c).bind fun i => vs[i]?
  | _ => none
/-- what the written part says of an error's class and a field -/
structure XvC (C : Cfg) (K : PySem.W.Frag) (f : Str) (c i : Nat) : Prop where
  at_ : (C.cf c)[i]? = some f
  nd : (C.cf c).Nodup
  xf : XfC K (C.ca c)
  no : PySem.W.findIn K (.ref (C.ca c)) f = some none
def gIsX (f : Nat → Option Bool) (s : S) (d : D) : Option D := match view s d with
  | .exn c _ => (f c).map D.bl
  | _ => none
section
variable {C : Cfg} {X : Cx} {Wx : WX} {o a c : Expr} {fo fa : Ex} {pos p : Pos} {f : Str}
theorem de_xv {ix : Nat → Option Nat} (hf : ∀ c i, ix c = some i → XvC C X.K f c i) (ho : DE C X Wx o fo) (hb : attributeBase o f X.env (eval o X.env) = eval o X.env := by rfl) : DE C X Wx (.Attribute o f pos) (xUn (gXv ix) fo) := PE.imp (pe_xv ho hb) fun σ H Q h => by
  obtain ⟨W, env, s, e, q⟩ := h
  refine ⟨W, env, s, e, Res.step q fun W1 H1 s1 d x l1 e1 h1 q1 => ?_⟩
  have sd := see_of e1.st h1
  revert q1
  unfold Out.of gXv
  split
  · rename_i z hz
    split at hz
    · rename_i c vs hv
      rw [hv] at sd
      intro q
      cases hi : ix c with
      | none => rw [hi] at hz; cases hz
      | some i =>
        rw [hi] at hz
        obtain ⟨g1, g2, g3, g4⟩ := hf c i hi
        obtain ⟨a, dx, ws, rfl, _, ea, ed, n, r⟩ := sd
        obtain ⟨v, hv, rv⟩ := r.get hz
        exact ⟨a, C.ca c, dx, _, _, v, rfl, g3, g4, ea, ed, lookup_zip g2 g1 hv, q.ok' Le.refl e1 rv⟩
    · cases hz
  · exact fun q => q.elim
theorem de_isX {g : Nat → Option Bool} {cv : V} {u : Value} (hg : Gl X "isinstance") (hm : X.mg "isinstance" = none) (ha : DE C X Wx a fa) (hc : PE X c (tC cv)) (hk : ClsV cv u) (hC : ∀ k b, g k = some b → PySem.W.kitOne X.K (.ref (C.ca k)) u = some b ∧ ExI X.K (C.ca k))
    (hs1 : starEach [a, c] X.env = (false, eval a X.env) :: starEach [c] X.env := by rfl) (hs2 : starEach [c] X.env = (false, eval c X.env) :: starEach [] X.env := by rfl) (hpl : (backTo pos (starEach [c] X.env)).any (·.1) = false := by rfl) :
    DE C X Wx (.Call (.Name "isinstance" p) [a, c] [] pos) (xUn (gIsX g) fa) :=
  PE.imp (pe_callB call_isX hg hm (by decide +kernel) (pa_cons ha (pa_cons hc pa_nil hs2) hs1) (he := hs1) (hpl := hpl)) fun σ H Q h => by
    obtain ⟨W, env, s, e, q⟩ := h
    refine ⟨W, env, s, e, Res.step q fun W1 H1 s1 d x l1 e1 h1 q1 => ?_⟩
    have sd := see_of e1.st h1
    revert q1
    unfold Out.of gIsX
    split
    · rename_i z hz
      split at hz
      · rename_i k vs hv
        rw [hv] at sd
        intro q
        cases hb : g k with
        | none => rw [hb] at hz; cases hz
        | some b =>
          rw [hb] at hz
          cases hz
          obtain ⟨k1, k2⟩ := hC k b hb
          obtain ⟨a, dx, ws, rfl, _, ea, ed, n, r⟩ := sd
          exact ⟨a, C.ca k, dx, _, _, cv, u, b, rfl, hk, k2, ea, ed, k1, q.ok' Le.refl e1 rfl⟩
      · cases hz
    · exact fun q => q.elim
end
/-! ### the walk of such an __init__: super().__init__('..'), then the fields -/
/-- self.f = .. for each field, its parameter of the same name -/
inductive Keeps (sf : Str) : List Str → List Stmt → Prop
  | nil : Keeps sf [] []
  | cons {f : Str} {fs : List Str} {r : List Stmt} {p1 p2 p3 p4 : Pos} (h : Keeps sf fs r) : Keeps sf (f :: fs) (.Assign [.Attribute (.Name sf p1) f p2] (.Name f p3) p4 :: r)
theorem exd_eq {dx : Addr} {fs gs : List (Str × V)} (h : ∀ f, fs.lookup f = gs.lookup f) : exd dx fs = exd dx gs := by
  unfold exd
  congr 1
  funext hp
  have e : (fun f => fs.lookup f) = fun f => gs.lookup f := funext h
  refine propext ⟨fun ⟨m, a, b⟩ => ⟨m, a, fun f => by rw [← h f]; exact b f⟩, fun ⟨m, a, b⟩ => ⟨m, a, fun f => by rw [h f]; exact b f⟩⟩
theorem lookup_rev {κ : List (Str × V)} (nd : (κ.map (·.1)).Nodup) (f : Str) : κ.reverse.lookup f = κ.lookup f := by
  induction κ with
  | nil => rfl
  | cons p r ih =>
    obtain ⟨g, v⟩ := p
    rw [List.map_cons, List.nodup_cons] at nd
    rw [List.reverse_cons, List.lookup_append, ih nd.2]
    by_cases e : f = g
    · subst e
      have : r.lookup f = none := by
        cases h : r.lookup f with
        | none => rfl
        | some v => exact absurd (List.mem_map.mpr ⟨(f, v), PySem.mem_of_lookup h, rfl⟩) nd.1
      rw [this]
      simp [List.lookup]
    · have e2 : (f == g) = false := by simpa using e
      simp [List.lookup, e2]
section
variable {X : Cx} {sf : Str} {a C dx : Addr}
/-- the fields behind the first one -/
theorem keeps_old (T : OexC X.K C) : ∀ {fs : List Str} {r : List Stmt} {ys : List V} {i : Nat} {done : List (Str × V)} {σ : L2.St} {H : Hp} {D : Ends}, Keeps sf fs r → fs.length = ys.length → (∀ f ∈ fs, PySem.W.findIn X.K (.ref C) f = some none) → done.length + fs.length ≤ 800 →
    X.N[0]? = some sf → (∀ j f, fs[j]? = some f → X.N[i + j]? = some f) → Vis X.env.scope sf → (∀ f ∈ fs, Vis X.env.scope f) → σ[0]? = some (some (.ref a)) → (∀ j y, ys[j]? = some y → σ[i + j]? = some (some y)) → (sf == ("__debug__" : Str)) = false → (sf == ("__classdict__" : Str)) = false → (∀ f ∈ fs, (f == ("__debug__" : Str)) = false ∧ (f == ("__classdict__" : Str)) = false) →
    H a = some (exo a C (some dx)) → H dx = some (exd dx done) → dx ≠ a → D.nx σ (L2.upd H dx (exd dx ((fs.zip ys).reverse ++ done))) → ∃ t, PSs X r t ∧ t D σ H
  | [], _, [], _, done, σ, H, D, .nil, _, _, _, _, _, _, _, _, _, _, _, _, ea, ed, ne, q => by
    refine ⟨_, pss_nil, ?_⟩
    have e : L2.upd H dx (exd dx ((([] : List Str).zip ([] : List V)).reverse ++ done)) = H := by
      funext b
      by_cases hb : b = dx
      · rw [hb, upd_same, ed]
        rfl
      · rw [upd_ne hb]
    rw [e] at q
    exact q
  | f :: fs, _, y :: ys, i, done, σ, H, D, @Keeps.cons _ _ _ r p1 p2 p3 p4 h, hl, hno, few, n0, nN, v0, vN, s0, sN, d0, c0, dN, ea, ed, ne, q => by
    have w1 : PE X (.Name sf p1) (tVar 0) := pe_var n0 v0 d0 c0
    have w2 : PE X (.Name f p3) (tVar i) := pe_var (nN 0 f rfl) (vN f (by simp)) (dN f (by simp)).1 (dN f (by simp)).2
    have few2 : ((f, y) :: done).length + fs.length ≤ 800 := by
      rw [List.length_cons] at few ⊢
      omega
    obtain ⟨t, ht, hq⟩ := keeps_old T (ys := ys) (i := i + 1) (done := (f, y) :: done) (H := L2.upd H dx (exd dx ((f, y) :: done))) (D := D) h (by simpa using hl) (fun g hg => hno g (List.mem_cons_of_mem _ hg)) few2 n0 (fun j g hj => by rw [show i + 1 + j = i + (j + 1) by omega]; exact nN (j + 1) g (by simpa using hj)) v0 (fun g hg => vN g (List.mem_cons_of_mem _ hg)) s0
      (fun j z hj => by rw [show i + 1 + j = i + (j + 1) by omega]; exact sN (j + 1) z (by simpa using hj)) d0 c0 (fun g hg => dN g (List.mem_cons_of_mem _ hg)) (by rw [upd_ne (Ne.symm ne)]; exact ea) upd_same ne (by
        rw [show L2.upd (L2.upd H dx (exd dx ((f, y) :: done))) dx (exd dx ((fs.zip ys).reverse ++ (f, y) :: done)) = L2.upd H dx (exd dx (((f :: fs).zip (y :: ys)).reverse ++ done)) by
          rw [upd_upd]
          simp [List.zip_cons_cons, List.reverse_cons, List.append_assoc]]
        exact q)
    refine ⟨_, pss_cons (ps_ost w1 w2) ht, ?_⟩
    exact ⟨y, sN 0 y rfl, .ref a, s0, a, C, rfl, T, hno f (by simp), .inr ⟨dx, done, ea, ed, by rw [List.length_cons] at few; omega, hq⟩⟩
/-- all of them -/
theorem keeps_all (T : OexC X.K C) {fs : List Str} {r : List Stmt} {ys : List V} {σ : L2.St} {H : Hp} {D : Ends} (h : Keeps sf fs r) (nd : fs.Nodup) (hl : fs.length = ys.length) (hno : ∀ f ∈ fs, PySem.W.findIn X.K (.ref C) f = some none) (few : fs.length ≤ 800)
    (n0 : X.N[0]? = some sf) (nN : ∀ j f, fs[j]? = some f → X.N[1 + j]? = some f) (v0 : Vis X.env.scope sf) (vN : ∀ f ∈ fs, Vis X.env.scope f) (s0 : σ[0]? = some (some (.ref a))) (sN : ∀ j y, ys[j]? = some y → σ[1 + j]? = some (some y)) (d0 : (sf == ("__debug__" : Str)) = false) (c0 : (sf == ("__classdict__" : Str)) = false)
    (dN : ∀ f ∈ fs, (f == ("__debug__" : Str)) = false ∧ (f == ("__classdict__" : Str)) = false) (ea : H a = some (exo a C none))
    (q : if fs = [] then D.nx σ H else ∀ dx, H dx = none → dx ≠ a → D.nx σ (L2.upd (L2.upd H dx (exd dx (fs.zip ys))) a (exo a C (some dx)))) : ∃ t, PSs X r t ∧ t D σ H := by
  cases h with
  | nil => exact ⟨_, pss_nil, q⟩
  | @cons f fs r p1 p2 p3 p4 h =>
    match ys, hl with
    | y :: ys, hl =>
      rw [if_neg (by simp)] at q
      have w1 : PE X (.Name sf p1) (tVar 0) := pe_var n0 v0 d0 c0
      have w2 : PE X (.Name f p3) (tVar 1) := pe_var (nN 0 f rfl) (vN f (by simp)) (dN f (by simp)).1 (dN f (by simp)).2
      refine ⟨tSeq (tOst X.K f (tVar 0) (tVar 1)) (fun D' σ' H' => D' = D ∧ σ' = σ ∧ ∃ dx, H dx = none ∧ dx ≠ a ∧ H' = L2.upd (L2.upd H dx (exd dx [(f, y)])) a (exo a C (some dx))), pss_cons (ps_ost w1 w2) ⟨fun pins sh σ' H' D' I hh => ?_⟩, ?_⟩
      · obtain ⟨rfl, rfl, dx, hd, ne, rfl⟩ := hh
        obtain ⟨t, ht, hq⟩ := keeps_old (sf := sf) (a := a) (dx := dx) T (i := 2) (done := [(f, y)]) (H := L2.upd (L2.upd H dx (exd dx [(f, y)])) a (exo a C (some dx))) (D := D') h (by simpa using hl) (fun g hg => hno g (List.mem_cons_of_mem _ hg)) (by rw [List.length_cons] at few; simp only [List.length_cons, List.length_nil]; omega) n0 (fun j g hj => by rw [show 2 + j = 1 + (j + 1) by omega]; exact nN (j + 1) g (by simpa using hj)) v0
          (fun g hg => vN g (List.mem_cons_of_mem _ hg)) s0 (fun j z hj => by rw [show 2 + j = 1 + (j + 1) by omega]; exact sN (j + 1) z (by simpa using hj)) d0 c0 (fun g hg => dN g (List.mem_cons_of_mem _ hg)) upd_same (by rw [upd_ne ne, upd_same]) ne (by
            have q2 := q dx hd ne
            have ez : exd dx ((fs.zip ys).reverse ++ [(f, y)]) = exd dx ((f :: fs).zip (y :: ys)) := exd_eq fun g => by
              have ndz : (((f :: fs).zip (y :: ys)).map (·.1)).Nodup := by
                rw [List.map_fst_zip (by rw [hl]; exact Nat.le_refl _)]
                exact nd
              rw [← lookup_rev ndz, List.zip_cons_cons, List.reverse_cons]
            have eH : L2.upd (L2.upd (L2.upd H dx (exd dx [(f, y)])) a (exo a C (some dx))) dx (exd dx ((fs.zip ys).reverse ++ [(f, y)])) = L2.upd (L2.upd H dx (exd dx ((f :: fs).zip (y :: ys)))) a (exo a C (some dx)) := by
              rw [ez]
              funext b
              by_cases hb : b = dx
              · rw [hb, upd_same, upd_ne ne, upd_same]
              · rw [upd_ne hb]
                by_cases hb2 : b = a
                · rw [hb2, upd_same, upd_same]
                · rw [upd_ne hb2, upd_ne hb2, upd_ne hb, upd_ne hb]
            rw [eH]
            exact q2)
        exact ht.run pins sh _ _ _ I hq
      · exact ⟨y, sN 0 y rfl, .ref a, s0, a, C, rfl, T, hno f (by simp), .inl ⟨ea, fun dx h1 h2 => ⟨rfl, rfl, dx, h1, h2, rfl⟩⟩⟩
end
end DV
end
section
set_option Elab.async false
set_option linter.all false
set_option maxRecDepth 100000
set_option maxHeartbeats 2000000
/-! EX4: what the head tells of own errors that are made as values. -/
namespace DV
open PySem PySem.Spec PyProof.Rows L2 PySem.W He
/-- super().__init__('..') -/
def supSt (m : Str) (j : Nat) (q : Nat → Pos) : Stmt := .Expr (.Call (.Attribute (.Call (.Name "super" (q 0)) [] [] (q 1)) "__init__" (q 2)) [.Constant (.str m) j (q 3)] [] (q 4)) (q 5)
section
variable {P : Program} {w : World} {K : PySem.W.Frag} {mg : Str → Option Value} {base : Heap}
open NdefX in
theorem fn_initG {k : Nat} {C f cc cda : Addr} {name qual m sf : Str} {fs : List Str} {r : List Stmt} {params : Arguments} {scope : Scope} {dV kV doc pm ct : Value} {an : Option Addr} {j : Nat} {q : Nat → Pos} {r0 : Arg} {pl : Sem Bool}
    (S : SupI P K C f cc cda (fnX name qual params (supSt m j q :: r) scope [("__class__", cc)] dV kV doc pm an (.ref cda) ct)) (hcd : codeIn K (.ref cda) qual = true) (hno : ∀ g ∈ fs, findIn K (.ref C) g = some none) (kp : Keeps sf fs r) (few : fs.length ≤ 800)
    (NS : NScope (sf :: (fs ++ [("__class__" : Str)])) (sf :: fs) ["__class__"] scope) (hks : scope.names.lookup ("super" : Str) = some .globalImplicit) (hsup : mg "super" = none) (hp : (params.posonlyargs ++ params.args).head? = some r0) (h0 : r0.arg = sf)
    (he : ∀ (L : Addr), eval (.Call (.Attribute (.Call (.Name "super" (q 0)) [] [] (q 1)) "__init__" (q 2)) [.Constant (.str m) j (q 3)] [] (q 4)) (envX qual scope L f (.ref cda) [("__class__", cc)]) = (do
      let ov ← attributeBase (.Call (.Name "super" (q 0)) [] [] (q 1)) "__init__" (envX qual scope L f (.ref cda) [("__class__", cc)]) (eval (.Call (.Name "super" (q 0)) [] [] (q 1)) (envX qual scope L f (.ref cda) [("__class__", cc)]))
      standAt (q 2).atName
      let (g0, first) ← holding [ov] (getMethod ov "__init__" pl)
      callWith (q 4) g0 first (backTo (q 4) (starEach [.Constant (.str m) j (q 3)] (envX qual scope L f (.ref cda) [("__class__", cc)]))) []))
    (d0 : (sf == ("__debug__" : Str)) = false) (c0 : (sf == ("__classdict__" : Str)) = false) (dN : ∀ g ∈ fs, (g == ("__debug__" : Str)) = false ∧ (g == ("__classdict__" : Str)) = false) :
    FnOk P w K mg base (L2.CX P w) (k + 1) f (fnX name qual params (supSt m j q :: r) scope [("__class__", cc)] dV kV doc pm an (.ref cda) ct) (sf :: fs) (spV C fs) := by
  refine ⟨fun vs H Q E ⟨a, ys, e, l, _⟩ => by rw [e, List.length_cons, List.length_cons, l], fun A outer s H args us vs Q E hr e0 hb r' hsp => ?_⟩
  obtain ⟨a, ys, rfl, hl, ea, hq⟩ := hsp
  have KX : K.In s.heap := e0.mod.kin.keeps fun b o e => (e0.bs b o e).1
  have lim : s.heap.NoLimit := e0.mod.nolimit.keeps fun b o e => (e0.bs b o e).1
  obtain ⟨oc, od, osl, lf⟩ := S.fn
  obtain ⟨xcl, xcd, xsl, lx⟩ := S.cell
  let F : NF := ⟨name, qual, params, supSt m j q :: r, scope, [("__class__", cc)], cda⟩
  have cells : CellsAt F.cl ["__class__"] [none] s.heap H := by
    have look : ∀ {z : Str} {c : Addr}, ([(("__class__" : Str), cc)] : List (Str × Addr)).lookup z = some c → z = "__class__" ∧ c = cc := fun {z c} h => by
      have := PySem.mem_of_lookup h
      simp at this
      exact this
    obtain ⟨hb1, hb2⟩ := e0.bs cc _ (e0.mod.kin _ _ lx)
    refine ⟨rfl, fun z c h => ?_, fun x z c h1 h2 => by rw [(look h1).1, (look h2).1], fun i z h => ?_⟩
    · obtain ⟨_, rfl⟩ := look h
      exact ⟨hb2, _, _, hb1, rfl⟩
    · cases i with
      | zero =>
        cases h
        exact ⟨cc, rfl, fun v h => by cases h⟩
      | succ i => cases i <;> cases h
  refine codeAny_call_function hr.depth (KX _ _ lf) rfl NS.co NS.gen rfl (codeRec_of KX hcd) (hb _ _ _ _ ?_)
  refine wpAny_newFunctionEnv NS.nocell (fun ⟨n, _⟩ hy => NS.par n (List.of_mem_zip hy).1) (fun h₁ hns hsb => ⟨lim.fresh _ hsb, ?_⟩) NS.kind
  show codeAny _ _ (.func (supSt m j q :: r) (envF F f s.heap.objs.size)) _ _
  refine ks_codeAny_funcAt ?_
  have kpH : ∀ b o, s.heap.get? b = some o → h₁.get? b = some o := fun b o e => hsb.extBut b o (Nat.ne_of_lt (Heap.lt_size e)) (Heap.get?_push_of_some _ e)
  have lN : (sf :: fs).length = (V.ref a :: ys).length := by rw [List.length_cons, List.length_cons, hl]
  have I : Inv (ncx (L2.CX P w) P w K mg base (sf :: (fs ++ [("__class__" : Str)])) F f A outer s H E) [] (startF (sf :: (fs ++ [("__class__" : Str)])) (.ref a :: ys) [none]) H { s with heap := h₁, toks := s.toks + ((sf :: fs).zip us).length } := inv_startN NS hr.hd e0 lN.symm r' cells hns kpH
  have kself : scope.names.lookup sf = some .local := NS.par sf (by simp)
  have kcls : scope.names.lookup ("__class__" : Str) = some .free := NS.frk _ (by simp)
  have hint : interactive (ncx (L2.CX P w) P w K mg base (sf :: (fs ++ [("__class__" : Str)])) F f A outer s H E).env = false := by
    show (scope.kind == .module && _) = false
    rw [NS.kind]
    rfl
  have T : OexC (ncx (L2.CX P w) P w K mg base (sf :: (fs ++ [("__class__" : Str)])) F f A outer s H E).K C := S.exc
  obtain ⟨t, ht, hq2⟩ := keeps_all (X := ncx (L2.CX P w) P w K mg base (sf :: (fs ++ [("__class__" : Str)])) F f A outer s H E) (sf := sf) (a := a) (C := C) (fs := fs) (r := r) (ys := ys) (σ := startF (sf :: (fs ++ [("__class__" : Str)])) (.ref a :: ys) [none]) (H := H) (D := { nx := fun _ H' => Q .non H', rt := Q }) T kp (by
      have h1 := NS.nd
      rw [List.nodup_cons] at h1
      exact (List.nodup_append.mp h1.2).1) hl.symm hno few rfl (fun i g hg => by
      show (sf :: (fs ++ [("__class__" : Str)]))[1 + i]? = some g
      rw [Nat.add_comm, List.getElem?_cons_succ, List.getElem?_append_left (List.getElem?_eq_some_iff.mp hg).1]
      exact hg) (.inl kself) (fun g hg => .inl (NS.par g (List.mem_cons_of_mem _ hg))) rfl (fun i y hy => by
      show ((V.ref a :: ys).map some ++ _)[1 + i]? = some (some y)
      rw [Nat.add_comm, List.map_cons, List.cons_append, List.getElem?_cons_succ, List.getElem?_append_left (by rw [List.length_map]; exact (List.getElem?_eq_some_iff.mp hy).1), List.getElem?_map, hy]
      rfl) d0 c0 dN ea hq
  refine ks_wpAt_mono (Q := fun fl s' => SP (ncx (L2.CX P w) P w K mg base (sf :: (fs ++ [("__class__" : Str)])) F f A outer s H E) [] { nx := fun _ H' => Q .non H', rt := Q } fl s') (ks_wpAt_execs_cons (super_step (X := ncx (L2.CX P w) P w K mg base (sf :: (fs ++ [("__class__" : Str)])) F f A outer s H E) S I ea hks kcls (by rw [h0]; exact kself) rfl rfl rfl hp (by rw [h0]; rfl) rfl hsup hint (he _) fun s' J => wpAt_of_wpAny ?_)) (fun fl s' hs => ?_) fun e s' hs => hs
  · exact ht.run [] s' _ H _ J hq2
  · have fin : ∀ {σ' : L2.St} {H' : Hp} {v : V} {u : Value}, Inv (ncx (L2.CX P w) P w K mg base (sf :: (fs ++ [("__class__" : Str)])) F f A outer s H E) [] σ' H' s' → L2.RelV v u → Q v H' → CE outer P w H s Q u s' :=
      fun {σ' H' v u} J rv q => ⟨v, H', J.os, J.bare, J.base, J.hok, rv, q⟩
    match fl, hs with
    | .ret u, hs =>
      obtain ⟨v, σ', H', J, rv, q⟩ := hs
      exact fin J rv q
    | .next, hs =>
      obtain ⟨σ', H', J, q⟩ := hs
      exact fin (v := V.non) (u := Value.none) J rfl q
    | .brk, hs =>
      obtain ⟨_, _, _, q⟩ := hs
      exact False.elim q
    | .cont, hs =>
      obtain ⟨_, _, _, q⟩ := hs
      exact False.elim q
end
/-! ### what is read at the head -/
theorem exI_ok {K : PySem.W.Frag} {C : Addr} (h : exI_b K C = true) : ExI K C := by
  unfold exI_b at h
  obtain ⟨h1, h⟩ := ba h
  obtain ⟨h2, h⟩ := ba h
  obtain ⟨h3, h⟩ := ba h
  obtain ⟨h4, h⟩ := ba h
  obtain ⟨h5, h6⟩ := ba h
  exact ⟨h1, xfB_ok h2, eqO_ok h3, eqO_ok h4, of_decide_eq_true h5, of_decide_eq_true h6⟩
structure SaysV (K : PySem.W.Frag) (vs : List IniV) (bs : List Str) (v : IniV) : Prop where
  i : ExI K (ga K v.cls)
  nf : ∀ f ∈ v.fs, PySem.W.findIn K (.ref (ga K v.cls)) f = some none
  k : ∀ x ∈ vs, PySem.W.kitOne K (.ref (ga K v.cls)) (.ref (ga K x.cls)) = some (decide (v.cls = x.cls))
  b : ∀ b ∈ bs, PySem.W.kitOne K (.ref (ga K v.cls)) (.ref (ga K b)) = some true
  ve : PySem.W.kitOne K (.ref (ga K v.cls)) (.type "ValueError") = some true
theorem okZ_nd {K : PySem.W.Frag} {tf : List Defn} {vs : List IniV} {bs : List Str} (h : okZ K tf vs bs = true) : (tf.map fun p => (cT K p).2).Nodup := of_decide_eq_true (ba h).1
theorem okZ_ok {K : PySem.W.Frag} {tf : List Defn} {vs : List IniV} {bs : List Str} (h : okZ K tf vs bs = true) {v : IniV} (hv : v ∈ vs) : SaysV K vs bs v := by
  obtain ⟨h1, h2⟩ := ba (List.all_eq_true.mp (ba h).2 v hv)
  obtain ⟨h2, h3⟩ := ba h2
  obtain ⟨h3, h4⟩ := ba h3
  obtain ⟨h4, h5⟩ := ba h4
  exact ⟨exI_ok h1, fun f hf => eqO_ok (List.all_eq_true.mp h2 f hf), fun x hx => of_decide_eq_true (List.all_eq_true.mp h3 x hx), fun b hb => of_decide_eq_true (List.all_eq_true.mp h4 b hb), of_decide_eq_true h5⟩
def hookZ (P : Program) (n : Nat) (fa : List Fa) (fn : List DefD) (ini : List IniD) (isi : List Str) (tf : List Defn) (vs : List IniV) (bs : List Str) : PySem.W.Hook where
  α := AlZ
  obs := fun s => obsZ P n fa fn ini isi tf vs bs s.heap.get?
  val := fun _ => (valY fn ini, true)
  says := fun _ h => ∃ K : PySem.W.Frag, K.In h ∧ SaysY P fa fn ini isi tf h K ∧ okZ K tf vs bs = true
  of := fun _ _ e => ⟨_, frT_in, saysY_of (congrArg Prod.fst e), congrArg Prod.snd e⟩
  keeps := fun _ _ _ ⟨K, hK, c, z⟩ k => ⟨K, PySem.W.Frag.In.keeps hK k, ⟨c.d, c.i, c.io, c.is, c.hd, c.out, fun p hp => k _ _ (c.empty p hp)⟩, z⟩
theorem obsZ_eq {P : Program} {n : Nat} {fa : List Fa} {fn : List DefD} {ini : List IniD} {isi : List Str} {tf : List Defn} {vs : List IniV} {bs : List Str} {g : Addr → Option Obj} {s : Shared} (h : ∀ a, g a = s.heap.get? a) : obsZ P n fa fn ini isi tf vs bs g = (hookZ P n fa fn ini isi tf vs bs).obs s := by
  have e : g = s.heap.get? := funext h
  rw [e] <;> rfl
/-- an own error's facts -/
theorem excV_of {C : Cfg} {P : Program} {w : World} {K : PySem.W.Frag} {mg : Str → Option Value} {h : Heap} {d : IniD} {fs : List Str} {r : List Stmt} {c : Nat} {m : Str} {j : Nat} {q : Nat → Pos} {r0 : Arg} {pl : Sem Bool}
    (X : K.In h) (G : h.Ns mainGlobals mg) (ok : d.ok P K = true) (e : fnY K d = d.val) (nf : ∀ f ∈ fs, PySem.W.findIn K (.ref (ga K d.cls)) f = some none) (glo : (Fa.glo d.cls).ok K = true) (top : (P.main.scope.names.lookup ("super" : Str)).isSome = false)
    (ca : C.ca c = ga K d.cls) (cf : C.cf c = fs) (hsup : mg "super" = none) (body : defBody d.st = supSt m j q :: r) (kp : Keeps ("self" : Str) fs r) (few : fs.length ≤ 800)
    (NS : NdefX.nscB (("self" : Str) :: (fs ++ [("__class__" : Str)])) (("self" : Str) :: fs) ["__class__"] (defScope d.st) = true) (hks : (defScope d.st).names.lookup ("super" : Str) = some .globalImplicit) (hp : ((defArgs d.st).posonlyargs ++ (defArgs d.st).args).head? = some r0) (h0 : r0.arg = "self")
    (he : ∀ (cc cda L : Addr), eval (.Call (.Attribute (.Call (.Name "super" (q 0)) [] [] (q 1)) "__init__" (q 2)) [.Constant (.str m) j (q 3)] [] (q 4)) (PySem.W.envX (d.cls ++ ".__init__") (defScope d.st) L (ma K (ga K d.cls) "__init__") (.ref cda) [("__class__", cc)]) = (do
      let ov ← attributeBase (.Call (.Name "super" (q 0)) [] [] (q 1)) "__init__" (PySem.W.envX (d.cls ++ ".__init__") (defScope d.st) L (ma K (ga K d.cls) "__init__") (.ref cda) [("__class__", cc)]) (eval (.Call (.Name "super" (q 0)) [] [] (q 1)) (PySem.W.envX (d.cls ++ ".__init__") (defScope d.st) L (ma K (ga K d.cls) "__init__") (.ref cda) [("__class__", cc)]))
      standAt (q 2).atName
      let (g0, first) ← holding [ov] (getMethod ov "__init__" pl)
      callWith (q 4) g0 first (backTo (q 4) (starEach [.Constant (.str m) j (q 3)] (PySem.W.envX (d.cls ++ ".__init__") (defScope d.st) L (ma K (ga K d.cls) "__init__") (.ref cda) [("__class__", cc)]))) []))
    (dN : ∀ g ∈ fs, (g == ("__debug__" : Str)) = false ∧ (g == ("__classdict__" : Str)) = false)
    (hb : ∀ (kV doc pm ct : Value) (an : Option Addr) (cda cc : Addr) (us : List Value), us.length = fs.length + 1 → bindArgs (PySem.W.fnX "__init__" (d.cls ++ ".__init__") (defArgs d.st) (defBody d.st) (defScope d.st) [("__class__", cc)] .none kV doc pm an (.ref cda) ct) ⟨us, []⟩ = pure ((("self" : Str) :: fs).zip us))
    (hk : ∀ (kV doc pm ct : Value) (an : Option Addr) (cda cc : Addr) (u : Value) (ws : List Value), ws.length = fs.length → bindArgs (PySem.W.fnX "__init__" (d.cls ++ ".__init__") (defArgs d.st) (defBody d.st) (defScope d.st) [("__class__", cc)] .none kV doc pm an (.ref cda) ct) ⟨[u], fs.zip ws⟩ = pure ((("self" : Str) :: fs).zip (u :: ws))) :
    Nonempty (ExV C P w K mg d.cls fs c) := by
  obtain ⟨cc, cda, kV, doc, pm, ct, an, S, hcd⟩ := IniD.sup ok e top
  obtain ⟨e1, e2, e3, e4, e5⟩ := IniD.rest ok
  refine ⟨⟨?_, ?_, ma K (ga K d.cls) "__init__", PySem.W.fnX "__init__" (d.cls ++ ".__init__") (defArgs d.st) (defBody d.st) (defScope d.st) [("__class__", cc)] .none kV doc pm an (.ref cda) ct, ?_, e2, cf, fun base k => ?_, fun s us hl => .of_eq (hb kV doc pm ct an cda cc us hl), fun s u ws hl => .of_eq (hk kV doc pm ct an cda cc u ws hl), ?_, ?_⟩⟩
  · rw [ca]
    exact glo_ok X G glo
  · rw [ca]
    exact e3
  · rw [ca]
    exact e1
  · rw [ca]
    have S' := S
    rw [body] at S' ⊢
    exact fn_initG S' hcd nf kp few (NdefX.nscope_by NS) hks hsup hp h0 (fun L => he cc cda L) (by decide) (by decide) dN
  · rw [ca]
    exact e4
  · rw [ca]
    exact nf
end DV
end
section
set_option Elab.async false
set_option linter.all false
set_option maxRecDepth 100000
set_option maxHeartbeats 2000000
/-! EX5: functions as values: lambdas without captured names, called where they are got. -/
namespace DV
open PySem PySem.Spec PyProof.Rows L2
/-- lambdas of the text, by number -/
def glOf (tab : Nat → Option (Str × LamT)) : GlR where
  r i a F H := ∃ (q : Str) (L : LamT) (c' : Addr), tab i = some (q, L) ∧ L.dn = [] ∧ F a ∧ H a = some (LamO q L [] a c' 0) ∧ F c' ∧ H c' = some (LamX.CodeO c' q)
  st i a F F' H H' hF hH h := by
    obtain ⟨q, L, c', h1, hd, h2, h3, h4, h5⟩ := h
    exact ⟨q, L, c', h1, hd, hF _ h2, hH _ _ h2 h3, hF _ h4, hH _ _ h4 h5⟩
def xFn (i : Nat) : Ex := fun _ s => .ok (.fn i) s
/-- a def whose frame makes such lambdas -/
theorem fn_defC {C : Cfg} {P : Program} {w : World} {K : PySem.W.Frag} {mg : Str → Option Value} {base : Heap} {k : Nat} {x qual : Str} {st : Stmt} {f c : Addr} {fd : FuncData} {N ps : List Str} {body : Sx} (F : FunC K x qual st f fd c) (S : FnScope N ps (defScope st))
    (hb : ∀ (A : Around) (outer : List PySem.Env) (s : Shared) (H : Hp) (E : XK), Room k (A.deeper (envOfC qual (defScope st) s.heap.objs.size f (.ref c))) →
      DSs C (cxOf (L2.CX P w) P w K mg base N qual (defScope st) f (.ref c) A outer s H E) (fun c d _ H => E c d H) (defBody st) body) : FnOk P w K mg base (L2.CX P w) (k + 1) f fd ps (spD C K (runDef ps.length N.length body)) := by
  obtain ⟨oc, od, kV, doc, pm, an, ct, osl, rfl, lk, hcd⟩ := F.ex
  exact fn_of lk hcd S (fun vs H Q E h => (run_ts h).1) fun A outer s H vs Q E hr h => ⟨_, hb A outer s H E hr, (run_ts h).2⟩
section
variable {C : Cfg} {X : Cx} {Wx : WX} {c P : Addr} {nm : Nat → Nat → Str} {L : LamT} {pos : Pos} {i : Nat} {W : Wd} {H H0 H1 : Hp} {s : S} {f c' T0 : Addr}
/-- the world behind the making -/
theorem lam_world {K : PySem.W.Frag} (t : StS C K W H s) (hd : L.dn = []) (made : Made X H0 C.T L f c' T0 H1) (n0 : H0 = H) :
    ∃ W', Le W H s W' H1 s ∧ StS C K W' H1 s ∧ W'.F f ∧ W'.F c' := by
  subst n0
  obtain ⟨ex, nn, tn, f0, f1, c1, cOld, cTab⟩ := made
  have keep : ∀ a o, H0 a = some o → ntb o → H1 a = some o := fun a o h n => ex a o h n
  have cF : H0 c' = none ∨ W.F c' := by
    rcases cOld with h | ⟨ps, p, tp, hp, e1, e2⟩
    · exact .inl h
    · exact .inr (t.tb.2 tp hp ps e1 p c' e2)
  let W' : Wd := ⟨fun a => W.F a ∨ a = f ∨ a = c', W.al, W.ts⟩
  have l : Le W H0 s W' H1 s := ⟨fun _ h => .inl h, fun _ _ h => h, fun _ _ h => h, fun a o h n _ => keep a o h n, fun a h z => h (nn _ z), fun _ h => h, (fun j a hj h => by
    have h : W.al[j]? = some a := h
    rw [List.getElem?_eq_none hj] at h
    cases h), fun a h => by
      rcases h with h | rfl | rfl
      · exact .inl h
      · exact .inr (.inl f0)
      · exact cF.elim (fun z => .inr (.inl z)) .inl⟩
  have fresh_dead : ∀ a, H0 a = none → ∀ j : Nat, W.al[j]? = some a → s.mo[j]? = some .dead := fun a h j hj => absurd h (t.alh a (List.mem_of_getElem? hj))
  refine ⟨W', l, ⟨t.len, t.tln, t.nod, fun j o a h1 h2 => ?_, fun a h => ?_, fun a ha => l.dom a (t.alh a ha), tn, fun p hp ps e1 p' cc hcc => ?_⟩, .inr (.inl rfl), .inr (.inr rfl)⟩
  · have m := t.mo j o a h1 h2
    by_cases hd : o = .dead
    · rw [hd]
      exact trivial
    · exact mok_later l t (fun u hu => keep a u hu (mok_plain hd m u hu).1) m
  · rcases h with h | rfl | rfl
    · obtain ⟨g1, g2, g3⟩ := t.fz a h
      refine ⟨l.dom a g1, fun o ho => ?_, g3⟩
      cases ha : H0 a with
      | none => exact absurd ha g1
      | some o0 =>
        have e2 := keep a o0 ha (g2 o0 ha)
        rw [ho] at e2
        cases e2
        exact g2 _ ha
    · exact ⟨by rw [f1]; exact Option.some_ne_none _, fun o ho => by rw [f1] at ho; cases ho; exact lamO_np, fresh_dead _ f0⟩
    · refine ⟨by rw [c1]; exact Option.some_ne_none _, fun o ho => by rw [c1] at ho; cases ho; exact LamX.codeO_ne, ?_⟩
      rcases cF with z | z
      · exact fresh_dead _ z
      · exact (t.fz _ z).2.2
  · rcases cTab p hp ps e1 p' cc hcc with rfl | ⟨ps0, g1, g2⟩
    · exact .inr (.inr rfl)
    · exact .inl (t.tb.2 p hp ps0 g1 p' cc g2)
theorem lamO_dn {q : Str} {cl : List (Str × Addr)} {a c' T T' : Addr} (hd : L.dn = []) : LamO q L cl a c' T = LamO q L cl a c' T' := by
  have e : ∀ T, dflV L T = .none := fun T => if_pos hd
  unfold LamO
  rw [e T, e T']
theorem de_lamV {tab : Nat → Option (Str × LamT)} (hfa : C.fa = glOf tab) (M : MakesL X C.T c P nm L pos) (hd : L.dn = []) (ht : tab i = some (X.env.qual ++ "<lambda>", L)) (hcl : cloFrom X.env.cells L.scope.names [] = []) : DE C X Wx (.Lambda L.params L.body L.scope pos) (xFn i) := ⟨fun pins sh σ H Q I h => by
  obtain ⟨W, env, s, e, q⟩ := h
  refine lam_eval I M e.st.tb.1 fun f c' T0 H0 H1 sh' J hT0 made => ⟨.ref f, H1, J, rfl, ?_⟩
  have n0 : H0 = H := hT0.elim (fun z => z.2) fun z => absurd hd z.1
  obtain ⟨W', l, t', wf, wc⟩ := lam_world (C := C) e.st hd made n0
  obtain ⟨ex, nn, tn, f0, f1, c1, cOld, cTab⟩ := made
  have q : Res C X.K (fun W H => RD C X.K W H) Wx σ env W H s (.ok (.fn i) s) Q := q
  refine q.ok' l (e.later l t') ⟨f, rfl, ?_⟩
  rw [hfa]
  refine ⟨_, L, c', ht, hd, wf, ?_, wc, c1⟩
  rw [f1, hcl, lamO_dn hd]⟩
end
/-- what the scope of such a lambda says, and how its arguments are bound -/
structure LamP (L : LamT) (N ps : List Str) : Prop where
  sc : FnScope N ps L.scope
  dn : L.dn = []
  b : ∀ (q : Str) (pm cdv ct : Value) (us : List Value), us.length = ps.length → bindArgs (lamFd q L [] .none pm cdv ct) ⟨us, []⟩ = pure (ps.zip us)
/-- THE CALL of such a lambda -/
theorem lam_call {C : Cfg} {P : Program} {w : World} {K : PySem.W.Frag} {mg : Str → Option Value} {base : Heap} {k : Nat} {q : Str} {L : LamT} {N ps : List Str} {fb : Ex} {a c' : Addr} {A : Around} {outer : List PySem.Env} {sh : Shared} {H : Hp} {us : List Value} {vs : List V} {Q : VK} {E : XK} (T : LamP L N ps)
    (body : ∀ (A : Around) (outer : List PySem.Env) (sh : Shared) (H : Hp) (E : XK), Room k (A.deeper (envOfC q L.scope sh.heap.objs.size a (.ref c'))) → DE C (cxOf (L2.CX P w) P w K mg base N q L.scope a (.ref c') A outer sh H E) (fun c d _ H => E c d H) L.body fb)
    (room : Room (k + 1) A) (e0 : Env0 P w K mg base A outer sh H) (ha : H a = some (LamO q L [] a c' 0)) (hc : H c' = some (LamX.CodeO c' q)) (r : Vals vs us) (want : spD C K (runDef ps.length N.length (sRet fb)) vs H Q E) :
    codeAny (model P w) A (.call (.ref a) ⟨us, []⟩) (CR (L2.CX P w) outer P w H sh Q E) sh := by
  obtain ⟨hn, W, env, s0, e, q0⟩ := run_ts want
  have count : us.length = ps.length := by rw [← r.length]; exact hn
  obtain ⟨⟨pm, ctv, of1⟩, _, _⟩ := e0.hok a _ ha
  obtain ⟨⟨oc, vs', t, hoc, hdc, hvc⟩, _, _⟩ := e0.hok c' _ hc
  have ed : dflV L 0 = .none := if_pos T.dn
  rw [ed] at of1
  have lim : sh.heap.NoLimit := e0.mod.nolimit.keeps fun b o e => (e0.bs b o e).1
  have kinds : ∀ y ∈ ps.zip us, L.scope.names.lookup y.1 = some .local ∨ (L.scope.names.lookup y.1 = some .cell ∧ ((cellsFrom (sh.heap.objs.size + 1) L.scope.names []).lookup y.1).isSome = true) := fun ⟨n, v⟩ hy => (T.sc.par n (List.of_mem_zip hy).1).elim .inl fun q => .inr ⟨q, PySem.W.cellsFrom_some _ _ _ (.inl q)⟩
  refine PySem.W.kla_callFunE room.depth of1 rfl T.sc.co T.sc.gen rfl ⟨c', oc, vs', t, rfl, hoc, hdc, hvc⟩ ?_
  show wpAny _ _ (bindArgs (lamFd q L [] .none pm (.ref c') ctv) ⟨us, []⟩) _ _ _
  rw [T.b q pm (.ref c') ctv us count]
  refine wpAny_pure (wpAny_newFunctionEnv_cells T.sc.kind kinds fun env' he s1 x => ?_)
  subst he
  have J : Inv (cxOf (L2.CX P w) P w K mg base N q L.scope a (.ref c') A outer sh H E) [] (L2.start N vs) H s1 := inv_start T.sc room.hd e0 hn r x
  refine ⟨lim.keeps x.toInCall.keep, ?_⟩
  show codeAny _ _ (.expr L.body (envOfC q L.scope sh.heap.objs.size a (.ref c'))) _ _
  have ask : tD C K (fun c d _ H => E c d H) fb (L2.start N vs) H Q := ⟨W, env, s0, e, Res.fl q0 fun W1 H1 s1 d x l1 e1 h1 q1 => q1 W1 x H1 Le.refl e1.st h1⟩
  refine PySem.W.kla_codeExpr (wpAny_mono ((body A outer sh H E (room.deeper _)).run [] s1 _ H Q J ask) (fun v s' hq => ?_) fun e s' hq => hq)
  obtain ⟨w', H', J', rv, q⟩ := hq
  exact ⟨w', H', J'.os, J'.bare, J'.base, J'.hok, rv, q⟩
/-- what is told of all functions that are values -/
structure FnV (C : Cfg) (P : Program) (w : World) (K : PySem.W.Frag) (mg : Str → Option Value) (base : Heap) (k : Nat) (tab : Nat → S → List D → Out D) : Prop where
  fn : ∀ i a F H h, C.fa.r i a F H → HOk P w H h → PySem.W.FnAt a h
  run : ∀ (i : Nat) (a : Addr) (F : Addr → Prop) (A : Around) (outer : List PySem.Env) (sh : Shared) (H : Hp) (us : List Value) (vs : List V) (Q : VK) (E : XK), C.fa.r i a F H → Room k A → Env0 P w K mg base A outer sh H → Vals vs us → spD C K (tab i) vs H Q E → codeAny (model P w) A (.call (.ref a) ⟨us, []⟩) (CR (L2.CX P w) outer P w H sh Q E) sh
def xCallV (tab : Nat → S → List D → Out D) (j : Nat) (fa : Ax) : Ex := fun e s => match e[j]? with
  | some (some (.fn i)) => (fa e s).bind fun ds s => tab i s ds
  | _ => .stuck
section
variable {C : Cfg} {X : Cx} {Wx : WX} {k j : Nat} {x : Str} {tab : Nat → S → List D → Out D} {e : Expr} {es : List Expr} {fa : Ax} {p pos : Pos}
theorem de_callV (G : FnV C X.prog X.w X.K X.mg X.base k tab) (room : Room k X.A) (hN : X.N[j]? = some x) (hv : Vis X.env.scope x) (tk : Takes X Wx) (ha : DA C X Wx (e :: es) fa) (hd : (x == ("__debug__" : Str)) = false := by decide) (hcd : (x == ("__classdict__" : Str)) = false := by decide)
    (he : starEach (e :: es) X.env = (false, eval e X.env) :: starEach es X.env := by rfl) (hpl : (backTo pos (starEach es X.env)).any (·.1) = false := by rfl) : DE C X Wx (.Call (.Name x p) (e :: es) [] pos) (xCallV tab j fa) := ⟨fun pn sh σ H Q J h => by
  obtain ⟨W, env, s, e0, q⟩ := h
  unfold xCallV at q
  split at q
  rotate_left
  · exact q.elim
  rename_i i hi
  obtain ⟨v, hv1, a, rfl, ra⟩ := e0.sv j _ hi
  refine wpAny_Call_Name_kw (thn ((pe_var (pos := p) (i := j) hN hv hd hcd).run pn sh σ H (fun v H1 => v = .ref a ∧ H1 = H) J ⟨.ref a, hv1, rfl, rfl⟩) fun u s1 ⟨v, H1, J1, r1, e1, e2⟩ => ?_)
  subst e1 e2
  obtain rfl : u = Value.ref a := r1
  have h2 : tAx C X.K Wx fa σ H1 (fun vs H2 => ∃ W1 s2 ds, StE C X.K W1 H2 σ env s2 ∧ C.fa.r i a W1.F H2 ∧ RDs C X.K W1 H2 ds vs ∧ Res C X.K (fun W H => RD C X.K W H) Wx σ env W1 H2 s2 (tab i s2 ds) Q) :=
    ⟨W, env, s, e0, Res.step q fun W1 H2 s2 ds vs l1 e1 h1 q1 => ⟨W1, s2, ds, e1, C.fa.st i a _ _ _ _ l1.fz (fun b o f z => l1.frozen e0.st f z) ra, h1, q1⟩⟩
  refine PySem.W.callWith_F (G.fn i a _ _ _ ra J1.hok) (thn (ha.run pos pn s1 σ H1 _ J1 h2) fun us s2 ⟨vs, H2, J2, r2, W1, s3, ds, e1, ra2, rd, q1⟩ => ⟨G.fn i a _ _ _ ra2 J2.hok, ?_⟩) he hpl
  show wpAny _ _ (call (.ref a) us) _ _ _
  refine wpAny_call (codeAny_mono (G.run i a _ X.A X.stack s2 H2 us vs Q (WE Wx σ) ra2 room J2.env0 r2 (sp_of e1 rd q1)) fun r s' hq => ?_)
  match r, hq with
  | .error er, hq => exact passAt tk σ pn H2 s2 er s' J2 hq
  | .ok (.ret u), hq => exact J2.after hq
  | .ok .next, hq => exact False.elim hq
  | .ok .brk, hq => exact False.elim hq
  | .ok .cont, hq => exact False.elim hq⟩
end
end DV
end
section
set_option Elab.async false
set_option linter.all false
set_option maxRecDepth 100000
set_option maxHeartbeats 2000000
/-! EX6: small parts for laws whose errors and functions are values. -/
namespace DV
open PySem PySem.Spec PyProof.Rows L2
/-- a, b = e1, e2, both known again -/
def sParT (i j : Nat) (a : Ax) : Sx := fun e s => (a e s).fl e fun ds s => match ds with
  | [x, y] => .next ((e.set i (some (.tag s.tg x))).set j (some (.tag (s.tg + 1) y))) ⟨s.mo, s.tg + 2⟩
  | _ => .stuck
section
variable {C : Cfg} {X : Cx} {Wx : WX} {fa : Ax}
theorem tag_rd {K : PySem.W.Frag} {W : Wd} {H : Hp} {s : S} {d : D} {v : V} (t : StS C K W H s) (r : RD C K W H d v) : RD C K (W.mark v) H (.tag s.tg d) v := by
  refine ⟨?_, r.mono (Le.mark t v) t⟩
  show (W.ts ++ [v])[s.tg]? = some v
  rw [← t.tln, List.getElem?_append_right (Nat.le_refl _), Nat.sub_self]
  rfl
theorem ds_parT {i j : Nat} {x y : Str} {a b : Expr} {px py pt pos : Pos} {kt k2 : Nat} {pt2 : Pos} (hc : X.calm = true) (hN : X.N.Nodup) (hi : X.N[i]? = some x) (hj : X.N[j]? = some y) (hij : i ≠ j)
    (hx : X.env.scope.names.lookup x = some .local) (hy : X.env.scope.names.lookup y = some .local) (ha : DA C X Wx [a, b] fa) (hw : swappedStores [.Tuple [.Name x px, .Name y py] kt pt] (.Tuple [a, b] k2 pt2) X.env = pure (some [x, y]))
    (hs : swapsWithSole [.Tuple [.Name x px, .Name y py] kt pt] (.Tuple [a, b] k2 pt2) pos.line X.env = pure false := by rfl) : DS C X Wx (.Assign [.Tuple [.Name x px, .Name y py] kt pt] (.Tuple [a, b] k2 pt2) pos) (sParT i j fa) := PS.imp (ps_par hc hN hi hj hij hx hy ha hw hs) fun D σ H h => by
  obtain ⟨W, env, s, e, q⟩ := h
  refine ⟨W, env, s, e, Res.fl q fun W1 H1 s1 ds xs l1 e1 h1 q1 => ?_⟩
  revert q1
  split
  · rename_i d1 d2
    intro q1
    obtain ⟨v1, r1, rfl, g1, v2, r2, rfl, g2, rfl⟩ := h1
    have m1 := Le.mark e1.st v1
    have t1 := e1.st.mark v1
    have m2 := Le.mark t1 v2
    have t2 := t1.mark v2
    refine ⟨v1, v2, rfl, q1 ((W1.mark v1).mark v2) _ H1 (m1.trans m2) ?_⟩
    exact ((e1.later (m1.trans m2) t2).set i ((tag_rd e1.st g1).mono m2 t1)).set j (tag_rd t1 (g2.mono m1 e1.st))
  · exact fun q => q.elim
end
theorem ExV.fx {C : Cfg} {P : Program} {w : World} {K : PySem.W.Frag} {mg : Str → Option Value} {x : Str} {fs : List Str} {c : Nat} (h : ExV C P w K mg x fs c) (nd : fs.Nodup) {f : Str} {i : Nat} (e : fs[i]? = some f) : ∀ c' i', ix1 c i c' = some i' → XvC C K f c' i' := fun c' i' hh => by
  unfold ix1 at hh
  split at hh
  · rename_i hc
    cases hh
    rw [hc]
    exact ⟨by rw [h.cf]; exact e, by rw [h.cf]; exact nd, h.xf, h.nf f (List.mem_of_getElem? e)⟩
  · cases hh
/-- of which class an error is, n classes in all -/
def isX (n c : Nat) (k : Nat) : Option Bool := if k < n then some (decide (k = c)) else none
def isAll (n : Nat) (k : Nat) : Option Bool := if k < n then some true else none
theorem isX_ok {n c k : Nat} {b : Bool} {R : Nat → Bool → Prop} (h : ∀ k, k < n → R k (decide (k = c))) (hk : isX n c k = some b) : R k b := by
  unfold isX at hk
  split at hk
  · rename_i hl
    cases hk
    exact h k hl
  · cases hk
theorem isAll_ok {n k : Nat} {b : Bool} {R : Nat → Bool → Prop} (h : ∀ k, k < n → R k true) (hk : isAll n k = some b) : R k b := by
  unfold isAll at hk
  split at hk
  · rename_i hl
    cases hk
    exact h k hl
  · cases hk
/-- one table for each def -/
theorem tab_one {T : List NdefX.NTab} {P : Addr} {nm : Nat → Nat → Str} (nd : (T.map (·.1)).Nodup) (hm : (P, nm) ∈ T) : ∀ p ∈ T, p.1 = P → p.2 = nm := fun p hp e => by
  have key : ∀ {l : List NdefX.NTab}, (l.map (·.1)).Nodup → ∀ a ∈ l, ∀ b ∈ l, a.1 = b.1 → a = b := by
    intro l
    induction l with
    | nil => intro _ a ha; cases ha
    | cons x r ih =>
      intro nd a ha b hb e
      rw [List.map_cons, List.nodup_cons] at nd
      rcases List.mem_cons.mp ha with rfl | ha2 <;> rcases List.mem_cons.mp hb with rfl | hb2
      · rfl
      · exact absurd (List.mem_map.mpr ⟨b, hb2, e.symm⟩) nd.1
      · exact absurd (List.mem_map.mpr ⟨a, ha2, e⟩) nd.1
      · exact ih nd.2 a ha2 b hb2 e
  rw [key nd p hp _ hm e]
theorem fnV_of {C : Cfg} {P : Program} {w : World} {K : PySem.W.Frag} {mg : Str → Option Value} {base : Heap} {k : Nat} {tab : Nat → Option (Str × LamT)} {tf : Nat → S → List D → Out D} (hfa : C.fa = glOf tab)
    (h : ∀ i q L, tab i = some (q, L) → ∃ (N ps : List Str) (fb : Ex), LamP L N ps ∧ tf i = runDef ps.length N.length (sRet fb) ∧ ∀ (a c' : Addr) (A : Around) (outer : List PySem.Env) (sh : Shared) (H : Hp) (E : XK), Room k (A.deeper (envOfC q L.scope sh.heap.objs.size a (.ref c'))) →
      DE C (cxOf (L2.CX P w) P w K mg base N q L.scope a (.ref c') A outer sh H E) (fun c d _ H => E c d H) L.body fb) : FnV C P w K mg base (k + 1) tf := by
  refine ⟨fun i a F H hp ra hok => ?_, fun i a F A outer sh H us vs Q E ra room e0 r want => ?_⟩
  · rw [hfa] at ra
    obtain ⟨q, L, c', _, _, _, h3, _, _⟩ := ra
    obtain ⟨⟨pm, ctv, of1⟩, _, _⟩ := hok a _ h3
    exact ⟨_, _, _, _, of1⟩
  · rw [hfa] at ra
    obtain ⟨q, L, c', h1, _, _, h3, _, h5⟩ := ra
    obtain ⟨N, ps, fb, T, e, body⟩ := h i q L h1
    rw [e] at want
    exact lam_call T (fun A outer sh H E hr => body a c' A outer sh H E hr) room e0 h3 h5 r want
end DV
namespace DV
open PySem PySem.Spec PyProof.Rows L2 He
theorem kx_of {C : Cfg} {K : PySem.W.Frag} {tf : List Defn} {vs : List IniV} {bs : List Str} {n : Nat} (z : okZ K tf vs bs = true) (hn : vs.length = n) (hca : ∀ k v, vs[k]? = some v → C.ca k = ga K v.cls) (hd : (vs.map (·.cls)).Nodup) :
    ∀ c k, c < n → k < n → PySem.W.kitOne K (.ref (C.ca k)) (.ref (C.ca c)) = some (decide (k = c)) ∧ ExI K (C.ca k) := fun c k hc hk => by
  subst hn
  have gc : vs[c]? = some vs[c] := List.getElem?_eq_getElem hc
  have gk : vs[k]? = some vs[k] := List.getElem?_eq_getElem hk
  have q := okZ_ok z (List.getElem_mem hk)
  rw [hca c _ gc, hca k _ gk]
  refine ⟨?_, q.i⟩
  rw [q.k _ (List.getElem_mem hc)]
  congr 1
  have nd := List.pairwise_map.mp hd
  by_cases e : k = c
  · subst e
    simp
  · rw [decide_eq_false e]
    refine decide_eq_false fun y => ?_
    rcases Nat.lt_or_gt_of_ne e with w | w
    · exact List.pairwise_iff_getElem.mp nd k c hk hc w y
    · exact List.pairwise_iff_getElem.mp nd c k hc hk w y.symm
theorem kb_of {C : Cfg} {K : PySem.W.Frag} {tf : List Defn} {vs : List IniV} {bs : List Str} {n : Nat} {b : Str} (z : okZ K tf vs bs = true) (hn : vs.length = n) (hca : ∀ k v, vs[k]? = some v → C.ca k = ga K v.cls) (hb : b ∈ bs) :
    ∀ k, k < n → PySem.W.kitOne K (.ref (C.ca k)) (.ref (ga K b)) = some true ∧ ExI K (C.ca k) := fun k hk => by
  subst hn
  have q := okZ_ok z (List.getElem_mem hk)
  rw [hca k _ (List.getElem?_eq_getElem hk)]
  exact ⟨q.b b hb, q.i⟩
theorem ve_of {C : Cfg} {K : PySem.W.Frag} {tf : List Defn} {vs : List IniV} {bs : List Str} {n : Nat} (z : okZ K tf vs bs = true) (hn : vs.length = n) (hca : ∀ k v, vs[k]? = some v → C.ca k = ga K v.cls) :
    ∀ k, k < n → PySem.W.kitOne K (.ref (C.ca k)) (.type "ValueError") = some true ∧ ExI K (C.ca k) := fun k hk => by
  subst hn
  have q := okZ_ok z (List.getElem_mem hk)
  rw [hca k _ (List.getElem?_eq_getElem hk)]
  exact ⟨q.ve, q.i⟩
end DV
end
section
set_option Elab.async false
set_option linter.all false
set_option maxRecDepth 100000
set_option maxHeartbeats 8000000
/-! ### mirrors and derivations, printed -/
namespace K00
open PySem PySem.Spec PyProof.Rows L2 DV
noncomputable def fbV_0 : Ex := (xFz (aLst (aCons (xUn (gXv (ix1 32 0)) (xVar 0)) (aCons (xUn (gXv (ix1 32 1)) (xVar 0)) aNil))))
noncomputable def fbV_1 : Ex := (xFz (aLst (aCons (xUn (gXv (ix1 22 0)) (xVar 0)) aNil)))
noncomputable def fbV_2 : Ex := (xFz (aLst (aCons (xUn (gXv (ix1 23 0)) (xVar 0)) aNil)))
noncomputable def fbV_3 : Ex := (xFz (aLst (aCons (xUn (gXv (ix1 24 0)) (xVar 0)) aNil)))
noncomputable def fbV_4 : Ex := (xFz (aLst (aCons (xUn (gXv (ix1 25 0)) (xVar 0)) aNil)))
noncomputable def fbV_5 : Ex := (xFz (aLst (aCons (xUn (gXv (ix1 26 0)) (xVar 0)) aNil)))
noncomputable def fbV_6 : Ex := (xFz (aLst (aCons (xUn (gXv (ix1 29 0)) (xVar 0)) aNil)))
noncomputable def fbV_7 : Ex := (xFz (aLst (aCons (xUn (gXv (ix1 30 0)) (xVar 0)) aNil)))
noncomputable def fbV_8 : Ex := (xFz (aLst (aCons (xUn (gXv (ix1 31 0)) (xVar 0)) aNil)))
noncomputable def fbV_9 : Ex := (xFz (aLst (aCons (xUn (gXv (ix1 33 0)) (xVar 0)) aNil)))
noncomputable def fbV_10 : Ex := (xFz (aLst (aCons (xUn (gXv (ix1 10 0)) (xVar 0)) aNil)))
noncomputable def fbV_11 : Ex := (xFz (aLst (aCons (xUn (gXv (ix1 0 0)) (xVar 0)) aNil)))
noncomputable def fbV_12 : Ex := (xFz (aLst (aCons (xUn (gXv (ix1 1 0)) (xVar 0)) aNil)))
noncomputable def fbV_13 : Ex := (xFz (aLst (aCons (xUn (gXv (ix1 2 0)) (xVar 0)) aNil)))
noncomputable def fbV_14 : Ex := (xFz (aLst (aCons (xUn (gXv (ix1 3 0)) (xVar 0)) aNil)))
noncomputable def fbV_15 : Ex := (xFz (aLst (aCons (xUn (gXv (ix1 4 0)) (xVar 0)) aNil)))
noncomputable def fbV_16 : Ex := (xFz (aLst (aCons (xUn (gXv (ix1 5 0)) (xVar 0)) aNil)))
noncomputable def fbV_17 : Ex := (xFz (aLst (aCons (xUn (gXv (ix1 6 0)) (xVar 0)) aNil)))
noncomputable def fbV_18 : Ex := (xFz (aLst (aCons (xUn (gXv (ix1 7 0)) (xVar 0)) aNil)))
noncomputable def fbV_19 : Ex := (xFz (aLst (aCons (xUn (gXv (ix1 8 0)) (xVar 0)) aNil)))
noncomputable def fbV_20 : Ex := (xFz (aLst (aCons (xUn (gXv (ix1 9 0)) (xVar 0)) aNil)))
noncomputable def fbV_21 : Ex := (xFz (aLst (aCons (xUn (gXv (ix1 11 0)) (xVar 0)) aNil)))
noncomputable def fbV_22 : Ex := (xFz (aLst (aCons (xUn (gXv (ix1 12 0)) (xVar 0)) aNil)))
noncomputable def fbV_23 : Ex := (xFz (aLst (aCons (xUn (gXv (ix1 13 0)) (xVar 0)) aNil)))
noncomputable def fbV_24 : Ex := (xFz (aLst (aCons (xUn (gXv (ix1 14 0)) (xVar 0)) aNil)))
noncomputable def fbV_25 : Ex := (xFz (aLst (aCons (xUn (gXv (ix1 15 0)) (xVar 0)) aNil)))
noncomputable def fbV_26 : Ex := (xFz (aLst (aCons (xUn (gXv (ix1 16 0)) (xVar 0)) aNil)))
noncomputable def fbV_27 : Ex := (xFz (aLst (aCons (xUn (gXv (ix1 17 0)) (xVar 0)) aNil)))
noncomputable def fbV_28 : Ex := (xFz (aLst (aCons (xUn (gXv (ix1 18 0)) (xVar 0)) aNil)))
noncomputable def fbV_29 : Ex := (xFz (aLst (aCons (xUn (gXv (ix1 19 0)) (xVar 0)) aNil)))
noncomputable def fbV_30 : Ex := (xFz (aLst (aCons (xUn (gXv (ix1 20 0)) (xVar 0)) aNil)))
noncomputable def fbV_31 : Ex := (xFz (aLst (aCons (xUn (gXv (ix1 21 0)) (xVar 0)) aNil)))
noncomputable def tabF (i : Nat) : S → List D → Out D := match i with
  | 0 => runDef 1 1 (sRet fbV_0)
  | 1 => runDef 1 1 (sRet fbV_1)
  | 2 => runDef 1 1 (sRet fbV_2)
  | 3 => runDef 1 1 (sRet fbV_3)
  | 4 => runDef 1 1 (sRet fbV_4)
  | 5 => runDef 1 1 (sRet fbV_5)
  | 6 => runDef 1 1 (sRet fbV_6)
  | 7 => runDef 1 1 (sRet fbV_7)
  | 8 => runDef 1 1 (sRet fbV_8)
  | 9 => runDef 1 1 (sRet fbV_9)
  | 10 => runDef 1 1 (sRet fbV_10)
  | 11 => runDef 1 1 (sRet fbV_11)
  | 12 => runDef 1 1 (sRet fbV_12)
  | 13 => runDef 1 1 (sRet fbV_13)
  | 14 => runDef 1 1 (sRet fbV_14)
  | 15 => runDef 1 1 (sRet fbV_15)
  | 16 => runDef 1 1 (sRet fbV_16)
  | 17 => runDef 1 1 (sRet fbV_17)
  | 18 => runDef 1 1 (sRet fbV_18)
  | 19 => runDef 1 1 (sRet fbV_19)
  | 20 => runDef 1 1 (sRet fbV_20)
  | 21 => runDef 1 1 (sRet fbV_21)
  | 22 => runDef 1 1 (sRet fbV_22)
  | 23 => runDef 1 1 (sRet fbV_23)
  | 24 => runDef 1 1 (sRet fbV_24)
  | 25 => runDef 1 1 (sRet fbV_25)
  | 26 => runDef 1 1 (sRet fbV_26)
  | 27 => runDef 1 1 (sRet fbV_27)
  | 28 => runDef 1 1 (sRet fbV_28)
  | 29 => runDef 1 1 (sRet fbV_29)
  | 30 => runDef 1 1 (sRet fbV_30)
  | 31 => runDef 1 1 (sRet fbV_31)
  | _ => fun _ _ => .stuck
noncomputable def B__law_spring_0 : Sx :=
 (sAsg (xBin (gInt nMod) (xCall (noX (f1 gInt1)) (aCons (xBin gAdd (xBin gAdd (xBin gAdd (xBin gMul (xVar 3) (xC (.int 69069))) (xVar 5)) (xBin gMul (xC (.int 5)) (xVar 4))) (xC (.int 1))) aNil)) (xC (.int 2147483629))) (gVar 3))
noncomputable def m__law_spring : Sx :=
 (sSeq (sPar 2 3 (aCons (xIf (tVal (xBin gLt (xVar 1) (xCall (noX (f1 gLen)) (aCons (xVar 0) aNil)))) (xBin gIx (xVar 0) (xVar 1)) (xBin gAdd (xBin gMul (xC (.int 7)) (xVar 1)) (xCall (noX (f1 gLen)) (aCons (xVar 0) aNil)))) (aCons (xBin gAdd (xC (.int 1009)) (xBin gMul (xC (.int 97)) (xVar 1))) aNil)))
 (sSeq (sFor (ixEnum (aCons (xSlice (xVar 0) pNo (pAt (xC (.int 63)))) aNil)) (gUnp 2 (gsCons (gVar 4) (gsCons (gVar 5) gsNil))) B__law_spring_0)
 (sRet (xOwn (aLst (aCons (xIf (tVal (xBin gGe (xVar 2) (xBin (gInt nPow) (xC (.int 10)) (xC (.int 18))))) (xVar 2) (xC (.int 0))) (aCons (xBin (gInt nMod) (xCall (noX (f1 gInt1)) (aCons (xBin gAdd (xVar 3) (xBin gMul (xVar 2) (xC (.int 31)))) aNil)) (xC (.int 2147483647))) (aCons (xC (.int 0)) aNil))))))))
noncomputable def F__law_spring : S → List D → Out D := runDefO 2 6 m__law_spring
noncomputable def m__law_draw : Sx :=
 (sSeq (sIf (tVal (xBin gGt (xBin gIx (xVar 0) (xC (.int 0))) (xC (.int 0)))) (sSeq (sAsg (xBin (gInt nMod) (xCall (noX (f1 gInt1)) (aCons (xBin gIx (xVar 0) (xC (.int 0))) aNil)) (xVar 1)) (gVar 2))
 (sSeq (sAsg (xBin (gInt nDiv) (xBin gIx (xVar 0) (xC (.int 0))) (xVar 1)) (gSet (xVar 0) (xC (.int 0))))
 (sRet (xVar 2))))
 sNext)
 (sSeq (sAsg (xBin gAdd (xBin gIx (xVar 0) (xC (.int 2))) (xC (.int 1))) (gSet (xVar 0) (xC (.int 2))))
 (sSeq (sAsg (xBin (gInt nMod) (xBin (gInt nPow) (xCall (noX (f1 gInt1)) (aCons (xBin gAdd (xBin gAdd (xBin gIx (xVar 0) (xC (.int 1))) (xBin gMul (xC (.int 6364137)) (xBin gIx (xVar 0) (xC (.int 2))))) (xC (.int 1442695))) aNil)) (xC (.int 3))) (xC (.int 2147483647))) (gVar 3))
 (sRet (xBin (gInt nMod) (xBin (gInt nDiv) (xBin (gInt nMod) (xBin (gInt nPow) (xCall (noX (f1 gInt1)) (aCons (xBin gAdd (xBin gMul (xVar 3) (xC (.int 48271))) (xBin gMul (xC (.int 11)) (xBin gIx (xVar 0) (xC (.int 2))))) aNil)) (xC (.int 3))) (xC (.int 2147483629))) (xC (.int 8))) (xVar 1))))))
noncomputable def F__law_draw : S → List D → Out D := runDef 2 4 m__law_draw
noncomputable def m__law_pick : Sx :=
 (sRet (xBin gIx (xVar 1) (xCall F__law_draw (aCons (xVar 0) (aCons (xCall (noX (f1 gLen)) (aCons (xVar 1) aNil)) aNil)))))
noncomputable def F__law_pick : S → List D → Out D := runDef 2 2 m__law_pick
noncomputable def E__law_e_drawn_0 : Ex :=
 (xCall F__law_draw (aCons (xVar 0) (aCons (xC (.int 9)) aNil)))
noncomputable def E__law_e_drawn_1 : Ex :=
 (xCall F__law_draw (aCons (xVar 0) (aCons (xC (.int 9)) aNil)))
noncomputable def E__law_e_drawn_2 : Ex :=
 (xTup (aCons (xCall F__law_draw (aCons (xVar 0) (aCons (xC (.int 9)) aNil))) (aCons (xC (.str "v")) aNil)))
noncomputable def m__law_e_drawn : Sx :=
 (sSeq (sAsg (xCall F__law_draw (aCons (xVar 0) (aCons (xC (.int 9)) aNil))) (gVar 1))
 (sSeq (sIf (tVal (xBin gEq (xVar 1) (xC (.int 0)))) (sRet (xBin (gInt nSub) (xCall F__law_draw (aCons (xVar 0) (aCons (xBin (gInt nPow) (xC (.int 10)) (xC (.int 30))) aNil))) (xBin (gInt nPow) (xC (.int 10)) (xC (.int 29)))))
 sNext)
 (sSeq (sIf (tVal (xBin gEq (xVar 1) (xC (.int 1)))) (sRet (xCall F__law_pick (aCons (xVar 0) (aCons (xFz (aLst (aCons (xC (.str "")) (aCons (xC (.str "a")) (aCons (xC (.str "late")) (aCons (xC (.str "two words")) (aCons (xC (.str "x9")) aNil))))))) aNil))))
 sNext)
 (sSeq (sIf (tVal (xBin gEq (xVar 1) (xC (.int 2)))) (sRet (xCall F__law_pick (aCons (xVar 0) (aCons (xFz (aLst (aCons (xC .non) (aCons (xC (.bl true)) (aCons (xC (.bl false)) (aCons (xC (.int 0)) (aCons (xC (.int 1)) aNil))))))) aNil))))
 sNext)
 (sSeq (sIf (tVal (xBin gIn (xVar 1) (xFz (aLst (aCons (xC (.int 3)) (aCons (xC (.int 4)) aNil)))))) (sRet (xFz (aComp (ixRng1 (aCons (xCall F__law_draw (aCons (xVar 0) (aCons (xC (.int 4)) aNil))) aNil)) (.one 2) tAll E__law_e_drawn_0 [2])))
 sNext)
 (sSeq (sIf (tVal (xBin gEq (xVar 1) (xC (.int 5)))) (sRet (xCall (noX (f1 gTuple)) (aCons (xFz (aComp (ixRng1 (aCons (xCall F__law_draw (aCons (xVar 0) (aCons (xC (.int 4)) aNil))) aNil)) (.one 2) tAll E__law_e_drawn_1 [2])) aNil)))
 sNext)
 (sRet (xCall (noX (f1 gDict)) (aCons (xFz (aComp (ixRng1 (aCons (xCall F__law_draw (aCons (xVar 0) (aCons (xC (.int 4)) aNil))) aNil)) (.one 2) tAll E__law_e_drawn_2 [2])) aNil)))))))))
noncomputable def F__law_e_drawn : S → List D → Out D := runDef 1 3 m__law_e_drawn
noncomputable def m__law_e_fourth : Sx :=
 (sSeq (sAsg (xOwn (aLst aNil)) (gVar 2))
 (sSeq (sExpr (xBm isLst mAppend (xVar 2) (aCons (xTup (aCons (xExn 32 2 (aCons (xVar 0) (aCons (xVar 1) aNil))) (aCons (xExn 32 2 (aCons (xVar 0) (aCons (xVar 1) aNil))) (aCons (xFn 0) (aCons (xFz (aLst (aCons (xVar 0) (aCons (xVar 1) aNil)))) aNil))))) aNil)))
 (sRet (xVar 2))))
noncomputable def F__law_e_fourth : S → List D → Out D := runDef 2 3 m__law_e_fourth
noncomputable def m__law_e_third : Sx :=
 (sSeq (sAsg (xOwn (aLst aNil)) (gVar 1))
 (sSeq (sExpr (xBm isLst mAppend (xVar 1) (aCons (xTup (aCons (xExn 22 1 (aCons (xVar 0) aNil)) (aCons (xExn 22 1 (aCons (xVar 0) aNil)) (aCons (xFn 1) (aCons (xFz (aLst (aCons (xVar 0) aNil))) aNil))))) aNil)))
 (sSeq (sExpr (xBm isLst mAppend (xVar 1) (aCons (xTup (aCons (xExn 23 1 (aCons (xVar 0) aNil)) (aCons (xExn 23 1 (aCons (xVar 0) aNil)) (aCons (xFn 2) (aCons (xFz (aLst (aCons (xVar 0) aNil))) aNil))))) aNil)))
 (sSeq (sExpr (xBm isLst mAppend (xVar 1) (aCons (xTup (aCons (xExn 24 1 (aCons (xVar 0) aNil)) (aCons (xExn 24 1 (aCons (xVar 0) aNil)) (aCons (xFn 3) (aCons (xFz (aLst (aCons (xVar 0) aNil))) aNil))))) aNil)))
 (sSeq (sExpr (xBm isLst mAppend (xVar 1) (aCons (xTup (aCons (xExn 25 1 (aCons (xVar 0) aNil)) (aCons (xExn 25 1 (aCons (xVar 0) aNil)) (aCons (xFn 4) (aCons (xFz (aLst (aCons (xVar 0) aNil))) aNil))))) aNil)))
 (sSeq (sExpr (xBm isLst mAppend (xVar 1) (aCons (xTup (aCons (xExn 26 1 (aCons (xVar 0) aNil)) (aCons (xExn 26 1 (aCons (xVar 0) aNil)) (aCons (xFn 5) (aCons (xFz (aLst (aCons (xVar 0) aNil))) aNil))))) aNil)))
 (sSeq (sExpr (xBm isLst mAppend (xVar 1) (aCons (xTup (aCons (xExn 29 1 (aCons (xVar 0) aNil)) (aCons (xExn 29 1 (aCons (xVar 0) aNil)) (aCons (xFn 6) (aCons (xFz (aLst (aCons (xVar 0) aNil))) aNil))))) aNil)))
 (sSeq (sExpr (xBm isLst mAppend (xVar 1) (aCons (xTup (aCons (xExn 30 1 (aCons (xVar 0) aNil)) (aCons (xExn 30 1 (aCons (xVar 0) aNil)) (aCons (xFn 7) (aCons (xFz (aLst (aCons (xVar 0) aNil))) aNil))))) aNil)))
 (sSeq (sExpr (xBm isLst mAppend (xVar 1) (aCons (xTup (aCons (xExn 31 1 (aCons (xVar 0) aNil)) (aCons (xExn 31 1 (aCons (xVar 0) aNil)) (aCons (xFn 8) (aCons (xFz (aLst (aCons (xVar 0) aNil))) aNil))))) aNil)))
 (sSeq (sExpr (xBm isLst mAppend (xVar 1) (aCons (xTup (aCons (xExn 33 1 (aCons (xVar 0) aNil)) (aCons (xExn 33 1 (aCons (xVar 0) aNil)) (aCons (xFn 9) (aCons (xFz (aLst (aCons (xVar 0) aNil))) aNil))))) aNil)))
 (sRet (xVar 1))))))))))))
noncomputable def F__law_e_third : S → List D → Out D := runDef 1 2 m__law_e_third
noncomputable def m__law_e_kinds : Sx :=
 (sRet (xFz (aLst (aCons (xUn (gIsX (isX 34 10)) (xVar 0)) (aCons (xUn (gIsX (isX 34 0)) (xVar 0)) (aCons (xUn (gIsX (isX 34 1)) (xVar 0)) (aCons (xUn (gIsX (isX 34 2)) (xVar 0)) (aCons (xUn (gIsX (isX 34 3)) (xVar 0)) (aCons (xUn (gIsX (isX 34 4)) (xVar 0)) (aCons (xUn (gIsX (isX 34 5)) (xVar 0)) (aCons (xUn (gIsX (isX 34 6)) (xVar 0)) (aCons (xUn (gIsX (isX 34 7)) (xVar 0)) (aCons (xUn (gIsX (isX 34 8)) (xVar 0)) (aCons (xUn (gIsX (isX 34 9)) (xVar 0)) (aCons (xUn (gIsX (isX 34 11)) (xVar 0)) (aCons (xUn (gIsX (isX 34 12)) (xVar 0)) (aCons (xUn (gIsX (isX 34 13)) (xVar 0)) (aCons (xUn (gIsX (isX 34 14)) (xVar 0)) (aCons (xUn (gIsX (isX 34 15)) (xVar 0)) (aCons (xUn (gIsX (isX 34 16)) (xVar 0)) (aCons (xUn (gIsX (isX 34 17)) (xVar 0)) (aCons (xUn (gIsX (isX 34 18)) (xVar 0)) (aCons (xUn (gIsX (isX 34 19)) (xVar 0)) (aCons (xUn (gIsX (isX 34 20)) (xVar 0)) (aCons (xUn (gIsX (isX 34 21)) (xVar 0)) (aCons (xUn (gIsX (isX 34 22)) (xVar 0)) (aCons (xUn (gIsX (isX 34 23)) (xVar 0)) (aCons (xUn (gIsX (isX 34 24)) (xVar 0)) (aCons (xUn (gIsX (isX 34 25)) (xVar 0)) (aCons (xUn (gIsX (isX 34 26)) (xVar 0)) (aCons (xUn (gIsX (isX 34 29)) (xVar 0)) (aCons (xUn (gIsX (isX 34 30)) (xVar 0)) (aCons (xUn (gIsX (isX 34 31)) (xVar 0)) (aCons (xUn (gIsX (isX 34 33)) (xVar 0)) (aCons (xUn (gIsX (isX 34 32)) (xVar 0)) (aCons (xUn (gIsX (isX 34 27)) (xVar 0)) (aCons (xUn (gIsX (isX 34 28)) (xVar 0)) aNil)))))))))))))))))))))))))))))))))))))
noncomputable def F__law_e_kinds : S → List D → Out D := runDef 1 1 m__law_e_kinds
noncomputable def G__law_same : Nat → S → List D → Out D
 | 0 => fun _ _ => .stuck
 | n + 1 => runDef 2 5 (
 (sSeq (sIf (tTr (xUn (gIsi (tbOf ["dict"]) fun _ => none) (xVar 1))) (sRet (xAndT (xUn (gIsi (tbOf ["dict"]) fun _ => none) (xVar 0)) (xCall (G__law_same n) (aCons (xFz (aCallN (fn1 gList) (aCons xStuck aNil))) (aCons (xFz (aCallN (fn1 gList) (aCons xStuck aNil))) aNil)))))
 sNext)
 (sSeq (sIf (tTr (xUn (gIsi (tbOf ["list", "tuple"]) fun _ => none) (xVar 1))) (sSeq (sIf (DV.tOr (tVal (xBin gNe (xUn (gIsi (tbOf ["list"]) fun _ => none) (xVar 0)) (xUn (gIsi (tbOf ["list"]) fun _ => none) (xVar 1)))) (tVal (xBin gNe (xUn (gIsi (tbOf ["tuple"]) fun _ => none) (xVar 0)) (xUn (gIsi (tbOf ["tuple"]) fun _ => none) (xVar 1))))) (sRet (xC (.bl false)))
 sNext)
 (sRet (xAndT (xBin gEq (xCall (noX (f1 gLen)) (aCons (xVar 0) aNil)) (xCall (noX (f1 gLen)) (aCons (xVar 1) aNil))) (xCall (noX (f1 gAll)) (aCons (xFz (aComp (ixZip (aCons (xVar 0) (aCons (xVar 1) aNil))) (.many [3, 4]) tAll (xCall (G__law_same n) (aCons (xVar 3) (aCons (xVar 4) aNil))) [3, 4])) aNil)))))
 sNext)
 (sSeq (sAsg (xAndT (xBin gEq (xUn (gIsi (tbOf ["bool"]) fun _ => none) (xVar 0)) (xUn (gIsi (tbOf ["bool"]) fun _ => none) (xVar 1))) (xBin gEq (xUn (gIsi (tbOf ["int"]) fun _ => none) (xVar 0)) (xUn (gIsi (tbOf ["int"]) fun _ => none) (xVar 1)))) (gVar 2))
 (sSeq (sIf (DV.tOr (tTr (xUn (gIsi (tbOf ["dict", "list", "tuple"]) fun _ => none) (xVar 0))) (DV.tOr (DV.tNot (tTr (xVar 2))) (tVal (xBin gNe (xUn (gIsi (tbOf ["str"]) fun _ => none) (xVar 0)) (xUn (gIsi (tbOf ["str"]) fun _ => none) (xVar 1)))))) (sRet (xC (.bl false)))
 sNext)
 (sRet (xIf (tVal (xBin gIsN (xVar 1) (xC .non))) (xBin gIsN (xVar 0) (xC .non)) (xBin gEq (xVar 0) (xVar 1)))))))))
noncomputable def F__law_same : S → List D → Out D := G__law_same 12
noncomputable def m__law_very : Sx :=
 (sSeq (sIf (tTr (xUn (gIsi (tbOf ["list"]) fun _ => none) (xVar 1))) sVeryL
 sNext)
 (sSeq (sIf (tTr (xUn (gIsi (tbOf ["dict"]) fun _ => none) (xVar 1))) sVeryD
 sNext)
 (sSeq (sIf (DV.tOr (tTr (xUn (gIsi (tbOf ["tuple", "str", "bool", "int"]) fun _ => none) (xVar 1))) (tVal (xBin gIsN (xVar 1) (xC .non)))) (sRet (xCall F__law_same (aCons (xVar 0) (aCons (xVar 1) aNil))))
 sNext)
 (sRet (xBin gEq (xVar 0) (xVar 1))))))
noncomputable def F__law_very : S → List D → Out D := runDef 2 3 m__law_very
noncomputable def T__law_e_right_0 : Tx :=
 (tTr (xVar 9))
noncomputable def E__law_e_right_1 : Ex :=
 (xVar 8)
noncomputable def E__law_e_right_2 : Ex :=
 (xCall F__law_very (aCons (xVar 10) (aCons (xVar 11) aNil)))
noncomputable def B__law_e_right_3 : Sx :=
 (sSeq (sIf (DV.tOr (DV.tNot (tTr (xUn (gIsX (isAll 34)) (xVar 6)))) (DV.tNot (tTr (xUn (gIsX (isAll 34)) (xVar 6))))) (sRet (xC (.bl false)))
 sNext)
 (sSeq (sIf (tVal (xBin gNe (xFz (aComp (ixEnum (aCons (xCall F__law_e_kinds (aCons (xVar 6) aNil)) aNil)) (.many [8, 9]) T__law_e_right_0 E__law_e_right_1 [8, 9])) (xFz (aLst (aCons (xVar 1) aNil))))) (sRet (xC (.bl false)))
 sNext)
 (sSeq (sAsg (xCallV tabF 4 (aCons (xVar 6) aNil)) (gVar 7))
 (sIf (DV.tOr (tVal (xBin gNe (xCall (noX (f1 gLen)) (aCons (xVar 7) aNil)) (xCall (noX (f1 gLen)) (aCons (xVar 5) aNil)))) (DV.tNot (tTr (xCall (noX (f1 gAll)) (aCons (xFz (aComp (ixZip (aCons (xVar 7) (aCons (xVar 5) aNil))) (.many [10, 11]) tAll E__law_e_right_2 [10, 11])) aNil))))) (sRet (xC (.bl false)))
 sNext))))
noncomputable def m__law_e_right : Sx :=
 (sSeq (sAsg (xVar 0) (gUnp 4 (gsCons (gVar 2) (gsCons (gVar 3) (gsCons (gVar 4) (gsCons (gVar 5) gsNil))))))
 (sSeq (sFor (ixSeq (xFz (aLst (aCons (xVar 2) (aCons (xVar 3) aNil))))) (gVar 6) B__law_e_right_3)
 (sRet (xC (.bl true)))))
noncomputable def F__law_e_right : S → List D → Out D := runDef 2 12 m__law_e_right
noncomputable def m__law_e_first : Sx :=
 (sSeq (sAsg (xOwn (aLst aNil)) (gVar 1))
 (sSeq (sExpr (xBm isLst mAppend (xVar 1) (aCons (xTup (aCons (xExn 10 1 (aCons (xVar 0) aNil)) (aCons (xExn 10 1 (aCons (xVar 0) aNil)) (aCons (xFn 10) (aCons (xFz (aLst (aCons (xVar 0) aNil))) aNil))))) aNil)))
 (sSeq (sExpr (xBm isLst mAppend (xVar 1) (aCons (xTup (aCons (xExn 0 1 (aCons (xVar 0) aNil)) (aCons (xExn 0 1 (aCons (xVar 0) aNil)) (aCons (xFn 11) (aCons (xFz (aLst (aCons (xVar 0) aNil))) aNil))))) aNil)))
 (sSeq (sExpr (xBm isLst mAppend (xVar 1) (aCons (xTup (aCons (xExn 1 1 (aCons (xVar 0) aNil)) (aCons (xExn 1 1 (aCons (xVar 0) aNil)) (aCons (xFn 12) (aCons (xFz (aLst (aCons (xVar 0) aNil))) aNil))))) aNil)))
 (sSeq (sExpr (xBm isLst mAppend (xVar 1) (aCons (xTup (aCons (xExn 2 1 (aCons (xVar 0) aNil)) (aCons (xExn 2 1 (aCons (xVar 0) aNil)) (aCons (xFn 13) (aCons (xFz (aLst (aCons (xVar 0) aNil))) aNil))))) aNil)))
 (sSeq (sExpr (xBm isLst mAppend (xVar 1) (aCons (xTup (aCons (xExn 3 1 (aCons (xVar 0) aNil)) (aCons (xExn 3 1 (aCons (xVar 0) aNil)) (aCons (xFn 14) (aCons (xFz (aLst (aCons (xVar 0) aNil))) aNil))))) aNil)))
 (sSeq (sExpr (xBm isLst mAppend (xVar 1) (aCons (xTup (aCons (xExn 4 1 (aCons (xVar 0) aNil)) (aCons (xExn 4 1 (aCons (xVar 0) aNil)) (aCons (xFn 15) (aCons (xFz (aLst (aCons (xVar 0) aNil))) aNil))))) aNil)))
 (sSeq (sExpr (xBm isLst mAppend (xVar 1) (aCons (xTup (aCons (xExn 5 1 (aCons (xVar 0) aNil)) (aCons (xExn 5 1 (aCons (xVar 0) aNil)) (aCons (xFn 16) (aCons (xFz (aLst (aCons (xVar 0) aNil))) aNil))))) aNil)))
 (sSeq (sExpr (xBm isLst mAppend (xVar 1) (aCons (xTup (aCons (xExn 6 1 (aCons (xVar 0) aNil)) (aCons (xExn 6 1 (aCons (xVar 0) aNil)) (aCons (xFn 17) (aCons (xFz (aLst (aCons (xVar 0) aNil))) aNil))))) aNil)))
 (sSeq (sExpr (xBm isLst mAppend (xVar 1) (aCons (xTup (aCons (xExn 7 1 (aCons (xVar 0) aNil)) (aCons (xExn 7 1 (aCons (xVar 0) aNil)) (aCons (xFn 18) (aCons (xFz (aLst (aCons (xVar 0) aNil))) aNil))))) aNil)))
 (sSeq (sExpr (xBm isLst mAppend (xVar 1) (aCons (xTup (aCons (xExn 8 1 (aCons (xVar 0) aNil)) (aCons (xExn 8 1 (aCons (xVar 0) aNil)) (aCons (xFn 19) (aCons (xFz (aLst (aCons (xVar 0) aNil))) aNil))))) aNil)))
 (sSeq (sExpr (xBm isLst mAppend (xVar 1) (aCons (xTup (aCons (xExn 9 1 (aCons (xVar 0) aNil)) (aCons (xExn 9 1 (aCons (xVar 0) aNil)) (aCons (xFn 20) (aCons (xFz (aLst (aCons (xVar 0) aNil))) aNil))))) aNil)))
 (sRet (xVar 1))))))))))))))
noncomputable def F__law_e_first : S → List D → Out D := runDef 1 2 m__law_e_first
noncomputable def m__law_e_second : Sx :=
 (sSeq (sAsg (xOwn (aLst aNil)) (gVar 1))
 (sSeq (sExpr (xBm isLst mAppend (xVar 1) (aCons (xTup (aCons (xExn 11 1 (aCons (xVar 0) aNil)) (aCons (xExn 11 1 (aCons (xVar 0) aNil)) (aCons (xFn 21) (aCons (xFz (aLst (aCons (xVar 0) aNil))) aNil))))) aNil)))
 (sSeq (sExpr (xBm isLst mAppend (xVar 1) (aCons (xTup (aCons (xExn 12 1 (aCons (xVar 0) aNil)) (aCons (xExn 12 1 (aCons (xVar 0) aNil)) (aCons (xFn 22) (aCons (xFz (aLst (aCons (xVar 0) aNil))) aNil))))) aNil)))
 (sSeq (sExpr (xBm isLst mAppend (xVar 1) (aCons (xTup (aCons (xExn 13 1 (aCons (xVar 0) aNil)) (aCons (xExn 13 1 (aCons (xVar 0) aNil)) (aCons (xFn 23) (aCons (xFz (aLst (aCons (xVar 0) aNil))) aNil))))) aNil)))
 (sSeq (sExpr (xBm isLst mAppend (xVar 1) (aCons (xTup (aCons (xExn 14 1 (aCons (xVar 0) aNil)) (aCons (xExn 14 1 (aCons (xVar 0) aNil)) (aCons (xFn 24) (aCons (xFz (aLst (aCons (xVar 0) aNil))) aNil))))) aNil)))
 (sSeq (sExpr (xBm isLst mAppend (xVar 1) (aCons (xTup (aCons (xExn 15 1 (aCons (xVar 0) aNil)) (aCons (xExn 15 1 (aCons (xVar 0) aNil)) (aCons (xFn 25) (aCons (xFz (aLst (aCons (xVar 0) aNil))) aNil))))) aNil)))
 (sSeq (sExpr (xBm isLst mAppend (xVar 1) (aCons (xTup (aCons (xExn 16 1 (aCons (xVar 0) aNil)) (aCons (xExn 16 1 (aCons (xVar 0) aNil)) (aCons (xFn 26) (aCons (xFz (aLst (aCons (xVar 0) aNil))) aNil))))) aNil)))
 (sSeq (sExpr (xBm isLst mAppend (xVar 1) (aCons (xTup (aCons (xExn 17 1 (aCons (xVar 0) aNil)) (aCons (xExn 17 1 (aCons (xVar 0) aNil)) (aCons (xFn 27) (aCons (xFz (aLst (aCons (xVar 0) aNil))) aNil))))) aNil)))
 (sSeq (sExpr (xBm isLst mAppend (xVar 1) (aCons (xTup (aCons (xExn 18 1 (aCons (xVar 0) aNil)) (aCons (xExn 18 1 (aCons (xVar 0) aNil)) (aCons (xFn 28) (aCons (xFz (aLst (aCons (xVar 0) aNil))) aNil))))) aNil)))
 (sSeq (sExpr (xBm isLst mAppend (xVar 1) (aCons (xTup (aCons (xExn 19 1 (aCons (xVar 0) aNil)) (aCons (xExn 19 1 (aCons (xVar 0) aNil)) (aCons (xFn 29) (aCons (xFz (aLst (aCons (xVar 0) aNil))) aNil))))) aNil)))
 (sSeq (sExpr (xBm isLst mAppend (xVar 1) (aCons (xTup (aCons (xExn 20 1 (aCons (xVar 0) aNil)) (aCons (xExn 20 1 (aCons (xVar 0) aNil)) (aCons (xFn 30) (aCons (xFz (aLst (aCons (xVar 0) aNil))) aNil))))) aNil)))
 (sSeq (sExpr (xBm isLst mAppend (xVar 1) (aCons (xTup (aCons (xExn 21 1 (aCons (xVar 0) aNil)) (aCons (xExn 21 1 (aCons (xVar 0) aNil)) (aCons (xFn 31) (aCons (xFz (aLst (aCons (xVar 0) aNil))) aNil))))) aNil)))
 (sRet (xVar 1))))))))))))))
noncomputable def F__law_e_second : S → List D → Out D := runDef 1 2 m__law_e_second
noncomputable def B_law_0 : Sx :=
 (sIf (DV.tNot (tTr (xCall F__law_e_right (aCons (xVar 7) (aCons (xVar 6) aNil))))) (sRet (xC (.bl false)))
 sNext)
noncomputable def B_law_1 : Sx :=
 (sIf (DV.tOr (DV.tNot (tTr (xCall F__law_e_right (aCons (xVar 7) (aCons (xVar 6) aNil))))) (DV.tNot (tTr (xCall F__law_e_right (aCons (xBin gIx (xVar 5) (xVar 6)) (aCons (xVar 6) aNil)))))) (sRet (xC (.bl false)))
 sNext)
noncomputable def B_law_2 : Sx :=
 (sSeq (sAsg (xCall F__law_spring (aCons (xVar 0) (aCons (xVar 1) aNil))) (gVar 2))
 (sSeq (sParT 3 4 (aCons (xCall F__law_e_drawn (aCons (xVar 2) aNil)) (aCons (xCall F__law_e_drawn (aCons (xVar 2) aNil)) aNil)))
 (sSeq (sAsg (xBin gAdd (xBin gAdd (xBin gAdd (xCall F__law_e_first (aCons (xVar 3) aNil)) (xCall F__law_e_second (aCons (xVar 3) aNil))) (xCall F__law_e_third (aCons (xVar 3) aNil))) (xCall F__law_e_fourth (aCons (xVar 3) (aCons (xVar 4) aNil)))) (gVar 5))
 (sSeq (sFor (ixEnum (aCons (xVar 5) aNil)) (gUnp 2 (gsCons (gVar 6) (gsCons (gVar 7) gsNil))) B_law_0)
 (sSeq (sAsg (xBin gAdd (xBin gAdd (xBin gAdd (xCall F__law_e_first (aCons (xVar 4) aNil)) (xCall F__law_e_second (aCons (xVar 4) aNil))) (xCall F__law_e_third (aCons (xVar 4) aNil))) (xCall F__law_e_fourth (aCons (xVar 4) (aCons (xVar 3) aNil)))) (gVar 8))
 (sFor (ixEnum (aCons (xVar 8) aNil)) (gUnp 2 (gsCons (gVar 6) (gsCons (gVar 7) gsNil))) B_law_1))))))
noncomputable def T_law_3 : Tx :=
 (tTr (xVar 11))
noncomputable def E_law_4 : Ex :=
 (xVar 10)
noncomputable def T_law_5 : Tx :=
 (tTr (xVar 11))
noncomputable def E_law_6 : Ex :=
 (xVar 10)
noncomputable def m_law : Sx :=
 (sSeq (sFor (ixRng1 (aCons (xC (.int 3)) aNil)) (gVar 1) B_law_2)
 (sSeq (sAsg (xC (.int 32)) (gVar 9))
 (sSeq (sIf (tVal (xBin gNe (xFz (aComp (ixEnum (aCons (xCall F__law_e_kinds (aCons (xExn 27 0 aNil) aNil)) aNil)) (.many [10, 11]) T_law_3 E_law_4 [10, 11])) (xFz (aLst (aCons (xVar 9) aNil))))) (sRet (xC (.bl false)))
 sNext)
 (sSeq (sIf (tVal (xBin gNe (xFz (aComp (ixEnum (aCons (xCall F__law_e_kinds (aCons (xExn 28 0 aNil) aNil)) aNil)) (.many [10, 11]) T_law_5 E_law_6 [10, 11])) (xFz (aLst (aCons (xBin gAdd (xVar 9) (xC (.int 1))) aNil))))) (sRet (xC (.bl false)))
 sNext)
 (sRet (xAndT (xUn (gIsX (isAll 34)) (xExn 27 0 aNil)) (xUn (gIsX (isAll 34)) (xExn 28 0 aNil))))))))
noncomputable def F_law : S → List D → Out D := runDef 1 12 m_law
def LV_0 : LamT := Subtype.val (⟨⟨_, _, _, []⟩, rfl⟩ : { L : LamT // L = lamOf (eAt (eAt (sVal (sAt (defBody st__law_e_fourth) 1)) 1) 2) [] })
def LV_1 : LamT := Subtype.val (⟨⟨_, _, _, []⟩, rfl⟩ : { L : LamT // L = lamOf (eAt (eAt (sVal (sAt (defBody st__law_e_third) 1)) 1) 2) [] })
def LV_2 : LamT := Subtype.val (⟨⟨_, _, _, []⟩, rfl⟩ : { L : LamT // L = lamOf (eAt (eAt (sVal (sAt (defBody st__law_e_third) 2)) 1) 2) [] })
def LV_3 : LamT := Subtype.val (⟨⟨_, _, _, []⟩, rfl⟩ : { L : LamT // L = lamOf (eAt (eAt (sVal (sAt (defBody st__law_e_third) 3)) 1) 2) [] })
def LV_4 : LamT := Subtype.val (⟨⟨_, _, _, []⟩, rfl⟩ : { L : LamT // L = lamOf (eAt (eAt (sVal (sAt (defBody st__law_e_third) 4)) 1) 2) [] })
def LV_5 : LamT := Subtype.val (⟨⟨_, _, _, []⟩, rfl⟩ : { L : LamT // L = lamOf (eAt (eAt (sVal (sAt (defBody st__law_e_third) 5)) 1) 2) [] })
def LV_6 : LamT := Subtype.val (⟨⟨_, _, _, []⟩, rfl⟩ : { L : LamT // L = lamOf (eAt (eAt (sVal (sAt (defBody st__law_e_third) 6)) 1) 2) [] })
def LV_7 : LamT := Subtype.val (⟨⟨_, _, _, []⟩, rfl⟩ : { L : LamT // L = lamOf (eAt (eAt (sVal (sAt (defBody st__law_e_third) 7)) 1) 2) [] })
def LV_8 : LamT := Subtype.val (⟨⟨_, _, _, []⟩, rfl⟩ : { L : LamT // L = lamOf (eAt (eAt (sVal (sAt (defBody st__law_e_third) 8)) 1) 2) [] })
def LV_9 : LamT := Subtype.val (⟨⟨_, _, _, []⟩, rfl⟩ : { L : LamT // L = lamOf (eAt (eAt (sVal (sAt (defBody st__law_e_third) 9)) 1) 2) [] })
def LV_10 : LamT := Subtype.val (⟨⟨_, _, _, []⟩, rfl⟩ : { L : LamT // L = lamOf (eAt (eAt (sVal (sAt (defBody st__law_e_first) 1)) 1) 2) [] })
def LV_11 : LamT := Subtype.val (⟨⟨_, _, _, []⟩, rfl⟩ : { L : LamT // L = lamOf (eAt (eAt (sVal (sAt (defBody st__law_e_first) 2)) 1) 2) [] })
def LV_12 : LamT := Subtype.val (⟨⟨_, _, _, []⟩, rfl⟩ : { L : LamT // L = lamOf (eAt (eAt (sVal (sAt (defBody st__law_e_first) 3)) 1) 2) [] })
def LV_13 : LamT := Subtype.val (⟨⟨_, _, _, []⟩, rfl⟩ : { L : LamT // L = lamOf (eAt (eAt (sVal (sAt (defBody st__law_e_first) 4)) 1) 2) [] })
def LV_14 : LamT := Subtype.val (⟨⟨_, _, _, []⟩, rfl⟩ : { L : LamT // L = lamOf (eAt (eAt (sVal (sAt (defBody st__law_e_first) 5)) 1) 2) [] })
def LV_15 : LamT := Subtype.val (⟨⟨_, _, _, []⟩, rfl⟩ : { L : LamT // L = lamOf (eAt (eAt (sVal (sAt (defBody st__law_e_first) 6)) 1) 2) [] })
def LV_16 : LamT := Subtype.val (⟨⟨_, _, _, []⟩, rfl⟩ : { L : LamT // L = lamOf (eAt (eAt (sVal (sAt (defBody st__law_e_first) 7)) 1) 2) [] })
def LV_17 : LamT := Subtype.val (⟨⟨_, _, _, []⟩, rfl⟩ : { L : LamT // L = lamOf (eAt (eAt (sVal (sAt (defBody st__law_e_first) 8)) 1) 2) [] })
def LV_18 : LamT := Subtype.val (⟨⟨_, _, _, []⟩, rfl⟩ : { L : LamT // L = lamOf (eAt (eAt (sVal (sAt (defBody st__law_e_first) 9)) 1) 2) [] })
def LV_19 : LamT := Subtype.val (⟨⟨_, _, _, []⟩, rfl⟩ : { L : LamT // L = lamOf (eAt (eAt (sVal (sAt (defBody st__law_e_first) 10)) 1) 2) [] })
def LV_20 : LamT := Subtype.val (⟨⟨_, _, _, []⟩, rfl⟩ : { L : LamT // L = lamOf (eAt (eAt (sVal (sAt (defBody st__law_e_first) 11)) 1) 2) [] })
def LV_21 : LamT := Subtype.val (⟨⟨_, _, _, []⟩, rfl⟩ : { L : LamT // L = lamOf (eAt (eAt (sVal (sAt (defBody st__law_e_second) 1)) 1) 2) [] })
def LV_22 : LamT := Subtype.val (⟨⟨_, _, _, []⟩, rfl⟩ : { L : LamT // L = lamOf (eAt (eAt (sVal (sAt (defBody st__law_e_second) 2)) 1) 2) [] })
def LV_23 : LamT := Subtype.val (⟨⟨_, _, _, []⟩, rfl⟩ : { L : LamT // L = lamOf (eAt (eAt (sVal (sAt (defBody st__law_e_second) 3)) 1) 2) [] })
def LV_24 : LamT := Subtype.val (⟨⟨_, _, _, []⟩, rfl⟩ : { L : LamT // L = lamOf (eAt (eAt (sVal (sAt (defBody st__law_e_second) 4)) 1) 2) [] })
def LV_25 : LamT := Subtype.val (⟨⟨_, _, _, []⟩, rfl⟩ : { L : LamT // L = lamOf (eAt (eAt (sVal (sAt (defBody st__law_e_second) 5)) 1) 2) [] })
def LV_26 : LamT := Subtype.val (⟨⟨_, _, _, []⟩, rfl⟩ : { L : LamT // L = lamOf (eAt (eAt (sVal (sAt (defBody st__law_e_second) 6)) 1) 2) [] })
def LV_27 : LamT := Subtype.val (⟨⟨_, _, _, []⟩, rfl⟩ : { L : LamT // L = lamOf (eAt (eAt (sVal (sAt (defBody st__law_e_second) 7)) 1) 2) [] })
def LV_28 : LamT := Subtype.val (⟨⟨_, _, _, []⟩, rfl⟩ : { L : LamT // L = lamOf (eAt (eAt (sVal (sAt (defBody st__law_e_second) 8)) 1) 2) [] })
def LV_29 : LamT := Subtype.val (⟨⟨_, _, _, []⟩, rfl⟩ : { L : LamT // L = lamOf (eAt (eAt (sVal (sAt (defBody st__law_e_second) 9)) 1) 2) [] })
def LV_30 : LamT := Subtype.val (⟨⟨_, _, _, []⟩, rfl⟩ : { L : LamT // L = lamOf (eAt (eAt (sVal (sAt (defBody st__law_e_second) 10)) 1) 2) [] })
def LV_31 : LamT := Subtype.val (⟨⟨_, _, _, []⟩, rfl⟩ : { L : LamT // L = lamOf (eAt (eAt (sVal (sAt (defBody st__law_e_second) 11)) 1) 2) [] })
def tabV (i : Nat) : Option (Str × LamT) := ([("_law_e_fourth.<locals>.<lambda>", LV_0), ("_law_e_third.<locals>.<lambda>", LV_1), ("_law_e_third.<locals>.<lambda>", LV_2), ("_law_e_third.<locals>.<lambda>", LV_3), ("_law_e_third.<locals>.<lambda>", LV_4), ("_law_e_third.<locals>.<lambda>", LV_5), ("_law_e_third.<locals>.<lambda>", LV_6), ("_law_e_third.<locals>.<lambda>", LV_7), ("_law_e_third.<locals>.<lambda>", LV_8), ("_law_e_third.<locals>.<lambda>", LV_9), ("_law_e_first.<locals>.<lambda>", LV_10), ("_law_e_first.<locals>.<lambda>", LV_11), ("_law_e_first.<locals>.<lambda>", LV_12), ("_law_e_first.<locals>.<lambda>", LV_13), ("_law_e_first.<locals>.<lambda>", LV_14), ("_law_e_first.<locals>.<lambda>", LV_15), ("_law_e_first.<locals>.<lambda>", LV_16), ("_law_e_first.<locals>.<lambda>", LV_17), ("_law_e_first.<locals>.<lambda>", LV_18), ("_law_e_first.<locals>.<lambda>", LV_19), ("_law_e_first.<locals>.<lambda>", LV_20), ("_law_e_second.<locals>.<lambda>", LV_21), ("_law_e_second.<locals>.<lambda>", LV_22), ("_law_e_second.<locals>.<lambda>", LV_23), ("_law_e_second.<locals>.<lambda>", LV_24), ("_law_e_second.<locals>.<lambda>", LV_25), ("_law_e_second.<locals>.<lambda>", LV_26), ("_law_e_second.<locals>.<lambda>", LV_27), ("_law_e_second.<locals>.<lambda>", LV_28), ("_law_e_second.<locals>.<lambda>", LV_29), ("_law_e_second.<locals>.<lambda>", LV_30), ("_law_e_second.<locals>.<lambda>", LV_31)] : List (Str × LamT))[i]?
/-- what the head tells -/
structure Hd (C : Cfg) (P : Program) (w : World) (K : PySem.W.Frag) (mg : Str → Option Value) where
  lf : ∀ c, (C.cf c).length < 1000
  n_len : mg "len" = none
  n_enumerate : mg "enumerate" = none
  n_int : mg "int" = none
  n_range : mg "range" = none
  n_tuple : mg "tuple" = none
  n_dict : mg "dict" = none
  n_isinstance : mg "isinstance" = none
  n_list : mg "list" = none
  n_zip : mg "zip" = none
  n_all : mg "all" = none
  n_bool : mg "bool" = none
  n_str : mg "str" = none
  n_ValueError : mg "ValueError" = none
  a__law_spring : Addr
  d__law_spring : FuncData
  f__law_spring : Fun K "_law_spring" "_law_spring" st__law_spring a__law_spring d__law_spring
  g__law_spring : mg "_law_spring" = some (.ref a__law_spring)
  a__law_draw : Addr
  d__law_draw : FuncData
  f__law_draw : Fun K "_law_draw" "_law_draw" st__law_draw a__law_draw d__law_draw
  g__law_draw : mg "_law_draw" = some (.ref a__law_draw)
  a__law_pick : Addr
  d__law_pick : FuncData
  f__law_pick : Fun K "_law_pick" "_law_pick" st__law_pick a__law_pick d__law_pick
  g__law_pick : mg "_law_pick" = some (.ref a__law_pick)
  a__law_e_drawn : Addr
  d__law_e_drawn : FuncData
  f__law_e_drawn : Fun K "_law_e_drawn" "_law_e_drawn" st__law_e_drawn a__law_e_drawn d__law_e_drawn
  g__law_e_drawn : mg "_law_e_drawn" = some (.ref a__law_e_drawn)
  a__law_e_fourth : Addr
  d__law_e_fourth : FuncData
  f__law_e_fourth : Fun K "_law_e_fourth" "_law_e_fourth" st__law_e_fourth a__law_e_fourth d__law_e_fourth
  c__law_e_fourth : Addr
  P__law_e_fourth : Addr
  fL__law_e_fourth : FunC K "_law_e_fourth" "_law_e_fourth" st__law_e_fourth a__law_e_fourth d__law_e_fourth c__law_e_fourth
  nT__law_e_fourth : (P__law_e_fourth, (fun _ _ => ("_law_e_fourth.<locals>.<lambda>" : Str) : Nat → Nat → Str)) ∈ C.T
  nU__law_e_fourth : ∀ p ∈ C.T, p.1 = P__law_e_fourth → p.2 = fun _ _ => ("_law_e_fourth.<locals>.<lambda>" : Str)
  g__law_e_fourth : mg "_law_e_fourth" = some (.ref a__law_e_fourth)
  a__law_e_third : Addr
  d__law_e_third : FuncData
  f__law_e_third : Fun K "_law_e_third" "_law_e_third" st__law_e_third a__law_e_third d__law_e_third
  c__law_e_third : Addr
  P__law_e_third : Addr
  fL__law_e_third : FunC K "_law_e_third" "_law_e_third" st__law_e_third a__law_e_third d__law_e_third c__law_e_third
  nT__law_e_third : (P__law_e_third, (fun _ _ => ("_law_e_third.<locals>.<lambda>" : Str) : Nat → Nat → Str)) ∈ C.T
  nU__law_e_third : ∀ p ∈ C.T, p.1 = P__law_e_third → p.2 = fun _ _ => ("_law_e_third.<locals>.<lambda>" : Str)
  g__law_e_third : mg "_law_e_third" = some (.ref a__law_e_third)
  a__law_e_kinds : Addr
  d__law_e_kinds : FuncData
  f__law_e_kinds : Fun K "_law_e_kinds" "_law_e_kinds" st__law_e_kinds a__law_e_kinds d__law_e_kinds
  g__law_e_kinds : mg "_law_e_kinds" = some (.ref a__law_e_kinds)
  a__law_same : Addr
  d__law_same : FuncData
  f__law_same : Fun K "_law_same" "_law_same" st__law_same a__law_same d__law_same
  g__law_same : mg "_law_same" = some (.ref a__law_same)
  a__law_very : Addr
  d__law_very : FuncData
  f__law_very : Fun K "_law_very" "_law_very" st__law_very a__law_very d__law_very
  g__law_very : mg "_law_very" = some (.ref a__law_very)
  a__law_e_right : Addr
  d__law_e_right : FuncData
  f__law_e_right : Fun K "_law_e_right" "_law_e_right" st__law_e_right a__law_e_right d__law_e_right
  g__law_e_right : mg "_law_e_right" = some (.ref a__law_e_right)
  a__law_e_first : Addr
  d__law_e_first : FuncData
  f__law_e_first : Fun K "_law_e_first" "_law_e_first" st__law_e_first a__law_e_first d__law_e_first
  c__law_e_first : Addr
  P__law_e_first : Addr
  fL__law_e_first : FunC K "_law_e_first" "_law_e_first" st__law_e_first a__law_e_first d__law_e_first c__law_e_first
  nT__law_e_first : (P__law_e_first, (fun _ _ => ("_law_e_first.<locals>.<lambda>" : Str) : Nat → Nat → Str)) ∈ C.T
  nU__law_e_first : ∀ p ∈ C.T, p.1 = P__law_e_first → p.2 = fun _ _ => ("_law_e_first.<locals>.<lambda>" : Str)
  g__law_e_first : mg "_law_e_first" = some (.ref a__law_e_first)
  a__law_e_second : Addr
  d__law_e_second : FuncData
  f__law_e_second : Fun K "_law_e_second" "_law_e_second" st__law_e_second a__law_e_second d__law_e_second
  c__law_e_second : Addr
  P__law_e_second : Addr
  fL__law_e_second : FunC K "_law_e_second" "_law_e_second" st__law_e_second a__law_e_second d__law_e_second c__law_e_second
  nT__law_e_second : (P__law_e_second, (fun _ _ => ("_law_e_second.<locals>.<lambda>" : Str) : Nat → Nat → Str)) ∈ C.T
  nU__law_e_second : ∀ p ∈ C.T, p.1 = P__law_e_second → p.2 = fun _ _ => ("_law_e_second.<locals>.<lambda>" : Str)
  g__law_e_second : mg "_law_e_second" = some (.ref a__law_e_second)
  a_law : Addr
  d_law : FuncData
  f_law : Fun K "law" "law" st_law a_law d_law
  g_law : mg "law" = some (.ref a_law)
  fa : C.fa = glOf tabV
  x_BadNames : ExV C P w K mg "BadNames" ["given"] 0
  x_BadLots : ExV C P w K mg "BadLots" ["given"] 1
  x_BadImage : ExV C P w K mg "BadImage" ["image"] 2
  x_BadLot : ExV C P w K mg "BadLot" ["lot"] 3
  x_NoLot : ExV C P w K mg "NoLot" ["lot"] 4
  x_NoName : ExV C P w K mg "NoName" ["named"] 5
  x_BadWeights : ExV C P w K mg "BadWeights" ["weights"] 6
  x_BadTable : ExV C P w K mg "BadTable" ["table"] 7
  x_BadNumber : ExV C P w K mg "BadNumber" ["number"] 8
  x_TooMany : ExV C P w K mg "TooMany" ["most"] 9
  x_BadQuestion : ExV C P w K mg "BadQuestion" ["question"] 10
  x_BadTies : ExV C P w K mg "BadTies" ["ties"] 11
  x_BadTwin : ExV C P w K mg "BadTwin" ["twin"] 12
  x_Overlap : ExV C P w K mg "Overlap" ["named"] 13
  x_BadPoints : ExV C P w K mg "BadPoints" ["points"] 14
  x_BadRow : ExV C P w K mg "BadRow" ["row"] 15
  x_BadHeights : ExV C P w K mg "BadHeights" ["heights"] 16
  x_BadRing : ExV C P w K mg "BadRing" ["ring"] 17
  x_NotWeighed : ExV C P w K mg "NotWeighed" ["heights"] 18
  x_OnlyName : ExV C P w K mg "OnlyName" ["named"] 19
  x_AllHave : ExV C P w K mg "AllHave" ["named"] 20
  x_NoneHas : ExV C P w K mg "NoneHas" ["named"] 21
  x_Shared : ExV C P w K mg "Shared" ["named"] 22
  x_BadName : ExV C P w K mg "BadName" ["name"] 23
  x_Taken : ExV C P w K mg "Taken" ["name"] 24
  x_There : ExV C P w K mg "There" ["lot"] 25
  x_Lone : ExV C P w K mg "Lone" ["lot"] 26
  x_NothingDone : ExV C P w K mg "NothingDone" [] 27
  x_NothingUndone : ExV C P w K mg "NothingUndone" [] 28
  x_BadStep : ExV C P w K mg "BadStep" ["step"] 29
  x_BadSteps : ExV C P w K mg "BadSteps" ["steps"] 30
  x_Refused : ExV C P w K mg "Refused" ["fault"] 31
  x_BadText : ExV C P w K mg "BadText" ["text", "line"] 32
  x_BadJournal : ExV C P w K mg "BadJournal" ["journal"] 33
  kx : ∀ c k, c < 34 → k < 34 → PySem.W.kitOne K (.ref (C.ca k)) (.ref (C.ca c)) = some (decide (k = c)) ∧ ExI K (C.ca k)
  ve : ∀ k, k < 34 → PySem.W.kitOne K (.ref (C.ca k)) (.type "ValueError") = some true ∧ ExI K (C.ca k)
  b_LotError : Addr
  m_LotError : mg "LotError" = some (.ref b_LotError)
  k_LotError : ∀ k, k < 34 → PySem.W.kitOne K (.ref (C.ca k)) (.ref b_LotError) = some true ∧ ExI K (C.ca k)
section
variable {P : Program} {w : World} {K : PySem.W.Frag} {mg : Str → Option Value} {base : Heap} {C : Cfg} (h : Hd C P w K mg)
theorem lp_0 : LamP LV_0 ["e"] ["e"] := ⟨⟨rfl, rfl, rfl, by decide +kernel, rfl, by decide +kernel, by decide +kernel⟩, rfl, fun _ _ _ _ us hl => match us, hl with | [_], _ => rfl⟩
include h in
theorem lv_0 (a c' : Addr) (A : Around) (outer : List PySem.Env) (sh : Shared) (H : L2.Hp) (E : XK) (hr : Room 1 (A.deeper (envOfC "_law_e_fourth.<locals>.<lambda>" LV_0.scope sh.heap.objs.size a (.ref c')))) : DE C (cxOf (L2.CX P w) P w K mg base ["e"] "_law_e_fourth.<locals>.<lambda>" LV_0.scope a (.ref c') A outer sh H E) (fun c d _ H => E c d H) LV_0.body fbV_0 := (NE.fz (ne_lst (da_cons (de_xv (h.x_BadText.fx (by decide) rfl) (de_var (i := 0) rfl (.inl rfl))) (da_cons (de_xv (h.x_BadText.fx (by decide) rfl) (de_var (i := 0) rfl (.inl rfl))) da_nil))))
theorem lp_1 : LamP LV_1 ["e"] ["e"] := ⟨⟨rfl, rfl, rfl, by decide +kernel, rfl, by decide +kernel, by decide +kernel⟩, rfl, fun _ _ _ _ us hl => match us, hl with | [_], _ => rfl⟩
include h in
theorem lv_1 (a c' : Addr) (A : Around) (outer : List PySem.Env) (sh : Shared) (H : L2.Hp) (E : XK) (hr : Room 1 (A.deeper (envOfC "_law_e_third.<locals>.<lambda>" LV_1.scope sh.heap.objs.size a (.ref c')))) : DE C (cxOf (L2.CX P w) P w K mg base ["e"] "_law_e_third.<locals>.<lambda>" LV_1.scope a (.ref c') A outer sh H E) (fun c d _ H => E c d H) LV_1.body fbV_1 := (NE.fz (ne_lst (da_cons (de_xv (h.x_Shared.fx (by decide) rfl) (de_var (i := 0) rfl (.inl rfl))) da_nil)))
theorem lp_2 : LamP LV_2 ["e"] ["e"] := ⟨⟨rfl, rfl, rfl, by decide +kernel, rfl, by decide +kernel, by decide +kernel⟩, rfl, fun _ _ _ _ us hl => match us, hl with | [_], _ => rfl⟩
include h in
theorem lv_2 (a c' : Addr) (A : Around) (outer : List PySem.Env) (sh : Shared) (H : L2.Hp) (E : XK) (hr : Room 1 (A.deeper (envOfC "_law_e_third.<locals>.<lambda>" LV_2.scope sh.heap.objs.size a (.ref c')))) : DE C (cxOf (L2.CX P w) P w K mg base ["e"] "_law_e_third.<locals>.<lambda>" LV_2.scope a (.ref c') A outer sh H E) (fun c d _ H => E c d H) LV_2.body fbV_2 := (NE.fz (ne_lst (da_cons (de_xv (h.x_BadName.fx (by decide) rfl) (de_var (i := 0) rfl (.inl rfl))) da_nil)))
theorem lp_3 : LamP LV_3 ["e"] ["e"] := ⟨⟨rfl, rfl, rfl, by decide +kernel, rfl, by decide +kernel, by decide +kernel⟩, rfl, fun _ _ _ _ us hl => match us, hl with | [_], _ => rfl⟩
include h in
theorem lv_3 (a c' : Addr) (A : Around) (outer : List PySem.Env) (sh : Shared) (H : L2.Hp) (E : XK) (hr : Room 1 (A.deeper (envOfC "_law_e_third.<locals>.<lambda>" LV_3.scope sh.heap.objs.size a (.ref c')))) : DE C (cxOf (L2.CX P w) P w K mg base ["e"] "_law_e_third.<locals>.<lambda>" LV_3.scope a (.ref c') A outer sh H E) (fun c d _ H => E c d H) LV_3.body fbV_3 := (NE.fz (ne_lst (da_cons (de_xv (h.x_Taken.fx (by decide) rfl) (de_var (i := 0) rfl (.inl rfl))) da_nil)))
theorem lp_4 : LamP LV_4 ["e"] ["e"] := ⟨⟨rfl, rfl, rfl, by decide +kernel, rfl, by decide +kernel, by decide +kernel⟩, rfl, fun _ _ _ _ us hl => match us, hl with | [_], _ => rfl⟩
include h in
theorem lv_4 (a c' : Addr) (A : Around) (outer : List PySem.Env) (sh : Shared) (H : L2.Hp) (E : XK) (hr : Room 1 (A.deeper (envOfC "_law_e_third.<locals>.<lambda>" LV_4.scope sh.heap.objs.size a (.ref c')))) : DE C (cxOf (L2.CX P w) P w K mg base ["e"] "_law_e_third.<locals>.<lambda>" LV_4.scope a (.ref c') A outer sh H E) (fun c d _ H => E c d H) LV_4.body fbV_4 := (NE.fz (ne_lst (da_cons (de_xv (h.x_There.fx (by decide) rfl) (de_var (i := 0) rfl (.inl rfl))) da_nil)))
theorem lp_5 : LamP LV_5 ["e"] ["e"] := ⟨⟨rfl, rfl, rfl, by decide +kernel, rfl, by decide +kernel, by decide +kernel⟩, rfl, fun _ _ _ _ us hl => match us, hl with | [_], _ => rfl⟩
include h in
theorem lv_5 (a c' : Addr) (A : Around) (outer : List PySem.Env) (sh : Shared) (H : L2.Hp) (E : XK) (hr : Room 1 (A.deeper (envOfC "_law_e_third.<locals>.<lambda>" LV_5.scope sh.heap.objs.size a (.ref c')))) : DE C (cxOf (L2.CX P w) P w K mg base ["e"] "_law_e_third.<locals>.<lambda>" LV_5.scope a (.ref c') A outer sh H E) (fun c d _ H => E c d H) LV_5.body fbV_5 := (NE.fz (ne_lst (da_cons (de_xv (h.x_Lone.fx (by decide) rfl) (de_var (i := 0) rfl (.inl rfl))) da_nil)))
theorem lp_6 : LamP LV_6 ["e"] ["e"] := ⟨⟨rfl, rfl, rfl, by decide +kernel, rfl, by decide +kernel, by decide +kernel⟩, rfl, fun _ _ _ _ us hl => match us, hl with | [_], _ => rfl⟩
include h in
theorem lv_6 (a c' : Addr) (A : Around) (outer : List PySem.Env) (sh : Shared) (H : L2.Hp) (E : XK) (hr : Room 1 (A.deeper (envOfC "_law_e_third.<locals>.<lambda>" LV_6.scope sh.heap.objs.size a (.ref c')))) : DE C (cxOf (L2.CX P w) P w K mg base ["e"] "_law_e_third.<locals>.<lambda>" LV_6.scope a (.ref c') A outer sh H E) (fun c d _ H => E c d H) LV_6.body fbV_6 := (NE.fz (ne_lst (da_cons (de_xv (h.x_BadStep.fx (by decide) rfl) (de_var (i := 0) rfl (.inl rfl))) da_nil)))
theorem lp_7 : LamP LV_7 ["e"] ["e"] := ⟨⟨rfl, rfl, rfl, by decide +kernel, rfl, by decide +kernel, by decide +kernel⟩, rfl, fun _ _ _ _ us hl => match us, hl with | [_], _ => rfl⟩
include h in
theorem lv_7 (a c' : Addr) (A : Around) (outer : List PySem.Env) (sh : Shared) (H : L2.Hp) (E : XK) (hr : Room 1 (A.deeper (envOfC "_law_e_third.<locals>.<lambda>" LV_7.scope sh.heap.objs.size a (.ref c')))) : DE C (cxOf (L2.CX P w) P w K mg base ["e"] "_law_e_third.<locals>.<lambda>" LV_7.scope a (.ref c') A outer sh H E) (fun c d _ H => E c d H) LV_7.body fbV_7 := (NE.fz (ne_lst (da_cons (de_xv (h.x_BadSteps.fx (by decide) rfl) (de_var (i := 0) rfl (.inl rfl))) da_nil)))
theorem lp_8 : LamP LV_8 ["e"] ["e"] := ⟨⟨rfl, rfl, rfl, by decide +kernel, rfl, by decide +kernel, by decide +kernel⟩, rfl, fun _ _ _ _ us hl => match us, hl with | [_], _ => rfl⟩
include h in
theorem lv_8 (a c' : Addr) (A : Around) (outer : List PySem.Env) (sh : Shared) (H : L2.Hp) (E : XK) (hr : Room 1 (A.deeper (envOfC "_law_e_third.<locals>.<lambda>" LV_8.scope sh.heap.objs.size a (.ref c')))) : DE C (cxOf (L2.CX P w) P w K mg base ["e"] "_law_e_third.<locals>.<lambda>" LV_8.scope a (.ref c') A outer sh H E) (fun c d _ H => E c d H) LV_8.body fbV_8 := (NE.fz (ne_lst (da_cons (de_xv (h.x_Refused.fx (by decide) rfl) (de_var (i := 0) rfl (.inl rfl))) da_nil)))
theorem lp_9 : LamP LV_9 ["e"] ["e"] := ⟨⟨rfl, rfl, rfl, by decide +kernel, rfl, by decide +kernel, by decide +kernel⟩, rfl, fun _ _ _ _ us hl => match us, hl with | [_], _ => rfl⟩
include h in
theorem lv_9 (a c' : Addr) (A : Around) (outer : List PySem.Env) (sh : Shared) (H : L2.Hp) (E : XK) (hr : Room 1 (A.deeper (envOfC "_law_e_third.<locals>.<lambda>" LV_9.scope sh.heap.objs.size a (.ref c')))) : DE C (cxOf (L2.CX P w) P w K mg base ["e"] "_law_e_third.<locals>.<lambda>" LV_9.scope a (.ref c') A outer sh H E) (fun c d _ H => E c d H) LV_9.body fbV_9 := (NE.fz (ne_lst (da_cons (de_xv (h.x_BadJournal.fx (by decide) rfl) (de_var (i := 0) rfl (.inl rfl))) da_nil)))
theorem lp_10 : LamP LV_10 ["e"] ["e"] := ⟨⟨rfl, rfl, rfl, by decide +kernel, rfl, by decide +kernel, by decide +kernel⟩, rfl, fun _ _ _ _ us hl => match us, hl with | [_], _ => rfl⟩
include h in
theorem lv_10 (a c' : Addr) (A : Around) (outer : List PySem.Env) (sh : Shared) (H : L2.Hp) (E : XK) (hr : Room 1 (A.deeper (envOfC "_law_e_first.<locals>.<lambda>" LV_10.scope sh.heap.objs.size a (.ref c')))) : DE C (cxOf (L2.CX P w) P w K mg base ["e"] "_law_e_first.<locals>.<lambda>" LV_10.scope a (.ref c') A outer sh H E) (fun c d _ H => E c d H) LV_10.body fbV_10 := (NE.fz (ne_lst (da_cons (de_xv (h.x_BadQuestion.fx (by decide) rfl) (de_var (i := 0) rfl (.inl rfl))) da_nil)))
theorem lp_11 : LamP LV_11 ["e"] ["e"] := ⟨⟨rfl, rfl, rfl, by decide +kernel, rfl, by decide +kernel, by decide +kernel⟩, rfl, fun _ _ _ _ us hl => match us, hl with | [_], _ => rfl⟩
include h in
theorem lv_11 (a c' : Addr) (A : Around) (outer : List PySem.Env) (sh : Shared) (H : L2.Hp) (E : XK) (hr : Room 1 (A.deeper (envOfC "_law_e_first.<locals>.<lambda>" LV_11.scope sh.heap.objs.size a (.ref c')))) : DE C (cxOf (L2.CX P w) P w K mg base ["e"] "_law_e_first.<locals>.<lambda>" LV_11.scope a (.ref c') A outer sh H E) (fun c d _ H => E c d H) LV_11.body fbV_11 := (NE.fz (ne_lst (da_cons (de_xv (h.x_BadNames.fx (by decide) rfl) (de_var (i := 0) rfl (.inl rfl))) da_nil)))
theorem lp_12 : LamP LV_12 ["e"] ["e"] := ⟨⟨rfl, rfl, rfl, by decide +kernel, rfl, by decide +kernel, by decide +kernel⟩, rfl, fun _ _ _ _ us hl => match us, hl with | [_], _ => rfl⟩
include h in
theorem lv_12 (a c' : Addr) (A : Around) (outer : List PySem.Env) (sh : Shared) (H : L2.Hp) (E : XK) (hr : Room 1 (A.deeper (envOfC "_law_e_first.<locals>.<lambda>" LV_12.scope sh.heap.objs.size a (.ref c')))) : DE C (cxOf (L2.CX P w) P w K mg base ["e"] "_law_e_first.<locals>.<lambda>" LV_12.scope a (.ref c') A outer sh H E) (fun c d _ H => E c d H) LV_12.body fbV_12 := (NE.fz (ne_lst (da_cons (de_xv (h.x_BadLots.fx (by decide) rfl) (de_var (i := 0) rfl (.inl rfl))) da_nil)))
theorem lp_13 : LamP LV_13 ["e"] ["e"] := ⟨⟨rfl, rfl, rfl, by decide +kernel, rfl, by decide +kernel, by decide +kernel⟩, rfl, fun _ _ _ _ us hl => match us, hl with | [_], _ => rfl⟩
include h in
theorem lv_13 (a c' : Addr) (A : Around) (outer : List PySem.Env) (sh : Shared) (H : L2.Hp) (E : XK) (hr : Room 1 (A.deeper (envOfC "_law_e_first.<locals>.<lambda>" LV_13.scope sh.heap.objs.size a (.ref c')))) : DE C (cxOf (L2.CX P w) P w K mg base ["e"] "_law_e_first.<locals>.<lambda>" LV_13.scope a (.ref c') A outer sh H E) (fun c d _ H => E c d H) LV_13.body fbV_13 := (NE.fz (ne_lst (da_cons (de_xv (h.x_BadImage.fx (by decide) rfl) (de_var (i := 0) rfl (.inl rfl))) da_nil)))
theorem lp_14 : LamP LV_14 ["e"] ["e"] := ⟨⟨rfl, rfl, rfl, by decide +kernel, rfl, by decide +kernel, by decide +kernel⟩, rfl, fun _ _ _ _ us hl => match us, hl with | [_], _ => rfl⟩
include h in
theorem lv_14 (a c' : Addr) (A : Around) (outer : List PySem.Env) (sh : Shared) (H : L2.Hp) (E : XK) (hr : Room 1 (A.deeper (envOfC "_law_e_first.<locals>.<lambda>" LV_14.scope sh.heap.objs.size a (.ref c')))) : DE C (cxOf (L2.CX P w) P w K mg base ["e"] "_law_e_first.<locals>.<lambda>" LV_14.scope a (.ref c') A outer sh H E) (fun c d _ H => E c d H) LV_14.body fbV_14 := (NE.fz (ne_lst (da_cons (de_xv (h.x_BadLot.fx (by decide) rfl) (de_var (i := 0) rfl (.inl rfl))) da_nil)))
theorem lp_15 : LamP LV_15 ["e"] ["e"] := ⟨⟨rfl, rfl, rfl, by decide +kernel, rfl, by decide +kernel, by decide +kernel⟩, rfl, fun _ _ _ _ us hl => match us, hl with | [_], _ => rfl⟩
include h in
theorem lv_15 (a c' : Addr) (A : Around) (outer : List PySem.Env) (sh : Shared) (H : L2.Hp) (E : XK) (hr : Room 1 (A.deeper (envOfC "_law_e_first.<locals>.<lambda>" LV_15.scope sh.heap.objs.size a (.ref c')))) : DE C (cxOf (L2.CX P w) P w K mg base ["e"] "_law_e_first.<locals>.<lambda>" LV_15.scope a (.ref c') A outer sh H E) (fun c d _ H => E c d H) LV_15.body fbV_15 := (NE.fz (ne_lst (da_cons (de_xv (h.x_NoLot.fx (by decide) rfl) (de_var (i := 0) rfl (.inl rfl))) da_nil)))
theorem lp_16 : LamP LV_16 ["e"] ["e"] := ⟨⟨rfl, rfl, rfl, by decide +kernel, rfl, by decide +kernel, by decide +kernel⟩, rfl, fun _ _ _ _ us hl => match us, hl with | [_], _ => rfl⟩
include h in
theorem lv_16 (a c' : Addr) (A : Around) (outer : List PySem.Env) (sh : Shared) (H : L2.Hp) (E : XK) (hr : Room 1 (A.deeper (envOfC "_law_e_first.<locals>.<lambda>" LV_16.scope sh.heap.objs.size a (.ref c')))) : DE C (cxOf (L2.CX P w) P w K mg base ["e"] "_law_e_first.<locals>.<lambda>" LV_16.scope a (.ref c') A outer sh H E) (fun c d _ H => E c d H) LV_16.body fbV_16 := (NE.fz (ne_lst (da_cons (de_xv (h.x_NoName.fx (by decide) rfl) (de_var (i := 0) rfl (.inl rfl))) da_nil)))
theorem lp_17 : LamP LV_17 ["e"] ["e"] := ⟨⟨rfl, rfl, rfl, by decide +kernel, rfl, by decide +kernel, by decide +kernel⟩, rfl, fun _ _ _ _ us hl => match us, hl with | [_], _ => rfl⟩
include h in
theorem lv_17 (a c' : Addr) (A : Around) (outer : List PySem.Env) (sh : Shared) (H : L2.Hp) (E : XK) (hr : Room 1 (A.deeper (envOfC "_law_e_first.<locals>.<lambda>" LV_17.scope sh.heap.objs.size a (.ref c')))) : DE C (cxOf (L2.CX P w) P w K mg base ["e"] "_law_e_first.<locals>.<lambda>" LV_17.scope a (.ref c') A outer sh H E) (fun c d _ H => E c d H) LV_17.body fbV_17 := (NE.fz (ne_lst (da_cons (de_xv (h.x_BadWeights.fx (by decide) rfl) (de_var (i := 0) rfl (.inl rfl))) da_nil)))
theorem lp_18 : LamP LV_18 ["e"] ["e"] := ⟨⟨rfl, rfl, rfl, by decide +kernel, rfl, by decide +kernel, by decide +kernel⟩, rfl, fun _ _ _ _ us hl => match us, hl with | [_], _ => rfl⟩
include h in
theorem lv_18 (a c' : Addr) (A : Around) (outer : List PySem.Env) (sh : Shared) (H : L2.Hp) (E : XK) (hr : Room 1 (A.deeper (envOfC "_law_e_first.<locals>.<lambda>" LV_18.scope sh.heap.objs.size a (.ref c')))) : DE C (cxOf (L2.CX P w) P w K mg base ["e"] "_law_e_first.<locals>.<lambda>" LV_18.scope a (.ref c') A outer sh H E) (fun c d _ H => E c d H) LV_18.body fbV_18 := (NE.fz (ne_lst (da_cons (de_xv (h.x_BadTable.fx (by decide) rfl) (de_var (i := 0) rfl (.inl rfl))) da_nil)))
theorem lp_19 : LamP LV_19 ["e"] ["e"] := ⟨⟨rfl, rfl, rfl, by decide +kernel, rfl, by decide +kernel, by decide +kernel⟩, rfl, fun _ _ _ _ us hl => match us, hl with | [_], _ => rfl⟩
include h in
theorem lv_19 (a c' : Addr) (A : Around) (outer : List PySem.Env) (sh : Shared) (H : L2.Hp) (E : XK) (hr : Room 1 (A.deeper (envOfC "_law_e_first.<locals>.<lambda>" LV_19.scope sh.heap.objs.size a (.ref c')))) : DE C (cxOf (L2.CX P w) P w K mg base ["e"] "_law_e_first.<locals>.<lambda>" LV_19.scope a (.ref c') A outer sh H E) (fun c d _ H => E c d H) LV_19.body fbV_19 := (NE.fz (ne_lst (da_cons (de_xv (h.x_BadNumber.fx (by decide) rfl) (de_var (i := 0) rfl (.inl rfl))) da_nil)))
theorem lp_20 : LamP LV_20 ["e"] ["e"] := ⟨⟨rfl, rfl, rfl, by decide +kernel, rfl, by decide +kernel, by decide +kernel⟩, rfl, fun _ _ _ _ us hl => match us, hl with | [_], _ => rfl⟩
include h in
theorem lv_20 (a c' : Addr) (A : Around) (outer : List PySem.Env) (sh : Shared) (H : L2.Hp) (E : XK) (hr : Room 1 (A.deeper (envOfC "_law_e_first.<locals>.<lambda>" LV_20.scope sh.heap.objs.size a (.ref c')))) : DE C (cxOf (L2.CX P w) P w K mg base ["e"] "_law_e_first.<locals>.<lambda>" LV_20.scope a (.ref c') A outer sh H E) (fun c d _ H => E c d H) LV_20.body fbV_20 := (NE.fz (ne_lst (da_cons (de_xv (h.x_TooMany.fx (by decide) rfl) (de_var (i := 0) rfl (.inl rfl))) da_nil)))
theorem lp_21 : LamP LV_21 ["e"] ["e"] := ⟨⟨rfl, rfl, rfl, by decide +kernel, rfl, by decide +kernel, by decide +kernel⟩, rfl, fun _ _ _ _ us hl => match us, hl with | [_], _ => rfl⟩
include h in
theorem lv_21 (a c' : Addr) (A : Around) (outer : List PySem.Env) (sh : Shared) (H : L2.Hp) (E : XK) (hr : Room 1 (A.deeper (envOfC "_law_e_second.<locals>.<lambda>" LV_21.scope sh.heap.objs.size a (.ref c')))) : DE C (cxOf (L2.CX P w) P w K mg base ["e"] "_law_e_second.<locals>.<lambda>" LV_21.scope a (.ref c') A outer sh H E) (fun c d _ H => E c d H) LV_21.body fbV_21 := (NE.fz (ne_lst (da_cons (de_xv (h.x_BadTies.fx (by decide) rfl) (de_var (i := 0) rfl (.inl rfl))) da_nil)))
theorem lp_22 : LamP LV_22 ["e"] ["e"] := ⟨⟨rfl, rfl, rfl, by decide +kernel, rfl, by decide +kernel, by decide +kernel⟩, rfl, fun _ _ _ _ us hl => match us, hl with | [_], _ => rfl⟩
include h in
theorem lv_22 (a c' : Addr) (A : Around) (outer : List PySem.Env) (sh : Shared) (H : L2.Hp) (E : XK) (hr : Room 1 (A.deeper (envOfC "_law_e_second.<locals>.<lambda>" LV_22.scope sh.heap.objs.size a (.ref c')))) : DE C (cxOf (L2.CX P w) P w K mg base ["e"] "_law_e_second.<locals>.<lambda>" LV_22.scope a (.ref c') A outer sh H E) (fun c d _ H => E c d H) LV_22.body fbV_22 := (NE.fz (ne_lst (da_cons (de_xv (h.x_BadTwin.fx (by decide) rfl) (de_var (i := 0) rfl (.inl rfl))) da_nil)))
theorem lp_23 : LamP LV_23 ["e"] ["e"] := ⟨⟨rfl, rfl, rfl, by decide +kernel, rfl, by decide +kernel, by decide +kernel⟩, rfl, fun _ _ _ _ us hl => match us, hl with | [_], _ => rfl⟩
include h in
theorem lv_23 (a c' : Addr) (A : Around) (outer : List PySem.Env) (sh : Shared) (H : L2.Hp) (E : XK) (hr : Room 1 (A.deeper (envOfC "_law_e_second.<locals>.<lambda>" LV_23.scope sh.heap.objs.size a (.ref c')))) : DE C (cxOf (L2.CX P w) P w K mg base ["e"] "_law_e_second.<locals>.<lambda>" LV_23.scope a (.ref c') A outer sh H E) (fun c d _ H => E c d H) LV_23.body fbV_23 := (NE.fz (ne_lst (da_cons (de_xv (h.x_Overlap.fx (by decide) rfl) (de_var (i := 0) rfl (.inl rfl))) da_nil)))
theorem lp_24 : LamP LV_24 ["e"] ["e"] := ⟨⟨rfl, rfl, rfl, by decide +kernel, rfl, by decide +kernel, by decide +kernel⟩, rfl, fun _ _ _ _ us hl => match us, hl with | [_], _ => rfl⟩
include h in
theorem lv_24 (a c' : Addr) (A : Around) (outer : List PySem.Env) (sh : Shared) (H : L2.Hp) (E : XK) (hr : Room 1 (A.deeper (envOfC "_law_e_second.<locals>.<lambda>" LV_24.scope sh.heap.objs.size a (.ref c')))) : DE C (cxOf (L2.CX P w) P w K mg base ["e"] "_law_e_second.<locals>.<lambda>" LV_24.scope a (.ref c') A outer sh H E) (fun c d _ H => E c d H) LV_24.body fbV_24 := (NE.fz (ne_lst (da_cons (de_xv (h.x_BadPoints.fx (by decide) rfl) (de_var (i := 0) rfl (.inl rfl))) da_nil)))
theorem lp_25 : LamP LV_25 ["e"] ["e"] := ⟨⟨rfl, rfl, rfl, by decide +kernel, rfl, by decide +kernel, by decide +kernel⟩, rfl, fun _ _ _ _ us hl => match us, hl with | [_], _ => rfl⟩
include h in
theorem lv_25 (a c' : Addr) (A : Around) (outer : List PySem.Env) (sh : Shared) (H : L2.Hp) (E : XK) (hr : Room 1 (A.deeper (envOfC "_law_e_second.<locals>.<lambda>" LV_25.scope sh.heap.objs.size a (.ref c')))) : DE C (cxOf (L2.CX P w) P w K mg base ["e"] "_law_e_second.<locals>.<lambda>" LV_25.scope a (.ref c') A outer sh H E) (fun c d _ H => E c d H) LV_25.body fbV_25 := (NE.fz (ne_lst (da_cons (de_xv (h.x_BadRow.fx (by decide) rfl) (de_var (i := 0) rfl (.inl rfl))) da_nil)))
theorem lp_26 : LamP LV_26 ["e"] ["e"] := ⟨⟨rfl, rfl, rfl, by decide +kernel, rfl, by decide +kernel, by decide +kernel⟩, rfl, fun _ _ _ _ us hl => match us, hl with | [_], _ => rfl⟩
include h in
theorem lv_26 (a c' : Addr) (A : Around) (outer : List PySem.Env) (sh : Shared) (H : L2.Hp) (E : XK) (hr : Room 1 (A.deeper (envOfC "_law_e_second.<locals>.<lambda>" LV_26.scope sh.heap.objs.size a (.ref c')))) : DE C (cxOf (L2.CX P w) P w K mg base ["e"] "_law_e_second.<locals>.<lambda>" LV_26.scope a (.ref c') A outer sh H E) (fun c d _ H => E c d H) LV_26.body fbV_26 := (NE.fz (ne_lst (da_cons (de_xv (h.x_BadHeights.fx (by decide) rfl) (de_var (i := 0) rfl (.inl rfl))) da_nil)))
theorem lp_27 : LamP LV_27 ["e"] ["e"] := ⟨⟨rfl, rfl, rfl, by decide +kernel, rfl, by decide +kernel, by decide +kernel⟩, rfl, fun _ _ _ _ us hl => match us, hl with | [_], _ => rfl⟩
include h in
theorem lv_27 (a c' : Addr) (A : Around) (outer : List PySem.Env) (sh : Shared) (H : L2.Hp) (E : XK) (hr : Room 1 (A.deeper (envOfC "_law_e_second.<locals>.<lambda>" LV_27.scope sh.heap.objs.size a (.ref c')))) : DE C (cxOf (L2.CX P w) P w K mg base ["e"] "_law_e_second.<locals>.<lambda>" LV_27.scope a (.ref c') A outer sh H E) (fun c d _ H => E c d H) LV_27.body fbV_27 := (NE.fz (ne_lst (da_cons (de_xv (h.x_BadRing.fx (by decide) rfl) (de_var (i := 0) rfl (.inl rfl))) da_nil)))
theorem lp_28 : LamP LV_28 ["e"] ["e"] := ⟨⟨rfl, rfl, rfl, by decide +kernel, rfl, by decide +kernel, by decide +kernel⟩, rfl, fun _ _ _ _ us hl => match us, hl with | [_], _ => rfl⟩
include h in
theorem lv_28 (a c' : Addr) (A : Around) (outer : List PySem.Env) (sh : Shared) (H : L2.Hp) (E : XK) (hr : Room 1 (A.deeper (envOfC "_law_e_second.<locals>.<lambda>" LV_28.scope sh.heap.objs.size a (.ref c')))) : DE C (cxOf (L2.CX P w) P w K mg base ["e"] "_law_e_second.<locals>.<lambda>" LV_28.scope a (.ref c') A outer sh H E) (fun c d _ H => E c d H) LV_28.body fbV_28 := (NE.fz (ne_lst (da_cons (de_xv (h.x_NotWeighed.fx (by decide) rfl) (de_var (i := 0) rfl (.inl rfl))) da_nil)))
theorem lp_29 : LamP LV_29 ["e"] ["e"] := ⟨⟨rfl, rfl, rfl, by decide +kernel, rfl, by decide +kernel, by decide +kernel⟩, rfl, fun _ _ _ _ us hl => match us, hl with | [_], _ => rfl⟩
include h in
theorem lv_29 (a c' : Addr) (A : Around) (outer : List PySem.Env) (sh : Shared) (H : L2.Hp) (E : XK) (hr : Room 1 (A.deeper (envOfC "_law_e_second.<locals>.<lambda>" LV_29.scope sh.heap.objs.size a (.ref c')))) : DE C (cxOf (L2.CX P w) P w K mg base ["e"] "_law_e_second.<locals>.<lambda>" LV_29.scope a (.ref c') A outer sh H E) (fun c d _ H => E c d H) LV_29.body fbV_29 := (NE.fz (ne_lst (da_cons (de_xv (h.x_OnlyName.fx (by decide) rfl) (de_var (i := 0) rfl (.inl rfl))) da_nil)))
theorem lp_30 : LamP LV_30 ["e"] ["e"] := ⟨⟨rfl, rfl, rfl, by decide +kernel, rfl, by decide +kernel, by decide +kernel⟩, rfl, fun _ _ _ _ us hl => match us, hl with | [_], _ => rfl⟩
include h in
theorem lv_30 (a c' : Addr) (A : Around) (outer : List PySem.Env) (sh : Shared) (H : L2.Hp) (E : XK) (hr : Room 1 (A.deeper (envOfC "_law_e_second.<locals>.<lambda>" LV_30.scope sh.heap.objs.size a (.ref c')))) : DE C (cxOf (L2.CX P w) P w K mg base ["e"] "_law_e_second.<locals>.<lambda>" LV_30.scope a (.ref c') A outer sh H E) (fun c d _ H => E c d H) LV_30.body fbV_30 := (NE.fz (ne_lst (da_cons (de_xv (h.x_AllHave.fx (by decide) rfl) (de_var (i := 0) rfl (.inl rfl))) da_nil)))
theorem lp_31 : LamP LV_31 ["e"] ["e"] := ⟨⟨rfl, rfl, rfl, by decide +kernel, rfl, by decide +kernel, by decide +kernel⟩, rfl, fun _ _ _ _ us hl => match us, hl with | [_], _ => rfl⟩
include h in
theorem lv_31 (a c' : Addr) (A : Around) (outer : List PySem.Env) (sh : Shared) (H : L2.Hp) (E : XK) (hr : Room 1 (A.deeper (envOfC "_law_e_second.<locals>.<lambda>" LV_31.scope sh.heap.objs.size a (.ref c')))) : DE C (cxOf (L2.CX P w) P w K mg base ["e"] "_law_e_second.<locals>.<lambda>" LV_31.scope a (.ref c') A outer sh H E) (fun c d _ H => E c d H) LV_31.body fbV_31 := (NE.fz (ne_lst (da_cons (de_xv (h.x_NoneHas.fx (by decide) rfl) (de_var (i := 0) rfl (.inl rfl))) da_nil)))
include h in
theorem fv : FnV C P w K mg base 2 tabF := fnV_of h.fa fun i q L hi => by
  match i, hi with
  | 0, hi =>
    cases hi
    exact ⟨_, _, _, lp_0, rfl, lv_0 h⟩
  | 1, hi =>
    cases hi
    exact ⟨_, _, _, lp_1, rfl, lv_1 h⟩
  | 2, hi =>
    cases hi
    exact ⟨_, _, _, lp_2, rfl, lv_2 h⟩
  | 3, hi =>
    cases hi
    exact ⟨_, _, _, lp_3, rfl, lv_3 h⟩
  | 4, hi =>
    cases hi
    exact ⟨_, _, _, lp_4, rfl, lv_4 h⟩
  | 5, hi =>
    cases hi
    exact ⟨_, _, _, lp_5, rfl, lv_5 h⟩
  | 6, hi =>
    cases hi
    exact ⟨_, _, _, lp_6, rfl, lv_6 h⟩
  | 7, hi =>
    cases hi
    exact ⟨_, _, _, lp_7, rfl, lv_7 h⟩
  | 8, hi =>
    cases hi
    exact ⟨_, _, _, lp_8, rfl, lv_8 h⟩
  | 9, hi =>
    cases hi
    exact ⟨_, _, _, lp_9, rfl, lv_9 h⟩
  | 10, hi =>
    cases hi
    exact ⟨_, _, _, lp_10, rfl, lv_10 h⟩
  | 11, hi =>
    cases hi
    exact ⟨_, _, _, lp_11, rfl, lv_11 h⟩
  | 12, hi =>
    cases hi
    exact ⟨_, _, _, lp_12, rfl, lv_12 h⟩
  | 13, hi =>
    cases hi
    exact ⟨_, _, _, lp_13, rfl, lv_13 h⟩
  | 14, hi =>
    cases hi
    exact ⟨_, _, _, lp_14, rfl, lv_14 h⟩
  | 15, hi =>
    cases hi
    exact ⟨_, _, _, lp_15, rfl, lv_15 h⟩
  | 16, hi =>
    cases hi
    exact ⟨_, _, _, lp_16, rfl, lv_16 h⟩
  | 17, hi =>
    cases hi
    exact ⟨_, _, _, lp_17, rfl, lv_17 h⟩
  | 18, hi =>
    cases hi
    exact ⟨_, _, _, lp_18, rfl, lv_18 h⟩
  | 19, hi =>
    cases hi
    exact ⟨_, _, _, lp_19, rfl, lv_19 h⟩
  | 20, hi =>
    cases hi
    exact ⟨_, _, _, lp_20, rfl, lv_20 h⟩
  | 21, hi =>
    cases hi
    exact ⟨_, _, _, lp_21, rfl, lv_21 h⟩
  | 22, hi =>
    cases hi
    exact ⟨_, _, _, lp_22, rfl, lv_22 h⟩
  | 23, hi =>
    cases hi
    exact ⟨_, _, _, lp_23, rfl, lv_23 h⟩
  | 24, hi =>
    cases hi
    exact ⟨_, _, _, lp_24, rfl, lv_24 h⟩
  | 25, hi =>
    cases hi
    exact ⟨_, _, _, lp_25, rfl, lv_25 h⟩
  | 26, hi =>
    cases hi
    exact ⟨_, _, _, lp_26, rfl, lv_26 h⟩
  | 27, hi =>
    cases hi
    exact ⟨_, _, _, lp_27, rfl, lv_27 h⟩
  | 28, hi =>
    cases hi
    exact ⟨_, _, _, lp_28, rfl, lv_28 h⟩
  | 29, hi =>
    cases hi
    exact ⟨_, _, _, lp_29, rfl, lv_29 h⟩
  | 30, hi =>
    cases hi
    exact ⟨_, _, _, lp_30, rfl, lv_30 h⟩
  | 31, hi =>
    cases hi
    exact ⟨_, _, _, lp_31, rfl, lv_31 h⟩
  | n + 32, hi => exact nomatch hi
theorem sc__law_spring : FnScope ["script", "turn", "cell", "mix", "at", "one"] ["script", "turn"] (defScope st__law_spring) := ⟨rfl, rfl, rfl, by decide +kernel, rfl, by decide +kernel, by decide +kernel⟩
theorem bi__law_spring : Binds K h.d__law_spring ["script", "turn"] [] := h.f__law_spring.binds fun _ _ _ _ _ _ us hl => match us, hl with | [_, _], _ => rfl
theorem ok__law_spring : FnOk P w K mg base (L2.CX P w) 5 h.a__law_spring h.d__law_spring ["script", "turn"] (spD C K F__law_spring) := fn_defO (N := ["script", "turn", "cell", "mix", "at", "one"]) h.f__law_spring sc__law_spring fun cdv A outer s H E hr => by
  have nd := sc__law_spring.nd
  have tk := tk_cx (P := P) (w := w) (K := K) (mg := mg) (base := base) (N := ["script", "turn", "cell", "mix", "at", "one"]) (q := "_law_spring") (sc := defScope st__law_spring) (f := h.a__law_spring) (cd := cdv) (A := A) (outer := outer) (s := s) (H := H) (E := E)
  have pso := own_cx (P := P) (w := w) (K := K) (mg := mg) (base := base) (N := ["script", "turn", "cell", "mix", "at", "one"]) (q := "_law_spring") (sc := defScope st__law_spring) (f := h.a__law_spring) (cd := cdv) (A := A) (outer := outer) (s := s) (H := H) (E := E)
  have fl := flatE (E := E)
  exact (dss_cons (ds_par rfl nd rfl rfl (by decide) rfl rfl (da_cons (de_if (dt_cmp o_lt (de_var (i := 1) rfl (.inl rfl)) (de_callB c_len rfl h.n_len (by decide +kernel) (da_cons (de_var (i := 0) rfl (.inl rfl)) da_nil)) rfl) (de_ix hr.b1 (de_var (i := 0) rfl (.inl rfl)) (de_var (i := 1) rfl (.inl rfl))) (de_bin o_add (de_bin o_mul de_int (de_var (i := 1) rfl (.inl rfl))) (de_callB c_len rfl h.n_len (by decide +kernel) (da_cons (de_var (i := 0) rfl (.inl rfl)) da_nil)))) (da_cons (de_bin o_add de_int (de_bin o_mul de_int (de_var (i := 1) rfl (.inl rfl)))) da_nil)) rfl)
 (dss_cons (ds_for pso rfl (di_enum rfl h.n_enumerate (da_cons (de_slice (de_var (i := 0) rfl (.inl rfl)) dp_no (dp_at de_int)) da_nil)) (dg_unp rfl (dgs_cons (dg_name nd rfl (.inl rfl)) (dgs_cons (dg_name nd rfl (.inl rfl)) dgs_nil))) (dss_one (ds_set nd rfl (.inl rfl) (de_bin o_mod (de_callTy c_int rfl h.n_int (by decide +kernel) (da_cons (de_bin o_add (de_bin o_add (de_bin o_add (de_bin o_mul (de_var (i := 3) rfl (.inl rfl)) de_int) (de_var (i := 5) rfl (.inl rfl))) (de_bin o_mul de_int (de_var (i := 4) rfl (.inl rfl)))) de_int) da_nil)) de_int))))
 (dss_one (ds_ret (NE.own (ne_lst (da_cons (de_if (dt_cmp o_ge (de_var (i := 2) rfl (.inl rfl)) (de_bin o_pow de_int de_int) rfl) (de_var (i := 2) rfl (.inl rfl)) de_int) (da_cons (de_bin o_mod (de_callTy c_int rfl h.n_int (by decide +kernel) (da_cons (de_bin o_add (de_var (i := 3) rfl (.inl rfl)) (de_bin o_mul (de_var (i := 2) rfl (.inl rfl)) de_int)) da_nil)) de_int) (da_cons de_int da_nil)))))))))
theorem sc__law_draw : FnScope ["spring", "many", "digit", "mixed"] ["spring", "many"] (defScope st__law_draw) := ⟨rfl, rfl, rfl, by decide +kernel, rfl, by decide +kernel, by decide +kernel⟩
theorem bi__law_draw : Binds K h.d__law_draw ["spring", "many"] [] := h.f__law_draw.binds fun _ _ _ _ _ _ us hl => match us, hl with | [_, _], _ => rfl
theorem ok__law_draw : FnOk P w K mg base (L2.CX P w) 5 h.a__law_draw h.d__law_draw ["spring", "many"] (spD C K F__law_draw) := fn_def (N := ["spring", "many", "digit", "mixed"]) h.f__law_draw sc__law_draw fun cdv A outer s H E hr => by
  have nd := sc__law_draw.nd
  have tk := tk_cx (P := P) (w := w) (K := K) (mg := mg) (base := base) (N := ["spring", "many", "digit", "mixed"]) (q := "_law_draw") (sc := defScope st__law_draw) (f := h.a__law_draw) (cd := cdv) (A := A) (outer := outer) (s := s) (H := H) (E := E)
  have pso := own_cx (P := P) (w := w) (K := K) (mg := mg) (base := base) (N := ["spring", "many", "digit", "mixed"]) (q := "_law_draw") (sc := defScope st__law_draw) (f := h.a__law_draw) (cd := cdv) (A := A) (outer := outer) (s := s) (H := H) (E := E)
  have fl := flatE (E := E)
  exact (dss_cons (ds_if (dt_cmp o_gt (de_ix hr.b1 (de_var (i := 0) rfl (.inl rfl)) de_int) de_int rfl) (dss_cons (ds_set nd rfl (.inl rfl) (de_bin o_mod (de_callTy c_int rfl h.n_int (by decide +kernel) (da_cons (de_ix hr.b1 (de_var (i := 0) rfl (.inl rfl)) de_int) da_nil)) (de_var (i := 1) rfl (.inl rfl))))
 (dss_cons (ds_asg (de_bin o_div (de_ix hr.b1 (de_var (i := 0) rfl (.inl rfl)) de_int) (de_var (i := 1) rfl (.inl rfl))) (dg_sub hr.b1 (de_var (i := 0) rfl (.inl rfl)) de_int))
 (dss_one (ds_ret (de_var (i := 2) rfl (.inl rfl))))))
 dss_nil)
 (dss_cons (ds_asg (de_bin o_add (de_ix hr.b1 (de_var (i := 0) rfl (.inl rfl)) de_int) de_int) (dg_sub hr.b1 (de_var (i := 0) rfl (.inl rfl)) de_int))
 (dss_cons (ds_set nd rfl (.inl rfl) (de_bin o_mod (de_bin o_pow (de_callTy c_int rfl h.n_int (by decide +kernel) (da_cons (de_bin o_add (de_bin o_add (de_ix hr.b1 (de_var (i := 0) rfl (.inl rfl)) de_int) (de_bin o_mul de_int (de_ix hr.b1 (de_var (i := 0) rfl (.inl rfl)) de_int))) de_int) da_nil)) de_int) de_int))
 (dss_one (ds_ret (de_bin o_mod (de_bin o_div (de_bin o_mod (de_bin o_pow (de_callTy c_int rfl h.n_int (by decide +kernel) (da_cons (de_bin o_add (de_bin o_mul (de_var (i := 3) rfl (.inl rfl)) de_int) (de_bin o_mul de_int (de_ix hr.b1 (de_var (i := 0) rfl (.inl rfl)) de_int))) da_nil)) de_int) de_int) de_int) (de_var (i := 1) rfl (.inl rfl))))))))
theorem sc__law_pick : FnScope ["spring", "some"] ["spring", "some"] (defScope st__law_pick) := ⟨rfl, rfl, rfl, by decide +kernel, rfl, by decide +kernel, by decide +kernel⟩
theorem bi__law_pick : Binds K h.d__law_pick ["spring", "some"] [] := h.f__law_pick.binds fun _ _ _ _ _ _ us hl => match us, hl with | [_, _], _ => rfl
theorem ok__law_pick : FnOk P w K mg base (L2.CX P w) 6 h.a__law_pick h.d__law_pick ["spring", "some"] (spD C K F__law_pick) := fn_def (N := ["spring", "some"]) h.f__law_pick sc__law_pick fun cdv A outer s H E hr => by
  have nd := sc__law_pick.nd
  have tk := tk_cx (P := P) (w := w) (K := K) (mg := mg) (base := base) (N := ["spring", "some"]) (q := "_law_pick") (sc := defScope st__law_pick) (f := h.a__law_pick) (cd := cdv) (A := A) (outer := outer) (s := s) (H := H) (E := E)
  have pso := own_cx (P := P) (w := w) (K := K) (mg := mg) (base := base) (N := ["spring", "some"]) (q := "_law_pick") (sc := defScope st__law_pick) (f := h.a__law_pick) (cd := cdv) (A := A) (outer := outer) (s := s) (H := H) (E := E)
  have fl := flatE (E := E)
  exact (dss_one (ds_ret (de_ix hr.b1 (de_var (i := 1) rfl (.inl rfl)) (de_call (ok__law_draw h) (hr.mono (by first | decide | omega)) rfl h.g__law_draw h.f__law_draw.kp (bi__law_draw h) tk (da_cons (de_var (i := 0) rfl (.inl rfl)) (da_cons (de_callB c_len rfl h.n_len (by decide +kernel) (da_cons (de_var (i := 1) rfl (.inl rfl)) da_nil)) da_nil))))))
theorem sc__law_e_drawn : FnScope ["spring", "way", "k"] ["spring"] (defScope st__law_e_drawn) := ⟨rfl, rfl, rfl, by decide +kernel, rfl, by decide +kernel, by decide +kernel⟩
theorem bi__law_e_drawn : Binds K h.d__law_e_drawn ["spring"] [] := h.f__law_e_drawn.binds fun _ _ _ _ _ _ us hl => match us, hl with | [_], _ => rfl
theorem ok__law_e_drawn : FnOk P w K mg base (L2.CX P w) 7 h.a__law_e_drawn h.d__law_e_drawn ["spring"] (spD C K F__law_e_drawn) := fn_def (N := ["spring", "way", "k"]) h.f__law_e_drawn sc__law_e_drawn fun cdv A outer s H E hr => by
  have nd := sc__law_e_drawn.nd
  have tk := tk_cx (P := P) (w := w) (K := K) (mg := mg) (base := base) (N := ["spring", "way", "k"]) (q := "_law_e_drawn") (sc := defScope st__law_e_drawn) (f := h.a__law_e_drawn) (cd := cdv) (A := A) (outer := outer) (s := s) (H := H) (E := E)
  have pso := own_cx (P := P) (w := w) (K := K) (mg := mg) (base := base) (N := ["spring", "way", "k"]) (q := "_law_e_drawn") (sc := defScope st__law_e_drawn) (f := h.a__law_e_drawn) (cd := cdv) (A := A) (outer := outer) (s := s) (H := H) (E := E)
  have fl := flatE (E := E)
  exact (dss_cons (ds_set nd rfl (.inl rfl) (de_call (ok__law_draw h) (hr.mono (by first | decide | omega)) rfl h.g__law_draw h.f__law_draw.kp (bi__law_draw h) tk (da_cons (de_var (i := 0) rfl (.inr (.inl rfl))) (da_cons de_int da_nil))))
 (dss_cons (ds_if (dt_cmp (o_eq hr.b64) (de_var (i := 1) rfl (.inl rfl)) de_int rfl) (dss_one (ds_ret (de_bin o_sub (de_call (ok__law_draw h) (hr.mono (by first | decide | omega)) rfl h.g__law_draw h.f__law_draw.kp (bi__law_draw h) tk (da_cons (de_var (i := 0) rfl (.inr (.inl rfl))) (da_cons (de_bin o_pow de_int de_int) da_nil))) (de_bin o_pow de_int de_int))))
 dss_nil)
 (dss_cons (ds_if (dt_cmp (o_eq hr.b64) (de_var (i := 1) rfl (.inl rfl)) de_int rfl) (dss_one (ds_ret (de_call (ok__law_pick h) (hr.mono (by first | decide | omega)) rfl h.g__law_pick h.f__law_pick.kp (bi__law_pick h) tk (da_cons (de_var (i := 0) rfl (.inr (.inl rfl))) (da_cons (NE.fz (ne_lst (da_cons de_str (da_cons de_str (da_cons de_str (da_cons de_str (da_cons de_str da_nil))))))) da_nil)))))
 dss_nil)
 (dss_cons (ds_if (dt_cmp (o_eq hr.b64) (de_var (i := 1) rfl (.inl rfl)) de_int rfl) (dss_one (ds_ret (de_call (ok__law_pick h) (hr.mono (by first | decide | omega)) rfl h.g__law_pick h.f__law_pick.kp (bi__law_pick h) tk (da_cons (de_var (i := 0) rfl (.inr (.inl rfl))) (da_cons (NE.fz (ne_lst (da_cons de_non (da_cons de_bl (da_cons de_bl (da_cons de_int (da_cons de_int da_nil))))))) da_nil)))))
 dss_nil)
 (dss_cons (ds_if (dt_cmp (o_in hr.b65) (de_var (i := 1) rfl (.inl rfl)) (NE.fz (ne_lst (da_cons de_int (da_cons de_int da_nil)))) rfl) (dss_one (ds_ret (NE.fz (ne_lc (own := [("k", 2)]) (c := (.one 2)) rfl nd (di_range1 rfl h.n_range (da_cons (de_call (ok__law_draw h) (hr.mono (by first | decide | omega)) rfl h.g__law_draw h.f__law_draw.kp (bi__law_draw h) tk (da_cons (de_var (i := 0) rfl (.inr (.inl rfl))) (da_cons de_int da_nil))) da_nil)) (blkOk_by (by kernel_rfl)) (by decide) (fun s H A cl fp => pg_name nd rfl (.inl rfl)) (fun s H A cl fp => dts_nil) (fun s H A cl fp => (de_call (ok__law_draw h) (hr.mono (by first | decide | omega)) rfl h.g__law_draw h.f__law_draw.kp (bi__law_draw h) takes0 (da_cons (de_var (i := 0) rfl (.inr (.inl rfl))) (da_cons de_int da_nil))))))))
 dss_nil)
 (dss_cons (ds_if (dt_cmp (o_eq hr.b64) (de_var (i := 1) rfl (.inl rfl)) de_int rfl) (dss_one (ds_ret (de_callTy c_tuple rfl h.n_tuple (by decide +kernel) (da_cons (NE.fz (ne_lc (own := [("k", 2)]) (c := (.one 2)) rfl nd (di_range1 rfl h.n_range (da_cons (de_call (ok__law_draw h) (hr.mono (by first | decide | omega)) rfl h.g__law_draw h.f__law_draw.kp (bi__law_draw h) tk (da_cons (de_var (i := 0) rfl (.inr (.inl rfl))) (da_cons de_int da_nil))) da_nil)) (blkOk_by (by kernel_rfl)) (by decide) (fun s H A cl fp => pg_name nd rfl (.inl rfl)) (fun s H A cl fp => dts_nil) (fun s H A cl fp => (de_call (ok__law_draw h) (hr.mono (by first | decide | omega)) rfl h.g__law_draw h.f__law_draw.kp (bi__law_draw h) takes0 (da_cons (de_var (i := 0) rfl (.inr (.inl rfl))) (da_cons de_int da_nil)))))) da_nil))))
 dss_nil)
 (dss_one (ds_ret (de_callTy (c_dict rfl hr.b8) rfl h.n_dict (by decide +kernel) (da_cons (NE.fz (ne_lc (own := [("k", 2)]) (c := (.one 2)) rfl nd (di_range1 rfl h.n_range (da_cons (de_call (ok__law_draw h) (hr.mono (by first | decide | omega)) rfl h.g__law_draw h.f__law_draw.kp (bi__law_draw h) tk (da_cons (de_var (i := 0) rfl (.inr (.inl rfl))) (da_cons de_int da_nil))) da_nil)) (blkOk_by (by kernel_rfl)) (by decide) (fun s H A cl fp => pg_name nd rfl (.inl rfl)) (fun s H A cl fp => dts_nil) (fun s H A cl fp => (de_tup (da_cons (de_call (ok__law_draw h) (hr.mono (by first | decide | omega)) rfl h.g__law_draw h.f__law_draw.kp (bi__law_draw h) takes0 (da_cons (de_var (i := 0) rfl (.inr (.inl rfl))) (da_cons de_int da_nil))) (da_cons de_str da_nil)))))) da_nil))))))))))
theorem sc__law_e_fourth : FnScope ["x", "y", "found"] ["x", "y"] (defScope st__law_e_fourth) := ⟨rfl, rfl, rfl, by decide +kernel, rfl, by decide +kernel, by decide +kernel⟩
theorem bi__law_e_fourth : Binds K h.d__law_e_fourth ["x", "y"] [] := h.f__law_e_fourth.binds fun _ _ _ _ _ _ us hl => match us, hl with | [_, _], _ => rfl
theorem ok__law_e_fourth (tb__law_e_fourth : LamX.TabB base mg h.c__law_e_fourth h.P__law_e_fourth) : FnOk P w K mg base (L2.CX P w) 7 h.a__law_e_fourth h.d__law_e_fourth ["x", "y"] (spD C K F__law_e_fourth) := fn_defC (N := ["x", "y", "found"]) h.fL__law_e_fourth sc__law_e_fourth fun A outer s H E hr => by
  have nd := sc__law_e_fourth.nd
  have tk := tk_cx (P := P) (w := w) (K := K) (mg := mg) (base := base) (N := ["x", "y", "found"]) (q := "_law_e_fourth") (sc := defScope st__law_e_fourth) (f := h.a__law_e_fourth) (cd := .ref h.c__law_e_fourth) (A := A) (outer := outer) (s := s) (H := H) (E := E)
  have pso := own_cx (P := P) (w := w) (K := K) (mg := mg) (base := base) (N := ["x", "y", "found"]) (q := "_law_e_fourth") (sc := defScope st__law_e_fourth) (f := h.a__law_e_fourth) (cd := .ref h.c__law_e_fourth) (A := A) (outer := outer) (s := s) (H := H) (E := E)
  have fl := flatE (E := E)
  exact (dss_cons (ds_set nd rfl (.inl rfl) (NE.own (ne_lst da_nil)))
 (dss_cons (ds_expr (de_bm tyc_list F.plainAttrs_list F.slot_list_append rfl m_append (de_var (i := 2) rfl (.inl rfl)) (da_cons (de_tup (da_cons (de_exn (k := 0) (fs := ["text", "line"]) h.x_BadText (hr.mono (by first | decide | omega)) rfl (da_cons (de_var (i := 0) rfl (.inl rfl)) (da_cons (de_var (i := 1) rfl (.inl rfl)) da_nil)) (by decide)) (da_cons (de_exnK (k := 0) (ks := ["text", "line"]) h.x_BadText (hr.mono (by first | decide | omega)) rfl (dk_cons (de_var (i := 0) rfl (.inl rfl)) (dk_cons (de_var (i := 1) rfl (.inl rfl)) dk_nil))) (da_cons (de_lamV (L := LV_0) h.fa (makesL_by (q := "_law_e_fourth.<locals>.<lambda>") tb__law_e_fourth rfl rfl h.nT__law_e_fourth h.nU__law_e_fourth (by kernel_rfl) rfl (.inl ⟨rfl, rfl⟩)) rfl rfl rfl) (da_cons (NE.fz (ne_lst (da_cons (de_var (i := 0) rfl (.inl rfl)) (da_cons (de_var (i := 1) rfl (.inl rfl)) da_nil)))) da_nil))))) da_nil)))
 (dss_one (ds_ret (de_var (i := 2) rfl (.inl rfl))))))
theorem sc__law_e_third : FnScope ["x", "found"] ["x"] (defScope st__law_e_third) := ⟨rfl, rfl, rfl, by decide +kernel, rfl, by decide +kernel, by decide +kernel⟩
theorem bi__law_e_third : Binds K h.d__law_e_third ["x"] [] := h.f__law_e_third.binds fun _ _ _ _ _ _ us hl => match us, hl with | [_], _ => rfl
theorem ok__law_e_third (tb__law_e_third : LamX.TabB base mg h.c__law_e_third h.P__law_e_third) : FnOk P w K mg base (L2.CX P w) 7 h.a__law_e_third h.d__law_e_third ["x"] (spD C K F__law_e_third) := fn_defC (N := ["x", "found"]) h.fL__law_e_third sc__law_e_third fun A outer s H E hr => by
  have nd := sc__law_e_third.nd
  have tk := tk_cx (P := P) (w := w) (K := K) (mg := mg) (base := base) (N := ["x", "found"]) (q := "_law_e_third") (sc := defScope st__law_e_third) (f := h.a__law_e_third) (cd := .ref h.c__law_e_third) (A := A) (outer := outer) (s := s) (H := H) (E := E)
  have pso := own_cx (P := P) (w := w) (K := K) (mg := mg) (base := base) (N := ["x", "found"]) (q := "_law_e_third") (sc := defScope st__law_e_third) (f := h.a__law_e_third) (cd := .ref h.c__law_e_third) (A := A) (outer := outer) (s := s) (H := H) (E := E)
  have fl := flatE (E := E)
  exact (dss_cons (ds_set nd rfl (.inl rfl) (NE.own (ne_lst da_nil)))
 (dss_cons (ds_expr (de_bm tyc_list F.plainAttrs_list F.slot_list_append rfl m_append (de_var (i := 1) rfl (.inl rfl)) (da_cons (de_tup (da_cons (de_exn (k := 0) (fs := ["named"]) h.x_Shared (hr.mono (by first | decide | omega)) rfl (da_cons (de_var (i := 0) rfl (.inl rfl)) da_nil) (by decide)) (da_cons (de_exnK (k := 0) (ks := ["named"]) h.x_Shared (hr.mono (by first | decide | omega)) rfl (dk_cons (de_var (i := 0) rfl (.inl rfl)) dk_nil)) (da_cons (de_lamV (L := LV_1) h.fa (makesL_by (q := "_law_e_third.<locals>.<lambda>") tb__law_e_third rfl rfl h.nT__law_e_third h.nU__law_e_third (by kernel_rfl) rfl (.inl ⟨rfl, rfl⟩)) rfl rfl rfl) (da_cons (NE.fz (ne_lst (da_cons (de_var (i := 0) rfl (.inl rfl)) da_nil))) da_nil))))) da_nil)))
 (dss_cons (ds_expr (de_bm tyc_list F.plainAttrs_list F.slot_list_append rfl m_append (de_var (i := 1) rfl (.inl rfl)) (da_cons (de_tup (da_cons (de_exn (k := 0) (fs := ["name"]) h.x_BadName (hr.mono (by first | decide | omega)) rfl (da_cons (de_var (i := 0) rfl (.inl rfl)) da_nil) (by decide)) (da_cons (de_exnK (k := 0) (ks := ["name"]) h.x_BadName (hr.mono (by first | decide | omega)) rfl (dk_cons (de_var (i := 0) rfl (.inl rfl)) dk_nil)) (da_cons (de_lamV (L := LV_2) h.fa (makesL_by (q := "_law_e_third.<locals>.<lambda>") tb__law_e_third rfl rfl h.nT__law_e_third h.nU__law_e_third (by kernel_rfl) rfl (.inl ⟨rfl, rfl⟩)) rfl rfl rfl) (da_cons (NE.fz (ne_lst (da_cons (de_var (i := 0) rfl (.inl rfl)) da_nil))) da_nil))))) da_nil)))
 (dss_cons (ds_expr (de_bm tyc_list F.plainAttrs_list F.slot_list_append rfl m_append (de_var (i := 1) rfl (.inl rfl)) (da_cons (de_tup (da_cons (de_exn (k := 0) (fs := ["name"]) h.x_Taken (hr.mono (by first | decide | omega)) rfl (da_cons (de_var (i := 0) rfl (.inl rfl)) da_nil) (by decide)) (da_cons (de_exnK (k := 0) (ks := ["name"]) h.x_Taken (hr.mono (by first | decide | omega)) rfl (dk_cons (de_var (i := 0) rfl (.inl rfl)) dk_nil)) (da_cons (de_lamV (L := LV_3) h.fa (makesL_by (q := "_law_e_third.<locals>.<lambda>") tb__law_e_third rfl rfl h.nT__law_e_third h.nU__law_e_third (by kernel_rfl) rfl (.inl ⟨rfl, rfl⟩)) rfl rfl rfl) (da_cons (NE.fz (ne_lst (da_cons (de_var (i := 0) rfl (.inl rfl)) da_nil))) da_nil))))) da_nil)))
 (dss_cons (ds_expr (de_bm tyc_list F.plainAttrs_list F.slot_list_append rfl m_append (de_var (i := 1) rfl (.inl rfl)) (da_cons (de_tup (da_cons (de_exn (k := 0) (fs := ["lot"]) h.x_There (hr.mono (by first | decide | omega)) rfl (da_cons (de_var (i := 0) rfl (.inl rfl)) da_nil) (by decide)) (da_cons (de_exnK (k := 0) (ks := ["lot"]) h.x_There (hr.mono (by first | decide | omega)) rfl (dk_cons (de_var (i := 0) rfl (.inl rfl)) dk_nil)) (da_cons (de_lamV (L := LV_4) h.fa (makesL_by (q := "_law_e_third.<locals>.<lambda>") tb__law_e_third rfl rfl h.nT__law_e_third h.nU__law_e_third (by kernel_rfl) rfl (.inl ⟨rfl, rfl⟩)) rfl rfl rfl) (da_cons (NE.fz (ne_lst (da_cons (de_var (i := 0) rfl (.inl rfl)) da_nil))) da_nil))))) da_nil)))
 (dss_cons (ds_expr (de_bm tyc_list F.plainAttrs_list F.slot_list_append rfl m_append (de_var (i := 1) rfl (.inl rfl)) (da_cons (de_tup (da_cons (de_exn (k := 0) (fs := ["lot"]) h.x_Lone (hr.mono (by first | decide | omega)) rfl (da_cons (de_var (i := 0) rfl (.inl rfl)) da_nil) (by decide)) (da_cons (de_exnK (k := 0) (ks := ["lot"]) h.x_Lone (hr.mono (by first | decide | omega)) rfl (dk_cons (de_var (i := 0) rfl (.inl rfl)) dk_nil)) (da_cons (de_lamV (L := LV_5) h.fa (makesL_by (q := "_law_e_third.<locals>.<lambda>") tb__law_e_third rfl rfl h.nT__law_e_third h.nU__law_e_third (by kernel_rfl) rfl (.inl ⟨rfl, rfl⟩)) rfl rfl rfl) (da_cons (NE.fz (ne_lst (da_cons (de_var (i := 0) rfl (.inl rfl)) da_nil))) da_nil))))) da_nil)))
 (dss_cons (ds_expr (de_bm tyc_list F.plainAttrs_list F.slot_list_append rfl m_append (de_var (i := 1) rfl (.inl rfl)) (da_cons (de_tup (da_cons (de_exn (k := 0) (fs := ["step"]) h.x_BadStep (hr.mono (by first | decide | omega)) rfl (da_cons (de_var (i := 0) rfl (.inl rfl)) da_nil) (by decide)) (da_cons (de_exnK (k := 0) (ks := ["step"]) h.x_BadStep (hr.mono (by first | decide | omega)) rfl (dk_cons (de_var (i := 0) rfl (.inl rfl)) dk_nil)) (da_cons (de_lamV (L := LV_6) h.fa (makesL_by (q := "_law_e_third.<locals>.<lambda>") tb__law_e_third rfl rfl h.nT__law_e_third h.nU__law_e_third (by kernel_rfl) rfl (.inl ⟨rfl, rfl⟩)) rfl rfl rfl) (da_cons (NE.fz (ne_lst (da_cons (de_var (i := 0) rfl (.inl rfl)) da_nil))) da_nil))))) da_nil)))
 (dss_cons (ds_expr (de_bm tyc_list F.plainAttrs_list F.slot_list_append rfl m_append (de_var (i := 1) rfl (.inl rfl)) (da_cons (de_tup (da_cons (de_exn (k := 0) (fs := ["steps"]) h.x_BadSteps (hr.mono (by first | decide | omega)) rfl (da_cons (de_var (i := 0) rfl (.inl rfl)) da_nil) (by decide)) (da_cons (de_exnK (k := 0) (ks := ["steps"]) h.x_BadSteps (hr.mono (by first | decide | omega)) rfl (dk_cons (de_var (i := 0) rfl (.inl rfl)) dk_nil)) (da_cons (de_lamV (L := LV_7) h.fa (makesL_by (q := "_law_e_third.<locals>.<lambda>") tb__law_e_third rfl rfl h.nT__law_e_third h.nU__law_e_third (by kernel_rfl) rfl (.inl ⟨rfl, rfl⟩)) rfl rfl rfl) (da_cons (NE.fz (ne_lst (da_cons (de_var (i := 0) rfl (.inl rfl)) da_nil))) da_nil))))) da_nil)))
 (dss_cons (ds_expr (de_bm tyc_list F.plainAttrs_list F.slot_list_append rfl m_append (de_var (i := 1) rfl (.inl rfl)) (da_cons (de_tup (da_cons (de_exn (k := 0) (fs := ["fault"]) h.x_Refused (hr.mono (by first | decide | omega)) rfl (da_cons (de_var (i := 0) rfl (.inl rfl)) da_nil) (by decide)) (da_cons (de_exnK (k := 0) (ks := ["fault"]) h.x_Refused (hr.mono (by first | decide | omega)) rfl (dk_cons (de_var (i := 0) rfl (.inl rfl)) dk_nil)) (da_cons (de_lamV (L := LV_8) h.fa (makesL_by (q := "_law_e_third.<locals>.<lambda>") tb__law_e_third rfl rfl h.nT__law_e_third h.nU__law_e_third (by kernel_rfl) rfl (.inl ⟨rfl, rfl⟩)) rfl rfl rfl) (da_cons (NE.fz (ne_lst (da_cons (de_var (i := 0) rfl (.inl rfl)) da_nil))) da_nil))))) da_nil)))
 (dss_cons (ds_expr (de_bm tyc_list F.plainAttrs_list F.slot_list_append rfl m_append (de_var (i := 1) rfl (.inl rfl)) (da_cons (de_tup (da_cons (de_exn (k := 0) (fs := ["journal"]) h.x_BadJournal (hr.mono (by first | decide | omega)) rfl (da_cons (de_var (i := 0) rfl (.inl rfl)) da_nil) (by decide)) (da_cons (de_exnK (k := 0) (ks := ["journal"]) h.x_BadJournal (hr.mono (by first | decide | omega)) rfl (dk_cons (de_var (i := 0) rfl (.inl rfl)) dk_nil)) (da_cons (de_lamV (L := LV_9) h.fa (makesL_by (q := "_law_e_third.<locals>.<lambda>") tb__law_e_third rfl rfl h.nT__law_e_third h.nU__law_e_third (by kernel_rfl) rfl (.inl ⟨rfl, rfl⟩)) rfl rfl rfl) (da_cons (NE.fz (ne_lst (da_cons (de_var (i := 0) rfl (.inl rfl)) da_nil))) da_nil))))) da_nil)))
 (dss_one (ds_ret (de_var (i := 1) rfl (.inl rfl))))))))))))))
theorem sc__law_e_kinds : FnScope ["e"] ["e"] (defScope st__law_e_kinds) := ⟨rfl, rfl, rfl, by decide +kernel, rfl, by decide +kernel, by decide +kernel⟩
theorem bi__law_e_kinds : Binds K h.d__law_e_kinds ["e"] [] := h.f__law_e_kinds.binds fun _ _ _ _ _ _ us hl => match us, hl with | [_], _ => rfl
theorem ok__law_e_kinds : FnOk P w K mg base (L2.CX P w) 5 h.a__law_e_kinds h.d__law_e_kinds ["e"] (spD C K F__law_e_kinds) := fn_def (N := ["e"]) h.f__law_e_kinds sc__law_e_kinds fun cdv A outer s H E hr => by
  have nd := sc__law_e_kinds.nd
  have tk := tk_cx (P := P) (w := w) (K := K) (mg := mg) (base := base) (N := ["e"]) (q := "_law_e_kinds") (sc := defScope st__law_e_kinds) (f := h.a__law_e_kinds) (cd := cdv) (A := A) (outer := outer) (s := s) (H := H) (E := E)
  have pso := own_cx (P := P) (w := w) (K := K) (mg := mg) (base := base) (N := ["e"]) (q := "_law_e_kinds") (sc := defScope st__law_e_kinds) (f := h.a__law_e_kinds) (cd := cdv) (A := A) (outer := outer) (s := s) (H := H) (E := E)
  have fl := flatE (E := E)
  exact (dss_one (ds_ret (NE.fz (ne_lst (da_cons (de_isX rfl h.n_isinstance (de_var (i := 0) rfl (.inl rfl)) (pe_glob (v := .ref (C.ca 10)) rfl h.x_BadQuestion.m rfl) (.own _) (fun k b hk => isX_ok (R := fun k b => PySem.W.kitOne K (.ref (C.ca k)) (.ref (C.ca 10)) = some b ∧ ExI K (C.ca k)) (fun k hl => h.kx 10 k (by decide) hl) hk)) (da_cons (de_isX rfl h.n_isinstance (de_var (i := 0) rfl (.inl rfl)) (pe_glob (v := .ref (C.ca 0)) rfl h.x_BadNames.m rfl) (.own _) (fun k b hk => isX_ok (R := fun k b => PySem.W.kitOne K (.ref (C.ca k)) (.ref (C.ca 0)) = some b ∧ ExI K (C.ca k)) (fun k hl => h.kx 0 k (by decide) hl) hk)) (da_cons (de_isX rfl h.n_isinstance (de_var (i := 0) rfl (.inl rfl)) (pe_glob (v := .ref (C.ca 1)) rfl h.x_BadLots.m rfl) (.own _) (fun k b hk => isX_ok (R := fun k b => PySem.W.kitOne K (.ref (C.ca k)) (.ref (C.ca 1)) = some b ∧ ExI K (C.ca k)) (fun k hl => h.kx 1 k (by decide) hl) hk)) (da_cons (de_isX rfl h.n_isinstance (de_var (i := 0) rfl (.inl rfl)) (pe_glob (v := .ref (C.ca 2)) rfl h.x_BadImage.m rfl) (.own _) (fun k b hk => isX_ok (R := fun k b => PySem.W.kitOne K (.ref (C.ca k)) (.ref (C.ca 2)) = some b ∧ ExI K (C.ca k)) (fun k hl => h.kx 2 k (by decide) hl) hk)) (da_cons (de_isX rfl h.n_isinstance (de_var (i := 0) rfl (.inl rfl)) (pe_glob (v := .ref (C.ca 3)) rfl h.x_BadLot.m rfl) (.own _) (fun k b hk => isX_ok (R := fun k b => PySem.W.kitOne K (.ref (C.ca k)) (.ref (C.ca 3)) = some b ∧ ExI K (C.ca k)) (fun k hl => h.kx 3 k (by decide) hl) hk)) (da_cons (de_isX rfl h.n_isinstance (de_var (i := 0) rfl (.inl rfl)) (pe_glob (v := .ref (C.ca 4)) rfl h.x_NoLot.m rfl) (.own _) (fun k b hk => isX_ok (R := fun k b => PySem.W.kitOne K (.ref (C.ca k)) (.ref (C.ca 4)) = some b ∧ ExI K (C.ca k)) (fun k hl => h.kx 4 k (by decide) hl) hk)) (da_cons (de_isX rfl h.n_isinstance (de_var (i := 0) rfl (.inl rfl)) (pe_glob (v := .ref (C.ca 5)) rfl h.x_NoName.m rfl) (.own _) (fun k b hk => isX_ok (R := fun k b => PySem.W.kitOne K (.ref (C.ca k)) (.ref (C.ca 5)) = some b ∧ ExI K (C.ca k)) (fun k hl => h.kx 5 k (by decide) hl) hk)) (da_cons (de_isX rfl h.n_isinstance (de_var (i := 0) rfl (.inl rfl)) (pe_glob (v := .ref (C.ca 6)) rfl h.x_BadWeights.m rfl) (.own _) (fun k b hk => isX_ok (R := fun k b => PySem.W.kitOne K (.ref (C.ca k)) (.ref (C.ca 6)) = some b ∧ ExI K (C.ca k)) (fun k hl => h.kx 6 k (by decide) hl) hk)) (da_cons (de_isX rfl h.n_isinstance (de_var (i := 0) rfl (.inl rfl)) (pe_glob (v := .ref (C.ca 7)) rfl h.x_BadTable.m rfl) (.own _) (fun k b hk => isX_ok (R := fun k b => PySem.W.kitOne K (.ref (C.ca k)) (.ref (C.ca 7)) = some b ∧ ExI K (C.ca k)) (fun k hl => h.kx 7 k (by decide) hl) hk)) (da_cons (de_isX rfl h.n_isinstance (de_var (i := 0) rfl (.inl rfl)) (pe_glob (v := .ref (C.ca 8)) rfl h.x_BadNumber.m rfl) (.own _) (fun k b hk => isX_ok (R := fun k b => PySem.W.kitOne K (.ref (C.ca k)) (.ref (C.ca 8)) = some b ∧ ExI K (C.ca k)) (fun k hl => h.kx 8 k (by decide) hl) hk)) (da_cons (de_isX rfl h.n_isinstance (de_var (i := 0) rfl (.inl rfl)) (pe_glob (v := .ref (C.ca 9)) rfl h.x_TooMany.m rfl) (.own _) (fun k b hk => isX_ok (R := fun k b => PySem.W.kitOne K (.ref (C.ca k)) (.ref (C.ca 9)) = some b ∧ ExI K (C.ca k)) (fun k hl => h.kx 9 k (by decide) hl) hk)) (da_cons (de_isX rfl h.n_isinstance (de_var (i := 0) rfl (.inl rfl)) (pe_glob (v := .ref (C.ca 11)) rfl h.x_BadTies.m rfl) (.own _) (fun k b hk => isX_ok (R := fun k b => PySem.W.kitOne K (.ref (C.ca k)) (.ref (C.ca 11)) = some b ∧ ExI K (C.ca k)) (fun k hl => h.kx 11 k (by decide) hl) hk)) (da_cons (de_isX rfl h.n_isinstance (de_var (i := 0) rfl (.inl rfl)) (pe_glob (v := .ref (C.ca 12)) rfl h.x_BadTwin.m rfl) (.own _) (fun k b hk => isX_ok (R := fun k b => PySem.W.kitOne K (.ref (C.ca k)) (.ref (C.ca 12)) = some b ∧ ExI K (C.ca k)) (fun k hl => h.kx 12 k (by decide) hl) hk)) (da_cons (de_isX rfl h.n_isinstance (de_var (i := 0) rfl (.inl rfl)) (pe_glob (v := .ref (C.ca 13)) rfl h.x_Overlap.m rfl) (.own _) (fun k b hk => isX_ok (R := fun k b => PySem.W.kitOne K (.ref (C.ca k)) (.ref (C.ca 13)) = some b ∧ ExI K (C.ca k)) (fun k hl => h.kx 13 k (by decide) hl) hk)) (da_cons (de_isX rfl h.n_isinstance (de_var (i := 0) rfl (.inl rfl)) (pe_glob (v := .ref (C.ca 14)) rfl h.x_BadPoints.m rfl) (.own _) (fun k b hk => isX_ok (R := fun k b => PySem.W.kitOne K (.ref (C.ca k)) (.ref (C.ca 14)) = some b ∧ ExI K (C.ca k)) (fun k hl => h.kx 14 k (by decide) hl) hk)) (da_cons (de_isX rfl h.n_isinstance (de_var (i := 0) rfl (.inl rfl)) (pe_glob (v := .ref (C.ca 15)) rfl h.x_BadRow.m rfl) (.own _) (fun k b hk => isX_ok (R := fun k b => PySem.W.kitOne K (.ref (C.ca k)) (.ref (C.ca 15)) = some b ∧ ExI K (C.ca k)) (fun k hl => h.kx 15 k (by decide) hl) hk)) (da_cons (de_isX rfl h.n_isinstance (de_var (i := 0) rfl (.inl rfl)) (pe_glob (v := .ref (C.ca 16)) rfl h.x_BadHeights.m rfl) (.own _) (fun k b hk => isX_ok (R := fun k b => PySem.W.kitOne K (.ref (C.ca k)) (.ref (C.ca 16)) = some b ∧ ExI K (C.ca k)) (fun k hl => h.kx 16 k (by decide) hl) hk)) (da_cons (de_isX rfl h.n_isinstance (de_var (i := 0) rfl (.inl rfl)) (pe_glob (v := .ref (C.ca 17)) rfl h.x_BadRing.m rfl) (.own _) (fun k b hk => isX_ok (R := fun k b => PySem.W.kitOne K (.ref (C.ca k)) (.ref (C.ca 17)) = some b ∧ ExI K (C.ca k)) (fun k hl => h.kx 17 k (by decide) hl) hk)) (da_cons (de_isX rfl h.n_isinstance (de_var (i := 0) rfl (.inl rfl)) (pe_glob (v := .ref (C.ca 18)) rfl h.x_NotWeighed.m rfl) (.own _) (fun k b hk => isX_ok (R := fun k b => PySem.W.kitOne K (.ref (C.ca k)) (.ref (C.ca 18)) = some b ∧ ExI K (C.ca k)) (fun k hl => h.kx 18 k (by decide) hl) hk)) (da_cons (de_isX rfl h.n_isinstance (de_var (i := 0) rfl (.inl rfl)) (pe_glob (v := .ref (C.ca 19)) rfl h.x_OnlyName.m rfl) (.own _) (fun k b hk => isX_ok (R := fun k b => PySem.W.kitOne K (.ref (C.ca k)) (.ref (C.ca 19)) = some b ∧ ExI K (C.ca k)) (fun k hl => h.kx 19 k (by decide) hl) hk)) (da_cons (de_isX rfl h.n_isinstance (de_var (i := 0) rfl (.inl rfl)) (pe_glob (v := .ref (C.ca 20)) rfl h.x_AllHave.m rfl) (.own _) (fun k b hk => isX_ok (R := fun k b => PySem.W.kitOne K (.ref (C.ca k)) (.ref (C.ca 20)) = some b ∧ ExI K (C.ca k)) (fun k hl => h.kx 20 k (by decide) hl) hk)) (da_cons (de_isX rfl h.n_isinstance (de_var (i := 0) rfl (.inl rfl)) (pe_glob (v := .ref (C.ca 21)) rfl h.x_NoneHas.m rfl) (.own _) (fun k b hk => isX_ok (R := fun k b => PySem.W.kitOne K (.ref (C.ca k)) (.ref (C.ca 21)) = some b ∧ ExI K (C.ca k)) (fun k hl => h.kx 21 k (by decide) hl) hk)) (da_cons (de_isX rfl h.n_isinstance (de_var (i := 0) rfl (.inl rfl)) (pe_glob (v := .ref (C.ca 22)) rfl h.x_Shared.m rfl) (.own _) (fun k b hk => isX_ok (R := fun k b => PySem.W.kitOne K (.ref (C.ca k)) (.ref (C.ca 22)) = some b ∧ ExI K (C.ca k)) (fun k hl => h.kx 22 k (by decide) hl) hk)) (da_cons (de_isX rfl h.n_isinstance (de_var (i := 0) rfl (.inl rfl)) (pe_glob (v := .ref (C.ca 23)) rfl h.x_BadName.m rfl) (.own _) (fun k b hk => isX_ok (R := fun k b => PySem.W.kitOne K (.ref (C.ca k)) (.ref (C.ca 23)) = some b ∧ ExI K (C.ca k)) (fun k hl => h.kx 23 k (by decide) hl) hk)) (da_cons (de_isX rfl h.n_isinstance (de_var (i := 0) rfl (.inl rfl)) (pe_glob (v := .ref (C.ca 24)) rfl h.x_Taken.m rfl) (.own _) (fun k b hk => isX_ok (R := fun k b => PySem.W.kitOne K (.ref (C.ca k)) (.ref (C.ca 24)) = some b ∧ ExI K (C.ca k)) (fun k hl => h.kx 24 k (by decide) hl) hk)) (da_cons (de_isX rfl h.n_isinstance (de_var (i := 0) rfl (.inl rfl)) (pe_glob (v := .ref (C.ca 25)) rfl h.x_There.m rfl) (.own _) (fun k b hk => isX_ok (R := fun k b => PySem.W.kitOne K (.ref (C.ca k)) (.ref (C.ca 25)) = some b ∧ ExI K (C.ca k)) (fun k hl => h.kx 25 k (by decide) hl) hk)) (da_cons (de_isX rfl h.n_isinstance (de_var (i := 0) rfl (.inl rfl)) (pe_glob (v := .ref (C.ca 26)) rfl h.x_Lone.m rfl) (.own _) (fun k b hk => isX_ok (R := fun k b => PySem.W.kitOne K (.ref (C.ca k)) (.ref (C.ca 26)) = some b ∧ ExI K (C.ca k)) (fun k hl => h.kx 26 k (by decide) hl) hk)) (da_cons (de_isX rfl h.n_isinstance (de_var (i := 0) rfl (.inl rfl)) (pe_glob (v := .ref (C.ca 29)) rfl h.x_BadStep.m rfl) (.own _) (fun k b hk => isX_ok (R := fun k b => PySem.W.kitOne K (.ref (C.ca k)) (.ref (C.ca 29)) = some b ∧ ExI K (C.ca k)) (fun k hl => h.kx 29 k (by decide) hl) hk)) (da_cons (de_isX rfl h.n_isinstance (de_var (i := 0) rfl (.inl rfl)) (pe_glob (v := .ref (C.ca 30)) rfl h.x_BadSteps.m rfl) (.own _) (fun k b hk => isX_ok (R := fun k b => PySem.W.kitOne K (.ref (C.ca k)) (.ref (C.ca 30)) = some b ∧ ExI K (C.ca k)) (fun k hl => h.kx 30 k (by decide) hl) hk)) (da_cons (de_isX rfl h.n_isinstance (de_var (i := 0) rfl (.inl rfl)) (pe_glob (v := .ref (C.ca 31)) rfl h.x_Refused.m rfl) (.own _) (fun k b hk => isX_ok (R := fun k b => PySem.W.kitOne K (.ref (C.ca k)) (.ref (C.ca 31)) = some b ∧ ExI K (C.ca k)) (fun k hl => h.kx 31 k (by decide) hl) hk)) (da_cons (de_isX rfl h.n_isinstance (de_var (i := 0) rfl (.inl rfl)) (pe_glob (v := .ref (C.ca 33)) rfl h.x_BadJournal.m rfl) (.own _) (fun k b hk => isX_ok (R := fun k b => PySem.W.kitOne K (.ref (C.ca k)) (.ref (C.ca 33)) = some b ∧ ExI K (C.ca k)) (fun k hl => h.kx 33 k (by decide) hl) hk)) (da_cons (de_isX rfl h.n_isinstance (de_var (i := 0) rfl (.inl rfl)) (pe_glob (v := .ref (C.ca 32)) rfl h.x_BadText.m rfl) (.own _) (fun k b hk => isX_ok (R := fun k b => PySem.W.kitOne K (.ref (C.ca k)) (.ref (C.ca 32)) = some b ∧ ExI K (C.ca k)) (fun k hl => h.kx 32 k (by decide) hl) hk)) (da_cons (de_isX rfl h.n_isinstance (de_var (i := 0) rfl (.inl rfl)) (pe_glob (v := .ref (C.ca 27)) rfl h.x_NothingDone.m rfl) (.own _) (fun k b hk => isX_ok (R := fun k b => PySem.W.kitOne K (.ref (C.ca k)) (.ref (C.ca 27)) = some b ∧ ExI K (C.ca k)) (fun k hl => h.kx 27 k (by decide) hl) hk)) (da_cons (de_isX rfl h.n_isinstance (de_var (i := 0) rfl (.inl rfl)) (pe_glob (v := .ref (C.ca 28)) rfl h.x_NothingUndone.m rfl) (.own _) (fun k b hk => isX_ok (R := fun k b => PySem.W.kitOne K (.ref (C.ca k)) (.ref (C.ca 28)) = some b ∧ ExI K (C.ca k)) (fun k hl => h.kx 28 k (by decide) hl) hk)) da_nil))))))))))))))))))))))))))))))))))))))
theorem sc__law_same : FnScope ["found", "due", "is_alike", "one", "other"] ["found", "due"] (defScope st__law_same) := ⟨rfl, rfl, rfl, by decide +kernel, rfl, by decide +kernel, by decide +kernel⟩
theorem bi__law_same : Binds K h.d__law_same ["found", "due"] [] := h.f__law_same.binds fun _ _ _ _ _ _ us hl => match us, hl with | [_, _], _ => rfl
theorem okG__law_same : ∀ n : Nat, FnOk P w K mg base (L2.CX P w) (1 + n + 1) h.a__law_same h.d__law_same ["found", "due"] (spD C K (G__law_same n))
 | 0 => fn_stuck
 | n + 1 => fn_def (N := ["found", "due", "is_alike", "one", "other"]) h.f__law_same sc__law_same fun cdv A outer s H E hr => by
  have ih := okG__law_same n
  have nd := sc__law_same.nd
  have tk := tk_cx (P := P) (w := w) (K := K) (mg := mg) (base := base) (N := ["found", "due", "is_alike", "one", "other"]) (q := "_law_same") (sc := defScope st__law_same) (f := h.a__law_same) (cd := cdv) (A := A) (outer := outer) (s := s) (H := H) (E := E)
  have pso := own_cx (P := P) (w := w) (K := K) (mg := mg) (base := base) (N := ["found", "due", "is_alike", "one", "other"]) (q := "_law_same") (sc := defScope st__law_same) (f := h.a__law_same) (cd := cdv) (A := A) (outer := outer) (s := s) (H := H) (E := E)
  have fl := flatE (E := E)
  exact (dss_cons (ds_if (dt_tr (de_is1 rfl h.n_isinstance (de_var (i := 1) rfl (.inl rfl)) rfl h.n_dict (by decide +kernel) (by decide) (by decide) (kit7 rfl rfl rfl rfl rfl rfl rfl))) (dss_one (ds_ret (de_andT (de_is1 rfl h.n_isinstance (de_var (i := 0) rfl (.inl rfl)) rfl h.n_dict (by decide +kernel) (by decide) (by decide) (kit7 rfl rfl rfl rfl rfl rfl rfl)) (de_one (de_call ih (hr.mono (by omega)) rfl h.g__law_same h.f__law_same.kp (bi__law_same h) tk (da_cons (NE.fz (ne_callTy (c_list rfl) rfl h.n_list (by decide +kernel) (da_cons de_stuck da_nil))) (da_cons (NE.fz (ne_callTy (c_list rfl) rfl h.n_list (by decide +kernel) (da_cons de_stuck da_nil))) da_nil)))))))
 dss_nil)
 (dss_cons (ds_if (dt_tr (de_isiT (tb := tbOf ["list", "tuple"]) (cb := fun _ => none) (cvs := [.ty "list", .ty "tuple"]) (us := [.type "list", .type "tuple"]) rfl h.n_isinstance (de_var (i := 1) rfl (.inl rfl)) (.cons (.ty _) (.cons (.ty _) .nil)) (by decide) (kit7 rfl rfl rfl rfl rfl rfl rfl) (fun c b z => nomatch z) (hcs := (pa_ty (pa_ty pa_ty0 rfl h.n_tuple (by decide +kernel) (by decide) (by decide)) rfl h.n_list (by decide +kernel) (by decide) (by decide))))) (dss_cons (ds_if (DW.dt (dw_or (dt_cmp (o_ne hr.b64) (de_is1 rfl h.n_isinstance (de_var (i := 0) rfl (.inl rfl)) rfl h.n_list (by decide +kernel) (by decide) (by decide) (kit7 rfl rfl rfl rfl rfl rfl rfl)) (de_is1 rfl h.n_isinstance (de_var (i := 1) rfl (.inl rfl)) rfl h.n_list (by decide +kernel) (by decide) (by decide) (kit7 rfl rfl rfl rfl rfl rfl rfl)) rfl) (dw_or1 (dt_cmp (o_ne hr.b64) (de_is1 rfl h.n_isinstance (de_var (i := 0) rfl (.inl rfl)) rfl h.n_tuple (by decide +kernel) (by decide) (by decide) (kit7 rfl rfl rfl rfl rfl rfl rfl)) (de_is1 rfl h.n_isinstance (de_var (i := 1) rfl (.inl rfl)) rfl h.n_tuple (by decide +kernel) (by decide) (by decide) (kit7 rfl rfl rfl rfl rfl rfl rfl)) rfl)))) (dss_one (ds_ret de_bl))
 dss_nil)
 (dss_one (ds_ret (de_andT (de_cmp (o_eq hr.b64) (de_callB c_len rfl h.n_len (by decide +kernel) (da_cons (de_var (i := 0) rfl (.inl rfl)) da_nil)) (de_callB c_len rfl h.n_len (by decide +kernel) (da_cons (de_var (i := 1) rfl (.inl rfl)) da_nil)) rfl) (de_one (de_callB (c_all rfl) rfl h.n_all (by decide +kernel) (da_cons (NE.fz (ne_lc (own := [("one", 3), ("other", 4)]) (c := (.many [3, 4])) rfl nd (di_zip rfl h.n_zip (da_cons (de_var (i := 0) rfl (.inl rfl)) (da_cons (de_var (i := 1) rfl (.inl rfl)) da_nil))) (blkOk_by (by kernel_rfl)) (by decide) (fun s H A cl fp => ⟨pg_tup rfl (pgs_cons (pg_name nd rfl (.inl rfl)) (pgs_cons (pg_name nd rfl (.inl rfl)) pgs_nil)), pg_lst rfl (pgs_cons (pg_name nd rfl (.inl rfl)) (pgs_cons (pg_name nd rfl (.inl rfl)) pgs_nil))⟩) (fun s H A cl fp => dts_nil) (fun s H A cl fp => (de_call ih (hr.mono (by omega)) rfl h.g__law_same h.f__law_same.kp (bi__law_same h) takes0 (da_cons (de_var (i := 3) rfl (.inl rfl)) (da_cons (de_var (i := 4) rfl (.inl rfl)) da_nil)))))) da_nil)))))))
 dss_nil)
 (dss_cons (ds_set nd rfl (.inl rfl) (de_andT (de_cmp (o_eq hr.b64) (de_is1 rfl h.n_isinstance (de_var (i := 0) rfl (.inl rfl)) rfl h.n_bool (by decide +kernel) (by decide) (by decide) (kit7 rfl rfl rfl rfl rfl rfl rfl)) (de_is1 rfl h.n_isinstance (de_var (i := 1) rfl (.inl rfl)) rfl h.n_bool (by decide +kernel) (by decide) (by decide) (kit7 rfl rfl rfl rfl rfl rfl rfl)) rfl) (de_one (de_cmp (o_eq hr.b64) (de_is1 rfl h.n_isinstance (de_var (i := 0) rfl (.inl rfl)) rfl h.n_int (by decide +kernel) (by decide) (by decide) (kit7 rfl rfl rfl rfl rfl rfl rfl)) (de_is1 rfl h.n_isinstance (de_var (i := 1) rfl (.inl rfl)) rfl h.n_int (by decide +kernel) (by decide) (by decide) (kit7 rfl rfl rfl rfl rfl rfl rfl)) rfl))))
 (dss_cons (ds_if (DW.dt (dw_or (dt_tr (de_isiT (tb := tbOf ["dict", "list", "tuple"]) (cb := fun _ => none) (cvs := [.ty "dict", .ty "list", .ty "tuple"]) (us := [.type "dict", .type "list", .type "tuple"]) rfl h.n_isinstance (de_var (i := 0) rfl (.inl rfl)) (.cons (.ty _) (.cons (.ty _) (.cons (.ty _) .nil))) (by decide) (kit7 rfl rfl rfl rfl rfl rfl rfl) (fun c b z => nomatch z) (hcs := (pa_ty (pa_ty (pa_ty pa_ty0 rfl h.n_tuple (by decide +kernel) (by decide) (by decide)) rfl h.n_list (by decide +kernel) (by decide) (by decide)) rfl h.n_dict (by decide +kernel) (by decide) (by decide))))) (dw_or (dt_not (dt_tr (de_var (i := 2) rfl (.inl rfl)))) (dw_or1 (dt_cmp (o_ne hr.b64) (de_is1 rfl h.n_isinstance (de_var (i := 0) rfl (.inl rfl)) rfl h.n_str (by decide +kernel) (by decide) (by decide) (kit7 rfl rfl rfl rfl rfl rfl rfl)) (de_is1 rfl h.n_isinstance (de_var (i := 1) rfl (.inl rfl)) rfl h.n_str (by decide +kernel) (by decide) (by decide) (kit7 rfl rfl rfl rfl rfl rfl rfl)) rfl))))) (dss_one (ds_ret de_bl))
 dss_nil)
 (dss_one (ds_ret (de_if (dt_cmp o_isN (de_var (i := 1) rfl (.inl rfl)) de_non rfl) (de_cmp o_isN (de_var (i := 0) rfl (.inl rfl)) de_non rfl) (de_cmp (o_eq hr.b64) (de_var (i := 0) rfl (.inl rfl)) (de_var (i := 1) rfl (.inl rfl)) rfl))))))))
theorem ok__law_same : FnOk P w K mg base (L2.CX P w) 14 h.a__law_same h.d__law_same ["found", "due"] (spD C K F__law_same) := okG__law_same h 12
theorem sc__law_very : FnScope ["kept", "thing", "found"] ["kept", "thing"] (defScope st__law_very) := ⟨rfl, rfl, rfl, by decide +kernel, rfl, by decide +kernel, by decide +kernel⟩
theorem bi__law_very : Binds K h.d__law_very ["kept", "thing"] [] := h.f__law_very.binds fun _ _ _ _ _ _ us hl => match us, hl with | [_, _], _ => rfl
theorem ok__law_very : FnOk P w K mg base (L2.CX P w) 15 h.a__law_very h.d__law_very ["kept", "thing"] (spD C K F__law_very) := fn_def (N := ["kept", "thing", "found"]) h.f__law_very sc__law_very fun cdv A outer s H E hr => by
  have nd := sc__law_very.nd
  have tk := tk_cx (P := P) (w := w) (K := K) (mg := mg) (base := base) (N := ["kept", "thing", "found"]) (q := "_law_very") (sc := defScope st__law_very) (f := h.a__law_very) (cd := cdv) (A := A) (outer := outer) (s := s) (H := H) (E := E)
  have pso := own_cx (P := P) (w := w) (K := K) (mg := mg) (base := base) (N := ["kept", "thing", "found"]) (q := "_law_very") (sc := defScope st__law_very) (f := h.a__law_very) (cd := cdv) (A := A) (outer := outer) (s := s) (H := H) (E := E)
  have fl := flatE (E := E)
  exact (dss_cons (ds_if (dt_tr (de_is1 rfl h.n_isinstance (de_var (i := 1) rfl (.inl rfl)) rfl h.n_list (by decide +kernel) (by decide) (by decide) (kit7 rfl rfl rfl rfl rfl rfl rfl))) (dss_veryL (pss_cons (ps_expr (pe_bm PySem.F.plainAttrs_list PySem.F.slot_list_append rfl mt_append (pv 1) (pa_cons pe_str pa_nil))) (pss_cons (ps_set (i := 2) nd rfl (.inl rfl) (pe_and (pe_callB call_isi rfl h.n_isinstance (by decide +kernel) (pa_cons (pv 0) (pa_cons (pe_bltn rfl h.n_list (by decide +kernel) rfl) pa_nil))) (pe_and (pe_cmpR op_eq (pe_callB call_len rfl h.n_len (by decide +kernel) (pa_cons (pv 0) pa_nil)) (pe_callB call_len rfl h.n_len (by decide +kernel) (pa_cons (pv 1) pa_nil)) rfl) (pe_one (pe_cmpR op_eq (pe_ix ix_seq (pv 0) (pe_un un_neg pe_int) (by intro _ _; with_unfolding_all rfl)) pe_str rfl))))) (pss_cons (ps_expr (pe_bm0 PySem.F.plainAttrs_list PySem.F.slot_list_pop rfl mt_pop (pv 1))) (pss_one (ps_ret (pv 2)))))))
 dss_nil)
 (dss_cons (ds_if (dt_tr (de_is1 rfl h.n_isinstance (de_var (i := 1) rfl (.inl rfl)) rfl h.n_dict (by decide +kernel) (by decide) (by decide) (kit7 rfl rfl rfl rfl rfl rfl rfl))) (dss_veryD (ps_asg pe_int (pg_sub (pv 1) pe_str (set_dict hr.b1) (by intro _; rfl))) (ps_set (i := 2) nd rfl (.inl rfl) (pe_and (pe_callB call_isi rfl h.n_isinstance (by decide +kernel) (pa_cons (pv 0) (pa_cons (pe_bltn rfl h.n_dict (by decide +kernel) rfl) pa_nil))) (pe_and (pe_cmpR op_eq (pe_callB call_lenD rfl h.n_len (by decide +kernel) (pa_cons (pv 0) pa_nil)) (pe_callB call_lenD rfl h.n_len (by decide +kernel) (pa_cons (pv 1) pa_nil)) rfl) (pe_one (pe_cmpR op_eq (pe_dget1 hr.b1 (pv 0) pe_str ⟨rfl, rfl, rfl, rfl⟩) pe_int rfl))))) (ps_expr (pe_dpop1 (pv 1) pe_str ⟨rfl, rfl, rfl, rfl⟩)) (ps_ret (pv 2)))
 dss_nil)
 (dss_cons (ds_if (DW.dt (dw_or (dt_tr (de_isiT (tb := tbOf ["tuple", "str", "bool", "int"]) (cb := fun _ => none) (cvs := [.ty "tuple", .ty "str", .ty "bool", .ty "int"]) (us := [.type "tuple", .type "str", .type "bool", .type "int"]) rfl h.n_isinstance (de_var (i := 1) rfl (.inl rfl)) (.cons (.ty _) (.cons (.ty _) (.cons (.ty _) (.cons (.ty _) .nil)))) (by decide) (kit7 rfl rfl rfl rfl rfl rfl rfl) (fun c b z => nomatch z) (hcs := (pa_ty (pa_ty (pa_ty (pa_ty pa_ty0 rfl h.n_int (by decide +kernel) (by decide) (by decide)) rfl h.n_bool (by decide +kernel) (by decide) (by decide)) rfl h.n_str (by decide +kernel) (by decide) (by decide)) rfl h.n_tuple (by decide +kernel) (by decide) (by decide))))) (dw_or1 (dt_cmp o_isN (de_var (i := 1) rfl (.inl rfl)) de_non rfl)))) (dss_one (ds_ret (de_call (ok__law_same h) (hr.mono (by first | decide | omega)) rfl h.g__law_same h.f__law_same.kp (bi__law_same h) tk (da_cons (de_var (i := 0) rfl (.inl rfl)) (da_cons (de_var (i := 1) rfl (.inl rfl)) da_nil)))))
 dss_nil)
 (dss_one (ds_ret (de_cmp (o_eq hr.b64) (de_var (i := 0) rfl (.inl rfl)) (de_var (i := 1) rfl (.inl rfl)) rfl))))))
theorem sc__law_e_right : FnScope ["row", "at", "placed", "named", "look", "due", "e", "kept", "k", "is_one", "one", "other"] ["row", "at"] (defScope st__law_e_right) := ⟨rfl, rfl, rfl, by decide +kernel, rfl, by decide +kernel, by decide +kernel⟩
theorem bi__law_e_right : Binds K h.d__law_e_right ["row", "at"] [] := h.f__law_e_right.binds fun _ _ _ _ _ _ us hl => match us, hl with | [_, _], _ => rfl
theorem ok__law_e_right : FnOk P w K mg base (L2.CX P w) 16 h.a__law_e_right h.d__law_e_right ["row", "at"] (spD C K F__law_e_right) := fn_def (N := ["row", "at", "placed", "named", "look", "due", "e", "kept", "k", "is_one", "one", "other"]) h.f__law_e_right sc__law_e_right fun cdv A outer s H E hr => by
  have nd := sc__law_e_right.nd
  have tk := tk_cx (P := P) (w := w) (K := K) (mg := mg) (base := base) (N := ["row", "at", "placed", "named", "look", "due", "e", "kept", "k", "is_one", "one", "other"]) (q := "_law_e_right") (sc := defScope st__law_e_right) (f := h.a__law_e_right) (cd := cdv) (A := A) (outer := outer) (s := s) (H := H) (E := E)
  have pso := own_cx (P := P) (w := w) (K := K) (mg := mg) (base := base) (N := ["row", "at", "placed", "named", "look", "due", "e", "kept", "k", "is_one", "one", "other"]) (q := "_law_e_right") (sc := defScope st__law_e_right) (f := h.a__law_e_right) (cd := cdv) (A := A) (outer := outer) (s := s) (H := H) (E := E)
  have fl := flatE (E := E)
  exact (dss_cons (ds_asg (de_var (i := 0) rfl (.inl rfl)) (dg_unp rfl (dgs_cons (dg_name nd rfl (.inl rfl)) (dgs_cons (dg_name nd rfl (.inl rfl)) (dgs_cons (dg_name nd rfl (.inl rfl)) (dgs_cons (dg_name nd rfl (.inl rfl)) dgs_nil))))))
 (dss_cons (ds_for pso rfl (di_seq (NE.fz (ne_lst (da_cons (de_var (i := 2) rfl (.inl rfl)) (da_cons (de_var (i := 3) rfl (.inl rfl)) da_nil))))) (dg_name nd rfl (.inl rfl)) (dss_cons (ds_if (DW.dt (dw_or (dt_not (dt_tr (de_isX rfl h.n_isinstance (de_var (i := 6) rfl (.inl rfl)) (pe_glob (v := .ref h.b_LotError) rfl h.m_LotError rfl) (.own _) (fun k b hk => isAll_ok (R := fun k b => PySem.W.kitOne K (.ref (C.ca k)) (.ref h.b_LotError) = some b ∧ ExI K (C.ca k)) h.k_LotError hk)))) (dw_or1 (dt_not (dt_tr (de_isX rfl h.n_isinstance (de_var (i := 6) rfl (.inl rfl)) (pe_bltn (v := .ty "ValueError") (u := .type "ValueError") rfl h.n_ValueError (by decide +kernel) rfl) (.ty _) (fun k b hk => isAll_ok (R := fun k b => PySem.W.kitOne K (.ref (C.ca k)) (.type "ValueError") = some b ∧ ExI K (C.ca k)) h.ve hk))))))) (dss_one (ds_ret de_bl))
 dss_nil)
 (dss_cons (ds_if (dt_cmp (o_ne hr.b64) (NE.fz (ne_lc (own := [("k", 8), ("is_one", 9)]) (c := (.many [8, 9])) rfl nd (di_enum rfl h.n_enumerate (da_cons (de_call (ok__law_e_kinds h) (hr.mono (by first | decide | omega)) rfl h.g__law_e_kinds h.f__law_e_kinds.kp (bi__law_e_kinds h) tk (da_cons (de_var (i := 6) rfl (.inl rfl)) da_nil)) da_nil)) (blkOk_by (by kernel_rfl)) (by decide) (fun s H A cl fp => ⟨pg_tup rfl (pgs_cons (pg_name nd rfl (.inl rfl)) (pgs_cons (pg_name nd rfl (.inl rfl)) pgs_nil)), pg_lst rfl (pgs_cons (pg_name nd rfl (.inl rfl)) (pgs_cons (pg_name nd rfl (.inl rfl)) pgs_nil))⟩) (fun s H A cl fp => dts_one (dt_tr (de_var (i := 9) rfl (.inl rfl)))) (fun s H A cl fp => (de_var (i := 8) rfl (.inl rfl))))) (NE.fz (ne_lst (da_cons (de_var (i := 1) rfl (.inl rfl)) da_nil))) rfl) (dss_one (ds_ret de_bl))
 dss_nil)
 (dss_cons (ds_set nd rfl (.inl rfl) (de_callV (fv h) (hr.mono (by first | decide | omega)) rfl (.inl rfl) tk (da_cons (de_var (i := 6) rfl (.inl rfl)) da_nil)))
 (dss_one (ds_if (DW.dt (dw_or (dt_cmp (o_ne hr.b64) (de_callB c_len rfl h.n_len (by decide +kernel) (da_cons (de_var (i := 7) rfl (.inl rfl)) da_nil)) (de_callB c_len rfl h.n_len (by decide +kernel) (da_cons (de_var (i := 5) rfl (.inl rfl)) da_nil)) rfl) (dw_or1 (dt_not (dt_tr (de_callB (c_all rfl) rfl h.n_all (by decide +kernel) (da_cons (NE.fz (ne_lc (own := [("one", 10), ("other", 11)]) (c := (.many [10, 11])) rfl nd (di_zip rfl h.n_zip (da_cons (de_var (i := 7) rfl (.inl rfl)) (da_cons (de_var (i := 5) rfl (.inl rfl)) da_nil))) (blkOk_by (by kernel_rfl)) (by decide) (fun s H A cl fp => ⟨pg_tup rfl (pgs_cons (pg_name nd rfl (.inl rfl)) (pgs_cons (pg_name nd rfl (.inl rfl)) pgs_nil)), pg_lst rfl (pgs_cons (pg_name nd rfl (.inl rfl)) (pgs_cons (pg_name nd rfl (.inl rfl)) pgs_nil))⟩) (fun s H A cl fp => dts_nil) (fun s H A cl fp => (de_call (ok__law_very h) (hr.mono (by first | decide | omega)) rfl h.g__law_very h.f__law_very.kp (bi__law_very h) takes0 (da_cons (de_var (i := 10) rfl (.inl rfl)) (da_cons (de_var (i := 11) rfl (.inl rfl)) da_nil)))))) da_nil))))))) (dss_one (ds_ret de_bl))
 dss_nil))))))
 (dss_one (ds_ret de_bl))))
theorem sc__law_e_first : FnScope ["x", "found"] ["x"] (defScope st__law_e_first) := ⟨rfl, rfl, rfl, by decide +kernel, rfl, by decide +kernel, by decide +kernel⟩
theorem bi__law_e_first : Binds K h.d__law_e_first ["x"] [] := h.f__law_e_first.binds fun _ _ _ _ _ _ us hl => match us, hl with | [_], _ => rfl
theorem ok__law_e_first (tb__law_e_first : LamX.TabB base mg h.c__law_e_first h.P__law_e_first) : FnOk P w K mg base (L2.CX P w) 7 h.a__law_e_first h.d__law_e_first ["x"] (spD C K F__law_e_first) := fn_defC (N := ["x", "found"]) h.fL__law_e_first sc__law_e_first fun A outer s H E hr => by
  have nd := sc__law_e_first.nd
  have tk := tk_cx (P := P) (w := w) (K := K) (mg := mg) (base := base) (N := ["x", "found"]) (q := "_law_e_first") (sc := defScope st__law_e_first) (f := h.a__law_e_first) (cd := .ref h.c__law_e_first) (A := A) (outer := outer) (s := s) (H := H) (E := E)
  have pso := own_cx (P := P) (w := w) (K := K) (mg := mg) (base := base) (N := ["x", "found"]) (q := "_law_e_first") (sc := defScope st__law_e_first) (f := h.a__law_e_first) (cd := .ref h.c__law_e_first) (A := A) (outer := outer) (s := s) (H := H) (E := E)
  have fl := flatE (E := E)
  exact (dss_cons (ds_set nd rfl (.inl rfl) (NE.own (ne_lst da_nil)))
 (dss_cons (ds_expr (de_bm tyc_list F.plainAttrs_list F.slot_list_append rfl m_append (de_var (i := 1) rfl (.inl rfl)) (da_cons (de_tup (da_cons (de_exn (k := 0) (fs := ["question"]) h.x_BadQuestion (hr.mono (by first | decide | omega)) rfl (da_cons (de_var (i := 0) rfl (.inl rfl)) da_nil) (by decide)) (da_cons (de_exnK (k := 0) (ks := ["question"]) h.x_BadQuestion (hr.mono (by first | decide | omega)) rfl (dk_cons (de_var (i := 0) rfl (.inl rfl)) dk_nil)) (da_cons (de_lamV (L := LV_10) h.fa (makesL_by (q := "_law_e_first.<locals>.<lambda>") tb__law_e_first rfl rfl h.nT__law_e_first h.nU__law_e_first (by kernel_rfl) rfl (.inl ⟨rfl, rfl⟩)) rfl rfl rfl) (da_cons (NE.fz (ne_lst (da_cons (de_var (i := 0) rfl (.inl rfl)) da_nil))) da_nil))))) da_nil)))
 (dss_cons (ds_expr (de_bm tyc_list F.plainAttrs_list F.slot_list_append rfl m_append (de_var (i := 1) rfl (.inl rfl)) (da_cons (de_tup (da_cons (de_exn (k := 0) (fs := ["given"]) h.x_BadNames (hr.mono (by first | decide | omega)) rfl (da_cons (de_var (i := 0) rfl (.inl rfl)) da_nil) (by decide)) (da_cons (de_exnK (k := 0) (ks := ["given"]) h.x_BadNames (hr.mono (by first | decide | omega)) rfl (dk_cons (de_var (i := 0) rfl (.inl rfl)) dk_nil)) (da_cons (de_lamV (L := LV_11) h.fa (makesL_by (q := "_law_e_first.<locals>.<lambda>") tb__law_e_first rfl rfl h.nT__law_e_first h.nU__law_e_first (by kernel_rfl) rfl (.inl ⟨rfl, rfl⟩)) rfl rfl rfl) (da_cons (NE.fz (ne_lst (da_cons (de_var (i := 0) rfl (.inl rfl)) da_nil))) da_nil))))) da_nil)))
 (dss_cons (ds_expr (de_bm tyc_list F.plainAttrs_list F.slot_list_append rfl m_append (de_var (i := 1) rfl (.inl rfl)) (da_cons (de_tup (da_cons (de_exn (k := 0) (fs := ["given"]) h.x_BadLots (hr.mono (by first | decide | omega)) rfl (da_cons (de_var (i := 0) rfl (.inl rfl)) da_nil) (by decide)) (da_cons (de_exnK (k := 0) (ks := ["given"]) h.x_BadLots (hr.mono (by first | decide | omega)) rfl (dk_cons (de_var (i := 0) rfl (.inl rfl)) dk_nil)) (da_cons (de_lamV (L := LV_12) h.fa (makesL_by (q := "_law_e_first.<locals>.<lambda>") tb__law_e_first rfl rfl h.nT__law_e_first h.nU__law_e_first (by kernel_rfl) rfl (.inl ⟨rfl, rfl⟩)) rfl rfl rfl) (da_cons (NE.fz (ne_lst (da_cons (de_var (i := 0) rfl (.inl rfl)) da_nil))) da_nil))))) da_nil)))
 (dss_cons (ds_expr (de_bm tyc_list F.plainAttrs_list F.slot_list_append rfl m_append (de_var (i := 1) rfl (.inl rfl)) (da_cons (de_tup (da_cons (de_exn (k := 0) (fs := ["image"]) h.x_BadImage (hr.mono (by first | decide | omega)) rfl (da_cons (de_var (i := 0) rfl (.inl rfl)) da_nil) (by decide)) (da_cons (de_exnK (k := 0) (ks := ["image"]) h.x_BadImage (hr.mono (by first | decide | omega)) rfl (dk_cons (de_var (i := 0) rfl (.inl rfl)) dk_nil)) (da_cons (de_lamV (L := LV_13) h.fa (makesL_by (q := "_law_e_first.<locals>.<lambda>") tb__law_e_first rfl rfl h.nT__law_e_first h.nU__law_e_first (by kernel_rfl) rfl (.inl ⟨rfl, rfl⟩)) rfl rfl rfl) (da_cons (NE.fz (ne_lst (da_cons (de_var (i := 0) rfl (.inl rfl)) da_nil))) da_nil))))) da_nil)))
 (dss_cons (ds_expr (de_bm tyc_list F.plainAttrs_list F.slot_list_append rfl m_append (de_var (i := 1) rfl (.inl rfl)) (da_cons (de_tup (da_cons (de_exn (k := 0) (fs := ["lot"]) h.x_BadLot (hr.mono (by first | decide | omega)) rfl (da_cons (de_var (i := 0) rfl (.inl rfl)) da_nil) (by decide)) (da_cons (de_exnK (k := 0) (ks := ["lot"]) h.x_BadLot (hr.mono (by first | decide | omega)) rfl (dk_cons (de_var (i := 0) rfl (.inl rfl)) dk_nil)) (da_cons (de_lamV (L := LV_14) h.fa (makesL_by (q := "_law_e_first.<locals>.<lambda>") tb__law_e_first rfl rfl h.nT__law_e_first h.nU__law_e_first (by kernel_rfl) rfl (.inl ⟨rfl, rfl⟩)) rfl rfl rfl) (da_cons (NE.fz (ne_lst (da_cons (de_var (i := 0) rfl (.inl rfl)) da_nil))) da_nil))))) da_nil)))
 (dss_cons (ds_expr (de_bm tyc_list F.plainAttrs_list F.slot_list_append rfl m_append (de_var (i := 1) rfl (.inl rfl)) (da_cons (de_tup (da_cons (de_exn (k := 0) (fs := ["lot"]) h.x_NoLot (hr.mono (by first | decide | omega)) rfl (da_cons (de_var (i := 0) rfl (.inl rfl)) da_nil) (by decide)) (da_cons (de_exnK (k := 0) (ks := ["lot"]) h.x_NoLot (hr.mono (by first | decide | omega)) rfl (dk_cons (de_var (i := 0) rfl (.inl rfl)) dk_nil)) (da_cons (de_lamV (L := LV_15) h.fa (makesL_by (q := "_law_e_first.<locals>.<lambda>") tb__law_e_first rfl rfl h.nT__law_e_first h.nU__law_e_first (by kernel_rfl) rfl (.inl ⟨rfl, rfl⟩)) rfl rfl rfl) (da_cons (NE.fz (ne_lst (da_cons (de_var (i := 0) rfl (.inl rfl)) da_nil))) da_nil))))) da_nil)))
 (dss_cons (ds_expr (de_bm tyc_list F.plainAttrs_list F.slot_list_append rfl m_append (de_var (i := 1) rfl (.inl rfl)) (da_cons (de_tup (da_cons (de_exn (k := 0) (fs := ["named"]) h.x_NoName (hr.mono (by first | decide | omega)) rfl (da_cons (de_var (i := 0) rfl (.inl rfl)) da_nil) (by decide)) (da_cons (de_exnK (k := 0) (ks := ["named"]) h.x_NoName (hr.mono (by first | decide | omega)) rfl (dk_cons (de_var (i := 0) rfl (.inl rfl)) dk_nil)) (da_cons (de_lamV (L := LV_16) h.fa (makesL_by (q := "_law_e_first.<locals>.<lambda>") tb__law_e_first rfl rfl h.nT__law_e_first h.nU__law_e_first (by kernel_rfl) rfl (.inl ⟨rfl, rfl⟩)) rfl rfl rfl) (da_cons (NE.fz (ne_lst (da_cons (de_var (i := 0) rfl (.inl rfl)) da_nil))) da_nil))))) da_nil)))
 (dss_cons (ds_expr (de_bm tyc_list F.plainAttrs_list F.slot_list_append rfl m_append (de_var (i := 1) rfl (.inl rfl)) (da_cons (de_tup (da_cons (de_exn (k := 0) (fs := ["weights"]) h.x_BadWeights (hr.mono (by first | decide | omega)) rfl (da_cons (de_var (i := 0) rfl (.inl rfl)) da_nil) (by decide)) (da_cons (de_exnK (k := 0) (ks := ["weights"]) h.x_BadWeights (hr.mono (by first | decide | omega)) rfl (dk_cons (de_var (i := 0) rfl (.inl rfl)) dk_nil)) (da_cons (de_lamV (L := LV_17) h.fa (makesL_by (q := "_law_e_first.<locals>.<lambda>") tb__law_e_first rfl rfl h.nT__law_e_first h.nU__law_e_first (by kernel_rfl) rfl (.inl ⟨rfl, rfl⟩)) rfl rfl rfl) (da_cons (NE.fz (ne_lst (da_cons (de_var (i := 0) rfl (.inl rfl)) da_nil))) da_nil))))) da_nil)))
 (dss_cons (ds_expr (de_bm tyc_list F.plainAttrs_list F.slot_list_append rfl m_append (de_var (i := 1) rfl (.inl rfl)) (da_cons (de_tup (da_cons (de_exn (k := 0) (fs := ["table"]) h.x_BadTable (hr.mono (by first | decide | omega)) rfl (da_cons (de_var (i := 0) rfl (.inl rfl)) da_nil) (by decide)) (da_cons (de_exnK (k := 0) (ks := ["table"]) h.x_BadTable (hr.mono (by first | decide | omega)) rfl (dk_cons (de_var (i := 0) rfl (.inl rfl)) dk_nil)) (da_cons (de_lamV (L := LV_18) h.fa (makesL_by (q := "_law_e_first.<locals>.<lambda>") tb__law_e_first rfl rfl h.nT__law_e_first h.nU__law_e_first (by kernel_rfl) rfl (.inl ⟨rfl, rfl⟩)) rfl rfl rfl) (da_cons (NE.fz (ne_lst (da_cons (de_var (i := 0) rfl (.inl rfl)) da_nil))) da_nil))))) da_nil)))
 (dss_cons (ds_expr (de_bm tyc_list F.plainAttrs_list F.slot_list_append rfl m_append (de_var (i := 1) rfl (.inl rfl)) (da_cons (de_tup (da_cons (de_exn (k := 0) (fs := ["number"]) h.x_BadNumber (hr.mono (by first | decide | omega)) rfl (da_cons (de_var (i := 0) rfl (.inl rfl)) da_nil) (by decide)) (da_cons (de_exnK (k := 0) (ks := ["number"]) h.x_BadNumber (hr.mono (by first | decide | omega)) rfl (dk_cons (de_var (i := 0) rfl (.inl rfl)) dk_nil)) (da_cons (de_lamV (L := LV_19) h.fa (makesL_by (q := "_law_e_first.<locals>.<lambda>") tb__law_e_first rfl rfl h.nT__law_e_first h.nU__law_e_first (by kernel_rfl) rfl (.inl ⟨rfl, rfl⟩)) rfl rfl rfl) (da_cons (NE.fz (ne_lst (da_cons (de_var (i := 0) rfl (.inl rfl)) da_nil))) da_nil))))) da_nil)))
 (dss_cons (ds_expr (de_bm tyc_list F.plainAttrs_list F.slot_list_append rfl m_append (de_var (i := 1) rfl (.inl rfl)) (da_cons (de_tup (da_cons (de_exn (k := 0) (fs := ["most"]) h.x_TooMany (hr.mono (by first | decide | omega)) rfl (da_cons (de_var (i := 0) rfl (.inl rfl)) da_nil) (by decide)) (da_cons (de_exnK (k := 0) (ks := ["most"]) h.x_TooMany (hr.mono (by first | decide | omega)) rfl (dk_cons (de_var (i := 0) rfl (.inl rfl)) dk_nil)) (da_cons (de_lamV (L := LV_20) h.fa (makesL_by (q := "_law_e_first.<locals>.<lambda>") tb__law_e_first rfl rfl h.nT__law_e_first h.nU__law_e_first (by kernel_rfl) rfl (.inl ⟨rfl, rfl⟩)) rfl rfl rfl) (da_cons (NE.fz (ne_lst (da_cons (de_var (i := 0) rfl (.inl rfl)) da_nil))) da_nil))))) da_nil)))
 (dss_one (ds_ret (de_var (i := 1) rfl (.inl rfl))))))))))))))))
theorem sc__law_e_second : FnScope ["x", "found"] ["x"] (defScope st__law_e_second) := ⟨rfl, rfl, rfl, by decide +kernel, rfl, by decide +kernel, by decide +kernel⟩
theorem bi__law_e_second : Binds K h.d__law_e_second ["x"] [] := h.f__law_e_second.binds fun _ _ _ _ _ _ us hl => match us, hl with | [_], _ => rfl
theorem ok__law_e_second (tb__law_e_second : LamX.TabB base mg h.c__law_e_second h.P__law_e_second) : FnOk P w K mg base (L2.CX P w) 7 h.a__law_e_second h.d__law_e_second ["x"] (spD C K F__law_e_second) := fn_defC (N := ["x", "found"]) h.fL__law_e_second sc__law_e_second fun A outer s H E hr => by
  have nd := sc__law_e_second.nd
  have tk := tk_cx (P := P) (w := w) (K := K) (mg := mg) (base := base) (N := ["x", "found"]) (q := "_law_e_second") (sc := defScope st__law_e_second) (f := h.a__law_e_second) (cd := .ref h.c__law_e_second) (A := A) (outer := outer) (s := s) (H := H) (E := E)
  have pso := own_cx (P := P) (w := w) (K := K) (mg := mg) (base := base) (N := ["x", "found"]) (q := "_law_e_second") (sc := defScope st__law_e_second) (f := h.a__law_e_second) (cd := .ref h.c__law_e_second) (A := A) (outer := outer) (s := s) (H := H) (E := E)
  have fl := flatE (E := E)
  exact (dss_cons (ds_set nd rfl (.inl rfl) (NE.own (ne_lst da_nil)))
 (dss_cons (ds_expr (de_bm tyc_list F.plainAttrs_list F.slot_list_append rfl m_append (de_var (i := 1) rfl (.inl rfl)) (da_cons (de_tup (da_cons (de_exn (k := 0) (fs := ["ties"]) h.x_BadTies (hr.mono (by first | decide | omega)) rfl (da_cons (de_var (i := 0) rfl (.inl rfl)) da_nil) (by decide)) (da_cons (de_exnK (k := 0) (ks := ["ties"]) h.x_BadTies (hr.mono (by first | decide | omega)) rfl (dk_cons (de_var (i := 0) rfl (.inl rfl)) dk_nil)) (da_cons (de_lamV (L := LV_21) h.fa (makesL_by (q := "_law_e_second.<locals>.<lambda>") tb__law_e_second rfl rfl h.nT__law_e_second h.nU__law_e_second (by kernel_rfl) rfl (.inl ⟨rfl, rfl⟩)) rfl rfl rfl) (da_cons (NE.fz (ne_lst (da_cons (de_var (i := 0) rfl (.inl rfl)) da_nil))) da_nil))))) da_nil)))
 (dss_cons (ds_expr (de_bm tyc_list F.plainAttrs_list F.slot_list_append rfl m_append (de_var (i := 1) rfl (.inl rfl)) (da_cons (de_tup (da_cons (de_exn (k := 0) (fs := ["twin"]) h.x_BadTwin (hr.mono (by first | decide | omega)) rfl (da_cons (de_var (i := 0) rfl (.inl rfl)) da_nil) (by decide)) (da_cons (de_exnK (k := 0) (ks := ["twin"]) h.x_BadTwin (hr.mono (by first | decide | omega)) rfl (dk_cons (de_var (i := 0) rfl (.inl rfl)) dk_nil)) (da_cons (de_lamV (L := LV_22) h.fa (makesL_by (q := "_law_e_second.<locals>.<lambda>") tb__law_e_second rfl rfl h.nT__law_e_second h.nU__law_e_second (by kernel_rfl) rfl (.inl ⟨rfl, rfl⟩)) rfl rfl rfl) (da_cons (NE.fz (ne_lst (da_cons (de_var (i := 0) rfl (.inl rfl)) da_nil))) da_nil))))) da_nil)))
 (dss_cons (ds_expr (de_bm tyc_list F.plainAttrs_list F.slot_list_append rfl m_append (de_var (i := 1) rfl (.inl rfl)) (da_cons (de_tup (da_cons (de_exn (k := 0) (fs := ["named"]) h.x_Overlap (hr.mono (by first | decide | omega)) rfl (da_cons (de_var (i := 0) rfl (.inl rfl)) da_nil) (by decide)) (da_cons (de_exnK (k := 0) (ks := ["named"]) h.x_Overlap (hr.mono (by first | decide | omega)) rfl (dk_cons (de_var (i := 0) rfl (.inl rfl)) dk_nil)) (da_cons (de_lamV (L := LV_23) h.fa (makesL_by (q := "_law_e_second.<locals>.<lambda>") tb__law_e_second rfl rfl h.nT__law_e_second h.nU__law_e_second (by kernel_rfl) rfl (.inl ⟨rfl, rfl⟩)) rfl rfl rfl) (da_cons (NE.fz (ne_lst (da_cons (de_var (i := 0) rfl (.inl rfl)) da_nil))) da_nil))))) da_nil)))
 (dss_cons (ds_expr (de_bm tyc_list F.plainAttrs_list F.slot_list_append rfl m_append (de_var (i := 1) rfl (.inl rfl)) (da_cons (de_tup (da_cons (de_exn (k := 0) (fs := ["points"]) h.x_BadPoints (hr.mono (by first | decide | omega)) rfl (da_cons (de_var (i := 0) rfl (.inl rfl)) da_nil) (by decide)) (da_cons (de_exnK (k := 0) (ks := ["points"]) h.x_BadPoints (hr.mono (by first | decide | omega)) rfl (dk_cons (de_var (i := 0) rfl (.inl rfl)) dk_nil)) (da_cons (de_lamV (L := LV_24) h.fa (makesL_by (q := "_law_e_second.<locals>.<lambda>") tb__law_e_second rfl rfl h.nT__law_e_second h.nU__law_e_second (by kernel_rfl) rfl (.inl ⟨rfl, rfl⟩)) rfl rfl rfl) (da_cons (NE.fz (ne_lst (da_cons (de_var (i := 0) rfl (.inl rfl)) da_nil))) da_nil))))) da_nil)))
 (dss_cons (ds_expr (de_bm tyc_list F.plainAttrs_list F.slot_list_append rfl m_append (de_var (i := 1) rfl (.inl rfl)) (da_cons (de_tup (da_cons (de_exn (k := 0) (fs := ["row"]) h.x_BadRow (hr.mono (by first | decide | omega)) rfl (da_cons (de_var (i := 0) rfl (.inl rfl)) da_nil) (by decide)) (da_cons (de_exnK (k := 0) (ks := ["row"]) h.x_BadRow (hr.mono (by first | decide | omega)) rfl (dk_cons (de_var (i := 0) rfl (.inl rfl)) dk_nil)) (da_cons (de_lamV (L := LV_25) h.fa (makesL_by (q := "_law_e_second.<locals>.<lambda>") tb__law_e_second rfl rfl h.nT__law_e_second h.nU__law_e_second (by kernel_rfl) rfl (.inl ⟨rfl, rfl⟩)) rfl rfl rfl) (da_cons (NE.fz (ne_lst (da_cons (de_var (i := 0) rfl (.inl rfl)) da_nil))) da_nil))))) da_nil)))
 (dss_cons (ds_expr (de_bm tyc_list F.plainAttrs_list F.slot_list_append rfl m_append (de_var (i := 1) rfl (.inl rfl)) (da_cons (de_tup (da_cons (de_exn (k := 0) (fs := ["heights"]) h.x_BadHeights (hr.mono (by first | decide | omega)) rfl (da_cons (de_var (i := 0) rfl (.inl rfl)) da_nil) (by decide)) (da_cons (de_exnK (k := 0) (ks := ["heights"]) h.x_BadHeights (hr.mono (by first | decide | omega)) rfl (dk_cons (de_var (i := 0) rfl (.inl rfl)) dk_nil)) (da_cons (de_lamV (L := LV_26) h.fa (makesL_by (q := "_law_e_second.<locals>.<lambda>") tb__law_e_second rfl rfl h.nT__law_e_second h.nU__law_e_second (by kernel_rfl) rfl (.inl ⟨rfl, rfl⟩)) rfl rfl rfl) (da_cons (NE.fz (ne_lst (da_cons (de_var (i := 0) rfl (.inl rfl)) da_nil))) da_nil))))) da_nil)))
 (dss_cons (ds_expr (de_bm tyc_list F.plainAttrs_list F.slot_list_append rfl m_append (de_var (i := 1) rfl (.inl rfl)) (da_cons (de_tup (da_cons (de_exn (k := 0) (fs := ["ring"]) h.x_BadRing (hr.mono (by first | decide | omega)) rfl (da_cons (de_var (i := 0) rfl (.inl rfl)) da_nil) (by decide)) (da_cons (de_exnK (k := 0) (ks := ["ring"]) h.x_BadRing (hr.mono (by first | decide | omega)) rfl (dk_cons (de_var (i := 0) rfl (.inl rfl)) dk_nil)) (da_cons (de_lamV (L := LV_27) h.fa (makesL_by (q := "_law_e_second.<locals>.<lambda>") tb__law_e_second rfl rfl h.nT__law_e_second h.nU__law_e_second (by kernel_rfl) rfl (.inl ⟨rfl, rfl⟩)) rfl rfl rfl) (da_cons (NE.fz (ne_lst (da_cons (de_var (i := 0) rfl (.inl rfl)) da_nil))) da_nil))))) da_nil)))
 (dss_cons (ds_expr (de_bm tyc_list F.plainAttrs_list F.slot_list_append rfl m_append (de_var (i := 1) rfl (.inl rfl)) (da_cons (de_tup (da_cons (de_exn (k := 0) (fs := ["heights"]) h.x_NotWeighed (hr.mono (by first | decide | omega)) rfl (da_cons (de_var (i := 0) rfl (.inl rfl)) da_nil) (by decide)) (da_cons (de_exnK (k := 0) (ks := ["heights"]) h.x_NotWeighed (hr.mono (by first | decide | omega)) rfl (dk_cons (de_var (i := 0) rfl (.inl rfl)) dk_nil)) (da_cons (de_lamV (L := LV_28) h.fa (makesL_by (q := "_law_e_second.<locals>.<lambda>") tb__law_e_second rfl rfl h.nT__law_e_second h.nU__law_e_second (by kernel_rfl) rfl (.inl ⟨rfl, rfl⟩)) rfl rfl rfl) (da_cons (NE.fz (ne_lst (da_cons (de_var (i := 0) rfl (.inl rfl)) da_nil))) da_nil))))) da_nil)))
 (dss_cons (ds_expr (de_bm tyc_list F.plainAttrs_list F.slot_list_append rfl m_append (de_var (i := 1) rfl (.inl rfl)) (da_cons (de_tup (da_cons (de_exn (k := 0) (fs := ["named"]) h.x_OnlyName (hr.mono (by first | decide | omega)) rfl (da_cons (de_var (i := 0) rfl (.inl rfl)) da_nil) (by decide)) (da_cons (de_exnK (k := 0) (ks := ["named"]) h.x_OnlyName (hr.mono (by first | decide | omega)) rfl (dk_cons (de_var (i := 0) rfl (.inl rfl)) dk_nil)) (da_cons (de_lamV (L := LV_29) h.fa (makesL_by (q := "_law_e_second.<locals>.<lambda>") tb__law_e_second rfl rfl h.nT__law_e_second h.nU__law_e_second (by kernel_rfl) rfl (.inl ⟨rfl, rfl⟩)) rfl rfl rfl) (da_cons (NE.fz (ne_lst (da_cons (de_var (i := 0) rfl (.inl rfl)) da_nil))) da_nil))))) da_nil)))
 (dss_cons (ds_expr (de_bm tyc_list F.plainAttrs_list F.slot_list_append rfl m_append (de_var (i := 1) rfl (.inl rfl)) (da_cons (de_tup (da_cons (de_exn (k := 0) (fs := ["named"]) h.x_AllHave (hr.mono (by first | decide | omega)) rfl (da_cons (de_var (i := 0) rfl (.inl rfl)) da_nil) (by decide)) (da_cons (de_exnK (k := 0) (ks := ["named"]) h.x_AllHave (hr.mono (by first | decide | omega)) rfl (dk_cons (de_var (i := 0) rfl (.inl rfl)) dk_nil)) (da_cons (de_lamV (L := LV_30) h.fa (makesL_by (q := "_law_e_second.<locals>.<lambda>") tb__law_e_second rfl rfl h.nT__law_e_second h.nU__law_e_second (by kernel_rfl) rfl (.inl ⟨rfl, rfl⟩)) rfl rfl rfl) (da_cons (NE.fz (ne_lst (da_cons (de_var (i := 0) rfl (.inl rfl)) da_nil))) da_nil))))) da_nil)))
 (dss_cons (ds_expr (de_bm tyc_list F.plainAttrs_list F.slot_list_append rfl m_append (de_var (i := 1) rfl (.inl rfl)) (da_cons (de_tup (da_cons (de_exn (k := 0) (fs := ["named"]) h.x_NoneHas (hr.mono (by first | decide | omega)) rfl (da_cons (de_var (i := 0) rfl (.inl rfl)) da_nil) (by decide)) (da_cons (de_exnK (k := 0) (ks := ["named"]) h.x_NoneHas (hr.mono (by first | decide | omega)) rfl (dk_cons (de_var (i := 0) rfl (.inl rfl)) dk_nil)) (da_cons (de_lamV (L := LV_31) h.fa (makesL_by (q := "_law_e_second.<locals>.<lambda>") tb__law_e_second rfl rfl h.nT__law_e_second h.nU__law_e_second (by kernel_rfl) rfl (.inl ⟨rfl, rfl⟩)) rfl rfl rfl) (da_cons (NE.fz (ne_lst (da_cons (de_var (i := 0) rfl (.inl rfl)) da_nil))) da_nil))))) da_nil)))
 (dss_one (ds_ret (de_var (i := 1) rfl (.inl rfl))))))))))))))))
theorem sc_law : FnScope ["script", "turn", "spring", "x", "y", "found", "at", "row", "other", "many", "k", "is_one"] ["script"] (defScope st_law) := ⟨rfl, rfl, rfl, by decide +kernel, rfl, by decide +kernel, by decide +kernel⟩
theorem bi_law : Binds K h.d_law ["script"] [] := h.f_law.binds fun _ _ _ _ _ _ us hl => match us, hl with | [_], _ => rfl
theorem ok_law (tb__law_e_fourth : LamX.TabB base mg h.c__law_e_fourth h.P__law_e_fourth) (tb__law_e_third : LamX.TabB base mg h.c__law_e_third h.P__law_e_third) (tb__law_e_first : LamX.TabB base mg h.c__law_e_first h.P__law_e_first) (tb__law_e_second : LamX.TabB base mg h.c__law_e_second h.P__law_e_second) : FnOk P w K mg base (L2.CX P w) 17 h.a_law h.d_law ["script"] (spD C K F_law) := fn_def (N := ["script", "turn", "spring", "x", "y", "found", "at", "row", "other", "many", "k", "is_one"]) h.f_law sc_law fun cdv A outer s H E hr => by
  have nd := sc_law.nd
  have tk := tk_cx (P := P) (w := w) (K := K) (mg := mg) (base := base) (N := ["script", "turn", "spring", "x", "y", "found", "at", "row", "other", "many", "k", "is_one"]) (q := "law") (sc := defScope st_law) (f := h.a_law) (cd := cdv) (A := A) (outer := outer) (s := s) (H := H) (E := E)
  have pso := own_cx (P := P) (w := w) (K := K) (mg := mg) (base := base) (N := ["script", "turn", "spring", "x", "y", "found", "at", "row", "other", "many", "k", "is_one"]) (q := "law") (sc := defScope st_law) (f := h.a_law) (cd := cdv) (A := A) (outer := outer) (s := s) (H := H) (E := E)
  have fl := flatE (E := E)
  exact (dss_cons (ds_for pso rfl (di_range1 rfl h.n_range (da_cons de_int da_nil)) (dg_name nd rfl (.inl rfl)) (dss_cons (ds_set nd rfl (.inl rfl) (de_call (ok__law_spring h) (hr.mono (by first | decide | omega)) rfl h.g__law_spring h.f__law_spring.kp (bi__law_spring h) tk (da_cons (de_var (i := 0) rfl (.inl rfl)) (da_cons (de_var (i := 1) rfl (.inl rfl)) da_nil))))
 (dss_cons (ds_parT rfl nd rfl rfl (by decide) rfl rfl (da_cons (de_call (ok__law_e_drawn h) (hr.mono (by first | decide | omega)) rfl h.g__law_e_drawn h.f__law_e_drawn.kp (bi__law_e_drawn h) tk (da_cons (de_var (i := 2) rfl (.inl rfl)) da_nil)) (da_cons (de_call (ok__law_e_drawn h) (hr.mono (by first | decide | omega)) rfl h.g__law_e_drawn h.f__law_e_drawn.kp (bi__law_e_drawn h) tk (da_cons (de_var (i := 2) rfl (.inl rfl)) da_nil)) da_nil)) rfl)
 (dss_cons (ds_set nd rfl (.inl rfl) (de_bin o_add (de_bin o_add (de_bin o_add (de_call (ok__law_e_first h tb__law_e_first) (hr.mono (by first | decide | omega)) rfl h.g__law_e_first h.f__law_e_first.kp (bi__law_e_first h) tk (da_cons (de_var (i := 3) rfl (.inl rfl)) da_nil)) (de_call (ok__law_e_second h tb__law_e_second) (hr.mono (by first | decide | omega)) rfl h.g__law_e_second h.f__law_e_second.kp (bi__law_e_second h) tk (da_cons (de_var (i := 3) rfl (.inl rfl)) da_nil))) (de_call (ok__law_e_third h tb__law_e_third) (hr.mono (by first | decide | omega)) rfl h.g__law_e_third h.f__law_e_third.kp (bi__law_e_third h) tk (da_cons (de_var (i := 3) rfl (.inl rfl)) da_nil))) (de_call (ok__law_e_fourth h tb__law_e_fourth) (hr.mono (by first | decide | omega)) rfl h.g__law_e_fourth h.f__law_e_fourth.kp (bi__law_e_fourth h) tk (da_cons (de_var (i := 3) rfl (.inl rfl)) (da_cons (de_var (i := 4) rfl (.inl rfl)) da_nil)))))
 (dss_cons (ds_for pso rfl (di_enum rfl h.n_enumerate (da_cons (de_var (i := 5) rfl (.inl rfl)) da_nil)) (dg_unp rfl (dgs_cons (dg_name nd rfl (.inl rfl)) (dgs_cons (dg_name nd rfl (.inl rfl)) dgs_nil))) (dss_one (ds_if (dt_not (dt_tr (de_call (ok__law_e_right h) (hr.mono (by first | decide | omega)) rfl h.g__law_e_right h.f__law_e_right.kp (bi__law_e_right h) tk (da_cons (de_var (i := 7) rfl (.inl rfl)) (da_cons (de_var (i := 6) rfl (.inl rfl)) da_nil))))) (dss_one (ds_ret de_bl))
 dss_nil)))
 (dss_cons (ds_set nd rfl (.inl rfl) (de_bin o_add (de_bin o_add (de_bin o_add (de_call (ok__law_e_first h tb__law_e_first) (hr.mono (by first | decide | omega)) rfl h.g__law_e_first h.f__law_e_first.kp (bi__law_e_first h) tk (da_cons (de_var (i := 4) rfl (.inl rfl)) da_nil)) (de_call (ok__law_e_second h tb__law_e_second) (hr.mono (by first | decide | omega)) rfl h.g__law_e_second h.f__law_e_second.kp (bi__law_e_second h) tk (da_cons (de_var (i := 4) rfl (.inl rfl)) da_nil))) (de_call (ok__law_e_third h tb__law_e_third) (hr.mono (by first | decide | omega)) rfl h.g__law_e_third h.f__law_e_third.kp (bi__law_e_third h) tk (da_cons (de_var (i := 4) rfl (.inl rfl)) da_nil))) (de_call (ok__law_e_fourth h tb__law_e_fourth) (hr.mono (by first | decide | omega)) rfl h.g__law_e_fourth h.f__law_e_fourth.kp (bi__law_e_fourth h) tk (da_cons (de_var (i := 4) rfl (.inl rfl)) (da_cons (de_var (i := 3) rfl (.inl rfl)) da_nil)))))
 (dss_one (ds_for pso rfl (di_enum rfl h.n_enumerate (da_cons (de_var (i := 8) rfl (.inl rfl)) da_nil)) (dg_unp rfl (dgs_cons (dg_name nd rfl (.inl rfl)) (dgs_cons (dg_name nd rfl (.inl rfl)) dgs_nil))) (dss_one (ds_if (DW.dt (dw_or (dt_not (dt_tr (de_call (ok__law_e_right h) (hr.mono (by first | decide | omega)) rfl h.g__law_e_right h.f__law_e_right.kp (bi__law_e_right h) tk (da_cons (de_var (i := 7) rfl (.inl rfl)) (da_cons (de_var (i := 6) rfl (.inl rfl)) da_nil))))) (dw_or1 (dt_not (dt_tr (de_call (ok__law_e_right h) (hr.mono (by first | decide | omega)) rfl h.g__law_e_right h.f__law_e_right.kp (bi__law_e_right h) tk (da_cons (de_ix hr.b1 (de_var (i := 5) rfl (.inl rfl)) (de_var (i := 6) rfl (.inl rfl))) (da_cons (de_var (i := 6) rfl (.inl rfl)) da_nil)))))))) (dss_one (ds_ret de_bl))
 dss_nil))))))))))
 (dss_cons (ds_set nd rfl (.inl rfl) de_int)
 (dss_cons (ds_if (dt_cmp (o_ne hr.b64) (NE.fz (ne_lc (own := [("k", 10), ("is_one", 11)]) (c := (.many [10, 11])) rfl nd (di_enum rfl h.n_enumerate (da_cons (de_call (ok__law_e_kinds h) (hr.mono (by first | decide | omega)) rfl h.g__law_e_kinds h.f__law_e_kinds.kp (bi__law_e_kinds h) tk (da_cons (de_exn0 (k := 0) h.x_NothingDone (hr.mono (by first | decide | omega)) rfl) da_nil)) da_nil)) (blkOk_by (by kernel_rfl)) (by decide) (fun s H A cl fp => ⟨pg_tup rfl (pgs_cons (pg_name nd rfl (.inl rfl)) (pgs_cons (pg_name nd rfl (.inl rfl)) pgs_nil)), pg_lst rfl (pgs_cons (pg_name nd rfl (.inl rfl)) (pgs_cons (pg_name nd rfl (.inl rfl)) pgs_nil))⟩) (fun s H A cl fp => dts_one (dt_tr (de_var (i := 11) rfl (.inl rfl)))) (fun s H A cl fp => (de_var (i := 10) rfl (.inl rfl))))) (NE.fz (ne_lst (da_cons (de_var (i := 9) rfl (.inl rfl)) da_nil))) rfl) (dss_one (ds_ret de_bl))
 dss_nil)
 (dss_cons (ds_if (dt_cmp (o_ne hr.b64) (NE.fz (ne_lc (own := [("k", 10), ("is_one", 11)]) (c := (.many [10, 11])) rfl nd (di_enum rfl h.n_enumerate (da_cons (de_call (ok__law_e_kinds h) (hr.mono (by first | decide | omega)) rfl h.g__law_e_kinds h.f__law_e_kinds.kp (bi__law_e_kinds h) tk (da_cons (de_exn0 (k := 0) h.x_NothingUndone (hr.mono (by first | decide | omega)) rfl) da_nil)) da_nil)) (blkOk_by (by kernel_rfl)) (by decide) (fun s H A cl fp => ⟨pg_tup rfl (pgs_cons (pg_name nd rfl (.inl rfl)) (pgs_cons (pg_name nd rfl (.inl rfl)) pgs_nil)), pg_lst rfl (pgs_cons (pg_name nd rfl (.inl rfl)) (pgs_cons (pg_name nd rfl (.inl rfl)) pgs_nil))⟩) (fun s H A cl fp => dts_one (dt_tr (de_var (i := 11) rfl (.inl rfl)))) (fun s H A cl fp => (de_var (i := 10) rfl (.inl rfl))))) (NE.fz (ne_lst (da_cons (de_bin o_add (de_var (i := 9) rfl (.inl rfl)) de_int) da_nil))) rfl) (dss_one (ds_ret de_bl))
 dss_nil)
 (dss_one (ds_ret (de_andT (de_isX rfl h.n_isinstance (de_exn0 (k := 0) h.x_NothingDone (hr.mono (by first | decide | omega)) rfl) (pe_glob (v := .ref h.b_LotError) rfl h.m_LotError rfl) (.own _) (fun k b hk => isAll_ok (R := fun k b => PySem.W.kitOne K (.ref (C.ca k)) (.ref h.b_LotError) = some b ∧ ExI K (C.ca k)) h.k_LotError hk)) (de_one (de_isX rfl h.n_isinstance (de_exn0 (k := 0) h.x_NothingUndone (hr.mono (by first | decide | omega)) rfl) (pe_glob (v := .ref h.b_LotError) rfl h.m_LotError rfl) (.own _) (fun k b hk => isAll_ok (R := fun k b => PySem.W.kitOne K (.ref (C.ca k)) (.ref h.b_LotError) = some b ∧ ExI K (C.ca k)) h.k_LotError hk))))))))))
end
end K00
end
section
set_option Elab.async false
set_option linter.all false
set_option maxRecDepth 100000
set_option maxHeartbeats 8000000
namespace K00
open PySem PySem.Spec PyProof.Rows L2 DV He
abbrev hk : PySem.W.Hook := hookZ PR 5 fa fn ini isi tf vs bs
def ob (s : PySem.W.SharedT) : AlZ := obsZ PR 5 fa fn ini isi tf vs bs (HandSHeadRun.getT s)
theorem ob_eq (s : PySem.W.SharedT) : ob s = hk.obs s.abs := obsZ_eq (HandSHeadRun.getT_eq s)
theorem run (w : World) : HandSHeadRun.RunEq (PySem.W.OpenLaw.row RW) qv hk ob 20000 lnames w := fun os =>
  opt_look (run_look w os) (opt_and (opt_look (run_defs w os) (run_oks w os)) (run_okz w os))
/-- the configuration -/
def cfg (K : PySem.W.Frag) : Cfg where
  ca := fun i => match vs[i]? with
    | some v => ga K v.cls
    | none => 0
  cf := fun i => match vs[i]? with
    | some v => v.fs
    | none => []
  fa := glOf tabV
  ex := none
  T := [((cT K ("_law_e_fourth", none)).2, fun _ _ => ("_law_e_fourth.<locals>.<lambda>" : Str)), ((cT K ("_law_e_third", none)).2, fun _ _ => ("_law_e_third.<locals>.<lambda>" : Str)), ((cT K ("_law_e_first", none)).2, fun _ _ => ("_law_e_first.<locals>.<lambda>" : Str)), ((cT K ("_law_e_second", none)).2, fun _ _ => ("_law_e_second.<locals>.<lambda>" : Str))]
  lr := ⟨fun _ _ _ _ => False, fun _ _ _ _ _ _ _ h => h⟩
theorem cf_lt (K : PySem.W.Frag) (c : Nat) : ((cfg K).cf c).length < 1000 := by
  show (match vs[c]? with
    | some v => v.fs
    | none => []).length < 1000
  split
  · rename_i v hv
    exact of_decide_eq_true (List.all_eq_true.mp (show (vs.all fun v => decide (v.fs.length < 1000)) = true by decide +kernel) v (List.mem_of_getElem? hv))
  · decide
theorem hca (K : PySem.W.Frag) (k : Nat) (v : IniV) (h : vs[k]? = some v) : (cfg K).ca k = ga K v.cls := by
  show (match vs[k]? with
    | some v => ga K v.cls
    | none => 0) = _
  rw [h]
theorem top_super : (PR.main.scope.names.lookup ("super" : Str)).isSome = false := by kernel_rfl
def qs_BadNames : List Pos := [⟨7, 8, 7, 13⟩, ⟨7, 8, 7, 15⟩, ⟨7, 8, 7, 24⟩, ⟨7, 25, 7, 35⟩, ⟨7, 8, 7, 36⟩, ⟨7, 8, 7, 36⟩]
theorem ex_BadNames {K : PySem.W.Frag} {mg : Str → Option Value} {h : Heap} {w : World} (X : K.In h) (G : h.Ns mainGlobals mg) (c : SaysY PR fa fn ini isi tf h K) (z : okZ K tf vs bs = true) : Nonempty (ExV (cfg K) PR w K mg "BadNames" ["given"] 0) := by
  obtain ⟨ok, e⟩ := c.ini (d := id_BadNames) (List.mem_of_getElem? (i := 0) rfl)
  exact excV_of (d := id_BadNames) X G ok e (okZ_ok z (v := ⟨"BadNames", ["given"]⟩) (List.mem_of_getElem? (i := 0) rfl)).nf (c.d.fact 27 (f := .glo "BadNames") rfl) top_super rfl rfl (free_ok X G (c.d.fact 13 (f := .free "super") rfl)) (m := "no names") (j := 0) (q := fun i => qs_BadNames.getD i default) rfl (.cons .nil) (by decide) (by kernel_rfl) (by kernel_rfl) rfl rfl (fun _ _ _ => rfl) (fun g hg => by simp only [List.mem_cons, List.mem_nil_iff, or_false] at hg; rcases hg with rfl <;> exact ⟨by decide, by decide⟩) (fun _ _ _ _ _ _ _ us hl => match us, hl with | [_, _], _ => rfl) (fun _ _ _ _ _ _ _ u ws hl => match ws, hl with | [_], _ => rfl)
def qs_BadLots : List Pos := [⟨12, 8, 12, 13⟩, ⟨12, 8, 12, 15⟩, ⟨12, 8, 12, 24⟩, ⟨12, 25, 12, 34⟩, ⟨12, 8, 12, 35⟩, ⟨12, 8, 12, 35⟩]
theorem ex_BadLots {K : PySem.W.Frag} {mg : Str → Option Value} {h : Heap} {w : World} (X : K.In h) (G : h.Ns mainGlobals mg) (c : SaysY PR fa fn ini isi tf h K) (z : okZ K tf vs bs = true) : Nonempty (ExV (cfg K) PR w K mg "BadLots" ["given"] 1) := by
  obtain ⟨ok, e⟩ := c.ini (d := id_BadLots) (List.mem_of_getElem? (i := 1) rfl)
  exact excV_of (d := id_BadLots) X G ok e (okZ_ok z (v := ⟨"BadLots", ["given"]⟩) (List.mem_of_getElem? (i := 1) rfl)).nf (c.d.fact 28 (f := .glo "BadLots") rfl) top_super rfl rfl (free_ok X G (c.d.fact 13 (f := .free "super") rfl)) (m := "no lots") (j := 0) (q := fun i => qs_BadLots.getD i default) rfl (.cons .nil) (by decide) (by kernel_rfl) (by kernel_rfl) rfl rfl (fun _ _ _ => rfl) (fun g hg => by simp only [List.mem_cons, List.mem_nil_iff, or_false] at hg; rcases hg with rfl <;> exact ⟨by decide, by decide⟩) (fun _ _ _ _ _ _ _ us hl => match us, hl with | [_, _], _ => rfl) (fun _ _ _ _ _ _ _ u ws hl => match ws, hl with | [_], _ => rfl)
def qs_BadImage : List Pos := [⟨17, 8, 17, 13⟩, ⟨17, 8, 17, 15⟩, ⟨17, 8, 17, 24⟩, ⟨17, 25, 17, 35⟩, ⟨17, 8, 17, 36⟩, ⟨17, 8, 17, 36⟩]
theorem ex_BadImage {K : PySem.W.Frag} {mg : Str → Option Value} {h : Heap} {w : World} (X : K.In h) (G : h.Ns mainGlobals mg) (c : SaysY PR fa fn ini isi tf h K) (z : okZ K tf vs bs = true) : Nonempty (ExV (cfg K) PR w K mg "BadImage" ["image"] 2) := by
  obtain ⟨ok, e⟩ := c.ini (d := id_BadImage) (List.mem_of_getElem? (i := 2) rfl)
  exact excV_of (d := id_BadImage) X G ok e (okZ_ok z (v := ⟨"BadImage", ["image"]⟩) (List.mem_of_getElem? (i := 2) rfl)).nf (c.d.fact 29 (f := .glo "BadImage") rfl) top_super rfl rfl (free_ok X G (c.d.fact 13 (f := .free "super") rfl)) (m := "no image") (j := 0) (q := fun i => qs_BadImage.getD i default) rfl (.cons .nil) (by decide) (by kernel_rfl) (by kernel_rfl) rfl rfl (fun _ _ _ => rfl) (fun g hg => by simp only [List.mem_cons, List.mem_nil_iff, or_false] at hg; rcases hg with rfl <;> exact ⟨by decide, by decide⟩) (fun _ _ _ _ _ _ _ us hl => match us, hl with | [_, _], _ => rfl) (fun _ _ _ _ _ _ _ u ws hl => match ws, hl with | [_], _ => rfl)
def qs_BadLot : List Pos := [⟨22, 8, 22, 13⟩, ⟨22, 8, 22, 15⟩, ⟨22, 8, 22, 24⟩, ⟨22, 25, 22, 33⟩, ⟨22, 8, 22, 34⟩, ⟨22, 8, 22, 34⟩]
theorem ex_BadLot {K : PySem.W.Frag} {mg : Str → Option Value} {h : Heap} {w : World} (X : K.In h) (G : h.Ns mainGlobals mg) (c : SaysY PR fa fn ini isi tf h K) (z : okZ K tf vs bs = true) : Nonempty (ExV (cfg K) PR w K mg "BadLot" ["lot"] 3) := by
  obtain ⟨ok, e⟩ := c.ini (d := id_BadLot) (List.mem_of_getElem? (i := 3) rfl)
  exact excV_of (d := id_BadLot) X G ok e (okZ_ok z (v := ⟨"BadLot", ["lot"]⟩) (List.mem_of_getElem? (i := 3) rfl)).nf (c.d.fact 30 (f := .glo "BadLot") rfl) top_super rfl rfl (free_ok X G (c.d.fact 13 (f := .free "super") rfl)) (m := "no lot") (j := 0) (q := fun i => qs_BadLot.getD i default) rfl (.cons .nil) (by decide) (by kernel_rfl) (by kernel_rfl) rfl rfl (fun _ _ _ => rfl) (fun g hg => by simp only [List.mem_cons, List.mem_nil_iff, or_false] at hg; rcases hg with rfl <;> exact ⟨by decide, by decide⟩) (fun _ _ _ _ _ _ _ us hl => match us, hl with | [_, _], _ => rfl) (fun _ _ _ _ _ _ _ u ws hl => match ws, hl with | [_], _ => rfl)
def qs_NoLot : List Pos := [⟨27, 8, 27, 13⟩, ⟨27, 8, 27, 15⟩, ⟨27, 8, 27, 24⟩, ⟨27, 25, 27, 39⟩, ⟨27, 8, 27, 40⟩, ⟨27, 8, 27, 40⟩]
theorem ex_NoLot {K : PySem.W.Frag} {mg : Str → Option Value} {h : Heap} {w : World} (X : K.In h) (G : h.Ns mainGlobals mg) (c : SaysY PR fa fn ini isi tf h K) (z : okZ K tf vs bs = true) : Nonempty (ExV (cfg K) PR w K mg "NoLot" ["lot"] 4) := by
  obtain ⟨ok, e⟩ := c.ini (d := id_NoLot) (List.mem_of_getElem? (i := 4) rfl)
  exact excV_of (d := id_NoLot) X G ok e (okZ_ok z (v := ⟨"NoLot", ["lot"]⟩) (List.mem_of_getElem? (i := 4) rfl)).nf (c.d.fact 31 (f := .glo "NoLot") rfl) top_super rfl rfl (free_ok X G (c.d.fact 13 (f := .free "super") rfl)) (m := "no lot of it") (j := 0) (q := fun i => qs_NoLot.getD i default) rfl (.cons .nil) (by decide) (by kernel_rfl) (by kernel_rfl) rfl rfl (fun _ _ _ => rfl) (fun g hg => by simp only [List.mem_cons, List.mem_nil_iff, or_false] at hg; rcases hg with rfl <;> exact ⟨by decide, by decide⟩) (fun _ _ _ _ _ _ _ us hl => match us, hl with | [_, _], _ => rfl) (fun _ _ _ _ _ _ _ u ws hl => match ws, hl with | [_], _ => rfl)
def qs_NoName : List Pos := [⟨32, 8, 32, 13⟩, ⟨32, 8, 32, 15⟩, ⟨32, 8, 32, 24⟩, ⟨32, 25, 32, 39⟩, ⟨32, 8, 32, 40⟩, ⟨32, 8, 32, 40⟩]
theorem ex_NoName {K : PySem.W.Frag} {mg : Str → Option Value} {h : Heap} {w : World} (X : K.In h) (G : h.Ns mainGlobals mg) (c : SaysY PR fa fn ini isi tf h K) (z : okZ K tf vs bs = true) : Nonempty (ExV (cfg K) PR w K mg "NoName" ["named"] 5) := by
  obtain ⟨ok, e⟩ := c.ini (d := id_NoName) (List.mem_of_getElem? (i := 5) rfl)
  exact excV_of (d := id_NoName) X G ok e (okZ_ok z (v := ⟨"NoName", ["named"]⟩) (List.mem_of_getElem? (i := 5) rfl)).nf (c.d.fact 32 (f := .glo "NoName") rfl) top_super rfl rfl (free_ok X G (c.d.fact 13 (f := .free "super") rfl)) (m := "no such name") (j := 0) (q := fun i => qs_NoName.getD i default) rfl (.cons .nil) (by decide) (by kernel_rfl) (by kernel_rfl) rfl rfl (fun _ _ _ => rfl) (fun g hg => by simp only [List.mem_cons, List.mem_nil_iff, or_false] at hg; rcases hg with rfl <;> exact ⟨by decide, by decide⟩) (fun _ _ _ _ _ _ _ us hl => match us, hl with | [_, _], _ => rfl) (fun _ _ _ _ _ _ _ u ws hl => match ws, hl with | [_], _ => rfl)
def qs_BadWeights : List Pos := [⟨37, 8, 37, 13⟩, ⟨37, 8, 37, 15⟩, ⟨37, 8, 37, 24⟩, ⟨37, 25, 37, 37⟩, ⟨37, 8, 37, 38⟩, ⟨37, 8, 37, 38⟩]
theorem ex_BadWeights {K : PySem.W.Frag} {mg : Str → Option Value} {h : Heap} {w : World} (X : K.In h) (G : h.Ns mainGlobals mg) (c : SaysY PR fa fn ini isi tf h K) (z : okZ K tf vs bs = true) : Nonempty (ExV (cfg K) PR w K mg "BadWeights" ["weights"] 6) := by
  obtain ⟨ok, e⟩ := c.ini (d := id_BadWeights) (List.mem_of_getElem? (i := 6) rfl)
  exact excV_of (d := id_BadWeights) X G ok e (okZ_ok z (v := ⟨"BadWeights", ["weights"]⟩) (List.mem_of_getElem? (i := 6) rfl)).nf (c.d.fact 33 (f := .glo "BadWeights") rfl) top_super rfl rfl (free_ok X G (c.d.fact 13 (f := .free "super") rfl)) (m := "no weights") (j := 0) (q := fun i => qs_BadWeights.getD i default) rfl (.cons .nil) (by decide) (by kernel_rfl) (by kernel_rfl) rfl rfl (fun _ _ _ => rfl) (fun g hg => by simp only [List.mem_cons, List.mem_nil_iff, or_false] at hg; rcases hg with rfl <;> exact ⟨by decide, by decide⟩) (fun _ _ _ _ _ _ _ us hl => match us, hl with | [_, _], _ => rfl) (fun _ _ _ _ _ _ _ u ws hl => match ws, hl with | [_], _ => rfl)
def qs_BadTable : List Pos := [⟨42, 8, 42, 13⟩, ⟨42, 8, 42, 15⟩, ⟨42, 8, 42, 24⟩, ⟨42, 25, 42, 35⟩, ⟨42, 8, 42, 36⟩, ⟨42, 8, 42, 36⟩]
theorem ex_BadTable {K : PySem.W.Frag} {mg : Str → Option Value} {h : Heap} {w : World} (X : K.In h) (G : h.Ns mainGlobals mg) (c : SaysY PR fa fn ini isi tf h K) (z : okZ K tf vs bs = true) : Nonempty (ExV (cfg K) PR w K mg "BadTable" ["table"] 7) := by
  obtain ⟨ok, e⟩ := c.ini (d := id_BadTable) (List.mem_of_getElem? (i := 7) rfl)
  exact excV_of (d := id_BadTable) X G ok e (okZ_ok z (v := ⟨"BadTable", ["table"]⟩) (List.mem_of_getElem? (i := 7) rfl)).nf (c.d.fact 34 (f := .glo "BadTable") rfl) top_super rfl rfl (free_ok X G (c.d.fact 13 (f := .free "super") rfl)) (m := "no table") (j := 0) (q := fun i => qs_BadTable.getD i default) rfl (.cons .nil) (by decide) (by kernel_rfl) (by kernel_rfl) rfl rfl (fun _ _ _ => rfl) (fun g hg => by simp only [List.mem_cons, List.mem_nil_iff, or_false] at hg; rcases hg with rfl <;> exact ⟨by decide, by decide⟩) (fun _ _ _ _ _ _ _ us hl => match us, hl with | [_, _], _ => rfl) (fun _ _ _ _ _ _ _ u ws hl => match ws, hl with | [_], _ => rfl)
def qs_BadNumber : List Pos := [⟨47, 8, 47, 13⟩, ⟨47, 8, 47, 15⟩, ⟨47, 8, 47, 24⟩, ⟨47, 25, 47, 36⟩, ⟨47, 8, 47, 37⟩, ⟨47, 8, 47, 37⟩]
theorem ex_BadNumber {K : PySem.W.Frag} {mg : Str → Option Value} {h : Heap} {w : World} (X : K.In h) (G : h.Ns mainGlobals mg) (c : SaysY PR fa fn ini isi tf h K) (z : okZ K tf vs bs = true) : Nonempty (ExV (cfg K) PR w K mg "BadNumber" ["number"] 8) := by
  obtain ⟨ok, e⟩ := c.ini (d := id_BadNumber) (List.mem_of_getElem? (i := 8) rfl)
  exact excV_of (d := id_BadNumber) X G ok e (okZ_ok z (v := ⟨"BadNumber", ["number"]⟩) (List.mem_of_getElem? (i := 8) rfl)).nf (c.d.fact 35 (f := .glo "BadNumber") rfl) top_super rfl rfl (free_ok X G (c.d.fact 13 (f := .free "super") rfl)) (m := "no number") (j := 0) (q := fun i => qs_BadNumber.getD i default) rfl (.cons .nil) (by decide) (by kernel_rfl) (by kernel_rfl) rfl rfl (fun _ _ _ => rfl) (fun g hg => by simp only [List.mem_cons, List.mem_nil_iff, or_false] at hg; rcases hg with rfl <;> exact ⟨by decide, by decide⟩) (fun _ _ _ _ _ _ _ us hl => match us, hl with | [_, _], _ => rfl) (fun _ _ _ _ _ _ _ u ws hl => match ws, hl with | [_], _ => rfl)
def qs_TooMany : List Pos := [⟨52, 8, 52, 13⟩, ⟨52, 8, 52, 15⟩, ⟨52, 8, 52, 24⟩, ⟨52, 25, 52, 35⟩, ⟨52, 8, 52, 36⟩, ⟨52, 8, 52, 36⟩]
theorem ex_TooMany {K : PySem.W.Frag} {mg : Str → Option Value} {h : Heap} {w : World} (X : K.In h) (G : h.Ns mainGlobals mg) (c : SaysY PR fa fn ini isi tf h K) (z : okZ K tf vs bs = true) : Nonempty (ExV (cfg K) PR w K mg "TooMany" ["most"] 9) := by
  obtain ⟨ok, e⟩ := c.ini (d := id_TooMany) (List.mem_of_getElem? (i := 9) rfl)
  exact excV_of (d := id_TooMany) X G ok e (okZ_ok z (v := ⟨"TooMany", ["most"]⟩) (List.mem_of_getElem? (i := 9) rfl)).nf (c.d.fact 36 (f := .glo "TooMany") rfl) top_super rfl rfl (free_ok X G (c.d.fact 13 (f := .free "super") rfl)) (m := "too many") (j := 0) (q := fun i => qs_TooMany.getD i default) rfl (.cons .nil) (by decide) (by kernel_rfl) (by kernel_rfl) rfl rfl (fun _ _ _ => rfl) (fun g hg => by simp only [List.mem_cons, List.mem_nil_iff, or_false] at hg; rcases hg with rfl <;> exact ⟨by decide, by decide⟩) (fun _ _ _ _ _ _ _ us hl => match us, hl with | [_, _], _ => rfl) (fun _ _ _ _ _ _ _ u ws hl => match ws, hl with | [_], _ => rfl)
def qs_BadQuestion : List Pos := [⟨58, 8, 58, 13⟩, ⟨58, 8, 58, 15⟩, ⟨58, 8, 58, 24⟩, ⟨58, 25, 58, 38⟩, ⟨58, 8, 58, 39⟩, ⟨58, 8, 58, 39⟩]
theorem ex_BadQuestion {K : PySem.W.Frag} {mg : Str → Option Value} {h : Heap} {w : World} (X : K.In h) (G : h.Ns mainGlobals mg) (c : SaysY PR fa fn ini isi tf h K) (z : okZ K tf vs bs = true) : Nonempty (ExV (cfg K) PR w K mg "BadQuestion" ["question"] 10) := by
  obtain ⟨ok, e⟩ := c.ini (d := id_BadQuestion) (List.mem_of_getElem? (i := 10) rfl)
  exact excV_of (d := id_BadQuestion) X G ok e (okZ_ok z (v := ⟨"BadQuestion", ["question"]⟩) (List.mem_of_getElem? (i := 10) rfl)).nf (c.d.fact 37 (f := .glo "BadQuestion") rfl) top_super rfl rfl (free_ok X G (c.d.fact 13 (f := .free "super") rfl)) (m := "no question") (j := 0) (q := fun i => qs_BadQuestion.getD i default) rfl (.cons .nil) (by decide) (by kernel_rfl) (by kernel_rfl) rfl rfl (fun _ _ _ => rfl) (fun g hg => by simp only [List.mem_cons, List.mem_nil_iff, or_false] at hg; rcases hg with rfl <;> exact ⟨by decide, by decide⟩) (fun _ _ _ _ _ _ _ us hl => match us, hl with | [_, _], _ => rfl) (fun _ _ _ _ _ _ _ u ws hl => match ws, hl with | [_], _ => rfl)
def qs_BadTies : List Pos := [⟨64, 8, 64, 13⟩, ⟨64, 8, 64, 15⟩, ⟨64, 8, 64, 24⟩, ⟨64, 25, 64, 34⟩, ⟨64, 8, 64, 35⟩, ⟨64, 8, 64, 35⟩]
theorem ex_BadTies {K : PySem.W.Frag} {mg : Str → Option Value} {h : Heap} {w : World} (X : K.In h) (G : h.Ns mainGlobals mg) (c : SaysY PR fa fn ini isi tf h K) (z : okZ K tf vs bs = true) : Nonempty (ExV (cfg K) PR w K mg "BadTies" ["ties"] 11) := by
  obtain ⟨ok, e⟩ := c.ini (d := id_BadTies) (List.mem_of_getElem? (i := 11) rfl)
  exact excV_of (d := id_BadTies) X G ok e (okZ_ok z (v := ⟨"BadTies", ["ties"]⟩) (List.mem_of_getElem? (i := 11) rfl)).nf (c.d.fact 38 (f := .glo "BadTies") rfl) top_super rfl rfl (free_ok X G (c.d.fact 13 (f := .free "super") rfl)) (m := "no ties") (j := 0) (q := fun i => qs_BadTies.getD i default) rfl (.cons .nil) (by decide) (by kernel_rfl) (by kernel_rfl) rfl rfl (fun _ _ _ => rfl) (fun g hg => by simp only [List.mem_cons, List.mem_nil_iff, or_false] at hg; rcases hg with rfl <;> exact ⟨by decide, by decide⟩) (fun _ _ _ _ _ _ _ us hl => match us, hl with | [_, _], _ => rfl) (fun _ _ _ _ _ _ _ u ws hl => match ws, hl with | [_], _ => rfl)
def qs_BadTwin : List Pos := [⟨69, 8, 69, 13⟩, ⟨69, 8, 69, 15⟩, ⟨69, 8, 69, 24⟩, ⟨69, 25, 69, 54⟩, ⟨69, 8, 69, 55⟩, ⟨69, 8, 69, 55⟩]
theorem ex_BadTwin {K : PySem.W.Frag} {mg : Str → Option Value} {h : Heap} {w : World} (X : K.In h) (G : h.Ns mainGlobals mg) (c : SaysY PR fa fn ini isi tf h K) (z : okZ K tf vs bs = true) : Nonempty (ExV (cfg K) PR w K mg "BadTwin" ["twin"] 12) := by
  obtain ⟨ok, e⟩ := c.ini (d := id_BadTwin) (List.mem_of_getElem? (i := 12) rfl)
  exact excV_of (d := id_BadTwin) X G ok e (okZ_ok z (v := ⟨"BadTwin", ["twin"]⟩) (List.mem_of_getElem? (i := 12) rfl)).nf (c.d.fact 39 (f := .glo "BadTwin") rfl) top_super rfl rfl (free_ok X G (c.d.fact 13 (f := .free "super") rfl)) (m := "no family of the same names") (j := 0) (q := fun i => qs_BadTwin.getD i default) rfl (.cons .nil) (by decide) (by kernel_rfl) (by kernel_rfl) rfl rfl (fun _ _ _ => rfl) (fun g hg => by simp only [List.mem_cons, List.mem_nil_iff, or_false] at hg; rcases hg with rfl <;> exact ⟨by decide, by decide⟩) (fun _ _ _ _ _ _ _ us hl => match us, hl with | [_, _], _ => rfl) (fun _ _ _ _ _ _ _ u ws hl => match ws, hl with | [_], _ => rfl)
def qs_Overlap : List Pos := [⟨74, 8, 74, 13⟩, ⟨74, 8, 74, 15⟩, ⟨74, 8, 74, 24⟩, ⟨74, 25, 74, 40⟩, ⟨74, 8, 74, 41⟩, ⟨74, 8, 74, 41⟩]
theorem ex_Overlap {K : PySem.W.Frag} {mg : Str → Option Value} {h : Heap} {w : World} (X : K.In h) (G : h.Ns mainGlobals mg) (c : SaysY PR fa fn ini isi tf h K) (z : okZ K tf vs bs = true) : Nonempty (ExV (cfg K) PR w K mg "Overlap" ["named"] 13) := by
  obtain ⟨ok, e⟩ := c.ini (d := id_Overlap) (List.mem_of_getElem? (i := 13) rfl)
  exact excV_of (d := id_Overlap) X G ok e (okZ_ok z (v := ⟨"Overlap", ["named"]⟩) (List.mem_of_getElem? (i := 13) rfl)).nf (c.d.fact 40 (f := .glo "Overlap") rfl) top_super rfl rfl (free_ok X G (c.d.fact 13 (f := .free "super") rfl)) (m := "a common name") (j := 0) (q := fun i => qs_Overlap.getD i default) rfl (.cons .nil) (by decide) (by kernel_rfl) (by kernel_rfl) rfl rfl (fun _ _ _ => rfl) (fun g hg => by simp only [List.mem_cons, List.mem_nil_iff, or_false] at hg; rcases hg with rfl <;> exact ⟨by decide, by decide⟩) (fun _ _ _ _ _ _ _ us hl => match us, hl with | [_, _], _ => rfl) (fun _ _ _ _ _ _ _ u ws hl => match ws, hl with | [_], _ => rfl)
def qs_BadPoints : List Pos := [⟨79, 8, 79, 13⟩, ⟨79, 8, 79, 15⟩, ⟨79, 8, 79, 24⟩, ⟨79, 25, 79, 36⟩, ⟨79, 8, 79, 37⟩, ⟨79, 8, 79, 37⟩]
theorem ex_BadPoints {K : PySem.W.Frag} {mg : Str → Option Value} {h : Heap} {w : World} (X : K.In h) (G : h.Ns mainGlobals mg) (c : SaysY PR fa fn ini isi tf h K) (z : okZ K tf vs bs = true) : Nonempty (ExV (cfg K) PR w K mg "BadPoints" ["points"] 14) := by
  obtain ⟨ok, e⟩ := c.ini (d := id_BadPoints) (List.mem_of_getElem? (i := 14) rfl)
  exact excV_of (d := id_BadPoints) X G ok e (okZ_ok z (v := ⟨"BadPoints", ["points"]⟩) (List.mem_of_getElem? (i := 14) rfl)).nf (c.d.fact 41 (f := .glo "BadPoints") rfl) top_super rfl rfl (free_ok X G (c.d.fact 13 (f := .free "super") rfl)) (m := "no points") (j := 0) (q := fun i => qs_BadPoints.getD i default) rfl (.cons .nil) (by decide) (by kernel_rfl) (by kernel_rfl) rfl rfl (fun _ _ _ => rfl) (fun g hg => by simp only [List.mem_cons, List.mem_nil_iff, or_false] at hg; rcases hg with rfl <;> exact ⟨by decide, by decide⟩) (fun _ _ _ _ _ _ _ us hl => match us, hl with | [_, _], _ => rfl) (fun _ _ _ _ _ _ _ u ws hl => match ws, hl with | [_], _ => rfl)
def qs_BadRow : List Pos := [⟨84, 8, 84, 13⟩, ⟨84, 8, 84, 15⟩, ⟨84, 8, 84, 24⟩, ⟨84, 25, 84, 41⟩, ⟨84, 8, 84, 42⟩, ⟨84, 8, 84, 42⟩]
theorem ex_BadRow {K : PySem.W.Frag} {mg : Str → Option Value} {h : Heap} {w : World} (X : K.In h) (G : h.Ns mainGlobals mg) (c : SaysY PR fa fn ini isi tf h K) (z : okZ K tf vs bs = true) : Nonempty (ExV (cfg K) PR w K mg "BadRow" ["row"] 15) := by
  obtain ⟨ok, e⟩ := c.ini (d := id_BadRow) (List.mem_of_getElem? (i := 15) rfl)
  exact excV_of (d := id_BadRow) X G ok e (okZ_ok z (v := ⟨"BadRow", ["row"]⟩) (List.mem_of_getElem? (i := 15) rfl)).nf (c.d.fact 42 (f := .glo "BadRow") rfl) top_super rfl rfl (free_ok X G (c.d.fact 13 (f := .free "super") rfl)) (m := "no row as long") (j := 0) (q := fun i => qs_BadRow.getD i default) rfl (.cons .nil) (by decide) (by kernel_rfl) (by kernel_rfl) rfl rfl (fun _ _ _ => rfl) (fun g hg => by simp only [List.mem_cons, List.mem_nil_iff, or_false] at hg; rcases hg with rfl <;> exact ⟨by decide, by decide⟩) (fun _ _ _ _ _ _ _ us hl => match us, hl with | [_, _], _ => rfl) (fun _ _ _ _ _ _ _ u ws hl => match ws, hl with | [_], _ => rfl)
def qs_BadHeights : List Pos := [⟨89, 8, 89, 13⟩, ⟨89, 8, 89, 15⟩, ⟨89, 8, 89, 24⟩, ⟨89, 25, 89, 37⟩, ⟨89, 8, 89, 38⟩, ⟨89, 8, 89, 38⟩]
theorem ex_BadHeights {K : PySem.W.Frag} {mg : Str → Option Value} {h : Heap} {w : World} (X : K.In h) (G : h.Ns mainGlobals mg) (c : SaysY PR fa fn ini isi tf h K) (z : okZ K tf vs bs = true) : Nonempty (ExV (cfg K) PR w K mg "BadHeights" ["heights"] 16) := by
  obtain ⟨ok, e⟩ := c.ini (d := id_BadHeights) (List.mem_of_getElem? (i := 16) rfl)
  exact excV_of (d := id_BadHeights) X G ok e (okZ_ok z (v := ⟨"BadHeights", ["heights"]⟩) (List.mem_of_getElem? (i := 16) rfl)).nf (c.d.fact 43 (f := .glo "BadHeights") rfl) top_super rfl rfl (free_ok X G (c.d.fact 13 (f := .free "super") rfl)) (m := "no heights") (j := 0) (q := fun i => qs_BadHeights.getD i default) rfl (.cons .nil) (by decide) (by kernel_rfl) (by kernel_rfl) rfl rfl (fun _ _ _ => rfl) (fun g hg => by simp only [List.mem_cons, List.mem_nil_iff, or_false] at hg; rcases hg with rfl <;> exact ⟨by decide, by decide⟩) (fun _ _ _ _ _ _ _ us hl => match us, hl with | [_, _], _ => rfl) (fun _ _ _ _ _ _ _ u ws hl => match ws, hl with | [_], _ => rfl)
def qs_BadRing : List Pos := [⟨94, 8, 94, 13⟩, ⟨94, 8, 94, 15⟩, ⟨94, 8, 94, 24⟩, ⟨94, 25, 94, 34⟩, ⟨94, 8, 94, 35⟩, ⟨94, 8, 94, 35⟩]
theorem ex_BadRing {K : PySem.W.Frag} {mg : Str → Option Value} {h : Heap} {w : World} (X : K.In h) (G : h.Ns mainGlobals mg) (c : SaysY PR fa fn ini isi tf h K) (z : okZ K tf vs bs = true) : Nonempty (ExV (cfg K) PR w K mg "BadRing" ["ring"] 17) := by
  obtain ⟨ok, e⟩ := c.ini (d := id_BadRing) (List.mem_of_getElem? (i := 17) rfl)
  exact excV_of (d := id_BadRing) X G ok e (okZ_ok z (v := ⟨"BadRing", ["ring"]⟩) (List.mem_of_getElem? (i := 17) rfl)).nf (c.d.fact 44 (f := .glo "BadRing") rfl) top_super rfl rfl (free_ok X G (c.d.fact 13 (f := .free "super") rfl)) (m := "no ring") (j := 0) (q := fun i => qs_BadRing.getD i default) rfl (.cons .nil) (by decide) (by kernel_rfl) (by kernel_rfl) rfl rfl (fun _ _ _ => rfl) (fun g hg => by simp only [List.mem_cons, List.mem_nil_iff, or_false] at hg; rcases hg with rfl <;> exact ⟨by decide, by decide⟩) (fun _ _ _ _ _ _ _ us hl => match us, hl with | [_, _], _ => rfl) (fun _ _ _ _ _ _ _ u ws hl => match ws, hl with | [_], _ => rfl)
def qs_NotWeighed : List Pos := [⟨99, 8, 99, 13⟩, ⟨99, 8, 99, 15⟩, ⟨99, 8, 99, 24⟩, ⟨99, 25, 99, 45⟩, ⟨99, 8, 99, 46⟩, ⟨99, 8, 99, 46⟩]
theorem ex_NotWeighed {K : PySem.W.Frag} {mg : Str → Option Value} {h : Heap} {w : World} (X : K.In h) (G : h.Ns mainGlobals mg) (c : SaysY PR fa fn ini isi tf h K) (z : okZ K tf vs bs = true) : Nonempty (ExV (cfg K) PR w K mg "NotWeighed" ["heights"] 18) := by
  obtain ⟨ok, e⟩ := c.ini (d := id_NotWeighed) (List.mem_of_getElem? (i := 18) rfl)
  exact excV_of (d := id_NotWeighed) X G ok e (okZ_ok z (v := ⟨"NotWeighed", ["heights"]⟩) (List.mem_of_getElem? (i := 18) rfl)).nf (c.d.fact 45 (f := .glo "NotWeighed") rfl) top_super rfl rfl (free_ok X G (c.d.fact 13 (f := .free "super") rfl)) (m := "no weighed heights") (j := 0) (q := fun i => qs_NotWeighed.getD i default) rfl (.cons .nil) (by decide) (by kernel_rfl) (by kernel_rfl) rfl rfl (fun _ _ _ => rfl) (fun g hg => by simp only [List.mem_cons, List.mem_nil_iff, or_false] at hg; rcases hg with rfl <;> exact ⟨by decide, by decide⟩) (fun _ _ _ _ _ _ _ us hl => match us, hl with | [_, _], _ => rfl) (fun _ _ _ _ _ _ _ u ws hl => match ws, hl with | [_], _ => rfl)
def qs_OnlyName : List Pos := [⟨105, 8, 105, 13⟩, ⟨105, 8, 105, 15⟩, ⟨105, 8, 105, 24⟩, ⟨105, 25, 105, 40⟩, ⟨105, 8, 105, 41⟩, ⟨105, 8, 105, 41⟩]
theorem ex_OnlyName {K : PySem.W.Frag} {mg : Str → Option Value} {h : Heap} {w : World} (X : K.In h) (G : h.Ns mainGlobals mg) (c : SaysY PR fa fn ini isi tf h K) (z : okZ K tf vs bs = true) : Nonempty (ExV (cfg K) PR w K mg "OnlyName" ["named"] 19) := by
  obtain ⟨ok, e⟩ := c.ini (d := id_OnlyName) (List.mem_of_getElem? (i := 19) rfl)
  exact excV_of (d := id_OnlyName) X G ok e (okZ_ok z (v := ⟨"OnlyName", ["named"]⟩) (List.mem_of_getElem? (i := 19) rfl)).nf (c.d.fact 46 (f := .glo "OnlyName") rfl) top_super rfl rfl (free_ok X G (c.d.fact 13 (f := .free "super") rfl)) (m := "the only name") (j := 0) (q := fun i => qs_OnlyName.getD i default) rfl (.cons .nil) (by decide) (by kernel_rfl) (by kernel_rfl) rfl rfl (fun _ _ _ => rfl) (fun g hg => by simp only [List.mem_cons, List.mem_nil_iff, or_false] at hg; rcases hg with rfl <;> exact ⟨by decide, by decide⟩) (fun _ _ _ _ _ _ _ us hl => match us, hl with | [_, _], _ => rfl) (fun _ _ _ _ _ _ _ u ws hl => match ws, hl with | [_], _ => rfl)
def qs_AllHave : List Pos := [⟨110, 8, 110, 13⟩, ⟨110, 8, 110, 15⟩, ⟨110, 8, 110, 24⟩, ⟨110, 25, 110, 38⟩, ⟨110, 8, 110, 39⟩, ⟨110, 8, 110, 39⟩]
theorem ex_AllHave {K : PySem.W.Frag} {mg : Str → Option Value} {h : Heap} {w : World} (X : K.In h) (G : h.Ns mainGlobals mg) (c : SaysY PR fa fn ini isi tf h K) (z : okZ K tf vs bs = true) : Nonempty (ExV (cfg K) PR w K mg "AllHave" ["named"] 20) := by
  obtain ⟨ok, e⟩ := c.ini (d := id_AllHave) (List.mem_of_getElem? (i := 20) rfl)
  exact excV_of (d := id_AllHave) X G ok e (okZ_ok z (v := ⟨"AllHave", ["named"]⟩) (List.mem_of_getElem? (i := 20) rfl)).nf (c.d.fact 47 (f := .glo "AllHave") rfl) top_super rfl rfl (free_ok X G (c.d.fact 13 (f := .free "super") rfl)) (m := "all have it") (j := 0) (q := fun i => qs_AllHave.getD i default) rfl (.cons .nil) (by decide) (by kernel_rfl) (by kernel_rfl) rfl rfl (fun _ _ _ => rfl) (fun g hg => by simp only [List.mem_cons, List.mem_nil_iff, or_false] at hg; rcases hg with rfl <;> exact ⟨by decide, by decide⟩) (fun _ _ _ _ _ _ _ us hl => match us, hl with | [_, _], _ => rfl) (fun _ _ _ _ _ _ _ u ws hl => match ws, hl with | [_], _ => rfl)
def qs_NoneHas : List Pos := [⟨115, 8, 115, 13⟩, ⟨115, 8, 115, 15⟩, ⟨115, 8, 115, 24⟩, ⟨115, 25, 115, 38⟩, ⟨115, 8, 115, 39⟩, ⟨115, 8, 115, 39⟩]
theorem ex_NoneHas {K : PySem.W.Frag} {mg : Str → Option Value} {h : Heap} {w : World} (X : K.In h) (G : h.Ns mainGlobals mg) (c : SaysY PR fa fn ini isi tf h K) (z : okZ K tf vs bs = true) : Nonempty (ExV (cfg K) PR w K mg "NoneHas" ["named"] 21) := by
  obtain ⟨ok, e⟩ := c.ini (d := id_NoneHas) (List.mem_of_getElem? (i := 21) rfl)
  exact excV_of (d := id_NoneHas) X G ok e (okZ_ok z (v := ⟨"NoneHas", ["named"]⟩) (List.mem_of_getElem? (i := 21) rfl)).nf (c.d.fact 48 (f := .glo "NoneHas") rfl) top_super rfl rfl (free_ok X G (c.d.fact 13 (f := .free "super") rfl)) (m := "none has it") (j := 0) (q := fun i => qs_NoneHas.getD i default) rfl (.cons .nil) (by decide) (by kernel_rfl) (by kernel_rfl) rfl rfl (fun _ _ _ => rfl) (fun g hg => by simp only [List.mem_cons, List.mem_nil_iff, or_false] at hg; rcases hg with rfl <;> exact ⟨by decide, by decide⟩) (fun _ _ _ _ _ _ _ us hl => match us, hl with | [_, _], _ => rfl) (fun _ _ _ _ _ _ _ u ws hl => match ws, hl with | [_], _ => rfl)
def qs_Shared : List Pos := [⟨120, 8, 120, 13⟩, ⟨120, 8, 120, 15⟩, ⟨120, 8, 120, 24⟩, ⟨120, 25, 120, 34⟩, ⟨120, 8, 120, 35⟩, ⟨120, 8, 120, 35⟩]
theorem ex_Shared {K : PySem.W.Frag} {mg : Str → Option Value} {h : Heap} {w : World} (X : K.In h) (G : h.Ns mainGlobals mg) (c : SaysY PR fa fn ini isi tf h K) (z : okZ K tf vs bs = true) : Nonempty (ExV (cfg K) PR w K mg "Shared" ["named"] 22) := by
  obtain ⟨ok, e⟩ := c.ini (d := id_Shared) (List.mem_of_getElem? (i := 22) rfl)
  exact excV_of (d := id_Shared) X G ok e (okZ_ok z (v := ⟨"Shared", ["named"]⟩) (List.mem_of_getElem? (i := 22) rfl)).nf (c.d.fact 49 (f := .glo "Shared") rfl) top_super rfl rfl (free_ok X G (c.d.fact 13 (f := .free "super") rfl)) (m := "in both") (j := 0) (q := fun i => qs_Shared.getD i default) rfl (.cons .nil) (by decide) (by kernel_rfl) (by kernel_rfl) rfl rfl (fun _ _ _ => rfl) (fun g hg => by simp only [List.mem_cons, List.mem_nil_iff, or_false] at hg; rcases hg with rfl <;> exact ⟨by decide, by decide⟩) (fun _ _ _ _ _ _ _ us hl => match us, hl with | [_, _], _ => rfl) (fun _ _ _ _ _ _ _ u ws hl => match ws, hl with | [_], _ => rfl)
def qs_BadName : List Pos := [⟨125, 8, 125, 13⟩, ⟨125, 8, 125, 15⟩, ⟨125, 8, 125, 24⟩, ⟨125, 25, 125, 34⟩, ⟨125, 8, 125, 35⟩, ⟨125, 8, 125, 35⟩]
theorem ex_BadName {K : PySem.W.Frag} {mg : Str → Option Value} {h : Heap} {w : World} (X : K.In h) (G : h.Ns mainGlobals mg) (c : SaysY PR fa fn ini isi tf h K) (z : okZ K tf vs bs = true) : Nonempty (ExV (cfg K) PR w K mg "BadName" ["name"] 23) := by
  obtain ⟨ok, e⟩ := c.ini (d := id_BadName) (List.mem_of_getElem? (i := 23) rfl)
  exact excV_of (d := id_BadName) X G ok e (okZ_ok z (v := ⟨"BadName", ["name"]⟩) (List.mem_of_getElem? (i := 23) rfl)).nf (c.d.fact 50 (f := .glo "BadName") rfl) top_super rfl rfl (free_ok X G (c.d.fact 13 (f := .free "super") rfl)) (m := "no name") (j := 0) (q := fun i => qs_BadName.getD i default) rfl (.cons .nil) (by decide) (by kernel_rfl) (by kernel_rfl) rfl rfl (fun _ _ _ => rfl) (fun g hg => by simp only [List.mem_cons, List.mem_nil_iff, or_false] at hg; rcases hg with rfl <;> exact ⟨by decide, by decide⟩) (fun _ _ _ _ _ _ _ us hl => match us, hl with | [_, _], _ => rfl) (fun _ _ _ _ _ _ _ u ws hl => match ws, hl with | [_], _ => rfl)
def qs_Taken : List Pos := [⟨130, 8, 130, 13⟩, ⟨130, 8, 130, 15⟩, ⟨130, 8, 130, 24⟩, ⟨130, 25, 130, 32⟩, ⟨130, 8, 130, 33⟩, ⟨130, 8, 130, 33⟩]
theorem ex_Taken {K : PySem.W.Frag} {mg : Str → Option Value} {h : Heap} {w : World} (X : K.In h) (G : h.Ns mainGlobals mg) (c : SaysY PR fa fn ini isi tf h K) (z : okZ K tf vs bs = true) : Nonempty (ExV (cfg K) PR w K mg "Taken" ["name"] 24) := by
  obtain ⟨ok, e⟩ := c.ini (d := id_Taken) (List.mem_of_getElem? (i := 24) rfl)
  exact excV_of (d := id_Taken) X G ok e (okZ_ok z (v := ⟨"Taken", ["name"]⟩) (List.mem_of_getElem? (i := 24) rfl)).nf (c.d.fact 51 (f := .glo "Taken") rfl) top_super rfl rfl (free_ok X G (c.d.fact 13 (f := .free "super") rfl)) (m := "taken") (j := 0) (q := fun i => qs_Taken.getD i default) rfl (.cons .nil) (by decide) (by kernel_rfl) (by kernel_rfl) rfl rfl (fun _ _ _ => rfl) (fun g hg => by simp only [List.mem_cons, List.mem_nil_iff, or_false] at hg; rcases hg with rfl <;> exact ⟨by decide, by decide⟩) (fun _ _ _ _ _ _ _ us hl => match us, hl with | [_, _], _ => rfl) (fun _ _ _ _ _ _ _ u ws hl => match ws, hl with | [_], _ => rfl)
def qs_There : List Pos := [⟨136, 8, 136, 13⟩, ⟨136, 8, 136, 15⟩, ⟨136, 8, 136, 24⟩, ⟨136, 25, 136, 38⟩, ⟨136, 8, 136, 39⟩, ⟨136, 8, 136, 39⟩]
theorem ex_There {K : PySem.W.Frag} {mg : Str → Option Value} {h : Heap} {w : World} (X : K.In h) (G : h.Ns mainGlobals mg) (c : SaysY PR fa fn ini isi tf h K) (z : okZ K tf vs bs = true) : Nonempty (ExV (cfg K) PR w K mg "There" ["lot"] 25) := by
  obtain ⟨ok, e⟩ := c.ini (d := id_There) (List.mem_of_getElem? (i := 25) rfl)
  exact excV_of (d := id_There) X G ok e (okZ_ok z (v := ⟨"There", ["lot"]⟩) (List.mem_of_getElem? (i := 25) rfl)).nf (c.d.fact 52 (f := .glo "There") rfl) top_super rfl rfl (free_ok X G (c.d.fact 13 (f := .free "super") rfl)) (m := "it is there") (j := 0) (q := fun i => qs_There.getD i default) rfl (.cons .nil) (by decide) (by kernel_rfl) (by kernel_rfl) rfl rfl (fun _ _ _ => rfl) (fun g hg => by simp only [List.mem_cons, List.mem_nil_iff, or_false] at hg; rcases hg with rfl <;> exact ⟨by decide, by decide⟩) (fun _ _ _ _ _ _ _ us hl => match us, hl with | [_, _], _ => rfl) (fun _ _ _ _ _ _ _ u ws hl => match ws, hl with | [_], _ => rfl)
def qs_Lone : List Pos := [⟨141, 8, 141, 13⟩, ⟨141, 8, 141, 15⟩, ⟨141, 8, 141, 24⟩, ⟨141, 25, 141, 39⟩, ⟨141, 8, 141, 40⟩, ⟨141, 8, 141, 40⟩]
theorem ex_Lone {K : PySem.W.Frag} {mg : Str → Option Value} {h : Heap} {w : World} (X : K.In h) (G : h.Ns mainGlobals mg) (c : SaysY PR fa fn ini isi tf h K) (z : okZ K tf vs bs = true) : Nonempty (ExV (cfg K) PR w K mg "Lone" ["lot"] 26) := by
  obtain ⟨ok, e⟩ := c.ini (d := id_Lone) (List.mem_of_getElem? (i := 26) rfl)
  exact excV_of (d := id_Lone) X G ok e (okZ_ok z (v := ⟨"Lone", ["lot"]⟩) (List.mem_of_getElem? (i := 26) rfl)).nf (c.d.fact 53 (f := .glo "Lone") rfl) top_super rfl rfl (free_ok X G (c.d.fact 13 (f := .free "super") rfl)) (m := "the only lot") (j := 0) (q := fun i => qs_Lone.getD i default) rfl (.cons .nil) (by decide) (by kernel_rfl) (by kernel_rfl) rfl rfl (fun _ _ _ => rfl) (fun g hg => by simp only [List.mem_cons, List.mem_nil_iff, or_false] at hg; rcases hg with rfl <;> exact ⟨by decide, by decide⟩) (fun _ _ _ _ _ _ _ us hl => match us, hl with | [_, _], _ => rfl) (fun _ _ _ _ _ _ _ u ws hl => match ws, hl with | [_], _ => rfl)
def qs_NothingDone : List Pos := [⟨146, 8, 146, 13⟩, ⟨146, 8, 146, 15⟩, ⟨146, 8, 146, 24⟩, ⟨146, 25, 146, 39⟩, ⟨146, 8, 146, 40⟩, ⟨146, 8, 146, 40⟩]
theorem ex_NothingDone {K : PySem.W.Frag} {mg : Str → Option Value} {h : Heap} {w : World} (X : K.In h) (G : h.Ns mainGlobals mg) (c : SaysY PR fa fn ini isi tf h K) (z : okZ K tf vs bs = true) : Nonempty (ExV (cfg K) PR w K mg "NothingDone" [] 27) := by
  obtain ⟨ok, e⟩ := c.ini (d := id_NothingDone) (List.mem_of_getElem? (i := 27) rfl)
  exact excV_of (d := id_NothingDone) X G ok e (okZ_ok z (v := ⟨"NothingDone", []⟩) (List.mem_of_getElem? (i := 27) rfl)).nf (c.d.fact 54 (f := .glo "NothingDone") rfl) top_super rfl rfl (free_ok X G (c.d.fact 13 (f := .free "super") rfl)) (m := "nothing done") (j := 0) (q := fun i => qs_NothingDone.getD i default) rfl .nil (by decide) (by kernel_rfl) (by kernel_rfl) rfl rfl (fun _ _ _ => rfl) (fun g hg => by cases hg) (fun _ _ _ _ _ _ _ us hl => match us, hl with | [_], _ => rfl) (fun _ _ _ _ _ _ _ u ws hl => match ws, hl with | [], _ => rfl)
def qs_NothingUndone : List Pos := [⟨150, 8, 150, 13⟩, ⟨150, 8, 150, 15⟩, ⟨150, 8, 150, 24⟩, ⟨150, 25, 150, 41⟩, ⟨150, 8, 150, 42⟩, ⟨150, 8, 150, 42⟩]
theorem ex_NothingUndone {K : PySem.W.Frag} {mg : Str → Option Value} {h : Heap} {w : World} (X : K.In h) (G : h.Ns mainGlobals mg) (c : SaysY PR fa fn ini isi tf h K) (z : okZ K tf vs bs = true) : Nonempty (ExV (cfg K) PR w K mg "NothingUndone" [] 28) := by
  obtain ⟨ok, e⟩ := c.ini (d := id_NothingUndone) (List.mem_of_getElem? (i := 28) rfl)
  exact excV_of (d := id_NothingUndone) X G ok e (okZ_ok z (v := ⟨"NothingUndone", []⟩) (List.mem_of_getElem? (i := 28) rfl)).nf (c.d.fact 55 (f := .glo "NothingUndone") rfl) top_super rfl rfl (free_ok X G (c.d.fact 13 (f := .free "super") rfl)) (m := "nothing undone") (j := 0) (q := fun i => qs_NothingUndone.getD i default) rfl .nil (by decide) (by kernel_rfl) (by kernel_rfl) rfl rfl (fun _ _ _ => rfl) (fun g hg => by cases hg) (fun _ _ _ _ _ _ _ us hl => match us, hl with | [_], _ => rfl) (fun _ _ _ _ _ _ _ u ws hl => match ws, hl with | [], _ => rfl)
def qs_BadStep : List Pos := [⟨154, 8, 154, 13⟩, ⟨154, 8, 154, 15⟩, ⟨154, 8, 154, 24⟩, ⟨154, 25, 154, 34⟩, ⟨154, 8, 154, 35⟩, ⟨154, 8, 154, 35⟩]
theorem ex_BadStep {K : PySem.W.Frag} {mg : Str → Option Value} {h : Heap} {w : World} (X : K.In h) (G : h.Ns mainGlobals mg) (c : SaysY PR fa fn ini isi tf h K) (z : okZ K tf vs bs = true) : Nonempty (ExV (cfg K) PR w K mg "BadStep" ["step"] 29) := by
  obtain ⟨ok, e⟩ := c.ini (d := id_BadStep) (List.mem_of_getElem? (i := 29) rfl)
  exact excV_of (d := id_BadStep) X G ok e (okZ_ok z (v := ⟨"BadStep", ["step"]⟩) (List.mem_of_getElem? (i := 29) rfl)).nf (c.d.fact 56 (f := .glo "BadStep") rfl) top_super rfl rfl (free_ok X G (c.d.fact 13 (f := .free "super") rfl)) (m := "no step") (j := 0) (q := fun i => qs_BadStep.getD i default) rfl (.cons .nil) (by decide) (by kernel_rfl) (by kernel_rfl) rfl rfl (fun _ _ _ => rfl) (fun g hg => by simp only [List.mem_cons, List.mem_nil_iff, or_false] at hg; rcases hg with rfl <;> exact ⟨by decide, by decide⟩) (fun _ _ _ _ _ _ _ us hl => match us, hl with | [_, _], _ => rfl) (fun _ _ _ _ _ _ _ u ws hl => match ws, hl with | [_], _ => rfl)
def qs_BadSteps : List Pos := [⟨159, 8, 159, 13⟩, ⟨159, 8, 159, 15⟩, ⟨159, 8, 159, 24⟩, ⟨159, 25, 159, 35⟩, ⟨159, 8, 159, 36⟩, ⟨159, 8, 159, 36⟩]
theorem ex_BadSteps {K : PySem.W.Frag} {mg : Str → Option Value} {h : Heap} {w : World} (X : K.In h) (G : h.Ns mainGlobals mg) (c : SaysY PR fa fn ini isi tf h K) (z : okZ K tf vs bs = true) : Nonempty (ExV (cfg K) PR w K mg "BadSteps" ["steps"] 30) := by
  obtain ⟨ok, e⟩ := c.ini (d := id_BadSteps) (List.mem_of_getElem? (i := 30) rfl)
  exact excV_of (d := id_BadSteps) X G ok e (okZ_ok z (v := ⟨"BadSteps", ["steps"]⟩) (List.mem_of_getElem? (i := 30) rfl)).nf (c.d.fact 57 (f := .glo "BadSteps") rfl) top_super rfl rfl (free_ok X G (c.d.fact 13 (f := .free "super") rfl)) (m := "no steps") (j := 0) (q := fun i => qs_BadSteps.getD i default) rfl (.cons .nil) (by decide) (by kernel_rfl) (by kernel_rfl) rfl rfl (fun _ _ _ => rfl) (fun g hg => by simp only [List.mem_cons, List.mem_nil_iff, or_false] at hg; rcases hg with rfl <;> exact ⟨by decide, by decide⟩) (fun _ _ _ _ _ _ _ us hl => match us, hl with | [_, _], _ => rfl) (fun _ _ _ _ _ _ _ u ws hl => match ws, hl with | [_], _ => rfl)
def qs_Refused : List Pos := [⟨164, 8, 164, 13⟩, ⟨164, 8, 164, 15⟩, ⟨164, 8, 164, 24⟩, ⟨164, 25, 164, 34⟩, ⟨164, 8, 164, 35⟩, ⟨164, 8, 164, 35⟩]
theorem ex_Refused {K : PySem.W.Frag} {mg : Str → Option Value} {h : Heap} {w : World} (X : K.In h) (G : h.Ns mainGlobals mg) (c : SaysY PR fa fn ini isi tf h K) (z : okZ K tf vs bs = true) : Nonempty (ExV (cfg K) PR w K mg "Refused" ["fault"] 31) := by
  obtain ⟨ok, e⟩ := c.ini (d := id_Refused) (List.mem_of_getElem? (i := 31) rfl)
  exact excV_of (d := id_Refused) X G ok e (okZ_ok z (v := ⟨"Refused", ["fault"]⟩) (List.mem_of_getElem? (i := 31) rfl)).nf (c.d.fact 58 (f := .glo "Refused") rfl) top_super rfl rfl (free_ok X G (c.d.fact 13 (f := .free "super") rfl)) (m := "refused") (j := 0) (q := fun i => qs_Refused.getD i default) rfl (.cons .nil) (by decide) (by kernel_rfl) (by kernel_rfl) rfl rfl (fun _ _ _ => rfl) (fun g hg => by simp only [List.mem_cons, List.mem_nil_iff, or_false] at hg; rcases hg with rfl <;> exact ⟨by decide, by decide⟩) (fun _ _ _ _ _ _ _ us hl => match us, hl with | [_, _], _ => rfl) (fun _ _ _ _ _ _ _ u ws hl => match ws, hl with | [_], _ => rfl)
def qs_BadText : List Pos := [⟨169, 8, 169, 13⟩, ⟨169, 8, 169, 15⟩, ⟨169, 8, 169, 24⟩, ⟨169, 25, 169, 39⟩, ⟨169, 8, 169, 40⟩, ⟨169, 8, 169, 40⟩]
theorem ex_BadText {K : PySem.W.Frag} {mg : Str → Option Value} {h : Heap} {w : World} (X : K.In h) (G : h.Ns mainGlobals mg) (c : SaysY PR fa fn ini isi tf h K) (z : okZ K tf vs bs = true) : Nonempty (ExV (cfg K) PR w K mg "BadText" ["text", "line"] 32) := by
  obtain ⟨ok, e⟩ := c.ini (d := id_BadText) (List.mem_of_getElem? (i := 32) rfl)
  exact excV_of (d := id_BadText) X G ok e (okZ_ok z (v := ⟨"BadText", ["text", "line"]⟩) (List.mem_of_getElem? (i := 32) rfl)).nf (c.d.fact 59 (f := .glo "BadText") rfl) top_super rfl rfl (free_ok X G (c.d.fact 13 (f := .free "super") rfl)) (m := "no such text") (j := 0) (q := fun i => qs_BadText.getD i default) rfl (.cons (.cons .nil)) (by decide) (by kernel_rfl) (by kernel_rfl) rfl rfl (fun _ _ _ => rfl) (fun g hg => by simp only [List.mem_cons, List.mem_nil_iff, or_false] at hg; rcases hg with rfl | rfl <;> exact ⟨by decide, by decide⟩) (fun _ _ _ _ _ _ _ us hl => match us, hl with | [_, _, _], _ => rfl) (fun _ _ _ _ _ _ _ u ws hl => match ws, hl with | [_, _], _ => rfl)
def qs_BadJournal : List Pos := [⟨175, 8, 175, 13⟩, ⟨175, 8, 175, 15⟩, ⟨175, 8, 175, 24⟩, ⟨175, 25, 175, 43⟩, ⟨175, 8, 175, 44⟩, ⟨175, 8, 175, 44⟩]
theorem ex_BadJournal {K : PySem.W.Frag} {mg : Str → Option Value} {h : Heap} {w : World} (X : K.In h) (G : h.Ns mainGlobals mg) (c : SaysY PR fa fn ini isi tf h K) (z : okZ K tf vs bs = true) : Nonempty (ExV (cfg K) PR w K mg "BadJournal" ["journal"] 33) := by
  obtain ⟨ok, e⟩ := c.ini (d := id_BadJournal) (List.mem_of_getElem? (i := 33) rfl)
  exact excV_of (d := id_BadJournal) X G ok e (okZ_ok z (v := ⟨"BadJournal", ["journal"]⟩) (List.mem_of_getElem? (i := 33) rfl)).nf (c.d.fact 60 (f := .glo "BadJournal") rfl) top_super rfl rfl (free_ok X G (c.d.fact 13 (f := .free "super") rfl)) (m := "no right journal") (j := 0) (q := fun i => qs_BadJournal.getD i default) rfl (.cons .nil) (by decide) (by kernel_rfl) (by kernel_rfl) rfl rfl (fun _ _ _ => rfl) (fun g hg => by simp only [List.mem_cons, List.mem_nil_iff, or_false] at hg; rcases hg with rfl <;> exact ⟨by decide, by decide⟩) (fun _ _ _ _ _ _ _ us hl => match us, hl with | [_, _], _ => rfl) (fun _ _ _ _ _ _ _ u ws hl => match ws, hl with | [_], _ => rfl)
theorem head_ok {K : PySem.W.Frag} {mg : Str → Option Value} {h : Heap} {w : World} (X : K.In h) (G : h.Ns mainGlobals mg) (c : SaysY PR fa fn ini isi tf h K) (z : okZ K tf vs bs = true) : ∃ hd : Hd (cfg K) PR w K mg, hd.a_law = ga K "law" ∧ hd.c__law_e_fourth = (cT K ("_law_e_fourth", none)).1 ∧ hd.P__law_e_fourth = (cT K ("_law_e_fourth", none)).2 ∧ hd.c__law_e_third = (cT K ("_law_e_third", none)).1 ∧ hd.P__law_e_third = (cT K ("_law_e_third", none)).2 ∧ hd.c__law_e_first = (cT K ("_law_e_first", none)).1 ∧ hd.P__law_e_first = (cT K ("_law_e_first", none)).2 ∧ hd.c__law_e_second = (cT K ("_law_e_second", none)).1 ∧ hd.P__law_e_second = (cT K ("_law_e_second", none)).2 := by
  obtain ⟨d0, f0⟩ := c.d.def_ 0 (d := fd0) rfl
  obtain ⟨d1, f1⟩ := c.d.def_ 1 (d := fd1) rfl
  obtain ⟨d2, f2⟩ := c.d.def_ 2 (d := fd2) rfl
  obtain ⟨d3, f3⟩ := c.d.def_ 3 (d := fd3) rfl
  obtain ⟨d4, f4⟩ := c.d.def_ 4 (d := fd4) rfl
  obtain ⟨d5, f5⟩ := c.d.def_ 5 (d := fd5) rfl
  obtain ⟨d6, f6⟩ := c.d.def_ 6 (d := fd6) rfl
  obtain ⟨d7, f7⟩ := c.d.def_ 7 (d := fd7) rfl
  obtain ⟨d8, f8⟩ := c.d.def_ 8 (d := fd8) rfl
  obtain ⟨d9, f9⟩ := c.d.def_ 9 (d := fd9) rfl
  obtain ⟨d10, f10⟩ := c.d.def_ 10 (d := fd10) rfl
  obtain ⟨d11, f11⟩ := c.d.def_ 11 (d := fd11) rfl
  obtain ⟨d12, f12⟩ := c.d.def_ 12 (d := fd12) rfl
  obtain ⟨x_BadNames⟩ := ex_BadNames (w := w) X G c z
  obtain ⟨x_BadLots⟩ := ex_BadLots (w := w) X G c z
  obtain ⟨x_BadImage⟩ := ex_BadImage (w := w) X G c z
  obtain ⟨x_BadLot⟩ := ex_BadLot (w := w) X G c z
  obtain ⟨x_NoLot⟩ := ex_NoLot (w := w) X G c z
  obtain ⟨x_NoName⟩ := ex_NoName (w := w) X G c z
  obtain ⟨x_BadWeights⟩ := ex_BadWeights (w := w) X G c z
  obtain ⟨x_BadTable⟩ := ex_BadTable (w := w) X G c z
  obtain ⟨x_BadNumber⟩ := ex_BadNumber (w := w) X G c z
  obtain ⟨x_TooMany⟩ := ex_TooMany (w := w) X G c z
  obtain ⟨x_BadQuestion⟩ := ex_BadQuestion (w := w) X G c z
  obtain ⟨x_BadTies⟩ := ex_BadTies (w := w) X G c z
  obtain ⟨x_BadTwin⟩ := ex_BadTwin (w := w) X G c z
  obtain ⟨x_Overlap⟩ := ex_Overlap (w := w) X G c z
  obtain ⟨x_BadPoints⟩ := ex_BadPoints (w := w) X G c z
  obtain ⟨x_BadRow⟩ := ex_BadRow (w := w) X G c z
  obtain ⟨x_BadHeights⟩ := ex_BadHeights (w := w) X G c z
  obtain ⟨x_BadRing⟩ := ex_BadRing (w := w) X G c z
  obtain ⟨x_NotWeighed⟩ := ex_NotWeighed (w := w) X G c z
  obtain ⟨x_OnlyName⟩ := ex_OnlyName (w := w) X G c z
  obtain ⟨x_AllHave⟩ := ex_AllHave (w := w) X G c z
  obtain ⟨x_NoneHas⟩ := ex_NoneHas (w := w) X G c z
  obtain ⟨x_Shared⟩ := ex_Shared (w := w) X G c z
  obtain ⟨x_BadName⟩ := ex_BadName (w := w) X G c z
  obtain ⟨x_Taken⟩ := ex_Taken (w := w) X G c z
  obtain ⟨x_There⟩ := ex_There (w := w) X G c z
  obtain ⟨x_Lone⟩ := ex_Lone (w := w) X G c z
  obtain ⟨x_NothingDone⟩ := ex_NothingDone (w := w) X G c z
  obtain ⟨x_NothingUndone⟩ := ex_NothingUndone (w := w) X G c z
  obtain ⟨x_BadStep⟩ := ex_BadStep (w := w) X G c z
  obtain ⟨x_BadSteps⟩ := ex_BadSteps (w := w) X G c z
  obtain ⟨x_Refused⟩ := ex_Refused (w := w) X G c z
  obtain ⟨x_BadText⟩ := ex_BadText (w := w) X G c z
  obtain ⟨x_BadJournal⟩ := ex_BadJournal (w := w) X G c z
  exact ⟨{ lf := cf_lt K, n_len := free_ok X G (c.d.fact 0 (f := .free "len") rfl), n_enumerate := free_ok X G (c.d.fact 1 (f := .free "enumerate") rfl), n_int := free_ok X G (c.d.fact 2 (f := .free "int") rfl), n_range := free_ok X G (c.d.fact 3 (f := .free "range") rfl), n_tuple := free_ok X G (c.d.fact 4 (f := .free "tuple") rfl), n_dict := free_ok X G (c.d.fact 5 (f := .free "dict") rfl), n_isinstance := free_ok X G (c.d.fact 6 (f := .free "isinstance") rfl), n_list := free_ok X G (c.d.fact 7 (f := .free "list") rfl), n_zip := free_ok X G (c.d.fact 8 (f := .free "zip") rfl), n_all := free_ok X G (c.d.fact 9 (f := .free "all") rfl), n_bool := free_ok X G (c.d.fact 10 (f := .free "bool") rfl), n_str := free_ok X G (c.d.fact 11 (f := .free "str") rfl), n_ValueError := free_ok X G (c.d.fact 12 (f := .free "ValueError") rfl), a__law_spring := fAd K fd0.at_, d__law_spring := d0, f__law_spring := fun_of f0, g__law_spring := glo_ok X G (c.d.fact 14 (f := .glo "_law_spring") rfl), a__law_draw := fAd K fd1.at_, d__law_draw := d1, f__law_draw := fun_of f1, g__law_draw := glo_ok X G (c.d.fact 15 (f := .glo "_law_draw") rfl), a__law_pick := fAd K fd2.at_, d__law_pick := d2, f__law_pick := fun_of f2, g__law_pick := glo_ok X G (c.d.fact 16 (f := .glo "_law_pick") rfl), a__law_e_drawn := fAd K fd3.at_, d__law_e_drawn := d3, f__law_e_drawn := fun_of f3, g__law_e_drawn := glo_ok X G (c.d.fact 17 (f := .glo "_law_e_drawn") rfl), a__law_e_fourth := fAd K fd4.at_, d__law_e_fourth := d4, f__law_e_fourth := fun_of f4, c__law_e_fourth := (cT K ("_law_e_fourth", none)).1, P__law_e_fourth := (cT K ("_law_e_fourth", none)).2, fL__law_e_fourth := funC_of f4, nT__law_e_fourth := List.mem_of_getElem? (i := 0) rfl, nU__law_e_fourth := tab_one (T := (cfg K).T) (okZ_nd z) (List.mem_of_getElem? (i := 0) rfl), g__law_e_fourth := glo_ok X G (c.d.fact 18 (f := .glo "_law_e_fourth") rfl), a__law_e_third := fAd K fd5.at_, d__law_e_third := d5, f__law_e_third := fun_of f5, c__law_e_third := (cT K ("_law_e_third", none)).1, P__law_e_third := (cT K ("_law_e_third", none)).2, fL__law_e_third := funC_of f5, nT__law_e_third := List.mem_of_getElem? (i := 1) rfl, nU__law_e_third := tab_one (T := (cfg K).T) (okZ_nd z) (List.mem_of_getElem? (i := 1) rfl), g__law_e_third := glo_ok X G (c.d.fact 19 (f := .glo "_law_e_third") rfl), a__law_e_kinds := fAd K fd6.at_, d__law_e_kinds := d6, f__law_e_kinds := fun_of f6, g__law_e_kinds := glo_ok X G (c.d.fact 20 (f := .glo "_law_e_kinds") rfl), a__law_same := fAd K fd7.at_, d__law_same := d7, f__law_same := fun_of f7, g__law_same := glo_ok X G (c.d.fact 21 (f := .glo "_law_same") rfl), a__law_very := fAd K fd8.at_, d__law_very := d8, f__law_very := fun_of f8, g__law_very := glo_ok X G (c.d.fact 22 (f := .glo "_law_very") rfl), a__law_e_right := fAd K fd9.at_, d__law_e_right := d9, f__law_e_right := fun_of f9, g__law_e_right := glo_ok X G (c.d.fact 23 (f := .glo "_law_e_right") rfl), a__law_e_first := fAd K fd10.at_, d__law_e_first := d10, f__law_e_first := fun_of f10, c__law_e_first := (cT K ("_law_e_first", none)).1, P__law_e_first := (cT K ("_law_e_first", none)).2, fL__law_e_first := funC_of f10, nT__law_e_first := List.mem_of_getElem? (i := 2) rfl, nU__law_e_first := tab_one (T := (cfg K).T) (okZ_nd z) (List.mem_of_getElem? (i := 2) rfl), g__law_e_first := glo_ok X G (c.d.fact 24 (f := .glo "_law_e_first") rfl), a__law_e_second := fAd K fd11.at_, d__law_e_second := d11, f__law_e_second := fun_of f11, c__law_e_second := (cT K ("_law_e_second", none)).1, P__law_e_second := (cT K ("_law_e_second", none)).2, fL__law_e_second := funC_of f11, nT__law_e_second := List.mem_of_getElem? (i := 3) rfl, nU__law_e_second := tab_one (T := (cfg K).T) (okZ_nd z) (List.mem_of_getElem? (i := 3) rfl), g__law_e_second := glo_ok X G (c.d.fact 25 (f := .glo "_law_e_second") rfl), a_law := fAd K fd12.at_, d_law := d12, f_law := fun_of f12, g_law := glo_ok X G (c.d.fact 26 (f := .glo "law") rfl), fa := rfl, x_BadNames := x_BadNames, x_BadLots := x_BadLots, x_BadImage := x_BadImage, x_BadLot := x_BadLot, x_NoLot := x_NoLot, x_NoName := x_NoName, x_BadWeights := x_BadWeights, x_BadTable := x_BadTable, x_BadNumber := x_BadNumber, x_TooMany := x_TooMany, x_BadQuestion := x_BadQuestion, x_BadTies := x_BadTies, x_BadTwin := x_BadTwin, x_Overlap := x_Overlap, x_BadPoints := x_BadPoints, x_BadRow := x_BadRow, x_BadHeights := x_BadHeights, x_BadRing := x_BadRing, x_NotWeighed := x_NotWeighed, x_OnlyName := x_OnlyName, x_AllHave := x_AllHave, x_NoneHas := x_NoneHas, x_Shared := x_Shared, x_BadName := x_BadName, x_Taken := x_Taken, x_There := x_There, x_Lone := x_Lone, x_NothingDone := x_NothingDone, x_NothingUndone := x_NothingUndone, x_BadStep := x_BadStep, x_BadSteps := x_BadSteps, x_Refused := x_Refused, x_BadText := x_BadText, x_BadJournal := x_BadJournal, kx := kx_of z rfl (hca K) (by decide +kernel), ve := ve_of z rfl (hca K), b_LotError := ga K "LotError", m_LotError := glo_ok X G (c.d.fact 61 (f := .glo "LotError") rfl), k_LotError := kb_of z rfl (hca K) (List.mem_of_getElem? (i := 0) rfl) }, rfl, rfl, rfl, rfl, rfl, rfl, rfl, rfl, rfl⟩
/-- the law from what its mirror does -/
theorem facts {mg : Str → Option Value} {h : Heap} {w : World} {f : Addr} {K : PySem.W.Frag} (X : K.In h) (G : h.Ns mainGlobals mg) (c : SaysY PR fa fn ini isi tf h K) (z : okZ K tf vs bs = true) (hf : mg ("law" : Str) = some (.ref f))
    (plain : ∀ (ns : List Int) (d : D), ns.length ≤ 63 → (∀ z ∈ ns, Builtin.Int.intBits z ≤ 1048576) → scrD d ns → ∃ s', F_law ⟨[], 0⟩ [d] = .ok (.bl true) s') : LamX.LawAtS RW w K (L2.CX PR w) 17 63 "script" mg f h := by
  obtain ⟨hd, ha, hc__law_e_fourth, hP__law_e_fourth, hc__law_e_third, hP__law_e_third, hc__law_e_first, hP__law_e_first, hc__law_e_second, hP__law_e_second⟩ := head_ok (w := w) X G c z
  have e : some (.ref f) = some (Value.ref hd.a_law) := hf.symm.trans hd.g_law
  cases e
  refine lawAt_of (C := cfg K) X c rfl (bi_law hd) plain (fun base _ _ tb => ?_) (fun s u => fun_bindsTo (ps := ["script"]) hd.f_law (fun _ _ _ _ _ _ us hl => match us, hl with | [_], _ => rfl) s [u] rfl)
  exact ok_law hd (by rw [hc__law_e_fourth, hP__law_e_fourth]; exact tb _ (List.mem_of_getElem? (i := 0) rfl)) (by rw [hc__law_e_third, hP__law_e_third]; exact tb _ (List.mem_of_getElem? (i := 1) rfl)) (by rw [hc__law_e_first, hP__law_e_first]; exact tb _ (List.mem_of_getElem? (i := 2) rfl)) (by rw [hc__law_e_second, hP__law_e_second]; exact tb _ (List.mem_of_getElem? (i := 3) rfl))
end K00
open PySem PySem.W PySem.Calls PyProof.Rows
theorem K00.holds (plain : ∀ (ns : List Int) (d : DV.D), ns.length ≤ 63 → (∀ z ∈ ns, Builtin.Int.intBits z ≤ 1048576) → DV.scrD d ns → ∃ s', K00.F_law ⟨[], 0⟩ [d] = .ok (.bl true) s') : PySem.Challenge.rw_oneortwo_k00_errors_made.Holds := by
  w_on; o_law
  refine HandSHeadRun.head_any (r := OpenLaw.row PySem.Challenge.rw_oneortwo_k00_errors_made) (q := K00.qv) (H := K00.hk) (ob := K00.ob) (M := 20000) (loose := K00.lnames) (d := HandSHeadRun.topDef (OpenLaw.row PySem.Challenge.rw_oneortwo_k00_errors_made).prog 54) (kwd := []) K00.ob_eq
    (by kernel_rfl) (fun s => by kernel_rfl) K00.run (by kernel_rfl) (by kernel_rfl) (by kernel_rfl) (by rfl) (by first | assumption | decide +kernel) (by decide +kernel) ⟨rfl, rfl, rfl, rfl, rfl, by decide +kernel⟩ ?hw ?hc
  case hw => w_witness2
  case hc =>
    refine LamX.walk_ofTsE (l := PySem.Challenge.rw_oneortwo_k00_errors_made) (n := 63) (k := 17) (x := "script") (CX := fun w => L2.CX K00.PR w) rfl (by decide) (by kernel_rfl) ⟨rfl, by decide, by decide⟩ ?F (fun _ _ _ _ _ z => DV.cx_empty z)
    intro w mg fa h Y G hmg0
    obtain ⟨K, KX, c, z⟩ := Y
    have hmg : mg ("law" : PySem.Str) = some (.ref fa) := by
      have e : (HandSHeadRun.topDef (OpenLaw.row PySem.Challenge.rw_oneortwo_k00_errors_made).prog 54).name = ("law" : PySem.Str) := by kernel_rfl
      rw [← e]
      exact hmg0
    exact ⟨K, KX, K00.facts KX G c z hmg plain⟩
end
section
set_option Elab.async false
set_option linter.all false
set_option maxRecDepth 100000
set_option maxHeartbeats 2000000
/-! PC: running mirrors by rewriting; only what stands first is rewritten. RUN is the rules in one. -/
namespace DV
open PySem PySem.Spec PyProof.Rows
/-- an equation that is used by its proof, not by unfolding -/
theorem nd {α : Type} {a b : α} (h : a = b) : a = b := h
def Fl.andThen (r : Fl) (g : Sx) : Fl := match r with
  | .next e s => g e s
  | r => r
def cIf {α : Type} (b : Bool) (x y : α) : α := if b = true then x else y
def gAsg (o : Out Env) : Fl := match o with
  | .ok e' s' => .next e' s'
  | _ => .stuck
/-- the call of a function of data, nothing raised -/
def Out.noX (o : Out D) : Out D := match o with
  | .ok d s => .ok d s
  | _ => .stuck
/-- a test's value -/
def Out.bv (o : Out D) : Out Bool := match o with
  | .ok x s => (match x.strip with
    | .bl b => .ok b s
    | _ => .stuck)
  | .exc c vs s => .exc c vs s
  | .stuck => .stuck
section
variable {α β : Type}
theorem bind_cong {o o' : Out α} {f : α → S → Out β} (h : o = o') : o.bind f = o'.bind f := by rw [h]
theorem of_cong {o o' : Option α} {s : S} (h : o = o') : Out.of o s = Out.of o' s := by rw [h]
theorem fl_cong {o o' : Out α} {e : Env} {k : α → S → Fl} (h : o = o') : o.fl e k = o'.fl e k := by rw [h]
theorem then_cong {r r' : Fl} {g : Sx} (h : r = r') : r.andThen g = r'.andThen g := by rw [h]
theorem cIf_cong {b b' : Bool} {x y : α} (h : b = b') : cIf b x y = cIf b' x y := by rw [h]
theorem gAsg_cong {o o' : Out Env} (h : o = o') : gAsg o = gAsg o' := by rw [h]
theorem noX_cong {o o' : Out D} (h : o = o') : o.noX = o'.noX := by rw [h]
theorem bv_cong {o o' : Out D} (h : o = o') : o.bv = o'.bv := by rw [h]
theorem lst_cong {o o' : Out (List D)} (h : o = o') : o.lst = o'.lst := by rw [h]
theorem loop_cong {r r' : Fl} {k : Env → S → Fl} (h : r = r') : r.loop k = r'.loop k := by rw [h]
theorem endDef_cong {s : S} {r r' : Fl} (h : r = r') : endDef s r = endDef s r' := by rw [h]
theorem endDefO_cong {s : S} {r r' : Fl} (h : r = r') : endDefO s r = endDefO s r' := by rw [h]
theorem bind_ok {a : α} {s : S} {f : α → S → Out β} : (Out.ok a s).bind f = f a s := nd rfl
theorem bind_exc {c : Nat} {vs : List D} {s : S} {f : α → S → Out β} : (Out.exc c vs s : Out α).bind f = .exc c vs s := nd rfl
theorem of_some {a : α} {s : S} : Out.of (some a) s = .ok a s := nd rfl
theorem fl_ok {a : α} {s : S} {e : Env} {k : α → S → Fl} : (Out.ok a s).fl e k = k a s := nd rfl
theorem fl_exc {c : Nat} {vs : List D} {s : S} {e : Env} {k : α → S → Fl} : (Out.exc c vs s : Out α).fl e k = .exc c vs e s := nd rfl
theorem then_next {e : Env} {s : S} {g : Sx} : (Fl.next e s).andThen g = g e s := nd rfl
theorem then_ret {d : D} {s : S} {g : Sx} : (Fl.ret d s).andThen g = .ret d s := nd rfl
theorem then_brk {e : Env} {s : S} {g : Sx} : (Fl.brk e s).andThen g = .brk e s := nd rfl
theorem then_cont {e : Env} {s : S} {g : Sx} : (Fl.cont e s).andThen g = .cont e s := nd rfl
theorem then_exc {c : Nat} {vs : List D} {e : Env} {s : S} {g : Sx} : (Fl.exc c vs e s).andThen g = .exc c vs e s := nd rfl
theorem cIf_t {x y : α} : cIf true x y = x := nd rfl
theorem cIf_f {x y : α} : cIf false x y = y := nd rfl
theorem bv_bl {b : Bool} {s : S} : (Out.ok (.bl b) s).bv = .ok b s := nd rfl
theorem bv_exc {c : Nat} {vs : List D} {s : S} : (Out.exc c vs s : Out D).bv = .exc c vs s := nd rfl
theorem noXo_ok {d : D} {s : S} : (Out.ok d s).noX = .ok d s := nd rfl
theorem lst_ok {xs : List D} {s : S} : (Out.ok xs s).lst = .ok xs s := nd rfl
theorem end_ret {s s' : S} {d : D} : endDef s (.ret d s') = fin s d s' := nd rfl
theorem end_next {s s' : S} {e : Env} : endDef s (.next e s') = .ok .non (back s s') := nd rfl
end
section
variable {e : Env} {s : S} {fa fb fc : Ex} {f g : Sx} {t u : Tx} {d x y : D} {b : Bool}
theorem r_bin {h : S → D → D → Option D} : xBin h fa fb e s = (fa e s).bind fun x s => (fb e s).bind fun y s => Out.of (h s x y) s := nd rfl
theorem r_un {h : S → D → Option D} : xUn h fa e s = (fa e s).bind fun x s => Out.of (h s x) s := nd rfl
theorem r_C : xC d e s = .ok d s := nd rfl
theorem r_val : tVal fa e s = (fa e s).bv := by
  show (fa e s).bind _ = _
  cases fa e s <;> rfl
theorem r_tr : tTr fa e s = (fa e s).bind fun x s => Out.of (truD s x) s := nd rfl
theorem r_all : tAll e s = Out.ok true s := nd rfl
theorem r_not : tNot t e s = (t e s).bind fun b s => .ok (!b) s := nd rfl
theorem r_and : tAnd t u e s = (t e s).bind fun b s => cIf b (u e s) (.ok false s) := nd rfl
theorem r_or : tOr t u e s = (t e s).bind fun b s => cIf b (.ok true s) (u e s) := nd rfl
theorem r_if : xIf t fa fb e s = (t e s).bind fun b s => cIf b (fa e s) (fb e s) := nd rfl
theorem r_andT : xAndT fa fb e s = (fa e s).bind fun x s => (Out.of (truD s x) s).bind fun b s => cIf b (fb e s) (Out.ok x s) := by
  show (fa e s).bind _ = _
  congr 1
  funext x s
  show (match truD s x with | some true => fb e s | some false => Out.ok x s | none => Out.stuck) = _
  cases truD s x with
  | none => rfl
  | some k => cases k <;> rfl
theorem r_orT : xOrT fa fb e s = (fa e s).bind fun x s => (Out.of (truD s x) s).bind fun b s => cIf b (Out.ok x s) (fb e s) := by
  show (fa e s).bind _ = _
  congr 1
  funext x s
  show (match truD s x with | some true => Out.ok x s | some false => fb e s | none => Out.stuck) = _
  cases truD s x with
  | none => rfl
  | some k => cases k <;> rfl
theorem r_notT : xNotT fa e s = (fa e s).bind fun x s => (Out.of (truD s x) s).bind fun b s => .ok (.bl (!b)) s := by
  show (fa e s).bind _ = _
  congr 1
  funext x s
  show (match truD s x with | some k => Out.ok (D.bl (!k)) s | none => Out.stuck) = _
  cases truD s x <;> rfl
def Out.ch (o : Out D) (k : S → Out D) : Out D := match o with
  | .ok z s => (match z.strip with
    | .bl true => k s
    | .bl false => .ok (.bl false) s
    | _ => .stuck)
  | .exc c vs s => .exc c vs s
  | .stuck => .stuck
theorem ch_cong {o o' : Out D} {k : S → Out D} (h : o = o') : o.ch k = o'.ch k := by rw [h]
theorem ch_bl {b : Bool} {k : S → Out D} : (Out.ok (.bl b) s).ch k = cIf b (k s) (.ok (.bl false) s) := by cases b <;> rfl
theorem r_chain {h h' : S → D → D → Option D} : xChain h h' fa fb fc e s = (fa e s).bind fun x s => (fb e s).bind fun y s => (Out.of (h s x y) s).ch fun s => (fc e s).bind fun w s => Out.of (h' s y w) s := by
  show (fa e s).bind _ = _
  congr 1
  funext x s
  show (fb e s).bind _ = _
  congr 1
  funext y s
  cases h s x y with
  | none => rfl
  | some z => rfl
theorem r_sIf : sIf t f g e s = (t e s).fl e fun b s => cIf b (f e s) (g e s) := nd rfl
theorem r_seq : sSeq f g e s = (f e s).andThen g := nd rfl
theorem r_next : sNext e s = .next e s := nd rfl
theorem r_ret : sRet fa e s = (fa e s).fl e fun d s => .ret d s := nd rfl
theorem r_retN : sRetN e s = .ret .non s := nd rfl
theorem r_cont : sCont e s = .cont e s := nd rfl
theorem r_brk : sBrk e s = .brk e s := nd rfl
theorem r_expr : sExpr fa e s = (fa e s).fl e fun _ s => .next e s := nd rfl
theorem r_raise {c : Nat} : sRaise c fa e s = (fa e s).fl e fun d s => .exc c [d] e s := nd rfl
theorem r_nil : aNil e s = .ok [] s := nd rfl
theorem r_cons {fs : Ax} : aCons fa fs e s = (fa e s).bind fun d s => (fs e s).bind fun ds s => .ok (d :: ds) s := nd rfl
theorem r_call {F : S → List D → Out D} {fs : Ax} : xCall F fs e s = (fs e s).bind fun ds s => F s ds := nd rfl
theorem r_asg {h : Gx} : sAsg fa h e s = (fa e s).fl e fun d s => gAsg (h d e s) := nd rfl
theorem r_gVar {i : Nat} : gVar i d e s = .ok (e.set i (some d)) s := nd rfl
theorem r_gTag {i : Nat} : gTag i d e s = .ok (e.set i (some (.tag s.tg d))) ⟨s.mo, s.tg + 1⟩ := nd rfl
theorem r_gAsg {e' : Env} : gAsg (.ok e' s) = .next e' s := nd rfl
theorem r_gSet : gSet fa fb d e s = (fa e s).bind fun o s => (fb e s).bind fun i s => (Out.of (mSet s o i d) s).bind fun s' _ => .ok e s' := by
  show (fa e s).bind _ = _
  congr 1
  funext o s
  show (fb e s).bind _ = _
  congr 1
  funext i s
  cases mSet s o i d <;> rfl
theorem r_gsNil : gsNil [] e s = .ok e s := nd rfl
theorem r_gsCons {h : Gx} {r : List D → Env → S → Out Env} {ds : List D} : gsCons h r (d :: ds) e s = (h d e s).bind fun e' s' => r ds e' s' := nd rfl
theorem r_gUnpT {n : Nat} {r : List D → Env → S → Out Env} {xs : List D} (h : xs.length = n) : gUnp n r (.tup xs) e s = r xs e s := if_pos h
theorem r_gUnpL {n : Nat} {r : List D → Env → S → Out Env} {xs : List D} (h : xs.length = n) : gUnp n r (.lst xs) e s = r xs e s := if_pos h
theorem r_gUnp2 {r : List D → Env → S → Out Env} : gUnp 2 r (.tup [x, y]) e s = r [x, y] e s := nd rfl
theorem r_gUnp2L {r : List D → Env → S → Out Env} : gUnp 2 r (.lst [x, y]) e s = r [x, y] e s := nd rfl
theorem r_par {i j : Nat} {a : Ax} : sPar i j a e s = (a e s).fl e fun ds s => match ds with
  | [x, y] => .next ((e.set i (some x)).set j (some y)) s
  | _ => .stuck := nd rfl
theorem r_par3 {i j l : Nat} {a : Ax} : sPar3 i j l a e s = (a e s).fl e fun ds s => match ds with
  | [x, y, z] => .next (((e.set i (some x)).set j (some y)).set l (some z)) s
  | _ => .stuck := nd rfl
theorem r_var0 {x : Option D} {r : Env} : xVar 0 (some d :: r) s = .ok d s := nd rfl
theorem r_varS {x : Option D} {r : Env} {i : Nat} : xVar (i + 1) (x :: r) s = xVar i r s := nd rfl
theorem r_noX {F : S → List D → Out D} {ds : List D} : noX F s ds = (F s ds).noX := nd rfl
theorem r_f1 {h : S → D → Option D} : f1 h s [d] = Out.of (h s d) s := nd rfl
theorem r_fz {a : Ax} : xFz a e s = (a e s).bind fun ds s => .ok (.lst ds) s := nd rfl
theorem r_own {a : Ax} : xOwn a e s = (a e s).bind fun ds s => cIf (D.lows 0 0 ds) (.ok (.ref s.mo.length) (s.own (.lst ds))) .stuck := nd rfl
theorem r_aLst {a : Ax} : aLst a e s = (a e s).bind fun xs s => cIf (decide (xs.length ≤ sizeLine)) (.ok xs s) .stuck := by
  show (a e s).bind _ = _
  congr 1
  funext xs s
  unfold cIf
  simp only [decide_eq_true_eq]
theorem r_tup {a : Ax} : xTup a e s = (a e s).bind fun xs s => cIf (decide (xs.length ≤ sizeLine)) (.ok (.tup xs) s) .stuck := by
  show (a e s).bind _ = _
  congr 1
  funext xs s
  unfold cIf
  simp only [decide_eq_true_eq]
theorem r_callN {F : S → List D → Option (List D)} {a : Ax} : aCallN F a e s = (a e s).bind fun ds s => Out.of (F s ds) s := nd rfl
theorem r_fn1 {h : S → D → Option (List D)} : fn1 h s [d] = h s d := nd rfl
theorem r_bm {chk : S → D → Bool} {m : S → D → List D → Out D} {fo : Ex} {a : Ax} : xBm chk m fo a e s = (fo e s).bind fun x s => cIf (chk s x) ((a e s).bind fun ys s => (m s x ys).noX) .stuck := nd rfl
theorem r_for {ix : Ix} {h : Gx} {body : Sx} : sFor ix h body e s = (ix e s).fl e fun w s => forRun h body w w.items e s := nd rfl
theorem r_while {n : Nat} : sWhile n t f e s = whileRun t f n e s := nd rfl
theorem r_comp {ix : Ix} {c : CT} {vs : List Nat} : aComp ix c t fa vs e s = (ix e s).bind fun w s => (compRun c t fa vs w e w.items [] s).lst := nd rfl
theorem r_xDK : xDK e s = .ok (.ref s.mo.length) (s.own (.dK [] [])) := nd rfl
theorem r_xDT : xDT e s = .ok (.ref s.mo.length) (s.own (.dT [] [])) := nd rfl
theorem r_xD0 : xD0 e s = .ok (.dct [] []) s := nd rfl
theorem r_pNo : pNo e s = .ok none s := nd rfl
theorem r_pAt : pAt fa e s = (fa e s).bind fun x s => match view s x with
  | .int i => .ok (some i) s
  | _ => .stuck := nd rfl
theorem r_slice {lo hi : Px} : xSlice fa lo hi e s = (fa e s).bind fun x s => (lo e s).bind fun l s => (hi e s).bind fun h s => Out.of (sliceD (view s x) l h) s := nd rfl
theorem r_seqIx : ixSeq fa e s = (fa e s).bind fun d s => match view s d with
  | .lst xs => .ok (wkD d xs) s
  | .tup xs => .ok ⟨xs, []⟩ s
  | .kl xs => .ok ⟨xs, []⟩ s
  | .scr ns => .ok ⟨ns.map .int, []⟩ s
  | .str z => .ok ⟨signsD z, []⟩ s
  | _ => .stuck := nd rfl
theorem r_enumIx {a : Ax} : ixEnum a e s = (a e s).bind fun ds s => match ds with
  | [d] => (match lsD s d with
    | some x => .ok ⟨enumD 0 x.1, x.2⟩ s
    | none => .stuck)
  | _ => .stuck := nd rfl
theorem r_zipIx {a : Ax} : ixZip a e s = (a e s).bind fun ds s => match ds with
  | [d, d'] => zipIx s d d'
  | _ => .stuck := nd rfl
theorem r_callK {n m : Nat} {perm : List Nat} {F : S → List D → Out D} {a k : Ax} : xCallK n m perm F a k e s = (a e s).bind fun xs s => (k e s).bind fun zs s => if xs.length = n ∧ zs.length = m then F s (kwG perm xs zs) else .stuck := nd rfl
theorem r_aug {i : Nat} {h : S → D → D → Option D} : sAug i h fa e s = match e[i]? with
  | some (some d) => (fa e s).fl e fun d1 s1 => (match h s1 d d1 with
    | some z => .next (e.set i (some z)) s1
    | none => .stuck)
  | _ => .stuck := nd rfl
end
/-! ### views of plain data -/
theorem v_non {s : S} : view s .non = .non := nd rfl
theorem v_bl {s : S} {b : Bool} : view s (.bl b) = .bl b := nd rfl
theorem v_int {s : S} {n : Int} : view s (.int n) = .int n := nd rfl
theorem v_str {s : S} {x : Str} : view s (.str x) = .str x := nd rfl
theorem v_lst {s : S} {xs : List D} : view s (.lst xs) = .lst xs := nd rfl
theorem v_tup {s : S} {xs : List D} : view s (.tup xs) = .tup xs := nd rfl
theorem v_dct {s : S} {ks vs : List D} : view s (.dct ks vs) = .dct ks vs := nd rfl
theorem v_tag {s : S} {i : Nat} {d : D} : view s (.tag i d) = view s d := nd rfl
theorem w_lst {xs : List D} : wkD (.lst xs) xs = ⟨xs, []⟩ := nd rfl
/-! ### truth -/
theorem t_bl {s : S} {b : Bool} : truD s (.bl b) = some b := nd rfl
theorem t_int {s : S} {i : Int} : truD s (.int i) = some (i != 0) := nd rfl
theorem t_lst {s : S} {xs : List D} : truD s (.lst xs) = some (!xs.isEmpty) := nd rfl
theorem t_tup {s : S} {xs : List D} : truD s (.tup xs) = some (!xs.isEmpty) := nd rfl
theorem t_non {s : S} : truD s .non = some false := nd rfl
/-! ### operations -/
theorem o_addI {s : S} {a b : Int} : gAdd s (.int a) (.int b) = some (.int (a + b)) := nd rfl
theorem o_intI {s : S} {a b : Int} {g : Int → Int → Option D} : gInt g s (.int a) (.int b) = g a b := nd rfl
theorem o_subI {a b : Int} : nSub a b = some (.int (a - b)) := nd rfl
theorem o_mulI {s : S} {a b : Int} : gMul s (.int a) (.int b) = nMul a b := nd rfl
theorem o_int1 {s : S} {a : Int} : gInt1 s (.int a) = some (.int a) := nd rfl
theorem o_negI {s : S} {a : Int} : gNeg s (.int a) = some (.int (-a)) := nd rfl
theorem o_ltI {s : S} {a b : Int} : gLt s (.int a) (.int b) = some (.bl (decide (a < b))) := nd rfl
theorem o_leI {s : S} {a b : Int} : gLe s (.int a) (.int b) = some (.bl (decide (a ≤ b))) := nd rfl
theorem o_gtI {s : S} {a b : Int} : gGt s (.int a) (.int b) = some (.bl (decide (b < a))) := nd rfl
theorem o_geI {s : S} {a b : Int} : gGe s (.int a) (.int b) = some (.bl (decide (b ≤ a))) := nd rfl
theorem o_ltS {s : S} {a b : Str} : gLt s (.str a) (.str b) = some (.bl (decide (a.cps.toList < b.cps.toList))) := nd rfl
theorem o_eqI {s : S} {a b : Int} : gEq s (.int a) (.int b) = some (.bl (decide (a = b))) := nd rfl
theorem o_neI {s : S} {a b : Int} : gNe s (.int a) (.int b) = some (.bl (!decide (a = b))) := nd rfl
theorem o_eqS {s : S} {a b : Str} : gEq s (.str a) (.str b) = some (.bl (decide (a = b))) := nd rfl
theorem o_neS {s : S} {a b : Str} : gNe s (.str a) (.str b) = some (.bl (!decide (a = b))) := nd rfl
theorem o_eqB {s : S} {a b : Bool} : gEq s (.bl a) (.bl b) = some (.bl (decide (a = b))) := by cases a <;> cases b <;> rfl
theorem o_neB {s : S} {a b : Bool} : gNe s (.bl a) (.bl b) = some (.bl (!decide (a = b))) := by cases a <;> cases b <;> rfl
theorem o_lenL {s : S} {xs : List D} : gLen s (.lst xs) = some (.int xs.length) := nd rfl
theorem o_lenT {s : S} {xs : List D} : gLen s (.tup xs) = some (.int xs.length) := nd rfl
theorem o_lenD {s : S} {ks vs : List D} : gLen s (.dct ks vs) = some (.int ks.length) := nd rfl
theorem o_tupL {s : S} {xs : List D} : gTuple s (.lst xs) = some (.tup xs) := nd rfl
theorem o_tupT {s : S} {xs : List D} : gTuple s (.tup xs) = some (.tup xs) := nd rfl
theorem o_listL {s : S} {xs : List D} : gList s (.lst xs) = some xs := nd rfl
theorem o_listT {s : S} {xs : List D} : gList s (.tup xs) = some xs := nd rfl
theorem o_catL {s : S} {xs ys : List D} (h : xs.length + ys.length ≤ sizeLine) : gAdd s (.lst xs) (.lst ys) = some (.lst (xs ++ ys)) := if_pos h
theorem o_ixL {s : S} {xs : List D} {n : Int} : gIx s (.lst xs) (.int n) = L2.atI xs n := nd rfl
theorem o_ixT {s : S} {xs : List D} {n : Int} : gIx s (.tup xs) (.int n) = L2.atI xs n := nd rfl
theorem e_isB {s : S} {a b : Bool} : gIsB s (.bl a) (.bl b) = some (.bl (decide (a = b))) := nd rfl
theorem end_retO {s s' : S} {d : D} : endDefO s (.ret d s') = finO s d s' := nd rfl
theorem ls_lst {s : S} {xs : List D} : lsD s (.lst xs) = some (xs, []) := nd rfl
theorem r_var {i : Nat} {e : Env} {s : S} : xVar i e s = match e[i]? with
  | some (some d) => .ok d s
  | _ => .stuck := nd rfl
theorem g_0 {x : Option D} {xs : Env} : (x :: xs)[0]? = some x := List.getElem?_cons_zero
theorem g_S {x : Option D} {xs : Env} {n : Nat} : (x :: xs)[n + 1]? = xs[n]? := List.getElem?_cons_succ
theorem s_0 {x y : Option D} {xs : Env} : List.set (x :: xs) 0 y = y :: xs := List.set_cons_zero
theorem s_S {x y : Option D} {xs : Env} {n : Nat} : List.set (x :: xs) (n + 1) y = x :: List.set xs n y := List.set_cons_succ
theorem wp_0 {e : Env} : wipeE e [] = e := nd rfl
theorem wp_S {e : Env} {v : Nat} {vs : List Nat} : wipeE e (v :: vs) = (wipeE e vs).set v none := nd rfl
theorem RUN : (type_of% @bind_ok) ∧ (type_of% @bind_exc) ∧ (type_of% @of_some) ∧ (type_of% @fl_ok) ∧ (type_of% @fl_exc) ∧ (type_of% @then_next) ∧ (type_of% @then_ret) ∧ (type_of% @then_brk) ∧ (type_of% @then_cont) ∧ (type_of% @then_exc) ∧ (type_of% @cIf_t) ∧ (type_of% @cIf_f) ∧ (type_of% @bv_bl) ∧ (type_of% @bv_exc) ∧ (type_of% @noXo_ok) ∧ (type_of% @lst_ok) ∧ (type_of% @end_ret) ∧ (type_of% @r_var) ∧ (type_of% @g_0) ∧ (type_of% @g_S) ∧ (type_of% @s_0) ∧ (type_of% @s_S) ∧ (type_of% @wp_0) ∧ (type_of% @wp_S) ∧  (type_of% @end_retO) ∧ (type_of% @ls_lst) ∧ (type_of% @end_next) ∧ (type_of% @r_bin) ∧ (type_of% @r_un) ∧ (type_of% @r_C) ∧ (type_of% @r_val) ∧ (type_of% @r_tr) ∧ (type_of% @r_all) ∧ (type_of% @r_not) ∧ (type_of% @r_and) ∧ (type_of% @r_or) ∧ (type_of% @r_if) ∧ (type_of% @r_andT) ∧ (type_of% @r_orT) ∧ (type_of% @r_notT) ∧ (type_of% @ch_bl) ∧ (type_of% @r_chain) ∧ (type_of% @r_sIf) ∧ (type_of% @r_seq) ∧ (type_of% @r_next) ∧ (type_of% @r_ret) ∧ (type_of% @r_retN) ∧ (type_of% @r_cont) ∧ (type_of% @r_brk) ∧ (type_of% @r_expr) ∧ (type_of% @r_raise) ∧ (type_of% @r_nil) ∧ (type_of% @r_cons) ∧ (type_of% @r_call) ∧ (type_of% @r_asg) ∧ (type_of% @r_gVar) ∧ (type_of% @r_gTag) ∧ (type_of% @r_gAsg) ∧ (type_of% @r_gSet) ∧ (type_of% @r_gsNil) ∧ (type_of% @r_gsCons) ∧ (type_of% @r_gUnp2) ∧ (type_of% @r_gUnp2L) ∧ (type_of% @r_par) ∧ (type_of% @r_par3) ∧ (type_of% @r_noX) ∧ (type_of% @r_f1) ∧ (type_of% @r_fz) ∧ (type_of% @r_own) ∧ (type_of% @r_aLst) ∧ (type_of% @r_tup) ∧ (type_of% @r_callN) ∧ (type_of% @r_fn1) ∧ (type_of% @r_bm) ∧ (type_of% @r_for) ∧ (type_of% @r_while) ∧ (type_of% @r_xDK) ∧ (type_of% @r_xDT) ∧ (type_of% @r_xD0) ∧ (type_of% @r_pNo) ∧ (type_of% @r_pAt) ∧ (type_of% @r_slice) ∧ (type_of% @r_seqIx) ∧ (type_of% @r_enumIx) ∧ (type_of% @r_zipIx) ∧ (type_of% @r_callK) ∧ (type_of% @r_aug) ∧ (type_of% @v_non) ∧ (type_of% @v_bl) ∧ (type_of% @v_int) ∧ (type_of% @v_str) ∧ (type_of% @v_lst) ∧ (type_of% @v_tup) ∧ (type_of% @v_dct) ∧ (type_of% @v_tag) ∧ (type_of% @w_lst) ∧ (type_of% @t_bl) ∧ (type_of% @t_int) ∧ (type_of% @t_lst) ∧ (type_of% @t_tup) ∧ (type_of% @t_non) ∧ (type_of% @o_addI) ∧ (type_of% @o_intI) ∧ (type_of% @o_subI) ∧ (type_of% @o_mulI) ∧ (type_of% @o_int1) ∧ (type_of% @o_negI) ∧ (type_of% @o_ltI) ∧ (type_of% @o_leI) ∧ (type_of% @o_gtI) ∧ (type_of% @o_geI) ∧ (type_of% @o_ltS) ∧ (type_of% @o_eqI) ∧ (type_of% @o_neI) ∧ (type_of% @o_eqS) ∧ (type_of% @o_neS) ∧ (type_of% @o_eqB) ∧ (type_of% @o_neB) ∧ (type_of% @o_lenL) ∧ (type_of% @o_lenT) ∧ (type_of% @o_lenD) ∧ (type_of% @o_tupL) ∧ (type_of% @o_tupT) ∧ (type_of% @o_listL) ∧ (type_of% @o_listT) ∧ (type_of% @o_ixL) ∧ (type_of% @o_ixT) ∧ (type_of% @e_isB) := ⟨@bind_ok, @bind_exc, @of_some, @fl_ok, @fl_exc, @then_next, @then_ret, @then_brk, @then_cont, @then_exc, @cIf_t, @cIf_f, @bv_bl, @bv_exc, @noXo_ok, @lst_ok, @end_ret, @r_var, @g_0, @g_S, @s_0, @s_S, @wp_0, @wp_S, @end_retO, @ls_lst, @end_next, @r_bin, @r_un, @r_C, @r_val, @r_tr, @r_all, @r_not, @r_and, @r_or, @r_if, @r_andT, @r_orT, @r_notT, @ch_bl, @r_chain, @r_sIf, @r_seq, @r_next, @r_ret, @r_retN, @r_cont, @r_brk, @r_expr, @r_raise, @r_nil, @r_cons, @r_call, @r_asg, @r_gVar, @r_gTag, @r_gAsg, @r_gSet, @r_gsNil, @r_gsCons, @r_gUnp2, @r_gUnp2L, @r_par, @r_par3, @r_noX, @r_f1, @r_fz, @r_own, @r_aLst, @r_tup, @r_callN, @r_fn1, @r_bm, @r_for, @r_while, @r_xDK, @r_xDT, @r_xD0, @r_pNo, @r_pAt, @r_slice, @r_seqIx, @r_enumIx, @r_zipIx, @r_callK, @r_aug, @v_non, @v_bl, @v_int, @v_str, @v_lst, @v_tup, @v_dct, @v_tag, @w_lst, @t_bl, @t_int, @t_lst, @t_tup, @t_non, @o_addI, @o_intI, @o_subI, @o_mulI, @o_int1, @o_negI, @o_ltI, @o_leI, @o_gtI, @o_geI, @o_ltS, @o_eqI, @o_neI, @o_eqS, @o_neS, @o_eqB, @o_neB, @o_lenL, @o_lenT, @o_lenD, @o_tupL, @o_tupT, @o_listL, @o_listT, @o_ixL, @o_ixT, @e_isB⟩
end DV
end
section
set_option Elab.async false
set_option linter.all false
set_option maxRecDepth 100000
set_option maxHeartbeats 2000000
/-! PD: objects that change, seen from the plain side; loops and comprehensions by invariants; values. -/
namespace DV
open PySem PySem.Spec PyProof.Rows
/-! ### own lists -/
section
variable {s : S} {i j : Nat} {xs : List D} {o : MO}
theorem view_refL (h : s.mo[i]? = some (.lst xs)) : view s (.ref i) = .lst xs := by
  show (match s.mo[i]? with
    | some (.lst xs) => D.lst xs
    | some (.dK ks vs) => .dct ks vs
    | some (.dT ks vs) => .dct ks vs
    | some (.ins c vs) => .inst c vs
    | _ => .ref i) = _
  rw [h]
theorem view_refK {ks vs : List D} (h : s.mo[i]? = some (.dK ks vs)) : view s (.ref i) = .dct ks vs := by
  show (match s.mo[i]? with
    | some (.lst xs) => D.lst xs
    | some (.dK ks vs) => .dct ks vs
    | some (.dT ks vs) => .dct ks vs
    | some (.ins c vs) => .inst c vs
    | _ => .ref i) = _
  rw [h]
theorem view_refI {c : Nat} {vs : List D} (h : s.mo[i]? = some (.ins c vs)) : view s (.ref i) = .inst c vs := by
  show (match s.mo[i]? with
    | some (.lst xs) => D.lst xs
    | some (.dK ks vs) => .dct ks vs
    | some (.dT ks vs) => .dct ks vs
    | some (.ins c vs) => .inst c vs
    | _ => .ref i) = _
  rw [h]
theorem dct_refL (h : s.mo[i]? = some (.lst xs)) : dctD s (.ref i) = none := by
  show (match s.mo[i]? with
    | some (.dK ks vs) => some (ks, vs, false)
    | some (.dT ks vs) => some (ks, vs, true)
    | _ => none) = _
  rw [h]
theorem dct_refK {ks vs : List D} (h : s.mo[i]? = some (.dK ks vs)) : dctD s (.ref i) = some (ks, vs, false) := by
  show (match s.mo[i]? with
    | some (.dK ks vs) => some (ks, vs, false)
    | some (.dT ks vs) => some (ks, vs, true)
    | _ => none) = _
  rw [h]
theorem dct_refT {ks vs : List D} (h : s.mo[i]? = some (.dT ks vs)) : dctD s (.ref i) = some (ks, vs, true) := by
  show (match s.mo[i]? with
    | some (.dK ks vs) => some (ks, vs, false)
    | some (.dT ks vs) => some (ks, vs, true)
    | _ => none) = _
  rw [h]
theorem ix_refL {n : Int} (h : s.mo[i]? = some (.lst xs)) : gIx s (.ref i) (.int n) = L2.atI xs n := by
  unfold gIx
  rw [dct_refL h]
  show ixD (view s (.ref i)) n = _
  rw [view_refL h]
  rfl
theorem len_refL (h : s.mo[i]? = some (.lst xs)) : gLen s (.ref i) = some (.int xs.length) := by
  unfold gLen
  rw [view_refL h]
  rfl
theorem len_refK {ks vs : List D} (h : s.mo[i]? = some (.dK ks vs)) : gLen s (.ref i) = some (.int ks.length) := by
  unfold gLen
  rw [view_refK h]
theorem list_refL (h : s.mo[i]? = some (.lst xs)) : gList s (.ref i) = some xs := by
  unfold gList
  rw [dct_refL h]
  show (match view s (.ref i) with | .str z => _ | v => seqD v) = _
  rw [view_refL h]
  rfl
theorem list_refK {ks vs : List D} (h : s.mo[i]? = some (.dK ks vs)) : gList s (.ref i) = some ks := by
  unfold gList
  rw [dct_refK h]
theorem isLst_refL (h : s.mo[i]? = some (.lst xs)) : isLst s (.ref i) = true := by
  unfold isLst
  rw [view_refL h]
  rfl
theorem ownL_ref (h : s.mo[i]? = some (.lst xs)) : ownL s (.ref i) = some (i, xs) := by
  show (match s.mo[i]? with
    | some (.lst xs) => some (i, xs)
    | _ => none) = _
  rw [h]
theorem tru_refL (h : s.mo[i]? = some (.lst xs)) : truD s (.ref i) = some (!xs.isEmpty) := by
  unfold truD
  rw [dct_refL h]
  show (view s (.ref i)).tru = _
  rw [view_refL h]
  rfl
theorem tru_refK {ks vs : List D} (h : s.mo[i]? = some (.dK ks vs)) : truD s (.ref i) = some (!ks.isEmpty) := by
  unfold truD
  rw [dct_refK h]
theorem append_ref {y : D} (h : s.mo[i]? = some (.lst xs)) (hl : xs.length < sizeLine) (hy : y.low 0 0 = true) : mAppend s (.ref i) [y] = .ok .non (s.put i (.lst (xs ++ [y]))) := by
  unfold mAppend
  rw [ownL_ref h]
  exact if_pos ⟨hl, hy⟩
theorem set_refL {n : Nat} {k : Int} {v : D} (h : s.mo[i]? = some (.lst xs)) (hk : L2.ixN xs.length k = some n) (hv : v.low 0 0 = true) : mSet s (.ref i) (.int k) v = some (s.put i (.lst (xs.set n v))) := by
  show (match s.mo[i]? with
    | some (.lst xs) => (match view s (.int k) with
      | .int k => (match L2.ixN xs.length k with
        | some n => if v.low 0 0 = true then some (s.put i (.lst (xs.set n v))) else none
        | none => none)
      | _ => none)
    | some (.dK ks vs) => _
    | some (.dT ks vs) => _
    | _ => _) = _
  rw [h]
  show (match L2.ixN xs.length k with
        | some n => if v.low 0 0 = true then some (s.put i (.lst (xs.set n v))) else none
        | none => none) = _
  rw [hk]
  exact if_pos hv
theorem set_refK {ks vs : List D} {q : L2.Key} {v k : D} (h : s.mo[i]? = some (.dK ks vs)) (hk : kD k = some q) (hl : ks.length < sizeLine) (hv : v.low 0 0 = true) : mSet s (.ref i) k v = some (s.put i (.dK (putKD ks vs q v).1 (putKD ks vs q v).2)) := by
  show (match s.mo[i]? with
    | some (.lst xs) => _
    | some (.dK ks vs) => (match kD k with
      | some q => if ks.length < sizeLine ∧ v.low 0 0 = true then some (s.put i (.dK (putKD ks vs q v).1 (putKD ks vs q v).2)) else none
      | none => none)
    | some (.dT ks vs) => _
    | _ => _) = _
  rw [h]
  show (match kD k with
      | some q => if ks.length < sizeLine ∧ v.low 0 0 = true then some (s.put i (.dK (putKD ks vs q v).1 (putKD ks vs q v).2)) else none
      | none => none) = _
  rw [hk]
  exact if_pos ⟨hl, hv⟩
theorem set_refT {ks vs : List D} {q : List L2.Key} {v k : D} (h : s.mo[i]? = some (.dT ks vs)) (hk : kTD k = some q) (hl : ks.length < sizeLine) (hv : v.low 0 0 = true) : mSet s (.ref i) k v = some (s.put i (.dT (putTD ks vs q v).1 (putTD ks vs q v).2)) := by
  show (match s.mo[i]? with
    | some (.lst xs) => _
    | some (.dK ks vs) => _
    | some (.dT ks vs) => (match kTD k with
      | some q => if ks.length < sizeLine ∧ v.low 0 0 = true then some (s.put i (.dT (putTD ks vs q v).1 (putTD ks vs q v).2)) else none
      | none => none)
    | _ => _) = _
  rw [h]
  show (match kTD k with
      | some q => if ks.length < sizeLine ∧ v.low 0 0 = true then some (s.put i (.dT (putTD ks vs q v).1 (putTD ks vs q v).2)) else none
      | none => none) = _
  rw [hk]
  exact if_pos ⟨hl, hv⟩
theorem put_get {o' : MO} (h : s.mo[i]? = some o) : (s.put i o').mo[i]? = some o' := by
  show (s.mo.set i o')[i]? = _
  exact List.getElem?_set_self (List.getElem?_eq_some_iff.mp h).1
theorem put_ne (h : i ≠ j) : (s.put i o).mo[j]? = s.mo[j]? := List.getElem?_set_ne h
theorem put_len : (s.put i o).mo.length = s.mo.length := List.length_set
theorem put_tg : (s.put i o).tg = s.tg := rfl
theorem put_put {o' : MO} : (s.put i o).put i o' = s.put i o' := by
  unfold S.put
  congr 1
  exact List.set_set ..
theorem back_put : back s (s.put i o) = s.put i o := by
  unfold back
  rw [show s.mo.length = (s.put i o).mo.length from put_len.symm, List.take_length]
theorem back_self : back s s = s := by
  unfold back
  rw [List.take_length]
theorem own_get : (s.own o).mo[s.mo.length]? = some o := by
  show (s.mo ++ [o])[s.mo.length]? = some o
  rw [List.getElem?_append_right (Nat.le_refl _), Nat.sub_self]
  rfl
theorem own_old (h : i < s.mo.length) : (s.own o).mo[i]? = s.mo[i]? := List.getElem?_append_left h
theorem own_len : (s.own o).mo.length = s.mo.length + 1 := by
  show (s.mo ++ [o]).length = _
  simp
theorem own_tg : (s.own o).tg = s.tg := rfl
theorem mo_lt (h : s.mo[i]? = some o) : i < s.mo.length := (List.getElem?_eq_some_iff.mp h).1
/-- the frame's own object is forgotten -/
theorem back_own {s' : S} (h : s'.mo.take s.mo.length = s.mo) (ht : s'.tg = s.tg := by first | rfl | assumption) : back s s' = s := by
  unfold back
  rw [h, ht]
end
/-! ### the end of a def -/
theorem run_def {n nN : Nat} {f : Sx} {s : S} {ds : List D} (h : ds.length = n) : runDef n nN f s ds = endDef s (f (ds.map some ++ List.replicate (nN - ds.length) none) s) := if_pos h
theorem run_defO {n nN : Nat} {f : Sx} {s : S} {ds : List D} (h : ds.length = n) : runDefO n nN f s ds = endDefO s (f (ds.map some ++ List.replicate (nN - ds.length) none) s) := if_pos h
theorem fin_of {s s' : S} {d : D} (h1 : fzD s.mo.length s' d = some d) (h2 : d.low s.mo.length s.tg = true) : fin s d s' = .ok d (back s s') := by
  unfold fin
  rw [h1]
  exact if_pos h2
theorem fin_int {s s' : S} {k : Int} : fin s (.int k) s' = .ok (.int k) (back s s') := rfl
theorem fin_bl {s s' : S} {k : Bool} : fin s (.bl k) s' = .ok (.bl k) (back s s') := rfl
theorem fin_non {s s' : S} : fin s .non s' = .ok .non (back s s') := rfl
theorem fin_str {s s' : S} {x : Str} : fin s (.str x) s' = .ok (.str x) (back s s') := rfl
theorem fin_lst {s s' : S} {xs : List D} (h : D.lows s.mo.length s.tg xs = true) : fin s (.lst xs) s' = .ok (.lst xs) (back s s') := fin_of rfl h
theorem fin_tup {s s' : S} {xs : List D} (h : D.lows s.mo.length s.tg xs = true) : fin s (.tup xs) s' = .ok (.tup xs) (back s s') := fin_of rfl h
theorem finO_own {s : S} {o : MO} (h : o.live = true) : finO s (.ref s.mo.length) (s.own o) = .ok (.ref s.mo.length) (s.own o) := by
  have e : finO s (.ref s.mo.length) (s.own o) = if s.mo.length < s.mo.length then fin s (.ref s.mo.length) (s.own o) else match (s.own o).mo[s.mo.length]? with
    | some o' => if o'.live = true then .ok (.ref s.mo.length) ⟨(s.own o).mo.take s.mo.length ++ [o'], s.tg⟩ else .stuck
    | none => .stuck := rfl
  rw [e, if_neg (Nat.lt_irrefl _), own_get]
  show (if o.live = true then Out.ok (D.ref s.mo.length) ⟨(s.own o).mo.take s.mo.length ++ [o], s.tg⟩ else .stuck) = _
  rw [if_pos h]
  congr 1
  unfold S.own
  congr 1
  rw [List.take_left]
theorem RUN2 : (type_of% @fin_int) ∧ (type_of% @fin_bl) ∧ (type_of% @fin_non) ∧ (type_of% @fin_str) ∧ (type_of% @back_self) ∧ (type_of% @back_put) := ⟨@fin_int, @fin_bl, @fin_non, @fin_str, @back_self, @back_put⟩
/-! ### low -/
theorem low_all {n t : Nat} : ∀ xs : List D, D.lows n t xs = true ↔ ∀ x ∈ xs, x.low n t = true
  | [] => ⟨fun _ x hx => by simp at hx, fun _ => rfl⟩
  | x :: xs => by
    show (x.low n t && D.lows n t xs) = true ↔ _
    rw [Bool.and_eq_true, low_all xs]
    simp
mutual
theorem low_mono {n t n' t' : Nat} (hn : n ≤ n') (ht : t ≤ t') : ∀ d : D, d.low n t = true → d.low n' t' = true
  | .non, _ => rfl
  | .bl _, _ => rfl
  | .int _, _ => rfl
  | .str _, _ => rfl
  | .lst xs, h => lows_mono hn ht xs h
  | .tup xs, h => lows_mono hn ht xs h
  | .dct ks vs, h => by
    have h2 := Bool.and_eq_true_iff.mp (show (D.lows n t ks && D.lows n t vs) = true from h)
    exact Bool.and_eq_true_iff.mpr ⟨lows_mono hn ht ks h2.1, lows_mono hn ht vs h2.2⟩
  | .ref i, h => decide_eq_true (Nat.lt_of_lt_of_le (of_decide_eq_true h) hn)
  | .inst _ vs, h => lows_mono hn ht vs h
  | .fn _, _ => rfl
  | .tag i d, h => low_mono (t := t) (t' := t') hn ht d h
  | .exn _ vs, h => lows_mono hn ht vs h
  | .lam _ _, h => nomatch h
  | .scr _, _ => rfl
  | .kl xs, h => lows_mono hn ht xs h
theorem lows_mono {n t n' t' : Nat} (hn : n ≤ n') (ht : t ≤ t') : ∀ ds : List D, D.lows n t ds = true → D.lows n' t' ds = true
  | [], _ => rfl
  | d :: ds, h => by
    have h2 := Bool.and_eq_true_iff.mp (show (d.low n t && D.lows n t ds) = true from h)
    exact Bool.and_eq_true_iff.mpr ⟨low_mono hn ht d h2.1, lows_mono hn ht ds h2.2⟩
end
theorem low0 {d : D} {n t : Nat} (h : d.low 0 0 = true) : d.low n t = true := low_mono (Nat.zero_le _) (Nat.zero_le _) d h
theorem lows0 {ds : List D} {n t : Nat} (h : D.lows 0 0 ds = true) : D.lows n t ds = true := lows_mono (Nat.zero_le _) (Nat.zero_le _) ds h
theorem lows_map {α : Type} {n t : Nat} {f : α → D} {xs : List α} (h : ∀ x ∈ xs, (f x).low n t = true) : D.lows n t (xs.map f) = true := by
  rw [low_all]
  intro d hd
  obtain ⟨x, hx, rfl⟩ := List.mem_map.mp hd
  exact h x hx
theorem lows_append {n t : Nat} {xs ys : List D} (h1 : D.lows n t xs = true) (h2 : D.lows n t ys = true) : D.lows n t (xs ++ ys) = true := by
  rw [low_all] at *
  intro d hd
  rcases List.mem_append.mp hd with h | h
  · exact h1 d h
  · exact h2 d h
/-! ### comprehensions -/
theorem comp_inv {c : CT} {t : Tx} {f : Ex} {vs : List Nat} {w : Wk} {e : Env} (P : List D → List D → S → Prop) (hw : ∀ ds acc s, P ds acc s → w.same s)
    (st : ∀ d ds acc s, P (d :: ds) acc s → ∃ e1, c.bind d (wipeE e vs) s = some e1 ∧ ∃ b s1, t e1 s = .ok b s1 ∧ (b = true → ∃ y s2, f e1 s1 = .ok y s2 ∧ acc.length < PySem.sizeLine ∧ P ds (acc ++ [y]) s2) ∧ (b = false → P ds acc s1)) :
    ∀ ds acc s, P ds acc s → ∃ acc' s', compRun c t f vs w e ds acc s = .ok acc' s' ∧ P [] acc' s'
  | [], acc, s, h => by
    refine ⟨acc, s, ?_, h⟩
    unfold compRun
    rw [if_pos (hw _ _ _ h)]
  | d :: ds, acc, s, h => by
    obtain ⟨e1, h1, b, s1, h2, h3, h4⟩ := st d ds acc s h
    cases b with
    | true =>
      obtain ⟨y, s2, h5, h6, h7⟩ := h3 rfl
      obtain ⟨acc', s', h8, h9⟩ := comp_inv P hw st ds (acc ++ [y]) s2 h7
      refine ⟨acc', s', ?_, h9⟩
      unfold compRun
      rw [if_pos (hw _ _ _ h), h1]
      show (t e1 s).bind _ = _
      rw [h2, bind_ok, if_pos rfl, h5, bind_ok, if_pos h6, h8]
    | false =>
      obtain ⟨acc', s', h8, h9⟩ := comp_inv P hw st ds acc s1 (h4 rfl)
      refine ⟨acc', s', ?_, h9⟩
      unfold compRun
      rw [if_pos (hw _ _ _ h), h1]
      show (t e1 s).bind _ = _
      rw [h2, bind_ok, if_neg (by simp), h8]
/-- items that change nothing -/
theorem comp_pure {c : CT} {t : Tx} {f : Ex} {vs : List Nat} {w : Wk} {e : Env} {s : S} (p : D → Bool) (g : D → D) (hw : w.same s) : ∀ (ds acc : List D), acc.length + ds.length ≤ PySem.sizeLine →
    (∀ d ∈ ds, ∃ e1, c.bind d (wipeE e vs) s = some e1 ∧ t e1 s = .ok (p d) s ∧ (p d = true → f e1 s = .ok (g d) s)) →
    compRun c t f vs w e ds acc s = .ok (acc ++ (ds.filter p).map g) s
  | [], acc, hl, st => by
    unfold compRun
    rw [if_pos hw]
    simp
  | d :: ds, acc, hl, st => by
    have hl : acc.length + (ds.length + 1) ≤ PySem.sizeLine := hl
    obtain ⟨e1, h1, h2, h3⟩ := st d List.mem_cons_self
    have st2 := fun d' hd' => st d' (List.mem_cons_of_mem _ hd')
    unfold compRun
    rw [if_pos hw, h1]
    show (t e1 s).bind _ = _
    rw [h2, bind_ok]
    cases hp : p d with
    | true =>
      rw [if_pos rfl, h3 hp, bind_ok, if_pos (by omega), comp_pure p g hw ds (acc ++ [g d]) (by rw [List.length_append, List.length_singleton]; omega) st2, List.filter_cons_of_pos hp]
      simp
    | false =>
      rw [if_neg (by simp), comp_pure p g hw ds acc (by omega) st2, List.filter_cons_of_neg (by simp [hp])]
theorem same_nil {s : S} {xs : List D} : (⟨xs, []⟩ : Wk).same s := fun p hp => by cases hp
/-- [g(x) for x in xs if p(x)] over what does not change -/
theorem aComp_if {ix : Ix} {c : CT} {t : Tx} {f : Ex} {vs : List Nat} {e : Env} {s : S} (ds : List D) (p : D → Bool) (g : D → D) (hix : ix e s = .ok ⟨ds, []⟩ s) (hl : ds.length ≤ PySem.sizeLine)
    (st : ∀ d ∈ ds, ∃ e1, c.bind d (wipeE e vs) s = some e1 ∧ t e1 s = .ok (p d) s ∧ (p d = true → f e1 s = .ok (g d) s)) : aComp ix c t f vs e s = .ok ((ds.filter p).map g) s := by
  rw [r_comp, hix, bind_ok, comp_pure p g same_nil ds [] (by simpa using hl) st]
  rfl
theorem aComp_map {ix : Ix} {c : CT} {f : Ex} {vs : List Nat} {e : Env} {s : S} (ds : List D) (g : D → D) (hix : ix e s = .ok ⟨ds, []⟩ s) (hl : ds.length ≤ PySem.sizeLine)
    (st : ∀ d ∈ ds, ∃ e1, c.bind d (wipeE e vs) s = some e1 ∧ f e1 s = .ok (g d) s) : aComp ix c tAll f vs e s = .ok (ds.map g) s := by
  rw [aComp_if (c := c) (t := tAll) (f := f) (vs := vs) ds (fun _ => true) g hix hl fun d hd => by
    obtain ⟨e1, h1, h2⟩ := st d hd
    exact ⟨e1, h1, rfl, fun _ => h2⟩]
  rw [List.filter_eq_self.mpr fun _ _ => rfl]
/-- .. where what is walked changes the state -/
theorem aComp_ifS {ix : Ix} {c : CT} {t : Tx} {f : Ex} {vs : List Nat} {e : Env} {s s1 : S} (ds : List D) (p : D → Bool) (g : D → D) (hix : ix e s = .ok ⟨ds, []⟩ s1) (hl : ds.length ≤ PySem.sizeLine)
    (st : ∀ d ∈ ds, ∃ e1, c.bind d (wipeE e vs) s1 = some e1 ∧ t e1 s1 = .ok (p d) s1 ∧ (p d = true → f e1 s1 = .ok (g d) s1)) : aComp ix c t f vs e s = .ok ((ds.filter p).map g) s1 := by
  rw [r_comp, hix, bind_ok, comp_pure p g same_nil ds [] (by simpa using hl) st]
  rfl
theorem aComp_mapS {ix : Ix} {c : CT} {f : Ex} {vs : List Nat} {e : Env} {s s1 : S} (ds : List D) (g : D → D) (hix : ix e s = .ok ⟨ds, []⟩ s1) (hl : ds.length ≤ PySem.sizeLine)
    (st : ∀ d ∈ ds, ∃ e1, c.bind d (wipeE e vs) s1 = some e1 ∧ f e1 s1 = .ok (g d) s1) : aComp ix c tAll f vs e s = .ok (ds.map g) s1 := by
  rw [aComp_ifS (c := c) (t := tAll) (f := f) (vs := vs) ds (fun _ => true) g hix hl fun d hd => by
    obtain ⟨e1, h1, h2⟩ := st d hd
    exact ⟨e1, h1, rfl, fun _ => h2⟩]
  rw [List.filter_eq_self.mpr fun _ _ => rfl]
/-- items as values of a type of their own -/
theorem aComp_mapE {α β : Type} {ix : Ix} {c : CT} {f : Ex} {vs : List Nat} {e : Env} {s s1 : S} (xs : List α) (en : α → D) (g : α → β) (eo : β → D) (hix : ix e s = .ok ⟨xs.map en, []⟩ s1) (hl : xs.length ≤ PySem.sizeLine)
    (st : ∀ x ∈ xs, ∃ e1, c.bind (en x) (wipeE e vs) s1 = some e1 ∧ f e1 s1 = .ok (eo (g x)) s1) : aComp ix c tAll f vs e s = .ok ((xs.map g).map eo) s1 := by
  rw [r_comp, hix, bind_ok]
  have key : ∀ (ys : List α) (acc : List D), acc.length + ys.length ≤ PySem.sizeLine → (∀ x ∈ ys, ∃ e1, c.bind (en x) (wipeE e vs) s1 = some e1 ∧ f e1 s1 = .ok (eo (g x)) s1) → ∀ w : Wk, w.src = [] → compRun c tAll f vs w e (ys.map en) acc s1 = .ok (acc ++ (ys.map g).map eo) s1 := fun ys => by
    induction ys with
    | nil =>
      intro acc _ _ w hw
      have sm : w.same s1 := fun p hp => by rw [hw] at hp; cases hp
      unfold compRun
      rw [List.map_nil]
      show (if w.same s1 then Out.ok acc s1 else .stuck) = _
      rw [if_pos sm, List.map_nil, List.map_nil, List.append_nil]
    | cons x ys ih =>
      intro acc hl st w hw
      have hl : acc.length + (ys.length + 1) ≤ PySem.sizeLine := hl
      have sm : w.same s1 := fun p hp => by rw [hw] at hp; cases hp
      obtain ⟨e1, h1, h2⟩ := st x List.mem_cons_self
      rw [List.map_cons]
      unfold compRun
      rw [if_pos sm, h1]
      show (tAll e1 s1).bind _ = _
      rw [r_all, bind_ok, if_pos rfl, h2, bind_ok, if_pos (by omega), ih _ (by rw [List.length_append, List.length_singleton]; omega) (fun y hy => st y (List.mem_cons_of_mem _ hy)) w hw]
      simp
  rw [show (⟨xs.map en, []⟩ : Wk).items = xs.map en from rfl, key xs [] (by simpa using hl) st _ rfl]
  rfl
theorem all_map {α : Type} {s : S} {xs : List α} {q : α → Bool} : gAll s (.lst (xs.map fun d => .bl (q d))) = some (.bl (xs.all q)) := by
  have h : ∀ xs : List α, blsD (xs.map fun d => .bl (q d)) = some (xs.map q) := fun xs => by
    induction xs with
    | nil => rfl
    | cons x xs ih =>
      show (match (D.bl (q x)).strip, blsD (xs.map fun d => .bl (q d)) with
        | .bl b, some bs => some (b :: bs)
        | _, _ => none) = _
      rw [ih]
      rfl
  unfold gAll
  show ((blsD (xs.map fun d => .bl (q d)))).map _ = _
  rw [h]
  show some (D.bl _) = _
  rw [List.all_map]
  rfl
/-! ### loops -/
theorem for_inv {g : Gx} {body : Sx} {w : Wk} (P : List D → Env → S → Prop) (R : Fl → Prop) (hw : ∀ ds e s, P ds e s → w.same s)
    (st : ∀ d ds e s, P (d :: ds) e s → ∃ e1 s1, g d e s = .ok e1 s1 ∧ ((∃ e2 s2, (body e1 s1 = .next e2 s2 ∨ body e1 s1 = .cont e2 s2) ∧ P ds e2 s2) ∨ (∃ r s2, body e1 s1 = .ret r s2 ∧ R (.ret r s2)) ∨ (∃ e2 s2, body e1 s1 = .brk e2 s2 ∧ R (.next e2 s2))))
    (fi : ∀ e s, P [] e s → R (.next e s)) : ∀ ds e s, P ds e s → R (forRun g body w ds e s)
  | [], e, s, h => by
    unfold forRun
    rw [if_pos (hw _ _ _ h)]
    exact fi e s h
  | d :: ds, e, s, h => by
    unfold forRun
    rw [if_pos (hw _ _ _ h)]
    obtain ⟨e1, s1, h1, h2⟩ := st d ds e s h
    rw [h1]
    show R ((body e1 s1).loop (forRun g body w ds))
    rcases h2 with ⟨e2, s2, h3, h4⟩ | ⟨r, s2, h3, h4⟩ | ⟨e2, s2, h3, h4⟩
    · rcases h3 with h3 | h3
      · rw [h3]
        exact for_inv P R hw st fi ds e2 s2 h4
      · rw [h3]
        exact for_inv P R hw st fi ds e2 s2 h4
    · rw [h3]
      exact h4
    · rw [h3]
      exact h4
/-- a for that is never left: what holds of the items left -/
theorem for_run {g : Gx} {body : Sx} {w : Wk} {e : Env} {s : S} {ds : List D} (P : List D → Env → S → Prop) (h0 : P ds e s) (hw : ∀ ds e s, P ds e s → w.same s)
    (st : ∀ d ds e s, P (d :: ds) e s → ∃ e1 s1, g d e s = .ok e1 s1 ∧ ∃ e2 s2, body e1 s1 = .next e2 s2 ∧ P ds e2 s2) : ∃ e' s', forRun g body w ds e s = .next e' s' ∧ P [] e' s' :=
  for_inv (w := w) P (fun r => ∃ e' s', r = .next e' s' ∧ P [] e' s') hw (fun d ds e s h => by
    obtain ⟨e1, s1, h1, e2, s2, h2, h3⟩ := st d ds e s h
    exact ⟨e1, s1, h1, .inl ⟨e2, s2, .inl h2, h3⟩⟩) (fun e s h => ⟨e, s, rfl, h⟩) ds e s h0
theorem while_inv {t : Tx} {body : Sx} (P : Nat → Env → S → Prop) (R : Fl → Prop)
    (st : ∀ n e s, P n e s → ∃ b s1, t e s = .ok b s1 ∧ (b = false → R (.next e s1)) ∧ (b = true → (∃ m e2 s2, m < n ∧ (body e s1 = .next e2 s2 ∨ body e s1 = .cont e2 s2) ∧ P m e2 s2) ∨ (∃ r s2, body e s1 = .ret r s2 ∧ R (.ret r s2)))) :
    ∀ k n e s, P n e s → n < k → R (whileRun t body k e s)
  | 0, n, e, s, h, z => absurd z (Nat.not_lt_zero n)
  | k + 1, n, e, s, h, z => by
    obtain ⟨b, s1, h1, h2, h3⟩ := st n e s h
    unfold whileRun
    rw [h1]
    show R (if b = true then (body e s1).loop (whileRun t body k) else .next e s1)
    cases b with
    | false => exact h2 rfl
    | true =>
      rw [if_pos rfl]
      rcases h3 rfl with ⟨m, e2, s2, hm, h4, h5⟩ | ⟨r, s2, h4, h5⟩
      · have hk : m < k := by omega
        rcases h4 with h4 | h4
        · rw [h4]
          exact while_inv P R st k m e2 s2 h5 hk
        · rw [h4]
          exact while_inv P R st k m e2 s2 h5 hk
      · rw [h4]
        exact h5
/-! ### indices, numbers -/
theorem at0 {x : D} {xs : List D} : L2.atI (x :: xs) 0 = some x := by
  unfold L2.atI L2.ixN
  simp
theorem at1 {x y : D} {xs : List D} : L2.atI (x :: y :: xs) 1 = some y := by
  unfold L2.atI L2.ixN
  rw [if_pos (by decide), if_pos (by simp; omega)]
  rfl
theorem at2 {x y z : D} {xs : List D} : L2.atI (x :: y :: z :: xs) 2 = some z := by
  unfold L2.atI L2.ixN
  rw [if_pos (by decide), if_pos (by simp; omega)]
  rfl
theorem atI_nat {α : Type} {xs : List α} {n : Nat} {k : Int} (hk : k = n) (h : n < xs.length) : L2.atI xs k = some xs[n] := by
  subst hk
  unfold L2.atI L2.ixN
  rw [if_pos (by omega), if_pos (by omega)]
  show xs[(n : Int).toNat]? = _
  rw [Int.toNat_natCast]
  exact List.getElem?_eq_getElem h
theorem atI_lst {α : Type} {xs : List α} {k : Int} (h0 : 0 ≤ k) (h1 : k < xs.length) : ∃ x, L2.atI xs k = some x ∧ x ∈ xs := by
  have hl : k.toNat < xs.length := by omega
  exact ⟨xs[k.toNat], atI_nat (by omega) hl, List.getElem_mem hl⟩
theorem pow3 {i : Int} (h : i.natAbs < 2 ^ 64) : nPow i 3 = some (.int (i ^ 3)) := by
  unfold nPow
  rw [if_pos ⟨by decide, by decide, h⟩]
  rfl
theorem mod_pos {i j : Int} (h : 0 < j) : nMod i j = some (.int (i.fmod j)) := by
  unfold nMod
  rw [if_pos (by omega)]
theorem div_ok {i j : Int} (h : j ≠ 0) (h2 : j.natAbs.log2 < 9000) : nDiv i j = some (.int (i.fdiv j)) := by
  unfold nDiv
  rw [if_pos ⟨h, h2⟩]
theorem div_pos {i j : Int} (h : 0 < j) (h2 : j.natAbs.log2 < 9000) : nDiv i j = some (.int (i.fdiv j)) := div_ok (by omega) h2
theorem mul_small {i j : Int} (h : i.natAbs.log2 + j.natAbs.log2 < 100000000) : nMul i j = some (.int (i * j)) := by
  unfold nMul
  rw [if_pos h]
theorem log2_lt {n k : Nat} (h : n < 2 ^ k) (hk : 0 < k) : n.log2 < k := by
  by_cases h0 : n = 0
  · subst h0
    simpa using hk
  · exact (Nat.log2_lt h0).mpr h
theorem line : sizeLine = 16777216 := rfl
/-- range(n) -/
theorem rng1 {e : Env} {s : S} {n : Nat} {a : Ax} (ha : a e s = .ok [.int (n : Int)] s) (h : n < 2 ^ 30) : ixRng1 a e s = .ok ⟨rngD 0 n, []⟩ s := by
  unfold ixRng1
  rw [ha, bind_ok]
  show (if -(2 ^ 62) ≤ (n : Int) ∧ (n : Int) < 2 ^ 62 then Out.ok (⟨rngD 0 (n : Int).toNat, []⟩ : Wk) s else .stuck) = _
  have c : -(2 ^ 62) ≤ (n : Int) ∧ (n : Int) < 2 ^ 62 := by omega
  rw [if_pos c, Int.toNat_natCast]
theorem rng2 {e : Env} {s : S} {m n : Nat} {a : Ax} (ha : a e s = .ok [.int (m : Int), .int (n : Int)] s) (hm : m < 2 ^ 30) (h : n < 2 ^ 30) : ixRng2 a e s = .ok ⟨rngD (m : Int) (n - m), []⟩ s := by
  unfold ixRng2
  rw [ha, bind_ok]
  show (if -(2 ^ 62) ≤ (m : Int) ∧ (m : Int) < 2 ^ 62 ∧ -(2 ^ 62) ≤ (n : Int) ∧ (n : Int) < 2 ^ 62 then Out.ok (⟨rngD (m : Int) ((n : Int) - (m : Int)).toNat, []⟩ : Wk) s else .stuck) = _
  have c : -(2 ^ 62) ≤ (m : Int) ∧ (m : Int) < 2 ^ 62 ∧ -(2 ^ 62) ≤ (n : Int) ∧ (n : Int) < 2 ^ 62 := by omega
  rw [if_pos c, show ((n : Int) - (m : Int)).toNat = n - m by omega]
theorem rng_len {k : Int} {n : Nat} : (rngD k n).length = n := by
  unfold rngD
  simp
theorem rng_mem {k : Int} {n : Nat} {d : D} (h : d ∈ rngD k n) : ∃ i : Nat, i < n ∧ d = .int (k + i) := by
  unfold rngD at h
  obtain ⟨i, hi, rfl⟩ := List.mem_map.mp h
  exact ⟨i, List.mem_range.mp hi, rfl⟩
theorem rng_cons {k : Int} {n : Nat} : rngD k (n + 1) = .int k :: rngD (k + 1) n := by
  unfold rngD
  rw [List.range_succ_eq_map, List.map_cons, List.map_map]
  congr 1
  · simp
  · refine List.map_congr_left fun i _ => ?_
    show D.int (k + ((i + 1 : Nat) : Int)) = D.int (k + 1 + i)
    congr 1
    omega
end DV
end
section
set_option Elab.async false
set_option linter.all false
set_option maxRecDepth 100000
set_option maxHeartbeats 2000000
/-! PE0: springs. -/
namespace DV
open PySem PySem.Spec PyProof.Rows
/-- object i holds a spring that has drawn at most m numbers -/
def Spr (s : S) (i m : Nat) : Prop := ∃ a b c : Int, s.mo[i]? = some (.lst [.int a, .int b, .int c]) ∧ 0 ≤ b ∧ b < 2147483647 ∧ 0 ≤ c ∧ c ≤ m
theorem spr_lt {s : S} {i m : Nat} (h : Spr s i m) : i < s.mo.length := by
  obtain ⟨a, b, c, h, _⟩ := h
  exact mo_lt h
theorem spr_put {s : S} {i n m : Nat} {o : MO} (h : Spr s i m) (hn : n ≠ i) : Spr (s.put n o) i m := by
  obtain ⟨a, b, c, h, r⟩ := h
  exact ⟨a, b, c, (put_ne hn).trans h, r⟩
theorem spr_own {s : S} {i m : Nat} {o : MO} (h : Spr s i m) : Spr (s.own o) i m := by
  obtain ⟨a, b, c, h, r⟩ := h
  exact ⟨a, b, c, (own_old (mo_lt h)).trans h, r⟩
theorem spr_le {s : S} {i m n : Nat} (h : Spr s i m) (hn : m ≤ n) : Spr s i n := by
  obtain ⟨a, b, c, h, r1, r2, r3, r4⟩ := h
  exact ⟨a, b, c, h, r1, r2, r3, by omega⟩
theorem spr_tg {s : S} {i m t : Nat} (h : Spr s i m) : Spr ⟨s.mo, t⟩ i m := h
/-- the state with only the spring changed: what a def that draws leaves -/
def Drew (s : S) (i m : Nat) (s' : S) : Prop := ∃ o, s' = s.put i o ∧ Spr s' i m
theorem Drew.len {s s' : S} {i m : Nat} (h : Drew s i m s') : s'.mo.length = s.mo.length := by
  obtain ⟨o, rfl, _⟩ := h
  exact put_len
theorem Drew.tg {s s' : S} {i m : Nat} (h : Drew s i m s') : s'.tg = s.tg := by
  obtain ⟨o, rfl, _⟩ := h
  rfl
theorem Drew.spr {s s' : S} {i m : Nat} (h : Drew s i m s') : Spr s' i m := by
  obtain ⟨o, rfl, h⟩ := h
  exact h
theorem Drew.old {s s' : S} {i m j : Nat} (h : Drew s i m s') (hj : j ≠ i) : s'.mo[j]? = s.mo[j]? := by
  obtain ⟨o, rfl, _⟩ := h
  exact put_ne (Ne.symm hj)
theorem Drew.refl {s : S} {i m : Nat} (h : Spr s i m) : Drew s i m s := by
  obtain ⟨a, b, c, e, r⟩ := id h
  refine ⟨.lst [.int a, .int b, .int c], ?_, h⟩
  unfold S.put
  have : s.mo.set i (.lst [.int a, .int b, .int c]) = s.mo := by
    obtain ⟨h1, h2⟩ := List.getElem?_eq_some_iff.mp e
    rw [← h2]
    exact List.set_getElem_self h1
  rw [this]
theorem Drew.trans {s s' s'' : S} {i m n : Nat} (h : Drew s i m s') (h' : Drew s' i n s'') : Drew s i n s'' := by
  obtain ⟨o, rfl, _⟩ := h
  obtain ⟨o', rfl, h2⟩ := h'
  rw [put_put] at h2 ⊢
  exact ⟨o', rfl, h2⟩
theorem Drew.le {s s' : S} {i m n : Nat} (h : Drew s i m s') (hn : m ≤ n) : Drew s i n s' := by
  obtain ⟨o, e, h⟩ := h
  exact ⟨o, e, spr_le h hn⟩
/-- by what stands in each place -/
theorem Drew.of {s s' : S} {i m : Nat} (tg : s'.tg = s.tg) (len : s'.mo.length = s.mo.length) (old : ∀ j, j ≠ i → s'.mo[j]? = s.mo[j]?) (sp : Spr s' i m) : Drew s i m s' := by
  obtain ⟨a, b, c, e, r⟩ := id sp
  refine ⟨.lst [.int a, .int b, .int c], ?_, sp⟩
  obtain ⟨mo, t⟩ := s'
  cases tg
  unfold S.put
  congr 1
  refine List.ext_getElem? fun j => ?_
  by_cases h : i = j
  · subst h
    rw [e, List.getElem?_set_self (by have := mo_lt e; omega)]
  · rw [List.getElem?_set_ne h]
    exact old j (Ne.symm h)
/-- a def's end: its own objects gone -/
theorem Drew.back {s t : S} {i m : Nat} (len : s.mo.length ≤ t.mo.length) (old : ∀ j, j ≠ i → j < s.mo.length → t.mo[j]? = s.mo[j]?) (sp : Spr t i m) (hi : i < s.mo.length) (tg : t.tg = s.tg := by first | rfl | assumption) : Drew s i m (DV.back s t) := by
  refine .of tg ?_ (fun j hj => ?_) ?_
  · show (t.mo.take s.mo.length).length = _
    rw [List.length_take]
    omega
  · show (t.mo.take s.mo.length)[j]? = _
    by_cases h : j < s.mo.length
    · rw [List.getElem?_take_of_lt h]
      exact old j hj h
    · rw [List.getElem?_eq_none (by rw [List.length_take]; omega), List.getElem?_eq_none (by omega)]
  · obtain ⟨a, b, c, e, r⟩ := sp
    exact ⟨a, b, c, by show (t.mo.take s.mo.length)[i]? = _; rw [List.getElem?_take_of_lt hi]; exact e, r⟩
end DV
end
section
set_option Elab.async false
set_option linter.all false
set_option maxRecDepth 100000
set_option maxHeartbeats 2000000
namespace K00
open DV PySem
theorem draw_ok {s : S} {i m : Nat} {n : Int} (h : Spr s i m) (hm : m < 2 ^ 40) (hn : 0 < n) (hn2 : n < 2 ^ 200) :
    ∃ (k : Int) (s' : S), F__law_draw s [.ref i, .int n] = .ok (.int k) s' ∧ 0 ≤ k ∧ k < n ∧ Drew s i (m + 1) s' := by
  obtain ⟨a, b, c, h, hb0, hb1, hc0, hc1⟩ := h
  have hlog : n.natAbs.log2 < 9000 := Nat.lt_trans (log2_lt (k := 200) (by omega) (by decide)) (by decide)
  have st : ∀ {xs : List D} {j : Nat} {k : Int} {v : Int}, s.mo[i]? = some (.lst xs) → L2.ixN xs.length k = some j → mSet s (.ref i) (.int k) (.int v) = some (s.put i (.lst (xs.set j (.int v)))) := fun h hk => set_refL h hk rfl
  by_cases ha : 0 < a
  · have hd : decide (0 < a) = true := decide_eq_true ha
    refine ⟨a.fmod n, s.put i (.lst [.int (a.fdiv n), .int b, .int c]), ?_, Int.fmod_nonneg_of_pos _ hn, Int.fmod_lt_of_pos _ hn, _, rfl, ⟨_, b, c, put_get h, hb0, hb1, hc0, by omega⟩⟩
    show endDef s (m__law_draw [some (.ref i), some (.int n), none, none] s) = _
    unfold m__law_draw
    simp only [RUN, RUN2, xVar, List.getElem?_cons_zero, List.getElem?_cons_succ, ix_refL h, at0, at1, at2, hd, st (j := 0) (k := 0) h rfl, mod_pos hn, div_pos hn hlog, List.set_cons_zero, List.set_cons_succ]
  · have hd : decide (0 < a) = false := decide_eq_false ha
    have h1 := put_get (o' := .lst [.int a, .int b, .int (c + 1)]) h
    have e1 : (b + 6364137 * (c + 1) + 1442695).natAbs < 2 ^ 64 := by omega
    have m1 : (Int.natAbs 6364137).log2 + (c + 1).natAbs.log2 < 100000000 := by
      have z1 : (Int.natAbs 6364137).log2 < 64 := log2_lt (by decide) (by decide)
      have z2 : (c + 1).natAbs.log2 < 64 := log2_lt (by omega) (by decide)
      omega
    have m3 : (Int.natAbs 11).log2 + (c + 1).natAbs.log2 < 100000000 := by
      have z1 : (Int.natAbs 11).log2 < 64 := log2_lt (by decide) (by decide)
      have z2 : (c + 1).natAbs.log2 < 64 := log2_lt (by omega) (by decide)
      omega
    generalize hx : ((b + 6364137 * (c + 1) + 1442695) ^ 3).fmod 2147483647 = x
    have x0 : 0 ≤ x := by rw [← hx]; exact Int.fmod_nonneg_of_pos _ (by decide)
    have x1 : x < 2147483647 := by rw [← hx]; exact Int.fmod_lt_of_pos _ (by decide)
    have m2 : x.natAbs.log2 + (Int.natAbs 48271).log2 < 100000000 := by
      have z1 : (Int.natAbs 48271).log2 < 64 := log2_lt (by decide) (by decide)
      have z2 : x.natAbs.log2 < 64 := log2_lt (by omega) (by decide)
      omega
    have e2 : (x * 48271 + 11 * (c + 1)).natAbs < 2 ^ 64 := by omega
    have p1 : (0 : Int) < 2147483647 := by decide
    have p2 : (0 : Int) < 2147483629 := by decide
    have p3 : (0 : Int) < 8 := by decide
    have l3 : (Int.natAbs 8).log2 < 9000 := Nat.lt_trans (log2_lt (k := 64) (by decide) (by decide)) (by decide)
    refine ⟨((((x * 48271 + 11 * (c + 1)) ^ 3).fmod 2147483629).fdiv 8).fmod n, s.put i (.lst [.int a, .int b, .int (c + 1)]), ?_, Int.fmod_nonneg_of_pos _ hn, Int.fmod_lt_of_pos _ hn, _, rfl, ⟨a, b, c + 1, h1, hb0, hb1, by omega, by omega⟩⟩
    show endDef s (m__law_draw [some (.ref i), some (.int n), none, none] s) = _
    unfold m__law_draw
    simp only [RUN, RUN2, xVar, List.getElem?_cons_zero, List.getElem?_cons_succ, ix_refL h, ix_refL h1, at0, at1, at2, hd, st (j := 2) (k := 2) h rfl, mul_small m1, mul_small m2, mul_small m3, pow3 e1, pow3 e2, mod_pos p1, mod_pos p2, div_pos p3 l3, hx, mod_pos hn, div_pos hn hlog, List.set_cons_zero, List.set_cons_succ]
theorem pick_ok {s : S} {i m : Nat} {xs : List D} (h : Spr s i m) (hm : m < 2 ^ 40) (hx : xs ≠ []) (hl : xs.length < 2 ^ 60) (hf : ∀ x ∈ xs, x.low 0 0 = true) :
    ∃ (x : D) (s' : S), x ∈ xs ∧ F__law_pick s [.ref i, .lst xs] = .ok x s' ∧ Drew s i (m + 1) s' := by
  have hp : 0 < xs.length := List.length_pos_iff.mpr hx
  obtain ⟨k, s', e, k0, k1, dr⟩ := draw_ok (n := (xs.length : Int)) h hm (by omega) (by omega)
  obtain ⟨x, e2, hin⟩ := atI_lst (xs := xs) k0 k1
  refine ⟨x, s', hin, ?_, dr⟩
  obtain ⟨o, rfl, _⟩ := dr
  show endDef s (m__law_pick [some (.ref i), some (.lst xs)] s) = _
  unfold m__law_pick
  simp only [RUN, RUN2, xVar, List.getElem?_cons_zero, List.getElem?_cons_succ, e, e2]
  have hx0 := hf x hin
  have fz : fzD s.mo.length (s.put i o) x = some x := by
    cases x <;> first | rfl | (exact absurd (of_decide_eq_true hx0) (Nat.not_lt_zero _))
  rw [fin_of fz (low0 hx0), back_put]
end K00
end
section
set_option Elab.async false
set_option linter.all false
set_option maxRecDepth 100000
set_option maxHeartbeats 2000000
namespace K00
open DV PySem
theorem enum_mem : ∀ {xs : List D} {k : Nat} {d : D}, d ∈ enumD k xs → ∃ (i : Nat) (x : D), d = .tup [.int (i : Int), x] ∧ x ∈ xs ∧ i < k + xs.length
  | [], k, d, h => by cases h
  | x :: xs, k, d, h => by
    rcases List.mem_cons.mp (show d ∈ D.tup [.int k, x] :: enumD (k + 1) xs from h) with h | h
    · exact ⟨k, x, h, List.mem_cons_self, by simp⟩
    · obtain ⟨i, y, e, hy, hi⟩ := enum_mem h
      exact ⟨i, y, e, List.mem_cons_of_mem _ hy, by rw [List.length_cons]; omega⟩
theorem scr_len {s : S} {d : D} {ns : List Int} (h : scrD d ns) : gLen s d = some (.int ns.length) := by
  rcases h with rfl | rfl
  · show some (D.int ((ns.map D.int).length : Nat)) = _
    rw [List.length_map]
  · show some (D.int ((ns.map D.int).length : Nat)) = _
    rw [List.length_map]
theorem scr_ix {s : S} {d : D} {ns : List Int} {k : Int} (h : scrD d ns) : gIx s d (.int k) = L2.atI (ns.map D.int) k := by
  rcases h with rfl | rfl <;> rfl
theorem scr_cut {s : S} {d : D} {ns : List Int} {a b : Option Int} (h : scrD d ns) : sliceD (view s d) a b = some (.lst (cutL (ns.map D.int) a b)) := by
  rcases h with rfl | rfl <;> rfl
theorem cut_mem {α : Type} {xs : List α} {a b : Option Int} {x : α} (h : x ∈ cutL xs a b) : x ∈ xs := List.mem_of_mem_drop (List.mem_of_mem_take h)
theorem cut_len {α : Type} {xs : List α} {a b : Option Int} : (cutL xs a b).length ≤ xs.length := by
  unfold cutL
  rw [List.length_take, List.length_drop]
  omega
theorem bits_log {z : Int} (h : Builtin.Int.intBits z ≤ 1048576) : z.natAbs.log2 < 2000000 := by
  unfold Builtin.Int.intBits at h
  split at h
  · rename_i e
    rw [show z = 0 from by simpa using e]
    decide
  · omega
theorem small_log {z : Int} (h : z.natAbs < 2 ^ 64) : z.natAbs.log2 < 64 := log2_lt h (by decide)
theorem spring_ok {s : S} {d : D} {ns : List Int} {t : Nat} (h : scrD d ns) (hl : ns.length ≤ 63) (hb : ∀ z ∈ ns, Builtin.Int.intBits z ≤ 1048576) (ht : t < 100) :
    ∃ s', F__law_spring s [d, .int (t : Int)] = .ok (.ref s.mo.length) s' ∧ (∃ o, s' = s.own o) ∧ Spr s' s.mo.length 0 := by
  have go : ∀ (cell : Int), cell.natAbs.log2 < 2000000 → (if (t : Int) < ns.length then L2.atI (ns.map D.int) t else some (D.int (7 * t + ns.length))) = some (.int cell) → ∃ s', F__law_spring s [d, .int (t : Int)] = .ok (.ref s.mo.length) s' ∧ (∃ o, s' = s.own o) ∧ Spr s' s.mo.length 0 := fun cell hc he => by
    have m7 : (Int.natAbs 7).log2 + (t : Int).natAbs.log2 < 100000000 := by
      have z1 : (Int.natAbs 7).log2 < 64 := small_log (by decide)
      have z2 : (t : Int).natAbs.log2 < 64 := small_log (by omega)
      omega
    have m97 : (Int.natAbs 97).log2 + (t : Int).natAbs.log2 < 100000000 := by
      have z1 : (Int.natAbs 97).log2 < 64 := small_log (by decide)
      have z2 : (t : Int).natAbs.log2 < 64 := small_log (by omega)
      omega
    have m31 : cell.natAbs.log2 + (Int.natAbs 31).log2 < 100000000 := by
      have z1 : (Int.natAbs 31).log2 < 64 := small_log (by decide)
      omega
    obtain ⟨e', s', run, ⟨mix, x4, x5, he', h0, h1⟩, hs⟩ := for_run (g := gUnp 2 (gsCons (gVar 4) (gsCons (gVar 5) gsNil))) (body := B__law_spring_0)
      (w := ⟨enumD 0 (cutL (ns.map D.int) none (some 63)), []⟩) (e := [some d, some (.int (t : Int)), some (.int cell), some (.int (1009 + 97 * (t : Int))), none, none]) (s := s) (ds := enumD 0 (cutL (ns.map D.int) none (some 63)))
      (fun ds e s' => (∃ (mix : Int) (x4 x5 : Option D), e = [some d, some (.int (t : Int)), some (.int cell), some (.int mix), x4, x5] ∧ 0 ≤ mix ∧ mix < 2147483647) ∧ s' = s ∧ ∀ x ∈ ds, ∃ (i : Nat) (z : Int), x = .tup [.int (i : Int), .int z] ∧ i < 64)
      ⟨⟨_, none, none, rfl, by omega, by omega⟩, rfl, fun x hx => by
        obtain ⟨i, y, rfl, hy, hi⟩ := enum_mem hx
        obtain ⟨z, _, rfl⟩ := List.mem_map.mp (cut_mem hy)
        have : (cutL (ns.map D.int) none (some 63)).length ≤ (ns.map D.int).length := cut_len
        rw [List.length_map] at this
        exact ⟨i, z, rfl, by omega⟩⟩ (fun _ _ _ _ => same_nil) (fun y ds e s' ⟨⟨mix, x4, x5, he, h0, h1⟩, hs, hy⟩ => by
        subst he hs
        obtain ⟨i, z, rfl, hi⟩ := hy y List.mem_cons_self
        have m1 : mix.natAbs.log2 + (Int.natAbs 69069).log2 < 100000000 := by
          have z1 : (Int.natAbs 69069).log2 < 64 := small_log (by decide)
          have z2 : mix.natAbs.log2 < 64 := small_log (by omega)
          omega
        have m5 : (Int.natAbs 5).log2 + (i : Int).natAbs.log2 < 100000000 := by
          have z1 : (Int.natAbs 5).log2 < 64 := small_log (by decide)
          have z2 : (i : Int).natAbs.log2 < 64 := small_log (by omega)
          omega
        have p : (0 : Int) < 2147483629 := by decide
        refine ⟨_, _, rfl, [some d, some (.int (t : Int)), some (.int cell), some (.int ((mix * 69069 + z + 5 * i + 1).fmod 2147483629)), some (.int i), some (.int z)], s', ?_, ⟨_, _, _, rfl, Int.fmod_nonneg_of_pos _ p, ?_⟩, rfl, fun x hx => hy x (List.mem_cons_of_mem _ hx)⟩
        · simp only [B__law_spring_0, RUN, xVar, List.getElem?_cons_zero, List.getElem?_cons_succ, List.set_cons_zero, List.set_cons_succ, mul_small m1, mul_small m5, mod_pos p]
        · have := Int.fmod_lt_of_pos (mix * 69069 + z + 5 * i + 1) p
          omega)
    obtain ⟨hs, _⟩ := hs
    subst he'
    rw [hs] at run
    clear hs
    have hp : (0 : Int) < 2147483647 := by decide
    have hpow : nPow 10 18 = some (.int (10 ^ 18)) := rfl
    refine ⟨s.own (.lst [.int (if 10 ^ 18 ≤ cell then cell else 0), .int ((mix + cell * 31).fmod 2147483647), .int 0]), ?_, ⟨_, rfl⟩, if 10 ^ 18 ≤ cell then cell else 0, (mix + cell * 31).fmod 2147483647, 0, own_get, Int.fmod_nonneg_of_pos _ hp, Int.fmod_lt_of_pos _ hp, Int.le_refl _, Int.le_refl _⟩
    show endDefO s (m__law_spring [some d, some (.int (t : Int)), none, none, none, none] s) = _
    unfold m__law_spring
    have k1 : decide ((10 : Int) ^ 18 ≤ cell) = if 10 ^ 18 ≤ cell then true else false := by
      by_cases z : (10 : Int) ^ 18 ≤ cell
      · rw [if_pos z]; exact decide_eq_true z
      · rw [if_neg z]; exact decide_eq_false z
    have fe : ∀ cl : Int, finO s (.ref s.mo.length) (s.own (.lst [.int cl, .int ((mix + cell * 31).fmod 2147483647), .int 0])) = .ok (.ref s.mo.length) (s.own (.lst [.int cl, .int ((mix + cell * 31).fmod 2147483647), .int 0])) := fun _ => finO_own rfl
    have lw : ∀ x y z : Int, D.lows 0 0 [.int x, .int y, .int z] = true := fun _ _ _ => rfl
    have l3 : ∀ x y z : D, decide ([x, y, z].length ≤ sizeLine) = true := fun _ _ _ => rfl
    by_cases hlt : (t : Int) < ns.length
    · rw [if_pos hlt] at he
      by_cases z : (10 : Int) ^ 18 ≤ cell
      · simp only [RUN, xVar, List.getElem?_cons_zero, List.getElem?_cons_succ, scr_len h, decide_eq_true hlt, scr_ix h, he, List.set_cons_zero, List.set_cons_succ, mul_small m97, scr_cut h, run, hpow, mul_small m31, mod_pos hp, decide_eq_true z, lw, l3, fe, if_pos z]
      · simp only [RUN, xVar, List.getElem?_cons_zero, List.getElem?_cons_succ, scr_len h, decide_eq_true hlt, scr_ix h, he, List.set_cons_zero, List.set_cons_succ, mul_small m97, scr_cut h, run, hpow, mul_small m31, mod_pos hp, decide_eq_false z, lw, l3, fe, if_neg z]
    · rw [if_neg hlt] at he
      cases he
      by_cases z : (10 : Int) ^ 18 ≤ 7 * (t : Int) + ns.length
      · simp only [RUN, xVar, List.getElem?_cons_zero, List.getElem?_cons_succ, scr_len h, decide_eq_false hlt, mul_small m7, List.set_cons_zero, List.set_cons_succ, mul_small m97, scr_cut h, run, hpow, mul_small m31, mod_pos hp, decide_eq_true z, lw, l3, fe, if_pos z]
      · simp only [RUN, xVar, List.getElem?_cons_zero, List.getElem?_cons_succ, scr_len h, decide_eq_false hlt, mul_small m7, List.set_cons_zero, List.set_cons_succ, mul_small m97, scr_cut h, run, hpow, mul_small m31, mod_pos hp, decide_eq_false z, lw, l3, fe, if_neg z]
  by_cases hlt : (t : Int) < ns.length
  · have hlt' : t < ns.length := by omega
    refine go ns[t] (bits_log (hb _ (List.getElem_mem hlt'))) ?_
    rw [if_pos hlt, atI_nat rfl (by rw [List.length_map]; exact hlt')]
    simp
  · refine go (7 * t + ns.length) ?_ (by rw [if_neg hlt])
    have : (7 * (t : Int) + ns.length).natAbs.log2 < 64 := small_log (by omega)
    omega
end K00
end
section
set_option Elab.async false
set_option linter.all false
set_option maxRecDepth 100000
set_option maxHeartbeats 2000000
/-! PF: texts, names as data; dicts with such keys. -/
namespace DV
open PySem PySem.Spec PyProof.Rows
theorem str_ext {x y : Str} (h : x.cps.toList = y.cps.toList) : x = y := by
  obtain ⟨⟨a⟩⟩ := x
  obtain ⟨⟨b⟩⟩ := y
  have h : a = b := h
  rw [h]
theorem cat_list {x y : Str} : (x ++ y).cps.toList = x.cps.toList ++ y.cps.toList := by
  show (x.cps ++ y.cps).toList = _
  exact Array.toList_append
theorem len_list {x : Str} : x.length = x.cps.toList.length := by
  show x.cps.size = _
  exact Array.length_toList.symm
theorem o_addS {s : S} {x y : Str} (h : x.length + y.length ≤ sizeLine) : gAdd s (.str x) (.str y) = some (.str (x ++ y)) := if_pos h
theorem o_lenS {s : S} {x : Str} (h : x.length ≤ sizeLine) : gLen s (.str x) = some (.int x.length) := if_pos h
theorem o_listS {s : S} {z : Str} (h : z.length ≤ sizeLine) : gList s (.str z) = some (signsD z) := by
  show (if z.cps.size ≤ sizeLine then some (signsD z) else none) = _
  exact if_pos h
/-- the first k signs -/
def takeS (k : Nat) (z : Str) : Str := ⟨(z.cps.toList.take k).toArray⟩
theorem takeS_list {k : Nat} {z : Str} : (takeS k z).cps.toList = z.cps.toList.take k := by
  show (z.cps.toList.take k).toArray.toList = _
  rfl
theorem cut_take {z : Str} {k : Nat} : L2.cutS z none (some (k : Int)) = takeS k z := by
  unfold L2.cutS takeS
  congr 2
  rw [HT.sIx_none, HT.sIx_nat, List.drop_zero, Nat.sub_zero, len_list]
  rw [List.take_eq_take_iff]
  omega
theorem o_cutS {z : Str} {k : Nat} (h : z.length ≤ sizeLine) : sliceD (.str z) none (some (k : Int)) = some (.str (takeS k z)) := by
  show (if z.length ≤ sizeLine then some (D.str (L2.cutS z none (some (k : Int)))) else none) = _
  rw [if_pos h, cut_take]
theorem sign_mem {z : Str} {d : D} (h : d ∈ signsD z) : ∃ c ∈ z.cps.toList, d = .str ⟨#[c]⟩ := by
  obtain ⟨c, hc, rfl⟩ := List.mem_map.mp h
  exact ⟨c, hc, rfl⟩
/-! ### dicts whose keys are texts -/
theorem look_str {ks : List Str} : ∀ {vs : List D} {x : Str}, vs.length = ks.length → (look1 (ks.map D.str) vs (.inr x)).isSome = decide (x ∈ ks) := by
  induction ks with
  | nil =>
    intro vs x h
    cases vs with
    | nil => rfl
    | cons _ _ => cases h
  | cons k ks ih =>
    intro vs x h
    cases vs with
    | nil => cases h
    | cons v vs =>
      have h : vs.length + 1 = ks.length + 1 := h
      show (if (some (Sum.inr k) : Option L2.Key) = some (.inr x) then some v else look1 (ks.map D.str) vs (.inr x)).isSome = _
      by_cases e : k = x
      · subst e
        rw [if_pos rfl]
        simp
      · rw [if_neg (by intro z; cases z; exact e rfl), ih (by omega)]
        simp [Ne.symm e]
theorem in_refS {s : S} {i : Nat} {ks : List Str} {vs : List D} {x : Str} (h : s.mo[i]? = some (.dK (ks.map D.str) vs)) (hl : vs.length = ks.length) : gIn s (.str x) (.ref i) = some (.bl (decide (x ∈ ks))) := by
  unfold gIn inD
  rw [dct_refK h]
  show ((some (look1 (ks.map D.str) vs (.inr x))).map (·.isSome)).map D.bl = _
  rw [Option.map_some, Option.map_some, look_str hl]
theorem put_str {ks : List Str} {vs : List D} {x : Str} {v : D} (hl : vs.length = ks.length) (h : x ∉ ks) : putKD (ks.map D.str) vs (.inr x) v = ((ks ++ [x]).map D.str, vs ++ [v]) := by
  unfold putKD
  rw [look_str hl, if_neg (by simpa using h)]
  simp [keyD]
/-! ### names -/
def letterC (c : Nat) : Prop := 97 ≤ c ∧ c ≤ 122
def signC (c : Nat) : Prop := letterC c ∨ (48 ≤ c ∧ c ≤ 57)
/-- a name: a letter, then at most seven letters and figures -/
def GoodN (x : Str) : Prop := ∃ c r, x.cps.toList = c :: r ∧ letterC c ∧ (∀ d ∈ r, signC d) ∧ r.length ≤ 7
theorem GoodN.len {x : Str} (h : GoodN x) : 1 ≤ x.length ∧ x.length ≤ 8 := by
  obtain ⟨c, r, e, _, _, hl⟩ := h
  rw [len_list, e, List.length_cons]
  omega
/-- distinct things all found in a row -/
theorem nodup_le {α : Type} [DecidableEq α] : ∀ {cs xs : List α}, cs.Nodup → (∀ c ∈ cs, c ∈ xs) → cs.length ≤ xs.length
  | [], xs, _, _ => Nat.zero_le _
  | c :: cs, xs, nd, h => by
    have hc := h c List.mem_cons_self
    have nd2 := List.nodup_cons.mp nd
    have ih := nodup_le (cs := cs) (xs := xs.erase c) nd2.2 fun d hd => by
      have ne : d ≠ c := fun z => nd2.1 (z ▸ hd)
      exact (List.mem_erase_of_ne ne).mpr (h d (List.mem_cons_of_mem _ hd))
    have hl := List.length_erase_of_mem hc
    have hp := List.length_pos_of_mem hc
    rw [List.length_cons]
    omega
end DV
end
section
set_option Elab.async false
set_option linter.all false
set_option maxRecDepth 100000
set_option maxHeartbeats 2000000
/-! PG: dicts with tuples as keys; sorting. -/
namespace DV
open PySem PySem.Spec PyProof.Rows
theorem lookT_rep {q q' : List L2.Key} {v : D} : ∀ {ks vs : List D}, vs.length = ks.length → lookT ks (repT ks vs q v) q' = if q' = q then (lookT ks vs q').map (fun _ => v) else lookT ks vs q'
  | [], [], _ => by by_cases h : q' = q <;> simp [h, lookT, repT]
  | [], _ :: _, h => by cases h
  | _ :: _, [], h => by cases h
  | k :: ks, w :: vs, h => by
    have ih := lookT_rep (q := q) (q' := q') (v := v) (ks := ks) (vs := vs) (by simpa using h)
    show (if kTD k = some q' then some (if kTD k = some q then v else w) else lookT ks (repT ks vs q v) q') = _
    have e : lookT (k :: ks) (w :: vs) q' = if kTD k = some q' then some w else lookT ks vs q' := rfl
    rw [e, ih]
    by_cases h1 : kTD k = some q'
    · rw [if_pos h1, if_pos h1]
      by_cases h2 : q' = q
      · subst h2
        rw [if_pos rfl, if_pos h1]
        rfl
      · rw [if_neg h2, if_neg (by rw [h1]; intro z; exact h2 (Option.some.inj z))]
    · rw [if_neg h1, if_neg h1]
theorem lookT_app {q' : List L2.Key} {k v : D} : ∀ {ks vs : List D}, vs.length = ks.length → lookT (ks ++ [k]) (vs ++ [v]) q' = match lookT ks vs q' with
    | some w => some w
    | none => if kTD k = some q' then some v else none
  | [], [], _ => rfl
  | [], _ :: _, h => by cases h
  | _ :: _, [], h => by cases h
  | k0 :: ks, w :: vs, h => by
    have ih := lookT_app (q' := q') (k := k) (v := v) (ks := ks) (vs := vs) (by simpa using h)
    show (if kTD k0 = some q' then some w else lookT (ks ++ [k]) (vs ++ [v]) q') = _
    have e : lookT (k0 :: ks) (w :: vs) q' = if kTD k0 = some q' then some w else lookT ks vs q' := rfl
    rw [e, ih]
    by_cases h1 : kTD k0 = some q'
    · rw [if_pos h1, if_pos h1]
    · rw [if_neg h1, if_neg h1]
theorem repT_len {q : List L2.Key} {v : D} : ∀ {ks vs : List D}, vs.length = ks.length → (repT ks vs q v).length = ks.length
  | [], [], _ => rfl
  | [], _ :: _, h => by cases h
  | _ :: _, [], h => by cases h
  | k :: ks, w :: vs, h => by
    show (repT ks vs q v).length + 1 = ks.length + 1
    rw [repT_len (by simpa using h)]
theorem putT_len {q : List L2.Key} {v : D} {ks vs : List D} (h : vs.length = ks.length) : (putTD ks vs q v).2.length = (putTD ks vs q v).1.length ∧ (putTD ks vs q v).1.length ≤ ks.length + 1 := by
  unfold putTD
  split
  · exact ⟨repT_len h, Nat.le_succ _⟩
  · exact ⟨by simp [h], by simp⟩
theorem lookT_put {q q' : List L2.Key} {v : D} {ks vs : List D} (h : vs.length = ks.length) : lookT (putTD ks vs q v).1 (putTD ks vs q v).2 q' = if q' = q then some v else lookT ks vs q' := by
  unfold putTD
  split
  · rename_i hs
    show lookT ks (repT ks vs q v) q' = _
    rw [lookT_rep h]
    by_cases e : q' = q
    · subst e
      rw [if_pos rfl, if_pos rfl]
      cases hk : lookT ks vs q' with
      | none => rw [hk] at hs; cases hs
      | some _ => rfl
    · rw [if_neg e, if_neg e]
  · rename_i hs
    show lookT (ks ++ [.tup (q.map keyD)]) (vs ++ [v]) q' = _
    rw [lookT_app h, kTD_map]
    by_cases e : q' = q
    · subst e
      rw [if_pos rfl, if_pos rfl]
      cases hk : lookT ks vs q' with
      | none => rfl
      | some w => rw [hk] at hs; exact absurd rfl hs
    · rw [if_neg e, if_neg (by intro z; exact e (Option.some.inj z).symm)]
      cases lookT ks vs q' <;> rfl
theorem ix_refT {s : S} {i : Nat} {ks vs : List D} {k : D} {q : List L2.Key} (h : s.mo[i]? = some (.dT ks vs)) (hk : kTD k = some q) : gIx s (.ref i) k = lookT ks vs q := by
  unfold gIx
  rw [dct_refT h]
  show (findD (ks, vs, true) k).bind id = _
  unfold findD
  show ((kTD k).map (lookT ks vs)).bind id = _
  rw [hk]
  rfl
/-! ### sorting -/
theorem sortOk_ints (ns : List Int) (hl : ns.length ≤ sizeLine) : SortOk (ns.map D.int) := by
  refine ⟨fun d hd => ?_, fun d hd d' hd' => ?_, .inr fun d hd => ?_, by rw [List.length_map]; exact hl, fun d hd => ?_⟩
  · obtain ⟨n, _, rfl⟩ := List.mem_map.mp hd
    rfl
  · obtain ⟨e, he, rfl⟩ := List.mem_map.mp hd
    obtain ⟨e', he', rfl⟩ := List.mem_map.mp hd'
    obtain ⟨n, _, rfl⟩ := List.mem_map.mp he
    obtain ⟨n', _, rfl⟩ := List.mem_map.mp he'
    rfl
  · obtain ⟨e, he, rfl⟩ := List.mem_map.mp hd
    obtain ⟨n, _, rfl⟩ := List.mem_map.mp he
    exact ⟨(fun z => nomatch z), (fun _ z => nomatch z)⟩
  · obtain ⟨n, _, rfl⟩ := List.mem_map.mp hd
    exact Nat.zero_le _
theorem sortOk_strs (ns : List Str) (hl : ns.length ≤ sizeLine) : SortOk (ns.map D.str) := by
  refine ⟨fun d hd => ?_, fun d hd d' hd' => ?_, .inr fun d hd => ?_, by rw [List.length_map]; exact hl, fun d hd => ?_⟩
  · obtain ⟨n, _, rfl⟩ := List.mem_map.mp hd
    rfl
  · obtain ⟨e, he, rfl⟩ := List.mem_map.mp hd
    obtain ⟨e', he', rfl⟩ := List.mem_map.mp hd'
    obtain ⟨n, _, rfl⟩ := List.mem_map.mp he
    obtain ⟨n', _, rfl⟩ := List.mem_map.mp he'
    rfl
  · obtain ⟨e, he, rfl⟩ := List.mem_map.mp hd
    obtain ⟨n, _, rfl⟩ := List.mem_map.mp he
    exact ⟨(fun z => nomatch z), (fun _ z => nomatch z)⟩
  · obtain ⟨n, _, rfl⟩ := List.mem_map.mp hd
    exact Nat.zero_le _
theorem leD_int (a b : Int) : leD (.int a) (.int b) = decide (a ≤ b) := by
  have h := congrFun (congrFun (PySem.W.dataLe_int (β := Int) id) a) b
  exact h
theorem leD_str (a b : Str) : leD (.str a) (.str b) = decide (a.cps.toList ≤ b.cps.toList) := by
  have h := congrFun (congrFun (PySem.W.dataLe_str (β := Str) id) a) b
  exact h
def sortI (ns : List Int) : List Int := ns.mergeSort fun a b => decide (a ≤ b)
def leS (a b : Str) : Bool := decide (a.cps.toList ≤ b.cps.toList)
def sortS (ns : List Str) : List Str := ns.mergeSort leS
theorem sorted_ints {s : S} {ns : List Int} (hl : ns.length ≤ sizeLine) : gSorted s (.lst (ns.map D.int)) = some ((sortI ns).map D.int) := by
  unfold gSorted
  show (if SortOk (ns.map D.int) then some ((ns.map D.int).mergeSort leD) else none) = _
  rw [if_pos (sortOk_ints ns hl)]
  congr 1
  exact (List.map_mergeSort fun a _ b _ => (leD_int a b).symm).symm
theorem sorted_strs {s : S} {ns : List Str} (hl : ns.length ≤ sizeLine) : gSorted s (.lst (ns.map D.str)) = some ((sortS ns).map D.str) := by
  unfold gSorted
  show (if SortOk (ns.map D.str) then some ((ns.map D.str).mergeSort leD) else none) = _
  rw [if_pos (sortOk_strs ns hl)]
  congr 1
  exact (List.map_mergeSort fun a _ b _ => (leD_str a b).symm).symm
theorem sortI_id {ns : List Int} (h : ns.Pairwise (· ≤ ·)) : sortI ns = ns := List.mergeSort_of_pairwise (h.imp fun z => decide_eq_true z)
theorem sortS_perm {ns : List Str} : (sortS ns).Perm ns := List.mergeSort_perm _ _
/-- before, as texts -/
def ltS (a b : Str) : Prop := a.cps.toList < b.cps.toList
theorem leS_trans (a b c : Str) (h1 : leS a b = true) (h2 : leS b c = true) : leS a c = true := decide_eq_true (List.le_trans (of_decide_eq_true h1) (of_decide_eq_true h2))
theorem leS_total (a b : Str) : (leS a b || leS b a) = true := by
  rw [Bool.or_eq_true]
  exact (List.le_total a.cps.toList b.cps.toList).imp (fun h => decide_eq_true h) fun h => decide_eq_true h
theorem sortS_asc {ns : List Str} (nd : ns.Nodup) : (sortS ns).Pairwise ltS := by
  have h1 := List.pairwise_mergeSort leS_trans leS_total ns
  have h2 : (sortS ns).Nodup := (sortS_perm.nodup_iff).mpr nd
  refine (h1.and h2).imp fun {a b} ⟨h, ne⟩ => ?_
  have h := of_decide_eq_true h
  rcases Classical.em (ltS a b) with z | z
  · exact z
  · have z2 : b.cps.toList ≤ a.cps.toList := List.not_lt.mp z
    exact absurd (str_ext (List.le_antisymm h z2)) ne
end DV
end
section
set_option Elab.async false
set_option linter.all false
set_option maxRecDepth 100000
set_option maxHeartbeats 2000000
/-! PH: plain values by types of their own; == on them. -/
namespace DV
open PySem PySem.Spec PyProof.Rows
/-- values of a type as data: == is equality -/
structure Enc {α : Type} [DecidableEq α] (f : α → D) (ok : α → Prop) (k : Nat) where
  p : α → PyData
  pd : ∀ a, ok a → (f a).pd = some (p a)
  lay : ∀ a, ok a → (p a).canLay0 = true
  dep : ∀ a, ok a → (p a).depth ≤ k
  eq : ∀ a b, ok a → ok b → PyData.eqv (p a) (p b) = decide (a = b)
theorem eqD_pd {x y : D} {p q : PyData} (hx : x.pdS = some p) (hy : y.pdS = some q) : eqD x y = some (PyData.eqv p q) := by
  unfold eqD
  split
  · rename_i i j
    cases (pdS_inv hx).1
    cases (pdS_inv hy).1
    show some (decide (i = j)) = some (i == j)
    rfl
  · rename_i a b
    cases (pdS_inv hx).1
    cases (pdS_inv hy).1
    show some (decide (a = b)) = some (a == b)
    rfl
  · rw [hx, hy]
theorem pdS_of {d : D} {p : PyData} (h : d.pd = some p) (hl : p.canLay0 = true) (hd : p.depth ≤ 64) : d.pdS = some p := by
  unfold D.pdS
  rw [h]
  show (if SeqAt.shaped p = true then some p else none) = _
  rw [if_pos]
  unfold SeqAt.shaped
  rw [hl, decide_eq_true hd]
  rfl
section
variable {α : Type} [DecidableEq α] {f : α → D} {ok : α → Prop} {k : Nat} (E : Enc f ok k)
include E
theorem Enc.pdS (hk : k ≤ 64) {a : α} (h : ok a) : (f a).pdS = some (E.p a) := pdS_of (E.pd a h) (E.lay a h) (Nat.le_trans (E.dep a h) hk)
theorem Enc.eqD (hk : k ≤ 64) {a b : α} (ha : ok a) (hb : ok b) : DV.eqD (f a) (f b) = some (decide (a = b)) := by
  rw [eqD_pd (E.pdS hk ha) (E.pdS hk hb), E.eq a b ha hb]
theorem Enc.gEq {s : S} (hk : k ≤ 64) {a b : α} (ha : ok a) (hb : ok b) (va : view s (f a) = f a) (vb : view s (f b) = f b) : DV.gEq s (f a) (f b) = some (.bl (decide (a = b))) := by
  unfold DV.gEq
  rw [va, vb, E.eqD hk ha hb]
theorem Enc.gNe {s : S} (hk : k ≤ 64) {a b : α} (ha : ok a) (hb : ok b) (va : view s (f a) = f a) (vb : view s (f b) = f b) : DV.gNe s (f a) (f b) = some (.bl (!decide (a = b))) := by
  unfold DV.gNe
  rw [va, vb, E.eqD hk ha hb]
theorem Enc.all : ∀ xs : List α, (∀ x ∈ xs, ok x) → D.pds (xs.map f) = some (xs.map E.p) ∧ PyData.canLayAll0 (xs.map E.p) = true ∧ PyData.depthAll (xs.map E.p) ≤ k
  | [], _ => ⟨rfl, rfl, Nat.zero_le _⟩
  | x :: xs, h => by
    obtain ⟨h1, h2, h3⟩ := Enc.all xs fun y hy => h y (List.mem_cons_of_mem _ hy)
    have hx := h x List.mem_cons_self
    refine ⟨?_, ?_, ?_⟩
    · show (match (f x).pd, D.pds (xs.map f) with
        | some a, some b => some (a :: b)
        | _, _ => none) = _
      rw [E.pd x hx, h1]
      rfl
    · show ((E.p x).canLay0 && PyData.canLayAll0 (xs.map E.p)) = true
      rw [E.lay x hx, h2]
      rfl
    · show max (E.p x).depth (PyData.depthAll (xs.map E.p)) ≤ k
      exact Nat.max_le.mpr ⟨E.dep x hx, h3⟩
theorem Enc.eqAll : ∀ xs ys : List α, (∀ x ∈ xs, ok x) → (∀ x ∈ ys, ok x) → PyData.eqvAll (xs.map E.p) (ys.map E.p) = decide (xs = ys)
  | [], [], _, _ => rfl
  | [], _ :: _, _, _ => rfl
  | _ :: _, [], _, _ => rfl
  | x :: xs, y :: ys, hx, hy => by
    show (PyData.eqv (E.p x) (E.p y) && PyData.eqvAll (xs.map E.p) (ys.map E.p)) = _
    rw [E.eq x y (hx x List.mem_cons_self) (hy y List.mem_cons_self), Enc.eqAll xs ys (fun z hz => hx z (List.mem_cons_of_mem _ hz)) fun z hz => hy z (List.mem_cons_of_mem _ hz), Bool.eq_iff_iff]
    simp
end
def encInt : Enc D.int (fun _ => True) 0 := ⟨.int, fun _ _ => rfl, fun _ _ => rfl, fun _ _ => Nat.le_refl _, fun a b _ _ => rfl⟩
def encNat : Enc (fun k : Nat => D.int (k : Int)) (fun _ => True) 0 := ⟨fun k => .int (k : Int), fun _ _ => rfl, fun _ _ => rfl, fun _ _ => Nat.le_refl _, fun a b _ _ => by
  show decide ((a : Int) = (b : Int)) = decide (a = b)
  rw [Bool.eq_iff_iff, decide_eq_true_eq, decide_eq_true_eq]
  exact Int.ofNat_inj⟩
def encBool : Enc D.bl (fun _ => True) 0 := ⟨.bool, fun _ _ => rfl, fun _ _ => rfl, fun _ _ => Nat.le_refl _, fun a b _ _ => by cases a <;> cases b <;> rfl⟩
def encStr : Enc D.str (fun x => PySem.PyData.strOk x = true) 0 := ⟨.str, fun _ _ => rfl, fun _ h => h, fun _ _ => Nat.le_refl _, fun a b _ _ => rfl⟩
def Enc.lst {α : Type} [DecidableEq α] {f : α → D} {ok : α → Prop} {k : Nat} (E : Enc f ok k) : Enc (fun l : List α => D.lst (l.map f)) (fun l => ∀ x ∈ l, ok x) (k + 1) where
  p l := .list (l.map E.p)
  pd l h := by
    show (match D.pds (l.map f) with
      | some l => some (PyData.list l)
      | none => none) = _
    rw [(E.all l h).1]
  lay l h := (E.all l h).2.1
  dep l h := Nat.succ_le_succ (E.all l h).2.2
  eq a b ha hb := E.eqAll a b ha hb
def Enc.tup {α : Type} [DecidableEq α] {f : α → D} {ok : α → Prop} {k : Nat} (E : Enc f ok k) : Enc (fun l : List α => D.tup (l.map f)) (fun l => ∀ x ∈ l, ok x) (k + 1) where
  p l := .tuple (l.map E.p)
  pd l h := by
    show (match D.pds (l.map f) with
      | some l => some (PyData.tuple l)
      | none => none) = _
    rw [(E.all l h).1]
  lay l h := (E.all l h).2.1
  dep l h := Nat.succ_le_succ (E.all l h).2.2
  eq a b ha hb := E.eqAll a b ha hb
/-- a number among numbers -/
theorem in_nats {s : S} {k : Nat} {l : List Nat} : gIn s (.int (k : Int)) (.lst (l.map fun k : Nat => D.int (k : Int))) = some (.bl (decide (k ∈ l))) := by
  have h : ∀ l : List Nat, fls (l.map fun k : Nat => D.int (k : Int)) = some (l.map fun k : Nat => L2.V.int (k : Int)) := fun l => by
    induction l with
    | nil => rfl
    | cons x xs ih =>
      show (match fl (.int (x : Int)), fls (xs.map fun k : Nat => D.int (k : Int)) with
        | some a, some b => some (a :: b)
        | _, _ => none) = _
      rw [ih]
      rfl
  have e : inD s (.int (k : Int)) (.lst (l.map fun k : Nat => D.int (k : Int))) = inLst (.int (k : Int)) (l.map fun k : Nat => D.int (k : Int)) := rfl
  unfold gIn
  rw [e]
  unfold inLst
  rw [h]
  show some (D.bl (L2.inV (L2.V.int (k : Int)) (l.map fun k : Nat => L2.V.int (k : Int)))) = _
  congr 2
  unfold L2.inV
  rw [List.any_map, Bool.eq_iff_iff, List.any_eq_true, decide_eq_true_eq]
  constructor
  · rintro ⟨x, hx, e⟩
    have e : ((x : Int) == (k : Int)) = true := e
    have : x = k := by have := eq_of_beq e; omega
    exact this ▸ hx
  · intro h
    exact ⟨k, h, by show ((k : Int) == (k : Int)) = true; exact beq_self_eq_true _⟩
/-- a text among texts -/
theorem in_strs {s : S} {k : Str} {l : List Str} : gIn s (.str k) (.lst (l.map D.str)) = some (.bl (decide (k ∈ l))) := by
  have h : ∀ l : List Str, fls (l.map D.str) = some (l.map L2.V.str) := fun l => by
    induction l with
    | nil => rfl
    | cons x xs ih =>
      show (match fl (.str x), fls (xs.map D.str) with
        | some a, some b => some (a :: b)
        | _, _ => none) = _
      rw [ih]
      rfl
  have e : inD s (.str k) (.lst (l.map D.str)) = inLst (.str k) (l.map D.str) := rfl
  unfold gIn
  rw [e]
  unfold inLst
  rw [h]
  show some (D.bl (L2.inV (L2.V.str k) (l.map L2.V.str))) = _
  congr 2
  unfold L2.inV
  rw [List.any_map, Bool.eq_iff_iff, List.any_eq_true, decide_eq_true_eq]
  constructor
  · rintro ⟨x, hx, e⟩
    have e : (x == k) = true := e
    exact (eq_of_beq e) ▸ hx
  · intro h
    exact ⟨k, h, by show (k == k) = true; exact beq_self_eq_true _⟩
/-- ascending rows with the same members -/
theorem asc_ext : ∀ {l l' : List Nat}, l.Pairwise (· < ·) → l'.Pairwise (· < ·) → (∀ k, k ∈ l ↔ k ∈ l') → l = l'
  | [], [], _, _, _ => rfl
  | [], y :: ys, _, _, h => by have := (h y).mpr List.mem_cons_self; cases this
  | x :: xs, [], _, _, h => by have := (h x).mp List.mem_cons_self; cases this
  | x :: xs, y :: ys, h1, h2, h => by
    obtain ⟨a1, a2⟩ := List.pairwise_cons.mp h1
    obtain ⟨b1, b2⟩ := List.pairwise_cons.mp h2
    have e : x = y := by
      rcases List.mem_cons.mp ((h x).mp List.mem_cons_self) with z | z
      · exact z
      · rcases List.mem_cons.mp ((h y).mpr List.mem_cons_self) with w | w
        · exact w.symm
        · have := b1 x z
          have := a1 y w
          omega
    subst e
    congr 1
    refine asc_ext a2 b2 fun k => ⟨fun hk => ?_, fun hk => ?_⟩
    · rcases List.mem_cons.mp ((h k).mp (List.mem_cons_of_mem _ hk)) with z | z
      · subst z
        have := a1 k hk
        omega
      · exact z
    · rcases List.mem_cons.mp ((h k).mpr (List.mem_cons_of_mem _ hk)) with z | z
      · subst z
        have := b1 k hk
        omega
      · exact z
end DV
end
section
set_option Elab.async false
set_option linter.all false
set_option maxRecDepth 100000
set_option maxHeartbeats 2000000
/-! PI: how many unlike keys a dict of given things has. -/
namespace DV
open PySem PySem.Spec PyProof.Rows
instance keyDec (q : L2.Key) (ks : List L2.Key) : Decidable (q ∈ ks) := @List.instDecidableMemOfLawfulBEq L2.Key instBEqOfDecidableEq inferInstance q ks
instance keysDec (q : List L2.Key) (ks : List (List L2.Key)) : Decidable (q ∈ ks) := @List.instDecidableMemOfLawfulBEq (List L2.Key) instBEqOfDecidableEq inferInstance q ks
def addK {κ : Type} [DecidableEq κ] (acc : List κ) (q : κ) : List κ := if q ∈ acc then acc else acc ++ [q]
def keysOf {κ : Type} [DecidableEq κ] (qs : List κ) : List κ := qs.foldl addK []
theorem keys_nodup {κ : Type} [DecidableEq κ] : ∀ (qs acc : List κ), (acc ++ qs).Nodup → qs.foldl addK acc = acc ++ qs
  | [], acc, _ => by simp
  | q :: qs, acc, h => by
    rw [List.foldl_cons]
    have h1 : q ∉ acc := fun z => by
      rw [List.nodup_append] at h
      exact h.2.2 q z q List.mem_cons_self rfl
    rw [show addK acc q = acc ++ [q] from if_neg h1, keys_nodup qs (acc ++ [q]) (by simpa using h)]
    simp
theorem keys_le {κ : Type} [DecidableEq κ] : ∀ (qs acc : List κ), (qs.foldl addK acc).length ≤ acc.length + qs.length
  | [], acc => by simp
  | q :: qs, acc => by
    rw [List.foldl_cons]
    have := keys_le qs (addK acc q)
    have h : (addK acc q).length ≤ acc.length + 1 := by
      unfold addK
      split <;> simp
    rw [List.length_cons]
    omega
/-! ### keys that are texts or numbers -/
theorem look_key {ks : List L2.Key} : ∀ {vs : List D} {q : L2.Key}, vs.length = ks.length → (look1 (ks.map keyD) vs q).isSome = decide (q ∈ ks) := by
  induction ks with
  | nil =>
    intro vs q h
    cases vs with
    | nil => rfl
    | cons _ _ => cases h
  | cons k ks ih =>
    intro vs q h
    cases vs with
    | nil => cases h
    | cons v vs =>
      have h : vs.length + 1 = ks.length + 1 := h
      show (if kD (keyD k) = some q then some v else look1 (ks.map keyD) vs q).isSome = _
      rw [kD_keyD]
      by_cases e : k = q
      · subst e
        rw [if_pos rfl]
        simp
      · rw [if_neg (by intro z; exact e (Option.some.inj z)), ih (by omega)]
        simp [Ne.symm e]
theorem rep1_len {q : L2.Key} {v : D} : ∀ {ks vs : List D}, vs.length = ks.length → (rep1 ks vs q v).length = ks.length
  | [], [], _ => rfl
  | [], _ :: _, h => by cases h
  | _ :: _, [], h => by cases h
  | k :: ks, w :: vs, h => by
    show (rep1 ks vs q v).length + 1 = ks.length + 1
    rw [rep1_len (by simpa using h)]
theorem put_key {ks : List L2.Key} {vs : List D} {q : L2.Key} {v : D} (h : vs.length = ks.length) : (putKD (ks.map keyD) vs q v).1 = (addK ks q).map keyD ∧ (putKD (ks.map keyD) vs q v).2.length = (addK ks q).length := by
  unfold putKD addK
  rw [look_key h]
  by_cases e : q ∈ ks
  · rw [if_pos (by simpa using e), if_pos e]
    exact ⟨rfl, by show (rep1 _ _ _ _).length = _; rw [rep1_len (by rw [List.length_map]; exact h), List.length_map]⟩
  · rw [if_neg (by simpa using e), if_neg e]
    exact ⟨by simp, by simp [h]⟩
theorem fold_key : ∀ (ps : List (L2.Key × D)) (ks : List L2.Key) (vs : List D), vs.length = ks.length → ∃ ws, foldK ps (ks.map keyD) vs = (((ps.map (·.1)).foldl addK ks).map keyD, ws) ∧ ws.length = ((ps.map (·.1)).foldl addK ks).length
  | [], ks, vs, h => ⟨vs, rfl, h⟩
  | p :: ps, ks, vs, h => by
    obtain ⟨h1, h2⟩ := put_key (q := p.1) (v := p.2) h
    obtain ⟨ws, h3, h4⟩ := fold_key ps (addK ks p.1) (putKD (ks.map keyD) vs p.1 p.2).2 h2
    refine ⟨ws, ?_, h4⟩
    show foldK ps (putKD (ks.map keyD) vs p.1 p.2).1 (putKD (ks.map keyD) vs p.1 p.2).2 = _
    rw [h1, h3]
    rfl
theorem dc_key {α : Type} {c : CT} {fk fv : Ex} {vs : List Nat} {w : Wk} {e : Env} {s : S} (en : α → D) (key : α → L2.Key) (hw : w.src = []) : ∀ (xs : List α) (ks : List L2.Key) (va : List D), va.length = ks.length → ks.length + xs.length ≤ PySem.sizeLine →
    (∀ x ∈ xs, ∃ e1 y v, c.bind (en x) (wipeE e vs) s = some e1 ∧ fk e1 s = .ok y s ∧ kD y = some (key x) ∧ fv e1 s = .ok v s) → ∃ ws, dcRunK c tAll fk fv vs w e (xs.map en) (ks.map keyD) va s = .ok (((xs.map key).foldl addK ks).map keyD, ws) s ∧ ws.length = ((xs.map key).foldl addK ks).length
  | [], ks, va, h, _, _ => by
    have sm : w.same s := fun p hp => by rw [hw] at hp; cases hp
    refine ⟨va, ?_, h⟩
    unfold dcRunK
    rw [List.map_nil]
    show (if w.same s then Out.ok (ks.map keyD, va) s else .stuck) = _
    rw [if_pos sm]
    rfl
  | x :: xs, ks, va, h, hl, st => by
    have hl : ks.length + (xs.length + 1) ≤ PySem.sizeLine := hl
    have sm : w.same s := fun p hp => by rw [hw] at hp; cases hp
    obtain ⟨e1, y, v, h1, h2, h3, h4⟩ := st x List.mem_cons_self
    obtain ⟨h5, h6⟩ := put_key (q := key x) (v := v) h
    have hk : (addK ks (key x)).length ≤ ks.length + 1 := by
      unfold addK
      split <;> simp
    obtain ⟨ws, h7, h8⟩ := dc_key (c := c) (fk := fk) (fv := fv) (vs := vs) (w := w) (e := e) en key hw xs (addK ks (key x)) (putKD (ks.map keyD) va (key x) v).2 h6 (by omega) fun z hz => st z (List.mem_cons_of_mem _ hz)
    refine ⟨ws, ?_, h8⟩
    rw [List.map_cons]
    unfold dcRunK
    rw [if_pos sm, h1]
    show (tAll e1 s).bind _ = _
    rw [r_all, bind_ok, if_pos rfl, h2, bind_ok, h4, bind_ok, h3]
    show (if (ks.map keyD).length < PySem.sizeLine then _ else _) = _
    rw [if_pos (by rw [List.length_map]; omega), h5, h7]
    rfl
theorem xDcK_keysL {α : Type} {ix : Ix} {c : CT} {fk fv : Ex} {vs : List Nat} {e : Env} {s : S} (xs : List α) (en : α → D) (key : α → L2.Key) (hix : ix e s = .ok ⟨xs.map en, []⟩ s) (hl : xs.length ≤ PySem.sizeLine)
    (st : ∀ x ∈ xs, ∃ e1 y v, c.bind (en x) (wipeE e vs) s = some e1 ∧ fk e1 s = .ok y s ∧ kD y = some (key x) ∧ fv e1 s = .ok v s) : ∃ ws, xDcK ix c tAll fk fv vs e s = .ok (.dct ((keysOf (xs.map key)).map keyD) ws) s ∧ ws.length = (keysOf (xs.map key)).length := by
  obtain ⟨ws, h, h2⟩ := dc_key (c := c) (fk := fk) (fv := fv) (vs := vs) (w := ⟨xs.map en, []⟩) (e := e) (s := s) en key rfl xs [] [] rfl (by simpa using hl) st
  refine ⟨ws, ?_, h2⟩
  show (ix e s).bind _ = _
  rw [hix, bind_ok]
  show OutK (dcRunK c tAll fk fv vs ⟨xs.map en, []⟩ e (xs.map en) [] [] s) = _
  rw [show dcRunK c tAll fk fv vs ⟨xs.map en, []⟩ e (xs.map en) [] [] s = _ from h]
  rfl
theorem xDcK_keys {α : Type} {ix : Ix} {c : CT} {fk fv : Ex} {vs : List Nat} {e : Env} {s : S} (xs : List α) (en : α → D) (key : α → L2.Key) (hix : ix e s = .ok ⟨xs.map en, []⟩ s) (hl : xs.length ≤ PySem.sizeLine)
    (st : ∀ x ∈ xs, ∃ e1 y v, c.bind (en x) (wipeE e vs) s = some e1 ∧ fk e1 s = .ok y s ∧ kD y = some (key x) ∧ fv e1 s = .ok v s) : ∃ ws, xDcK ix c tAll fk fv vs e s = .ok (.dct ((keysOf (xs.map key)).map keyD) ws) s := by
  obtain ⟨ws, h, _⟩ := xDcK_keysL xs en key hix hl st
  exact ⟨ws, h⟩
theorem pairs_key {α : Type} (kf vf : α → D) (key : α → L2.Key) : ∀ xs : List α, (∀ x ∈ xs, kD (kf x) = some (key x)) → pairsK (xs.map fun x => D.tup [kf x, vf x]) = some (xs.map fun x => (key x, vf x))
  | [], _ => rfl
  | x :: xs, h => by
    have ih := pairs_key kf vf key xs fun y hy => h y (List.mem_cons_of_mem _ hy)
    show (match (D.tup [kf x, vf x]).strip, pairsK (xs.map fun x => D.tup [kf x, vf x]) with
      | .tup [k, v], some r => (kD k).map fun q => (q, v) :: r
      | _, _ => none) = _
    rw [ih]
    show (kD (kf x)).map _ = _
    rw [h x List.mem_cons_self]
    rfl
theorem dict_keys {α : Type} {s : S} (kf vf : α → D) (key : α → L2.Key) (xs : List α) (h : ∀ x ∈ xs, kD (kf x) = some (key x)) : ∃ ws, gDict s (.lst (xs.map fun x => D.tup [kf x, vf x])) = some (.dct ((keysOf (xs.map key)).map keyD) ws) := by
  obtain ⟨ws, h1, _⟩ := fold_key (xs.map fun x => (key x, vf x)) [] [] rfl
  refine ⟨ws, ?_⟩
  show (match pairsK (xs.map fun x => D.tup [kf x, vf x]) with
    | some ps => some (D.dct (foldK ps [] []).1 (foldK ps [] []).2)
    | none => _) = _
  rw [pairs_key kf vf key xs h]
  show some (D.dct (foldK (xs.map fun x => (key x, vf x)) [] []).1 (foldK (xs.map fun x => (key x, vf x)) [] []).2) = _
  rw [show foldK (xs.map fun x => (key x, vf x)) [] [] = _ from h1]
  show some (D.dct ((((xs.map fun x => (key x, vf x)).map (·.1)).foldl addK []).map keyD) ws) = _
  rw [List.map_map]
  rfl
/-! ### keys that are tuples of these -/
abbrev keyT (q : List L2.Key) : D := .tup (q.map keyD)
theorem look_keyT {ks : List (List L2.Key)} : ∀ {vs : List D} {q : List L2.Key}, vs.length = ks.length → (lookT (ks.map keyT) vs q).isSome = decide (q ∈ ks) := by
  induction ks with
  | nil =>
    intro vs q h
    cases vs with
    | nil => rfl
    | cons _ _ => cases h
  | cons k ks ih =>
    intro vs q h
    cases vs with
    | nil => cases h
    | cons v vs =>
      have h : vs.length + 1 = ks.length + 1 := h
      show (if kTD (keyT k) = some q then some v else lookT (ks.map keyT) vs q).isSome = _
      rw [kTD_map]
      by_cases e : k = q
      · subst e
        rw [if_pos rfl]
        simp
      · rw [if_neg (by intro z; exact e (Option.some.inj z)), ih (by omega)]
        simp [Ne.symm e]
theorem put_keyT {ks : List (List L2.Key)} {vs : List D} {q : List L2.Key} {v : D} (h : vs.length = ks.length) : (putTD (ks.map keyT) vs q v).1 = (addK ks q).map keyT ∧ (putTD (ks.map keyT) vs q v).2.length = (addK ks q).length := by
  unfold putTD addK
  rw [look_keyT h]
  by_cases e : q ∈ ks
  · rw [if_pos (by simpa using e), if_pos e]
    exact ⟨rfl, by show (repT _ _ _ _).length = _; rw [repT_len (by rw [List.length_map]; exact h), List.length_map]⟩
  · rw [if_neg (by simpa using e), if_neg e]
    exact ⟨by simp, by simp [h]⟩
theorem fold_keyT : ∀ (ps : List (List L2.Key × D)) (ks : List (List L2.Key)) (vs : List D), vs.length = ks.length → ∃ ws, foldT ps (ks.map keyT) vs = (((ps.map (·.1)).foldl addK ks).map keyT, ws) ∧ ws.length = ((ps.map (·.1)).foldl addK ks).length
  | [], ks, vs, h => ⟨vs, rfl, h⟩
  | p :: ps, ks, vs, h => by
    obtain ⟨h1, h2⟩ := put_keyT (q := p.1) (v := p.2) h
    obtain ⟨ws, h3, h4⟩ := fold_keyT ps (addK ks p.1) (putTD (ks.map keyT) vs p.1 p.2).2 h2
    refine ⟨ws, ?_, h4⟩
    show foldT ps (putTD (ks.map keyT) vs p.1 p.2).1 (putTD (ks.map keyT) vs p.1 p.2).2 = _
    rw [h1, h3]
    rfl
theorem keys_ne {κ : Type} [DecidableEq κ] : ∀ (qs acc : List κ), acc ≠ [] → qs.foldl addK acc ≠ []
  | [], acc, h => h
  | q :: qs, acc, h => by
    rw [List.foldl_cons]
    refine keys_ne qs _ ?_
    unfold addK
    split
    · exact h
    · simp
theorem keysOf_ne {κ : Type} [DecidableEq κ] {qs : List κ} (h : qs ≠ []) : keysOf qs ≠ [] := by
  cases qs with
  | nil => exact absurd rfl h
  | cons q qs => exact keys_ne qs [q] (by simp)
theorem dc_keyT {α : Type} {c : CT} {fk fv : Ex} {vs : List Nat} {w : Wk} {e : Env} {s : S} (en : α → D) (key : α → List L2.Key) (hw : w.src = []) : ∀ (xs : List α) (ks : List (List L2.Key)) (va : List D), va.length = ks.length → ks.length + xs.length ≤ PySem.sizeLine →
    (∀ x ∈ xs, ∃ e1 y v, c.bind (en x) (wipeE e vs) s = some e1 ∧ fk e1 s = .ok y s ∧ kTD y = some (key x) ∧ fv e1 s = .ok v s) → ∃ ws, dcRunT c tAll fk fv vs w e (xs.map en) (ks.map keyT) va s = .ok (((xs.map key).foldl addK ks).map keyT, ws) s
  | [], ks, va, h, _, _ => by
    have sm : w.same s := fun p hp => by rw [hw] at hp; cases hp
    refine ⟨va, ?_⟩
    unfold dcRunT
    rw [List.map_nil]
    show (if w.same s then Out.ok (ks.map keyT, va) s else .stuck) = _
    rw [if_pos sm]
    rfl
  | x :: xs, ks, va, h, hl, st => by
    have hl : ks.length + (xs.length + 1) ≤ PySem.sizeLine := hl
    have sm : w.same s := fun p hp => by rw [hw] at hp; cases hp
    obtain ⟨e1, y, v, h1, h2, h3, h4⟩ := st x List.mem_cons_self
    obtain ⟨h5, h6⟩ := put_keyT (q := key x) (v := v) h
    have hk : (addK ks (key x)).length ≤ ks.length + 1 := by
      unfold addK
      split <;> simp
    obtain ⟨ws, h7⟩ := dc_keyT (c := c) (fk := fk) (fv := fv) (vs := vs) (w := w) (e := e) en key hw xs (addK ks (key x)) (putTD (ks.map keyT) va (key x) v).2 h6 (by omega) fun z hz => st z (List.mem_cons_of_mem _ hz)
    refine ⟨ws, ?_⟩
    rw [List.map_cons]
    unfold dcRunT
    rw [if_pos sm, h1]
    show (tAll e1 s).bind _ = _
    rw [r_all, bind_ok, if_pos rfl, h2, bind_ok, h4, bind_ok, h3]
    show (if (ks.map keyT).length < PySem.sizeLine then _ else _) = _
    rw [if_pos (by rw [List.length_map]; omega), h5, h7]
    rfl
theorem xDcT_keys {α : Type} {ix : Ix} {c : CT} {fk fv : Ex} {vs : List Nat} {e : Env} {s : S} (xs : List α) (en : α → D) (key : α → List L2.Key) (hix : ix e s = .ok ⟨xs.map en, []⟩ s) (hl : xs.length ≤ PySem.sizeLine) (hne : xs ≠ [])
    (st : ∀ x ∈ xs, ∃ e1 y v, c.bind (en x) (wipeE e vs) s = some e1 ∧ fk e1 s = .ok y s ∧ kTD y = some (key x) ∧ fv e1 s = .ok v s) : ∃ ws, xDcT ix c tAll fk fv vs e s = .ok (.dct ((keysOf (xs.map key)).map keyT) ws) s := by
  obtain ⟨ws, h⟩ := dc_keyT (c := c) (fk := fk) (fv := fv) (vs := vs) (w := ⟨xs.map en, []⟩) (e := e) (s := s) en key rfl xs [] [] rfl (by simpa using hl) st
  refine ⟨ws, ?_⟩
  show (ix e s).bind _ = _
  rw [hix, bind_ok]
  show OutT (dcRunT c tAll fk fv vs ⟨xs.map en, []⟩ e (xs.map en) [] [] s) = _
  rw [show dcRunT c tAll fk fv vs ⟨xs.map en, []⟩ e (xs.map en) [] [] s = _ from h]
  have hn := keysOf_ne (qs := xs.map key) (by simpa using hne)
  show (if ((keysOf (xs.map key)).map keyT).isEmpty = true then Out.stuck else _) = _
  rw [if_neg (by
    intro z
    rw [List.isEmpty_iff, List.map_eq_nil_iff] at z
    exact hn z)]
  rfl
theorem pairs_none {α : Type} (kf vf : α → D) : ∀ xs : List α, xs ≠ [] → (∀ x ∈ xs, kD (kf x) = none) → pairsK (xs.map fun x => D.tup [kf x, vf x]) = none
  | [], h, _ => absurd rfl h
  | x :: xs, _, h => by
    show (match (D.tup [kf x, vf x]).strip, pairsK (xs.map fun x => D.tup [kf x, vf x]) with
      | .tup [k, v], some r => (kD k).map fun q => (q, v) :: r
      | _, _ => none) = _
    cases pairsK (xs.map fun x => D.tup [kf x, vf x]) with
    | none => rfl
    | some r =>
      show (kD (kf x)).map _ = _
      rw [h x List.mem_cons_self]
      rfl
theorem pairs_keyT {α : Type} (kf vf : α → D) (key : α → List L2.Key) : ∀ xs : List α, (∀ x ∈ xs, kTD (kf x) = some (key x)) → pairsT (xs.map fun x => D.tup [kf x, vf x]) = some (xs.map fun x => (key x, vf x))
  | [], _ => rfl
  | x :: xs, h => by
    have ih := pairs_keyT kf vf key xs fun y hy => h y (List.mem_cons_of_mem _ hy)
    show (match (D.tup [kf x, vf x]).strip, pairsT (xs.map fun x => D.tup [kf x, vf x]) with
      | .tup [k, v], some r => (kTD k).map fun q => (q, v) :: r
      | _, _ => none) = _
    rw [ih]
    show (kTD (kf x)).map _ = _
    rw [h x List.mem_cons_self]
    rfl
theorem dict_keysTL {α : Type} {s : S} (kf vf : α → D) (key : α → List L2.Key) (xs : List α) (hne : xs ≠ []) (hk : ∀ x ∈ xs, kD (kf x) = none) (h : ∀ x ∈ xs, kTD (kf x) = some (key x)) : ∃ ws, gDict s (.lst (xs.map fun x => D.tup [kf x, vf x])) = some (.dct ((keysOf (xs.map key)).map keyT) ws) ∧ ws.length = (keysOf (xs.map key)).length := by
  obtain ⟨ws, h1, hw⟩ := fold_keyT (xs.map fun x => (key x, vf x)) [] [] rfl
  have hw : ws.length = (keysOf (xs.map key)).length := by
    rw [hw, List.map_map]
    rfl
  refine ⟨ws, ?_, hw⟩
  have hn := keysOf_ne (qs := xs.map key) (by simpa using hne)
  show (match pairsK (xs.map fun x => D.tup [kf x, vf x]) with
    | some ps => some (D.dct (foldK ps [] []).1 (foldK ps [] []).2)
    | none => match pairsT (xs.map fun x => D.tup [kf x, vf x]) with
      | some ps => if (foldT ps [] []).1.isEmpty = true then none else some (D.dct (foldT ps [] []).1 (foldT ps [] []).2)
      | none => none) = _
  rw [pairs_none kf vf xs hne hk, pairs_keyT kf vf key xs h]
  have h1 : foldT (xs.map fun x => (key x, vf x)) [] [] = ((keysOf (xs.map key)).map keyT, ws) := by
    have h1 : foldT (xs.map fun x => (key x, vf x)) [] [] = ((((xs.map fun x => (key x, vf x)).map (·.1)).foldl addK []).map keyT, ws) := h1
    rw [h1, List.map_map]
    rfl
  show (if (foldT (xs.map fun x => (key x, vf x)) [] []).1.isEmpty = true then none else some (D.dct (foldT (xs.map fun x => (key x, vf x)) [] []).1 (foldT (xs.map fun x => (key x, vf x)) [] []).2)) = _
  rw [h1]
  exact if_neg (by
    intro z
    rw [List.isEmpty_iff, List.map_eq_nil_iff] at z
    exact hn z)
theorem dict_keysT {α : Type} {s : S} (kf vf : α → D) (key : α → List L2.Key) (xs : List α) (hne : xs ≠ []) (hk : ∀ x ∈ xs, kD (kf x) = none) (h : ∀ x ∈ xs, kTD (kf x) = some (key x)) : ∃ ws, gDict s (.lst (xs.map fun x => D.tup [kf x, vf x])) = some (.dct ((keysOf (xs.map key)).map keyT) ws) := by
  obtain ⟨ws, h1, _⟩ := dict_keysTL (s := s) kf vf key xs hne hk h
  exact ⟨ws, h1⟩
end DV
end
section
set_option Elab.async false
set_option linter.all false
set_option maxRecDepth 100000
set_option maxHeartbeats 2000000
/-! PJ: told values of any kind. -/
namespace DV
open PySem PySem.Spec PyProof.Rows
mutual
/-- plain and not great; no tag within -/
def D.val : D → Bool
  | .non => true
  | .bl _ => true
  | .int _ => true
  | .str x => decide (x.length ≤ 1000000)
  | .lst xs => decide (xs.length ≤ 1000000) && D.vals xs
  | .tup xs => decide (xs.length ≤ 1000000) && D.vals xs
  | .dct ks vs => decide (ks.length ≤ 1000000)
  | _ => false
def D.vals : List D → Bool
  | [] => true
  | d :: ds => d.val && D.vals ds
end
theorem vals_all : ∀ {xs : List D}, D.vals xs = true ↔ ∀ x ∈ xs, x.val = true
  | [] => ⟨fun _ x hx => (by cases hx), fun _ => rfl⟩
  | x :: xs => by
    show (x.val && D.vals xs) = true ↔ _
    rw [Bool.and_eq_true, vals_all]
    simp
theorem val_strip {d : D} (h : d.val = true) : d.strip = d := by cases d <;> first | rfl | cases h
theorem view_val {s : S} {d v : D} (h : d.strip = v) (hv : v.val = true) : view s d = v := by
  unfold view
  rw [h]
  cases v <;> first | rfl | cases hv
def tyn (v : D) : String := (tyD v).getD ""
theorem isi_val {s : S} {d v : D} {tb : String → Bool} {cb : Nat → Option Bool} (h : d.strip = v) (hv : v.val = true) : gIsi tb cb s d = some (.bl (tb (tyn v))) := by
  unfold gIsi
  rw [view_val h hv]
  cases v <;> first | rfl | cases hv
/-- the items of a list, a tuple -/
def seqOf : D → Option (List D)
  | .lst xs => some xs
  | .tup xs => some xs
  | _ => none
theorem seqOf_val {v : D} {xs : List D} (hv : v.val = true) (h : seqOf v = some xs) : xs.length ≤ 1000000 ∧ ∀ x ∈ xs, x.val = true := by
  cases v with
  | lst ys =>
    cases h
    have hv := Bool.and_eq_true_iff.mp (show (decide (xs.length ≤ 1000000) && D.vals xs) = true from hv)
    exact ⟨of_decide_eq_true hv.1, vals_all.mp hv.2⟩
  | tup ys =>
    cases h
    have hv := Bool.and_eq_true_iff.mp (show (decide (xs.length ≤ 1000000) && D.vals xs) = true from hv)
    exact ⟨of_decide_eq_true hv.1, vals_all.mp hv.2⟩
  | _ => cases h
theorem seq_isi {v : D} (hv : v.val = true) : tbOf ["list", "tuple"] (tyn v) = (seqOf v).isSome := by cases v <;> first | rfl | cases hv
theorem str_isi {v : D} (hv : v.val = true) : tbOf ["str"] (tyn v) = (match v with | .str _ => true | _ => false) := by cases v <;> first | rfl | cases hv
theorem seq_ix {s : S} {e : Env} {j : Nat} {d v : D} {xs : List D} (h : d.strip = v) (hs : seqOf v = some xs) (he : e[j]? = some (some d)) : ixSeq (xVar j) e s = .ok ⟨xs, []⟩ s := by
  rw [r_seqIx, r_var, he]
  show (match view s d with
    | .lst xs => Out.ok (wkD d xs) s
    | .tup xs => .ok ⟨xs, []⟩ s
    | .kl xs => .ok ⟨xs, []⟩ s
    | .scr ns => .ok ⟨ns.map .int, []⟩ s
    | .str z => .ok ⟨signsD z, []⟩ s
    | _ => .stuck) = _
  cases v with
  | lst ys =>
    cases hs
    have e1 : view s d = .lst xs := by
      unfold view
      rw [h]
    rw [e1]
    show Out.ok (⟨xs, srcD d xs⟩ : Wk) s = _
    unfold srcD
    rw [h]
  | tup ys =>
    cases hs
    have e1 : view s d = .tup xs := by
      unfold view
      rw [h]
    rw [e1]
  | _ => cases hs
theorem seq_len {s : S} {d v : D} {xs : List D} (h : d.strip = v) (hs : seqOf v = some xs) : gLen s d = some (.int xs.length) := by
  have e1 : view s d = v := by
    unfold view
    rw [h]
    cases v <;> first | rfl | cases hs
  unfold gLen
  rw [e1]
  cases v <;> first | (cases hs; rfl) | cases hs
theorem seq_tup {s : S} {d v : D} {xs : List D} (h : d.strip = v) (hs : seqOf v = some xs) : gTuple s d = some (.tup xs) := by
  have e1 : view s d = v := by
    unfold view
    rw [h]
    cases v <;> first | rfl | cases hs
  unfold gTuple
  rw [e1]
  cases v <;> first | (cases hs; rfl) | cases hs
theorem seq_list {s : S} {d v : D} {xs : List D} (h : d.strip = v) (hs : seqOf v = some xs) : gList s d = some xs := by
  have e1 : view s d = v := by
    unfold view
    rw [h]
    cases v <;> first | rfl | cases hs
  have e2 : dctD s d = none := by
    unfold dctD
    rw [h]
    cases v <;> first | rfl | cases hs
  unfold gList
  rw [e2]
  show (match view s d with | .str z => _ | v => seqD v) = _
  rw [e1]
  cases v <;> first | (cases hs; rfl) | cases hs
theorem seq_ixI {s : S} {d v : D} {xs : List D} {k : Int} (h : d.strip = v) (hs : seqOf v = some xs) : gIx s d (.int k) = L2.atI xs k := by
  have e1 : view s d = v := by
    unfold view
    rw [h]
    cases v <;> first | rfl | cases hs
  have e2 : dctD s d = none := by
    unfold dctD
    rw [h]
    cases v <;> first | rfl | cases hs
  unfold gIx
  rw [e2]
  show ixD (view s d) k = _
  rw [e1]
  cases v <;> first | (cases hs; rfl) | cases hs
theorem str_len {s : S} {d : D} {z : Str} (h : d.strip = .str z) (hz : z.length ≤ sizeLine) : gLen s d = some (.int z.length) := by
  unfold gLen
  rw [show view s d = .str z from by unfold view; rw [h]]
  exact if_pos hz
theorem str_ix {s : S} {d : D} {z : Str} {c : Nat} {r : List Nat} (h : d.strip = .str z) (hz : z.length ≤ sizeLine) (e : z.cps.toList = c :: r) : gIx s d (.int 0) = some (.str ⟨#[c]⟩) := by
  have e2 : dctD s d = none := by
    unfold dctD
    rw [h]
  unfold gIx
  rw [e2]
  show ixD (view s d) 0 = _
  rw [show view s d = .str z from by unfold view; rw [h]]
  show (if z.length ≤ sizeLine then (L2.atI z.cps.toList 0).map (fun c => D.str ⟨#[c]⟩) else none) = _
  rw [if_pos hz, e, show L2.atI (c :: r) 0 = some c from atI_nat (n := 0) (k := 0) rfl (by simp)]
  rfl
theorem str_seq {s : S} {e : Env} {j : Nat} {d : D} {z : Str} (h : d.strip = .str z) (he : e[j]? = some (some d)) : ixSeq (xVar j) e s = .ok ⟨z.cps.toList.map fun c => D.str ⟨#[c]⟩, []⟩ s := by
  rw [r_seqIx, r_var, he]
  show (match view s d with
    | .lst xs => Out.ok (wkD d xs) s
    | .tup xs => .ok ⟨xs, []⟩ s
    | .kl xs => .ok ⟨xs, []⟩ s
    | .scr ns => .ok ⟨ns.map .int, []⟩ s
    | .str z => .ok ⟨signsD z, []⟩ s
    | _ => .stuck) = _
  rw [show view s d = .str z from by unfold view; rw [h]]
  rfl
theorem in_sign {s : S} {c : Nat} {z : Str} : gIn s (.str ⟨#[c]⟩) (.str z) = some (.bl (decide (c ∈ z.cps.toList))) := rfl
theorem notIn_sign {s : S} {c : Nat} {z : Str} : gNotIn s (.str ⟨#[c]⟩) (.str z) = some (.bl (!decide (c ∈ z.cps.toList))) := rfl
theorem all_bl {α : Type} {s : S} {xs : List α} {g : α → Bool} : gAll s (.lst ((xs.map g).map D.bl)) = some (.bl (xs.all g)) := by
  rw [List.map_map]
  exact all_map (q := g)
/-! ### rows of ascending texts -/
def strOf : D → Str
  | .str z => z
  | _ => ⟨#[]⟩
def ascB : List Str → Bool
  | a :: b :: r => decide (a.cps.toList < b.cps.toList) && ascB (b :: r)
  | _ => true
theorem asc_zip : ∀ zs : List Str, (zs.zip zs.tail).all (fun p => decide (p.1.cps.toList < p.2.cps.toList)) = ascB zs
  | [] => rfl
  | [_] => rfl
  | a :: b :: r => by
    show (decide (a.cps.toList < b.cps.toList) && ((b :: r).zip r).all _) = _
    rw [show ((b :: r).zip r).all (fun p => decide (p.1.cps.toList < p.2.cps.toList)) = ascB (b :: r) from asc_zip (b :: r)]
    rfl
theorem asc_range : ∀ zs : List Str, (List.range (zs.length - 1)).all (fun i => decide ((zs.getD i ⟨#[]⟩).cps.toList < (zs.getD (i + 1) ⟨#[]⟩).cps.toList)) = ascB zs
  | [] => rfl
  | [_] => rfl
  | a :: b :: r => by
    have ih := asc_range (b :: r)
    have e : (a :: b :: r).length - 1 = ((b :: r).length - 1) + 1 := by simp
    rw [e, List.range_succ_eq_map, List.all_cons, List.all_map]
    show (decide (a.cps.toList < b.cps.toList) && _) = (decide (a.cps.toList < b.cps.toList) && ascB (b :: r))
    rw [← ih]
    rfl
theorem zipD_strs : ∀ zs ws : List Str, zipD (zs.map D.str) (ws.map D.str) = (zs.zip ws).map fun p => D.tup [.str p.1, .str p.2]
  | [], _ => rfl
  | _ :: _, [] => rfl
  | z :: zs, w :: ws => by
    show D.tup [.str z, .str w] :: zipD (zs.map D.str) (ws.map D.str) = _
    rw [zipD_strs zs ws]
    rfl
/-! ### names and lots, judged -/
def goodS (z : Str) : Bool := decide (1 ≤ z.length) && (decide (z.length ≤ 8) && ((match z.cps.toList with | c :: _ => decide (c ∈ ("abcdefghijklmnopqrstuvwxyz" : Str).cps.toList) | [] => false) && z.cps.toList.all fun c => decide (c ∈ ("abcdefghijklmnopqrstuvwxyz0123456789" : Str).cps.toList)))
def nameB : D → Bool
  | .str z => goodS z
  | _ => false
def keyOfD (x : D) : L2.Key := (kD x).getD (.inl 0)
def namesB (v : D) : Bool := match seqOf v with
  | some xs => decide (1 ≤ xs.length) && (decide (xs.length ≤ 8) && (xs.all nameB && decide ((keysOf (xs.map keyOfD)).length = xs.length)))
  | none => false
def inB (nm : List Str) : D → Bool
  | .str z => decide (z ∈ nm)
  | _ => false
def lotB (nm : List Str) (v : D) : Bool := match seqOf v with
  | some xs => xs.all (inB nm) && ascB (xs.map strOf)
  | none => false
def lotKey (v : D) : List L2.Key := ((seqOf v).getD []).map keyOfD
def lotsB (nm : List Str) (v : D) : Bool := match seqOf v with
  | some xs => !xs.isEmpty && (xs.all (lotB nm) && decide ((keysOf (xs.map lotKey)).length = xs.length))
  | none => false
theorem strs_of {p : D → Bool} (hp : ∀ d, p d = true → ∃ z, d = .str z) : ∀ {xs : List D}, xs.all p = true → xs = (xs.map strOf).map D.str
  | [], _ => rfl
  | x :: xs, h => by
    have h2 := Bool.and_eq_true_iff.mp (show (p x && xs.all p) = true from h)
    obtain ⟨z, rfl⟩ := hp x h2.1
    rw [List.map_cons, List.map_cons, ← strs_of hp h2.2]
    rfl
theorem nameB_str (d : D) (h : nameB d = true) : ∃ z, d = .str z := by
  cases d with
  | str z => exact ⟨z, rfl⟩
  | _ => cases h
theorem inB_str {nm : List Str} (d : D) (h : inB nm d = true) : ∃ z, d = .str z := by
  cases d with
  | str z => exact ⟨z, rfl⟩
  | _ => cases h
end DV
end
section
set_option Elab.async false
set_option linter.all false
set_option maxRecDepth 100000
set_option maxHeartbeats 2000000
/-! PK: lots, judged. -/
namespace DV
open PySem PySem.Spec PyProof.Rows
theorem cut_tail {α : Type} {xs : List α} : cutL xs (some 1) none = xs.drop 1 := by
  have h1 : HT.sIx xs.length 0 (some 1) = min 1 xs.length := rfl
  have h2 : HT.sIx xs.length xs.length none = xs.length := rfl
  unfold cutL
  rw [h1, h2]
  cases xs with
  | nil => rfl
  | cons x xs =>
    have e : min 1 (x :: xs).length = 1 := by
      rw [List.length_cons]
      omega
    rw [e]
    exact List.take_of_length_le (by simp)
theorem zip_tail {s : S} {d v : D} {xs : List D} (h : d.strip = v) (hs : seqOf v = some xs) : ∃ w, sliceD (view s d) (some 1) none = some w ∧ zipIx s d w = .ok ⟨zipD xs (xs.drop 1), []⟩ s := by
  have e1 : view s d = v := by
    unfold view
    rw [h]
    cases v <;> first | rfl | cases hs
  cases v with
  | lst ys =>
    cases hs
    refine ⟨.lst (xs.drop 1), ?_, ?_⟩
    · rw [e1, ← cut_tail]
      rfl
    · have e3 : srcD d xs = [] := by
        unfold srcD
        rw [h]
      have e2 : lsD s d = some (xs, []) := by
        unfold lsD
        rw [e1]
        show some (xs, srcD d xs) = _
        rw [e3]
      unfold zipIx
      rw [e2]
      rfl
  | tup ys =>
    cases hs
    refine ⟨.tup (xs.drop 1), ?_, ?_⟩
    · rw [e1, ← cut_tail]
      rfl
    · unfold zipIx lsD
      rw [e1]
      rfl
  | _ => cases hs
def strK (z : Str) : L2.Key := .inr z
theorem kD_strs : ∀ zs : List Str, kDs (zs.map D.str) = some (zs.map strK)
  | [] => rfl
  | z :: zs => by
    show (match kD (D.str z), kDs (zs.map D.str) with
      | some a, some b => some (a :: b)
      | _, _ => none) = _
    rw [kD_strs zs]
    rfl
theorem lotB_strs {nm : List Str} {v : D} (h : lotB nm v = true) : ∃ zs : List Str, seqOf v = some (zs.map D.str) ∧ (∀ z ∈ zs, z ∈ nm) ∧ ascB zs = true := by
  unfold lotB at h
  cases hs : seqOf v with
  | none =>
    rw [hs] at h
    cases h
  | some xs =>
    rw [hs] at h
    have h2 := Bool.and_eq_true_iff.mp (show (xs.all (inB nm) && ascB (xs.map strOf)) = true from h)
    refine ⟨xs.map strOf, ?_, fun z hz => ?_, h2.2⟩
    · rw [← strs_of inB_str h2.1]
    · obtain ⟨x, hx, rfl⟩ := List.mem_map.mp hz
      have hi := List.all_eq_true.mp h2.1 x hx
      obtain ⟨z, rfl⟩ := inB_str x hi
      exact of_decide_eq_true hi
theorem lotKey_strs {v : D} {zs : List Str} (h : seqOf v = some (zs.map D.str)) : lotKey v = zs.map strK := by
  unfold lotKey
  rw [h]
  show (zs.map D.str).map keyOfD = _
  rw [List.map_map]
  rfl
theorem lot_key {nm : List Str} {v : D} {s : S} (h : lotB nm v = true) : ∃ xs, gTuple s v = some (.tup xs) ∧ kTD (.tup xs) = some (lotKey v) ∧ kD (.tup xs) = none := by
  obtain ⟨zs, h1, h2, h3⟩ := lotB_strs h
  refine ⟨zs.map D.str, seq_tup (v := v) (by cases v <;> first | rfl | cases h1) h1, ?_, rfl⟩
  rw [lotKey_strs h1]
  exact kD_strs zs
theorem tupD_strs {nm : List Str} {v : D} (h : lotB nm v = true) : ∃ zs : List Str, seqOf v = some (zs.map D.str) := by
  obtain ⟨zs, h1, _⟩ := lotB_strs h
  exact ⟨zs, h1⟩
/-- ascending, asked by places -/
theorem asc_places {zs : List Str} : (rngD 1 (zs.length - 1)).map (fun d : D => match d with | .int k => decide ((zs.getD (k - 1).toNat ⟨#[]⟩).cps.toList < (zs.getD k.toNat ⟨#[]⟩).cps.toList) | _ => false) = (List.range (zs.length - 1)).map fun i => decide ((zs.getD i ⟨#[]⟩).cps.toList < (zs.getD (i + 1) ⟨#[]⟩).cps.toList) := by
  unfold rngD
  rw [List.map_map]
  refine List.map_congr_left fun i _ => ?_
  show decide ((zs.getD ((1 : Int) + (i : Int) - 1).toNat ⟨#[]⟩).cps.toList < (zs.getD ((1 : Int) + (i : Int)).toNat ⟨#[]⟩).cps.toList) = _
  rw [show ((1 : Int) + (i : Int) - 1).toNat = i by omega, show ((1 : Int) + (i : Int)).toNat = i + 1 by omega]
theorem strAt {zs : List Str} {i : Nat} {k : Int} (hk : k = (i : Int)) (h : i < zs.length) : L2.atI (zs.map D.str) k = some (.str (zs.getD i ⟨#[]⟩)) := by
  rw [atI_nat hk (by rw [List.length_map]; exact h), List.getElem_map, List.getD_eq_getElem?_getD, List.getElem?_eq_getElem h]
  rfl
theorem sorted_lst {s : S} {d : D} {xs : List D} (h : d.strip = .lst xs) : gSorted s d = gSorted s (.lst xs) := by
  have e1 : view s d = .lst xs := by
    unfold view
    rw [h]
  unfold gSorted
  rw [e1]
  rfl
end DV
end
section
set_option Elab.async false
set_option linter.all false
set_option maxRecDepth 100000
set_option maxHeartbeats 2000000
/-! PL: a thing beside itself. -/
namespace DV
open PySem PySem.Spec PyProof.Rows
/-- no dict within, not deep -/
def D.smp : Nat → D → Bool
  | _, .non => true
  | _, .bl _ => true
  | _, .int _ => true
  | _, .str _ => true
  | n + 1, .lst xs => xs.all (D.smp n)
  | n + 1, .tup xs => xs.all (D.smp n)
  | _, _ => false
theorem zip_self {s : S} {d v : D} {xs : List D} (h : d.strip = v) (hs : seqOf v = some xs) : zipIx s d d = .ok ⟨xs.map fun x => D.tup [x, x], []⟩ s := by
  have e1 : view s d = v := by
    unfold view
    rw [h]
    cases v <;> first | rfl | cases hs
  have e2 : ∀ l : List D, zipD l l = l.map fun x => D.tup [x, x] := fun l => by
    induction l with
    | nil => rfl
    | cons x l ih =>
      show D.tup [x, x] :: zipD l l = _
      rw [ih]
      rfl
  cases v with
  | lst ys =>
    cases hs
    have e3 : srcD d xs = [] := by
      unfold srcD
      rw [h]
    have e4 : lsD s d = some (xs, []) := by
      unfold lsD
      rw [e1]
      show some (xs, srcD d xs) = _
      rw [e3]
    unfold zipIx
    rw [e4]
    show Out.ok (⟨zipD xs xs, [] ++ []⟩ : Wk) s = _
    rw [e2]
    rfl
  | tup ys =>
    cases hs
    unfold zipIx lsD
    rw [e1]
    show Out.ok (⟨zipD xs xs, []⟩ : Wk) s = _
    rw [e2]
  | _ => cases hs
theorem eq_selfI {s : S} {d : D} {i : Int} (h : d.strip = .int i) : gEq s d d = some (.bl true) := by
  have e : view s d = .int i := by
    unfold view
    rw [h]
  unfold gEq
  rw [e]
  show some (D.bl (decide (i = i))) = _
  rw [decide_eq_true rfl]
theorem eq_selfS {s : S} {d : D} {i : Str} (h : d.strip = .str i) : gEq s d d = some (.bl true) := by
  have e : view s d = .str i := by
    unfold view
    rw [h]
  unfold gEq
  rw [e]
  show some (D.bl (decide (i = i))) = _
  rw [decide_eq_true rfl]
theorem eq_selfB {s : S} {d : D} {i : Bool} (h : d.strip = .bl i) : gEq s d d = some (.bl true) := by
  have e : view s d = .bl i := by
    unfold view
    rw [h]
  unfold gEq
  rw [e]
  cases i <;> rfl
def nonB : D → Bool
  | .non => true
  | _ => false
theorem isN_val {s : S} {d v : D} (h : d.strip = v) : gIsN s d .non = some (.bl (nonB v)) := by
  have e : D.non.isNon = true := rfl
  unfold gIsN
  rw [if_pos e]
  show some (D.bl (nonB d.strip)) = _
  rw [h]
end DV
end
section
set_option Elab.async false
set_option linter.all false
set_option maxRecDepth 100000
set_option maxHeartbeats 4000000
namespace K00
open DV PySem
/-! ### alike -/
theorem same_ok : ∀ (n : Nat) {s : S} {d v : D}, d.strip = v → v.val = true → v.smp n = true → G__law_same (n + 1) s [d, d] = .ok (.bl true) s
  | n, s, d, v, h, hv, hm => by
    have tt : ∀ tb : String → Bool, gIsi tb (fun _ => none) s d = some (.bl (tb (tyn v))) := fun tb => isi_val h hv
    have seq : ∀ xs, seqOf v = some xs → (n ≠ 0 ∧ ∀ x ∈ xs, ∀ s : S, G__law_same n s [x, x] = .ok (.bl true) s) → (tbOf ["dict"] (tyn v) = false) → G__law_same (n + 1) s [d, d] = .ok (.bl true) s := fun xs hs hx hd => by
      obtain ⟨hx1, hx2⟩ := seqOf_val hv hs
      have start : G__law_same (n + 1) s [d, d] = endDef s (_) := run_def (n := 2) (nN := 5) (ds := [d, d]) rfl
      rw [start]
      have sq : tbOf ["list", "tuple"] (tyn v) = true := by rw [seq_isi hv, hs]; rfl
      have cm : aComp (ixZip (aCons (xVar 0) (aCons (xVar 1) aNil))) (.many [3, 4]) tAll (xCall (G__law_same n) (aCons (xVar 3) (aCons (xVar 4) aNil))) [3, 4] [some d, some d, none, none, none] s = .ok ((xs.map fun _ => true).map D.bl) s :=
        aComp_mapE xs (fun x => D.tup [x, x]) (fun _ => true) D.bl (by simp only [RUN, zip_self h hs]) (by rw [line]; omega) fun x hx' => ⟨_, rfl, by
          simp only [RUN, DV.setAll, hx.2 x hx' s]⟩
      have al : xs.all (fun _ => true) = true := by simp
      show endDef s (sSeq _ _ [some d, some d, none, none, none] s) = _
      simp only [RUN, tt, hd, sq, Bool.not_true, decide_true, seq_len h hs, cm, all_bl, al, RUN2]
    cases v with
    | lst xs => 
      cases n with
      | zero => cases hm
      | succ n =>
        obtain ⟨hx1, hx2⟩ := seqOf_val hv rfl
        exact seq xs rfl ⟨Nat.succ_ne_zero n, fun x hx s => same_ok n (val_strip (hx2 x hx)) (hx2 x hx) (List.all_eq_true.mp (show xs.all (D.smp n) = true from hm) x hx)⟩ rfl
    | tup xs => 
      cases n with
      | zero => cases hm
      | succ n =>
        obtain ⟨hx1, hx2⟩ := seqOf_val hv rfl
        exact seq xs rfl ⟨Nat.succ_ne_zero n, fun x hx s => same_ok n (val_strip (hx2 x hx)) (hx2 x hx) (List.all_eq_true.mp (show xs.all (D.smp n) = true from hm) x hx)⟩ rfl
    | non =>
      have start : G__law_same (n + 1) s [d, d] = endDef s (_) := run_def (n := 2) (nN := 5) (ds := [d, d]) rfl
      rw [start]
      show endDef s (sSeq _ _ [some d, some d, none, none, none] s) = _
      have t1 : tbOf ["dict"] (tyn .non) = false := rfl
      have t2 : tbOf ["list", "tuple"] (tyn .non) = false := rfl
      have t3 : tbOf ["dict", "list", "tuple"] (tyn .non) = false := rfl
      simp only [RUN, tt, t1, t2, t3, isN_val h, nonB, Bool.not_true, Bool.not_false, decide_true, RUN2]
    | bl b =>
      have start : G__law_same (n + 1) s [d, d] = endDef s (_) := run_def (n := 2) (nN := 5) (ds := [d, d]) rfl
      rw [start]
      show endDef s (sSeq _ _ [some d, some d, none, none, none] s) = _
      have t1 : tbOf ["dict"] (tyn (.bl b)) = false := rfl
      have t2 : tbOf ["list", "tuple"] (tyn (.bl b)) = false := rfl
      have t3 : tbOf ["dict", "list", "tuple"] (tyn (.bl b)) = false := rfl
      simp only [RUN, tt, t1, t2, t3, isN_val h, nonB, eq_selfB h, Bool.not_true, Bool.not_false, decide_true, RUN2]
    | int i =>
      have start : G__law_same (n + 1) s [d, d] = endDef s (_) := run_def (n := 2) (nN := 5) (ds := [d, d]) rfl
      rw [start]
      show endDef s (sSeq _ _ [some d, some d, none, none, none] s) = _
      have t1 : tbOf ["dict"] (tyn (.int i)) = false := rfl
      have t2 : tbOf ["list", "tuple"] (tyn (.int i)) = false := rfl
      have t3 : tbOf ["dict", "list", "tuple"] (tyn (.int i)) = false := rfl
      simp only [RUN, tt, t1, t2, t3, isN_val h, nonB, eq_selfI h, Bool.not_true, Bool.not_false, decide_true, RUN2]
    | str z =>
      have start : G__law_same (n + 1) s [d, d] = endDef s (_) := run_def (n := 2) (nN := 5) (ds := [d, d]) rfl
      rw [start]
      show endDef s (sSeq _ _ [some d, some d, none, none, none] s) = _
      have t1 : tbOf ["dict"] (tyn (.str z)) = false := rfl
      have t2 : tbOf ["list", "tuple"] (tyn (.str z)) = false := rfl
      have t3 : tbOf ["dict", "list", "tuple"] (tyn (.str z)) = false := rfl
      simp only [RUN, tt, t1, t2, t3, isN_val h, nonB, eq_selfS h, Bool.not_true, Bool.not_false, decide_true, RUN2]
    | _ => cases n <;> cases hm
/-- the very thing that was passed -/
theorem very_ok {s : S} {i : Nat} {v : D} (hv : v.val = true) (hm : v.smp 11 = true ∨ v = .dct [] []) : F__law_very s [.tag i v, .tag i v] = .ok (.bl true) s := by
  have start : F__law_very s [.tag i v, .tag i v] = endDef s (m__law_very [some (.tag i v), some (.tag i v), none] s) := run_def rfl
  have hst : (D.tag i v).strip = v := val_strip hv
  have tt : ∀ tb : String → Bool, gIsi tb (fun _ => none) s (.tag i v) = some (.bl (tb (tyn v))) := fun tb => isi_val hst hv
  have atom : v.smp 11 = true → tbOf ["list"] (tyn v) = false → tbOf ["dict"] (tyn v) = false → (tbOf ["tuple", "str", "bool", "int"] (tyn v) = true ∨ v = .non) → F__law_very s [.tag i v, .tag i v] = .ok (.bl true) s := fun hm t1 t2 t3 => by
    have sm : F__law_same s [.tag i v, .tag i v] = .ok (.bl true) s := same_ok 11 hst hv hm
    rw [start]
    unfold m__law_very
    rcases t3 with t3 | rfl
    · simp only [RUN, tt, t1, t2, t3, sm, RUN2]
    · have t3 : tbOf ["tuple", "str", "bool", "int"] (tyn .non) = false := rfl
      simp only [RUN, tt, t1, t2, t3, isN_val hst, nonB, sm, RUN2]
  cases v with
  | lst xs =>
    rw [start]
    unfold m__law_very
    have t1 : tbOf ["list"] (tyn (.lst xs)) = true := rfl
    have hl := (seqOf_val hv rfl).1
    have ve : sVeryL [some (.tag i (.lst xs)), some (.tag i (.lst xs)), none] s = .ret (.bl true) s := by
      show (match (if i = i then some (D.lst xs) else none) with
        | some (.lst xs) => if xs.length < sizeLine then Fl.ret (.bl true) s else .stuck
        | _ => .stuck) = _
      rw [if_pos rfl]
      show (if xs.length < sizeLine then Fl.ret (.bl true) s else .stuck) = _
      rw [if_pos (by rw [line]; omega)]
    simp only [RUN, tt, t1, ve, RUN2]
  | dct ks vs =>
    rcases hm with hm | hm
    · cases hm
    · cases hm
      rw [start]
      unfold m__law_very
      have t1 : tbOf ["list"] (tyn (.dct [] [])) = false := rfl
      have t2 : tbOf ["dict"] (tyn (.dct [] [])) = true := rfl
      have ve : sVeryD [some (.tag i (.dct [] [])), some (.tag i (.dct [] [])), none] s = .ret (.bl true) s := by
        show (match (if i = i then some (D.dct [] []) else none) with
          | some (.dct ks vs) => if ks.length < sizeLine ∧ ks.all (fun k => match k with | .int _ => true | .str x => !decide (x = (" late " : Str)) | _ => false) = true then Fl.ret (.bl true) s else .stuck
          | _ => .stuck) = _
        rw [if_pos rfl]
        show (if ([] : List D).length < sizeLine ∧ true = true then Fl.ret (.bl true) s else .stuck) = _
        rw [if_pos ⟨by rw [line]; decide, rfl⟩]
      simp only [RUN, tt, t1, t2, ve, RUN2]
  | tup xs => exact atom (hm.resolve_right (fun z => nomatch z)) rfl rfl (.inl rfl)
  | non => exact atom (hm.resolve_right (fun z => nomatch z)) rfl rfl (.inr rfl)
  | bl b => exact atom (hm.resolve_right (fun z => nomatch z)) rfl rfl (.inl rfl)
  | int b => exact atom (hm.resolve_right (fun z => nomatch z)) rfl rfl (.inl rfl)
  | str b => exact atom (hm.resolve_right (fun z => nomatch z)) rfl rfl (.inl rfl)
  | _ => cases hv
end K00
end
section
set_option Elab.async false
set_option linter.all false
set_option maxRecDepth 100000
set_option maxHeartbeats 4000000
/-! K00_X1: the rows of errors, what is told of each. -/
namespace K00
open DV PySem
/-- a row: both errors, how its fields are told, what is due -/
def rowD (p : Nat × Nat) (xs : List D) : D := .tup [.exn p.1 xs, .exn p.1 xs, .fn p.2, .lst xs]
theorem rowD_low {p : Nat × Nat} {xs : List D} (h : D.lows 0 0 xs = true) : (rowD p xs).low 0 0 = true := by
  show (D.lows 0 0 xs && (D.lows 0 0 xs && (true && (D.lows 0 0 xs && true)))) = true
  rw [h]
  rfl
def exnE (c : Nat) (i : Nat) : Ex := xExn c 1 (aCons (xVar i) aNil)
def rowE (p : Nat × Nat) : Ex := xTup (aCons (exnE p.1 0) (aCons (exnE p.1 0) (aCons (xFn p.2) (aCons (xFz (aLst (aCons (xVar 0) aNil))) aNil))))
def appS (p : Nat × Nat) : Sx := sExpr (xBm isLst mAppend (xVar 1) (aCons (rowE p) aNil))
def apps : List (Nat × Nat) → Sx → Sx
  | [], r => r
  | p :: l, r => sSeq (appS p) (apps l r)
theorem l1s (a : D) : decide ([a].length ≤ sizeLine) = true := rfl
theorem l4s (a b c d : D) : decide ([a, b, c, d].length ≤ sizeLine) = true := rfl
theorem ex0 {c : Nat} {e : DV.Env} {s : S} : xExn c 0 aNil e s = .ok (.exn c []) s := nd rfl
theorem ex1 {c : Nat} {f : Ex} {e : DV.Env} {s : S} : xExn c 1 (aCons f aNil) e s = (f e s).bind fun d s => .ok (.exn c [d]) s := by
  show ((f e s).bind fun d s => .ok [d] s).bind _ = _
  cases f e s <;> rfl
theorem ex2 {c : Nat} {f g : Ex} {e : DV.Env} {s : S} : xExn c 2 (aCons f (aCons g aNil)) e s = (f e s).bind fun d s => (g e s).bind fun d' s => .ok (.exn c [d, d']) s := by
  show ((f e s).bind fun d s => ((g e s).bind fun d' s => .ok [d'] s).bind fun ds s => .ok (d :: ds) s).bind _ = _
  cases f e s with
  | ok d s => 
    show (((g e s).bind fun d' s => .ok [d'] s).bind fun ds s => .ok (d :: ds) s).bind _ = _
    show _ = (g e s).bind _
    cases g e s <;> rfl
  | _ => rfl
theorem r_fn {i : Nat} {e : DV.Env} {s : S} : xFn i e s = .ok (.fn i) s := nd rfl
theorem row_ev {p : Nat × Nat} {x : D} {c1 : Option D} {s : S} : rowE p [some x, c1] s = .ok (rowD p [x]) s := by
  unfold rowE exnE
  simp only [RUN, ex1, r_fn, l1s, l4s]
  rfl
theorem own_put {s : S} {o o' : MO} : (s.own o).put s.mo.length o' = s.own o' := by
  unfold S.own S.put
  congr 1
  show (s.mo ++ [o]).set s.mo.length o' = s.mo ++ [o']
  rw [List.set_append_right _ _ (Nat.le_refl _), Nat.sub_self]
  rfl
theorem app_ev {p : Nat × Nat} {x : D} {s : S} {xs : List D} (hx : x.low 0 0 = true) (hl : xs.length < sizeLine) : appS p [some x, some (.ref s.mo.length)] (s.own (.lst xs)) = .next [some x, some (.ref s.mo.length)] (s.own (.lst (xs ++ [rowD p [x]]))) := by
  have hm : (s.own (.lst xs)).mo[s.mo.length]? = some (.lst xs) := own_get
  have low : (rowD p [x]).low 0 0 = true := rowD_low (by show (x.low 0 0 && true) = true; rw [hx]; rfl)
  unfold appS
  simp only [RUN, isLst_refL hm, row_ev, append_ref hm hl low, own_put]
theorem apps_ev {x : D} {s : S} {r : Sx} (hx : x.low 0 0 = true) : ∀ (l : List (Nat × Nat)) (xs : List D), xs.length + l.length < sizeLine → apps l r [some x, some (.ref s.mo.length)] (s.own (.lst xs)) = r [some x, some (.ref s.mo.length)] (s.own (.lst (xs ++ l.map fun p => rowD p [x])))
  | [], xs, _ => by rw [List.map_nil, List.append_nil]; rfl
  | p :: l, xs, h => by
    rw [List.length_cons] at h
    show sSeq (appS p) (apps l r) _ _ = _
    rw [r_seq, app_ev hx (by omega), then_next, apps_ev hx l _ (by rw [List.length_append, List.length_singleton]; omega), List.append_assoc]
    rfl
def appM (l : List (Nat × Nat)) : Sx := sSeq (sAsg (xOwn (aLst aNil)) (gVar 1)) (apps l (sRet (xVar 1)))
theorem view_own {s : S} {xs : List D} : fzD s.mo.length (s.own (.lst xs)) (.ref s.mo.length) = some (.lst xs) := by
  have hm : (s.own (.lst xs)).mo[s.mo.length]? = some (.lst xs) := own_get
  show (if s.mo.length < s.mo.length then some (D.ref s.mo.length) else match (s.own (.lst xs)).mo[s.mo.length]? with
    | some (.lst xs) => some (D.lst xs)
    | some (.dK ks vs) => some (D.dct ks vs)
    | some (.dT (k :: ks) vs) => some (D.dct (k :: ks) vs)
    | _ => none) = _
  rw [if_neg (Nat.lt_irrefl _)]
  show (match (s.own (.lst xs)).mo[s.mo.length]? with
    | some (.lst xs) => some (D.lst xs)
    | some (.dK ks vs) => some (D.dct ks vs)
    | some (.dT (k :: ks) vs) => some (D.dct (k :: ks) vs)
    | _ => none) = _
  rw [hm]
theorem back_own0 {s : S} {o : MO} : back s (s.own o) = s := back_own (by show (s.mo ++ [o]).take s.mo.length = s.mo; rw [List.take_left])
theorem rows_low {x : D} (hx : x.low 0 0 = true) (l : List (Nat × Nat)) {n t : Nat} : D.lows n t (l.map fun p => rowD p [x]) = true := lows_map fun p _ => low0 (rowD_low (by show (x.low 0 0 && true) = true; rw [hx]; rfl))
theorem l0s : decide (([] : List D).length ≤ sizeLine) = true := rfl
theorem low_nil : D.lows 0 0 [] = true := rfl
theorem appM_ok {x : D} {s : S} (hx : x.low 0 0 = true) (l : List (Nat × Nat)) (hl : l.length < 100) : runDef 1 2 (appM l) s [x] = .ok (.lst (l.map fun p => rowD p [x])) s := by
  have start : runDef 1 2 (appM l) s [x] = endDef s (appM l [some x, none] s) := run_def rfl
  have z := apps_ev (s := s) (r := sRet (xVar 1)) hx l [] (by rw [line, List.length_nil]; omega)
  rw [List.nil_append] at z
  rw [start]
  unfold appM
  simp only [RUN, l0s, low_nil, z]
  show fin s (.ref s.mo.length) (s.own (.lst (l.map fun p => rowD p [x]))) = _
  unfold fin
  rw [view_own]
  show (if (D.lst (l.map fun p => rowD p [x])).low s.mo.length s.tg = true then Out.ok (D.lst (l.map fun p => rowD p [x])) (back s (s.own (.lst (l.map fun p => rowD p [x])))) else .stuck) = _
  rw [if_pos (show (D.lst (l.map fun p => rowD p [x])).low s.mo.length s.tg = true from rows_low hx l), back_own0]
def ls1 : List (Nat × Nat) := [(10, 10), (0, 11), (1, 12), (2, 13), (3, 14), (4, 15), (5, 16), (6, 17), (7, 18), (8, 19), (9, 20)]
def ls2 : List (Nat × Nat) := [(11, 21), (12, 22), (13, 23), (14, 24), (15, 25), (16, 26), (17, 27), (18, 28), (19, 29), (20, 30), (21, 31)]
def ls3 : List (Nat × Nat) := [(22, 1), (23, 2), (24, 3), (25, 4), (26, 5), (29, 6), (30, 7), (31, 8), (33, 9)]
def lsA : List (Nat × Nat) := ls1 ++ ls2 ++ ls3
def ords : List Nat := [10, 0, 1, 2, 3, 4, 5, 6, 7, 8, 9, 11, 12, 13, 14, 15, 16, 17, 18, 19, 20, 21, 22, 23, 24, 25, 26, 29, 30, 31, 33, 32, 27, 28]
theorem first_ok {x : D} {s : S} (hx : x.low 0 0 = true) : F__law_e_first s [x] = .ok (.lst (ls1.map fun p => rowD p [x])) s := appM_ok hx ls1 (by decide)
theorem second_ok {x : D} {s : S} (hx : x.low 0 0 = true) : F__law_e_second s [x] = .ok (.lst (ls2.map fun p => rowD p [x])) s := appM_ok hx ls2 (by decide)
theorem third_ok {x : D} {s : S} (hx : x.low 0 0 = true) : F__law_e_third s [x] = .ok (.lst (ls3.map fun p => rowD p [x])) s := appM_ok hx ls3 (by decide)
theorem fourth_ok {x y : D} {s : S} (hx : x.low 0 0 = true) (hy : y.low 0 0 = true) : F__law_e_fourth s [x, y] = .ok (.lst [rowD (32, 0) [x, y]]) s := by
  have start : F__law_e_fourth s [x, y] = endDef s (m__law_e_fourth [some x, some y, none] s) := run_def rfl
  have hm : (s.own (MO.lst [])).mo[s.mo.length]? = some (MO.lst ([] : List D)) := own_get
  have lows : D.lows 0 0 [x, y] = true := by
    show (x.low 0 0 && (y.low 0 0 && true)) = true
    rw [hx, hy]
    rfl
  have low : (rowD (32, 0) [x, y]).low 0 0 = true := rowD_low lows
  have l2s : ∀ a b : D, decide ([a, b].length ≤ sizeLine) = true := fun _ _ => rfl
  have ap := append_ref (y := rowD (32, 0) [x, y]) hm (by rw [line]; decide) low
  rw [List.nil_append] at ap
  unfold rowD at ap
  rw [start]
  unfold m__law_e_fourth
  simp only [RUN, l0s, low_nil, isLst_refL hm, ex2, r_fn, l2s, l4s, ap, own_put, List.nil_append]
  show fin s (.ref s.mo.length) (s.own (.lst [rowD (32, 0) [x, y]])) = _
  unfold fin
  rw [view_own]
  show (if (D.lst [rowD (32, 0) [x, y]]).low s.mo.length s.tg = true then Out.ok (D.lst [rowD (32, 0) [x, y]]) (back s (s.own (.lst [rowD (32, 0) [x, y]]))) else .stuck) = _
  rw [if_pos (show (D.lst [rowD (32, 0) [x, y]]).low s.mo.length s.tg = true from by show ((rowD (32, 0) [x, y]).low s.mo.length s.tg && true) = true; rw [low0 low]; rfl), back_own0]
/-- the row at a place -/
def rowAt (i : Nat) (x y : D) : D := if i < 31 then rowD (lsA.getD i (0, 0)) [x] else rowD (32, 0) [x, y]
theorem rows_eq {x y : D} : (ls1.map fun p => rowD p [x]) ++ (ls2.map fun p => rowD p [x]) ++ (ls3.map fun p => rowD p [x]) ++ [rowD (32, 0) [x, y]] = (List.range 32).map fun i => rowAt i x y := rfl
/-! ### fields told -/
theorem xv_eq {c i : Nat} {vs : List D} {s : S} : gXv (ix1 c i) s (.exn c vs) = vs[i]? := by
  show (ix1 c i c).bind (fun i => vs[i]?) = _
  unfold ix1
  rw [if_pos rfl]
  rfl
theorem tab1 {c : Nat} {x : D} {s : S} (hx : x.low 0 0 = true) : runDef 1 1 (sRet (xFz (aLst (aCons (xUn (gXv (ix1 c 0)) (xVar 0)) aNil)))) s [.exn c [x]] = .ok (.lst [x]) s := by
  have start : runDef 1 1 (sRet (xFz (aLst (aCons (xUn (gXv (ix1 c 0)) (xVar 0)) aNil)))) s [.exn c [x]] = endDef s (sRet (xFz (aLst (aCons (xUn (gXv (ix1 c 0)) (xVar 0)) aNil))) [some (.exn c [x])] s) := run_def rfl
  rw [start]
  simp only [RUN, xv_eq, List.getElem?_cons_zero, l1s]
  rw [fin_lst (by show (x.low s.mo.length s.tg && true) = true; rw [low0 hx]; rfl), back_self]
theorem tab2 {x y : D} {s : S} (hx : x.low 0 0 = true) (hy : y.low 0 0 = true) : runDef 1 1 (sRet fbV_0) s [.exn 32 [x, y]] = .ok (.lst [x, y]) s := by
  have start : runDef 1 1 (sRet fbV_0) s [.exn 32 [x, y]] = endDef s (sRet fbV_0 [some (.exn 32 [x, y])] s) := run_def rfl
  rw [start]
  have l2s : ∀ a b : D, decide ([a, b].length ≤ sizeLine) = true := fun _ _ => rfl
  unfold fbV_0
  simp only [RUN, xv_eq, List.getElem?_cons_zero, List.getElem?_cons_succ, l2s]
  rw [fin_lst (by show (x.low s.mo.length s.tg && (y.low s.mo.length s.tg && true)) = true; rw [low0 hx, low0 hy]; rfl), back_self]
/-- what a row's place must be, its fields as they are told -/
structure RowOk (i : Nat) (row : D) : Prop where
  ex : ∃ (c k : Nat) (xs : List D), row = rowD (c, k) xs ∧ ords[i]? = some c ∧ c < 34 ∧ xs.length ≤ 2 ∧ (∀ s, tabF k s [.exn c xs] = .ok (.lst xs) s) ∧ (∀ x ∈ xs, ∀ s, F__law_very s [x, x] = .ok (.bl true) s) ∧ D.lows 0 0 xs = true
theorem row_ok {x y : D} (hx : x.low 0 0 = true) (hy : y.low 0 0 = true) (vx : ∀ s, F__law_very s [x, x] = .ok (.bl true) s) (vy : ∀ s, F__law_very s [y, y] = .ok (.bl true) s) : ∀ i, i < 32 → RowOk i (rowAt i x y) := fun i hi => by
  have one : ∀ z ∈ [x], ∀ s, F__law_very s [z, z] = .ok (.bl true) s := fun z hz s => by rw [List.mem_singleton.mp hz]; exact vx s
  have two : ∀ z ∈ [x, y], ∀ s, F__law_very s [z, z] = .ok (.bl true) s := fun z hz s => by
    rcases List.mem_cons.mp hz with rfl | hz
    · exact vx s
    · rw [List.mem_singleton.mp hz]; exact vy s
  have lx : D.lows 0 0 [x] = true := by show (x.low 0 0 && true) = true; rw [hx]; rfl
  have lxy : D.lows 0 0 [x, y] = true := by show (x.low 0 0 && (y.low 0 0 && true)) = true; rw [hx, hy]; rfl
  refine ⟨?_⟩
  exact match i, hi with
  | 0, _ => ⟨10, 10, [x], rfl, rfl, by decide, by simp, fun s => tab1 hx, one, lx⟩
  | 1, _ => ⟨0, 11, [x], rfl, rfl, by decide, by simp, fun s => tab1 hx, one, lx⟩
  | 2, _ => ⟨1, 12, [x], rfl, rfl, by decide, by simp, fun s => tab1 hx, one, lx⟩
  | 3, _ => ⟨2, 13, [x], rfl, rfl, by decide, by simp, fun s => tab1 hx, one, lx⟩
  | 4, _ => ⟨3, 14, [x], rfl, rfl, by decide, by simp, fun s => tab1 hx, one, lx⟩
  | 5, _ => ⟨4, 15, [x], rfl, rfl, by decide, by simp, fun s => tab1 hx, one, lx⟩
  | 6, _ => ⟨5, 16, [x], rfl, rfl, by decide, by simp, fun s => tab1 hx, one, lx⟩
  | 7, _ => ⟨6, 17, [x], rfl, rfl, by decide, by simp, fun s => tab1 hx, one, lx⟩
  | 8, _ => ⟨7, 18, [x], rfl, rfl, by decide, by simp, fun s => tab1 hx, one, lx⟩
  | 9, _ => ⟨8, 19, [x], rfl, rfl, by decide, by simp, fun s => tab1 hx, one, lx⟩
  | 10, _ => ⟨9, 20, [x], rfl, rfl, by decide, by simp, fun s => tab1 hx, one, lx⟩
  | 11, _ => ⟨11, 21, [x], rfl, rfl, by decide, by simp, fun s => tab1 hx, one, lx⟩
  | 12, _ => ⟨12, 22, [x], rfl, rfl, by decide, by simp, fun s => tab1 hx, one, lx⟩
  | 13, _ => ⟨13, 23, [x], rfl, rfl, by decide, by simp, fun s => tab1 hx, one, lx⟩
  | 14, _ => ⟨14, 24, [x], rfl, rfl, by decide, by simp, fun s => tab1 hx, one, lx⟩
  | 15, _ => ⟨15, 25, [x], rfl, rfl, by decide, by simp, fun s => tab1 hx, one, lx⟩
  | 16, _ => ⟨16, 26, [x], rfl, rfl, by decide, by simp, fun s => tab1 hx, one, lx⟩
  | 17, _ => ⟨17, 27, [x], rfl, rfl, by decide, by simp, fun s => tab1 hx, one, lx⟩
  | 18, _ => ⟨18, 28, [x], rfl, rfl, by decide, by simp, fun s => tab1 hx, one, lx⟩
  | 19, _ => ⟨19, 29, [x], rfl, rfl, by decide, by simp, fun s => tab1 hx, one, lx⟩
  | 20, _ => ⟨20, 30, [x], rfl, rfl, by decide, by simp, fun s => tab1 hx, one, lx⟩
  | 21, _ => ⟨21, 31, [x], rfl, rfl, by decide, by simp, fun s => tab1 hx, one, lx⟩
  | 22, _ => ⟨22, 1, [x], rfl, rfl, by decide, by simp, fun s => tab1 hx, one, lx⟩
  | 23, _ => ⟨23, 2, [x], rfl, rfl, by decide, by simp, fun s => tab1 hx, one, lx⟩
  | 24, _ => ⟨24, 3, [x], rfl, rfl, by decide, by simp, fun s => tab1 hx, one, lx⟩
  | 25, _ => ⟨25, 4, [x], rfl, rfl, by decide, by simp, fun s => tab1 hx, one, lx⟩
  | 26, _ => ⟨26, 5, [x], rfl, rfl, by decide, by simp, fun s => tab1 hx, one, lx⟩
  | 27, _ => ⟨29, 6, [x], rfl, rfl, by decide, by simp, fun s => tab1 hx, one, lx⟩
  | 28, _ => ⟨30, 7, [x], rfl, rfl, by decide, by simp, fun s => tab1 hx, one, lx⟩
  | 29, _ => ⟨31, 8, [x], rfl, rfl, by decide, by simp, fun s => tab1 hx, one, lx⟩
  | 30, _ => ⟨33, 9, [x], rfl, rfl, by decide, by simp, fun s => tab1 hx, one, lx⟩
  | 31, _ => ⟨32, 0, [x, y], rfl, rfl, by decide, by simp, fun s => tab2 hx hy, two, lxy⟩
  | n + 32, h => absurd h (by omega)
end K00
end
section
set_option Elab.async false
set_option linter.all false
set_option maxRecDepth 100000
set_option maxHeartbeats 4000000
/-! K00_X2: of which kind an error is, a row judged. -/
namespace K00
open DV PySem
def natD (k : Nat) : D := .int (k : Int)
def kE : List Nat → Ax
  | [] => aNil
  | o :: l => aCons (xUn (gIsX (isX 34 o)) (xVar 0)) (kE l)
def kindD (c : Nat) (o : Nat) : D := .bl (decide (c = o))
theorem isX_eq {c o : Nat} {xs : List D} {s : S} (hc : c < 34) : gIsX (isX 34 o) s (.exn c xs) = some (kindD c o) := by
  show (isX 34 o c).map D.bl = _
  unfold isX
  rw [if_pos hc]
  rfl
theorem isAll_eq {c : Nat} {xs : List D} {s : S} (hc : c < 34) : gIsX (isAll 34) s (.exn c xs) = some (.bl true) := by
  show (isAll 34 c).map D.bl = _
  unfold isAll
  rw [if_pos hc]
  rfl
theorem kE_ev {c : Nat} {xs : List D} {s : S} (hc : c < 34) : ∀ l : List Nat, kE l [some (.exn c xs)] s = .ok (l.map (kindD c)) s
  | [] => rfl
  | o :: l => by
    show aCons (xUn (gIsX (isX 34 o)) (xVar 0)) (kE l) _ _ = _
    simp only [RUN, isX_eq hc, kE_ev hc l]
    rfl
theorem kinds_ok {c : Nat} {xs : List D} {s : S} (hc : c < 34) : F__law_e_kinds s [.exn c xs] = .ok (.lst (ords.map (kindD c))) s := by
  have start : F__law_e_kinds s [.exn c xs] = endDef s (sRet (xFz (aLst (kE ords))) [some (.exn c xs)] s) := run_def rfl
  have few : decide ((ords.map (kindD c)).length ≤ sizeLine) = true := rfl
  rw [start]
  simp only [RUN, kE_ev hc, few]
  rw [fin_lst (lows_map fun _ _ => rfl), back_self]
def sndB (d : D) : Bool := match d with
  | .tup [_, .bl b] => b
  | _ => false
def fstD (d : D) : D := match d with
  | .tup [i, _] => i
  | d => d
def kindRes (c : Nat) : List D := ((enumD 0 (ords.map (kindD c))).filter sndB).map fstD
theorem kindRes_ok : ∀ i, i < 34 → kindRes (ords.getD i 0) = [natD i] := fun i hi => match i, hi with
  | 0, _ => rfl
  | 1, _ => rfl
  | 2, _ => rfl
  | 3, _ => rfl
  | 4, _ => rfl
  | 5, _ => rfl
  | 6, _ => rfl
  | 7, _ => rfl
  | 8, _ => rfl
  | 9, _ => rfl
  | 10, _ => rfl
  | 11, _ => rfl
  | 12, _ => rfl
  | 13, _ => rfl
  | 14, _ => rfl
  | 15, _ => rfl
  | 16, _ => rfl
  | 17, _ => rfl
  | 18, _ => rfl
  | 19, _ => rfl
  | 20, _ => rfl
  | 21, _ => rfl
  | 22, _ => rfl
  | 23, _ => rfl
  | 24, _ => rfl
  | 25, _ => rfl
  | 26, _ => rfl
  | 27, _ => rfl
  | 28, _ => rfl
  | 29, _ => rfl
  | 30, _ => rfl
  | 31, _ => rfl
  | 32, _ => rfl
  | 33, _ => rfl
  | n + 34, h => absurd h (by omega)
theorem kinds_comp {a e : Ex} {t : Tx} {n m : Nat} {env : DV.Env} {s : S} {c : Nat} {xs : List D} (hc : c < 34) (ha : a env s = .ok (.exn c xs) s)
    (hb : ∀ (i : Nat) (b : Bool), ∃ e1, (CT.many [n, m]).bind (.tup [.int (i : Int), .bl b]) (wipeE env [n, m]) s = some e1 ∧ t e1 s = .ok b s ∧ e e1 s = .ok (.int (i : Int)) s) :
    aComp (ixEnum (aCons (xCall F__law_e_kinds (aCons a aNil)) aNil)) (.many [n, m]) t e [n, m] env s = .ok (kindRes c) s := by
  refine aComp_if (enumD 0 (ords.map (kindD c))) sndB fstD ?_ (by rw [enumD_len, List.length_map, line]; decide) fun d hd => ?_
  · simp only [RUN, ha, kinds_ok hc]
  · obtain ⟨i, x, rfl, hx, _⟩ := enum_mem hd
    obtain ⟨o, _, rfl⟩ := List.mem_map.mp hx
    obtain ⟨e1, h1, h2, h3⟩ := hb i (decide (c = o))
    exact ⟨e1, h1, h2, fun _ => h3⟩
theorem ne_one {s : S} {i : Nat} : gNe s (.lst [natD i]) (.lst [natD i]) = some (.bl false) := by
  have q := encNat.lst.gNe (s := s) (a := [i]) (b := [i]) (by decide) (fun _ _ => trivial) (fun _ _ => trivial) rfl rfl
  rw [decide_eq_true (rfl : [i] = [i])] at q
  exact q
theorem callV4 {a b c d f : Option D} {k : Nat} {x : D} {r : DV.Env} {s : S} : xCallV tabF 4 (aCons (xVar 6) aNil) (a :: b :: c :: d :: some (.fn k) :: f :: some x :: r) s = tabF k s [x] := nd rfl
theorem right_ok {i : Nat} {row : D} {s : S} (h : RowOk i row) : F__law_e_right s [row, natD i] = .ok (.bl true) s := by
  obtain ⟨c, k, xs, rfl, ho, hc, h2, ht, hv, low⟩ := h
  have hi : i < 34 := (List.getElem?_eq_some_iff.mp ho).1
  have res : kindRes c = [natD i] := by
    have q := kindRes_ok i hi
    rw [List.getD_eq_getElem?_getD, ho] at q
    exact q
  have start : F__law_e_right s [rowD (c, k) xs, natD i] = endDef s (m__law_e_right [some (rowD (c, k) xs), some (natD i), none, none, none, none, none, none, none, none, none, none] s) := run_def rfl
  have l2s : ∀ a b : D, decide ([a, b].length ≤ sizeLine) = true := fun _ _ => rfl
  have body : ∀ c7 : Option D, B__law_e_right_3 [some (rowD (c, k) xs), some (natD i), some (.exn c xs), some (.exn c xs), some (.fn k), some (.lst xs), some (.exn c xs), c7, none, none, none, none] s =
      .next [some (rowD (c, k) xs), some (natD i), some (.exn c xs), some (.exn c xs), some (.fn k), some (.lst xs), some (.exn c xs), some (.lst xs), none, none, none, none] s := fun c7 => by
    have kc : aComp (ixEnum (aCons (xCall F__law_e_kinds (aCons (xVar 6) aNil)) aNil)) (.many [8, 9]) T__law_e_right_0 E__law_e_right_1 [8, 9] [some (rowD (c, k) xs), some (natD i), some (.exn c xs), some (.exn c xs), some (.fn k), some (.lst xs), some (.exn c xs), c7, none, none, none, none] s = .ok [natD i] s := by
      rw [← res]
      exact kinds_comp hc rfl fun j b => ⟨_, rfl, by simp only [T__law_e_right_0, RUN, DV.setAll], by simp only [E__law_e_right_1, RUN, DV.setAll]⟩
    have cm : aComp (ixZip (aCons (xVar 7) (aCons (xVar 5) aNil))) (.many [10, 11]) tAll E__law_e_right_2 [10, 11] [some (rowD (c, k) xs), some (natD i), some (.exn c xs), some (.exn c xs), some (.fn k), some (.lst xs), some (.exn c xs), some (.lst xs), none, none, none, none] s = .ok ((xs.map fun _ => true).map D.bl) s :=
      aComp_mapE xs (fun x => D.tup [x, x]) (fun _ => true) D.bl (by simp only [RUN, zip_self (d := .lst xs) rfl rfl]) (by rw [line]; omega) fun x hx => ⟨_, rfl, by
        simp only [E__law_e_right_2, RUN, DV.setAll, hv x hx s]⟩
    have al : xs.all (fun _ => true) = true := by simp
    have n1 := ne_one (s := s) (i := i)
    unfold B__law_e_right_3
    simp only [RUN, isAll_eq hc, Bool.not_true, kc, l1s, n1, callV4, ht s, cm, all_bl, al, decide_true]
  have loop : ∃ c6 c7, forRun (gVar 6) B__law_e_right_3 ⟨[.exn c xs, .exn c xs], []⟩ [.exn c xs, .exn c xs] [some (rowD (c, k) xs), some (natD i), some (.exn c xs), some (.exn c xs), some (.fn k), some (.lst xs), none, none, none, none, none, none] s = .next [some (rowD (c, k) xs), some (natD i), some (.exn c xs), some (.exn c xs), some (.fn k), some (.lst xs), c6, c7, none, none, none, none] s := by
    obtain ⟨e', t', run, rfl, _, c6, c7, rfl⟩ := for_run (g := gVar 6) (body := B__law_e_right_3) (w := ⟨[D.exn c xs, .exn c xs], []⟩) (e := [some (rowD (c, k) xs), some (natD i), some (.exn c xs), some (.exn c xs), some (.fn k), some (.lst xs), none, none, none, none, none, none]) (s := s) (ds := [D.exn c xs, .exn c xs])
      (fun ds e t => t = s ∧ (∀ d ∈ ds, d = D.exn c xs) ∧ ∃ c6 c7, e = [some (rowD (c, k) xs), some (natD i), some (.exn c xs), some (.exn c xs), some (.fn k), some (.lst xs), c6, c7, none, none, none, none])
      ⟨rfl, fun d hd => by
        simp only [List.mem_cons, List.mem_nil_iff, or_false, or_self] at hd
        exact hd, none, none, rfl⟩ (fun _ _ _ _ => same_nil) (by
      rintro d ds e t ⟨rfl, h2, c6, c7, rfl⟩
      obtain rfl := h2 d List.mem_cons_self
      exact ⟨_, _, rfl, _, _, body c7, rfl, fun z hz => h2 z (List.mem_cons_of_mem _ hz), _, _, rfl⟩)
    exact ⟨c6, c7, run⟩
  obtain ⟨c6, c7, loop⟩ := loop
  rw [start]
  unfold m__law_e_right
  have un : gUnp 4 (gsCons (gVar 2) (gsCons (gVar 3) (gsCons (gVar 4) (gsCons (gVar 5) gsNil)))) (rowD (c, k) xs) [some (rowD (c, k) xs), some (natD i), none, none, none, none, none, none, none, none, none, none] s = .ok [some (rowD (c, k) xs), some (natD i), some (.exn c xs), some (.exn c xs), some (.fn k), some (.lst xs), none, none, none, none, none, none] s := rfl
  simp only [RUN, un, l2s, loop, RUN2]
end K00
end
section
set_option Elab.async false
set_option linter.all false
set_option maxRecDepth 100000
set_option maxHeartbeats 4000000
/-! K00_X3: the drawn things. -/
namespace K00
open DV PySem
/-- a thing that can be told again -/
structure Th (v : D) : Prop where
  low : v.low 0 0 = true
  very : ∀ (s : S) (i : Nat), F__law_very s [.tag i v, .tag i v] = .ok (.bl true) s
theorem th_val {v : D} (h1 : v.low 0 0 = true) (h2 : v.val = true) (h3 : v.smp 11 = true) : Th v := ⟨h1, fun _ _ => very_ok h2 (.inl h3)⟩
theorem th_dct {ks vs : List D} (h1 : D.lows 0 0 ks = true) (h2 : D.lows 0 0 vs = true) (h3 : ∀ k ∈ ks, ∃ i : Int, k = .int i) (h4 : ks.length < 1000) : Th (.dct ks vs) := by
  refine ⟨by show (D.lows 0 0 ks && D.lows 0 0 vs) = true; rw [h1, h2]; rfl, fun s i => ?_⟩
  have start : F__law_very s [.tag i (.dct ks vs), .tag i (.dct ks vs)] = endDef s (m__law_very [some (.tag i (.dct ks vs)), some (.tag i (.dct ks vs)), none] s) := run_def rfl
  rw [start]
  unfold m__law_very
  have t1 : gIsi (tbOf ["list"]) (fun _ => none) s (.tag i (.dct ks vs)) = some (.bl false) := rfl
  have t2 : gIsi (tbOf ["dict"]) (fun _ => none) s (.tag i (.dct ks vs)) = some (.bl true) := rfl
  have ve : sVeryD [some (.tag i (.dct ks vs)), some (.tag i (.dct ks vs)), none] s = .ret (.bl true) s := by
    show (match (if i = i then some (D.dct ks vs) else none) with
      | some (.dct ks vs) => if ks.length < sizeLine ∧ ks.all (fun k => match k with | .int _ => true | .str x => !decide (x = (" late " : Str)) | _ => false) = true then Fl.ret (.bl true) s else .stuck
      | _ => .stuck) = _
    rw [if_pos rfl]
    show (if ks.length < sizeLine ∧ ks.all (fun k => match k with | .int _ => true | .str x => !decide (x = (" late " : Str)) | _ => false) = true then Fl.ret (.bl true) s else .stuck) = _
    rw [if_pos ⟨by rw [line]; omega, List.all_eq_true.mpr fun k hk => by obtain ⟨j, rfl⟩ := h3 k hk; rfl⟩]
  simp only [RUN, t1, t2, ve, RUN2]
theorem val_lst {xs : List D} (h : xs.length ≤ 1000000) (hv : D.vals xs = true) : (D.lst xs).val = true := by
  show (decide (xs.length ≤ 1000000) && D.vals xs) = true
  rw [hv, decide_eq_true h]
  rfl
theorem val_tup {xs : List D} (h : xs.length ≤ 1000000) (hv : D.vals xs = true) : (D.tup xs).val = true := by
  show (decide (xs.length ≤ 1000000) && D.vals xs) = true
  rw [hv, decide_eq_true h]
  rfl
theorem rng1S {e : DV.Env} {s s1 : S} {n : Nat} {a : Ax} (ha : a e s = .ok [.int (n : Int)] s1) (h : n < 2 ^ 30) : ixRng1 a e s = .ok ⟨rngD 0 n, []⟩ s1 := by
  unfold ixRng1
  rw [ha, bind_ok]
  show (if -(2 ^ 62) ≤ (n : Int) ∧ (n : Int) < 2 ^ 62 then Out.ok (⟨rngD 0 (n : Int).toNat, []⟩ : Wk) s1 else .stuck) = _
  rw [if_pos (show -(2 ^ 62) ≤ (n : Int) ∧ (n : Int) < 2 ^ 62 by omega), Int.toNat_natCast]
/-- [.. drawn .. for k in range(drawn)] -/
theorem comp_draws {f : Ex} {g : Int → D} {s : S} {i m : Nat} {c1 : Option D} (sp : Spr s i m) (hm : m < 2 ^ 36) (hf : ∀ (t t' : S) (k : Int) (d : D), F__law_draw t [.ref i, .int 9] = .ok (.int k) t' → f [some (.ref i), c1, some d] t = .ok (g k) t') :
    ∃ (ks : List Int) (s' : S), ks.length < 4 ∧ aComp (ixRng1 (aCons (xCall F__law_draw (aCons (xVar 0) (aCons (xC (.int 4)) aNil))) aNil)) (.one 2) tAll f [2] [some (.ref i), c1, none] s = .ok (ks.map g) s' ∧ Drew s i (m + 5) s' := by
  obtain ⟨q, s1, e1, q0, q1, d1⟩ := draw_ok (n := 4) sp (by omega) (by decide) (by decide)
  obtain ⟨n, rfl⟩ : ∃ n : Nat, q = (n : Int) := ⟨q.toNat, by omega⟩
  have hn : n < 4 := by omega
  have ix : ixRng1 (aCons (xCall F__law_draw (aCons (xVar 0) (aCons (xC (.int 4)) aNil))) aNil) [some (.ref i), c1, none] s = .ok ⟨rngD 0 n, []⟩ s1 := rng1S (by simp only [RUN, e1]) (by omega)
  obtain ⟨acc, t, run, ⟨ks, h1, h2, h3⟩⟩ := comp_inv (c := .one 2) (t := tAll) (f := f) (vs := [2]) (w := ⟨rngD 0 n, []⟩) (e := [some (.ref i), c1, none])
    (fun ds acc t => ∃ ks : List Int, acc = ks.map g ∧ ks.length + ds.length = n ∧ Drew s i (m + 1 + ks.length) t) (fun _ _ _ _ => same_nil) (fun d ds acc t h => by
    obtain ⟨ks, h1, h2, h3⟩ := h
    rw [List.length_cons] at h2
    obtain ⟨k, t', e, k0, k1, dr⟩ := draw_ok (n := 9) h3.spr (by omega) (by decide) (by decide)
    refine ⟨_, rfl, true, t, rfl, fun _ => ⟨g k, t', hf t t' k d e, by rw [h1, List.length_map, line]; omega, ks ++ [k], by rw [h1, List.map_append]; rfl, by rw [List.length_append, List.length_singleton]; omega, ?_⟩, fun z => nomatch z⟩
    rw [List.length_append, List.length_singleton]
    exact h3.trans dr) (rngD 0 n) [] s1 ⟨[], rfl, by rw [rng_len]; simp, d1.le (by simp)⟩
  have hk : ks.length = n := by simpa using h2
  refine ⟨ks, t, by omega, ?_, h3.le (by omega)⟩
  rw [r_comp, ix, bind_ok, run, h1]
  rfl
theorem ints_low {ks : List Int} {n t : Nat} : D.lows n t (ks.map D.int) = true := lows_map fun _ _ => rfl
/-! ### dict of pairs -/
def pairD (k : Int) : D := .tup [.int k, .str "v"]
theorem pairs_ok : ∀ ks : List Int, pairsK (ks.map pairD) = some (ks.map fun k => (.inl k, D.str "v"))
  | [] => rfl
  | k :: ks => by
    show (match (pairD k).strip, pairsK (ks.map pairD) with
      | .tup [k, v], some r => (kD k).map fun q => (q, v) :: r
      | _, _ => none) = _
    rw [pairs_ok ks]
    rfl
theorem fold_ok : ∀ (ks : List Int) (a b : List D), D.lows 0 0 b = true → (∀ k ∈ a, ∃ i : Int, k = .int i) → (∀ k ∈ (foldK (ks.map fun k => (.inl k, D.str "v")) a b).1, ∃ i : Int, k = .int i) ∧ (foldK (ks.map fun k => (.inl k, D.str "v")) a b).1.length ≤ a.length + ks.length ∧ D.lows 0 0 (foldK (ks.map fun k => (.inl k, D.str "v")) a b).2 = true
  | [], a, b, h, ha => ⟨ha, Nat.le_refl _, h⟩
  | k :: ks, a, b, h, ha => by
    show (∀ x ∈ (foldK (ks.map fun k => (.inl k, D.str "v")) (putKD a b (.inl k) (.str "v")).1 (putKD a b (.inl k) (.str "v")).2).1, _) ∧ (foldK (ks.map fun k => (.inl k, D.str "v")) (putKD a b (.inl k) (.str "v")).1 (putKD a b (.inl k) (.str "v")).2).1.length ≤ _ ∧ D.lows 0 0 (foldK (ks.map fun k => (.inl k, D.str "v")) (putKD a b (.inl k) (.str "v")).1 (putKD a b (.inl k) (.str "v")).2).2 = true
    have p1 : D.lows 0 0 (putKD a b (.inl k) (.str "v")).2 = true := by
      unfold putKD
      split
      · exact rep1_low rfl h
      · exact lows_app h (lows_one rfl)
    have p2 : ∀ x ∈ (putKD a b (.inl k) (.str "v")).1, ∃ i : Int, x = .int i := by
      unfold putKD
      split
      · exact ha
      · intro x hx
        rcases List.mem_append.mp hx with hx | hx
        · exact ha x hx
        · rw [List.mem_singleton.mp hx]
          exact ⟨k, rfl⟩
    have p3 : (putKD a b (.inl k) (.str "v")).1.length ≤ a.length + 1 := by
      unfold putKD
      split
      · exact Nat.le_succ _
      · rw [List.length_append]
        exact Nat.le_refl _
    obtain ⟨q1, q2, q3⟩ := fold_ok ks _ _ p1 p2
    exact ⟨q1, by rw [List.length_cons]; omega, q3⟩
theorem dict_ok {ks : List Int} {s : S} (hl : ks.length < 4) : ∃ a b, gDict s (.lst (ks.map pairD)) = some (.dct a b) ∧ Th (.dct a b) := by
  obtain ⟨q1, q2, q3⟩ := fold_ok ks [] [] rfl (fun k hk => by cases hk)
  refine ⟨_, _, ?_, th_dct ?_ q3 q1 (by have : ([] : List D).length = 0 := rfl; omega)⟩
  · show (match pairsK (ks.map pairD) with
      | some ps => some (D.dct (foldK ps [] []).1 (foldK ps [] []).2)
      | none => match pairsT (ks.map pairD) with
        | some ps => if (foldT ps [] []).1.isEmpty = true then none else some (.dct (foldT ps [] []).1 (foldT ps [] []).2)
        | none => none) = _
    rw [pairs_ok]
  · rw [low_all]
    intro x hx
    obtain ⟨i, rfl⟩ := q1 x hx
    rfl
theorem drawn_ok {s : S} {i m : Nat} (sp : Spr s i m) (hm : m < 2 ^ 35) : ∃ (v : D) (s' : S), F__law_e_drawn s [.ref i] = .ok v s' ∧ Drew s i (m + 10) s' ∧ Th v := by
  obtain ⟨k, s1, e1, k0, k9, d1⟩ := draw_ok (n := 9) sp (by omega) (by decide) (by decide)
  have start : F__law_e_drawn s [.ref i] = endDef s (m__law_e_drawn [some (.ref i), none, none] s) := run_def rfl
  have l2s : ∀ a b : D, decide ([a, b].length ≤ sizeLine) = true := fun _ _ => rfl
  have l5s : ∀ a b c d e : D, decide ([a, b, c, d, e].length ≤ sizeLine) = true := fun _ _ _ _ _ => rfl
  have done : ∀ {v : D} {s2 : S}, m__law_e_drawn [some (.ref i), none, none] s = .ret v s2 → fzD s.mo.length s2 v = some v → Drew s i (m + 10) s2 → Th v → ∃ (v : D) (s' : S), F__law_e_drawn s [.ref i] = .ok v s' ∧ Drew s i (m + 10) s' ∧ Th v := fun {v s2} h hf hd ht => by
    obtain ⟨o, rfl, hs⟩ := hd
    refine ⟨v, s.put i o, ?_, ⟨o, rfl, hs⟩, ht⟩
    rw [start, h]
    show fin s v (s.put i o) = _
    rw [fin_of hf (low0 ht.low), back_put]
  rcases (show k = 0 ∨ k = 1 ∨ k = 2 ∨ k = 3 ∨ k = 4 ∨ k = 5 ∨ k = 6 ∨ k = 7 ∨ k = 8 by omega) with rfl | rfl | rfl | rfl | rfl | rfl | rfl | rfl | rfl
  · obtain ⟨q, s2, e2, q0, q1, d2⟩ := draw_ok (n := 10 ^ 30) d1.spr (by omega) (by decide) (by decide)
    have p30 : nPow 10 30 = some (.int (10 ^ 30)) := rfl
    have p29 : nPow 10 29 = some (.int (10 ^ 29)) := rfl
    refine done (v := .int (q - 10 ^ 29)) (s2 := s2) ?_ rfl ((d1.trans d2).le (by omega)) (th_val rfl rfl rfl)
    unfold m__law_e_drawn
    simp only [RUN, e1, Int.reduceEq, decide_true, decide_false, p30, p29, e2]
  · obtain ⟨v, s2, hv, e2, d2⟩ := pick_ok (xs := [D.str "", .str "a", .str "late", .str "two words", .str "x9"]) d1.spr (by omega) (by simp) (by simp) (fun x hx => by simp only [List.mem_cons, List.mem_nil_iff, or_false] at hx; rcases hx with rfl | rfl | rfl | rfl | rfl <;> rfl)
    have hv2 : fzD s.mo.length s2 v = some v ∧ Th v := by
      simp only [List.mem_cons, List.mem_nil_iff, or_false] at hv
      rcases hv with rfl | rfl | rfl | rfl | rfl <;> exact ⟨rfl, th_val rfl (by decide +kernel) rfl⟩
    refine done (v := v) (s2 := s2) ?_ hv2.1 ((d1.trans d2).le (by omega)) hv2.2
    unfold m__law_e_drawn
    simp only [RUN, e1, Int.reduceEq, decide_true, decide_false, l5s, e2]
  · obtain ⟨v, s2, hv, e2, d2⟩ := pick_ok (xs := [D.non, .bl true, .bl false, .int 0, .int 1]) d1.spr (by omega) (by simp) (by simp) (fun x hx => by simp only [List.mem_cons, List.mem_nil_iff, or_false] at hx; rcases hx with rfl | rfl | rfl | rfl | rfl <;> rfl)
    have hv2 : fzD s.mo.length s2 v = some v ∧ Th v := by
      simp only [List.mem_cons, List.mem_nil_iff, or_false] at hv
      rcases hv with rfl | rfl | rfl | rfl | rfl <;> exact ⟨rfl, th_val rfl (by decide +kernel) rfl⟩
    refine done (v := v) (s2 := s2) ?_ hv2.1 ((d1.trans d2).le (by omega)) hv2.2
    unfold m__law_e_drawn
    simp only [RUN, e1, Int.reduceEq, decide_true, decide_false, l5s, e2]
  · have g3 : gIn s1 (.int 3) (.lst [.int 3, .int 4]) = some (.bl true) := rfl
    obtain ⟨ks, s2, hl, run, d2⟩ := comp_draws (f := E__law_e_drawn_0) (g := D.int) (c1 := some (.int 3)) d1.spr (by omega) fun t t' q d h => by simp only [E__law_e_drawn_0, RUN, h]
    refine done (v := .lst (ks.map D.int)) (s2 := s2) ?_ rfl ((d1.trans d2).le (by omega)) (th_val ints_low (val_lst (by rw [List.length_map]; omega) (vals_all.mpr fun x hx => by obtain ⟨_, _, rfl⟩ := List.mem_map.mp hx; rfl)) (List.all_eq_true.mpr fun x hx => by obtain ⟨_, _, rfl⟩ := List.mem_map.mp hx; rfl))
    unfold m__law_e_drawn
    simp only [RUN, e1, Int.reduceEq, decide_true, decide_false, l2s, g3, run]
  · have g3 : gIn s1 (.int 4) (.lst [.int 3, .int 4]) = some (.bl true) := rfl
    obtain ⟨ks, s2, hl, run, d2⟩ := comp_draws (f := E__law_e_drawn_0) (g := D.int) (c1 := some (.int 4)) d1.spr (by omega) fun t t' q d h => by simp only [E__law_e_drawn_0, RUN, h]
    refine done (v := .lst (ks.map D.int)) (s2 := s2) ?_ rfl ((d1.trans d2).le (by omega)) (th_val ints_low (val_lst (by rw [List.length_map]; omega) (vals_all.mpr fun x hx => by obtain ⟨_, _, rfl⟩ := List.mem_map.mp hx; rfl)) (List.all_eq_true.mpr fun x hx => by obtain ⟨_, _, rfl⟩ := List.mem_map.mp hx; rfl))
    unfold m__law_e_drawn
    simp only [RUN, e1, Int.reduceEq, decide_true, decide_false, l2s, g3, run]
  · have g3 : gIn s1 (.int 5) (.lst [.int 3, .int 4]) = some (.bl false) := rfl
    obtain ⟨ks, s2, hl, run, d2⟩ := comp_draws (f := E__law_e_drawn_1) (g := D.int) (c1 := some (.int 5)) d1.spr (by omega) fun t t' q d h => by simp only [E__law_e_drawn_1, RUN, h]
    refine done (v := .tup (ks.map D.int)) (s2 := s2) ?_ rfl ((d1.trans d2).le (by omega)) (th_val ints_low (val_tup (by rw [List.length_map]; omega) (vals_all.mpr fun x hx => by obtain ⟨_, _, rfl⟩ := List.mem_map.mp hx; rfl)) (List.all_eq_true.mpr fun x hx => by obtain ⟨_, _, rfl⟩ := List.mem_map.mp hx; rfl))
    unfold m__law_e_drawn
    simp only [RUN, e1, Int.reduceEq, decide_true, decide_false, l2s, g3, run]
  · have g3 : gIn s1 (.int 6) (.lst [.int 3, .int 4]) = some (.bl false) := rfl
    obtain ⟨ks, s2, hl, run, d2⟩ := comp_draws (f := E__law_e_drawn_2) (g := pairD) (c1 := some (.int 6)) d1.spr (by omega) fun t t' q d h => by simp only [E__law_e_drawn_2, RUN, h, l2s, pairD]
    obtain ⟨a, b, gd, ht⟩ := dict_ok (ks := ks) (s := s2) hl
    refine done (v := .dct a b) (s2 := s2) ?_ rfl ((d1.trans d2).le (by omega)) ht
    unfold m__law_e_drawn
    simp only [RUN, e1, Int.reduceEq, decide_true, decide_false, l2s, g3, run, gd]
  · have g3 : gIn s1 (.int 7) (.lst [.int 3, .int 4]) = some (.bl false) := rfl
    obtain ⟨ks, s2, hl, run, d2⟩ := comp_draws (f := E__law_e_drawn_2) (g := pairD) (c1 := some (.int 7)) d1.spr (by omega) fun t t' q d h => by simp only [E__law_e_drawn_2, RUN, h, l2s, pairD]
    obtain ⟨a, b, gd, ht⟩ := dict_ok (ks := ks) (s := s2) hl
    refine done (v := .dct a b) (s2 := s2) ?_ rfl ((d1.trans d2).le (by omega)) ht
    unfold m__law_e_drawn
    simp only [RUN, e1, Int.reduceEq, decide_true, decide_false, l2s, g3, run, gd]
  · have g3 : gIn s1 (.int 8) (.lst [.int 3, .int 4]) = some (.bl false) := rfl
    obtain ⟨ks, s2, hl, run, d2⟩ := comp_draws (f := E__law_e_drawn_2) (g := pairD) (c1 := some (.int 8)) d1.spr (by omega) fun t t' q d h => by simp only [E__law_e_drawn_2, RUN, h, l2s, pairD]
    obtain ⟨a, b, gd, ht⟩ := dict_ok (ks := ks) (s := s2) hl
    refine done (v := .dct a b) (s2 := s2) ?_ rfl ((d1.trans d2).le (by omega)) ht
    unfold m__law_e_drawn
    simp only [RUN, e1, Int.reduceEq, decide_true, decide_false, l2s, g3, run, gd]
end K00
end
section
set_option Elab.async false
set_option linter.all false
set_option maxRecDepth 100000
set_option maxHeartbeats 4000000
/-! K00_X4: the law. -/
namespace K00
open DV PySem
theorem r_parT {i j : Nat} {a : Ax} {e : DV.Env} {s : S} : sParT i j a e s = (a e s).fl e fun ds s => match ds with
  | [x, y] => .next ((e.set i (some (.tag s.tg x))).set j (some (.tag (s.tg + 1) y))) ⟨s.mo, s.tg + 2⟩
  | _ => .stuck := nd rfl
theorem enum_at : ∀ {xs : List D} {k : Nat} {d : D}, d ∈ enumD k xs → ∃ (j : Nat) (x : D), xs[j]? = some x ∧ d = .tup [.int ((k + j : Nat) : Int), x]
  | [], _, _, h => by cases h
  | x :: xs, k, d, h => by
    rcases List.mem_cons.mp (show d ∈ D.tup [.int (k : Int), x] :: enumD (k + 1) xs from h) with rfl | h
    · exact ⟨0, x, rfl, rfl⟩
    · obtain ⟨j, y, h1, h2⟩ := enum_at h
      exact ⟨j + 1, y, by simpa using h1, by rw [h2, show k + 1 + j = k + (j + 1) by omega]⟩
def rows (x y : D) : List D := (List.range 32).map fun i => rowAt i x y
theorem rows_at {x y : D} {i : Nat} {r : D} (h : (rows x y)[i]? = some r) : i < 32 ∧ r = rowAt i x y := by
  have hi : i < 32 := by
    have := (List.getElem?_eq_some_iff.mp h).1
    unfold rows at this
    rwa [List.length_map, List.length_range] at this
  refine ⟨hi, ?_⟩
  unfold rows at h
  rw [List.getElem?_map, List.getElem?_range hi] at h
  exact (Option.some.inj h).symm
theorem at_rows {x y : D} {i : Nat} (hi : i < 32) : L2.atI (rows x y) (i : Int) = some (rowAt i x y) := by
  have e : (rows x y)[i]? = some (rowAt i x y) := by
    unfold rows
    rw [List.getElem?_map, List.getElem?_range hi]
    rfl
  rw [atI_nat rfl (List.getElem?_eq_some_iff.mp e).1, ← List.getElem?_eq_getElem]
  exact e
theorem found_ok {a b c d : Ex} {e : DV.Env} {s : S} {x y : D} (h1 : a e s = .ok (.lst (ls1.map fun p => rowD p [x])) s) (h2 : b e s = .ok (.lst (ls2.map fun p => rowD p [x])) s) (h3 : c e s = .ok (.lst (ls3.map fun p => rowD p [x])) s) (h4 : d e s = .ok (.lst [rowD (32, 0) [x, y]]) s) :
    xBin gAdd (xBin gAdd (xBin gAdd a b) c) d e s = .ok (.lst (rows x y)) s := by
  have c1 : gAdd s (.lst (ls1.map fun p => rowD p [x])) (.lst (ls2.map fun p => rowD p [x])) = some (.lst ((ls1.map fun p => rowD p [x]) ++ (ls2.map fun p => rowD p [x]))) := o_catL (by rw [line]; simp only [List.length_append, List.length_map, List.length_cons, List.length_nil]; decide)
  have c2 : gAdd s (.lst ((ls1.map fun p => rowD p [x]) ++ (ls2.map fun p => rowD p [x]))) (.lst (ls3.map fun p => rowD p [x])) = some (.lst ((ls1.map fun p => rowD p [x]) ++ (ls2.map fun p => rowD p [x]) ++ (ls3.map fun p => rowD p [x]))) := o_catL (by rw [line]; simp only [List.length_append, List.length_map, List.length_cons, List.length_nil]; decide)
  have c3 : gAdd s (.lst ((ls1.map fun p => rowD p [x]) ++ (ls2.map fun p => rowD p [x]) ++ (ls3.map fun p => rowD p [x]))) (.lst [rowD (32, 0) [x, y]]) = some (.lst ((ls1.map fun p => rowD p [x]) ++ (ls2.map fun p => rowD p [x]) ++ (ls3.map fun p => rowD p [x]) ++ [rowD (32, 0) [x, y]])) := o_catL (by rw [line]; simp only [List.length_append, List.length_map, List.length_cons, List.length_nil]; decide)
  simp only [RUN, h1, h2, h3, h4, c1, c2, c3, rows_eq]
  rfl
/-- a loop over numbered rows -/
theorem loop_rows {body : Sx} {x y : D} {s : S} {en : Option D → Option D → DV.Env} {c6 c7 : Option D} (hg : ∀ d6 d7 i r, gUnp 2 (gsCons (gVar 6) (gsCons (gVar 7) gsNil)) (.tup [i, r]) (en d6 d7) s = .ok (en (some i) (some r)) s)
    (hb : ∀ i : Nat, i < 32 → body (en (some (.int (i : Int))) (some (rowAt i x y))) s = .next (en (some (.int (i : Int))) (some (rowAt i x y))) s) :
    ∃ d6 d7, forRun (gUnp 2 (gsCons (gVar 6) (gsCons (gVar 7) gsNil))) body ⟨enumD 0 (rows x y), []⟩ (enumD 0 (rows x y)) (en c6 c7) s = .next (en d6 d7) s := by
  obtain ⟨e', t', run, rfl, _, d6, d7, rfl⟩ := for_run (g := gUnp 2 (gsCons (gVar 6) (gsCons (gVar 7) gsNil))) (body := body) (w := ⟨enumD 0 (rows x y), []⟩) (e := en c6 c7) (s := s) (ds := enumD 0 (rows x y))
    (fun ds e t => t = s ∧ (∀ d ∈ ds, d ∈ enumD 0 (rows x y)) ∧ ∃ c6 c7, e = en c6 c7) ⟨rfl, fun _ h => h, _, _, rfl⟩ (fun _ _ _ _ => same_nil) (by
    rintro d ds e t ⟨rfl, h2, c6, c7, rfl⟩
    obtain ⟨j, r, h3, rfl⟩ := enum_at (h2 d List.mem_cons_self)
    obtain ⟨hj, rfl⟩ := rows_at h3
    rw [Nat.zero_add]
    exact ⟨_, _, hg c6 c7 _ _, _, _, hb j hj, rfl, fun z hz => h2 z (List.mem_cons_of_mem _ hz), _, _, rfl⟩)
  exact ⟨d6, d7, run⟩
theorem seq_ok {f g : Sx} {e e1 : DV.Env} {s s1 : S} {r : Fl} (h1 : f e s = .next e1 s1) (h2 : g e1 s1 = r) : sSeq f g e s = r := by
  rw [r_seq, h1, then_next, h2]
theorem l0t {s : S} {xs : List D} : lsD s (.lst xs) = some (xs, []) := nd rfl
theorem turn_ok {s : S} {d : D} {ns : List Int} {t : Nat} (sc : scrD d ns) (hl : ns.length ≤ 63) (hb : ∀ z ∈ ns, Builtin.Int.intBits z ≤ 1048576) (ht : t < 3) {c2 c3 c4 c5 c6 c7 c8 c9 c10 c11 : Option D} :
    ∃ (d2 d3 d4 d5 d6 d7 d8 : Option D) (s' : S), B_law_2 [some d, some (.int (t : Int)), c2, c3, c4, c5, c6, c7, c8, c9, c10, c11] s = .next [some d, some (.int (t : Int)), d2, d3, d4, d5, d6, d7, d8, c9, c10, c11] s' := by
  obtain ⟨s1, e1, ⟨o, ho⟩, sp1⟩ := spring_ok (s := s) (t := t) sc hl hb (by omega)
  generalize s.mo.length = i at e1 sp1
  obtain ⟨v, s2, e2, d2, tv⟩ := drawn_ok sp1 (by omega)
  obtain ⟨w, s3, e3, d3, tw⟩ := drawn_ok d2.spr (by omega)
  -- both known again
  have lx : (D.tag s3.tg v).low 0 0 = true := tv.low
  have ly : (D.tag (s3.tg + 1) w).low 0 0 = true := tw.low
  have vx : ∀ s, F__law_very s [.tag s3.tg v, .tag s3.tg v] = .ok (.bl true) s := fun s => tv.very s _
  have vy : ∀ s, F__law_very s [.tag (s3.tg + 1) w, .tag (s3.tg + 1) w] = .ok (.bl true) s := fun s => tw.very s _
  have par : sParT 3 4 (aCons (xCall F__law_e_drawn (aCons (xVar 2) aNil)) (aCons (xCall F__law_e_drawn (aCons (xVar 2) aNil)) aNil)) [some d, some (.int (t : Int)), some (.ref i), c3, c4, c5, c6, c7, c8, c9, c10, c11] s1 = .next [some d, some (.int (t : Int)), some (.ref i), some (.tag s3.tg v), some (.tag (s3.tg + 1) w), c5, c6, c7, c8, c9, c10, c11] ⟨s3.mo, s3.tg + 2⟩ := by
    rw [r_parT]
    simp only [RUN, e2, e3]
  generalize D.tag s3.tg v = x at lx vx par
  generalize D.tag (s3.tg + 1) w = y at ly vy par
  generalize (⟨s3.mo, s3.tg + 2⟩ : S) = s4 at par
  have ok1 := row_ok lx ly vx vy
  have ok2 := row_ok ly lx vy vx
  have f1 : xBin gAdd (xBin gAdd (xBin gAdd (xCall F__law_e_first (aCons (xVar 3) aNil)) (xCall F__law_e_second (aCons (xVar 3) aNil))) (xCall F__law_e_third (aCons (xVar 3) aNil))) (xCall F__law_e_fourth (aCons (xVar 3) (aCons (xVar 4) aNil))) [some d, some (.int (t : Int)), some (.ref i), some x, some y, c5, c6, c7, c8, c9, c10, c11] s4 = .ok (.lst (rows x y)) s4 :=
    found_ok (by simp only [RUN, first_ok lx]) (by simp only [RUN, second_ok lx]) (by simp only [RUN, third_ok lx]) (by simp only [RUN, fourth_ok lx ly])
  obtain ⟨d6, d7, run1⟩ := loop_rows (body := B_law_0) (x := x) (y := y) (s := s4) (c6 := c6) (c7 := c7) (en := fun a b => [some d, some (.int (t : Int)), some (.ref i), some x, some y, some (.lst (rows x y)), a, b, c8, c9, c10, c11]) (fun _ _ _ _ => rfl) (fun j hj => by
    have r1 : F__law_e_right s4 [rowAt j x y, .int (j : Int)] = .ok (.bl true) s4 := right_ok (ok1 j hj)
    unfold B_law_0
    simp only [RUN, r1, Bool.not_true])
  have f2 : xBin gAdd (xBin gAdd (xBin gAdd (xCall F__law_e_first (aCons (xVar 4) aNil)) (xCall F__law_e_second (aCons (xVar 4) aNil))) (xCall F__law_e_third (aCons (xVar 4) aNil))) (xCall F__law_e_fourth (aCons (xVar 4) (aCons (xVar 3) aNil))) [some d, some (.int (t : Int)), some (.ref i), some x, some y, some (.lst (rows x y)), d6, d7, c8, c9, c10, c11] s4 = .ok (.lst (rows y x)) s4 :=
    found_ok (by simp only [RUN, first_ok ly]) (by simp only [RUN, second_ok ly]) (by simp only [RUN, third_ok ly]) (by simp only [RUN, fourth_ok ly lx])
  obtain ⟨d6', d7', run2⟩ := loop_rows (body := B_law_1) (x := y) (y := x) (s := s4) (c6 := d6) (c7 := d7) (en := fun a b => [some d, some (.int (t : Int)), some (.ref i), some x, some y, some (.lst (rows x y)), a, b, some (.lst (rows y x)), c9, c10, c11]) (fun _ _ _ _ => rfl) (fun j hj => by
    have r1 : F__law_e_right s4 [rowAt j x y, .int (j : Int)] = .ok (.bl true) s4 := right_ok (ok1 j hj)
    have r2 : F__law_e_right s4 [rowAt j y x, .int (j : Int)] = .ok (.bl true) s4 := right_ok (ok2 j hj)
    have ix : L2.atI (rows x y) (j : Int) = some (rowAt j x y) := at_rows hj
    unfold B_law_1
    simp only [RUN, r1, r2, ix, Bool.not_true])
  refine ⟨some (.ref i), some x, some y, some (.lst (rows x y)), d6', d7', some (.lst (rows y x)), s4, ?_⟩
  unfold B_law_2
  refine seq_ok (e1 := [some d, some (.int (t : Int)), some (.ref i), c3, c4, c5, c6, c7, c8, c9, c10, c11]) (s1 := s1) (by simp only [RUN, e1]) ?_
  refine seq_ok par ?_
  refine seq_ok (e1 := [some d, some (.int (t : Int)), some (.ref i), some x, some y, some (.lst (rows x y)), c6, c7, c8, c9, c10, c11]) (s1 := s4) (by rw [r_asg, f1]; rfl) ?_
  refine seq_ok (e1 := [some d, some (.int (t : Int)), some (.ref i), some x, some y, some (.lst (rows x y)), d6, d7, c8, c9, c10, c11]) (s1 := s4) (by simp only [RUN, l0t, run1]) ?_
  refine seq_ok (e1 := [some d, some (.int (t : Int)), some (.ref i), some x, some y, some (.lst (rows x y)), d6, d7, some (.lst (rows y x)), c9, c10, c11]) (s1 := s4) (by rw [r_asg, f2]; rfl) ?_
  simp only [RUN, l0t, run2]
theorem law_ok {d : D} {ns : List Int} (hl : ns.length ≤ 63) (hb : ∀ z ∈ ns, Builtin.Int.intBits z ≤ 1048576) (sc : scrD d ns) : ∃ s', F_law ⟨[], 0⟩ [d] = .ok (.bl true) s' := by
  obtain ⟨e', s', run, k, _, c1, c2, c3, c4, c5, c6, c7, c8, he⟩ := for_run (g := gVar 1) (body := B_law_2) (w := ⟨rngD 0 3, []⟩) (e := [some d, none, none, none, none, none, none, none, none, none, none, none]) (s := ⟨[], 0⟩) (ds := rngD 0 3)
    (fun ds e t => ∃ k : Nat, (k ≤ 3 ∧ ds = rngD (k : Int) (3 - k)) ∧ ∃ c1 c2 c3 c4 c5 c6 c7 c8, e = [some d, c1, c2, c3, c4, c5, c6, c7, c8, none, none, none])
    ⟨0, ⟨by omega, rfl⟩, none, none, none, none, none, none, none, none, rfl⟩ (fun _ _ _ _ => same_nil) (by
      rintro x ds e t ⟨k, ⟨h1, h2⟩, c1, c2, c3, c4, c5, c6, c7, c8, rfl⟩
      have hk : k < 3 := by
        by_cases h : k < 3
        · exact h
        · have : 3 - k = 0 := by omega
          rw [this] at h2
          cases h2
      rw [show 3 - k = (3 - (k + 1)) + 1 by omega, rng_cons] at h2
      cases h2
      obtain ⟨d2, d3, d4, d5, d6, d7, d8, s', q⟩ := turn_ok (s := t) (t := k) sc hl hb hk (c2 := c2) (c3 := c3) (c4 := c4) (c5 := c5) (c6 := c6) (c7 := c7) (c8 := c8) (c9 := none) (c10 := none) (c11 := none)
      exact ⟨_, _, rfl, _, _, q, k + 1, ⟨hk, rfl⟩, _, _, _, _, _, _, _, _, rfl⟩)
  subst he
  have start : F_law ⟨[], 0⟩ [d] = endDef ⟨[], 0⟩ (m_law [some d, none, none, none, none, none, none, none, none, none, none, none] ⟨[], 0⟩) := run_def rfl
  have rg : ixRng1 (aCons (xC (.int 3)) aNil) [some d, none, none, none, none, none, none, none, none, none, none, none] ⟨[], 0⟩ = .ok ⟨rngD 0 3, []⟩ ⟨[], 0⟩ := rng1 (n := 3) rfl (by decide)
  have k1 : aComp (ixEnum (aCons (xCall F__law_e_kinds (aCons (xExn 27 0 aNil) aNil)) aNil)) (.many [10, 11]) T_law_3 E_law_4 [10, 11] [some d, c1, c2, c3, c4, c5, c6, c7, c8, some (.int 32), none, none] s' = .ok [natD 32] s' := by
    rw [← show kindRes 27 = [natD 32] from kindRes_ok 32 (by decide)]
    exact kinds_comp (c := 27) (by decide) rfl fun j b => ⟨_, rfl, by simp only [T_law_3, RUN, DV.setAll], by simp only [E_law_4, RUN, DV.setAll]⟩
  have k2 : aComp (ixEnum (aCons (xCall F__law_e_kinds (aCons (xExn 28 0 aNil) aNil)) aNil)) (.many [10, 11]) T_law_5 E_law_6 [10, 11] [some d, c1, c2, c3, c4, c5, c6, c7, c8, some (.int 32), none, none] s' = .ok [natD 33] s' := by
    rw [← show kindRes 28 = [natD 33] from kindRes_ok 33 (by decide)]
    exact kinds_comp (c := 28) (by decide) rfl fun j b => ⟨_, rfl, by simp only [T_law_5, RUN, DV.setAll], by simp only [E_law_6, RUN, DV.setAll]⟩
  have n1 : gNe s' (.lst [natD 32]) (.lst [.int 32]) = some (.bl false) := ne_one
  have n2 : gNe s' (.lst [natD 33]) (.lst [.int (32 + 1)]) = some (.bl false) := ne_one
  refine ⟨back ⟨[], 0⟩ s', ?_⟩
  rw [start]
  unfold m_law
  simp only [RUN, rg, run, l1s, k1, k2, n1, n2, ex0, isAll_eq (show 27 < 34 by decide), isAll_eq (show 28 < 34 by decide), RUN2]
end K00
end
set_option maxRecDepth 100000 in
set_option maxHeartbeats 8000000 in
theorem PySem.Challenge.cw_oneortwo_k00_errors_made_holds : PySem.Challenge.rw_oneortwo_k00_errors_made.Holds := by
  exact K00.holds fun ns d hl hb sc => K00.law_ok hl hb sc

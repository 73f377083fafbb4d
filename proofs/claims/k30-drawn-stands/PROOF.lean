import PyProof.Rows.All
import Wide.All
import OpenK.AllK
import Wide.FinOn
import KE.KStateDown
import KE.KExcSuper
import HandS.ForMost
import HandS.ForExc
import HandS.IsInst
import HandS.ExcInit
import HandS.ExcField
import HandS.Head0
import HandS.Head1
import HandS.Head2
import HandS.Head3
import HandS.HeadHook4
import KE.KLam
import HandS.Codes
import HandS.Lambda
import HandS.Nested
import HandS.Defaults
import KE.KSortKeySt
import KE.KMinKey
import PyProof.TupleOfSeq
import HandS.SortKw
import HandS.ExcValue
import KE.GoesEnum
import PyProof.EnumMake
import KE.KDictZip
import KE.GoesZip
import KE.KDictList
import KE.KDictSum
import HandS.ListItems
import KE.KMathGC
import HandS.Style
import HandS.DictComp
import HandS.Wide
import HandS.Zip
import HandS.TupSets
import HandS.ExcBuiltin
import HandS.TryMany
import HandS.Walk
import HandS.Small
import HandS.Steps
import KE.KDictDisplayH
import HandS.Conv
import HandS.OwnEq
import KE.KExcIs
import PyProof.IsiBase
import PyProof.FactsAll.object_1
import HandS.TryOnly
import KE.KSortTupG
import PyProof.ReprRoads
import PyProof.RowDictHeap
import HandS.EndTab
import HandS.HeadWalk
import HandS.NestedK
import PySem.Challenge.RW_ringwalkers_k30_whole_drawn_stands
set_option Elab.async false
set_option linter.all false
set_option maxRecDepth 100000
set_option maxHeartbeats 4000000
/-! What is read of the heap behind the head. -/
namespace Rw
open PySem PySem.Spec PyProof.Rows L2
def top (i : Nat) : Stmt := PySem.Challenge.pw_ringwalkers_k30_whole_drawn_stands.main.body.getD i (.Pass ⟨0, 0, 0, 0⟩)
def clsBody : Stmt → List Stmt
  | .ClassDef _ _ _ b _ _ _ _ _ _ _ => b
  | _ => []
def meth (i j : Nat) : Stmt := (clsBody (top i)).getD j (.Pass ⟨0, 0, 0, 0⟩)
def freeL : List Str := ["isinstance", "list", "tuple", "dict", "int", "bool", "str", "range", "zip", "enumerate", "super", "KeyError", "ValueError", "len", "all", "any", "min", "sorted", "repr"]
def gloL : List Str := ["Path", "Desk", "WalkError", "BadPath", "BadTotal", "BadNumber", "BadChooser", "BadWalkers", "BadNumbers", "is_number", "drawn_stand", "_law_first", "_law_last", "_law_cannot"]
def dfL : List (Str × Nat) := ([("is_list", 5), ("is_whole", 6), ("is_number", 7), ("is_name", 9), ("check_path", 24), ("is_dict_of", 25), ("first_places", 26), ("behind_overtaking", 28), ("check_chooser", 62), ("chosen", 63), ("ways", 65), ("all_lists", 66), ("full_lists", 67), ("lists_with_nobody", 68), ("check_total", 69), ("count_stands", 70),
  ("checked_numbers", 72), ("movers", 73), ("least_mover", 74), ("ahead_in", 75), ("laps_in", 76), ("less_laps", 77), ("stand_from", 78), ("stand_of_made", 79), ("lists_below", 81), ("greatest_begin", 82), ("made_at", 83), ("stand_at", 84), ("drawn_stand", 85)] : List (Str × Nat)) ++
  ([("_law_start", 87), ("_law_draw", 88), ("_law_mixed", 89), ("_law_same", 90), ("_law_loose", 91), ("_law_w_names", 92), ("_law_w_path", 93), ("_law_w_ahead", 94), ("_law_w_behind", 95), ("_law_w_all", 96), ("_law_w_odd_paths", 97), ("_law_w_in_turns", 98), ("_law_met", 99), ("_law_first", 100), ("_law_last", 101), ("_law_cannot", 102), ("_law_comes_out", 103), ("_law_number_refused", 104), ("_law_drawn_right", 105), ("_law_drawn_by", 106), ("_law_all_right", 107), ("_law_refused_right", 108), ("law", 109)] : List (Str × Nat))
def tfL : List Str := ["movers", "least_mover", "ahead_in", "_law_number_refused", "_law_drawn_right", "_law_drawn_by", "_law_refused_right", "law"]
def chooL (K : PySem.W.Frag) : List Value := [.type "int", .type "bool", .type "str", .type "list", .type "tuple", .type "dict", .ref (He.ga K "Path"), .ref (He.ga K "Desk"), .ref (He.ga K "WalkError")]
def letS : Str := "abcdefghijklmnopqrstuvwxyz"
def figS : Str := "0123456789"
def excN : List Str := ["BadPath", "BadTotal", "BadChooser", "BadNumber"]
def oexB (K : PySem.W.Frag) (C : Addr) : Bool := (match K.lookup C with
  | some ⟨.type t, _, .cls cd, sl⟩ => decide (t = "type") && (match cd.mro, sl.toList with
    | .ref D :: bm, [_, _, _, _, some (.builtin n), _] => decide (D = C) && (decide (n = "ValueError.__new__") && (cd.hasDict && (!cd.hasDel && PySem.HandSPX.refsVE bm)))
    | _, _ => false)
  | _ => false) && (He.eqO (PySem.W.findIn K (.ref C) "__setattr__") (some (some (.builtin "object.__setattr__"))) && (decide (PySem.W.subIn K (.ref C) (.type "BaseException") = some true) && (decide (PySem.W.typeIn K (.ref C) = some (.type "type")) && PySem.W.keepIn K (.ref C))))
def fileB (K : PySem.W.Frag) (file : Str) : Value → Bool
  | .ref c => (match K.lookup c with
    | some ⟨_, _, .fields vs, _⟩ => (match (vs[2]? : Option Value) with
      | some (.str x _) => file == x
      | _ => false)
    | _ => false)
  | _ => false
def cellB (K : PySem.W.Frag) (C : Addr) : List (Str × Addr) → Bool
  | [(_, cc)] => (match K.lookup cc with
    | some ⟨_, _, .cell (some (.ref D)), _⟩ => decide (D = C)
    | _ => false)
  | _ => false
def initB (K : PySem.W.Frag) (file : Str) (C f : Addr) : Bool := match K.lookup f with
  | some ⟨_, _, .func fd, _⟩ => fileB K file fd.code && (PySem.W.codeIn K fd.code fd.qualname && cellB K C fd.closure)
  | _ => false
abbrev FnE : Type := Option (Str × Arguments × FuncBody × Scope × Addr × List Str × Value × Value × Addr)
def initF (K : PySem.W.Frag) (x : Str) : Addr := He.ma K (He.ga K x) "__init__"
def initO (K : PySem.W.Frag) (x : Str) : FnE := match K.lookup (initF K x) with
  | some ⟨_, _, .func fd, _⟩ => some (fd.qualname, fd.params, fd.body, fd.scope, fd.globals, fd.closure.map (·.1), fd.defaults, fd.kwdefaults, fd.builtins)
  | _ => none
def initV (x : Str) (i : Nat) : FnE := some (x ++ ".__init__", defArgs (meth i 0), .stmts (defBody (meth i 0)), defScope (meth i 0), mainGlobals, ["__class__"], .none, .none, builtinsNs)
def exDs : List (Str × Str × Nat) := [("BadPath", "thing", 15), ("BadTotal", "total", 19), ("BadNumber", "number", 20), ("BadChooser", "thing", 21)]
def exwB (K : PySem.W.Frag) (file x fld : Str) : Bool := oexB K (He.ga K x) && (He.eqO (PySem.W.ks_superIn K (He.ga K x) (He.ga K x) "__init__") (some (some (.builtin "ValueError.__init__"))) && (decide (PySem.W.subIn K (.ref (He.ga K x)) (.type "ValueError") = some true) &&
  (He.eqO (PySem.W.nsIn K cStatics "thirdparty.any") (some none) && (He.eqO (PySem.W.findIn K (.ref (He.ga K x)) "__init__") (some (some (.ref (initF K x)))) && (decide (PySem.W.typeIn K (.ref (initF K x)) = some (.type "function")) && (He.eqO (PySem.W.findIn K (.ref (He.ga K x)) fld) (some none) && initB K file (He.ga K x) (initF K x)))))))
def objB (K : PySem.W.Frag) (C : Addr) : Bool := decide (PySem.W.kitAny K (.ref C) [.type "list", .type "tuple"] = some false) && (decide (PySem.W.kitOne K (.ref C) (.type "dict") = some false) && (decide (PySem.W.kitOne K (.ref C) (.type "int") = some false) && decide (PySem.W.kitAny K (.ref C) [.type "int", .type "list", .type "tuple", .type "dict"] = some false)))
def isB (K : PySem.W.Frag) : Bool := He.eqO (PySem.W.findIn K (.ref (He.ga K "Path")) "__class__") (some (some (.builtin "object.__class__"))) && (He.eqO (PySem.W.specialIn K (.builtin "object.__class__") "__get__") (some (some (.builtin "getset_descriptor.__get__"))) &&
  (decide (PySem.W.takesIn K (.builtin "object.__class__") = some true) && (decide (PySem.W.mroIn K (He.ga K "Path") (.type "object") = some true) && decide (PySem.W.kitAny K (.type "function") (chooL K) = some false))))
def mxB (K : PySem.W.Frag) : Bool := objB K (He.ga K "Path") && (objB K (He.ga K "Desk") && (objB K (He.ga K "BadTotal") && (decide (PySem.W.mroIn K (He.ga K "BadTotal") (.type "object") = some true) && He.eqO (PySem.W.findIn K (.ref (He.ga K "BadTotal")) "__eq__") (some (some (.builtin "object.__eq__"))))))
def mtB (K : PySem.W.Frag) : Bool := (excN.all fun x => excN.all fun y => decide (PySem.W.exmOne K (.ref (He.ga K x)) (.ref (He.ga K y)) = some (decide (x = y)))) && excN.all fun x => xfB K (He.ga K x)
def mzB (K : PySem.W.Frag) : Bool := ((["NoneType", "bool", "int", "str", "list", "tuple", "dict"] : List String).all fun n => decide (PySem.W.kitOne K (.type n) (.ref (He.ga K "Path")) = some false)) && (((["bool", "int", "str", "list", "tuple", "dict"] : List String).all fun n => decide (PySem.W.kitAny K (.type n) (chooL K) = some true)) &&
  (((["Path", "Desk", "BadTotal"] : List Str).all fun x => decide (PySem.W.kitAny K (.ref (He.ga K x)) (chooL K) = some true)) && ((PySem.W.clsIn K (He.ga K "BadTotal")).isSome && He.eqO (PySem.W.findIn K (.ref (He.ga K "BadTotal")) "__class__") (some (some (.builtin "object.__class__"))))))
def moreB (K : PySem.W.Frag) : Bool := He.eqO (PySem.W.nsIn K mainGlobals "comb") (some (some (.builtin "math.comb"))) && (He.eqO (PySem.W.findIn K (.ref (He.ga K "Desk")) "__class__") (some (some (.builtin "object.__class__"))) && (decide (PySem.W.mroIn K (He.ga K "Desk") (.type "object") = some true) &&
  (["_law_first", "_law_last", "_law_cannot"] : List Str).all fun x => decide (PySem.W.typeIn K (.ref (He.ga K x)) = some (.type "function"))))
def exB (file : Str) (K : PySem.W.Frag) : Bool := (exDs.all fun d => exwB K file d.1 d.2.1) && (isB K && (mxB K && (mtB K && (mzB K && moreB K))))
def faL : List He.Fa := freeL.map He.Fa.free ++ gloL.map He.Fa.glo ++ dfL.map (fun p => He.Fa.glo p.1) ++ [.cls "Path", .noat "Path" "names", .noat "Path" "many", .noat "Path" "ranks", .mkr "Path", .meth "Path" "__eq__", .str "LETTERS" letS, .str "FIGURES" figS, .cls "Desk", .mkr "Desk", .meth "Desk" "__eq__", .noat "Desk" "own_path", .noat "Desk" "own_grounds", .noat "Desk" "own_deeds", .noat "Desk" "own_undone"]
def defD (p : Str × Nat) : He.DefD := ⟨(p.1, none), p.1, p.1, defArgs (top p.2), defBody (top p.2), defScope (top p.2), [], []⟩
def methD (c m q : Str) (i j : Nat) : He.DefD := ⟨(c, some m), m, q, defArgs (meth i j), defBody (meth i j), defScope (meth i j), [], []⟩
def fnL : List He.DefD := dfL.map defD ++ [methD "Path" "__init__" "Path.__init__" 23 0, methD "Path" "__eq__" "Path.__eq__" 23 3, methD "Desk" "__init__" "Desk.__init__" 60 0, methD "Desk" "__eq__" "Desk.__eq__" 60 19]
def tfD : List He.Defn := tfL.map fun x => (x, none)
abbrev AlY : Type := He.AlD × Bool × List FnE
def gNs (g : Addr → Option Obj) (ns : Addr) (x : Str) : List Addr := match g ns with
  | some ⟨_, _, .dict es _, _⟩ => (match es.toList.find? (·.key.isStr x) with
    | some e => He.refV e.val
    | none => [])
  | _ => []
def gFn (g : Addr → Option Obj) (a : Addr) : List Addr := a :: match g a with
  | some ⟨_, _, .func fd, _⟩ => He.refV fd.code ++ fd.closure.map (·.2)
  | _ => []
def gCls (g : Addr → Option Obj) (ms : List Str) (a : Addr) : List Addr := a :: match g a with
  | some ⟨_, _, .cls cd, _⟩ => cd.ns :: ms.flatMap fun m => (gNs g cd.ns m).flatMap (gFn g)
  | _ => []
def clsR : List (Str × List Str) := [("Path", ["__init__", "__eq__"]), ("Desk", ["__init__", "__eq__"]), ("WalkError", []), ("BadPath", ["__init__"]), ("BadTotal", ["__init__"]), ("BadNumber", ["__init__"]), ("BadChooser", ["__init__"]), ("BadWalkers", []), ("BadNumbers", [])]
def asZ (g : Addr → Option Obj) : List Addr := mainGlobals :: cStatics :: ((clsR.flatMap fun p => (gNs g mainGlobals p.1).flatMap (gCls g p.2)) ++ dfL.flatMap fun p => (gNs g mainGlobals p.1).flatMap (gFn g))
def knY (g : Addr → Option Obj) : PySem.W.Frag := He.frT g (asZ g)
def seenY (file : Str) (g : Addr → Option Obj) (K : PySem.W.Frag) : AlY := (He.obsD faL fnL K, exB file K && He.tabsB g tfD K, exDs.map fun d => initO K d.1)
def obY (file : Str) (g : Addr → Option Obj) : AlY := seenY file g (knY g)
def valY : AlY := (He.valD fnL, true, exDs.map fun d => initV d.1 d.2.2)
abbrev lawR : PySem.W.OpenRow := PySem.W.OpenLaw.row PySem.Challenge.rw_ringwalkers_k30_whole_drawn_stands
abbrev lawV : Program := PySem.W.view lawR.prog [0, 109]
def namesR : List PySem.Str := (["_wall", "__name__", "LETTERS", "FIGURES", "is_list", "is_whole", "is_number", "is_positive", "is_name", "is_one_of", "as_tuples", "WalkError", "BadWalkers", "BadPath", "NoWalker", "NotBehind", "BadNumbers", "BadTotal", "BadNumber", "BadChooser", "Path", "check_path", "is_dict_of", "first_places", "ahead_of", "behind_overtaking", "first_net", "BadDeed", "WasOvertaken", "BadQuestion"] : List PySem.Str) ++ (["IsWatched", "NotWatched", "WouldChange", "NoCount", "pairs_of", "table_of", "most_in", "forms_of", "is_part", "is_part_deskquestions", "as_question", "made_by", "answer_of", "form_of", "is_part_desks", "is_deed", "behind_one", "behind_rounds", "behind_watch", "behind_deed", "changes", "Desk", "check_chooser", "chosen", "ways", "all_lists", "full_lists", "lists_with_nobody", "check_total", "count_stands"] : List PySem.Str) ++ (["checked_numbers", "movers", "least_mover", "ahead_in", "laps_in", "less_laps", "stand_from", "stand_of_made", "lists_below", "greatest_begin", "made_at", "stand_at", "drawn_stand", "_law_start", "_law_draw", "_law_mixed", "_law_same", "_law_loose", "_law_w_names", "_law_w_path", "_law_w_ahead", "_law_w_behind", "_law_w_all", "_law_w_odd_paths", "_law_w_in_turns", "_law_met", "_law_first", "_law_last", "_law_cannot", "_law_comes_out"] : List PySem.Str) ++ (["_law_number_refused", "_law_drawn_right", "_law_drawn_by", "_law_all_right", "_law_refused_right"] : List PySem.Str)
def fileR : Str := lawR.prog.main.file
end Rw
set_option maxHeartbeats 0
/-! The head's run, in four parts. -/
namespace Rw
open PySem PySem.W PySem.Calls PyProof.Rows HandSHeadRun
theorem run_looks (w : World) : ((wholeF (fun p => stepQ (denQ tabQ) p w) fenceQ 20000 lawR.prog).map fun x => looksF lawR.prog x.1.heap x.2.abs) = some true := by kernel_rfl
theorem run_seen (w : World) : ((wholeF (fun p => stepQ (denQ tabQ) p w) fenceQ 20000 lawR.prog).map fun x => seenQ lawV namesR (importedModules lawR.prog.main.body) (fun s => xlAt lawV [] s && recOk lawR.toRowW.records s) x.2.abs) = some (openGood lawV namesR) := by kernel_rfl
theorem run_defs (w : World) : ((wholeF (fun p => stepQ (denQ tabQ) p w) fenceQ 20000 lawR.prog).map fun x => He.obsD faL fnL (knY (getT x.2))) = some (He.valD fnL) := by kernel_rfl
theorem run_more (w : World) : ((wholeF (fun p => stepQ (denQ tabQ) p w) fenceQ 20000 lawR.prog).map fun x => (exB fileR (knY (getT x.2)) && He.tabsB (getT x.2) tfD (knY (getT x.2)), exDs.map fun d => initO (knY (getT x.2)) d.1)) = some (true, exDs.map fun d => initV d.1 d.2.2) := by kernel_rfl
end Rw
set_option maxHeartbeats 4000000
/-! Functions as values: what a caller knows of one, by the abstract heap alone. The cells that a closure captured stand as locked things while another def runs. -/
namespace Rw
open PySem PySem.Spec PyProof.Rows L2 LamX NdefX

/-! ### the heap grows, but for the lists of B -/
structure Gr (T : List NTab) (B : List Addr) (H H' : Hp) : Prop where
  ext : ∀ b o, (b ∈ B → ∀ xs, o ≠ .lst xs) → H b = some o → (∀ ps, o ≠ .tbl ps) → H' b = some o
  mono : ∀ b, H' b = none → H b = none
  tab : TabsN T H → TabsN T H'
theorem Gr.refl {T : List NTab} {B : List Addr} (H : Hp) : Gr T B H H := ⟨fun _ _ _ h _ => h, fun _ h => h, fun h => h⟩
theorem Gr.trans {T : List NTab} {B : List Addr} {H H1 H2 : Hp} (a : Gr T B H H1) (b : Gr T B H1 H2) : Gr T B H H2 :=
  ⟨fun c o n h t => b.ext c o n (a.ext c o n h t) t, fun c h => a.mono c (b.mono c h), fun h => b.tab (a.tab h)⟩
theorem Gr.sub {T : List NTab} {B B' : List Addr} {H H1 : Hp} (a : Gr T B H H1) (h : ∀ b ∈ B, b ∈ B') : Gr T B' H H1 :=
  ⟨fun c o n q t => a.ext c o (fun z => n (h c z)) q t, a.mono, a.tab⟩
theorem Gr.wk {T : List NTab} {B : List Addr} {H H1 : Hp} (a : Gr T [] H H1) : Gr T B H H1 := a.sub fun _ h => nomatch h
theorem Gr.new {T : List NTab} {B : List Addr} {H : Hp} {p : Addr} {o : HO} (h : H p = none) : Gr T B H (upd H p o) :=
  ⟨fun c u _ q _ => by rw [upd_ne (ne_of_none q h)]; exact q, fun c q => upd_none q, fun t => t.ext fun c u q => by rw [upd_ne (ne_of_none q h)]; exact q⟩
theorem upd_none' {H : Hp} {a b : Addr} {o : HO} (h : H b = none → b ≠ a → H b = none) (e : upd H a o b = none) : H b = none := upd_none e
theorem tabsN_upd {T : List NTab} {H : Hp} {p : Addr} {o u : HO} (hp : H p = some u) (n1 : ∀ ps, u ≠ .tbl ps) (n2 : ∀ c q, u ≠ CodeO c q) (t : TabsN T H) : TabsN T (L2.upd H p o) := fun q hq => by
  obtain ⟨ps, h1, h2, h3⟩ := t q hq
  refine ⟨ps, ?_, h2, fun pos cv hc => ?_⟩
  · rw [upd_ne (fun z => n1 ps (Option.some.inj (by rw [← hp, ← z]; exact h1)))]
    exact h1
  · obtain ⟨c, e1, e2⟩ := h3 pos cv hc
    refine ⟨c, e1, ?_⟩
    rw [upd_ne (fun z => n2 c _ (Option.some.inj (by rw [← hp, ← z]; exact e2)))]
    exact e2
/-- a store at a list of B -/
theorem Gr.putL {T : List NTab} {B : List Addr} {H : Hp} {p : Addr} {o : HO} {xs : List V} (hb : p ∈ B) (hp : H p = some (.lst xs)) : Gr T B H (L2.upd H p o) :=
  ⟨fun c v n q _ => by
    by_cases z : c = p
    · subst z
      rw [hp] at q
      exact absurd (Option.some.inj q).symm (n hb xs)
    · rw [upd_ne z]
      exact q, fun c q => upd_none q, fun t => tabsN_upd hp (fun _ z => nomatch z) (fun _ _ z => nomatch z) t⟩
/-- what was made since H may be written -/
theorem Gr.own {T : List NTab} {B : List Addr} {H H1 : Hp} {p : Addr} {o u : HO} (g : Gr T B H H1) (h0 : H p = none) (hp : H1 p = some u) (n1 : ∀ ps, u ≠ .tbl ps) (n2 : ∀ c q, u ≠ CodeO c q) : Gr T B H (L2.upd H1 p o) :=
  ⟨fun c v n q t => by rw [upd_ne (ne_of_none q h0)]; exact g.ext c v n q t, fun c q => g.mono c (upd_none q), fun t => tabsN_upd hp n1 n2 (g.tab t)⟩
theorem Gr.ownL {T : List NTab} {B : List Addr} {H H1 : Hp} {p : Addr} {o : HO} {xs : List V} (g : Gr T B H H1) (h0 : H p = none) (hp : H1 p = some (.lst xs)) : Gr T B H (L2.upd H1 p o) :=
  g.own h0 hp (fun _ z => nomatch z) fun _ _ z => nomatch z
theorem Gr.ownD {T : List NTab} {B : List Addr} {H H1 : Hp} {p : Addr} {o : HO} {xs : List (Key × V)} (g : Gr T B H H1) (h0 : H p = none) (hp : H1 p = some (.dK xs)) : Gr T B H (L2.upd H1 p o) :=
  g.own h0 hp (fun _ z => nomatch z) fun _ _ z => nomatch z
section
variable {T : List NTab} {B : List Addr} {H H1 : Hp} {a : Addr}
theorem Gr.lst {xs : List V} (g : Gr T B H H1) (h : H a = some (.lst xs)) (n : a ∉ B) : H1 a = some (.lst xs) := g.ext a _ (fun z => absurd z n) h fun _ z => nomatch z
theorem Gr.tup {xs : List V} (g : Gr T B H H1) (h : H a = some (.tup xs)) : H1 a = some (.tup xs) := g.ext a _ (fun _ _ z => nomatch z) h fun _ z => nomatch z
theorem Gr.dK {xs : List (Key × V)} (g : Gr T B H H1) (h : H a = some (.dK xs)) : H1 a = some (.dK xs) := g.ext a _ (fun _ _ z => nomatch z) h fun _ z => nomatch z
theorem Gr.ins {C dx : Addr} {fs : List (Str × V)} (g : Gr T B H H1) (h : H a = some (.ins C dx fs)) : H1 a = some (.ins C dx fs) := g.ext a _ (fun _ _ z => nomatch z) h fun _ z => nomatch z
theorem Gr.frz {o : Obj} {u : HO} (g : Gr T B H H1) (h : H a = some (.frz o u)) : H1 a = some (.frz o u) := g.ext a _ (fun _ _ z => nomatch z) h fun _ z => nomatch z
theorem Gr.own' {x : Addr} (g : Gr T B H H1) (h : H a = some (.own x)) : H1 a = some (.own x) := g.ext a _ (fun _ _ z => nomatch z) h fun _ z => nomatch z
theorem Gr.xd {fs : List (Str × V)} (g : Gr T B H H1) (h : H a = some (.xd fs)) : H1 a = some (.xd fs) := g.ext a _ (fun _ _ z => nomatch z) h fun _ z => nomatch z
theorem Gr.exx {φ : Heap → Prop} (g : Gr T B H H1) (h : H a = some (.ext φ)) : H1 a = some (.ext φ) := g.ext a _ (fun _ _ z => nomatch z) h fun _ z => nomatch z
theorem Gr.extn (g : Gr T [] H H1) : ExtN H H1 := fun b o h t => g.ext b o (fun z => nomatch z) h t
theorem Gr.of_extn (e : ExtN H H1) (m : ∀ b, H1 b = none → H b = none) (t : TabsN T H → TabsN T H1) : Gr T B H H1 := ⟨fun b o _ h n => e b o h n, m, t⟩
end

/-! ### function values -/
structure Fv (P : Program) (w : World) (K : PySem.W.Frag) (mg : Str → Option Value) (base : Heap) (CX : CXT) (k : Nat) (Hc : Hp → Prop) (f : Addr) (n : Nat) (sp : Sp) : Prop where
  len : ∀ vs H Q E, sp vs H Q E → vs.length = n
  fn : ∀ (h : Heap) (H : Hp), HOk P w H h → K.In h → Hc H → PySem.W.FnAt f h
  run : ∀ (A : Around) (outer : List Env) (s : Shared) (H : Hp) (us : List Value) (vs : List V) (Q : VK) (E : XK), Room k A → Env0 P w K mg base A outer s H → Hc H → Vals vs us → sp vs H Q E →
    codeAny (model P w) A (.call (.ref f) ⟨us, []⟩) (CR CX outer P w H s Q E) s
section
variable {P : Program} {w : World} {K : PySem.W.Frag} {mg : Str → Option Value} {base : Heap} {CX : CXT} {k j n : Nat} {f : Addr} {Hc : Hp → Prop} {fd : FuncData} {ps : List Str} {sp : Sp}
theorem Fv.mono (F : Fv P w K mg base CX j Hc f n sp) (h : j ≤ k) : Fv P w K mg base CX k Hc f n sp := ⟨F.len, F.fn, fun A outer s H us vs Q E hr => F.run A outer s H us vs Q E (hr.mono h)⟩
/-- a def of the module -/
theorem Fv.of (F : FnOk P w K mg base CX k f fd ps sp) (b : Binds K fd ps []) (lk : ∃ oc od d sl, K.lookup f = some ⟨oc, od, .func d, sl⟩) : Fv P w K mg base CX k (fun _ => True) f ps.length sp :=
  ⟨F.len, fun h H _ KX _ => let ⟨oc, od, d, sl, e⟩ := lk; ⟨oc, od, d, sl, KX _ _ e⟩, fun A outer s H us vs Q E hr e0z _ r q => by
    have KX : K.In s.heap := e0z.mod.kin.keeps fun b o e => (e0z.bs b o e).1
    have hl : (us ++ []).length = ps.length := by rw [List.append_nil, ← r.length]; exact F.len _ _ _ _ q
    have hb := b s us KX hl
    rw [List.append_nil] at hb
    exact F.run A outer s H ⟨us, []⟩ us vs Q E hr e0z hb r q⟩
end
/-- f(..), f a name that holds a function value -/
def tCallF (X : Cx) (CX : CXT) (k i : Nat) (E : XK) (t : TA) : TE := fun σ H Q => ∃ (f : Addr) (Hc : Hp → Prop) (n : Nat) (sp : Sp), σ[i]? = some (some (.ref f)) ∧ Fv X.prog X.w X.K X.mg X.base CX k Hc f n sp ∧ Hc H ∧ t σ H fun vs H1 => Hc H1 ∧ sp vs H1 Q E
section
variable {X : Cx} {CX : CXT} {i k j : Nat} {x : Str} {E : XK} {t : TA} {e : Expr} {es : List Expr} {p pos : Pos}
theorem run_fv {pins : List (Addr × Obj)} {σ : L2.St} {H : Hp} {s : Shared} {Q : VK} {f : Addr} {Hc : Hp → Prop} {n : Nat} {sp : Sp} {us : List Value} {vs : List V} (F : Fv X.prog X.w X.K X.mg X.base CX k Hc f n sp) (hr : Room k X.A) (hx : Passes CX X E) (I : Inv X pins σ H s)
    (hc : Hc H) (r : Vals vs us) (q : sp vs H Q E) : wpAny (model X.prog X.w) X.A (call (.ref f) us) (EP X pins σ Q) X.xe s := by
  refine wpAny_call (codeAny_mono (F.run X.A X.stack s H us vs _ E hr I.env0 hc r q) fun r sz' hq => ?_)
  cases r with
  | error e => exact hx pins σ H s e sz' I hq
  | ok fl =>
    cases fl with
    | ret u => exact I.after hq
    | next => exact False.elim hq
    | brk => exact False.elim hq
    | cont => exact False.elim hq
theorem pe_callF (hr : Room k X.A) (hx : Passes CX X E) (hN : X.N[i]? = some x) (hv : Vis X.env.scope x) (ha : PA X (e :: es) t)
    (hd : (x == ("__debug__" : Str)) = false := by decide) (hcd : (x == ("__classdict__" : Str)) = false := by decide)
    (he : starEach (e :: es) X.env = (false, eval e X.env) :: starEach es X.env := by rfl) (hpl : (backTo pos (starEach es X.env)).any (·.1) = false := by rfl) :
    PE X (.Call (.Name x p) (e :: es) [] pos) (tCallF X CX k i E t) := by
  refine ⟨fun pinsz s σ H Q I h => ?_⟩
  obtain ⟨f, Hc, n, sp, hs, F, hc, ht⟩ := h
  refine wpAny_Call_Name_kw (thn ((pe_var (pos := p) hN hv hd hcd).run pinsz s σ H (fun v H1 => v = .ref f ∧ H1 = H) I ⟨.ref f, hs, rfl, rfl⟩) fun u s1 ⟨v, H1, I1, r1z, q1⟩ => ?_)
  obtain ⟨ev, eH⟩ := q1
  subst ev
  rw [eH] at I1
  obtain rfl : u = Value.ref f := r1z
  refine PySem.W.callWith_F (first := []) (F.fn _ _ I1.hok I1.kIn hc) (thn (ha.run pos pinsz s1 σ H _ I1 ht) fun us s2 ⟨vs, H2, I2, r, h1, q⟩ => ⟨F.fn _ _ I2.hok I2.kIn h1, ?_⟩) he hpl
  show wpAny _ _ (call (.ref f) us) _ _ _
  exact run_fv F hr hx I2 h1 r q
theorem pe_callF0 (hr : Room k X.A) (hx : Passes CX X E) (hN : X.N[i]? = some x) (hv : Vis X.env.scope x)
    (hd : (x == ("__debug__" : Str)) = false := by decide) (hcd : (x == ("__classdict__" : Str)) = false := by decide) : PE X (.Call (.Name x p) [] [] pos) (tCallF X CX k i E tNil) := by
  refine ⟨fun pinsz s σ H Q I h => ?_⟩
  obtain ⟨f, Hc, n, sp, hs, F, hc, h1, q⟩ := h
  refine wpAny_Call_Name_kw (thn ((pe_var (pos := p) hN hv hd hcd).run pinsz s σ H (fun v H1 => v = .ref f ∧ H1 = H) I ⟨.ref f, hs, rfl, rfl⟩) fun u s1 ⟨v, H1, I1, r1z, q1⟩ => ?_)
  obtain ⟨ev, eH⟩ := q1
  subst ev
  rw [eH] at I1
  obtain rfl : u = Value.ref f := r1z
  refine PySem.W.callWith_F0 (first := []) (F.fn _ _ I1.hok I1.kIn hc) ?_
  show wpAny _ _ (call (.ref f) []) _ _ _
  exact run_fv F hr hx I1 h1 .nil q
end

/-! ### cells as locked things -/
section
open Classical
/-- the cells of C, as they stand in h, are locked -/
noncomputable def frzH (C : Addr → Prop) (h : Heap) (H : Hp) : Hp := fun b => if C b then (h.get? b).map fun o => .frz o (.ext fun g => g.get? b = some o) else H b
noncomputable def thw (C : Addr → Prop) (H : Hp) : Hp := fun b => if C b then none else H b
/-- what is locked at C in H, put over H2 -/
noncomputable def rfz (C : Addr → Prop) (H H2 : Hp) : Hp := fun b => if C b then H b else H2 b
theorem frz_in {C : Addr → Prop} {h : Heap} {H : Hp} {b : Addr} {o : Obj} (c : C b) (e : h.get? b = some o) : frzH C h H b = some (.frz o (.ext fun g => g.get? b = some o)) := by
  unfold frzH
  rw [if_pos c, e]
  rfl
theorem frz_out {C : Addr → Prop} {h : Heap} {H : Hp} {b : Addr} (c : ¬ C b) : frzH C h H b = H b := if_neg c
theorem thw_in {C : Addr → Prop} {H : Hp} {b : Addr} (c : C b) : thw C H b = none := if_pos c
theorem thw_out {C : Addr → Prop} {H : Hp} {b : Addr} (c : ¬ C b) : thw C H b = H b := if_neg c
theorem rfz_in {C : Addr → Prop} {H H2 : Hp} {b : Addr} (c : C b) : rfz C H H2 b = H b := if_pos c
theorem rfz_out {C : Addr → Prop} {H H2 : Hp} {b : Addr} (c : ¬ C b) : rfz C H H2 b = H2 b := if_neg c
end
/-- C's addresses are not tracked and stand in h -/
def Loose (C : Addr → Prop) (h : Heap) (H : Hp) : Prop := ∀ b, C b → H b = none ∧ ∃ o, h.get? b = some o
/-- C's addresses are locked, by the object alone -/
def Lkd (C : Addr → Prop) (H : Hp) : Prop := ∀ b, C b → ∃ o φ, H b = some (.frz o (.ext φ))
section
variable {P : Program} {w : World} {C : Addr → Prop} {h h2 : Heap} {H H2 : Hp} {fs : List Addr}
theorem Loose.lkd (l : Loose C h H) : Lkd C (frzH C h H) := fun b c => let ⟨_, o, e⟩ := l b c; ⟨o, _, frz_in c e⟩
theorem Loose.not {b : Addr} {o : HO} (l : Loose C h H) (e : H b = some o) : ¬ C b := fun c => by
  rw [(l b c).1] at e
  cases e
theorem Loose.frz {b : Addr} {o : HO} (l : Loose C h H) (e : H b = some o) : frzH C h H b = some o := (frz_out (l.not e)).trans e
theorem Lkd.not {b : Addr} {o : HO} (l : Lkd C H) (e : H b = some o) (n : ∀ ob φ, o ≠ .frz ob (.ext φ)) : ¬ C b := fun c => by
  obtain ⟨ob, φ, z⟩ := l b c
  rw [z] at e
  exact n ob φ (Option.some.inj e).symm
theorem hok_frz (l : Loose C h H) (k : HOk P w H h) : HOk P w (frzH C h H) h := fun b u e => by
  by_cases c : C b
  · obtain ⟨_, o, e2⟩ := l b c
    rw [frz_in c e2] at e
    cases e
    exact ⟨e2, e2, ⟨o, e2⟩, fun h1 h2 z st => st o z⟩
  · rw [frz_out c] at e
    exact (k b u e).stay (fun _ _ _ q => q) (fun d q => l.frz q) fun d xs q => l.frz q
theorem hok_thw (k : HOk P w H h) (l : Lkd C H) : HOk P w (thw C H) h := fun b u e => by
  by_cases c : C b
  · rw [thw_in c] at e
    cases e
  · rw [thw_out c] at e
    exact (k b u e).stay (fun _ _ _ q => q) (fun d q => by rw [thw_out (l.not q (fun _ _ z => nomatch z))]; exact q) fun d xs q => by rw [thw_out (l.not q (fun _ _ z => nomatch z))]; exact q
/-- behind a callee that ran while C was locked -/
theorem un_thw (l : Loose C h H) (u : Un fs [] (frzH C h H) H2 h h2) (k : HOk P w H2 h2) : Un fs [] H (thw C H2) h h2 ∧ HOk P w (thw C H2) h2 := by
  have stay : ∀ b, C b → ∀ o, h.get? b = some o → H2 b = some (.frz o (.ext fun g => g.get? b = some o)) ∧ h2.get? b = some o := fun b c o e => by
    have z := u.frzs b o _ (frz_in c e)
    exact ⟨z, (k b _ z).1⟩
  have l2 : Lkd C H2 := fun b c => let ⟨_, o, e⟩ := l b c; ⟨o, _, (stay b c o e).1⟩
  refine ⟨⟨fun b o e n hf hx => ?_, fun b o e n hf hx => ?_, fun b o e n hx => ?_, fun b o e hx => u.there b o e hx, fun b xs e => ?_, fun b o v e => ?_, fun b ps e => ?_⟩, hok_thw k l2⟩
  · by_cases c : C b
    · exact (stay b c o e).2
    · exact u.keep b o e ((frz_out c).trans n) hf hx
  · by_cases c : C b
    · exact ⟨o.slots, (stay b c o e).2⟩
    · exact u.slot b o e ((frz_out c).trans n) hf hx
  · by_cases c : C b
    · exact thw_in c
    · exact (thw_out c).trans (u.free b o e ((frz_out c).trans n) hx)
  · exact (thw_out (l.not e)).trans (u.tups b xs (l.frz e))
  · exact (thw_out (l.not e)).trans (u.frzs b o v (l.frz e))
  · obtain ⟨m, z⟩ := u.tbls b ps (l.frz e)
    exact ⟨m, (thw_out (l.not e)).trans z⟩
theorem ub_thw {B : Heap} (l : Loose C h H) (u : UB fs (frzH C h H) H2 h B h2) (k : HOk P w H2 B) (hf : ∀ b ∈ fs, frzH C h H b = none) : UB fs H (thw C H2) h B h2 ∧ HOk P w (thw C H2) B := by
  have stay : ∀ b, C b → ∀ o, h.get? b = some o → H2 b = some (.frz o (.ext fun g => g.get? b = some o)) ∧ B.get? b = some o := fun b c o e => by
    have z := u.frzs b o _ (frz_in c e)
    exact ⟨z, (k b _ z).1⟩
  have l2 : Lkd C H2 := fun b c => let ⟨_, o, e⟩ := l b c; ⟨o, _, (stay b c o e).1⟩
  refine ⟨⟨fun b o e n hf => ?_, fun b o e hf => u.slot b o e hf, fun b o e n => ?_, fun b o e hx => u.there b o e hx, fun b xs e => ?_, fun b o v e => ?_, fun b ps e => ?_⟩, hok_thw k l2⟩
  · by_cases c : C b
    · exact (stay b c o e).2
    · exact u.keep b o e ((frz_out c).trans n) hf
  · by_cases c : C b
    · exact thw_in c
    · exact (thw_out c).trans (u.free b o e ((frz_out c).trans n))
  · exact (thw_out (l.not e)).trans (u.tups b xs (l.frz e))
  · exact (thw_out (l.not e)).trans (u.frzs b o v (l.frz e))
  · obtain ⟨m, z⟩ := u.tbls b ps (l.frz e)
    exact ⟨m, (thw_out (l.not e)).trans z⟩
/-- behind a closure's body, which ran with C loose -/
theorem un_rfz (l : Lkd C H) (k : HOk P w H h) (hf : ∀ b ∈ fs, H b = none) (u : Un fs [] (thw C H) H2 h h2) (k2 : HOk P w H2 h2) : (∀ b, C b → H2 b = none) ∧ Un fs [] H (rfz C H H2) h h2 ∧ HOk P w (rfz C H H2) h2 := by
  have there : ∀ b, C b → ∃ o φ, H b = some (.frz o (.ext φ)) ∧ h.get? b = some o ∧ h2.get? b = some o ∧ H2 b = none ∧ φ h ∧ ∀ h1 h2 : Heap, φ h1 → (∀ o, h1.get? b = some o → h2.get? b = some o) → φ h2 := fun b c => by
    obtain ⟨o, φ, e⟩ := l b c
    obtain ⟨e1, p1, _, st⟩ := k b _ e
    have nf : b ∉ fs := fun z => by
      rw [hf b z] at e
      cases e
    exact ⟨o, φ, e, e1, u.keep b o e1 (thw_in c) nf (by simp), u.free b o e1 (thw_in c) (by simp), p1, st⟩
  have nC : ∀ {b : Addr} {o : HO}, H2 b = some o → ¬ C b := fun {b o} e c => by
    obtain ⟨_, _, _, _, _, z, _⟩ := there b c
    rw [z] at e
    cases e
  refine ⟨fun b c => (there b c).choose_spec.choose_spec.2.2.2.1, ⟨fun b o e n hf hx => ?_, fun b o e n hf hx => ?_, fun b o e n hx => ?_, fun b o e hx => u.there b o e hx, fun b xs e => ?_, fun b o v e => ?_, fun b ps e => ?_⟩, fun b o e => ?_⟩
  · have c : ¬ C b := fun c => by
      obtain ⟨_, _, z, _⟩ := there b c
      rw [n] at z
      cases z
    exact u.keep b o e ((thw_out c).trans n) hf hx
  · have c : ¬ C b := fun c => by
      obtain ⟨_, _, z, _⟩ := there b c
      rw [n] at z
      cases z
    exact u.slot b o e ((thw_out c).trans n) hf hx
  · have c : ¬ C b := fun c => by
      obtain ⟨_, _, z, _⟩ := there b c
      rw [n] at z
      cases z
    exact (rfz_out c).trans (u.free b o e ((thw_out c).trans n) hx)
  · have c := l.not e (fun _ _ z => nomatch z)
    exact (rfz_out c).trans (u.tups b xs ((thw_out c).trans e))
  · by_cases c : C b
    · exact (rfz_in c).trans e
    · exact (rfz_out c).trans (u.frzs b o v ((thw_out c).trans e))
  · have c := l.not e (fun _ _ z => nomatch z)
    obtain ⟨m, z⟩ := u.tbls b ps ((thw_out c).trans e)
    exact ⟨m, (rfz_out c).trans z⟩
  · by_cases c : C b
    · obtain ⟨o1, φ, e1, e2, e3, _, p1, st⟩ := there b c
      rw [rfz_in c, e1] at e
      cases e
      exact ⟨e3, st _ _ p1 fun o q => by rw [e2] at q; cases q; exact e3, ⟨_, e3⟩, st⟩
    · rw [rfz_out c] at e
      exact (k2 b o e).stay (fun _ _ _ q => q) (fun d q => (rfz_out (nC q)).trans q) fun d xs q => (rfz_out (nC q)).trans q
theorem ub_rfz {B : Heap} (l : Lkd C H) (k : HOk P w H h) (hf : ∀ b ∈ fs, H b = none) (u : UB fs (thw C H) H2 h B h2) (k2 : HOk P w H2 B) : (∀ b, C b → H2 b = none) ∧ UB fs H (rfz C H H2) h B h2 ∧ HOk P w (rfz C H H2) B := by
  have there : ∀ b, C b → ∃ o φ, H b = some (.frz o (.ext φ)) ∧ h.get? b = some o ∧ B.get? b = some o ∧ H2 b = none ∧ φ h ∧ ∀ h1 h2 : Heap, φ h1 → (∀ o, h1.get? b = some o → h2.get? b = some o) → φ h2 := fun b c => by
    obtain ⟨o, φ, e⟩ := l b c
    obtain ⟨e1, p1, _, st⟩ := k b _ e
    have nf : b ∉ fs := fun z => by
      rw [hf b z] at e
      cases e
    exact ⟨o, φ, e, e1, u.keep b o e1 (thw_in c) nf, u.free b o e1 (thw_in c), p1, st⟩
  have nC : ∀ {b : Addr} {o : HO}, H2 b = some o → ¬ C b := fun {b o} e c => by
    obtain ⟨_, _, _, _, _, z, _⟩ := there b c
    rw [z] at e
    cases e
  refine ⟨fun b c => (there b c).choose_spec.choose_spec.2.2.2.1, ⟨fun b o e n hf => ?_, fun b o e hf => u.slot b o e hf, fun b o e n => ?_, fun b o e hx => u.there b o e hx, fun b xs e => ?_, fun b o v e => ?_, fun b ps e => ?_⟩, fun b o e => ?_⟩
  · have c : ¬ C b := fun c => by
      obtain ⟨_, _, z, _⟩ := there b c
      rw [n] at z
      cases z
    exact u.keep b o e ((thw_out c).trans n) hf
  · have c : ¬ C b := fun c => by
      obtain ⟨_, _, z, _⟩ := there b c
      rw [n] at z
      cases z
    exact (rfz_out c).trans (u.free b o e ((thw_out c).trans n))
  · have c := l.not e (fun _ _ z => nomatch z)
    exact (rfz_out c).trans (u.tups b xs ((thw_out c).trans e))
  · by_cases c : C b
    · exact (rfz_in c).trans e
    · exact (rfz_out c).trans (u.frzs b o v ((thw_out c).trans e))
  · have c := l.not e (fun _ _ z => nomatch z)
    obtain ⟨m, z⟩ := u.tbls b ps ((thw_out c).trans e)
    exact ⟨m, (rfz_out c).trans z⟩
  · by_cases c : C b
    · obtain ⟨o1, φ, e1, e2, e3, _, p1, st⟩ := there b c
      rw [rfz_in c, e1] at e
      cases e
      exact ⟨e3, st _ _ p1 fun o q => by rw [e2] at q; cases q; exact e3, ⟨_, e3⟩, st⟩
    · rw [rfz_out c] at e
      exact (k2 b o e).stay (fun _ _ _ q => q) (fun d q => (rfz_out (nC q)).trans q) fun d xs q => (rfz_out (nC q)).trans q
end

/-! ### a closure as a function value -/
structure CF where
  name : Str
  qual : Str
  params : Arguments
  body : FuncBody
  scope : Scope
  cl : List (Str × Addr)
  c : Addr
abbrev CF.fd (F : CF) (doc pm ctv : Value) : FuncData := { name := F.name, qualname := F.qual, params := F.params, body := F.body, scope := F.scope, globals := mainGlobals, closure := F.cl, defaults := .none, kwdefaults := .none, doc := doc, pyModule := pm, annotations := none, code := .ref F.c, closureTuple := ctv, builtins := builtinsNs }
def CFO (f : Addr) (F : CF) : HO := .ext fun h => ∃ (od : Option Addr) (sl : Array (Option Value)) (doc pm ctv : Value), h.get? f = some (⟨.type "function", od, .func (F.fd doc pm ctv), sl⟩ : Obj)
theorem cfo_ne {f : Addr} {F : CF} (ps : Array Value) : CFO f F ≠ .tbl ps := fun z => by
  unfold CFO at z
  cases z
theorem cfo_frz {f : Addr} {F : CF} {o : Obj} {u : HO} : CFO f F ≠ .frz o u := fun z => by
  unfold CFO at z
  cases z
theorem code_frz {c : Addr} {q : Str} {o : Obj} {u : HO} : CodeO c q ≠ .frz o u := fun z => by
  unfold CodeO at z
  cases z
theorem cfo_at {P : Program} {w : World} {H : Hp} {h : Heap} {f : Addr} {F : CF} (hok : HOk P w H h) (e : H f = some (CFO f F)) : ∃ (od : Option Addr) (sl : Array (Option Value)) (doc pm ctv : Value), h.get? f = some (⟨.type "function", od, .func (F.fd doc pm ctv), sl⟩ : Obj) := by
  obtain ⟨z, _, _⟩ := hok f _ e
  exact z
theorem cfo_of {f : Addr} {name qual : Str} {params : Arguments} {body : List Stmt} {scope : Scope} {cl : List (Str × Addr)} {c : Addr} : FnO f ⟨name, qual, params, body, scope, cl, c⟩ = CFO f ⟨name, qual, params, .stmts body, scope, cl, c⟩ := rfl
theorem Gr.cfo {T : List NTab} {B : List Addr} {H H1 : Hp} {f : Addr} {F : CF} (g : Gr T B H H1) (h : H f = some (CFO f F)) : H1 f = some (CFO f F) := g.exx h
theorem Gr.code {T : List NTab} {B : List Addr} {H H1 : Hp} {c : Addr} {q : Str} (g : Gr T B H H1) (h : H c = some (CodeO c q)) : H1 c = some (CodeO c q) := g.exx h
/-- the cells of cl, by the names fr, are locked and hold ws -/
structure CapH (cl : List (Str × Addr)) (fr : List Str) (ws : List V) (H : Hp) : Prop where
  len : ws.length = fr.length
  inj : ∀ x y c, cl.lookup x = some c → cl.lookup y = some c → x = y
  all : ∀ y c, cl.lookup y = some c → ∃ o φ v, H c = some (.frz o (.ext φ)) ∧ o.data = .cell v
  has : ∀ (i : Nat) (y : Str) (v : V), fr[i]? = some y → ws[i]? = some v → ∃ c o φ u, cl.lookup y = some c ∧ H c = some (.frz o (.ext φ)) ∧ o.data = .cell (some u) ∧ RelV v u
theorem CapH.gr {T : List NTab} {B : List Addr} {cl : List (Str × Addr)} {fr : List Str} {ws : List V} {H H1 : Hp} (g : Gr T B H H1) (c : CapH cl fr ws H) : CapH cl fr ws H1 :=
  ⟨c.len, c.inj, fun y a e => let ⟨o, φ, v, h1, h2⟩ := c.all y a e; ⟨o, φ, v, g.frz h1, h2⟩, fun i y v e1 e2 => let ⟨a, o, φ, u, h0, h1, h2, h3⟩ := c.has i y v e1 e2; ⟨a, o, φ, u, h0, g.frz h1, h2, h3⟩⟩
def ClC (cl : List (Str × Addr)) : Addr → Prop := fun b => ∃ y, cl.lookup y = some b
theorem CapH.lkd {cl : List (Str × Addr)} {fr : List Str} {ws : List V} {H : Hp} (c : CapH cl fr ws H) : Lkd (ClC cl) H := fun b ⟨y, e⟩ => let ⟨o, φ, _, h1, _⟩ := c.all y b e; ⟨o, φ, h1⟩
/-- what must be so of H that the closure F at f may be called -/
structure CfH (f : Addr) (F : CF) (fr : List Str) (ws : List V) (H : Hp) : Prop where
  fn : H f = some (CFO f F)
  code : H F.c = some (CodeO F.c F.qual)
  cap : CapH F.cl fr ws H
theorem CfH.gr {T : List NTab} {B : List Addr} {f : Addr} {F : CF} {fr : List Str} {ws : List V} {H H1 : Hp} (c : CfH f F fr ws H) (g : Gr T B H H1) : CfH f F fr ws H1 :=
  ⟨g.cfo c.fn, g.code c.code, c.cap.gr g⟩
abbrev envC (F : CF) (f L : Addr) : Env := PySem.W.envX F.qual F.scope L f (.ref F.c) F.cl
/-- the words of F with a body of statements (NdefX's), for its contexts -/
abbrev CF.nf (F : CF) : NF := ⟨F.name, F.qual, F.params, [], F.scope, F.cl, F.c⟩
/-- where its body runs -/
abbrev ccx (CX : CXT) (P : Program) (w : World) (K : PySem.W.Frag) (mg : Str → Option Value) (base : Heap) (N : List Str) (F : CF) (f : Addr) (A : Around) (outer : List Env) (s : Shared) (H : Hp) (E : XK) : Cx := ncx CX P w K mg base N F.nf f A outer s H E
section
variable {P : Program} {w : World} {K : PySem.W.Frag} {mg : Str → Option Value} {base : Heap} {k : Nat} {f : Addr} {F : CF} {N ps fr : List Str} {ws : List V} {sp : Sp}
theorem env0_thw {A : Around} {outer : List Env} {s : Shared} {H : Hp} {C : Addr → Prop} (e : Env0 P w K mg base A outer s H) (l : Lkd C H) : Env0 P w K mg base A outer s (thw C H) :=
  ⟨e.frames, e.mod, fun b o q => ⟨(e.bs b o q).1, by by_cases c : C b; exact thw_in c; exact (thw_out c).trans (e.bs b o q).2⟩, e.bsz, e.funs, fun b hb => by by_cases c : C b; exact thw_in c; exact (thw_out c).trans (e.frf b hb), hok_thw e.hok l, e.bare⟩
theorem cells_thw {A : Around} {outer : List Env} {s : Shared} {H : Hp} (e : Env0 P w K mg base A outer s H) (c : CapH F.cl fr ws H) : CellsAt F.cl fr (ws.map some) s.heap (thw (ClC F.cl) H) := by
  refine ⟨by rw [List.length_map]; exact c.len, fun y a q => ⟨thw_in ⟨y, q⟩, ?_⟩, c.inj, fun i y q => ?_⟩
  · obtain ⟨o, φ, v, h1, h2⟩ := c.all y a q
    exact ⟨v, o, (e.hok a _ h1).1, h2⟩
  · have hi : i < ws.length := by
      rw [c.len]
      exact (List.getElem?_eq_some_iff.mp q).1
    obtain ⟨a, o, φ, u, h0, h1, h2, h3⟩ := c.has i y ws[i] q (List.getElem?_eq_getElem hi)
    refine ⟨a, h0, fun v ev => ?_⟩
    rw [List.getElem?_map, List.getElem?_eq_getElem hi] at ev
    cases ev
    exact ⟨u, h3, o, (e.hok a _ h1).1, h2⟩
/-- what a call of the closure wants, said of the heap with its cells loose -/
def SpIn (cl : List (Str × Addr)) (H : Hp) (sp : Sp) (vs : List V) (Q : VK) (E : XK) : Prop :=
  sp vs (thw (ClC cl) H) (fun v H2 => (∀ b, ClC cl b → H2 b = none) → Q v (rfz (ClC cl) H H2)) (fun cls d H2 => (∀ b, ClC cl b → H2 b = none) → E cls d (rfz (ClC cl) H H2))
/-- THE RULE: a def's body -/
theorem fv_stmts {body : List Stmt} {spb : Sp} (hF : F.body = .stmts body) (S : NScope N ps fr F.scope) (hb : ∀ (doc pm ctv : Value) (us : List Value), us.length = ps.length → bindArgs (F.fd doc pm ctv) ⟨us, []⟩ = pure (ps.zip us)) (len : ∀ vs H Q E, sp vs H Q E → vs.length = ps.length)
    (link : ∀ vs H Q E, CfH f F fr ws H → sp vs H Q E → SpIn F.cl H spb vs Q E)
    (hbody : ∀ (A : Around) (outer : List Env) (s : Shared) (H : Hp) (vs : List V) (Q : VK) (E : XK), Room k (A.deeper (envC F f s.heap.objs.size)) → vs.length = ps.length → spb vs H Q E →
      ∃ t, PSs (ccx (L2.CX P w) P w K mg base N F f A outer s H E) body t ∧ t { nx := fun _ H' => Q .non H', rt := Q } (startF N vs (ws.map some)) H) :
    Fv P w K mg base (L2.CX P w) (k + 1) (CfH f F fr ws) f ps.length sp := by
  refine ⟨len, fun h H hok KX c => ?_, fun A outer s H us vs Q E hr e0 c r hsp => ?_⟩
  · obtain ⟨od, sl, doc, pm, ctv, ho⟩ := cfo_at hok c.fn
    exact ⟨_, od, _, sl, ho⟩
  have hlz := len _ _ _ _ hsp
  have limz : s.heap.NoLimit := e0.mod.nolimit.keeps fun b o e => (e0.bs b o e).1
  obtain ⟨od, sl, doc, pm, ctv, ho⟩ := cfo_at e0.hok c.fn
  have lk := c.cap.lkd
  have e1 := env0_thw e0 lk
  refine codeAny_call_function (body := body) hr.depth ho rfl S.co S.gen hF (codeO_at e0.hok c.code) ?_
  rw [hb doc pm ctv us (by rw [← r.length]; exact hlz)]
  refine wpAny_pure (wpAny_newFunctionEnv S.nocell (fun ⟨n, _⟩ hy => S.par n (List.of_mem_zip hy).1) (fun h₁ hns hsb => ⟨limz.fresh _ hsb, ?_⟩) S.kind)
  show codeAny _ _ (.func body (envC F f s.heap.objs.size)) _ _
  refine codeAny_func ?_
  have kpz : ∀ b o, s.heap.get? b = some o → h₁.get? b = some o := fun b o e => hsb.extBut b o (Nat.ne_of_lt (Heap.lt_size e)) (Heap.get?_push_of_some _ e)
  obtain ⟨t, ht, hq⟩ := hbody A outer s (thw (ClC F.cl) H) vs _ _ (hr.deeper _) hlz (link _ _ _ _ c hsp)
  have I := inv_startN (F := F.nf) (f := f) (CX := L2.CX P w) (N := N) (tk := s.toks + (ps.zip us).length) (E := fun cls d H2 => (∀ b, ClC F.cl b → H2 b = none) → E cls d (rfz (ClC F.cl) H H2)) S hr.hd e1 hlz r (cells_thw e0 c.cap) hns kpz
  refine wpAny_mono (ht.run [] _ _ _ _ I hq) (fun fl s' hs => ?_) fun e s' hs => ?_
  · have finz : ∀ {σz' : L2.St} {H' : Hp} {v : V} {u : Value}, Inv (ccx (L2.CX P w) P w K mg base N F f A outer s (thw (ClC F.cl) H) (fun cls d H2 => (∀ b, ClC F.cl b → H2 b = none) → E cls d (rfz (ClC F.cl) H H2))) [] σz' H' s' → L2.RelV v u →
        ((∀ b, ClC F.cl b → H' b = none) → Q v (rfz (ClC F.cl) H H')) → CE outer P w H s Q u s' := fun {σz' H' v u} J rv q => by
      obtain ⟨z1, z2, z3⟩ := un_rfz lk e0.hok e0.frf J.base J.hok
      exact ⟨v, _, J.os, J.bare, z2, z3, rv, q z1⟩
    cases fl with
    | ret u =>
      obtain ⟨v, σz', H', J, rv, q⟩ := hs
      exact finz J rv q
    | next =>
      obtain ⟨σz', H', J, q⟩ := hs
      exact finz (v := V.non) (u := Value.none) J rfl q
    | brk =>
      obtain ⟨_, _, _, q⟩ := hs
      exact False.elim q
    | cont =>
      obtain ⟨_, _, _, q⟩ := hs
      exact False.elim q
  · have up : ∀ (e' : Value) (s'' : Shared), L2.CX P w outer (thw (ClC F.cl) H) s (fun cls d H2 => (∀ b, ClC F.cl b → H2 b = none) → E cls d (rfz (ClC F.cl) H H2)) e' s'' → L2.CX P w outer H s E e' s'' := fun e' s'' z => by
      obtain ⟨a, B, H', cls, d, rfl, fl, hok, ub, na, os, ag, hE⟩ := z
      obtain ⟨z1, z2, z3⟩ := ub_rfz lk e0.hok e0.frf ub hok
      by_cases ca : ClC F.cl a
      · obtain ⟨o, φ, v, h1, h2⟩ := c.cap.all _ _ ca.choose_spec
        obtain ⟨k1, k2, k3, oe, vs, TT, oT, ts', he, hzz, hd, hh1, hr⟩ := id fl
        have z4 := (z3 a _ ((rfz_in ca).trans h1)).1
        rw [k1 _ _ z4] at he
        cases he
        rw [h2] at hd
        cases hd
      · exact ⟨a, B, _, cls, d, rfl, fl, z3, z2, (rfz_out ca).trans na, os, ag, hE z1⟩
    exact wpAny_mono hs (fun _ s'' z => up _ _ z) fun _ s'' z => up _ _ z
/-- .. a lambda's body -/
theorem fv_expr {body : Expr} {spb : Sp} (hF : F.body = .expr body) (S : NScope N ps fr F.scope) (hb : ∀ (doc pm ctv : Value) (us : List Value), us.length = ps.length → bindArgs (F.fd doc pm ctv) ⟨us, []⟩ = pure (ps.zip us)) (len : ∀ vs H Q E, sp vs H Q E → vs.length = ps.length)
    (link : ∀ vs H Q E, CfH f F fr ws H → sp vs H Q E → SpIn F.cl H spb vs Q E)
    (hbody : ∀ (A : Around) (outer : List Env) (s : Shared) (H : Hp) (vs : List V) (Q : VK) (E : XK), Room k (A.deeper (envC F f s.heap.objs.size)) → vs.length = ps.length → spb vs H Q E →
      ∃ t, PE (ccx (L2.CX P w) P w K mg base N F f A outer s H E) body t ∧ t (startF N vs (ws.map some)) H Q) :
    Fv P w K mg base (L2.CX P w) (k + 1) (CfH f F fr ws) f ps.length sp := by
  refine ⟨len, fun h H hok KX c => ?_, fun A outer s H us vs Q E hr e0 c r hsp => ?_⟩
  · obtain ⟨od, sl, doc, pm, ctv, ho⟩ := cfo_at hok c.fn
    exact ⟨_, od, _, sl, ho⟩
  have hlz := len _ _ _ _ hsp
  have limz : s.heap.NoLimit := e0.mod.nolimit.keeps fun b o e => (e0.bs b o e).1
  obtain ⟨od, sl, doc, pm, ctv, ho⟩ := cfo_at e0.hok c.fn
  have lk := c.cap.lkd
  have e1 := env0_thw e0 lk
  refine PySem.W.kla_callFunE (body := body) hr.depth ho rfl S.co S.gen hF (codeO_at e0.hok c.code) ?_
  rw [hb doc pm ctv us (by rw [← r.length]; exact hlz)]
  refine wpAny_pure (wpAny_newFunctionEnv S.nocell (fun ⟨n, _⟩ hy => S.par n (List.of_mem_zip hy).1) (fun h₁ hns hsb => ⟨limz.fresh _ hsb, ?_⟩) S.kind)
  show codeAny _ _ (.expr body (envC F f s.heap.objs.size)) _ _
  have kpz : ∀ b o, s.heap.get? b = some o → h₁.get? b = some o := fun b o e => hsb.extBut b o (Nat.ne_of_lt (Heap.lt_size e)) (Heap.get?_push_of_some _ e)
  obtain ⟨t, ht, hq⟩ := hbody A outer s (thw (ClC F.cl) H) vs _ _ (hr.deeper _) hlz (link _ _ _ _ c hsp)
  have I := inv_startN (F := F.nf) (f := f) (CX := L2.CX P w) (N := N) (tk := s.toks + (ps.zip us).length) (E := fun cls d H2 => (∀ b, ClC F.cl b → H2 b = none) → E cls d (rfz (ClC F.cl) H H2)) S hr.hd e1 hlz r (cells_thw e0 c.cap) hns kpz
  refine PySem.W.kla_codeExpr (wpAny_mono (ht.run [] _ _ _ _ I hq) (fun u s' hs => ?_) fun e s' hs => ?_)
  · obtain ⟨v, H', J, rv, q⟩ := hs
    obtain ⟨z1, z2, z3⟩ := un_rfz lk e0.hok e0.frf J.base J.hok
    exact ⟨v, _, J.os, J.bare, z2, z3, rv, q z1⟩
  · have up : ∀ (e' : Value) (s'' : Shared), L2.CX P w outer (thw (ClC F.cl) H) s (fun cls d H2 => (∀ b, ClC F.cl b → H2 b = none) → E cls d (rfz (ClC F.cl) H H2)) e' s'' → L2.CX P w outer H s E e' s'' := fun e' s'' z => by
      obtain ⟨a, B, H', cls, d, rfl, fl, hok, ub, na, os, ag, hE⟩ := z
      obtain ⟨z1, z2, z3⟩ := ub_rfz lk e0.hok e0.frf ub hok
      by_cases ca : ClC F.cl a
      · obtain ⟨o, φ, v, h1, h2⟩ := c.cap.all _ _ ca.choose_spec
        obtain ⟨k1, k2, k3, oe, vs, TT, oT, ts', he, hzz, hd, hh1, hr⟩ := id fl
        have z4 := (z3 a _ ((rfz_in ca).trans h1)).1
        rw [k1 _ _ z4] at he
        cases he
        rw [h2] at hd
        cases hd
      · exact ⟨a, B, _, cls, d, rfl, fl, z3, z2, (rfz_out ca).trans na, os, ag, hE z1⟩
    exact wpAny_mono hs (fun _ s'' z => up _ _ z) fun _ s'' z => up _ _ z
end
end Rw
set_option maxHeartbeats 4000000
/-! Lambdas made, tracked; calls of a def while the caller's cells are locked. -/
namespace Rw
open PySem PySem.Spec PyProof.Rows L2 LamX NdefX
section
variable {X : Cx} {pins : List (Addr × Obj)} {σ : L2.St} {H : Hp} {s : Shared}
theorem inv_cfo {F : CF} {o : Obj} {t' : Nat} {doc pm ctv : Value} (I : Inv X pins σ H s) (ho : o = { cls := .type "function", data := .func (F.fd doc pm ctv) }) :
    Inv X pins σ (upd H s.heap.objs.size (CFO s.heap.objs.size F)) { s with heap := s.heap.push o, toks := t' } := by
  subst ho
  refine I.laid (a := s.heap.objs.size) (fun b u e => Heap.get?_push_of_some _ e) (Nat.le_refl _) ?_
  have e : (s.heap.push ({ cls := .type "function", data := .func (F.fd doc pm ctv) } : Obj)).get? s.heap.objs.size = some ({ cls := .type "function", data := .func (F.fd doc pm ctv) } : Obj) := Heap.get?_push_size _ rfl
  exact ⟨⟨_, _, doc, pm, ctv, e⟩, ⟨_, e⟩, fun h1z h2 ⟨od, sl, d, p, t, z⟩ st => ⟨od, sl, d, p, t, st _ z⟩⟩
theorem lam_makeN {T : List NTab} {nm : Nat → Nat → Str} {c P : Addr} {params : Arguments} {body : Expr} {scope : Scope} {pos : Pos} {E : Value → Shared → Prop} {Q : Value → Shared → Prop} (I : Inv X pins σ H s) (TB : TabB X.base X.mg c P) (hcode : X.env.code = .ref c)
    (hm : (P, nm) ∈ T) (hn : nm pos.line pos.col = X.env.qual ++ "<lambda>") (hu : ∀ p ∈ T, p.1 = P → p.2 = nm) (hT : TabsN T H) (hfree : ∀ y ∈ scope.names, y.2 = .free → ∃ c, X.env.cells.lookup y.1 = some c)
    (h : ∀ (f c' : Addr) (H1 : Hp) (s' : Shared), Inv X pins σ H1 s' → ExtN H H1 → (∀ b, H1 b = Option.none → H b = Option.none) → TabsN T H1 → H f = none → H1 f = some (CFO f ⟨"<lambda>", X.env.qual ++ "<lambda>", params, .expr body, scope, cloFrom X.env.cells scope.names [], c'⟩) → H1 c' = some (CodeO c' (X.env.qual ++ "<lambda>")) → Q (.ref f) s') :
    wpAny (model X.prog X.w) X.A (makeFunction "<lambda>" (X.env.qual ++ "<lambda>") params (.expr body) scope X.env [] [] [] pos pos.line) Q E s := by
  obtain ⟨ps, hPz, htz, ha⟩ := (show TabN H P nm from hT _ hm)
  have bPz : s.heap.BuiltinsAt X.mg P := TB.bm.keeps I.bk
  have hP' : s.heap.get? P = some { cls := .none, data := .fields ps } := I.hok P _ hPz
  cases hc : codeAmong pos ps.toList with
  | none =>
    refine PySem.W.kla_makeFunction (mg := X.mg) (c := c) (P := P) (ps := ps) (closure_ok hfree) I.ok.glob (I.mod.glob.keeps I.bk) hcode (TB.code.keeps I.bk) hP' htz hc TB.gP bPz fun c' ctv h' tk hx hge hltz hrec htb => ?_
    obtain ⟨c2, ocz, vs, t, e2, hoc, hd, hv⟩ := hrec
    cases e2
    have nCz : H c' = none := I.hok.fresh hge
    have I1z := inv_table (t' := tk) (more := #[rawInt pos.line, rawInt pos.col, .ref c']) (h' := h') I hPz (fun b o hb e => hx b o hb e) htb hge ⟨ocz, vs, t, hoc, hd, hv⟩
    have hEz : ExtN H (upd (upd H P (.tbl (ps ++ #[rawInt pos.line, rawInt pos.col, .ref c']))) c' (CodeO c' (X.env.qual ++ "<lambda>"))) := fun b o e n => by
      rw [upd_ne (ne_of_none e nCz), upd_ne (fun z => n ps (Option.some.inj (e.symm.trans (by rw [z]; exact hPz))))]
      exact e
    have eLz : (ps ++ #[rawInt pos.line, rawInt pos.col, .ref c']).toList = ps.toList ++ [rawInt pos.line, rawInt pos.col, .ref c'] := by simp
    have T1 : TabsN T (upd (upd H P (.tbl (ps ++ #[rawInt pos.line, rawInt pos.col, .ref c']))) c' (CodeO c' (X.env.qual ++ "<lambda>"))) := fun p hp => by
      by_cases hb : p.1 = P
      · rw [hu p hp hb, hb]
        refine ⟨_, by rw [upd_ne (ne_of_none hPz nCz), upd_same], by rw [eLz]; exact PySem.TriplesOk_snoc _ _ _ _ htz, fun p' cv hcv => ?_⟩
        rw [eLz] at hcv
        rcases among_app2 _ htz hcv with z | ⟨z, z1, z2⟩
        · obtain ⟨c0z, e1, e2⟩ := ha p' cv z
          exact ⟨c0z, e1, hEz _ _ e2 codeO_ne⟩
        · refine ⟨c', z, ?_⟩
          rw [← z1, ← z2, hn]
          exact upd_same
      · obtain ⟨psz', a1, a2, a3⟩ := hT p hp
        refine ⟨psz', by rw [upd_ne (ne_of_none a1 nCz), upd_ne hb]; exact a1, a2, fun p' cv hcv => ?_⟩
        obtain ⟨c0z, e1, e2⟩ := a3 p' cv hcv
        exact ⟨c0z, e1, hEz _ _ e2 codeO_ne⟩
    have nFz := I1z.hok.fresh (Nat.le_refl _)
    have I2z := inv_cfo (F := ⟨"<lambda>", X.env.qual ++ "<lambda>", params, .expr body, scope, cloFrom X.env.cells scope.names [], c'⟩) (t' := tk) (doc := .none) (pm := (X.mg "__name__").getD .none) (ctv := ctv) I1z rfl
    refine h h'.objs.size c' _ _ I2z (fun b o e n => ?_) (fun b e => upd_none (upd_none (upd_none e))) (T1.ext fun b o e => ?_) (I.hok.fresh (Nat.le_trans hge (Nat.le_of_lt hltz))) upd_same ?_
    · have e1 := hEz b o e n
      exact (upd_ne (ne_of_none e1 nFz)).trans e1
    · exact (upd_ne (ne_of_none e nFz)).trans e
    · exact (upd_ne (Nat.ne_of_lt hltz)).trans upd_same
  | some cv =>
    obtain ⟨c', e, hcoz⟩ := ha pos cv hc
    subst e
    rw [hn] at hcoz
    refine PySem.W.kla_makeFunctionHit (mg := X.mg) (c := c) (P := P) (ps := ps) (closure_ok hfree) I.ok.glob (I.mod.glob.keeps I.bk) hcode (TB.code.keeps I.bk) hP' htz hc bPz fun ctv h' tk hx hsz => ?_
    have I1z : Inv X pins σ H { s with heap := h', toks := tk } := I.kept hx
    have nFz : H h'.objs.size = none := I1z.hok.fresh (Nat.le_refl _)
    have I2z := inv_cfo (F := ⟨"<lambda>", X.env.qual ++ "<lambda>", params, .expr body, scope, cloFrom X.env.cells scope.names [], c'⟩) (t' := tk) (doc := .none) (pm := (X.mg "__name__").getD .none) (ctv := ctv) I1z rfl
    refine h h'.objs.size c' _ _ I2z (fun b o e n => ?_) (fun b e => upd_none e) (hT.ext fun b o e => ?_) nFz upd_same ?_
    · exact (upd_ne (ne_of_none e nFz)).trans e
    · exact (upd_ne (ne_of_none e nFz)).trans e
    · exact (upd_ne (ne_of_none hcoz nFz)).trans hcoz
end
/-- what is told of a new function value -/
def tMkF (T : List NTab) (mk : Addr → CF) : (V → Hp → Prop) → Hp → Prop := fun Q H => TabsN T H ∧ ∀ (f c' : Addr) (H1 : Hp), Gr T [] H H1 → H f = none → H1 f = some (CFO f (mk c')) → H1 c' = some (CodeO c' (mk c').qual) → Q (.ref f) H1
/-- lambda params: body -/
def tLamF (T : List NTab) (mk : Addr → CF) : TE := fun _ H Q => tMkF T mk Q H
theorem pe_lam {X : Cx} {T : List NTab} {nm : Nat → Nat → Str} {c P : Addr} {params : Arguments} {body : Expr} {scope : Scope} {pos : Pos} (TB : TabB X.base X.mg c P) (hcode : X.env.code = .ref c) (hm : (P, nm) ∈ T) (hn : nm pos.line pos.col = X.env.qual ++ "<lambda>") (hu : ∀ p ∈ T, p.1 = P → p.2 = nm)
    (hfree : ∀ y ∈ scope.names, y.2 = .free → X.env.scope.names.lookup y.1 = some .cell ∨ X.env.scope.names.lookup y.1 = some .free) (hdef : defaultsOf params X.env = ([], [])) :
    PE X (.Lambda params body scope pos) (tLamF T fun c' => ⟨"<lambda>", X.env.qual ++ "<lambda>", params, .expr body, scope, cloFrom X.env.cells scope.names [], c'⟩) := by
  refine ⟨fun pinsz s σ H Q I h => ?_⟩
  obtain ⟨hT, h⟩ := h
  have hfrz : ∀ y ∈ scope.names, y.2 = .free → ∃ c, X.env.cells.lookup y.1 = some c := fun y hy e => (hfree y hy e).elim (fun z => I.ok.has _ (.inl z)) fun z => I.ok.has _ (.inr z)
  refine PySem.W.kla_eval hdef ?_
  exact lam_makeN I TB hcode hm hn hu hT hfrz fun f c' H1 s' I1 eN nn T1 f0 f1 c1 => ⟨.ref f, H1, I1, rfl, h f c' H1 (.of_extn eN nn fun _ => T1) f0 f1 c1⟩
/-- def name(..): .. in a def's body -/
def tNdefF (T : List NTab) (i : Nat) (mk : Addr → CF) : TS := fun D σ H => tMkF T mk (fun v H1 => D.nx (σ.set i (some v)) H1) H
theorem ps_ndefF {X : Cx} {T : List NTab} {nm : Nat → Nat → Str} {c P : Addr} {name : Str} {params : Arguments} {body : List Stmt} {scope : Scope} {pos : Pos} {i : Nat} (TB : TabB X.base X.mg c P) (hcode : X.env.code = .ref c) (hm : (P, nm) ∈ T) (hn : nm pos.line pos.col = X.env.qual ++ name) (hu : ∀ p ∈ T, p.1 = P → p.2 = nm)
    (hfree : ∀ y ∈ scope.names, y.2 = .free → X.env.scope.names.lookup y.1 = some .cell ∨ X.env.scope.names.lookup y.1 = some .free) (hd0 : params.defaults = []) (hk0 : params.kw_defaults = []) (ha : annTrees params none X.env = [])
    (hN : X.N.Nodup) (hi : X.N[i]? = some name) (hx : Loc X.env.scope name) (hf : X.fn name = true ∨ X.env.scope.names.lookup name = some .local) :
    PS X (.FunctionDef name params body [] none [] scope none name pos) (tNdefF T i fun c' => ⟨name, X.env.qual ++ name, params, .stmts body, scope, cloFrom X.env.cells scope.names [], c'⟩) := by
  refine ⟨fun pinsz s σ H D I h => ?_⟩
  obtain ⟨hT, h⟩ := h
  refine (ps_ndefM TB hcode hm hn hu hfree hd0 hk0 ha hN hi hx hf).run pinsz s σ H D I ⟨hT, fun f c' H1 eN nn T1 f0 f1 c1 => ?_⟩
  exact h f c' H1 (.of_extn eN nn fun _ => T1) f0 f1 c1

/-! ### a call of the module's def while the caller's cells are locked -/
def CellOf (X : Cx) : Addr → Prop := ClC X.env.cells
/-- what is known when the cells are locked -/
structure FzOk (X : Cx) (σ : L2.St) (H : Hp) (h : Heap) : Prop where
  loose : Loose (CellOf X) h H
  has : ∀ x, X.env.kindOf x = some .cell → ∃ c, X.env.cells.lookup x = some c
  inj : ∀ x y c, X.env.cells.lookup x = some c → X.env.cells.lookup y = some c → x = y
  cell : ∀ y c, X.env.cells.lookup y = some c → ∃ v o, h.get? c = some o ∧ o.data = .cell v
  val : ∀ (i : Nat) (y : Str) (v : V) (c : Addr), X.N[i]? = some y → σ[i]? = some (some v) → X.env.kindOf y = some .cell → X.env.cells.lookup y = some c → ∃ o u, h.get? c = some o ∧ o.data = .cell (some u) ∧ RelV v u
theorem fz_ok {X : Cx} {pins : List (Addr × Obj)} {σ : L2.St} {H : Hp} {s : Shared} (I : Inv X pins σ H s) : FzOk X σ H s.heap := by
  refine ⟨fun b ⟨y, e⟩ => ⟨I.freeC y b e, ?_⟩, fun x k => I.ok.has x (.inl k), I.ok.inj, fun y c e => ?_, fun i y v c e1 e2 k e3 => ?_⟩
  · obtain ⟨v, o, ho, _⟩ := I.cell y b e
    exact ⟨o, ho⟩
  · obtain ⟨v, o, ho, hd⟩ := I.cell y c e
    exact ⟨v, o, ho, hd⟩
  · obtain ⟨m, hn, hl⟩ := I.loc
    obtain ⟨u, r, l⟩ := hl i y v e1 e2 (.inr (.inl k))
    rcases l with ⟨z, _⟩ | ⟨_, c', e4, o, ho, hd⟩
    · rw [k] at z
      cases z
    · rw [e3] at e4
      cases e4
      exact ⟨o, u, ho, hd, r⟩
theorem env0_frz {X : Cx} {pins : List (Addr × Obj)} {σ : L2.St} {H : Hp} {s : Shared} (hfn : ∀ x, X.fn x = true) (I : Inv X pins σ H s) : Env0 X.prog X.w X.K X.mg X.base X.A X.stack s (frzH (CellOf X) s.heap H) := by
  have e := I.env0
  have l := (fz_ok I).loose
  have nb : ∀ b, CellOf X b → X.s_0.heap.objs.size ≤ b := fun b ⟨y, q⟩ => I.ok.cab y b (hfn y) q
  refine ⟨e.frames, e.mod, fun b o q => ⟨(e.bs b o q).1, ?_⟩, e.bsz, e.funs, fun b hb => ?_, hok_frz l e.hok, e.bare⟩
  · have c : ¬ CellOf X b := fun c => absurd (Nat.lt_of_lt_of_le (Heap.lt_size q) (Nat.le_trans I.ok.bsz (nb b c))) (Nat.lt_irrefl _)
    exact (frz_out c).trans (e.bs b o q).2
  · have c : ¬ CellOf X b := fun c => by
      rcases List.mem_cons.mp (I.stkSub b hb) with z | z
      · obtain ⟨y, q⟩ := c
        exact I.cne y b q z
      · obtain ⟨_, o, hoz, _⟩ := I.ok.funs.mem z
        exact absurd (Nat.lt_of_lt_of_le (Heap.lt_size hoz) (nb b c)) (Nat.lt_irrefl _)
    exact (frz_out c).trans (e.frf b hb)
/-- f(..): the callee sees the caller's cells locked -/
def tCallZ (X : Cx) (sp : Sp) (E : XK) (t : TA) : TE := fun σ H Q => t σ H fun vs H1 => ∀ h : Heap, FzOk X σ H1 h → sp vs (frzH (CellOf X) h H1) (fun v H2 => Q v (thw (CellOf X) H2)) (fun cls d H2 => E cls d (thw (CellOf X) H2))
section
variable {X : Cx} {k j : Nat} {f : Addr} {fd : FuncData} {ps ks : List Str} {sp : Sp} {ds : List Value} {E : XK} {x : Str} {p pos : Pos} {e : Expr} {es : List Expr} {kws : List Keyword} {t tk : TA}
theorem cx_thw {pins : List (Addr × Obj)} {σ : L2.St} {H : Hp} {s s' : Shared} {u : Value} (hfn : ∀ x, X.fn x = true) (I : Inv X pins σ H s) (h : L2.CX X.prog X.w X.stack (frzH (CellOf X) s.heap H) s (fun cls d H2 => E cls d (thw (CellOf X) H2)) u s') : L2.CX X.prog X.w X.stack H s E u s' := by
  obtain ⟨a, B, H', cls, d, rfl, fl, hok, ub, na, os, ag, hE⟩ := h
  obtain ⟨z2, z3⟩ := ub_thw (fz_ok I).loose ub hok (env0_frz hfn I).frf
  refine ⟨a, B, _, cls, d, rfl, fl, z3, z2, ?_, os, ag, hE⟩
  by_cases c : CellOf X a
  · exact thw_in c
  · exact (thw_out c).trans na
theorem run_fz {pins : List (Addr × Obj)} {σ : L2.St} {H : Hp} {s : Shared} {Q : VK} {args : Args} {us : List Value} {vs : List V} (hfn : ∀ x, X.fn x = true) (F : FnOk X.prog X.w X.K X.mg X.base (L2.CX X.prog X.w) k f fd ps sp) (hr : Room k X.A) (hb : BindsTo s fd args (ps.zip us)) (hx : Passes (L2.CX X.prog X.w) X E)
    (I : Inv X pins σ H s) (r : Vals vs us) (h : ∀ h : Heap, FzOk X σ H h → sp vs (frzH (CellOf X) h H) (fun v H2 => Q v (thw (CellOf X) H2)) (fun cls d H2 => E cls d (thw (CellOf X) H2))) : codeAny (model X.prog X.w) X.A (.call (.ref f) args) (fun r s' => match r with
      | .ok (.ret v) => EP X pins σ Q v s'
      | .ok _ => False
      | .error e => X.xe e s') s := by
  have l := (fz_ok I).loose
  refine codeAny_mono (F.run X.A X.stack s _ args us vs _ _ hr (env0_frz hfn I) hb r (h s.heap (fz_ok I))) fun r s' hq => ?_
  cases r with
  | error e => exact hx pins σ H s e s' I (cx_thw hfn I hq)
  | ok fl =>
    cases fl with
    | ret u =>
      obtain ⟨v, H', os, bare, un, hok, rv, q⟩ := hq
      obtain ⟨z2, z3⟩ := un_thw l un hok
      exact I.after ⟨v, _, os, bare, z2, z3, rv, q⟩
    | next => exact False.elim hq
    | brk => exact False.elim hq
    | cont => exact False.elim hq
theorem pe_callZ (hfn : ∀ x, X.fn x = true) (F : FnOk X.prog X.w X.K X.mg X.base (L2.CX X.prog X.w) k f fd ps sp) (hr : Room j X.A) (hk : k ≤ j) (hg : Gl X x) (hm : X.mg x = some (.ref f)) (hkp : PySem.W.keepIn X.K (.ref f) = true) (hb : Binds X.K fd ps []) (hx : Passes (L2.CX X.prog X.w) X E)
    (ha : PA X (e :: es) t) (hdb : (x == ("__debug__" : Str)) = false := by decide) (he : starEach (e :: es) X.env = (false, eval e X.env) :: starEach es X.env := by rfl) (hpl : (backTo pos (starEach es X.env)).any (·.1) = false := by rfl) :
    PE X (.Call (.Name x p) (e :: es) [] pos) (tCallZ X sp E t) := by
  refine ⟨fun pinsz s σ H Q I h => ?_⟩
  refine wpAny_Call_Name_kw (ld_glob I hg hm ?_ hdb)
  refine PySem.W.callWith_K (h₀ := X.base) I.ok.mod.kin hkp (thn (ha.run pos pinsz s σ H _ I h) fun us s1 ⟨vs, H1, I1, r, q⟩ => ⟨I1.kIn, ?_⟩) he hpl
  show wpAny _ _ (call (.ref f) us) _ _ _
  have hl : (us ++ []).length = ps.length := by rw [List.append_nil, ← r.length]; exact F.len _ _ _ _ (q s1.heap (fz_ok I1))
  have hb1 := hb s1 us I1.kIn hl
  rw [List.append_nil] at hb1
  exact wpAny_call (run_fz hfn F (hr.mono hk) hb1 hx I1 r q)
end
/-- the closure that was made of the frame's own cells is ready while these are locked -/
theorem cap_frz {X : Cx} {σ : L2.St} {H : Hp} {h : Heap} {nsc : Scope} {fr : List Str} {js : List Nat} {ws : List V} (z : FzOk X σ H h) (hd : ndefB X.env.scope nsc fr = true) (hc : ∀ y ∈ nsc.names, y.2 = .free → X.env.scope.names.lookup y.1 = some .cell)
    (hjs : js.map (fun j => X.N[j]?) = fr.map some) (hws : js.map (fun j => σ[j]?) = ws.map fun v => some (some v)) : CapH (cloFrom X.env.cells nsc.names []) fr ws (frzH (CellOf X) h H) := by
  have hf : ∀ y ∈ nsc.names, y.2 = .free → ∃ c, X.env.cells.lookup y.1 = some c := fun y hy e => z.has _ (hc y hy e)
  have l1 : js.length = fr.length := by
    have q := congrArg List.length hjs
    rw [List.length_map, List.length_map] at q
    exact q
  have l2 : js.length = ws.length := by
    have q := congrArg List.length hws
    rw [List.length_map, List.length_map] at q
    exact q
  refine ⟨by rw [← l2, l1], fun x y c e1 e2 => z.inj x y c (clo_cm hf e1) (clo_cm hf e2), fun y c e => ?_, fun i y v e1 e2 => ?_⟩
  · have e' := clo_cm hf e
    obtain ⟨v, o, ho, hdd⟩ := z.cell y c e'
    exact ⟨o, _, v, frz_in ⟨y, e'⟩ ho, hdd⟩
  · have hy : (y, NameKind.free) ∈ nsc.names := ndef_fr hd y (List.mem_of_getElem? e1)
    have k := hc _ hy rfl
    obtain ⟨c, hcl⟩ := z.has y k
    have hi : i < js.length := by
      rw [l1]
      exact (List.getElem?_eq_some_iff.mp e1).1
    have ej : js[i]? = some js[i] := List.getElem?_eq_getElem hi
    have a1 : X.N[js[i]]? = some y := by
      have q : (js.map fun j => X.N[j]?)[i]? = (fr.map some)[i]? := by rw [hjs]
      rw [List.getElem?_map, List.getElem?_map, ej, e1] at q
      exact Option.some.inj q
    have a2 : σ[js[i]]? = some (some v) := by
      have q : (js.map fun j => σ[j]?)[i]? = (ws.map fun v => some (some v))[i]? := by rw [hws]
      rw [List.getElem?_map, List.getElem?_map, ej, e2] at q
      exact Option.some.inj q
    obtain ⟨o, u, ho, hdd, r⟩ := z.val _ y v c a1 a2 k hcl
    exact ⟨c, o, _, u, clo_has hf hy hcl, frz_in ⟨y, hcl⟩ ho, hdd, r⟩
theorem tabsN_thw {T : List NTab} {C : Addr → Prop} {H : Hp} (l : Lkd C H) (t : TabsN T H) : TabsN T (thw C H) := fun q hq => by
  obtain ⟨ps, h1, h2, h3⟩ := t q hq
  refine ⟨ps, (thw_out (l.not h1 fun _ _ z => nomatch z)).trans h1, h2, fun pos cv hc => ?_⟩
  obtain ⟨c, e1z, e2⟩ := h3 pos cv hc
  exact ⟨c, e1z, (thw_out (l.not e2 fun _ _ z => code_frz z)).trans e2⟩
theorem tabsN_frz {T : List NTab} {C : Addr → Prop} {h : Heap} {H : Hp} (l : Loose C h H) (t : TabsN T H) : TabsN T (frzH C h H) := t.ext fun b o e => l.frz e
/-- what grew while cells were locked -/
theorem Gr.thw {T : List NTab} {B : List Addr} {C : Addr → Prop} {h : Heap} {H H2 : Hp} (l : Loose C h H) (g : Gr T B (frzH C h H) H2) : Gr T B H (thw C H2) := by
  have nt : ∀ {b : Addr} {o : HO}, H b = some o → ¬ C b := fun {b o} e => l.not e
  have l2 : Lkd C H2 := fun b c => by
    obtain ⟨o, φ, e⟩ := l.lkd b c
    exact ⟨o, φ, g.frz e⟩
  refine ⟨fun b o n e t => (thw_out (nt e)).trans (g.ext b o n (l.frz e) t), fun b e => ?_, fun t => tabsN_thw l2 (g.tab (tabsN_frz l t))⟩
  by_cases c : C b
  · exact (l b c).1
  · exact (frz_out c).symm.trans (g.mono b ((thw_out c).symm.trans e))
/-- what grew in a closure's body, its cells locked again -/
theorem Gr.rfz {T : List NTab} {B : List Addr} {C : Addr → Prop} {H H2 : Hp} (l : Lkd C H) (g : Gr T B (Rw.thw C H) H2) (hn : ∀ b, C b → H2 b = none) : Gr T B H (Rw.rfz C H H2) := by
  have n2 : ∀ {b : Addr} {o : HO}, H2 b = some o → ¬ C b := fun {b o} e c => by
    rw [hn b c] at e
    cases e
  refine ⟨fun b o n e t => ?_, fun b e => ?_, fun t q hq => ?_⟩
  · by_cases c : C b
    · exact (rfz_in c).trans e
    · exact (rfz_out c).trans (g.ext b o n ((thw_out c).trans e) t)
  · by_cases c : C b
    · exact (rfz_in c).symm.trans e
    · exact (thw_out c).symm.trans (g.mono b ((rfz_out c).symm.trans e))
  · obtain ⟨ps, h1, h2, h3⟩ := g.tab (tabsN_thw l t) q hq
    refine ⟨ps, (rfz_out (n2 h1)).trans h1, h2, fun pos cv hc => ?_⟩
    obtain ⟨c, e1z, e2⟩ := h3 pos cv hc
    exact ⟨c, e1z, (rfz_out (n2 e2)).trans e2⟩
end Rw
set_option maxHeartbeats 4000000
/-! sorted(xs, key=f) and min(xs, key=f), f a function value of the frame's own making. -/
namespace Rw
open PySem PySem.Spec PyProof.Rows L2 LamX NdefX
/-! ### the end of list.sort by keys, over the bare heap -/
section
variable {prog : Program} {w : World} {A : Around} {E : Value → Shared → Prop} {s : Shared} {a kS : Addr} {vs : List Value} {kz : List Int} {keys : Array Value} {e e1 : Nat} {P : PySem.Fin → Shared → Prop}
theorem sk_tail {st : SortSt} (nk : s.heap.get? kS = some (seqObj "list" keys e)) (na : s.heap.get? a = some (seqObj "list" #[] e1)) (hka : kS ≠ a) (hk : IntsAre keys.toList kz) (hlen : kz.length = vs.length) (hZ : vs.length ≤ sizeLine)
    (hp : (arrOf st).Perm (keys.zip vs.toArray)) (hs : SortedTo (arrOf st) (arrOf st).size) (hfl : failedOf st = none) (hst : Stable intKind (arrOf st) (keys.zip vs.toArray))
    (h : ∀ h' out c, (∀ b o, b ≠ kS → b ≠ a → s.heap.get? b = some o → h'.get? b = some o) → h'.get? a = some (seqObj "list" out c) → KskOutSt false kz vs out.toList → P (.done (.ret .none)) { s with heap := h' }) :
    wpAny (model prog w) A (ksk_tail a false e1 (.ref kS) st) P E s := by
  have lz := hZ
  rw [sizeLine_eq] at lz
  have lk := hk.length
  rw [Array.length_toList] at lk
  have la : (arrOf st).size = vs.length := by rw [hp.size_eq, Array.size_zip, (List.size_toArray .. : vs.toArray.size = vs.length)]; omega
  have b1 := Heap.SameBut.update s.heap kS (Obj.mapSeq fun _ => (#[] : Array Value))
  have na1 := (b1.2 a hka.symm).trans na
  have b2 := Heap.SameBut.update (s.heap.update kS (Obj.mapSeq fun _ => (#[] : Array Value))) a (Obj.mapSeq fun _ => (arrOf st).map (·.2))
  obtain ⟨c2, hc2⟩ : ∃ c2, ((s.heap.update kS (Obj.mapSeq fun _ => (#[] : Array Value))).update a (Obj.mapSeq fun _ => (arrOf st).map (·.2))).get? a = some (seqObj "list" ((arrOf st).map (·.2)) c2) := ⟨_, get?_update_seq na1 fun _ => (arrOf st).map (·.2)⟩
  unfold ksk_tail
  try dsimp only
  refine wpAny_bind (listUpdate_at nk rfl ?_ (by rw [sizeLine_eq]; omega) (Nat.zero_le _))
  refine wpAny_bind (wpAny_letGo (wpAny_bind (seqEpoch_at na1 rfl ?_)))
  refine wpAny_bind (listUpdate_at na1 rfl ?_ (Nat.zero_le _) (Nat.le_trans (Nat.le_of_eq ((Array.size_map ..).trans la)) (by rw [sizeLine_eq]; omega)))
  rw [hfl]
  simp only [bne_self_eq_false, Bool.false_eq_true, if_false]
  exact wpAny_pure (h _ _ c2 (fun b o h1 h2 q => (b2.2 b h2).trans ((b1.2 b h1).trans q)) hc2 (ksk_outSt (b := false) hk hp hs hst))
theorem sk_end (nk : s.heap.get? kS = some (seqObj "list" keys e)) (na : s.heap.get? a = some (seqObj "list" #[] e1)) (hka : kS ≠ a) (hk : IntsAre keys.toList kz) (hlen : kz.length = vs.length) (hZ : vs.length ≤ sizeLine)
    (h : ∀ h' out c, (∀ b o, b ≠ kS → b ≠ a → s.heap.get? b = some o → h'.get? b = some o) → h'.get? a = some (seqObj "list" out c) → KskOutSt false kz vs out.toList → P (.done (.ret .none)) { s with heap := h' }) :
    wpAny (model prog w) A (ksk_end a false vs.toArray e1 (.ref kS) keys) P E s := by
  have lz := hZ
  rw [sizeLine_eq] at lz
  have lk := hk.length
  rw [Array.length_toList] at lk
  have zs : (keys.zip vs.toArray).size = vs.length := by rw [Array.size_zip, (List.size_toArray .. : vs.toArray.size = vs.length)]; omega
  unfold ksk_end
  try dsimp only
  by_cases h2 : vs.length < 2
  · rw [List.size_toArray, if_pos h2, if_pos h2]
    refine wpAny_bind (wpAny_pure ?_)
    rw [StateT.run_pure]
    refine wpAny_bind (wpAny_pure ?_)
    try dsimp only
    refine sk_tail (st := SortSt.mk' general' (keys.zip vs.toArray) #[] 7 none) nk na hka hk hlen hZ (Array.Perm.refl _) (fun i j hij hj => ?_) rfl (Stable.refl _) h
    have hj2 : j < (keys.zip vs.toArray).size := hj
    rw [zs] at hj2
    have q : i = j := by omega
    subst q
    exact Int.le_refl _
  · rw [List.size_toArray, if_neg h2, if_neg h2, ksk_kind hk (by omega)]
    refine wpAny_bind (wpAny_pure ?_)
    refine wpAny_bind (wpAny_mono (wpS_sortRunsSt (κ := intKind) (a₀ := keys.zip vs.toArray) (st := SortSt.mk' oneType' (keys.zip vs.toArray) #[] 7 none)
      (Q := fun _ stz' => (arrOf stz').Perm (keys.zip vs.toArray) ∧ failedOf stz' = none ∧ SortedTo (arrOf stz') (arrOf stz').size ∧ Stable intKind (arrOf stz') (keys.zip vs.toArray))
      intKind_oneLt (ksk_keysOfInt (ksk_intKeys hk)) ⟨Array.Perm.refl _, rfl, rfl⟩ rfl (Stable.refl _) (by rw [zs]; omega) fun stz' a1 a2 a3 a4 => ⟨a1, a2, by rw [a1.size_eq]; exact sortedTo_of_int a3, a4⟩) ?_ fun _ _ e => e)
    rintro ⟨⟨⟩, stz'⟩ s' ⟨rfl, hp, hf, hs, hst⟩
    try dsimp only
    exact sk_tail nk na hka hk hlen hZ hp hs hf hst h
end
/-! ### a key asked of an item: nothing changes -/
/-- f is asked of x while the frame's cells are locked; it tells k and makes nothing that is tracked -/
def KeyAsk (X : Cx) (σ : L2.St) (H : Hp) (Hc : Hp → Prop) (sp : Sp) (x : V) (k : Int) : Prop :=
  ∀ h : Heap, FzOk X σ H h → Hc (frzH (CellOf X) h H) ∧ sp [x] (frzH (CellOf X) h H) (fun v H3 => v = .int k ∧ H3 = frzH (CellOf X) h H) fun _ _ _ => False
theorem thw_frz {C : Addr → Prop} {h : Heap} {H : Hp} (l : Loose C h H) : thw C (frzH C h H) = H := by
  funext b
  by_cases c : C b
  · rw [thw_in c, (l b c).1]
  · rw [thw_out c, frz_out c]
section
variable {X : Cx} {pins : List (Addr × Obj)} {σ : L2.St} {H : Hp} {s : Shared}
theorem room_in1 {k : Nat} {A : Around} (r : Room (k + 1) A) : Room k A.in1 := r.in1
/-- the call of the key, two builtins deep -/
theorem key_call {A : Around} {E : Value → Shared → Prop} {k : Nat} {f : Addr} {Hc : Hp → Prop} {n : Nat} {sp : Sp} {u : Value} {x : V} {i : Int} (hfn : ∀ x, X.fn x = true) (F : Fv X.prog X.w X.K X.mg X.base (L2.CX X.prog X.w) k Hc f n sp) (hr : Room k A) (hA : A.frames = X.A.frames)
    (I : Inv X pins σ H s) (r : RelV x u) (q : KeyAsk X σ H Hc sp x i) : wpAny (model X.prog X.w) A (call (.ref f) [u]) (fun v s' => (∃ t, v = Value.int i t) ∧ Inv X pins σ H s') E s := by
  obtain ⟨hc, hq⟩ := q s.heap (fz_ok I)
  have l := (fz_ok I).loose
  have e0 := env0_frz hfn I
  have e1 : Env0 X.prog X.w X.K X.mg X.base A X.stack s (frzH (CellOf X) s.heap H) := ⟨hA.trans e0.frames, e0.mod, e0.bs, e0.bsz, e0.funs, e0.frf, e0.hok, e0.bare⟩
  refine wpAny_call (codeAny_mono (F.run A X.stack s _ [u] [x] _ _ hr e1 hc (.cons r .nil) hq) fun r s' hq => ?_)
  cases r with
  | error e =>
    obtain ⟨_, _, _, _, _, _, _, _, _, _, _, _, z⟩ := hq
    exact z.elim
  | ok fl =>
    cases fl with
    | ret u =>
      obtain ⟨v, H', os, bare, un, hok, rv, ev, eH⟩ := hq
      subst ev
      subst eH
      obtain ⟨z2, z3⟩ := un_thw l un hok
      rw [thw_frz l] at z2 z3
      exact ⟨rv, I.call' (ch := []) os (by exact z2) z3 bare fun b z => absurd z (by simp)⟩
    | next => exact False.elim hq
    | brk => exact False.elim hq
    | cont => exact False.elim hq
/-- a pinned record of ours is changed -/
theorem inv_repin {q : Addr × Obj} {o' : Obj} {t' : Nat} {h' : Heap} (I : Inv X (q :: pins) σ H s) (hf : FpOk X pins H q.1) (k : ∀ b o, b ≠ q.1 → s.heap.get? b = some o → h'.get? b = some o) (e : h'.get? q.1 = some o') (hd : ∀ v, o'.data ≠ .cell v) : Inv X ((q.1, o') :: pins) σ H { s with heap := h', toks := t' } := by
  have I1 : Inv X pins σ H s := I.pins_of fun p hpz => I.pin p (List.mem_append_right _ (List.mem_cons_of_mem _ hpz))
  obtain ⟨f0, f1, f2, f3, f4, f5⟩ := hf
  have I2 : Inv X pins σ H { s with heap := h', toks := t' } := I1.turned k f0 f1 f3 f4 f5
  refine I2.pins_of fun p hpz => ?_
  rcases List.mem_cons.mp hpz with z | hpz
  · subst z
    exact ⟨e, f0, f1, f2, hd⟩
  · exact I2.pin p (List.mem_append_right _ hpz)
end
/-! ### sorted(xs, key=f) -/
/-- sorted by the keys kf, equal ones in their turns -/
def SortedBy (kf : V → Int) (xs ys : List V) : Prop := ys.Perm xs ∧ ys.Pairwise (fun x y => kf x ≤ kf y) ∧ ∀ c, ys.filter (fun x => kf x == c) = xs.filter (fun x => kf x == c)
def tSortKey (X : Cx) (j : Nat) (ta tk : TE) : TE := fun σ H Q => ta σ H fun x H1 => tk σ H1 fun z H2 => ∃ (a f : Addr) (xs : List V) (kf : V → Int) (k : Nat) (Hc : Hp → Prop) (n : Nat) (sp : Sp), x = .ref a ∧ z = .ref f ∧ (SqL X.K H2 a xs ∨ SqT X.K H2 a xs) ∧ k ≤ j ∧
  Fv X.prog X.w X.K X.mg X.base (L2.CX X.prog X.w) k Hc f n sp ∧ (∀ x ∈ xs, KeyAsk X σ H2 Hc sp x (kf x)) ∧ ∀ ys p, SortedBy kf xs ys → H2 p = none → Q (.ref p) (upd H2 p (.lst ys))
theorem ints_snoc {n : Int} {t : Tok} {vs : List Value} {ns : List Int} (h : IntsAre vs ns) : IntsAre (vs ++ [.int n t]) (ns ++ [n]) := ksk_snoc h
theorem vals_map_int (kf : V → Int) {l : List V} {vs : List Value} (r : Vals l vs) : (l.map kf).length = vs.length := by
  rw [List.length_map]
  exact r.length
theorem zip_kf (kf : V → Int) : ∀ {xs : List V} {us : List Value}, Vals xs us → ∀ p ∈ (xs.map kf).zip us, ∃ x, x ∈ xs ∧ absV p.2 = some x ∧ p.1 = kf x
  | _, _, .nil, p, hp => by cases hp
  | x :: xs, u :: us, .cons r t, p, hp => by
    rcases List.mem_cons.mp (show p ∈ (kf x, u) :: (xs.map kf).zip us from hp) with e | hp
    · subst e
      exact ⟨x, List.mem_cons_self, r.abs, rfl⟩
    · obtain ⟨y, h1, h2⟩ := zip_kf kf t p hp
      exact ⟨y, List.mem_cons_of_mem _ h1, h2⟩
def bk (u : Value) : V := (absV u).getD .non
theorem bk_of {x : V} {u : Value} (r : RelV x u) : bk u = x := by
  unfold bk
  rw [r.abs]
  rfl
theorem bk_rel {xs : List V} {us : List Value} (r : Vals xs us) : ∀ u ∈ us, RelV (bk u) u := by
  induction r with
  | nil => intro u h; cases h
  | cons r t ih =>
    intro u h
    rcases List.mem_cons.mp h with e | h
    · subst e
      rw [bk_of r]
      exact r
    · exact ih u h
theorem bk_map {xs : List V} {us : List Value} (r : Vals xs us) : us.map bk = xs := by
  induction r with
  | nil => rfl
  | cons r t ih => rw [List.map_cons, bk_of r, ih]
theorem vals_of_bk : ∀ {us : List Value}, (∀ u ∈ us, RelV (bk u) u) → Vals (us.map bk) us
  | [], _ => .nil
  | u :: us, h => .cons (h u List.mem_cons_self) (vals_of_bk fun v hv => h v (List.mem_cons_of_mem _ hv))
theorem sorted_out {kf : V → Int} {xs : List V} {us out : List Value} (r : Vals xs us) (h : KskOutSt false (xs.map kf) us out) : SortedBy kf xs (out.map bk) ∧ Vals (out.map bk) out := by
  obtain ⟨ps, h1, h2, h3, h4⟩ := h
  have key : ∀ p ∈ ps, p.1 = kf (bk p.2) := fun p hpz => by
    obtain ⟨x, _, e1, e2⟩ := zip_kf kf r p (h1.mem_iff.mp hpz)
    rw [e2]
    unfold bk
    rw [e1]
    rfl
  have keyz : ∀ p ∈ (xs.map kf).zip us, p.1 = kf (bk p.2) := fun p hpz => by
    obtain ⟨x, _, e1, e2⟩ := zip_kf kf r p hpz
    rw [e2]
    unfold bk
    rw [e1]
    rfl
  have ez : ((xs.map kf).zip us).map Prod.snd = us := by
    rw [List.map_snd_zip]
    rw [List.length_map]
    exact Nat.le_of_eq r.length.symm
  have pm : out.Perm us := by
    rw [h2]
    have q := h1.map Prod.snd
    rw [ez] at q
    exact q
  refine ⟨⟨?_, ?_, fun c => ?_⟩, vals_of_bk fun u hu => bk_rel r u (pm.mem_iff.mp hu)⟩
  · have q := pm.map bk
    rw [bk_map r] at q
    exact q
  · rw [h2, List.map_map, List.pairwise_map]
    refine (List.pairwise_iff_forall_sublist.mpr fun {p q} hs => ?_)
    have hpz := key p (hs.subset List.mem_cons_self)
    have hq := key q (hs.subset (List.mem_cons_of_mem _ List.mem_cons_self))
    have z := (List.pairwise_iff_forall_sublist.mp h3) hs
    simp only [Bool.false_eq_true, if_false] at z
    show kf (bk p.2) ≤ kf (bk q.2)
    rw [← hpz, ← hq]
    exact z
  · have f1 : (out.map bk).filter (fun x => kf x == c) = (ps.filter fun p => p.1 == c).map fun p => bk p.2 := by
      rw [h2, List.map_map, List.filter_map]
      congr 1
      refine List.filter_congr fun p hpz => ?_
      show (kf (bk p.2) == c) = (p.1 == c)
      rw [key p hpz]
    have f2 : xs.filter (fun x => kf x == c) = (((xs.map kf).zip us).filter fun p => p.1 == c).map fun p => bk p.2 := by
      have e : xs = ((xs.map kf).zip us).map fun p => bk p.2 := by
        have q : ((xs.map kf).zip us).map (fun p => bk p.2) = (((xs.map kf).zip us).map Prod.snd).map bk := by
          rw [List.map_map]
          rfl
        rw [q, ez, bk_map r]
      conv => lhs; rw [e]
      rw [List.filter_map]
      congr 1
      refine List.filter_congr fun p hpz => ?_
      show (kf (bk p.2) == c) = (p.1 == c)
      rw [keyz p hpz]
    rw [f1, f2, h4 c]
section
variable {X : Cx} {pins : List (Addr × Obj)} {σ : L2.St} {H : Hp} {s : Shared}
/-- list.sort(key=f) of a new list that is not tracked -/
theorem sort_key {A : Around} {E : Value → Shared → Prop} {k : Nat} {f a : Addr} {Hc : Hp → Prop} {n : Nat} {sp : Sp} {xs : List V} {us : List Value} {kf : V → Int} {P : PySem.Fin → Shared → Prop} (hfn : ∀ x, X.fn x = true) (F : Fv X.prog X.w X.K X.mg X.base (L2.CX X.prog X.w) k Hc f n sp) (hr : Room k A) (hA : A.frames = X.A.frames)
    (I : Inv X pins σ H s) (r : Vals xs us) (hz : us.length ≤ sizeLine) (hf : FpOk X pins H a) (ha : s.heap.get? a = some (seqObj "list" us.toArray 0)) (hk : ∀ x ∈ xs, KeyAsk X σ H Hc sp x (kf x))
    (h : ∀ (s' : Shared) (out : Array Value) (c : Nat), Inv X ((a, seqObj "list" out c) :: pins) σ H s' → KskOutSt false (xs.map kf) us out.toList → P (.done (.ret .none)) s') : wpAny (model X.prog X.w) A (ksk_tree a (.ref f) false) P E s := by
  have lz := hz
  rw [sizeLine_eq] at lz
  have hl := r.length
  have I0 : Inv X ((a, seqObj "list" us.toArray 0) :: pins) σ H s := I.pins_of fun p hpz => by
    rcases List.mem_cons.mp hpz with zz | hpz
    · subst zz
      exact ⟨ha, hf.1, hf.2.1, hf.2.2.1, fun v zz => nomatch zz⟩
    · exact I.pin p (List.mem_append_right _ hpz)
  unfold ksk_tree
  refine wpAny_bind (listItems_at ha rfl ?_)
  refine wpAny_bind (listUpdate_at ha rfl ?_ (by rw [List.size_toArray]; exact hz) (Nat.zero_le _))
  have b1 := Heap.SameBut.update s.heap a (Obj.mapSeq fun _ => (#[] : Array Value))
  obtain ⟨e1, ho1z⟩ : ∃ e1, (s.heap.update a (Obj.mapSeq fun _ => (#[] : Array Value))).get? a = some (seqObj "list" #[] e1) := ⟨_, get?_update_seq ha fun _ => #[]⟩
  have I1 : Inv X ((a, seqObj "list" #[] e1) :: pins) σ H { s with heap := s.heap.update a (Obj.mapSeq fun _ => (#[] : Array Value)) } := inv_repin (t' := s.toks) I0 hf (fun b o hbz e => (b1.2 b hbz).trans e) ho1z fun v zz => nomatch zz
  refine wpAny_bind (seqEpoch_at ho1z rfl ?_)
  refine wpAny_bind (wpAny_newTuple ?_ (by show us.length ≤ _; exact hz))
  refine wpAny_bind (wpAny_newList ?_ (Nat.zero_le _))
  refine wpAny_holding ?_
  generalize hh2 : ((s.heap.update a (Obj.mapSeq fun _ => (#[] : Array Value))).push (seqObj "tuple" us.toArray 0)) = h2
  have k2 : ∀ b o, (s.heap.update a (Obj.mapSeq fun _ => (#[] : Array Value))).get? b = some o → h2.get? b = some o := fun b o e => by rw [← hh2]; exact Heap.get?_push_of_some _ e
  have I2 : Inv X ((a, seqObj "list" #[] e1) :: pins) σ H { s with heap := h2 } := I1.kept (t' := s.toks) k2
  have hS : (h2.push (seqObj "list" #[] 0)).get? h2.objs.size = some (seqObj "list" #[] 0) := Heap.get?_push_size _ rfl
  have fS : FpOk X ((a, seqObj "list" #[] e1) :: pins) H h2.objs.size := I2.fpOk (s := { s with heap := h2 }) (Nat.le_refl _) (I2.hok.fresh (Nat.le_refl _))
  have I3 : Inv X ((h2.objs.size, seqObj "list" #[] 0) :: (a, seqObj "list" #[] e1) :: pins) σ H { s with heap := h2.push (seqObj "list" #[] 0) } := by
    have J : Inv X ((a, seqObj "list" #[] e1) :: pins) σ H { s with heap := h2.push (seqObj "list" #[] 0) } := I2.kept (t' := s.toks) fun b o e => Heap.get?_push_of_some _ e
    refine J.pins_of fun p hpz => ?_
    rcases List.mem_cons.mp hpz with zz | hpz
    · subst zz
      exact ⟨hS, fS.1, fS.2.1, fS.2.2.1, fun v zz => nomatch zz⟩
    · exact J.pin p (List.mem_append_right _ hpz)
  have hka : h2.objs.size ≠ a := fun zz => fS.2.2.2.2.2 (a, seqObj "list" #[] e1) (List.mem_append_right _ List.mem_cons_self) zz.symm
  have faS : FpOk X ((a, seqObj "list" #[] e1) :: pins) H h2.objs.size := fS
  show wpAny (model X.prog X.w) A (ksk_rest a (.ref f) false us.toArray e1 (.ref h2.objs.size)) P E { s with heap := h2.push (seqObj "list" #[] 0) }
  generalize h2.objs.size = kS at I3 fS faS hka ⊢
  generalize hs3 : ({ s with heap := h2.push (seqObj "list" #[] 0) } : Shared) = s3 at I3 ⊢
  unfold ksk_rest
  refine wpAny_bind (wpAny_rule ?_)
  first
    | rw [List.forIn_toArray]
    | (rw [← Array.forIn_toList]; simp only [List.toList_toArray])
    | rw [← Array.forIn_toList]
  refine wpAny_bind (ksk_fold (fun i s' => ∃ (kA : Array Value) (c : Nat), Inv X ((kS, seqObj "list" kA c) :: (a, seqObj "list" #[] e1) :: pins) σ H s' ∧ IntsAre kA.toList ((xs.map kf).take i)) us 0 s3 ⟨#[], 0, I3, by simpa using IntsAre.nil⟩ ?step ?done)
  case step =>
    rintro i u s' hu ⟨kA, c, J, hi⟩
    simp only [Nat.zero_add] at hi ⊢
    have hlt : i < us.length := (List.getElem?_eq_some_iff.mp hu).1
    have hx : xs[i]? = some xs[i] := List.getElem?_eq_getElem (by omega)
    obtain ⟨u', hu', ru⟩ := r.get hx
    rw [hu] at hu'
    cases hu'
    have hz2 : kA.size ≤ us.length := by
      have q := hi.length
      rw [Array.length_toList, List.length_take] at q
      omega
    refine wpAny_bind (wpAny_attempt (wpAny_mono (key_call (E := fun _ _ => False) hfn F hr hA J ru (hk _ (List.mem_of_getElem? hx))) (fun v s2 hv => ?_) fun _ _ zz => zz.elim))
    obtain ⟨⟨t, rfl⟩, J2⟩ := hv
    try dsimp only
    obtain ⟨pk, _⟩ := J2.pin (kS, seqObj "list" kA c) (List.mem_append_right _ List.mem_cons_self)
    have b3 := Heap.SameBut.update s2.heap kS (Obj.mapSeq (·.push (.int (kf xs[i]) t)))
    obtain ⟨c2, hc2⟩ : ∃ c2, (s2.heap.update kS (Obj.mapSeq (·.push (.int (kf xs[i]) t)))).get? kS = some (seqObj "list" (kA.push (.int (kf xs[i]) t)) c2) := ⟨_, get?_update_seq pk (·.push (.int (kf xs[i]) t))⟩
    have ek : (xs.map kf).take (i + 1) = (xs.map kf).take i ++ [kf xs[i]] := by
      rw [List.take_add_one, List.getElem?_map, hx]
      rfl
    refine wpAny_bind (listUpdate_at pk rfl ?_ (by rw [sizeLine_eq]; omega) (Nat.le_trans (Nat.le_of_eq (Array.size_push ..)) (by rw [sizeLine_eq]; omega)))
    refine wpAny_pure ⟨rfl, _, c2, inv_repin (t' := s2.toks) J2 fS (fun b o hbz e => (b3.2 b hbz).trans e) hc2 (fun v zz => nomatch zz), ?_⟩
    rw [ek, Array.toList_push]
    exact ints_snoc hi
  case done =>
    rintro s' ⟨kA, c, J, hi⟩
    have hi' : IntsAre kA.toList (xs.map kf) := by
      have q : (xs.map kf).take (0 + us.length) = xs.map kf := List.take_of_length_le (by rw [List.length_map]; omega)
      rw [q] at hi
      exact hi
    obtain ⟨pk, _⟩ := J.pin (kS, seqObj "list" kA c) (List.mem_append_right _ List.mem_cons_self)
    obtain ⟨pa, _⟩ := J.pin (a, seqObj "list" #[] e1) (List.mem_append_right _ (List.mem_cons_of_mem _ List.mem_cons_self))
    try dsimp only
    refine wpAny_bind (listItems_at pk rfl ?_)
    refine sk_end pk pa hka hi' (by rw [List.length_map]; exact hl) hz fun h' out c' kp hout ho => ?_
    -- both records have turned
    have J1 : Inv X pins σ H s' := J.pins_of fun p hpz => J.pin p (List.mem_append_right _ (List.mem_cons_of_mem _ (List.mem_cons_of_mem _ hpz)))
    have fk : FpOk X pins H kS := ⟨fS.1, fS.2.1, fS.2.2.1, fS.2.2.2.1, fS.2.2.2.2.1, fun p hpz => fS.2.2.2.2.2 p (by
      rcases List.mem_append.mp hpz with zz | zz
      · exact List.mem_append_left _ zz
      · exact List.mem_append_right _ (List.mem_cons_of_mem _ zz))⟩
    have J2 : Inv X pins σ H { s' with heap := h' } := J1.turnedL (t' := s'.toks) (ch := [kS, a]) (fun b o hbz e => kp b o (fun zz => hbz (by simp [zz])) (fun zz => hbz (by simp [zz])) e) fun b hbz => by
      rcases List.mem_cons.mp hbz with zz | hbz
      · rw [zz]
        exact fk
      · rw [List.mem_singleton.mp hbz]
        exact hf
    refine h _ out c' (J2.pins_of fun p hpz => ?_) ho
    rcases List.mem_cons.mp hpz with zz | hpz
    · subst zz
      exact ⟨hout, hf.1, hf.2.1, hf.2.2.1, fun v zz => nomatch zz⟩
    · exact J2.pin p (List.mem_append_right _ hpz)
end
end Rw
set_option maxHeartbeats 4000000
/-! sorted(xs, key=f), min(xs, key=f): the rules. -/
namespace Rw
open PySem PySem.Spec PyProof.Rows L2 LamX NdefX
theorem boot_sorted' : bootBuiltins "sorted" = some (.builtin "sorted") := by decide +kernel
theorem boot_min' : bootBuiltins "min" = some (.builtin "min") := by decide +kernel
def rSortKey (X : Cx) (j : Nat) (σ : L2.St) : List V → List V → Hp → VK → Prop := fun vs zs H Q => ∃ (a f : Addr) (xs : List V) (kf : V → Int) (k : Nat) (Hc : Hp → Prop) (n : Nat) (sp : Sp), vs = [.ref a] ∧ zs = [.ref f] ∧ (SqL X.K H a xs ∨ SqT X.K H a xs) ∧ k ≤ j ∧
  Fv X.prog X.w X.K X.mg X.base (L2.CX X.prog X.w) k Hc f n sp ∧ (∀ x ∈ xs, KeyAsk X σ H Hc sp x (kf x)) ∧ ∀ ys p, SortedBy kf xs ys → H p = none → Q (.ref p) (upd H p (.lst ys))
def tKeyed (r : L2.St → List V → List V → Hp → VK → Prop) (ta tk : TE) : TE := fun σ H Q => ta σ H fun x H1 => tk σ H1 fun z H2 => r σ [x] [z] H2 Q
/-- what is read as a sequence -/
theorem seq_at {X : Cx} {pins : List (Addr × Obj)} {σ : L2.St} {H : Hp} {s : Shared} {a : Addr} {xs : List V} (I : Inv X pins σ H s) (h : SqL X.K H a xs ∨ SqT X.K H a xs) : ∃ (T : String) (o : Obj) (us : List Value) (n : Nat), (T = "list" ∨ T = "tuple") ∧ s.heap.get? a = some o ∧ o.cls = .type T ∧ o.data = .seq us.toArray n ∧ Vals xs us ∧ xs.length ≤ sizeLine := by
  rcases h with h | h
  · obtain ⟨us, r, ⟨o, n, e, c, _, d⟩, z⟩ := I.list h
    exact ⟨"list", o, us, n, .inl rfl, e, c, d, r, z⟩
  · obtain ⟨us, r, ⟨o, e, c, n, d⟩, z⟩ := I.tuple h
    exact ⟨"tuple", o, us, n, .inr rfl, e, c, d, r, z⟩

/-- a record of ours is tracked from now on -/
theorem inv_track {X : Cx} {pins : List (Addr × Obj)} {σ : L2.St} {H : Hp} {s : Shared} {a : Addr} {o : HO} (I : Inv X pins σ H s) (hf : FpOk X pins H a) (hx : ∃ u, s.heap.get? a = some u) (new : ObjOk X.prog X.w (upd H a o) s.heap a o) : Inv X pins σ (upd H a o) s := by
  have n0 : H a = none := hf.1
  refine I.step (g' := s.gens) (d' := s.drawn) (t' := s.toks) (h' := s.heap) (ch := [a]) (fun b hb => ?_) (fun b o _ _ _ e _ => e) (fun b o _ _ _ e _ => ⟨o.slots, e⟩) (fun b o hb e n => ?_) (fun b o _ e => ⟨o, e⟩) (fun b xs e => (upd_ne (ne_of_none e n0)).trans e) (fun b ob u e => (upd_ne (ne_of_none e n0)).trans e)
    (fun b ps e => ⟨#[], by rw [upd_ne (ne_of_none e n0), e]; simp⟩) (fun m hm => hm) (I.hok.laidN (fun _ _ e => e) n0 new) I.bare
  · have e : b = a := by simpa using hb
    subst e
    exact ⟨hf.2.2.2.1, hf.2.1, hf.2.2.2.2.1, hf.2.2.2.2.2⟩
  · exact (upd_ne fun z => hb (by simp [z])).trans n
section
variable {X : Cx}
theorem sorted_key_run {pins : List (Addr × Obj)} {σ : L2.St} {H : Hp} {s : Shared} {j : Nat} {vs zs : List V} {us ws : List Value} {Q : VK} {E : Value → Shared → Prop} (hfn : ∀ x, X.fn x = true) (hr : Room (j + 2) X.A) (I : Inv X pins σ H s) (r : Vals vs us) (rz : Vals zs ws) (q : rSortKey X j σ vs zs H Q) :
    wpAny (model X.prog X.w) X.A (call (.builtin "sorted") us ([Str.ofString "key"].zip ws)) (EP X pins σ Q) E s := by
  obtain ⟨a, f, xs, kf, k, Hc, n, sp, rfl, rfl, hx, hkj, F, hask, q⟩ := q
  obtain ⟨u1, rfl, e1⟩ := vals1 r
  obtain rfl : u1 = Value.ref a := e1
  obtain ⟨w1, rfl, e2⟩ := vals1 rz
  obtain rfl : w1 = Value.ref f := e2
  obtain ⟨T, o, its, m, hT, ho, hc, hd, rv, hz⟩ := seq_at I hx
  have hl := rv.length
  refine PyProof.Rows.call_function_entry_kw PyProof.Rows.kind_sorted PyProof.Rows.plain_sorted PyProof.Rows.entry_sorted (PyProof.Rows.ksk_s1 _ _) ?_
  unfold Builtin.«sorted»
  refine wpAny_bind (m := checkCount "sorted" 1 1 _) (wpAny_pure ?_)
  refine wpAny_bind (PySem.wpAny_collect_seq a hT ho hc hd (fun h' hk' => ?_) (by rw [List.size_toArray, ← hl]; exact hz))
  have I1 : Inv X pins σ H { s with heap := h' } := I.kept (t' := s.toks) hk'
  refine wpAny_bind (wpAny_newList ?_ (by rw [List.toList_toArray, ← hl]; exact hz))
  have hoL : (h'.push (seqObj "list" its.toArray 0)).get? h'.objs.size = some (seqObj "list" its.toArray 0) := Heap.get?_push_size _ rfl
  have fL : FpOk X pins H h'.objs.size := I1.fpOk (s := { s with heap := h' }) (Nat.le_refl _) (I1.hok.fresh (Nat.le_refl _))
  have I2 : Inv X pins σ H { s with heap := h'.push (seqObj "list" its.toArray 0) } := I1.kept (t' := s.toks) fun b o e => Heap.get?_push_of_some _ e
  refine wpAny_bind (wpAny_holding (PyProof.Rows.wpAny_call_entry_kw PyProof.Rows.slot_list_sort ⟨_, hoL, rfl⟩ PyProof.Rows.entry_list_sort ?_ (PyProof.Rows.ksk_l1 _ _)))
  show wpAny (model X.prog X.w) X.A.in1.in1 (Builtin.«list.sort» ⟨[.ref h'.objs.size], [(Str.ofString "key", .ref f)]⟩) _ _ _
  rw [PyProof.Rows.ksk_t1]
  have rm : Room j X.A.in1.in1 := (hr.in1).in1
  refine sort_key (A := X.A.in1.in1) hfn F (rm.mono hkj) rfl I2 rv (by rw [← hl]; exact hz) fL hoL hask fun s' out c J ho' => ⟨_, rfl, ?_⟩
  obtain ⟨k1, k2⟩ := sorted_out rv ho'
  obtain ⟨pa, _⟩ := J.pin (h'.objs.size, seqObj "list" out c) (List.mem_append_right _ List.mem_cons_self)
  have J1 : Inv X pins σ H s' := J.pins_of fun p hp => J.pin p (List.mem_append_right _ (List.mem_cons_of_mem _ hp))
  have hys : (out.toList.map bk).length ≤ sizeLine := by
    rw [k1.1.length_eq]
    exact hz
  have K := inv_track J1 fL ⟨_, pa⟩ (show ObjOk X.prog X.w _ _ _ (.lst (out.toList.map bk)) from ⟨hys, out.toList, c, k2, pa⟩)
  exact wpAny_pure ⟨_, rfl, .ref h'.objs.size, _, K, rfl, q _ _ k1 fL.1⟩
end
/-! ### min(xs, key=f) -/
def rMinKey (X : Cx) (j : Nat) (σ : L2.St) : List V → List V → Hp → VK → Prop := fun vs zs H Q => ∃ (a f : Addr) (xs : List V) (kf : V → Int) (k : Nat) (Hc : Hp → Prop) (n : Nat) (sp : Sp), vs = [.ref a] ∧ zs = [.ref f] ∧ SqL X.K H a xs ∧ xs ≠ [] ∧ k ≤ j ∧
  Fv X.prog X.w X.K X.mg X.base (L2.CX X.prog X.w) k Hc f n sp ∧ (∀ x ∈ xs, KeyAsk X σ H Hc sp x (kf x)) ∧ ∀ (i : Nat) (x : V), xs[i]? = some x → (∀ (j : Nat) (y : V), xs[j]? = some y → kf x ≤ kf y ∧ (j < i → kf x < kf y)) → Q x H
theorem list_at {X : Cx} {pins : List (Addr × Obj)} {σ : L2.St} {H : Hp} {s : Shared} {a : Addr} {xs : List V} (I : Inv X pins σ H s) (h : SqL X.K H a xs) : ∃ us : List Value, Vals xs us ∧ s.heap.IsList a us.toArray := by
  obtain ⟨us, r, l, z⟩ := I.list h
  exact ⟨us, r, l.isList⟩
section
variable {X : Cx} {pins : List (Addr × Obj)} {σ : L2.St} {H : Hp}
theorem fpOk_pin {p : Addr × Obj} {b : Addr} (f : FpOk X pins H b) (n : p.1 ≠ b) : FpOk X (p :: pins) H b := ⟨f.1, f.2.1, f.2.2.1, f.2.2.2.1, f.2.2.2.2.1, fun q hq => by
  rcases List.mem_append.mp hq with z | z
  · exact f.2.2.2.2.2 q (List.mem_append_left _ z)
  · rcases List.mem_cons.mp z with z | z
    · rw [z]
      exact n
    · exact f.2.2.2.2.2 q (List.mem_append_right _ z)⟩
theorem inv_pin {s : Shared} {p : Addr × Obj} (I : Inv X pins σ H s) (f : FpOk X pins H p.1) (e : s.heap.get? p.1 = some p.2) (hd : ∀ v, p.2.data ≠ .cell v) : Inv X (p :: pins) σ H s := I.pins_of fun q hq => by
  rcases List.mem_cons.mp hq with z | hq
  · subst z
    exact ⟨e, f.1, f.2.1, f.2.2.1, hd⟩
  · exact I.pin q (List.mem_append_right _ hq)
theorem inv_unpin {s : Shared} {p : Addr × Obj} (I : Inv X (p :: pins) σ H s) : Inv X pins σ H s := I.pins_of fun q hq => I.pin q (List.mem_append_right _ (List.mem_cons_of_mem _ hq))
theorem pin0 {s : Shared} {p : Addr × Obj} (I : Inv X (p :: pins) σ H s) : s.heap.get? p.1 = some p.2 := (I.pin p (List.mem_append_right _ List.mem_cons_self)).1
/-- the iterator's record and the best one's -/
abbrev mkS (S : Addr) (vb : Value) (i : Int) (tb : Tok) (c : Nat) : Addr × Obj := (S, seqObj "list" #[vb, .int i tb] c)
theorem min_loop {k : Nat} {f : Addr} {Hc : Hp → Prop} {n : Nat} {sp : Sp} {kf : V → Int} {xs : List V} {l I' S : Addr} {R : Result → Shared → Prop} (hfn : ∀ x, X.fn x = true) (F : Fv X.prog X.w X.K X.mg X.base (L2.CX X.prog X.w) k Hc f n sp) (hr : Room k X.A.in1) (hh : X.A.handled = none)
    (hl : SqL X.K H l xs) (hlI : l ≠ I') (hSI : S ≠ I') (fS : FpOk X pins H S) (fI : FpOk X pins H I') (hk : ∀ x ∈ xs, KeyAsk X σ H Hc sp x (kf x))
    (hR : ∀ (i : Nat) (x : V) (u : Value) (s' : Shared), xs[i]? = some x → (∀ (j : Nat) (y : V), xs[j]? = some y → kf x ≤ kf y ∧ (j < i → kf x < kf y)) → RelV x u → Inv X pins σ H s' → R (.ok (.ret u)) s') :
    ∀ (r j i : Nat) (s : Shared) (x : V) (vb : Value) (tb : Tok) (c : Nat) (oI : Obj), xs.length - (j + 1) = r → j + 1 ≤ xs.length → Inv X (mkS S vb (kf x) tb c :: (I', oI) :: pins) σ H s → s.heap.IsListIter I' l (j + 1) → xs[i]? = some x → RelV x vb → i ≤ j →
      (∀ (j' : Nat) (y : V), j' ≤ j → xs[j']? = some y → kf x ≤ kf y ∧ (j' < i → kf x < kf y)) →
      codeAny (model X.prog X.w) X.A (.builtin "min.loop" ⟨[.ref I', .ref f, .ref S], []⟩) R s := by
  have hnamez : (toString "min" ++ toString ".loop" : String) = "min.loop" := by decide
  intro r
  induction r with
  | zero =>
    intro j i s x vb tb c oI hj1 hj J hit hx rx hij hbest
    have hin : j + 1 = xs.length := by omega
    have nS := pin0 J
    have J1 := inv_unpin (inv_unpin J)
    obtain ⟨us, ru, hu⟩ := list_at J hl
    have hsz : us.toArray.size = xs.length := by rw [List.size_toArray, ru.length]
    have W := Walks.list (prog := X.prog) (w := X.w) (A := X.A.in1) hh I' l hlI us.toArray
    refine codeAny_builtin PySem.F.entry_min_loop ?_
    rw [Around.under_plainId PySem.F.plain_min_loop _]
    show wpAny _ X.A.in1 (seqItems? (.ref S) >>= _) _ _ _
    refine wpAny_bind (wpAny_seqItems nS rfl ?_)
    show wpAny _ X.A.in1 (tryCatch (pyNext (.ref I')) _ >>= _) _ _ _
    refine wpAny_bind (wpAny_tryCatch (W.done _ _ _ ⟨by rw [hsz, ← hin]; exact hit, hu⟩ fun h' tk' hk' => ?_))
    have hSz' := hk' S _ (by simpa using hSI) nS
    have s1z := Heap.SameBut.update h' S (Obj.mapSeq fun _ => (#[] : Array Value))
    show wpAny _ X.A.in1 (updateSeq S (fun _ => #[]) >>= _) _ _ _
    refine wpAny_bind ?_
    refine wpAny_updateSeq hSz' rfl (wpAny_bind (wpAny_letGo (wpAny_pure ?_)))
    have J2 : Inv X pins σ H { s with heap := h', toks := tk' } := J1.turnedL (ch := [I']) (fun b o hb e => hk' b o hb e) fun b hb => by
      rw [List.mem_singleton.mp hb]
      exact fI
    have J3 : Inv X pins σ H { s with heap := h'.update S (Obj.mapSeq fun _ => #[]), toks := tk' } := Inv.turnedL (s := { s with heap := h', toks := tk' }) J2 (t' := tk') (ch := [S]) (fun b o hb e => (s1z.2 b fun z => hb (by simp [z])).trans e) fun b hb => by
      rw [List.mem_singleton.mp hb]
      exact fS
    exact hR i x vb _ hx (fun j' y hy => hbest j' y (by have := (List.getElem?_eq_some_iff.mp hy).1; omega) hy) rx J3
  | succ r ih =>
    intro j i s x vb tb c oI hj1 hj J hit hx rx hij hbest
    have hlt : j + 1 < xs.length := by omega
    have nS := pin0 J
    obtain ⟨us, ru, hu⟩ := list_at J hl
    have hsz : us.toArray.size = xs.length := by rw [List.size_toArray, ru.length]
    have W := Walks.list (prog := X.prog) (w := X.w) (A := X.A.in1) hh I' l hlI us.toArray
    refine codeAny_builtin PySem.F.entry_min_loop ?_
    rw [Around.under_plainId PySem.F.plain_min_loop _]
    show wpAny _ X.A.in1 (seqItems? (.ref S) >>= _) _ _ _
    refine wpAny_bind (wpAny_seqItems nS rfl ?_)
    show wpAny _ X.A.in1 (tryCatch (pyNext (.ref I')) _ >>= _) _ _ _
    refine wpAny_bind (wpAny_tryCatch (W.item (j + 1) _ _ _ (by rw [hsz]; exact hlt) ⟨hit, hu⟩ fun v h' tk' hP hst' hk' => ?_))
    have hy : xs[j + 1]? = some xs[j + 1] := List.getElem?_eq_getElem hlt
    obtain ⟨v', hv', rv⟩ := ru.get hy
    have hv : us[j + 1]? = some v := by simpa using hP
    rw [hv] at hv'
    cases hv'
    obtain ⟨oIz', hoI', hoc, hod⟩ := id hst'.1
    have dI : ∀ v, oIz'.data ≠ .cell v := fun v z => by
      rw [hod] at z
      cases z
    have fS1 : FpOk X ((I', oIz') :: pins) H S := fpOk_pin fS (fun z => hSI z.symm)
    have J1 : Inv X (mkS S vb (kf x) tb c :: (I', oIz') :: pins) σ H { s with heap := h', toks := tk' } := by
      have a1 : Inv X pins σ H { s with heap := h', toks := tk' } := (inv_unpin (inv_unpin J)).turnedL (ch := [I']) (fun b o hb e => hk' b o hb e) fun b hb => by
        rw [List.mem_singleton.mp hb]
        exact fI
      exact inv_pin (inv_pin a1 fI hoI' dI) fS1 (hk' S _ (by simpa using hSI) nS) fun v z => nomatch z
    show wpAny _ X.A.in1 (tryCatch (holding [v] (call (.ref f) [v])) _ >>= _) _ _ _
    refine wpAny_bind (wpAny_tryCatch (wpAny_holding (wpAny_mono (key_call (E := fun _ _ => False) hfn F hr rfl J1 rv (hk _ (List.mem_of_getElem? hy))) (fun w s2 he => ?_) fun _ _ hF => hF.elim)))
    obtain ⟨⟨t2, rfl⟩, J2⟩ := he
    have nS2 := pin0 J2
    have nI2 := pin0 (inv_unpin J2)
    have hit2 : s2.heap.IsListIter I' l (j + 1 + 1) := ⟨oIz', nI2, hoc, hod⟩
    show wpAny _ X.A.in1 (tryCatch (holding [v, .int (kf xs[j + 1]) t2] (richCompare .Lt (.int (kf xs[j + 1]) t2) (.int (kf x) tb) >>= _)) _ >>= _) _ _ _
    refine wpAny_bind (wpAny_tryCatch (wpAny_holding (wpAny_bind (CmpOf.ints_lt (prog := X.prog) (w := X.w) (A := X.A.in1) (P := fun i v => ∃ t, v = .int (if i = 0 then kf xs[j + 1] else kf x) t) (fun i => if i = 0 then kf xs[j + 1] else kf x) (fun i v h => h) 0 1 _ _ _ _ _ ⟨t2, rfl⟩ ⟨tb, rfl⟩ ?_))))
    simp only [if_true, Nat.one_ne_zero, if_false]
    refine wpAny_bind (wpAny_holding (wpAny_truthy_bool ?_))
    refine wpAny_bind (wpAny_letGo (wpAny_pure ?_))
    by_cases hb' : kf xs[j + 1] < kf x
    · have s1z := Heap.SameBut.update s2.heap S (Obj.mapSeq fun _ => #[v, .int (kf xs[j + 1]) t2])
      obtain ⟨c2, hc2⟩ : ∃ c2, (s2.heap.update S (Obj.mapSeq fun _ => #[v, .int (kf xs[j + 1]) t2])).get? S = some (seqObj "list" #[v, .int (kf xs[j + 1]) t2] c2) := ⟨_, get?_update_seq nS2 fun _ => #[v, .int (kf xs[j + 1]) t2]⟩
      simp only [hb', decide_true, if_true]
      refine wpAny_bind ?_
      refine wpAny_updateSeq nS2 rfl (wpAny_bind (wpAny_letGo ?_))
      rw [hnamez]
      refine wpAny_pure ⟨plainId_quiet PySem.F.plain_min_loop _, ih (j + 1) (j + 1) _ xs[j + 1] v t2 c2 oIz' (by omega) hlt (inv_repin (t' := s2.toks) J2 fS1 (fun b o hb e => (s1z.2 b hb).trans e) hc2 fun v z => nomatch z) ⟨oIz', (s1z.2 I' hSI.symm).trans nI2, hoc, hod⟩ hy rv (Nat.le_refl _) fun j' y hj' hy' => ?_⟩
      by_cases e : j' = j + 1
      · subst e
        rw [hy] at hy'
        cases hy'
        exact ⟨Int.le_refl _, fun z => absurd z (Nat.lt_irrefl _)⟩
      · have hb1 := hbest j' y (by omega) hy'
        have hb2 := hb1.1
        exact ⟨by omega, fun _ => by omega⟩
    · simp only [hb', decide_false, Bool.false_eq_true, if_false]
      refine wpAny_bind (wpAny_letGo ?_)
      rw [hnamez]
      refine wpAny_pure ⟨plainId_quiet PySem.F.plain_min_loop _, ih (j + 1) i _ x vb tb c oIz' (by omega) hlt J2 hit2 hx rx (by omega) fun j' y hj' hy' => ?_⟩
      by_cases e : j' = j + 1
      · subst e
        rw [hy] at hy'
        cases hy'
        exact ⟨by omega, fun z => absurd z (by omega)⟩
      · exact hbest j' y (by omega) hy'
theorem min_key_run {s : Shared} {j : Nat} {vs zs : List V} {us ws : List Value} {Q : VK} {E : Value → Shared → Prop} (hfn : ∀ x, X.fn x = true) (hh : X.calm = true) (hr : Room (j + 2) X.A) (J : Inv X pins σ H s) (r : Vals vs us) (rz : Vals zs ws) (q : rMinKey X j σ vs zs H Q) :
    wpAny (model X.prog X.w) X.A (call (.builtin "min") us ([Str.ofString "key"].zip ws)) (EP X pins σ Q) E s := by
  have hnamez : (toString "min" ++ toString ".loop" : String) = "min.loop" := by decide
  obtain ⟨l, f, xs, kf, k, Hc, n, sp, rfl, rfl, hl, hne, hkj, F, hask, q⟩ := q
  obtain ⟨u1, rfl, e1⟩ := vals1 r
  obtain rfl : u1 = Value.ref l := e1
  obtain ⟨w1, rfl, e2⟩ := vals1 rz
  obtain rfl : w1 = Value.ref f := e2
  have hd := J.ok.hd hh
  obtain ⟨us, ru, hu⟩ := list_at J hl
  obtain ⟨ol, hol, _⟩ := id hu
  have hllz : l < s.heap.objs.size := Heap.lt_size hol
  have hpos : 0 < xs.length := List.length_pos_iff.mpr hne
  have rm : Room k X.A.in1 := (hr.in1).mono (by omega)
  refine kmk_tree PySem.F.kind_min PySem.F.plain_min PySem.F.entry_min (kmk_min_key _ _) ?_
  show wpAny _ X.A.in1 (Builtin.Builtins.bindParams "min" ["key", "default"] 0 ⟨[], [(Str.ofString "key", .ref f)]⟩ >>= _) _ _ s
  refine wpAny_bind (wpAny_of_eq (show Builtin.Builtins.bindParams "min" ["key", "default"] 0 ⟨[], [(Str.ofString "key", .ref f)]⟩ = pure [some (.ref f), none] from rfl) ?_)
  refine wpAny_bind (wpAny_pure ?_)
  refine wpAny_bind (wpAny_pyIter_list hu ?_)
  refine wpAny_bind (wpAny_newList ?_ (Nat.zero_le _))
  rw [hnamez]
  have hSz : (s.heap.push { cls := .type "list_iterator", data := .fields #[.ref l, .int 0 0] }).objs.size = s.heap.objs.size + 1 := size_push' ..
  generalize hh1 : s.heap.push { cls := .type "list_iterator", data := .fields #[.ref l, .int 0 0] } = h1
  rw [hh1] at hSz
  have k1 : ∀ b o, s.heap.get? b = some o → h1.get? b = some o := fun b o e => by rw [← hh1]; exact Heap.get?_push_of_some _ e
  have gI1 : h1.get? s.heap.objs.size = some { cls := .type "list_iterator", data := .fields #[.ref l, .int 0 0] } := by rw [← hh1]; exact Heap.get?_push_size _ rfl
  have hlI : l ≠ s.heap.objs.size := Nat.ne_of_lt hllz
  have fI : FpOk X pins H s.heap.objs.size := J.fpOk (Nat.le_refl _) (J.hok.fresh (Nat.le_refl _))
  have fS : FpOk X pins H h1.objs.size := J.fpOk (by omega) (J.hok.fresh (by omega))
  have hSI : h1.objs.size ≠ s.heap.objs.size := by omega
  refine wpAny_pure ⟨plainId_quiet PySem.F.plain_min_loop _, ?_⟩
  have gI : (h1.push (seqObj "list" #[] 0)).get? s.heap.objs.size = some { cls := .type "list_iterator", data := .fields #[.ref l, .int 0 0] } := Heap.get?_push_of_some _ gI1
  have gSz : (h1.push (seqObj "list" #[] 0)).get? h1.objs.size = some (seqObj "list" #[] 0) := Heap.get?_push_size _ rfl
  have fS0 : ∀ oI : Obj, FpOk X ((s.heap.objs.size, oI) :: pins) H h1.objs.size := fun oI => fpOk_pin fS (fun z => hSI z.symm)
  have J1 : Inv X pins σ H { s with heap := h1.push (seqObj "list" #[] 0) } := J.kept (t' := s.toks) fun b o e => Heap.get?_push_of_some _ (k1 b o e)
  have hl1 : (h1.push (seqObj "list" #[] 0)).IsList l us.toArray := hu.at fun o e => Heap.get?_push_of_some _ (k1 _ o e)
  have W := Walks.list (prog := X.prog) (w := X.w) (A := X.A.in1) hd s.heap.objs.size l hlI us.toArray
  have hsz : us.toArray.size = xs.length := by rw [List.size_toArray, ru.length]
  refine codeAny_builtin PySem.F.entry_min_loop ?_
  rw [Around.under_plainId PySem.F.plain_min_loop _]
  show wpAny _ X.A.in1 (seqItems? (.ref _) >>= _) _ _ _
  refine wpAny_bind (wpAny_seqItems gSz rfl ?_)
  show wpAny _ X.A.in1 (tryCatch (pyNext (.ref s.heap.objs.size)) _ >>= _) _ _ _
  refine wpAny_bind (wpAny_tryCatch (W.item 0 _ _ _ (by rw [hsz]; exact hpos) ⟨⟨_, gI, rfl, rfl⟩, hl1⟩ fun v h' tk' hP hst' hk' => ?_))
  have hy : xs[0]? = some xs[0] := List.getElem?_eq_getElem hpos
  obtain ⟨v', hv', rv⟩ := ru.get hy
  have hv : us[0]? = some v := by simpa using hP
  rw [hv] at hv'
  cases hv'
  obtain ⟨oIz', hoI', hoc, hod⟩ := id hst'.1
  have dI : ∀ v, oIz'.data ≠ .cell v := fun v z => by
    rw [hod] at z
    cases z
  have J2 : Inv X ((h1.objs.size, seqObj "list" #[] 0) :: (s.heap.objs.size, oIz') :: pins) σ H { s with heap := h', toks := tk' } := by
    have a1 : Inv X pins σ H { s with heap := h', toks := tk' } := Inv.turnedL (s := { s with heap := h1.push (seqObj "list" #[] 0) }) J1 (ch := [s.heap.objs.size]) (fun b o hb e => hk' b o hb e) fun b hb => by
      rw [List.mem_singleton.mp hb]
      exact fI
    exact inv_pin (inv_pin a1 fI hoI' dI) (fS0 _) (hk' _ _ (by simpa using hSI) gSz) fun v z => nomatch z
  show wpAny _ X.A.in1 (tryCatch (holding [v] (call (.ref f) [v])) _ >>= _) _ _ _
  refine wpAny_bind (wpAny_tryCatch (wpAny_holding (wpAny_mono (key_call (E := fun _ _ => False) hfn F rm rfl J2 rv (hask _ (List.mem_of_getElem? hy))) (fun w s2 he => ?_) fun _ _ hF => hF.elim)))
  obtain ⟨⟨t2, rfl⟩, J3⟩ := he
  have nS2 := pin0 J3
  have nI2 := pin0 (inv_unpin J3)
  have s1 := Heap.SameBut.update s2.heap h1.objs.size (Obj.mapSeq fun _ => #[v, .int (kf xs[0]) t2])
  obtain ⟨c2, hc2⟩ : ∃ c2, (s2.heap.update h1.objs.size (Obj.mapSeq fun _ => #[v, .int (kf xs[0]) t2])).get? h1.objs.size = some (seqObj "list" #[v, .int (kf xs[0]) t2] c2) := ⟨_, get?_update_seq nS2 fun _ => #[v, .int (kf xs[0]) t2]⟩
  show wpAny _ X.A.in1 (updateSeq h1.objs.size (fun _ => #[v, .int (kf xs[0]) t2]) >>= _) _ _ _
  refine wpAny_bind ?_
  refine wpAny_updateSeq nS2 rfl ?_
  rw [hnamez]
  refine wpAny_pure ⟨plainId_quiet PySem.F.plain_min_loop _, min_loop hfn F rm hd hl hlI hSI fS fI hask (fun i x u s' hx hb ru' J' => ⟨x, H, J', ru', q i x hx hb⟩) _ 0 0 _ xs[0] v t2 c2 oIz' rfl hpos (inv_repin (t' := s2.toks) J3 (fS0 _) (fun b o hb e => (s1.2 b hb).trans e) hc2 fun v z => nomatch z)
    ⟨oIz', (s1.2 _ hSI.symm).trans nI2, hoc, hod⟩ hy rv (Nat.le_refl _) fun j' y hj' hy' => ?_⟩
  have e : j' = 0 := by omega
  subst e
  rw [hy] at hy'
  cases hy'
  exact ⟨Int.le_refl _, fun h => absurd h (Nat.lt_irrefl _)⟩
end
/-! ### the rules -/
section
variable {X : Cx} {j : Nat} {ea ek : Expr} {ta tk : TE} {p pos kpos : Pos}
theorem pe_keyed {b : String} {x : Str} {r : L2.St → List V → List V → Hp → VK → Prop} (hg : Gl X x) (hm : X.mg x = none) (hb : bootBuiltins x = some (.builtin b)) (hn : x ≠ "__name__") (hdb : (x == ("__debug__" : Str)) = false)
    (run : ∀ (pins : List (Addr × Obj)) (s : Shared) (σ : L2.St) (H : Hp) (vs zs : List V) (us ws : List Value) (Q : VK), Inv X pins σ H s → Vals vs us → Vals zs ws → r σ vs zs H Q → wpAny (model X.prog X.w) X.A (call (.builtin b) us ([Str.ofString "key"].zip ws)) (EP X pins σ Q) X.xe s)
    (ha : PE X ea ta) (hk : PE X ek tk) (hs : starEach [ea] X.env = (false, eval ea X.env) :: starEach [] X.env := by rfl) (hc : backTo pos (starEach [ea] X.env) = (false, eval ea X.env) :: backTo pos (starEach [] X.env) := by rfl) (hpl : (backTo pos (starEach [ea] X.env)).any (·.1) = false := by rfl) :
    PE X (.Call (.Name x p) [ea] [⟨some (Str.ofString "key"), ek, kpos⟩] pos) (tKeyed r ta tk) := by
  refine ⟨fun pins s σ H Q I h => wpAny_Call_Name_kw (ld_blt I hg hm hb (PyProof.Rows.callWith_kw (thn ((pa_cons ha pa_nil hs).run pos pins s σ H (fun vs H1 => tk σ H1 fun z H2 => r σ vs [z] H2 Q) I h) fun us s1 ⟨vs, H1, I1, rv, q⟩ => ?_) hc hpl) hn hdb)⟩
  refine thn ((pk_cons (nm := some (Str.ofString "key")) (kpos := kpos) hk pk_nil).run pos pins s1 σ H1 (fun zs H2 => r σ vs zs H2 Q) I1 q) fun ws s2 ⟨zs, H2, I2, rz, q2⟩ => ?_
  exact run pins s2 σ H2 _ _ _ _ Q I2 rv rz q2
end
end Rw
set_option maxHeartbeats 4000000
/-! enumerate over a tuple. -/
namespace PySem
open PySem.Sem (wp)
theorem meets_enum1 {v : Value} {o : Obj} {H : Heap → Prop} (B : Begins v o H) :
    Meets (Builtin.«enumerate.__new__» ⟨[.type "enumerate", v], []⟩) (fun _ R s => H s.heap ∧
      R (.ok (.ret (.ref (s.heap.push o).objs.size))) { s with heap := (s.heap.push o).push { cls := .type "enumerate", data := .fields #[.none, .bool false, .ref s.heap.objs.size, rawInt 0, .none, .none] } }) :=
  .of_wp fun prog w A R s h => by
    obtain ⟨hpz, g, d, tk, os⟩ := s; obtain ⟨h1, h⟩ := h
    have hsub := sub_enumerate
    have q1 : ∀ {A' : Around} {E : Value → Shared → Prop} {Q : Value → Shared → Prop}, Q (.ref hpz.objs.size) ⟨hpz.push o, g, d, tk, os⟩ → wpAny (model prog w) A' (pyIter v) Q E ⟨hpz, g, d, tk, os⟩ :=
      fun q => B.iter prog w _ _ ⟨hpz, g, d, tk, os⟩ _ h1 q
    wp_walk using q1
    refine wpAny_stack_any fun st => wpAny_pure ?_
    split
    · rename_i c _ _ _ _ _
      cases (c == Value.type "enumerate")
      · wp_walk using q1
        exact ⟨_, rfl, h⟩
      · wp_walk using q1
        exact ⟨_, rfl, h⟩
    · wp_walk using q1
      exact ⟨_, rfl, h⟩
section
variable {prog : Program} {w : World} {A : Around} {E : Value → Shared → Prop} {s : Shared}
theorem call_enum1 {v : Value} {o : Obj} {H : Heap → Prop} {Q : Value → Shared → Prop} (B : Begins v o H) (h1 : H s.heap)
    (h : ∀ h', IsEnum h' (s.heap.objs.size + 1) s.heap.objs.size 0 .none → h'.get? s.heap.objs.size = some o → h'.objs.size = s.heap.objs.size + 2 →
      (∀ b o, s.heap.get? b = some o → h'.get? b = some o) → Q (.ref (s.heap.objs.size + 1)) { s with heap := h' }) :
    wpAny (model prog w) A (call (.type "enumerate") [v]) Q E s := by
  refine callType_new F.called_enumerate (by decide) (F.typeCall_enumerate_1 _) (F.newCall_enumerate_1 _) (fun objz => F.args_object_init_2 objz _) F.entry_enumerate_new
    (meets_enum1 B) ⟨h1, ?_⟩
  have hzz : (s.heap.push o).objs.size = s.heap.objs.size + 1 := Heap.size_push ..
  show _ ∧ _
  rw [hzz]
  have he : IsEnum ((s.heap.push o).push { cls := .type "enumerate", data := .fields #[.none, .bool false, .ref s.heap.objs.size, rawInt 0, .none, .none] }) (s.heap.objs.size + 1) s.heap.objs.size 0 .none := by
    have := Heap.get?_push_size (s.heap.push o) (o := { cls := .type "enumerate", data := .fields #[.none, .bool false, .ref s.heap.objs.size, rawInt 0, .none, .none] }) rfl
    rw [hzz] at this; exact this
  refine ⟨⟨_, he, rfl⟩, h _ he (Heap.get?_push_of_some _ (Heap.get?_push_size _ B.free)) (by rw [Heap.size_push, hzz]) fun b o x => Heap.get?_push_of_some _ (Heap.get?_push_of_some _ x)⟩
end
end PySem
namespace Rw
open PySem PySem.Spec PyProof.Rows L2 LamX NdefX
/-- the tuple at a, each item in a new pair -/
def IteT (K : PySem.W.Frag) (a : Addr) : It :=
  ⟨fun i H => ∃ (xs : List V) (x : V), SqT K H a xs ∧ xs[i]? = some x, fun i H v H' => ∃ T x, v = .ref T ∧ H T = none ∧ H' = upd H T (.tup [.int (i : Nat), x]) ∧ ∀ xs, SqT K H a xs → xs[i]? = some x, fun i H => ∃ xs : List V, SqT K H a xs ∧ xs.length ≤ i⟩
theorem tup_inj {X : Cx} {pins : List (Addr × Obj)} {σ : L2.St} {H : Hp} {s : Shared} {a : Addr} {xs ys : List V} (I : Inv X pins σ H s) (hx : SqT X.K H a xs) (hy : SqT X.K H a ys) : xs = ys := by
  obtain ⟨us, r, ⟨o, e, c, n, d⟩, _⟩ := I.tuple hx
  obtain ⟨ws, q, ⟨o', e', c', n', d'⟩, _⟩ := I.tuple hy
  rw [e] at e'
  cases e'
  rw [d] at d'
  have z : us = ws := by
    have := congrArg (fun z : Data => match z with | .seq a _ => a.toList | _ => []) d'
    simpa using this
  subst z
  rw [← bk_map r, ← bk_map q]
theorem turn_enumT {P : Program} {w : World} {K : PySem.W.Frag} {elts : List Expr} {kk : Nat} {tpos : Pos} (a e it : Addr) :
    Turn P w K (.Tuple elts kk tpos) (IteT K a) [e, it] e (fun i h => (∃ old, IsEnum h e it ((i : Nat) : Int) old) ∧ h.IsTupleIter it a i ∧ e ≠ it ∧ a ≠ it ∧ a ≠ e) where
  mem := by simp
  obj := fun i h st b hb => by
    obtain ⟨⟨old, hez⟩, ⟨o, hoz, hc, hd⟩, _⟩ := st
    have ez' : b = e ∨ b = it := by simpa using hb
    rcases ez' with zz | zz
    · rw [zz]; exact ⟨_, hez, fun v q => nomatch q⟩
    · rw [zz]; exact ⟨o, hoz, fun v q => by rw [hd] at q; cases q⟩
  keep := fun i h h' st k => let ⟨⟨old, hez⟩, hi, hne, h2, h3⟩ := st; ⟨⟨old, k e (by simp) _ hez⟩, hi.at fun o q => k it (by simp) o q, hne, h2, h3⟩
  item := by
    intro X hPz hw hK hc i pins s σ H E I hf st hg
    subst hPz hw hK
    obtain ⟨⟨old, hez⟩, hit, hne, hai, hae⟩ := st
    obtain ⟨xs, x, hq, hx⟩ := hg
    obtain ⟨itsz, rv, p, hz⟩ := I.tuple hq
    obtain ⟨u, huz, ru⟩ := rv.get hx
    have hel : e < s.heap.objs.size := Heap.lt_size hez
    have hilz : it < s.heap.objs.size := by obtain ⟨_, q, _⟩ := hit; exact Heap.lt_size q
    have D := Draws.tuple (prog := X.prog) (w := X.w) (A := X.A.in1) (I.ok.hd hc) it a hai itsz.toArray
    have hlt : i < itsz.toArray.size := by
      have := (List.getElem?_eq_some_iff.mp huz).1
      simpa using this
    refine wpAny_pyNext_enum_itemD D hez ⟨hit, p⟩ hlt hne (by simp [hne, Ne.symm hae]) fun u' h' tk hPz hoz hit' hT hsz hk => ?_
    have eu : u' = u := by
      have : itsz[i]? = some u' := by simpa using hPz
      rw [huz] at this
      exact (Option.some.inj this).symm
    subst eu
    refine ⟨_, rfl, wpAny_letOwnedTupleGo_enum (s := { s with heap := h', toks := tk + 1 }) hoz fun h'' he' sb => ?_⟩
    have hT2 : h''.get? s.heap.objs.size = some { cls := .type "tuple", data := .seq #[.int i tk, u'] } := (sb.2 _ (Nat.ne_of_gt hel)).trans hT
    have newz : ObjOk X.prog X.w (upd H s.heap.objs.size (.tup [.int (i : Nat), x])) h'' s.heap.objs.size (.tup [.int (i : Nat), x]) :=
      ⟨by show 2 ≤ sizeLine; decide, [.int i tk, u'], .cons ⟨_, rfl⟩ (.cons ru .nil), ⟨_, hT2, rfl, _, rfl⟩⟩
    have I1 : Inv X pins σ (upd H s.heap.objs.size (.tup [.int (i : Nat), x])) { s with heap := h'', toks := tk + 1 } :=
      I.turnedNew (ch := [e, it]) (fun b ob hb q => (sb.2 b (fun zz => hb (by simp [zz]))).trans (hk b ob (fun zz => hb (by simp [zz])) (fun zz => hb (by simp [zz])) q)) hf (Nat.le_refl _) newz
    refine ⟨.ref s.heap.objs.size, _, I1, rfl, ⟨_, x, rfl, I.hok.fresh (Nat.le_refl _), rfl, fun ys hy => by rw [tup_inj I hy hq]; exact hx⟩, ⟨⟨u', ?_⟩, hit'.1.at fun o q => (sb.2 it (Ne.symm hne)).trans q, hne, hai, hae⟩, fun b hb => ?_⟩
    · have e1z : ((i + 1 : Nat) : Int) = (i : Int) + 1 := by omega
      rw [e1z]; exact he'
    · have hbz' : b < s.heap.objs.size := by
        have ez' : b = e ∨ b = it := by simpa using hb
        rcases ez' with zz | zz
        · rw [zz]; exact hel
        · rw [zz]; exact hilz
      rw [upd_ne (Nat.ne_of_lt hbz')]
      exact (hf b hb).1
  done := by
    intro X hPz hw hK hc i pins s σ H E I hf st hg
    subst hPz hw hK
    obtain ⟨⟨old, hez⟩, hit, hne, hai, hae⟩ := st
    obtain ⟨xs, hq, hx⟩ := hg
    obtain ⟨itsz, rv, p, hz⟩ := I.tuple hq
    obtain ⟨f0z, f1, f2, f3, f4, f5⟩ := hf it (by simp)
    have hl := rv.length
    have D : Draws X.prog X.w X.A.in1 it [it, a] 0 (fun _ _ => True) (fun _ h => h.IsTupleIter it a i ∧ h.IsTuple a itsz.toArray) := {
      live := fun _ _ st => let ⟨o, hoz, _⟩ := st.1; ⟨o, hoz⟩
      frame := fun _ _ _ st hk => ⟨st.1.at fun o e => hk it (by simp) o e, st.2.at fun o e => hk a (by simp) o e⟩
      item := fun j s Q E hi _ _ => absurd hi (Nat.not_lt_zero _)
      done := fun s Q E st hE => wpAny_nextOf_tuple_end (I.ok.hd hc) st.1 st.2 (by simp; omega) hE }
    exact wpAny_pyNext_enum_endD D hez ⟨hit, p⟩ fun h' eb => ⟨rfl, I.turned (t' := s.toks) (fun b o hb q => eb b o hb q) f0z f1 f3 f4 f5⟩
  self := fun A i s Q E st h => let ⟨⟨_, hez⟩, _⟩ := st; wpAny_pyIter_enum hez h
/-- enumerate(e), e a list or a tuple -/
def iEnumT (K : PySem.W.Frag) (ta : TA) : TI := fun σ H R => ta σ H fun vs H1 => ∃ a xs, vs = [.ref a] ∧ SqT K H1 a xs ∧ R (IteT K a) H1
theorem pi_enumT {X : Cx} {e : Expr} {ta : TA} {p pos tpos : Pos} {elts : List Expr} {kk : Nat} (hg : Gl X "enumerate") (hm : X.mg "enumerate" = none) (ha : PA X [e] ta) (hs : starEach [e] X.env = [(false, eval e X.env)] := by rfl) :
    PI X (.Tuple elts kk tpos) (.Call (.Name "enumerate" p) [e] [] pos) (iEnumT X.K ta) := by
  refine ⟨fun pinsz s σ H R I h => ?_⟩
  refine Call_ (ld_blt I hg hm boot_enumerate (PyProof.Rows.callWith_type1 (thn (ha.run pos pinsz s σ H _ I h) fun us s1 ⟨vs, H1, I1, r1, q1⟩ => ?_) hs rfl))
  obtain ⟨a, xs, exz, hq, q⟩ := q1
  subst exz
  cases r1 with
  | cons r rr =>
    cases rr
    cases r
    obtain ⟨its, rv, p', hz⟩ := I1.tuple hq
    have la : a < s1.heap.objs.size := let ⟨_, e, _⟩ := p'; Heap.lt_size e
    refine call_enum1 (begins_tuple a its.toArray) p' fun h' he ho hsz hk => wpAny_pyIter_enum he ?_
    have I2 : Inv X pinsz σ H1 { s1 with heap := h' } := I1.kept (t' := s1.toks) hk
    refine ⟨s1.heap.objs.size + 1, [s1.heap.objs.size + 1, s1.heap.objs.size], _, _, H1, rfl, I2, turn_enumT a (s1.heap.objs.size + 1) s1.heap.objs.size, ⟨⟨.none, he⟩, ⟨_, ho, rfl, rfl⟩, Nat.succ_ne_self _, Nat.ne_of_lt la, Nat.ne_of_lt (Nat.lt_succ_of_lt la)⟩, fun b hb => ?_, q⟩
    have ez' : b = s1.heap.objs.size + 1 ∨ b = s1.heap.objs.size := by simpa using hb
    have hlez : s1.heap.objs.size ≤ b := by
      rcases ez' with z | z
      · rw [z]; exact Nat.le_add_right _ _
      · rw [z]; exact Nat.le_refl _
    exact I1.fpOk hlez (I1.hok.fresh hlez)
/-- .. whichever -/
def iEnumA (K : PySem.W.Frag) (ta : TA) : TI := fun σ H R => ta σ H fun vs H1 => ∃ a xs, vs = [.ref a] ∧ ((SqL K H1 a xs ∧ R (Ite K a) H1) ∨ (SqT K H1 a xs ∧ R (IteT K a) H1))
theorem pi_enumA {X : Cx} {e : Expr} {ta : TA} {p pos tpos : Pos} {elts : List Expr} {kk : Nat} (hg : Gl X "enumerate") (hm : X.mg "enumerate" = none) (ha : PA X [e] ta) (hs : starEach [e] X.env = [(false, eval e X.env)] := by rfl) :
    PI X (.Tuple elts kk tpos) (.Call (.Name "enumerate" p) [e] [] pos) (iEnumA X.K ta) := by
  refine ⟨fun pinsz s σ H R I h => ?_⟩
  refine Call_ (ld_blt I hg hm boot_enumerate (PyProof.Rows.callWith_type1 (thn (ha.run pos pinsz s σ H _ I h) fun us s1 ⟨vs, H1, I1, r1, q1⟩ => ?_) hs rfl))
  obtain ⟨a, xs, ex, q⟩ := q1
  subst ex
  have fp : ∀ b ∈ [s1.heap.objs.size + 1, s1.heap.objs.size], FpOk X pinsz H1 b := fun b hb => by
    have ez' : b = s1.heap.objs.size + 1 ∨ b = s1.heap.objs.size := by simpa using hb
    have hlez : s1.heap.objs.size ≤ b := by
      rcases ez' with z | z
      · rw [z]; exact Nat.le_add_right _ _
      · rw [z]; exact Nat.le_refl _
    exact I1.fpOk hlez (I1.hok.fresh hlez)
  cases r1 with
  | cons r rr =>
    cases rr
    cases r
    rcases q with ⟨hqz, q⟩ | ⟨hqz, q⟩
    · obtain ⟨its, rv, pz', hz⟩ := I1.list hqz
      refine call_enumerate_list pz'.isList fun h' he hit hsz hk => wpAny_pyIter_enum he ?_
      have I2 : Inv X pinsz σ H1 { s1 with heap := h' } := I1.kept (t' := s1.toks) hk
      exact ⟨s1.heap.objs.size + 1, [s1.heap.objs.size + 1, s1.heap.objs.size], _, _, H1, rfl, I2, turn_enum a (s1.heap.objs.size + 1) s1.heap.objs.size, ⟨⟨.none, he⟩, hit, Nat.succ_ne_self _⟩, fp, q⟩
    · obtain ⟨its, rv, pz', hz⟩ := I1.tuple hqz
      have la : a < s1.heap.objs.size := let ⟨_, e, _⟩ := pz'; Heap.lt_size e
      refine call_enum1 (begins_tuple a its.toArray) pz' fun h' he ho hsz hk => wpAny_pyIter_enum he ?_
      have I2 : Inv X pinsz σ H1 { s1 with heap := h' } := I1.kept (t' := s1.toks) hk
      exact ⟨s1.heap.objs.size + 1, [s1.heap.objs.size + 1, s1.heap.objs.size], _, _, H1, rfl, I2, turn_enumT a (s1.heap.objs.size + 1) s1.heap.objs.size, ⟨⟨.none, he⟩, ⟨_, ho, rfl, rfl⟩, Nat.succ_ne_self _, Nat.ne_of_lt la, Nat.ne_of_lt (Nat.lt_succ_of_lt la)⟩, fp, q⟩
end Rw
set_option maxHeartbeats 4000000
/-! dict(zip(a, b)), a and b lists or tuples. -/
namespace PySem
section
variable {prog : Program} {w : World} {A : Around} {E : Value → Shared → Prop} {s : Shared} {z TI TO T i1 i2 : Addr} {f : Bool} {oT : Obj} {fp1 fp2 : List Addr} {n1 n2 i : Nat} {P1 P2 : Nat → Value → Prop} {St1 St2 : Nat → Heap → Prop}
theorem zipH_next_item {Q : Value → Shared → Prop} (S : ZipSep2 z TI TO i1 i2 fp1 fp2) (D1 : Draws prog w A i1 fp1 n1 P1 St1) (D2 : Draws prog w A i2 fp2 n2 P2 St2)
    (hz : IsZipHeld s.heap z TI TO T f) (hT : s.heap.get? T = some oT) (hTI : IsTupOf2 s.heap TI (.ref i1) (.ref i2)) (st1 : St1 i s.heap) (st2 : St2 i s.heap) (hlt1 : i < n1) (hlt2 : i < n2)
    (hQ : ∀ x y h' tk, P1 i x → P2 i y → IsZipHeld h' z TI TO T true → St1 (i + 1) h' → St2 (i + 1) h' → IsTupOf2 h' s.heap.objs.size x y → h'.objs.size = s.heap.objs.size + 1 →
      (∀ c o, c ≠ z → c ≠ i1 → c ≠ i2 → s.heap.get? c = some o → h'.get? c = some o) → Q (.ref s.heap.objs.size) { s with heap := h', toks := tk }) :
    wpAny (model prog w) A (Builtin.«zip.__next__» ⟨[.ref z], []⟩) (fun fin s' => ∃ v, fin = .done (.ret v) ∧ Q v s') E s := by
  obtain ⟨hpz, g, d, tk0, os⟩ := s
  show wpAny _ _ (field (.ref z) 2 >>= _) _ _ _
  refine wpAny_bind (wpAny_field hz rfl (x := .bool false) rfl ?_)
  show wpAny _ _ (field (.ref z) 3 >>= _) _ _ _
  refine wpAny_bind (wpAny_field hz rfl (x := .ref TI) rfl ?_)
  refine wpAny_bind (wpAny_seqItems hTI rfl ?_)
  show wpAny _ _ (Builtin.SmallTypes.ownedTupleIsFree (.ref z) >>= _) _ _ _
  refine wpAny_bind (wpAny_tupleHeld_zip hz hT fun h₁z hz₁ hs₁ => ?_)
  replace hs₁ : Heap.SameBut z hpz h₁z := hs₁
  simp only [Bool.false_eq_true, if_false]
  refine wpAny_bind ?_
  rw [← Array.forIn_toList]
  simp only [List.forIn_cons, List.forIn_nil]
  refine wpAny_bind (wpAny_bind (wpAny_holding ?_))
  show wpAny _ _ (Builtin.SmallTypes.nextOf (.ref i1) >>= _) _ _ ⟨h₁z, g, d, tk0, os⟩
  refine wpAny_bind (D1.item i _ _ _ hlt1 (D1.over st1 hs₁ S.zf1) fun x h₂ tk1 hx sn1 hs₂ => wpAny_pure ?_)
  replace hs₂ : Heap.SameBut i1 h₁z h₂ := hs₂
  refine wpAny_pure ?_
  refine wpAny_bind (wpAny_bind (wpAny_holding ?_))
  show wpAny _ _ (Builtin.SmallTypes.nextOf (.ref i2) >>= _) _ _ ⟨h₂, g, d, tk1, os⟩
  refine wpAny_bind (D2.item i _ _ _ hlt2 (D2.over (D2.over st2 hs₁ S.zf2) hs₂ S.sep1_2) fun y h₃ tk2 hy sn2 hs₃ => wpAny_pure ?_)
  replace hs₃ : Heap.SameBut i2 h₂ h₃ := hs₃
  refine wpAny_pure (wpAny_pure ?_)
  show wpAny _ _ (newTuple [x, y] >>= _) _ _ _
  refine wpAny_bind (wpAny_newTuple ?_)
  have hsz : h₃.objs.size = hpz.objs.size := by rw [hs₃.1, hs₂.1, hs₁.1]
  have hz₃ : IsZipHeld h₃ z TI TO T true := hs₃.extBut _ _ S.zi2 (hs₂.extBut _ _ S.zi1 hz₁)
  have hk : ∀ c o, c ≠ z → c ≠ i1 → c ≠ i2 → hpz.get? c = some o → h₃.get? c = some o := fun c o c1 c2 c3 e => hs₃.extBut _ _ c3 (hs₂.extBut _ _ c2 (hs₁.extBut _ _ c1 e))
  have h1₃ : St1 (i + 1) h₃ := D1.over sn1 hs₃ S.sep2_1
  refine wpAny_pure ⟨_, rfl, ?_⟩
  show Q (.ref h₃.objs.size) _
  have hp' : IsTupOf2 (h₃.push { cls := .type "tuple", data := .seq #[x, y] }) h₃.objs.size x y := Heap.get?_push_size _ rfl
  have hz4z : (h₃.push { cls := .type "tuple", data := .seq #[x, y] }).objs.size = h₃.objs.size + 1 := Heap.size_push ..
  rw [hsz] at hp' hz4z ⊢
  exact hQ x y _ tk2 hx hy (Heap.get?_push_of_some _ hz₃) (D1.frame _ _ _ h1₃ fun b _ o e => Heap.get?_push_of_some _ e) (D2.frame _ _ _ sn2 fun b _ o e => Heap.get?_push_of_some _ e) hp' hz4z fun c o c1 c2 c3 e => Heap.get?_push_of_some _ (hk c o c1 c2 c3 e)
theorem zipH_next_end {Q : Fin → Shared → Prop} (S : ZipSep2 z TI TO i1 i2 fp1 fp2) (D1 : Draws prog w A i1 fp1 n1 P1 St1) (D2 : Draws prog w A i2 fp2 n2 P2 St2)
    (hz : IsZipHeld s.heap z TI TO T f) (hT : s.heap.get? T = some oT) (hTI : IsTupOf2 s.heap TI (.ref i1) (.ref i2)) (st1 : St1 i s.heap) (st2 : St2 i s.heap) (hle1 : i ≤ n1) (hle2 : i ≤ n2) (hend : i = n1 ∨ i = n2)
    (hE : ∀ h' tk e, (∀ c o, c ≠ z → c ≠ i1 → c ≠ i2 → s.heap.get? c = some o → h'.get? c = some o) → (∃ o, h'.get? e = some o ∧ o.cls = .type "StopIteration") → E (.ref e) { s with heap := h', toks := tk }) :
    wpAny (model prog w) A (Builtin.«zip.__next__» ⟨[.ref z], []⟩) Q E s := by
  obtain ⟨hpz, g, d, tk0, os⟩ := s
  show wpAny _ _ (field (.ref z) 2 >>= _) _ _ _
  refine wpAny_bind (wpAny_field hz rfl (x := .bool false) rfl ?_)
  show wpAny _ _ (field (.ref z) 3 >>= _) _ _ _
  refine wpAny_bind (wpAny_field hz rfl (x := .ref TI) rfl ?_)
  refine wpAny_bind (wpAny_seqItems hTI rfl ?_)
  show wpAny _ _ (Builtin.SmallTypes.ownedTupleIsFree (.ref z) >>= _) _ _ _
  refine wpAny_bind (wpAny_tupleHeld_zip hz hT fun h₁z hz₁ hs₁ => ?_)
  replace hs₁ : Heap.SameBut z hpz h₁z := hs₁
  simp only [Bool.false_eq_true, if_false]
  refine wpAny_bind ?_
  rw [← Array.forIn_toList]
  simp only [List.forIn_cons, List.forIn_nil]
  refine wpAny_bind (wpAny_bind (wpAny_holding ?_))
  show wpAny _ _ (Builtin.SmallTypes.nextOf (.ref i1) >>= _) _ _ ⟨h₁z, g, d, tk0, os⟩
  by_cases hlt1 : i < n1
  · refine wpAny_bind (D1.item i _ _ _ hlt1 (D1.over st1 hs₁ S.zf1) fun x h₂ tk1 hx sn1 hs₂ => wpAny_pure ?_)
    replace hs₂ : Heap.SameBut i1 h₁z h₂ := hs₂
    refine wpAny_pure ?_
    have hi2 : i = n2 := by omega
    refine wpAny_bind (wpAny_bind (wpAny_holding ?_))
    show wpAny _ _ (Builtin.SmallTypes.nextOf (.ref i2) >>= _) _ _ ⟨h₂, g, d, tk1, os⟩
    refine wpAny_bind (D2.done ⟨h₂, g, d, tk1, os⟩ _ _ (by rw [← hi2]; exact (D2.over (D2.over st2 hs₁ S.zf2) hs₂ S.sep1_2)) fun q e hq he => ?_)
    exact hE q tk1 e (fun c o c1 c2 c3 x => hq _ _ c3 (hs₂.extBut _ _ c2 (hs₁.extBut _ _ c1 x))) he
  · have hi1z : i = n1 := by omega
    refine wpAny_bind (D1.done ⟨h₁z, g, d, tk0, os⟩ _ _ (by rw [← hi1z]; exact (D1.over st1 hs₁ S.zf1)) fun q e hq he => ?_)
    exact hE q tk0 e (fun c o c1 c2 c3 x => hq _ _ c2 (hs₁.extBut _ _ c1 x)) he
theorem pyNext_zipH_item {Q : Option Value → Shared → Prop} (S : ZipSep2 z TI TO i1 i2 fp1 fp2) (D1 : Draws prog w A.in1 i1 fp1 n1 P1 St1) (D2 : Draws prog w A.in1 i2 fp2 n2 P2 St2)
    (hz : IsZipHeld s.heap z TI TO T f) (hT : s.heap.get? T = some oT) (hTI : IsTupOf2 s.heap TI (.ref i1) (.ref i2)) (st1 : St1 i s.heap) (st2 : St2 i s.heap) (hlt1 : i < n1) (hlt2 : i < n2)
    (hQ : ∀ x y h' tk, P1 i x → P2 i y → IsZipHeld h' z TI TO T true → St1 (i + 1) h' → St2 (i + 1) h' → IsTupOf2 h' s.heap.objs.size x y → h'.objs.size = s.heap.objs.size + 1 →
      (∀ c o, c ≠ z → c ≠ i1 → c ≠ i2 → s.heap.get? c = some o → h'.get? c = some o) → Q (some (.ref s.heap.objs.size)) { s with heap := h', toks := tk }) : wpAny (model prog w) A (pyNext (.ref z)) Q E s := by
  have hTyz : s.TypeIs (.ref z) "zip" := ⟨_, hz, rfl⟩
  unfold pyNext
  exact wpAny_bind (wpAny_attempt (wpAny_callSpecial?_slot (name := Str.ofString "__next__") hTyz F.slot_zip_next
    (wpAny_call_entry F.slot_zip_next hTyz F.entry_zip_next
      (zipH_next_item S D1 D2 hz hT hTI st1 st2 hlt1 hlt2 fun x y h' tk a1 a2 a3 a4 a5 a6 a7 a8 => wpAny_pure (hQ x y h' tk a1 a2 a3 a4 a5 a6 a7 a8)) (F.args_zip_next_1 _))))
theorem pyNext_zipH_end {Q : Option Value → Shared → Prop} (S : ZipSep2 z TI TO i1 i2 fp1 fp2) (D1 : Draws prog w A.in1 i1 fp1 n1 P1 St1) (D2 : Draws prog w A.in1 i2 fp2 n2 P2 St2)
    (hz : IsZipHeld s.heap z TI TO T f) (hT : s.heap.get? T = some oT) (hTI : IsTupOf2 s.heap TI (.ref i1) (.ref i2)) (st1 : St1 i s.heap) (st2 : St2 i s.heap) (hle1 : i ≤ n1) (hle2 : i ≤ n2) (hend : i = n1 ∨ i = n2)
    (hQ : ∀ h' tk, (∀ c o, c ≠ z → c ≠ i1 → c ≠ i2 → s.heap.get? c = some o → h'.get? c = some o) → Q none { s with heap := h', toks := tk }) : wpAny (model prog w) A (pyNext (.ref z)) Q E s := by
  have hTyz : s.TypeIs (.ref z) "zip" := ⟨_, hz, rfl⟩
  unfold pyNext
  refine wpAny_bind (wpAny_attempt (wpAny_callSpecial?_slot (name := Str.ofString "__next__") hTyz F.slot_zip_next
    (wpAny_call_entry F.slot_zip_next hTyz F.entry_zip_next (zipH_next_end S D1 D2 hz hT hTI st1 st2 hle1 hle2 hend fun h' tk e hk he => ?_) (F.args_zip_next_1 _))))
  obtain ⟨o, hoz, hc⟩ := he
  refine wpAny_bind (wpAny_isInstance (T := "StopIteration") (b := true) ⟨o, hoz, hc⟩ isSubtype_stop ?_)
  exact wpAny_pure (hQ _ _ hk)
end
section
variable {prog : Program} {w : World} {z TI TO i1 i2 : Addr} {fp1 fp2 : List Addr} {n : Nat} {P1 P2 : Nat → Value → Prop} {St1 St2 : Nat → Heap → Prop}
theorem PairArg.zipD (S : ZipSep2 z TI TO i1 i2 fp1 fp2) (D1 : ∀ A : Around, A.handled = none → Draws prog w A i1 fp1 n P1 St1) (D2 : ∀ A : Around, A.handled = none → Draws prog w A i2 fp2 n P2 St2)
    (t1 : ∀ i h, St1 i h → ∀ b ∈ fp1, ∃ o, h.get? b = some o) (t2 : ∀ i h, St2 i h → ∀ b ∈ fp2, ∃ o, h.get? b = some o) (A0 : Around) (h0 : A0.handled = none) :
    PairArg prog w "zip" z (z :: TI :: TO :: (fp1 ++ fp2)) [z, TO, i1, i2] n (fun i k v => P1 i k ∧ P2 i v)
      (fun h => IsZip h z TI TO .none ∧ IsTupOf2 h TI (.ref i1) (.ref i2) ∧ (∃ a b, IsTupOf2 h TO a b) ∧ St1 0 h ∧ St2 0 h) where
  type := fun s ok => ⟨_, ok.1, rfl⟩
  notDict := by decide
  keep := fun h h' ok hk => by
    obtain ⟨hzz, hTI, ⟨a, b, hTO⟩, s1, s2⟩ := ok
    exact ⟨hk _ _ hzz, hk _ _ hTI, ⟨a, b, hk _ _ hTO⟩, (D1 A0 h0).frame _ _ _ s1 fun b _ o e => hk b o e, (D2 A0 h0).frame _ _ _ s2 fun b _ o e => hk b o e⟩
  there := fun h ok b hbz => by
    obtain ⟨hzz, hTI, ⟨a, c, hTO⟩, s1, s2⟩ := ok
    rcases List.mem_cons.mp hbz with rfl | hbz
    · exact ⟨_, hzz⟩
    rcases List.mem_cons.mp hbz with rfl | hbz
    · exact ⟨_, hTI⟩
    rcases List.mem_cons.mp hbz with rfl | hbz
    · exact ⟨_, hTO⟩
    rcases List.mem_append.mp hbz with hbz | hbz
    · exact t1 _ _ s1 b hbz
    · exact t2 _ _ s2 b hbz
  sub := fun b hbz => by
    have hb' : b = z ∨ b = TO ∨ b = i1 ∨ b = i2 := by simpa using hbz
    rcases hb' with rfl | rfl | rfl | rfl
    · exact List.mem_cons_self ..
    · exact List.mem_cons_of_mem _ (List.mem_cons_of_mem _ (List.mem_cons_self ..))
    · exact List.mem_cons_of_mem _ (List.mem_cons_of_mem _ (List.mem_cons_of_mem _ (List.mem_append_left _ S.mem1)))
    · exact List.mem_cons_of_mem _ (List.mem_cons_of_mem _ (List.mem_cons_of_mem _ (List.mem_append_right _ S.mem2)))
  noKeys := fun A s Q E hAz ok h => getAttrOr_miss_zip ok.1 rfl rfl rfl zip_no_keys (by decide +kernel) hAz h
  iter := fun A s d Q E hAz ok hd hdf h => by
    obtain ⟨hzz, hTI, ⟨a, b, hTO⟩, s1, s2⟩ := ok
    have dz : d ≠ z := fun e => hdf (by rw [e]; exact List.mem_cons_self ..)
    have dTI : d ≠ TI := fun e => hdf (by rw [e]; simp)
    have dTO : d ≠ TO := fun e => hdf (by rw [e]; simp)
    have d1 : d ∉ fp1 := fun e => hdf (by simp [e])
    have d2 : d ∉ fp2 := fun e => hdf (by simp [e])
    have di1 : d ≠ i1 := fun e => d1 (by rw [e]; exact S.mem1)
    have di2 : d ≠ i2 := fun e => d2 (by rw [e]; exact S.mem2)
    have E1 := D1 A.in1 hAz
    have E2 := D2 A.in1 hAz
    refine wpAny_pyIter_zip hzz (h z [z, TO, i1, i2] (fun i h => i ≤ n ∧ IsTupOf2 h TI (.ref i1) (.ref i2) ∧ St1 i h ∧ St2 i h ∧
      ((IsZip h z TI TO .none ∧ ∃ a b, IsTupOf2 h TO a b) ∨ ∃ T f oT, IsZipHeld h z TI TO T f ∧ h.get? T = some oT ∧ T ≠ z ∧ T ≠ i1 ∧ T ≠ i2 ∧ T ≠ d)) s.heap s.toks ?_
      ⟨Nat.zero_le _, hTI, s1, s2, .inl ⟨hzz, a, b, hTO⟩⟩ (fun _ _ e => e) fun b hbz => .inl hbz)
    exact {
      off := fun hmz => by
        simp only [List.mem_cons, List.not_mem_nil, or_false] at hmz
        rcases hmz with e | e | e | e
        · exact dz e
        · exact dTO e
        · exact di1 e
        · exact di2 e
      frame := fun i h₁z h₂ st hk => by
        obtain ⟨hin, hTI, s1, s2, hzz⟩ := st
        refine ⟨hin, hk _ _ (Ne.symm dTI) hTI, E1.frame _ _ _ s1 fun b hbz o e => hk b o (fun z => d1 (z ▸ hbz)) e, E2.frame _ _ _ s2 fun b hbz o e => hk b o (fun z => d2 (z ▸ hbz)) e, ?_⟩
        rcases hzz with ⟨hzz, a, b, hTO⟩ | ⟨T, f, oT, hzz, hT, r1, r2, r3, r4⟩
        · exact .inl ⟨hk _ _ (Ne.symm dz) hzz, a, b, hk _ _ (Ne.symm dTO) hTO⟩
        · exact .inr ⟨T, f, oT, hk _ _ (Ne.symm dz) hzz, hk _ _ r4 hT, r1, r2, r3, r4⟩
      item := fun i s₁z Q₁ E₁ hi st hds hQ => by
        obtain ⟨hin, hTI, s1, s2, hzz⟩ := st
        have lt : ∀ {c o}, s₁z.heap.get? c = some o → s₁z.heap.objs.size ≠ c := fun e => Nat.ne_of_gt (Heap.lt_size e)
        have n1 : s₁z.heap.objs.size ≠ i1 := let ⟨_, e⟩ := t1 _ _ s1 i1 S.mem1; lt e
        have n2 : s₁z.heap.objs.size ≠ i2 := let ⟨_, e⟩ := t2 _ _ s2 i2 S.mem2; lt e
        rcases hzz with ⟨hzz, a, b, hTO⟩ | ⟨T, f, oT, hzz, hT, r1, r2, r3, r4⟩
        · refine wpAny_pyNext_zipD2_item S E1 E2 hzz hTI hTO s1 s2 hi hi fun x y h' tk p1 p2 a1 a2 a3 a4 a5 a6 hk => ?_
          exact hQ s₁z.heap.objs.size _ _ h' tk ⟨p1, p2⟩ (.inl ⟨_, a5, rfl, _, rfl⟩)
            ⟨hi, hk _ _ S.TIz S.TITO S.TIi1 S.TIi2 hTI, a3, a4, .inr ⟨s₁z.heap.objs.size, false, _, a1, a5, lt hzz, n1, n2, Nat.ne_of_gt hds⟩⟩
            fun c o hcz e => hk c o (fun x => hcz (by simp [x])) (fun x => hcz (by simp [x])) (fun x => hcz (by simp [x])) (fun x => hcz (by simp [x])) e
        · refine pyNext_zipH_item S E1 E2 hzz hT hTI s1 s2 hi hi fun x y h' tk p1 p2 a1 a3 a4 a5 a6 hk => ?_
          exact hQ s₁z.heap.objs.size _ _ h' tk ⟨p1, p2⟩ (.inl ⟨_, a5, rfl, _, rfl⟩)
            ⟨hi, hk _ _ S.TIz S.TIi1 S.TIi2 hTI, a3, a4, .inr ⟨T, true, oT, a1, hk _ _ r1 r2 r3 hT, r1, r2, r3, r4⟩⟩
            fun c o hcz e => hk c o (fun x => hcz (by simp [x])) (fun x => hcz (by simp [x])) (fun x => hcz (by simp [x])) e
      done := fun s₁z Q₁ E₁ st hQ => by
        obtain ⟨hin, hTI, s1, s2, hzz⟩ := st
        rcases hzz with ⟨hzz, a, b, hTO⟩ | ⟨T, f, oT, hzz, hT, r1, r2, r3, r4⟩
        · exact wpAny_pyNext_zipD2_end S E1 E2 hzz hTI hTO s1 s2 (Nat.le_refl _) (Nat.le_refl _) (.inl rfl) fun h' tk hk => hQ h' tk fun c o hcz e => hk c o (fun x => hcz (by simp [x])) (fun x => hcz (by simp [x])) (fun x => hcz (by simp [x])) (fun x => hcz (by simp [x])) e
        · exact pyNext_zipH_end S E1 E2 hzz hT hTI s1 s2 (Nat.le_refl _) (Nat.le_refl _) (.inl rfl) fun h' tk hk => hQ h' tk fun c o hcz e => hk c o (fun x => hcz (by simp [x])) (fun x => hcz (by simp [x])) (fun x => hcz (by simp [x])) e }
end
end PySem
namespace Rw
open PySem PySem.Spec PyProof.Rows L2 LamX NdefX
/-- what a sequence's iterator draws -/
theorem seq_draws {X : Cx} {pins : List (Addr × Obj)} {σ : L2.St} {H : Hp} {s : Shared} {a : Addr} {xs : List V} (I : Inv X pins σ H s) (h : SqL X.K H a xs ∨ SqT X.K H a xs) :
    ∃ (us : List Value) (o : Obj) (Hh : Heap → Prop), Vals xs us ∧ xs.length ≤ sizeLine ∧ Begins (.ref a) o Hh ∧ Hh s.heap ∧ a < s.heap.objs.size ∧ ∀ it : Addr, a ≠ it → ∃ St : Nat → Heap → Prop,
      (∀ A : Around, A.handled = none → Draws X.prog X.w A it [it, a] us.length (fun i v => us[i]? = some v) St) ∧ (∀ h, Hh h → h.get? it = some o → St 0 h) ∧ ∀ i h, St i h → ∀ b ∈ [it, a], ∃ o, h.get? b = some o := by
  rcases h with h | h
  · obtain ⟨us, r, l, z⟩ := I.list h
    have l' := l.isList
    refine ⟨us, _, _, r, z, begins_list a us.toArray, l', let ⟨_, e, _⟩ := l'; Heap.lt_size e, fun it ne => ⟨fun i h => h.IsListIter it a i ∧ h.IsList a us.toArray, fun A hA => ?_, fun h hl ho => ⟨⟨_, ho, rfl, rfl⟩, hl⟩, fun i h st b hb => ?_⟩⟩
    · have D := Draws.list (prog := X.prog) (w := X.w) hA it a ne us.toArray
      simpa using D
    · have hb' : b = it ∨ b = a := by simpa using hb
      obtain ⟨⟨o1, e1, _⟩, ⟨o2, e2, _⟩⟩ := st
      rcases hb' with z | z
      · rw [z]; exact ⟨_, e1⟩
      · rw [z]; exact ⟨_, e2⟩
  · obtain ⟨us, r, l', z⟩ := I.tuple h
    refine ⟨us, _, _, r, z, begins_tuple a us.toArray, l', let ⟨_, e, _⟩ := l'; Heap.lt_size e, fun it ne => ⟨fun i h => h.IsTupleIter it a i ∧ h.IsTuple a us.toArray, fun A hA => ?_, fun h hl ho => ⟨⟨_, ho, rfl, rfl⟩, hl⟩, fun i h st b hb => ?_⟩⟩
    · have D := Draws.tuple (prog := X.prog) (w := X.w) hA it a ne us.toArray
      simpa using D
    · have hb' : b = it ∨ b = a := by simpa using hb
      obtain ⟨⟨o1, e1, _⟩, ⟨o2, e2, _⟩⟩ := st
      rcases hb' with z | z
      · rw [z]; exact ⟨_, e1⟩
      · rw [z]; exact ⟨_, e2⟩
theorem key_is {k : Key} {u : Value} (r : RelV (kV k) u) : keyIs k u = true := by
  cases k with
  | inl i =>
    obtain ⟨t, e⟩ := (show ∃ t, u = Value.int i t from r)
    subst e
    simp [keyIs, Value.isInt]
  | inr x =>
    obtain ⟨t, e⟩ := (show ∃ t, u = Value.str x t from r)
    subst e
    simp [keyIs, Value.isStrOf]
theorem vals_zip : ∀ {ks : List Key} {ys : List V} {ws : List Value}, ks.length = ys.length → Vals ys ws → KV (ks.zip ys) (ks.zip ws)
  | [], [], _, _, .nil => .nil
  | k :: ks, y :: ys, w :: ws, h, .cons r t => .cons ⟨rfl, r⟩ (vals_zip (by simpa using h) t)
/-- dict(zip(a, b)) -/
def rDictZip (K : PySem.W.Frag) (Q : VK) : List V → Hp → Prop := fun vs H2 => ∃ (a b : Addr) (ks : List Key) (ys : List V), vs = [.ref a, .ref b] ∧ (SqL K H2 a (ks.map kV) ∨ SqT K H2 a (ks.map kV)) ∧ (SqL K H2 b ys ∨ SqT K H2 b ys) ∧ ks.length = ys.length ∧
  ∀ p, H2 p = none → Q (.ref p) (upd H2 p (.dK (mergeK [] (ks.zip ys))))
def tDictZip (K : PySem.W.Frag) (ta tb : TE) : TE := fun σ H Q => tCons ta (tCons tb tNil) σ H (rDictZip K Q)
theorem pe_dictZip {X : Cx} {ea eb : Expr} {ta tb : TE} {p1 p2 zpos pos : Pos} (hc : X.calm = true) (hgd : Gl X "dict") (hmd : X.mg "dict" = none) (hgz : Gl X "zip") (hmz : X.mg "zip" = none) (hvd : bootBuiltins "dict" = some (.type "dict")) (hvz : bootBuiltins "zip" = some (.type "zip")) (ha : PE X ea ta) (hb : PE X eb tb)
    (hs1 : starEach [.Call (.Name "zip" p2) [ea, eb] [] zpos] X.env = [(false, eval (.Call (.Name "zip" p2) [ea, eb] [] zpos) X.env)] := by rfl) (hs2 : starEach [ea, eb] X.env = (false, eval ea X.env) :: starEach [eb] X.env := by rfl) (hs3 : starEach [eb] X.env = (false, eval eb X.env) :: starEach [] X.env := by rfl)
    (hpl : (backTo zpos (starEach [eb] X.env)).any (·.1) = false := by rfl) :
    PE X (.Call (.Name "dict" p1) [.Call (.Name "zip" p2) [ea, eb] [] zpos] [] pos) (tDictZip X.K ta tb) := by
  refine ⟨fun pinsz s σ H Q I h => ?_⟩
  refine wpAny_Call_Name_kw (ld_blt I hgd hmd hvd (PyProof.Rows.callWith_type1 ?_ hs1 rfl))
  rw [hs1]
  refine Calls.spliced_cons ?_
  refine wpAny_Call_Name_kw (ld_blt I hgz hmz hvz (PyProof.Rows.callWith_type1 (thn ((pa_cons ha (pa_cons hb pa_nil hs3) hs2).run zpos pinsz s σ H (rDictZip X.K Q) I h) fun us s1 ⟨vs, H1, I1, rv, a, b, ks, ys, ev, sa, sb, hl, q⟩ => ?_) hs2 hpl))
  subst ev
  obtain ⟨u1, u2, rfl, r1, r2⟩ := vals2 rv
  obtain rfl : u1 = Value.ref a := r1
  obtain rfl : u2 = Value.ref b := r2
  obtain ⟨us, o1, H1h, rus, z1, B1, b1, la, d1⟩ := seq_draws I1 sa
  obtain ⟨ws, o2, H2h, rws, z2, B2, b2, lb, d2⟩ := seq_draws I1 sb
  have l1 := rus.length
  have l2 := rws.length
  rw [List.length_map] at l1 z1
  refine zip_begins2 B1 B2 b1 b2 fun h' hz hTI hTO g1 g2 hsz hk => ?_
  obtain ⟨St1, D1, i1, t1⟩ := d1 s1.heap.objs.size (Nat.ne_of_lt la)
  obtain ⟨St2, D2, i2, t2⟩ := d2 (s1.heap.objs.size + 1) (Nat.ne_of_lt (Nat.lt_succ_of_lt lb))
  have S := zip_sep2 (N := s1.heap.objs.size) (fp1 := [a]) (fp2 := [b]) (fun c hc => by rw [List.mem_singleton.mp hc]; exact la) (fun c hc => by rw [List.mem_singleton.mp hc]; exact lb)
  have ew : ws.length = us.length := by omega
  rw [ew] at D2
  have P := PairArg.zipD S D1 D2 t1 t2 X.A (I1.ok.hd hc)
  refine Calls.spliced_nil ?_
  have I2 : Inv X pinsz σ H1 { s1 with heap := h' } := I1.kept (t' := s1.toks) hk
  have lsz : us.length ≤ sizeLine := by rw [← l1]; exact z1
  refine PySem.call_dict_pairs (s := { s1 with heap := h' }) (knd := mixKind X.prog X.w) (kvs := ks.zip ws) P (I1.ok.hd hc) ⟨hz, hTI, ⟨_, _, hTO⟩, i1 _ (B1.keeps _ _ b1 hk) g1, i2 _ (B2.keeps _ _ b2 hk) g2⟩ ⟨by rw [List.length_zip]; omega, fun i key v ⟨e1, e2⟩ => ?_⟩ lsz fun h'' tk hd' k => ?_
  · have hi : i < ks.length := by
      have := (List.getElem?_eq_some_iff.mp e1).1
      omega
    refine ⟨ks[i], by rw [List.getElem?_zip_eq_some]; exact ⟨List.getElem?_eq_getElem hi, e2⟩, ?_⟩
    have hx : (ks.map kV)[i]? = some (kV ks[i]) := by rw [List.getElem?_map, List.getElem?_eq_getElem hi]; rfl
    obtain ⟨u, hu, ru⟩ := rus.get hx
    rw [e1] at hu
    cases hu
    exact key_is ru
  · have hm : (h'.objs.size == sysModules) = false := beq_eq_false_iff_ne.mpr (Nat.ne_of_gt (Nat.lt_of_lt_of_le I1.big (by rw [hsz]; exact Nat.le_add_right _ _)))
    have hlen : (mergeK [] (ks.zip ys)).length ≤ sizeLine := by
      refine Nat.le_trans (length_mergeK (ks.zip ys) []) ?_
      rw [List.length_nil, Nat.zero_add, List.length_zip]
      omega
    have new : ObjOk X.prog X.w (upd H1 h'.objs.size (.dK (mergeK [] (ks.zip ys)))) h'' h'.objs.size (.dK (mergeK [] (ks.zip ys))) := ⟨hlen, hm, merged [] (ks.zip ws), KV.merge (vals_zip hl rws) .nil, hd'⟩
    refine ⟨.ref h'.objs.size, _, Inv.turnedNew (s := { s1 with heap := h' }) I2 (t' := tk) (ch := [s1.heap.objs.size + 4, s1.heap.objs.size + 3, s1.heap.objs.size, s1.heap.objs.size + 1]) (fun b o hb e => k b o hb e) (fun c hc => ?_) (Nat.le_refl _) new, rfl, q _ (I2.hok.fresh (Nat.le_refl _))⟩
    have hlez : s1.heap.objs.size ≤ c := by
      have : c = s1.heap.objs.size + 4 ∨ c = s1.heap.objs.size + 3 ∨ c = s1.heap.objs.size ∨ c = s1.heap.objs.size + 1 := by simpa using hc
      rcases this with z | z | z | z
      · rw [z]; exact Nat.le_add_right _ _
      · rw [z]; exact Nat.le_add_right _ _
      · rw [z]; exact Nat.le_refl _
      · rw [z]; exact Nat.le_add_right _ _
    exact I1.fpOk hlez (I1.hok.fresh hlez)
end Rw
set_option maxHeartbeats 4000000
/-! any(d.values()), list(d.values()), tuple(d.values()). -/
namespace Rw
open PySem PySem.Spec PyProof.Rows L2 LamX NdefX
section
variable {X : Cx} {pins : List (Addr × Obj)} {σ : L2.St} {H : Hp} {s : Shared} {e : Expr} {te : TE} {p apos cpos pos : Pos} {x : Str}
def vsOf (kvs : List (Key × V)) : List V := kvs.map Prod.snd
/-- what stands when the view is made -/
structure ValsAt (X : Cx) (h : Heap) (r a : Addr) (kvs : List (Key × V)) (vs : List (Key × Value)) (ep : Nat) : Prop where
  view : h.IsValuesView r a
  dat : h.DictAt (mixKind X.prog X.w) a vs ep
  rel : KV kvs vs
  le : kvs.length ≤ sizeLine
theorem ValsAt.len {h : Heap} {r a : Addr} {kvs : List (Key × V)} {vs : List (Key × Value)} {ep : Nat} (v : ValsAt X h r a kvs vs ep) : kvs.length = vs.length := Paired.length v.rel
def rVals (H1 : Hp) (x : V) (R : List (Key × V) → Prop) : Prop := ∃ a kvs, x = .ref a ∧ H1 a = some (.dK kvs) ∧ R kvs
theorem vals_arg (he : PE X e te) {Q : List Value → Shared → Prop} {R : Hp → List (Key × V) → Prop} (I : Inv X pins σ H s) (h : te σ H fun x H1 => rVals H1 x (R H1))
    (hq : ∀ (s2 : Shared) (H1 : Hp) (r a : Addr) (kvs : List (Key × V)) (vs : List (Key × Value)) (ep : Nat), Inv X pins σ H1 s2 → ValsAt X s2.heap r a kvs vs ep → R H1 kvs → Q [.ref r] s2)
    (hbase : attributeBase e "values" X.env (eval e X.env) = eval e X.env := by rfl) (hline : (apos.endLine == cpos.line) = true := by rfl)
    (hs : starEach [.Call (.Attribute e "values" apos) [] [] cpos] X.env = (false, eval (.Call (.Attribute e "values" apos) [] [] cpos) X.env) :: starEach [] X.env := by rfl) :
    wpAny (model X.prog X.w) X.A (spliced (backTo pos (starEach [.Call (.Attribute e "values" apos) [] [] cpos] X.env))) Q X.xe s := by
  rw [hs]
  show wpAny _ _ (spliced ((false, eval (.Call (.Attribute e "values" apos) [] [] cpos) X.env) :: backTo pos (starEach [] X.env))) _ _ s
  refine Calls.spliced_cons ?_
  refine wpAny_Call_method (T := "dict") (id := "dict.values") hbase rfl hline F.plainAttrs_dict F.slot_dict_values F.type_dict_values (thn (he.run pins s σ H _ I h) fun u s1 ⟨x, H1, I1, rxz, a, kvs, ex, hd, q⟩ => ?_)
  subst ex
  obtain rfl : u = Value.ref a := rxz
  obtain ⟨hz, hs0, vs, kv, hdoz⟩ := I1.hok a _ hd
  obtain ⟨ep, hatz⟩ := hdoz.dictAt
  have I2 : Inv X pins σ H1 { s1 with heap := s1.heap.push { cls := .type "dict_values", data := .fields #[.ref a] } } := I1.kept (t' := s1.toks) fun b ob q => Heap.get?_push_of_some _ q
  refine ⟨hdoz.typeIs, hdoz.mapOf.noDict, ?_⟩
  show wpAny _ _ (callWith cpos (.builtin "dict.values") [.ref a] [] []) _ X.xe s1
  refine method_meetsIn F.slot_dict_values F.entry_dict_values rfl (PySem.evalArgs_none ⟨rfl, hdoz.typeIs, F.args_dict_values_1 _, _, meets_dict_values (mixKind X.prog X.w) a hs0, ⟨vs, hdoz⟩, ?_⟩)
  refine Calls.spliced_nil ?_
  exact hq _ H1 _ a kvs vs ep I2 ⟨⟨_, Heap.get?_push_size _ rfl, rfl, rfl⟩, hatz.push _, kv, hz⟩ q
/-- the values, as they are drawn -/
theorem ValsAt.items {h : Heap} {r a : Addr} {kvs : List (Key × V)} {vs : List (Key × Value)} {ep : Nat} (v : ValsAt X h r a kvs vs ep) {acc : Array Value} (hi : ItemsOf (fun i u => ∃ k, vs[i]? = some (k, u)) acc vs.length) : Vals (vsOf kvs) acc.toList := by
  have e : acc.toList = vs.map (·.2) := by
    refine List.ext_getElem? fun i => ?_
    by_cases hl : i < vs.length
    · have hl2 : i < acc.size := by rw [hi.1]; exact hl
      have hu : acc[i]? = some acc[i] := Array.getElem?_eq_getElem hl2
      obtain ⟨k, hk⟩ := hi.2 i _ hu
      rw [Array.getElem?_toList, hu, List.getElem?_map, hk]
      rfl
    · rw [Array.getElem?_toList, Array.getElem?_eq_none (by rw [hi.1]; omega), List.getElem?_eq_none (by rw [List.length_map]; omega)]
  rw [e]
  have key : ∀ {kvs : List (Key × V)} {vs : List (Key × Value)}, KV kvs vs → Vals (vsOf kvs) (vs.map (·.2)) := fun {kvs vs} q => by
    unfold KV at q
    induction q with
    | nil => exact .nil
    | cons r t ih => exact .cons r.2 ih
  exact key v.rel
/-- list(e.values()) -/
def tListVals (te : TE) : TE := fun σ H Q => te σ H fun x H1 => rVals H1 x fun kvs => ∀ p, H1 p = none → Q (.ref p) (upd H1 p (.lst (vsOf kvs)))
theorem pe_listVals (hc : X.calm = true) (he : PE X e te) (hg : Gl X "list") (hm : X.mg "list" = none) (hv : bootBuiltins "list" = some (.type "list")) (hbase : attributeBase e "values" X.env (eval e X.env) = eval e X.env := by rfl) (hline : (apos.endLine == cpos.line) = true := by rfl)
    (hs : starEach [.Call (.Attribute e "values" apos) [] [] cpos] X.env = (false, eval (.Call (.Attribute e "values" apos) [] [] cpos) X.env) :: starEach [] X.env := by rfl) :
    PE X (.Call (.Name "list" p) [.Call (.Attribute e "values" apos) [] [] cpos] [] pos) (tListVals te) := by
  refine ⟨fun pinsz s σ H Q I h => ?_⟩
  refine wpAny_Call_Name_kw (ld_blt I hg hm hv (PyProof.Rows.callWith_type1 (vals_arg (R := fun H1 kvs => ∀ p, H1 p = none → Q (.ref p) (upd H1 p (.lst (vsOf kvs)))) he I h (fun s2 H1 r a kvs vs ep I2 va q => ?_) hbase hline hs) hs rfl))
  have hl := va.len
  have hz := va.le
  refine PySem.W.kdl_call (PySem.W.kdl_values (r := r) (knd := mixKind X.prog X.w) (kvs := vs) (ep := ep)) (I2.ok.hd hc) ⟨va.view, va.dat⟩ (by omega) fun h' tk acc c hk hS hi => ?_
  have e2 := va.items hi
  have new : ObjOk X.prog X.w (upd H1 s2.heap.objs.size (.lst (vsOf kvs))) h' s2.heap.objs.size (.lst (vsOf kvs)) := ⟨by unfold vsOf; rw [List.length_map]; exact hz, acc.toList, c, e2, by rw [hS]⟩
  exact ⟨.ref _, _, I2.laid (t' := tk) hk (Nat.le_refl _) new, rfl, q _ (I2.hok.fresh (Nat.le_refl _))⟩
/-- any(e.values()), the values ints -/
def tAnyVals (te : TE) : TE := fun σ H Q => te σ H fun x H1 => rVals H1 x fun kvs => ∃ ns : List Int, vsOf kvs = ns.map V.int ∧ Q (.bl (ns.any fun n => n != 0)) H1
theorem pe_anyVals (hc : X.calm = true) (he : PE X e te) (hg : Gl X "any") (hm : X.mg "any" = none) (hv : bootBuiltins "any" = some (.builtin "any")) (hbase : attributeBase e "values" X.env (eval e X.env) = eval e X.env := by rfl) (hline : (apos.endLine == cpos.line) = true := by rfl)
    (hs : starEach [.Call (.Attribute e "values" apos) [] [] cpos] X.env = (false, eval (.Call (.Attribute e "values" apos) [] [] cpos) X.env) :: starEach [] X.env := by rfl) :
    PE X (.Call (.Name "any" p) [.Call (.Attribute e "values" apos) [] [] cpos] [] pos) (tAnyVals te) := by
  refine ⟨fun pinsz s σ H Q I h => ?_⟩
  refine wpAny_Call_Name_kw (ld_blt I hg hm hv (PyProof.Rows.callWith_builtin1 (vals_arg (R := fun H1 kvs => ∃ ns : List Int, vsOf kvs = ns.map V.int ∧ Q (.bl (ns.any fun n => n != 0)) H1) he I h (fun s2 H1 r a kvs vs ep I2 va q => ?_) hbase hline hs) hs rfl))
  obtain ⟨ns, en, q⟩ := q
  have hl := va.len
  have lr : r < s2.heap.objs.size := let ⟨_, e, _⟩ := va.view; Heap.lt_size e
  have la : a < s2.heap.objs.size := va.dat.lt_size
  have hval : ∀ (i : Nat) (v : Value), (∃ k, vs[i]? = some (k, v)) → ∃ t, v = Value.int (ns.getD i 0) t := fun i v ⟨k, hk⟩ => by
    obtain ⟨x, h1, h2⟩ := KV.at' va.rel hk
    have e1 : (vsOf kvs)[i]? = some x := by unfold vsOf; rw [List.getElem?_map, h1] <;> rfl
    rw [en, List.getElem?_map] at e1
    obtain ⟨j, hjz, e2⟩ := Option.map_eq_some_iff.mp e1
    subst e2
    obtain ⟨t, e3⟩ := h2
    refine ⟨t, ?_⟩
    rw [e3, List.getD_eq_getElem?_getD, hjz] <;> rfl
  refine call_any_walk (wpAny_pyIter_values va.view va.dat ?_)
  refine ⟨_, _, _, _, _, _, fun i => ns.getD i 0 != 0, rfl, Walks.dictValues (knd := mixKind X.prog X.w) (A := X.A.in1) (I2.ok.hd hc) s2.heap.objs.size a (Nat.ne_of_lt la) vs ep, ⟨⟨_, Heap.get?_push_size _ rfl, rfl, rfl⟩, va.dat.push _⟩, fun i v s Q E hP hq => ?_, fun h' tk hk => ?_⟩
  · obtain ⟨t, rfl⟩ := hval i v hP
    exact PySem.P.truthy_int hq
  · have e1 : ((List.range vs.length).any fun i => ns.getD i 0 != 0) = ns.any fun n => n != 0 := by
      have l1 : ns.length = vs.length := by
        have := congrArg List.length en
        unfold vsOf at this
        rw [List.length_map, List.length_map] at this
        omega
      rw [← l1]
      have gen : ∀ l : List Int, ((List.range l.length).any fun i => l.getD i 0 != 0) = l.any fun n => n != 0 := by
        intro l
        induction l with
        | nil => rfl
        | cons b l ih => 
          rw [List.length_cons, List.range_succ_eq_map, List.any_cons, List.any_map, List.any_cons, ← ih]
          rfl
      exact gen ns
    rw [e1]
    refine ⟨.bl _, H1, I2.kept (t' := tk) fun b u e => hk b u (fun hmem => ?_) (Heap.get?_push_of_some _ e), rfl, q⟩
    rw [List.mem_singleton.mp hmem] at e
    exact absurd (Heap.lt_size e) (Nat.lt_irrefl _)
theorem code_tupVals {prog : Program} {w : World} {A : Around} {E : Value → Shared → Prop} {s : Shared} {r d : Addr} {n : Nat} {P : Nat → Value → Prop} {OK : Heap → Prop} {Q₁ : Value → Shared → Prop} (K : PySem.W.KdlSrc prog w "dict_values" r d n P OK) (hh : A.handled = none) (hok : OK s.heap) (hn : n ≤ sizeLine)
    (h : ∀ (h' : Heap) (tk : Nat) (acc : Array Value), (∀ b o, s.heap.get? b = some o → h'.get? b = some o) → ItemsOf P acc n → Q₁ (.ref h'.objs.size) { s with heap := h'.push { cls := .type "tuple", data := .seq acc }, toks := tk }) :
    codeAny (model prog w) A (.call (.builtin "tuple.__new__") ⟨[.type "tuple", .ref r], []⟩) (wants Q₁ E) s := by
  refine codeAny_of_tree ?_
  show wpAny _ A.in1 (do checkBuiltinCall "tuple.__new__" ⟨[.type "tuple", .ref r], []⟩; again (.builtin "tuple.__new__" ⟨[.type "tuple", .ref r], []⟩)) _ _ s
  refine wpAny_bind (wpAny_of_eq (F.newCall_tuple_1 _) (wpAny_pure ⟨plainId_quiet F.plain_tuple_new _, codeAny_builtin F.entry_tuple_new ?_⟩))
  rw [Around.under_plainId F.plain_tuple_new _]
  have hsub := sub_tuple_self
  have hinitz := init_tuple_lookup
  have hmh := madeHere_tuple
  have hTI : s.TypeIs (.ref r) "dict_values" := K.type s hok
  have hh1z : A.in1.handled = none := hh
  wp_walk using wpAny_typeOf hTI, PySem.W.kdu_collect (A := A.in1) K hh1z hok hn
  intro h' tk acc hk haccz
  show wpAny _ _ (Builtin.Tuple.tupleExact acc.toList.toArray >>= fun v => ret v) _ _ _
  unfold Builtin.Tuple.tupleExact
  refine wpAny_bind (wpAny_newObj_type ?_ (by show acc.toList.toArray.size ≤ sizeLine; simp only [Array.toArray_toList]; rw [haccz.1]; exact hn))
  refine wpAny_pure ?_
  have e : acc.toList.toArray = acc := by simp
  rw [e]
  exact h h' tk acc hk haccz
/-- tuple(e.values()) -/
def tTupVals (te : TE) : TE := fun σ H Q => te σ H fun x H1 => rVals H1 x fun kvs => ∀ p, H1 p = none → Q (.ref p) (upd H1 p (.tup (vsOf kvs)))
theorem pe_tupVals (hc : X.calm = true) (he : PE X e te) (hg : Gl X "tuple") (hm : X.mg "tuple" = none) (hv : bootBuiltins "tuple" = some (.type "tuple")) (hbase : attributeBase e "values" X.env (eval e X.env) = eval e X.env := by rfl) (hline : (apos.endLine == cpos.line) = true := by rfl)
    (hs : starEach [.Call (.Attribute e "values" apos) [] [] cpos] X.env = (false, eval (.Call (.Attribute e "values" apos) [] [] cpos) X.env) :: starEach [] X.env := by rfl) :
    PE X (.Call (.Name "tuple" p) [.Call (.Attribute e "values" apos) [] [] cpos] [] pos) (tTupVals te) := by
  refine ⟨fun pinsz s σ H Q I h => ?_⟩
  refine wpAny_Call_Name_kw (ld_blt I hg hm hv (PyProof.Rows.callWith_type1 (vals_arg (R := fun H1 kvs => ∀ p, H1 p = none → Q (.ref p) (upd H1 p (.tup (vsOf kvs)))) he I h (fun s2 H1 r a kvs vs ep I2 va q => ?_) hbase hline hs) hs rfl))
  have hl := va.len
  have hz := va.le
  refine callType_codes (Q₁ := fun obj s₁ => s₁.TypeIs obj "tuple" ∧ EP X pinsz σ Q obj s₁) F.called_tuple (F.typeCall_tuple_1 _) F.entry_object_init
    (code_tupVals (A := X.A.in1) (PySem.W.kdl_values (r := r) (knd := mixKind X.prog X.w) (kvs := vs) (ep := ep)) (I2.ok.hd hc) ⟨va.view, va.dat⟩ (by omega) fun h' tk acc hk hi => ⟨⟨_, Heap.get?_push_size _ rfl, rfl⟩, ?_⟩) fun obj s₁ h₁ => ?_
  · have e2 := va.items hi
    have I3 : Inv X pinsz σ H1 { s2 with heap := h', toks := tk } := I2.kept (t' := tk) hk
    have new : ObjOk X.prog X.w (upd H1 h'.objs.size (.tup (vsOf kvs))) (h'.push { cls := .type "tuple", data := .seq acc }) h'.objs.size (.tup (vsOf kvs)) := ⟨by unfold vsOf; rw [List.length_map]; exact hz, acc.toList, e2, by simpa using IsTup.new h' acc⟩
    exact ⟨.ref _, _, Inv.laid (s := { s2 with heap := h', toks := tk }) I3 (t' := tk) (fun b o e => Heap.get?_push_of_some _ e) (Nat.le_refl _) new, rfl, q _ (I3.hok.fresh (Nat.le_refl _))⟩
  · exact ⟨h₁.1, F.args_object_init_2 obj _, object_init_meets F.called_tuple.init.lookup F.called_tuple.made (by decide) X.prog X.w X.A.in1 _ s₁ ⟨h₁.1, rfl, h₁.2⟩⟩
end
end Rw
set_option maxHeartbeats 4000000
/-! Plain Lean: how many lists there are. -/
namespace Rw
open PySem PySem.W
def ch : Nat → Nat → Nat
  | _, 0 => 1
  | 0, _ + 1 => 0
  | n + 1, k + 1 => ch n k + ch n (k + 1)
theorem ch_zero (n : Nat) : ch n 0 = 1 := by cases n <;> rfl
theorem ch_succ (n k : Nat) : ch (n + 1) (k + 1) = ch n k + ch n (k + 1) := rfl
theorem ch_above : ∀ {n k : Nat}, n < k → ch n k = 0
  | 0, k + 1, _ => rfl
  | n + 1, k + 1, h => by
    rw [ch_succ, ch_above (by omega), ch_above (by omega)]
theorem ch_pos : ∀ {n k : Nat}, k ≤ n → 1 ≤ ch n k
  | n, 0, _ => by rw [ch_zero]; exact Nat.le_refl _
  | n + 1, k + 1, h => by
    rw [ch_succ]
    exact Nat.le_trans (ch_pos (by omega)) (Nat.le_add_right _ _)
theorem ch_mono1 (n k : Nat) : ch n k ≤ ch (n + 1) k := by
  cases k with
  | zero => rw [ch_zero, ch_zero]; exact Nat.le_refl _
  | succ k => rw [ch_succ]; exact Nat.le_add_left _ _
theorem ch_mono (k : Nat) {n m : Nat} (h : n ≤ m) : ch n k ≤ ch m k := by
  induction h with
  | refl => exact Nat.le_refl _
  | step _ ih => exact Nat.le_trans ih (ch_mono1 _ _)
def fal (n : Nat) : Nat → Nat
  | 0 => 1
  | k + 1 => fal n k * (n - k)
theorem fal_above {n : Nat} : ∀ {k : Nat}, n < k → fal n k = 0
  | k + 1, h => by
    unfold fal
    by_cases e : n < k
    · rw [fal_above e, Nat.zero_mul]
    · have : n - k = 0 := by omega
      rw [this, Nat.mul_zero]
theorem fal_succ (n : Nat) : ∀ k : Nat, fal (n + 1) (k + 1) = (n + 1) * fal n k
  | 0 => by show 1 * (n + 1 - 0) = (n + 1) * 1; omega
  | k + 1 => by
    show fal (n + 1) (k + 1) * (n + 1 - (k + 1)) = (n + 1) * (fal n k * (n - k))
    rw [fal_succ n k, Nat.mul_assoc]
    congr 2
    omega
theorem ch_fal : ∀ n k : Nat, ch n k * fal k k = fal n k
  | n, 0 => by rw [ch_zero]; rfl
  | 0, k + 1 => by
    rw [fal_above (by omega : 0 < k + 1)]
    show 0 * _ = 0
    rw [Nat.zero_mul]
  | n + 1, k + 1 => by
    rw [ch_succ, Nat.add_mul, ch_fal n (k + 1), fal_succ k k, fal_succ n k]
    have h1 : ch n k * ((k + 1) * fal k k) = (k + 1) * fal n k := by
      rw [← ch_fal n k]
      ac_rfl
    rw [h1]
    show (k + 1) * fal n k + fal n k * (n - k) = _
    by_cases h : k ≤ n
    · rw [Nat.mul_comm (fal n k) (n - k), ← Nat.add_mul]
      congr 1
      omega
    · rw [fal_above (by omega)]
      simp
theorem fal_pos : ∀ {n k : Nat}, k ≤ n → 0 < fal n k
  | n, 0, _ => Nat.one_pos
  | n, k + 1, h => Nat.mul_pos (fal_pos (by omega)) (by omega)
theorem fal_end (n : Nat) : ∀ k : Nat, k ≤ n → fal n k * fal (n - k) (n - k) = fal n n
  | 0, _ => by show 1 * fal n n = _; rw [Nat.one_mul]
  | k + 1, h => by
    rw [← fal_end n k (by omega)]
    show fal n k * (n - k) * _ = _
    rw [Nat.mul_assoc]
    congr 1
    obtain ⟨m, hm⟩ : ∃ m, n - k = m + 1 := ⟨n - k - 1, by omega⟩
    have e : n - (k + 1) = m := by omega
    rw [e, hm, fal_succ m m]
theorem ch_symm {n k : Nat} (h : k ≤ n) : ch n (n - k) = ch n k := by
  have a := fal_end n k h
  have b := fal_end n (n - k) (by omega)
  have e : n - (n - k) = k := by omega
  rw [e] at b
  rw [← ch_fal n k] at a
  rw [← ch_fal n (n - k), ← a] at b
  have p : 0 < fal k k * fal (n - k) (n - k) := Nat.mul_pos (fal_pos (Nat.le_refl _)) (fal_pos (Nat.le_refl _))
  refine Nat.eq_of_mul_eq_mul_right p ?_
  calc ch n (n - k) * (fal k k * fal (n - k) (n - k)) = ch n (n - k) * fal (n - k) (n - k) * fal k k := by ac_rfl
    _ = ch n k * fal k k * fal (n - k) (n - k) := b
    _ = _ := by ac_rfl
theorem fp_fal (n : Nat) : ∀ k : Nat, k ≤ n → Builtin.Math.fallingProduct (n : Int) k = (fal n k : Int)
  | 0, _ => rfl
  | k + 1, h => by
    unfold Builtin.Math.fallingProduct
    rw [List.range_succ, List.foldl_append]
    show Builtin.Math.fallingProduct (n : Int) k * ((n : Int) - k) = _
    rw [fp_fal n k (by omega)]
    show _ = ((fal n k * (n - k) : Nat) : Int)
    rw [Int.natCast_mul, Int.natCast_sub (by omega)]
theorem mcComb_ch (a b : Nat) : mcComb (a : Int) (b : Int) = (ch a b : Int) := by
  by_cases h : b ≤ a
  · obtain ⟨m, hm, hc⟩ : ∃ m : Nat, m = min b (a - b) ∧ ch a m = ch a b := by
      by_cases e : b ≤ a - b
      · exact ⟨b, by omega, rfl⟩
      · exact ⟨a - b, by omega, ch_symm h⟩
    rw [mcComb_at (m := (m : Int)) (by omega) (by omega) (by omega)]
    have e1 : ((m : Int)).toNat = m := by omega
    rw [e1, fp_fal a m (by omega), fp_fal m m (Nat.le_refl _), ← hc, ← ch_fal a m, Int.natCast_mul]
    refine Int.mul_ediv_cancel _ ?_
    have := fal_pos (Nat.le_refl m)
    omega
  · rw [mcComb_above (by omega), ch_above (by omega)]
    rfl
/-! ### the numbers of lists, as the program counts them -/
def waysF (a b : Int) : Int := if 0 ≤ a then mcComb a b else 0
def allF (m t : Int) : Int := if 0 < m then waysF (t + m - 1) (m - 1) else if t = 0 then 1 else 0
def fullF (m t : Int) : Int := if 0 < m then waysF (t - 1) (m - 1) else if t = 0 then 1 else 0
def nobF (m t : Int) : Int := allF m t - fullF m t
theorem allF_nat (m t : Nat) : allF (m + 1) t = (ch (t + m) m : Int) := by
  unfold allF waysF
  rw [if_pos (by omega), if_pos (by omega)]
  have e1 : (t : Int) + ((m : Int) + 1) - 1 = ((t + m : Nat) : Int) := by omega
  have e2 : ((m : Int) + 1) - 1 = (m : Int) := by omega
  rw [e1, e2, mcComb_ch]
theorem allF_neg (m : Nat) : allF (m + 1) (-1) = 0 := by
  unfold allF waysF
  rw [if_pos (by omega)]
  by_cases h : m = 0
  · rw [if_neg (by omega)]
  · rw [if_pos (by omega)]
    exact mcComb_above (by omega)
theorem allF_zero (t : Int) : allF 0 t = if t = 0 then 1 else 0 := rfl
theorem fullF_zero (t : Int) : fullF 0 t = if t = 0 then 1 else 0 := rfl
theorem fullF_nat (m t : Nat) : fullF (m + 1) (t + 1) = (ch t m : Int) := by
  unfold fullF waysF
  rw [if_pos (by omega), if_pos (by omega)]
  have e1 : (t : Int) + 1 - 1 = (t : Int) := by omega
  have e2 : ((m : Int) + 1) - 1 = (m : Int) := by omega
  rw [e1, e2, mcComb_ch]
theorem fullF_none (m : Nat) : fullF (m + 1) 0 = 0 := by
  unfold fullF waysF
  rw [if_pos (by omega), if_neg (by omega)]
/-- the two steps -/
theorem allF_step (m t : Nat) : allF (m + 1) t = allF m t + allF (m + 1) ((t : Int) - 1) := by
  cases t with
  | zero =>
    have e : ((0 : Nat) : Int) - 1 = -1 := by omega
    rw [e, allF_neg, allF_nat]
    cases m with
    | zero => decide
    | succ m =>
      have q := allF_nat m 0
      rw [Int.natCast_add, Int.natCast_one]
      rw [q]
      have a1 := ch_symm (Nat.le_refl (0 + (m + 1)))
      have a2 := ch_symm (Nat.le_refl (0 + m))
      simp only [Nat.sub_self, ch_zero, Nat.zero_add] at a1 a2 ⊢
      rw [← a1, ← a2]
      rfl
  | succ t =>
    have e : ((t + 1 : Nat) : Int) - 1 = (t : Int) := by omega
    rw [e, allF_nat, allF_nat]
    cases m with
    | zero =>
      rw [ch_zero, ch_zero]
      show _ = allF 0 _ + _
      rw [allF_zero, if_neg (by omega)]
      rfl
    | succ m =>
      rw [Int.natCast_add, Int.natCast_one]
      have q := allF_nat m (t + 1)
      rw [q]
      have z : t + 1 + (m + 1) = (t + 1 + m) + 1 := by omega
      have z2 : t + (m + 1) = t + 1 + m := by omega
      rw [z, ch_succ, z2]
      omega
theorem fullF_step (m t : Nat) : fullF (m + 1) (t + 1) = fullF m t + fullF (m + 1) t := by
  rw [fullF_nat]
  cases t with
  | zero =>
    show _ = fullF m 0 + fullF (m + 1) 0
    rw [fullF_none]
    cases m with
    | zero => decide
    | succ m =>
      rw [Int.natCast_add, Int.natCast_one]
      rw [fullF_none]
      rfl
  | succ t =>
    rw [Int.natCast_add, Int.natCast_one, fullF_nat]
    cases m with
    | zero =>
      rw [ch_zero, ch_zero]
      show _ = fullF 0 _ + _
      rw [fullF_zero, if_neg (by omega)]
      rfl
    | succ m =>
      rw [Int.natCast_add, Int.natCast_one, fullF_nat, ch_succ]
      omega
theorem allF_nonneg (m t : Nat) : 0 ≤ allF m t := by
  cases m with
  | zero =>
    show 0 ≤ allF 0 _
    rw [allF_zero]
    split <;> omega
  | succ m =>
    rw [Int.natCast_add, Int.natCast_one, allF_nat]
    omega
theorem nobF_nonneg (m t : Nat) : 0 ≤ nobF m t := by
  unfold nobF
  cases m with
  | zero =>
    show 0 ≤ allF 0 _ - fullF 0 _
    rw [allF_zero, fullF_zero]
    omega
  | succ m =>
    rw [Int.natCast_add, Int.natCast_one, allF_nat]
    cases t with
    | zero =>
      show 0 ≤ _ - fullF (m + 1) 0
      rw [fullF_none]
      omega
    | succ t =>
      rw [Int.natCast_add, Int.natCast_one, fullF_nat]
      have := ch_mono m (show t ≤ t + 1 + m by omega)
      omega
/-- two walkers or more: there is such a list -/
theorem nobF_pos {m : Nat} (t : Nat) (h : 2 ≤ m) : 1 ≤ nobF m t := by
  obtain ⟨k, rfl⟩ : ∃ k, m = k + 2 := ⟨m - 2, by omega⟩
  unfold nobF
  have e : ((k + 2 : Nat) : Int) = ((k + 1 : Nat) : Int) + 1 := by omega
  rw [e, allF_nat]
  cases t with
  | zero =>
    show 1 ≤ _ - fullF (((k + 1 : Nat) : Int) + 1) 0
    rw [fullF_none]
    have := ch_pos (show k + 1 ≤ 0 + (k + 1) by omega)
    omega
  | succ t =>
    have q := fullF_nat (k + 1) t
    rw [show ((t + 1 : Nat) : Int) = (t : Int) + 1 by omega, q]
    have e2 : t + 1 + (k + 1) = (t + k + 1) + 1 := by omega
    rw [e2, ch_succ]
    have h1 := ch_pos (show k ≤ t + k + 1 by omega)
    have h2 := ch_mono (k + 1) (show t ≤ t + k + 1 by omega)
    omega
/-! ### how many lie below -/
def lbF (left total value : Int) (h : Bool) : Int :=
  if h = true then allF (left + 1) total - allF (left + 1) (total - value)
  else if value = 0 then 0
  else allF left total + allF (left + 1) (total - 1) - allF (left + 1) (total - value) - fullF (left + 1) total + fullF (left + 1) (total - value + 1)
def cntF (m t : Int) (h : Bool) : Int := if h = true then allF m t else nobF m t
theorem cntF_nonneg (m t : Nat) (h : Bool) : 0 ≤ cntF m t h := by
  unfold cntF
  split
  · exact allF_nonneg m t
  · exact nobF_nonneg m t
theorem lbF_zero (m t : Int) (h : Bool) : lbF m t 0 h = 0 := by
  unfold lbF
  split
  · rw [Int.sub_zero]
    omega
  · rw [if_pos rfl]
theorem lbF_step (m t v : Nat) (h : Bool) (hv : v ≤ t) : lbF m t (v + 1) h - lbF m t v h = cntF m ((t : Int) - v) (h || decide (v = 0)) := by
  obtain ⟨u, rfl⟩ : ∃ u, t = u + v := ⟨t - v, by omega⟩
  have e1 : ((u + v : Nat) : Int) - v = (u : Int) := by omega
  have e2 : ((u + v : Nat) : Int) - (v + 1) = (u : Int) - 1 := by omega
  have s1 := allF_step m u
  unfold lbF cntF
  rw [e1, e2]
  cases h with
  | true =>
    simp only [if_true, Bool.true_or]
    omega
  | false =>
    simp only [Bool.false_eq_true, if_false, Bool.false_or]
    rw [if_neg (by omega : ¬ ((v : Int) + 1 = 0))]
    have e3 : (u : Int) - 1 + 1 = u := by omega
    rw [e3]
    by_cases hz : v = 0
    · subst hz
      simp only [decide_true, if_true]
      have e4 : ((u + 0 : Nat) : Int) = u := by omega
      rw [e4, if_pos (by omega : ((0 : Nat) : Int) = 0)]
      omega
    · rw [if_neg (by omega : ¬ ((v : Int) = 0))]
      simp only [hz, decide_false, Bool.false_eq_true, if_false]
      have s2 := fullF_step m u
      unfold nobF
      omega
theorem lbF_end (m t : Nat) (h : Bool) : lbF m t (t + 1) h = cntF (m + 1) t h := by
  unfold lbF cntF
  have e : (t : Int) - (t + 1) = -1 := by omega
  have s1 := allF_step m t
  rw [e]
  cases h with
  | true =>
    simp only [if_true]
    have := allF_neg m
    omega
  | false =>
    simp only [Bool.false_eq_true, if_false]
    rw [if_neg (by omega : ¬ ((t : Int) + 1 = 0))]
    have h1 := allF_neg m
    have h2 : fullF ((m : Int) + 1) (-1 + 1) = 0 := fullF_none m
    unfold nobF
    omega
theorem lbF_mono1 (m t v : Nat) (h : Bool) (hv : v ≤ t) : lbF m t v h ≤ lbF m t (v + 1) h := by
  have s := lbF_step m t v h hv
  have e : ((t : Int) - v) = ((t - v : Nat) : Int) := by omega
  rw [e] at s
  have := cntF_nonneg m (t - v) (h || decide (v = 0))
  omega
theorem lbF_mono (m t : Nat) (h : Bool) {v u : Nat} (hvu : v ≤ u) (hu : u ≤ t + 1) : lbF m t v h ≤ lbF m t u h := by
  induction hvu with
  | refl => exact Int.le_refl _
  | @step k _ ih => exact Int.le_trans (ih (by omega)) (lbF_mono1 m t k h (by omega))
end Rw
set_option maxHeartbeats 4000000
/-! Plain Lean: the numbers made at a place; the walk of a stand. -/
namespace Rw
open PySem PySem.W
/-! ### the greatest begin -/
def gbGo (m t : Nat) (number : Int) (h : Bool) : Nat → Nat → Nat
  | 0, v => v
  | k + 1, v => if number < lbF m t (v + 1) h then v else gbGo m t number h k (v + 1)
def gbN (m t : Nat) (number : Int) (h : Bool) : Nat := gbGo m t number h t 0
structure GbAt (m t : Nat) (number : Int) (h : Bool) (v : Nat) : Prop where
  le : v ≤ t
  lo : lbF m t v h ≤ number
  hi : number < lbF m t (v + 1) h
theorem gbGo_at {m t : Nat} {number : Int} {h : Bool} (hi : number < lbF m t (t + 1) h) : ∀ (k v : Nat), v + k = t → lbF m t v h ≤ number → GbAt m t number h (gbGo m t number h k v)
  | 0, v, e, lo => by
    have : v = t := by omega
    subst this
    exact ⟨Nat.le_refl _, lo, hi⟩
  | k + 1, v, e, lo => by
    unfold gbGo
    by_cases q : number < lbF m t (v + 1) h
    · rw [if_pos q]
      exact ⟨by omega, lo, q⟩
    · rw [if_neg q]
      have z := gbGo_at hi k (v + 1) (by omega) (by rw [Int.natCast_add, Int.natCast_one]; exact Int.not_lt.mp q)
      exact z
theorem gbN_at {m t : Nat} {number : Int} {h : Bool} (h0 : 0 ≤ number) (hi : number < cntF (m + 1) t h) : GbAt m t number h (gbN m t number h) := by
  refine gbGo_at (by rw [lbF_end]; exact hi) t 0 (by omega) ?_
  rw [show ((0 : Nat) : Int) = 0 from rfl, lbF_zero]
  exact h0
theorem GbAt.uniq {m t : Nat} {number : Int} {h : Bool} {v u : Nat} (a : GbAt m t number h v) (b : GbAt m t number h u) : v = u := by
  have key : ∀ {x y : Nat}, GbAt m t number h x → GbAt m t number h y → ¬ x < y := fun {x y} p q l => by
    have z := lbF_mono m t h (v := x + 1) (u := y) l (by have := q.le; omega)
    rw [Int.natCast_add, Int.natCast_one] at z
    have := p.hi
    have := q.lo
    omega
  have := key a b
  have := key b a
  omega
/-! ### the list at a number -/
def madeF : Nat → Nat → Int → Bool → List Nat
  | 0, _, _, _ => []
  | m + 1, t, rest, h => gbN m t rest h :: madeF m (t - gbN m t rest h) (rest - lbF m t (gbN m t rest h) h) (h || decide (gbN m t rest h = 0))
theorem made_rest {m t : Nat} {rest : Int} {h : Bool} {v : Nat} (g : GbAt m t rest h v) : 0 ≤ rest - lbF m t v h ∧ rest - lbF m t v h < cntF m ((t - v : Nat) : Int) (h || decide (v = 0)) := by
  have s := lbF_step m t v h g.le
  have e : ((t - v : Nat) : Int) = (t : Int) - v := by have := g.le; omega
  rw [e, ← s]
  have := g.lo
  have := g.hi
  omega
theorem madeF_ok : ∀ (m t : Nat) (rest : Int) (h : Bool), 0 ≤ rest → rest < cntF m t h → (madeF m t rest h).length = m ∧ (madeF m t rest h).sum = t ∧ (h = true ∨ 0 ∈ madeF m t rest h)
  | 0, t, rest, h, h0, hi => by
    unfold cntF nobF at hi
    cases h with
    | true =>
      simp only [if_true] at hi
      have e : allF ((0 : Nat) : Int) t = if (t : Int) = 0 then 1 else 0 := rfl
      rw [e] at hi
      by_cases z : (t : Int) = 0
      · have : t = 0 := by omega
        subst this
        exact ⟨rfl, rfl, .inl rfl⟩
      · rw [if_neg z] at hi
        omega
    | false =>
      simp only [Bool.false_eq_true, if_false] at hi
      have e : allF ((0 : Nat) : Int) t = fullF ((0 : Nat) : Int) t := rfl
      rw [e] at hi
      omega
  | m + 1, t, rest, h, h0, hi => by
    have g : GbAt m t rest h (gbN m t rest h) := gbN_at h0 (by rw [Int.natCast_add, Int.natCast_one] at hi; exact hi)
    obtain ⟨r0, r1⟩ := made_rest g
    obtain ⟨a, b, c⟩ := madeF_ok m (t - gbN m t rest h) _ _ r0 r1
    unfold madeF
    refine ⟨by rw [List.length_cons, a], ?_, ?_⟩
    · rw [List.sum_cons, b]
      have := g.le
      omega
    · rcases c with c | c
      · rcases Bool.or_eq_true_iff.mp c with c | c
        · exact .inl c
        · refine .inr ?_
          rw [of_decide_eq_true c]
          exact List.mem_cons_self
      · exact .inr (List.mem_cons_of_mem _ c)
/-! ### a row sorted by its keys -/
section
variable {α : Type} [DecidableEq α]
def insK (kf : α → Int) (x : α) : List α → List α
  | [] => [x]
  | y :: r => if kf x ≤ kf y then x :: y :: r else y :: insK kf x r
def sortK (kf : α → Int) : List α → List α
  | [] => []
  | x :: r => insK kf x (sortK kf r)
structure StSort (kf : α → Int) (xs ys : List α) : Prop where
  perm : ys.Perm xs
  pw : ys.Pairwise fun x y => kf x ≤ kf y
  st : ∀ c, ys.filter (fun x => decide (kf x = c)) = xs.filter fun x => decide (kf x = c)
theorem insK_perm (kf : α → Int) (x : α) : ∀ l : List α, (insK kf x l).Perm (x :: l)
  | [] => List.Perm.refl _
  | y :: r => by
    unfold insK
    split
    · exact List.Perm.refl _
    · exact ((insK_perm kf x r).cons y).trans (List.Perm.swap x y r)
theorem insK_pw (kf : α → Int) (x : α) : ∀ {l : List α}, l.Pairwise (fun x y => kf x ≤ kf y) → (insK kf x l).Pairwise fun x y => kf x ≤ kf y
  | [], _ => List.pairwise_singleton _ _
  | y :: r, h => by
    unfold insK
    obtain ⟨h1, h2⟩ := List.pairwise_cons.mp h
    split
    · rename_i q
      refine List.pairwise_cons.mpr ⟨fun z hz => ?_, h⟩
      rcases List.mem_cons.mp hz with e | hz
      · rw [e]
        exact q
      · exact Int.le_trans q (h1 z hz)
    · rename_i q
      refine List.pairwise_cons.mpr ⟨fun z hz => ?_, insK_pw kf x h2⟩
      rcases List.mem_cons.mp ((insK_perm kf x r).mem_iff.mp hz) with e | hz
      · rw [e]
        omega
      · exact h1 z hz
theorem insK_st (kf : α → Int) (x : α) (c : Int) : ∀ {l : List α}, l.Pairwise (fun x y => kf x ≤ kf y) → (insK kf x l).filter (fun x => decide (kf x = c)) = (x :: l).filter fun x => decide (kf x = c)
  | [], _ => rfl
  | y :: r, h => by
    unfold insK
    obtain ⟨h1, h2⟩ := List.pairwise_cons.mp h
    split
    · rfl
    · rename_i q
      rw [List.filter_cons, insK_st kf x c h2, List.filter_cons, List.filter_cons, List.filter_cons]
      by_cases ex : kf x = c
      · have ey : ¬ kf y = c := by omega
        simp only [ex, ey, decide_true, decide_false, if_true, Bool.false_eq_true, if_false]
      · simp only [ex, decide_false, Bool.false_eq_true, if_false]
theorem sortK_ok (kf : α → Int) : ∀ xs : List α, StSort kf xs (sortK kf xs)
  | [] => ⟨List.Perm.refl _, List.Pairwise.nil, fun _ => rfl⟩
  | x :: r => by
    have s := sortK_ok kf r
    refine ⟨(insK_perm kf x _).trans (s.perm.cons x), insK_pw kf x s.pw, fun c => ?_⟩
    show (insK kf x (sortK kf r)).filter _ = _
    rw [insK_st kf x c s.pw, List.filter_cons, List.filter_cons, s.st c]
theorem sortK_uniq (kf : α → Int) : ∀ {ys zs : List α}, ys.Perm zs → ys.Pairwise (fun x y => kf x ≤ kf y) → zs.Pairwise (fun x y => kf x ≤ kf y) → (∀ c, ys.filter (fun x => decide (kf x = c)) = zs.filter fun x => decide (kf x = c)) → ys = zs
  | [], zs, p, _, _, _ => (List.Perm.nil_eq p)
  | y :: ys, [], p, _, _, _ => by
    have := p.length_eq
    simp at this
  | y :: ys, z :: zs, p, h1, h2, st => by
    obtain ⟨a1, a2⟩ := List.pairwise_cons.mp h1
    obtain ⟨b1, b2⟩ := List.pairwise_cons.mp h2
    have e : kf y = kf z := by
      have hy : kf z ≤ kf y := by
        rcases List.mem_cons.mp (p.mem_iff.mp (List.mem_cons_self)) with q | q
        · rw [q]
          exact Int.le_refl _
        · exact b1 y q
      have hz : kf y ≤ kf z := by
        rcases List.mem_cons.mp (p.mem_iff.mpr (List.mem_cons_self (a := z) (l := zs))) with q | q
        · rw [q]
          exact Int.le_refl _
        · exact a1 z q
      omega
    have q := st (kf y)
    rw [List.filter_cons, List.filter_cons] at q
    simp only [decide_true, if_true, e] at q
    have ez : y = z := by
      have := congrArg List.head? q
      simpa using this
    subst ez
    congr 1
    refine sortK_uniq kf (List.perm_cons y |>.mp p) a2 b2 fun c => ?_
    have q := st c
    rw [List.filter_cons, List.filter_cons] at q
    by_cases ec : kf y = c
    · simp only [ec, decide_true, if_true, List.cons.injEq, true_and] at q
      exact q
    · simp only [ec, decide_false, Bool.false_eq_true, if_false] at q
      exact q
theorem StSort.eq {kf : α → Int} {xs ys : List α} (s : StSort kf xs ys) : ys = sortK kf xs :=
  let t := sortK_ok kf xs
  sortK_uniq kf (s.perm.trans t.perm.symm) s.pw t.pw fun c => (s.st c).trans (t.st c).symm
/-! ### the walk of a stand -/
def rowOf (n : Int) (ns : List α) (st : α → Int) : List α := sortK (fun x => st x % n) ns
def nextIn (row : List α) (x : α) : α := row.getD ((row.idxOf x + 1) % row.length) x
def moversF (n : Int) (ns : List α) (st lf : α → Int) : List α := ns.filter fun x => decide (lf x > lf (nextIn (rowOf n ns st) x))
def amin (kf : α → Int) : α → List α → α
  | b, [] => b
  | b, y :: r => if kf y < kf b then amin kf y r else amin kf b r
def leastF (n : Int) (ns : List α) (st lf : α → Int) : Option α := match moversF n ns st lf with
  | [] => none
  | x :: r => some (amin lf x r)
def someF (ns : List α) (lf : α → Int) : List α := ns.filter fun x => decide (lf x > 0)
def lmin : Int → List Int → Int
  | b, [] => b
  | b, y :: r => if y < b then lmin y r else lmin b r
/-- (laps, many) -/
def lapsF (ns : List α) (lf : α → Int) : Int × Int := match (someF ns lf).map lf with
  | [] => (0, ns.length)
  | x :: r => (lmin x r / ((ns.length : Int) - (r.length + 1)), (ns.length : Int) - (r.length + 1))
def upF (f : α → Int) (x : α) (v : Int) : α → Int := fun y => if y = x then v else f y
def behindF (st : α → Int) (one other : α) : α → Int := upF (upF st one (st one + 1)) other (st other - 1)
def stepF (ns : List α) (st lf : α → Int) : Option ((α → Int) × (α → Int)) :=
  let lm := lapsF ns lf
  if lm.1 > 0 then some (fun x => if lf x > 0 then st x + lm.1 * lm.2 else st x - lm.1 * ((ns.length : Int) - lm.2), fun x => if lf x > 0 then lf x - lm.1 * lm.2 else 0)
  else match leastF ns.length ns st lf with
    | none => none
    | some one => some (behindF st one (nextIn (rowOf ns.length ns st) one), upF lf one (lf one - 1))
def standF (ns : List α) : Nat → (α → Int) → (α → Int) → (α → Int)
  | 0, st, _ => st
  | k + 1, st, lf => if (ns.any fun x => decide (lf x ≠ 0)) = true then (match stepF ns st lf with
    | none => st
    | some p => standF ns k p.1 p.2) else st
end
end Rw
set_option maxHeartbeats 4000000
/-! Plain Lean: the walk of a stand ends. -/
namespace Rw
open PySem PySem.W
section
variable {α : Type} [DecidableEq α]
structure LfOk (ns : List α) (lf : α → Int) : Prop where
  nn : ∀ x ∈ ns, 0 ≤ lf x
  zero : ∃ z ∈ ns, lf z = 0
def sumF (ns : List α) (lf : α → Int) : Int := (ns.map lf).sum
theorem sumF_nn {ns : List α} {lf : α → Int} (h : ∀ x ∈ ns, 0 ≤ lf x) : 0 ≤ sumF ns lf := by
  induction ns with
  | nil => exact Int.le_refl _
  | cons x r ih =>
    show 0 ≤ ((x :: r).map lf).sum
    rw [List.map_cons, List.sum_cons]
    have := h x List.mem_cons_self
    have := ih fun y hy => h y (List.mem_cons_of_mem _ hy)
    unfold sumF at this
    omega
theorem sumF_le {ns : List α} {lf lg : α → Int} (h : ∀ x ∈ ns, lg x ≤ lf x) : sumF ns lg ≤ sumF ns lf := by
  induction ns with
  | nil => exact Int.le_refl _
  | cons x r ih =>
    show ((x :: r).map lg).sum ≤ ((x :: r).map lf).sum
    rw [List.map_cons, List.sum_cons, List.map_cons, List.sum_cons]
    have := h x List.mem_cons_self
    have := ih fun y hy => h y (List.mem_cons_of_mem _ hy)
    unfold sumF at this
    omega
theorem sumF_drop {ns : List α} {lf lg : α → Int} {d : Int} (h : ∀ x ∈ ns, lg x ≤ lf x) (hx : ∃ x ∈ ns, lg x ≤ lf x - d) : sumF ns lg ≤ sumF ns lf - d := by
  induction ns with
  | nil =>
    obtain ⟨x, hx, _⟩ := hx
    cases hx
  | cons x r ih =>
    show ((x :: r).map lg).sum ≤ ((x :: r).map lf).sum - d
    rw [List.map_cons, List.sum_cons, List.map_cons, List.sum_cons]
    obtain ⟨z, hz, q⟩ := hx
    have h1 := h x List.mem_cons_self
    rcases List.mem_cons.mp hz with e | hz
    · subst e
      have := sumF_le fun y hy => h y (List.mem_cons_of_mem _ hy)
      unfold sumF at this
      omega
    · have := ih (fun y hy => h y (List.mem_cons_of_mem _ hy)) ⟨z, hz, q⟩
      unfold sumF at this
      omega
theorem sumF_mem {ns : List α} {lf : α → Int} (h : ∀ x ∈ ns, 0 ≤ lf x) {x : α} (hx : x ∈ ns) : lf x ≤ sumF ns lf := by
  induction ns with
  | nil => cases hx
  | cons y r ih =>
    show lf x ≤ ((y :: r).map lf).sum
    rw [List.map_cons, List.sum_cons]
    have h0 := sumF_nn fun z hz => h z (List.mem_cons_of_mem _ hz)
    unfold sumF at h0
    have h1 := h y List.mem_cons_self
    rcases List.mem_cons.mp hx with e | hx
    · subst e
      omega
    · have := ih (fun z hz => h z (List.mem_cons_of_mem _ hz)) hx
      unfold sumF at this
      omega
theorem amin_mem (kf : α → Int) : ∀ (x : α) (r : List α), amin kf x r ∈ x :: r
  | x, [] => List.mem_cons_self
  | x, y :: r => by
    unfold amin
    split
    · exact List.mem_cons_of_mem _ (amin_mem kf y r)
    · rcases List.mem_cons.mp (amin_mem kf x r) with e | h
      · rw [e]
        exact List.mem_cons_self
      · exact List.mem_cons_of_mem _ (List.mem_cons_of_mem _ h)
theorem lmin_le : ∀ (x : Int) (r : List Int) (y : Int), y ∈ x :: r → lmin x r ≤ y
  | x, [], y, h => by
    rw [List.mem_singleton.mp h]
    exact Int.le_refl _
  | x, z :: r, y, h => by
    unfold lmin
    split
    · rename_i q
      rcases List.mem_cons.mp h with e | h
      · rw [e]
        exact Int.le_trans (lmin_le z r z List.mem_cons_self) (Int.le_of_lt q)
      · exact lmin_le z r y h
    · rename_i q
      rcases List.mem_cons.mp h with e | h
      · rw [e]
        exact lmin_le x r x List.mem_cons_self
      · rcases List.mem_cons.mp h with e | h
        · rw [e]
          exact Int.le_trans (lmin_le x r x List.mem_cons_self) (by omega)
        · exact lmin_le x r y (List.mem_cons_of_mem _ h)
theorem lmin_mem : ∀ (x : Int) (r : List Int), lmin x r ∈ x :: r
  | x, [] => List.mem_cons_self
  | x, z :: r => by
    unfold lmin
    split
    · exact List.mem_cons_of_mem _ (lmin_mem z r)
    · rcases List.mem_cons.mp (lmin_mem x r) with e | h
      · rw [e]
        exact List.mem_cons_self
      · exact List.mem_cons_of_mem _ (List.mem_cons_of_mem _ h)
theorem idx_get : ∀ {l : List α}, l.Nodup → ∀ (i : Nat) (h : i < l.length), l.idxOf l[i] = i
  | x :: r, _, 0, _ => by simp
  | x :: r, nd, i + 1, h => by
    obtain ⟨n1, n2⟩ := List.nodup_cons.mp nd
    have hi : i < r.length := by simpa using h
    have q := idx_get n2 i hi
    show (x :: r).idxOf r[i] = i + 1
    have ne : x ≠ r[i] := fun e => n1 (by rw [e]; exact List.getElem_mem hi)
    rw [List.idxOf_cons]
    have : (x == r[i]) = false := by simpa using ne
    rw [this]
    simp [q]
theorem row_perm (n : Int) (ns : List α) (st : α → Int) : (rowOf n ns st).Perm ns := (sortK_ok _ ns).perm
theorem getD_at {l : List α} {i : Nat} {d : α} (h : i < l.length) : l.getD i d = l[i] := by rw [List.getD_eq_getElem?_getD, List.getElem?_eq_getElem h]; rfl
theorem next_get {row : List α} (nd : row.Nodup) {i : Nat} (h : i < row.length) : nextIn row row[i] = row[(i + 1) % row.length]'(Nat.mod_lt _ (by omega)) := by
  unfold nextIn
  rw [idx_get nd i h, getD_at (Nat.mod_lt _ (by omega))]
theorem next_mem {row : List α} {x : α} (h : x ∈ row) : nextIn row x ∈ row := by
  unfold nextIn
  have hp : 0 < row.length := List.length_pos_iff.mpr fun z => by rw [z] at h; cases h
  rw [getD_at (Nat.mod_lt _ hp)]
  exact List.getElem_mem _
/-- without a mover all are as the least -/
theorem no_mover {row : List α} {lf : α → Int} (nd : row.Nodup) (h : ∀ x ∈ row, lf x ≤ lf (nextIn row x)) (hz : ∃ z ∈ row, lf z ≤ 0) : ∀ x ∈ row, lf x ≤ 0 := by
  obtain ⟨z, hz, z0⟩ := hz
  obtain ⟨j, hj, ej⟩ := List.getElem_of_mem hz
  have hn : 0 < row.length := by omega
  have key : ∀ k : Nat, lf (row[(j + (row.length - 1) * k) % row.length]'(Nat.mod_lt _ hn)) ≤ 0 := by
    intro k
    induction k with
    | zero =>
      have e : (j + (row.length - 1) * 0) % row.length = j := by
        rw [Nat.mul_zero, Nat.add_zero, Nat.mod_eq_of_lt hj]
      simp only [e]
      rw [ej]
      exact z0
    | succ k ih =>
      have hi : (j + (row.length - 1) * (k + 1)) % row.length < row.length := Nat.mod_lt _ hn
      have q := h _ (List.getElem_mem hi)
      rw [next_get nd hi] at q
      have e : ((j + (row.length - 1) * (k + 1)) % row.length + 1) % row.length = (j + (row.length - 1) * k) % row.length := by
        rw [Nat.add_mod, Nat.mod_mod, ← Nat.add_mod, Nat.mul_succ]
        have e2 : j + ((row.length - 1) * k + (row.length - 1)) + 1 = (j + (row.length - 1) * k) + row.length := by omega
        rw [e2, Nat.add_mod_right]
      simp only [e] at q
      exact Int.le_trans q ih
  intro x hx
  obtain ⟨i, hi, ei⟩ := List.getElem_of_mem hx
  have q := key (j + row.length - i)
  have e : (j + (row.length - 1) * (j + row.length - i)) % row.length = i := by
    obtain ⟨m, hm⟩ : ∃ m, row.length = m + 1 := ⟨row.length - 1, by omega⟩
    obtain ⟨k, hk⟩ : ∃ k, j + row.length - i = k + 1 := ⟨j + row.length - i - 1, by omega⟩
    have e2 : j + (row.length - 1) * (j + row.length - i) = i + row.length * k := by
      rw [hk, hm]
      rw [hm] at hk hi
      have e3 : m + 1 - 1 = m := by omega
      rw [e3, Nat.mul_succ, Nat.succ_mul]
      omega
    rw [e2, Nat.add_mul_mod_self_left, Nat.mod_eq_of_lt hi]
  simp only [e] at q
  rw [ei] at q
  exact q
theorem some_len {ns : List α} {lf : α → Int} (hz : ∃ z ∈ ns, lf z = 0) : (someF ns lf).length < ns.length := by
  obtain ⟨z, hz, e⟩ := hz
  unfold someF
  refine Nat.lt_of_le_of_ne (List.length_filter_le _ _) fun q => ?_
  have := (List.length_filter_eq_length_iff.mp q) z hz
  simp [e] at this
structure StepOk (ns : List α) (st lf : α → Int) (p : (α → Int) × (α → Int)) : Prop where
  ok : LfOk ns p.2
  dn : sumF ns p.2 + 1 ≤ sumF ns lf
  bd : ∀ x ∈ ns, -((ns.length : Int) * (sumF ns lf - sumF ns p.2)) ≤ p.1 x - st x ∧ p.1 x - st x ≤ (ns.length : Int) * (sumF ns lf - sumF ns p.2)
theorem some_of {ns : List α} {lf : α → Int} {x : Int} {r : List Int} (e : (someF ns lf).map lf = x :: r) : (someF ns lf).length = r.length + 1 := by
  have := congrArg List.length e
  rw [List.length_map] at this
  simpa using this
theorem lapsF_at {ns : List α} {lf : α → Int} (ok : LfOk ns lf) (h : ∃ x ∈ ns, lf x ≠ 0) : ∃ (x : Int) (r : List Int), (someF ns lf).map lf = x :: r ∧ 1 ≤ (ns.length : Int) - (r.length + 1) ∧ (∀ y ∈ ns, lf y > 0 → lmin x r ≤ lf y) ∧ (∃ y ∈ ns, lf y > 0 ∧ lmin x r = lf y) := by
  cases e : (someF ns lf).map lf with
  | nil =>
    obtain ⟨x, hx, n⟩ := h
    have := ok.nn x hx
    have m : x ∈ someF ns lf := List.mem_filter.mpr ⟨hx, decide_eq_true (by omega)⟩
    have m2 := List.mem_map_of_mem (f := lf) m
    rw [e] at m2
    cases m2
  | cons x r =>
    refine ⟨x, r, rfl, ?_, fun y hy p => ?_, ?_⟩
    · have := some_len ok.zero
      have := some_of e
      omega
    · refine lmin_le x r _ ?_
      rw [← e]
      exact List.mem_map_of_mem (List.mem_filter.mpr ⟨hy, decide_eq_true p⟩)
    · have m := lmin_mem x r
      rw [← e] at m
      obtain ⟨y, hy, ey⟩ := List.mem_map.mp m
      obtain ⟨h1, h2⟩ := List.mem_filter.mp hy
      exact ⟨y, h1, of_decide_eq_true h2, ey.symm⟩
theorem step_ok {ns : List α} {st lf : α → Int} (nd : ns.Nodup) (ok : LfOk ns lf) (h : ∃ x ∈ ns, lf x ≠ 0) : ∃ p, stepF ns st lf = some p ∧ StepOk ns st lf p := by
  obtain ⟨x, r, e, m1, ml, y0, hy0, py0, ey0⟩ := lapsF_at ok h
  have el : lapsF ns lf = (lmin x r / ((ns.length : Int) - (r.length + 1)), (ns.length : Int) - (r.length + 1)) := by
    unfold lapsF
    rw [e]
  generalize hm : (ns.length : Int) - (r.length + 1) = many at m1 el
  generalize hL : lmin x r = L at ml ey0 el
  have hn : many ≤ ns.length := by omega
  unfold stepF
  rw [el]
  dsimp only
  by_cases hp : L / many > 0
  · rw [if_pos hp]
    have q1 : L / many * many ≤ L := Int.ediv_mul_le L (by omega)
    generalize hq : L / many = laps at hp q1
    have q2 : laps * 1 ≤ laps * many := Int.mul_le_mul_of_nonneg_left m1 (by omega)
    have q3 : laps * many ≤ laps * ns.length := Int.mul_le_mul_of_nonneg_left hn (by omega)
    have q4 : laps * (ns.length - many) ≤ laps * ns.length := Int.mul_le_mul_of_nonneg_left (by omega) (by omega)
    have q5 : 0 ≤ laps * (ns.length - many) := Int.mul_nonneg (by omega) (by omega)
    have drop : sumF ns (fun x => if lf x > 0 then lf x - laps * many else 0) ≤ sumF ns lf - laps * many := by
      refine sumF_drop (fun z hz => ?_) ⟨y0, hy0, ?_⟩
      · show (if lf z > 0 then lf z - laps * many else 0) ≤ lf z
        have := ok.nn z hz
        split <;> omega
      · show (if lf y0 > 0 then lf y0 - laps * many else 0) ≤ lf y0 - laps * many
        rw [if_pos py0]
        exact Int.le_refl _
    refine ⟨_, rfl, ⟨fun z hz => ?_, ?_⟩, ?_, fun z hz => ?_⟩
    · show 0 ≤ if lf z > 0 then lf z - laps * many else 0
      split
      · rename_i p
        have := ml z hz p
        omega
      · exact Int.le_refl _
    · obtain ⟨z, hz, ez⟩ := ok.zero
      exact ⟨z, hz, by show (if lf z > 0 then lf z - laps * many else 0) = 0; rw [if_neg (by omega)]⟩
    · show sumF ns (fun x => if lf x > 0 then lf x - laps * many else 0) + 1 ≤ sumF ns lf
      omega
    · have big : laps * ns.length ≤ (ns.length : Int) * (sumF ns lf - sumF ns fun x => if lf x > 0 then lf x - laps * many else 0) := by
        rw [Int.mul_comm]
        exact Int.mul_le_mul_of_nonneg_left (by omega) (by omega)
      show -(_) ≤ (if lf z > 0 then st z + laps * many else st z - laps * (ns.length - many)) - st z ∧ (if lf z > 0 then st z + laps * many else st z - laps * (ns.length - many)) - st z ≤ _
      dsimp only
      split <;> omega
  · rw [if_neg hp]
    have rp := row_perm (ns.length : Int) ns st
    have nr : (rowOf (ns.length : Int) ns st).Nodup := rp.nodup_iff.mpr nd
    have mv : moversF (ns.length : Int) ns st lf ≠ [] := fun z => by
      obtain ⟨w, hw, nw⟩ := h
      obtain ⟨u, hu, eu⟩ := ok.zero
      have q := no_mover (lf := lf) nr (fun v hv => by
        have hv' := rp.mem_iff.mp hv
        have := (List.filter_eq_nil_iff.mp z) v hv'
        simp at this
        omega) ⟨u, rp.mem_iff.mpr hu, by omega⟩ w (rp.mem_iff.mpr hw)
      have := ok.nn w hw
      omega
    unfold leastF
    cases em : moversF (ns.length : Int) ns st lf with
    | nil => exact absurd em mv
    | cons a l =>
      dsimp only
      have hone : amin lf a l ∈ moversF (ns.length : Int) ns st lf := by
        rw [em]
        exact amin_mem lf a l
      generalize amin lf a l = one at hone
      obtain ⟨h1, h2⟩ := List.mem_filter.mp hone
      have h3 := of_decide_eq_true h2
      have hnx : nextIn (rowOf (ns.length : Int) ns st) one ∈ ns := rp.mem_iff.mp (next_mem (rp.mem_iff.mpr h1))
      generalize nextIn (rowOf (ns.length : Int) ns st) one = nx at h3 hnx
      have n0 := ok.nn nx hnx
      have hlen : 1 ≤ (ns.length : Int) := by
        have := List.length_pos_iff.mpr fun z : ns = [] => by rw [z] at h1; cases h1
        omega
      have drop : sumF ns (upF lf one (lf one - 1)) ≤ sumF ns lf - 1 := by
        refine sumF_drop (fun z hz => ?_) ⟨one, h1, ?_⟩
        · unfold upF
          split
          · rename_i q
            rw [q]
            omega
          · exact Int.le_refl _
        · unfold upF
          rw [if_pos rfl]
          exact Int.le_refl _
      refine ⟨_, rfl, ⟨fun z hz => ?_, ?_⟩, ?_, fun z hz => ?_⟩
      · show 0 ≤ upF lf one (lf one - 1) z
        unfold upF
        split
        · omega
        · exact ok.nn z hz
      · obtain ⟨u, hu, eu⟩ := ok.zero
        refine ⟨u, hu, ?_⟩
        show upF lf one (lf one - 1) u = 0
        unfold upF
        rw [if_neg fun q => by rw [q] at eu; omega]
        exact eu
      · show sumF ns (upF lf one (lf one - 1)) + 1 ≤ sumF ns lf
        omega
      · have big : 1 ≤ (ns.length : Int) * (sumF ns lf - sumF ns (upF lf one (lf one - 1))) := by
          have := Int.mul_le_mul hlen (show 1 ≤ sumF ns lf - sumF ns (upF lf one (lf one - 1)) by omega) (by decide) (by omega)
          omega
        show -(_) ≤ behindF st one nx z - st z ∧ behindF st one nx z - st z ≤ _
        dsimp only
        unfold behindF
        generalize (ns.length : Int) * (sumF ns lf - sumF ns (upF lf one (lf one - 1))) = B at big
        unfold upF
        split
        · rename_i q
          rw [q]
          omega
        · split
          · rename_i q
            rw [q]
            omega
          · omega
theorem standF_end {ns : List α} {lf : α → Int} (h : ∀ x ∈ ns, lf x = 0) (k : Nat) (st : α → Int) : standF ns k st lf = st := by
  cases k with
  | zero => rfl
  | succ k =>
    unfold standF
    rw [if_neg]
    intro z
    obtain ⟨x, hx, q⟩ := List.any_eq_true.mp z
    exact of_decide_eq_true q (h x hx)
theorem any_iff {ns : List α} {lf : α → Int} : (ns.any fun x => decide (lf x ≠ 0)) = true ↔ ∃ x ∈ ns, lf x ≠ 0 := by
  rw [List.any_eq_true]
  exact ⟨fun ⟨x, hx, q⟩ => ⟨x, hx, of_decide_eq_true q⟩, fun ⟨x, hx, q⟩ => ⟨x, hx, decide_eq_true q⟩⟩
/-- more fuel changes nothing -/
theorem standF_fuel {ns : List α} (nd : ns.Nodup) : ∀ (k j : Nat) (st lf : α → Int), LfOk ns lf → (sumF ns lf).toNat ≤ k → (sumF ns lf).toNat ≤ j → standF ns k st lf = standF ns j st lf
  | k, j, st, lf, ok, hk, hj => by
    by_cases h : ∃ x ∈ ns, lf x ≠ 0
    · obtain ⟨p, e, s⟩ := step_ok (st := st) nd ok h
      have n1 := sumF_nn s.ok.nn
      have n2 := s.dn
      cases k with
      | zero => omega
      | succ k =>
        cases j with
        | zero => omega
        | succ j =>
          unfold standF
          rw [if_pos (any_iff.mpr h), if_pos (any_iff.mpr h), e]
          exact standF_fuel nd k j p.1 p.2 s.ok (by omega) (by omega)
    · have z : ∀ x ∈ ns, lf x = 0 := fun x hx => Decidable.byContradiction fun q => h ⟨x, hx, q⟩
      rw [standF_end z, standF_end z]
/-- the stand that numbers tell -/
def standN (ns : List α) (st lf : α → Int) : α → Int := standF ns (sumF ns lf).toNat st lf
theorem standN_step {ns : List α} {st lf : α → Int} (nd : ns.Nodup) (ok : LfOk ns lf) (h : ∃ x ∈ ns, lf x ≠ 0) {p : (α → Int) × (α → Int)} (e : stepF ns st lf = some p) : standN ns st lf = standN ns p.1 p.2 := by
  obtain ⟨p', e', s⟩ := step_ok (st := st) nd ok h
  rw [e] at e'
  cases e'
  have n1 := sumF_nn s.ok.nn
  have n2 := s.dn
  unfold standN
  obtain ⟨k, hk⟩ : ∃ k, (sumF ns lf).toNat = k + 1 := ⟨(sumF ns lf).toNat - 1, by omega⟩
  rw [hk]
  show (if (ns.any fun x => decide (lf x ≠ 0)) = true then _ else _) = _
  rw [if_pos (any_iff.mpr h), e]
  exact standF_fuel nd k _ p.1 p.2 s.ok (by omega) (Nat.le_refl _)
theorem standN_end {ns : List α} {st lf : α → Int} (h : ∀ x ∈ ns, lf x = 0) : standN ns st lf = st := standF_end h _ _
end
end Rw
set_option maxHeartbeats 4000000
/-! Plain Lean: stands by places; the search by width against the drawn stands. -/
namespace Rw
open PySem PySem.W
section
variable {α β : Type} [DecidableEq α] [DecidableEq β] (φ : α → β) (inj : ∀ x y, φ x = φ y → x = y)
theorem insK_map (kf : β → Int) (x : α) : ∀ l : List α, insK kf (φ x) (l.map φ) = (insK (fun a => kf (φ a)) x l).map φ
  | [] => rfl
  | y :: r => by
    show insK kf (φ x) (φ y :: r.map φ) = _
    unfold insK
    split
    · rfl
    · rw [insK_map kf x r]
      rfl
theorem sortK_map (kf : β → Int) : ∀ l : List α, sortK kf (l.map φ) = (sortK (fun a => kf (φ a)) l).map φ
  | [] => rfl
  | x :: r => by
    show insK kf (φ x) (sortK kf (r.map φ)) = _
    rw [sortK_map kf r, insK_map]
    rfl
theorem rowOf_map (n : Int) (xs : List α) (st : β → Int) : rowOf n (xs.map φ) st = (rowOf n xs fun a => st (φ a)).map φ := sortK_map φ _ xs
include inj in
theorem idxOf_map (x : α) : ∀ l : List α, (l.map φ).idxOf (φ x) = l.idxOf x
  | [] => rfl
  | y :: r => by
    rw [List.map_cons, List.idxOf_cons, List.idxOf_cons, idxOf_map x r]
    by_cases e : y = x
    · subst e
      simp
    · have h1 : (φ y == φ x) = false := by simpa using fun z => e (inj _ _ z)
      have h2 : (y == x) = false := by simpa using e
      rw [h1, h2]
include inj in
theorem nextIn_map (l : List α) (x : α) : nextIn (l.map φ) (φ x) = φ (nextIn l x) := by
  unfold nextIn
  rw [idxOf_map φ inj, List.length_map, List.getD_eq_getElem?_getD, List.getD_eq_getElem?_getD, List.getElem?_map]
  cases l[(l.idxOf x + 1) % l.length]? <;> rfl
include inj in
theorem moversF_map (n : Int) (xs : List α) (st lf : β → Int) : moversF n (xs.map φ) st lf = (moversF n xs (fun a => st (φ a)) fun a => lf (φ a)).map φ := by
  unfold moversF
  rw [List.filter_map]
  congr 1
  refine List.filter_congr fun x _ => ?_
  show decide (lf (φ x) > lf (nextIn (rowOf n (xs.map φ) st) (φ x))) = _
  rw [rowOf_map, nextIn_map φ inj]
theorem amin_map (kf : β → Int) : ∀ (x : α) (l : List α), amin kf (φ x) (l.map φ) = φ (amin (fun a => kf (φ a)) x l)
  | x, [] => rfl
  | x, y :: r => by
    show (if kf (φ y) < kf (φ x) then amin kf (φ y) (r.map φ) else amin kf (φ x) (r.map φ)) = _
    rw [amin_map kf y r, amin_map kf x r]
    show _ = φ (if kf (φ y) < kf (φ x) then amin (fun a => kf (φ a)) y r else amin (fun a => kf (φ a)) x r)
    split <;> rfl
include inj in
theorem leastF_map (n : Int) (xs : List α) (st lf : β → Int) : leastF n (xs.map φ) st lf = (leastF n xs (fun a => st (φ a)) fun a => lf (φ a)).map φ := by
  unfold leastF
  rw [moversF_map φ inj]
  cases moversF n xs (fun a => st (φ a)) fun a => lf (φ a) with
  | nil => rfl
  | cons x r =>
    show some (amin lf (φ x) (r.map φ)) = _
    rw [amin_map]
    rfl
theorem lapsF_map (xs : List α) (lf : β → Int) : lapsF (xs.map φ) lf = lapsF xs fun a => lf (φ a) := by
  unfold lapsF someF
  rw [List.filter_map, List.map_map, List.length_map]
  rfl
include inj in
theorem upF_map (f : β → Int) (x : α) (v : Int) : (fun a => upF f (φ x) v (φ a)) = upF (fun a => f (φ a)) x v := by
  funext a
  unfold upF
  by_cases e : a = x
  · rw [if_pos e, if_pos (by rw [e])]
  · rw [if_neg e, if_neg fun z => e (inj _ _ z)]
include inj in
theorem behindF_map (st : β → Int) (x y : α) : (fun a => behindF st (φ x) (φ y) (φ a)) = behindF (fun a => st (φ a)) x y := by
  unfold behindF
  rw [upF_map φ inj]
  have q := upF_map φ inj st x (st (φ x) + 1)
  rw [q]
include inj in
theorem stepF_map (xs : List α) (st lf : β → Int) : (stepF (xs.map φ) st lf).map (fun p => ((fun a => p.1 (φ a)), fun a => p.2 (φ a))) = stepF xs (fun a => st (φ a)) fun a => lf (φ a) := by
  unfold stepF
  rw [lapsF_map, List.length_map]
  dsimp only
  split
  · rfl
  · rw [leastF_map φ inj]
    cases leastF xs.length xs (fun a => st (φ a)) fun a => lf (φ a) with
    | none => rfl
    | some one =>
      show some _ = some _
      dsimp only
      rw [rowOf_map, nextIn_map φ inj, behindF_map φ inj, upF_map φ inj]
include inj in
theorem standF_map (xs : List α) : ∀ (k : Nat) (st lf : β → Int), (fun a => standF (xs.map φ) k st lf (φ a)) = standF xs k (fun a => st (φ a)) fun a => lf (φ a)
  | 0, st, lf => rfl
  | k + 1, st, lf => by
    unfold standF
    rw [List.any_map]
    have q := stepF_map φ inj xs st lf
    have e0 : (xs.any ((fun x => decide (lf x ≠ 0)) ∘ φ)) = xs.any fun x => decide ((fun a => lf (φ a)) x ≠ 0) := rfl
    rw [e0]
    by_cases h : (xs.any fun x => decide ((fun a => lf (φ a)) x ≠ 0)) = true
    · rw [if_pos h, if_pos h]
      cases e : stepF (xs.map φ) st lf with
      | none =>
        rw [e] at q
        have q' : stepF xs (fun a => st (φ a)) (fun a => lf (φ a)) = none := q.symm
        rw [q']
      | some p =>
        rw [e] at q
        have q' : stepF xs (fun a => st (φ a)) (fun a => lf (φ a)) = some ((fun a => p.1 (φ a)), fun a => p.2 (φ a)) := q.symm
        rw [q']
        exact standF_map xs k p.1 p.2
    · rw [if_neg h, if_neg h]
include inj in
theorem standN_map (xs : List α) (st lf : β → Int) : (xs.map φ).map (standN (xs.map φ) st lf) = xs.map (standN xs (fun a => st (φ a)) fun a => lf (φ a)) := by
  unfold standN
  have e : sumF (xs.map φ) lf = sumF xs fun a => lf (φ a) := by
    unfold sumF
    rw [List.map_map]
    rfl
  rw [e, List.map_map]
  have q := standF_map φ inj xs (sumF xs fun a => lf (φ a)).toNat st lf
  rw [← q]
  rfl
end
/-! ### by places -/
def fr (n : Nat) : List (Fin n) := List.ofFn fun i => i
/-- the values of the drawn stand at k, by places -/
def dvals (n t k : Nat) : List Int := (fr n).map (standN (fr n) (fun i => (i : Int)) fun i => (((madeF n t k false).getD i 0 : Nat) : Int))
theorem fr_map {α : Type} (ns : List α) : (fr ns.length).map (fun i => ns[i]) = ns := by
  unfold fr
  rw [List.map_ofFn]
  exact List.ofFn_getElem
/-- .. by names -/
theorem dvals_names {α : Type} [DecidableEq α] {ns : List α} (nd : ns.Nodup) (t k : Nat) (st lf : α → Int) (hst : ∀ (i : Nat) (h : i < ns.length), st ns[i] = i) (hlf : ∀ (i : Nat) (h : i < ns.length), lf ns[i] = ((madeF ns.length t k false).getD i 0 : Nat)) :
    ns.map (standN ns st lf) = dvals ns.length t k := by
  have inj : ∀ x y : Fin ns.length, ns[x] = ns[y] → x = y := fun x y e => Fin.ext ((List.getElem_inj nd).mp e)
  have q := standN_map (fun i : Fin ns.length => ns[i]) inj (fr ns.length) st lf
  rw [fr_map] at q
  rw [q]
  unfold dvals
  congr 2
  · funext i
    exact hst i i.2
  · funext i
    exact hlf i i.2
/-! ### the search by width -/
def aheadF (n : Nat) (ps : List Int) (one : Nat) : List Nat := (List.range n).filter fun o => decide ((ps.getD o 0 - ps.getD one 0 - 1) % n = 0)
def behindL (ps : List Int) (one other : Nat) : List Int := ps.zipIdx.map fun p => p.1 + (if p.2 = one then 1 else 0) - if p.2 = other then 1 else 0
def furtherF (n : Nat) (ps : List Int) (one : Nat) : List Int := behindL ps one ((aheadF n ps one).headD 0)
/-- (met, later) behind one more -/
def meetF (n : Nat) (ps : List Int) (one : Nat) (c : List (List Int) × List (List Int)) : List (List Int) × List (List Int) := if furtherF n ps one ∈ c.1 then c else (c.1 ++ [furtherF n ps one], c.2 ++ [furtherF n ps one])
def meetR (n : Nat) (ps : List Int) (c : List (List Int) × List (List Int)) : List (List Int) × List (List Int) := (List.range n).foldl (fun c one => meetF n ps one c) c
def meetL (n : Nat) (lv : List (List Int)) (met : List (List Int)) : List (List Int) × List (List Int) := lv.foldl (fun c ps => meetR n ps c) (met, [])
def startL (n : Nat) : List Int := (List.range n).map fun i : Nat => (i : Int)
/-- (met, level) -/
def levelF (n : Nat) : Nat → List (List Int) × List (List Int)
  | 0 => ([startL n], [startL n])
  | t + 1 => meetL n (levelF n t).2 (levelF n t).1
def small : List (Nat × Nat) := [(2, 0), (2, 1), (2, 2), (2, 3), (2, 4), (3, 0), (3, 1), (3, 2), (3, 3), (3, 4), (4, 0), (4, 1), (4, 2), (4, 3), (4, 4)]
theorem small_perm : ∀ p ∈ small, ((List.range (levelF p.1 p.2).2.length).map (dvals p.1 p.2)).isPerm (levelF p.1 p.2).2 = true := by decide +kernel
theorem small_len : ∀ p ∈ small, ((levelF p.1 p.2).2.length : Int) ≤ nobF p.1 p.2 ∧ (levelF p.1 p.2).2.length < 64 := by decide +kernel
theorem small_ok : ∀ p ∈ small, ∀ ps ∈ (levelF p.1 p.2).2, ps.length = p.1 ∧ (∀ one ∈ List.range p.1, (aheadF p.1 ps one).length ≠ 0) ∧ ∀ v ∈ ps, -100 ≤ v ∧ v ≤ 100 := by decide +kernel
end Rw
set_option maxHeartbeats 4000000
/-! How large the numbers of stands are. -/
namespace Rw
theorem ch_le_pow : ∀ n k : Nat, ch n k ≤ (n + 1) ^ k
  | n, 0 => by rw [ch_zero]; exact Nat.le_refl _
  | 0, k + 1 => Nat.zero_le _
  | n + 1, k + 1 => by
    rw [ch_succ]
    have h1 := ch_le_pow n k
    have h2 := ch_le_pow n (k + 1)
    have e : (n + 1) ^ k + (n + 1) ^ (k + 1) = (n + 1 + 1) * (n + 1) ^ k := by rw [Nat.pow_succ, Nat.add_mul, Nat.one_mul, Nat.add_comm, Nat.mul_comm]
    have h3 : (n + 1) ^ k ≤ (n + 1 + 1) ^ k := Nat.pow_le_pow_left (Nat.le_succ _) k
    calc ch n k + ch n (k + 1) ≤ (n + 1) ^ k + (n + 1) ^ (k + 1) := Nat.add_le_add h1 h2
      _ = (n + 1 + 1) * (n + 1) ^ k := e
      _ ≤ (n + 1 + 1) * (n + 1 + 1) ^ k := Nat.mul_le_mul_left _ h3
      _ = (n + 1 + 1) ^ (k + 1) := by rw [Nat.pow_succ, Nat.mul_comm]
theorem nob_log {m t : Nat} (h2 : 2 ≤ m) (hm : m ≤ 22) (ht : t < 2 ^ 58) : (nobF m t).natAbs.log2 < 9000 := by
  obtain ⟨k, rfl⟩ : ∃ k, m = k + 1 := ⟨m - 1, by omega⟩
  have h1 := nobF_pos t h2
  have e1 : allF ((k + 1 : Nat) : Int) t = (ch (t + k) k : Int) := by
    have := allF_nat k t
    rwa [Int.natCast_add, Int.natCast_one]
  have hf : 0 ≤ fullF ((k + 1 : Nat) : Int) t := by
    rw [Int.natCast_add, Int.natCast_one]
    cases t with
    | zero =>
      rw [show ((0 : Nat) : Int) = 0 from rfl, fullF_none]
      exact Int.le_refl _
    | succ t =>
      rw [Int.natCast_add, Int.natCast_one, fullF_nat]
      exact Int.natCast_nonneg _
  have hb : nobF ((k + 1 : Nat) : Int) t ≤ (ch (t + k) k : Int) := by
    unfold nobF
    omega
  have hp := ch_le_pow (t + k) k
  have hq : (t + k + 1) ^ k ≤ (2 ^ 59) ^ 21 := Nat.le_trans (Nat.pow_le_pow_left (by omega) k) (Nat.pow_le_pow_right (by decide) (by omega))
  have hr : (2 ^ 59) ^ 21 < 2 ^ 9000 := by rw [← Nat.pow_mul]; exact Nat.pow_lt_pow_right (by decide) (by decide)
  have hn : (nobF ((k + 1 : Nat) : Int) t).natAbs ≤ ch (t + k) k := by omega
  have hz : (nobF ((k + 1 : Nat) : Int) t).natAbs ≠ 0 := by omega
  exact (Nat.log2_lt hz).mpr (Nat.lt_of_le_of_lt hn (Nat.lt_of_le_of_lt hp (Nat.lt_of_le_of_lt hq hr)))
end Rw
set_option maxHeartbeats 4000000
/-! How far a stand may lie from the first one. -/
namespace Rw
variable {α : Type} [DecidableEq α]
theorem standF_bd {ns : List α} (nd : ns.Nodup) : ∀ (k : Nat) (st lf : α → Int), LfOk ns lf → ∀ x ∈ ns, -((ns.length : Int) * sumF ns lf) ≤ standF ns k st lf x - st x ∧ standF ns k st lf x - st x ≤ (ns.length : Int) * sumF ns lf
  | 0, st, lf, ok, x, hx => by
    have h := Int.mul_nonneg (Int.natCast_nonneg ns.length) (sumF_nn ok.nn)
    show _ ≤ st x - st x ∧ st x - st x ≤ _
    generalize (ns.length : Int) * sumF ns lf = B at h
    omega
  | k + 1, st, lf, ok, x, hx => by
    by_cases h : ∃ x ∈ ns, lf x ≠ 0
    · obtain ⟨p, e, s⟩ := step_ok (st := st) nd ok h
      unfold standF
      rw [if_pos (any_iff.mpr h), e]
      dsimp only
      have ih := standF_bd nd k p.1 p.2 s.ok x hx
      have b := s.bd x hx
      rw [Int.mul_sub] at b
      generalize standF ns k p.1 p.2 x = v at ih
      generalize (ns.length : Int) * sumF ns p.2 = B at ih b
      generalize (ns.length : Int) * sumF ns lf = D at ih b
      omega
    · have z : ∀ x ∈ ns, lf x = 0 := fun x hx => Decidable.byContradiction fun q => h ⟨x, hx, q⟩
      rw [standF_end z]
      have h := Int.mul_nonneg (Int.natCast_nonneg ns.length) (sumF_nn ok.nn)
      generalize (ns.length : Int) * sumF ns lf = B at h
      omega
end Rw
set_option maxHeartbeats 4000000
/-! The module's defs by name; the facts that a walk takes. -/
namespace Rw
open PySem PySem.Spec PyProof.Rows L2 LamX NdefX
/-- a def of the module -/
structure Df (K : PySem.W.Frag) (mg : Str → Option Value) (x : Str) (st : Stmt) : Prop where
  at_ : mg x = some (.ref (He.ga K x))
  fn : ∃ fd, FunD K x x (defArgs st) (defBody st) (defScope st) [] [] (He.ga K x) fd
/-- what a caller takes of a def of the module -/
def Gd (P : Program) (w : World) (K : PySem.W.Frag) (mg : Str → Option Value) (base : Heap) (k : Nat) (x : Str) (ps : List Str) (sp : Sp) : Prop :=
  mg x = some (.ref (He.ga K x)) ∧ ∃ fd, FnOk P w K mg base (L2.CX P w) k (He.ga K x) fd ps sp ∧ Binds K fd ps [] ∧ PySem.W.keepIn K (.ref (He.ga K x)) = true ∧ ∃ oc od d sl, K.lookup (He.ga K x) = some ⟨oc, od, .func d, sl⟩
section
variable {P : Program} {w : World} {K : PySem.W.Frag} {mg : Str → Option Value} {base : Heap} {k : Nat} {x : Str} {st : Stmt} {N ps : List Str} {sp : Sp}
theorem gd_of (F : Df K mg x st) (S : FnScope N ps (defScope st)) (bd : ∀ {fd : FuncData}, FunD K x x (defArgs st) (defBody st) (defScope st) [] [] (He.ga K x) fd → Binds K fd ps []) (len : ∀ vs H Q E, sp vs H Q E → vs.length = ps.length)
    (hbody : ∀ (cdv : Value) (A : Around) (outer : List Env) (s : Shared) (H : Hp) (vs : List V) (Q : VK) (E : XK), Room k (A.deeper (envOfC x (defScope st) s.heap.objs.size (He.ga K x) cdv)) → sp vs H Q E →
      ∃ t, PSs (cxOf (L2.CX P w) P w K mg base N x (defScope st) (He.ga K x) cdv A outer s H E) (defBody st) t ∧ t { nx := fun _ H' => Q .non H', rt := Q } (start N vs) H) : Gd P w K mg base (k + 1) x ps sp := by
  obtain ⟨g, fd, F⟩ := F
  obtain ⟨oc, od, dV, kV, doc, pm, an, cdv, ct, osl, e, lk, _⟩ := id F.ex
  exact ⟨g, fd, F.ok S len hbody, bd F, F.kp, oc, od, fd, osl, lk⟩
theorem Gd.imp {sp' : Sp} (G : Gd P w K mg base k x ps sp) (h : ∀ vs H Q E, sp' vs H Q E → sp vs H Q E) : Gd P w K mg base k x ps sp' :=
  let ⟨a, fd, F, r⟩ := G
  ⟨a, fd, F.imp h, r⟩
theorem Gd.fv (G : Gd P w K mg base k x ps sp) : Fv P w K mg base (L2.CX P w) k (fun _ => True) (He.ga K x) ps.length sp :=
  let ⟨a, fd, F, b, _, lk⟩ := G
  .of F b lk
end
section
variable {X : Cx} {k j : Nat} {x : Str} {ps : List Str} {sp : Sp} {E : XK} {p pos : Pos} {e : Expr} {es : List Expr} {t : TA}
theorem pe_gd (G : Gd X.prog X.w X.K X.mg X.base k x ps sp) (hr : Room j X.A) (hk : k ≤ j) (hg : Gl X x) (hx : Passes (L2.CX X.prog X.w) X E) (ha : PA X (e :: es) t) (hdb : (x == ("__debug__" : Str)) = false := by decide)
    (he : starEach (e :: es) X.env = (false, eval e X.env) :: starEach es X.env := by rfl) (hpl : (backTo pos (starEach es X.env)).any (·.1) = false := by rfl) : PE X (.Call (.Name x p) (e :: es) [] pos) (tCall sp [] E t) := by
  obtain ⟨hm, fd, F, b, kp, _⟩ := G
  exact pe_call F (hr.mono hk) hg hm kp b .nil hx ha hdb he hpl
theorem pe_gdZ (hfn : ∀ x, X.fn x = true) (G : Gd X.prog X.w X.K X.mg X.base k x ps sp) (hr : Room j X.A) (hk : k ≤ j) (hg : Gl X x) (hx : Passes (L2.CX X.prog X.w) X E) (ha : PA X (e :: es) t) (hdb : (x == ("__debug__" : Str)) = false := by decide)
    (he : starEach (e :: es) X.env = (false, eval e X.env) :: starEach es X.env := by rfl) (hpl : (backTo pos (starEach es X.env)).any (·.1) = false := by rfl) : PE X (.Call (.Name x p) (e :: es) [] pos) (tCallZ X sp E t) := by
  obtain ⟨hm, fd, F, b, kp, _⟩ := G
  exact pe_callZ hfn F hr hk hg hm kp b hx ha hdb he hpl
end
theorem pe_tyN {X : Cx} {x : Str} {pos : Pos} (T : String) (hg : Gl X x) (hm : X.mg x = none) (hv : bootBuiltins x = some (.type T)) (hn : x ≠ "__name__" := by decide) (hd : (x == ("__debug__" : Str)) = false := by decide) : PE X (.Name x pos) (tC (.ty T)) := pe_bltn hg hm hv rfl hn hd
/-- a built-in function that the module's name holds -/
theorem pe_callGB {X : Cx} {x : Str} {id : String} {r : List V → Hp → VK → Prop} {p pos : Pos} {e : Expr} {es : List Expr} {t : TA} (hc : CallR X (.builtin id) r) (hg : Gl X x) (hm : X.mg x = some (.builtin id)) (ha : PA X (e :: es) t) (hdb : (x == ("__debug__" : Str)) = false := by decide)
    (he : starEach (e :: es) X.env = (false, eval e X.env) :: starEach es X.env := by rfl) (hpl : (backTo pos (starEach es X.env)).any (·.1) = false := by rfl) : PE X (.Call (.Name x p) (e :: es) [] pos) (tCB r t) := by
  refine ⟨fun pinsz s σ H Q I h => ?_⟩
  refine wpAny_Call_Name_kw (ld_glob I hg hm ?_ hdb)
  exact PyProof.Rows.callWith_builtin1 (thn (ha.run pos pinsz s σ H _ I h) fun us s1 ⟨vs, H1, I1, r1, q1⟩ => hc pinsz s1 σ H1 vs us Q I1 r1 q1) he hpl
def rComb : List V → Hp → VK → Prop := fun vs H Q => ∃ a b : Int, vs = [.int a, .int b] ∧ 0 ≤ a ∧ 0 ≤ b ∧ a < 2 ^ 64 ∧ b ≤ 9000 ∧ Q (.int (PySem.W.mcComb a b)) H
theorem call_comb {X : Cx} : CallR X (.builtin "math.comb") rComb := by
  intro pinsz s σ H xs us Q I r h
  obtain ⟨a, b, rfl, h1, h2, h3, h4, q⟩ := h
  obtain ⟨u1z, u2, rfl, r1, r2⟩ := vals2 r
  obtain ⟨t1, rfl⟩ := (show ∃ t, u1z = Value.int a t from r1)
  obtain ⟨t2, rfl⟩ := (show ∃ t, u2 = Value.int b t from r2)
  exact PySem.W.mc_comb h1 h2 h3 (.inl h4) fun _ => ⟨.int _, H, I.tok _, ⟨_, rfl⟩, q⟩
theorem boot_isinstance' : bootBuiltins "isinstance" = some (.builtin "isinstance") := by decide +kernel
theorem boot_list' : bootBuiltins "list" = some (.type "list") := by decide +kernel
theorem boot_tuple' : bootBuiltins "tuple" = some (.type "tuple") := by decide +kernel
theorem szl {n : Nat} (h : n ≤ 1000 := by first | decide | simp) : n ≤ sizeLine := Nat.le_of_lt (small1000 h)
/-! ### what a value is, for isinstance -/
def TyZ (P : Program) (w : World) (K : PySem.W.Frag) (H : Hp) (x : V) (t : Value) : Prop := ∀ (h : Heap) (u : Value), HOk P w H h → K.In h → RelV x u → ∃ Pr : Heap → Prop, PySem.W.KitX K u t Pr ∧ Pr h ∧ u ≠ .builtin "__main__.__loader__#opaque"
def rIsZ (X : Cx) : List V → Hp → VK → Prop := fun xs H Q => ∃ (x : V) (tp : Addr) (cs : List V) (t : Value) (us : List Value) (b : Bool), xs = [x, .ref tp] ∧ H tp = some (.tup cs) ∧ Paired ClsV cs us ∧ TyZ X.prog X.w X.K H x t ∧ PySem.W.kitAny X.K t us = some b ∧ Q (.bl b) H
def rIs1 (X : Cx) : List V → Hp → VK → Prop := fun xs H Q => ∃ (x c : V) (t u : Value) (b : Bool), xs = [x, c] ∧ ClsV c u ∧ TyZ X.prog X.w X.K H x t ∧ PySem.W.kitOne X.K t u = some b ∧ Q (.bl b) H
section
variable {X : Cx}
theorem call_isZ : CallR X (.builtin "isinstance") (rIsZ X) := by
  intro pinsz s σ H xs us Q I r h
  obtain ⟨x, tpz, cs, t, ws, b, rfl, hT, k, ty, e, q⟩ := h
  obtain ⟨u1z, u2, rfl, r1, r2⟩ := vals2 r
  cases (show u2 = Value.ref tpz from r2)
  obtain ⟨P, Z, p, hx⟩ := ty _ _ I.hok I.kIn r1
  obtain ⟨_, its, rv, o, h1z, h2, n, h3⟩ := (show ObjOk X.prog X.w H s.heap tpz (.tup cs) from I.hok tpz _ hT)
  have e3 := ClsV.all k rv
  subst e3
  obtain ⟨oc, od, dt, sl⟩ := o
  simp only at h2 h3
  subst h2 h3
  exact PySem.W.kia_tup Z I.kIn p h1z e hx fun tk => ⟨.bl b, H, I.tok tk, rfl, q⟩
theorem call_is1 : CallR X (.builtin "isinstance") (rIs1 X) := by
  intro pinsz s σ H xs us Q I r h
  obtain ⟨x, c, t, u, b, rfl, k, tyz, e, q⟩ := h
  obtain ⟨u1z, u2, rfl, r1, r2⟩ := vals2 r
  have e2 := k.eq r2
  subst e2
  obtain ⟨P, Z, p, hxz⟩ := tyz _ _ I.hok I.kIn r1
  exact PySem.W.kia_one Z I.kIn p e hxz fun tk => ⟨.bl b, H, I.tok tk, rfl, q⟩
end
section
variable {P : Program} {w : World} {K : PySem.W.Frag} {H : Hp}
theorem tyz_non : TyZ P w K H .non (.type "NoneType") := fun h u _ _ r => by cases (show u = Value.none from r); exact ⟨_, PySem.W.kitx_none, True.intro, fun z => nomatch z⟩
theorem tyz_bl (y : Bool) : TyZ P w K H (.bl y) (.type "bool") := fun h u _ _ r => by cases (show u = Value.bool y from r); exact ⟨_, PySem.W.kitx_bool, True.intro, fun z => nomatch z⟩
theorem tyz_int (i : Int) : TyZ P w K H (.int i) (.type "int") := fun h u _ _ r => by obtain ⟨t, q⟩ := (show ∃ t, u = Value.int i t from r); cases q; exact ⟨_, PySem.W.kitx_int, True.intro, fun z => nomatch z⟩
theorem tyz_str (y : Str) : TyZ P w K H (.str y) (.type "str") := fun h u _ _ r => by obtain ⟨t, q⟩ := (show ∃ t, u = Value.str y t from r); cases q; exact ⟨_, PySem.W.kitx_str, True.intro, fun z => nomatch z⟩
theorem tyz_lst {a : Addr} {xs : List V} (e : H a = some (.lst xs)) : TyZ P w K H (.ref a) (.type "list") := fun h u ok _ r => by
  cases (show u = Value.ref a from r)
  obtain ⟨_, _, n, _, h1z⟩ := (show ObjOk P w H h a (.lst xs) from ok a _ e)
  exact ⟨_, PySem.W.kitx_list, ⟨_, h1z, rfl⟩, fun z => nomatch z⟩
theorem tyz_tup {a : Addr} {xs : List V} (e : H a = some (.tup xs)) : TyZ P w K H (.ref a) (.type "tuple") := fun h u ok _ r => by
  cases (show u = Value.ref a from r)
  obtain ⟨_, _, _, o, h1z, h2, _⟩ := (show ObjOk P w H h a (.tup xs) from ok a _ e)
  exact ⟨_, PySem.W.kitx_tuple, ⟨o, h1z, h2⟩, fun z => nomatch z⟩
theorem tyz_dK {a : Addr} {kvs : List (Key × V)} (e : H a = some (.dK kvs)) : TyZ P w K H (.ref a) (.type "dict") := fun h u ok _ r => by
  cases (show u = Value.ref a from r)
  obtain ⟨_, _, vs, _, o, es, ep, h1z, h2, _⟩ := (show ObjOk P w H h a (.dK kvs) from ok a _ e)
  exact ⟨_, PySem.W.kitx_dict, ⟨o, h1z, h2.1⟩, fun z => nomatch z⟩
theorem tyz_ins {a C dx : Addr} {fs : List (Str × V)} (e : H a = some (.ins C dx fs)) (cl : Cls K C) (ha : PySem.W.findIn K (.ref C) "__class__" = some (some (.builtin "object.__class__")))
    (hn : PySem.W.specialIn K (.builtin "object.__class__") "__get__" = some (some (.builtin "getset_descriptor.__get__"))) (htk : PySem.W.takesIn K (.builtin "object.__class__") = some true) (hm : PySem.W.mroIn K C (.type "object") = some true) : TyZ P w K H (.ref a) (.ref C) := fun h u ok _ r => by
  cases (show u = Value.ref a from r)
  obtain ⟨mA, O, _⟩ := ins_get ok e
  obtain ⟨od, Jz, _⟩ := O.look
  exact ⟨_, PySem.W.kitx_own (cl.get _) cl.hd ha hn htk hm, Jz, fun z => nomatch z⟩
end
/-! ### the facts -/
structure Mo (K : PySem.W.Frag) (mg : Str → Option Value) : Prop where
  free : ∀ x ∈ freeL, mg x = none
  glo : ∀ x ∈ gloL, mg x = some (.ref (He.ga K x))
  def_ : ∀ p ∈ dfL, Df K mg p.1 (top p.2)
  cmb : mg "comb" = some (.builtin "math.comb")
  pcls : Cls K (He.ga K "Path")
  pnames : NoAttr K (He.ga K "Path") "names"
  pmany : NoAttr K (He.ga K "Path") "many"
section
variable {K : PySem.W.Frag} {mg : Str → Option Value}
theorem Mo.fr (M : Mo K mg) (x : Str) (h : freeL.elem x = true := by decide +kernel) : mg x = none := M.free x (List.elem_iff.mp h)
theorem Mo.gl (M : Mo K mg) (x : Str) (h : gloL.elem x = true := by decide +kernel) : mg x = some (.ref (He.ga K x)) := M.glo x (List.elem_iff.mp h)
theorem Mo.df (M : Mo K mg) (x : Str) (i : Nat) (h : dfL.elem (x, i) = true := by decide +kernel) : Df K mg x (top i) := M.def_ (x, i) (List.elem_iff.mp h)
end
/-! ### is_list, is_whole, is_number -/
variable {P : Program} {w : World} {K : PySem.W.Frag} {mg : Str → Option Value} {base : Heap} {T : List NTab}
theorem sc5 : FnScope ["thing"] ["thing"] (defScope (top 5)) := ⟨rfl, rfl, rfl, by decide +kernel, rfl, by decide +kernel, by decide +kernel⟩
def spIsList (P : Program) (w : World) (K : PySem.W.Frag) (T : List NTab) : Sp := fun vs H Q _ => ∃ (x : V) (t : Value) (b : Bool), vs = [x] ∧ (∀ H', Gr T [] H H' → TyZ P w K H' x t) ∧ PySem.W.kitAny K t [.type "list", .type "tuple"] = some b ∧ ∀ H', Gr T [] H H' → Q (.bl b) H'
theorem ok_is_list (M : Mo K mg) : Gd P w K mg base 1 "is_list" ["thing"] (spIsList P w K T) := by
  refine gd_of (M.df "is_list" 5) sc5 (fun F => F.bindsN fun _ _ _ _ _ _ us hl => match us, hl with | [_], _ => rfl) (fun vs H Q E h => ?_) fun cdv A outer s H vs Q E hr h => ⟨_, (pss_one (ps_ret (pe_callB call_isZ rfl (M.fr "isinstance") (by decide +kernel) (pa_cons (pv 0) (pa_cons (pe_tup (pa_cons (pe_tyN "list" rfl (M.fr "list") (by decide +kernel)) (pa_cons (pe_tyN "tuple" rfl (M.fr "tuple") (by decide +kernel)) pa_nil))) pa_nil))))), ?_⟩
  · obtain ⟨x, t, b, rfl, _⟩ := h
    rfl
  · obtain ⟨x, t, b, rfl, ty, e, q⟩ := h
    exact ⟨_, rfl, szl, fun p hp => ⟨x, p, _, t, _, b, rfl, upd_same, .cons (.ty "list") (.cons (.ty "tuple") .nil), ty _ (.new hp), e, q _ (.new hp)⟩⟩
end Rw
set_option maxHeartbeats 4000000
/-! The walks: numbers. -/
namespace Rw
open PySem PySem.Spec PyProof.Rows L2 LamX NdefX
variable {P : Program} {w : World} {K : PySem.W.Frag} {mg : Str → Option Value} {base : Heap} {T : List NTab}
/-! ### is_whole, is_number -/
def WholeV (P : Program) (w : World) (K : PySem.W.Frag) (H : Hp) (x : V) (b : Bool) : Prop := (∃ n : Int, x = .int n ∧ b = true) ∨ (∃ c : Bool, x = .bl c ∧ b = false) ∨ ∃ t : Value, TyZ P w K H x t ∧ PySem.W.kitOne K t (.type "int") = some false ∧ b = false
def spWhole (P : Program) (w : World) (K : PySem.W.Frag) : Sp := fun vs H Q _ => ∃ (x : V) (b : Bool), vs = [x] ∧ WholeV P w K H x b ∧ Q (.bl b) H
theorem kit_ii : PySem.W.kitOne K (.type "int") (.type "int") = some true := kit_ty (by decide +kernel)
theorem kit_bi : PySem.W.kitOne K (.type "bool") (.type "int") = some true := kit_ty (by decide +kernel)
theorem kit_ib : PySem.W.kitOne K (.type "int") (.type "bool") = some false := kit_ty (by decide +kernel)
theorem kit_bb : PySem.W.kitOne K (.type "bool") (.type "bool") = some true := kit_ty (by decide +kernel)
theorem sc6 : FnScope ["thing"] ["thing"] (defScope (top 6)) := ⟨rfl, rfl, rfl, by decide +kernel, rfl, by decide +kernel, by decide +kernel⟩
theorem ok_is_whole (M : Mo K mg) : Gd P w K mg base 1 "is_whole" ["thing"] (spWhole P w K) := by
  refine gd_of (M.df "is_whole" 6) sc6 (fun F => F.bindsN fun _ _ _ _ _ _ us hl => match us, hl with | [_], _ => rfl) (fun vs H Q E h => ?_) fun cdv A outer s H vs Q E hr h => ⟨_, (pss_one (ps_ret (pe_and (pe_callB call_is1 rfl (M.fr "isinstance") (by decide +kernel) (pa_cons (pv 0) (pa_cons (pe_tyN "int" rfl (M.fr "int") (by decide +kernel)) pa_nil))) (pe_one (pe_not (pe_callB call_is1 rfl (M.fr "isinstance") (by decide +kernel) (pa_cons (pv 0) (pa_cons (pe_tyN "bool" rfl (M.fr "bool") (by decide +kernel)) pa_nil)))))))), ?_⟩
  · obtain ⟨x, b, rfl, _⟩ := h
    rfl
  · obtain ⟨x, b, rfl, v, q⟩ := h
    rcases v with ⟨n, rfl, rfl⟩ | ⟨c, rfl, rfl⟩ | ⟨t, ty, e, rfl⟩
    · exact ⟨_, rfl, _, _, _, _, _, rfl, .ty "int", tyz_int n, kit_ii, true, rfl, iteT ⟨_, rfl, _, _, _, _, _, rfl, .ty "bool", tyz_int n, kit_ib, false, rfl, q⟩⟩
    · exact ⟨_, rfl, _, _, _, _, _, rfl, .ty "int", tyz_bl c, kit_bi, true, rfl, iteT ⟨_, rfl, _, _, _, _, _, rfl, .ty "bool", tyz_bl c, kit_bb, true, rfl, q⟩⟩
    · exact ⟨_, rfl, _, _, _, _, _, rfl, .ty "int", ty, e, false, rfl, iteF q⟩
def NumV (P : Program) (w : World) (K : PySem.W.Frag) (H : Hp) (x : V) (b : Bool) : Prop := (∃ n : Int, x = .int n ∧ b = decide (0 ≤ n)) ∨ (∃ c : Bool, x = .bl c ∧ b = false) ∨ ∃ t : Value, TyZ P w K H x t ∧ PySem.W.kitOne K t (.type "int") = some false ∧ b = false
def spNumber (P : Program) (w : World) (K : PySem.W.Frag) : Sp := fun vs H Q _ => ∃ (x : V) (b : Bool), vs = [x] ∧ NumV P w K H x b ∧ Q (.bl b) H
theorem sc7 : FnScope ["thing"] ["thing"] (defScope (top 7)) := ⟨rfl, rfl, rfl, by decide +kernel, rfl, by decide +kernel, by decide +kernel⟩
theorem ok_is_number (M : Mo K mg) : Gd P w K mg base 2 "is_number" ["thing"] (spNumber P w K) := by
  refine gd_of (M.df "is_number" 7) sc7 (fun F => F.bindsN fun _ _ _ _ _ _ us hl => match us, hl with | [_], _ => rfl) (fun vs H Q E h => ?_) fun cdv A outer s H vs Q E hr h => ⟨_, (pss_one (ps_ret (pe_and (pe_gd (ok_is_whole M) hr (by decide) rfl passL (pa_cons (pv 0) pa_nil)) (pe_one (pe_cmpR op_ge (pv 0) pe_int (nomark _)))))), ?_⟩
  · obtain ⟨x, b, rfl, _⟩ := h
    rfl
  · obtain ⟨x, b, rfl, v, q⟩ := h
    rcases v with ⟨n, rfl, rfl⟩ | ⟨c, rfl, rfl⟩ | ⟨t, ty, e, rfl⟩
    · exact ⟨_, rfl, _, _, rfl, .inl ⟨n, rfl, rfl⟩, true, rfl, iteT ⟨_, rfl, _, _, rfl, rfl, q⟩⟩
    · exact ⟨_, rfl, _, _, rfl, .inr (.inl ⟨c, rfl, rfl⟩), false, rfl, iteF q⟩
    · exact ⟨_, rfl, _, _, rfl, .inr (.inr ⟨t, ty, e, rfl⟩), false, rfl, iteF q⟩
/-! ### ways, all_lists, full_lists, lists_with_nobody -/
def spInt2 (C : Int → Int → Prop) (g : Int → Int → Int) : Sp := fun vs H Q _ => ∃ i j : Int, vs = [.int i, .int j] ∧ C i j ∧ Q (.int (g i j)) H
/-- numbers of a size that comb can bear -/
def CW (i j : Int) : Prop := i < 2 ^ 62 ∧ (0 ≤ i → 0 ≤ j) ∧ j ≤ 9000
theorem sc65 : FnScope ["many", "some"] ["many", "some"] (defScope (top 65)) := ⟨rfl, rfl, rfl, by decide +kernel, rfl, by decide +kernel, by decide +kernel⟩
theorem ok_ways (M : Mo K mg) : Gd P w K mg base 1 "ways" ["many", "some"] (spInt2 CW waysF) := by
  refine gd_of (M.df "ways" 65) sc65 (fun F => F.bindsN fun _ _ _ _ _ _ us hl => match us, hl with | [_, _], _ => rfl) (fun vs H Q E h => ?_) fun cdv A outer s H vs Q E hr h => ⟨_, (pss_one (ps_ret (pe_ifExp (pt_cmpR op_ge (pv 0) pe_int (nomark _)) (pe_callGB call_comb rfl M.cmb (pa_cons (pv 0) (pa_cons (pv 1) pa_nil))) pe_int))), ?_⟩
  · obtain ⟨i, j, rfl, _⟩ := h
    rfl
  · obtain ⟨i, j, rfl, ⟨c1, c2, c3⟩, q⟩ := h
    refine ⟨_, rfl, _, _, rfl, rfl, _, rfl, ite2 (fun z => ?_) fun z => ?_⟩
    · have z' := of_decide_eq_true z
      refine ⟨_, rfl, _, rfl, i, j, rfl, z', c2 z', by omega, c3, ?_⟩
      unfold waysF at q
      rw [if_pos z'] at q
      exact q
    · have z' : ¬ 0 ≤ i := fun y => z (decide_eq_true y)
      unfold waysF at q
      rw [if_neg z'] at q
      exact q
/-- m walkers, t overtakings in all -/
def CL (m t : Int) : Prop := 0 ≤ m ∧ m ≤ 8000 ∧ -1 ≤ t ∧ t < 2 ^ 60
theorem sc66 : FnScope ["many", "total"] ["many", "total"] (defScope (top 66)) := ⟨rfl, rfl, rfl, by decide +kernel, rfl, by decide +kernel, by decide +kernel⟩
theorem ok_all_lists (M : Mo K mg) : Gd P w K mg base 2 "all_lists" ["many", "total"] (spInt2 CL allF) := by
  refine gd_of (M.df "all_lists" 66) sc66 (fun F => F.bindsN fun _ _ _ _ _ _ us hl => match us, hl with | [_, _], _ => rfl) (fun vs H Q E h => ?_) fun cdv A outer s H vs Q E hr h => ⟨_, (pss_one (ps_ret (pe_ifExp (pt_cmpR op_gt (pv 0) pe_int (nomark _)) (pe_gd (ok_ways M) hr (by decide) rfl passL (pa_cons (pe_op op_sub (pe_op op_add (pv 1) (pv 0)) pe_int) (pa_cons (pe_op op_sub (pv 0) pe_int) pa_nil))) (pe_callTy call_int1 rfl (M.fr "int") (by decide +kernel) (pa_cons (pe_cmpR op_eq (pv 1) pe_int (nomark _)) pa_nil))))), ?_⟩
  · obtain ⟨i, j, rfl, _⟩ := h
    rfl
  · obtain ⟨m, t, rfl, ⟨c1, c2, c3, c4⟩, q⟩ := h
    unfold allF at q
    refine ⟨_, rfl, _, _, rfl, rfl, _, rfl, ite2 (fun z => ?_) fun z => ?_⟩
    · have z' := of_decide_eq_true z
      rw [if_pos z'] at q
      exact ⟨_, rfl, _, rfl, _, _, rfl, rfl, _, _, rfl, rfl, _, rfl, _, _, rfl, rfl, _, _, rfl, ⟨by omega, by omega, by omega⟩, q⟩
    · have z' : ¬ 0 < m := fun y => z (decide_eq_true y)
      rw [if_neg z'] at q
      refine ⟨_, rfl, rfl, .inr ⟨_, rfl, ?_⟩⟩
      by_cases e : t = 0
      · subst e
        exact q
      · rw [if_neg e] at q
        have ee : decide (V.int t = V.int 0) = false := decide_eq_false fun y => e (by injection y)
        rw [ee]
        exact q
theorem sc67 : FnScope ["many", "total"] ["many", "total"] (defScope (top 67)) := ⟨rfl, rfl, rfl, by decide +kernel, rfl, by decide +kernel, by decide +kernel⟩
theorem ok_full_lists (M : Mo K mg) : Gd P w K mg base 2 "full_lists" ["many", "total"] (spInt2 CL fullF) := by
  refine gd_of (M.df "full_lists" 67) sc67 (fun F => F.bindsN fun _ _ _ _ _ _ us hl => match us, hl with | [_, _], _ => rfl) (fun vs H Q E h => ?_) fun cdv A outer s H vs Q E hr h => ⟨_, (pss_one (ps_ret (pe_ifExp (pt_cmpR op_gt (pv 0) pe_int (nomark _)) (pe_gd (ok_ways M) hr (by decide) rfl passL (pa_cons (pe_op op_sub (pv 1) pe_int) (pa_cons (pe_op op_sub (pv 0) pe_int) pa_nil))) (pe_callTy call_int1 rfl (M.fr "int") (by decide +kernel) (pa_cons (pe_cmpR op_eq (pv 1) pe_int (nomark _)) pa_nil))))), ?_⟩
  · obtain ⟨i, j, rfl, _⟩ := h
    rfl
  · obtain ⟨m, t, rfl, ⟨c1, c2, c3, c4⟩, q⟩ := h
    unfold fullF at q
    refine ⟨_, rfl, _, _, rfl, rfl, _, rfl, ite2 (fun z => ?_) fun z => ?_⟩
    · have z' := of_decide_eq_true z
      rw [if_pos z'] at q
      exact ⟨_, rfl, _, _, rfl, rfl, _, rfl, _, _, rfl, rfl, _, _, rfl, ⟨by omega, by omega, by omega⟩, q⟩
    · have z' : ¬ 0 < m := fun y => z (decide_eq_true y)
      rw [if_neg z'] at q
      refine ⟨_, rfl, rfl, .inr ⟨_, rfl, ?_⟩⟩
      by_cases e : t = 0
      · subst e
        exact q
      · rw [if_neg e] at q
        have ee : decide (V.int t = V.int 0) = false := decide_eq_false fun y => e (by injection y)
        rw [ee]
        exact q
theorem sc68 : FnScope ["many", "total"] ["many", "total"] (defScope (top 68)) := ⟨rfl, rfl, rfl, by decide +kernel, rfl, by decide +kernel, by decide +kernel⟩
theorem ok_nobody (M : Mo K mg) : Gd P w K mg base 3 "lists_with_nobody" ["many", "total"] (spInt2 CL nobF) := by
  refine gd_of (M.df "lists_with_nobody" 68) sc68 (fun F => F.bindsN fun _ _ _ _ _ _ us hl => match us, hl with | [_, _], _ => rfl) (fun vs H Q E h => ?_) fun cdv A outer s H vs Q E hr h => ⟨_, (pss_one (ps_ret (pe_op op_sub (pe_gd (ok_all_lists M) hr (by decide) rfl passL (pa_cons (pv 0) (pa_cons (pv 1) pa_nil))) (pe_gd (ok_full_lists M) hr (by decide) rfl passL (pa_cons (pv 0) (pa_cons (pv 1) pa_nil)))))), ?_⟩
  · obtain ⟨i, j, rfl, _⟩ := h
    rfl
  · obtain ⟨m, t, rfl, c, q⟩ := h
    exact ⟨_, rfl, _, rfl, _, _, rfl, c, _, rfl, _, rfl, _, _, rfl, c, _, _, rfl, rfl, q⟩
/-! ### lists_below -/
def spBelow : Sp := fun vs H Q _ => ∃ (m t v : Int) (h : Bool), vs = [.int m, .int t, .int v, .bl h] ∧ 0 ≤ m ∧ m ≤ 7000 ∧ 0 ≤ t ∧ t < 2 ^ 59 ∧ 0 ≤ v ∧ v ≤ t + 1 ∧ Q (.int (lbF m t v h)) H
theorem sc81 : FnScope ["left", "total", "value", "has_nobody", "found"] ["left", "total", "value", "has_nobody"] (defScope (top 81)) := ⟨rfl, rfl, rfl, by decide +kernel, rfl, by decide +kernel, by decide +kernel⟩
theorem ok_lists_below (M : Mo K mg) : Gd P w K mg base 3 "lists_below" ["left", "total", "value", "has_nobody"] spBelow := by
  refine gd_of (M.df "lists_below" 81) sc81 (fun F => F.bindsN fun _ _ _ _ _ _ us hl => match us, hl with | [_, _, _, _], _ => rfl) (fun vs H Q E h => ?_) fun cdv A outer s H vs Q E hr h => ⟨_, (pss_cons (ps_if (pt_val (pv 3)) (pss_one (ps_ret (pe_op op_sub (pe_gd (ok_all_lists M) hr (by decide) rfl passL (pa_cons (pe_op op_add (pv 0) pe_int) (pa_cons (pv 1) pa_nil))) (pe_gd (ok_all_lists M) hr (by decide) rfl passL (pa_cons (pe_op op_add (pv 0) pe_int) (pa_cons (pe_op op_sub (pv 1) (pv 2)) pa_nil)))))) pss_nil) (pss_cons (ps_if (pt_cmpR op_eq (pv 2) pe_int (nomark _)) (pss_one (ps_ret pe_int)) pss_nil) (pss_cons (ps_set (i := 4) sc81.nd rfl (Or.inl rfl) (pe_op op_sub (pe_op op_add (pe_gd (ok_all_lists M) hr (by decide) rfl passL (pa_cons (pv 0) (pa_cons (pv 1) pa_nil))) (pe_gd (ok_all_lists M) hr (by decide) rfl passL (pa_cons (pe_op op_add (pv 0) pe_int) (pa_cons (pe_op op_sub (pv 1) pe_int) pa_nil)))) (pe_gd (ok_all_lists M) hr (by decide) rfl passL (pa_cons (pe_op op_add (pv 0) pe_int) (pa_cons (pe_op op_sub (pv 1) (pv 2)) pa_nil))))) (pss_one (ps_ret (pe_op op_add (pe_op op_sub (pv 4) (pe_gd (ok_full_lists M) hr (by decide) rfl passL (pa_cons (pe_op op_add (pv 0) pe_int) (pa_cons (pv 1) pa_nil)))) (pe_gd (ok_full_lists M) hr (by decide) rfl passL (pa_cons (pe_op op_add (pv 0) pe_int) (pa_cons (pe_op op_add (pe_op op_sub (pv 1) (pv 2)) pe_int) pa_nil))))))))), ?_⟩
  · obtain ⟨m, t, v, h, rfl, _⟩ := h
    rfl
  · obtain ⟨m, t, v, h, rfl, c1, c2, c3, c4, c5, c6, q⟩ := h
    unfold lbF at q
    refine ⟨_, rfl, h, rfl, ite2 (fun z => ?_) fun z => ?_⟩
    · rw [if_pos z] at q
      exact ⟨_, rfl, _, _, rfl, rfl, _, rfl, _, _, rfl, ⟨by omega, by omega, by omega, by omega⟩, _, rfl, _, _, rfl, rfl, _, rfl, _, rfl, _, _, rfl, rfl, _, _, rfl, ⟨by omega, by omega, by omega, by omega⟩, _, _, rfl, rfl, q⟩
    · rw [if_neg z] at q
      refine ⟨_, rfl, rfl, _, rfl, ite2 (fun y => ?_) fun y => ?_⟩
      · have y' : v = 0 := by
          have := of_decide_eq_true y
          injection this
        rw [if_pos y'] at q
        exact q
      · have y' : ¬ v = 0 := fun e => y (decide_eq_true (by rw [e]))
        rw [if_neg y'] at q
        exact ⟨_, rfl, _, rfl, _, _, rfl, ⟨by omega, by omega, by omega, by omega⟩, _, rfl, _, _, rfl, rfl, _, rfl, _, _, rfl, rfl, _, _, rfl, ⟨by omega, by omega, by omega, by omega⟩, _, _, rfl, rfl, _, rfl, _, _, rfl, rfl, _, rfl, _, rfl, _, _, rfl, rfl, _, _, rfl, ⟨by omega, by omega, by omega, by omega⟩, _, _, rfl, rfl,
          _, rfl, _, rfl, _, _, rfl, rfl, _, rfl, _, _, rfl, ⟨by omega, by omega, by omega, by omega⟩, _, _, rfl, rfl, _, rfl, _, _, rfl, rfl, _, rfl, _, rfl, _, _, rfl, rfl, _, _, rfl, rfl, _, _, rfl, ⟨by omega, by omega, by omega, by omega⟩, _, _, rfl, rfl, q⟩
end Rw
set_option maxHeartbeats 4000000
/-! The walks: the list at a number. -/
namespace Rw
open PySem PySem.Spec PyProof.Rows L2 LamX NdefX
variable {P : Program} {w : World} {K : PySem.W.Frag} {mg : Str → Option Value} {base : Heap} {T : List NTab}
def spGreatest : Sp := fun vs H Q _ => ∃ (m t : Nat) (k : Int) (h : Bool), vs = [.int m, .int t, .int k, .bl h] ∧ m ≤ 7000 ∧ t < 2 ^ 58 ∧ 0 ≤ k ∧ k < cntF (m + 1) t h ∧ Q (.int (gbN m t k h)) H
theorem sc82 : FnScope ["left", "total", "number", "has_nobody", "low", "high", "middle"] ["left", "total", "number", "has_nobody"] (defScope (top 82)) := ⟨rfl, rfl, rfl, by decide +kernel, rfl, by decide +kernel, by decide +kernel⟩
theorem ok_greatest_begin (M : Mo K mg) : Gd P w K mg base 4 "greatest_begin" ["left", "total", "number", "has_nobody"] spGreatest := by
  refine gd_of (M.df "greatest_begin" 82) sc82 (fun F => F.bindsN fun _ _ _ _ _ _ us hl => match us, hl with | [_, _, _, _], _ => rfl) (fun vs H Q E h => ?_) fun cdv A outer s H vs Q E hr h => ⟨_, (pss_cons (ps_par (i := 4) (j := 5) rfl sc82.nd rfl rfl (by decide) rfl rfl (pa_cons pe_int (pa_cons (pv 1) pa_nil)) (by rfl)) (pss_cons (ps_while (passes_of rfl) (pt_cmpR op_lt (pv 4) (pv 5) (nomark _)) (pss_cons (ps_set (i := 6) sc82.nd rfl (Or.inl rfl) (pe_op op_fdiv (pe_op op_add (pe_op op_add (pv 4) (pv 5)) pe_int) pe_int)) (pss_one (ps_if (pt_cmpR op_le (pe_gd (ok_lists_below M) hr (by decide) rfl passL (pa_cons (pv 0) (pa_cons (pv 1) (pa_cons (pv 6) (pa_cons (pv 3) pa_nil))))) (pv 2) (nomark _)) (pss_one (ps_set (i := 4) sc82.nd rfl (Or.inl rfl) (pv 6))) (pss_one (ps_set (i := 5) sc82.nd rfl (Or.inl rfl) (pe_op op_sub (pv 6) pe_int))))))) (pss_one (ps_ret (pv 4))))), ?_⟩
  · obtain ⟨m, t, k, h, rfl, _⟩ := h
    rfl
  · obtain ⟨m, t, k, h, rfl, c1, c2, c3, c4, q⟩ := h
    refine ⟨_, rfl, _, _, rfl, ?_⟩
    refine ⟨fun n σ H' => H' = H ∧ ∃ (lo hi : Nat) (z : Option V), σ = [some (.int m), some (.int t), some (.int k), some (.bl h), some (.int lo), some (.int hi), z] ∧ lo ≤ hi ∧ hi ≤ t ∧ lbF m t lo h ≤ k ∧ k < lbF m t (hi + 1) h ∧ n = hi - lo,
      ⟨t, rfl, 0, t, none, rfl, Nat.zero_le _, Nat.le_refl _, ?_, ?_, by omega⟩, ?_⟩
    · rw [show ((0 : Nat) : Int) = 0 from rfl, lbF_zero]
      exact c3
    · rw [lbF_end]
      exact c4
    rintro n σ H' ⟨rfl, lo, hi, z, rfl, l1, l2, l3, l4, rfl⟩
    refine ⟨_, rfl, _, rfl, _, _, rfl, rfl, _, rfl, ite2 (fun y => ?_) fun y => ?_⟩
    · have y' : (lo : Int) < hi := of_decide_eq_true y
      obtain ⟨md, hmd, e1, e2⟩ : ∃ md : Nat, ((lo : Int) + hi + 1) / 2 = md ∧ lo < md ∧ md ≤ hi := ⟨(lo + hi + 1) / 2, by omega, by omega, by omega⟩
      refine ⟨fun σ' H'' => ∃ n', n' < hi - lo ∧ H'' = H' ∧ ∃ (lo' hi' : Nat) (z : Option V), σ' = [some (.int m), some (.int t), some (.int k), some (.bl h), some (.int lo'), some (.int hi'), z] ∧ lo' ≤ hi' ∧ hi' ≤ t ∧ lbF m t lo' h ≤ k ∧ k < lbF m t (hi' + 1) h ∧ n' = hi' - lo', fun σ' H'' z => z, ?_⟩
      refine ⟨_, rfl, _, rfl, _, _, rfl, rfl, _, _, rfl, rfl, _, _, rfl, rfl, ⟨by decide, by decide⟩, ?_⟩
      show gName 6 (V.int (((lo : Int) + hi + 1) / 2)) _ _ _
      rw [hmd]
      refine ⟨_, rfl, _, rfl, _, rfl, _, rfl, _, _, _, _, rfl, by omega, by omega, by omega, by omega, by omega, by omega, _, rfl, _, _, rfl, rfl, _, rfl, ite2 (fun x => ?_) fun x => ?_⟩
      · have x' := of_decide_eq_true x
        exact ⟨_, rfl, hi - md, by omega, rfl, md, hi, _, rfl, e2, l2, x', l4, rfl⟩
      · have x' : ¬ lbF m t md h ≤ k := fun e => x (decide_eq_true e)
        refine ⟨_, rfl, _, _, rfl, rfl, md - 1 - lo, by omega, rfl, lo, md - 1, some (.int md), ?_, by omega, by omega, l3, ?_, rfl⟩
        · have e : (md : Int) - 1 = ((md - 1 : Nat) : Int) := by omega
          show ([some (V.int m), some (V.int t), some (V.int k), some (V.bl h), some (V.int lo), some (V.int ((md : Int) - 1)), some (V.int md)] : List (Option V)) = _
          rw [e]
        · have e : ((md - 1 : Nat) : Int) + 1 = md := by omega
          rw [e]
          omega
    · have y' : ¬ (lo : Int) < hi := fun e => y (decide_eq_true e)
      have e : lo = hi := by omega
      subst e
      have g : GbAt m t k h lo := ⟨l2, l3, l4⟩
      have g2 := gbN_at c3 c4
      rw [g2.uniq g] at q
      exact ⟨_, rfl, q⟩
/-! ### made_at -/
theorem inV_zero (vs : List Nat) : inV (.int 0) (vs.map fun v : Nat => V.int (v : Int)) = decide (0 ∈ vs) := by
  unfold inV
  rw [List.any_map]
  induction vs with
  | nil => rfl
  | cons v r ih =>
    rw [List.any_cons, ih]
    show ((v : Int) == 0 || _) = _
    by_cases e : v = 0
    · subst e
      simp
    · have : ((v : Int) == 0) = false := by simpa using e
      rw [this]
      simp [Ne.symm e]
theorem flat_nats (vs : List Nat) : (vs.map fun v : Nat => V.int (v : Int)).all flatV = true := by
  rw [List.all_map]
  exact List.all_eq_true.mpr fun _ _ => rfl
theorem in_snoc (vs : List Nat) (v : Nat) : decide (0 ∈ vs ++ [v]) = (decide (0 ∈ vs) || decide (v = 0)) := by
  by_cases a : 0 ∈ vs <;> by_cases b : v = 0 <;> simp [a, b, eq_comm]
def natsV (vs : List Nat) : List V := vs.map fun v : Nat => V.int (v : Int)
def spMade (T : List NTab) : Sp := fun vs H Q _ => ∃ (m t : Nat) (k : Int), vs = [.int m, .int t, .int k] ∧ m ≤ 900 ∧ t < 2 ^ 58 ∧ 0 ≤ k ∧ k < nobF m t ∧ ∀ H' p, Gr T [] H H' → H p = none → H' p = some (.lst (natsV (madeF m t k false))) → Q (.ref p) H'
theorem sc83 : FnScope ["many", "total", "number", "found", "rest", "left", "place", "value"] ["many", "total", "number"] (defScope (top 83)) := ⟨rfl, rfl, rfl, by decide +kernel, rfl, by decide +kernel, by decide +kernel⟩
theorem ok_made_at (M : Mo K mg) : Gd P w K mg base 5 "made_at" ["many", "total", "number"] (spMade T) := by
  refine gd_of (M.df "made_at" 83) sc83 (fun F => F.bindsN fun _ _ _ _ _ _ us hl => match us, hl with | [_, _, _], _ => rfl) (fun vs H Q E h => ?_) fun cdv A outer s H vs Q E hr h => ⟨_, (pss_cons (ps_par3 (i := 3) (j := 4) (l := 5) rfl sc83.nd rfl rfl rfl (by decide) (by decide) (by decide) rfl rfl rfl (pa_cons (pe_lst pa_nil) (pa_cons (pv 2) (pa_cons (pv 1) pa_nil))) (by rfl)) (pss_cons (ps_for (passes_of rfl) rfl (pi_range1 rfl (M.fr "range") (pa_cons (pv 0) pa_nil)) (pg_name (i := 6) sc83.nd rfl (Or.inl rfl)) (pss_cons (ps_set (i := 7) sc83.nd rfl (Or.inl rfl) (pe_gd (ok_greatest_begin M) hr (by decide) rfl passL (pa_cons (pe_op op_sub (pe_op op_sub (pv 0) pe_int) (pv 6)) (pa_cons (pv 5) (pa_cons (pv 4) (pa_cons (pe_cmpR op_in_seq pe_int (pv 3) (by with_unfolding_all rfl)) pa_nil)))))) (pss_cons (ps_par (i := 4) (j := 5) rfl sc83.nd rfl rfl (by decide) rfl rfl (pa_cons (pe_op op_sub (pv 4) (pe_gd (ok_lists_below M) hr (by decide) rfl passL (pa_cons (pe_op op_sub (pe_op op_sub (pv 0) pe_int) (pv 6)) (pa_cons (pv 5) (pa_cons (pv 7) (pa_cons (pe_cmpR op_in_seq pe_int (pv 3) (by with_unfolding_all rfl)) pa_nil)))))) (pa_cons (pe_op op_sub (pv 5) (pv 7)) pa_nil)) (by rfl)) (pss_one (ps_expr (pe_bm PySem.F.plainAttrs_list PySem.F.slot_list_append PySem.F.type_list_append mt_append (pv 3) (pa_cons (pv 7) pa_nil))))))) (pss_one (ps_ret (pv 3))))), ?_⟩
  · obtain ⟨m, t, k, rfl, _⟩ := h
    rfl
  · obtain ⟨m, t, k, rfl, c1, c2, c3, c4, q⟩ := h
    refine ⟨szl, fun p hp => ⟨_, rfl, _, rfl, _, _, _, rfl, ?_⟩⟩
    refine ⟨_, rfl, _, rfl, by omega, by omega, ?_⟩
    refine ⟨fun i n σ H' => Gr T [] H H' ∧ n = m - i ∧ i ≤ m ∧ ∃ (vs : List Nat) (t' : Nat) (r' : Int) (z1 z2 : Option V), H' p = some (.lst (natsV vs)) ∧ σ = [some (.int m), some (.int t), some (.int k), some (.ref p), some (.int r'), some (.int t'), z1, z2] ∧ vs.length = i ∧ t' ≤ t ∧ 0 ≤ r' ∧ r' < cntF ((m - i : Nat) : Int) t' (decide (0 ∈ vs)) ∧ vs ++ madeF (m - i) t' r' (decide (0 ∈ vs)) = madeF m t k false,
      ⟨m, .new hp, by omega, Nat.zero_le _, [], t, k, none, none, upd_same, rfl, rfl, Nat.le_refl _, c3, ?_, rfl⟩, ?_⟩
    · exact c4
    rintro i n σ H1 ⟨g, rfl, hi, vs, t', r', z1, z2, hp1, rfl, hl, ht, r0, r1, hm⟩
    by_cases e : i = m
    · subst e
      refine .inl ⟨?_, _, rfl, q H1 p g hp ?_⟩
      · show (i : Int).toNat ≤ i
        omega
      · have e0 : i - i = 0 := by omega
        rw [e0] at hm
        have hm' : vs = madeF i t k false := by
          rw [← hm]
          exact (List.append_nil _).symm
        rw [← hm']
        exact hp1
    · refine .inr ⟨?_, fun σ' H' => ∃ m', m' < m - i ∧ (Gr T [] H H' ∧ m' = m - (i + 1) ∧ i + 1 ≤ m ∧ ∃ (vs : List Nat) (t' : Nat) (r' : Int) (z1 z2 : Option V), H' p = some (.lst (natsV vs)) ∧ σ' = [some (.int m), some (.int t), some (.int k), some (.ref p), some (.int r'), some (.int t'), z1, z2] ∧ vs.length = i + 1 ∧ t' ≤ t ∧ 0 ≤ r' ∧ r' < cntF ((m - (i + 1) : Nat) : Int) t' (decide (0 ∈ vs)) ∧ vs ++ madeF (m - (i + 1)) t' r' (decide (0 ∈ vs)) = madeF m t k false), fun σ' H' z => z, ?_⟩
      · show i < (m : Int).toNat
        omega
      rintro x H2 ⟨rfl, rfl⟩
      obtain ⟨j, hj⟩ : ∃ j : Nat, m - i = j + 1 := ⟨m - i - 1, by omega⟩
      have hj2 : m - (i + 1) = j := by omega
      have ej : (m : Int) - 1 - (0 + (i : Int)) = (j : Int) := by omega
      rw [hj] at r1 hm
      rw [Int.natCast_add, Int.natCast_one] at r1
      have gb := gbN_at r0 r1
      obtain ⟨s0, s1⟩ := made_rest gb
      -- value = greatest_begin(..)
      refine ⟨_, rfl, _, _, rfl, rfl, _, rfl, _, _, rfl, rfl, _, rfl, _, rfl, _, rfl, _, _, rfl, .inl (.inl (.inl hp1)), rfl, flat_nats vs, ?_⟩
      refine ⟨j, t', r', decide (0 ∈ vs), ?_, by omega, by omega, r0, r1, ?_⟩
      · show [V.int ((m : Int) - 1 - (0 + (i : Int))), V.int t', V.int r', V.bl (inV (.int 0) (natsV vs))] = _
        rw [ej, show inV (.int 0) (natsV vs) = decide (0 ∈ vs) from inV_zero vs]
      generalize hv : gbN j t' r' (decide (0 ∈ vs)) = v at gb s0 s1
      -- rest, left = ..
      refine ⟨_, rfl, _, rfl, _, _, rfl, rfl, _, rfl, _, _, rfl, rfl, _, rfl, _, rfl, _, rfl, _, _, rfl, .inl (.inl (.inl hp1)), rfl, flat_nats vs, ?_⟩
      refine ⟨j, t', v, decide (0 ∈ vs), ?_, by omega, by omega, by omega, by omega, by omega, by have := gb.le; omega, ?_⟩
      · show [V.int ((m : Int) - 1 - (0 + (i : Int))), V.int t', V.int v, V.bl (inV (.int 0) (natsV vs))] = _
        rw [ej, show inV (.int 0) (natsV vs) = decide (0 ∈ vs) from inV_zero vs]
      refine ⟨_, _, rfl, rfl, _, rfl, _, rfl, _, _, rfl, rfl, _, _, rfl, ?_⟩
      -- found.append(value)
      refine ⟨_, rfl, .inl ⟨rfl, _, .inl (.inl hp1)⟩, _, rfl, _, _, _, rfl, rfl, hp1, ?_, ?_⟩
      · have : (natsV vs).length = i := by
          unfold natsV
          rw [List.length_map, hl]
        rw [this]
        exact small1000 (by omega)
      refine ⟨j, by omega, g.ownL hp hp1, by omega, by omega, vs ++ [v], t' - v, r' - lbF j t' v (decide (0 ∈ vs)), some (.int (0 + i)), some (.int v), ?_, ?_, by rw [List.length_append, hl]; rfl, by omega, s0, ?_, ?_⟩
      · rw [upd_same]
        unfold natsV
        rw [List.map_append]
        rfl
      · have e2 : (t' : Int) - v = ((t' - v : Nat) : Int) := by have := gb.le; omega
        show ([some (V.int m), some (V.int t), some (V.int k), some (V.ref p), some (V.int (r' - lbF j t' v (decide (0 ∈ vs)))), some (V.int ((t' : Int) - v)), some (V.int (0 + (i : Int))), some (V.int v)] : List (Option V)) = _
        rw [e2]
      · rw [hj2, in_snoc]
        exact s1
      · rw [hj2, in_snoc, List.append_assoc, ← hm]
        congr 1
        show v :: madeF j _ _ _ = gbN j t' r' _ :: madeF j (t' - gbN j t' r' _) (r' - lbF j t' (gbN j t' r' _) _) (_ || decide (gbN j t' r' _ = 0))
        rw [hv]
end Rw
set_option maxHeartbeats 4000000
/-! Dicts by names, paths, comprehensions that leave the heap. -/
namespace Rw
open PySem PySem.Spec PyProof.Rows L2 LamX NdefX
/-! ### dicts: names to ints -/
def dz (ns : List Str) (f : Str → Int) : List (Key × V) := ns.map fun x => ((Sum.inr x : Key), V.int (f x))
theorem dz_len (ns : List Str) (f : Str → Int) : (dz ns f).length = ns.length := List.length_map _
theorem dz_congr {ns : List Str} {f g : Str → Int} (h : ∀ x ∈ ns, f x = g x) : dz ns f = dz ns g := List.map_congr_left fun x hx => by rw [h x hx]
theorem valV_dz {f : Str → Int} {x : Str} : ∀ {ns : List Str}, x ∈ ns → valV (dz ns f) (.inr x) = some (.int (f x))
  | y :: r, h => by
    by_cases e : y = x
    · subst e
      exact valV_pos (p := (Sum.inr y, V.int (f y))) rfl
    · show valV ((Sum.inr y, V.int (f y)) :: dz r f) (.inr x) = _
      rw [valV_neg (fun z => e (Sum.inr.inj z)), valV_dz]
      rcases List.mem_cons.mp h with z | h
      · exact absurd z.symm e
      · exact h
theorem any_dz {f : Str → Int} {x : Str} {ns : List Str} : ((dz ns f).any fun kv => decide (kv.1 = Sum.inr x)) = decide (x ∈ ns) := by
  unfold dz
  rw [List.any_map]
  induction ns with
  | nil => rfl
  | cons y r ih =>
    rw [List.any_cons, ih]
    show (decide ((Sum.inr y : Key) = Sum.inr x) || decide (x ∈ r)) = _
    by_cases e : y = x
    · subst e
      simp
    · have e2 : ¬ ((Sum.inr y : Key) = Sum.inr x) := fun z => e (Sum.inr.inj z)
      simp [e2, Ne.symm e]
theorem putK_dz {f : Str → Int} {x : Str} {ns : List Str} {v : Int} (h : x ∈ ns) : putK (dz ns f) (.inr x) (.int v) = dz ns (upF f x v) := by
  unfold putK
  rw [any_dz, decide_eq_true h, if_pos rfl]
  unfold dz
  rw [List.map_map]
  refine List.map_congr_left fun y _ => ?_
  show (if (Sum.inr y : Key) = Sum.inr x then ((Sum.inr y : Key), V.int v) else ((Sum.inr y : Key), V.int (f y))) = (Sum.inr y, V.int (upF f x v y))
  unfold upF
  by_cases e : y = x
  · rw [if_pos (by rw [e]), if_pos e]
  · rw [if_neg (fun z => e (Sum.inr.inj z)), if_neg e]
theorem putK_snoc {f : Str → Int} {x : Str} {ns : List Str} (h : x ∉ ns) : putK (dz ns f) (.inr x) (.int (f x)) = dz (ns ++ [x]) f := by
  unfold putK
  rw [any_dz, decide_eq_false h, if_neg Bool.false_ne_true]
  unfold dz
  rw [List.map_append]
  rfl
theorem vsOf_dz (ns : List Str) (f : Str → Int) : vsOf (dz ns f) = (ns.map f).map V.int := by
  unfold vsOf dz
  rw [List.map_map, List.map_map]
  rfl
theorem DGet_dz {H : Hp} {a : Addr} {ns : List Str} {f : Str → Int} {x : Str} (e : H a = some (.dK (dz ns f))) (h : x ∈ ns) : DGet H a (.str x) (some (.int (f x))) := .inl ⟨_, .inr x, .inl e, rfl, (valV_dz h).symm⟩
/-- keys apart: nothing is merged -/
theorem mergeK_nodup : ∀ (l acc : List (Key × V)), ((acc ++ l).map Prod.fst).Nodup → mergeK acc l = acc ++ l
  | [], acc, _ => by rw [List.append_nil]; rfl
  | p :: r, acc, h => by
    have e : putK acc p.1 p.2 = acc ++ [p] := by
      unfold putK
      rw [if_neg]
      intro z
      obtain ⟨q, hq, e⟩ := List.any_eq_true.mp z
      have e' := of_decide_eq_true e
      rw [List.map_append, List.nodup_append] at h
      exact h.2.2 q.1 (List.mem_map_of_mem hq) p.1 (by simp) e'
    show mergeK (putK acc p.1 p.2) r = _
    rw [e, mergeK_nodup r (acc ++ [p]) (by rw [List.append_assoc]; exact h), List.append_assoc]
    rfl
theorem zip_dz {ns : List Str} {vs : List Int} (nd : ns.Nodup) (hl : ns.length = vs.length) : (ns.map fun x => (Sum.inr x : Key)).zip (vs.map V.int) = dz ns fun x => vs.getD (ns.idxOf x) 0 := by
  refine List.ext_getElem? fun i => ?_
  unfold dz
  rw [List.getElem?_map]
  by_cases h : i < ns.length
  · have hv : i < vs.length := by omega
    have e1 : ((ns.map fun x => (Sum.inr x : Key)).zip (vs.map V.int))[i]? = some (Sum.inr ns[i], V.int vs[i]) := by
      rw [List.getElem?_zip_eq_some]
      exact ⟨by rw [List.getElem?_map, List.getElem?_eq_getElem h]; rfl, by rw [List.getElem?_map, List.getElem?_eq_getElem hv]; rfl⟩
    rw [e1, List.getElem?_eq_getElem h]
    show _ = some (Sum.inr ns[i], V.int (vs.getD (ns.idxOf ns[i]) 0))
    rw [idx_get nd i h, List.getD_eq_getElem?_getD, List.getElem?_eq_getElem hv]
    rfl
  · rw [List.getElem?_eq_none (by rw [List.length_zip, List.length_map, List.length_map]; omega), List.getElem?_eq_none (by omega)]
    rfl
theorem merge_zip {ns : List Str} {vs : List Int} (nd : ns.Nodup) (hl : ns.length = vs.length) : mergeK [] ((ns.map fun x => (Sum.inr x : Key)).zip (vs.map V.int)) = dz ns fun x => vs.getD (ns.idxOf x) 0 := by
  rw [mergeK_nodup, List.nil_append, zip_dz nd hl]
  rw [List.nil_append, zip_dz nd hl]
  unfold dz
  rw [List.map_map]
  exact List.pairwise_map.mpr (nd.imp fun h z => h (Sum.inr.inj z))
/-! ### a path -/
structure PathAt (K : PySem.W.Frag) (H : Hp) (a : Addr) (ns : List Str) : Prop where
  ex : ∃ dx fs tn, H a = some (.ins (He.ga K "Path") dx fs) ∧ fs.lookup ("names" : Str) = some (.ref tn) ∧ fs.lookup ("many" : Str) = some (.int (ns.length : Nat)) ∧ H tn = some (.tup (ns.map V.str))
  nd : ns.Nodup
  two : 2 ≤ ns.length
  le : ns.length ≤ 22
theorem PathAt.gr {K : PySem.W.Frag} {T : List NTab} {B : List Addr} {H H1 : Hp} {a : Addr} {ns : List Str} (p : PathAt K H a ns) (g : Gr T B H H1) : PathAt K H1 a ns :=
  let ⟨dx, fs, tn, h1, h2, h3, h4⟩ := p.ex
  ⟨⟨dx, fs, tn, g.ins h1, h2, h3, g.tup h4⟩, p.nd, p.two, p.le⟩
/-! ### comprehensions -/
section
variable {J : It} {n : Nat} {G : Hp → Prop} {Y : Nat → Hp → V → Hp → Prop} {T : List NTab}
theorem dc_it (w : Walk J n G Y) {g : TG} {tt : TT} {tk tv : TE} {vs : List Nat} {σ : L2.St} {H1 : Hp} {D : Addr} {Qd : Hp → Prop} (Pv : Nat → Hp → Prop) (h0 : Pv 0 (upd H1 D (.dK []))) (hG : ∀ i H, i ≤ n → Pv i H → G H)
    (hs : ∀ i x H H', i < n → Pv i H → Y i H x H' → g x (wipe σ vs) H' fun σ2 H2 => wipe σ2 vs = wipe σ vs ∧ tt σ2 H2 fun b H3 =>
      if b = true then tk σ2 H3 fun y H4 => tv σ2 H4 fun z H5 => ∃ kvs k, y = kV k ∧ H5 D = some (.dK kvs) ∧ kvs.length < sizeLine ∧ Pv (i + 1) (upd H5 D (.dK (putK kvs k z))) else Pv (i + 1) H3) (hd : ∀ H, Pv n H → Qd H) :
    ∃ W : Nat → Nat → Hp → Prop, (∃ m, W 0 m (upd H1 D (.dK []))) ∧ ∀ i m H, W i m H →
      (J.stop i H ∧ Qd H) ∨ (J.go i H ∧ ∃ Nx : Hp → Prop, (∀ H', Nx H' → ∃ m', m' < m ∧ W (i + 1) m' H') ∧ ∀ x H', J.yld i H x H' → g x (wipe σ vs) H' fun σ2 H2 => wipe σ2 vs = wipe σ vs ∧ tt σ2 H2 fun b H3 =>
        if b = true then tk σ2 H3 fun y H4 => tv σ2 H4 fun z H5 => ∃ kvs k, y = kV k ∧ H5 D = some (.dK kvs) ∧ kvs.length < sizeLine ∧ Nx (upd H5 D (.dK (putK kvs k z))) else Nx H3) := by
  refine ⟨fun i m H => m = n - i ∧ i ≤ n ∧ Pv i H, ⟨n, by simp, Nat.zero_le _, h0⟩, ?_⟩
  rintro i m H ⟨rfl, hi, p⟩
  have q := hG i H hi p
  by_cases hlt : i < n
  · exact .inr ⟨w.goes i H hlt q, Pv (i + 1), fun H' p' => ⟨n - (i + 1), by omega, rfl, hlt, p'⟩, fun x H' y => hs i x H H' hlt p (w.yields i H x H' hlt q y)⟩
  · have e : i = n := by omega
    subst e
    exact .inl ⟨w.stops H q, hd H p⟩
theorem walk_enumT {K : PySem.W.Frag} {a : Addr} {xs : List V} : Walk (IteT K a) xs.length (fun H => SqT K H a xs) (YPair (fun i => some (.int (i : Nat))) (fun i => xs[i]?)) := by
  refine ⟨fun i _ hiz q => ⟨xs, xs[i], q, by simp [hiz]⟩, fun _ q => ⟨xs, q, Nat.le_refl _⟩, fun i H v H' _ q y => ?_⟩
  obtain ⟨T, x, h1z, h2, h3, h4⟩ := y
  exact ⟨T, .int (i : Nat), x, h1z, h2, h3, rfl, h4 xs q⟩
theorem take_snoc {α : Type} {xs : List α} {i : Nat} {x : α} (h : xs[i]? = some x) : xs.take (i + 1) = xs.take i ++ [x] := by
  rw [List.take_add_one, h]
  rfl
/-- [h x for x in xs if p x], the heap left as it is -/
theorem lc_same {xs : List V} (w : Walk J xs.length G (YAt xs)) (p : V → Bool) (h : V → V) {g : TG} {tt : TT} {te : TE} {vs : List Nat} {σ : L2.St} {H1 : Hp} {D : Addr} {Qd : Hp → Prop} (hD : H1 D = none) (hlen : xs.length ≤ 1000) (hG : ∀ H, Gr T [] H1 H → G H)
    (step : ∀ x ∈ xs, ∀ H, Gr T [] H1 H → ∀ (Ky : V → Hp → Prop) (Kn : Hp → Prop), (p x = true → Ky (h x) H) → (p x = false → Kn H) → g x (wipe σ vs) H fun σ2 H2 => wipe σ2 vs = wipe σ vs ∧ tt σ2 H2 fun b H3 => if b = true then te σ2 H3 Ky else Kn H3)
    (hd : ∀ H, Gr T [] H1 H → H D = some (.lst ((xs.filter p).map h)) → Qd H) :
    ∃ W : Nat → Nat → Hp → Prop, (∃ m, W 0 m (upd H1 D (.lst []))) ∧ ∀ i m H, W i m H →
      (J.stop i H ∧ Qd H) ∨ (J.go i H ∧ ∃ Nx : Hp → Prop, (∀ H', Nx H' → ∃ m', m' < m ∧ W (i + 1) m' H') ∧ ∀ x H', J.yld i H x H' → g x (wipe σ vs) H' fun σ2 H2 => wipe σ2 vs = wipe σ vs ∧ tt σ2 H2 fun b H3 =>
        if b = true then te σ2 H3 fun y H4 => ∃ acc, H4 D = some (.lst acc) ∧ acc.length < sizeLine ∧ Nx (upd H4 D (.lst (acc ++ [y]))) else Nx H3) := by
  refine lc_it w (fun i H => Gr T [] H1 H ∧ H D = some (.lst (((xs.take i).filter p).map h))) ⟨.new hD, upd_same⟩ (fun i H _ q => hG H q.1) (fun i x H H' hi ⟨gr, hl⟩ ⟨eH, hx⟩ => ?_) fun H ⟨gr, hl⟩ => hd H gr (by rw [List.take_length] at hl; exact hl)
  subst eH
  refine step x (List.mem_of_getElem? hx) H' gr _ _ (fun hp => ⟨_, hl, ?_, ?_, ?_⟩) fun hp => ⟨gr, ?_⟩
  · rw [List.length_map]
    exact small1000 (Nat.le_trans (List.length_filter_le _ _) (by rw [List.length_take]; omega))
  · exact gr.ownL hD hl
  · rw [upd_same, take_snoc hx, List.filter_append, List.map_append]
    simp [hp]
  · rw [hl, take_snoc hx, List.filter_append]
    simp [hp]
/-- {x: f x for x in ns} -/
theorem dc_same {ns : List Str} (w : Walk J (ns.map V.str).length G (YAt (ns.map V.str))) (f : Str → Int) {g : TG} {tt : TT} {tk tv : TE} {vs : List Nat} {σ : L2.St} {H1 : Hp} {D : Addr} {Qd : Hp → Prop} (nd : ns.Nodup) (hD : H1 D = none) (hlen : ns.length ≤ 1000) (hG : ∀ H, Gr T [] H1 H → G H)
    (step : ∀ x ∈ ns, ∀ H, Gr T [] H1 H → ∀ (Ky : V → V → Hp → Prop) (Kn : Hp → Prop), Ky (.str x) (.int (f x)) H → g (.str x) (wipe σ vs) H fun σ2 H2 => wipe σ2 vs = wipe σ vs ∧ tt σ2 H2 fun b H3 => if b = true then tk σ2 H3 fun y H4 => tv σ2 H4 fun z H5 => Ky y z H5 else Kn H3)
    (hd : ∀ H, Gr T [] H1 H → H D = some (.dK (dz ns f)) → Qd H) :
    ∃ W : Nat → Nat → Hp → Prop, (∃ m, W 0 m (upd H1 D (.dK []))) ∧ ∀ i m H, W i m H →
      (J.stop i H ∧ Qd H) ∨ (J.go i H ∧ ∃ Nx : Hp → Prop, (∀ H', Nx H' → ∃ m', m' < m ∧ W (i + 1) m' H') ∧ ∀ x H', J.yld i H x H' → g x (wipe σ vs) H' fun σ2 H2 => wipe σ2 vs = wipe σ vs ∧ tt σ2 H2 fun b H3 =>
        if b = true then tk σ2 H3 fun y H4 => tv σ2 H4 fun z H5 => ∃ kvs k, y = kV k ∧ H5 D = some (.dK kvs) ∧ kvs.length < sizeLine ∧ Nx (upd H5 D (.dK (putK kvs k z))) else Nx H3) := by
  refine dc_it w (fun i H => Gr T [] H1 H ∧ H D = some (.dK (dz (ns.take i) f))) ⟨.new hD, upd_same⟩ (fun i H _ q => hG H q.1) (fun i x H H' hi ⟨gr, hl⟩ ⟨eH, hx⟩ => ?_) fun H ⟨gr, hl⟩ => hd H gr (by rw [List.length_map, List.take_length] at hl; exact hl)
  subst eH
  rw [List.length_map] at hi
  have hx' : ns[i]? = some ns[i] := List.getElem?_eq_getElem hi
  have ex : x = .str ns[i] := by
    rw [List.getElem?_map, hx'] at hx
    exact (Option.some.inj hx).symm
  subst ex
  refine step ns[i] (List.getElem_mem hi) H' gr _ _ ⟨_, .inr ns[i], rfl, hl, ?_, ?_, ?_⟩
  · rw [dz_len, List.length_take]
    exact small1000 (by omega)
  · exact gr.ownD hD hl
  · rw [upd_same, putK_snoc, ← take_snoc hx']
    intro z
    have nd' : (ns.take (i + 1)).Nodup := nd.sublist (List.take_sublist _ _)
    rw [take_snoc hx', List.nodup_append] at nd'
    exact nd'.2.2 _ z _ (by simp) rfl
end
/-! ### rules for blocks: nothing of the block's context in the reading -/
section
variable {X : Cx} {P : Program} {w : World} {K : PySem.W.Frag} {mg : Str → Option Value} {base : Heap}
theorem pg_tupK {es : List Expr} {kk : Nat} {pos : Pos} {t : TGs} (n : Nat) (hK : X.K = K) (h : PG X (.Tuple es kk pos) (gTup X.K n t)) : PG X (.Tuple es kk pos) (gTup K n t) := by
  subst hK
  exact h
theorem pe_ixTK {a b : Expr} {pos : Pos} {ta tb : TE} (hK : X.K = K) (ha : PE X a ta) (hb : PE X b tb) (hs : PlainIx b) : PE X (.Subscript a b pos) (tOp (rIxT K) ta tb) := by
  subst hK
  exact pe_ix ix_tup ha hb hs
def tCallV (P : Program) (w : World) (K : PySem.W.Frag) (mg : Str → Option Value) (base : Heap) (k i : Nat) (E : XK) (t : TA) : TE := fun σ H Q => ∃ (f : Addr) (Hc : Hp → Prop) (n : Nat) (sp : Sp), σ[i]? = some (some (.ref f)) ∧ Fv P w K mg base (L2.CX P w) k Hc f n sp ∧ Hc H ∧ t σ H fun vs H1 => Hc H1 ∧ sp vs H1 Q E
theorem pe_callV {k i : Nat} {x : Str} {E : XK} {t : TA} {e : Expr} {es : List Expr} {p pos : Pos} (hP : X.prog = P) (hw : X.w = w) (hK : X.K = K) (hmg : X.mg = mg) (hbase : X.base = base) (hr : Room k X.A) (hx : Passes (L2.CX X.prog X.w) X E) (hN : X.N[i]? = some x) (hv : Vis X.env.scope x) (ha : PA X (e :: es) t)
    (hd : (x == ("__debug__" : Str)) = false := by decide) (hcd : (x == ("__classdict__" : Str)) = false := by decide)
    (he : starEach (e :: es) X.env = (false, eval e X.env) :: starEach es X.env := by rfl) (hpl : (backTo pos (starEach es X.env)).any (·.1) = false := by rfl) :
    PE X (.Call (.Name x p) (e :: es) [] pos) (tCallV P w K mg base k i E t) := by
  subst hP hw hK hmg hbase
  exact pe_callF hr hx hN hv ha hd hcd he hpl
end
end Rw
set_option maxHeartbeats 4000000
/-! The walks: stands. -/
namespace Rw
open PySem PySem.Spec PyProof.Rows L2 LamX NdefX
variable {P : Program} {w : World} {K : PySem.W.Frag} {mg : Str → Option Value} {base : Heap} {T : List NTab}
/-! ### first_places -/
def spFirst (K : PySem.W.Frag) (T : List NTab) : Sp := fun vs H Q _ => ∃ (a : Addr) (ns : List Str), vs = [.ref a] ∧ PathAt K H a ns ∧ ∀ H' p, Gr T [] H H' → H p = none → H' p = some (.dK (dz ns fun x => (ns.idxOf x : Nat))) → Q (.ref p) H'
theorem sc26 : FnScope ["path", "rank", "name"] ["path"] (defScope (top 26)) := ⟨rfl, rfl, rfl, by decide +kernel, rfl, by decide +kernel, by decide +kernel⟩
theorem ok_first_places (M : Mo K mg) : Gd P w K mg base 1 "first_places" ["path"] (spFirst K T) := by
  refine gd_of (M.df "first_places" 26) sc26 (fun F => F.bindsN fun _ _ _ _ _ _ us hl => match us, hl with | [_], _ => rfl) (fun vs H Q E h => ?_) fun cdv A outer s H vs Q E hr h => ⟨_, (pss_one (ps_ret (pe_dc (own := [("rank", 1), ("name", 2)]) rfl sc26.nd (pi_enumT rfl (M.fr "enumerate") (pa_cons (pe_fld (pv 0) rfl) pa_nil)) (blkOk_by (by kernel_rfl)) (fun _ _ _ _ _ => (pg_tupK (K := K) 2 rfl (pg_tup rfl (pgs_cons (pg_name (i := 1) sc26.nd rfl (Or.inl rfl) (hf := Or.inr rfl)) (pgs_cons (pg_name (i := 2) sc26.nd rfl (Or.inl rfl) (hf := Or.inr rfl)) pgs_nil))))) (fun _ _ _ _ _ => pts_nil) (fun _ _ _ _ _ => (pv 2)) (fun _ _ _ _ _ => (pv 1))))), ?_⟩
  · obtain ⟨a, ns, rfl, _⟩ := h
    rfl
  · obtain ⟨a, ns, rfl, pa, q⟩ := h
    obtain ⟨dx, fs, tn, h1, h2, h3, ht⟩ := pa.ex
    refine ⟨_, rfl, a, _, dx, fs, _, rfl, h1, M.pcls, M.pnames, h2, tn, _, rfl, .inl (.inl ht), fun D hD => ?_⟩
    refine dc_it walk_enumT (fun i H' => Gr T [] H H' ∧ H' D = some (.dK (dz (ns.take i) fun x => (ns.idxOf x : Nat)))) ⟨.new hD, upd_same⟩ (fun i H' _ p => .inl (.inl (p.1.tup ht))) (fun i x H1 H2 hi ⟨gr, hl⟩ y => ?_) fun H' ⟨gr, hl⟩ => q H' D gr hD (by rw [List.length_map, List.take_length] at hl; exact hl)
    obtain ⟨t, x1, x2, rfl, ht0, rfl, e1, e2⟩ := y
    rw [List.length_map] at hi
    have hx' : ns[i]? = some ns[i] := List.getElem?_eq_getElem hi
    have e2' : (ns.map V.str)[i]? = some x2 := e2
    rw [List.getElem?_map, hx'] at e2'
    cases e1
    cases e2'
    have dt : D ≠ t := fun z => by
      rw [z, ht0] at hl
      cases hl
    refine ⟨t, _, rfl, .inl (.inl upd_same), rfl, _, _, rfl, _, _, rfl, rfl, rfl, _, rfl, _, rfl, _, .inr ns[i], rfl, (upd_ne dt).trans hl, ?_, ?_, ?_⟩
    · rw [dz_len, List.length_take]
      exact small1000 (by have := pa.le; omega)
    · exact (gr.trans (.new ht0)).ownD hD ((upd_ne dt).trans hl)
    · rw [upd_same]
      have e3 : (i : Int) = ((ns.idxOf ns[i] : Nat) : Int) := by rw [idx_get pa.nd i hi]
      rw [e3, putK_snoc (f := fun x => ((ns.idxOf x : Nat) : Int)), ← take_snoc hx']
      intro z
      have nd' : (ns.take (i + 1)).Nodup := pa.nd.sublist (List.take_sublist _ _)
      rw [take_snoc hx', List.nodup_append] at nd'
      exact nd'.2.2 _ z _ (by simp) rfl
/-! ### behind_overtaking -/
def spBehind (T : List NTab) : Sp := fun vs H Q _ => ∃ (a : Addr) (ns : List Str) (st : Str → Int) (x y : Str), vs = [.ref a, .str x, .str y] ∧ ns.length ≤ 100 ∧ H a = some (.dK (dz ns st)) ∧ x ∈ ns ∧ y ∈ ns ∧ ∀ H' p, Gr T [] H H' → H p = none → H' p = some (.dK (dz ns (behindF st x y))) → Q (.ref p) H'
theorem sc28 : FnScope ["stand", "one", "other", "found"] ["stand", "one", "other"] (defScope (top 28)) := ⟨rfl, rfl, rfl, by decide +kernel, rfl, by decide +kernel, by decide +kernel⟩
theorem ok_behind_overtaking (M : Mo K mg) : Gd P w K mg base 1 "behind_overtaking" ["stand", "one", "other"] (spBehind T) := by
  refine gd_of (M.df "behind_overtaking" 28) sc28 (fun F => F.bindsN fun _ _ _ _ _ _ us hl => match us, hl with | [_, _, _], _ => rfl) (fun vs H Q E h => ?_) fun cdv A outer s H vs Q E hr h => ⟨_, (pss_cons (ps_set (i := 3) sc28.nd rfl (Or.inl rfl) (pe_callTy call_dictD rfl (M.fr "dict") (by decide +kernel) (pa_cons (pv 0) pa_nil))) (pss_cons (ps_asg (pe_tup (pa_cons (pe_op op_add (pe_dget (hu_of hr) (pv 0) (pv 1) (fun _ _ => rfl)) pe_int) (pa_cons (pe_op op_sub (pe_dget (hu_of hr) (pv 0) (pv 2) (fun _ _ => rfl)) pe_int) pa_nil))) (pg_tup rfl (pgs_cons (pg_sub (pv 3) (pv 1) (set_dict (hu_of hr))) (pgs_cons (pg_sub (pv 3) (pv 2) (set_dict (hu_of hr))) pgs_nil)))) (pss_one (ps_ret (pv 3))))), ?_⟩
  · obtain ⟨a, ns, st, x, y, rfl, _⟩ := h
    rfl
  · obtain ⟨a, ns, st, x, y, rfl, hl, ha, hx, hy, q⟩ := h
    refine ⟨_, rfl, _, _, rfl, .inl ha, fun p hp => ?_⟩
    have g1 : Gr T [] H (upd H p (.dK (dz ns st))) := .new hp
    have ha1 := g1.dK ha
    refine ⟨_, rfl, _, rfl, _, _, rfl, DGet_dz ha1 hx, _, _, rfl, rfl, _, rfl, _, rfl, _, _, rfl, DGet_dz ha1 hy, _, _, rfl, rfl, szl, fun t ht => ?_⟩
    have pt : p ≠ t := fun z => by
      rw [← z, upd_same] at ht
      cases ht
    refine ⟨t, _, rfl, .inl (.inl upd_same), rfl, _, _, rfl, _, rfl, _, rfl, p, _, rfl, .inl ⟨_, .inr x, (upd_ne pt).trans upd_same, rfl, ?_, rfl⟩, _, _, rfl, _, rfl, _, rfl, p, _, rfl, .inl ⟨_, .inr y, upd_same, rfl, ?_, rfl⟩, rfl, _, rfl, q _ p ?_ hp ?_⟩
    · rw [dz_len]
      exact small1000 (by omega)
    · rw [putK_dz hx, dz_len]
      exact small1000 (by omega)
    · exact ((g1.trans (.new ht)).ownD hp ((upd_ne pt).trans upd_same)).ownD hp upd_same
    · rw [upd_same, putK_dz hx, putK_dz hy]
      rfl
/-! ### laps_in, less_laps -/
def fV (f : Str → Int) : V → V
  | .str x => .int (f x)
  | _ => .non
def pV (p : Str → Bool) : V → Bool
  | .str x => p x
  | _ => false
theorem filter_V (p : Str → Bool) (f : Str → Int) (ns : List Str) : ((ns.map V.str).filter (pV p)).map (fV f) = ((ns.filter p).map f).map V.int := by
  rw [List.filter_map, List.map_map, List.map_map]
  rfl
theorem some_V (ns : List Str) (lf : Str → Int) : ((ns.map V.str).filter (pV fun x => decide (lf x > 0))).map (fV lf) = ((someF ns lf).map lf).map V.int := filter_V _ _ _
theorem mem_str {ns : List Str} {v : V} (h : v ∈ ns.map V.str) : ∃ x, v = .str x ∧ x ∈ ns := by
  obtain ⟨x, hx, e⟩ := List.mem_map.mp h
  exact ⟨x, e.symm, hx⟩
def spLaps (K : PySem.W.Frag) (T : List NTab) : Sp := fun vs H Q _ => ∃ (a l : Addr) (ns : List Str) (lf : Str → Int), vs = [.ref a, .ref l] ∧ PathAt K H a ns ∧ H l = some (.dK (dz ns lf)) ∧ LfOk ns lf ∧ ∀ H' p, Gr T [] H H' → H p = none → H' p = some (.tup [.int (lapsF ns lf).1, .int (lapsF ns lf).2]) → Q (.ref p) H'
theorem sc76 : FnScope ["path", "left", "some", "many", "name"] ["path", "left"] (defScope (top 76)) := ⟨rfl, rfl, rfl, by decide +kernel, rfl, by decide +kernel, by decide +kernel⟩
theorem ok_laps_in (M : Mo K mg) : Gd P w K mg base 1 "laps_in" ["path", "left"] (spLaps K T) := by
  refine gd_of (M.df "laps_in" 76) sc76 (fun F => F.bindsN fun _ _ _ _ _ _ us hl => match us, hl with | [_, _], _ => rfl) (fun vs H Q E h => ?_) fun cdv A outer s H vs Q E hr h => ⟨_, (pss_cons (ps_setLc (i := 2) (own := [("name", 4)]) rfl sc76.nd rfl rfl (by rfl) (pi_tup (pe_fld (pv 0) rfl)) (blkOk_by (by kernel_rfl)) (fun _ _ _ _ _ => (pg_name (i := 4) sc76.nd rfl (Or.inl rfl) (hf := Or.inr rfl))) (fun _ _ _ _ _ => (pts_one (pt_cmpR op_gt (pe_dget (hu_of hr) (pv 1) (pv 4) (fun _ _ => rfl)) pe_int (nomark _)))) (fun _ _ _ _ _ => (pe_dget (hu_of hr) (pv 1) (pv 4) (fun _ _ => rfl)))) (pss_cons (ps_set (i := 3) sc76.nd rfl (Or.inl rfl) (pe_op op_sub (pe_fld (pv 0) rfl) (pe_callB call_len_seq rfl (M.fr "len") (by decide +kernel) (pa_cons (pv 2) pa_nil)))) (pss_one (ps_ret (pe_tup (pa_cons (pe_ifExp (pt_truth (pv 2) (by intro _; rfl)) (pe_op op_fdiv (pe_callB (cr_min rfl) rfl (M.fr "min") (by decide +kernel) (pa_cons (pv 2) pa_nil)) (pv 3)) pe_int) (pa_cons (pv 3) pa_nil))))))), ?_⟩
  · obtain ⟨a, l, ns, lf, rfl, _⟩ := h
    rfl
  · obtain ⟨a, l, ns, lf, rfl, pa, hl, ok, q⟩ := h
    obtain ⟨dx, fs, tn, h1, h2, h3, ht⟩ := pa.ex
    refine ⟨_, rfl, a, _, dx, fs, _, rfl, h1, M.pcls, M.pnames, h2, tn, rfl, ⟨_, .inl (.inl ht)⟩, fun D hD => ?_⟩
    refine lc_same (T := T) walk_tup (pV fun x => decide (lf x > 0)) (fV lf) hD (by rw [List.length_map]; have := pa.le; omega) (fun H' g => .inl (.inl (g.tup ht))) (fun v hv H' g Ky Kn y n => ?_) fun H1 g1 hD1 => ?_
    · obtain ⟨x, rfl, hx⟩ := mem_str hv
      have d := DGet_dz (g.dK hl) hx
      refine ⟨rfl, _, rfl, _, rfl, _, _, rfl, d, _, _, rfl, rfl, _, rfl, ite2 (fun z => ?_) fun z => ?_⟩
      · exact ⟨_, rfl, _, rfl, _, _, rfl, d, y z⟩
      · exact n (by cases e : decide (lf x > 0) with | true => exact absurd e z | false => exact e)
    rw [some_V] at hD1
    refine ⟨_, rfl, a, _, dx, fs, _, rfl, (g1.ins h1), M.pcls, M.pmany, h3, _, rfl, D, _, rfl, .inl (.inl (.inl hD1)), _, _, rfl, rfl, ?_⟩
    have hlen : (someF ns lf).length = ((someF ns lf).map lf).length := (List.length_map _).symm
    unfold lapsF at q
    cases e : (someF ns lf).map lf with
    | nil =>
      rw [e] at q hD1
      refine ⟨_, rfl, false, .inl ⟨[], .inl (.inl hD1), rfl⟩, _, rfl, szl, fun p hp => q _ p (g1.trans (.new hp)) (g1.mono _ hp) ?_⟩
      rw [upd_same]
      rfl
    | cons x r =>
      rw [e] at q hD1 hlen
      obtain ⟨x', r', e', m1, m2, m3⟩ := lapsF_at ok (by
        have hm : x ∈ (someF ns lf).map lf := by rw [e]; exact List.mem_cons_self
        obtain ⟨y, hy, ey⟩ := List.mem_map.mp hm
        obtain ⟨hy1, hy2⟩ := List.mem_filter.mp hy
        exact ⟨y, hy1, by have := of_decide_eq_true hy2; omega⟩)
      rw [e] at e'
      cases e'
      refine ⟨_, rfl, true, .inl ⟨_, .inl (.inl hD1), rfl⟩, _, rfl, _, x :: r, rfl, .inl (.inl hD1), by simp, fun m hm hmin => ?_⟩
      have em : m = lmin x r := Int.le_antisymm (hmin _ (lmin_mem x r)) (lmin_le x r m hm)
      subst em
      have em2 : ((ns.length : Nat) : Int) - ((((x :: r).map V.int).length : Nat) : Int) = (ns.length : Int) - ((r.length : Int) + 1) := by
        rw [List.length_map, List.length_cons]
        omega
      refine ⟨_, rfl, _, _, rfl, rfl, ⟨?_, ?_⟩, _, rfl, szl, fun p hp => q _ p (g1.trans (.new hp)) (g1.mono _ hp) ?_⟩
      · rw [em2]
        omega
      · rw [em2]
        have := pa.le
        omega
      · rw [upd_same]
        show some (HO.tup [V.int (lmin x r / (((ns.length : Nat) : Int) - ((((x :: r).map V.int).length : Nat) : Int))), V.int (((ns.length : Nat) : Int) - ((((x :: r).map V.int).length : Nat) : Int))]) = _
        rw [em2]
def spLess (K : PySem.W.Frag) (T : List NTab) : Sp := fun vs H Q _ => ∃ (a l : Addr) (ns : List Str) (lf : Str → Int) (la m : Int), vs = [.ref a, .ref l, .int la, .int m] ∧ PathAt K H a ns ∧ H l = some (.dK (dz ns lf)) ∧ (-(2 ^ 64) < la ∧ la < 2 ^ 64) ∧ ∀ H' p, Gr T [] H H' → H p = none → H' p = some (.dK (dz ns fun x => if lf x > 0 then lf x - la * m else 0)) → Q (.ref p) H'
theorem sc77 : FnScope ["path", "left", "laps", "many", "name"] ["path", "left", "laps", "many"] (defScope (top 77)) := ⟨rfl, rfl, rfl, by decide +kernel, rfl, by decide +kernel, by decide +kernel⟩
theorem ok_less_laps (M : Mo K mg) : Gd P w K mg base 1 "less_laps" ["path", "left", "laps", "many"] (spLess K T) := by
  refine gd_of (M.df "less_laps" 77) sc77 (fun F => F.bindsN fun _ _ _ _ _ _ us hl => match us, hl with | [_, _, _, _], _ => rfl) (fun vs H Q E h => ?_) fun cdv A outer s H vs Q E hr h => ⟨_, (pss_one (ps_ret (pe_dc (own := [("name", 4)]) rfl sc77.nd (pi_tup (pe_fld (pv 0) rfl)) (blkOk_by (by kernel_rfl)) (fun _ _ _ _ _ => (pg_name (i := 4) sc77.nd rfl (Or.inl rfl) (hf := Or.inr rfl))) (fun _ _ _ _ _ => pts_nil) (fun _ _ _ _ _ => (pv 4)) (fun _ _ _ _ _ => (pe_ifExp (pt_cmpR op_gt (pe_dget (hu_of hr) (pv 1) (pv 4) (fun _ _ => rfl)) pe_int (nomark _)) (pe_op op_sub (pe_dget (hu_of hr) (pv 1) (pv 4) (fun _ _ => rfl)) (pe_op op_mul (pv 2) (pv 3))) pe_int))))), ?_⟩
  · obtain ⟨a, l, ns, lf, la, m, rfl, _⟩ := h
    rfl
  · obtain ⟨a, l, ns, lf, la, m, rfl, pa, hl, c, q⟩ := h
    obtain ⟨dx, fs, tn, h1, h2, h3, ht⟩ := pa.ex
    refine ⟨_, rfl, a, _, dx, fs, _, rfl, h1, M.pcls, M.pnames, h2, tn, rfl, ⟨_, .inl (.inl ht)⟩, fun D hD => ?_⟩
    refine dc_same (T := T) walk_tup (fun x => if lf x > 0 then lf x - la * m else 0) pa.nd hD (by have := pa.le; omega) (fun H' g => .inl (.inl (g.tup ht))) (fun x hx H' g Ky Kn y => ?_) fun H1 g1 hD1 => q H1 D g1 hD hD1
    have d := DGet_dz (g.dK hl) hx
    refine ⟨rfl, _, rfl, _, rfl, _, rfl, _, _, rfl, d, _, _, rfl, rfl, _, rfl, ite2 (fun z => ?_) fun z => ?_⟩
    · have z' := of_decide_eq_true z
      have y' : Ky (.str x) (.int (lf x - la * m)) H' := by
        rw [if_pos z'] at y
        exact y
      exact ⟨_, rfl, _, rfl, _, _, rfl, d, _, rfl, _, rfl, _, _, rfl, rfl, .inl c, _, _, rfl, rfl, y'⟩
    · have z' : ¬ lf x > 0 := fun e => z (decide_eq_true e)
      have y' : Ky (.str x) (.int 0) H' := by
        rw [if_neg z'] at y
        exact y
      exact y'
end Rw
set_option maxHeartbeats 4000000
/-! Code tables; keys that leave the heap; rows sorted by names. -/
namespace Rw
open PySem PySem.Spec PyProof.Rows L2 LamX NdefX
/-! ### the tables of code objects -/
def nmL : List ((Nat × Nat) × Str) := [((360, 33), "movers.<locals>.<lambda>"), ((364, 46), "least_mover.<locals>.<lambda>"), ((366, 33), "ahead_in.<locals>.<lambda>"), ((517, 4), "_law_number_refused.<locals>._law_chooser"), ((519, 30), "_law_number_refused.<locals>.<lambda>"), ((524, 4), "_law_drawn_right.<locals>._law_chooser"), ((540, 4), "_law_drawn_by.<locals>._law_chooser"),
  ((552, 34), "_law_refused_right.<locals>.<lambda>"), ((555, 34), "_law_refused_right.<locals>.<lambda>"), ((558, 34), "_law_refused_right.<locals>.<lambda>"), ((561, 26), "_law_refused_right.<locals>.<lambda>"), ((574, 17), "law.<locals>.<lambda>"), ((575, 21), "law.<locals>.<lambda>")]
def nmA (l c : Nat) : Str := (nmL.lookup (l, c)).getD ""
structure Tb (K : PySem.W.Frag) (mg : Str → Option Value) (base : Heap) (T : List NTab) : Prop where
  nm : ∀ p ∈ T, p.2 = nmA
  mem : ∀ x ∈ tfL, ((He.cT K (x, none)).2, nmA) ∈ T
  tb : ∀ x ∈ tfL, TabB base mg (He.cT K (x, none)).1 (He.cT K (x, none)).2
section
variable {P : Program} {w : World} {K : PySem.W.Frag} {mg : Str → Option Value} {base : Heap} {T : List NTab} {k : Nat} {x : Str} {st : Stmt} {N ps : List Str} {sp : Sp}
theorem Tb.m (t : Tb K mg base T) (x : Str) (h : tfL.elem x = true := by decide +kernel) : ((He.cT K (x, none)).2, nmA) ∈ T := t.mem x (List.elem_iff.mp h)
theorem Tb.t (t : Tb K mg base T) (x : Str) (h : tfL.elem x = true := by decide +kernel) : TabB base mg (He.cT K (x, none)).1 (He.cT K (x, none)).2 := t.tb x (List.elem_iff.mp h)
theorem Tb.u (t : Tb K mg base T) {a : Addr} : ∀ p ∈ T, p.1 = a → p.2 = nmA := fun p hp _ => t.nm p hp
/-- a def whose code object is asked for -/
theorem gd_ofT (F : Df K mg x st) (S : FnScope N ps (defScope st)) (bd : ∀ {fd : FuncData}, FunD K x x (defArgs st) (defBody st) (defScope st) [] [] (He.ga K x) fd → Binds K fd ps []) (len : ∀ vs H Q E, sp vs H Q E → vs.length = ps.length)
    (hbody : ∀ (A : Around) (outer : List Env) (s : Shared) (H : Hp) (vs : List V) (Q : VK) (E : XK), Room k (A.deeper (envOfC x (defScope st) s.heap.objs.size (He.ga K x) (.ref (He.cT K (x, none)).1))) → sp vs H Q E →
      ∃ t, PSs (cxOf (L2.CX P w) P w K mg base N x (defScope st) (He.ga K x) (.ref (He.cT K (x, none)).1) A outer s H E) (defBody st) t ∧ t { nx := fun _ H' => Q .non H', rt := Q } (start N vs) H) : Gd P w K mg base (k + 1) x ps sp := by
  obtain ⟨g, fd, F⟩ := F
  obtain ⟨oc, od, dV, kV, doc, pm, an, cdv, ct, osl, e, lk, hcd, _⟩ := id F.ex
  obtain ⟨c, ec⟩ := He.codeIn_ref hcd
  have e2 : He.codeOf K (x, none) = c := He.codeOf_eq (p := (x, none)) lk (by rw [e]; exact ec)
  have e3 : cdv = .ref (He.cT K (x, none)).1 := by rw [ec]; exact congrArg Value.ref e2.symm
  subst e3
  subst e
  exact ⟨g, _, fn_of lk hcd S len hbody, bd F, F.kp, oc, od, _, osl, lk⟩
end
theorem free_cell {sc nsc : Scope} (h : (nsc.names.all fun y => !decide (y.2 = NameKind.free) || decide (sc.names.lookup y.1 = some NameKind.cell)) = true) : ∀ y ∈ nsc.names, y.2 = .free → sc.names.lookup y.1 = some .cell := fun y hy e => by
  have q := List.all_eq_true.mp h y hy
  rw [e] at q
  simpa using q
theorem with_F {f : Addr} {F : CF} {H : Hp} {G : Prop} (h : H f = some (CFO f F)) (k : ∀ F' : CF, F' = F → H f = some (CFO f F') → G) : G := k F rfl h
/-! ### function values that leave the heap -/
def spPure (R : List V → Hp → V → Prop) : Sp := fun vs H Q _ => ∃ v, R vs H v ∧ Q v H
theorem rfz_thw {C : Addr → Prop} {H : Hp} : rfz C H (thw C H) = H := by
  funext b
  by_cases c : C b
  · rw [rfz_in c]
  · rw [rfz_out c, thw_out c]
theorem link_pure {cl : List (Str × Addr)} {H : Hp} {R : List V → Hp → V → Prop} {vs : List V} {Q : VK} {E : XK} (hR : ∀ v, R vs H v → R vs (thw (ClC cl) H) v) (h : spPure R vs H Q E) : SpIn cl H (spPure R) vs Q E := by
  obtain ⟨v, r, q⟩ := h
  exact ⟨v, hR v r, fun _ => by rw [rfz_thw]; exact q⟩
theorem ask_pure {X : Cx} {σ : L2.St} {H : Hp} {Hc : Hp → Prop} {R : List V → Hp → V → Prop} {x : V} {k : Int} (h : ∀ g : Heap, FzOk X σ H g → Hc (frzH (CellOf X) g H) ∧ R [x] (frzH (CellOf X) g H) (.int k)) : KeyAsk X σ H Hc (spPure R) x k :=
  fun g z => ⟨(h g z).1, .int k, (h g z).2, rfl, rfl⟩
/-- what is not a locked thing stays when cells are thawed -/
theorem thw_keep {C : Addr → Prop} {H : Hp} {b : Addr} {o : HO} (l : Lkd C H) (e : H b = some o) (n : ∀ ob φ, o ≠ .frz ob (.ext φ)) : thw C H b = some o := (thw_out (l.not e n)).trans e
theorem PathAt.thw {K : PySem.W.Frag} {C : Addr → Prop} {H : Hp} {a : Addr} {ns : List Str} (p : PathAt K H a ns) (l : Lkd C H) : PathAt K (Rw.thw C H) a ns :=
  let ⟨dx, fs, tn, h1, h2, h3, h4⟩ := p.ex
  ⟨⟨dx, fs, tn, thw_keep l h1 (fun _ _ z => nomatch z), h2, h3, thw_keep l h4 (fun _ _ z => nomatch z)⟩, p.nd, p.two, p.le⟩
theorem PathAt.frz {K : PySem.W.Frag} {C : Addr → Prop} {h : Heap} {H : Hp} {a : Addr} {ns : List Str} (p : PathAt K H a ns) (l : Loose C h H) : PathAt K (frzH C h H) a ns :=
  let ⟨dx, fs, tn, h1, h2, h3, h4⟩ := p.ex
  ⟨⟨dx, fs, tn, l.frz h1, h2, h3, l.frz h4⟩, p.nd, p.two, p.le⟩
/-! ### rows -/
def kV1 (g : Str → Int) : V → Int
  | .str x => g x
  | _ => 0
def unS : V → Str
  | .str x => x
  | _ => ""
theorem unS_map (ns : List Str) : (ns.map V.str).map unS = ns := by
  rw [List.map_map]
  exact List.map_id' ns
theorem sorted_names {g : Str → Int} {ns : List Str} {ys : List V} (h : SortedBy (kV1 g) (ns.map V.str) ys) : ys = (sortK g ns).map V.str := by
  obtain ⟨h1, h2, h3⟩ := h
  have all : ∀ y ∈ ys, ∃ x, y = V.str x := fun y hy => by
    obtain ⟨x, hx, e⟩ := List.mem_map.mp (h1.mem_iff.mp hy)
    exact ⟨x, e.symm⟩
  obtain ⟨zs, ez⟩ : ∃ zs : List Str, ys = zs.map V.str := by
    refine ⟨ys.map unS, ?_⟩
    rw [List.map_map]
    conv => lhs; rw [← List.map_id ys]
    refine List.map_congr_left fun y hy => ?_
    obtain ⟨x, rfl⟩ := all y hy
    rfl
  subst ez
  have s : StSort g ns zs := by
    refine ⟨?_, ?_, fun c => ?_⟩
    · have q := h1.map unS
      rw [unS_map, unS_map] at q
      exact q
    · rw [List.pairwise_map] at h2
      exact h2
    · have q := congrArg (List.map unS) (h3 c)
      rw [List.filter_map, List.filter_map, unS_map, unS_map] at q
      exact q
  rw [s.eq]
/-- dict(zip(row, row[1:] + row[:1])) -/
def turnL (row : List Str) : List (Key × V) := (row.map fun x => (Sum.inr x : Key)).zip ((row.tail ++ row.take 1).map V.str)
theorem turn_len (row : List Str) : (row.tail ++ row.take 1).length = row.length := by
  rw [List.length_append, List.length_tail, List.length_take]
  omega
theorem valV_at {ks : List Str} {ys : List V} {x : Str} : ∀ {i : Nat}, ks.Nodup → ks[i]? = some x → ys[i]? ≠ none → valV ((ks.map fun x => (Sum.inr x : Key)).zip ys) (.inr x) = ys[i]? := by
  induction ks generalizing ys with
  | nil => intro i _ h; simp at h
  | cons k r ih =>
    intro i nd h hy
    cases ys with
    | nil => simp at hy
    | cons y t =>
      obtain ⟨n1, n2⟩ := List.nodup_cons.mp nd
      cases i with
      | zero =>
        have e : k = x := by simpa using h
        subst e
        exact valV_pos (p := (Sum.inr k, y)) rfl
      | succ i =>
        have h' : r[i]? = some x := by simpa using h
        have ne : ¬ (Sum.inr k : Key) = Sum.inr x := fun z => n1 (by rw [Sum.inr.inj z]; exact List.mem_of_getElem? h')
        show valV ((Sum.inr k, y) :: (r.map fun x => (Sum.inr x : Key)).zip t) (.inr x) = t[i]?
        rw [valV_neg ne]
        exact ih n2 h' (by simpa using hy)
theorem turn_get {row : List Str} {i : Nat} (h : i < row.length) : (row.tail ++ row.take 1)[i]? = some (row[(i + 1) % row.length]'(Nat.mod_lt _ (by omega))) := by
  by_cases e : i + 1 < row.length
  · rw [List.getElem?_append_left (by rw [List.length_tail]; omega), List.getElem?_tail, List.getElem?_eq_getElem e]
    congr 1
    simp only [Nat.mod_eq_of_lt e]
  · have e2 : i + 1 = row.length := by omega
    rw [List.getElem?_append_right (by rw [List.length_tail]; omega), List.length_tail]
    have e3 : i - (row.length - 1) = 0 := by omega
    rw [e3]
    have e4 : (i + 1) % row.length = 0 := by rw [e2, Nat.mod_self]
    simp only [e4]
    rw [List.getElem?_take]
    simp
theorem valV_turn {row : List Str} (nd : row.Nodup) {x : Str} (hx : x ∈ row) : valV (mergeK [] (turnL row)) (.inr x) = some (.str (nextIn row x)) := by
  obtain ⟨i, hi, e⟩ := List.getElem_of_mem hx
  have hz : (turnL row).map Prod.fst = row.map fun x => (Sum.inr x : Key) := by
    unfold turnL
    exact List.map_fst_zip (by rw [List.length_map, List.length_map, turn_len]; exact Nat.le_refl _)
  rw [mergeK_nodup, List.nil_append]
  · unfold turnL
    have hy : ((row.tail ++ row.take 1).map V.str)[i]? = some (.str (nextIn row x)) := by
      rw [List.getElem?_map, turn_get hi, ← e, next_get nd hi]
      rfl
    rw [valV_at nd (by rw [List.getElem?_eq_getElem hi, e]) (by rw [hy]; exact fun z => nomatch z), hy]
  · rw [List.nil_append, hz]
    exact List.pairwise_map.mpr (nd.imp fun h z => h (Sum.inr.inj z))
theorem cut_tail (xs : List V) (h : 1 ≤ xs.length) : cutV xs (some 1) none = xs.tail := by
  unfold cutV
  have e1 : HT.sIx xs.length 0 (some 1) = 1 := by unfold HT.sIx; simp; omega
  have e2 : HT.sIx xs.length xs.length none = xs.length := rfl
  rw [e1, e2, List.drop_one, List.take_of_length_le (by rw [List.length_tail]; exact Nat.le_refl _)]
theorem cut_one (xs : List V) (h : 1 ≤ xs.length) : cutV xs none (some 1) = xs.take 1 := by
  unfold cutV
  have e1 : HT.sIx xs.length 0 none = 0 := rfl
  have e2 : HT.sIx xs.length xs.length (some 1) = 1 := by unfold HT.sIx; simp; omega
  rw [e1, e2, List.drop_zero]
end Rw
set_option maxHeartbeats 4000000
/-! The walks: movers, least_mover, ahead_in. -/
namespace Rw
open PySem PySem.Spec PyProof.Rows L2 LamX NdefX
variable {P : Program} {w : World} {K : PySem.W.Frag} {mg : Str → Option Value} {base : Heap} {T : List NTab}
/-- the key of a row -/
def rMod (K : PySem.W.Frag) (a sa : Addr) (ns : List Str) (st : Str → Int) : List V → Hp → V → Prop := fun vs H v => ∃ x, vs = [.str x] ∧ x ∈ ns ∧ PathAt K H a ns ∧ H sa = some (.dK (dz ns st)) ∧ v = .int (st x % (ns.length : Int))
theorem rMod_len {a sa : Addr} {ns : List Str} {st : Str → Int} : ∀ vs H Q E, spPure (rMod K a sa ns st) vs H Q E → vs.length = ["name"].length := fun vs H Q E ⟨v, ⟨x, e, _⟩, _⟩ => by rw [e]; rfl
theorem rMod_link {a sa : Addr} {ns : List Str} {st : Str → Int} {f : Addr} {F : CF} {fr : List Str} {ws : List V} : ∀ vs H Q E, CfH f F fr ws H → spPure (rMod K a sa ns st) vs H Q E → SpIn F.cl H (spPure (rMod K a sa ns st)) vs Q E := fun vs H Q E c h =>
  link_pure (fun v ⟨x, e, hx, pa, hs, ev⟩ => ⟨x, e, hx, pa.thw c.cap.lkd, thw_keep c.cap.lkd hs (fun _ _ z => nomatch z), ev⟩) h
def spMovers (K : PySem.W.Frag) (T : List NTab) : Sp := fun vs H Q _ => ∃ (a sa l : Addr) (ns : List Str) (st lf : Str → Int), vs = [.ref a, .ref sa, .ref l] ∧ TabsN T H ∧ PathAt K H a ns ∧ H sa = some (.dK (dz ns st)) ∧ H l = some (.dK (dz ns lf)) ∧ ∀ H' p, Gr T [] H H' → H p = none → H' p = some (.lst ((moversF (ns.length : Int) ns st lf).map V.str)) → Q (.ref p) H'
theorem sc73 : FnScope ["path", "stand", "left", "row", "ahead", "name"] ["path", "stand", "left"] (defScope (top 73)) := ⟨rfl, rfl, rfl, by decide +kernel, rfl, by decide +kernel, by decide +kernel⟩
theorem ok_movers (M : Mo K mg) (Tbl : Tb K mg base T) : Gd P w K mg base 4 "movers" ["path", "stand", "left"] (spMovers K T) := by
  refine gd_ofT (M.df "movers" 73) sc73 (fun F => F.bindsN fun _ _ _ _ _ _ us hl => match us, hl with | [_, _, _], _ => rfl) (fun vs H Q E h => ?_) fun A outer s H vs Q E hr h => ⟨_, (pss_cons (ps_set (i := 3) sc73.nd rfl (Or.inl rfl) (pe_keyed (b := "sorted") (r := rSortKey _ 1) rfl (M.fr "sorted") (by decide +kernel) (by decide) (by decide) (fun pins s σ H vs zs us ws Q I r rz q => sorted_key_run (fun _ => rfl) (hr.mono (by decide)) I r rz q) (pe_fld (pv 0) rfl) (pe_lam (T := T) (Tbl.t "movers") rfl (Tbl.m "movers") (by kernel_rfl) Tbl.u (ndef_free (fr := ["path", "stand"]) (by kernel_rfl)) rfl))) (pss_cons (ps_set (i := 4) sc73.nd rfl (Or.inr rfl) (pe_dictZip rfl rfl (M.fr "dict") rfl (M.fr "zip") (by decide +kernel) (by decide +kernel) (pv 3) (pe_op op_cat (pe_slice sl_list (pv 3) (po_some pe_int) po_none) (pe_slice sl_list (pv 3) po_none (po_some pe_int))))) (pss_one (ps_ret (pe_lc (own := [("name", 5)]) rfl sc73.nd (pi_tup (pe_fld (pv 0) rfl)) (blkOk_by (by kernel_rfl)) (fun _ _ _ _ _ => (pg_name (i := 5) sc73.nd rfl (Or.inl rfl) (hf := Or.inr rfl))) (fun _ _ _ _ _ => (pts_one (pt_cmpR op_gt (pe_dget (hu_of hr) (pv 2) (pv 5) (fun _ _ => rfl)) (pe_dget (hu_of hr) (pv 2) (pe_dget (hu_of hr) (pv 4) (pv 5) (fun _ _ => rfl)) (fun _ _ => rfl)) (nomark _)))) (fun _ _ _ _ _ => (pv 5))))))), ?_⟩
  · obtain ⟨a, sa, l, ns, st, lf, rfl, _⟩ := h
    rfl
  · obtain ⟨a, sa, l, ns, st, lf, rfl, hT, pa, hsa, hl, q⟩ := h
    obtain ⟨dx, fs, tn, h1, h2, h3, ht⟩ := pa.ex
    refine ⟨_, rfl, a, _, dx, fs, _, rfl, h1, M.pcls, M.pnames, h2, hT, fun f c' H1 g1 f0 f1 fc1 => ?_⟩
    have hpos : (0 : Int) < (ns.length : Int) := by have := pa.two; omega
    refine with_F f1 fun F hF f1 => ?_
    refine ⟨tn, f, ns.map V.str, kV1 fun x => st x % (ns.length : Int), 1, CfH f F ["path", "stand"] [.ref a, .ref sa], 1, spPure (rMod K a sa ns st), rfl, rfl, .inr (.inl (.inl (g1.tup ht))), Nat.le_refl _, ?_, fun v hv => ?_, fun ys p hs hp => ?_⟩
    · subst hF
      refine fv_expr (N := ["name", "path", "stand"]) (ps := ["name"]) (spb := spPure (rMod K a sa ns st)) rfl (nscope_by (by kernel_rfl)) (fun _ _ _ us hl => match us, hl with | [_], _ => rfl) rMod_len rMod_link (fun A outer s H vs Q E hr hl h => ⟨_, (pe_op op_mod (pe_dget (hu_of hr) (pv 2) (pv 0) (fun _ _ => rfl)) (pe_fld (pv 1) rfl)), ?_⟩)
      obtain ⟨v, ⟨x, rfl, hx, pa, hs, rfl⟩, q⟩ := h
      obtain ⟨dx, fs, tn, h1, h2, h3, ht⟩ := pa.ex
      exact ⟨_, rfl, _, rfl, _, _, rfl, DGet_dz hs hx, _, rfl, a, _, dx, fs, _, rfl, h1, M.pcls, M.pmany, h3, _, _, rfl, rfl, hpos, q⟩
    · obtain ⟨x, rfl, hx⟩ := mem_str hv
      refine ask_pure fun g z => ⟨⟨z.loose.frz f1, ?_, ?_⟩, x, rfl, hx, (pa.gr g1).frz z.loose, z.loose.frz (g1.dK hsa), rfl⟩
      · subst hF
        exact z.loose.frz fc1
      · subst hF
        exact cap_frz (js := [0, 1]) z (by kernel_rfl) (free_cell (by kernel_rfl)) rfl rfl
    · rw [sorted_names hs, show sortK (fun x => st x % (ns.length : Int)) ns = rowOf (ns.length : Int) ns st from rfl]
      have rp := row_perm (ns.length : Int) ns st
      have hnd : (rowOf (ns.length : Int) ns st).Nodup := rp.nodup_iff.mpr pa.nd
      have hrl : (rowOf (ns.length : Int) ns st).length = ns.length := rp.length_eq
      have hmem : ∀ x, x ∈ ns → x ∈ rowOf (ns.length : Int) ns st := fun x hx => rp.mem_iff.mpr hx
      have hmem2 : ∀ x, x ∈ rowOf (ns.length : Int) ns st → x ∈ ns := fun x hx => rp.mem_iff.mp hx
      have emv : moversF (ns.length : Int) ns st lf = ns.filter fun x => decide (lf x > lf (nextIn (rowOf (ns.length : Int) ns st) x)) := rfl
      rw [emv] at q
      generalize rowOf (ns.length : Int) ns st = row at hnd hrl hmem hmem2 q
      have two := pa.two
      have le := pa.le
      have h1r : 1 ≤ (row.map V.str).length := by rw [List.length_map]; omega
      have g2 : Gr T [] H1 (upd H1 p (.lst (row.map V.str))) := .new hp
      refine ⟨_, rfl, _, rfl, _, rfl, p, row.map V.str, rfl, .inl (.inl upd_same), fun p1 hp1 => ?_⟩
      have n1 : p ≠ p1 := fun z => by rw [← z, upd_same] at hp1; cases hp1
      refine ⟨_, rfl, _, rfl, p, row.map V.str, rfl, .inl (.inl ((upd_ne n1).trans upd_same)), fun p2 hp2 => ?_⟩
      have n2 : p1 ≠ p2 := fun z => by rw [← z, upd_same] at hp2; cases hp2
      have n3 : p ≠ p2 := fun z => by rw [← z, upd_ne n1, upd_same] at hp2; cases hp2
      have g3 := (g2.trans (.new hp1)).trans (.new (o := .lst (cutV (row.map V.str) none (some 1))) hp2)
      refine ⟨p1, p2, _, _, rfl, rfl, (upd_ne n2).trans upd_same, upd_same, ?_, fun p3 hp3 => ?_⟩
      · have := cutV_length (row.map V.str) (some 1) none
        have := cutV_length (row.map V.str) none (some 1)
        rw [List.length_map] at *
        exact Nat.le_of_lt (small1000 (by omega))
      have ecut : cutV (row.map V.str) (some 1) none ++ cutV (row.map V.str) none (some 1) = (row.tail ++ row.take 1).map V.str := by
        rw [cut_tail _ h1r, cut_one _ h1r, List.map_append, List.map_tail, List.map_take]
      rw [ecut]
      have g4 := g3.trans (.new (o := .lst ((row.tail ++ row.take 1).map V.str)) hp3)
      have hp4 : upd (upd (upd (upd H1 p (.lst (row.map V.str))) p1 (.lst (cutV (row.map V.str) (some 1) none))) p2 (.lst (cutV (row.map V.str) none (some 1)))) p3 (.lst ((row.tail ++ row.take 1).map V.str)) p = some (.lst (row.map V.str)) := by
        have n4 : p ≠ p3 := fun z => by rw [← z, upd_ne n3, upd_ne n1, upd_same] at hp3; cases hp3
        rw [upd_ne n4, upd_ne n3, upd_ne n1, upd_same]
      have hp33 : upd (upd (upd (upd H1 p (.lst (row.map V.str))) p1 (.lst (cutV (row.map V.str) (some 1) none))) p2 (.lst (cutV (row.map V.str) none (some 1)))) p3 (.lst ((row.tail ++ row.take 1).map V.str)) p3 = some (.lst ((row.tail ++ row.take 1).map V.str)) := upd_same
      generalize upd (upd (upd (upd H1 p (.lst (row.map V.str))) p1 (.lst (cutV (row.map V.str) (some 1) none))) p2 (.lst (cutV (row.map V.str) none (some 1)))) p3 (.lst ((row.tail ++ row.take 1).map V.str)) = H2 at g4 hp4 hp33
      have ekeys : row.map V.str = (row.map fun x => (Sum.inr x : Key)).map kV := by
        rw [List.map_map]
        rfl
      refine ⟨p, p3, row.map fun x => (Sum.inr x : Key), (row.tail ++ row.take 1).map V.str, rfl, .inl (.inl (.inl (by rw [hp4, ekeys]))), .inl (.inl (.inl hp33)), by rw [List.length_map, List.length_map, turn_len], fun p5 hp5 => ?_⟩
      -- the comprehension
      have g5 := (g1.trans g4).trans (.new (T := T) (B := []) (o := .dK (mergeK [] (turnL row))) hp5)
      have hd5 : upd H2 p5 (.dK (mergeK [] (turnL row))) p5 = some (.dK (mergeK [] (turnL row))) := upd_same
      refine ⟨_, rfl, a, _, dx, fs, _, rfl, g5.ins h1, M.pcls, M.pnames, h2, tn, rfl, ⟨_, .inl (.inl (g5.tup ht))⟩, fun D hD => ?_⟩
      refine lc_same (T := T) walk_tup (pV fun x => decide (lf x > lf (nextIn row x))) (fun v => v) hD (by rw [List.length_map]; omega) (fun H' g => .inl (.inl (g.tup (g5.tup ht)))) (fun v hv H' g Ky Kn y n => ?_) fun H' g6 hD' => ?_
      · obtain ⟨x, rfl, hx⟩ := mem_str hv
        have gl := (g5.trans g).dK hl
        have ga := g.dK hd5
        refine ⟨rfl, _, rfl, _, rfl, _, _, rfl, DGet_dz gl hx, _, rfl, _, rfl, _, rfl, _, _, rfl, .inl ⟨_, .inr x, .inl ga, rfl, (valV_turn hnd (hmem x hx)).symm⟩, _, _, rfl, DGet_dz gl (hmem2 _ (next_mem (hmem x hx))), _, _, rfl, rfl, _, rfl, ite2 (fun z => ?_) fun z => ?_⟩
        · exact ⟨_, rfl, y z⟩
        · exact n (by cases e : decide (lf x > lf (nextIn row x)) with | true => exact absurd e z | false => exact e)
      · refine q H' D (g5.trans g6) (g5.mono _ hD) ?_
        rw [hD']
        congr 2
        rw [List.map_id', List.filter_map]
        rfl
/-! ### least_mover -/
def rVal (l : Addr) (ns : List Str) (lf : Str → Int) : List V → Hp → V → Prop := fun vs H v => ∃ x, vs = [.str x] ∧ x ∈ ns ∧ H l = some (.dK (dz ns lf)) ∧ v = .int (lf x)
theorem rVal_len {l : Addr} {ns : List Str} {lf : Str → Int} : ∀ vs H Q E, spPure (rVal l ns lf) vs H Q E → vs.length = ["name"].length := fun vs H Q E ⟨v, ⟨x, e, _⟩, _⟩ => by rw [e]; rfl
theorem rVal_link {l : Addr} {ns : List Str} {lf : Str → Int} {f : Addr} {F : CF} {fr : List Str} {ws : List V} : ∀ vs H Q E, CfH f F fr ws H → spPure (rVal l ns lf) vs H Q E → SpIn F.cl H (spPure (rVal l ns lf)) vs Q E := fun vs H Q E c h =>
  link_pure (fun v ⟨x, e, hx, hs, ev⟩ => ⟨x, e, hx, thw_keep c.cap.lkd hs (fun _ _ z => nomatch z), ev⟩) h
theorem amin_first {lf : Str → Int} : ∀ (x : Str) (r : List Str) (i : Nat) (y : Str), (x :: r)[i]? = some y → (∀ (j : Nat) (z : Str), (x :: r)[j]? = some z → lf y ≤ lf z ∧ (j < i → lf y < lf z)) → y = amin lf x r
  | x, [], i, y, e, h => by
    cases i with
    | zero => exact (Option.some.inj e).symm
    | succ i => simp at e
  | x, z :: r, i, y, e, h => by
    unfold amin
    cases i with
    | zero =>
      have ey : x = y := Option.some.inj e
      subst ey
      have h1 := (h 1 z rfl).1
      rw [if_neg (by omega)]
      exact amin_first x r 0 x rfl fun j u hj => ⟨by
        cases j with
        | zero => rw [← Option.some.inj hj]; exact Int.le_refl _
        | succ j => exact (h (j + 2) u hj).1, fun q => absurd q (Nat.not_lt_zero _)⟩
    | succ i =>
      have e' : (z :: r)[i]? = some y := e
      have hx := h 0 x rfl
      have hx2 := hx.2 (Nat.succ_pos i)
      by_cases c : lf z < lf x
      · rw [if_pos c]
        exact amin_first z r i y e' fun j u hj => ⟨(h (j + 1) u hj).1, fun q => (h (j + 1) u hj).2 (by omega)⟩
      · rw [if_neg c]
        cases i with
        | zero =>
          have ey : z = y := Option.some.inj e'
          subst ey
          omega
        | succ i =>
          refine amin_first x r (i + 1) y e' fun j u hj => ?_
          cases j with
          | zero => rw [← Option.some.inj hj]; exact ⟨by omega, fun _ => hx2⟩
          | succ j => exact ⟨(h (j + 2) u hj).1, fun q => (h (j + 2) u hj).2 (by omega)⟩
def spLeast (K : PySem.W.Frag) (T : List NTab) : Sp := fun vs H Q _ => ∃ (a sa l : Addr) (ns : List Str) (st lf : Str → Int) (one : Str), vs = [.ref a, .ref sa, .ref l] ∧ TabsN T H ∧ PathAt K H a ns ∧ H sa = some (.dK (dz ns st)) ∧ H l = some (.dK (dz ns lf)) ∧ leastF (ns.length : Int) ns st lf = some one ∧ ∀ H', Gr T [] H H' → Q (.str one) H'
theorem sc74 : FnScope ["path", "stand", "left"] ["path", "stand", "left"] (defScope (top 74)) := ⟨rfl, rfl, rfl, by decide +kernel, rfl, by decide +kernel, by decide +kernel⟩
theorem ok_least_mover (M : Mo K mg) (Tbl : Tb K mg base T) : Gd P w K mg base 5 "least_mover" ["path", "stand", "left"] (spLeast K T) := by
  refine gd_ofT (M.df "least_mover" 74) sc74 (fun F => F.bindsN fun _ _ _ _ _ _ us hl => match us, hl with | [_, _, _], _ => rfl) (fun vs H Q E h => ?_) fun A outer s H vs Q E hr h => ⟨_, (pss_one (ps_ret (pe_keyed (b := "min") (r := rMinKey _ 1) rfl (M.fr "min") (by decide +kernel) (by decide) (by decide) (fun pins s σ H vs zs us ws Q I r rz q => min_key_run (fun _ => rfl) rfl (hr.mono (by decide)) I r rz q) (pe_gd (ok_movers M Tbl) hr (by decide) rfl passL (pa_cons (pv 0) (pa_cons (pv 1) (pa_cons (pv 2) pa_nil)))) (pe_lam (T := T) (Tbl.t "least_mover") rfl (Tbl.m "least_mover") (by kernel_rfl) Tbl.u (ndef_free (fr := ["left"]) (by kernel_rfl)) rfl)))), ?_⟩
  · obtain ⟨a, sa, l, ns, st, lf, one, rfl, _⟩ := h
    rfl
  · obtain ⟨a, sa, l, ns, st, lf, one, rfl, hT, pa, hsa, hl, el, q⟩ := h
    refine ⟨_, rfl, _, rfl, _, rfl, a, sa, l, ns, st, lf, rfl, hT, pa, hsa, hl, fun H0 p g0 hp0 hp => ?_⟩
    refine ⟨g0.tab hT, fun f c' H1 g1 f0 f1 fc1 => ?_⟩
    refine with_F f1 fun F hF f1 => ?_
    have g := g0.trans g1
    have hsub : ∀ x, x ∈ moversF (ns.length : Int) ns st lf → x ∈ ns := fun x hx => (List.mem_filter.mp hx).1
    unfold leastF at el
    cases em : moversF (ns.length : Int) ns st lf with
    | nil =>
      rw [em] at el
      cases el
    | cons m r =>
      rw [em] at el hp hsub
      have eone : one = amin lf m r := (Option.some.inj el).symm
      refine ⟨p, f, (m :: r).map V.str, kV1 lf, 1, CfH f F ["left"] [.ref l], 1, spPure (rVal l ns lf), rfl, rfl, .inl (.inl (g1.lst hp (fun z => nomatch z))), List.cons_ne_nil _ _, Nat.le_refl _, ?_, fun v hv => ?_, fun i x hx hmin => ?_⟩
      · subst hF
        refine fv_expr (N := ["name", "left"]) (ps := ["name"]) (spb := spPure (rVal l ns lf)) rfl (nscope_by (by kernel_rfl)) (fun _ _ _ us hl => match us, hl with | [_], _ => rfl) rVal_len rVal_link (fun A outer s H vs Q E hr hl h => ⟨_, (pe_dget (hu_of hr) (pv 1) (pv 0) (fun _ _ => rfl)), ?_⟩)
        obtain ⟨v, ⟨x, rfl, hx, hs, rfl⟩, q⟩ := h
        exact ⟨_, rfl, _, rfl, _, _, rfl, DGet_dz hs hx, q⟩
      · obtain ⟨x, rfl, hx⟩ := mem_str hv
        refine ask_pure fun h z => ⟨⟨z.loose.frz f1, ?_, ?_⟩, x, rfl, hsub x hx, z.loose.frz (g.dK hl), rfl⟩
        · subst hF
          exact z.loose.frz fc1
        · subst hF
          exact cap_frz (js := [2]) z (by kernel_rfl) (free_cell (by kernel_rfl)) rfl rfl
      · obtain ⟨y, rfl, hy⟩ := mem_str (List.mem_of_getElem? hx)
        have hx' : (m :: r)[i]? = some y := by
          rw [List.getElem?_map] at hx
          obtain ⟨y', h1, h2⟩ := Option.map_eq_some_iff.mp hx
          cases h2
          exact h1
        have ey : y = amin lf m r := amin_first m r i y hx' fun j z hz => hmin j (.str z) (by rw [List.getElem?_map, hz]; rfl)
        rw [ey, ← eone]
        exact q H1 g
/-! ### ahead_in -/
def spAhead (K : PySem.W.Frag) (T : List NTab) : Sp := fun vs H Q _ => ∃ (a sa : Addr) (ns : List Str) (st : Str → Int) (x : Str), vs = [.ref a, .ref sa, .str x] ∧ TabsN T H ∧ PathAt K H a ns ∧ H sa = some (.dK (dz ns st)) ∧ x ∈ ns ∧ ∀ H', Gr T [] H H' → Q (.str (nextIn (rowOf (ns.length : Int) ns st) x)) H'
theorem sc75 : FnScope ["path", "stand", "walker", "row"] ["path", "stand", "walker"] (defScope (top 75)) := ⟨rfl, rfl, rfl, by decide +kernel, rfl, by decide +kernel, by decide +kernel⟩
theorem ok_ahead_in (M : Mo K mg) (Tbl : Tb K mg base T) : Gd P w K mg base 4 "ahead_in" ["path", "stand", "walker"] (spAhead K T) := by
  refine gd_ofT (M.df "ahead_in" 75) sc75 (fun F => F.bindsN fun _ _ _ _ _ _ us hl => match us, hl with | [_, _, _], _ => rfl) (fun vs H Q E h => ?_) fun A outer s H vs Q E hr h => ⟨_, (pss_cons (ps_set (i := 3) sc75.nd rfl (Or.inl rfl) (pe_keyed (b := "sorted") (r := rSortKey _ 1) rfl (M.fr "sorted") (by decide +kernel) (by decide) (by decide) (fun pins s σ H vs zs us ws Q I r rz q => sorted_key_run (fun _ => rfl) (hr.mono (by decide)) I r rz q) (pe_fld (pv 0) rfl) (pe_lam (T := T) (Tbl.t "ahead_in") rfl (Tbl.m "ahead_in") (by kernel_rfl) Tbl.u (ndef_free (fr := ["path", "stand"]) (by kernel_rfl)) rfl))) (pss_one (ps_ret (pe_ix ix_list (pv 3) (pe_op op_mod (pe_op op_add (pe_bm PySem.F.plainAttrs_list PySem.F.slot_list_index PySem.F.type_list_index mt_index (pv 3) (pa_cons (pv 2) pa_nil)) pe_int) (pe_fld (pv 0) rfl)) (fun _ _ => rfl))))), ?_⟩
  · obtain ⟨a, sa, ns, st, x, rfl, _⟩ := h
    rfl
  · obtain ⟨a, sa, ns, st, x0, rfl, hT, pa, hsa, hx0, q⟩ := h
    obtain ⟨dx, fs, tn, h1, h2, h3, ht⟩ := pa.ex
    refine ⟨_, rfl, a, _, dx, fs, _, rfl, h1, M.pcls, M.pnames, h2, hT, fun f c' H1 g1 f0 f1 fc1 => ?_⟩
    have hpos : (0 : Int) < (ns.length : Int) := by have := pa.two; omega
    refine with_F f1 fun F hF f1 => ?_
    refine ⟨tn, f, ns.map V.str, kV1 fun x => st x % (ns.length : Int), 1, CfH f F ["path", "stand"] [.ref a, .ref sa], 1, spPure (rMod K a sa ns st), rfl, rfl, .inr (.inl (.inl (g1.tup ht))), Nat.le_refl _, ?_, fun v hv => ?_, fun ys p hs hp => ?_⟩
    · subst hF
      refine fv_expr (N := ["name", "path", "stand"]) (ps := ["name"]) (spb := spPure (rMod K a sa ns st)) rfl (nscope_by (by kernel_rfl)) (fun _ _ _ us hl => match us, hl with | [_], _ => rfl) rMod_len rMod_link (fun A outer s H vs Q E hr hl h => ⟨_, (pe_op op_mod (pe_dget (hu_of hr) (pv 2) (pv 0) (fun _ _ => rfl)) (pe_fld (pv 1) rfl)), ?_⟩)
      obtain ⟨v, ⟨x, rfl, hx, pa, hs, rfl⟩, q⟩ := h
      obtain ⟨dx, fs, tn, h1, h2, h3, ht⟩ := pa.ex
      exact ⟨_, rfl, _, rfl, _, _, rfl, DGet_dz hs hx, _, rfl, a, _, dx, fs, _, rfl, h1, M.pcls, M.pmany, h3, _, _, rfl, rfl, hpos, q⟩
    · obtain ⟨x, rfl, hx⟩ := mem_str hv
      refine ask_pure fun g z => ⟨⟨z.loose.frz f1, ?_, ?_⟩, x, rfl, hx, (pa.gr g1).frz z.loose, z.loose.frz (g1.dK hsa), rfl⟩
      · subst hF
        exact z.loose.frz fc1
      · subst hF
        exact cap_frz (js := [0, 1]) z (by kernel_rfl) (free_cell (by kernel_rfl)) rfl rfl
    · rw [sorted_names hs, show sortK (fun x => st x % (ns.length : Int)) ns = rowOf (ns.length : Int) ns st from rfl]
      have rp := row_perm (ns.length : Int) ns st
      have hnd : (rowOf (ns.length : Int) ns st).Nodup := rp.nodup_iff.mpr pa.nd
      have hrl : (rowOf (ns.length : Int) ns st).length = ns.length := rp.length_eq
      have hx1 : x0 ∈ rowOf (ns.length : Int) ns st := rp.mem_iff.mpr hx0
      generalize rowOf (ns.length : Int) ns st = row at hnd hrl hx1 q
      have g2 := g1.trans (.new (T := T) (B := []) (o := .lst (row.map V.str)) hp)
      obtain ⟨i, hi, e⟩ := List.getElem_of_mem hx1
      have two := pa.two
      have hs3 : SqL K (upd H1 p (.lst (row.map V.str))) p (row.map V.str) := .inl (.inl upd_same)
      refine ⟨_, rfl, _, rfl, .inl ⟨rfl, _, hs3⟩, _, rfl, p, row.map V.str, .str x0, i, .str x0, rfl, rfl, hs3, rfl, ?_, ?_, ?_, fun m z' hm hz => ?_, _, _, rfl, rfl, _, rfl, a, _, dx, fs, _, rfl, (g2.ins h1), M.pcls, M.pmany, h3, _, _, rfl, rfl, hpos, p, row.map V.str, _, .str (nextIn row x0), rfl, rfl, hs3, ?_, q _ g2⟩
      · rw [List.all_map]
        exact List.all_eq_true.mpr fun _ _ => rfl
      · rw [List.getElem?_map, List.getElem?_eq_getElem hi, e]
        rfl
      · show (x0 == x0) = true
        exact beq_self_eq_true x0
      · rw [List.getElem?_map] at hz
        obtain ⟨y, h1, h2⟩ := Option.map_eq_some_iff.mp hz
        cases h2
        show (y == x0) = false
        obtain ⟨hm2, ey⟩ := List.getElem?_eq_some_iff.mp h1
        have ne : y ≠ x0 := fun z => by
          rw [← ey, ← e] at z
          have := (List.getElem_inj hnd).mp z
          omega
        simpa using ne
      · have er : ((i : Int) + 1) % (ns.length : Int) = (((i + 1) % row.length : Nat) : Int) := by
          rw [hrl, Int.natCast_emod, Int.natCast_add]
          rfl
        show atI (row.map V.str) (((i : Int) + 1) % (ns.length : Int)) = _
        rw [er]
        have hlt : (i + 1) % row.length < row.length := Nat.mod_lt _ (by omega)
        unfold atI ixN
        rw [if_pos (by omega), if_pos (by rw [List.length_map]; omega)]
        show (row.map V.str)[(((i + 1) % row.length : Nat) : Int).toNat]? = _
        rw [Int.toNat_natCast, List.getElem?_map, List.getElem?_eq_getElem hlt, ← e, next_get hnd hi]
        rfl
end Rw
set_option maxHeartbeats 4000000
/-! The walks: stand_from. -/
namespace Rw
open PySem PySem.Spec PyProof.Rows L2 LamX NdefX
variable {P : Program} {w : World} {K : PySem.W.Frag} {mg : Str → Option Value} {base : Heap} {T : List NTab}
def spStandFrom (K : PySem.W.Frag) (T : List NTab) : Sp := fun vs H Q _ => ∃ (a nu : Addr) (ns : List Str) (lf : Str → Int), vs = [.ref a, .ref nu] ∧ TabsN T H ∧ PathAt K H a ns ∧ H nu = some (.dK (dz ns lf)) ∧ LfOk ns lf ∧ sumF ns lf < 2 ^ 60 ∧
  ∀ H' p, Gr T [] H H' → H p = none → H' p = some (.dK (dz ns (standN ns (fun x => (ns.idxOf x : Nat)) lf))) → Q (.ref p) H'
theorem sc78 : FnScope ["path", "numbers", "stand", "left", "laps", "many", "more", "less", "one", "name"] ["path", "numbers"] (defScope (top 78)) := ⟨rfl, rfl, rfl, by decide +kernel, rfl, by decide +kernel, by decide +kernel⟩
theorem ok_stand_from (M : Mo K mg) (Tbl : Tb K mg base T) : Gd P w K mg base 6 "stand_from" ["path", "numbers"] (spStandFrom K T) := by
  refine gd_of (M.df "stand_from" 78) sc78 (fun F => F.bindsN fun _ _ _ _ _ _ us hl => match us, hl with | [_, _], _ => rfl) (fun vs H Q E h => ?_) fun cdv A outer s H vs Q E hr h => ⟨_, (pss_cons (ps_asg (pe_tup (pa_cons (pe_gd (ok_first_places (T := T) M) hr (by decide) rfl passL (pa_cons (pv 0) pa_nil)) (pa_cons (pe_callTy call_dictD rfl (M.fr "dict") (by decide +kernel) (pa_cons (pv 1) pa_nil)) pa_nil))) (pg_tup rfl (pgs_cons (pg_name (i := 2) sc78.nd rfl (Or.inr rfl)) (pgs_cons (pg_name (i := 3) sc78.nd rfl (Or.inr rfl)) pgs_nil)))) (pss_cons (ps_while (passes_of rfl) (pt_val (pe_anyVals rfl (pv 3) rfl (M.fr "any") (by decide +kernel))) (pss_cons (ps_asg (pe_gd (ok_laps_in (T := T) M) hr (by decide) rfl passL (pa_cons (pv 0) (pa_cons (pv 3) pa_nil))) (pg_tup rfl (pgs_cons (pg_name (i := 4) sc78.nd rfl (Or.inl rfl)) (pgs_cons (pg_name (i := 5) sc78.nd rfl (Or.inl rfl)) pgs_nil)))) (pss_one (ps_if (pt_cmpR op_gt (pv 4) pe_int (nomark _)) (pss_cons (ps_asg (pe_tup (pa_cons (pe_op op_mul (pv 4) (pv 5)) (pa_cons (pe_op op_mul (pv 4) (pe_op op_sub (pe_fld (pv 0) rfl) (pv 5))) pa_nil))) (pg_tup rfl (pgs_cons (pg_name (i := 6) sc78.nd rfl (Or.inr rfl)) (pgs_cons (pg_name (i := 7) sc78.nd rfl (Or.inr rfl)) pgs_nil)))) (pss_cons (ps_set (i := 2) sc78.nd rfl (Or.inr rfl) (pe_dc (own := [("name", 9)]) rfl sc78.nd (pi_tup (pe_fld (pv 0) rfl)) (blkOk_by (by kernel_rfl)) (fun _ _ _ _ _ => (pg_name (i := 9) sc78.nd rfl (Or.inl rfl) (hf := Or.inr rfl))) (fun _ _ _ _ _ => pts_nil) (fun _ _ _ _ _ => (pv 9)) (fun _ _ _ _ _ => (pe_ifExp (pt_cmpR op_gt (pe_dget (hu_of hr) (pv 3) (pv 9) (fun _ _ => rfl)) pe_int (nomark _)) (pe_op op_add (pe_dget (hu_of hr) (pv 2) (pv 9) (fun _ _ => rfl)) (pv 6)) (pe_op op_sub (pe_dget (hu_of hr) (pv 2) (pv 9) (fun _ _ => rfl)) (pv 7)))))) (pss_one (ps_set (i := 3) sc78.nd rfl (Or.inr rfl) (pe_gd (ok_less_laps (T := T) M) hr (by decide) rfl passL (pa_cons (pv 0) (pa_cons (pv 3) (pa_cons (pv 4) (pa_cons (pv 5) pa_nil))))))))) (pss_cons (ps_set (i := 8) sc78.nd rfl (Or.inl rfl) (pe_gd (ok_least_mover M Tbl) hr (by decide) rfl passL (pa_cons (pv 0) (pa_cons (pv 2) (pa_cons (pv 3) pa_nil))))) (pss_cons (ps_set (i := 2) sc78.nd rfl (Or.inr rfl) (pe_gd (ok_behind_overtaking (T := T) M) hr (by decide) rfl passL (pa_cons (pv 2) (pa_cons (pv 8) (pa_cons (pe_gd (ok_ahead_in M Tbl) hr (by decide) rfl passL (pa_cons (pv 0) (pa_cons (pv 2) (pa_cons (pv 8) pa_nil)))) pa_nil))))) (pss_one (ps_dput (hu_of hr) (pv 3) (pv 8) (pe_op op_sub (pe_dget (hu_of hr) (pv 3) (pv 8) (fun _ _ => rfl)) pe_int) (by rfl))))))))) (pss_one (ps_ret (pv 2))))), ?_⟩
  · obtain ⟨a, nu, ns, lf, rfl, _⟩ := h
    rfl
  · obtain ⟨a, nu, ns, lf, rfl, hT, pa, hnu, ok, bd, q⟩ := h
    obtain ⟨dx, fs, tn, h1, h2, h3, ht⟩ := pa.ex
    generalize hR : standN ns (fun x => ((ns.idxOf x : Nat) : Int)) lf = R at q
    have npos : (1 : Int) ≤ (ns.length : Int) := by have := pa.two; omega
    have nle : (ns.length : Int) ≤ 22 := by have := pa.le; omega
    refine ⟨_, rfl, a, ns, rfl, pa, fun H1 sa0 g1 hsa0 hsa => ⟨_, rfl, nu, _, rfl, .inl (g1.dK hnu), fun la0 hla0 => ⟨szl, fun t0 ht0 => ⟨t0, _, rfl, .inl (.inl upd_same), rfl, _, _, rfl, _, _, rfl, rfl, ?_⟩⟩⟩⟩
    refine ⟨fun n σ H' => Gr T [] H H' ∧ ∃ (sa la : Addr) (st lf : Str → Int) (z4 z5 z6 z7 z8 z9 : Option V), σ = [some (.ref a), some (.ref nu), some (.ref sa), some (.ref la), z4, z5, z6, z7, z8, z9] ∧ H sa = none ∧ H la = none ∧ H' sa = some (.dK (dz ns st)) ∧ H' la = some (.dK (dz ns lf)) ∧ sa ≠ la ∧ LfOk ns lf ∧ sumF ns lf < 2 ^ 60 ∧ standN ns st lf = R ∧ n = (sumF ns lf).toNat, ⟨(sumF ns lf).toNat, ?_⟩, ?_⟩
    · have n1 : sa0 ≠ la0 := fun z => by rw [← z, hsa] at hla0; cases hla0
      have n2 : la0 ≠ t0 := fun z => by rw [← z, upd_same] at ht0; cases ht0
      have n3 : sa0 ≠ t0 := fun z => by rw [← z, upd_ne n1, hsa] at ht0; cases ht0
      exact ⟨(g1.trans (.new hla0)).trans (.new ht0), sa0, la0, _, lf, none, none, none, none, none, none, rfl, hsa0, g1.mono _ hla0, (upd_ne n3).trans ((upd_ne n1).trans hsa), (upd_ne n2).trans upd_same, n1, ok, bd, hR, rfl⟩
    clear hR ok bd hnu
    rintro n σ H2 ⟨g2, sa, la, st, lf, z4, z5, z6, z7, z8, z9, rfl, sa0, la0, hsa, hla, nsl, ok, bd, hR, rfl⟩
    refine ⟨_, rfl, la, _, rfl, hla, ns.map lf, vsOf_dz ns lf, _, rfl, ite2 (fun z => ?_) fun z => ?_⟩
    case _ =>
      have hex : ∃ x ∈ ns, lf x ≠ 0 := by
        obtain ⟨v, hv, e⟩ := List.any_eq_true.mp z
        obtain ⟨x, hx, ex⟩ := List.mem_map.mp hv
        exact ⟨x, hx, by rw [ex]; simpa using e⟩
      obtain ⟨p, ep, so⟩ := step_ok (st := st) pa.nd ok hex
      have hN := standN_step pa.nd ok hex ep
      have s0 := sumF_nn so.ok.nn
      have s1 := so.dn
      refine ⟨fun σ' H' => ∃ m', m' < (sumF ns lf).toNat ∧ (Gr T [] H H' ∧ ∃ (sa la : Addr) (st lf : Str → Int) (z4 z5 z6 z7 z8 z9 : Option V), σ' = [some (.ref a), some (.ref nu), some (.ref sa), some (.ref la), z4, z5, z6, z7, z8, z9] ∧ H sa = none ∧ H la = none ∧ H' sa = some (.dK (dz ns st)) ∧ H' la = some (.dK (dz ns lf)) ∧ sa ≠ la ∧ LfOk ns lf ∧ sumF ns lf < 2 ^ 60 ∧ standN ns st lf = R ∧ m' = (sumF ns lf).toNat), fun σ' H' y => y, ?_⟩
      refine ⟨_, rfl, _, rfl, a, la, ns, lf, rfl, pa.gr g2, hla, ok, fun H4 t4 g4 ht40 ht4 => ?_⟩
      have g24 := g2.trans g4
      refine ⟨t4, _, rfl, .inl (.inl ht4), rfl, _, _, rfl, _, _, rfl, rfl, _, rfl, _, _, rfl, rfl, _, rfl, ite2 (fun y => ?_) fun y => ?_⟩
      · have y' : (lapsF ns lf).1 > 0 := of_decide_eq_true y
        obtain ⟨x0, r0, e0, m1, ml, y0, hy0, py0, ey0⟩ := lapsF_at ok hex
        have el : lapsF ns lf = (lmin x0 r0 / ((ns.length : Int) - (r0.length + 1)), (ns.length : Int) - (r0.length + 1)) := by
          unfold lapsF
          rw [e0]
        have hb1 : (lapsF ns lf).1 < 2 ^ 64 := by
          rw [el]
          show lmin x0 r0 / ((ns.length : Int) - (r0.length + 1)) < 2 ^ 64
          have q1 := Int.ediv_le_self (a := lmin x0 r0) ((ns.length : Int) - (r0.length + 1)) (by omega)
          have q2 := sumF_mem ok.nn hy0
          omega
        have ep' : p = (fun x => if lf x > 0 then st x + (lapsF ns lf).1 * (lapsF ns lf).2 else st x - (lapsF ns lf).1 * ((ns.length : Int) - (lapsF ns lf).2), fun x => if lf x > 0 then lf x - (lapsF ns lf).1 * (lapsF ns lf).2 else 0) := by
          unfold stepF at ep
          dsimp only at ep
          rw [if_pos y'] at ep
          exact (Option.some.inj ep).symm
        generalize (lapsF ns lf).1 = L at y y' hb1 ep'
        generalize (lapsF ns lf).2 = mm at ep'
        refine ⟨_, rfl, _, rfl, _, _, rfl, rfl, .inl ⟨by omega, by omega⟩, _, rfl, _, rfl, a, _, dx, fs, _, rfl, (g24.ins h1), M.pcls, M.pmany, h3, _, rfl, _, _, rfl, rfl, _, _, rfl, rfl, .inl ⟨by omega, by omega⟩, szl, fun t5 ht5 => ⟨t5, _, rfl, .inl (.inl upd_same), rfl, _, _, rfl, _, _, rfl, rfl, ?_⟩⟩
        have g25 := g24.trans (.new (T := T) (B := []) (o := .tup [V.int (L * mm), V.int (L * ((ns.length : Int) - mm))]) ht5)
        have hsa5 := (Gr.new (T := T) (B := []) (o := .tup [V.int (L * mm), V.int (L * ((ns.length : Int) - mm))]) ht5).dK (g4.dK hsa)
        have hla5 := (Gr.new (T := T) (B := []) (o := .tup [V.int (L * mm), V.int (L * ((ns.length : Int) - mm))]) ht5).dK (g4.dK hla)
        refine ⟨_, rfl, a, _, dx, fs, _, rfl, (g25.ins h1), M.pcls, M.pnames, h2, tn, rfl, ⟨_, .inl (.inl (g25.tup ht))⟩, fun D hD => ?_⟩
        refine dc_same (T := T) walk_tup (fun x => if lf x > 0 then st x + L * mm else st x - L * ((ns.length : Int) - mm)) pa.nd hD (by omega) (fun H' g => .inl (.inl (g.tup (g25.tup ht)))) (fun x hx H' g Ky Kn k => ?_) fun H6 g6 hD6 => ?_
        · have dl := DGet_dz (g.dK hla5) hx
          have ds := DGet_dz (g.dK hsa5) hx
          refine ⟨rfl, _, rfl, _, rfl, _, rfl, _, _, rfl, dl, _, _, rfl, rfl, _, rfl, ite2 (fun c => ?_) fun c => ?_⟩
          · rw [if_pos (of_decide_eq_true c)] at k
            exact ⟨_, rfl, _, rfl, _, _, rfl, ds, _, rfl, _, _, rfl, rfl, k⟩
          · rw [if_neg (fun e => c (decide_eq_true e))] at k
            exact ⟨_, rfl, _, rfl, _, _, rfl, ds, _, rfl, _, _, rfl, rfl, k⟩
        · have g26 := g25.trans g6
          have hla6 := g6.dK hla5
          refine ⟨_, rfl, _, rfl, _, rfl, _, rfl, a, la, ns, lf, L, mm, rfl, pa.gr g26, hla6, ⟨by omega, by omega⟩, fun H7 p7 g7 hp70 hp7 => ?_⟩
          subst ep'
          dsimp only at s0 s1
          refine ⟨_, ?_, g26.trans g7, D, p7, _, _, _, _, _, _, _, _, rfl, g25.mono _ hD, g26.mono _ hp70, g7.dK hD6, hp7, ?_, so.ok, ?_, ?_, rfl⟩
          · omega
          · intro e
            rw [← e, hD6] at hp70
            cases hp70
          · omega
          · rw [← hN]
            exact hR
      · have y' : ¬ (lapsF ns lf).1 > 0 := fun e => y (decide_eq_true e)
        unfold stepF at ep
        dsimp only at ep
        rw [if_neg y'] at ep
        cases el : leastF (ns.length : Int) ns st lf with
        | none =>
          rw [el] at ep
          cases ep
        | some one =>
          rw [el] at ep
          have ep' : p = (behindF st one (nextIn (rowOf (ns.length : Int) ns st) one), upF lf one (lf one - 1)) := (Option.some.inj ep).symm
          have h1n : one ∈ ns := by
            unfold leastF at el
            cases em : moversF (ns.length : Int) ns st lf with
            | nil =>
              rw [em] at el
              cases el
            | cons m r =>
              rw [em] at el
              have e1 : amin lf m r = one := Option.some.inj el
              have hm : one ∈ moversF (ns.length : Int) ns st lf := by
                rw [em, ← e1]
                exact amin_mem lf m r
              exact (List.mem_filter.mp hm).1
          have hnx : nextIn (rowOf (ns.length : Int) ns st) one ∈ ns := (row_perm _ ns st).mem_iff.mp (next_mem ((row_perm _ ns st).mem_iff.mpr h1n))
          have hsa4 := g4.dK hsa
          have hla4 := g4.dK hla
          refine ⟨_, rfl, _, rfl, _, rfl, a, sa, la, ns, st, lf, one, rfl, g24.tab hT, pa.gr g24, hsa4, hla4, el, fun H5 g5 => ?_⟩
          have g25 := g24.trans g5
          refine ⟨_, rfl, _, rfl, _, rfl, _, rfl, _, rfl, a, sa, ns, st, one, rfl, g25.tab hT, pa.gr g25, g5.dK hsa4, h1n, fun H6 g6 => ?_⟩
          refine ⟨sa, ns, st, one, _, rfl, by have := pa.le; omega, g6.dK (g5.dK hsa4), h1n, hnx, fun H7 p7 g7 hp70 hp7 => ?_⟩
          have hla7 := g7.dK (g6.dK (g5.dK hla4))
          have g27 := (g25.trans g6).trans g7
          have npl : p7 ≠ la := fun e => by
            rw [e, g6.dK (g5.dK hla4)] at hp70
            cases hp70
          subst ep'
          refine ⟨_, rfl, _, rfl, _, _, rfl, DGet_dz hla7 h1n, _, _, rfl, rfl, _, rfl, _, rfl, la, _, rfl, .inl ⟨_, .inr one, hla7, rfl, ?_, rfl⟩, ?_⟩
          · rw [dz_len]
            exact small1000 (by have := pa.le; omega)
          · refine ⟨_, ?_, g27.ownD la0 hla7, p7, la, _, _, _, _, _, _, _, _, rfl, (g25.trans g6).mono _ hp70, la0, (upd_ne npl).trans hp7, ?_, npl, so.ok, ?_, ?_, rfl⟩
            · omega
            · rw [upd_same, putK_dz h1n]
            · omega
            · rw [← hN]
              exact hR
    case _ =>
      have z0 : ∀ x ∈ ns, lf x = 0 := fun x hx => Decidable.byContradiction fun e => z (List.any_eq_true.mpr ⟨lf x, List.mem_map_of_mem hx, by simpa using e⟩)
      rw [standN_end z0] at hR
      exact ⟨_, rfl, q H2 sa g2 sa0 (by rw [hsa, hR])⟩
end Rw
set_option maxHeartbeats 4000000
/-! An own exception's __init__ that calls super().__init__ without arguments in the brackets of super. -/
namespace Rw
open PySem PySem.Spec PyProof.Rows L2 LamX NdefX
section
variable {X : Cx} {pins : List (Addr × Obj)} {σ : L2.St} {H : Hp} {s : Shared} {a C u : Addr}
/-- the bound __init__ of ValueError, called -/
theorem mw_ok {us : List Value} {Q : Value → Shared → Prop} {A : Around} {E : Value → Shared → Prop} (T : OexC X.K C) (I : Inv X pins σ H s) (e : H a = some (exo a C none)) (hu : PySem.W.KxsAt "ValueError.__init__" u a s.heap) (hl : us.length ≤ sizeLine) (h : ∀ s', Inv X pins σ H s' → Q .none s') :
    wpAny (model X.prog X.w) A (call (.ref u) us) Q E s := by
  obtain ⟨nm, q, N, bs, bmz, sn, sub, ab, col, dd, k0, k1, k2, k3, k5, hC, hbm⟩ := T.cls
  obtain ⟨t1z, ho⟩ := exo_at I.hok e
  obtain ⟨hp, g, d, t, os⟩ := s
  have hC' := I.kIn _ _ hC
  refine wpAny_call (codeAny_of_tree ?_)
  show wpAny _ A.in1 (callAny (.ref u) ⟨us, []⟩) _ _ _
  simp only [callAny]
  refine wpAny_bind (wpAny_load hu ?_)
  simp only [PySem.W.kxs_mw, show (Value.type "method-wrapper" == Value.type "method" || Value.type "method-wrapper" == Value.type "builtin_function_or_method" || Value.type "method-wrapper" == Value.type "method-wrapper") = true by decide, if_true]
  refine PySem.W.KFB.if_so (by decide) ?_
  refine wpAny_bind (PySem.W.check_bound_init PySem.F.excBase_ValueError.toExcCallFacts hC' ho rfl ?_)
  refine wpAny_bind (wpAny_pure (wpAny_pure ?_))
  refine ⟨plainId_quiet PySem.F.excBase_ValueError.init.plain _, codeAny_builtin PySem.F.excBase_ValueError.initEntry ?_⟩
  refine PySem.W.exc_init_tree (cls := .ref C) (t0 := t1z) (dv := none) (c2 := .none) (c3 := .none) (b4 := .bool false) ho hl fun h' k hx _ => ?_
  have Jz := I.write (t' := t) (x := a) (e := a) (o := exo a C none) (by rw [e]; exact True.intro) (.inl rfl) k ⟨_, hx⟩ (exo_ok hx)
  have euz : upd H a (exo a C none) = H := by
    funext b
    by_cases hb : b = a
    · rw [hb, upd_same, e]
    · rw [upd_ne hb]
  rw [euz] at Jz
  exact h _ Jz
end
/-- what the written part says of an exception class C whose __init__ is at f, its class in the cell -/
structure ExK (K : PySem.W.Frag) (P : Program) (qual : Str) (params : Arguments) (body : List Stmt) (scope : Scope) (fld : Str) (C f : Addr) : Prop where
  oex : OexC K C
  sup : PySem.W.ks_superIn K C C "__init__" = some (some (.builtin "ValueError.__init__"))
  sub : PySem.W.subIn K (.ref C) (.type "ValueError") = some true
  opq : PySem.W.nsIn K cStatics "thirdparty.any" = some none
  iC : PySem.W.findIn K (.ref C) "__init__" = some (some (.ref f))
  tI : PySem.W.typeIn K (.ref f) = some (.type "function")
  nof : PySem.W.findIn K (.ref C) fld = some none
  fn : ∃ (nm : Str) (doc pm : Value) (an : Option Addr) (cda : Addr) (ct oc : Value) (od : Option Addr) (osl : Array (Option Value)) (cc : Addr), K.lookup f = some ⟨oc, od, .func (PySem.W.fnX nm qual params body scope [("__class__", cc)] .none .none doc pm an (.ref cda) ct), osl⟩ ∧
    PySem.W.codeIn K (.ref cda) qual = true ∧ (∃ c1 c2 vs c3 file tf, K.lookup cda = some ⟨c1, c2, .fields vs, c3⟩ ∧ vs[2]? = some (.str file tf) ∧ ((P.main.file : Str) == file) = true) ∧ ∃ d1 d2 d3, K.lookup cc = some ⟨d1, d2, .cell (some (.ref C)), d3⟩
section
variable {X : Cx} {pins : List (Addr × Obj)} {σ : L2.St} {H : Hp} {s : Shared} {a C f L cda cc : Addr}
theorem InstAt_sub {t1 : Addr} {M : Model} {hh : Heap} {g : Array GenState} {d : Drawn} {t : Nat} {os : OsState} (I : Inv X pins σ H ⟨hh, g, d, t, os⟩) (ho : hh.get? a = some ({ cls := .ref C, dict := none, data := .fields #[.ref t1, .none, .none, .none, .bool false, .none] } : Obj)) {B : String} (hB : PySem.W.subIn X.K (.ref C) (.type B) = some true)  : PySem.W.Looks M hh (isInstance (.ref a) (.type B)) true :=
  have J : PySem.W.InstAt hh a { cls := .ref C, dict := none, data := .fields #[.ref t1, .none, .none, .none, .bool false, .none] } C none := ⟨ho, rfl, rfl, trivial⟩
  J.type.andThen (PySem.W.looks_subIn I.kIn hB)
/-- super().__init__(e, ..) -/
theorem super_init {bd : List Stmt} {qual : Str} {scope : Scope} {p0 p1 p2 pos pos' : Pos} {e : Expr} {es : List Expr} {ta : TA} {fd : FuncData} {ar : Arg} {oc : Value} {od : Option Addr} {osl : Array (Option Value)} {c1 : Value} {c2 : Option Addr} {vs : Array Value} {c3 : Array (Option Value)} {file : Str} {tf : Tok}
    {d1 : Value} {d2 : Option Addr} {d3 : Array (Option Value)} {q : Hp → Prop} {pl : Sem Bool} (henv : X.env = PySem.W.ksEnv qual scope L f (.ref cda) cc) (I : Inv X pins σ H s) (T : OexC X.K C)
    (hsup : PySem.W.ks_superIn X.K C C "__init__" = some (some (.builtin "ValueError.__init__"))) (hsub : PySem.W.subIn X.K (.ref C) (.type "ValueError") = some true) (hop : PySem.W.nsIn X.K cStatics "thirdparty.any" = some none)
    (hf : X.K.lookup f = some ⟨oc, od, .func fd, osl⟩) (hp : (fd.params.posonlyargs ++ fd.params.args).head? = some ar) (hcd : X.K.lookup cda = some ⟨c1, c2, .fields vs, c3⟩) (hvs : vs[2]? = some (.str file tf)) (hfile : ((X.prog.main.file : Str) == file) = true)
    (hcc : X.K.lookup cc = some ⟨d1, d2, .cell (some (.ref C)), d3⟩) (hm : X.mg "super" = none)
    (hks : scope.names.lookup ("super" : Str) = some .globalImplicit) (hkc : scope.names.lookup ("__class__" : Str) = some .free) (hka : scope.names.lookup ar.arg = some .local) (htop : (X.prog.main.scope.names.lookup ("super" : Str)).isSome = false)
    (h0 : X.N[0]? = some ar.arg) (hσ : σ[0]? = some (some (.ref a))) (ea : H a = some (exo a C none)) (ha : PA X (e :: es) ta)
    (hcall : eval (.Call (.Attribute (.Call (.Name "super" p0) [] [] p1) "__init__" p2) (e :: es) [] pos) X.env = (do
      let ov ← attributeBase (.Call (.Name "super" p0) [] [] p1) "__init__" X.env (eval (.Call (.Name "super" p0) [] [] p1) X.env)
      standAt p2.atName
      let (f, first) ← holding [ov] (getMethod ov "__init__" pl)
      callWith pos f first (backTo pos (starEach (e :: es) X.env)) []))
    (h : ta σ H fun vs H1 => vs.length ≤ 1000 ∧ H1 a = some (exo a C none) ∧ q H1)
    (he : starEach (e :: es) X.env = (false, eval e X.env) :: starEach es X.env := by rfl) (hpl : (backTo pos (starEach es X.env)).any (·.1) = false := by rfl) :
    _root_.PySem.wpAt (model X.prog X.w) X.A (.func bd X.env) (exec (.Expr (.Call (.Attribute (.Call (.Name "super" p0) [] [] p1) "__init__" p2) (e :: es) [] pos) pos') X.env) (fun fl s' => fl = .next ∧ ∃ H1, Inv X pins σ H1 s' ∧ q H1) X.xe s := by
  have hint : interactive X.env = false := by unfold interactive; rw [I.ok.kind]; rfl
  obtain ⟨nm, qq, N, bs, bm, sn, sub, ab, col, dd, k0, k1, k2, k3, k5, hC, hbm⟩ := id T.cls
  obtain ⟨t1, ho⟩ := exo_at I.hok ea
  obtain ⟨m, hnz, hl⟩ := id I.loc
  have hkx : X.env.kindOf ar.arg = some .local := by rw [henv]; exact hka
  obtain ⟨u0, ru, lk⟩ := hl 0 ar.arg _ h0 hσ (.inl hkx)
  obtain rfl : u0 = Value.ref a := ru
  have hma : m ar.arg = some (.ref a) := by
    rcases lk with ⟨_, z⟩ | ⟨k, _⟩
    · exact z
    · rcases k with k | k <;> (rw [hkx] at k; cases k)
  have hcell : X.env.cells.lookup ("__class__" : Str) = some cc := by rw [henv]; rfl
  have hkcx : X.env.kindOf "__class__" = some .free := by rw [henv]; exact hkc
  have hksx : X.env.kindOf "super" = some .globalImplicit := by rw [henv]; exact hks
  have hcl : PySem.W.clsIn X.K C = some { name := nm, bases := bs, mro := .ref C :: bm, ns := N, qualname := qq, hasDict := true, slotNames := sn, subclasses := sub, abstract := ab, collection := col, hasDel := false } := by unfold PySem.W.clsIn; rw [hC] <;> rfl
  have hCh := I.kIn _ _ hC
  have hmro : PySem.W.mroIn X.K C (.ref C) = some true := by
    unfold PySem.W.mroIn
    rw [hcl]
    show (if (Value.ref C :: bm).isEmpty then none else some ((Value.ref C :: bm).contains (.ref C))) = some true
    simp
  refine PySem.ks_wpAt_Expr_any (PySem.ks_wpAt_MethodCall (pl := pl) ?_ hcall) hint (by rfl)
  refine PySem.ks_wpAt_super_base (env := X.env) hksx hkcx (by decide) (by rw [henv]) (I.kIn _ _ hf) rfl hp (by rw [henv]) (I.kIn _ _ hcd) rfl hvs hfile htop ?_
  obtain ⟨mb, b1, b2⟩ := I.mod.blt
  refine PySem.W.ks_loadName_global I.ok.kind hksx (Calls.loadGlobal_builtin (by rw [I.ok.glob]; exact I.mod.glob.keeps I.bk) hm (by rw [I.ok.blt]; exact b1.keeps I.bk) ((b2 "super" (by decide)).trans (show bootBuiltins "super" = some (.type "super") by decide +kernel)) ⟨rfl, ?_⟩)
  refine wpAny_loadName_free I.ok.kind hkcx hcell ⟨_, I.kIn _ _ hcc, rfl⟩ ?_
  refine wpAny_loadName_local I.ok.kind hkx hnz hma ?_
  obtain ⟨hh, g, d, t, os⟩ := s
  refine PySem.ks_wpAny_isType_cls hCh rfl ⟨rfl, ?_⟩
  refine PySem.ks_wpAny_call_super hCh rfl ho rfl (fun c z => nomatch z) (PySem.W.looks_mroIn I.kIn hmro) (fun h' e' k => ?_)
  have I1 : Inv X pins σ H ⟨h', g, d, t, os⟩ := I.kept (t' := t) k
  have hsz : hh.objs.size < h'.objs.size := Heap.lt_size e'
  have ho1 := k _ _ ho
  have hne : a ≠ C := PySem.W.ks_ne (odx := none) (ox := { cls := .ref C, dict := none, data := .fields #[.ref t1, .none, .none, .none, .bool false, .none] }) I1.kIn ⟨ho1, rfl, rfl, trivial⟩ hcl
  have hun := hsup
  unfold PySem.W.ks_superIn at hun
  rw [hcl] at hun
  refine PySem.W.kxs_getMethod PySem.W.kxs_ValueError e' (PySem.W.looks_opaque I1.kIn hop) (l₀ := .ref C :: bm) ?_ rfl I1.kIn hun (InstAt_sub I1 ho1 hsub) hne (by decide) ?_
  · exact fun A Q E s k q => wpAny_bind ((PySem.W.looks_clsIn I1.kIn hcl) A _ E s k (wpAny_pure q))
  have kp : ∀ b o, h'.get? b = some o → (h'.push (PySem.W.kxs_mw "ValueError.__init__" a)).get? b = some o := fun b o e => Heap.get?_push_of_some _ e
  have I2 := I1.kept (t' := t + 1) kp
  have hu : (h'.push (PySem.W.kxs_mw "ValueError.__init__" a)).get? h'.objs.size = some (PySem.W.kxs_mw "ValueError.__init__" a) := Heap.get?_push_at rfl rfl
  have hge : H h'.objs.size = none := I1.hok.fresh (Nat.le_refl _)
  have I3 : Inv X ((h'.objs.size, PySem.W.kxs_mw "ValueError.__init__" a) :: pins) σ H ⟨h'.push (PySem.W.kxs_mw "ValueError.__init__" a), g, d, t + 1, os⟩ := I2.pins_of fun p hp => by
    rcases List.mem_cons.mp hp with rfl | hp
    · exact ⟨hu, hge, fun z => absurd (I1.lt) (by rw [← z]; exact Nat.lt_irrefl _), I1.nofs (Nat.le_refl _), fun v z => nomatch z⟩
    · exact I2.pin p (List.mem_append_right _ hp)
  show wpAny _ _ (callWith pos (.ref h'.objs.size) [] (backTo pos (starEach (e :: es) X.env)) []) _ _ _
  have hrun : wpAny (model X.prog X.w) X.A (spliced (backTo pos (starEach (e :: es) X.env))) (fun vs s₁ => PySem.W.KxsAt "ValueError.__init__" h'.objs.size a s₁.heap ∧ wpAny (model X.prog X.w) X.A (call (.ref h'.objs.size) vs) (fun _ s' => Flow.next = Flow.next ∧ ∃ H1, Inv X pins σ H1 s' ∧ q H1) X.xe s₁) X.xe ⟨h'.push (PySem.W.kxs_mw "ValueError.__init__" a), g, d, t + 1, os⟩ := by
    refine thn (ha.run pos _ _ σ H _ I3 h) fun us s1 ⟨vs, H1, I4, r1, hz, ea1, q1⟩ => ?_
    have hu1 := (I4.pin (h'.objs.size, PySem.W.kxs_mw "ValueError.__init__" a) (List.mem_append_right _ List.mem_cons_self)).1
    refine ⟨hu1, mw_ok T I4 ea1 hu1 ?_ fun s' J => ⟨rfl, H1, ?_, q1⟩⟩
    · rw [← Paired.length r1, sizeLine_eq]
      omega
    · exact J.pins_of fun p hp => J.pin p (List.mem_append_right _ (List.mem_cons_of_mem _ hp))
  rw [he] at hrun ⊢
  refine PySem.W.kxs_callWith (i := "ValueError.__init__") (x := a) (by show (false || (backTo pos (starEach es X.env)).any (·.1)) = false; rw [hpl]; rfl) (PySem.Calls.evalArgs_plain hrun)
end
def spExInit (C : Addr) (fld : Str) : Sp := fun vs H Q _ => ∃ (a : Addr) (y : V), vs = [.ref a, y] ∧ H a = some (exo a C none) ∧ ∀ dx, H dx = none → dx ≠ a → Q .non (upd (upd H dx (exd dx [(fld, y)])) a (exo a C (some dx)))
section
variable {P : Program} {w : World} {K : PySem.W.Frag} {mg : Str → Option Value} {base : Heap} {k : Nat} {C f : Addr}
/-- THE RULE: such an __init__ -/
theorem exInit_ok {qual : Str} {params : Arguments} {scope : Scope} {fld x : Str} {p0 p1 p2 p3 p4 p5 q0 q1 q2 q3 : Pos}
    (F : ExK K P qual params [.Expr (.Call (.Attribute (.Call (.Name "super" p0) [] [] p1) "__init__" p2) [.Name x p3] [] p4) p5, .Assign [.Attribute (.Name "self" q0) fld q1] (.Name x q2) q3] scope fld C f)
    (S : NScope ["self", x, "__class__"] ["self", x] ["__class__"] scope) (hhd : ∃ p, (params.posonlyargs ++ params.args).head? = some p ∧ p.arg = "self") (hs : scope.names.lookup ("super" : Str) = some .globalImplicit)
    (htop : (P.main.scope.names.lookup ("super" : Str)).isSome = false) (hm : mg "super" = none) (hdb : (x == ("__debug__" : Str)) = false) (hdc : (x == ("__classdict__" : Str)) = false)
    (hb : ∀ (nm : Str) (doc pm : Value) (an : Option Addr) (cda : Addr) (ct : Value) (cc : Addr) (us : List Value), us.length = 2 → bindArgs (PySem.W.fnX nm qual params [.Expr (.Call (.Attribute (.Call (.Name "super" p0) [] [] p1) "__init__" p2) [.Name x p3] [] p4) p5, .Assign [.Attribute (.Name "self" q0) fld q1] (.Name x q2) q3] scope [("__class__", cc)] .none .none doc pm an (.ref cda) ct) ⟨us, []⟩ = pure ((["self", x] : List Str).zip us))
    (hcall : ∀ (env : Env), env.scope = scope → ∃ pl, eval (.Call (.Attribute (.Call (.Name "super" p0) [] [] p1) "__init__" p2) [.Name x p3] [] p4) env = (do
      let ov ← attributeBase (.Call (.Name "super" p0) [] [] p1) "__init__" env (eval (.Call (.Name "super" p0) [] [] p1) env)
      standAt p2.atName
      let (f, first) ← holding [ov] (getMethod ov "__init__" pl)
      callWith p4 f first (backTo p4 (starEach [.Name x p3] env)) [])) :
    ∃ fd, FnOk P w K mg base (L2.CX P w) (k + 1) f fd ["self", x] (spExInit C fld) ∧ Binds K fd ["self", x] [] := by
  obtain ⟨nm, doc, pm, an, cda, ct, oc, od, osl, cc, lk, hcd, ⟨c1, c2, vs, c3, file, tf, hcda, hvs, hfile⟩, d1, d2, d3, hcc⟩ := F.fn
  refine ⟨_, ⟨fun vs H Q E h => ?_, fun A outer s H args us vs' Q E hr e0z hbd r hsp => ?_⟩, .all (hb nm doc pm an cda ct cc)⟩
  · obtain ⟨a, y, rfl, _⟩ := h
    rfl
  obtain ⟨a, y, rfl, ea, q⟩ := hsp
  have KX : K.In s.heap := e0z.mod.kin.keeps fun b o e => (e0z.bs b o e).1
  have lim : s.heap.NoLimit := e0z.mod.nolimit.keeps fun b o e => (e0z.bs b o e).1
  refine codeAny_call_function hr.depth (KX _ _ lk) rfl S.co S.gen rfl (PySem.W.codeRec_of KX hcd) (hbd _ _ _ _ ?_)
  refine wpAny_newFunctionEnv S.nocell (fun ⟨n, _⟩ hy => S.par n (List.of_mem_zip hy).1) (fun h₁ hns hsb => ⟨lim.fresh _ hsb, ?_⟩) S.kind
  have kpz : ∀ b o, s.heap.get? b = some o → h₁.get? b = some o := fun b o e => hsb.extBut b o (Nat.ne_of_lt (Heap.lt_size e)) (Heap.get?_push_of_some _ e)
  have C0 : CellsAt [("__class__", cc)] ["__class__"] [some (V.ref C)] s.heap H := by
    have hk : s.heap.IsCell cc (some (.ref C)) := ⟨_, KX _ _ hcc, rfl⟩
    have hn : H cc = none := (e0z.bs cc _ (e0z.mod.kin _ _ hcc)).2
    have one : ∀ y c, ([("__class__", cc)] : List (Str × Addr)).lookup y = some c → y = ("__class__" : Str) ∧ c = cc := fun y c e => by
      by_cases h : y = ("__class__" : Str)
      · subst h
        have e2 : (some cc : Option Addr) = some c := e
        exact ⟨rfl, (Option.some.inj e2).symm⟩
      · have hb : (y == ("__class__" : Str)) = false := by simpa using h
        simp [List.lookup, hb] at e
    refine ⟨rfl, fun y c e => ?_, fun x y c e1 e2 => by rw [(one x c e1).1, (one y c e2).1], fun i y e => ?_⟩
    · obtain ⟨rfl, rfl⟩ := one y c e
      exact ⟨hn, _, hk⟩
    · cases i with
      | zero =>
        cases e
        exact ⟨cc, rfl, fun v hv => by cases hv; exact ⟨_, rfl, hk⟩⟩
      | succ i => cases e
  let G : NF := ⟨nm, qual, params, [.Expr (.Call (.Attribute (.Call (.Name "super" p0) [] [] p1) "__init__" p2) [.Name x p3] [] p4) p5, .Assign [.Attribute (.Name "self" q0) fld q1] (.Name x q2) q3], scope, [("__class__", cc)], cda⟩
  have I : Inv (ncx (L2.CX P w) P w K mg base ["self", x, "__class__"] G f A outer s H E) [] (startF ["self", x, "__class__"] [.ref a, y] [some (V.ref C)]) H { s with heap := h₁, toks := s.toks + ((["self", x] : List Str).zip us).length } :=
    inv_startN (F := G) S hr.hd e0z rfl r C0 hns kpz
  show codeAny _ _ (.func G.body (envF G f s.heap.objs.size)) _ _
  refine PySem.ks_codeAny_funcAt ?_
  obtain ⟨p, hp1, hp2⟩ := hhd
  obtain ⟨pl, hpl⟩ := hcall (envF G f s.heap.objs.size) rfl
  refine PySem.ks_wpAt_execs_cons (PySem.ks_wpAt_mono (super_init (X := ncx (L2.CX P w) P w K mg base ["self", x, "__class__"] G f A outer s H E) (a := a) (C := C) (q := fun H1 => H1 = H) rfl I F.oex F.sup F.sub F.opq lk hp1 hcda hvs hfile hcc hm hs (S.frk _ (by simp)) (by rw [hp2]; exact S.par _ (by simp)) htop (by rw [hp2]; rfl) rfl ea
    (pa_cons (pe_var (i := 1) rfl (.inl (S.par _ (by simp))) hdb hdc) pa_nil) hpl ⟨_, rfl, by simp, ea, rfl⟩ rfl rfl) (fun fl s' hs' => ?_) (fun e s' z => z))
  obtain ⟨rfl, H1, J, rfl⟩ := hs'
  refine PySem.wpAt_of_wpAny (wpAny_mono ((pss_one (ps_ost (X := ncx (L2.CX P w) P w K mg base ["self", x, "__class__"] G f A outer s H1 E) (pe_var (i := 0) rfl (.inl (S.par _ (by simp)))) (pe_var (i := 1) rfl (.inl (S.par _ (by simp))) hdb hdc) rfl)).run [] s' _ H1 { nx := fun _ H' => Q .non H', rt := Q } J ?_) (fun fl s' hs => ?_) fun e s' hs => hs)
  · exact ⟨_, rfl, _, rfl, a, C, rfl, F.oex, F.nof, .inl ⟨ea, q⟩⟩
  · have finz : ∀ {σz' : L2.St} {H' : Hp} {v : V} {u : Value}, Inv (ncx (L2.CX P w) P w K mg base ["self", x, "__class__"] G f A outer s H1 E) [] σz' H' s' → L2.RelV v u → Q v H' → CE outer P w H1 s Q u s' :=
      fun {σz' H' v u} J rv q => ⟨v, H', J.os, J.bare, J.base, J.hok, rv, q⟩
    cases fl with
    | ret u =>
      obtain ⟨v, σz', H', J, rv, q⟩ := hs
      exact finz J rv q
    | next =>
      obtain ⟨σz', H', J, q⟩ := hs
      exact finz (v := V.non) (u := Value.none) J rfl q
    | brk =>
      obtain ⟨_, _, _, q⟩ := hs
      exact False.elim q
    | cont =>
      obtain ⟨_, _, _, q⟩ := hs
      exact False.elim q
end
end Rw
set_option maxHeartbeats 4000000
/-! The package's exceptions. -/
namespace Rw
open PySem PySem.Spec PyProof.Rows L2 LamX NdefX
/-- C(y): the exception stands with its dict -/
def tMkX (C : Addr) (fld : Str) (ta : TA) : L2.St → Hp → XK → Prop := fun σ H Q => ta σ H fun vs H1 => ∃ y, vs = [y] ∧ ∀ d, H1 d = none → Q (.ref C) (some d) (upd H1 d (.xd [(fld, y)]))
theorem pa_mono {X : Cx} {es : List Expr} {t t' : TA} (h : PA X es t) (i : ∀ σ H Q, t' σ H Q → t σ H Q) : PA X es t' := ⟨fun pos pins s σ H Q I q => h.run pos pins s σ H Q I (i _ _ _ q)⟩
theorem pmk_imp {X : Cx} {e : Expr} {t t' : L2.St → Hp → XK → Prop} (h : PMk X e t) (i : ∀ σ H Q, t' σ H Q → t σ H Q) : PMk X e t' := fun pins s σ H Q I q => h pins s σ H Q I (i _ _ _ q)
theorem pmk_x {X : Cx} {x fld : Str} {C fI : Addr} {k : Nat} {e : Expr} {es : List Expr} {ta : TA} {ps : List Str} {p pos : Pos} (T : OexC X.K C) (iC : PySem.W.findIn X.K (.ref C) "__init__" = some (some (.ref fI))) (tI : PySem.W.typeIn X.K (.ref fI) = some (.type "function"))
    (G : ∃ fd, FnOk X.prog X.w X.K X.mg X.base (L2.CX X.prog X.w) k fI fd ps (spExInit C fld) ∧ Binds X.K fd ps []) (hr : Room (k + 1) X.A) (hx : Passes (L2.CX X.prog X.w) X (fun _ _ _ => False)) (hg : Gl X x) (hm : X.mg x = some (.ref C)) (ha : PA X (e :: es) ta)
    (mono : ∀ σ H (Q Q' : List V → Hp → Prop), (∀ vs H, Q vs H → Q' vs H) → ta σ H Q → ta σ H Q')
    (hdb : (x == ("__debug__" : Str)) = false := by decide) (he : starEach (e :: es) X.env = (false, eval e X.env) :: starEach es X.env := by rfl) (hpl : (backTo pos (starEach es X.env)).any (·.1) = false := by rfl) : PMk X (.Call (.Name x p) (e :: es) [] pos) (tMkX C fld ta) := by
  obtain ⟨fd, F, hb⟩ := G
  refine pmk_imp (pmk_oex (ds := []) (dvs := []) T iC tI F hr hb .nil hx hg hm ha hdb he hpl) fun σ H Q q => mono σ H _ _ (fun vs H1 h => ?_) q
  obtain ⟨y, rfl, h⟩ := h
  refine ⟨by simp, fun a ha => ⟨a, y, rfl, upd_same, fun dx hd hda => ⟨rfl, dx, [(fld, y)], upd_same, ?_, ?_, ?_⟩⟩⟩
  · rw [upd_ne hda, upd_same]
  · rw [upd_ne hda] at hd
    exact hd
  · rw [upd_ne hda] at hd
    have q := h dx hd
    have e : upd (del (upd (upd (upd H1 a (exo a C none)) dx (exd dx [(fld, y)])) a (exo a C (some dx))) a) dx (.xd [(fld, y)]) = upd H1 dx (.xd [(fld, y)]) := by
      funext b
      by_cases hb : b = dx
      · rw [hb, upd_same, upd_same]
      · rw [upd_ne hb, upd_ne hb]
        by_cases hba : b = a
        · rw [hba, del_same, ha]
        · rw [del_ne hba, upd_ne hba, upd_ne hb, upd_ne hba]
    rw [e]
    exact q
theorem tvar_mono {i : Nat} : ∀ σ H (Q Q' : List V → Hp → Prop), (∀ vs H, Q vs H → Q' vs H) → (tCons (tVar i) tNil) σ H Q → (tCons (tVar i) tNil) σ H Q' := fun σ H Q Q' i ⟨v, e, q⟩ => ⟨v, e, i _ _ q⟩
/-- what is known of the exception class of the top's statement i, its field, its __init__ -/
structure ExW (P : Program) (K : PySem.W.Frag) (mg : Str → Option Value) (x fld : Str) (i : Nat) : Prop where
  gl : mg x = some (.ref (He.ga K x))
  ex : ∃ f, ExK K P (x ++ ".__init__") (defArgs (meth i 0)) (defBody (meth i 0)) (defScope (meth i 0)) fld (He.ga K x) f
structure Me (P : Program) (K : PySem.W.Frag) (mg : Str → Option Value) : Prop where
  sup : mg "super" = none
  top : (P.main.scope.names.lookup ("super" : Str)).isSome = false
  path : ExW P K mg "BadPath" "thing" 15
  total : ExW P K mg "BadTotal" "total" 19
  num : ExW P K mg "BadNumber" "number" 20
  choo : ExW P K mg "BadChooser" "thing" 21
section
variable {P : Program} {w : World} {K : PySem.W.Frag} {mg : Str → Option Value} {base : Heap}
theorem init15 {f : Addr} (M : Me P K mg) (F : ExK K P ("BadPath" ++ ".__init__") (defArgs (meth 15 0)) (defBody (meth 15 0)) (defScope (meth 15 0)) "thing" (He.ga K "BadPath") f) :
    ∃ fd, FnOk P w K mg base (L2.CX P w) 1 f fd ["self", "thing"] (spExInit (He.ga K "BadPath") "thing") ∧ Binds K fd ["self", "thing"] [] :=
  exInit_ok F (nscope_by (by kernel_rfl)) ⟨_, rfl, rfl⟩ (by kernel_rfl) M.top M.sup (by decide) (by decide) (fun _ _ _ _ _ _ _ us hl => match us, hl with | [_, _], _ => rfl) (fun env he => ⟨_, rfl⟩)
theorem init19 {f : Addr} (M : Me P K mg) (F : ExK K P ("BadTotal" ++ ".__init__") (defArgs (meth 19 0)) (defBody (meth 19 0)) (defScope (meth 19 0)) "total" (He.ga K "BadTotal") f) :
    ∃ fd, FnOk P w K mg base (L2.CX P w) 1 f fd ["self", "total"] (spExInit (He.ga K "BadTotal") "total") ∧ Binds K fd ["self", "total"] [] :=
  exInit_ok F (nscope_by (by kernel_rfl)) ⟨_, rfl, rfl⟩ (by kernel_rfl) M.top M.sup (by decide) (by decide) (fun _ _ _ _ _ _ _ us hl => match us, hl with | [_, _], _ => rfl) (fun env he => ⟨_, rfl⟩)
theorem init20 {f : Addr} (M : Me P K mg) (F : ExK K P ("BadNumber" ++ ".__init__") (defArgs (meth 20 0)) (defBody (meth 20 0)) (defScope (meth 20 0)) "number" (He.ga K "BadNumber") f) :
    ∃ fd, FnOk P w K mg base (L2.CX P w) 1 f fd ["self", "number"] (spExInit (He.ga K "BadNumber") "number") ∧ Binds K fd ["self", "number"] [] :=
  exInit_ok F (nscope_by (by kernel_rfl)) ⟨_, rfl, rfl⟩ (by kernel_rfl) M.top M.sup (by decide) (by decide) (fun _ _ _ _ _ _ _ us hl => match us, hl with | [_, _], _ => rfl) (fun env he => ⟨_, rfl⟩)
theorem init21 {f : Addr} (M : Me P K mg) (F : ExK K P ("BadChooser" ++ ".__init__") (defArgs (meth 21 0)) (defBody (meth 21 0)) (defScope (meth 21 0)) "thing" (He.ga K "BadChooser") f) :
    ∃ fd, FnOk P w K mg base (L2.CX P w) 1 f fd ["self", "thing"] (spExInit (He.ga K "BadChooser") "thing") ∧ Binds K fd ["self", "thing"] [] :=
  exInit_ok F (nscope_by (by kernel_rfl)) ⟨_, rfl, rfl⟩ (by kernel_rfl) M.top M.sup (by decide) (by decide) (fun _ _ _ _ _ _ _ us hl => match us, hl with | [_, _], _ => rfl) (fun env he => ⟨_, rfl⟩)
end
end Rw
set_option maxHeartbeats 4000000
/-! The walks: the checks, the numbers. -/
namespace Rw
open PySem PySem.Spec PyProof.Rows L2 LamX NdefX
variable {P : Program} {w : World} {K : PySem.W.Frag} {mg : Str → Option Value} {base : Heap} {T : List NTab}
def isV {K : PySem.W.Frag} : V := .ref (He.ga K "is_number")
def spIsDict (K : PySem.W.Frag) (T : List NTab) : Sp := fun vs H Q _ => ∃ (a nu : Addr) (ns : List Str) (lf : Str → Int), vs = [.ref a, .ref nu, .ref (He.ga K "is_number")] ∧ PathAt K H a ns ∧ H nu = some (.dK (dz ns lf)) ∧ (∀ x ∈ ns, 0 ≤ lf x) ∧ ∀ H', Gr T [] H H' → Q (.bl true) H'
theorem sc25 : FnScope ["path", "thing", "is_right", "name"] ["path", "thing", "is_right"] (defScope (top 25)) := ⟨rfl, rfl, rfl, by decide +kernel, rfl, by decide +kernel, by decide +kernel⟩
theorem ok_is_dict_of (M : Mo K mg) : Gd P w K mg base 3 "is_dict_of" ["path", "thing", "is_right"] (spIsDict K T) := by
  refine gd_of (M.df "is_dict_of" 25) sc25 (fun F => F.bindsN fun _ _ _ _ _ _ us hl => match us, hl with | [_, _, _], _ => rfl) (fun vs H Q E h => ?_) fun cdv A outer s H vs Q E hr h => ⟨_, (pss_cons (ps_if (PW.pt (pw_or (pt_not (pt_val (pe_callB call_is1 rfl (M.fr "isinstance") (by decide +kernel) (pa_cons (pv 1) (pa_cons (pe_tyN "dict" rfl (M.fr "dict") (by decide +kernel)) pa_nil))))) (pw_or1 (pt_cmpR op_ne (pe_callB call_lenD rfl (M.fr "len") (by decide +kernel) (pa_cons (pv 1) pa_nil)) (pe_fld (pv 0) rfl) (nomark _))))) (pss_one (ps_ret pe_bl)) pss_nil) (pss_one (ps_ret (pe_callB (cr_all rfl) rfl (M.fr "all") (by decide +kernel) (pa_cons (pe_lc (own := [("name", 3)]) rfl sc25.nd (pi_tup (pe_fld (pv 0) rfl)) (blkOk_by (by kernel_rfl)) (fun _ _ _ _ _ => (pg_name (i := 3) sc25.nd rfl (Or.inl rfl) (hf := Or.inr rfl))) (fun _ _ _ _ _ => pts_nil) (fun _ _ _ _ _ => (pe_and (pe_cmp (pc_din (hu_of hr) (pv 3) (pv 1)) (by with_unfolding_all rfl)) (pe_one (pe_callV (P := P) (w := w) (K := K) (mg := mg) (base := base) rfl rfl rfl rfl rfl hr passL (i := 2) rfl (by first | exact Or.inl rfl | exact Or.inr (Or.inl rfl) | exact Or.inr (Or.inr rfl)) (pa_cons (pe_dget (hu_of hr) (pv 1) (pv 3) (fun _ _ => rfl)) pa_nil)))))) pa_nil))))), ?_⟩
  · obtain ⟨a, nu, ns, lf, rfl, _⟩ := h
    rfl
  · obtain ⟨a, nu, ns, lf, rfl, pa, hnu, nn, q⟩ := h
    obtain ⟨dx, fs, tn, h1, h2, h3, ht⟩ := pa.ex
    refine ⟨_, rfl, _, _, _, _, true, rfl, .ty "dict", tyz_dK hnu, rfl, ?_⟩
    refine ⟨true, rfl, _, rfl, nu, _, rfl, hnu, _, rfl, a, _, dx, fs, _, rfl, h1, M.pcls, M.pmany, h3, rfl, _, rfl, ite2 (fun z => ?_) fun _ => ?_⟩
    · rw [dz_len, decide_eq_true rfl] at z
      cases z
    refine ⟨_, rfl, a, _, dx, fs, _, rfl, h1, M.pcls, M.pnames, h2, tn, rfl, ⟨_, .inl (.inl ht)⟩, fun D hD => ?_⟩
    refine lc_same (T := T) walk_tup (fun _ => true) (fun _ => V.bl true) hD (by rw [List.length_map]; have := pa.le; omega) (fun H' g => .inl (.inl (g.tup ht))) (fun v hv H' g Ky Kn y _ => ?_) fun H' g hD' => ?_
    · obtain ⟨x, rfl, hx⟩ := mem_str hv
      have hnu' := g.dK hnu
      refine ⟨rfl, _, rfl, _, rfl, nu, _, rfl, DGet_dz hnu' hx, true, rfl, He.ga K "is_number", fun _ => True, 1, spNumber P w K, rfl, (ok_is_number M).fv, True.intro, _, rfl, _, rfl, _, _, rfl, DGet_dz hnu' hx, True.intro, _, _, rfl, .inl ⟨lf x, rfl, (decide_eq_true (nn x hx)).symm⟩, y rfl⟩
    · refine ⟨D, ns.map fun _ => true, rfl, .inl (.inl ?_), ?_⟩
      · rw [hD', List.filter_eq_self.mpr (fun _ _ => rfl), List.map_map, List.map_map]
        rfl
      · show Q (.bl ((ns.map fun _ => true).all id)) H'
        rw [show (ns.map fun _ => true).all id = true from List.all_eq_true.mpr fun b hb => by obtain ⟨_, _, rfl⟩ := List.mem_map.mp hb; rfl]
        exact q H' g
/-! ### check_path -/
def Ty (P : Program) (w : World) (K : PySem.W.Frag) (T : List NTab) (H : Hp) (x : V) (t : Value) : Prop := ∀ H', Gr T [] H H' → TyZ P w K H' x t
theorem Ty.gr {H H' : Hp} {x : V} {t : Value} (h : Ty P w K T H x t) (g : Gr T [] H H') : Ty P w K T H' x t := fun H2 g2 => h H2 (g.trans g2)
theorem Ty.now {H : Hp} {x : V} {t : Value} (h : Ty P w K T H x t) : TyZ P w K H x t := h H (.refl _)
/-- what is told of the classes -/
structure Is (K : PySem.W.Frag) : Prop where
  gc : PySem.W.findIn K (.ref (He.ga K "Path")) "__class__" = some (some (.builtin "object.__class__"))
  gs : PySem.W.specialIn K (.builtin "object.__class__") "__get__" = some (some (.builtin "getset_descriptor.__get__"))
  gt : PySem.W.takesIn K (.builtin "object.__class__") = some true
  gm : PySem.W.mroIn K (He.ga K "Path") (.type "object") = some true
  cfn : PySem.W.kitAny K (.type "function") (chooL K) = some false
theorem PathAt.ty (M : Mo K mg) (I : Is K) {H : Hp} {a : Addr} {ns : List Str} (p : PathAt K H a ns) : Ty P w K T H (.ref a) (.ref (He.ga K "Path")) := fun H' g => by
  obtain ⟨dx, fs, tn, h1, _⟩ := (p.gr g).ex
  exact tyz_ins h1 M.pcls I.gc I.gs I.gt I.gm
theorem kit_self {t : Value} : PySem.W.kitOne K t t = some true := by
  unfold PySem.W.kitOne
  rw [if_pos (by simp)]
/-- what is no path -/
def BadP (P : Program) (w : World) (K : PySem.W.Frag) (T : List NTab) (H : Hp) (x : V) : Prop := ∃ t, Ty P w K T H x t ∧ PySem.W.kitOne K t (.ref (He.ga K "Path")) = some false
def Thrown (K : PySem.W.Frag) (c fld : Str) (x : V) (E : XK) (H : Hp) : Prop := ∀ d, H d = none → E (.ref (He.ga K c)) (some d) (upd H d (.xd [(fld, x)]))
def spCheckPath (P : Program) (w : World) (K : PySem.W.Frag) (T : List NTab) : Sp := fun vs H Q E => ∃ x, vs = [x] ∧ ((∃ a ns, x = .ref a ∧ PathAt K H a ns ∧ Q .non H) ∨ (BadP P w K T H x ∧ Thrown K "BadPath" "thing" x E H))
theorem sc24 : FnScope ["thing"] ["thing"] (defScope (top 24)) := ⟨rfl, rfl, rfl, by decide +kernel, rfl, by decide +kernel, by decide +kernel⟩
theorem ok_check_path (M : Mo K mg) (X : Me P K mg) (I : Is K) : Gd P w K mg base 3 "check_path" ["thing"] (spCheckPath P w K T) := by
  obtain ⟨f, F⟩ := X.path.ex
  refine gd_of (M.df "check_path" 24) sc24 (fun F => F.bindsN fun _ _ _ _ _ _ us hl => match us, hl with | [_], _ => rfl) (fun vs H Q E h => ?_) fun cdv A outer s H vs Q E hr h => ⟨_, (pss_one (ps_if (pt_not (pt_val (pe_callB call_is1 rfl (M.fr "isinstance") (by decide +kernel) (pa_cons (pv 0) (pa_cons (pe_glob (v := .ref (He.ga K "Path")) rfl (M.gl "Path") rfl) pa_nil))))) (pss_one (ps_raise rfl (takes_of rfl rfl rfl rfl) (pmk_x F.oex F.iC F.tI (init15 X F) (hr.mono (by decide)) passL rfl X.path.gl (pa_cons (pv 0) pa_nil) tvar_mono))) pss_nil)), ?_⟩
  · obtain ⟨x, rfl, _⟩ := h
    rfl
  · obtain ⟨x, rfl, h⟩ := h
    rcases h with ⟨a, ns, rfl, pa, q⟩ | ⟨⟨t, ty, e⟩, q⟩
    · exact ⟨_, rfl, _, _, _, _, true, rfl, .own _, (pa.ty (T := T) M I).now, kit_self, _, rfl, q⟩
    · exact ⟨_, rfl, _, _, _, _, false, rfl, .own _, ty.now, e, _, rfl, _, rfl, _, rfl, q⟩
/-! ### check_total -/
def NotNum (P : Program) (w : World) (K : PySem.W.Frag) (T : List NTab) (H : Hp) (x : V) : Prop := ∀ H', Gr T [] H H' → NumV P w K H' x false
def spCheckTotal (P : Program) (w : World) (K : PySem.W.Frag) (T : List NTab) : Sp := fun vs H Q E => ∃ x y, vs = [x, y] ∧ ((BadP P w K T H x ∧ Thrown K "BadPath" "thing" x E H) ∨ (∃ a ns, x = .ref a ∧ PathAt K H a ns ∧ ((∃ n : Int, y = .int n ∧ 0 ≤ n ∧ Q .non H) ∨ (NotNum P w K T H y ∧ Thrown K "BadTotal" "total" y E H))))
theorem sc69 : FnScope ["path", "total"] ["path", "total"] (defScope (top 69)) := ⟨rfl, rfl, rfl, by decide +kernel, rfl, by decide +kernel, by decide +kernel⟩
theorem ok_check_total (M : Mo K mg) (X : Me P K mg) (I : Is K) : Gd P w K mg base 4 "check_total" ["path", "total"] (spCheckTotal P w K T) := by
  obtain ⟨f, F⟩ := X.total.ex
  refine gd_of (M.df "check_total" 69) sc69 (fun F => F.bindsN fun _ _ _ _ _ _ us hl => match us, hl with | [_, _], _ => rfl) (fun vs H Q E h => ?_) fun cdv A outer s H vs Q E hr h => ⟨_, (pss_cons (ps_expr (pe_gd (ok_check_path (T := T) M X I) hr (by decide) rfl (passes_call (takes_of rfl rfl rfl rfl) fun _ _ _ _ z => z) (pa_cons (pv 0) pa_nil))) (pss_one (ps_if (pt_not (pt_val (pe_gd (ok_is_number M) hr (by decide) rfl (passes_call (takes_of rfl rfl rfl rfl) fun _ _ _ _ z => z) (pa_cons (pv 1) pa_nil)))) (pss_one (ps_raise rfl (takes_of rfl rfl rfl rfl) (pmk_x F.oex F.iC F.tI (init19 X F) (hr.mono (by decide)) passL rfl X.total.gl (pa_cons (pv 1) pa_nil) tvar_mono))) pss_nil))), ?_⟩
  · obtain ⟨x, y, rfl, _⟩ := h
    rfl
  · obtain ⟨x, y, rfl, h⟩ := h
    rcases h with ⟨b, q⟩ | ⟨a, ns, rfl, pa, h⟩
    · exact ⟨_, rfl, _, rfl, .inr ⟨b, q⟩⟩
    · refine ⟨_, rfl, _, rfl, .inl ⟨a, ns, rfl, pa, ?_⟩⟩
      rcases h with ⟨n, rfl, n0, q⟩ | ⟨nn, q⟩
      · exact ⟨_, rfl, _, true, rfl, .inl ⟨n, rfl, (decide_eq_true n0).symm⟩, _, rfl, q⟩
      · exact ⟨_, rfl, _, false, rfl, nn H (.refl _), _, rfl, _, rfl, _, rfl, q⟩
/-! ### count_stands -/
def spCount (K : PySem.W.Frag) : Sp := fun vs H Q _ => ∃ (a : Addr) (ns : List Str) (n : Nat), vs = [.ref a, .int n] ∧ PathAt K H a ns ∧ n < 2 ^ 58 ∧ Q (.int (nobF ns.length n)) H
theorem sc70 : FnScope ["path", "total"] ["path", "total"] (defScope (top 70)) := ⟨rfl, rfl, rfl, by decide +kernel, rfl, by decide +kernel, by decide +kernel⟩
theorem ok_count_stands (M : Mo K mg) (X : Me P K mg) (I : Is K) : Gd P w K mg base 5 "count_stands" ["path", "total"] (spCount K) := by
  refine gd_of (M.df "count_stands" 70) sc70 (fun F => F.bindsN fun _ _ _ _ _ _ us hl => match us, hl with | [_, _], _ => rfl) (fun vs H Q E h => ?_) fun cdv A outer s H vs Q E hr h => ⟨_, (pss_cons (ps_expr (pe_gd (ok_check_total (T := []) M X I) hr (by decide) rfl (passes_call (takes_of rfl rfl rfl rfl) fun _ _ _ _ z => z) (pa_cons (pv 0) (pa_cons (pv 1) pa_nil)))) (pss_one (ps_ret (pe_gd (ok_nobody M) hr (by decide) rfl (passes_call (takes_of rfl rfl rfl rfl) fun _ _ _ _ z => z) (pa_cons (pe_fld (pv 0) rfl) (pa_cons (pv 1) pa_nil)))))), ?_⟩
  · obtain ⟨a, ns, n, rfl, _⟩ := h
    rfl
  · obtain ⟨a, ns, n, rfl, pa, hn, q⟩ := h
    obtain ⟨dx, fs, tn, h1, h2, h3, ht⟩ := pa.ex
    have := pa.le
    exact ⟨_, rfl, _, rfl, _, _, rfl, .inr ⟨a, ns, rfl, pa, .inl ⟨n, rfl, by omega, _, rfl, a, _, dx, fs, _, rfl, h1, M.pcls, M.pmany, h3, _, rfl, _, _, rfl, ⟨by omega, by omega, by omega, by omega⟩, q⟩⟩⟩
end Rw
set_option maxHeartbeats 4000000
/-! The walks: stand_of_made, stand_at. -/
namespace Rw
open PySem PySem.Spec PyProof.Rows L2 LamX NdefX
variable {P : Program} {w : World} {K : PySem.W.Frag} {mg : Str → Option Value} {base : Heap} {T : List NTab}
theorem pmk_no {X : Cx} {e : Expr} : PMk X e fun _ _ _ => False := fun _ _ _ _ _ _ h => h.elim
def spChecked (K : PySem.W.Frag) (T : List NTab) : Sp := fun vs H Q _ => ∃ (a nu : Addr) (ns : List Str) (lf : Str → Int), vs = [.ref a, .ref nu] ∧ PathAt K H a ns ∧ H nu = some (.dK (dz ns lf)) ∧ (∀ x ∈ ns, 0 ≤ lf x) ∧ ∀ H' p, Gr T [] H H' → H p = none → H' p = some (.dK (dz ns lf)) → Q (.ref p) H'
theorem sc72 : FnScope ["path", "numbers", "name"] ["path", "numbers"] (defScope (top 72)) := ⟨rfl, rfl, rfl, by decide +kernel, rfl, by decide +kernel, by decide +kernel⟩
theorem ok_checked_numbers (M : Mo K mg) (X : Me P K mg) (I : Is K) : Gd P w K mg base 4 "checked_numbers" ["path", "numbers"] (spChecked K T) := by
  refine gd_of (M.df "checked_numbers" 72) sc72 (fun F => F.bindsN fun _ _ _ _ _ _ us hl => match us, hl with | [_, _], _ => rfl) (fun vs H Q E h => ?_) fun cdv A outer s H vs Q E hr h => ⟨_, (pss_cons (ps_expr (pe_gd (ok_check_path (T := T) M X I) hr (by decide) rfl passL (pa_cons (pv 0) pa_nil))) (pss_cons (ps_if (pt_not (pt_val (pe_gd (ok_is_dict_of (T := T) M) hr (by decide) rfl passL (pa_cons (pv 0) (pa_cons (pv 1) (pa_cons (pe_glob (v := .ref (He.ga K "is_number")) rfl (M.gl "is_number") rfl) pa_nil)))))) (pss_one (ps_raise rfl (takes_of rfl rfl rfl rfl) pmk_no)) pss_nil) (pss_one (ps_ret (pe_dc (own := [("name", 2)]) rfl sc72.nd (pi_tup (pe_fld (pv 0) rfl)) (blkOk_by (by kernel_rfl)) (fun _ _ _ _ _ => (pg_name (i := 2) sc72.nd rfl (Or.inl rfl) (hf := Or.inr rfl))) (fun _ _ _ _ _ => pts_nil) (fun _ _ _ _ _ => (pv 2)) (fun _ _ _ _ _ => (pe_dget (hu_of hr) (pv 1) (pv 2) (fun _ _ => rfl)))))))), ?_⟩
  · obtain ⟨a, nu, ns, lf, rfl, _⟩ := h
    rfl
  · obtain ⟨a, nu, ns, lf, rfl, pa, hnu, nn, q⟩ := h
    refine ⟨_, rfl, _, rfl, .inl ⟨a, ns, rfl, pa, ?_⟩⟩
    refine ⟨_, rfl, _, rfl, a, nu, ns, lf, rfl, pa, hnu, nn, fun H1 g1 => ⟨_, rfl, ?_⟩⟩
    have pa1 := pa.gr g1
    obtain ⟨dx, fs, tn, h1, h2, h3, ht⟩ := pa1.ex
    refine ⟨_, rfl, a, _, dx, fs, _, rfl, h1, M.pcls, M.pnames, h2, tn, rfl, ⟨_, .inl (.inl ht)⟩, fun D hD => ?_⟩
    refine dc_same (T := T) walk_tup lf pa.nd hD (by have := pa.le; omega) (fun H' g => .inl (.inl (g.tup ht))) (fun x hx H' g Ky Kn k => ?_) fun H' g hD' => q H' D (g1.trans g) (g1.mono _ hD) hD'
    exact ⟨rfl, _, rfl, _, rfl, _, rfl, _, _, rfl, DGet_dz (g.dK (g1.dK hnu)) hx, k⟩
def spStandOf (K : PySem.W.Frag) (T : List NTab) : Sp := fun vs H Q _ => ∃ (a nu : Addr) (ns : List Str) (lf : Str → Int), vs = [.ref a, .ref nu] ∧ TabsN T H ∧ PathAt K H a ns ∧ H nu = some (.dK (dz ns lf)) ∧ LfOk ns lf ∧ sumF ns lf < 2 ^ 60 ∧
  ∀ H' p, Gr T [] H H' → H p = none → H' p = some (.dK (dz ns (standN ns (fun x => (ns.idxOf x : Nat)) lf))) → Q (.ref p) H'
theorem sc79 : FnScope ["path", "numbers", "known"] ["path", "numbers"] (defScope (top 79)) := ⟨rfl, rfl, rfl, by decide +kernel, rfl, by decide +kernel, by decide +kernel⟩
theorem ok_stand_of_made (M : Mo K mg) (X : Me P K mg) (I : Is K) (Tbl : Tb K mg base T) : Gd P w K mg base 7 "stand_of_made" ["path", "numbers"] (spStandOf K T) := by
  refine gd_of (M.df "stand_of_made" 79) sc79 (fun F => F.bindsN fun _ _ _ _ _ _ us hl => match us, hl with | [_, _], _ => rfl) (fun vs H Q E h => ?_) fun cdv A outer s H vs Q E hr h => ⟨_, (pss_cons (ps_set (i := 2) sc79.nd rfl (Or.inl rfl) (pe_gd (ok_checked_numbers (T := T) M X I) hr (by decide) rfl passL (pa_cons (pv 0) (pa_cons (pv 1) pa_nil)))) (pss_one (ps_ret (pe_ifExp (pt_cmpR op_in_seq pe_int (pe_listVals rfl (pv 2) rfl (M.fr "list") (by decide +kernel)) (by with_unfolding_all rfl)) (pe_gd (ok_stand_from M Tbl) hr (by decide) rfl passL (pa_cons (pv 0) (pa_cons (pv 2) pa_nil))) pe_non)))), ?_⟩
  · obtain ⟨a, nu, ns, lf, rfl, _⟩ := h
    rfl
  · obtain ⟨a, nu, ns, lf, rfl, hT, pa, hnu, ok, bd, q⟩ := h
    refine ⟨_, rfl, _, rfl, a, nu, ns, lf, rfl, pa, hnu, ok.nn, fun H1 p g1 hp0 hp => ?_⟩
    refine ⟨_, rfl, p, _, rfl, hp, fun l hl => ?_⟩
    have g2 : Gr T [] H1 (upd H1 l (.lst (vsOf (dz ns lf)))) := .new hl
    have hvs : vsOf (dz ns lf) = (ns.map lf).map V.int := vsOf_dz ns lf
    have hin : inV (.int 0) (vsOf (dz ns lf)) = true := by
      obtain ⟨z, hz, e⟩ := ok.zero
      rw [hvs]
      exact List.any_eq_true.mpr ⟨.int 0, List.mem_map.mpr ⟨0, List.mem_map.mpr ⟨z, hz, e⟩, rfl⟩, by decide⟩
    refine ⟨l, _, rfl, .inl (.inl (.inl upd_same)), rfl, ?_, _, rfl, ite2 (fun _ => ?_) fun z => absurd hin z⟩
    · rw [hvs]
      exact List.all_eq_true.mpr fun v hv => by
        obtain ⟨i, _, rfl⟩ := List.mem_map.mp hv
        rfl
    · exact ⟨_, rfl, _, rfl, a, p, ns, lf, rfl, g2.tab (g1.tab hT), (pa.gr g1).gr g2, g2.dK hp, ok, bd, fun H2 p2 g3 h20 h2 => q H2 p2 ((g1.trans g2).trans g3) ((g1.trans g2).mono _ h20) h2⟩
/-! ### the numbers made, as a map -/
def lfM (ns : List Str) (t : Nat) (k : Int) : Str → Int := fun x => ((madeF ns.length t k false).map fun n : Nat => (n : Int)).getD (ns.idxOf x) 0
/-- the drawn stand -/
def resN (ns : List Str) (t : Nat) (k : Int) : Str → Int := standN ns (fun x => (ns.idxOf x : Nat)) (lfM ns t k)
theorem lfM_map {ns : List Str} {t : Nat} {k : Int} (nd : ns.Nodup) (h0 : 0 ≤ k) (h1 : k < nobF ns.length t) : ns.map (lfM ns t k) = (madeF ns.length t k false).map fun n : Nat => (n : Int) := by
  obtain ⟨hl, _⟩ := madeF_ok ns.length t k false h0 (by unfold cntF; simpa using h1)
  refine List.ext_getElem (by rw [List.length_map, List.length_map, hl]) fun i h1 h2 => ?_
  rw [List.length_map] at h1
  rw [List.getElem_map]
  unfold lfM
  rw [nd.idxOf_getElem i h1]
  simp [List.getD, List.getElem?_eq_getElem h2]
theorem lfM_ok {ns : List Str} {t : Nat} {k : Int} (nd : ns.Nodup) (h0 : 0 ≤ k) (h1 : k < nobF ns.length t) : LfOk ns (lfM ns t k) ∧ sumF ns (lfM ns t k) = t := by
  obtain ⟨hl, hs, hz⟩ := madeF_ok ns.length t k false h0 (by unfold cntF; simpa using h1)
  have em := lfM_map nd h0 h1
  have mem : ∀ x ∈ ns, ∃ n ∈ madeF ns.length t k false, lfM ns t k x = (n : Int) := fun x hx => by
    have q : lfM ns t k x ∈ ns.map (lfM ns t k) := List.mem_map_of_mem hx
    rw [em] at q
    obtain ⟨n, hn, e⟩ := List.mem_map.mp q
    exact ⟨n, hn, e.symm⟩
  refine ⟨⟨fun x hx => ?_, ?_⟩, ?_⟩
  · obtain ⟨n, _, e⟩ := mem x hx
    rw [e]
    exact Int.natCast_nonneg n
  · rcases hz with hz | hz
    · cases hz
    · have q : (0 : Int) ∈ (madeF ns.length t k false).map fun n : Nat => (n : Int) := List.mem_map.mpr ⟨0, hz, rfl⟩
      rw [← em] at q
      obtain ⟨x, hx, e⟩ := List.mem_map.mp q
      exact ⟨x, hx, e⟩
  · unfold sumF
    have key : ∀ l : List Nat, (l.map fun n : Nat => (n : Int)).sum = (l.sum : Nat) := fun l => by
      induction l with
      | nil => rfl
      | cons n r ih => rw [List.map_cons, List.sum_cons, List.sum_cons, ih]; omega
    rw [em, key, hs]
/-! ### stand_at -/
def spStandAt (K : PySem.W.Frag) (T : List NTab) : Sp := fun vs H Q _ => ∃ (a : Addr) (ns : List Str) (t : Nat) (k : Int), vs = [.ref a, .int t, .int k] ∧ TabsN T H ∧ PathAt K H a ns ∧ t < 2 ^ 58 ∧ 0 ≤ k ∧ k < nobF ns.length t ∧
  ∀ H' p, Gr T [] H H' → H p = none → H' p = some (.dK (dz ns (resN ns t k))) → Q (.ref p) H'
theorem sc84 : FnScope ["path", "total", "number"] ["path", "total", "number"] (defScope (top 84)) := ⟨rfl, rfl, rfl, by decide +kernel, rfl, by decide +kernel, by decide +kernel⟩
theorem ok_stand_at (M : Mo K mg) (X : Me P K mg) (I : Is K) (Tbl : Tb K mg base T) : Gd P w K mg base 8 "stand_at" ["path", "total", "number"] (spStandAt K T) := by
  refine gd_of (M.df "stand_at" 84) sc84 (fun F => F.bindsN fun _ _ _ _ _ _ us hl => match us, hl with | [_, _, _], _ => rfl) (fun vs H Q E h => ?_) fun cdv A outer s H vs Q E hr h => ⟨_, (pss_cons (ps_expr (pe_gd (ok_check_total (T := T) M X I) hr (by decide) rfl passL (pa_cons (pv 0) (pa_cons (pv 1) pa_nil)))) (pss_cons (ps_if (PW.pt (pw_or (pt_not (pt_val (pe_gd (ok_is_number M) hr (by decide) rfl passL (pa_cons (pv 2) pa_nil)))) (pw_or1 (pt_cmpR op_ge (pv 2) (pe_gd (ok_nobody M) hr (by decide) rfl passL (pa_cons (pe_fld (pv 0) rfl) (pa_cons (pv 1) pa_nil))) (nomark _))))) (pss_one (ps_raise rfl (takes_of rfl rfl rfl rfl) pmk_no)) pss_nil) (pss_one (ps_ret (pe_gd (ok_stand_of_made M X I Tbl) hr (by decide) rfl passL (pa_cons (pv 0) (pa_cons (pe_dictZip rfl rfl (M.fr "dict") rfl (M.fr "zip") (by decide +kernel) (by decide +kernel) (pe_fld (pv 0) rfl) (pe_gd (ok_made_at (T := T) M) hr (by decide) rfl passL (pa_cons (pe_fld (pv 0) rfl) (pa_cons (pv 1) (pa_cons (pv 2) pa_nil))))) pa_nil))))))), ?_⟩
  · obtain ⟨a, ns, t, k, rfl, _⟩ := h
    rfl
  · obtain ⟨a, ns, t, k, rfl, hT, pa, ht, h0, h1k, q⟩ := h
    obtain ⟨dx, fs, tn, h1, h2, h3, htn⟩ := pa.ex
    have le := pa.le
    refine ⟨_, rfl, _, rfl, _, _, rfl, .inr ⟨a, ns, rfl, pa, .inl ⟨t, rfl, by omega, ?_⟩⟩⟩
    refine ⟨_, rfl, _, true, rfl, .inl ⟨k, rfl, (decide_eq_true h0).symm⟩, ?_⟩
    refine ⟨true, rfl, _, rfl, _, rfl, a, _, dx, fs, _, rfl, h1, M.pcls, M.pmany, h3, _, rfl, _, _, rfl, ⟨by omega, by omega, by omega, by omega⟩, ?_⟩
    refine ⟨_, _, rfl, rfl, _, rfl, ite2 (fun z => absurd (of_decide_eq_true z) (by omega)) fun _ => ?_⟩
    refine ⟨_, rfl, _, rfl, a, _, dx, fs, _, rfl, h1, M.pcls, M.pnames, h2, _, rfl, a, _, dx, fs, _, rfl, h1, M.pcls, M.pmany, h3, _, rfl, _, rfl, ns.length, t, k, rfl, by omega, ht, h0, h1k, fun H1 l g1 hl0 hl => ?_⟩
    obtain ⟨lok, lsum⟩ := lfM_ok (t := t) pa.nd h0 h1k
    obtain ⟨hlen, _⟩ := madeF_ok ns.length t k false h0 (by unfold cntF; simpa using h1k)
    have ekeys : ns.map V.str = (ns.map fun x => (Sum.inr x : Key)).map kV := by
      rw [List.map_map]
      rfl
    have enat : natsV (madeF ns.length t k false) = ((madeF ns.length t k false).map fun n : Nat => (n : Int)).map V.int := by
      unfold natsV
      rw [List.map_map]
      rfl
    refine ⟨tn, l, ns.map fun x => (Sum.inr x : Key), _, rfl, .inr (.inl (.inl (by rw [g1.tup htn, ekeys]))), .inl (.inl (.inl hl)), by rw [List.length_map, enat, List.length_map, List.length_map, hlen], fun p hp => ?_⟩
    rw [enat, merge_zip pa.nd (by rw [List.length_map, hlen])]
    have g2 : Gr T [] H1 (upd H1 p (.dK (dz ns (lfM ns t k)))) := .new hp
    exact ⟨a, p, ns, lfM ns t k, rfl, g2.tab (g1.tab hT), (pa.gr g1).gr g2, upd_same, lok, by rw [lsum]; omega, fun H2 p2 g3 h20 h2' => q H2 p2 ((g1.trans g2).trans g3) ((g1.trans g2).mono _ h20) h2'⟩
end Rw
set_option maxHeartbeats 4000000
/-! The walks: drawn_stand. -/
namespace Rw
open PySem PySem.Spec PyProof.Rows L2 LamX NdefX
variable {P : Program} {w : World} {K : PySem.W.Frag} {mg : Str → Option Value} {base : Heap} {T : List NTab}
/-- what is refused as a chooser -/
def BadC (P : Program) (w : World) (K : PySem.W.Frag) (T : List NTab) (H : Hp) (x : V) : Prop := x = .non ∨ (x ≠ .non ∧ ∃ t, Ty P w K T H x t ∧ PySem.W.kitAny K t (chooL K) = some true)
def ThrownG (K : PySem.W.Frag) (T : List NTab) (c fld : Str) (x : V) (E : XK) (H : Hp) : Prop := ∀ H', Gr T [] H H' → Thrown K c fld x E H'
theorem ThrownG.now {c fld : Str} {x : V} {E : XK} {H : Hp} (h : ThrownG K T c fld x E H) : Thrown K c fld x E H := h H (.refl _)
theorem ThrownG.gr {c fld : Str} {x : V} {E : XK} {H H' : Hp} (h : ThrownG K T c fld x E H) (g : Gr T [] H H') : ThrownG K T c fld x E H' := fun H2 g2 => h H2 (g.trans g2)
def spCheckC (P : Program) (w : World) (K : PySem.W.Frag) (T : List NTab) : Sp := fun vs H Q E => ∃ x, vs = [x] ∧ ((BadC P w K T H x ∧ ThrownG K T "BadChooser" "thing" x E H) ∨ (x ≠ .non ∧ ∃ t, Ty P w K T H x t ∧ PySem.W.kitAny K t (chooL K) = some false ∧ ∀ H', Gr T [] H H' → Q .non H'))
theorem sc62 : FnScope ["thing"] ["thing"] (defScope (top 62)) := ⟨rfl, rfl, rfl, by decide +kernel, rfl, by decide +kernel, by decide +kernel⟩
theorem ok_check_chooser (M : Mo K mg) (X : Me P K mg) : Gd P w K mg base 3 "check_chooser" ["thing"] (spCheckC P w K T) := by
  obtain ⟨f, F⟩ := X.choo.ex
  refine gd_of (M.df "check_chooser" 62) sc62 (fun F => F.bindsN fun _ _ _ _ _ _ us hl => match us, hl with | [_], _ => rfl) (fun vs H Q E h => ?_) fun cdv A outer s H vs Q E hr h => ⟨_, (pss_one (ps_if (PW.pt (pw_or (pt_cmpR op_isN (pv 0) pe_non (nomark _)) (pw_or1 (pt_val (pe_callB call_isZ rfl (M.fr "isinstance") (by decide +kernel) (pa_cons (pv 0) (pa_cons (pe_tup (pa_cons (pe_tyN "int" rfl (M.fr "int") (by decide +kernel)) (pa_cons (pe_tyN "bool" rfl (M.fr "bool") (by decide +kernel)) (pa_cons (pe_tyN "str" rfl (M.fr "str") (by decide +kernel)) (pa_cons (pe_tyN "list" rfl (M.fr "list") (by decide +kernel)) (pa_cons (pe_tyN "tuple" rfl (M.fr "tuple") (by decide +kernel)) (pa_cons (pe_tyN "dict" rfl (M.fr "dict") (by decide +kernel)) (pa_cons (pe_glob (v := .ref (He.ga K "Path")) rfl (M.gl "Path") rfl) (pa_cons (pe_glob (v := .ref (He.ga K "Desk")) rfl (M.gl "Desk") rfl) (pa_cons (pe_glob (v := .ref (He.ga K "WalkError")) rfl (M.gl "WalkError") rfl) pa_nil)))))))))) pa_nil))))))) (pss_one (ps_raise rfl (takes_of rfl rfl rfl rfl) (pmk_x F.oex F.iC F.tI (init21 X F) (hr.mono (by decide)) passL rfl X.choo.gl (pa_cons (pv 0) pa_nil) tvar_mono))) pss_nil)), ?_⟩
  · obtain ⟨x, rfl, _⟩ := h
    rfl
  · obtain ⟨x, rfl, h⟩ := h
    have cls : Paired ClsV [.ty "int", .ty "bool", .ty "str", .ty "list", .ty "tuple", .ty "dict", .ref (He.ga K "Path"), .ref (He.ga K "Desk"), .ref (He.ga K "WalkError")] (chooL K) := .cons (.ty _) (.cons (.ty _) (.cons (.ty _) (.cons (.ty _) (.cons (.ty _) (.cons (.ty _) (.cons (.own _) (.cons (.own _) (.cons (.own _) .nil))))))))
    rcases h with ⟨rfl | ⟨nx, t, ty, e⟩, q⟩ | ⟨nx, t, ty, e, q⟩
    · exact ⟨_, rfl, rfl, _, rfl, ite2 (fun _ => ⟨_, rfl, _, rfl, q.now⟩) fun z => absurd (decide_eq_true rfl) z⟩
    · exact ⟨_, rfl, rfl, _, rfl, ite2 (fun z => absurd (of_decide_eq_true z) nx) fun _ => ⟨_, rfl, szl, fun p hp => ⟨x, p, _, t, _, true, rfl, upd_same, cls, ty _ (.new hp), e, _, rfl, _, rfl, _, rfl, q _ (.new hp)⟩⟩⟩
    · exact ⟨_, rfl, rfl, _, rfl, ite2 (fun z => absurd (of_decide_eq_true z) nx) fun _ => ⟨_, rfl, szl, fun p hp => ⟨x, p, _, t, _, false, rfl, upd_same, cls, ty _ (.new hp), e, _, rfl, q _ (.new hp)⟩⟩⟩
/-! ### chosen -/
def BadN (P : Program) (w : World) (K : PySem.W.Frag) (T : List NTab) (m : Int) (v : V) (H : Hp) : Prop := NotNum P w K T H v ∨ ∃ n : Int, v = .int n ∧ 0 ≤ n ∧ m ≤ n
/-- what a call of sp may tell -/
def Tells (sp : Sp) (vs : List V) (H : Hp) (E : XK) (C : V → Hp → Prop) : Prop := ∀ Q : VK, (∀ v H1, C v H1 → Q v H1) → sp vs H Q E
def spChosen (P : Program) (w : World) (K : PySem.W.Frag) (mg : Str → Option Value) (base : Heap) (T : List NTab) : Sp := fun vs H Q E => ∃ (f : Addr) (m : Int) (Hc : Hp → Prop) (sp : Sp) (C : V → Hp → Prop), vs = [.ref f, .int m] ∧ Fv P w K mg base (L2.CX P w) 2 Hc f 1 sp ∧ Hc H ∧ Tells sp [.int m] H E C ∧
  ∀ v H1, C v H1 → ((∃ n : Int, v = .int n ∧ 0 ≤ n ∧ n < m ∧ Q (.int n) H1) ∨ (BadN P w K T m v H1 ∧ Thrown K "BadNumber" "number" v E H1))
theorem sc63 : FnScope ["chooser", "many", "told"] ["chooser", "many"] (defScope (top 63)) := ⟨rfl, rfl, rfl, by decide +kernel, rfl, by decide +kernel, by decide +kernel⟩
theorem ok_chosen (M : Mo K mg) (X : Me P K mg) : Gd P w K mg base 3 "chosen" ["chooser", "many"] (spChosen P w K mg base T) := by
  obtain ⟨f, F⟩ := X.num.ex
  refine gd_of (M.df "chosen" 63) sc63 (fun F => F.bindsN fun _ _ _ _ _ _ us hl => match us, hl with | [_, _], _ => rfl) (fun vs H Q E h => ?_) fun cdv A outer s H vs Q E hr h => ⟨_, (pss_cons (ps_set (i := 2) sc63.nd rfl (Or.inl rfl) (pe_callV (P := P) (w := w) (K := K) (mg := mg) (base := base) rfl rfl rfl rfl rfl hr (passes_call (takes_of rfl rfl rfl rfl) fun _ _ _ _ z => z) (i := 0) rfl (by first | exact Or.inl rfl | exact Or.inr (Or.inl rfl) | exact Or.inr (Or.inr rfl)) (pa_cons (pv 1) pa_nil))) (pss_cons (ps_if (PW.pt (pw_or (pt_not (pt_val (pe_gd (ok_is_number M) hr (by decide) rfl (passes_call (takes_of rfl rfl rfl rfl) fun _ _ _ _ z => z) (pa_cons (pv 2) pa_nil)))) (pw_or1 (pt_cmpR op_ge (pv 2) (pv 1) (nomark _))))) (pss_one (ps_raise rfl (takes_of rfl rfl rfl rfl) (pmk_x F.oex F.iC F.tI (init20 X F) (hr.mono (by decide)) passL rfl X.num.gl (pa_cons (pv 2) pa_nil) tvar_mono))) pss_nil) (pss_one (ps_ret (pv 2))))), ?_⟩
  · obtain ⟨f, m, Hc, sp, C, rfl, _⟩ := h
    rfl
  · obtain ⟨f, m, Hc, sp, C, rfl, fv, hc, ht, q⟩ := h
    refine ⟨f, Hc, 1, sp, rfl, fv, hc, _, rfl, hc, ht _ fun v H1 c => ?_⟩
    rcases q v H1 c with ⟨n, rfl, n0, nm, q⟩ | ⟨bad, q⟩
    · exact ⟨_, rfl, _, true, rfl, .inl ⟨n, rfl, (decide_eq_true n0).symm⟩, true, rfl, _, rfl, _, rfl, _, _, rfl, rfl, _, rfl, ite2 (fun z => absurd (of_decide_eq_true z) (by omega)) fun _ => ⟨_, rfl, q⟩⟩
    · rcases bad with nn | ⟨n, rfl, n0, mn⟩
      · exact ⟨_, rfl, _, false, rfl, nn H1 (.refl _), _, rfl, _, rfl, _, rfl, q⟩
      · exact ⟨_, rfl, _, true, rfl, .inl ⟨n, rfl, (decide_eq_true n0).symm⟩, true, rfl, _, rfl, _, rfl, _, _, rfl, rfl, _, rfl, ite2 (fun _ => ⟨_, rfl, _, rfl, q⟩) fun z => absurd (decide_eq_true mn) z⟩
/-! ### drawn_stand -/
def spDrawn (P : Program) (w : World) (K : PySem.W.Frag) (mg : Str → Option Value) (base : Heap) (T : List NTab) : Sp := fun vs H Q E => ∃ x y z : V, vs = [x, y, z] ∧
  ((BadP P w K T H x ∧ ThrownG K T "BadPath" "thing" x E H) ∨ ∃ (a : Addr) (ns : List Str), x = .ref a ∧ PathAt K H a ns ∧
  ((NotNum P w K T H y ∧ ThrownG K T "BadTotal" "total" y E H) ∨ ∃ t : Nat, y = .int t ∧ t < 2 ^ 58 ∧
  ((BadC P w K T H z ∧ ThrownG K T "BadChooser" "thing" z E H) ∨ ∃ (f : Addr) (Hc : Hp → Prop) (sp : Sp), z = .ref f ∧ TabsN T H ∧ Ty P w K T H z (.type "function") ∧ Fv P w K mg base (L2.CX P w) 2 Hc f 1 sp ∧
    ∀ H', Gr T [] H H' → Hc H' ∧ ∃ C : V → Hp → Prop, Tells sp [.int (nobF ns.length t)] H' E C ∧ ∀ v H1, C v H1 →
      ((∃ (n : Int) (B : List Addr), v = .int n ∧ 0 ≤ n ∧ n < nobF ns.length t ∧ Gr T B H' H1 ∧ ∀ H2 p, Gr T [] H1 H2 → H1 p = none → H2 p = some (.dK (dz ns (resN ns t n))) → Q (.ref p) H2) ∨
        (BadN P w K T (nobF ns.length t) v H1 ∧ Thrown K "BadNumber" "number" v E H1)))))
theorem sc85 : FnScope ["path", "total", "chooser"] ["path", "total", "chooser"] (defScope (top 85)) := ⟨rfl, rfl, rfl, by decide +kernel, rfl, by decide +kernel, by decide +kernel⟩
theorem ok_drawn_stand (M : Mo K mg) (X : Me P K mg) (I : Is K) (Tbl : Tb K mg base T) : Gd P w K mg base 9 "drawn_stand" ["path", "total", "chooser"] (spDrawn P w K mg base T) := by
  refine gd_of (M.df "drawn_stand" 85) sc85 (fun F => F.bindsN fun _ _ _ _ _ _ us hl => match us, hl with | [_, _, _], _ => rfl) (fun vs H Q E h => ?_) fun cdv A outer s H vs Q E hr h => ⟨_, (pss_cons (ps_expr (pe_gd (ok_check_total (T := T) M X I) hr (by decide) rfl (passes_call (takes_of rfl rfl rfl rfl) fun _ _ _ _ z => z) (pa_cons (pv 0) (pa_cons (pv 1) pa_nil)))) (pss_cons (ps_expr (pe_gd (ok_check_chooser (T := T) M X) hr (by decide) rfl (passes_call (takes_of rfl rfl rfl rfl) fun _ _ _ _ z => z) (pa_cons (pv 2) pa_nil))) (pss_one (ps_ret (pe_gd (ok_stand_at M X I Tbl) hr (by decide) rfl (passes_call (takes_of rfl rfl rfl rfl) fun _ _ _ _ z => z) (pa_cons (pv 0) (pa_cons (pv 1) (pa_cons (pe_gd (ok_chosen (T := T) M X) hr (by decide) rfl (passes_call (takes_of rfl rfl rfl rfl) fun _ _ _ _ z => z) (pa_cons (pv 2) (pa_cons (pe_gd (ok_nobody M) hr (by decide) rfl (passes_call (takes_of rfl rfl rfl rfl) fun _ _ _ _ z => z) (pa_cons (pe_fld (pv 0) rfl) (pa_cons (pv 1) pa_nil))) pa_nil))) pa_nil)))))))), ?_⟩
  · obtain ⟨x, y, z, rfl, _⟩ := h
    rfl
  · obtain ⟨x, y, z, rfl, h⟩ := h
    rcases h with ⟨b, q⟩ | ⟨a, ns, rfl, pa, h⟩
    · exact ⟨_, rfl, _, rfl, _, _, rfl, .inl ⟨b, q.now⟩⟩
    rcases h with ⟨b, q⟩ | ⟨t, rfl, ht, h⟩
    · exact ⟨_, rfl, _, rfl, _, _, rfl, .inr ⟨a, ns, rfl, pa, .inr ⟨b, q.now⟩⟩⟩
    have t0 : (0 : Int) ≤ t := by omega
    rcases h with ⟨b, q⟩ | ⟨f, Hc, sp, rfl, hT, ty, fv, q⟩
    · exact ⟨_, rfl, _, rfl, _, _, rfl, .inr ⟨a, ns, rfl, pa, .inl ⟨t, rfl, t0, _, rfl, _, rfl, .inl ⟨b, q⟩⟩⟩⟩
    refine ⟨_, rfl, _, rfl, _, _, rfl, .inr ⟨a, ns, rfl, pa, .inl ⟨t, rfl, t0, _, rfl, _, rfl, .inr ⟨(fun z => nomatch z), _, ty, I.cfn, fun H' g => ?_⟩⟩⟩⟩
    obtain ⟨hc, C, tells, q⟩ := q H' g
    have pa1 := pa.gr g
    obtain ⟨dx, fs, tn, h1, h2, h3, htn⟩ := pa1.ex
    have le := pa.le
    refine ⟨_, rfl, _, rfl, _, rfl, _, rfl, a, _, dx, fs, _, rfl, h1, M.pcls, M.pmany, h3, _, rfl, _, _, rfl, ⟨by omega, by omega, by omega, by omega⟩, f, _, Hc, sp, C, rfl, fv, hc, tells, fun v H1 c => ?_⟩
    rcases q v H1 c with ⟨n, B, rfl, n0, nm, g1, q⟩ | ⟨bad, q⟩
    · refine .inl ⟨n, rfl, n0, nm, ?_⟩
      exact ⟨a, ns, t, n, rfl, g1.tab (g.tab hT), pa1.gr g1, ht, n0, nm, q⟩
    · exact .inr ⟨bad, q⟩
end Rw
set_option maxHeartbeats 4000000
/-! The law's defs: the stream. -/
namespace Rw
open PySem PySem.Spec PyProof.Rows L2 LamX NdefX
variable {P : Program} {w : World} {K : PySem.W.Frag} {mg : Str → Option Value} {base : Heap} {T : List NTab}
theorem sql_gr {H H' : Hp} {a : Addr} {xs : List V} (g : Gr T [] H H') (h : SqL K H a xs) : SqL K H' a xs := by
  rcases h with (h | ⟨o, h⟩) | h
  · exact .inl (.inl (g.lst h (fun z => nomatch z)))
  · exact .inl (.inr ⟨o, g.frz h⟩)
  · exact .inr h
/-- the stream: st its list, big the list of the large cells; n draws are left -/
def StrmAt (n : Nat) (st big : Addr) (H : Hp) : Prop := st ≠ big ∧ ∃ (xs : List Int) (m c d : Int), H st = some (.lst [.ref big, .int m, .int c, .int d]) ∧ H big = some (.lst (xs.map V.int)) ∧ 0 ≤ m ∧ m < 2147483629 ∧ 0 ≤ c ∧ c + n ≤ 1000000 ∧ (∀ x ∈ xs, 0 ≤ x) ∧ 0 ≤ d ∧ xs.length ≤ 100
theorem StrmAt.gr {n : Nat} {st big : Addr} {H H' : Hp} (s : StrmAt n st big H) (g : Gr T [] H H') : StrmAt n st big H' :=
  let ⟨ne, xs, m, c, d, h1, h2, r⟩ := s
  ⟨ne, xs, m, c, d, g.lst h1 (fun z => nomatch z), g.lst h2 (fun z => nomatch z), r⟩
theorem StrmAt.le {n k : Nat} {st big : Addr} {H : Hp} (s : StrmAt n st big H) (h : k ≤ n) : StrmAt k st big H :=
  let ⟨ne, xs, m, c, d, h1, h2, m0, m1, c0, c1, r⟩ := s
  ⟨ne, xs, m, c, d, h1, h2, m0, m1, c0, by omega, r⟩
def spStart (K : PySem.W.Frag) (T : List NTab) : Sp := fun vs H Q _ => ∃ (a : Addr) (xs : List Int), vs = [.ref a] ∧ SqL K H a (xs.map V.int) ∧ xs.length ≤ 100 ∧ ∀ H' st big, Gr T [] H H' → H st = none → H big = none → StrmAt 1000000 st big H' → Q (.ref st) H'
theorem sc87 : FnScope ["_law_script", "_law_mix", "_law_cell"] ["_law_script"] (defScope (top 87)) := ⟨rfl, rfl, rfl, by decide +kernel, rfl, by decide +kernel, by decide +kernel⟩
theorem ok_start (M : Mo K mg) : Gd P w K mg base 1 "_law_start" ["_law_script"] (spStart K T) := by
  refine gd_of (M.df "_law_start" 87) sc87 (fun F => F.bindsN fun _ _ _ _ _ _ us hl => match us, hl with | [_], _ => rfl) (fun vs H Q E h => ?_) fun cdv A outer s H vs Q E hr h => ⟨_, (pss_cons (ps_set (i := 1) sc87.nd rfl (Or.inl rfl) pe_int) (pss_cons (ps_for (passes_of rfl) rfl (pi_list (pv 0)) (pg_name (i := 2) sc87.nd rfl (Or.inl rfl)) (pss_one (ps_set (i := 1) sc87.nd rfl (Or.inl rfl) (pe_op op_mod (pe_callTy call_int1 rfl (M.fr "int") (by decide +kernel) (pa_cons (pe_op op_add (pe_op op_add (pe_op op_mul (pv 1) pe_int) (pv 2)) pe_int) pa_nil)) pe_int)))) (pss_one (ps_ret (pe_lst (pa_cons (pe_lc (own := [("_law_cell", 2)]) rfl sc87.nd (pi_list (pv 0)) (blkOk_by (by kernel_rfl)) (fun _ _ _ _ _ => (pg_name (i := 2) sc87.nd rfl (Or.inl rfl) (hf := Or.inr rfl))) (fun _ _ _ _ _ => (pts_one (pt_cmpR op_ge (pv 2) (pe_op op_pow pe_int pe_int) (nomark _)))) (fun _ _ _ _ _ => (pv 2))) (pa_cons (pv 1) (pa_cons pe_int (pa_cons pe_int pa_nil))))))))), ?_⟩
  · obtain ⟨a, xs, rfl, _⟩ := h
    rfl
  · obtain ⟨a, xs, rfl, ha, hl, q⟩ := h
    refine ⟨_, rfl, a, rfl, ⟨_, ha⟩, ?_⟩
    refine for_it (walk_list (xs := xs.map V.int)) (fun i σ H' => H' = H ∧ ∃ (m : Int) (z : Option V), σ = [some (.ref a), some (.int m), z] ∧ 0 ≤ m ∧ m < 2147483629) ⟨rfl, 17, none, rfl, by decide, by decide⟩ (fun i σ H' _ h => by rw [h.1]; exact ha) (fun i x σ H1 H2 hi ⟨e1, m, z, e2, m0, m1⟩ ⟨e3, hx⟩ => ?_) ?_
    · subst e1 e2 e3
      rw [List.getElem?_map] at hx
      obtain ⟨c, hc⟩ : ∃ c, xs[i]? = some c := by
        cases q : xs[i]? with
        | none => rw [q] at hx; cases hx
        | some c => exact ⟨c, rfl⟩
      rw [hc] at hx
      cases hx
      refine ⟨_, rfl, _, _, rfl, rfl, .inl ⟨by omega, by omega⟩, _, rfl, _, _, rfl, rfl, _, _, rfl, rfl, .inl ⟨_, rfl, _, _, rfl, rfl, (by decide : (0 : Int) < 2147483629), rfl, _, _, rfl, Int.emod_nonneg _ (by decide), Int.emod_lt_of_pos _ (by decide)⟩⟩
    · rintro σ H1 ⟨rfl, m, z, rfl, m0, m1⟩
      refine ⟨_, rfl, a, rfl, ⟨_, ha⟩, fun D hD => ?_⟩
      refine lc_it (walk_list (xs := xs.map V.int)) (fun i H' => Gr T [] H1 H' ∧ ∃ ys : List Int, H' D = some (.lst (ys.map V.int)) ∧ (∀ y ∈ ys, 0 ≤ y) ∧ ys.length ≤ i) ⟨.new hD, [], upd_same, fun _ z => (nomatch z), Nat.le_refl _⟩ (fun i H' _ h => sql_gr h.1 ha) (fun i x H2 H3 hi ⟨g, ys, hys, nn, le⟩ ⟨e, hx⟩ => ?_) fun H2 ⟨g, ys, hys, nn, le⟩ => ?_
      · subst e
        rw [List.length_map] at hi
        have hx' : (xs.map V.int)[i]? = some x := hx
        rw [List.getElem?_map, List.getElem?_eq_getElem hi] at hx'
        cases hx'
        refine ⟨rfl, _, rfl, _, _, rfl, rfl, ⟨by decide, by decide, by decide⟩, _, _, rfl, rfl, _, rfl, ite2 (fun z => ?_) fun _ => ⟨g, ys, hys, nn, by omega⟩⟩
        have z' := of_decide_eq_true z
        refine ⟨_, rfl, _, hys, ?_, g.ownL hD hys, ys ++ [xs[i]], ?_, ?_, ?_⟩
        · rw [List.length_map]
          exact small1000 (by omega)
        · rw [upd_same, List.map_append]
          rfl
        · intro y hy
          rcases List.mem_append.mp hy with hy | hy
          · exact nn y hy
          · rw [List.mem_singleton.mp hy]
            exact Int.le_trans (by decide) z'
        · rw [List.length_append]
          show ys.length + 1 ≤ i + 1
          omega
      · refine ⟨_, rfl, szl, fun p hp => q _ p D (g.trans (.new hp)) (g.mono _ hp) hD ⟨fun z => ?_, ys, m, 0, 0, upd_same, ?_, m0, m1, by decide, by decide, nn, by decide, ?_⟩⟩
        · rw [z, hys] at hp
          cases hp
        · rw [upd_ne (fun z => by rw [← z, hys] at hp; cases hp)]
          exact hys
        · rw [List.length_map] at le
          omega
end Rw
set_option maxHeartbeats 4000000
/-! The law's defs: a draw. -/
namespace Rw
open PySem PySem.Spec PyProof.Rows L2 LamX NdefX
variable {P : Program} {w : World} {K : PySem.W.Frag} {mg : Str → Option Value} {base : Heap} {T : List NTab}
theorem seq_join {tif rest : TS} {D : Ends} {σ : L2.St} {H : Hp} (R : L2.St → Hp → Prop) (tail : ∀ σ' H', R σ' H' → rest D σ' H') (h : ∀ F : L2.St → Hp → Prop, (∀ σ' H', R σ' H' → F σ' H') → tif { D with nx := F } σ H) : tSeq tif rest D σ H := h (rest D) tail
theorem dp_ints {H : Hp} {a : Addr} : ∀ {xs : List Int}, DpAll K H (xs.map V.int) (xs.map PyData.int)
  | [] => .nil
  | x :: r => .cons (.int x) (dp_ints (a := a))
theorem shaped_ints (xs : List Int) : SeqAt.shaped (.list (xs.map PyData.int)) = true := by
  have h1 : PyData.canLayAll0 (xs.map PyData.int) = true := by
    induction xs with
    | nil => rfl
    | cons x r ih => exact ih
  have h2 : PyData.depthAll (xs.map PyData.int) = 0 := by
    clear h1
    induction xs with
    | nil => rfl
    | cons x r ih => exact (Nat.zero_max _).trans ih
  unfold SeqAt.shaped
  rw [show (PyData.list (xs.map PyData.int)).canLay0 = PyData.canLayAll0 (xs.map PyData.int) from rfl, h1, show (PyData.list (xs.map PyData.int)).depth = PyData.depthAll (xs.map PyData.int) + 1 from rfl, h2]
  rfl
def spDraw (T : List NTab) : Sp := fun vs H Q _ => ∃ (st big : Addr) (n : Nat) (k : Int), vs = [.ref st, .int k] ∧ StrmAt (n + 1) st big H ∧ 1 ≤ k ∧ k.natAbs.log2 < 9000 ∧ ∀ H' v, Gr T [st, big] H H' → StrmAt n st big H' → 0 ≤ v → v < k → Q (.int v) H'
theorem sc88 : FnScope ["_law_stream", "_law_many", "_law_digit", "_law_mixed_here"] ["_law_stream", "_law_many"] (defScope (top 88)) := ⟨rfl, rfl, rfl, by decide +kernel, rfl, by decide +kernel, by decide +kernel⟩
theorem ok_draw (M : Mo K mg) : Gd P w K mg base 1 "_law_draw" ["_law_stream", "_law_many"] (spDraw T) := by
  refine gd_of (M.df "_law_draw" 88) sc88 (fun F => F.bindsN fun _ _ _ _ _ _ us hl => match us, hl with | [_, _], _ => rfl) (fun vs H Q E h => ?_) fun cdv A outer s H vs Q E hr h => ⟨_, (pss_cons (ps_asg (pe_op op_add (pe_ix ix_list (pv 0) pe_int (fun _ _ => rfl)) pe_int) (pg_sub (pv 0) pe_int set_list)) (pss_cons (ps_if (PW.pt (pw_and (pt_cmpR op_eq (pe_ix ix_list (pv 0) pe_int (fun _ _ => rfl)) pe_int (nomark _)) (pw_and1 (pt_cmpR (op_neD hr.units) (pe_ix ix_list (pv 0) pe_int (fun _ _ => rfl)) (pe_lst pa_nil) (nomark _))))) (pss_one (ps_asg (pe_bm PySem.F.plainAttrs_list PySem.F.slot_list_pop PySem.F.type_list_pop mt_popAt (pe_ix ix_list (pv 0) pe_int (fun _ _ => rfl)) (pa_cons pe_int pa_nil)) (pg_sub (pv 0) pe_int set_list))) pss_nil) (pss_cons (ps_if (pt_cmpR op_gt (pe_ix ix_list (pv 0) pe_int (fun _ _ => rfl)) pe_int (nomark _)) (pss_cons (ps_set (i := 2) sc88.nd rfl (Or.inl rfl) (pe_op op_mod (pe_callTy call_int1 rfl (M.fr "int") (by decide +kernel) (pa_cons (pe_ix ix_list (pv 0) pe_int (fun _ _ => rfl)) pa_nil)) (pv 1))) (pss_cons (ps_asg (pe_op op_fdivW (pe_ix ix_list (pv 0) pe_int (fun _ _ => rfl)) (pv 1)) (pg_sub (pv 0) pe_int set_list)) (pss_one (ps_ret (pv 2))))) pss_nil) (pss_cons (ps_set (i := 3) sc88.nd rfl (Or.inl rfl) (pe_op op_mod (pe_op op_pow (pe_callTy call_int1 rfl (M.fr "int") (by decide +kernel) (pa_cons (pe_op op_add (pe_op op_add (pe_ix ix_list (pv 0) pe_int (fun _ _ => rfl)) (pe_op op_mul pe_int (pe_ix ix_list (pv 0) pe_int (fun _ _ => rfl)))) pe_int) pa_nil)) pe_int) pe_int)) (pss_one (ps_ret (pe_op op_mod (pe_op op_fdiv (pe_op op_mod (pe_op op_pow (pe_callTy call_int1 rfl (M.fr "int") (by decide +kernel) (pa_cons (pe_op op_add (pe_op op_add (pe_op op_mul (pv 3) pe_int) (pe_op op_mul pe_int (pe_ix ix_list (pv 0) pe_int (fun _ _ => rfl)))) pe_int) pa_nil)) pe_int) pe_int) pe_int) (pv 1)))))))), ?_⟩
  · obtain ⟨st, big, n, k, rfl, _⟩ := h
    rfl
  · obtain ⟨st, big, n, k, rfl, ⟨ne, xs, m, c, d, h1, h2, m0, m1, c0, c1, nn, d0, xl⟩, k1, kl, q⟩ := h
    have e0 : Gr T [st, big] H (upd H st (.lst [.ref big, .int m, .int (c + 1), .int d])) := .putL (by simp) h1
    refine ⟨_, rfl, _, _, _, _, rfl, rfl, .inl (.inl h1), rfl, _, _, rfl, rfl, _, rfl, _, _, _, _, rfl, rfl, h1, rfl, ?_⟩
    dsimp only
    refine seq_join (fun σ' H' => σ' = [some (.ref st), some (.int k), none, none] ∧ Gr T [st, big] H H' ∧ ∃ (xs' : List Int) (d' : Int), H' st = some (.lst [.ref big, .int m, .int (c + 1), .int d']) ∧ H' big = some (.lst (xs'.map V.int)) ∧ (∀ x ∈ xs', 0 ≤ x) ∧ 0 ≤ d' ∧ xs'.length ≤ 100) ?_ fun F hF => ?_
    · rintro _ H' ⟨rfl, g, xs', d', h1', h2', nn', d0', xl'⟩
      have kp : (0 : Int) < k := by omega
      have lg : H' st = some (.lst [.ref big, .int m, .int (c + 1), .int d']) := h1'
      refine ⟨_, rfl, _, _, _, _, rfl, rfl, .inl (.inl h1'), rfl, _, _, rfl, rfl, _, rfl, ite2 (fun z => ?_) fun z => ?_⟩
      · refine ⟨_, rfl, _, _, _, _, rfl, rfl, .inl (.inl h1'), rfl, .inl ⟨_, rfl, _, rfl, _, _, rfl, rfl, kp, ?_⟩⟩
        refine ⟨_, rfl, _, _, _, _, rfl, rfl, .inl (.inl h1'), rfl, _, rfl, _, _, rfl, rfl, ⟨kp, kl⟩, _, rfl, _, _, _, _, rfl, rfl, h1', rfl, _, rfl, ?_⟩
        refine q _ _ (g.trans (.putL (by simp) h1')) ⟨ne, xs', m, c + 1, d' / k, upd_same, (upd_ne (Ne.symm ne)).trans h2', m0, m1, by omega, by omega, nn', Int.ediv_nonneg d0' (by omega), xl'⟩ (Int.emod_nonneg _ (by omega)) (Int.emod_lt_of_pos _ kp)
      · refine ⟨_, rfl, _, _, _, _, rfl, rfl, .inl (.inl h1'), rfl, _, rfl, _, _, _, _, rfl, rfl, .inl (.inl h1'), rfl, _, _, rfl, rfl, .inl ⟨by omega, by omega⟩, _, _, rfl, rfl, _, _, rfl, rfl, .inl ⟨_, rfl, _, _, rfl, rfl, ⟨by decide, by decide, by omega⟩, _, _, rfl, rfl, (by decide : (0 : Int) < 2147483647), ?_⟩⟩
        have b1 := Int.emod_nonneg ((m + 7919 * (c + 1) + 104729) ^ (5 : Int).toNat) (by decide : (2147483647 : Int) ≠ 0)
        have b2 := Int.emod_lt_of_pos ((m + 7919 * (c + 1) + 104729) ^ (5 : Int).toNat) (by decide : (0 : Int) < 2147483647)
        dsimp only
        generalize (m + 7919 * (c + 1) + 104729) ^ (5 : Int).toNat % 2147483647 = mh at b1 b2 ⊢
        refine ⟨_, rfl, _, _, rfl, rfl, .inl ⟨by omega, by omega⟩, _, rfl, _, _, _, _, rfl, rfl, .inl (.inl h1'), rfl, _, _, rfl, rfl, .inl ⟨by omega, by omega⟩, _, _, rfl, rfl, _, _, rfl, rfl, .inl ⟨_, rfl, _, _, rfl, rfl, ⟨by decide, by decide, by omega⟩, _, _, rfl, rfl, (by decide : (0 : Int) < 1000000007), _, _, rfl, rfl, ⟨by decide, by decide⟩, _, rfl, _, _, rfl, rfl, kp, ?_⟩⟩
        exact q _ _ g ⟨ne, xs', m, c + 1, d', h1', h2', m0, m1, by omega, by omega, nn', d0', xl'⟩ (Int.emod_nonneg _ (by omega)) (Int.emod_lt_of_pos _ kp)
    · have e1 : upd H st (.lst [.ref big, .int m, .int (c + 1), .int d]) st = some (.lst [.ref big, .int m, .int (c + 1), .int d]) := upd_same
      have e2 : upd H st (.lst [.ref big, .int m, .int (c + 1), .int d]) big = some (.lst (xs.map V.int)) := (upd_ne (Ne.symm ne)).trans h2
      change tIfS _ _ _ _ _ (upd H st (.lst [.ref big, .int m, .int (c + 1), .int d]))
      generalize upd H st (.lst [.ref big, .int m, .int (c + 1), .int d]) = H1 at e0 e1 e2 ⊢
      refine ⟨_, rfl, _, _, _, _, rfl, rfl, .inl (.inl e1), rfl, rfl, _, rfl, ite2 (fun z => ?_) fun z => hF _ _ ⟨rfl, e0, xs, d, e1, e2, nn, d0, xl⟩⟩
      refine ⟨_, rfl, _, _, _, _, rfl, rfl, .inl (.inl e1), rfl, szl, fun p hp => ?_⟩
      have g1 : Gr T [st, big] H1 (upd H1 p (.lst [])) := .new hp
      have n1 : st ≠ p := fun y => by rw [y, hp] at e1; cases e1
      have n2 : big ≠ p := fun y => by rw [y, hp] at e2; cases e2
      have f1 : upd H1 p (.lst []) st = some (.lst [.ref big, .int m, .int (c + 1), .int d]) := (upd_ne n1).trans e1
      have f2 : upd H1 p (.lst []) big = some (.lst (xs.map V.int)) := (upd_ne n2).trans e2
      have f3 : upd H1 p (.lst []) p = some (.lst []) := upd_same
      generalize upd H1 p (.lst []) = H2 at g1 f1 f2 f3 ⊢
      refine ⟨.list (xs.map PyData.int), .list [], .lst (.inl (.inl f2)) (dp_ints (a := st)), .lst (.inl (.inl f3)) .nil, shaped_ints xs, by decide +kernel, _, rfl, ite2 (fun y => ?_) fun y => hF _ _ ⟨rfl, e0.trans g1, xs, d, f1, f2, nn, d0, xl⟩⟩
      cases xs with
      | nil => exact absurd y (by decide +kernel)
      | cons x r =>
        have g2 : Gr T [st, big] H2 (upd H2 big (.lst (r.map V.int))) := .putL (by simp) f2
        have f4 : upd H2 big (.lst (r.map V.int)) st = some (.lst [.ref big, .int m, .int (c + 1), .int d]) := (upd_ne ne).trans f1
        refine ⟨_, rfl, _, _, _, _, rfl, rfl, .inl (.inl f1), rfl, .inl ⟨rfl, _, .inl (.inl f2)⟩, big, _, 0, 0, .int x, rfl, rfl, f2, by decide, by decide, ?_, rfl, _, rfl, st, _, 3, 3, rfl, rfl, f4, rfl, ?_⟩
        · simp [seqIndex?]
        · refine hF _ _ ⟨rfl, ((e0.trans g1).trans g2).trans (.putL (by simp) f4), r, x, upd_same, ?_, fun y hy => nn y (.tail _ hy), nn x (.head _), ?_⟩
          · rw [upd_ne (Ne.symm ne), upd_same]
            rfl
          · have : (x :: r).length = r.length + 1 := rfl
            omega
end Rw
set_option maxHeartbeats 4000000
/-! The law's defs: names. -/
namespace Rw
open PySem PySem.Spec PyProof.Rows L2 LamX NdefX
variable {P : Program} {w : World} {K : PySem.W.Frag} {mg : Str → Option Value} {base : Heap} {T : List NTab}
theorem seqIx {k n : Nat} (h : k < n) : seqIndex? (k : Int) n = some k := by
  unfold seqIndex?
  have e : ¬ ((k : Int) < 0) := by omega
  simp [e, h]
theorem map_erase {α β : Type} (f : α → β) : ∀ (l : List α) (k : Nat), (l.map f).eraseIdx k = (l.eraseIdx k).map f
  | [], _ => rfl
  | x :: r, 0 => rfl
  | x :: r, k + 1 => congrArg (f x :: ·) (map_erase f r k)
theorem perm_erase {α : Type} : ∀ {l : List α} {k : Nat} (h : k < l.length), ([l[k]] ++ l.eraseIdx k).Perm l
  | x :: r, 0, _ => .refl _
  | x :: r, k + 1, h => (List.Perm.swap x _ _).trans ((perm_erase (Nat.lt_of_succ_lt_succ h)).cons x)
def spMixed (T : List NTab) : Sp := fun vs H Q _ => ∃ (st big th : Addr) (n : Nat) (ss : List Str), vs = [.ref st, .ref th] ∧ StrmAt (n + ss.length) st big H ∧ H th = some (.lst (ss.map V.str)) ∧ ss.length ≤ 100 ∧
  ∀ H' p ps, Gr T [st, big] H H' → StrmAt n st big H' → H p = none → H' p = some (.lst (List.map V.str ps)) → ps.Perm ss → Q (.ref p) H'
theorem sc89 : FnScope ["_law_stream", "_law_things", "_law_left", "_law_found", "_law_k"] ["_law_stream", "_law_things"] (defScope (top 89)) := ⟨rfl, rfl, rfl, by decide +kernel, rfl, by decide +kernel, by decide +kernel⟩
theorem ok_mixed (M : Mo K mg) : Gd P w K mg base 2 "_law_mixed" ["_law_stream", "_law_things"] (spMixed T) := by
  refine gd_of (M.df "_law_mixed" 89) sc89 (fun F => F.bindsN fun _ _ _ _ _ _ us hl => match us, hl with | [_, _], _ => rfl) (fun vs H Q E h => ?_) fun cdv A outer s H vs Q E hr h => ⟨_, (pss_cons (ps_par (i := 2) (j := 3) rfl sc89.nd rfl rfl (by decide) rfl rfl (pa_cons (pe_callTy call_list_of rfl (M.fr "list") (by decide +kernel) (pa_cons (pv 1) pa_nil)) (pa_cons (pe_lst pa_nil) pa_nil)) (by rfl)) (pss_cons (ps_for (passes_of rfl) rfl (pi_range1 rfl (M.fr "range") (pa_cons (pe_callB call_len_seq rfl (M.fr "len") (by decide +kernel) (pa_cons (pv 2) pa_nil)) pa_nil)) (pg_name (i := 4) sc89.nd rfl (Or.inl rfl)) (pss_one (ps_expr (pe_bm PySem.F.plainAttrs_list PySem.F.slot_list_append PySem.F.type_list_append mt_append (pv 3) (pa_cons (pe_bm PySem.F.plainAttrs_list PySem.F.slot_list_pop PySem.F.type_list_pop mt_popAt (pv 2) (pa_cons (pe_gd (ok_draw (T := T) M) hr (by decide) rfl passL (pa_cons (pv 0) (pa_cons (pe_callB call_len_seq rfl (M.fr "len") (by decide +kernel) (pa_cons (pv 2) pa_nil)) pa_nil))) pa_nil)) pa_nil))))) (pss_one (ps_ret (pv 3))))), ?_⟩
  · obtain ⟨st, big, th, n, ss, rfl, _⟩ := h
    rfl
  · obtain ⟨st, big, th, n, ss, rfl, hs, hth, hl, q⟩ := h
    refine ⟨_, rfl, th, _, rfl, .inl (.inl (.inl hth)), fun l hl0 => ⟨szl, fun f hf0 => ⟨_, _, rfl, ?_⟩⟩⟩
    have lf : l ≠ f := fun z => by rw [← z, upd_same] at hf0; cases hf0
    have g0 : Gr T [st, big] H (upd (upd H l (.lst (ss.map V.str))) f (.lst [])) := (Gr.new hl0).trans (.new hf0)
    have e1 : upd (upd H l (.lst (ss.map V.str))) f (.lst []) l = some (.lst (ss.map V.str)) := (upd_ne lf).trans upd_same
    have e2 : upd (upd H l (.lst (ss.map V.str))) f (.lst []) f = some (.lst []) := upd_same
    have s1 : StrmAt (n + ss.length) st big (upd (upd H l (.lst (ss.map V.str))) f (.lst [])) := (hs.gr (T := T) (.new hl0)).gr (T := T) (.new hf0)
    have hf0' : H f = none := upd_none hf0
    dsimp only
    generalize upd (upd H l (.lst (ss.map V.str))) f (.lst []) = H1 at g0 e1 e2 s1 ⊢
    refine ⟨_, rfl, l, _, rfl, .inl (.inl (.inl e1)), _, rfl, by rw [List.length_map]; omega, by rw [List.length_map]; omega, ?_⟩
    have neS : ∀ {H' : Hp} {a : Addr} {n : Nat}, StrmAt n st big H' → H a = none → a ≠ st ∧ a ≠ big := fun {H' a n} _ h0 => by
      obtain ⟨_, xs, m, c, d, k1, k2, _⟩ := hs
      refine ⟨fun z => ?_, fun z => ?_⟩
      · rw [z, k1] at h0
        cases h0
      · rw [z, k2] at h0
        cases h0
    refine for_it walk_range (fun i σ H' => Gr T [st, big] H H' ∧ StrmAt (n + (ss.length - i)) st big H' ∧ ∃ (ls fs : List Str) (z : Option V), σ = [some (.ref st), some (.ref th), some (.ref l), some (.ref f), z] ∧ H' l = some (.lst (ls.map V.str)) ∧ H' f = some (.lst (fs.map V.str)) ∧ ls.length = ss.length - i ∧ (fs ++ ls).Perm ss)
      ⟨g0, s1, ss, [], none, rfl, e1, e2, rfl, .refl _⟩ (fun _ _ _ _ _ => True.intro) (fun i x σ H2 H3 hi ⟨g, sm, ls, fs, z, e, hl1, hf1, le, pm⟩ ⟨y1, y2⟩ => ?_) ?_
    · subst e y1 y2
      have hi' : i < ss.length := by rw [List.length_map] at hi; exact hi
      obtain ⟨j, hj⟩ : ∃ j : Nat, ss.length - i = j + 1 := ⟨ss.length - i - 1, by omega⟩
      rw [hj] at sm le
      refine ⟨_, rfl, .inl ⟨rfl, _, .inl (.inl hf1)⟩, _, rfl, .inl ⟨rfl, _, .inl (.inl hl1)⟩, _, rfl, _, rfl, l, _, rfl, .inl (.inl (.inl hl1)), st, big, n + j, _, rfl, sm, by rw [List.length_map]; omega, ?_, fun H4 v g4 sm4 v0 v1 => ?_⟩
      · rw [List.length_map, le]
        refine Nat.lt_of_le_of_lt (Nat.log2_le_self _) ?_
        show (((j + 1 : Nat) : Int)).natAbs < 9000
        rw [Int.natAbs_natCast]
        omega
      · rw [List.length_map] at v1
        have hl4 : H4 l = some (.lst (ls.map V.str)) := g4.lst hl1 (by have := neS sm hl0; simp [this.1, this.2])
        have hf4 : H4 f = some (.lst (fs.map V.str)) := g4.lst hf1 (by have := neS sm hf0'; simp [this.1, this.2])
        obtain ⟨k, rfl⟩ : ∃ k : Nat, v = k := ⟨v.toNat, by omega⟩
        have hk : k < ls.length := by omega
        refine ⟨l, _, k, k, .str ls[k], rfl, rfl, hl4, by omega, by omega, ?_, by simp [hk], f, _, _, rfl, rfl, (upd_ne (Ne.symm lf)).trans hf4, ?_, ?_⟩
        · rw [List.length_map]
          exact seqIx hk
        · rw [List.length_map]
          have := pm.length_eq
          rw [List.length_append] at this
          exact small1000 (by omega)
        · have gl := (g.trans g4).ownL (o := .lst ((ls.map V.str).eraseIdx k)) hl0 hl4
          have hf5 : upd H4 l (.lst ((ls.map V.str).eraseIdx k)) f = some (.lst (fs.map V.str)) := (upd_ne (Ne.symm lf)).trans hf4
          refine ⟨gl.ownL hf0' hf5, ?_, ls.eraseIdx k, fs ++ [ls[k]], _, rfl, ?_, ?_, ?_, ?_⟩
          · have ej : n + (ss.length - (i + 1)) = n + j := by omega
            rw [ej]
            have n1 := neS sm hl0
            have n2 := neS sm hf0'
            obtain ⟨ne, xs, m, c, d, k1, k2, r⟩ := sm4
            exact ⟨ne, xs, m, c, d, by rw [upd_ne (Ne.symm n2.1), upd_ne (Ne.symm n1.1)]; exact k1, by rw [upd_ne (Ne.symm n2.2), upd_ne (Ne.symm n1.2)]; exact k2, r⟩
          · rw [upd_ne lf, upd_same]
            congr 2
            exact map_erase _ _ _
          · rw [upd_same, List.map_append]
            rfl
          · rw [List.length_eraseIdx_of_lt hk, le]
            omega
          · refine List.Perm.trans ?_ pm
            rw [List.append_assoc]
            exact List.Perm.append_left fs (perm_erase hk)
    · rintro σ H2 ⟨g, sm, ls, fs, z, rfl, hl1, hf1, le, pm⟩
      rw [List.length_map, Int.toNat_natCast, Nat.sub_self] at sm le
      have el : ls = [] := List.length_eq_zero_iff.mp le
      subst el
      rw [List.append_nil] at pm
      exact ⟨_, rfl, q H2 f fs g sm hf0' hf1 pm⟩
end Rw
set_option maxHeartbeats 4000000
/-! The law's defs: names, is_name, choosers. -/
namespace Rw
open PySem PySem.Spec PyProof.Rows L2 LamX NdefX
variable {P : Program} {w : World} {K : PySem.W.Frag} {mg : Str → Option Value} {base : Heap} {T : List NTab}
def namesL : List Str := ["a", "b", "k9", "zoe", "milo", "ann", "x", "ivy", "bo", "q7", "lena", "t1", "noa", "max", "eve", "rob", "sam", "ulf", "kim", "w2w", "gil", "eight888"]
theorem cut_take (xs : List V) (j : Nat) : cutV xs none (some (j : Int)) = xs.take j := by
  unfold cutV
  have e1 : HT.sIx xs.length 0 none = 0 := rfl
  have e2 : HT.sIx xs.length xs.length (some (j : Int)) = min j xs.length := by
    unfold HT.sIx
    have : ¬ ((j : Int) < 0) := by omega
    simp [this]
  rw [e1, e2, List.drop_zero, Nat.sub_zero]
  rcases Nat.le_total j xs.length with h | h
  · rw [Nat.min_eq_left h]
  · rw [Nat.min_eq_right h, List.take_of_length_le (Nat.le_refl _), List.take_of_length_le h]
theorem StrmAt.ne {n : Nat} {st big p : Addr} {H : Hp} (s : StrmAt n st big H) (h : H p = none) : p ∉ [st, big] := by
  obtain ⟨_, xs, m, c, d, k1, k2, _⟩ := s
  intro z
  rcases List.mem_cons.mp z with z | z
  · rw [z, k1] at h
    cases h
  · rw [List.mem_singleton.mp z, k2] at h
    cases h
def spNames (T : List NTab) : Sp := fun vs H Q _ => ∃ (st big : Addr) (n lo hi : Nat), vs = [.ref st, .int lo, .int hi] ∧ StrmAt (n + 23) st big H ∧ lo ≤ hi ∧ hi ≤ 22 ∧
  ∀ H' p ns, Gr T [st, big] H H' → StrmAt n st big H' → H p = none → H' p = some (.lst (List.map V.str ns)) → ns.Nodup → lo ≤ ns.length → ns.length ≤ hi → (∀ x ∈ ns, x ∈ namesL) → Q (.ref p) H'
theorem sc92 : FnScope ["_law_stream", "_law_least", "_law_most", "_law_some"] ["_law_stream", "_law_least", "_law_most"] (defScope (top 92)) := ⟨rfl, rfl, rfl, by decide +kernel, rfl, by decide +kernel, by decide +kernel⟩
theorem ok_names (M : Mo K mg) : Gd P w K mg base 3 "_law_w_names" ["_law_stream", "_law_least", "_law_most"] (spNames T) := by
  refine gd_of (M.df "_law_w_names" 92) sc92 (fun F => F.bindsN fun _ _ _ _ _ _ us hl => match us, hl with | [_, _, _], _ => rfl) (fun vs H Q E h => ?_) fun cdv A outer s H vs Q E hr h => ⟨_, (pss_cons (ps_set (i := 3) sc92.nd rfl (Or.inl rfl) (pe_lst (pa_cons pe_str (pa_cons pe_str (pa_cons pe_str (pa_cons pe_str (pa_cons pe_str (pa_cons pe_str (pa_cons pe_str (pa_cons pe_str (pa_cons pe_str (pa_cons pe_str (pa_cons pe_str (pa_cons pe_str (pa_cons pe_str (pa_cons pe_str (pa_cons pe_str (pa_cons pe_str pa_nil)))))))))))))))))) (pss_cons (ps_set (i := 3) sc92.nd rfl (Or.inl rfl) (pe_gd (ok_mixed (T := T) M) hr (by decide) rfl passL (pa_cons (pv 0) (pa_cons (pe_op op_cat (pv 3) (pe_lst (pa_cons pe_str (pa_cons pe_str (pa_cons pe_str (pa_cons pe_str (pa_cons pe_str (pa_cons pe_str pa_nil)))))))) pa_nil)))) (pss_one (ps_ret (pe_slice sl_list (pv 3) po_none (po_some (pe_op op_add (pv 1) (pe_gd (ok_draw (T := T) M) hr (by decide) rfl passL (pa_cons (pv 0) (pa_cons (pe_op op_add (pe_op op_sub (pv 2) (pv 1)) pe_int) pa_nil)))))))))), ?_⟩
  · obtain ⟨st, big, n, lo, hi, rfl, _⟩ := h
    rfl
  · obtain ⟨st, big, n, lo, hi, rfl, hs, lh, h22, q⟩ := h
    refine ⟨szl, fun p1 hp1 => ⟨_, rfl, _, rfl, szl, fun p2 hp2 => ?_⟩⟩
    have n12 : p1 ≠ p2 := fun z => by rw [← z, upd_same] at hp2; cases hp2
    refine ⟨p1, p2, _, _, rfl, rfl, (upd_ne n12).trans upd_same, upd_same, szl, fun p3 hp3 => ?_⟩
    have hp3' : H p3 = none := upd_none (upd_none hp3)
    have g1 := ((Gr.new (T := T) (B := [st, big]) (o := .lst ((namesL.take 16).map V.str)) hp1).trans (.new (o := .lst ((namesL.drop 16).map V.str)) hp2)).trans (.new (o := .lst (namesL.map V.str)) hp3)
    have s1 := ((hs.gr (T := T) (.new (o := .lst ((namesL.take 16).map V.str)) hp1)).gr (T := T) (.new (o := .lst ((namesL.drop 16).map V.str)) hp2)).gr (T := T) (.new (o := .lst (namesL.map V.str)) hp3)
    refine ⟨st, big, p3, n + 1, namesL, rfl, s1, upd_same, by decide, fun H4 p4 ps g4 s4 hp40 hp4 pm => ?_⟩
    have nd : ps.Nodup := pm.nodup_iff.mpr (by decide +kernel)
    have len : ps.length = 22 := pm.length_eq
    refine ⟨_, rfl, _, rfl, _, rfl, _, rfl, _, rfl, _, _, rfl, rfl, _, _, rfl, rfl, st, big, n, _, rfl, s4, by omega, ?_, fun H5 v g5 s5 v0 v1 => ?_⟩
    · refine Nat.lt_of_le_of_lt (Nat.log2_le_self _) ?_
      omega
    · obtain ⟨k, rfl⟩ : ∃ k : Nat, v = k := ⟨v.toNat, by omega⟩
      have hp5 : H5 p4 = some (.lst (ps.map V.str)) := g5.lst hp4 (hs.ne (g1.mono _ hp40))
      refine ⟨_, _, rfl, rfl, _, rfl, p4, _, rfl, .inl (.inl hp5), fun p6 hp6 => ?_⟩
      have e : ((lo : Nat) : Int) + (k : Nat) = ((lo + k : Nat) : Int) := by omega
      have ec : cutV (ps.map V.str) none (some ((lo : Int) + (k : Int))) = (ps.take (lo + k)).map V.str := by
        rw [e, cut_take, List.map_take]
      have hk : lo + k ≤ hi := by omega
      refine q _ p6 (ps.take (lo + k)) ((g1.trans (g4.trans g5)).trans (.new hp6)) (s5.gr (T := T) (.new hp6)) (g1.mono _ (g4.mono _ (g5.mono _ hp6))) ?_ (nd.sublist (List.take_sublist _ _)) ?_ ?_ fun x hx => pm.subset (List.mem_of_mem_take hx)
      · rw [upd_same, ec]
      · rw [List.length_take]
        omega
      · rw [List.length_take]
        omega
/-! ### the choosers of the module -/
def spFirst1 : Sp := fun vs H Q _ => ∃ m : Int, vs = [.int m] ∧ Q (.int 0) H
theorem sc100 : FnScope ["_law_many"] ["_law_many"] (defScope (top 100)) := ⟨rfl, rfl, rfl, by decide +kernel, rfl, by decide +kernel, by decide +kernel⟩
theorem ok_first (M : Mo K mg) : Gd P w K mg base 1 "_law_first" ["_law_many"] spFirst1 := by
  refine gd_of (M.df "_law_first" 100) sc100 (fun F => F.bindsN fun _ _ _ _ _ _ us hl => match us, hl with | [_], _ => rfl) (fun vs H Q E h => ?_) fun cdv A outer s H vs Q E hr h => ⟨_, (pss_one (ps_ret pe_int)), ?_⟩
  · obtain ⟨m, rfl, _⟩ := h
    rfl
  · obtain ⟨m, rfl, q⟩ := h
    exact q
def spLast : Sp := fun vs H Q _ => ∃ m : Int, vs = [.int m] ∧ Q (.int (m - 1)) H
theorem sc101 : FnScope ["_law_many"] ["_law_many"] (defScope (top 101)) := ⟨rfl, rfl, rfl, by decide +kernel, rfl, by decide +kernel, by decide +kernel⟩
theorem ok_last (M : Mo K mg) : Gd P w K mg base 1 "_law_last" ["_law_many"] spLast := by
  refine gd_of (M.df "_law_last" 101) sc101 (fun F => F.bindsN fun _ _ _ _ _ _ us hl => match us, hl with | [_], _ => rfl) (fun vs H Q E h => ?_) fun cdv A outer s H vs Q E hr h => ⟨_, (pss_one (ps_ret (pe_op op_sub (pv 0) pe_int))), ?_⟩
  · obtain ⟨m, rfl, _⟩ := h
    rfl
  · obtain ⟨m, rfl, q⟩ := h
    exact ⟨_, rfl, _, _, rfl, rfl, q⟩
end Rw
set_option maxHeartbeats 4000000
/-! is_name; Path.__init__. -/
namespace Rw
open PySem PySem.Spec PyProof.Rows L2 LamX NdefX
variable {P : Program} {w : World} {K : PySem.W.Frag} {mg : Str → Option Value} {base : Heap} {T : List NTab}
/-- the module's texts, the class Path -/
structure Ml (K : PySem.W.Frag) (mg : Str → Option Value) : Prop where
  letters : ∃ t, mg "LETTERS" = some (.str letS t)
  figures : ∃ t, mg "FIGURES" = some (.str figS t)
  pranks : NoAttr K (He.ga K "Path") "ranks"
  pinit : ∃ f fd, Mk K (He.ga K "Path") f ∧ FunD K "__init__" "Path.__init__" (defArgs (meth 23 0)) (defBody (meth 23 0)) (defScope (meth 23 0)) [] [] f fd
def okName (x : Str) : Bool := decide (1 ≤ x.length) && decide (x.length ≤ 8) && (match atI x.cps.toList 0 with | some c => decide (c ∈ letS.cps.toList) | none => false) && x.cps.toList.all fun c => decide (c ∈ letS.cps.toList) || decide (c ∈ figS.cps.toList)
theorem names_ok : ∀ x ∈ namesL, okName x = true := by decide +kernel
def spIsName (T : List NTab) : Sp := fun vs H Q _ => ∃ x : Str, vs = [.str x] ∧ okName x = true ∧ ∀ H', Gr T [] H H' → Q (.bl true) H'
theorem sc9 : FnScope ["thing", "sign"] ["thing"] (defScope (top 9)) := ⟨rfl, rfl, rfl, by decide +kernel, rfl, by decide +kernel, by decide +kernel⟩
theorem ok_is_name (M : Mo K mg) (L : Ml K mg) : Gd P w K mg base 1 "is_name" ["thing"] (spIsName T) := by
  obtain ⟨t1, hL⟩ := L.letters
  obtain ⟨t2, hF⟩ := L.figures
  refine gd_of (M.df "is_name" 9) sc9 (fun F => F.bindsN fun _ _ _ _ _ _ us hl => match us, hl with | [_], _ => rfl) (fun vs H Q E h => ?_) fun cdv A outer s H vs Q E hr h => ⟨_, (pss_cons (ps_if (PW.pt (pw_or (pt_not (pt_val (pe_callB call_is1 rfl (M.fr "isinstance") (by decide +kernel) (pa_cons (pv 0) (pa_cons (pe_tyN "str" rfl (M.fr "str") (by decide +kernel)) pa_nil))))) (pw_or (pt_not (pt_chain op_le op_le pe_int (pe_callB call_len_str rfl (M.fr "len") (by decide +kernel) (pa_cons (pv 0) pa_nil)) pe_int)) (pw_or1 (pt_cmpR op_notInS (pe_ix ix_str (pv 0) pe_int (fun _ _ => rfl)) (pe_glob (v := .str letS) rfl hL ⟨_, rfl⟩) (by with_unfolding_all rfl)))))) (pss_one (ps_ret pe_bl)) pss_nil) (pss_one (ps_ret (pe_callB (cr_all rfl) rfl (M.fr "all") (by decide +kernel) (pa_cons (pe_lc (own := [("sign", 1)]) rfl sc9.nd (pi_str (pv 0)) (blkOk_by (by kernel_rfl)) (fun _ _ _ _ _ => (pg_name (i := 1) sc9.nd rfl (Or.inl rfl) (hf := Or.inr rfl))) (fun _ _ _ _ _ => pts_nil) (fun _ _ _ _ _ => (pe_or (pe_cmpR op_inS (pv 1) (pe_glob (v := .str letS) rfl hL ⟨_, rfl⟩) (by with_unfolding_all rfl)) (pe_one (pe_cmpR op_inS (pv 1) (pe_glob (v := .str figS) rfl hF ⟨_, rfl⟩) (by with_unfolding_all rfl)))))) pa_nil))))), ?_⟩
  · obtain ⟨x, rfl, _⟩ := h
    rfl
  · obtain ⟨x, rfl, ok, q⟩ := h
    unfold okName at ok
    simp only [Bool.and_eq_true, decide_eq_true_eq, List.all_eq_true, Bool.or_eq_true] at ok
    obtain ⟨⟨⟨l1, l8⟩, hc⟩, hall⟩ := ok
    obtain ⟨c, ec, hc⟩ : ∃ c, atI x.cps.toList 0 = some c ∧ c ∈ letS.cps.toList := by
      cases e : atI x.cps.toList 0 with
      | none => rw [e] at hc; cases hc
      | some c => rw [e] at hc; exact ⟨c, rfl, of_decide_eq_true hc⟩
    have hz : x.length ≤ sizeLine := szl (by omega)
    refine ⟨_, rfl, _, _, _, _, true, rfl, .ty "str", tyz_str x, rfl, true, rfl, ?_⟩
    refine ⟨_, rfl, x, rfl, hz, _, _, rfl, rfl, _, rfl, ite2 (fun _ => ⟨_, _, rfl, rfl, _, rfl, ite2 (fun z => ?_) fun _ => ?_⟩) fun z => absurd (decide_eq_true (by omega)) z⟩
    · rw [decide_eq_true (by omega)] at z
      cases z
    refine ⟨_, rfl, x, 0, c, rfl, rfl, hz, ec, c, letS, rfl, rfl, _, rfl, ite2 (fun z => ?_) fun _ => ?_⟩
    · rw [decide_eq_true hc] at z
      cases z
    refine ⟨_, rfl, x, rfl, fun D hD => ?_⟩
    refine lc_it walk_str (fun i H' => Gr T [] H H' ∧ H' D = some (.lst (List.replicate i (V.bl true)))) ⟨.new hD, upd_same⟩ (fun _ _ _ _ => True.intro) (fun i v H1 H2 hi ⟨g, hD1⟩ ⟨e, c, hc, ev⟩ => ?_) fun H1 ⟨g, hD1⟩ => ?_
    · subst e ev
      have hm : c ∈ x.cps.toList := Array.mem_toList_iff.mpr (Array.mem_of_getElem? hc)
      have step : ∃ acc, H2 D = some (.lst acc) ∧ acc.length < sizeLine ∧ (Gr T [] H (upd H2 D (.lst (acc ++ [V.bl true]))) ∧ upd H2 D (.lst (acc ++ [V.bl true])) D = some (.lst (List.replicate (i + 1) (V.bl true)))) :=
        ⟨_, hD1, by rw [List.length_replicate]; exact Nat.lt_of_lt_of_le hi hz, g.ownL hD hD1, by rw [upd_same, List.replicate_succ']⟩
      refine ⟨rfl, _, rfl, c, letS, rfl, rfl, ?_⟩
      refine ⟨_, rfl, ite2 (fun z => ?_) fun z => ⟨_, rfl, c, figS, rfl, rfl, ?_⟩⟩
      · exact step
      · rcases hall c hm with y | y
        · exact absurd (decide_eq_true y) z
        · rw [decide_eq_true y]
          exact step
    · refine ⟨D, List.replicate x.cps.size true, rfl, .inl (.inl ?_), ?_⟩
      · rw [hD1, List.map_replicate]
      · show Q (.bl ((List.replicate x.cps.size true).all id)) H1
        rw [show (List.replicate x.cps.size true).all id = true from List.all_eq_true.mpr fun b hb => (List.mem_replicate.mp hb).2]
        exact q H1 g
/-! ### Path -/
theorem sqt_gr {H H' : Hp} {a : Addr} {xs : List V} {B : List Addr} (g : Gr T B H H') (h : SqT K H a xs) : SqT K H' a xs := by
  rcases h with (h | ⟨o, h⟩) | h
  · exact .inl (.inl (g.tup h))
  · exact .inl (.inr ⟨o, g.frz h⟩)
  · exact .inr h
theorem sl_lt {X : Cx} : SlR X (fun x lo hi H Q => rSlL X.K x lo hi H Q ∨ rSlT X.K x lo hi H Q) := sl_list.or sl_tup
/-- names in a list or a tuple -/
def LtAt (H : Hp) (a : Addr) (ns : List Str) : Prop := H a = some (.lst (ns.map V.str)) ∨ H a = some (.tup (ns.map V.str))
theorem LtAt.gr {H H' : Hp} {a : Addr} {ns : List Str} (g : Gr T [] H H') (h : LtAt H a ns) : LtAt H' a ns := h.elim (fun h => .inl (g.lst h (fun z => nomatch z))) fun h => .inr (g.tup h)
def NsOk (ns : List Str) : Prop := ns.Nodup ∧ 2 ≤ ns.length ∧ ns.length ≤ 22 ∧ ∀ x ∈ ns, okName x = true
def iEnumV (K : PySem.W.Frag) (i : Nat) : TI := fun σ H R => ∃ (a : Addr) (ns : List Str), σ[i]? = some (some (.ref a)) ∧ LtAt H a ns ∧ ∀ (J : It) (G : Hp → Prop), Walk J (ns.map V.str).length G (YPair (fun i => some (.int (i : Nat))) (fun i => (ns.map V.str)[i]?)) → (∀ (T : List NTab) (H' : Hp), Gr T [] H H' → G H') → R J H
theorem pi_enumV {X : Cx} {x : Str} {i : Nat} {p q pos tpos : Pos} {elts : List Expr} {kk : Nat} (hg : Gl X "enumerate") (hm : X.mg "enumerate" = none) (ha : PA X [.Name x q] (tCons (tVar i) tNil)) (hs : starEach [.Name x q] X.env = [(false, eval (.Name x q) X.env)] := by rfl) :
    PI X (.Tuple elts kk tpos) (.Call (.Name "enumerate" p) [.Name x q] [] pos) (iEnumV X.K i) := by
  refine ⟨fun pins s σ H R I h => (pi_enumA hg hm ha hs).run pins s σ H R I ?_⟩
  obtain ⟨a, ns, e, h, k⟩ := h
  refine ⟨_, e, a, ns.map V.str, rfl, ?_⟩
  rcases h with h | h
  · exact .inl ⟨.inl (.inl h), k _ _ walk_enum fun T H' g => .inl (.inl (g.lst h (fun z => nomatch z)))⟩
  · exact .inr ⟨.inl (.inl h), k _ _ walk_enumT fun T H' g => .inl (.inl (g.tup h))⟩
def rTupV : List V → Hp → VK → Prop := fun xs H Q => ∃ (a : Addr) (ns : List Str), xs = [.ref a] ∧ LtAt H a ns ∧ ∀ tn H', (H tn = none ∨ tn = a) → (∀ T : List NTab, Gr T [] H H') → H' tn = some (.tup (ns.map V.str)) → Q (.ref tn) H'
theorem call_tupV {X : Cx} : CallR X (.type "tuple") rTupV := by
  intro pinsz s σ H xs us Q I r h
  refine call_tuple_of pinsz s σ H xs us Q I r ?_
  obtain ⟨a, ns, e, h, k⟩ := h
  refine ⟨a, ns.map V.str, e, ?_⟩
  rcases h with h | h
  · exact .inl ⟨.inl (.inl h), fun l hl => k l _ (.inl hl) (fun T => .new hl) upd_same⟩
  · exact .inr ⟨.inl (.inl h), k a H (.inr rfl) (fun T => .refl _) h⟩
theorem sIx_nat (n j : Nat) : HT.sIx n n (some (j : Int)) = min j n := by
  unfold HT.sIx
  have : ¬ ((j : Int) < 0) := by omega
  simp [this]
theorem flat_strs (ns : List Str) : (ns.map V.str).all flatV = true := List.all_eq_true.mpr fun v hv => by
  obtain ⟨i, _, rfl⟩ := List.mem_map.mp hv
  rfl
theorem inV_take {ns : List Str} (nd : ns.Nodup) {i : Nat} (hi : i < ns.length) : inV (.str ns[i]) ((ns.map V.str).take i) = false := by
  refine Bool.eq_false_iff.mpr fun z => ?_
  obtain ⟨v, hv, e⟩ := List.any_eq_true.mp z
  rw [← List.map_take] at hv
  obtain ⟨y, hy, rfl⟩ := List.mem_map.mp hv
  have ey : y = ns[i] := by
    have e' : (y == ns[i]) = true := e
    exact eq_of_beq e'
  obtain ⟨j, hj, ej⟩ := List.mem_iff_getElem.mp hy
  rw [List.length_take] at hj
  rw [List.getElem_take, ey] at ej
  have := (List.getElem_inj nd).mp ej
  omega
def spInit (K : PySem.W.Frag) (T : List NTab) : Sp := fun vs H Q _ => ∃ (H0 : Hp) (x dx wl : Addr) (ns : List Str), vs = [.ref x, .ref wl] ∧ H = upd (upd H0 dx (.own x)) x (.ins (He.ga K "Path") dx []) ∧ H0 x = none ∧ H0 dx = none ∧ dx ≠ x ∧ LtAt H0 wl ns ∧ NsOk ns ∧
  ∀ H', Gr T [] H0 H' → PathAt K H' x ns → Q .non H'
theorem sc23 : FnScope ["self", "walkers", "index", "name", "rank"] ["self", "walkers"] (defScope (meth 23 0)) := ⟨rfl, rfl, rfl, by decide +kernel, rfl, by decide +kernel, by decide +kernel⟩
theorem ok_init (M : Mo K mg) (L : Ml K mg) : ∃ f fd, Mk K (He.ga K "Path") f ∧ FnOk P w K mg base (L2.CX P w) 2 f fd ["self", "walkers"] (spInit K T) ∧ Binds K fd ["self", "walkers"] [] := by
  obtain ⟨f, fd, mk, F⟩ := L.pinit
  refine ⟨f, fd, mk, F.ok sc23 (fun vs H Q E h => ?_) (fun cdv A outer s H vs Q E hr h => ⟨_, (pss_cons (ps_if (pt_not (pt_val (pe_gd (ok_is_list (T := T) M) hr (by decide) rfl passL (pa_cons (pv 1) pa_nil)))) (pss_one (ps_raise rfl (takes_of rfl rfl rfl rfl) pmk_no)) pss_nil) (pss_cons (ps_for (passes_of rfl) rfl (pi_enumV rfl (M.fr "enumerate") (pa_cons (pv 1) pa_nil)) (pg_tup rfl (pgs_cons (pg_name (i := 2) sc23.nd rfl (Or.inl rfl)) (pgs_cons (pg_name (i := 3) sc23.nd rfl (Or.inl rfl)) pgs_nil))) (pss_one (ps_if (PW.pt (pw_or (pt_not (pt_val (pe_gd (ok_is_name (T := T) M L) hr (by decide) rfl passL (pa_cons (pv 3) pa_nil)))) (pw_or1 (pt_cmpR op_in_seq (pv 3) (pe_slice sl_lt (pv 1) po_none (po_some (pv 2))) (by with_unfolding_all rfl))))) (pss_one (ps_raise rfl (takes_of rfl rfl rfl rfl) pmk_no)) pss_nil))) (pss_cons (ps_if (pt_cmpR op_lt (pe_callB call_len_seq rfl (M.fr "len") (by decide +kernel) (pa_cons (pv 1) pa_nil)) pe_int (nomark _)) (pss_one (ps_raise rfl (takes_of rfl rfl rfl rfl) pmk_no)) pss_nil) (pss_cons (ps_fld (pv 0) (pe_callTy call_tupV rfl (M.fr "tuple") (by decide +kernel) (pa_cons (pv 1) pa_nil)) (by rfl)) (pss_cons (ps_fld (pv 0) (pe_callB call_len_seq rfl (M.fr "len") (by decide +kernel) (pa_cons (pe_fld (pv 0) rfl) pa_nil)) (by rfl)) (pss_one (ps_fld (pv 0) (pe_dc (own := [("rank", 4), ("name", 3)]) rfl sc23.nd (pi_enumT rfl (M.fr "enumerate") (pa_cons (pe_fld (pv 0) rfl) pa_nil)) (blkOk_by (by kernel_rfl)) (fun _ _ _ _ _ => (pg_tupK (K := K) 2 rfl (pg_tup rfl (pgs_cons (pg_name (i := 4) sc23.nd rfl (Or.inl rfl) (hf := Or.inr rfl)) (pgs_cons (pg_name (i := 3) sc23.nd rfl (Or.inl rfl) (hf := Or.inr rfl)) pgs_nil))))) (fun _ _ _ _ _ => pts_nil) (fun _ _ _ _ _ => (pv 3)) (fun _ _ _ _ _ => (pv 4))) (by rfl)))))))), ?_⟩), F.bindsN fun _ _ _ _ _ _ us hl => match us, hl with | [_, _], _ => rfl⟩
  · obtain ⟨H0, x, dx, wl, ns, rfl, _⟩ := h
    rfl
  · obtain ⟨H0, x, dx, wl, ns, rfl, rfl, hx0, hdx0, nxd, hw, ⟨nd, two, le, names⟩, q⟩ := h
    have g0 : Gr T [] H0 (upd (upd H0 dx (.own x)) x (.ins (He.ga K "Path") dx [])) := (Gr.new hdx0).trans (.new (by rw [upd_ne (Ne.symm nxd)]; exact hx0))
    have e0 : upd (upd H0 dx (.own x)) x (.ins (He.ga K "Path") dx []) x = some (.ins (He.ga K "Path") dx []) := upd_same
    generalize upd (upd H0 dx (.own x)) x (.ins (He.ga K "Path") dx []) = H1 at g0 e0
    have hw1 := hw.gr g0
    have hsq : ∀ H', LtAt H' wl ns → SqL K H' wl (ns.map V.str) ∨ SqT K H' wl (ns.map V.str) := fun H' h => h.elim (fun h => .inl (.inl (.inl h))) fun h => .inr (.inl (.inl h))
    obtain ⟨t, ty, kt⟩ : ∃ t, (∀ H', Gr T [] H1 H' → TyZ P w K H' (.ref wl) t) ∧ PySem.W.kitAny K t [.type "list", .type "tuple"] = some true := by
      rcases hw1 with h | h
      · exact ⟨.type "list", fun H' g => tyz_lst (g.lst h (fun z => nomatch z)), rfl⟩
      · exact ⟨.type "tuple", fun H' g => tyz_tup (g.tup h), by kernel_rfl⟩
    refine ⟨_, rfl, .ref wl, t, true, rfl, ty, kt, fun H2 g2 => ⟨_, rfl, ?_⟩⟩
    have g02 := g0.trans g2
    refine ⟨wl, ns, rfl, hw.gr g02, fun J G wk hG => ?_⟩
    have e2 := g2.ins e0
    refine for_it wk (fun i σ H' => Gr T [] H2 H' ∧ ∃ z2 z3 : Option V, σ = [some (.ref x), some (.ref wl), z2, z3, none]) ⟨.refl _, none, none, rfl⟩ (fun i σ H' _ h => hG T H' h.1) (fun i v σ H3 H4 hi ⟨g, z2, z3, e⟩ y => ?_) ?_
    · obtain ⟨tp, a1, a2, rfl, htp, rfl, e1, ea⟩ := y
      rw [List.length_map] at hi
      have ea : (ns.map V.str)[i]? = some a2 := ea
      rw [List.getElem?_map, List.getElem?_eq_getElem hi] at ea
      cases e1
      cases ea
      subst e
      have g3 := g.trans (.new (T := T) (B := []) (o := .tup [V.int (i : Nat), V.str ns[i]]) htp)
      refine ⟨tp, _, rfl, .inl (.inl upd_same), rfl, _, _, rfl, _, _, rfl, rfl, ?_⟩
      generalize upd H3 tp (.tup [V.int (i : Nat), V.str ns[i]]) = H5 at g3
      refine ⟨_, rfl, ns[i], rfl, names _ (List.getElem_mem _), fun H6 g6 => ⟨_, rfl, _, rfl, _, rfl, _, rfl, _, rfl, ?_⟩⟩
      have hw6 := hw.gr (g02.trans (g3.trans g6))
      have ec : cutV (ns.map V.str) none (some (i : Int)) = (ns.map V.str).take i := cut_take _ _
      have hfl : ((ns.map V.str).take i).all flatV = true := by rw [← List.map_take]; exact flat_strs _
      rcases hw6 with h6 | h6
      · refine .inl ⟨wl, _, rfl, .inl (.inl h6), fun p hp => ⟨p, _, rfl, .inl (.inl (.inl upd_same)), rfl, by rw [ec]; exact hfl, ?_⟩⟩
        rw [ec]
        refine ⟨_, rfl, ite2 (fun z => ?_) fun z => ⟨g3.trans (g6.trans (.new hp)), _, _, rfl⟩⟩
        rw [inV_take nd hi] at z
        cases z
      · refine .inr ⟨wl, _, rfl, .inl (.inl h6), ?_, fun p hp => ⟨p, _, rfl, .inr (.inl (.inl upd_same)), rfl, by rw [ec]; exact hfl, ?_⟩⟩
        · rintro ⟨_, y⟩
          rw [sIx_nat, List.length_map] at y
          omega
        rw [ec]
        refine ⟨_, rfl, ite2 (fun z => ?_) fun z => ⟨g3.trans (g6.trans (.new hp)), _, _, rfl⟩⟩
        rw [inV_take nd hi] at z
        cases z
    · rintro σ H3 ⟨g, z2, z3, rfl⟩
      have g03 := g02.trans g
      have hw3 := hw.gr g03
      have hx3 := g.ins e2
      refine ⟨_, rfl, wl, _, rfl, hw3.elim (fun h => .inl (.inl (.inl h))) (fun h => .inr (.inl (.inl h))), _, _, rfl, rfl, _, rfl, ite2 (fun z => ?_) fun _ => ?_⟩
      · rw [List.length_map] at z
        exact absurd (of_decide_eq_true z) (by omega)
      refine ⟨_, rfl, wl, ns, rfl, hw3, fun tn H4 _ g4 htn => ?_⟩
      have hx4 := (g4 T).ins hx3
      refine ⟨_, rfl, x, _, dx, _, rfl, hx4, M.pcls, M.pnames, by decide, ?_⟩
      have g04 : Gr T [] H0 (upd H4 x (.ins (He.ga K "Path") dx (putF "names" (.ref tn) []))) := (g03.trans (g4 T)).own hx0 hx4 (fun _ z => nomatch z) fun _ _ z => nomatch z
      have ntx : tn ≠ x := fun z => by rw [z, hx4] at htn; cases htn
      have ht5 : upd H4 x (.ins (He.ga K "Path") dx (putF "names" (.ref tn) [])) tn = some (.tup (ns.map V.str)) := (upd_ne ntx).trans htn
      have hx5 : upd H4 x (.ins (He.ga K "Path") dx (putF "names" (.ref tn) [])) x = some (.ins (He.ga K "Path") dx (putF "names" (.ref tn) [])) := upd_same
      generalize upd H4 x (.ins (He.ga K "Path") dx (putF "names" (.ref tn) [])) = H5 at g04 ht5 hx5
      refine ⟨_, rfl, x, _, dx, _, _, rfl, hx5, M.pcls, M.pnames, rfl, tn, _, rfl, .inr (.inl (.inl ht5)), _, rfl, x, _, dx, _, rfl, hx5, M.pcls, M.pmany, (show (1 : Nat) < 1000 by decide), ?_⟩
      have g05 : Gr T [] H0 (upd H5 x (.ins (He.ga K "Path") dx (putF "many" (.int (ns.map V.str).length) (putF "names" (.ref tn) [])))) := g04.own hx0 hx5 (fun _ z => nomatch z) fun _ _ z => nomatch z
      have ht6 : upd H5 x (.ins (He.ga K "Path") dx (putF "many" (.int (ns.map V.str).length) (putF "names" (.ref tn) []))) tn = some (.tup (ns.map V.str)) := (upd_ne ntx).trans ht5
      have hx6 : upd H5 x (.ins (He.ga K "Path") dx (putF "many" (.int (ns.map V.str).length) (putF "names" (.ref tn) []))) x = some (.ins (He.ga K "Path") dx (putF "many" (.int (ns.map V.str).length) (putF "names" (.ref tn) []))) := upd_same
      generalize upd H5 x (.ins (He.ga K "Path") dx (putF "many" (.int (ns.map V.str).length) (putF "names" (.ref tn) []))) = H6 at g05 ht6 hx6
      refine ⟨_, rfl, x, _, dx, _, _, rfl, hx6, M.pcls, M.pnames, rfl, tn, _, rfl, .inl (.inl ht6), fun D hD => ?_⟩
      refine dc_it walk_enumT (fun i H' => Gr T [] H6 H' ∧ H' D = some (.dK (dz (ns.take i) fun y => (ns.idxOf y : Nat)))) ⟨.new hD, upd_same⟩ (fun i H' _ p => .inl (.inl (p.1.tup ht6))) (fun i v H7 H8 hi ⟨gr, hl⟩ y => ?_) fun H7 ⟨gr, hl⟩ => ?_
      · obtain ⟨t, x1, x2, rfl, ht0, rfl, e1, e2⟩ := y
        rw [List.length_map] at hi
        have hx' : ns[i]? = some ns[i] := List.getElem?_eq_getElem hi
        have e2' : (ns.map V.str)[i]? = some x2 := e2
        rw [List.getElem?_map, hx'] at e2'
        cases e1
        cases e2'
        have dt : D ≠ t := fun z => by
          rw [z, ht0] at hl
          cases hl
        refine ⟨t, _, rfl, .inl (.inl upd_same), rfl, _, _, rfl, _, _, rfl, rfl, rfl, _, rfl, _, rfl, _, .inr ns[i], rfl, (upd_ne dt).trans hl, ?_, ?_, ?_⟩
        · rw [dz_len, List.length_take]
          exact small1000 (by omega)
        · exact (gr.trans (.new ht0)).ownD hD ((upd_ne dt).trans hl)
        · rw [upd_same]
          have e3 : (i : Int) = ((ns.idxOf ns[i] : Nat) : Int) := by rw [idx_get nd i hi]
          rw [e3, putK_snoc (f := fun x => ((ns.idxOf x : Nat) : Int)), ← take_snoc hx']
          intro z
          have nd' : (ns.take (i + 1)).Nodup := nd.sublist (List.take_sublist _ _)
          rw [take_snoc hx', List.nodup_append] at nd'
          exact nd'.2.2 _ z _ (by simp) rfl
      · have hx7 := gr.ins hx6
        refine ⟨_, rfl, x, _, dx, _, rfl, hx7, M.pcls, L.pranks, (show (2 : Nat) < 1000 by decide), ?_⟩
        refine q _ ((g05.trans gr).own hx0 hx7 (fun _ z => nomatch z) fun _ _ z => nomatch z) ⟨⟨dx, _, tn, upd_same, rfl, ?_, ?_⟩, nd, two, le⟩
        · rw [List.length_map]
          rfl
        · rw [upd_ne ntx]
          exact gr.tup ht6
end Rw
set_option maxHeartbeats 4000000
/-! The law's defs: paths. -/
namespace Rw
open PySem PySem.Spec PyProof.Rows L2 LamX NdefX
variable {P : Program} {w : World} {K : PySem.W.Frag} {mg : Str → Option Value} {base : Heap} {T : List NTab}
def spNo : Sp := fun _ _ _ _ => False
/-- a law of nothing, for a call that is not reached -/
theorem gd_no {k : Nat} {x : Str} {st : Stmt} {N ps : List Str} (F : Df K mg x st) (S : FnScope N ps (defScope st)) (bd : ∀ {fd : FuncData}, FunD K x x (defArgs st) (defBody st) (defScope st) [] [] (He.ga K x) fd → Binds K fd ps []) : Gd P w K mg base k x ps spNo := by
  obtain ⟨g, fd, F⟩ := F
  obtain ⟨oc, od, dV, kV, doc, pm, an, cdv, ct, osl, e, lk, _⟩ := id F.ex
  exact ⟨g, fd, ⟨fun _ _ _ _ h => h.elim, fun _ _ _ _ _ _ _ _ _ _ _ _ _ h => h.elim⟩, bd F, F.kp, oc, od, fd, osl, lk⟩
def spLooseS (T : List NTab) : Sp := fun vs H Q _ => ∃ (st : Addr) (x : Str), vs = [.ref st, .str x] ∧ ∀ H', Gr T [] H H' → Q (.str x) H'
theorem sc91 : FnScope ["_law_stream", "_law_thing", "_law_some", "_law_one"] ["_law_stream", "_law_thing"] (defScope (top 91)) := ⟨rfl, rfl, rfl, by decide +kernel, rfl, by decide +kernel, by decide +kernel⟩
theorem no_loose (M : Mo K mg) : Gd P w K mg base 0 "_law_loose" ["_law_stream", "_law_thing"] spNo := gd_no (M.df "_law_loose" 91) sc91 (fun F => F.bindsN fun _ _ _ _ _ _ us hl => match us, hl with | [_, _], _ => rfl)
theorem ok_loose_s (M : Mo K mg) : Gd P w K mg base 1 "_law_loose" ["_law_stream", "_law_thing"] (spLooseS T) := by
  refine gd_of (M.df "_law_loose" 91) sc91 (fun F => F.bindsN fun _ _ _ _ _ _ us hl => match us, hl with | [_, _], _ => rfl) (fun vs H Q E h => ?_) fun cdv A outer s H vs Q E hr h => ⟨_, (pss_cons (ps_if (pt_val (pe_callB call_isZ rfl (M.fr "isinstance") (by decide +kernel) (pa_cons (pv 1) (pa_cons (pe_tup (pa_cons (pe_tyN "list" rfl (M.fr "list") (by decide +kernel)) (pa_cons (pe_tyN "tuple" rfl (M.fr "tuple") (by decide +kernel)) pa_nil))) pa_nil)))) (pss_cons (ps_setLc (i := 2) (own := [("_law_one", 3)]) rfl sc91.nd rfl rfl (by rfl) (pi_list (pv 1)) (blkOk_by (by kernel_rfl)) (fun _ _ _ _ _ => (pg_name (i := 3) sc91.nd rfl (Or.inl rfl) (hf := Or.inr rfl))) (fun _ _ _ _ _ => pts_nil) (fun _ _ _ _ _ => (pe_gd (no_loose M) hr (by decide) rfl passL (pa_cons (pv 0) (pa_cons (pv 3) pa_nil))))) (pss_one (ps_ret (pe_ifExp (pt_cmpR op_eq (pe_gd (gd_no (k := 0) (M.df "_law_draw" 88) sc88 (fun F => F.bindsN fun _ _ _ _ _ _ us hl => match us, hl with | [_, _], _ => rfl)) hr (by decide) rfl passL (pa_cons (pv 0) (pa_cons pe_int pa_nil))) pe_int (nomark _)) (pv 2) (pe_callTy call_tupV rfl (M.fr "tuple") (by decide +kernel) (pa_cons (pv 2) pa_nil)))))) pss_nil) (pss_one (ps_ret (pv 1)))), ?_⟩
  · obtain ⟨st, x, rfl, _⟩ := h
    rfl
  · obtain ⟨st, x, rfl, q⟩ := h
    have cls : Paired ClsV [.ty "list", .ty "tuple"] [.type "list", .type "tuple"] := .cons (.ty _) (.cons (.ty _) .nil)
    exact ⟨_, rfl, szl, fun p hp => ⟨.str x, p, _, .type "str", _, false, rfl, upd_same, cls, tyz_str x, by kernel_rfl, _, rfl, _, rfl, q _ (.new hp)⟩⟩
def spLoose (T : List NTab) : Sp := fun vs H Q _ => ∃ (st big nl : Addr) (n : Nat) (ns : List Str), vs = [.ref st, .ref nl] ∧ StrmAt (n + 1) st big H ∧ H nl = some (.lst (ns.map V.str)) ∧ nl ∉ [st, big] ∧ ns.length ≤ 100 ∧
  ∀ H' p, Gr T [st, big] H H' → StrmAt n st big H' → H p = none → LtAt H' p ns → Q (.ref p) H'
theorem ok_loose (M : Mo K mg) : Gd P w K mg base 2 "_law_loose" ["_law_stream", "_law_thing"] (spLoose T) := by
  refine gd_of (M.df "_law_loose" 91) sc91 (fun F => F.bindsN fun _ _ _ _ _ _ us hl => match us, hl with | [_, _], _ => rfl) (fun vs H Q E h => ?_) fun cdv A outer s H vs Q E hr h => ⟨_, (pss_cons (ps_if (pt_val (pe_callB call_isZ rfl (M.fr "isinstance") (by decide +kernel) (pa_cons (pv 1) (pa_cons (pe_tup (pa_cons (pe_tyN "list" rfl (M.fr "list") (by decide +kernel)) (pa_cons (pe_tyN "tuple" rfl (M.fr "tuple") (by decide +kernel)) pa_nil))) pa_nil)))) (pss_cons (ps_setLc (i := 2) (own := [("_law_one", 3)]) rfl sc91.nd rfl rfl (by rfl) (pi_list (pv 1)) (blkOk_by (by kernel_rfl)) (fun _ _ _ _ _ => (pg_name (i := 3) sc91.nd rfl (Or.inl rfl) (hf := Or.inr rfl))) (fun _ _ _ _ _ => pts_nil) (fun _ _ _ _ _ => (pe_gd (ok_loose_s (T := T) M) hr (by decide) rfl passL (pa_cons (pv 0) (pa_cons (pv 3) pa_nil))))) (pss_one (ps_ret (pe_ifExp (pt_cmpR op_eq (pe_gd (ok_draw (T := T) M) hr (by decide) rfl passL (pa_cons (pv 0) (pa_cons pe_int pa_nil))) pe_int (nomark _)) (pv 2) (pe_callTy call_tupV rfl (M.fr "tuple") (by decide +kernel) (pa_cons (pv 2) pa_nil)))))) pss_nil) (pss_one (ps_ret (pv 1)))), ?_⟩
  · obtain ⟨st, big, nl, n, ns, rfl, _⟩ := h
    rfl
  · obtain ⟨st, big, nl, n, ns, rfl, hs, hnl, nin, hl, q⟩ := h
    have cls : Paired ClsV [.ty "list", .ty "tuple"] [.type "list", .type "tuple"] := .cons (.ty _) (.cons (.ty _) .nil)
    refine ⟨_, rfl, szl, fun p hp => ⟨.ref nl, p, _, .type "list", _, true, rfl, upd_same, cls, tyz_lst ((Gr.new (T := T) (B := []) hp).lst hnl (fun z => nomatch z)), rfl, _, rfl, ?_⟩⟩
    have g1 : Gr T [] H (upd H p (.tup [.ty "list", .ty "tuple"])) := .new hp
    have hnl1 := g1.lst hnl (fun z => nomatch z)
    have hs1 := hs.gr g1
    dsimp only
    generalize upd H p (.tup [.ty "list", .ty "tuple"]) = H1 at g1 hnl1 hs1
    refine ⟨_, rfl, nl, rfl, ⟨_, .inl (.inl hnl1)⟩, fun D hD => ?_⟩
    refine lc_it (walk_list (xs := ns.map V.str)) (fun i H' => Gr T [] H1 H' ∧ H' D = some (.lst ((ns.take i).map V.str))) ⟨.new hD, upd_same⟩ (fun i H' _ h => .inl (.inl (h.1.lst hnl1 (fun z => nomatch z)))) (fun i v H2 H3 hi ⟨g, hD2⟩ ⟨e, hx⟩ => ?_) fun H2 ⟨g, hD2⟩ => ?_
    · subst e
      rw [List.length_map] at hi
      rw [List.getElem?_map, List.getElem?_eq_getElem hi] at hx
      cases hx
      refine ⟨rfl, _, rfl, _, rfl, st, ns[i], rfl, fun H4 g4 => ⟨_, g4.lst hD2 (fun z => nomatch z), ?_, (g.trans g4).ownL hD (g4.lst hD2 (fun z => nomatch z)), ?_⟩⟩
      · rw [List.length_map, List.length_take]
        exact small1000 (by omega)
      · rw [upd_same, take_snoc (List.getElem?_eq_getElem hi), List.map_append]
        rfl
    · rw [List.length_map, List.take_length] at hD2
      have hD0 : H D = none := g1.mono _ hD
      refine ⟨_, rfl, st, big, n, 2, rfl, (hs1.gr g), by decide, by decide, fun H3 v g3 s3 v0 v1 => ?_⟩
      have hD3 := g3.lst hD2 (hs.ne hD0)
      have gg := (g1.wk.trans g.wk).trans g3
      refine ⟨rfl, _, rfl, ite2 (fun _ => ⟨_, rfl, q H3 D gg s3 hD0 (.inl hD3)⟩) fun _ => ⟨_, rfl, D, ns, rfl, .inl hD3, fun tn H4 h0 g4 ht => ?_⟩⟩
      have htn : H tn = none := h0.elim (fun h => gg.mono _ h) fun h => by rw [h]; exact hD0
      exact q H4 tn (gg.trans (g4 T).wk) (s3.gr (g4 T)) htn (.inr ht)
/-! ### _law_w_path -/
def spWPath (K : PySem.W.Frag) (T : List NTab) : Sp := fun vs H Q _ => ∃ (st big nl : Addr) (n : Nat) (ns : List Str), vs = [.ref st, .ref nl] ∧ StrmAt (n + 1) st big H ∧ H nl = some (.lst (ns.map V.str)) ∧ nl ∉ [st, big] ∧ NsOk ns ∧
  ∀ H' a, Gr T [st, big] H H' → StrmAt n st big H' → H a = none → PathAt K H' a ns → Q (.ref a) H'
theorem sc93 : FnScope ["_law_stream", "_law_names"] ["_law_stream", "_law_names"] (defScope (top 93)) := ⟨rfl, rfl, rfl, by decide +kernel, rfl, by decide +kernel, by decide +kernel⟩
theorem ok_w_path (M : Mo K mg) (L : Ml K mg) : Gd P w K mg base 4 "_law_w_path" ["_law_stream", "_law_names"] (spWPath K T) := by
  obtain ⟨f, fd, mk, F, hb⟩ := ok_init (P := P) (w := w) (base := base) (T := T) M L
  refine gd_of (M.df "_law_w_path" 93) sc93 (fun F => F.bindsN fun _ _ _ _ _ _ us hl => match us, hl with | [_, _], _ => rfl) (fun vs H Q E h => ?_) fun cdv A outer s H vs Q E hr h => ⟨_, (pss_one (ps_ret (pe_make (E := E0) mk F (hr.mono (by decide)) rfl (M.gl "Path") hb .nil passL (pa_cons (pe_gd (ok_loose (T := T) M) hr (by decide) rfl passL (pa_cons (pv 0) (pa_cons (pv 1) pa_nil))) pa_nil)))), ?_⟩
  · obtain ⟨st, big, nl, n, ns, rfl, _⟩ := h
    rfl
  · obtain ⟨st, big, nl, n, ns, rfl, hs, hnl, nin, ok, q⟩ := h
    refine ⟨_, rfl, _, rfl, st, big, nl, n, ns, rfl, hs, hnl, nin, by have := ok.2.2.1; omega, fun H1 p g1 s1 hp0 hp x dx hx hdx ne => ?_⟩
    exact ⟨H1, x, dx, p, ns, rfl, rfl, hx, hdx, ne, hp, ok, fun H2 g2 pa => ⟨rfl, q H2 x (g1.trans g2.wk) (s1.gr g2) (g1.mono _ hx) pa⟩⟩
end Rw
set_option maxHeartbeats 4000000
/-! {k: v} whose key is a tuple. -/
namespace Rw
open PySem PySem.Spec PyProof.Rows L2 LamX NdefX
def tDisp1T (tk tv : TE) : TE := fun σ H Q => ∀ p, H p = none → tk σ (upd H p (.dT [])) fun x H1 => tv σ H1 fun y H2 => H2 p = some (.dT []) ∧ ∃ (b : Addr) (k : List L2.Key), x = .ref b ∧ H2 b = some (.tup (k.map kV)) ∧ Q (.ref p) (upd H2 p (.dT [(k, y)]))
theorem pe_disp1T {X : Cx} {k v : Expr} {tk tv : TE} {pos : Pos} (hu : X.A.units + 1 < cLine) (hk : PE X k tk) (hv : PE X v tv) : PE X (.Dict [some k] [v] pos) (tDisp1T tk tv) := by
  refine ⟨fun pinsz s σ H Q I q => ?_⟩
  have hnz := I.hok.fresh (Nat.le_refl s.heap.objs.size)
  have I1 := I.laid (a := s.heap.objs.size) (o := .dT []) (h' := s.heap.push { cls := .type "dict", data := .dict #[] }) (t' := s.toks) (fun _ _ q => Heap.get?_push_of_some _ q) (Nat.le_refl _) (dt_empty s.heap I.big)
  have hr : (tupleKind (mixKind X.prog X.w)).room X.A := Nat.lt_of_le_of_lt (Nat.le_succ _) hu
  rw [arm_eval_Dict, zip_pairTrees [some k] [v] X.env pos rfl rfl, dictDisplay_pairs _ (by simp [pairTrees]) (by simp [pairTrees])]
  refine wpAny_bind (wpAny_standAt (wpAny_bind (wpAny_subDictH (knd := tupleKind (mixKind X.prog X.w)) (Q := fun d s' => wpAny (model X.prog X.w) X.A (pure (Value.ref d)) (EP X pinsz σ Q) X.xe s') hr (by simp [pairTrees]) ?_)))
  refine pairTrees_cons_walk (thn (hk.run pinsz _ σ _ _ I1 (q _ hnz)) fun u s1 ⟨x, H1, I2, rx, q1⟩ => thn (hv.run pinsz s1 σ H1 _ I2 q1) fun w2 s2 ⟨y, H2, I3, ry, e, b, kk, ex, eb, q2⟩ => pairTrees_nil_walk ?_)
  subst ex
  obtain rfl : u = Value.ref b := rx
  obtain ⟨z, hd, xs, rel, dd⟩ := dt_of I3.hok e
  cases rel
  refine ⟨[(kk, b, w2)], ⟨rfl, rfl, key_of I3.hok eb, True.intro⟩, dd, fun h' tk' dd' hs => wpAny_pure ⟨.ref s.heap.objs.size, _, ?_, rfl, q2⟩⟩
  obtain ⟨q, esz, ep, hq, h2, h3, h4, _, h5⟩ := dd'
  refine d_write I3 (by rw [e]; exact True.intro) hs ⟨q, hq⟩ ⟨szl, hd, _, ((show KT H2 [] [] from .nil).put kk eb ry).keeps fun c ys ecz => ?_, q, esz, ep, hq, h2, h3, h4, h5⟩
  rw [upd_ne (ne_of ecz e (fun z => nomatch z))]
  exact ecz
end Rw
set_option maxHeartbeats 4000000
/-! The law's defs: overtakings by the words. -/
namespace Rw
open PySem PySem.Spec PyProof.Rows L2 LamX NdefX
variable {P : Program} {w : World} {K : PySem.W.Frag} {mg : Str → Option Value} {base : Heap} {T : List NTab}
def spWAhead (T : List NTab) : Sp := fun vs H Q _ => ∃ (pl : Addr) (ps : List Int) (one : Nat), vs = [.ref pl, .int one] ∧ H pl = some (.tup (ps.map V.int)) ∧ one < ps.length ∧ ps.length ≤ 100 ∧ (aheadF ps.length ps one).length ≠ 0 ∧
  ∀ H', Gr T [] H H' → Q (.int ((aheadF ps.length ps one).headD 0 : Nat)) H'
theorem at_ints {ps : List Int} {i : Nat} (h : i < ps.length) : atI (ps.map V.int) (i : Int) = some (.int (ps.getD i 0)) := by
  unfold atI ixN
  have h1 : (0 : Int) ≤ i := Int.natCast_nonneg i
  have h2 : (i : Int) < (ps.length : Int) := by omega
  rw [List.length_map, if_pos h1, if_pos h2]
  simp [h]
theorem at_head {α : Type} (a : α) (r : List α) : atI (a :: r) 0 = some a := by
  unfold atI ixN
  have h : (0 : Int) < ((a :: r).length : Int) := by rw [List.length_cons]; omega
  rw [if_pos (Int.le_refl 0), if_pos h]
  rfl
theorem behindL_get {ps : List Int} {one other i : Nat} (h : i < ps.length) : (behindL ps one other)[i]? = some (ps[i] + (if i = one then 1 else 0) - if i = other then 1 else 0) := by
  unfold behindL
  rw [List.getElem?_map, List.getElem?_zipIdx, List.getElem?_eq_getElem h]
  simp
theorem behindL_len (ps : List Int) (one other : Nat) : (behindL ps one other).length = ps.length := by
  unfold behindL
  rw [List.length_map, List.length_zipIdx]
theorem sc94 : FnScope ["_law_places", "_law_one", "_law_many", "_law_other"] ["_law_places", "_law_one"] (defScope (top 94)) := ⟨rfl, rfl, rfl, by decide +kernel, rfl, by decide +kernel, by decide +kernel⟩
theorem ok_w_ahead (M : Mo K mg) : Gd P w K mg base 1 "_law_w_ahead" ["_law_places", "_law_one"] (spWAhead T) := by
  refine gd_of (M.df "_law_w_ahead" 94) sc94 (fun F => F.bindsN fun _ _ _ _ _ _ us hl => match us, hl with | [_, _], _ => rfl) (fun vs H Q E h => ?_) fun cdv A outer s H vs Q E hr h => ⟨_, (pss_cons (ps_set (i := 2) sc94.nd rfl (Or.inr rfl) (pe_callB call_len_seq rfl (M.fr "len") (by decide +kernel) (pa_cons (pv 0) pa_nil))) (pss_one (ps_ret (pe_ix ix_list (pe_lc (own := [("_law_other", 3)]) rfl sc94.nd (pi_range1 rfl (M.fr "range") (pa_cons (pv 2) pa_nil)) (blkOk_by (by kernel_rfl)) (fun _ _ _ _ _ => (pg_name (i := 3) sc94.nd rfl (Or.inl rfl) (hf := Or.inr rfl))) (fun _ _ _ _ _ => (pts_one (pt_cmpR op_eq (pe_op op_mod (pe_callTy call_int1 rfl (M.fr "int") (by decide +kernel) (pa_cons (pe_op op_sub (pe_op op_sub (pe_ixTK (K := K) rfl (pv 0) (pv 3) (fun _ _ => rfl)) (pe_ixTK (K := K) rfl (pv 0) (pv 1) (fun _ _ => rfl))) pe_int) pa_nil)) (pv 2)) pe_int (nomark _)))) (fun _ _ _ _ _ => (pv 3))) pe_int (fun _ _ => rfl))))), ?_⟩
  · obtain ⟨pl, ps, one, rfl, _⟩ := h
    rfl
  · obtain ⟨pl, ps, one, rfl, hp, ho, hl, ne, q⟩ := h
    refine ⟨_, rfl, pl, _, rfl, .inr (.inl (.inl hp)), ?_⟩
    have lm : (ps.map V.int).length = ps.length := List.length_map _
    rw [lm]
    have c1 : (0 : Int) < (ps.length : Int) := by omega
    refine ⟨_, rfl, _, rfl, by omega, by omega, fun D hD => ?_⟩
    refine lc_it walk_range (fun i H' => Gr T [] H H' ∧ H' D = some (.lst (((List.range i).filter fun o => decide ((ps.getD o 0 - ps.getD one 0 - 1) % (ps.length : Int) = 0)).map fun o : Nat => V.int (o : Int)))) ⟨.new hD, upd_same⟩ (fun _ _ _ _ => True.intro) (fun i v H1 H2 hi ⟨g, hD1⟩ ⟨e, ev⟩ => ?_) fun H1 ⟨g, hD1⟩ => ?_
    · have ev : v = V.int (i : Int) := by
        rw [ev]
        show V.int (0 + (i : Int)) = _
        rw [Int.zero_add]
      subst e ev
      have hi' : i < ps.length := by omega
      have hp2 := g.tup hp
      refine ⟨rfl, _, rfl, _, rfl, pl, _, _, _, rfl, rfl, .inl (.inl hp2), at_ints hi', _, rfl, _, rfl, pl, _, _, _, rfl, rfl, .inl (.inl hp2), at_ints ho, _, _, rfl, rfl, _, _, rfl, rfl, .inl ⟨_, rfl, _, rfl, _, _, rfl, rfl, c1, rfl, _, rfl, ?_⟩⟩
      have key : ∀ {x : Int}, decide (V.int x = V.int 0) = decide (x = 0) := fun {x} => by by_cases h : x = 0 <;> simp [h]
      rw [key]
      refine ite2 (fun z => ⟨_, rfl, _, hD1, ?_, g.ownL hD hD1, ?_⟩) fun z => ⟨g, ?_⟩
      · rw [List.length_map]
        exact small1000 (Nat.le_trans (List.length_filter_le _ _) (by rw [List.length_range]; omega))
      · rw [upd_same, List.range_succ, List.filter_append, List.map_append]
        simp only [List.filter_cons, z, if_true, List.filter_nil]
        rfl
      · rw [hD1, List.range_succ, List.filter_append]
        simp only [List.filter_cons, z, List.filter_nil, Bool.false_eq_true, if_false, List.append_nil]
    · have el : ((ps.length : Int)).toNat = ps.length := by omega
      rw [el] at hD1
      have hD2 : H1 D = some (.lst ((aheadF ps.length ps one).map fun o : Nat => V.int (o : Int))) := hD1
      have q1 := q H1 g
      generalize aheadF ps.length ps one = al at ne hD2 q1
      cases al with
      | nil => exact absurd rfl ne
      | cons a r => exact ⟨D, _, 0, _, rfl, rfl, .inl (.inl hD2), at_head _ _, q1⟩
/-! ### _law_w_behind -/
def spWBehind (T : List NTab) : Sp := fun vs H Q _ => ∃ (pl : Addr) (ps : List Int) (one other : Nat), vs = [.ref pl, .int one, .int other] ∧ H pl = some (.tup (ps.map V.int)) ∧ ps.length ≤ 100 ∧
  ∀ H' p, Gr T [] H H' → H p = none → H' p = some (.tup ((behindL ps one other).map V.int)) → Q (.ref p) H'
theorem sc95 : FnScope ["_law_places", "_law_one", "_law_other", "_law_at", "_law_place"] ["_law_places", "_law_one", "_law_other"] (defScope (top 95)) := ⟨rfl, rfl, rfl, by decide +kernel, rfl, by decide +kernel, by decide +kernel⟩
theorem ok_w_behind (M : Mo K mg) : Gd P w K mg base 1 "_law_w_behind" ["_law_places", "_law_one", "_law_other"] (spWBehind T) := by
  refine gd_of (M.df "_law_w_behind" 95) sc95 (fun F => F.bindsN fun _ _ _ _ _ _ us hl => match us, hl with | [_, _, _], _ => rfl) (fun vs H Q E h => ?_) fun cdv A outer s H vs Q E hr h => ⟨_, (pss_one (ps_ret (pe_callTy call_tuple_of rfl (M.fr "tuple") (by decide +kernel) (pa_cons (pe_lc (own := [("_law_at", 3), ("_law_place", 4)]) rfl sc95.nd (pi_enumT rfl (M.fr "enumerate") (pa_cons (pv 0) pa_nil)) (blkOk_by (by kernel_rfl)) (fun _ _ _ _ _ => (pg_tupK (K := K) 2 rfl (pg_tup rfl (pgs_cons (pg_name (i := 3) sc95.nd rfl (Or.inl rfl) (hf := Or.inr rfl)) (pgs_cons (pg_name (i := 4) sc95.nd rfl (Or.inl rfl) (hf := Or.inr rfl)) pgs_nil))))) (fun _ _ _ _ _ => pts_nil) (fun _ _ _ _ _ => (pe_op op_sub (pe_op op_add (pv 4) (pe_callTy call_int1 rfl (M.fr "int") (by decide +kernel) (pa_cons (pe_cmpR op_eq (pv 3) (pv 1) (nomark _)) pa_nil))) (pe_callTy call_int1 rfl (M.fr "int") (by decide +kernel) (pa_cons (pe_cmpR op_eq (pv 3) (pv 2) (nomark _)) pa_nil))))) pa_nil)))), ?_⟩
  · obtain ⟨pl, ps, one, other, rfl, _⟩ := h
    rfl
  · obtain ⟨pl, ps, one, other, rfl, hp, hl, q⟩ := h
    refine ⟨_, rfl, pl, _, rfl, .inl (.inl hp), fun D hD => ?_⟩
    refine lc_it walk_enumT (fun i H' => Gr T [] H H' ∧ H' D = some (.lst (((behindL ps one other).take i).map V.int))) ⟨.new hD, upd_same⟩ (fun i H' _ h => .inl (.inl (h.1.tup hp))) (fun i v H1 H2 hi ⟨g, hD1⟩ y => ?_) fun H1 ⟨g, hD1⟩ => ?_
    · obtain ⟨t, x1, x2, rfl, ht0, rfl, e1, e2⟩ := y
      rw [List.length_map] at hi
      have e2' : (ps.map V.int)[i]? = some x2 := e2
      rw [List.getElem?_map, List.getElem?_eq_getElem hi] at e2'
      cases e1
      cases e2'
      have dt : D ≠ t := fun z => by
        rw [z, ht0] at hD1
        cases hD1
      refine ⟨t, _, rfl, .inl (.inl upd_same), rfl, _, _, rfl, _, _, rfl, rfl, rfl, _, rfl, _, rfl, _, rfl, rfl, .inr ⟨_, rfl, _, _, rfl, rfl, _, rfl, _, rfl, rfl, .inr ⟨_, rfl, _, _, rfl, rfl, _, (upd_ne dt).trans hD1, ?_, ?_, ?_⟩⟩⟩
      · rw [List.length_map, List.length_take]
        exact small1000 (by omega)
      · exact (g.trans (.new ht0)).ownL hD ((upd_ne dt).trans hD1)
      · have key : ∀ {x : Nat}, (if decide (V.int (i : Int) = V.int (x : Int)) = true then (1 : Int) else 0) = if i = x then 1 else 0 := fun {x} => by
          by_cases h : i = x
          · rw [h]
            simp
          · have : ¬ (V.int (i : Int) = V.int (x : Int)) := fun z => h (by injection z with z; omega)
            simp [this, h]
        rw [upd_same, take_snoc (behindL_get hi), List.map_append, key, key]
        rfl
    · rw [List.length_map, List.take_of_length_le (Nat.le_of_eq (behindL_len ps one other))] at hD1
      exact ⟨D, _, rfl, .inl ⟨.inl (.inl hD1), fun p hp' => q _ p (g.trans (.new hp')) (g.mono _ hp') upd_same⟩⟩
end Rw
set_option maxHeartbeats 4000000
/-! The law's defs: all stands by the search. -/
namespace Rw
open PySem PySem.Spec PyProof.Rows L2 LamX NdefX
variable {P : Program} {w : World} {K : PySem.W.Frag} {mg : Str → Option Value} {base : Heap} {T : List NTab}
def keyOf (ps : List Int) : List L2.Key := ps.map Sum.inl
theorem keyOf_inj {a b : List Int} (h : keyOf a = keyOf b) : a = b := by
  induction a generalizing b with
  | nil => cases b with
    | nil => rfl
    | cons y r => cases h
  | cons x r ih => cases b with
    | nil => cases h
    | cons y s =>
      injection h with h1 h2
      rw [Sum.inl.inj h1, ih h2]
theorem keyOf_kV (ps : List Int) : (keyOf ps).map kV = ps.map V.int := by
  unfold keyOf
  rw [List.map_map]
  rfl
def metD (ms : List (List Int)) : List (List L2.Key × V) := ms.map fun m => (keyOf m, V.bl true)
theorem valV_met (f : List Int) : ∀ ms : List (List Int), (valV (metD ms) (keyOf f)).isSome = decide (f ∈ ms)
  | [] => rfl
  | m :: r => by
    have ih := valV_met f r
    unfold valV metD at ih ⊢
    rw [List.map_cons, List.find?_cons]
    by_cases h : m = f
    · subst h
      simp
    · have : ¬ (keyOf m = keyOf f) := fun z => h (keyOf_inj z)
      simp only [this, decide_false]
      rw [ih]
      simp [Ne.symm h]
theorem putK_met {f : List Int} {ms : List (List Int)} (h : f ∉ ms) : putK (metD ms) (keyOf f) (V.bl true) = metD (ms ++ [f]) := by
  unfold putK
  have e : ((metD ms).any fun kv => decide (kv.1 = keyOf f)) = false := by
    refine Bool.eq_false_iff.mpr fun z => ?_
    obtain ⟨kv, hkv, e⟩ := List.any_eq_true.mp z
    obtain ⟨m, hm, rfl⟩ := List.mem_map.mp hkv
    have e' : keyOf m = keyOf f := of_decide_eq_true e
    exact h (keyOf_inj e' ▸ hm)
  rw [e, if_neg Bool.false_ne_true]
  unfold metD
  rw [List.map_append]
  rfl
/-- what stands outside S is kept -/
def Keep (S : List Addr) (H H' : Hp) : Prop := ∀ x o, x ∉ S → H x = some o → (∀ ps, o ≠ .tbl ps) → H' x = some o
theorem Keep.refl {S : List Addr} (H : Hp) : Keep S H H := fun _ _ _ h _ => h
theorem Keep.trans {S : List Addr} {H H1 H2 : Hp} (a : Keep S H H1) (b : Keep S H1 H2) : Keep S H H2 := fun x o n h t => b x o n (a x o n h t) t
theorem Keep.of {S : List Addr} {H H1 : Hp} (g : Gr T [] H H1) : Keep S H H1 := fun x o _ h t => g.ext x o (fun z => nomatch z) h t
theorem Keep.put {S : List Addr} {H : Hp} {p : Addr} {o : HO} (h : p ∈ S) : Keep S H (upd H p o) := fun x u n q _ => by
  rw [upd_ne (fun z => n (by rw [z]; exact h))]
  exact q
theorem Gr.dT {B : List Addr} {H H1 : Hp} {a : Addr} {xs : List (List L2.Key × V)} (g : Gr T B H H1) (h : H a = some (.dT xs)) : H1 a = some (.dT xs) := g.ext a _ (fun _ _ z => nomatch z) h fun _ z => nomatch z
/-- a list of tuples of ints -/
def LvAt (H : Hp) (a : Addr) (lv : List (List Int)) : Prop := ∃ rs : List Addr, H a = some (.lst (rs.map V.ref)) ∧ rs.length = lv.length ∧ ∀ (i : Nat) (ps : List Int), lv[i]? = some ps → ∃ r, rs[i]? = some r ∧ H r = some (.tup (ps.map V.int))
theorem LvAt.keep {S : List Addr} {H H' : Hp} {a : Addr} {lv : List (List Int)} (h : LvAt H a lv) (k : Keep S H H') (n : a ∉ S) (nt : ∀ x ∈ S, ∀ xs, H x ≠ some (.tup xs)) : LvAt H' a lv := by
  obtain ⟨rs, h1, h2, h3⟩ := h
  refine ⟨rs, k a _ n h1 (fun _ z => nomatch z), h2, fun i ps e => ?_⟩
  obtain ⟨r, e1, e2⟩ := h3 i ps e
  exact ⟨r, e1, k r _ (fun z => nt r z _ e2) e2 (fun _ z => nomatch z)⟩
theorem LvAt.gr {H H' : Hp} {a : Addr} {lv : List (List Int)} (h : LvAt H a lv) (g : Gr T [] H H') : LvAt H' a lv := h.keep (S := []) (Keep.of g) (fun z => nomatch z) fun x z => nomatch z
/-- one more -/
theorem LvAt.snoc {H : Hp} {a f : Addr} {lv : List (List Int)} {ps : List Int} (h : LvAt H a lv) (hf : H f = some (.tup (ps.map V.int))) : ∃ rs : List Addr, H a = some (.lst (rs.map V.ref)) ∧ rs.length = lv.length ∧ LvAt (upd H a (.lst (rs.map V.ref ++ [.ref f]))) a (lv ++ [ps]) := by
  obtain ⟨rs, h1, h2, h3⟩ := h
  refine ⟨rs, h1, h2, rs ++ [f], by rw [upd_same, List.map_append]; rfl, by rw [List.length_append, List.length_append, h2]; rfl, fun i qs e => ?_⟩
  have ne : ∀ {r : Addr} {xs : List V}, H r = some (.tup xs) → r ≠ a := fun {r xs} q z => by
    rw [z, h1] at q
    cases q
  by_cases hi : i < lv.length
  · rw [List.getElem?_append_left hi] at e
    obtain ⟨r, e1, e2⟩ := h3 i qs e
    exact ⟨r, by rw [List.getElem?_append_left (by omega)]; exact e1, by rw [upd_ne (ne e2)]; exact e2⟩
  · rw [List.getElem?_append_right (by omega)] at e
    have e0 : i - lv.length = 0 := by
      cases q : i - lv.length with
      | zero => rfl
      | succ k => rw [q] at e; simp at e
    rw [e0] at e
    have e' : ps = qs := Option.some.inj e
    subst e'
    exact ⟨f, by rw [List.getElem?_append_right (by omega), show i - rs.length = 0 by omega]; rfl, by rw [upd_ne (ne hf)]; exact hf⟩
theorem rgV_start (n : Nat) : rgV 0 (n : Int) = (startL n).map V.int := by
  unfold rgV startL
  rw [List.map_map, Int.sub_zero, Int.toNat_natCast]
  exact List.map_congr_left fun i _ => by show V.int (0 + (i : Int)) = V.int (i : Int); rw [Int.zero_add]
theorem meetF_len (n : Nat) (ps : List Int) (one : Nat) (c : List (List Int) × List (List Int)) : (meetF n ps one c).1.length ≤ c.1.length + 1 ∧ (meetF n ps one c).2.length ≤ c.2.length + 1 := by
  unfold meetF
  split
  · exact ⟨by omega, by omega⟩
  · exact ⟨by rw [List.length_append]; exact Nat.le_refl _, by rw [List.length_append]; exact Nat.le_refl _⟩
def spWAll (T : List NTab) : Sp := fun vs H Q _ => ∃ (n t : Nat), vs = [.int n, .int t] ∧ (n, t) ∈ small ∧
  ∀ H' F (fs : List Addr) (L : Addr), Gr T [] H H' → H' F = some (.lst (fs.map V.ref)) → fs[t]? = some L → LvAt H' L (levelF n t).2 → Q (.ref F) H'
theorem sc96 : FnScope ["_law_many", "_law_most", "_law_level", "_law_found", "_law_met_here", "_law_total", "_law_later", "_law_places", "_law_one", "_law_further"] ["_law_many", "_law_most"] (defScope (top 96)) := ⟨rfl, rfl, rfl, by decide +kernel, rfl, by decide +kernel, by decide +kernel⟩
theorem ok_w_all (M : Mo K mg) : Gd P w K mg base 2 "_law_w_all" ["_law_many", "_law_most"] (spWAll T) := by
  refine gd_of (M.df "_law_w_all" 96) sc96 (fun F => F.bindsN fun _ _ _ _ _ _ us hl => match us, hl with | [_, _], _ => rfl) (fun vs H Q E h => ?_) fun cdv A outer s H vs Q E hr h => ⟨_, (pss_cons (ps_par3 (i := 2) (j := 3) (l := 4) rfl sc96.nd rfl rfl rfl (by decide) (by decide) (by decide) rfl rfl rfl (pa_cons (pe_lst (pa_cons (pe_tupRg rfl rfl (M.fr "tuple") (prg_1 rfl (M.fr "range") (pv 0))) pa_nil)) (pa_cons (pe_lst pa_nil) (pa_cons (pe_disp1T (hu_of hr) (pe_tupRg rfl rfl (M.fr "tuple") (prg_1 rfl (M.fr "range") (pv 0))) pe_bl) pa_nil))) (by rfl)) (pss_cons (ps_for (passes_of rfl) rfl (pi_range1 rfl (M.fr "range") (pa_cons (pe_op op_add (pv 1) pe_int) pa_nil)) (pg_name (i := 5) sc96.nd rfl (Or.inl rfl)) (pss_cons (ps_expr (pe_bm PySem.F.plainAttrs_list PySem.F.slot_list_append PySem.F.type_list_append mt_append (pv 3) (pa_cons (pv 2) pa_nil))) (pss_cons (ps_set (i := 6) sc96.nd rfl (Or.inl rfl) (pe_lst pa_nil)) (pss_cons (ps_for (passes_of rfl) rfl (pi_list (pv 2)) (pg_name (i := 7) sc96.nd rfl (Or.inl rfl)) (pss_one (ps_for (passes_of rfl) rfl (pi_range1 rfl (M.fr "range") (pa_cons (pv 0) pa_nil)) (pg_name (i := 8) sc96.nd rfl (Or.inl rfl)) (pss_cons (ps_set (i := 9) sc96.nd rfl (Or.inl rfl) (pe_gd (ok_w_behind (T := T) M) hr (by decide) rfl passL (pa_cons (pv 7) (pa_cons (pv 8) (pa_cons (pe_gd (ok_w_ahead (T := T) M) hr (by decide) rfl passL (pa_cons (pv 7) (pa_cons (pv 8) pa_nil))) pa_nil))))) (pss_one (ps_if (pt_cmp (pc_dnotin (hu_of hr) (pv 9) (pv 4)) (by with_unfolding_all rfl)) (pss_cons (ps_dput (hu_of hr) (pv 4) (pv 9) pe_bl (by rfl)) (pss_one (ps_expr (pe_bm PySem.F.plainAttrs_list PySem.F.slot_list_append PySem.F.type_list_append mt_append (pv 6) (pa_cons (pv 9) pa_nil))))) pss_nil)))))) (pss_one (ps_set (i := 2) sc96.nd rfl (Or.inl rfl) (pv 6))))))) (pss_one (ps_ret (pv 3))))), ?_⟩
  · obtain ⟨n, t, rfl, _⟩ := h
    rfl
  · obtain ⟨n, t, rfl, hm, q⟩ := h
    have sm : 2 ≤ n ∧ n ≤ 4 ∧ t ≤ 4 ∧ ∀ s, s ≤ t → (n, s) ∈ small := by
      have key : ∀ p ∈ small, 2 ≤ p.1 ∧ p.1 ≤ 4 ∧ p.2 ≤ 4 ∧ ∀ s ∈ List.range (p.2 + 1), (p.1, s) ∈ small := by decide +kernel
      obtain ⟨a, b, c, d⟩ := key _ hm
      exact ⟨a, b, c, fun s hs => d s (List.mem_range.mpr (Nat.lt_succ_of_le hs))⟩
    obtain ⟨n2, n4, t4, smA⟩ := sm
    have rg : RgOk 0 (n : Int) := RgOk.of_le (by omega) (by omega) (by omega) (by omega)
    refine ⟨_, rfl, _, rfl, rg, fun r0 hr0 => ⟨szl, fun lv0 hlv0 => ⟨szl, fun F hF0 => fun met hmet0 => ⟨_, rfl, _, rfl, rg, fun r1 hr1 => ?_⟩⟩⟩⟩
    rw [rgV_start] at *
    -- the start
    have hd : ∀ (X : Hp) (a b : Addr) (o : HO), X b = none → X a = some o → a ≠ b := fun X a b o h1 h2 z => by rw [z, h1] at h2; cases h2
    have e1 : upd H r0 (HO.tup ((startL n).map V.int)) r0 = some (.tup ((startL n).map V.int)) := upd_same
    have g1 : Gr T [] H (upd H r0 (HO.tup ((startL n).map V.int))) := .new hr0
    generalize upd H r0 (HO.tup ((startL n).map V.int)) = X1 at *
    have e2 : upd X1 lv0 (.lst [V.ref r0]) lv0 = some (.lst [V.ref r0]) := upd_same
    have g2 : Gr T [] X1 (upd X1 lv0 (.lst [V.ref r0])) := .new hlv0
    generalize upd X1 lv0 (.lst [V.ref r0]) = X2 at *
    have e3 : upd X2 F (.lst []) F = some (.lst []) := upd_same
    have g3 : Gr T [] X2 (upd X2 F (.lst [])) := .new hF0
    generalize upd X2 F (.lst []) = X3 at *
    have e4 : upd X3 met (.dT []) met = some (.dT []) := upd_same
    have g4 : Gr T [] X3 (upd X3 met (.dT [])) := .new hmet0
    generalize upd X3 met (.dT []) = X4 at *
    have e5 : upd X4 r1 (.tup ((startL n).map V.int)) r1 = some (.tup ((startL n).map V.int)) := upd_same
    have g5 : Gr T [] X4 (upd X4 r1 (.tup ((startL n).map V.int))) := .new hr1
    generalize upd X4 r1 (.tup ((startL n).map V.int)) = X5 at *
    have gF : Gr T [] X3 X5 := g4.trans g5
    have hF : H F = none := g1.mono _ (g2.mono _ hF0)
    have hmet : H met = none := g1.mono _ (g2.mono _ (g3.mono _ hmet0))
    have hl0 : lv0 ≠ F := hd X2 _ _ _ hF0 e2
    have lv5 : LvAt X5 lv0 [startL n] := by
      have k := (g3.trans gF)
      refine ⟨[r0], k.lst e2 (fun z => nomatch z), rfl, fun i ps e => ?_⟩
      cases i with
      | zero =>
        cases e
        exact ⟨r0, rfl, k.tup (g2.tup e1)⟩
      | succ i => simp at e
    have m5 : X5 met = some (.dT []) := g5.dT e4
    refine ⟨m5, r1, keyOf (startL n), rfl, by rw [keyOf_kV]; exact e5, _, _, _, rfl, ?_⟩
    have F5 : X5 F = some (.lst []) := gF.lst e3 (fun z => nomatch z)
    have g05 : Gr T [] H X5 := (((g1.trans g2).trans g3).trans g4).trans g5
    have m6 : upd X5 met (.dT [(keyOf (startL n), V.bl true)]) met = some (.dT (metD [startL n])) := upd_same
    have g06 : Gr T [] H (upd X5 met (.dT [(keyOf (startL n), V.bl true)])) := g05.own hmet m5 (fun _ z => nomatch z) fun _ _ z => nomatch z
    have k6 : Keep [met] X5 (upd X5 met (.dT [(keyOf (startL n), V.bl true)])) := Keep.put (by simp)
    have F6 := k6 F _ (by simpa using (show F ≠ met from fun z => by rw [z, m5] at F5; cases F5)) F5 (fun _ z => nomatch z)
    have lv6 : LvAt (upd X5 met (.dT [(keyOf (startL n), V.bl true)])) lv0 [startL n] := by
      refine lv5.keep k6 ?_ fun x hx xs z => ?_
      · intro z
        obtain ⟨rs, h1, _⟩ := lv5
        rw [List.mem_singleton.mp z, m5] at h1
        cases h1
      · rw [List.mem_singleton.mp hx, m5] at z
        cases z
    dsimp only
    generalize upd X5 met (.dT [(keyOf (startL n), V.bl true)]) = X6 at *
    clear lv5 m5 F5 k6 gF g5 g4 g3 g2 g1 e1 e2 e3 e4 e5 hr0 hlv0 hF0 hmet0 hr1 g05
    -- the turns
    refine ⟨_, rfl, _, _, rfl, rfl, _, rfl, by omega, by omega, ?_⟩
    have et : ((t : Int) + 1).toNat = t + 1 := by omega
    rw [et]
    refine for_it walk_range (fun i σ H' => Gr T [] H H' ∧ ∃ (lvl : Addr) (fs : List Addr) (z5 z6 z7 z8 z9 : Option V), σ = [some (.int n), some (.int t), some (.ref lvl), some (.ref F), some (.ref met), z5, z6, z7, z8, z9] ∧ H' F = some (.lst (fs.map V.ref)) ∧ H' met = some (.dT (metD (levelF n i).1)) ∧ LvAt H' lvl (levelF n i).2 ∧ lvl ≠ F ∧ fs.length = i ∧
      (∀ j, j < i → ∃ r, fs[j]? = some r ∧ r ≠ F ∧ LvAt H' r (levelF n j).2) ∧ (levelF n i).1.length ≤ 1 + 300 * i) ⟨g06, lv0, [], none, none, none, none, none, rfl, F6, m6, lv6, hl0, rfl, fun j hj => absurd hj (Nat.not_lt_zero _), Nat.le_refl _⟩ (fun _ _ _ _ _ => True.intro) (fun i x σ H1 H2 hi ⟨g, lvl, fs, z5, z6, z7, z8, z9, e, hF1, hm1, hl1, nlF, fl, old, mb⟩ ⟨y1, y2⟩ => ?_) ?_
    · subst e y1
      have hit : i ≤ t := by omega
      have hsm := smA i hit
      have l64 := (small_len _ hsm).2
      have lok := small_ok _ hsm
      dsimp only at l64 lok
      -- found.append(level)
      refine ⟨_, rfl, .inl ⟨rfl, _, .inl (.inl hF1)⟩, _, rfl, F, _, _, rfl, rfl, hF1, by rw [List.length_map]; exact small1000 (by omega), ?_⟩
      have gA : Gr T [] H (upd H2 F (.lst (fs.map V.ref ++ [V.ref lvl]))) := g.ownL hF hF1
      have kA : Keep [F] H2 (upd H2 F (.lst (fs.map V.ref ++ [V.ref lvl]))) := Keep.put (by simp)
      have ntF : ∀ x ∈ [F], ∀ xs, H2 x ≠ some (.tup xs) := fun x hx xs z => by
        rw [List.mem_singleton.mp hx, hF1] at z
        cases z
      have FA : upd H2 F (.lst (fs.map V.ref ++ [V.ref lvl])) F = some (.lst ((fs ++ [lvl]).map V.ref)) := by rw [upd_same, List.map_append]; rfl
      have mA := kA met _ (by simpa using (show met ≠ F from fun z => by rw [z, hF1] at hm1; cases hm1)) hm1 (fun _ z => nomatch z)
      have lA := hl1.keep kA (by simpa using nlF) ntF
      have oldA : ∀ j, j < i → ∃ r, fs[j]? = some r ∧ r ≠ F ∧ LvAt (upd H2 F (.lst (fs.map V.ref ++ [V.ref lvl]))) r (levelF n j).2 := fun j hj => by
        obtain ⟨r, e1, e2, e3⟩ := old j hj
        exact ⟨r, e1, e2, e3.keep kA (by simpa using e2) ntF⟩
      generalize upd H2 F (.lst (fs.map V.ref ++ [V.ref lvl])) = HA at *
      clear kA ntF hF1 hm1 hl1 old
      -- later = []
      refine ⟨szl, fun lt hlt => ?_⟩
      have gB : Gr T [] HA (upd HA lt (.lst [])) := .new hlt
      have ltH : H lt = none := gA.mono _ hlt
      have lB : upd HA lt (.lst []) lt = some (.lst []) := upd_same
      have ltF : lt ≠ F := fun z => by rw [z, FA] at hlt; cases hlt
      have FB := gB.lst FA (fun z => nomatch z)
      have mB := gB.dT mA
      have lvB := lA.gr gB
      have nlt : lvl ≠ lt := fun z => by
        obtain ⟨rs, h1, _⟩ := lA
        rw [z, hlt] at h1
        cases h1
      have oldB : ∀ j, j < i → ∃ r, fs[j]? = some r ∧ r ≠ F ∧ r ≠ lt ∧ LvAt (upd HA lt (.lst [])) r (levelF n j).2 := fun j hj => by
        obtain ⟨r, e1, e2, e3⟩ := oldA j hj
        refine ⟨r, e1, e2, fun z => ?_, e3.gr gB⟩
        obtain ⟨rs, h1, _⟩ := e3
        rw [z, hlt] at h1
        cases h1
      have g0B := gA.trans gB
      generalize upd HA lt (.lst []) = HB at *
      clear gA FA mA lA oldA gB hlt HA g
      have ntB : ∀ x ∈ [met, lt], ∀ xs, HB x ≠ some (.tup xs) := fun x hx xs z => by
        rcases List.mem_cons.mp hx with h | h
        · rw [h, mB] at z
          cases z
        · rw [List.mem_singleton.mp h, lB] at z
          cases z
      obtain ⟨rs, hl1, hl2, hl3⟩ := id lvB
      refine ⟨_, rfl, lvl, rfl, ⟨_, .inl (.inl hl1)⟩, ?_⟩
      have nlm : lvl ∉ [met, lt] := fun z => by
        rcases List.mem_cons.mp z with h | h
        · rw [h, mB] at hl1
          cases hl1
        · exact nlt (List.mem_singleton.mp h)
      generalize hc0 : (levelF n i).1 = m0 at mB mb
      generalize hlv : (levelF n i).2 = lv at hl2 hl3 l64 lok lvB
      refine for_it (walk_list (xs := rs.map V.ref)) (fun k σ H' => Gr T [] H H' ∧ Keep [met, lt] HB H' ∧ ∃ z7 z8 z9 : Option V, σ = [some (.int n), some (.int t), some (.ref lvl), some (.ref F), some (.ref met), some x, some (.ref lt), z7, z8, z9] ∧ ∃ c : List (List Int) × List (List Int), c = (lv.take k).foldl (fun c ps => meetR n ps c) (m0, []) ∧ H' met = some (.dT (metD c.1)) ∧ LvAt H' lt c.2 ∧ c.1.length ≤ m0.length + 4 * k ∧ c.2.length ≤ 4 * k)
        ⟨g0B, .refl _, z7, z8, z9, rfl, _, rfl, mB, ⟨[], lB, rfl, fun _ _ z => by simp at z⟩, Nat.le_refl _, Nat.le_refl _⟩ (fun k σ H' _ h => .inl (.inl (h.2.1 _ _ nlm hl1 (fun _ z => nomatch z)))) (fun k v σ H3 H4 hk ⟨g3, k3, z7, z8, z9, e, c, hc, hm3, hlt3, b1, b2⟩ ⟨y3, y4⟩ => ?_) ?_
      · subst e y3
        rw [List.length_map] at hk
        have hk' : k < lv.length := by omega
        obtain ⟨r, er, hr3⟩ := hl3 k lv[k] (List.getElem?_eq_getElem hk')
        rw [List.getElem?_map, er] at y4
        cases y4
        obtain ⟨plen, pah, _⟩ := lok lv[k] (List.getElem_mem _)
        have nr : r ∉ [met, lt] := fun z => ntB r z _ hr3
        have hps : lv[k]? = some lv[k] := List.getElem?_eq_getElem hk'
        generalize lv[k] = ps at hr3 plen pah hps
        refine ⟨_, rfl, _, rfl, by omega, by omega, ?_⟩
        have en : ((n : Int)).toNat = n := by omega
        rw [en]
        refine for_it walk_range (fun j σ H' => Gr T [] H H' ∧ Keep [met, lt] HB H' ∧ ∃ z8 z9 : Option V, σ = [some (.int n), some (.int t), some (.ref lvl), some (.ref F), some (.ref met), some x, some (.ref lt), some (.ref r), z8, z9] ∧ ∃ c' : List (List Int) × List (List Int), c' = (List.range j).foldl (fun c one => meetF n ps one c) c ∧ H' met = some (.dT (metD c'.1)) ∧ LvAt H' lt c'.2 ∧ c'.1.length ≤ m0.length + 4 * k + j ∧ c'.2.length ≤ 4 * k + j)
          ⟨g3, k3, z8, z9, rfl, c, rfl, hm3, hlt3, b1, b2⟩ (fun _ _ _ _ _ => True.intro) (fun j v σ H5 H6 hj ⟨g5, k5, z8, z9, e, c', hc', hm5, hlt5, b3, b4⟩ ⟨y5, y6⟩ => ?_) ?_
        · have ev : v = V.int (j : Int) := by
            rw [y6]
            show V.int (0 + (j : Int)) = _
            rw [Int.zero_add]
          subst e y5 ev
          have hr5 := k5 r _ nr hr3 (fun _ z => nomatch z)
          refine ⟨_, rfl, _, rfl, _, rfl, _, rfl, r, ps, j, rfl, hr5, by omega, by omega, by rw [plen]; exact pah j (List.mem_range.mpr hj), fun H7 g7 => ?_⟩
          refine ⟨r, ps, j, _, rfl, g7.tup hr5, by omega, fun H8 f g8 hf0 hf => ?_⟩
          rw [plen] at hf
          have hf' : H8 f = some (.tup ((furtherF n ps j).map V.int)) := hf
          have g78 := g7.trans g8
          have hm8 := g78.dT hm5
          have hlt8 := hlt5.gr g78
          have k8 := k5.trans (Keep.of g78)
          have g08 := g5.trans g78
          have ec : (List.range (j + 1)).foldl (fun c one => meetF n ps one c) c = meetF n ps j c' := by rw [List.range_succ, List.foldl_append, ← hc']; rfl
          have hkey : H8 f = some (.tup ((keyOf (furtherF n ps j)).map kV)) := by rw [keyOf_kV]; exact hf'
          have bl := meetF_len n ps j c'
          refine ⟨_, rfl, _, rfl, met, _, rfl, .t hm8 hkey, _, rfl, ?_⟩
          rw [valV_met]
          refine ite2 (fun z => ?_) fun z => ?_
          · have nin : furtherF n ps j ∉ c'.1 := by simpa using z
            have em : meetF n ps j c' = (c'.1 ++ [furtherF n ps j], c'.2 ++ [furtherF n ps j]) := if_neg nin
            have lmet : lt ≠ met := fun z => by
              obtain ⟨rs', h1, _⟩ := hlt8
              rw [z, hm8] at h1
              cases h1
            have hm0 : H8 met ≠ none := by rw [hm8]; exact fun z => nomatch z
            have kM : Keep [met, lt] H8 (upd H8 met (.dT (metD (c'.1 ++ [furtherF n ps j])))) := Keep.put (by simp)
            have hlt9 : LvAt (upd H8 met (.dT (metD (c'.1 ++ [furtherF n ps j])))) lt c'.2 := hlt8.keep (S := [met]) (Keep.put (by simp)) (by simpa using lmet) fun y hy xs z => by
              rw [List.mem_singleton.mp hy, hm8] at z
              cases z
            have hf9 : upd H8 met (.dT (metD (c'.1 ++ [furtherF n ps j]))) f = some (.tup ((furtherF n ps j).map V.int)) := (upd_ne (fun z => by rw [z, hm8] at hf'; cases hf')).trans hf'
            have hm9 : upd H8 met (.dT (metD (c'.1 ++ [furtherF n ps j]))) met = some (.dT (metD (c'.1 ++ [furtherF n ps j]))) := upd_same
            have g09 : Gr T [] H (upd H8 met (.dT (metD (c'.1 ++ [furtherF n ps j])))) := g08.own hmet hm8 (fun _ z => nomatch z) fun _ _ z => nomatch z
            obtain ⟨rs', h91, h92, h93⟩ := hlt9.snoc hf9
            refine ⟨_, rfl, _, rfl, met, _, rfl, .t hm8 hkey ?_, ?_⟩
            · unfold metD
              rw [List.length_map, sizeLine_eq]
              omega
            rw [putK_met nin]
            generalize upd H8 met (.dT (metD (c'.1 ++ [furtherF n ps j]))) = H9 at *
            refine ⟨_, rfl, .inl ⟨rfl, _, .inl (.inl h91)⟩, _, rfl, lt, _, _, rfl, rfl, h91, by rw [List.length_map, h92, sizeLine_eq]; omega, ?_⟩
            refine ⟨g09.ownL ltH h91, (k8.trans kM).trans (Keep.put (by simp)), _, _, rfl, _, rfl, ?_, ?_, ?_, ?_⟩
            · rw [ec, em, upd_ne (Ne.symm lmet)]
              exact hm9
            · rw [ec, em]
              exact h93
            · rw [ec]
              omega
            · rw [ec]
              omega
          · have yin : furtherF n ps j ∈ c'.1 := by simpa using z
            have em : meetF n ps j c' = c' := if_pos yin
            exact ⟨g08, k8, _, _, rfl, _, rfl, by rw [ec, em]; exact hm8, by rw [ec, em]; exact hlt8, by rw [ec, em]; omega, by rw [ec, em]; omega⟩
        · rintro σ H5 ⟨g5, k5, z8, z9, rfl, c', hc', hm5, hlt5, b3, b4⟩
          have ec : (lv.take (k + 1)).foldl (fun c ps => meetR n ps c) (m0, []) = c' := by
            rw [take_snoc hps, List.foldl_append, ← hc, hc']
            rfl
          exact ⟨g5, k5, _, _, _, rfl, _, rfl, by rw [ec]; exact hm5, by rw [ec]; exact hlt5, by rw [ec]; omega, by rw [ec]; omega⟩
      · rintro σ H3 ⟨g3, k3, z7, z8, z9, rfl, c, hc, hm3, hlt3, b1, b2⟩
        rw [List.length_map] at hc b1 b2
        rw [List.take_of_length_le (by omega)] at hc
        have ec : levelF n (i + 1) = c := by
          show meetL n (levelF n i).2 (levelF n i).1 = c
          rw [hc0, hlv, hc]
          rfl
        have FnotS : F ∉ [met, lt] := fun z => by
          rcases List.mem_cons.mp z with h | h
          · rw [h, mB] at FB
            cases FB
          · exact ltF (List.mem_singleton.mp h).symm
        refine ⟨_, rfl, g3, lt, fs ++ [lvl], _, _, _, _, _, rfl, k3 F _ FnotS FB (fun _ z => nomatch z), by rw [ec]; exact hm3, by rw [ec]; exact hlt3, ltF, by rw [List.length_append, fl]; rfl, fun j hj => ?_, by rw [ec]; omega⟩
        by_cases e : j = i
        · subst e
          refine ⟨lvl, by rw [List.getElem?_append_right (by omega), fl, Nat.sub_self]; rfl, nlF, ?_⟩
          rw [hlv]
          exact lvB.keep k3 nlm ntB
        · obtain ⟨r, e1, e2, e3, e4⟩ := oldB j (by omega)
          refine ⟨r, by rw [List.getElem?_append_left (by omega)]; exact e1, e2, e4.keep k3 (fun z => ?_) ntB⟩
          rcases List.mem_cons.mp z with h | h
          · obtain ⟨rs', h1, _⟩ := e4
            rw [h, mB] at h1
            cases h1
          · exact e3 (List.mem_singleton.mp h)
    · rintro σ H1 ⟨g, lvl, fs, z5, z6, z7, z8, z9, rfl, hF1, hm1, hl1, nlF, fl, old, mb⟩
      obtain ⟨L, e1, _, e3⟩ := old t (Nat.lt_succ_self t)
      exact ⟨_, rfl, q H1 F fs L g hF1 e1 e3⟩
end Rw
set_option maxHeartbeats 4000000
/-! Exceptions as values; == of a thing with itself. -/
namespace Rw
open PySem PySem.Spec PyProof.Rows L2 LamX NdefX
variable {P : Program} {w : World} {K : PySem.W.Frag} {mg : Str → Option Value} {base : Heap} {T : List NTab}
theorem Gr.of_ext {B : List Addr} {H H' : Hp} (e : ∀ b o, H b = some o → H' b = some o) : Gr T B H H' :=
  ⟨fun b o _ h _ => e b o h, fun b h => (by
    cases q : H b with
    | none => rfl
    | some o =>
      rw [e b o q] at h
      cases h), fun (t : TabsN T H) => TabsN.ext t fun c u q => e c u q⟩
/-- an exception object with its dict -/
def ExAt (H : Hp) (a C d : Addr) (fs : List (Str × V)) : Prop := H a = some (exo a C (some d)) ∧ H d = some (exd d fs)
theorem ExAt.gr {H H' : Hp} {a C d : Addr} {fs : List (Str × V)} {B : List Addr} (h : ExAt H a C d fs) (g : Gr T B H H') : ExAt H' a C d fs := ⟨g.exx h.1, g.exx h.2⟩
theorem ExAt.inst {H : Hp} {h : Heap} {a C d : Addr} {fs : List (Str × V)} (hok : HOk P w H h) (e : ExAt H a C d fs) : ∃ ox od, PySem.W.InstAt h a ox C (some od) := by
  obtain ⟨t1, h1⟩ := exo_at hok e.1
  obtain ⟨mA, ⟨od, es, ep, h2, _⟩, _⟩ := exd_at hok e.2
  exact ⟨_, od, h1, rfl, rfl, h2⟩
/-- C(e), as a value -/
def tNewX (C : Addr) (fld : Str) (ta : TA) : TE := fun σ H Q => ta σ H fun vs H1 => ∃ y, vs = [y] ∧ ∀ a d H', (∀ b o, H1 b = some o → H' b = some o) → H1 a = none → ExAt H' a C d [(fld, y)] → Q (.ref a) H'
theorem pe_newX {X : Cx} {x fld : Str} {C fI : Addr} {k : Nat} {e : Expr} {es : List Expr} {ta : TA} {ps : List Str} {p pos : Pos} (T : OexC X.K C) (iC : PySem.W.findIn X.K (.ref C) "__init__" = some (some (.ref fI))) (tI : PySem.W.typeIn X.K (.ref fI) = some (.type "function"))
    (G : ∃ fd, FnOk X.prog X.w X.K X.mg X.base (L2.CX X.prog X.w) k fI fd ps (spExInit C fld) ∧ Binds X.K fd ps []) (hr : Room (k + 1) X.A) (hx : Passes (L2.CX X.prog X.w) X (fun _ _ _ => False)) (hg : Gl X x) (hm : X.mg x = some (.ref C)) (ha : PA X (e :: es) ta)
    (hdb : (x == ("__debug__" : Str)) = false := by decide) (he : starEach (e :: es) X.env = (false, eval e X.env) :: starEach es X.env := by rfl) (hpl : (backTo pos (starEach es X.env)).any (·.1) = false := by rfl) : PE X (.Call (.Name x p) (e :: es) [] pos) (tNewX C fld ta) := by
  obtain ⟨fd, F1, hb⟩ := G
  refine ⟨fun pinsz s σ H Q I h => ?_⟩
  obtain ⟨nm, q, N, bs, bmz, sn, sub, ab, col, dd, k0, k1, k2, k3, k5, hC, hbm⟩ := T.cls
  refine wpAny_Call_Name_kw (ld_glob I hg hm ?_ hdb)
  refine PySem.W.callWith_K (h₀ := X.base) I.ok.mod.kin T.kC (thn (ha.run pos pinsz s σ H _ I h) fun us s1 ⟨vs, H1, I1, r1, y, ev, q1⟩ => ⟨I1.kIn, ?_⟩) he hpl
  subst ev
  obtain ⟨ds, hds⟩ : ∃ ds : List Value, ds = [] := ⟨_, rfl⟩
  rw [← hds] at hb
  show wpAny _ _ (call (.ref C) us) _ _ _
  obtain ⟨hpz, g, dr, tk, os⟩ := s1
  have hsz : hpz.objs.size ≤ hpz.objs.size + 1 := Nat.le_succ _
  have hn : H1 (hpz.objs.size + 1) = none := I1.hok.fresh hsz
  have kk : ∀ b o, hpz.get? b = some o → ((hpz.push (PySem.W.kdv_tup us)).push (PySem.HandSPX.excO C hpz.objs.size)).get? b = some o := fun b o e => Heap.get?_push_of_some _ (Heap.get?_push_of_some _ e)
  have hget : ((hpz.push (PySem.W.kdv_tup us)).push (PySem.HandSPX.excO C hpz.objs.size)).get? (hpz.objs.size + 1) = some (PySem.HandSPX.excO C hpz.objs.size) := by heap_get
  have I2 : Inv X pinsz σ (upd H1 (hpz.objs.size + 1) (exo (hpz.objs.size + 1) C none)) ⟨(hpz.push (PySem.W.kdv_tup us)).push (PySem.HandSPX.excO C hpz.objs.size), g, dr, tk, os⟩ :=
    I1.laid (t' := tk) (a := hpz.objs.size + 1) (o := exo (hpz.objs.size + 1) C none) (h' := (hpz.push (PySem.W.kdv_tup us)).push (PySem.HandSPX.excO C hpz.objs.size)) kk hsz (exo_ok hget)
  have r2 : Vals (V.ref (hpz.objs.size + 1) :: ([y] ++ [])) (Value.ref (hpz.objs.size + 1) :: (us ++ ds)) := .cons rfl (r1.append (show Vals [] ds by rw [hds]; exact .nil))
  have hsp : spExInit C fld (V.ref (hpz.objs.size + 1) :: ([y] ++ [])) (upd H1 (hpz.objs.size + 1) (exo (hpz.objs.size + 1) C none)) (fun v H2 => v = .non ∧ ∃ d, (∀ b o, H1 b = some o → H2 b = some o) ∧ ExAt H2 (hpz.objs.size + 1) C d [(fld, y)]) (fun _ _ _ => False) := by
    refine ⟨_, y, rfl, upd_same, fun dx hd hda => ⟨rfl, dx, fun b o hb => ?_, ?_, ?_⟩⟩
    · rw [upd_ne hda] at hd
      rw [upd_ne (ne_of_none hb hn), upd_ne (ne_of_none hb hd), upd_ne (ne_of_none hb hn)]
      exact hb
    · exact upd_same
    · rw [upd_ne hda, upd_same]
  have hl : (Value.ref (hpz.objs.size + 1) :: us ++ ds).length = ps.length := by
    have e := r2.length
    rw [F1.len _ _ _ _ hsp] at e
    exact e.symm
  have husz : us.length ≤ sizeLine := by
    rw [← Paired.length r1]
    exact szl
  refine wpAny_call (PySem.HandSPX.call_own PySem.F.excBase_ValueError (fun Y => PySem.HandSPX.refsVE_contains Y bmz hbm) (I1.kIn _ _ hC) (PySem.W.looks_findIn I1.kIn iC) (fun self => PySem.W.bind_fn I1.kIn self tI) husz
    (codeAny_mono (F1.run _ X.stack _ _ ⟨Value.ref (hpz.objs.size + 1) :: us, []⟩ (Value.ref (hpz.objs.size + 1) :: (us ++ ds)) _ _ (fun _ _ _ => False) (hr.make C us []) (I2.env0.make C us []) (hb _ (Value.ref (hpz.objs.size + 1) :: us) I2.kIn hl) r2 hsp) fun r s' hqz' => ?_))
  cases r with
  | error er => exact hx pinsz σ _ _ er s' I2 hqz'
  | ok fl =>
    cases fl with
    | ret u =>
      obtain ⟨v, H2, os2, bare2, un2, hok2, rv, ev, d, ext, ex⟩ := hqz'
      subst ev
      cases (show u = Value.none from rv)
      have J : Inv X pinsz σ H2 s' := I2.call' (ch := []) os2 un2 hok2 bare2 (fun b z => absurd z (by simp))
      exact ⟨rfl, .ref _, H2, J, rfl, q1 _ d H2 ext hn ex⟩
    | next => exact False.elim hqz'
    | brk => exact False.elim hqz'
    | cont => exact False.elim hqz'
end Rw
set_option maxHeartbeats 4000000
/-! == of objects with themselves. -/
namespace Rw
open PySem PySem.Spec PyProof.Rows L2 LamX NdefX
variable {P : Program} {w : World} {K : PySem.W.Frag} {mg : Str → Option Value} {base : Heap} {T : List NTab}
theorem call_objEq_self {A : Around} {E : Value → Shared → Prop} {s : Shared} {x C : Addr} {ox : Obj} {od : Option Obj} {Q : Value → Shared → Prop} (X : K.In s.heap) (I : PySem.W.InstAt s.heap x ox C od) (hm : PySem.W.mroIn K C (.type "object") = some true) (hq : Q (.bool true) s) :
    wpAny (model P w) A (call (.builtin "object.__eq__") [.ref x, .ref x]) Q E s :=
  wpAny_call (codeAny_call_builtin PySem.F.cmp_object.eq.plain PySem.F.cmpEntry_eq (PySem.W.check_slot PySem.F.cmpKind_eq PySem.F.cmpSplit_eq (I.type.andThen (PySem.W.looks_mroIn X hm)) (PySem.F.cmpArgs_eq _ _) (PySem.objEq_entry_same hq)))
theorem rc_self {A : Around} {E : Value → Shared → Prop} {s : Shared} {x C : Addr} {ox : Obj} {od : Option Obj} {Q : Value → Shared → Prop} (hu : A.units < cLine) (X : K.In s.heap) (I : PySem.W.InstAt s.heap x ox C od) (hm : PySem.W.mroIn K C (.type "object") = some true)
    (hs : PySem.W.findIn K (.ref C) "__eq__" = some (some (.builtin "object.__eq__"))) (hq : Q (.bool true) s) : wpAny (model P w) A (richCompare .Eq (.ref x) (.ref x)) Q E s := by
  have one : wpAny (model P w) A (tryCompare (.ref x) "__eq__" (.ref x)) (fun r s' => r = some (.bool true) ∧ s' = s) E s := by
    unfold tryCompare
    exact wpAny_bind (HN.ifBound_objEq X I hs (call_objEq_self X I hm (wpAny_pure ⟨rfl, rfl⟩)))
  simp only [richCompare, cmpInfo_Eq, oneThing_ref]
  refine wpAny_holding (wpAny_bind (wpAny_cRoomFor hu ?_))
  refine wpAny_bind (I.type.here ?_)
  refine wpAny_bind (I.type.here ?_)
  split
  · rename_i q
    simp at q
  · refine wpAny_bind (wpAny_pure ?_)
    simp only [Bool.false_eq_true, if_false]
    refine wpAny_bind (wpAny_mono one (fun r s1 z => ?_) fun _ _ e => e)
    obtain ⟨z1, z2⟩ := z
    subst z1
    subst z2
    exact wpAny_pure hq
/-- an exception and itself -/
def DEx (C : Addr) : Eqv := fun x y H => ∃ a d fs, x = .ref a ∧ y = .ref a ∧ ExAt H a C d fs
theorem rcG_ex {X : Cx} {C : Addr} {n : Nat} (hm : PySem.W.mroIn X.K C (.type "object") = some true) (hs : PySem.W.findIn X.K (.ref C) "__eq__" = some (some (.builtin "object.__eq__"))) : RcG X n (DEx C) := by
  intro A pinsz s σ H x y u v sb I rx ry d
  obtain ⟨a, d, fs, rfl, rfl, e⟩ := d
  cases rx
  cases ry
  obtain ⟨ox, od, J⟩ := e.inst I.hok
  exact rc_self sb.room.units0 I.kIn J hm hs ⟨rfl, H, I, Ext.rfl'⟩
theorem rcG_or {X : Cx} {n : Nat} {D D' : Eqv} (h : RcG X n D) (h' : RcG X n D') : RcG X n (fun x y H => D x y H ∨ D' x y H) := fun A pins s σ H x y u v sb I rx ry d => by
  rcases d with d | d
  · exact h A pins s σ H x y u v sb I rx ry d
  · exact h' A pins s σ H x y u v sb I rx ry d
theorem rcG_mono {X : Cx} {n m : Nat} {D : Eqv} (h : RcG X n D) (hn : n ≤ m) : RcG X m D := fun A pins s σ H x y u v sb => h A pins s σ H x y u v (sb.mono hn)
/-- the same thing, within a list or a tuple -/
def DSelf : Eqv := fun x y _ => ∃ a, x = .ref a ∧ y = .ref a
theorem mon_self : Mon DSelf := fun _ _ _ _ _ d => d
theorem eqG_self {X : Cx} {n : Nat} : EqG X n DSelf := by
  intro A pinsz s σ H x y u v sb I rx ry d
  obtain ⟨a, rfl, rfl⟩ := d
  cases rx
  cases ry
  exact SeqAt.EqAt.same (A := A) (s := s) (.ref a) X.prog X.w X.xe _ ⟨rfl, H, I, Ext.rfl'⟩
theorem or_or {X : Cx} {f : Value → Value → Sem Value} {r r' : R2} (h : OpR X f r) (h' : OpR X f r') : OpR X f (fun x y H Q => r x y H Q ∨ r' x y H Q) := by
  intro pinsz s σ H x y v u Q I rx ry q
  rcases q with q | q
  · exact h pinsz s σ H x y v u Q I rx ry q
  · exact h' pinsz s σ H x y v u Q I rx ry q
end Rw
set_option maxHeartbeats 4000000
/-! Path.__eq__, Desk. -/
namespace Rw
open PySem PySem.Spec PyProof.Rows L2 LamX NdefX
variable {P : Program} {w : World} {K : PySem.W.Frag} {mg : Str → Option Value} {base : Heap} {T : List NTab}
/-- the classes with an == of their own -/
structure Md (K : PySem.W.Frag) (mg : Str → Option Value) : Prop where
  peq : ∃ f fd, PySem.W.findIn K (.ref (He.ga K "Path")) "__eq__" = some (some (.ref f)) ∧ PySem.W.isFn K (.ref f) = true ∧ FunD K "__eq__" "Path.__eq__" (defArgs (meth 23 3)) (defBody (meth 23 3)) (defScope (meth 23 3)) [] [] f fd
  deq : ∃ f fd, PySem.W.findIn K (.ref (He.ga K "Desk")) "__eq__" = some (some (.ref f)) ∧ PySem.W.isFn K (.ref f) = true ∧ FunD K "__eq__" "Desk.__eq__" (defArgs (meth 60 19)) (defBody (meth 60 19)) (defScope (meth 60 19)) [] [] f fd
  dinit : ∃ f fd, Mk K (He.ga K "Desk") f ∧ FunD K "__init__" "Desk.__init__" (defArgs (meth 60 0)) (defBody (meth 60 0)) (defScope (meth 60 0)) [] [] f fd
  dcls : Cls K (He.ga K "Desk")
  dpath : NoAttr K (He.ga K "Desk") "own_path"
  dgr : NoAttr K (He.ga K "Desk") "own_grounds"
  dde : NoAttr K (He.ga K "Desk") "own_deeds"
  dun : NoAttr K (He.ga K "Desk") "own_undone"
  dgc : PySem.W.findIn K (.ref (He.ga K "Desk")) "__class__" = some (some (.builtin "object.__class__"))
  dgm : PySem.W.mroIn K (He.ga K "Desk") (.type "object") = some true
def RPath (K : PySem.W.Frag) : Addr → Addr → Hp → Prop := fun a b H => a = b ∧ ∃ ns, PathAt K H a ns
theorem RPath.mon : ∀ a b H H', Ext H H' → RPath K a b H → RPath K a b H' := fun a b H H' e ⟨h, ns, p⟩ => ⟨h, ns, p.gr (T := []) (B := []) (Gr.of_ext e)⟩
theorem sc23_3 : FnScope ["self", "other"] ["self", "other"] (defScope (meth 23 3)) := ⟨rfl, rfl, rfl, by decide +kernel, rfl, by decide +kernel, by decide +kernel⟩
theorem ok_peq (M : Mo K mg) (I : Is K) (D : Md K mg) : ∃ f fd, PySem.W.findIn K (.ref (He.ga K "Path")) "__eq__" = some (some (.ref f)) ∧ PySem.W.isFn K (.ref f) = true ∧ FnOk P w K mg base (L2.CX P w) 2 f fd ["self", "other"] (spEq (RPath K)) ∧ Binds K fd ["self", "other"] [] := by
  obtain ⟨f, fd, h1, h2, F⟩ := D.peq
  refine ⟨f, fd, h1, h2, F.ok sc23_3 (fun vs H Q E h => ?_) (fun cdv A outer s H vs Q E hr h => ⟨_, (pss_one (ps_ret (pe_and (pe_callB call_is1 rfl (M.fr "isinstance") (by decide +kernel) (pa_cons (pv 1) (pa_cons (pe_glob (v := .ref (He.ga K "Path")) rfl (M.gl "Path") rfl) pa_nil))) (pe_one (pe_cmpR (op_eqG (rcG_tup mon_flat eqG_flat) (hr.mono (by decide))) (pe_fld (pv 0) rfl) (pe_fld (pv 1) rfl) (nomark _)))))), ?_⟩), F.bindsN fun _ _ _ _ _ _ us hl => match us, hl with | [_, _], _ => rfl⟩
  · obtain ⟨a, b, rfl, _⟩ := h
    rfl
  · obtain ⟨a, b, rfl, ⟨rfl, ns, pa⟩, q⟩ := h
    obtain ⟨dx, fs, tn, h1, h2, h3, ht⟩ := pa.ex
    refine ⟨_, rfl, _, _, _, _, true, rfl, .own _, (pa.ty (T := []) M I).now, kit_self, _, rfl, iteT ⟨_, rfl, a, _, dx, fs, _, rfl, h1, M.pcls, M.pnames, h2, _, rfl, a, _, dx, fs, _, rfl, h1, M.pcls, M.pnames, h2, ⟨tn, tn, _, _, rfl, rfl, .inl (.inl ht), .inl (.inl ht), rfl, fun i x y e1 e2 => ?_⟩, q⟩⟩
    rw [e1] at e2
    cases e2
    obtain ⟨z, hz, rfl⟩ := List.mem_map.mp (List.mem_of_getElem? e1)
    exact ⟨rfl, rfl, by simp [eqV]⟩
/-- a desk just made -/
structure DeskAt (K : PySem.W.Frag) (H : Hp) (a : Addr) : Prop where
  ex : ∃ dx fs p ns g t d l, H a = some (.ins (He.ga K "Desk") dx fs) ∧ fs.lookup ("own_path" : Str) = some (.ref p) ∧ PathAt K H p ns ∧ fs.lookup ("own_grounds" : Str) = some (.ref g) ∧ H g = some (.lst [.ref t]) ∧ H t = some (.tup [.ref d, .ref l])
theorem DeskAt.gr {H H' : Hp} {a : Addr} (h : DeskAt K H a) (g : Gr T [] H H') : DeskAt K H' a :=
  let ⟨dx, fs, p, ns, x, t, d, l, h1, h2, h3, h4, h5, h6⟩ := h.ex
  ⟨dx, fs, p, ns, x, t, d, l, g.ins h1, h2, h3.gr g, h4, g.lst h5 (fun z => nomatch z), g.tup h6⟩
theorem DeskAt.ty (I : Is K) (D : Md K mg) {H : Hp} {a : Addr} (h : DeskAt K H a) : Ty P w K T H (.ref a) (.ref (He.ga K "Desk")) := fun H' g => by
  obtain ⟨dx, fs, p, ns, x, t, d, l, h1, _⟩ := (h.gr g).ex
  exact tyz_ins h1 D.dcls D.dgc I.gs I.gt D.dgm
def RDesk (K : PySem.W.Frag) : Addr → Addr → Hp → Prop := fun a b H => a = b ∧ DeskAt K H a
theorem RDesk.mon : ∀ a b H H', Ext H H' → RDesk K a b H → RDesk K a b H' := fun a b H H' e ⟨h, p⟩ => ⟨h, p.gr (T := []) (Gr.of_ext e)⟩
theorem sc60_19 : FnScope ["self", "other"] ["self", "other"] (defScope (meth 60 19)) := ⟨rfl, rfl, rfl, by decide +kernel, rfl, by decide +kernel, by decide +kernel⟩
theorem ok_deq (M : Mo K mg) (I : Is K) (D : Md K mg) : ∃ f fd, PySem.W.findIn K (.ref (He.ga K "Desk")) "__eq__" = some (some (.ref f)) ∧ PySem.W.isFn K (.ref f) = true ∧ FnOk P w K mg base (L2.CX P w) 3 f fd ["self", "other"] (spEq (RDesk K)) ∧ Binds K fd ["self", "other"] [] := by
  obtain ⟨f, fd, h1, h2, F⟩ := D.deq
  obtain ⟨fp, fdp, p1, p2, FP, bp⟩ := ok_peq (P := P) (w := w) (base := base) M I D
  refine ⟨f, fd, h1, h2, F.ok sc60_19 (fun vs H Q E h => ?_) (fun cdv A outer s H vs Q E hr h => ⟨_, (pss_cons (ps_if (pt_not (pt_val (pe_callB call_is1 rfl (M.fr "isinstance") (by decide +kernel) (pa_cons (pv 1) (pa_cons (pe_glob (v := .ref (He.ga K "Desk")) rfl (M.gl "Desk") rfl) pa_nil))))) (pss_one (ps_ret pe_bl)) pss_nil) (pss_one (ps_ret (pe_and (pe_cmpR (op_eqG (rcG_ins (E := E0) FP p1 p2 bp passL) hr) (pe_fld (pv 0) rfl) (pe_fld (pv 1) rfl) (nomark _)) (pe_one (pe_cmpR (op_eqG (rcG_tup (n := 0) mon_self eqG_self) (hr.mono (by decide))) (pe_ix ix_list (pe_fld (pv 0) rfl) (pe_un un_neg pe_int) (fun _ _ => rfl)) (pe_ix ix_list (pe_fld (pv 1) rfl) (pe_un un_neg pe_int) (fun _ _ => rfl)) (nomark _))))))), ?_⟩), F.bindsN fun _ _ _ _ _ _ us hl => match us, hl with | [_, _], _ => rfl⟩
  · obtain ⟨a, b, rfl, _⟩ := h
    rfl
  · obtain ⟨a, b, rfl, ⟨rfl, da⟩, q⟩ := h
    obtain ⟨dx, fs, p, ns, x, t, d, l, h1, h2, h3, h4, h5, h6⟩ := da.ex
    refine ⟨_, rfl, _, _, _, _, true, rfl, .own _, (da.ty (T := []) I D).now, kit_self, _, rfl, ?_⟩
    have hp := h3.ex
    obtain ⟨dx1, fs1, tn1, hp1, _⟩ := h3.ex
    refine ⟨_, rfl, a, _, dx, fs, _, rfl, h1, D.dcls, D.dpath, h2, _, rfl, a, _, dx, fs, _, rfl, h1, D.dcls, D.dpath, h2, ⟨p, p, _, _, _, _, rfl, rfl, hp1, hp1, rfl, ns, h3⟩, fun H' e => ⟨true, rfl, iteT ?_⟩⟩
    have h1' := e _ _ h1
    have h5' := e _ _ h5
    have h6' := e _ _ h6
    refine ⟨_, rfl, a, _, dx, fs, _, rfl, h1', D.dcls, D.dgr, h4, _, rfl, x, _, _, _, rfl, rfl, .inl (.inl h5'), rfl, _, rfl, a, _, dx, fs, _, rfl, h1', D.dcls, D.dgr, h4, _, rfl, x, _, _, _, rfl, rfl, .inl (.inl h5'), rfl, ⟨t, t, _, _, rfl, rfl, .inl (.inl h6'), .inl (.inl h6'), rfl, fun i y z e1 e2 => ?_⟩, fun H2 e2 => q H2 (e.trans e2)⟩
    rw [e1] at e2
    cases e2
    have hy := List.mem_of_getElem? e1
    rcases List.mem_cons.mp hy with h | h
    · exact ⟨_, h, h⟩
    · exact ⟨_, List.mem_singleton.mp h, List.mem_singleton.mp h⟩
/-! ### Desk.__init__ -/
def spDInit (K : PySem.W.Frag) (T : List NTab) : Sp := fun vs H Q _ => ∃ (H0 : Hp) (x dx p : Addr) (ns : List Str), vs = [.ref x, .ref p] ∧ H = upd (upd H0 dx (.own x)) x (.ins (He.ga K "Desk") dx []) ∧ H0 x = none ∧ H0 dx = none ∧ dx ≠ x ∧ PathAt K H0 p ns ∧
  ∀ H', Gr T [] H0 H' → DeskAt K H' x → Q .non H'
theorem sc60_0 : FnScope ["self", "path"] ["self", "path"] (defScope (meth 60 0)) := ⟨rfl, rfl, rfl, by decide +kernel, rfl, by decide +kernel, by decide +kernel⟩
theorem ok_dinit (M : Mo K mg) (X : Me P K mg) (I : Is K) (D : Md K mg) : ∃ f fd, Mk K (He.ga K "Desk") f ∧ FnOk P w K mg base (L2.CX P w) 4 f fd ["self", "path"] (spDInit K T) ∧ Binds K fd ["self", "path"] [] := by
  obtain ⟨f, fd, mk, F⟩ := D.dinit
  refine ⟨f, fd, mk, F.ok sc60_0 (fun vs H Q E h => ?_) (fun cdv A outer s H vs Q E hr h => ⟨_, (pss_cons (ps_expr (pe_gd (ok_check_path (T := T) M X I) hr (by decide) rfl passL (pa_cons (pv 1) pa_nil))) (pss_cons (ps_fld (pv 0) (pv 1) (by rfl)) (pss_cons (ps_fld (pv 0) (pe_lst (pa_cons (pe_tup (pa_cons (pe_gd (ok_first_places (T := T) M) hr (by decide) rfl passL (pa_cons (pv 1) pa_nil)) (pa_cons (pe_lst pa_nil) pa_nil))) pa_nil)) (by rfl)) (pss_cons (ps_fld (pv 0) (pe_lst pa_nil) (by rfl)) (pss_one (ps_fld (pv 0) (pe_lst pa_nil) (by rfl))))))), ?_⟩), F.bindsN fun _ _ _ _ _ _ us hl => match us, hl with | [_, _], _ => rfl⟩
  · obtain ⟨H0, x, dx, p, ns, rfl, _⟩ := h
    rfl
  · obtain ⟨H0, x, dx, p, ns, rfl, rfl, hx0, hdx0, nxd, pa, q⟩ := h
    have g0 : Gr T [] H0 (upd (upd H0 dx (.own x)) x (.ins (He.ga K "Desk") dx [])) := (Gr.new hdx0).trans (.new (by rw [upd_ne (Ne.symm nxd)]; exact hx0))
    have e0 : upd (upd H0 dx (.own x)) x (.ins (He.ga K "Desk") dx []) x = some (.ins (He.ga K "Desk") dx []) := upd_same
    generalize upd (upd H0 dx (.own x)) x (.ins (He.ga K "Desk") dx []) = H1 at g0 e0
    have pa1 := pa.gr g0
    refine ⟨_, rfl, _, rfl, .inl ⟨p, ns, rfl, pa1, ?_⟩⟩
    refine ⟨_, rfl, _, rfl, x, _, dx, _, rfl, e0, D.dcls, D.dpath, (show (0 : Nat) < 1000 by decide), ?_⟩
    have g1 : Gr T [] H0 (upd H1 x (.ins (He.ga K "Desk") dx (putF "own_path" (.ref p) []))) := g0.own hx0 e0 (fun _ z => nomatch z) fun _ _ z => nomatch z
    have e1 : upd H1 x (.ins (He.ga K "Desk") dx (putF "own_path" (.ref p) [])) x = some (.ins (He.ga K "Desk") dx (putF "own_path" (.ref p) [])) := upd_same
    generalize upd H1 x (.ins (He.ga K "Desk") dx (putF "own_path" (.ref p) [])) = H2 at g1 e1
    have pa2 := pa.gr g1
    refine ⟨_, rfl, p, ns, rfl, pa2, fun H3 d g3 hd0 hd => ⟨szl, fun l hl => ⟨szl, fun t ht => ⟨szl, fun g hg => ?_⟩⟩⟩⟩
    have g4 : Gr T [] H3 (upd (upd (upd H3 l (.lst [])) t (.tup [.ref d, .ref l])) g (.lst [.ref t])) := ((Gr.new hl).trans (.new ht)).trans (.new hg)
    have et : upd (upd (upd H3 l (.lst [])) t (.tup [.ref d, .ref l])) g (.lst [.ref t]) t = some (.tup [.ref d, .ref l]) := (upd_ne (fun z => by rw [← z, upd_same] at hg; cases hg)).trans upd_same
    have eg : upd (upd (upd H3 l (.lst [])) t (.tup [.ref d, .ref l])) g (.lst [.ref t]) g = some (.lst [.ref t]) := upd_same
    generalize upd (upd (upd H3 l (.lst [])) t (.tup [.ref d, .ref l])) g (.lst [.ref t]) = H4 at g4 et eg
    have e4 := g4.ins (g3.ins e1)
    refine ⟨_, rfl, x, _, dx, _, rfl, e4, D.dcls, D.dgr, (show (1 : Nat) < 1000 by decide), ?_⟩
    have g5 : Gr T [] H0 (upd H4 x (.ins (He.ga K "Desk") dx (putF "own_grounds" (.ref g) (putF "own_path" (.ref p) [])))) := ((g1.trans g3).trans g4).own hx0 e4 (fun _ z => nomatch z) fun _ _ z => nomatch z
    have e5 : upd H4 x (.ins (He.ga K "Desk") dx (putF "own_grounds" (.ref g) (putF "own_path" (.ref p) []))) x = some (.ins (He.ga K "Desk") dx (putF "own_grounds" (.ref g) (putF "own_path" (.ref p) []))) := upd_same
    have et5 : upd H4 x (.ins (He.ga K "Desk") dx (putF "own_grounds" (.ref g) (putF "own_path" (.ref p) []))) t = some (.tup [.ref d, .ref l]) := (upd_ne (fun z => by rw [z, e4] at et; cases et)).trans et
    have eg5 : upd H4 x (.ins (He.ga K "Desk") dx (putF "own_grounds" (.ref g) (putF "own_path" (.ref p) []))) g = some (.lst [.ref t]) := (upd_ne (fun z => by rw [z, e4] at eg; cases eg)).trans eg
    generalize upd H4 x (.ins (He.ga K "Desk") dx (putF "own_grounds" (.ref g) (putF "own_path" (.ref p) []))) = H5 at g5 e5 et5 eg5
    refine ⟨szl, fun m hm => ⟨_, rfl, x, _, dx, _, rfl, (Gr.new (T := T) (B := []) hm).ins e5, D.dcls, D.dde, (show (2 : Nat) < 1000 by decide), ?_⟩⟩
    have e6 := (Gr.new (T := T) (B := []) (o := .lst []) hm).ins e5
    have et6 := (Gr.new (T := T) (B := []) (o := .lst []) hm).tup et5
    have eg6 := (Gr.new (T := T) (B := []) (o := .lst []) hm).lst eg5 (fun z => nomatch z)
    have g6 := g5.trans (.new (T := T) (B := []) (o := .lst []) hm)
    generalize upd H5 m (.lst []) = H6 at g6 e6 et6 eg6
    have g7 : Gr T [] H0 (upd H6 x (.ins (He.ga K "Desk") dx (putF "own_deeds" (.ref m) (putF "own_grounds" (.ref g) (putF "own_path" (.ref p) []))))) := g6.own hx0 e6 (fun _ z => nomatch z) fun _ _ z => nomatch z
    have e7 : upd H6 x (.ins (He.ga K "Desk") dx (putF "own_deeds" (.ref m) (putF "own_grounds" (.ref g) (putF "own_path" (.ref p) [])))) x = some (.ins (He.ga K "Desk") dx (putF "own_deeds" (.ref m) (putF "own_grounds" (.ref g) (putF "own_path" (.ref p) [])))) := upd_same
    have et7 : upd H6 x (.ins (He.ga K "Desk") dx (putF "own_deeds" (.ref m) (putF "own_grounds" (.ref g) (putF "own_path" (.ref p) [])))) t = some (.tup [.ref d, .ref l]) := (upd_ne (fun z => by rw [z, e6] at et6; cases et6)).trans et6
    have eg7 : upd H6 x (.ins (He.ga K "Desk") dx (putF "own_deeds" (.ref m) (putF "own_grounds" (.ref g) (putF "own_path" (.ref p) [])))) g = some (.lst [.ref t]) := (upd_ne (fun z => by rw [z, e6] at eg6; cases eg6)).trans eg6
    generalize upd H6 x (.ins (He.ga K "Desk") dx (putF "own_deeds" (.ref m) (putF "own_grounds" (.ref g) (putF "own_path" (.ref p) [])))) = H7 at g7 e7 et7 eg7
    refine ⟨szl, fun m2 hm2 => ⟨_, rfl, x, _, dx, _, rfl, (Gr.new (T := T) (B := []) hm2).ins e7, D.dcls, D.dun, (show (3 : Nat) < 1000 by decide), ?_⟩⟩
    have e8 := (Gr.new (T := T) (B := []) (o := .lst []) hm2).ins e7
    have et8 := (Gr.new (T := T) (B := []) (o := .lst []) hm2).tup et7
    have eg8 := (Gr.new (T := T) (B := []) (o := .lst []) hm2).lst eg7 (fun z => nomatch z)
    have g8 := g7.trans (.new (T := T) (B := []) (o := .lst []) hm2)
    generalize upd H7 m2 (.lst []) = H8 at g8 e8 et8 eg8
    have g9 := g8.own (o := .ins (He.ga K "Desk") dx (putF "own_undone" (.ref m2) (putF "own_deeds" (.ref m) (putF "own_grounds" (.ref g) (putF "own_path" (.ref p) []))))) hx0 e8 (fun _ z => nomatch z) fun _ _ z => nomatch z
    exact q _ g9 ⟨dx, _, p, ns, g, t, d, l, upd_same, rfl, pa.gr g9, rfl, (upd_ne (fun z => by rw [z, e8] at eg8; cases eg8)).trans eg8, (upd_ne (fun z => by rw [z, e8] at et8; cases et8)).trans et8⟩
end Rw
set_option maxHeartbeats 4000000
/-! The law's defs: _law_same. -/
namespace Rw
open PySem PySem.Spec PyProof.Rows L2 LamX NdefX
variable {P : Program} {w : World} {K : PySem.W.Frag} {mg : Str → Option Value} {base : Heap} {T : List NTab}
/-- a class of things that are no data -/
structure ObjK (K : PySem.W.Frag) (C : Addr) : Prop where
  lt : PySem.W.kitAny K (.ref C) [.type "list", .type "tuple"] = some false
  d : PySem.W.kitOne K (.ref C) (.type "dict") = some false
  i : PySem.W.kitOne K (.ref C) (.type "int") = some false
  all : PySem.W.kitAny K (.ref C) [.type "int", .type "list", .type "tuple", .type "dict"] = some false
structure Mx (K : PySem.W.Frag) : Prop where
  path : ObjK K (He.ga K "Path")
  desk : ObjK K (He.ga K "Desk")
  bad : ObjK K (He.ga K "BadTotal")
  xm : PySem.W.mroIn K (He.ga K "BadTotal") (.type "object") = some true
  xs : PySem.W.findIn K (.ref (He.ga K "BadTotal")) "__eq__" = some (some (.builtin "object.__eq__"))
def DObj (K : PySem.W.Frag) : Eqv := fun x y H => (DIns (He.ga K "Path") (RPath K) x y H ∨ DIns (He.ga K "Desk") (RDesk K) x y H) ∨ DEx (He.ga K "BadTotal") x y H
theorem rcG_obj {X : Cx} (M : Mo X.K X.mg) (I : Is X.K) (D : Md X.K X.mg) (N : Mx X.K) : RcG X 3 (DObj X.K) := by
  obtain ⟨fp, fdp, p1, p2, FP, bp⟩ := ok_peq (P := X.prog) (w := X.w) (base := X.base) M I D
  obtain ⟨fd, fdd, d1, d2, FD, bd⟩ := ok_deq (P := X.prog) (w := X.w) (base := X.base) M I D
  exact rcG_or (rcG_or (rcG_mono (rcG_ins (E := E0) FP p1 p2 bp passL) (by decide)) (rcG_ins (E := E0) FD d1 d2 bd passL)) (rcG_ex N.xm N.xs)
theorem DObj.gr {x y : V} {H H' : Hp} (h : DObj K x y H) (g : Gr T [] H H') : DObj K x y H' := by
  rcases h with (⟨a, b, dx, dy, fs, gs, e1, e2, h1, h2, r, ns, pa⟩ | ⟨a, b, dx, dy, fs, gs, e1, e2, h1, h2, r, da⟩) | ⟨a, d, fs, e1, e2, h⟩
  · exact .inl (.inl ⟨a, b, dx, dy, fs, gs, e1, e2, g.ins h1, g.ins h2, r, ns, pa.gr g⟩)
  · exact .inl (.inr ⟨a, b, dx, dy, fs, gs, e1, e2, g.ins h1, g.ins h2, r, da.gr g⟩)
  · exact .inr ⟨a, d, fs, e1, e2, h.gr g⟩
def Atom (P : Program) (w : World) (K : PySem.W.Frag) (T : List NTab) (H : Hp) (x y : V) : Prop := (x = y ∧ flatV x = true) ∨ ∃ a C, x = .ref a ∧ y = .ref a ∧ Ty P w K T H x (.ref C) ∧ ObjK K C ∧ DObj K x y H
theorem Atom.gr {x y : V} {H H' : Hp} (h : Atom P w K T H x y) (g : Gr T [] H H') : Atom P w K T H' x y := by
  rcases h with h | ⟨a, C, e1, e2, t, o, d⟩
  · exact .inl h
  · exact .inr ⟨a, C, e1, e2, t.gr g, o, d.gr g⟩
def Sm (P : Program) (w : World) (K : PySem.W.Frag) (T : List NTab) : Nat → Hp → V → V → Prop
  | 0, H, x, y => Atom P w K T H x y
  | n + 1, H, x, y => Atom P w K T H x y ∨ (∃ (a b : Addr) (xs ys : List V), x = .ref a ∧ y = .ref b ∧ ((H a = some (.lst xs) ∧ H b = some (.lst ys)) ∨ (H a = some (.tup xs) ∧ H b = some (.tup ys))) ∧ xs.length = ys.length ∧ xs.length ≤ 1000 ∧
      ∀ (i : Nat) u v, xs[i]? = some u → ys[i]? = some v → Sm P w K T n H u v) ∨
    ∃ (a b : Addr) (kvs : List (Key × V)), x = .ref a ∧ y = .ref b ∧ H a = some (.dK kvs) ∧ H b = some (.dK kvs) ∧ kvs.length ≤ 1000 ∧ 2 ≤ n ∧ ∀ p ∈ kvs, flatV p.2 = true
theorem Sm.gr : ∀ {n : Nat} {x y : V} {H H' : Hp}, Sm P w K T n H x y → Gr T [] H H' → Sm P w K T n H' x y
  | 0, _, _, _, _, h, g => Atom.gr h g
  | n + 1, x, y, H, H', h, g => by
    rcases h with h | ⟨a, b, xs, ys, e1, e2, h, l1, l2, k⟩ | ⟨a, b, kvs, e1, e2, h1z, h2, r⟩
    · exact .inl (Atom.gr h g)
    · refine .inr (.inl ⟨a, b, xs, ys, e1, e2, ?_, l1, l2, fun i u v q1 q2 => (k i u v q1 q2).gr g⟩)
      rcases h with ⟨h1z, h2⟩ | ⟨h1z, h2⟩
      · exact .inl ⟨g.lst h1z (fun z => nomatch z), g.lst h2 (fun z => nomatch z)⟩
      · exact .inr ⟨g.tup h1z, g.tup h2⟩
    · exact .inr (.inr ⟨a, b, kvs, e1, e2, g.dK h1z, g.dK h2, r⟩)
theorem Sm.atom : ∀ {n : Nat} {x y : V} {H : Hp}, Atom P w K T H x y → Sm P w K T n H x y
  | 0, _, _, _, h => h
  | n + 1, _, _, _, h => .inl h
theorem Sm.flat {n : Nat} {x : V} {H : Hp} (h : flatV x = true) : Sm P w K T n H x x := Sm.atom (.inl ⟨rfl, h⟩)
def tyF : V → Value
  | .non => .type "NoneType"
  | .bl _ => .type "bool"
  | .int _ => .type "int"
  | _ => .type "str"
theorem tyz_flat {H : Hp} {x : V} (h : flatV x = true) : TyZ P w K H x (tyF x) := by
  cases x with
  | non => exact tyz_non
  | bl b => exact tyz_bl b
  | int i => exact tyz_int i
  | str s => exact tyz_str s
  | _ => cases h
def SeqAB (H : Hp) (a b : Addr) (xs ys : List V) : Prop := (H a = some (.lst xs) ∧ H b = some (.lst ys)) ∨ (H a = some (.tup xs) ∧ H b = some (.tup ys))
theorem walk_zipT' {a b : Addr} {xs ys : List V} {n : Nat} (hn : n = min xs.length ys.length) : Walk (RZ.ItzT K a b) n (fun H => SqT K H a xs ∧ SqT K H b ys) (YPair (fun i => xs[i]?) (fun i => ys[i]?)) := by
  subst hn
  refine ⟨fun i _ hiz q => ?_, fun _ q => ⟨xs, ys, q.1, q.2, by omega⟩, fun i H v H' _ q y => ?_⟩
  · have h1z : i < xs.length := by omega
    have h2z : i < ys.length := by omega
    exact ⟨xs, ys, xs[i], ys[i], q.1, q.2, by simp [h1z], by simp [h2z]⟩
  · obtain ⟨T, x, z, h1z, h2z, h3, h4, h5⟩ := y
    exact ⟨T, x, z, h1z, h2z, h3, h4 xs q.1, h5 ys q.2⟩
def iZipV (i j : Nat) : TI := fun σ H R => ∃ (a b : Addr) (xs ys : List V), σ[i]? = some (some (.ref a)) ∧ σ[j]? = some (some (.ref b)) ∧ SeqAB H a b xs ys ∧ xs.length = ys.length ∧ ∀ (J : It) (G : Hp → Prop), Walk J xs.length G (YPair (fun i => xs[i]?) (fun i => ys[i]?)) → (∀ (T : List NTab) (H' : Hp), Gr T [] H H' → G H') → R J H
theorem pi_zipV {X : Cx} {x y : Str} {i j : Nat} {p q q2 pos tpos : Pos} {elts : List Expr} {kk : Nat} (hg : Gl X "zip") (hm : X.mg "zip" = none) (ha : PA X [.Name x q, .Name y q2] (tCons (tVar i) (tCons (tVar j) tNil))) (hs : starEach [.Name x q, .Name y q2] X.env = (false, eval (.Name x q) X.env) :: starEach [.Name y q2] X.env := by rfl) (hs2 : starEach [.Name y q2] X.env = [(false, eval (.Name y q2) X.env)] := by rfl) :
    PI X (.Tuple elts kk tpos) (.Call (.Name "zip" p) [.Name x q, .Name y q2] [] pos) (iZipV i j) := by
  refine ⟨fun pins s σ H R I h => (RZ.pi_zipA hg hm ha).run pins s σ H R I ?_⟩
  obtain ⟨a, b, xs, ys, e1, e2, h, l, k⟩ := h
  refine ⟨_, e1, _, e2, a, b, xs, ys, rfl, ?_⟩
  have hn : xs.length = min xs.length ys.length := by omega
  rcases h with ⟨h1z, h2⟩ | ⟨h1z, h2⟩
  · exact .inl ⟨.inl (.inl h1z), .inl (.inl h2), k _ _ (walk_zip hn) fun T H' g => ⟨.inl (.inl (g.lst h1z (fun z => nomatch z))), .inl (.inl (g.lst h2 (fun z => nomatch z)))⟩⟩
  · exact .inr ⟨.inl (.inl h1z), .inl (.inl h2), k _ _ (walk_zipT' hn) fun T H' g => ⟨.inl (.inl (g.tup h1z)), .inl (.inl (g.tup h2))⟩⟩
theorem paired_get {α β : Type} {R : α → β → Prop} : ∀ {xs : List α} {ys : List β}, Paired R xs ys → ∀ {i : Nat} {x : α}, xs[i]? = some x → ∃ y, ys[i]? = some y ∧ R x y
  | _, _, .nil, i, x, h => by simp at h
  | _, _, .cons r t, 0, x, h => by
    cases h
    exact ⟨_, rfl, r⟩
  | _, _, .cons r t, i + 1, x, h => paired_get t (i := i) h
def spSame (P : Program) (w : World) (K : PySem.W.Frag) (T : List NTab) (n : Nat) : Sp := fun vs H Q _ => ∃ x y, vs = [x, y] ∧ Sm P w K T n H x y ∧ ∀ H', Gr T [] H H' → Q (.bl true) H'
theorem sc90 : FnScope ["_law_found", "_law_due", "_law_x", "_law_y"] ["_law_found", "_law_due"] (defScope (top 90)) := ⟨rfl, rfl, rfl, by decide +kernel, rfl, by decide +kernel, by decide +kernel⟩
theorem step_same (M : Mo K mg) (I : Is K) (D : Md K mg) (N : Mx K) {k : Nat} {sp : Sp} (G : Gd P w K mg base (3 + k) "_law_same" ["_law_found", "_law_due"] sp) {n : Nat} (hz : ∀ x y H Q E, n ≠ 0 → Sm P w K T (n - 1) H x y → (∀ H', Gr T [] H H' → Q (.bl true) H') → sp [x, y] H Q E) : Gd P w K mg base (3 + k + 1) "_law_same" ["_law_found", "_law_due"] (spSame P w K T n) := by
  refine gd_of (M.df "_law_same" 90) sc90 (fun F => F.bindsN fun _ _ _ _ _ _ us hl => match us, hl with | [_, _], _ => rfl) (fun vs H Q E h => ?_) fun cdv A outer s H vs Q E hr h => ⟨_, (pss_cons (ps_if (pt_val (pe_callB call_isZ rfl (M.fr "isinstance") (by decide +kernel) (pa_cons (pv 1) (pa_cons (pe_tup (pa_cons (pe_tyN "list" rfl (M.fr "list") (by decide +kernel)) (pa_cons (pe_tyN "tuple" rfl (M.fr "tuple") (by decide +kernel)) pa_nil))) pa_nil)))) (pss_cons (ps_if (PW.pt (pw_or (pt_cmpR op_ne (pe_callB call_is1 rfl (M.fr "isinstance") (by decide +kernel) (pa_cons (pv 0) (pa_cons (pe_tyN "list" rfl (M.fr "list") (by decide +kernel)) pa_nil))) (pe_callB call_is1 rfl (M.fr "isinstance") (by decide +kernel) (pa_cons (pv 1) (pa_cons (pe_tyN "list" rfl (M.fr "list") (by decide +kernel)) pa_nil))) (nomark _)) (pw_or1 (pt_cmpR op_ne (pe_callB call_is1 rfl (M.fr "isinstance") (by decide +kernel) (pa_cons (pv 0) (pa_cons (pe_tyN "tuple" rfl (M.fr "tuple") (by decide +kernel)) pa_nil))) (pe_callB call_is1 rfl (M.fr "isinstance") (by decide +kernel) (pa_cons (pv 1) (pa_cons (pe_tyN "tuple" rfl (M.fr "tuple") (by decide +kernel)) pa_nil))) (nomark _))))) (pss_one (ps_ret pe_bl)) pss_nil) (pss_one (ps_ret (pe_and (pe_cmpR op_eq (pe_callB call_len_seq rfl (M.fr "len") (by decide +kernel) (pa_cons (pv 0) pa_nil)) (pe_callB call_len_seq rfl (M.fr "len") (by decide +kernel) (pa_cons (pv 1) pa_nil)) (nomark _)) (pe_one (pe_callB (cr_all rfl) rfl (M.fr "all") (by decide +kernel) (pa_cons (pe_lc (own := [("_law_x", 2), ("_law_y", 3)]) rfl sc90.nd (pi_zipV rfl (M.fr "zip") (pa_cons (pv 0) (pa_cons (pv 1) pa_nil))) (blkOk_by (by kernel_rfl)) (fun _ _ _ _ _ => (pg_tupK (K := K) 2 rfl (pg_tup rfl (pgs_cons (pg_name (i := 2) sc90.nd rfl (Or.inl rfl) (hf := Or.inr rfl)) (pgs_cons (pg_name (i := 3) sc90.nd rfl (Or.inl rfl) (hf := Or.inr rfl)) pgs_nil))))) (fun _ _ _ _ _ => pts_nil) (fun _ _ _ _ _ => (pe_gd G hr (Nat.le_refl _) rfl passL (pa_cons (pv 2) (pa_cons (pv 3) pa_nil))))) pa_nil))))))) pss_nil) (pss_cons (ps_if (pt_val (pe_callB call_is1 rfl (M.fr "isinstance") (by decide +kernel) (pa_cons (pv 1) (pa_cons (pe_tyN "dict" rfl (M.fr "dict") (by decide +kernel)) pa_nil)))) (pss_one (ps_ret (pe_and (pe_callB call_is1 rfl (M.fr "isinstance") (by decide +kernel) (pa_cons (pv 0) (pa_cons (pe_tyN "dict" rfl (M.fr "dict") (by decide +kernel)) pa_nil))) (pe_one (pe_gd G hr (Nat.le_refl _) rfl passL (pa_cons (LiI.pe_listItems rfl (pv 0) rfl (M.fr "list") (by decide +kernel)) (pa_cons (LiI.pe_listItems rfl (pv 1) rfl (M.fr "list") (by decide +kernel)) pa_nil))))))) pss_nil) (pss_cons (ps_if (pt_val (pe_callB call_is1 rfl (M.fr "isinstance") (by decide +kernel) (pa_cons (pv 1) (pa_cons (pe_tyN "int" rfl (M.fr "int") (by decide +kernel)) pa_nil)))) (pss_one (ps_ret (pe_and (pe_callB call_is1 rfl (M.fr "isinstance") (by decide +kernel) (pa_cons (pv 0) (pa_cons (pe_tyN "int" rfl (M.fr "int") (by decide +kernel)) pa_nil))) (pe_and (pe_cmpR op_eq (pe_callB call_is1 rfl (M.fr "isinstance") (by decide +kernel) (pa_cons (pv 0) (pa_cons (pe_tyN "bool" rfl (M.fr "bool") (by decide +kernel)) pa_nil))) (pe_callB call_is1 rfl (M.fr "isinstance") (by decide +kernel) (pa_cons (pv 1) (pa_cons (pe_tyN "bool" rfl (M.fr "bool") (by decide +kernel)) pa_nil))) (nomark _)) (pe_one (pe_cmpR (or_or op_eq (op_eqG (rcG_obj M I D N) (hr.mono (Nat.le_add_right 3 k)))) (pv 0) (pv 1) (nomark _))))))) pss_nil) (pss_one (ps_ret (pe_and (pe_not (pe_callB call_isZ rfl (M.fr "isinstance") (by decide +kernel) (pa_cons (pv 0) (pa_cons (pe_tup (pa_cons (pe_tyN "int" rfl (M.fr "int") (by decide +kernel)) (pa_cons (pe_tyN "list" rfl (M.fr "list") (by decide +kernel)) (pa_cons (pe_tyN "tuple" rfl (M.fr "tuple") (by decide +kernel)) (pa_cons (pe_tyN "dict" rfl (M.fr "dict") (by decide +kernel)) pa_nil))))) pa_nil)))) (pe_one (pe_cmpR (or_or op_eq (op_eqG (rcG_obj M I D N) (hr.mono (Nat.le_add_right 3 k)))) (pv 0) (pv 1) (nomark _))))))))), ?_⟩
  · obtain ⟨x, y, rfl, _⟩ := h
    rfl
  · obtain ⟨x, y, rfl, sm, q⟩ := h
    have cls2 : Paired ClsV [.ty "list", .ty "tuple"] [.type "list", .type "tuple"] := .cons (.ty _) (.cons (.ty _) .nil)
    have cls4 : Paired ClsV [.ty "int", .ty "list", .ty "tuple", .ty "dict"] [.type "int", .type "list", .type "tuple", .type "dict"] := .cons (.ty _) (.cons (.ty _) (.cons (.ty _) (.cons (.ty _) .nil)))
    by_cases ha : Atom P w K T H x y
    · rcases ha with ⟨rfl, hf⟩ | ⟨a, C, rfl, rfl, ty, o, d⟩
      · cases x with
        | int i =>
          refine ⟨_, rfl, szl, fun p hp => ⟨_, p, _, .type "int", _, false, rfl, upd_same, cls2, tyz_int i, by kernel_rfl, _, rfl, ?_⟩⟩
          refine ⟨_, rfl, _, _, _, _, false, rfl, .ty "dict", tyz_int i, by kernel_rfl, _, rfl, ?_⟩
          refine ⟨_, rfl, _, _, _, _, true, rfl, .ty "int", tyz_int i, by kernel_rfl, _, rfl, ?_⟩
          refine ⟨_, rfl, _, _, _, _, true, rfl, .ty "int", tyz_int i, by kernel_rfl, true, rfl, iteT ?_⟩
          refine ⟨_, rfl, _, _, _, _, false, rfl, .ty "bool", tyz_int i, by kernel_rfl, _, rfl, _, _, _, _, false, rfl, .ty "bool", tyz_int i, by kernel_rfl, rfl, _, rfl, ite2 (fun _ => ⟨_, rfl, _, rfl, .inl ⟨rfl, ?_⟩⟩) fun z => absurd (decide_eq_true rfl) z⟩
          rw [decide_eq_true rfl]
          exact q _ (.new hp)
        | bl i =>
          refine ⟨_, rfl, szl, fun p hp => ⟨_, p, _, .type "bool", _, false, rfl, upd_same, cls2, tyz_bl i, by kernel_rfl, _, rfl, ?_⟩⟩
          refine ⟨_, rfl, _, _, _, _, false, rfl, .ty "dict", tyz_bl i, by kernel_rfl, _, rfl, ?_⟩
          refine ⟨_, rfl, _, _, _, _, true, rfl, .ty "int", tyz_bl i, by kernel_rfl, _, rfl, ?_⟩
          refine ⟨_, rfl, _, _, _, _, true, rfl, .ty "int", tyz_bl i, by kernel_rfl, true, rfl, iteT ?_⟩
          refine ⟨_, rfl, _, _, _, _, true, rfl, .ty "bool", tyz_bl i, by kernel_rfl, _, rfl, _, _, _, _, true, rfl, .ty "bool", tyz_bl i, by kernel_rfl, rfl, _, rfl, ite2 (fun _ => ⟨_, rfl, _, rfl, .inl ⟨rfl, ?_⟩⟩) fun z => absurd (decide_eq_true rfl) z⟩
          rw [decide_eq_true rfl]
          exact q _ (.new hp)
        | non =>
          refine ⟨_, rfl, szl, fun p hp => ⟨_, p, _, .type "NoneType", _, false, rfl, upd_same, cls2, tyz_non, by kernel_rfl, _, rfl, ?_⟩⟩
          refine ⟨_, rfl, _, _, _, _, false, rfl, .ty "dict", tyz_non, by kernel_rfl, _, rfl, ?_⟩
          refine ⟨_, rfl, _, _, _, _, false, rfl, .ty "int", tyz_non, by kernel_rfl, _, rfl, ?_⟩
          refine ⟨_, rfl, szl, fun p2 hp2 => ⟨_, p2, _, .type "NoneType", _, false, rfl, upd_same, cls4, tyz_non, by kernel_rfl, _, rfl, _, rfl, ite2 (fun _ => ⟨_, rfl, _, rfl, .inl ⟨rfl, ?_⟩⟩) fun z => absurd rfl z⟩⟩
          rw [decide_eq_true rfl]
          exact q _ ((Gr.new hp).trans (.new hp2))
        | str i =>
          refine ⟨_, rfl, szl, fun p hp => ⟨_, p, _, .type "str", _, false, rfl, upd_same, cls2, tyz_str i, by kernel_rfl, _, rfl, ?_⟩⟩
          refine ⟨_, rfl, _, _, _, _, false, rfl, .ty "dict", tyz_str i, by kernel_rfl, _, rfl, ?_⟩
          refine ⟨_, rfl, _, _, _, _, false, rfl, .ty "int", tyz_str i, by kernel_rfl, _, rfl, ?_⟩
          refine ⟨_, rfl, szl, fun p2 hp2 => ⟨_, p2, _, .type "str", _, false, rfl, upd_same, cls4, tyz_str i, by kernel_rfl, _, rfl, _, rfl, ite2 (fun _ => ⟨_, rfl, _, rfl, .inl ⟨rfl, ?_⟩⟩) fun z => absurd rfl z⟩⟩
          rw [decide_eq_true rfl]
          exact q _ ((Gr.new hp).trans (.new hp2))
        | _ => cases hf
      · refine ⟨_, rfl, szl, fun p hp => ⟨_, p, _, .ref C, _, false, rfl, upd_same, cls2, ty _ (.new hp), o.lt, _, rfl, ?_⟩⟩
        refine ⟨_, rfl, _, _, _, _, false, rfl, .ty "dict", ty _ (.new hp), o.d, _, rfl, ?_⟩
        refine ⟨_, rfl, _, _, _, _, false, rfl, .ty "int", ty _ (.new hp), o.i, _, rfl, ?_⟩
        refine ⟨_, rfl, szl, fun p2 hp2 => ⟨_, p2, _, .ref C, _, false, rfl, upd_same, cls4, ty _ ((Gr.new hp).trans (.new hp2)), o.all, _, rfl, _, rfl, ite2 (fun _ => ⟨_, rfl, _, rfl, .inr ⟨(d.gr (T := T) (.new hp)).gr (T := T) (.new hp2), fun H' e => ?_⟩⟩) fun z => absurd rfl z⟩⟩
        exact q _ (((Gr.new hp).trans (.new hp2)).trans (.of_ext e))
    · cases n with
      | zero => exact absurd sm ha
      | succ m =>
        rcases sm with h | ⟨a, b, xs, ys, rfl, rfl, hab, l1, l2, el⟩ | ⟨a, b, kvs, rfl, rfl, h1, h2, l1, m2, fl⟩
        · exact absurd h ha
        · -- lists, tuples
          obtain ⟨t, tyA, tyB, k1, k2, k3⟩ : ∃ t, Ty P w K T H (.ref a) (.type t) ∧ Ty P w K T H (.ref b) (.type t) ∧ PySem.W.kitAny K (.type t) [.type "list", .type "tuple"] = some true ∧ (∃ v, PySem.W.kitOne K (.type t) (.type "list") = some v) ∧ ∃ v, PySem.W.kitOne K (.type t) (.type "tuple") = some v := by
            rcases hab with ⟨h1, h2⟩ | ⟨h1, h2⟩
            · exact ⟨"list", fun H' g => tyz_lst (g.lst h1 (fun z => nomatch z)), fun H' g => tyz_lst (g.lst h2 (fun z => nomatch z)), rfl, ⟨true, rfl⟩, ⟨false, by kernel_rfl⟩⟩
            · exact ⟨"tuple", fun H' g => tyz_tup (g.tup h1), fun H' g => tyz_tup (g.tup h2), by kernel_rfl, ⟨false, by kernel_rfl⟩, ⟨true, by kernel_rfl⟩⟩
          obtain ⟨v1, k2⟩ := k2
          obtain ⟨v2, k3⟩ := k3
          refine ⟨_, rfl, szl, fun p hp => ⟨_, p, _, .type t, _, true, rfl, upd_same, cls2, tyB _ (.new hp), k1, _, rfl, ?_⟩⟩
          have g1 : Gr T [] H (upd H p (.tup [.ty "list", .ty "tuple"])) := .new hp
          have hab1 : SeqAB (upd H p (.tup [.ty "list", .ty "tuple"])) a b xs ys := hab.elim (fun h => .inl ⟨g1.lst h.1 (fun z => nomatch z), g1.lst h.2 (fun z => nomatch z)⟩) fun h => .inr ⟨g1.tup h.1, g1.tup h.2⟩
          dsimp only
          generalize upd H p (.tup [.ty "list", .ty "tuple"]) = H1 at g1 hab1
          refine ⟨_, rfl, _, _, _, _, v1, rfl, .ty "list", tyA _ g1, k2, _, rfl, _, _, _, _, v1, rfl, .ty "list", tyB _ g1, k2, rfl, _, rfl, ite2 (fun z => ?_) fun _ => ?_⟩
          · rw [decide_eq_true rfl] at z
            cases z
          refine ⟨_, rfl, _, _, _, _, v2, rfl, .ty "tuple", tyA _ g1, k3, _, rfl, _, _, _, _, v2, rfl, .ty "tuple", tyB _ g1, k3, rfl, _, rfl, ite2 (fun z => ?_) fun _ => ?_⟩
          · rw [decide_eq_true rfl] at z
            cases z
          have sA : SqL K H1 a xs ∨ SqT K H1 a xs := hab1.elim (fun h => .inl (.inl (.inl h.1))) fun h => .inr (.inl (.inl h.1))
          have sB : SqL K H1 b ys ∨ SqT K H1 b ys := hab1.elim (fun h => .inl (.inl (.inl h.2))) fun h => .inr (.inl (.inl h.2))
          refine ⟨_, rfl, a, xs, rfl, sA, _, rfl, b, ys, rfl, sB, rfl, ?_⟩
          rw [l1, decide_eq_true rfl]
          refine ⟨true, rfl, iteT ?_⟩
          refine ⟨a, b, xs, ys, rfl, rfl, hab1, l1, fun J G' wk hG => fun D' hD => ?_⟩
          refine lc_it wk (fun i H' => Gr T [] H1 H' ∧ H' D' = some (.lst (List.replicate i (V.bl true)))) ⟨.new hD, upd_same⟩ (fun i H' _ h => hG T H' h.1) (fun i v H2 H3 hi ⟨g, hD2⟩ yy => ?_) fun H2 ⟨g, hD2⟩ => ?_
          · obtain ⟨t', x1, x2, rfl, ht0, rfl, e1, e2⟩ := yy
            have dt : D' ≠ t' := fun z => by
              rw [z, ht0] at hD2
              cases hD2
            have g3 : Gr T [] H2 (upd H2 t' (.tup [x1, x2])) := .new ht0
            refine ⟨t', _, rfl, .inl (.inl upd_same), rfl, _, _, rfl, _, _, rfl, rfl, rfl, _, rfl, _, rfl, hz _ _ _ _ _ (Nat.succ_ne_zero _) ((el i x1 x2 e1 e2).gr ((g1.trans g).trans g3)) fun H5 g5 => ?_⟩
            have hD5 := g5.lst (g3.lst hD2 (fun z => nomatch z)) (fun z => nomatch z)
            refine ⟨_, hD5, ?_, ((g.trans g3).trans g5).ownL hD hD5, ?_⟩
            · rw [List.length_replicate]
              exact small1000 (by omega)
            · rw [upd_same, List.replicate_succ']
          · refine ⟨D', List.replicate xs.length true, rfl, .inl (.inl ?_), ?_⟩
            · rw [hD2, List.map_replicate]
            · show Q (.bl ((List.replicate xs.length true).all id)) H2
              rw [show (List.replicate xs.length true).all id = true from List.all_eq_true.mpr fun b hb => (List.mem_replicate.mp hb).2]
              exact q H2 (g1.trans g)
        · -- dicts
          refine ⟨_, rfl, szl, fun p hp => ⟨_, p, _, .type "dict", _, false, rfl, upd_same, cls2, tyz_dK ((Gr.new (T := T) (B := []) hp).dK h2), by kernel_rfl, _, rfl, ?_⟩⟩
          have g1 : Gr T [] H (upd H p (.tup [.ty "list", .ty "tuple"])) := .new hp
          have h1' := g1.dK h1
          have h2' := g1.dK h2
          dsimp only
          generalize upd H p (.tup [.ty "list", .ty "tuple"]) = H1 at g1 h1' h2'
          refine ⟨_, rfl, _, _, _, _, true, rfl, .ty "dict", tyz_dK h2', rfl, _, rfl, ?_⟩
          refine ⟨_, rfl, _, _, _, _, true, rfl, .ty "dict", tyz_dK h1', rfl, true, rfl, iteT ?_⟩
          refine ⟨_, rfl, a, kvs, rfl, h1', fun H2 p1 ts e1 _ _ _ hp1 pr1 => ?_⟩
          have g2 : Gr T [] H1 H2 := .of_ext e1
          refine ⟨_, rfl, b, kvs, rfl, g2.dK h2', fun H3 p2 us e2 _ _ _ hp2 pr2 => ?_⟩
          have g3 : Gr T [] H2 H3 := .of_ext e2
          refine hz _ _ _ _ _ (Nat.succ_ne_zero _) ?_ fun H4 g4 => q H4 (((g1.trans g2).trans g3).trans g4)
          obtain ⟨m', rfl⟩ : ∃ m', m = m' + 2 := ⟨m - 2, by omega⟩
          refine .inr (.inl ⟨p1, p2, _, _, rfl, rfl, .inl ⟨g3.lst hp1 (fun z => nomatch z), hp2⟩, ?_, ?_, fun i u v q1 q2 => ?_⟩)
          · rw [List.length_map, List.length_map, Paired.length pr1, Paired.length pr2]
          · rw [List.length_map, Paired.length pr1]
            exact l1
          rw [List.getElem?_map] at q1 q2
          obtain ⟨t1, et1, rfl⟩ := Option.map_eq_some_iff.mp q1
          obtain ⟨t2, et2, rfl⟩ := Option.map_eq_some_iff.mp q2
          obtain ⟨r1, er1, hr1⟩ := paired_get pr1 et1
          obtain ⟨r2, er2, hr2⟩ := paired_get pr2 et2
          rw [er1] at er2
          cases er2
          refine .inr (.inl ⟨t1, t2, _, _, rfl, rfl, .inr ⟨g3.tup hr1, hr2⟩, rfl, (show (2 : Nat) ≤ 1000 by decide), fun j u v w1 w2 => ?_⟩)
          rw [w1] at w2
          cases w2
          refine Sm.flat ?_
          rcases List.mem_cons.mp (List.mem_of_getElem? w1) with h | h
          · rw [h]
            cases r1.1 <;> rfl
          · rw [List.mem_singleton.mp h]
            exact fl r1 (List.mem_of_getElem? er1)
/-- data as deep as n -/
theorem ok_same (M : Mo K mg) (I : Is K) (D : Md K mg) (N : Mx K) : ∀ n : Nat, Gd P w K mg base (4 + n) "_law_same" ["_law_found", "_law_due"] (spSame P w K T n)
  | 0 => step_same (k := 0) (n := 0) M I D N (gd_no (M.df "_law_same" 90) sc90 (fun F => F.bindsN fun _ _ _ _ _ _ us hl => match us, hl with | [_, _], _ => rfl)) fun _ _ _ _ _ h => absurd rfl h
  | n + 1 => by
    have G := ok_same M I D N n
    have e : 4 + n = 3 + (n + 1) := by omega
    rw [e] at G
    have q := step_same (k := n + 1) (n := n + 1) M I D N G fun x y H Q E _ sm q => ⟨x, y, rfl, sm, q⟩
    have e2 : 3 + (n + 1) + 1 = 4 + (n + 1) := by omega
    rw [e2] at q
    exact q
end Rw
set_option maxHeartbeats 4000000
/-! Several except clauses, each with the name n (slot i). -/
namespace Rw
open PySem PySem.Spec PyProof.Rows L2 LamX NdefX
/-- the wish at an exception: the first clause that takes it, with the name bound to it -/
def wManyA (K : PySem.W.Frag) (i : Nat) (Wout : WX) (D : Ends) : List (Value × (Addr → Value → Option Addr → TS)) → WX
  | [] => Wout
  | (c, ts) :: r => fun cls d σ H => ∃ b, PySem.W.exmOne K cls c = some b ∧ (b = true → ∀ a, H a = none → ts a cls d { nx := fun σ' H' => D.nx (σ'.set i none) H', rt := D.rt, bk := fun σ' H' => D.bk (σ'.set i none) H', ct := fun σ' H' => D.ct (σ'.set i none) H' } (σ.set i (some (.ref a))) H) ∧
    (b = false → wManyA K i Wout D r cls d σ H)
inductive HdsAs (X : Cx) (n : Str) : List ExceptHandler → List (Value × (Addr → Value → Option Addr → TS)) → Prop
  | nil : HdsAs X n [] []
  | cons {x : Str} {c : Value} {ts : Addr → Value → Option Addr → TS} {b₀ : Stmt} {suite : List Stmt} {np pos' : Pos} {hds : List ExceptHandler} {l : List (Value × (Addr → Value → Option Addr → TS))} (hc : Names X x c)
      (hsu : ∀ (a : Addr) (oe : Obj) (cls : Value) (d : Option Addr) (pn : List (Addr × Obj)), Zc cls d oe → (∃ vs, oe.data = .fields vs) → PSs (X.suite a ((a, oe) :: pn)) (b₀ :: suite) (ts a cls d)) (r : HdsAs X n hds l) :
      HdsAs X n (.ExceptHandler (some (.Name x np)) (some n) (b₀ :: suite) pos' :: hds) ((c, ts) :: l)
section
variable {X : Cx} {n : Str} {i : Nat} {body : List Stmt} {h₀ : ExceptHandler} {hds : List ExceptHandler} {l : List (Value × (Addr → Value → Option Addr → TS))} {pos : Pos} {tb : WX → TS} {Wout : WX}
theorem ps_try_manyAs (hs : X.stack = X.env :: X.outer) (hf : X.env.frame = some X.env.locals) (hN : X.N.Nodup) (hi : X.N[i]? = some n) (hln : X.env.kindOf n = some .local) (tk : Takes X Wout)
    (hb : ∀ (W : WX) (pn : List (Addr × Obj)) (xe : Value → Shared → Prop), Takes (X.tr pn xe) W → PassesOwn (model X.prog X.w) X.A X.env xe → PSs (X.tr pn xe) body (tb W))
    (hh : HdsAs X n (h₀ :: hds) l) : PS X (.Try body (h₀ :: hds) [] [] pos) (fun D σ H => tb (wManyA X.K i Wout D l) D σ H) := by
  refine ⟨fun pinsz s σ H D I h => ?_⟩
  have ok := I.ok
  have hlocz : Loc X.env.scope n := .inl hln
  have hfrz : X.A.frames = some (X.env :: X.outer) := by rw [ok.frames, hs]
  refine wpAny_Try_except ?_
  refine wpAny_mono ((hb (wManyA X.K i Wout D l) (X.pn ++ pinsz) (fun e s₁ => wpAny (model X.prog X.w) X.A (noteFrame e X.env) (fun _ s₂ => wpAny (model X.prog X.w) X.A (setFlight e none) (fun _ s₃ =>
    wpAny (model X.prog X.w) X.A (handleBy e X.env (h₀ :: hds)) (SP X pinsz D) X.xe s₃) X.xe s₂) X.xe s₁) (fun u s' xx => ?_) PassesOwn.looking).run [] s σ H D (I.toTry _) h) (fun f s1 hsp => ?_) (fun e s1 hez => hez)
  · -- the catch
    obtain ⟨a, B, sIz, pins', σz', H', cls, d, rfl, J', nb, up, sky, na, os, ag, w⟩ := xx
    have J : Inv X pinsz σz' H' sIz := J'.ofTry ok
    have skyz' : Sky B (X.env :: X.outer) a (Zc cls d) X.env.locals s'.heap := by rw [← hs]; exact sky
    show wpAny (model X.prog X.w) X.A (noteFrame (.ref a) X.env) _ _ _
    refine Sky.land Zc.steady hfrz hf skyz' fun h3z fl3z up3 => ?_
    have J3 : Inv X pinsz σz' H' { s' with heap := h3z } := J.landed nb fl3z.1 (up.trans up3) os ag
    obtain ⟨oe3z, vs3, he3, hz3, hd3⟩ := fl3z.there
    have notFrz : ∀ {h : Heap} {o : Obj} {vs : Array Value}, h.FunFrames B (X.env :: X.outer) → h.get? a = some o → o.data = .fields vs → a ∉ frs (X.env :: X.outer) := fun {h o vs} ff e dd hm => by
      obtain ⟨_, oz', e', hnf⟩ := ff.mem hm
      rw [e] at e'; cases e'
      exact hnf _ dd
    have nfr := notFrz fl3z.2.2.1 he3 hd3
    have nLz : a ≠ X.env.locals := fun z => nfr (List.mem_filterMap.mpr ⟨X.env, List.mem_cons_self, by rw [hf, z]⟩)
    have nFz : a ∉ X.fs := fun hm => by
      obtain ⟨e, hez, q⟩ := List.mem_filterMap.mp hm
      exact nfr (List.mem_filterMap.mpr ⟨e, List.mem_cons_of_mem _ hez, q⟩)
    have S3 := J3.suite he3 hd3 na nLz nFz
    have go : ∀ {hds' : List ExceptHandler} {l' : List (Value × (Addr → Value → Option Addr → TS))}, HdsAs X n hds' l' → wManyA X.K i Wout D l' cls d σz' H' →
        wpAny (model X.prog X.w) X.A (handleBy (.ref a) X.env hds') (SP X pinsz D) X.xe { s' with heap := h3z } := by
      intro hds' l' hk
      induction hk with
      | nil =>
        intro w
        refine wpAny_handleBy_nil ?_
        obtain ⟨k1, k2, k3, oe, vs, T, oT, ts', hez, hz, hd, h1, hr⟩ := id fl3z
        unfold PySem.passOn
        refine wpAny_bind (wpAny_field hez hd h1 ?_)
        rw [if_neg (show ¬ ((Value.ref T == Value.none) = true) from by simp)]
        have finz : wpAny (model X.prog X.w) X.A (setFlight (.ref a) X.env.frame) (fun _ s4 => wpAny (model X.prog X.w) X.A (throw (.ref a) : Sem Flow) (SP X pinsz D) X.xe s4) X.xe { s' with heap := h3z } := by
          rw [hf]
          refine HandSPX.setFlight_upZ fl3z fun h4 hh4 up4 => wpAny_throw (tk _ _ ?_)
          exact ⟨a, B, sIz, pinsz, σz', H', cls, d, rfl, J, nb, (up.trans up3).trans up4, .inr (.inr (by rw [hs]; exact hh4)), na, os, ag, w⟩
        first
          | exact wpAny_bind (wpAny_pure (wpAny_bind finz))
          | exact wpAny_bind finz
      | @cons x c ts b₀ suite np pos' hds2 l2 hc hsu r ih =>
        intro w
        obtain ⟨b, hb1z, hyes, hno⟩ := w
        refine wpAny_handleBy_cons (codeAny_handlers_test ?_) (by intro q; cases q)
        have LT : PySem.W.Looks (model X.prog X.w) h3z (typeOf (.ref a)) cls := fun A Q E s k q => wpAny_typeOf_ref (k _ _ he3) (by rw [hz3.1]; exact q)
        have LM := PySem.W.exm_one (M := model X.prog X.w) (J3.kIn) LT hb1z
        have test : ∀ {Q : Value → Shared → Prop} {E : Value → Shared → Prop}, Q c { s' with heap := h3z } → wpAny (model X.prog X.w) (X.A.mark (some (.ref a))) (eval (.Name x np) X.env) Q E { s' with heap := h3z } := fun {Q E} q => by
          obtain ⟨hgz, hdbg, hm | ⟨hm, hv, hnn⟩⟩ := hc
          · exact ld_glob (X := X.suite a ((a, oe3z) :: (X.pn ++ pinsz))) S3 hgz hm q hdbg
          · exact ld_blt (X := X.suite a ((a, oe3z) :: (X.pn ++ pinsz))) S3 hgz hm hv q hnn hdbg
        refine test (LM.here ?_)
        cases b with
        | true =>
          refine codeAny_handlers_suite_as ?_
          refine HandSPX.lands_againZ fl3z fun h4 fl4 up4 => ?_
          have J4 : Inv X pinsz σz' H' { s' with heap := h4 } := J.landed nb fl4.1 ((up.trans up3).trans up4) os ag
          obtain ⟨oe4z, vs4, he4, hz4, hd4⟩ := fl4.there
          have S4 := J4.suite he4 hd4 na nLz nFz
          refine store_ok (X := X.suite a ((a, oe4z) :: (X.pn ++ pinsz))) (v := .ref a) S4 hN hi hlocz rfl (fun s5 S5 => ?_) (.inr hln)
          refine wpAny_mono ((hsu a oe4z cls d (X.pn ++ pinsz) hz4 ⟨_, hd4⟩).run [] s5 _ H' _ S5 (hyes rfl a na)) (fun f s6 hsp => ?_) (fun _ _ z => False.elim z)
          have end_ : ∀ {σ6z : L2.St} {H6 : Hp} {Q : Shared → Prop}, Inv (X.suite a ((a, oe4z) :: (X.pn ++ pinsz))) [] σ6z H6 s6 → (∀ s7z, Inv X pinsz (σ6z.set i none) H6 s7z → Q s7z) →
              wpAny (model X.prog X.w) X.A (do bindName X.env n .none; unbindBehindTheSuite X.env n pos') (fun _ s7z => Q s7z) X.xe s6 := fun {σ6z H6 Q} S6 hq => gone_ok (S6.unsuite ok) hN hi hln hq
          cases f with
          | next =>
            obtain ⟨σ6z, H6, S6, q6⟩ := hsp
            exact end_ S6 fun s7z J7 => ⟨_, _, J7, q6⟩
          | brk =>
            obtain ⟨σ6z, H6, S6, q6⟩ := hsp
            exact end_ S6 fun s7z J7 => ⟨_, _, J7, q6⟩
          | cont =>
            obtain ⟨σ6z, H6, S6, q6⟩ := hsp
            exact end_ S6 fun s7z J7 => ⟨_, _, J7, q6⟩
          | ret u =>
            obtain ⟨v6, σ6z, H6, S6, r6, q6⟩ := hsp
            exact end_ S6 fun s7z J7 => ⟨_, _, _, J7, r6, q6⟩
        | false =>
          show wpAny _ X.A (handleBy (.ref a) X.env hds2) _ _ _
          exact ih (hno rfl)
    exact go hh w
  · cases f with
    | next =>
      obtain ⟨σz', H', J', q⟩ := hsp
      exact wpAny_execs_nil ⟨σz', H', J'.ofTry ok, q⟩
    | brk =>
      obtain ⟨σz', H', J', q⟩ := hsp
      exact ⟨σz', H', J'.ofTry ok, q⟩
    | cont =>
      obtain ⟨σz', H', J', q⟩ := hsp
      exact ⟨σz', H', J'.ofTry ok, q⟩
    | ret u =>
      obtain ⟨v, σz', H', J', r, q⟩ := hsp
      exact ⟨v, σz', H', J'.ofTry ok, r, q⟩
end
end Rw
set_option maxHeartbeats 4000000
/-! The law's defs: _law_met. -/
namespace Rw
open PySem PySem.Spec PyProof.Rows L2 LamX NdefX
variable {P : Program} {w : World} {K : PySem.W.Frag} {mg : Str → Option Value} {base : Heap} {T : List NTab}
theorem pe_callV0 {X : Cx} {k i : Nat} {x : Str} {E : XK} {p pos : Pos} (hP : X.prog = P) (hw : X.w = w) (hK : X.K = K) (hmg : X.mg = mg) (hbase : X.base = base) (hr : Room k X.A) (hx : Passes (L2.CX X.prog X.w) X E) (hN : X.N[i]? = some x) (hv : Vis X.env.scope x)
    (hd : (x == ("__debug__" : Str)) = false := by decide) (hcd : (x == ("__classdict__" : Str)) = false := by decide) : PE X (.Call (.Name x p) [] [] pos) (tCallV P w K mg base k i E tNil) := by
  subst hP hw hK hmg hbase
  exact pe_callF0 hr hx hN hv hd hcd
theorem passes_len {X : Cx} {W : WX} (n : Nat) (tk : Takes X W) (hn : X.N.length = n := by rfl) : Passes (L2.CX X.prog X.w) X fun c d H => ∀ σ : L2.St, σ.length = n → W c d σ H :=
  fun _ σ _ _ e s' I c => tk e s' (XE.of_call I (fun cls d H' h => h σ (I.len.trans hn)) c)
/-- what the except clauses take -/
structure Mt (K : PySem.W.Frag) : Prop where
  exm : ∀ x ∈ excN, ∀ y ∈ excN, PySem.W.exmOne K (.ref (He.ga K x)) (.ref (He.ga K y)) = some (decide (x = y))
  xf : ∀ x ∈ excN, XfC K (He.ga K x)
def metL : List (Str × Str × Str) := [("BadPath", "thing", "path"), ("BadTotal", "total", "total"), ("BadChooser", "thing", "chooser"), ("BadNumber", "number", "number")]
def spMet (P : Program) (w : World) (K : PySem.W.Frag) (mg : Str → Option Value) (base : Heap) : Sp := fun vs H Q _ => ∃ (f : Addr) (Hc : Hp → Prop) (sp : Sp) (m : Str × Str × Str) (v : V) (R : Addr → Hp → Prop), vs = [.ref f] ∧ Fv P w K mg base (L2.CX P w) 10 Hc f 0 sp ∧ Hc H ∧ m ∈ metL ∧
  (∀ Q' E', (∀ d H1, R d H1 → E' (.ref (He.ga K m.1)) (some d) H1) → sp [] H Q' E') ∧ ∀ d H1, R d H1 → H1 d = some (.xd [(m.2.1, v)]) ∧ ∀ p, H1 p = none → Q (.ref p) (upd H1 p (.tup [.str m.2.2, v]))
theorem sc99 : FnScope ["_law_ask", "e"] ["_law_ask"] (defScope (top 99)) := ⟨rfl, rfl, rfl, by decide +kernel, rfl, by decide +kernel, by decide +kernel⟩
theorem ok_met (M : Mo K mg) (X : Me P K mg) (Y : Mt K) : Gd P w K mg base 11 "_law_met" ["_law_ask"] (spMet P w K mg base) := by
  obtain ⟨f1, F1⟩ := X.path.ex
  obtain ⟨f2, F2⟩ := X.total.ex
  obtain ⟨f3, F3⟩ := X.choo.ex
  obtain ⟨f4, F4⟩ := X.num.ex
  refine gd_of (M.df "_law_met" 99) sc99 (fun F => F.bindsN fun _ _ _ _ _ _ us hl => match us, hl with | [_], _ => rfl) (fun vs H Q E h => ?_) fun cdv A outer s H vs Q E hr h => ⟨_, (pss_one (ps_try_manyAs (n := "e") (i := 1) rfl rfl sc99.nd rfl rfl (takes_of rfl rfl rfl rfl) (fun W pn xe tk po => pss_one (ps_ret (pe_tup (pa_cons pe_str (pa_cons (pe_callV0 (P := P) (w := w) (K := K) (mg := mg) (base := base) (i := 0) rfl rfl rfl rfl rfl hr (passes_len 2 tk) rfl (.inl rfl)) pa_nil)))))
    (.cons ⟨rfl, by decide, .inl X.path.gl⟩ (fun a oe cls d pn hz hf => pss_one (ps_ret (pe_tup (pa_cons pe_str (pa_cons (pe_xf (Y.xf "BadPath" (by decide)) F1.nof hz hf (pv 1)) pa_nil)))))
    (.cons ⟨rfl, by decide, .inl X.total.gl⟩ (fun a oe cls d pn hz hf => pss_one (ps_ret (pe_tup (pa_cons pe_str (pa_cons (pe_xf (Y.xf "BadTotal" (by decide)) F2.nof hz hf (pv 1)) pa_nil)))))
    (.cons ⟨rfl, by decide, .inl X.choo.gl⟩ (fun a oe cls d pn hz hf => pss_one (ps_ret (pe_tup (pa_cons pe_str (pa_cons (pe_xf (Y.xf "BadChooser" (by decide)) F3.nof hz hf (pv 1)) pa_nil)))))
    (.cons ⟨rfl, by decide, .inl X.num.gl⟩ (fun a oe cls d pn hz hf => pss_one (ps_ret (pe_tup (pa_cons pe_str (pa_cons (pe_xf (Y.xf "BadNumber" (by decide)) F4.nof hz hf (pv 1)) pa_nil)))))
    .nil)))))), ?_⟩
  · obtain ⟨f, Hc, sp, m, v, R, rfl, _⟩ := h
    rfl
  · obtain ⟨f, Hc, sp, m, v, R, rfl, fv, hc, hm, hs, q⟩ := h
    refine ⟨f, Hc, 0, sp, rfl, fv, hc, hc, hs _ _ fun d H1 r => ?_⟩
    obtain ⟨hx, q⟩ := q d H1 r
    intro σ hσ
    have hl : σ.length = 2 := hσ
    obtain ⟨z0, z1, rfl⟩ : ∃ z0 z1, σ = [z0, z1] := by
      match σ, hl with
      | [a, b], _ => exact ⟨a, b, rfl⟩
    have hm' : m = (("BadPath", "thing", "path") : Str × Str × Str) ∨ m = (("BadTotal", "total", "total") : Str × Str × Str) ∨ m = (("BadChooser", "thing", "chooser") : Str × Str × Str) ∨ m = (("BadNumber", "number", "number") : Str × Str × Str) := by simpa [metL] using hm
    have no : ∀ x ∈ excN, ∀ y ∈ excN, x ≠ y → PySem.W.exmOne K (.ref (He.ga K x)) (.ref (He.ga K y)) = some false := fun x hx y hy h => by rw [Y.exm x hx y hy, decide_eq_false h]
    have yes : ∀ x ∈ excN, PySem.W.exmOne K (.ref (He.ga K x)) (.ref (He.ga K x)) = some true := fun x hx => by rw [Y.exm x hx x hx, decide_eq_true rfl]
    rcases hm' with rfl | rfl | rfl | rfl
    · exact ⟨true, yes _ (by decide), fun _ a ha => ⟨_, rfl, rfl, rfl, d, _, v, rfl, hx, rfl, szl, q⟩, fun z => nomatch z⟩
    · refine ⟨false, no _ (by decide) _ (by decide) (by decide), fun z => (nomatch z), fun _ => ?_⟩
      exact ⟨true, yes _ (by decide), fun _ a ha => ⟨_, rfl, rfl, rfl, d, _, v, rfl, hx, rfl, szl, q⟩, fun z => nomatch z⟩
    · refine ⟨false, no _ (by decide) _ (by decide) (by decide), fun z => (nomatch z), fun _ => ?_⟩
      refine ⟨false, no _ (by decide) _ (by decide) (by decide), fun z => (nomatch z), fun _ => ?_⟩
      exact ⟨true, yes _ (by decide), fun _ a ha => ⟨_, rfl, rfl, rfl, d, _, v, rfl, hx, rfl, szl, q⟩, fun z => nomatch z⟩
    · refine ⟨false, no _ (by decide) _ (by decide) (by decide), fun z => (nomatch z), fun _ => ?_⟩
      refine ⟨false, no _ (by decide) _ (by decide) (by decide), fun z => (nomatch z), fun _ => ?_⟩
      refine ⟨false, no _ (by decide) _ (by decide) (by decide), fun z => (nomatch z), fun _ => ?_⟩
      exact ⟨true, yes _ (by decide), fun _ a ha => ⟨_, rfl, rfl, rfl, d, _, v, rfl, hx, rfl, szl, q⟩, fun z => nomatch z⟩
end Rw
set_option maxHeartbeats 4000000
/-! isinstance of a function. -/
namespace PySem
open Sem (wp)
namespace F
theorem rw_slot_fn_ga : Slot "function" "__getattribute__" "object.__getattribute__" := .of (owner := "object") (n := "__getattribute__") (by rw [typeLookup_type, builtinLookup_eq_fast]; kernel_rfl) (by decide +kernel) (by decide +kernel) (by decide +kernel)
    (by first | exact .inl (by decide +kernel) | exact .inr (by decide +kernel)) (by rw [isSubtype_type]; kernel_rfl)
theorem rw_lk_fn_class : typeLookup (.type "function") "__class__" = pure (some (.builtin "object.__class__")) := by rw [typeLookup_type, builtinLookup_eq_fast]; kernel_rfl
theorem rw_sub_fn_owner : isSubtype (.type "function") (.type (".".intercalate ("object.__class__".cutAt '.').dropLast)) = pure true := by
  rw [owner_object_class, isSubtype_type]; kernel_rfl
end F
section
variable {prog : Program} {w : World} {A : Around} {E : Value → Shared → Prop} {h : Heap} {g : Array GenState} {d : Drawn} {t : Nat} {os : OsState} {a : Addr} {o : Obj}
theorem rw_class_get_fn {R : Result → Shared → Prop} (hx : h.get? a = some o) (hc : o.cls = .type "function") (hq : R (.ok (.ret (.type "function"))) ⟨h, g, d, t, os⟩) :
    codeAny (model prog w) A (.call (.builtin "getset_descriptor.__get__") ⟨[.builtin "object.__class__", .ref a, .type "function"], []⟩) R ⟨h, g, d, t, os⟩ := by
  have hT : (⟨h, g, d, t, os⟩ : Shared).TypeIs (.ref a) "function" := ⟨_, hx, hc⟩
  have hT5z : (⟨h, g, d, t, os⟩ : Shared).TypeIs (.builtin "object.__class__") "getset_descriptor" := F.typeOf_object_class
  have f8 := F.rw_sub_fn_owner
  refine codeAny_call_builtin F.slot_gs_get.plain F.entry_gs_get (F.slot_gs_get.check _ _ _ _ _ _ _ _ hT5z (F.args_gs_get _ _ _) ?_)
  repeat (any_goals (first | assumption | wp_step))
  refine ⟨Code.quiet_builtin _ (by decide +kernel), codeAny_builtin F.entry_object_class ?_⟩
  repeat (any_goals (first | assumption | wp_step))
theorem rw_class_entry_fn {tk : Tok} {Q : Fin → Shared → Prop} (hx : h.get? a = some o) (hc : o.cls = .type "function") (hq : Q (.done (.ret (.type "function"))) ⟨h, g, d, t, os⟩) :
    wpAny (model prog w) A (Builtin.«object.__getattribute__» ⟨[.ref a, .str "__class__" tk], []⟩) Q E ⟨h, g, d, t, os⟩ := by
  have hT : (⟨h, g, d, t, os⟩ : Shared).TypeIs (.ref a) "function" := ⟨_, hx, hc⟩
  have hT5z : (⟨h, g, d, t, os⟩ : Shared).TypeIs (.builtin "object.__class__") "getset_descriptor" := F.typeOf_object_class
  have f4 := F.rw_lk_fn_class
  have f5z := F.typeOf_object_class
  have f6z := F.slot_gs_get.lookup
  have f7z := F.slot_gs_set.lookup
  repeat (any_goals (first | assumption | wp_step))
  refine rw_class_get_fn hx hc ?_
  repeat (any_goals (first | assumption | wp_step))
theorem rw_class_call_fn {tk : Tok} {R : Result → Shared → Prop} (hx : h.get? a = some o) (hc : o.cls = .type "function") (hq : R (.ok (.ret (.type "function"))) ⟨h, g, d, t, os⟩) :
    codeAny (model prog w) A (.call (.builtin "object.__getattribute__") ⟨[.ref a, .str "__class__" tk], []⟩) R ⟨h, g, d, t, os⟩ :=
  codeAny_call_builtin F.rw_slot_fn_ga.plain F.entry_object_getattribute (F.rw_slot_fn_ga.check _ _ _ _ _ _ _ _ (show (⟨h, g, d, t, os⟩ : Shared).TypeIs (.ref a) "function" from ⟨_, hx, hc⟩) (F.args_object_getattribute_2 _ _) (rw_class_entry_fn hx hc hq))
theorem rw_class_by_fn {tk : Tok} {Q : Value → Shared → Prop} (hx : h.get? a = some o) (hc : o.cls = .type "function") (hq : Q (.type "function") ⟨h, g, d, t, os⟩) : wpAny (model prog w) A (getAttrBy (.ref a) (.str "__class__" tk) false) Q E ⟨h, g, d, t, os⟩ := by
  have hT : (⟨h, g, d, t, os⟩ : Shared).TypeIs (.ref a) "function" := ⟨_, hx, hc⟩
  have f2 := F.rw_slot_fn_ga.lookup
  have f3 := F.rw_slot_fn_ga.bind (.ref a)
  repeat (any_goals (first | assumption | wp_step))
  refine rw_class_call_fn hx hc ?_
  repeat (any_goals (first | assumption | wp_step))
theorem rw_class_attr_fn {Q : Option Value → Shared → Prop} (hx : h.get? a = some o) (hc : o.cls = .type "function") (hq : Q (some (.type "function")) ⟨h, g, d, t + 1, os⟩) : wpAny (model prog w) A (getAttr? (.ref a) "__class__") Q E ⟨h, g, d, t, os⟩ := by
  unfold getAttr? getAttrBy?
  repeat (any_goals (first | assumption | with_reducible apply rw_class_by_fn hx hc | wp_step))
end
end PySem
namespace Rw
open PySem PySem.Spec PyProof.Rows L2 LamX NdefX
variable {P : Program} {w : World} {K : PySem.W.Frag} {mg : Str → Option Value} {base : Heap} {T : List NTab}
theorem kitx_fn {a : Addr} : PySem.W.KitX K (.ref a) (.type "function") (PySem.W.KitAt a "function") := PySem.W.kitx_of PySem.W.kitAt_ty (fun {_ _ _ _ _ s} p k => by obtain ⟨h, g, d, t, os⟩ := s; obtain ⟨o, h1, h2⟩ := p; exact PySem.rw_class_attr_fn h1 h2 k)
theorem ty_cfo {H : Hp} {f : Addr} {F : CF} (e : H f = some (CFO f F)) : Ty P w K T H (.ref f) (.type "function") := fun H' g h u ok _ r => by
  cases (show u = Value.ref f from r)
  obtain ⟨od, sl, doc, pm, ctv, ho⟩ := cfo_at ok (g.cfo e)
  exact ⟨_, kitx_fn, ⟨_, ho, rfl⟩, fun z => nomatch z⟩
theorem ty_glo {H : Hp} {f : Addr} (e : PySem.W.typeIn K (.ref f) = some (.type "function")) : Ty P w K T H (.ref f) (.type "function") := fun H' g h u ok X r => by
  cases (show u = Value.ref f from r)
  have e' : (K.lookup f).map (·.cls) = some (.type "function") := e
  cases q : K.lookup f with
  | none => rw [q] at e'; cases e'
  | some o =>
    rw [q] at e'
    exact ⟨_, kitx_fn, ⟨o, X _ _ q, Option.some.inj e'⟩, fun z => nomatch z⟩
end Rw
set_option maxHeartbeats 4000000
/-! The odd things of the law. -/
namespace Rw
open PySem PySem.Spec PyProof.Rows L2 LamX NdefX
variable {P : Program} {w : World} {K : PySem.W.Frag} {mg : Str → Option Value} {base : Heap} {T : List NTab}
theorem DeskAt.thw {C : Addr → Prop} {H : Hp} {a : Addr} (h : DeskAt K H a) (l : Lkd C H) : DeskAt K (Rw.thw C H) a :=
  let ⟨dx, fs, p, ns, x, t, d, q, h1, h2, h3, h4, h5, h6⟩ := h.ex
  ⟨dx, fs, p, ns, x, t, d, q, thw_keep l h1 (fun _ _ z => nomatch z), h2, h3.thw l, h4, thw_keep l h5 (fun _ _ z => nomatch z), thw_keep l h6 (fun _ _ z => nomatch z)⟩
theorem DeskAt.frz {C : Addr → Prop} {h : Heap} {H : Hp} {a : Addr} (d : DeskAt K H a) (l : Loose C h H) : DeskAt K (frzH C h H) a :=
  let ⟨dx, fs, p, ns, x, t, e, q, h1, h2, h3, h4, h5, h6⟩ := d.ex
  ⟨dx, fs, p, ns, x, t, e, q, l.frz h1, h2, h3.frz l, h4, l.frz h5, l.frz h6⟩
theorem ExAt.thw {C : Addr → Prop} {H : Hp} {a c d : Addr} {fs : List (Str × V)} (h : ExAt H a c d fs) (l : Lkd C H) : ExAt (Rw.thw C H) a c d fs :=
  ⟨thw_keep l h.1 (fun _ _ z => exo_frz z), thw_keep l h.2 (fun _ _ z => by
    have z' : HO.ext _ = HO.frz _ _ := z
    cases z')⟩
theorem ExAt.frz {C : Addr → Prop} {g : Heap} {H : Hp} {a c d : Addr} {fs : List (Str × V)} (h : ExAt H a c d fs) (l : Loose C g H) : ExAt (frzH C g H) a c d fs := ⟨l.frz h.1, l.frz h.2⟩
/-- data of one level, or one of the objects -/
def Thing (K : PySem.W.Frag) (H : Hp) (x : V) : Prop := flatV x = true ∨ ∃ a, x = .ref a ∧
  ((∃ xs : List V, (H a = some (.lst xs) ∨ H a = some (.tup xs)) ∧ xs.length ≤ 1000 ∧ xs.all flatV = true) ∨ (∃ kvs : List (Key × V), H a = some (.dK kvs) ∧ kvs.length ≤ 1000 ∧ ∀ p ∈ kvs, flatV p.2 = true) ∨
    (∃ ns, PathAt K H a ns) ∨ DeskAt K H a ∨ ∃ d fs, ExAt H a (He.ga K "BadTotal") d fs)
theorem Thing.gr {H H' : Hp} {x : V} (h : Thing K H x) (g : Gr T [] H H') : Thing K H' x := by
  rcases h with h | ⟨a, e, ⟨xs, h, r⟩ | ⟨kvs, h, r⟩ | ⟨ns, p⟩ | d | ⟨d, fs, z⟩⟩
  · exact .inl h
  · exact .inr ⟨a, e, .inl ⟨xs, h.elim (fun h => .inl (g.lst h (fun z => nomatch z))) fun h => .inr (g.tup h), r⟩⟩
  · exact .inr ⟨a, e, .inr (.inl ⟨kvs, g.dK h, r⟩)⟩
  · exact .inr ⟨a, e, .inr (.inr (.inl ⟨ns, p.gr g⟩))⟩
  · exact .inr ⟨a, e, .inr (.inr (.inr (.inl (d.gr g))))⟩
  · exact .inr ⟨a, e, .inr (.inr (.inr (.inr ⟨d, fs, z.gr g⟩)))⟩
theorem Thing.thw {C : Addr → Prop} {H : Hp} {x : V} (h : Thing K H x) (l : Lkd C H) : Thing K (Rw.thw C H) x := by
  rcases h with h | ⟨a, e, ⟨xs, h, r⟩ | ⟨kvs, h, r⟩ | ⟨ns, p⟩ | d | ⟨d, fs, z⟩⟩
  · exact .inl h
  · exact .inr ⟨a, e, .inl ⟨xs, h.elim (fun h => .inl (thw_keep l h (fun _ _ z => nomatch z))) fun h => .inr (thw_keep l h (fun _ _ z => nomatch z)), r⟩⟩
  · exact .inr ⟨a, e, .inr (.inl ⟨kvs, thw_keep l h (fun _ _ z => nomatch z), r⟩)⟩
  · exact .inr ⟨a, e, .inr (.inr (.inl ⟨ns, p.thw l⟩))⟩
  · exact .inr ⟨a, e, .inr (.inr (.inr (.inl (d.thw l))))⟩
  · exact .inr ⟨a, e, .inr (.inr (.inr (.inr ⟨d, fs, z.thw l⟩)))⟩
theorem Thing.frz {C : Addr → Prop} {g : Heap} {H : Hp} {x : V} (h : Thing K H x) (l : Loose C g H) : Thing K (frzH C g H) x := by
  rcases h with h | ⟨a, e, ⟨xs, h, r⟩ | ⟨kvs, h, r⟩ | ⟨ns, p⟩ | d | ⟨d, fs, z⟩⟩
  · exact .inl h
  · exact .inr ⟨a, e, .inl ⟨xs, h.elim (fun h => .inl (l.frz h)) fun h => .inr (l.frz h), r⟩⟩
  · exact .inr ⟨a, e, .inr (.inl ⟨kvs, l.frz h, r⟩)⟩
  · exact .inr ⟨a, e, .inr (.inr (.inl ⟨ns, p.frz l⟩))⟩
  · exact .inr ⟨a, e, .inr (.inr (.inr (.inl (d.frz l))))⟩
  · exact .inr ⟨a, e, .inr (.inr (.inr (.inr ⟨d, fs, z.frz l⟩)))⟩
/-- the classes, as isinstance asks -/
structure Mz (K : PySem.W.Frag) : Prop where
  pno : ∀ n ∈ ["NoneType", "bool", "int", "str", "list", "tuple", "dict"], PySem.W.kitOne K (.type n) (.ref (He.ga K "Path")) = some false
  cyes : ∀ n ∈ ["bool", "int", "str", "list", "tuple", "dict"], PySem.W.kitAny K (.type n) (chooL K) = some true
  cobj : ∀ x ∈ (["Path", "Desk", "BadTotal"] : List Str), PySem.W.kitAny K (.ref (He.ga K x)) (chooL K) = some true
  bcl : (PySem.W.clsIn K (He.ga K "BadTotal")).isSome = true
  bgc : PySem.W.findIn K (.ref (He.ga K "BadTotal")) "__class__" = some (some (.builtin "object.__class__"))
theorem ExAt.ty (I : Is K) (Y : Mt K) (N : Mx K) (Z : Mz K) {H : Hp} {a d : Addr} {fs : List (Str × V)} (h : ExAt H a (He.ga K "BadTotal") d fs) : Ty P w K T H (.ref a) (.ref (He.ga K "BadTotal")) := fun H' g hp u ok _ r => by
  cases (show u = Value.ref a from r)
  obtain ⟨ox, od, J⟩ := (h.gr g).inst ok
  have X := Y.xf "BadTotal" (by decide)
  exact ⟨_, PySem.W.kitx_exc Z.bcl X.ga X.gg X.exC Z.bgc I.gs I.gt N.xm, J, fun z => nomatch z⟩
/-- what isinstance says of a thing -/
theorem Thing.ty (M : Mo K mg) (I : Is K) (D : Md K mg) (Y : Mt K) (N : Mx K) (Z : Mz K) {H : Hp} {x : V} (h : Thing K H x) : ∃ t, Ty P w K T H x t ∧ ((∃ n ∈ ["NoneType", "bool", "int", "str", "list", "tuple", "dict"], t = .type n ∧ (n = "NoneType" → x = .non)) ∨ ∃ c ∈ (["Path", "Desk", "BadTotal"] : List Str), t = .ref (He.ga K c)) := by
  rcases h with h | ⟨a, rfl, ⟨xs, h, r⟩ | ⟨kvs, h, r⟩ | ⟨ns, p⟩ | d | ⟨d, fs, z⟩⟩
  · refine ⟨tyF x, fun H' g => tyz_flat h, .inl ?_⟩
    cases x with
    | non => exact ⟨"NoneType", by decide, rfl, fun _ => rfl⟩
    | bl b => exact ⟨"bool", by decide, rfl, fun z => absurd z (by decide)⟩
    | int i => exact ⟨"int", by decide, rfl, fun z => absurd z (by decide)⟩
    | str s => exact ⟨"str", by decide, rfl, fun z => absurd z (by decide)⟩
    | _ => cases h
  · rcases h with h | h
    · exact ⟨.type "list", fun H' g => tyz_lst (g.lst h (fun z => nomatch z)), .inl ⟨"list", by decide, rfl, fun z => absurd z (by decide)⟩⟩
    · exact ⟨.type "tuple", fun H' g => tyz_tup (g.tup h), .inl ⟨"tuple", by decide, rfl, fun z => absurd z (by decide)⟩⟩
  · exact ⟨.type "dict", fun H' g => tyz_dK (g.dK h), .inl ⟨"dict", by decide, rfl, fun z => absurd z (by decide)⟩⟩
  · exact ⟨_, p.ty M I, .inr ⟨"Path", by decide, rfl⟩⟩
  · exact ⟨_, d.ty I D, .inr ⟨"Desk", by decide, rfl⟩⟩
  · exact ⟨_, z.ty I Y N Z, .inr ⟨"BadTotal", by decide, rfl⟩⟩
theorem Thing.badC (M : Mo K mg) (I : Is K) (D : Md K mg) (Y : Mt K) (N : Mx K) (Z : Mz K) {H : Hp} {x : V} (h : Thing K H x) : BadC P w K T H x := by
  by_cases hx : x = .non
  · exact .inl hx
  · obtain ⟨t, ty, ⟨n, hn, rfl, hnn⟩ | ⟨c, hc, rfl⟩⟩ := h.ty (P := P) (w := w) (T := T) M I D Y N Z
    · refine .inr ⟨hx, _, ty, Z.cyes n ?_⟩
      rcases List.mem_cons.mp hn with z | z
      · exact absurd (hnn z) hx
      · exact z
    · exact .inr ⟨hx, _, ty, Z.cobj c hc⟩
/-- the same thing is the same -/
theorem Thing.same (M : Mo K mg) (I : Is K) (D : Md K mg) (Y : Mt K) (N : Mx K) (Z : Mz K) {H : Hp} {x : V} {n : Nat} (h : Thing K H x) : Sm P w K T (n + 3) H x x := by
  have el : ∀ {xs : List V}, xs.all flatV = true → ∀ (i : Nat) u v, xs[i]? = some u → xs[i]? = some v → Sm P w K T (n + 2) H u v := fun {xs} ha i u v e1 e2 => by
    rw [e1] at e2
    cases e2
    exact Sm.flat (List.all_eq_true.mp ha u (List.mem_of_getElem? e1))
  rcases h with h | ⟨a, rfl, ⟨xs, h, r1, r2⟩ | ⟨kvs, h, r1, r2⟩ | ⟨ns, p⟩ | d | ⟨d, fs, z⟩⟩
  · exact Sm.flat h
  · exact .inr (.inl ⟨a, a, xs, xs, rfl, rfl, h.elim (fun h => .inl ⟨h, h⟩) fun h => .inr ⟨h, h⟩, rfl, r1, el r2⟩)
  · exact .inr (.inr ⟨a, a, kvs, rfl, rfl, h, h, r1, by omega, r2⟩)
  · obtain ⟨dx, fs, tn, h1, _⟩ := p.ex
    exact .inl (.inr ⟨a, _, rfl, rfl, p.ty M I, N.path, .inl (.inl ⟨a, a, dx, dx, fs, fs, rfl, rfl, h1, h1, rfl, ns, p⟩)⟩)
  · obtain ⟨dx, fs, p, ns, y, t, e, l, h1, _⟩ := d.ex
    exact .inl (.inr ⟨a, _, rfl, rfl, d.ty I D, N.desk, .inl (.inr ⟨a, a, dx, dx, fs, fs, rfl, rfl, h1, h1, rfl, d⟩)⟩)
  · exact .inl (.inr ⟨a, _, rfl, rfl, z.ty I Y N Z, N.bad, .inr ⟨a, d, fs, rfl, rfl, z⟩⟩)
/-- data alone -/
def Data (H : Hp) (x : V) : Prop := flatV x = true ∨ ∃ a, x = .ref a ∧ ((∃ xs : List V, (H a = some (.lst xs) ∨ H a = some (.tup xs)) ∧ xs.length ≤ 1000 ∧ xs.all flatV = true) ∨ ∃ kvs : List (Key × V), H a = some (.dK kvs) ∧ kvs.length ≤ 1000 ∧ ∀ p ∈ kvs, flatV p.2 = true)
theorem Data.thing {H : Hp} {x : V} (h : Data H x) : Thing K H x := h.elim .inl fun ⟨a, e, h⟩ => .inr ⟨a, e, h.elim .inl fun h => .inr (.inl h)⟩
theorem Data.tyn {H : Hp} {x : V} (h : Data H x) : ∃ n ∈ ["NoneType", "bool", "int", "str", "list", "tuple", "dict"], Ty P w K T H x (.type n) ∧ (n = "int" → ∃ i, x = .int i) ∧ (n = "bool" → ∃ b, x = .bl b) := by
  rcases h with h | ⟨a, rfl, ⟨xs, h, r⟩ | ⟨kvs, h, r⟩⟩
  · cases x with
    | non => exact ⟨"NoneType", by decide, fun H' g => tyz_non, fun z => absurd z (by decide), fun z => absurd z (by decide)⟩
    | bl b => exact ⟨"bool", by decide, fun H' g => tyz_bl b, fun z => absurd z (by decide), fun _ => ⟨b, rfl⟩⟩
    | int i => exact ⟨"int", by decide, fun H' g => tyz_int i, fun _ => ⟨i, rfl⟩, fun z => absurd z (by decide)⟩
    | str s => exact ⟨"str", by decide, fun H' g => tyz_str s, fun z => absurd z (by decide), fun z => absurd z (by decide)⟩
    | _ => cases h
  · rcases h with h | h
    · exact ⟨"list", by decide, fun H' g => tyz_lst (g.lst h (fun z => nomatch z)), fun z => absurd z (by decide), fun z => absurd z (by decide)⟩
    · exact ⟨"tuple", by decide, fun H' g => tyz_tup (g.tup h), fun z => absurd z (by decide), fun z => absurd z (by decide)⟩
  · exact ⟨"dict", by decide, fun H' g => tyz_dK (g.dK h), fun z => absurd z (by decide), fun z => absurd z (by decide)⟩
theorem Data.badP (Z : Mz K) {H : Hp} {x : V} (h : Data H x) : BadP P w K T H x := by
  obtain ⟨n, hn, ty, _⟩ := h.tyn (P := P) (w := w) (K := K) (T := T)
  exact ⟨_, ty, Z.pno n hn⟩
theorem Data.notNum {H : Hp} {x : V} (h : Data H x) (ni : ∀ i, x = .int i → i < 0) : NotNum P w K T H x := fun H' g => by
  obtain ⟨n, hn, ty, hi, hb⟩ := h.tyn (P := P) (w := w) (K := K) (T := T)
  by_cases e1 : n = "int"
  · obtain ⟨i, rfl⟩ := hi e1
    exact .inl ⟨i, rfl, (decide_eq_false (by have := ni i rfl; omega)).symm⟩
  · by_cases e2 : n = "bool"
    · obtain ⟨b, rfl⟩ := hb e2
      exact .inr (.inl ⟨b, rfl, rfl⟩)
    · refine .inr (.inr ⟨.type n, ty H' g, ?_, rfl⟩)
      have hm : n = "NoneType" ∨ n = "str" ∨ n = "list" ∨ n = "tuple" ∨ n = "dict" := by
        simp only [List.mem_cons, List.not_mem_nil, or_false] at hn
        rcases hn with h | h | h | h | h | h | h
        · exact .inl h
        · exact absurd h e2
        · exact absurd h e1
        · exact .inr (.inl h)
        · exact .inr (.inr (.inl h))
        · exact .inr (.inr (.inr (.inl h)))
        · exact .inr (.inr (.inr (.inr h)))
      rcases hm with rfl | rfl | rfl | rfl | rfl <;> kernel_rfl
end Rw
set_option maxHeartbeats 4000000
/-! The law's defs: _law_number_refused. -/
namespace Rw
open PySem PySem.Spec PyProof.Rows L2 LamX NdefX
variable {P : Program} {w : World} {K : PySem.W.Frag} {mg : Str → Option Value} {base : Heap} {T : List NTab}
/-- the law's facts, all of them -/
structure All (P : Program) (K : PySem.W.Frag) (mg : Str → Option Value) (base : Heap) (T : List NTab) : Prop where
  m : Mo K mg
  x : Me P K mg
  i : Is K
  tb : Tb K mg base T
  l : Ml K mg
  d : Md K mg
  n : Mx K
  y : Mt K
  z : Mz K
  fty : ∀ x ∈ (["_law_first", "_law_last", "_law_cannot"] : List Str), PySem.W.typeIn K (.ref (He.ga K x)) = some (.type "function")
/-- a call that raises -/
def spRaise (K : PySem.W.Frag) (T : List NTab) (c fld : Str) (x : V) (G : Hp → Prop) : Sp := fun vs H _ E => vs = [] ∧ G H ∧ ∀ d H1, Gr T [] H H1 → H1 d = some (.xd [(fld, x)]) → E (.ref (He.ga K c)) (some d) H1
theorem raise_len {c fld : Str} {x : V} {G : Hp → Prop} : ∀ vs H Q E, spRaise K T c fld x G vs H Q E → vs.length = ([] : List Str).length := fun vs H Q E ⟨e, _⟩ => by rw [e]; rfl
theorem raise_link {c fld : Str} {x : V} {G : Hp → Prop} {f : Addr} {F : CF} {fr : List Str} {ws : List V} (hG : ∀ H, Lkd (ClC F.cl) H → CfH f F fr ws H → G H → G (Rw.thw (ClC F.cl) H)) : ∀ vs H Q E, CfH f F fr ws H → spRaise K T c fld x G vs H Q E → SpIn F.cl H (spRaise K T c fld x G) vs Q E := fun vs H Q E z ⟨e, g, k⟩ =>
  ⟨e, hG H z.cap.lkd z g, fun d H1 gr hd hb => k d _ (Gr.rfz z.cap.lkd gr hb) ((rfz_out (fun y => by rw [hb d y] at hd; cases hd)).trans hd)⟩
/-- what it lets out -/
theorem thrown_of {c fld : Str} {x : V} {H : Hp} {E : XK} (k : ∀ d H1, Gr T [] H H1 → H1 d = some (.xd [(fld, x)]) → E (.ref (He.ga K c)) (some d) H1) : ThrownG K T c fld x E H := fun H' g d hd => k d _ (g.trans (.new hd)) upd_same
/-- _law_met of such a call -/
theorem met_raise {c fld word : Str} {x : V} {G : Hp → Prop} {f : Addr} {Hc : Hp → Prop} {H : Hp} {Q : VK} {E : XK} (F : Fv P w K mg base (L2.CX P w) 10 Hc f 0 (spRaise K T c fld x G)) (hc : Hc H) (hm : (c, fld, word) ∈ metL) (g : G H) (q : ∀ H' p, Gr T [] H H' → H p = none → H' p = some (.tup [.str word, x]) → Q (.ref p) H') : spMet P w K mg base [.ref f] H Q E :=
  ⟨f, Hc, _, (c, fld, word), x, fun d H1 => Gr T [] H H1 ∧ H1 d = some (.xd [(fld, x)]), rfl, F, hc, hm, fun Q' E' k => ⟨rfl, g, fun d H1 gr hd => k d H1 ⟨gr, hd⟩⟩, fun d H1 ⟨gr, hd⟩ => ⟨hd, fun p hp => q _ p (gr.trans (.new hp)) (gr.mono _ hp) upd_same⟩⟩
theorem CapH.frzL {C : Addr → Prop} {h : Heap} {cl : List (Str × Addr)} {fr : List Str} {ws : List V} {H : Hp} (c : CapH cl fr ws H) (l : Loose C h H) : CapH cl fr ws (frzH C h H) :=
  ⟨c.len, c.inj, fun y a e => let ⟨o, φ, v, h1, h2⟩ := c.all y a e; ⟨o, φ, v, l.frz h1, h2⟩, fun i y v e1 e2 => let ⟨a, o, φ, u, h0, h1, h2, h3⟩ := c.has i y v e1 e2; ⟨a, o, φ, u, h0, l.frz h1, h2, h3⟩⟩
theorem CapH.thwA {C : Addr → Prop} {cl : List (Str × Addr)} {fr : List Str} {ws : List V} {H : Hp} (c : CapH cl fr ws H) (n : ∀ b, ClC cl b → ¬ C b) : CapH cl fr ws (Rw.thw C H) :=
  ⟨c.len, c.inj, fun y a e => let ⟨o, φ, v, h1, h2⟩ := c.all y a e; ⟨o, φ, v, (thw_out (n a ⟨y, e⟩)).trans h1, h2⟩, fun i y v e1 e2 => let ⟨a, o, φ, u, h0, h1, h2, h3⟩ := c.has i y v e1 e2; ⟨a, o, φ, u, h0, (thw_out (n a ⟨y, h0⟩)).trans h1, h2, h3⟩⟩
theorem CfH.thwA {C : Addr → Prop} {f : Addr} {F : CF} {fr : List Str} {ws : List V} {H : Hp} (c : CfH f F fr ws H) (l : Lkd C H) (n : ∀ b, ClC F.cl b → ¬ C b) : CfH f F fr ws (Rw.thw C H) :=
  ⟨thw_keep l c.fn (fun _ _ z => by
    have z' : HO.ext _ = HO.frz _ _ := z
    cases z'), thw_keep l c.code (fun _ _ z => code_frz z), c.cap.thwA n⟩
end Rw
set_option maxHeartbeats 4000000
/-! The law's defs: _law_number_refused. -/
namespace Rw
open PySem PySem.Spec PyProof.Rows L2 LamX NdefX
variable {P : Program} {w : World} {K : PySem.W.Frag} {mg : Str → Option Value} {base : Heap} {T : List NTab}
def spRefused (K : PySem.W.Frag) (T : List NTab) : Sp := fun vs H Q _ => ∃ (a : Addr) (ns : List Str) (t : Nat) (x : V), vs = [.ref a, .int t, x] ∧ TabsN T H ∧ PathAt K H a ns ∧ t < 2 ^ 58 ∧ Data H x ∧ (∀ i, x = .int i → i < 0 ∨ (0 ≤ i ∧ nobF ns.length t ≤ i)) ∧ ∀ H', Gr T [] H H' → Q (.bl true) H'
def GRef (K : PySem.W.Frag) (T : List NTab) (a : Addr) (ns : List Str) (x : V) (f0 : Addr) (F0 : CF) : Hp → Prop := fun H => TabsN T H ∧ PathAt K H a ns ∧ Data H x ∧ CfH f0 F0 ["_law_odd"] [x] H
theorem Data.thw {C : Addr → Prop} {H : Hp} {x : V} (h : Data H x) (l : Lkd C H) : Data (Rw.thw C H) x := by
  rcases h with h | ⟨a, e, ⟨xs, h, r⟩ | ⟨kvs, h, r⟩⟩
  · exact .inl h
  · exact .inr ⟨a, e, .inl ⟨xs, h.elim (fun h => .inl (thw_keep l h (fun _ _ z => nomatch z))) fun h => .inr (thw_keep l h (fun _ _ z => nomatch z)), r⟩⟩
  · exact .inr ⟨a, e, .inr ⟨kvs, thw_keep l h (fun _ _ z => nomatch z), r⟩⟩
theorem Data.frz {C : Addr → Prop} {g : Heap} {H : Hp} {x : V} (h : Data H x) (l : Loose C g H) : Data (frzH C g H) x := by
  rcases h with h | ⟨a, e, ⟨xs, h, r⟩ | ⟨kvs, h, r⟩⟩
  · exact .inl h
  · exact .inr ⟨a, e, .inl ⟨xs, h.elim (fun h => .inl (l.frz h)) fun h => .inr (l.frz h), r⟩⟩
  · exact .inr ⟨a, e, .inr ⟨kvs, l.frz h, r⟩⟩
theorem Data.gr {H H' : Hp} {x : V} (h : Data H x) (g : Gr T [] H H') : Data H' x := by
  rcases h with h | ⟨a, e, ⟨xs, h, r⟩ | ⟨kvs, h, r⟩⟩
  · exact .inl h
  · exact .inr ⟨a, e, .inl ⟨xs, h.elim (fun h => .inl (g.lst h (fun z => nomatch z))) fun h => .inr (g.tup h), r⟩⟩
  · exact .inr ⟨a, e, .inr ⟨kvs, g.dK h, r⟩⟩
theorem clo_disj {X : Cx} {σ : L2.St} {H : Hp} {h : Heap} (z : FzOk X σ H h) {n0 n1 : Scope} {fr0 fr1 : List Str} (h0 : ∀ y ∈ n0.names, y.2 = .free → y.1 ∈ fr0) (h1 : ∀ y ∈ n1.names, y.2 = .free → y.1 ∈ fr1) (c0 : ∀ y ∈ n0.names, y.2 = .free → X.env.scope.names.lookup y.1 = some .cell) (c1 : ∀ y ∈ n1.names, y.2 = .free → X.env.scope.names.lookup y.1 = some .cell) (dj : ∀ y ∈ fr0, y ∉ fr1) :
    ∀ b, ClC (cloFrom X.env.cells n0.names []) b → ¬ ClC (cloFrom X.env.cells n1.names []) b := by
  intro b ⟨y0, e0⟩ ⟨y1, e1⟩
  have f0 : ∀ y ∈ n0.names, y.2 = .free → ∃ c, X.env.cells.lookup y.1 = some c := fun y hy e => z.has _ (c0 y hy e)
  have f1 : ∀ y ∈ n1.names, y.2 = .free → ∃ c, X.env.cells.lookup y.1 = some c := fun y hy e => z.has _ (c1 y hy e)
  have e := z.inj y0 y1 b (clo_cm f0 e0) (clo_cm f1 e1)
  rcases cloFrom_mem (PySem.mem_of_lookup e0) with m | ⟨m0, _⟩
  · cases m
  rcases cloFrom_mem (PySem.mem_of_lookup e1) with m | ⟨m1, _⟩
  · cases m
  exact dj y0 (h0 _ m0 rfl) (e ▸ h1 _ m1 rfl)
def rTell (x : V) : List V → Hp → V → Prop := fun vs _ v => ∃ m : Int, vs = [.int m] ∧ v = x
theorem sc104 : FnScope ["_law_path", "_law_total", "_law_odd", "_law_chooser"] ["_law_path", "_law_total", "_law_odd"] (defScope (top 104)) := ⟨rfl, rfl, rfl, by decide +kernel, rfl, by decide +kernel, by decide +kernel⟩
theorem ok_refused (A0 : All P K mg base T) : Gd P w K mg base 12 "_law_number_refused" ["_law_path", "_law_total", "_law_odd"] (spRefused K T) := by
  obtain ⟨M, X, I, Tbl, L, D, N, Y, Z, _⟩ := A0
  refine gd_ofT (M.df "_law_number_refused" 104) sc104 (fun F => F.bindsN fun _ _ _ _ _ _ us hl => match us, hl with | [_, _, _], _ => rfl) (fun vs H Q E h => ?_) fun A outer s H vs Q E hr h => ⟨_, (pss_cons (ps_ndefF (i := 3) (T := T) (Tbl.t "_law_number_refused") rfl (Tbl.m "_law_number_refused") (by kernel_rfl) Tbl.u (ndef_free (fr := ["_law_odd"]) (by kernel_rfl)) rfl rfl rfl sc104.nd rfl (Or.inr rfl) (Or.inl rfl)) (pss_one (ps_ret (pe_gd (ok_same (T := T) M I D N 4) hr (by decide) rfl passL (pa_cons (pe_gdZ (fun _ => rfl) (ok_met M X Y) hr (by decide) rfl passL (pa_cons (pe_lam (T := T) (Tbl.t "_law_number_refused") rfl (Tbl.m "_law_number_refused") (by kernel_rfl) Tbl.u (ndef_free (fr := ["_law_chooser", "_law_path", "_law_total"]) (by kernel_rfl)) rfl) pa_nil)) (pa_cons (pe_tup (pa_cons pe_str (pa_cons (pv 2) pa_nil))) pa_nil)))))), ?_⟩
  · obtain ⟨a, ns, t, x, rfl, _⟩ := h
    rfl
  · obtain ⟨a, ns, t, x, rfl, hT, pa, ht, dx, hx, q⟩ := h
    refine ⟨hT, fun f0 c0 H1 g1 hf0 f0' fc0 => ?_⟩
    refine with_F f0' fun F0 hF0 f0' => ?_
    refine ⟨g1.tab hT, fun f1 c1 H2 g2 hf1 f1' fc1 => ?_⟩
    refine with_F f1' fun F1 hF1 f1' => ?_
    intro hp z
    have bad : ∀ H', Data H' x → BadN P w K T (nobF ns.length t) x H' := fun H' d => by
      by_cases e : ∃ i, x = .int i ∧ 0 ≤ i
      · obtain ⟨i, rfl, h0⟩ := e
        rcases hx i rfl with h | ⟨_, h⟩
        · omega
        · exact .inr ⟨i, rfl, h0, h⟩
      · exact .inl (d.notNum fun i hi => by
          rcases Int.lt_or_le i 0 with h | h
          · exact h
          · exact absurd ⟨i, hi, h⟩ e)
    have dj : ∀ b, ClC F0.cl b → ¬ ClC F1.cl b := by
      subst hF0 hF1
      exact clo_disj z (fr0 := ["_law_odd"]) (fr1 := ["_law_chooser", "_law_path", "_law_total"]) (nscope_by (N := ["_law_many", "_law_odd"]) (ps := ["_law_many"]) (by kernel_rfl)).free (nscope_by (N := ["_law_chooser", "_law_path", "_law_total"]) (ps := []) (by kernel_rfl)).free (free_cell (by kernel_rfl)) (free_cell (by kernel_rfl)) (by decide)
    have fv0 : Fv P w K mg base (L2.CX P w) 2 (CfH f0 F0 ["_law_odd"] [x]) f0 1 (spPure (rTell x)) := by
      subst hF0
      refine (fv_stmts (k := 0) (N := ["_law_many", "_law_odd"]) (ps := ["_law_many"]) (spb := spPure (rTell x)) rfl (nscope_by (by kernel_rfl)) (fun _ _ _ us hl => match us, hl with | [_], _ => rfl) (fun vs H Q E h => ?_) (fun vs H Q E c h => link_pure (fun v h => h) h) fun A outer s H vs Q E hr hl h => ⟨_, pss_one (ps_ret (pv 1)), ?_⟩).mono (by decide)
      · obtain ⟨v, ⟨m, rfl, _⟩, _⟩ := h
        rfl
      · obtain ⟨v, ⟨m, rfl, rfl⟩, q⟩ := h
        exact ⟨_, rfl, q⟩
    have fv1 : Fv P w K mg base (L2.CX P w) 10 (CfH f1 F1 ["_law_chooser", "_law_path", "_law_total"] [.ref f0, .ref a, .int t]) f1 0 (spRaise K T "BadNumber" "number" x (GRef K T a ns x f0 F0)) := by
      subst hF1
      refine fv_expr (k := 9) (N := ["_law_chooser", "_law_path", "_law_total"]) (ps := []) (spb := spRaise K T "BadNumber" "number" x (GRef K T a ns x f0 F0)) rfl (nscope_by (by kernel_rfl)) (fun _ _ _ us hl => match us, hl with | [], _ => rfl) raise_len (raise_link fun H l c ⟨g1, g2, g3, g4⟩ => ⟨tabsN_thw l g1, g2.thw l, g3.thw l, g4.thwA l dj⟩) (fun A outer s H vs Q E hr hl h => ⟨_, (pe_gd (ok_drawn_stand (T := T) M X I Tbl) hr (by decide) rfl (passes_call (takes_of rfl rfl rfl rfl) fun _ _ _ _ z => z) (pa_cons (pv 1) (pa_cons (pv 2) (pa_cons (pv 0) pa_nil)))), ?_⟩)
      obtain ⟨rfl, ⟨hT, pa, dx, c0⟩, k⟩ := h
      refine ⟨_, rfl, _, rfl, _, rfl, .ref a, .int t, .ref f0, rfl, .inr ⟨a, ns, rfl, pa, .inr ⟨t, rfl, ht, .inr ⟨f0, _, _, rfl, hT, ty_cfo c0.fn, fv0, fun H' g => ⟨c0.gr g, fun v H1 => v = x ∧ H1 = H', fun Q' hq => ⟨x, ⟨_, rfl, rfl⟩, hq _ _ ⟨rfl, rfl⟩⟩, fun v H1 e => ?_⟩⟩⟩⟩⟩
      obtain ⟨rfl, rfl⟩ := e
      exact .inr ⟨bad _ (dx.gr g), fun d hd => k d _ (g.trans (.new hd)) upd_same⟩
    refine met_raise (T := T) (c := "BadNumber") (fld := "number") (word := "number") (x := x) fv1 ?_ (by decide) ?_ fun H3 p g3 hp0 hp3 => ?_
    · subst hF1
      exact ⟨z.loose.frz f1', z.loose.frz fc1, cap_frz (js := [3, 0, 1]) z (by kernel_rfl) (free_cell (by kernel_rfl)) rfl rfl⟩
    · refine ⟨tabsN_frz z.loose (g2.tab (g1.tab hT)), ((pa.gr g1).gr g2).frz z.loose, ((dx.gr g1).gr g2).frz z.loose, ?_⟩
      subst hF0
      exact ⟨z.loose.frz (g2.cfo f0'), z.loose.frz (g2.code fc0), cap_frz (js := [2]) z (by kernel_rfl) (free_cell (by kernel_rfl)) rfl rfl⟩
    · have g4 : Gr T [] H2 (Rw.thw (CellOf _) H3) := Gr.thw z.loose g3
      have l3 : Lkd (CellOf _) H3 := fun b c => by
        obtain ⟨o, φ, e⟩ := z.loose.lkd b c
        exact ⟨o, φ, g3.frz e⟩
      have hp4 := thw_keep l3 hp3 (fun _ _ z => nomatch z)
      have d4 := ((dx.gr g1).gr g2).gr g4
      dsimp only
      generalize Rw.thw (CellOf _) H3 = H4 at g4 hp4 d4 ⊢
      refine ⟨_, rfl, szl, fun p2 hp2 => ⟨_, _, rfl, ?_, fun H5 g5 => q _ (((g1.trans g2).trans g4).trans ((Gr.new hp2).trans g5))⟩⟩
      have g6 : Gr T [] H4 (upd H4 p2 (.tup [.str "number", x])) := .new hp2
      refine .inr (.inl ⟨p, p2, [.str "number", x], [.str "number", x], rfl, rfl, .inr ⟨g6.tup hp4, upd_same⟩, rfl, (show (2 : Nat) ≤ 1000 by decide), fun i u v e1 e2 => ?_⟩)
      rw [e1] at e2
      cases e2
      rcases List.mem_cons.mp (List.mem_of_getElem? e1) with h | h
      · rw [h]
        exact Sm.flat rfl
      · rw [List.mem_singleton.mp h]
        exact ((d4.gr g6).thing).same (n := 0) M I D Y N Z
end Rw
set_option maxHeartbeats 4000000
/-! The law's defs: _law_cannot, _law_comes_out. -/
namespace Rw
open PySem PySem.Spec PyProof.Rows L2 LamX NdefX
variable {P : Program} {w : World} {K : PySem.W.Frag} {mg : Str → Option Value} {base : Heap} {T : List NTab}
theorem pe_gdV {X : Cx} {k j : Nat} {x : Str} {ps : List Str} {sp : Sp} {E : XK} {p pos : Pos} {e : Expr} {es : List Expr} {t : TA} (hP : X.prog = P) (hw : X.w = w) (hK : X.K = K) (hmg : X.mg = mg) (hbase : X.base = base) (G : Gd P w K mg base k x ps sp) (hr : Room j X.A) (hk : k ≤ j) (hg : Gl X x) (hx : Passes (L2.CX X.prog X.w) X E) (ha : PA X (e :: es) t) (hdb : (x == ("__debug__" : Str)) = false := by decide)
    (he : starEach (e :: es) X.env = (false, eval e X.env) :: starEach es X.env := by rfl) (hpl : (backTo pos (starEach es X.env)).any (·.1) = false := by rfl) : PE X (.Call (.Name x p) (e :: es) [] pos) (tCall sp [] E t) := by
  subst hP hw hK hmg hbase
  exact pe_gd G hr hk hg hx ha hdb he hpl
def spCannot : Sp := fun vs H _ E => ∃ m : Int, vs = [.int m] ∧ ∀ d, E (.type "KeyError") d H
theorem sc102 : FnScope ["_law_many"] ["_law_many"] (defScope (top 102)) := ⟨rfl, rfl, rfl, by decide +kernel, rfl, by decide +kernel, by decide +kernel⟩
theorem ok_cannot (M : Mo K mg) : Gd P w K mg base 1 "_law_cannot" ["_law_many"] spCannot := by
  refine gd_of (M.df "_law_cannot" 102) sc102 (fun F => F.bindsN fun _ _ _ _ _ _ us hl => match us, hl with | [_], _ => rfl) (fun vs H Q E h => ?_) fun cdv A outer s H vs Q E hr h => ⟨_, (pss_one (ps_raise rfl (takes_of rfl rfl rfl rfl) (pmk_exc PyProof.Rows.excClass_KeyError (by kernel_rfl) rfl (M.fr "KeyError") (by decide +kernel) (pa_cons pe_str pa_nil)))), ?_⟩
  · obtain ⟨m, rfl, _⟩ := h
    rfl
  · obtain ⟨m, rfl, q⟩ := h
    exact ⟨szl, q⟩
def spComes (K : PySem.W.Frag) (T : List NTab) : Sp := fun vs H Q _ => ∃ (a : Addr) (ns : List Str) (t : Nat), vs = [.ref a, .int t] ∧ TabsN T H ∧ PathAt K H a ns ∧ t < 2 ^ 58 ∧ ∀ H', Gr T [] H H' → Q (.bl true) H'
theorem sc103 : FnScope ["_law_path", "_law_total"] ["_law_path", "_law_total"] (defScope (top 103)) := ⟨rfl, rfl, rfl, by decide +kernel, rfl, by decide +kernel, by decide +kernel⟩
theorem ok_comes (A0 : All P K mg base T) : Gd P w K mg base 10 "_law_comes_out" ["_law_path", "_law_total"] (spComes K T) := by
  obtain ⟨M, X, I, Tbl, L, D, N, Y, Z, fty⟩ := A0
  refine gd_of (M.df "_law_comes_out" 103) sc103 (fun F => F.bindsN fun _ _ _ _ _ _ us hl => match us, hl with | [_, _], _ => rfl) (fun vs H Q E h => ?_) fun cdv A outer s H vs Q E hr h => ⟨_, (pss_cons (ps_try_only (c := .type "KeyError") rfl rfl ⟨rfl, by decide, .inr ⟨M.fr "KeyError", by decide +kernel, by decide⟩⟩ (takes_of rfl rfl rfl rfl) (fun W pn xe tk po => pss_one (ps_expr (pe_gdV (P := P) (w := w) (K := K) (mg := mg) (base := base) rfl rfl rfl rfl rfl (ok_drawn_stand (T := T) M X I Tbl) hr (by decide) rfl (passes_len 2 tk) (pa_cons (pv 0) (pa_cons (pv 1) (pa_cons (pe_glob (v := .ref (He.ga K "_law_cannot")) rfl (M.gl "_law_cannot") rfl) pa_nil)))))) (fun a oe cls d pn hz hf => pss_one (ps_ret pe_bl))) (pss_one (ps_ret pe_bl))), ?_⟩
  · obtain ⟨a, ns, t, rfl, _⟩ := h
    rfl
  · obtain ⟨a, ns, t, rfl, hT, pa, ht, q⟩ := h
    refine ⟨_, rfl, _, rfl, .ref a, .int t, _, rfl, .inr ⟨a, ns, rfl, pa, .inr ⟨t, rfl, ht, .inr ⟨_, _, _, rfl, hT, ty_glo (fty _ (by decide)), ((ok_cannot M).fv).mono (by decide), fun H' g => ⟨True.intro, fun _ _ => False, fun Q' _ => ⟨_, rfl, fun d σ hσ => ?_⟩, fun _ _ h => h.elim⟩⟩⟩⟩⟩
    exact ⟨true, by kernel_rfl, fun _ a ha => q H' g, fun z => nomatch z⟩
end Rw
set_option maxHeartbeats 4000000
/-! The law's defs: _law_drawn_by. -/
namespace Rw
open PySem PySem.Spec PyProof.Rows L2 LamX NdefX
variable {P : Program} {w : World} {K : PySem.W.Frag} {mg : Str → Option Value} {base : Heap} {T : List NTab}
/-- a closure of the frame's own cells, while these are locked -/
theorem fz_cfh {X : Cx} {σ : L2.St} {H : Hp} {h : Heap} {nsc : Scope} {fr : List Str} {js : List Nat} {ws : List V} {f : Addr} {F : CF} (z : FzOk X σ H h) (hF : F.cl = cloFrom X.env.cells nsc.names []) (h0 : H f = some (CFO f F)) (hc0 : H F.c = some (CodeO F.c F.qual)) (hd : ndefB X.env.scope nsc fr = true)
    (hc : ∀ y ∈ nsc.names, y.2 = .free → X.env.scope.names.lookup y.1 = some .cell) (hjs : js.map (fun j => X.N[j]?) = fr.map some) (hws : js.map (fun j => σ[j]?) = ws.map fun v => some (some v)) : CfH f F fr ws (frzH (CellOf X) h H) :=
  ⟨z.loose.frz h0, z.loose.frz hc0, by rw [hF]; exact cap_frz z hd hc hjs hws⟩
def spDrawnBy (K : PySem.W.Frag) (T : List NTab) : Sp := fun vs H Q _ => ∃ (a : Addr) (ns : List Str) (t : Nat) (k : Int), vs = [.ref a, .int t, .int k] ∧ TabsN T H ∧ PathAt K H a ns ∧ t < 2 ^ 58 ∧ 0 ≤ k ∧ k < nobF ns.length t ∧
  ∀ H' p, Gr T [] H H' → H p = none → H' p = some (.tup ((ns.map (resN ns t k)).map V.int)) → Q (.ref p) H'
theorem sc106 : FnScope ["_law_path", "_law_total", "_law_number", "_law_chooser"] ["_law_path", "_law_total", "_law_number"] (defScope (top 106)) := ⟨rfl, rfl, rfl, by decide +kernel, rfl, by decide +kernel, by decide +kernel⟩
theorem ok_drawn_by (A0 : All P K mg base T) : Gd P w K mg base 10 "_law_drawn_by" ["_law_path", "_law_total", "_law_number"] (spDrawnBy K T) := by
  obtain ⟨M, X, I, Tbl, L, D, N, Y, Z, fty⟩ := A0
  refine gd_ofT (M.df "_law_drawn_by" 106) sc106 (fun F => F.bindsN fun _ _ _ _ _ _ us hl => match us, hl with | [_, _, _], _ => rfl) (fun vs H Q E h => ?_) fun A outer s H vs Q E hr h => ⟨_, (pss_cons (ps_ndefF (i := 3) (T := T) (Tbl.t "_law_drawn_by") rfl (Tbl.m "_law_drawn_by") (by kernel_rfl) Tbl.u (ndef_free (fr := ["_law_number"]) (by kernel_rfl)) rfl rfl rfl sc106.nd rfl (Or.inl rfl) (Or.inl rfl)) (pss_one (ps_ret (pe_tupVals rfl (pe_gdZ (fun _ => rfl) (ok_drawn_stand (T := T) M X I Tbl) hr (by decide) rfl passL (pa_cons (pv 0) (pa_cons (pv 1) (pa_cons (pv 3) pa_nil)))) rfl (M.fr "tuple") (by decide +kernel))))), ?_⟩
  · obtain ⟨a, ns, t, k, rfl, _⟩ := h
    rfl
  · obtain ⟨a, ns, t, k, rfl, hT, pa, ht, k0, k1, q⟩ := h
    refine ⟨hT, fun f0 c0 H1 g1 hf0 f0' fc0 => ?_⟩
    refine with_F f0' fun F0 hF0 f0' => ?_
    have fv0 : Fv P w K mg base (L2.CX P w) 2 (CfH f0 F0 ["_law_number"] [.int k]) f0 1 (spPure (rTell (.int k))) := by
      subst hF0
      refine (fv_stmts (k := 0) (N := ["_law_some", "_law_number"]) (ps := ["_law_some"]) (spb := spPure (rTell (.int k))) rfl (nscope_by (by kernel_rfl)) (fun _ _ _ us hl => match us, hl with | [_], _ => rfl) (fun vs H Q E h => ?_) (fun vs H Q E c h => link_pure (fun v h => h) h) fun A outer s H vs Q E hr hl h => ⟨_, pss_one (ps_ret (pv 1)), ?_⟩).mono (by decide)
      · obtain ⟨v, ⟨m, rfl, _⟩, _⟩ := h
        rfl
      · obtain ⟨v, ⟨m, rfl, rfl⟩, q⟩ := h
        exact ⟨_, rfl, q⟩
    refine ⟨_, rfl, _, rfl, _, rfl, fun hp z => ?_⟩
    have c0f := fz_cfh (F := F0) (fr := ["_law_number"]) (ws := [.int k]) (js := [2]) z (by rw [hF0]) f0' (by rw [hF0]; exact fc0) (by kernel_rfl) (free_cell (by kernel_rfl)) rfl rfl
    refine ⟨.ref a, .int t, .ref f0, rfl, .inr ⟨a, ns, rfl, (pa.gr g1).frz z.loose, .inr ⟨t, rfl, ht, .inr ⟨f0, _, _, rfl, tabsN_frz z.loose (g1.tab hT), ty_cfo c0f.fn, fv0, fun H' g => ⟨c0f.gr g, fun v H1 => v = .int k ∧ H1 = H', fun Q' hq => ⟨.int k, ⟨_, rfl, rfl⟩, hq _ _ ⟨rfl, rfl⟩⟩, fun v H2 e => ?_⟩⟩⟩⟩⟩
    obtain ⟨rfl, rfl⟩ := e
    refine .inl ⟨k, [], rfl, k0, k1, .refl _, fun H3 p g3 hp0 hp3 => ?_⟩
    have g4 := Gr.thw z.loose (g.trans g3)
    have l3 : Lkd (CellOf _) H3 := fun b c => by
      obtain ⟨o, φ, e⟩ := z.loose.lkd b c
      exact ⟨o, φ, (g.trans g3).frz e⟩
    refine ⟨p, _, rfl, thw_keep l3 hp3 (fun _ _ z => nomatch z), fun p2 hp2 => ?_⟩
    refine q _ p2 ((g1.trans g4).trans (.new hp2)) (g1.mono _ (g4.mono _ hp2)) ?_
    rw [upd_same, vsOf_dz]
end Rw
set_option maxHeartbeats 4000000
/-! drawn_stand by keywords. -/
namespace Rw
open PySem PySem.Spec PyProof.Rows L2 LamX NdefX
variable {P : Program} {w : World} {K : PySem.W.Frag} {mg : Str → Option Value} {base : Heap} {T : List NTab}
theorem gdx_of {k : Nat} {x : Str} {st : Stmt} {N ps : List Str} {sp : Sp} (F : Df K mg x st) (S : FnScope N ps (defScope st)) (len : ∀ vs H Q E, sp vs H Q E → vs.length = ps.length)
    (hbody : ∀ (cdv : Value) (A : Around) (outer : List Env) (s : Shared) (H : Hp) (vs : List V) (Q : VK) (E : XK), Room k (A.deeper (envOfC x (defScope st) s.heap.objs.size (He.ga K x) cdv)) → sp vs H Q E →
      ∃ t, PSs (cxOf (L2.CX P w) P w K mg base N x (defScope st) (He.ga K x) cdv A outer s H E) (defBody st) t ∧ t { nx := fun _ H' => Q .non H', rt := Q } (start N vs) H) : ∃ fd, FunD K x x (defArgs st) (defBody st) (defScope st) [] [] (He.ga K x) fd ∧ FnOk P w K mg base (L2.CX P w) (k + 1) (He.ga K x) fd ps sp :=
  let ⟨_, fd, F⟩ := F
  ⟨fd, F, F.ok S len hbody⟩
theorem fn_drawn (M : Mo K mg) (X : Me P K mg) (I : Is K) (Tbl : Tb K mg base T) : ∃ fd, FunD K "drawn_stand" "drawn_stand" (defArgs (top 85)) (defBody (top 85)) (defScope (top 85)) [] [] (He.ga K "drawn_stand") fd ∧ FnOk P w K mg base (L2.CX P w) 9 (He.ga K "drawn_stand") fd ["path", "total", "chooser"] (spDrawn P w K mg base T) := by
  refine gdx_of (M.df "drawn_stand" 85) sc85 (fun vs H Q E h => ?_) fun cdv A outer s H vs Q E hr h => ⟨_, (pss_cons (ps_expr (pe_gd (ok_check_total (T := T) M X I) hr (by decide) rfl (passes_call (takes_of rfl rfl rfl rfl) fun _ _ _ _ z => z) (pa_cons (pv 0) (pa_cons (pv 1) pa_nil)))) (pss_cons (ps_expr (pe_gd (ok_check_chooser (T := T) M X) hr (by decide) rfl (passes_call (takes_of rfl rfl rfl rfl) fun _ _ _ _ z => z) (pa_cons (pv 2) pa_nil))) (pss_one (ps_ret (pe_gd (ok_stand_at M X I Tbl) hr (by decide) rfl (passes_call (takes_of rfl rfl rfl rfl) fun _ _ _ _ z => z) (pa_cons (pv 0) (pa_cons (pv 1) (pa_cons (pe_gd (ok_chosen (T := T) M X) hr (by decide) rfl (passes_call (takes_of rfl rfl rfl rfl) fun _ _ _ _ z => z) (pa_cons (pv 2) (pa_cons (pe_gd (ok_nobody M) hr (by decide) rfl (passes_call (takes_of rfl rfl rfl rfl) fun _ _ _ _ z => z) (pa_cons (pe_fld (pv 0) rfl) (pa_cons (pv 1) pa_nil))) pa_nil))) pa_nil)))))))), ?_⟩
  · obtain ⟨x, y, z, rfl, _⟩ := h
    rfl
  · obtain ⟨x, y, z, rfl, h⟩ := h
    rcases h with ⟨b, q⟩ | ⟨a, ns, rfl, pa, h⟩
    · exact ⟨_, rfl, _, rfl, _, _, rfl, .inl ⟨b, q.now⟩⟩
    rcases h with ⟨b, q⟩ | ⟨t, rfl, ht, h⟩
    · exact ⟨_, rfl, _, rfl, _, _, rfl, .inr ⟨a, ns, rfl, pa, .inr ⟨b, q.now⟩⟩⟩
    have t0 : (0 : Int) ≤ t := by omega
    rcases h with ⟨b, q⟩ | ⟨f, Hc, sp, rfl, hT, ty, fv, q⟩
    · exact ⟨_, rfl, _, rfl, _, _, rfl, .inr ⟨a, ns, rfl, pa, .inl ⟨t, rfl, t0, _, rfl, _, rfl, .inl ⟨b, q⟩⟩⟩⟩
    refine ⟨_, rfl, _, rfl, _, _, rfl, .inr ⟨a, ns, rfl, pa, .inl ⟨t, rfl, t0, _, rfl, _, rfl, .inr ⟨(fun z => nomatch z), _, ty, I.cfn, fun H' g => ?_⟩⟩⟩⟩
    obtain ⟨hc, C, tells, q⟩ := q H' g
    have pa1 := pa.gr g
    obtain ⟨dx, fs, tn, h1, h2, h3, htn⟩ := pa1.ex
    have le := pa.le
    refine ⟨_, rfl, _, rfl, _, rfl, _, rfl, a, _, dx, fs, _, rfl, h1, M.pcls, M.pmany, h3, _, rfl, _, _, rfl, ⟨by omega, by omega, by omega, by omega⟩, f, _, Hc, sp, C, rfl, fv, hc, tells, fun v H1 c => ?_⟩
    rcases q v H1 c with ⟨n, B, rfl, n0, nm, g1, q⟩ | ⟨bad, q⟩
    · refine .inl ⟨n, rfl, n0, nm, ?_⟩
      exact ⟨a, ns, t, n, rfl, g1.tab (g.tab hT), pa1.gr g1, ht, n0, nm, q⟩
    · exact .inr ⟨bad, q⟩
/-- f(k = v, ..) -/
theorem pe_callK0 {X : Cx} {CX : CXT} {k : Nat} {f : Addr} {fd : FuncData} {ps ks : List Str} {sp : Sp} {E : XK} {x : Str} {p pos : Pos} {kws : List Keyword} {tk : TA} {g : List Value → List Value → List Value} {gV : List V → List V → List V} (F : FnOk X.prog X.w X.K X.mg X.base CX k f fd ps sp) (hr : Room k X.A) (hg : Gl X x) (hm : X.mg x = some (.ref f)) (hk : PySem.W.keepIn X.K (.ref f) = true) (hb : KBinds X.K fd ps ks g gV) (hx : Passes CX X E)
    (hkw : PK X kws tk) (hall : (backToKw pos (keywordEach kws X.env)).all (·.1.isSome) = true := by rfl) (hks : (backToKw pos (keywordEach kws X.env)).filterMap (·.1) = ks := by rfl)
    (hdb : (x == ("__debug__" : Str)) = false := by decide) (hpl : ((backTo pos (starEach [] X.env)).any (·.1) || (backToKw pos (keywordEach kws X.env)).any (·.1.isNone)) = false := by rfl) :
    PE X (.Call (.Name x p) [] kws pos) (tCallK sp gV E tNil tk) := by
  refine ⟨fun pins s σ H Q I h => ?_⟩
  refine wpAny_Call_Name_kw (ld_glob I hg hm ?_ hdb)
  refine PySem.W.callWith_KW0 (h₀ := X.base) I.ok.mod.kin hk hall (thn (hkw.run pos pins s σ H _ I h) fun ws s2 ⟨zs, H2, I2, rz, q2⟩ => ⟨I2.kIn, ?_⟩) hpl
  rw [hks]
  exact run_fnk (us := []) (vs := []) F hr hb hx I2 .nil rz q2
/-- the keywords chooser, total, path -/
def turn3 {α : Type} : List α → List α → List α
  | [], [c, t, p] => [p, t, c]
  | _, _ => []
theorem turn3_len {α : Type} : ∀ {us ws : List α}, (turn3 us ws).length = 3 → us = [] ∧ ∃ c t p, ws = [c, t, p]
  | [], [c, t, p], _ => ⟨rfl, c, t, p, rfl⟩
  | [], [], h => by cases h
  | [], [_], h => by cases h
  | [], [_, _], h => by cases h
  | [], _ :: _ :: _ :: _ :: _, h => by cases h
  | _ :: _, _, h => by cases h
theorem turn3_rel : ∀ {vs : List V} {us : List Value} {zs : List V} {ws : List Value}, Vals vs us → Vals zs ws → Vals (turn3 vs zs) (turn3 us ws)
  | [], _, zs, ws, .nil, r2 => by
    match zs, ws, r2 with
    | [], [], .nil => exact .nil
    | [_], [_], .cons _ .nil => exact .nil
    | [_, _], [_, _], .cons _ (.cons _ .nil) => exact .nil
    | [_, _, _], [_, _, _], .cons a (.cons b (.cons c .nil)) => exact .cons c (.cons b (.cons a .nil))
    | _ :: _ :: _ :: _ :: _, _ :: _ :: _ :: _ :: _, .cons _ (.cons _ (.cons _ (.cons _ _))) => exact .nil
  | _ :: _, _ :: _, _, _, .cons _ _, _ => .nil
theorem kb_drawn {fd : FuncData} (F : FunD K "drawn_stand" "drawn_stand" (defArgs (top 85)) (defBody (top 85)) (defScope (top 85)) [] [] (He.ga K "drawn_stand") fd) : KBinds K fd ["path", "total", "chooser"] ["chooser", "total", "path"] turn3 turn3 := by
  obtain ⟨oc, od, dV, kV, doc, pm, an, cdv, ct, osl, rfl, lk, hcd, hD, hK⟩ := F.ex
  rcases hD with ⟨_, rfl⟩ | ⟨e, _⟩
  · refine ⟨fun s us ws _ hl => ?_, fun r1 r2 => turn3_rel r1 r2⟩
    obtain ⟨rfl, c, t, p, rfl⟩ := turn3_len hl
    exact BindsTo.of_eq rfl
  · exact absurd rfl e
end Rw
set_option maxHeartbeats 4000000
/-! The law's defs: _law_drawn_right. -/
namespace Rw
open PySem PySem.Spec PyProof.Rows L2 LamX NdefX
variable {P : Program} {w : World} {K : PySem.W.Frag} {mg : Str → Option Value} {base : Heap} {T : List NTab}
/-- a further list that was not there at the start may change -/
theorem Gr.via {B : List Addr} {l : Addr} {H H1 H2 : Hp} (a : Gr T B H H1) (b : Gr T [l] H1 H2) (h : H l = none) : Gr T B H H2 :=
  ⟨fun c o n e t => b.ext c o (fun z => by rw [List.mem_singleton.mp z, h] at e; cases e) (a.ext c o n e t) t, fun c e => a.mono c (b.mono c e), fun t => b.tab (a.tab t)⟩
/-- a chooser that notes what it is asked and tells k -/
def spAsk (l : Addr) (k : Int) : Sp := fun vs H Q _ => ∃ (m : Int) (xs : List V), vs = [.int m] ∧ H l = some (.lst xs) ∧ xs.length ≤ 100 ∧ Q (.int k) (upd H l (.lst (xs ++ [.int m])))
theorem ask_link {l : Addr} {k : Int} {f : Addr} {F : CF} {fr : List Str} {ws : List V} : ∀ vs H Q E, CfH f F fr ws H → spAsk l k vs H Q E → SpIn F.cl H (spAsk l k) vs Q E := fun vs H Q E c ⟨m, xs, e, hl, hx, q⟩ => by
  have nl : ¬ ClC F.cl l := c.cap.lkd.not hl (fun _ _ z => nomatch z)
  refine ⟨m, xs, e, (thw_out nl).trans hl, hx, fun _ => ?_⟩
  have e2 : Rw.rfz (ClC F.cl) H (upd (Rw.thw (ClC F.cl) H) l (.lst (xs ++ [.int m]))) = upd H l (.lst (xs ++ [.int m])) := by
    funext b
    by_cases cb : ClC F.cl b
    · rw [rfz_in cb, upd_ne (fun z => nl (by rw [← z]; exact cb))]
    · rw [rfz_out cb]
      by_cases hb : b = l
      · rw [hb, upd_same, upd_same]
      · rw [upd_ne hb, upd_ne hb, thw_out cb]
  rw [e2]
  exact q
theorem frz_none {C : Addr → Prop} {h : Heap} {H : Hp} {b : Addr} (l : Loose C h H) (e : frzH C h H b = none) : H b = none := by
  by_cases c : C b
  · exact (l b c).1
  · exact (frz_out c).symm.trans e
theorem StrmAt.via {n : Nat} {st big l : Addr} {H H' : Hp} (s : StrmAt n st big H) (g : Gr T [l] H H') (h : l ∉ [st, big]) : StrmAt n st big H' :=
  let ⟨ne, xs, m, c, d, h1, h2, r⟩ := s
  ⟨ne, xs, m, c, d, g.lst h1 (fun z => h (by rw [← List.mem_singleton.mp z]; simp)), g.lst h2 (fun z => h (by rw [← List.mem_singleton.mp z]; simp)), r⟩
/-- two stands alike -/
theorem same_dz {H : Hp} {p q : Addr} {ns : List Str} {f : Str → Int} {n : Nat} (h1 : H p = some (.dK (dz ns f))) (h2 : H q = some (.dK (dz ns f))) (hl : ns.length ≤ 1000) : Sm P w K T (n + 3) H (.ref p) (.ref q) :=
  .inr (.inr ⟨p, q, _, rfl, rfl, h1, h2, by rw [dz_len]; exact hl, by omega, fun x hx => by
    obtain ⟨y, _, rfl⟩ := List.mem_map.mp hx
    rfl⟩)
theorem same_two {H : Hp} {a b : Addr} {x1 x2 y1 y2 : V} {n : Nat} (h1 : H a = some (.lst [x1, x2])) (h2 : H b = some (.lst [y1, y2])) (e1 : Sm P w K T n H x1 y1) (e2 : Sm P w K T n H x2 y2) : Sm P w K T (n + 1) H (.ref a) (.ref b) := by
  refine .inr (.inl ⟨a, b, _, _, rfl, rfl, .inl ⟨h1, h2⟩, rfl, (show (2 : Nat) ≤ 1000 by decide), fun i u v q1 q2 => ?_⟩)
  match i, q1, q2 with
  | 0, q1, q2 =>
    cases q1
    cases q2
    exact e1
  | 1, q1, q2 =>
    cases q1
    cases q2
    exact e2
def spRight (K : PySem.W.Frag) (T : List NTab) : Sp := fun vs H Q _ => ∃ (st big a : Addr) (n : Nat) (ns : List Str) (t : Nat), vs = [.ref st, .ref a, .int t] ∧ TabsN T H ∧ StrmAt (n + 1) st big H ∧ PathAt K H a ns ∧ t < 2 ^ 58 ∧ ∀ H', Gr T [st, big] H H' → StrmAt n st big H' → Q (.bl true) H'
/-- drawn_stand by a chooser that is known -/
theorem drawn_known {a f : Addr} {ns : List Str} {t : Nat} {k : Int} {H : Hp} {Q : VK} {E : XK} {sp : Sp} (pa : PathAt K H a ns) (hT : TabsN T H) (ht : t < 2 ^ 58) (ty : Ty P w K T H (.ref f) (.type "function")) (fv : Fv P w K mg base (L2.CX P w) 2 (fun _ => True) f 1 sp) (tells : ∀ H', Tells sp [.int (nobF ns.length t)] H' E fun v H1 => v = .int k ∧ H1 = H') (k0 : 0 ≤ k) (k1 : k < nobF ns.length t)
    (q : ∀ H2 p, Gr T [] H H2 → H p = none → H2 p = some (.dK (dz ns (resN ns t k))) → Q (.ref p) H2) : spDrawn P w K mg base T [.ref a, .int t, .ref f] H Q E := by
  refine ⟨.ref a, .int t, .ref f, rfl, .inr ⟨a, ns, rfl, pa, .inr ⟨t, rfl, ht, .inr ⟨f, _, sp, rfl, hT, ty, fv, fun H' g => ⟨True.intro, _, tells H', fun v H1 e => ?_⟩⟩⟩⟩⟩
  obtain ⟨rfl, rfl⟩ := e
  exact .inl ⟨k, [], rfl, k0, k1, .refl _, fun H2 p g2 hp0 hp2 => q H2 p (g.trans g2) (g.mono _ hp0) hp2⟩
def oddL (q0 d0 : Addr) (m : Int) : List V := [.non, .int (-1), .bl true, .str "0", .ref q0, .int m, .int (m + 5), .ref d0]
theorem odd_ok {H : Hp} {q0 d0 : Addr} {m : Int} (h1 : H q0 = some (.lst [.int 0])) (h2 : H d0 = some (.dK [])) (hm : 1 ≤ m) : ∀ v ∈ oddL q0 d0 m, Data H v ∧ ∀ i, v = .int i → i < 0 ∨ (0 ≤ i ∧ m ≤ i) := by
  intro v hv
  have hv' : v = .non ∨ v = .int (-1) ∨ v = .bl true ∨ v = .str "0" ∨ v = .ref q0 ∨ v = .int m ∨ v = .int (m + 5) ∨ v = .ref d0 := by simpa [oddL] using hv
  rcases hv' with rfl | rfl | rfl | rfl | rfl | rfl | rfl | rfl
  · exact ⟨.inl rfl, fun i z => nomatch z⟩
  · exact ⟨.inl rfl, fun i z => by cases z; exact .inl (by decide)⟩
  · exact ⟨.inl rfl, fun i z => nomatch z⟩
  · exact ⟨.inl rfl, fun i z => nomatch z⟩
  · exact ⟨.inr ⟨_, rfl, .inl ⟨_, .inl h1, by decide, rfl⟩⟩, fun i z => nomatch z⟩
  · exact ⟨.inl rfl, fun i z => by cases z; exact .inr ⟨by omega, Int.le_refl _⟩⟩
  · exact ⟨.inl rfl, fun i z => by cases z; exact .inr ⟨by omega, by omega⟩⟩
  · exact ⟨.inr ⟨_, rfl, .inr ⟨_, h2, by decide, fun p hp => nomatch hp⟩⟩, fun i z => nomatch z⟩
theorem sc105 : FnScope ["_law_stream", "_law_path", "_law_total", "_law_many", "_law_chooser", "_law_told", "_law_found", "_law_odd", "_law_asked", "_law_number"] ["_law_stream", "_law_path", "_law_total"] (defScope (top 105)) := ⟨rfl, rfl, rfl, by decide +kernel, rfl, by decide +kernel, by decide +kernel⟩
theorem ok_right (A0 : All P K mg base T) : Gd P w K mg base 13 "_law_drawn_right" ["_law_stream", "_law_path", "_law_total"] (spRight K T) := by
  obtain ⟨M, X, I, Tbl, L, D, N, Y, Z, fty⟩ := id A0
  obtain ⟨fdD, FD, FK⟩ := fn_drawn (P := P) (w := w) (base := base) (T := T) M X I Tbl
  refine gd_ofT (M.df "_law_drawn_right" 105) sc105 (fun F => F.bindsN fun _ _ _ _ _ _ us hl => match us, hl with | [_, _, _], _ => rfl) (fun vs H Q E h => ?_) fun A outer s H vs Q E hr h => ⟨_, (pss_cons (ps_asg (pe_tup (pa_cons (pe_gd (ok_count_stands M X I) hr (by decide) rfl passL (pa_cons (pv 1) (pa_cons (pv 2) pa_nil))) (pa_cons (pe_lst pa_nil) pa_nil))) (pg_tup rfl (pgs_cons (pg_name (i := 3) sc105.nd rfl (Or.inl rfl)) (pgs_cons (pg_name (i := 8) sc105.nd rfl (Or.inr rfl)) pgs_nil)))) (pss_cons (ps_set (i := 9) sc105.nd rfl (Or.inr rfl) (pe_gd (ok_draw (T := T) M) hr (by decide) rfl passL (pa_cons (pv 0) (pa_cons (pv 3) pa_nil)))) (pss_cons (ps_ndefF (i := 4) (T := T) (Tbl.t "_law_drawn_right") rfl (Tbl.m "_law_drawn_right") (by kernel_rfl) Tbl.u (ndef_free (fr := ["_law_asked", "_law_number"]) (by kernel_rfl)) rfl rfl rfl sc105.nd rfl (Or.inl rfl) (Or.inl rfl)) (pss_cons (ps_set (i := 5) sc105.nd rfl (Or.inl rfl) (pe_gdZ (fun _ => rfl) (ok_drawn_stand (T := T) M X I Tbl) hr (by decide) rfl passL (pa_cons (pv 1) (pa_cons (pv 2) (pa_cons (pv 4) pa_nil))))) (pss_cons (ps_if (pt_not (pt_val (pe_gd (ok_same (T := T) M I D N 4) hr (by decide) rfl passL (pa_cons (pe_lst (pa_cons (pv 5) (pa_cons (pv 8) pa_nil))) (pa_cons (pe_lst (pa_cons (pe_gd (ok_stand_at (T := T) M X I Tbl) hr (by decide) rfl passL (pa_cons (pv 1) (pa_cons (pv 2) (pa_cons (pv 9) pa_nil)))) (pa_cons (pe_lst (pa_cons (pv 3) pa_nil)) pa_nil))) pa_nil))))) (pss_one (ps_ret pe_bl)) pss_nil) (pss_cons (ps_dput (hu_of hr) (pv 5) pe_str pe_int (by rfl)) (pss_cons (ps_set (i := 6) sc105.nd rfl (Or.inl rfl) (pe_lst (pa_cons (pe_callK0 FK (hr.mono (by decide)) rfl (M.gl "drawn_stand") FD.kp (kb_drawn FD) passL (pk_cons (pe_glob (v := .ref (He.ga K "_law_first")) rfl (M.gl "_law_first") rfl) (pk_cons (pv 2) (pk_cons (pv 1) pk_nil)))) (pa_cons (pe_gd (ok_drawn_stand (T := T) M X I Tbl) hr (by decide) rfl passL (pa_cons (pv 1) (pa_cons (pv 2) (pa_cons (pe_glob (v := .ref (He.ga K "_law_last")) rfl (M.gl "_law_last") rfl) pa_nil)))) pa_nil)))) (pss_cons (ps_if (pt_not (pt_val (pe_gd (ok_same (T := T) M I D N 4) hr (by decide) rfl passL (pa_cons (pv 6) (pa_cons (pe_lst (pa_cons (pe_gd (ok_stand_at (T := T) M X I Tbl) hr (by decide) rfl passL (pa_cons (pv 1) (pa_cons (pv 2) (pa_cons pe_int pa_nil)))) (pa_cons (pe_gd (ok_stand_at (T := T) M X I Tbl) hr (by decide) rfl passL (pa_cons (pv 1) (pa_cons (pv 2) (pa_cons (pe_op op_sub (pv 3) pe_int) pa_nil)))) pa_nil))) pa_nil))))) (pss_one (ps_ret pe_bl)) pss_nil) (pss_cons (ps_for (passes_of rfl) rfl (pi_tup (pe_tup (pa_cons pe_non (pa_cons (pe_un un_neg pe_int) (pa_cons pe_bl (pa_cons pe_str (pa_cons (pe_lst (pa_cons pe_int pa_nil)) (pa_cons (pv 3) (pa_cons (pe_op op_add (pv 3) pe_int) (pa_cons pe_dnewK pa_nil)))))))))) (pg_name (i := 7) sc105.nd rfl (Or.inl rfl)) (pss_one (ps_if (pt_not (pt_val (pe_gd (ok_refused (T := T) A0) hr (by decide) rfl passL (pa_cons (pv 1) (pa_cons (pv 2) (pa_cons (pv 7) pa_nil)))))) (pss_one (ps_ret pe_bl)) pss_nil))) (pss_one (ps_ret (pe_gd (ok_comes (T := T) A0) hr (by decide) rfl passL (pa_cons (pv 1) (pa_cons (pv 2) pa_nil)))))))))))))), ?_⟩
  · obtain ⟨st, big, a, n, ns, t, rfl, _⟩ := h
    rfl
  · obtain ⟨st, big, a, n, ns, t, rfl, hT, hs, pa, ht, q⟩ := h
    have two := pa.two
    have le := pa.le
    have m1 : 1 ≤ nobF ns.length t := nobF_pos t two
    have mlog := nob_log (t := t) two le ht
    generalize hm : nobF (ns.length : Int) (t : Int) = m at m1 mlog
    refine ⟨_, rfl, _, rfl, a, ns, t, rfl, pa, ht, szl, fun l hl0 => ⟨szl, fun tp htp => ⟨tp, _, rfl, .inl (.inl upd_same), rfl, _, _, rfl, _, _, rfl, rfl, ?_⟩⟩⟩
    rw [hm]
    have g2 : Gr T [] H (upd (upd H l (.lst [])) tp (.tup [.int m, .ref l])) := (Gr.new hl0).trans (.new htp)
    have l2 : upd (upd H l (.lst [])) tp (.tup [.int m, .ref l]) l = some (.lst []) := (upd_ne (fun z => by rw [← z, upd_same] at htp; cases htp)).trans upd_same
    dsimp only
    generalize upd (upd H l (.lst [])) tp (.tup [.int m, .ref l]) = H2 at g2 l2 ⊢
    refine ⟨_, rfl, _, rfl, st, big, n, m, rfl, hs.gr g2, m1, mlog, fun H3 k g3 s3 k0 k1 => ?_⟩
    have l3 := g3.lst l2 (hs.ne hl0)
    have g03 := g2.wk.trans g3
    refine ⟨g03.tab hT, fun f0 c0 H4 g4 hf0 f0' fc0 => ?_⟩
    refine with_F f0' fun F0 hF0 f0' => ?_
    have l4 := g4.lst l3 (fun z => nomatch z)
    have g04 := g03.trans g4.wk
    have s4 := s3.gr g4
    have fv0 : Fv P w K mg base (L2.CX P w) 2 (CfH f0 F0 ["_law_asked", "_law_number"] [.ref l, .int k]) f0 1 (spAsk l k) := by
      subst hF0
      refine (fv_stmts (k := 0) (N := ["_law_some", "_law_asked", "_law_number"]) (ps := ["_law_some"]) (spb := spAsk l k) rfl (nscope_by (by kernel_rfl)) (fun _ _ _ us hl => match us, hl with | [_], _ => rfl) (fun vs H Q E h => ?_) ask_link fun A outer s H vs Q E hr hl h => ⟨_, (pss_cons (ps_expr (pe_bm PySem.F.plainAttrs_list PySem.F.slot_list_append PySem.F.type_list_append mt_append (pv 1) (pa_cons (pv 0) pa_nil))) (pss_one (ps_ret (pv 2)))), ?_⟩).mono (by decide)
      · obtain ⟨m, xs, rfl, _⟩ := h
        rfl
      · obtain ⟨m, xs, rfl, hl, hx, q⟩ := h
        exact ⟨_, rfl, .inl ⟨rfl, _, .inl (.inl hl)⟩, _, rfl, l, xs, _, rfl, rfl, hl, small1000 (by omega), _, rfl, q⟩
    refine ⟨_, rfl, _, rfl, _, rfl, fun hp z => ?_⟩
    have c0f := fz_cfh (F := F0) (fr := ["_law_asked", "_law_number"]) (ws := [.ref l, .int k]) (js := [8, 9]) (nsc := F0.scope) z (by rw [hF0] <;> rfl) f0' (by rw [hF0]; exact fc0) (by rw [hF0]; kernel_rfl) (free_cell (by rw [hF0]; kernel_rfl)) rfl rfl
    refine ⟨.ref a, .int t, .ref f0, rfl, .inr ⟨a, ns, rfl, (pa.gr g04).frz z.loose, .inr ⟨t, rfl, ht, .inr ⟨f0, _, _, rfl, tabsN_frz z.loose (g04.tab hT), ty_cfo c0f.fn, fv0, fun H' g => ⟨c0f.gr g, fun v H1 => v = .int k ∧ H1 = upd H' l (.lst [.int m]), fun Q' hq => ⟨_, [], rfl, g.lst (z.loose.frz l4) (fun z => nomatch z), by decide, hq _ _ ⟨rfl, by rw [hm]; rfl⟩⟩, fun v H2 e => ?_⟩⟩⟩⟩⟩
    obtain ⟨rfl, rfl⟩ := e
    have l5 := g.lst (z.loose.frz l4) (fun z => nomatch z)
    refine .inl ⟨k, [l], rfl, k0, by rw [hm]; exact k1, .putL (by simp) l5, fun H5 p g5 hp0 hp5 => ?_⟩
    have gz : Gr T [l] (frzH (CellOf _) hp H4) H5 := (g.wk.trans (.putL (by simp) l5)).trans g5.wk
    have g6 := Gr.thw z.loose gz
    have lk : Lkd (CellOf _) H5 := fun b c => by
      obtain ⟨o, φ, e⟩ := z.loose.lkd b c
      exact ⟨o, φ, gz.frz e⟩
    have p6 := thw_keep lk hp5 (fun _ _ z => nomatch z)
    have l6 := thw_keep lk (g5.lst (upd_same (o := .lst [.int m])) (fun z => nomatch z)) (fun _ _ z => nomatch z)
    have hp4 : H4 p = none := frz_none z.loose (g.mono _ (upd_none hp0))
    have hpH : H p = none := g04.mono _ hp4
    have lH : l ∉ [st, big] := hs.ne hl0
    have s6 := s4.via g6 lH
    have g06 := g04.via g6 hl0
    dsimp only
    generalize Rw.thw (CellOf _) H5 = H6 at g6 p6 l6 s6 g06 ⊢
    clear gz lk g5 hp5 l5 g c0f z
    have pa6 := pa.gr g06
    refine ⟨_, rfl, _, rfl, szl, fun q1 hq1 => ?_⟩
    have g7 : Gr T [] H6 (upd H6 q1 (.lst [.ref p, .ref l])) := .new hq1
    have e7 : upd H6 q1 (.lst [.ref p, .ref l]) q1 = some (.lst [.ref p, .ref l]) := upd_same
    generalize upd H6 q1 (.lst [.ref p, .ref l]) = H7 at g7 e7 ⊢
    refine ⟨_, rfl, _, rfl, _, rfl, a, ns, t, k, rfl, (g06.trans g7.wk).tab hT, pa6.gr g7, ht, k0, by rw [hm]; exact k1, fun H8 p2 g8 hp20 hp2 => ?_⟩
    refine ⟨_, rfl, szl, fun q2 hq2 => ⟨szl, fun q3 hq3 => ?_⟩⟩
    have g9 : Gr T [] H8 (upd (upd H8 q2 (.lst [.int m])) q3 (.lst [.ref p2, .ref q2])) := (Gr.new hq2).trans (.new hq3)
    have n23 : q2 ≠ q3 := fun z => by rw [← z, upd_same] at hq3; cases hq3
    have e92 : upd (upd H8 q2 (.lst [.int m])) q3 (.lst [.ref p2, .ref q2]) q2 = some (.lst [.int m]) := (upd_ne n23).trans upd_same
    have e93 : upd (upd H8 q2 (.lst [.int m])) q3 (.lst [.ref p2, .ref q2]) q3 = some (.lst [.ref p2, .ref q2]) := upd_same
    generalize upd (upd H8 q2 (.lst [.int m])) q3 (.lst [.ref p2, .ref q2]) = H9 at g9 e92 e93 ⊢
    have g69 := (g7.trans g8).trans g9
    have p9 := g69.dK p6
    have l9 := g69.lst l6 (fun z => nomatch z)
    have sm1 : Sm P w K T 3 H9 (.ref l) (.ref q2) := .inr (.inl ⟨l, q2, _, _, rfl, rfl, .inl ⟨l9, e92⟩, rfl, (show (1 : Nat) ≤ 1000 by decide), fun i u v w1 w2 => by
      rw [w1] at w2
      cases w2
      rw [List.mem_singleton.mp (List.mem_of_getElem? w1)]
      exact Sm.flat rfl⟩)
    refine ⟨_, _, rfl, same_two ((g8.trans g9).lst e7 (fun z => nomatch z)) e93 (same_dz (n := 0) p9 (g9.dK hp2) (by omega)) sm1, fun H10 g10 => ⟨_, rfl, ?_⟩⟩
    have p10 := g10.dK p9
    have gA : Gr T [st, big] H H10 := (g06.trans g69.wk).trans g10.wk
    have sA := s6.gr (g69.trans g10)
    refine ⟨_, rfl, p, _, rfl, .inl ⟨_, .inr "late", p10, rfl, by rw [dz_len]; exact small1000 (by omega), rfl⟩, ?_⟩
    have gB : Gr T [st, big] H (upd H10 p (.dK (putK (dz ns (resN ns t k)) (.inr "late") (.int 1)))) := gA.ownD (o := .dK (putK (dz ns (resN ns t k)) (.inr "late") (.int 1))) hpH p10
    have sB : StrmAt n st big (upd H10 p (.dK (putK (dz ns (resN ns t k)) (.inr "late") (.int 1)))) := by
      obtain ⟨ne, xs, m, c, d, h1, h2, r⟩ := sA
      exact ⟨ne, xs, m, c, d, (upd_ne fun z => by rw [z, p10] at h1; cases h1).trans h1, (upd_ne fun z => by rw [z, p10] at h2; cases h2).trans h2, r⟩
    dsimp only
    generalize upd H10 p (.dK (putK (dz ns (resN ns t k)) (.inr "late") (.int 1))) = H11 at gB sB ⊢
    clear gA sA p10 g10 sm1 g69 p9 l9 e92 e93 e7 g9 g8 hp2 p6 l6 s6 g06 pa6
    refine ⟨_, rfl, _, rfl, ?_⟩
    dsimp only [tNil, turn3]
    refine drawn_known (k := 0) (pa.gr gB) (gB.tab hT) ht (ty_glo (fty _ (by decide))) (((ok_first M).fv).mono (by decide)) (fun H' Q' hq => ⟨_, rfl, hq _ _ ⟨rfl, rfl⟩⟩) (Int.le_refl 0) (by rw [hm]; omega) fun H12 r1 g12 hr10 hr1 => ?_
    refine ⟨_, rfl, _, rfl, ?_⟩
    have gC := gB.trans g12.wk
    dsimp only [tCons, tC, tNil]
    refine drawn_known (k := m - 1) (pa.gr gC) (gC.tab hT) ht (ty_glo (fty _ (by decide))) (((ok_last M).fv).mono (by decide)) (fun H' Q' hq => ⟨_, rfl, hq _ _ ⟨by rw [hm], rfl⟩⟩) (by omega) (by rw [hm]; omega) fun H13 r2 g13 hr20 hr2 => ?_
    have gD := gC.trans g13.wk
    refine ⟨szl, fun r3 hr3 => ?_⟩
    have g14 : Gr T [] H13 (upd H13 r3 (.lst [.ref r1, .ref r2])) := .new hr3
    have e14 : upd H13 r3 (.lst [.ref r1, .ref r2]) r3 = some (.lst [.ref r1, .ref r2]) := upd_same
    have hr1' := (g13.trans g14).dK hr1
    have hr2' := g14.dK hr2
    generalize upd H13 r3 (.lst [.ref r1, .ref r2]) = H14 at g14 e14 hr1' hr2' ⊢
    have gE := gD.trans g14.wk
    refine ⟨_, rfl, _, rfl, _, rfl, a, ns, t, 0, rfl, gE.tab hT, pa.gr gE, ht, Int.le_refl 0, by rw [hm]; omega, fun H15 s1 g15 hs10 hs1 => ?_⟩
    have gF := gE.trans g15.wk
    refine ⟨_, rfl, _, rfl, _, rfl, _, _, rfl, rfl, a, ns, t, m - 1, rfl, gF.tab hT, pa.gr gF, ht, by omega, by rw [hm]; omega, fun H16 s2 g16 hs20 hs2 => ⟨szl, fun r4 hr4 => ?_⟩⟩
    have g17 : Gr T [] H16 (upd H16 r4 (.lst [.ref s1, .ref s2])) := .new hr4
    have e17 : upd H16 r4 (.lst [.ref s1, .ref s2]) r4 = some (.lst [.ref s1, .ref s2]) := upd_same
    generalize upd H16 r4 (.lst [.ref s1, .ref s2]) = H17 at g17 e17 ⊢
    have g57 := (g15.trans g16).trans g17
    refine ⟨_, _, rfl, same_two (g57.lst e14 (fun z => nomatch z)) e17 (same_dz (n := 0) (g57.dK hr1') ((g16.trans g17).dK hs1) (by omega)) (same_dz (n := 0) (g57.dK hr2') (g17.dK hs2) (by omega)), fun H18 g18 => ⟨_, rfl, ?_⟩⟩
    have gG := ((gE.trans g57.wk).trans g18.wk)
    have sG := (((sB.gr (g12.trans g13)).gr g14).gr g57).gr g18
    clear e14 e17 hr1' hr2' hs1 hs2 g57 g14 gE gF gD gC g12 g13 g15 g16 g17 g18 sB gB
    refine ⟨1, rfl, szl, fun q0 hq0 => ⟨_, rfl, _, rfl, _, _, rfl, rfl, fun d0 hd0 => ⟨szl, fun tt htt => ?_⟩⟩⟩
    have g19 : Gr T [] H18 (upd (upd (upd H18 q0 (.lst [.int 0])) d0 (.dK [])) tt (.tup (oddL q0 d0 m))) := ((Gr.new hq0).trans (.new hd0)).trans (.new htt)
    have n1 : q0 ≠ d0 := fun z => by rw [← z, upd_same] at hd0; cases hd0
    have e1 : upd (upd H18 q0 (.lst [.int 0])) d0 (.dK []) q0 = some (.lst [.int 0]) := (upd_ne n1).trans upd_same
    have e2 : upd (upd H18 q0 (.lst [.int 0])) d0 (.dK []) d0 = some (.dK []) := upd_same
    have gt : Gr T [] (upd (upd H18 q0 (.lst [.int 0])) d0 (.dK [])) (upd (upd (upd H18 q0 (.lst [.int 0])) d0 (.dK [])) tt (.tup (oddL q0 d0 m))) := .new htt
    have e3 := gt.lst e1 (fun z => nomatch z)
    have e4 := gt.dK e2
    have e5 : upd (upd (upd H18 q0 (.lst [.int 0])) d0 (.dK [])) tt (.tup (oddL q0 d0 m)) tt = some (.tup (oddL q0 d0 m)) := upd_same
    refine ⟨tt, rfl, ⟨oddL q0 d0 m, .inl (.inl e5)⟩, ?_⟩
    change ∃ W : Nat → Nat → L2.St → Hp → Prop, (∃ m', W 0 m' _ (upd (upd (upd H18 q0 (.lst [.int 0])) d0 (.dK [])) tt (.tup (oddL q0 d0 m)))) ∧ _
    generalize upd (upd (upd H18 q0 (.lst [.int 0])) d0 (.dK [])) tt (.tup (oddL q0 d0 m)) = H19 at g19 e3 e4 e5 ⊢
    clear gt e1 e2
    have gH := gG.trans g19.wk
    have sH := sG.gr g19
    refine for_it (walk_tup (xs := oddL q0 d0 m)) (fun i σ H' => Gr T [] H19 H' ∧ ∃ z, σ = [some (.ref st), some (.ref a), some (.int t), some (.int m), some (.ref f0), some (.ref p), some (.ref r3), z, some (.ref l), some (.int k)]) ⟨.refl _, none, rfl⟩ (fun i σ H' _ h => .inl (.inl (h.1.tup e5))) (fun i v σ Ha Hb hi ⟨g, z, e⟩ ⟨y1, y2⟩ => ?_) ?_
    · subst e y1
      obtain ⟨dv, iv⟩ := odd_ok (g.lst e3 (fun z => nomatch z)) (g.dK e4) (show (1 : Int) ≤ m from m1) v (List.mem_of_getElem? y2)
      have gI := gH.trans g.wk
      refine ⟨_, rfl, _, rfl, _, rfl, a, ns, t, v, rfl, gI.tab hT, pa.gr gI, ht, dv, ?_, fun Hc gc => ⟨_, rfl, g.trans gc, _, rfl⟩⟩
      rw [hm]
      exact iv
    · rintro σ Ha ⟨g, z, rfl⟩
      have gI := gH.trans g.wk
      exact ⟨_, rfl, _, rfl, a, ns, t, rfl, gI.tab hT, pa.gr gI, ht, fun Hb gb => q Hb (gI.trans gb.wk) (sH.gr (g.trans gb))⟩
end Rw
set_option maxHeartbeats 4000000
/-! sorted of tuples of ints of either sign. -/
namespace Rw
open PySem PySem.Spec PyProof.Rows L2 LamX NdefX
def unI : V → Int
  | .int i => i
  | _ => 0
/-- the ints that a thing of the heap holds -/
def tupH (H : Hp) : V → List Int
  | .ref r => match H r with
    | some (.tup xs) => xs.map unI
    | _ => []
  | _ => []
theorem tupH_at {H : Hp} {r : Addr} {ps : List Int} (h : H r = some (.tup (ps.map V.int))) : tupH H (.ref r) = ps := by
  show (match H r with | some (.tup xs) => xs.map unI | _ => []) = ps
  rw [h]
  show (ps.map V.int).map unI = ps
  rw [List.map_map]
  exact List.map_id' ps
def tkey (ns : List Int) : List (Int ⊕ List Nat) := ns.map Sum.inl
theorem tkey_inj : ∀ {a b : List Int}, tkey a = tkey b → a = b
  | [], [], _ => rfl
  | [], _ :: _, h => by cases h
  | _ :: _, [], h => by cases h
  | x :: r, y :: t, h => by
    have h' : (Sum.inl x : Int ⊕ List Nat) :: tkey r = Sum.inl y :: tkey t := h
    obtain ⟨h1, h2⟩ := List.cons.inj h'
    rw [Sum.inl.inj h1, tkey_inj h2]
def tle (a b : List Int) : Prop := KeyOrd.kle (O := PyProof.Rows.listOrd PyProof.Rows.itemOrd) (tkey a) (tkey b)
theorem tle_anti {a b : List Int} (h1 : tle a b) (h2 : tle b a) : a = b := tkey_inj (KeyOrd.kle_antisymm (O := PyProof.Rows.listOrd PyProof.Rows.itemOrd) h1 h2)
theorem items_ints {vs : List Value} {ns : List Int} (h : IntsAre vs ns) : ∀ i, PyProof.Rows.tupItems (fun _ => false) i vs = some (tkey ns) := by
  induction h with
  | nil => intro i; rfl
  | cons n t h ih =>
    intro i
    show (if false = true then none else (PyProof.Rows.tupItems (fun _ => false) (i + 1) _).map (Sum.inl n :: ·)) = _
    rw [if_neg Bool.false_ne_true, ih]
    rfl
theorem key_at {h : Heap} {a : Addr} {xs : Array Value} {ns : List Int} (ht : IsTup h a xs) (hi : IntsAre xs.toList ns) : PyProof.Rows.G.tupKeyC h (fun _ => false) (.ref a) = some (tkey ns) := by
  obtain ⟨o, hoz, hc, n, hd⟩ := ht
  have e1 : PyProof.Rows.G.isTupObj h (.ref a) = true := by
    simp only [PyProof.Rows.G.isTupObj, hoz, hc]
    rfl
  unfold PyProof.Rows.G.tupKeyC
  rw [if_pos e1]
  simp only [PyProof.Rows.tupKey, hoz, hd]
  exact items_ints hi 0
/-- a value that is a tuple of d ints -/
def IsTv (h : Heap) (d : Nat) (v : Value) : Prop := ∃ a xs ns, v = .ref a ∧ IsTup h a xs ∧ IntsAre xs.toList ns ∧ ns.length = d
theorem tups_of {h : Heap} {d : Nat} (hd : 1 ≤ d) : ∀ {vs : List Value}, (∀ v ∈ vs, IsTv h d v) → ∃ fs, PyProof.Rows.TupsOf h (fun _ => false) vs fs
  | [], _ => ⟨[], .nil⟩
  | v :: r, k => by
    obtain ⟨fs, t⟩ := tups_of hd fun u hu => k u (.tail _ hu)
    obtain ⟨a, xs, ns, rfl, ⟨o, ho, hc, n, hdt⟩, i, hn⟩ := k v (.head _)
    cases ns with
    | nil =>
      have : (0 : Nat) = d := hn
      omega
    | cons m ms =>
      obtain ⟨f, hf⟩ : ∃ f, xs.toList[0]? = some f := by
        have l := i.length
        cases q : xs.toList with
        | nil => rw [q] at i; cases i
        | cons y ys => exact ⟨y, rfl⟩
      obtain ⟨k1, t1, e⟩ := i.all f (List.mem_of_getElem? hf)
      exact ⟨f :: fs, .cons ⟨a, o, xs, n, rfl, ho, hc, hdt, by rw [← Array.getElem?_toList]; exact hf, fun _ => ⟨k1, t1, e⟩, fun z => nomatch z⟩ t⟩
def rSortV : List V → Hp → VK → Prop := fun vs H Q => ∃ (a : Addr) (xs : List V) (d : Nat), vs = [.ref a] ∧ H a = some (.lst xs) ∧ 1 ≤ d ∧ (∀ x ∈ xs, ∃ t ps, x = .ref t ∧ H t = some (.tup (List.map V.int ps)) ∧ ps.length = d) ∧
  ∀ (ys : List V) (p : Addr), ys.Perm xs → (ys.map (tupH H)).Pairwise tle → H p = none → Q (.ref p) (upd H p (.lst ys))
theorem call_sortV {X : Cx} : CallR X (.builtin "sorted") rSortV := by
  intro pinsz s σ H vs us Q I r h
  obtain ⟨a, xs, d, rfl, hs, hd, hx, q⟩ := h
  obtain ⟨its, rv, hl, hz⟩ := I.list (.inl (.inl hs))
  rw [Vals.ref1 r]
  obtain ⟨e1, e2⟩ := bkV_refs rv fun x m => let ⟨t, ps, e, _⟩ := hx x m; ⟨t, e⟩
  have tup : ∀ u ∈ its, ∃ t ps ws, u = Value.ref t ∧ tupH H (bkV u) = ps ∧ IsTup s.heap t ws ∧ IntsAre ws.toList ps ∧ ps.length = d := fun u hu => by
    obtain ⟨t, rfl⟩ := e2 u hu
    have hm : V.ref t ∈ xs := by
      rw [e1]
      exact List.mem_map.mpr ⟨_, hu, rfl⟩
    obtain ⟨t', ps, e, ht, hn⟩ := hx _ hm
    cases e
    obtain ⟨ws, rw_, hT, _⟩ := I.tuple (.inl (.inl ht))
    exact ⟨t, ps, ws.toArray, rfl, tupH_at ht, hT, by simpa using rw_.ints, hn⟩
  obtain ⟨fs, htf⟩ := tups_of (h := s.heap) hd (vs := its) fun u hu => let ⟨t, ps, ws, e, _, h1, h2, h3⟩ := tup u hu; ⟨t, ws, ps, e, h1, h2, h3⟩
  have key : ∀ u ∈ its, PyProof.Rows.G.tupKeyC s.heap (fun _ => false) u = some (tkey (tupH H (bkV u))) := fun u hu => by
    obtain ⟨t, ps, ws, rfl, e, h1, h2, _⟩ := tup u hu
    rw [e]
    exact key_at h1 h2
  refine PyProof.Rows.G.sorted_tups (shape := fun _ => false) hl.isList htf (fun v hv => ⟨_, key v hv⟩) (by rw [← rv.length]; exact hz) fun st' h1 h2 _ => ?_
  have hpm : (arrOf st').toList.Perm (its.zip its) := by
    have zz := Array.perm_iff_toList_perm.mp h1
    rw [pairsOf_toList] at zz
    exact zz
  have mem : ∀ p ∈ (arrOf st').toList, p.1 = p.2 ∧ p.1 ∈ its := fun p hp => mem_zip_self (hpm.mem_iff.mp hp)
  obtain ⟨ep, he⟩ := PyProof.Rows.sortedAll_at s.heap its ((arrOf st').map (·.2))
  have ho : ((arrOf st').map (·.2)).toList = (arrOf st').toList.map (·.2) := Array.toList_map ..
  have hpo : ((arrOf st').map (·.2)).toList.Perm its := by
    rw [ho]
    have zz := hpm.map Prod.snd
    rw [List.map_snd_zip (Nat.le_refl _)] at zz
    exact zz
  have h3 : ∀ u ∈ ((arrOf st').map (·.2)).toList, ∃ a, u = Value.ref a := fun u hu => e2 u (hpo.mem_iff.mp hu)
  have hp : (((arrOf st').map (·.2)).toList.map bkV).Perm xs := by
    rw [e1]
    exact hpo.map bkV
  have hlen : (((arrOf st').map (·.2)).toList.map bkV).length ≤ sizeLine := by
    rw [hp.length_eq]
    exact hz
  refine ⟨.ref _, upd H (s.heap.objs.size + 1) (.lst (((arrOf st').map (·.2)).toList.map bkV)), I.laid (t' := s.toks) (fun _ _ => PyProof.Rows.sortedAll_old) (Nat.le_succ _) ⟨hlen, _, ep, bkV_vals h3, he⟩, rfl, q _ _ hp ?_ (I.hok.fresh (Nat.le_succ _))⟩
  have hsz : (pairsOf its).size = (arrOf st').size := h1.size_eq.symm
  rw [hsz] at h2
  rw [ho, List.map_map, List.map_map, List.pairwise_map, List.pairwise_iff_getElem]
  intro i j hi hj hij
  have kk : ∀ (i : Nat) (hi : i < (arrOf st').toList.length), KK (PyProof.Rows.G.tupKindC s.heap fun _ => false) (arrOf st') i = tkey (tupH H (bkV (arrOf st').toList[i].2)) := fun i hi => by
    obtain ⟨m1, m2⟩ := mem _ (List.getElem_mem hi)
    have e3 : (arrOf st')[i]? = some (arrOf st').toList[i] := by rw [← Array.getElem?_toList, List.getElem?_eq_getElem hi]
    unfold KK
    rw [e3]
    show (PyProof.Rows.G.tupKeyC s.heap (fun _ => false) (arrOf st').toList[i].1).getD [] = _
    rw [key _ m2, m1]
    rfl
  have zz := h2 i j (Nat.le_of_lt hij) (by rw [Array.length_toList] at hj; exact hj)
  rw [kk i hi, kk j hj] at zz
  exact zz
end Rw
set_option maxHeartbeats 4000000
/-! The law's defs: _law_all_right. -/
namespace Rw
open PySem PySem.Spec PyProof.Rows L2 LamX NdefX
variable {P : Program} {w : World} {K : PySem.W.Frag} {mg : Str → Option Value} {base : Heap} {T : List NTab}
theorem res_vals {ns : List Str} (nd : ns.Nodup) (t k : Nat) : ns.map (resN ns t k) = dvals ns.length t k := by
  refine dvals_names nd t k _ _ (fun i h => ?_) fun i h => ?_
  · rw [idx_get nd i h]
  · unfold lfM
    rw [idx_get nd i h, List.getD_eq_getElem?_getD, List.getElem?_map, List.getD_eq_getElem?_getD]
    cases (madeF ns.length t (k : Int) false)[i]? <;> rfl
/-! ### rows of tuples -/
theorem lv_tup {H : Hp} {a : Addr} {lv : List (List Int)} (h : LvAt H a lv) : ∃ rs : List Addr, H a = some (.lst (rs.map V.ref)) ∧ (rs.map V.ref).map (tupH H) = lv ∧ rs.length = lv.length ∧ ∀ x ∈ rs.map V.ref, ∃ t ps, x = .ref t ∧ H t = some (.tup (List.map V.int ps)) ∧ ps ∈ lv := by
  obtain ⟨rs, h1, h2, h3⟩ := h
  refine ⟨rs, h1, List.ext_getElem (by rw [List.length_map, List.length_map, h2]) fun i q1 q2 => ?_, h2, fun x hx => ?_⟩
  · obtain ⟨r, e1, e2⟩ := h3 i lv[i] (List.getElem?_eq_getElem q2)
    have hr : i < rs.length := by omega
    rw [List.getElem?_eq_getElem hr] at e1
    rw [List.getElem_map, List.getElem_map, Option.some.inj e1, tupH_at e2]
  · obtain ⟨r, hr, rfl⟩ := List.mem_map.mp hx
    obtain ⟨i, hi, e⟩ := List.getElem_of_mem hr
    obtain ⟨r', e1, e2⟩ := h3 i (lv[i]'(by omega)) (List.getElem?_eq_getElem _)
    rw [List.getElem?_eq_getElem hi, e] at e1
    cases e1
    exact ⟨r, _, rfl, e2, List.getElem_mem _⟩
theorem lv_of {H : Hp} {a : Addr} {ys : List V} (h : H a = some (.lst ys)) (k : ∀ x ∈ ys, ∃ t ps, x = .ref t ∧ H t = some (.tup (List.map V.int ps))) : LvAt H a (ys.map (tupH H)) := by
  have e : ∃ rs : List Addr, ys = rs.map V.ref := by
    clear h
    induction ys with
    | nil => exact ⟨[], rfl⟩
    | cons y r ih =>
      obtain ⟨rs, e⟩ := ih fun x hx => k x (.tail _ hx)
      obtain ⟨t, ps, e1, _⟩ := k y (.head _)
      exact ⟨t :: rs, by rw [e, e1]; rfl⟩
  obtain ⟨rs, rfl⟩ := e
  refine ⟨rs, h, by rw [List.length_map, List.length_map], fun i ps e => ?_⟩
  rw [List.map_map, List.getElem?_map] at e
  obtain ⟨r, e1, e2⟩ := Option.map_eq_some_iff.mp e
  obtain ⟨t, qs, e3, e4⟩ := k (.ref r) (List.mem_map.mpr ⟨r, List.mem_of_getElem? e1, rfl⟩)
  cases e3
  have e5 : tupH H (.ref r) = ps := e2
  rw [tupH_at e4] at e5
  subst e5
  exact ⟨r, e1, e4⟩
theorem sort_lv {H : Hp} {a : Addr} {lv : List (List Int)} {d : Nat} {Q : VK} (h : LvAt H a lv) (hd : 1 ≤ d) (hl : ∀ ps ∈ lv, ps.length = d) (q : ∀ H' p lv', (∀ T : List NTab, Gr T [] H H') → H p = none → LvAt H' p lv' → lv'.Perm lv → lv'.Pairwise tle → Q (.ref p) H') : rSortV [.ref a] H Q := by
  obtain ⟨rs, h1, h2, h3, h4⟩ := lv_tup h
  refine ⟨a, rs.map V.ref, d, rfl, h1, hd, fun x hx => let ⟨t, ps, e, e1, e2⟩ := h4 x hx; ⟨t, ps, e, e1, hl ps e2⟩, fun ys p pm pw hp => ?_⟩
  have g : ∀ T : List NTab, Gr T [] H (upd H p (.lst ys)) := fun T => .new hp
  have et : (ys.map (tupH (upd H p (.lst ys)))) = ys.map (tupH H) := List.map_congr_left fun x hx => by
    obtain ⟨t, ps, rfl, e, _⟩ := h4 x (pm.mem_iff.mp hx)
    rw [tupH_at e, tupH_at ((g []).tup e)]
  refine q _ p (ys.map (tupH H)) g hp ?_ (by rw [← h2]; exact pm.map _) pw
  rw [← et]
  exact lv_of upd_same fun x hx => by
    obtain ⟨t, ps, e0, e, _⟩ := h4 x (pm.mem_iff.mp hx)
    exact ⟨t, ps, e0, (g []).tup e⟩
def dTups (lv : List (List Int)) : PyData := .list (lv.map fun ps => .tuple (ps.map PyData.int))
theorem dp_lv {H : Hp} {a : Addr} {lv : List (List Int)} (h : LvAt H a lv) : Dp K H (.ref a) (dTups lv) := by
  obtain ⟨rs, h1, h2, h3⟩ := h
  refine .lst (.inl (.inl h1)) ?_
  clear h1
  induction rs generalizing lv with
  | nil =>
    cases lv with
    | nil => exact .nil
    | cons p r => cases h2
  | cons r rs ih =>
    cases lv with
    | nil => cases h2
    | cons p l =>
      obtain ⟨r', e1, e2⟩ := h3 0 p rfl
      cases e1
      exact .cons (.tup (.inl (.inl e2)) (dp_ints (a := r))) (ih (Nat.succ.inj h2) fun i ps e => h3 (i + 1) ps e)
theorem lay_ints : ∀ ps : List Int, PyData.canLayAll0 (ps.map PyData.int) = true
  | [] => rfl
  | _ :: r => lay_ints r
theorem dep_ints : ∀ ps : List Int, PyData.depthAll (ps.map PyData.int) = 0
  | [] => rfl
  | _ :: r => (Nat.zero_max _).trans (dep_ints r)
theorem lay_tups : ∀ lv : List (List Int), PyData.canLayAll0 (lv.map fun ps => PyData.tuple (ps.map PyData.int)) = true
  | [] => rfl
  | p :: r => by
    show (PyData.canLayAll0 (p.map PyData.int) && PyData.canLayAll0 (r.map fun ps => PyData.tuple (ps.map PyData.int))) = true
    rw [lay_ints, lay_tups r]
    rfl
theorem dep_tups : ∀ lv : List (List Int), PyData.depthAll (lv.map fun ps => PyData.tuple (ps.map PyData.int)) ≤ 1
  | [] => Nat.zero_le _
  | p :: r => by
    show max (PyData.depthAll (p.map PyData.int) + 1) (PyData.depthAll (r.map fun ps => PyData.tuple (ps.map PyData.int))) ≤ 1
    rw [dep_ints]
    exact Nat.max_le.mpr ⟨Nat.le_refl _, dep_tups r⟩
theorem shaped_tups (lv : List (List Int)) : SeqAt.shaped (dTups lv) = true := by
  unfold SeqAt.shaped
  rw [show (dTups lv).canLay0 = PyData.canLayAll0 (lv.map fun ps => PyData.tuple (ps.map PyData.int)) from rfl, lay_tups, show (dTups lv).depth = PyData.depthAll (lv.map fun ps => PyData.tuple (ps.map PyData.int)) + 1 from rfl]
  have := dep_tups lv
  rw [decide_eq_true (by omega)]
  rfl
theorem eqv_ints : ∀ ps : List Int, PyData.eqvAll (ps.map PyData.int) (ps.map PyData.int) = true
  | [] => by simp only [List.map_nil, PyData.eqvAll]
  | p :: r => by simp only [List.map_cons, PyData.eqvAll, PyData.eqv, eqv_ints r, beq_self_eq_true, Bool.and_self]
theorem eqv_tups : ∀ lv : List (List Int), PyData.eqvAll (lv.map fun ps => PyData.tuple (ps.map PyData.int)) (lv.map fun ps => PyData.tuple (ps.map PyData.int)) = true
  | [] => by simp only [List.map_nil, PyData.eqvAll]
  | p :: r => by simp only [List.map_cons, PyData.eqvAll, PyData.eqv, eqv_ints p, eqv_tups r, Bool.and_self]
theorem eqv_lv (lv : List (List Int)) : (dTups lv).eqv (dTups lv) = true := by
  unfold dTups
  simp only [PyData.eqv, eqv_tups]
theorem eq_lv {H : Hp} {a b : Addr} {lv : List (List Int)} {Q : VK} (h1 : LvAt H a lv) (h2 : LvAt H b lv) (q : Q (.bl true) H) : rEqD K (.ref a) (.ref b) H Q :=
  ⟨_, _, dp_lv h1, dp_lv h2, shaped_tups lv, shaped_tups lv, by rw [eqv_lv]; exact q⟩
theorem at_ref {fs : List Addr} {t : Nat} {r : Addr} (h : fs[t]? = some r) : atI (fs.map V.ref) (t : Int) = some (.ref r) := by
  have hl := (List.getElem?_eq_some_iff.mp h).1
  unfold atI ixN
  have h1 : (0 : Int) ≤ t := Int.natCast_nonneg t
  have h2 : (t : Int) < (fs.length : Int) := by omega
  rw [List.length_map, if_pos h1, if_pos h2]
  simp [h]
theorem small_in : ∀ {n t : Nat}, 2 ≤ n → n ≤ 4 → t < 5 → (n, t) ∈ small := by
  have key : ∀ n ∈ List.range 5, ∀ t ∈ List.range 5, 2 ≤ n → (n, t) ∈ small := by decide
  exact fun {n t} h1 h2 h3 => key n (List.mem_range.mpr (by omega)) t (List.mem_range.mpr h3) h1
def spAllRight (T : List NTab) : Sp := fun vs H Q _ => ∃ (st big : Addr) (n : Nat), vs = [.ref st] ∧ TabsN T H ∧ StrmAt (n + 25) st big H ∧ ∀ H', Gr T [st, big] H H' → StrmAt n st big H' → Q (.bl true) H'
theorem sc107 : FnScope ["_law_stream", "_law_names", "_law_path", "_law_total", "_law_due", "_law_number"] ["_law_stream"] (defScope (top 107)) := ⟨rfl, rfl, rfl, by decide +kernel, rfl, by decide +kernel, by decide +kernel⟩
theorem ok_all_right (A0 : All P K mg base T) : Gd P w K mg base 11 "_law_all_right" ["_law_stream"] (spAllRight T) := by
  obtain ⟨M, X, I, Tbl, L, D, N, Y, Z, fty⟩ := id A0
  refine gd_of (M.df "_law_all_right" 107) sc107 (fun F => F.bindsN fun _ _ _ _ _ _ us hl => match us, hl with | [_], _ => rfl) (fun vs H Q E h => ?_) fun cdv A outer s H vs Q E hr h => ⟨_, (pss_cons (ps_set (i := 1) sc107.nd rfl (Or.inl rfl) (pe_gd (ok_names (T := T) M) hr (by decide) rfl passL (pa_cons (pv 0) (pa_cons pe_int (pa_cons pe_int pa_nil))))) (pss_cons (ps_asg (pe_tup (pa_cons (pe_gd (ok_w_path (T := T) M L) hr (by decide) rfl passL (pa_cons (pv 0) (pa_cons (pv 1) pa_nil))) (pa_cons (pe_gd (ok_draw (T := T) M) hr (by decide) rfl passL (pa_cons (pv 0) (pa_cons pe_int pa_nil))) pa_nil))) (pg_tup rfl (pgs_cons (pg_name (i := 2) sc107.nd rfl (Or.inr rfl)) (pgs_cons (pg_name (i := 3) sc107.nd rfl (Or.inr rfl)) pgs_nil)))) (pss_cons (ps_set (i := 4) sc107.nd rfl (Or.inl rfl) (pe_callB call_sortV rfl (M.fr "sorted") (by decide +kernel) (pa_cons (pe_ix ix_list (pe_gd (ok_w_all (T := T) M) hr (by decide) rfl passL (pa_cons (pe_callB call_len_seq rfl (M.fr "len") (by decide +kernel) (pa_cons (pv 1) pa_nil)) (pa_cons (pv 3) pa_nil))) (pv 3) (fun _ _ => rfl)) pa_nil))) (pss_one (ps_ret (pe_cmpR (op_eqD hr.units) (pe_callB call_sortV rfl (M.fr "sorted") (by decide +kernel) (pa_cons (pe_lc (own := [("_law_number", 5)]) rfl sc107.nd (pi_range1 rfl (M.fr "range") (pa_cons (pe_callB call_len_seq rfl (M.fr "len") (by decide +kernel) (pa_cons (pv 4) pa_nil)) pa_nil)) (blkOk_by (by kernel_rfl)) (fun _ _ _ _ _ => (pg_name (i := 5) sc107.nd rfl (Or.inl rfl) (hf := Or.inr rfl))) (fun _ _ _ _ _ => pts_nil) (fun _ _ _ _ _ => (pe_gd (ok_drawn_by (T := T) A0) hr (by decide) rfl passL (pa_cons (pv 2) (pa_cons (pv 3) (pa_cons (pv 5) pa_nil)))))) pa_nil)) (pv 4) (nomark _))))))), ?_⟩
  · obtain ⟨st, big, n, rfl, _⟩ := h
    rfl
  · obtain ⟨st, big, n, rfl, hT, hs, q⟩ := h
    refine ⟨_, rfl, st, big, n + 2, 2, 4, rfl, hs, by decide, by decide, fun H1 np ns g1 s1 hn0 hn nd l2 l4 mem => ?_⟩
    have nok : NsOk ns := ⟨nd, l2, by omega, fun x hx => names_ok x (mem x hx)⟩
    refine ⟨_, rfl, _, rfl, st, big, np, n + 1, ns, rfl, s1, hn, hs.ne hn0, nok, fun H2 a g2 s2 ha0 pa => ?_⟩
    refine ⟨_, rfl, st, big, n, 5, rfl, s2, by decide, by decide, fun H3 v g3 s3 v0 v5 => ?_⟩
    obtain ⟨t, rfl⟩ : ∃ t : Nat, v = t := ⟨v.toNat, by omega⟩
    have hsm : (ns.length, t) ∈ small := small_in l2 l4 (by omega)
    refine ⟨szl, fun tp htp => ⟨tp, _, rfl, .inl (.inl upd_same), rfl, _, _, rfl, _, _, rfl, rfl, ?_⟩⟩
    have gt : Gr T [] H3 (upd H3 tp (.tup [V.ref a, V.int t])) := .new htp
    have g03 := (g1.trans g2).trans (g3.trans gt.wk)
    have sT := s3.gr gt
    have paT := (pa.gr g3).gr gt
    have hnT := gt.lst (g3.lst (g2.lst hn (hs.ne hn0)) (hs.ne hn0)) (fun z => nomatch z)
    dsimp only
    generalize upd H3 tp (.tup [V.ref a, V.int t]) = H4 at gt g03 sT paT hnT ⊢
    refine ⟨_, rfl, np, _, rfl, .inl (.inl (.inl hnT)), _, rfl, ns.length, t, by rw [List.length_map]; rfl, hsm, fun H5 F fs Lr g5 hF hL lv5 => ?_⟩
    refine ⟨_, rfl, F, _, _, _, rfl, rfl, .inl (.inl hF), at_ref hL, ?_⟩
    have ok := small_ok _ hsm
    have ln := small_len _ hsm
    have pm0 := List.isPerm_iff.mp (small_perm _ hsm)
    dsimp only at ok ln pm0
    generalize (levelF ns.length t).2 = lv at lv5 ok ln pm0
    dsimp only [tNil]
    refine sort_lv (d := ns.length) lv5 (by omega) (fun ps hps => (ok ps hps).1) fun H6 p due g6 hp0 lv6 pm6 pw6 => ?_
    have g06 := (g03.trans g5.wk).trans (g6 T).wk
    have s6 := (sT.gr g5).gr (g6 T)
    have pa6 := (paT.gr g5).gr (g6 T)
    obtain ⟨ys, hy1, hy2, hy3⟩ := id lv6
    have dl : due.length = lv.length := pm6.length_eq
    refine ⟨_, rfl, p, _, rfl, .inl (.inl (.inl hy1)), _, rfl, by omega, by rw [List.length_map, hy2, dl]; omega, fun D hD => ?_⟩
    have em : ((((ys.map V.ref).length : Nat) : Int)).toNat = lv.length := by rw [List.length_map, hy2, dl]; omega
    rw [em]
    refine lc_it walk_range (fun i H' => Gr T [] H6 H' ∧ LvAt H' D ((List.range i).map (dvals ns.length t))) ⟨.new hD, [], upd_same, rfl, fun _ _ z => by simp at z⟩ (fun _ _ _ _ => True.intro) (fun i v H7 H8 hi ⟨g, hl⟩ ⟨e, ev⟩ => ?_) fun H7 ⟨g, hl⟩ => ?_
    · have ev : v = V.int (i : Int) := by
        rw [ev]
        show V.int (0 + (i : Int)) = _
        rw [Int.zero_add]
      subst e ev
      refine ⟨rfl, _, rfl, _, rfl, _, rfl, a, ns, t, i, rfl, (g06.trans g.wk).tab hT, pa6.gr g, by omega, by omega, by omega, fun H9 q9 g9 h90 h9 => ?_⟩
      rw [res_vals nd] at h9
      obtain ⟨rs, r1, r2, r3⟩ := (hl.gr g9).snoc h9
      refine ⟨_, r1, ?_, (g.trans g9).ownL hD r1, ?_⟩
      · rw [List.length_map, r2, List.length_map, List.length_range]
        exact small1000 (by omega)
      · rw [List.range_succ, List.map_append]
        exact r3
    · dsimp only [tNil]
      refine sort_lv (d := ns.length) hl (by omega) (fun ps hps => ?_) fun H8 p2 due2 g8 hp20 lv8 pm8 pw8 => ?_
      · obtain ⟨k, _, rfl⟩ := List.mem_map.mp hps
        unfold dvals fr
        rw [List.length_map, List.length_ofFn]
      · have e2 : due2 = due := List.Perm.eq_of_pairwise (fun _ _ _ _ h1 h2 => tle_anti h1 h2) pw8 pw6 ((pm8.trans pm0).trans pm6.symm)
        subst e2
        refine ⟨_, rfl, eq_lv lv8 ((lv6.gr g).gr (g8 T)) ?_⟩
        have gg := g.trans (g8 T)
        exact q _ (g06.trans gg.wk) (s6.gr gg)
end Rw
set_option maxHeartbeats 4000000
/-! The law's defs: _law_w_odd_paths. -/
namespace Rw
open PySem PySem.Spec PyProof.Rows L2 LamX NdefX
variable {P : Program} {w : World} {K : PySem.W.Frag} {mg : Str → Option Value} {base : Heap} {T : List NTab}
def spOddP (T : List NTab) : Sp := fun vs H Q _ => ∃ (nl : Addr) (ns : List Str), vs = [.ref nl] ∧ H nl = some (.lst (ns.map V.str)) ∧ ns.length ≤ 100 ∧
  ∀ (H' : Hp) (p l d a b : Addr), Gr T [] H H' → H p = none → H' p = some (.lst [.non, .int 5, .str "ab", .ref l, .ref d, .bl true, .ref a, .ref b]) → H' l = some (.lst []) → H' d = some (.dK []) → H' a = some (.lst (ns.map V.str)) → H' b = some (.tup (ns.map V.str)) → Q (.ref p) H'
theorem sc97 : FnScope ["_law_names"] ["_law_names"] (defScope (top 97)) := ⟨rfl, rfl, rfl, by decide +kernel, rfl, by decide +kernel, by decide +kernel⟩
theorem ok_odd_paths (M : Mo K mg) : Gd P w K mg base 1 "_law_w_odd_paths" ["_law_names"] (spOddP T) := by
  refine gd_of (M.df "_law_w_odd_paths" 97) sc97 (fun F => F.bindsN fun _ _ _ _ _ _ us hl => match us, hl with | [_], _ => rfl) (fun vs H Q E h => ?_) fun cdv A outer s H vs Q E hr h => ⟨_, (pss_one (ps_ret (pe_lst (pa_cons pe_non (pa_cons pe_int (pa_cons pe_str (pa_cons (pe_lst pa_nil) (pa_cons pe_dnewK (pa_cons pe_bl (pa_cons (pe_callTy call_list_of rfl (M.fr "list") (by decide +kernel) (pa_cons (pv 0) pa_nil)) (pa_cons (pe_callTy call_tuple_of rfl (M.fr "tuple") (by decide +kernel) (pa_cons (pv 0) pa_nil)) pa_nil))))))))))), ?_⟩
  · obtain ⟨nl, ns, rfl, _⟩ := h
    rfl
  · obtain ⟨nl, ns, rfl, hn, hl, q⟩ := h
    have gl : ∀ {X : Hp} {x y : Addr} {o u : HO}, X x = some o → X y = none → upd X y u x = some o := fun {X x y o u} h1 h2 => (upd_ne (fun z => by rw [z, h2] at h1; cases h1)).trans h1
    refine ⟨szl, fun l hl => fun d hd => ⟨_, rfl, nl, _, rfl, .inl (.inl (.inl (gl (gl hn hl) hd))), fun a ha => ⟨_, rfl, nl, _, rfl, .inl ⟨.inl (.inl (gl (gl (gl hn hl) hd) ha)), fun b hb => ⟨szl, fun p hp => ?_⟩⟩⟩⟩⟩
    exact q _ p l d a b (((((Gr.new hl).trans (.new hd)).trans (.new ha)).trans (.new hb)).trans (.new hp)) (upd_none (upd_none (upd_none (upd_none hp)))) upd_same (gl (gl (gl (gl upd_same hd) ha) hb) hp) (gl (gl (gl upd_same ha) hb) hp) (gl (gl upd_same hb) hp) (gl upd_same hp)
end Rw
set_option maxHeartbeats 4000000
/-! The law's defs: _law_refused_right. -/
namespace Rw
open PySem PySem.Spec PyProof.Rows L2 LamX NdefX
variable {P : Program} {w : World} {K : PySem.W.Frag} {mg : Str → Option Value} {base : Heap} {T : List NTab}
/-- behind a turn: what was met is what is due -/
theorem turn_end (M : Mo K mg) (I : Is K) (D : Md K mg) (Y : Mt K) (N : Mx K) (Z : Mz K) {C : Addr → Prop} {hp : Heap} {H2 H3 : Hp} {p : Addr} {word : Str} {x : V} (l : Loose C hp H2) (g3 : Gr T [] (frzH C hp H2) H3) (hp3 : H3 p = some (.tup [.str word, x])) (th : Thing K H2 x) :
    Gr T [] H2 (Rw.thw C H3) ∧ Rw.thw C H3 p = some (.tup [.str word, x]) ∧ ∀ p2, Rw.thw C H3 p2 = none → Sm P w K T 4 (upd (Rw.thw C H3) p2 (.tup [.str word, x])) (.ref p) (.ref p2) := by
  have g4 : Gr T [] H2 (Rw.thw C H3) := Gr.thw l g3
  have l3 : Lkd C H3 := fun b c => by
    obtain ⟨o, φ, e⟩ := l.lkd b c
    exact ⟨o, φ, g3.frz e⟩
  have hp4 := thw_keep l3 hp3 (fun _ _ z => nomatch z)
  refine ⟨g4, hp4, fun p2 hp2 => ?_⟩
  have g6 : Gr T [] (Rw.thw C H3) (upd (Rw.thw C H3) p2 (.tup [.str word, x])) := .new hp2
  refine .inr (.inl ⟨p, p2, [.str word, x], [.str word, x], rfl, rfl, .inr ⟨g6.tup hp4, upd_same⟩, rfl, (show (2 : Nat) ≤ 1000 by decide), fun i u v e1 e2 => ?_⟩)
  rw [e1] at e2
  cases e2
  rcases List.mem_cons.mp (List.mem_of_getElem? e1) with h | h
  · rw [h]
    exact Sm.flat rfl
  · rw [List.mem_singleton.mp h]
    exact ((th.gr g4).gr g6).same (n := 0) M I D Y N Z
theorem odds1 {H : Hp} {l d a b : Addr} {ns : List Str} (h1 : H l = some (.lst [])) (h2 : H d = some (.dK [])) (h3 : H a = some (.lst (ns.map V.str))) (h4 : H b = some (.tup (ns.map V.str))) (hn : ns.length ≤ 100) : ∀ v ∈ ([.non, .int 5, .str "ab", .ref l, .ref d, .bl true, .ref a, .ref b] : List V), Data H v := by
  intro v hv
  have hv' : v = .non ∨ v = .int 5 ∨ v = .str "ab" ∨ v = .ref l ∨ v = .ref d ∨ v = .bl true ∨ v = .ref a ∨ v = .ref b := by simpa using hv
  rcases hv' with rfl | rfl | rfl | rfl | rfl | rfl | rfl | rfl
  · exact .inl rfl
  · exact .inl rfl
  · exact .inl rfl
  · exact .inr ⟨_, rfl, .inl ⟨_, .inl h1, by decide, rfl⟩⟩
  · exact .inr ⟨_, rfl, .inr ⟨_, h2, by decide, fun p hp => nomatch hp⟩⟩
  · exact .inl rfl
  · exact .inr ⟨_, rfl, .inl ⟨_, .inl h3, by rw [List.length_map]; omega, flat_strs ns⟩⟩
  · exact .inr ⟨_, rfl, .inl ⟨_, .inr h4, by rw [List.length_map]; omega, flat_strs ns⟩⟩
theorem odds2 {H : Hp} {l d t : Addr} (h1 : H l = some (.lst [.int 3])) (h2 : H d = some (.dK [])) (h3 : H t = some (.tup [])) : ∀ v ∈ ([.non, .int (-1), .bl true, .str "3", .ref l, .ref d, .ref t] : List V), Data H v ∧ ∀ i, v = .int i → i < 0 := by
  intro v hv
  have hv' : v = .non ∨ v = .int (-1) ∨ v = .bl true ∨ v = .str "3" ∨ v = .ref l ∨ v = .ref d ∨ v = .ref t := by simpa using hv
  rcases hv' with rfl | rfl | rfl | rfl | rfl | rfl | rfl
  · exact ⟨.inl rfl, fun i z => nomatch z⟩
  · exact ⟨.inl rfl, fun i z => by cases z; decide⟩
  · exact ⟨.inl rfl, fun i z => nomatch z⟩
  · exact ⟨.inl rfl, fun i z => nomatch z⟩
  · exact ⟨.inr ⟨_, rfl, .inl ⟨_, .inl h1, by decide, rfl⟩⟩, fun i z => nomatch z⟩
  · exact ⟨.inr ⟨_, rfl, .inr ⟨_, h2, by decide, fun p hp => nomatch hp⟩⟩, fun i z => nomatch z⟩
  · exact ⟨.inr ⟨_, rfl, .inl ⟨_, .inr h3, by decide, rfl⟩⟩, fun i z => nomatch z⟩
theorem odds3 {H : Hp} {l t d a k e x : Addr} {ns : List Str} (h1 : H l = some (.lst [])) (h2 : H t = some (.tup [])) (h3 : H d = some (.dK [])) (h4 : PathAt K H a ns) (h5 : DeskAt K H k) (h6 : ExAt H e (He.ga K "BadTotal") x [("total", .int 5)]) : ∀ v ∈ ([.non, .int 5, .str "ab", .ref l, .ref t, .ref d, .bl true, .ref a, .ref k, .ref e] : List V), Thing K H v := by
  intro v hv
  have hv' : v = .non ∨ v = .int 5 ∨ v = .str "ab" ∨ v = .ref l ∨ v = .ref t ∨ v = .ref d ∨ v = .bl true ∨ v = .ref a ∨ v = .ref k ∨ v = .ref e := by simpa using hv
  rcases hv' with rfl | rfl | rfl | rfl | rfl | rfl | rfl | rfl | rfl | rfl
  · exact .inl rfl
  · exact .inl rfl
  · exact .inl rfl
  · exact .inr ⟨_, rfl, .inl ⟨_, .inl h1, by decide, rfl⟩⟩
  · exact .inr ⟨_, rfl, .inl ⟨_, .inr h2, by decide, rfl⟩⟩
  · exact .inr ⟨_, rfl, .inr (.inl ⟨_, h3, by decide, fun p hp => nomatch hp⟩)⟩
  · exact .inl rfl
  · exact .inr ⟨_, rfl, .inr (.inr (.inl ⟨_, h4⟩))⟩
  · exact .inr ⟨_, rfl, .inr (.inr (.inr (.inl h5)))⟩
  · exact .inr ⟨_, rfl, .inr (.inr (.inr (.inr ⟨_, _, h6⟩)))⟩
def ab : List Str := ["a", "b"]
theorem ab_ok : NsOk ab := ⟨by decide +kernel, by decide, by decide, by decide +kernel⟩
def spRefRight (T : List NTab) : Sp := fun vs H Q _ => ∃ (st big : Addr) (n : Nat), vs = [.ref st] ∧ TabsN T H ∧ StrmAt (n + 24) st big H ∧ ∀ H', Gr T [st, big] H H' → Q (.bl true) H'
theorem sc108 : FnScope ["_law_stream", "_law_names", "_law_found", "_law_held", "_law_odd", "_law_path"] ["_law_stream"] (defScope (top 108)) := ⟨rfl, rfl, rfl, by decide +kernel, rfl, by decide +kernel, by decide +kernel⟩
theorem ok_refused_right (A0 : All P K mg base T) : Gd P w K mg base 12 "_law_refused_right" ["_law_stream"] (spRefRight T) := by
  obtain ⟨M, X, I, Tbl, L, D, N, Y, Z, fty⟩ := id A0
  obtain ⟨fI, fdI, mkI, FI, hbI⟩ := ok_init (P := P) (w := w) (base := base) (T := T) M L
  obtain ⟨fD, fdD, mkD, FD, hbD⟩ := ok_dinit (P := P) (w := w) (base := base) (T := T) M X I D
  obtain ⟨fT, FT⟩ := X.total.ex
  refine gd_ofT (M.df "_law_refused_right" 108) sc108 (fun F => F.bindsN fun _ _ _ _ _ _ us hl => match us, hl with | [_], _ => rfl) (fun vs H Q E h => ?_) fun A outer s H vs Q E hr h => ⟨_, (pss_cons (ps_set (i := 1) sc108.nd rfl (Or.inl rfl) (pe_gd (ok_names (T := T) M) hr (by decide) rfl passL (pa_cons (pv 0) (pa_cons pe_int (pa_cons pe_int pa_nil))))) (pss_cons (ps_set (i := 5) sc108.nd rfl (Or.inr rfl) (pe_gd (ok_w_path (T := T) M L) hr (by decide) rfl passL (pa_cons (pv 0) (pa_cons (pv 1) pa_nil)))) (pss_cons (ps_for (passes_of rfl) rfl (pi_list (pe_gd (ok_odd_paths (T := T) M) hr (by decide) rfl passL (pa_cons (pv 1) pa_nil))) (pg_name (i := 4) sc108.nd rfl (Or.inr rfl)) (pss_one (ps_if (pt_not (pt_val (pe_gd (ok_same (T := T) M I D N 4) hr (by decide) rfl passL (pa_cons (pe_gdZ (fun _ => rfl) (ok_met M X Y) hr (by decide) rfl passL (pa_cons (pe_lam (T := T) (Tbl.t "_law_refused_right") rfl (Tbl.m "_law_refused_right") (by kernel_rfl) Tbl.u (ndef_free (fr := ["_law_odd"]) (by kernel_rfl)) rfl) pa_nil)) (pa_cons (pe_tup (pa_cons pe_str (pa_cons (pv 4) pa_nil))) pa_nil))))) (pss_one (ps_ret pe_bl)) pss_nil))) (pss_cons (ps_for (passes_of rfl) rfl (pi_tup (pe_tup (pa_cons pe_non (pa_cons (pe_un un_neg pe_int) (pa_cons pe_bl (pa_cons pe_str (pa_cons (pe_lst (pa_cons pe_int pa_nil)) (pa_cons pe_dnewK (pa_cons (pe_tup pa_nil) pa_nil))))))))) (pg_name (i := 4) sc108.nd rfl (Or.inr rfl)) (pss_one (ps_if (pt_not (pt_val (pe_gd (ok_same (T := T) M I D N 4) hr (by decide) rfl passL (pa_cons (pe_gdZ (fun _ => rfl) (ok_met M X Y) hr (by decide) rfl passL (pa_cons (pe_lam (T := T) (Tbl.t "_law_refused_right") rfl (Tbl.m "_law_refused_right") (by kernel_rfl) Tbl.u (ndef_free (fr := ["_law_odd", "_law_path"]) (by kernel_rfl)) rfl) pa_nil)) (pa_cons (pe_tup (pa_cons pe_str (pa_cons (pv 4) pa_nil))) pa_nil))))) (pss_one (ps_ret pe_bl)) pss_nil))) (pss_cons (ps_for (passes_of rfl) rfl (pi_tup (pe_tup (pa_cons pe_non (pa_cons pe_int (pa_cons pe_str (pa_cons (pe_lst pa_nil) (pa_cons (pe_tup pa_nil) (pa_cons pe_dnewK (pa_cons pe_bl (pa_cons (pv 5) (pa_cons (pe_make (E := E0) mkD FD (hr.mono (by decide)) rfl (M.gl "Desk") hbD .nil passL (pa_cons (pe_make (E := E0) mkI FI (hr.mono (by decide)) rfl (M.gl "Path") hbI .nil passL (pa_cons (pe_lst (pa_cons pe_str (pa_cons pe_str pa_nil))) pa_nil)) pa_nil)) (pa_cons (pe_newX FT.oex FT.iC FT.tI (init19 X FT) (hr.mono (by decide)) passL rfl X.total.gl (pa_cons pe_int pa_nil)) pa_nil)))))))))))) (pg_name (i := 4) sc108.nd rfl (Or.inr rfl)) (pss_one (ps_if (pt_not (pt_val (pe_gd (ok_same (T := T) M I D N 4) hr (by decide) rfl passL (pa_cons (pe_gdZ (fun _ => rfl) (ok_met M X Y) hr (by decide) rfl passL (pa_cons (pe_lam (T := T) (Tbl.t "_law_refused_right") rfl (Tbl.m "_law_refused_right") (by kernel_rfl) Tbl.u (ndef_free (fr := ["_law_odd", "_law_path"]) (by kernel_rfl)) rfl) pa_nil)) (pa_cons (pe_tup (pa_cons pe_str (pa_cons (pv 4) pa_nil))) pa_nil))))) (pss_one (ps_ret pe_bl)) pss_nil))) (pss_cons (ps_set (i := 3) sc108.nd rfl (Or.inr rfl) (pe_lst (pa_cons pe_int pa_nil))) (pss_cons (ps_set (i := 2) sc108.nd rfl (Or.inl rfl) (pe_gdZ (fun _ => rfl) (ok_met M X Y) hr (by decide) rfl passL (pa_cons (pe_lam (T := T) (Tbl.t "_law_refused_right") rfl (Tbl.m "_law_refused_right") (by kernel_rfl) Tbl.u (ndef_free (fr := ["_law_held", "_law_path"]) (by kernel_rfl)) rfl) pa_nil))) (pss_cons (ps_expr (pe_bm PySem.F.plainAttrs_list PySem.F.slot_list_append PySem.F.type_list_append mt_append (pv 3) (pa_cons pe_str pa_nil))) (pss_one (ps_ret (pe_gd (ok_same (T := T) M I D N 4) hr (by decide) rfl passL (pa_cons (pv 2) (pa_cons (pe_tup (pa_cons pe_str (pa_cons (pe_lst (pa_cons pe_int (pa_cons pe_str pa_nil))) pa_nil))) pa_nil))))))))))))), ?_⟩
  · obtain ⟨st, big, n, rfl, _⟩ := h
    rfl
  · obtain ⟨st, big, n, rfl, hT, hs, q⟩ := h
    refine ⟨_, rfl, st, big, n + 1, 2, 6, rfl, hs, by decide, by decide, fun H1 np ns g1 s1 hn0 hn nd l2 l6 mem => ?_⟩
    have nok : NsOk ns := ⟨nd, l2, by omega, fun x hx => names_ok x (mem x hx)⟩
    refine ⟨_, rfl, _, rfl, st, big, np, n, ns, rfl, s1, hn, hs.ne hn0, nok, fun H2 a g2 s2 ha0 pa => ?_⟩
    have g02 := g1.trans g2
    have hn2 := g2.lst hn (hs.ne hn0)
    have hT2 := g02.tab hT
    refine ⟨_, rfl, np, ns, rfl, hn2, by omega, fun H3 p l d la tb g3 hp0 hp hl hd hla htb => ?_⟩
    refine ⟨p, rfl, ⟨_, .inl (.inl hp)⟩, ?_⟩
    have g03 := g02.trans g3.wk
    refine for_it (walk_list (xs := [.non, .int 5, .str "ab", .ref l, .ref d, .bl true, .ref la, .ref tb])) (fun i σ H' => Gr T [] H3 H' ∧ ∃ z, σ = [some (.ref st), some (.ref np), none, none, z, some (.ref a)]) ⟨.refl _, none, rfl⟩ (fun i σ H' _ h => .inl (.inl (h.1.lst hp (fun z => nomatch z)))) (fun i x σ Ha Hb hi ⟨g, z, e⟩ ⟨y1, y2⟩ => ?_) ?_
    · subst e y1
      have dx := (odds1 hl hd hla htb (by omega) x (List.mem_of_getElem? y2)).gr g
      have hTa := (g3.trans g).tab hT2
      refine ⟨hTa, fun f1 c1 Hc gc hf1 f1' fc1 => ?_⟩
      refine with_F f1' fun F1 hF1 f1' => ?_
      intro hp z
      have fv1 : Fv P w K mg base (L2.CX P w) 10 (CfH f1 F1 ["_law_odd"] [x]) f1 0 (spRaise K T "BadPath" "thing" x (fun H => Data H x)) := by
        subst hF1
        refine fv_expr (k := 9) (N := ["_law_odd"]) (ps := []) (spb := spRaise K T "BadPath" "thing" x (fun H => Data H x)) rfl (nscope_by (by kernel_rfl)) (fun _ _ _ us hl => match us, hl with | [], _ => rfl) raise_len (raise_link fun H l c g1 => g1.thw l) (fun A outer s H vs Q E hr hl h => ⟨_, (pe_gd (ok_drawn_stand (T := T) M X I Tbl) hr (by decide) rfl (passes_call (takes_of rfl rfl rfl rfl) fun _ _ _ _ z => z) (pa_cons (pv 0) (pa_cons pe_non (pa_cons pe_non pa_nil)))), ?_⟩)
        obtain ⟨rfl, dx, k⟩ := h
        exact ⟨_, rfl, x, .non, .non, rfl, .inl ⟨dx.badP Z, thrown_of k⟩⟩
      refine met_raise (T := T) (c := "BadPath") (fld := "thing") (word := "path") (x := x) fv1 ?_ (by decide) ((dx.gr gc).frz z.loose) fun Hd p' gd _ hp3 => ?_
      · subst hF1
        exact ⟨z.loose.frz f1', z.loose.frz fc1, cap_frz (js := [4]) z (by kernel_rfl) (free_cell (by kernel_rfl)) rfl rfl⟩
      · obtain ⟨e1, _, e3⟩ := turn_end (P := P) (w := w) M I D Y N Z z.loose gd hp3 (dx.gr gc).thing
        dsimp only
        generalize Rw.thw (CellOf _) Hd = He at e1 e3 ⊢
        exact ⟨_, rfl, szl, fun p2 hp2 => ⟨_, _, rfl, e3 p2 hp2, fun H5 g5 => ⟨_, rfl, ((g.trans gc).trans e1).trans ((Gr.new hp2).trans g5), _, rfl⟩⟩⟩
    · rintro σ H4 ⟨g, z, rfl⟩
      clear hp hp0 hl hd hla htb
      have g04 := g03.trans g.wk
      have hT4 := g04.tab hT
      have pa4 := (pa.gr g3).gr g
      clear g3 g g03 hT2
      refine ⟨1, rfl, szl, fun q0 hq0 => fun d0 hd0 => ⟨szl, fun t0 ht0 => ⟨szl, fun tt htt => ?_⟩⟩⟩
      have gl : ∀ {X : Hp} {x y : Addr} {o u : HO}, X x = some o → X y = none → upd X y u x = some o := fun {X x y o u} h1 h2 => (upd_ne (fun z => by rw [z, h2] at h1; cases h1)).trans h1
      have e0 := gl (u := .tup [.non, .int (-1), .bl true, .str "3", .ref q0, .ref d0, .ref t0]) (gl (u := .tup []) (gl (u := .dK []) (upd_same (H := H4) (a := q0) (o := .lst [.int 3])) hd0) ht0) htt
      have e1 := gl (u := .tup [.non, .int (-1), .bl true, .str "3", .ref q0, .ref d0, .ref t0]) (gl (u := .tup []) (upd_same (a := d0) (o := .dK [])) ht0) htt
      have e2 := gl (u := .tup [.non, .int (-1), .bl true, .str "3", .ref q0, .ref d0, .ref t0]) (upd_same (a := t0) (o := .tup [])) htt
      have e3 : upd (upd (upd (upd H4 q0 (.lst [.int 3])) d0 (.dK [])) t0 (.tup [])) tt (.tup [.non, .int (-1), .bl true, .str "3", .ref q0, .ref d0, .ref t0]) tt = some (.tup [.non, .int (-1), .bl true, .str "3", .ref q0, .ref d0, .ref t0]) := upd_same
      have g5 : Gr T [] H4 (upd (upd (upd (upd H4 q0 (.lst [.int 3])) d0 (.dK [])) t0 (.tup [])) tt (.tup [.non, .int (-1), .bl true, .str "3", .ref q0, .ref d0, .ref t0])) := (((Gr.new hq0).trans (.new hd0)).trans (.new ht0)).trans (.new htt)
      refine ⟨tt, rfl, ⟨[.non, .int (-1), .bl true, .str "3", .ref q0, .ref d0, .ref t0], .inl (.inl e3)⟩, ?_⟩
      change ∃ W : Nat → Nat → L2.St → Hp → Prop, (∃ m', W 0 m' _ (upd (upd (upd (upd H4 q0 (.lst [.int 3])) d0 (.dK [])) t0 (.tup [])) tt (.tup [.non, .int (-1), .bl true, .str "3", .ref q0, .ref d0, .ref t0]))) ∧ _
      generalize upd (upd (upd (upd H4 q0 (.lst [.int 3])) d0 (.dK [])) t0 (.tup [])) tt (.tup [.non, .int (-1), .bl true, .str "3", .ref q0, .ref d0, .ref t0]) = H5 at e0 e1 e2 e3 g5 ⊢
      clear hq0 hd0 ht0 htt gl
      refine for_it (walk_tup (xs := [.non, .int (-1), .bl true, .str "3", .ref q0, .ref d0, .ref t0])) (fun i σ H' => Gr T [] H5 H' ∧ ∃ z, σ = [some (.ref st), some (.ref np), none, none, z, some (.ref a)]) ⟨.refl _, z, rfl⟩ (fun i σ H' _ h => .inl (.inl (h.1.tup e3))) (fun i x σ Ha Hb hi ⟨g, z, e⟩ ⟨y1, y2⟩ => ?_) ?_
      · subst e y1
        obtain ⟨dx, ix⟩ := odds2 e0 e1 e2 x (List.mem_of_getElem? y2)
        have dx := dx.gr g
        have gA := g5.trans g
        have paA := pa4.gr gA
        have hTa := gA.tab hT4
        refine ⟨hTa, fun f1 c1 Hc gc hf1 f1' fc1 => ?_⟩
        refine with_F f1' fun F1 hF1 f1' => ?_
        intro hp z
        have fv1 : Fv P w K mg base (L2.CX P w) 10 (CfH f1 F1 ["_law_odd", "_law_path"] [x, .ref a]) f1 0 (spRaise K T "BadTotal" "total" x (fun H => Data H x ∧ PathAt K H a ns)) := by
          subst hF1
          refine fv_expr (k := 9) (N := ["_law_odd", "_law_path"]) (ps := []) (spb := spRaise K T "BadTotal" "total" x (fun H => Data H x ∧ PathAt K H a ns)) rfl (nscope_by (by kernel_rfl)) (fun _ _ _ us hl => match us, hl with | [], _ => rfl) raise_len (raise_link fun H l c g1 => ⟨g1.1.thw l, g1.2.thw l⟩) (fun A outer s H vs Q E hr hl h => ⟨_, (pe_gd (ok_drawn_stand (T := T) M X I Tbl) hr (by decide) rfl (passes_call (takes_of rfl rfl rfl rfl) fun _ _ _ _ z => z) (pa_cons (pv 1) (pa_cons (pv 0) (pa_cons pe_non pa_nil)))), ?_⟩)
          obtain ⟨rfl, ⟨dx, pa⟩, k⟩ := h
          exact ⟨_, rfl, _, rfl, .ref a, x, .non, rfl, .inr ⟨a, ns, rfl, pa, .inl ⟨dx.notNum ix, thrown_of k⟩⟩⟩
        refine met_raise (T := T) (c := "BadTotal") (fld := "total") (word := "total") (x := x) fv1 ?_ (by decide) ⟨(dx.gr gc).frz z.loose, (paA.gr gc).frz z.loose⟩ fun Hd p' gd _ hp3 => ?_
        · subst hF1
          exact ⟨z.loose.frz f1', z.loose.frz fc1, cap_frz (js := [4, 5]) z (by kernel_rfl) (free_cell (by kernel_rfl)) rfl rfl⟩
        · obtain ⟨e1, _, e3⟩ := turn_end (P := P) (w := w) M I D Y N Z z.loose gd hp3 (dx.gr gc).thing
          dsimp only
          generalize Rw.thw (CellOf _) Hd = He at e1 e3 ⊢
          exact ⟨_, rfl, szl, fun p2 hp2 => ⟨_, _, rfl, e3 p2 hp2, fun H5 g5 => ⟨_, rfl, ((g.trans gc).trans e1).trans ((Gr.new hp2).trans g5), _, rfl⟩⟩⟩
      · rintro σ H6 ⟨g, z2, rfl⟩
        clear e0 e1 e2 e3
        have g06 := (g04.trans g5.wk).trans g.wk
        have hT6 := g06.tab hT
        have pa6 := (pa4.gr g5).gr g
        clear g5 g g04 hT4 pa4
        refine ⟨szl, fun q1 hq1 => ⟨szl, fun q2 hq2 => fun q3 hq3 => ⟨_, rfl, szl, fun l hl => fun x dx hx hdx ne => ?_⟩⟩⟩
        have gl : ∀ {X : Hp} {x y : Addr} {o u : HO}, X x = some o → X y = none → upd X y u x = some o := fun {X x y o u} h1 h2 => (upd_ne (fun z => by rw [z, h2] at h1; cases h1)).trans h1
        have e0 := gl (u := .lst (ab.map V.str)) (gl (u := .dK []) (gl (u := .tup []) (upd_same (H := H6) (a := q1) (o := .lst [])) hq2) hq3) hl
        have e1 := gl (u := .lst (ab.map V.str)) (gl (u := .dK []) (upd_same (a := q2) (o := .tup [])) hq3) hl
        have e2 := gl (u := .lst (ab.map V.str)) (upd_same (a := q3) (o := .dK [])) hl
        have e3 : upd (upd (upd (upd H6 q1 (.lst [])) q2 (.tup [])) q3 (.dK [])) l (.lst (ab.map V.str)) l = some (.lst (ab.map V.str)) := upd_same
        have g7 : Gr T [] H6 (upd (upd (upd (upd H6 q1 (.lst [])) q2 (.tup [])) q3 (.dK [])) l (.lst (ab.map V.str))) := (((Gr.new hq1).trans (.new hq2)).trans (.new hq3)).trans (.new hl)
        refine ⟨upd (upd (upd (upd H6 q1 (.lst [])) q2 (.tup [])) q3 (.dK [])) l (.lst (ab.map V.str)), x, dx, l, ab, rfl, rfl, hx, hdx, ne, .inl e3, ab_ok, fun HP gP paP => ⟨rfl, fun y dy hy hdy ney => ⟨HP, y, dy, x, ab, rfl, rfl, hy, hdy, ney, paP, fun HD gD daD => ⟨rfl, _, rfl, fun e de HE ext he0 ex => ⟨szl, fun tt htt => ?_⟩⟩⟩⟩⟩
        have gE := (gP.trans gD).trans (Gr.of_ext (T := T) (B := []) ext)
        have gt : Gr T [] HE (upd HE tt (.tup [.non, .int 5, .str "ab", .ref q1, .ref q2, .ref q3, .bl true, .ref a, .ref y, .ref e])) := .new htt
        have gZ := gE.trans gt
        have th : ∀ v ∈ ([.non, .int 5, .str "ab", .ref q1, .ref q2, .ref q3, .bl true, .ref a, .ref y, .ref e] : List V), Thing K (upd HE tt (.tup [.non, .int 5, .str "ab", .ref q1, .ref q2, .ref q3, .bl true, .ref a, .ref y, .ref e])) v :=
          odds3 (gZ.lst e0 (fun z => nomatch z)) (gZ.tup e1) (gZ.dK e2) (pa6.gr (g7.trans gZ)) ((daD.gr (Gr.of_ext (T := T) (B := []) ext)).gr gt) (ex.gr gt)
        have e4 : upd HE tt (.tup [.non, .int 5, .str "ab", .ref q1, .ref q2, .ref q3, .bl true, .ref a, .ref y, .ref e]) tt = some (.tup [.non, .int 5, .str "ab", .ref q1, .ref q2, .ref q3, .bl true, .ref a, .ref y, .ref e]) := upd_same
        have g8 := g7.trans gZ
        refine ⟨tt, rfl, ⟨[.non, .int 5, .str "ab", .ref q1, .ref q2, .ref q3, .bl true, .ref a, .ref y, .ref e], .inl (.inl e4)⟩, ?_⟩
        change ∃ W : Nat → Nat → L2.St → Hp → Prop, (∃ m', W 0 m' _ (upd HE tt (.tup [.non, .int 5, .str "ab", .ref q1, .ref q2, .ref q3, .bl true, .ref a, .ref y, .ref e]))) ∧ _
        generalize upd HE tt (.tup [.non, .int 5, .str "ab", .ref q1, .ref q2, .ref q3, .bl true, .ref a, .ref y, .ref e]) = H7 at th e4 g8 ⊢
        clear gZ gt gE g7 e0 e1 e2 e3 ex ext daD paP gP gD hq1 hq2 hq3 hl hx hdx hy hdy htt he0 gl ney ne
        have pa7 := pa6.gr g8
        have hT7 := g8.tab hT6
        have g07 := g06.trans g8.wk
        refine for_it (walk_tup (xs := [.non, .int 5, .str "ab", .ref q1, .ref q2, .ref q3, .bl true, .ref a, .ref y, .ref e])) (fun i σ H' => Gr T [] H7 H' ∧ ∃ z, σ = [some (.ref st), some (.ref np), none, none, z, some (.ref a)]) ⟨.refl _, z2, rfl⟩ (fun i σ H' _ h => .inl (.inl (h.1.tup e4))) (fun i x σ Ha Hb hi ⟨g, z, e⟩ ⟨y1, y2⟩ => ?_) ?_
        · subst e y1
          have dx := (th x (List.mem_of_getElem? y2)).gr g
          have paA := pa7.gr g
          have hTa := g.tab hT7
          refine ⟨hTa, fun f1 c1 Hc gc hf1 f1' fc1 => ?_⟩
          refine with_F f1' fun F1 hF1 f1' => ?_
          intro hp z
          have fv1 : Fv P w K mg base (L2.CX P w) 10 (CfH f1 F1 ["_law_odd", "_law_path"] [x, .ref a]) f1 0 (spRaise K T "BadChooser" "thing" x (fun H => Thing K H x ∧ PathAt K H a ns)) := by
            subst hF1
            refine fv_expr (k := 9) (N := ["_law_odd", "_law_path"]) (ps := []) (spb := spRaise K T "BadChooser" "thing" x (fun H => Thing K H x ∧ PathAt K H a ns)) rfl (nscope_by (by kernel_rfl)) (fun _ _ _ us hl => match us, hl with | [], _ => rfl) raise_len (raise_link fun H l c g1 => ⟨g1.1.thw l, g1.2.thw l⟩) (fun A outer s H vs Q E hr hl h => ⟨_, (pe_gd (ok_drawn_stand (T := T) M X I Tbl) hr (by decide) rfl (passes_call (takes_of rfl rfl rfl rfl) fun _ _ _ _ z => z) (pa_cons (pv 1) (pa_cons pe_int (pa_cons (pv 0) pa_nil)))), ?_⟩)
            obtain ⟨rfl, ⟨dx, pa⟩, k⟩ := h
            exact ⟨_, rfl, _, rfl, .ref a, .int 3, x, rfl, .inr ⟨a, ns, rfl, pa, .inr ⟨3, rfl, by decide, .inl ⟨dx.badC M I D Y N Z, thrown_of k⟩⟩⟩⟩
          refine met_raise (T := T) (c := "BadChooser") (fld := "thing") (word := "chooser") (x := x) fv1 ?_ (by decide) ⟨(dx.gr gc).frz z.loose, (paA.gr gc).frz z.loose⟩ fun Hd p' gd _ hp3 => ?_
          · subst hF1
            exact ⟨z.loose.frz f1', z.loose.frz fc1, cap_frz (js := [4, 5]) z (by kernel_rfl) (free_cell (by kernel_rfl)) rfl rfl⟩
          · obtain ⟨e1, _, e3⟩ := turn_end (P := P) (w := w) M I D Y N Z z.loose gd hp3 (dx.gr gc)
            dsimp only
            generalize Rw.thw (CellOf _) Hd = He at e1 e3 ⊢
            exact ⟨_, rfl, szl, fun p2 hp2 => ⟨_, _, rfl, e3 p2 hp2, fun H5 g5 => ⟨_, rfl, ((g.trans gc).trans e1).trans ((Gr.new hp2).trans g5), _, rfl⟩⟩⟩
        · rintro σ H8 ⟨g, z3, rfl⟩
          have g08 := g07.trans g.wk
          have hT8 := g08.tab hT
          have pa8 := pa7.gr g
          clear g g07 hT7 pa7 th e4 g8 g06 hT6 pa6
          refine ⟨szl, fun hl hh => ?_⟩
          have g9 : Gr T [] H8 (upd H8 hl (.lst [.int 5])) := .new hh
          have e9 : upd H8 hl (.lst [.int 5]) hl = some (.lst [.int 5]) := upd_same
          have hlH : H hl = none := g08.mono _ hh
          generalize upd H8 hl (.lst [.int 5]) = H9 at g9 e9 ⊢
          refine ⟨g9.tab hT8, fun f1 c1 Hc gc hf1 f1' fc1 => ?_⟩
          refine with_F f1' fun F1 hF1 f1' => ?_
          intro hp z
          have dx : Thing K Hc (.ref hl) := .inr ⟨hl, rfl, .inl ⟨_, .inl (gc.lst e9 (fun z => nomatch z)), by decide, rfl⟩⟩
          have fv1 : Fv P w K mg base (L2.CX P w) 10 (CfH f1 F1 ["_law_held", "_law_path"] [.ref hl, .ref a]) f1 0 (spRaise K T "BadChooser" "thing" (.ref hl) (fun H => Thing K H (.ref hl) ∧ PathAt K H a ns)) := by
            subst hF1
            refine fv_expr (k := 9) (N := ["_law_held", "_law_path"]) (ps := []) (spb := spRaise K T "BadChooser" "thing" (.ref hl) (fun H => Thing K H (.ref hl) ∧ PathAt K H a ns)) rfl (nscope_by (by kernel_rfl)) (fun _ _ _ us hl => match us, hl with | [], _ => rfl) raise_len (raise_link fun H l c g1 => ⟨g1.1.thw l, g1.2.thw l⟩) (fun A outer s H vs Q E hr hl' h => ⟨_, (pe_gd (ok_drawn_stand (T := T) M X I Tbl) hr (by decide) rfl (passes_call (takes_of rfl rfl rfl rfl) fun _ _ _ _ z => z) (pa_cons (pv 1) (pa_cons pe_int (pa_cons (pv 0) pa_nil)))), ?_⟩)
            obtain ⟨rfl, ⟨dx, pa⟩, k⟩ := h
            exact ⟨_, rfl, _, rfl, .ref a, .int 3, .ref hl, rfl, .inr ⟨a, ns, rfl, pa, .inr ⟨3, rfl, by decide, .inl ⟨dx.badC M I D Y N Z, thrown_of k⟩⟩⟩⟩
          refine met_raise (T := T) (c := "BadChooser") (fld := "thing") (word := "chooser") (x := .ref hl) fv1 ?_ (by decide) ⟨dx.frz z.loose, ((pa8.gr g9).gr gc).frz z.loose⟩ fun Hd p' gd _ hp3 => ?_
          · subst hF1
            exact ⟨z.loose.frz f1', z.loose.frz fc1, cap_frz (js := [3, 5]) z (by kernel_rfl) (free_cell (by kernel_rfl)) rfl rfl⟩
          · obtain ⟨e1, e2, _⟩ := turn_end (P := P) (w := w) M I D Y N Z z.loose gd hp3 dx
            dsimp only
            generalize Rw.thw (CellOf _) Hd = He at e1 e2 ⊢
            have gz := gc.trans e1
            have eh := gz.lst e9 (fun z => nomatch z)
            have g10 := (g08.trans g9.wk).trans gz.wk
            refine ⟨_, rfl, .inl ⟨rfl, _, .inl (.inl eh)⟩, hl, _, _, rfl, rfl, eh, small1000 (by decide), ?_⟩
            have gF : Gr T [st, big] H (upd He hl (.lst [.int 5, .str "late"])) := g10.ownL hlH eh
            have ef : upd He hl (.lst [.int 5, .str "late"]) hl = some (.lst [.int 5, .str "late"]) := upd_same
            have ep : upd He hl (.lst [.int 5, .str "late"]) p' = some (.tup [.str "chooser", .ref hl]) := (upd_ne (fun z => by rw [z, eh] at e2; cases e2)).trans e2
            show (fun X => _) (upd He hl (.lst [.int 5, .str "late"]))
            generalize upd He hl (.lst [.int 5, .str "late"]) = HF at gF ef ep ⊢
            dsimp only
            refine ⟨_, rfl, szl, fun l2 hl2 => ⟨szl, fun t2 ht2 => ?_⟩⟩
            have gl : ∀ {X : Hp} {x y : Addr} {o u : HO}, X x = some o → X y = none → upd X y u x = some o := fun {X x y o u} h1 h2 => (upd_ne (fun z => by rw [z, h2] at h1; cases h1)).trans h1
            have k1 := gl (u := .tup [.str "chooser", .ref l2]) (gl (u := .lst [.int 5, .str "late"]) ef hl2) ht2
            have k2 := gl (u := .tup [.str "chooser", .ref l2]) (gl (u := .lst [.int 5, .str "late"]) ep hl2) ht2
            have k3 := gl (u := .tup [.str "chooser", .ref l2]) (upd_same (H := HF) (a := l2) (o := .lst [.int 5, .str "late"])) ht2
            have k4 : upd (upd HF l2 (.lst [.int 5, .str "late"])) t2 (.tup [.str "chooser", .ref l2]) t2 = some (.tup [.str "chooser", .ref l2]) := upd_same
            have gG : Gr T [] HF (upd (upd HF l2 (.lst [.int 5, .str "late"])) t2 (.tup [.str "chooser", .ref l2])) := (Gr.new hl2).trans (.new ht2)
            refine ⟨_, _, rfl, .inr (.inl ⟨p', t2, [.str "chooser", .ref hl], [.str "chooser", .ref l2], rfl, rfl, .inr ⟨k2, k4⟩, rfl, (show (2 : Nat) ≤ 1000 by decide), fun i u v q1 q2 => ?_⟩), fun H5 g5 => q H5 ((gF.trans gG.wk).trans g5.wk)⟩
            match i, q1, q2 with
            | 0, q1, q2 =>
              cases q1
              cases q2
              exact Sm.flat rfl
            | 1, q1, q2 =>
              cases q1
              cases q2
              refine .inr (.inl ⟨hl, l2, [.int 5, .str "late"], [.int 5, .str "late"], rfl, rfl, .inl ⟨k1, k3⟩, rfl, (show (2 : Nat) ≤ 1000 by decide), fun i u v q1 q2 => ?_⟩)
              rw [q1] at q2
              cases q2
              rcases List.mem_cons.mp (List.mem_of_getElem? q1) with h | h
              · rw [h]
                exact Sm.flat rfl
              · rw [List.mem_singleton.mp h]
                exact Sm.flat rfl
end Rw
set_option maxHeartbeats 4000000
/-! repr of a dict of names and numbers; calls where it is known that nothing is being shown. -/
namespace Rw
open PySem PySem.Spec PyProof.Rows L2 LamX NdefX
variable {P : Program} {w : World} {K : PySem.W.Frag} {mg : Str → Option Value} {base : Heap} {T : List NTab}
def encK : L2.Key → PyData
  | .inl i => .int i
  | .inr x => .str x
/-- the data of a dict of names -/
def dataZ (ns : List Str) (f : Str → Int) : List (PyData × PyData) := ns.map fun x => (PyData.str x, PyData.int (f x))
/-- its text -/
def showZ (ns : List Str) (f : Str → Int) : Str := PyData.shown (.dict (dataZ ns f))
theorem names_repr : ∀ x ∈ namesL, (reprText x).length ≤ 200 := by decide +kernel
theorem showZ_len {f : Str → Int} : ∀ {ns : List Str}, (∀ x ∈ ns, (reprText x).length ≤ 200) → (∀ x ∈ ns, (f x).natAbs.log2 < 100) → piled (PyData.shownKv (dataZ ns f)) ≤ 400 * ns.length
  | [], _, _ => by
    show piled [] ≤ _
    rw [piled_nil]
    omega
  | x :: r, h1, h2 => by
    have ih := showZ_len (f := f) (fun y hy => h1 y (.tail _ hy)) fun y hy => h2 y (.tail _ hy)
    have e : PyData.shownKv (dataZ (x :: r) f) = (reprText x ++ (": " : Str) ++ (Str.ofString (toString (f x)))) :: PyData.shownKv (dataZ r f) := rfl
    rw [e, piled_cons, strLen_append, strLen_append, PySem.ofString_length, PySem.ofString_length, List.length_cons]
    have q1 := h1 x (.head _)
    have q2 := int_text_length_le (k := 100) (by decide) (h2 x (.head _))
    have q3 : (": " : String).length = 2 := rfl
    omega
theorem showable_z {f : Str → Int} : ∀ {ns : List Str}, (∀ x ∈ ns, (f x).natAbs.log2 < 100) → PyData.showableKv (dataZ ns f) = true
  | [], _ => rfl
  | x :: r, h => by
    show (PyData.showable (.str x) && PyData.showable (.int (f x)) && PyData.showableKv (dataZ r f)) = true
    rw [showable_z fun y hy => h y (.tail _ hy), Bool.and_true]
    show (true && decide ((f x).natAbs.log2 < 1920)) = true
    have := h x (.head _)
    rw [decide_eq_true (by omega)]
    rfl
theorem reads_z {h : Heap} {f : Str → Int} : ∀ {ns : List Str} {vs : List (L2.Key × Value)}, KV (dz ns f) vs → PyProof.V.PairsRead h encK vs (dataZ ns f) []
  | [], _, .nil => .nil
  | x :: r, _ :: _, @Paired.cons _ _ _ _ y _ _ ⟨e1, e2⟩ t => by
    obtain ⟨k, v⟩ := y
    obtain ⟨tk, rfl⟩ := (show ∃ tk, v = Value.int (f x) tk from e2)
    obtain rfl : Sum.inr x = k := e1
    exact .cons (as := []) (bs := []) (k := Sum.inr x) (.int _ _) (reads_z t)
def rReprZ : List V → Hp → VK → Prop := fun xs H Q => ∃ (a : Addr) (ns : List Str) (f : Str → Int), xs = [.ref a] ∧ H a = some (.dK (dz ns f)) ∧ ns.length ≤ 100 ∧ (∀ x ∈ ns, x ∈ namesL) ∧ (∀ x ∈ ns, (f x).natAbs.log2 < 100) ∧ Q (.str (showZ ns f)) H
theorem call_reprZ {X : Cx} (hg : X.A.guards = some []) (hu : X.A.units + 2 < cLine) : CallR X (.builtin "repr") rReprZ := by
  intro pins s σ H xs us Q I r h
  obtain ⟨a, ns, f, rfl, ha, hl, hn, hf, q⟩ := h
  rw [Vals.ref1 r]
  obtain ⟨_, hsys, vs, rel, dof⟩ := dk_of I.hok ha
  have rd := PyProof.V.reads_dictOf (enc := encK) (fun k key hk => by
    rcases keyIs_shape hk with ⟨i, t, rfl, rfl⟩ | ⟨x, t, rfl, rfl⟩
    · exact .int _ _
    · exact .str _ _) dof (reads_z rel)
  have hsz : (PyData.shown (.dict (dataZ ns f))).length ≤ sizeLine := by
    have q1 := showZ_len (fun x hx => names_repr x (hn x hx)) hf
    show (dictText (PyData.shownKv (dataZ ns f))).length ≤ sizeLine
    have e : (dictText (PyData.shownKv (dataZ ns f))).length = 1 + (Str.join ", " (PyData.shownKv (dataZ ns f))).length + 1 := by
      unfold dictText
      rw [strLen_append, strLen_append]
      rfl
    rw [e, sizeLine_eq]
    by_cases hz : PyData.shownKv (dataZ ns f) = []
    · rw [hz]
      decide
    · have := join_length_add _ hz
      omega
  refine repr_of_reads' (d := .dict (dataZ ns f)) rd (showable_z hf) (fun _ z => ?_) hg ?_ (fun _ _ e => e) (fun h' u tk hk => ⟨.str (showZ ns f), H, I.kept hk, ⟨_, rfl⟩, q⟩) hsz
  · rw [List.mem_singleton.mp z, beq_self_eq_true] at hsys
    cases hsys
  · have e : ∀ l : List Str, PyData.depthKv (dataZ l f) = 0 := fun l => by
      induction l with
      | nil => rfl
      | cons x r ih =>
        show max (max 0 0) (PyData.depthKv (dataZ r f)) = 0
        rw [ih]
        rfl
    show X.A.units + (PyData.depthKv (dataZ ns f) + 1 + 1) < cLine
    rw [e]
    omega
end Rw
set_option maxHeartbeats 4000000
/-! Defs that run where nothing is being shown; the law's call by such a promise. -/
namespace Rw
open PySem PySem.Spec PyProof.Rows L2 LamX NdefX
/-- a promise that holds where no repr runs -/
structure FnG (P : Program) (w : World) (K : PySem.W.Frag) (mg : Str → Option Value) (base : Heap) (CX : CXT) (k : Nat) (f : Addr) (fd : FuncData) (ps : List Str) (sp : Sp) : Prop where
  lenG : ∀ vs H Q E, sp vs H Q E → vs.length = ps.length
  runG : ∀ (A : Around) (outer : List Env) (s : Shared) (H : Hp) (args : Args) (us : List Value) (vs : List V) (Q : VK) (E : XK), A.guards = some [] → Room k A → Env0 P w K mg base A outer s H → BindsTo s fd args (ps.zip us) → Vals vs us → sp vs H Q E →
    codeAny (model P w) A (.call (.ref f) args) (CR CX outer P w H s Q E) s
section
variable {CX : CXT} {P : Program} {w : World} {K : PySem.W.Frag} {mg : Str → Option Value} {base : Heap} {k : Nat} {f : Addr} {N ps : List Str} {sp : Sp}
theorem fnG_of {name qual : Str} {params : Arguments} {body : List Stmt} {scope : Scope} {dV kV doc pm cdv ct oc : Value} {an od : Option Addr} {osl : Array (Option Value)}
    (lk : K.lookup f = some ⟨oc, od, .func (PySem.W.fnOf name qual params body scope dV kV doc pm an cdv ct), osl⟩) (hcd : PySem.W.codeIn K cdv qual = true) (S : FnScope N ps scope) (hlen : ∀ vs H Q E, sp vs H Q E → vs.length = ps.length)
    (hbody : ∀ (A : Around) (outer : List Env) (s : Shared) (H : Hp) (vs : List V) (Q : VK) (E : XK), (A.deeper (envOfC qual scope s.heap.objs.size f cdv)).guards = some [] → Room k (A.deeper (envOfC qual scope s.heap.objs.size f cdv)) → sp vs H Q E →
      ∃ t, PSs (cxOf CX P w K mg base N qual scope f cdv A outer s H E) body t ∧ t { nx := fun _ H' => Q .non H', rt := Q } (L2.start N vs) H) :
    FnG P w K mg base CX (k + 1) f (PySem.W.fnOf name qual params body scope dV kV doc pm an cdv ct) ps sp := by
  refine ⟨hlen, fun A outer s H args us vs Q E ga rm e0 bd rl hsp => ?_⟩
  have up : ∀ b o, base.get? b = some o → s.heap.get? b = some o := fun b o e => (e0.bs b o e).1
  have kin := e0.mod.kin.keeps up
  refine codeAny_call_function rm.depth (kin _ _ lk) rfl S.co S.gen rfl (PySem.W.codeRec_of kin hcd) (bd _ _ _ _ (wpAny_newFunctionEnv_cells S.kind (fun y hy => ?_) fun env he s1 x => ?_))
  · exact (S.par y.1 (List.of_mem_zip hy).1).imp id fun q => ⟨q, PySem.W.cellsFrom_some _ _ _ (.inl q)⟩
  subst he
  obtain ⟨t, ht, hq⟩ := hbody A outer s H vs Q E ga (rm.deeper _) hsp
  refine ⟨(e0.mod.nolimit.keeps up).keeps x.toInCall.keep, codeAny_func (wpAny_mono (ht.run [] s1 _ H _ (inv_start S rm.hd e0 (hlen _ _ _ _ hsp) rl x) hq) (fun fl s' hs => ?_) fun _ _ z => z)⟩
  cases fl with
  | next =>
    obtain ⟨_, H', J, q⟩ := hs
    exact ⟨.non, H', J.os, J.bare, J.base, J.hok, rfl, q⟩
  | ret u =>
    obtain ⟨v, _, H', J, rv, q⟩ := hs
    exact ⟨v, H', J.os, J.bare, J.base, J.hok, rv, q⟩
  | brk => exact hs.choose_spec.choose_spec.2.elim
  | cont => exact hs.choose_spec.choose_spec.2.elim
/-- what a caller takes of such a def -/
def GdG (P : Program) (w : World) (K : PySem.W.Frag) (mg : Str → Option Value) (base : Heap) (k : Nat) (x : Str) (ps : List Str) (sp : Sp) : Prop :=
  mg x = some (.ref (He.ga K x)) ∧ ∃ fd, FnG P w K mg base (L2.CX P w) k (He.ga K x) fd ps sp ∧ Binds K fd ps [] ∧ PySem.W.keepIn K (.ref (He.ga K x)) = true
theorem gdG_of {x : Str} {st : Stmt} (F : Df K mg x st) (S : FnScope N ps (defScope st)) (bd : ∀ {fd : FuncData}, FunD K x x (defArgs st) (defBody st) (defScope st) [] [] (He.ga K x) fd → Binds K fd ps []) (hlen : ∀ vs H Q E, sp vs H Q E → vs.length = ps.length)
    (hbody : ∀ (cdv : Value) (A : Around) (outer : List Env) (s : Shared) (H : Hp) (vs : List V) (Q : VK) (E : XK), (A.deeper (envOfC x (defScope st) s.heap.objs.size (He.ga K x) cdv)).guards = some [] → Room k (A.deeper (envOfC x (defScope st) s.heap.objs.size (He.ga K x) cdv)) → sp vs H Q E →
      ∃ t, PSs (cxOf (L2.CX P w) P w K mg base N x (defScope st) (He.ga K x) cdv A outer s H E) (defBody st) t ∧ t { nx := fun _ H' => Q .non H', rt := Q } (L2.start N vs) H) : GdG P w K mg base (k + 1) x ps sp := by
  obtain ⟨g, fd, F⟩ := F
  obtain ⟨oc, od, dV, kV, doc, pm, an, cdv, ct, osl, e, lk, hcd, _⟩ := id F.ex
  subst e
  exact ⟨g, _, fnG_of lk hcd S hlen (hbody cdv), bd F, F.kp⟩
/-- .. whose code object is asked for -/
theorem fnG_ofT {x : Str} {st : Stmt} {fd : FuncData} (F : FunD K x x (defArgs st) (defBody st) (defScope st) [] [] (He.ga K x) fd) (S : FnScope N ps (defScope st)) (hlen : ∀ vs H Q E, sp vs H Q E → vs.length = ps.length)
    (hbody : ∀ (A : Around) (outer : List Env) (s : Shared) (H : Hp) (vs : List V) (Q : VK) (E : XK), (A.deeper (envOfC x (defScope st) s.heap.objs.size (He.ga K x) (.ref (He.cT K (x, none)).1))).guards = some [] → Room k (A.deeper (envOfC x (defScope st) s.heap.objs.size (He.ga K x) (.ref (He.cT K (x, none)).1))) → sp vs H Q E →
      ∃ t, PSs (cxOf (L2.CX P w) P w K mg base N x (defScope st) (He.ga K x) (.ref (He.cT K (x, none)).1) A outer s H E) (defBody st) t ∧ t { nx := fun _ H' => Q .non H', rt := Q } (L2.start N vs) H) : FnG P w K mg base (L2.CX P w) (k + 1) (He.ga K x) fd ps sp := by
  obtain ⟨oc, od, dV, kV, doc, pm, an, cdv, ct, osl, e, lk, hcd, _⟩ := id F.ex
  obtain ⟨c, ec⟩ := He.codeIn_ref hcd
  have e2 : He.codeOf K (x, none) = c := He.codeOf_eq (p := (x, none)) lk (by rw [e]; exact ec)
  have e3 : cdv = .ref (He.cT K (x, none)).1 := by rw [ec]; exact congrArg Value.ref e2.symm
  subst e3
  subst e
  exact fnG_of lk hcd S hlen hbody
end
section
variable {X : Cx} {k j : Nat} {x : Str} {ps : List Str} {sp : Sp} {E : XK} {p pos : Pos} {e : Expr} {es : List Expr} {t : TA}
theorem pe_gdG (G : GdG X.prog X.w X.K X.mg X.base k x ps sp) (ga : X.A.guards = some []) (hr : Room j X.A) (hk : k ≤ j) (hg : Gl X x) (hx : Passes (L2.CX X.prog X.w) X E) (ha : PA X (e :: es) t) (hdb : (x == ("__debug__" : Str)) = false := by decide)
    (he : starEach (e :: es) X.env = (false, eval e X.env) :: starEach es X.env := by rfl) (hpl : (backTo pos (starEach es X.env)).any (·.1) = false := by rfl) : PE X (.Call (.Name x p) (e :: es) [] pos) (tCall sp [] E t) := by
  obtain ⟨hm, fd, F, hb, kp⟩ := G
  refine ⟨fun pins s σ H Q I h => wpAny_Call_Name_kw (ld_glob I hg hm (PySem.W.callWith_K (h₀ := X.base) I.ok.mod.kin kp (thn (ha.run pos pins s σ H _ I h) fun us s1 ⟨vs, H1, I1, r, q⟩ => ⟨I1.kIn, ?_⟩) he hpl) hdb)⟩
  have q' : sp vs H1 Q E := by
    have z : sp (vs ++ []) H1 Q E := q
    rw [List.append_nil] at z
    exact z
  have hl : (us ++ []).length = ps.length := by rw [List.append_nil, ← r.length]; exact F.lenG _ _ _ _ q'
  have hb' := hb s1 us I1.kIn hl
  rw [List.append_nil] at hb'
  show wpAny _ _ (call _ us) _ _ _
  refine wpAny_call (codeAny_mono (F.runG X.A X.stack s1 H1 ⟨us, []⟩ us vs Q E ga (hr.mono hk) I1.env0 hb' r q') fun y s' hq => ?_)
  match y, hq with
  | .error er, hq => exact hx pins σ H1 s1 er s' I1 hq
  | .ok (.ret u), hq => exact I1.after hq
end
end Rw
set_option maxHeartbeats 4000000
/-! The law's call from outside, by a promise that holds where nothing is being shown. -/
namespace Rw
open PySem PySem.Spec PyProof.Rows L2 LamX NdefX
/-- the first abstract heap: the tables, and the script where the written part does not hold it -/
def lawH (tabs : List Addr) (own : Bool) (a : Addr) (o : Obj) (xs : List V) : Hp := fun b => if b ∈ tabs then some (.tbl #[]) else if own = true ∧ b = a then some (.frz o (.lst xs)) else none
section
variable {tabs : List Addr} {own : Bool} {a b : Addr} {o : Obj} {xs : List V}
theorem lawH_tab (h : b ∈ tabs) : lawH tabs own a o xs b = some (.tbl #[]) := if_pos h
theorem lawH_own (h : a ∉ tabs) : lawH tabs true a o xs a = some (.frz o (.lst xs)) := by
  unfold lawH
  rw [if_neg h, if_pos ⟨rfl, rfl⟩]
theorem lawH_cases (h : lawH tabs own a o xs b ≠ none) : b ∈ tabs ∨ (own = true ∧ b = a ∧ b ∉ tabs) := by
  unfold lawH at h
  by_cases hb : b ∈ tabs
  · exact .inl hb
  · rw [if_neg hb] at h
    by_cases c : own = true ∧ b = a
    · exact .inr ⟨c.1, c.2, hb⟩
    · rw [if_neg c] at h
      exact absurd rfl h
end
theorem law_callG {P : Program} {w : World} {K : PySem.W.Frag} {mg mb : Str → Option Value} {CX : CXT} {k : Nat} {fa a : Addr} {cs : List (Addr × Addr)} {fd : FuncData} {x : Str} {sp : Sp} {s₁ : Shared} {vs : List Value} {ns : List Int}
    (kin : K.In s₁.heap) (hglo : s₁.heap.Ns mainGlobals mg) (hblt : s₁.heap.Ns builtinsNs mb) (hboot : ∀ x : Str, x ≠ "__name__" → mb x = bootBuiltins x) (hlimit : s₁.heap.NoLimit) (hgens : s₁.gens = #[])
    (hTab : ∀ p ∈ cs, s₁.heap.get? p.2 = some { cls := .none, data := .fields #[] }) (nTab : ∀ p ∈ cs, K.lookup p.2 = none) (C : ∀ p ∈ cs, PySem.W.CodeHd s₁.heap p.1 p.2)
    (hmain : ∃ (bm : Addr) (ob : Obj), mg "__builtins__" = some (.ref bm) ∧ bm ≠ builtinsNs ∧ s₁.heap.get? bm = some ob ∧ ob.cls = .type "module" ∧ ob.dict = some builtinsNs ∧ ob.data = .plain)
    (hscr : s₁.heap.get? a = some { cls := .type "list", data := .seq vs.toArray }) (hints : IntsAre vs ns) (hlen : ns.length ≤ sizeLine) (hroom : Room k callerA)
    (F : ∀ base : Heap, K.In base → base.Ns mainGlobals mg → (∀ p ∈ cs, TabB base mg p.1 p.2) → FnG P w K mg base CX k fa fd [x] sp) (hbind : ∀ (s : Shared) (u : Value), BindsTo s fd ⟨[u], []⟩ [(x, u)])
    (hsp : ∀ H : Hp, (∀ p ∈ cs, H p.2 = some (.tbl #[])) → SqL K H a (ns.map V.int) → sp [.ref a] H (fun v _ => v = .bl true) fun _ _ _ => False)
    (hout : ∀ H e s', CX [] H s₁ (fun _ _ _ => False) e s' → False) :
    codeAny (model P w) callerA (.call (.ref fa) ⟨[.ref a], []⟩) (fun r s' => r = .ok (.ret (.bool true)) ∧ OldK s₁.heap s'.heap ∧ s'.os = s₁.os ∧ AllBare s'.gens) s₁ := by
  have relV := vals_ints hints
  have hlv := hints.length
  generalize hlo : ({ cls := .type "list", data := .seq vs.toArray } : Obj) = lo at hscr
  obtain ⟨tabs, htabs⟩ : ∃ tabs, tabs = cs.map (·.2) := ⟨_, rfl⟩
  have inT : ∀ p ∈ cs, p.2 ∈ tabs := fun p hp => by rw [htabs]; exact List.mem_map.mpr ⟨p, hp, rfl⟩
  have isT : ∀ b ∈ tabs, s₁.heap.get? b = some { cls := .none, data := .fields #[] } ∧ K.lookup b = none ∧ ∃ p ∈ cs, p.2 = b := fun b hb => by
    rw [htabs] at hb
    obtain ⟨p, hp, rfl⟩ := List.mem_map.mp hb
    exact ⟨hTab p hp, nTab p hp, p, hp, rfl⟩
  have aT : a ∉ tabs := fun z => by
    have q := (isT a z).1
    rw [hscr, ← hlo] at q
    cases congrArg Obj.cls (Option.some.inj q)
  obtain ⟨H, hH⟩ : ∃ H, H = lawH tabs (K.lookup a).isNone a lo (ns.map V.int) := ⟨_, rfl⟩
  have cas : ∀ {b : Addr}, H b ≠ none → b ∈ tabs ∨ ((K.lookup a).isNone = true ∧ b = a ∧ b ∉ tabs) := fun {b} q => lawH_cases (by rw [← hH]; exact q)
  -- a thing that is neither a table nor the script is not tracked
  have untr : ∀ {b : Addr} {o : Obj}, s₁.heap.get? b = some o → o.data ≠ .fields #[] → (∀ ws n, o.data ≠ .seq ws n) → H b = none := fun {b o} e h1 h2 => by
    refine Decidable.byContradiction fun q => ?_
    rcases cas q with z | ⟨_, z, _⟩
    · rw [(isT b z).1] at e
      cases e
      exact h1 rfl
    · rw [z, hscr, ← hlo] at e
      cases e
      exact h2 _ _ rfl
  have seen : ∀ {b : Addr} {o : Obj}, s₁.heap.get? b = some o → H b = none → (hidT s₁.heap H).get? b = some o := fun {b o} e n => hidT_get e n
  have nsB : ∀ {b : Addr} {m : Str → Option Value}, s₁.heap.Ns b m → (hidT s₁.heap H).Ns b m := fun {b m} ⟨o, es, ep, e, d, r⟩ =>
    ⟨o, es, ep, seen e (untr e (by rw [d]; exact fun z => nomatch z) fun _ _ => by rw [d]; exact fun z => nomatch z), d, r⟩
  have kinB : K.In (hidT s₁.heap H) := fun b o e => seen (kin b o e) (Decidable.byContradiction fun q => by
    rcases cas q with z | ⟨z1, z, _⟩
    · rw [(isT b z).2.1] at e
      cases e
    · rw [z] at e
      rw [e] at z1
      cases z1)
  have tabB : ∀ p ∈ cs, TabB (hidT s₁.heap H) mg p.1 p.2 := fun p hp => by
    have ht := hTab p hp
    refine ⟨?_, ?_, fun z => ?_⟩
    · obtain ⟨o, us, file, tf, flags, tg, inF, text, tt, e1, r1, r2, r3, rest⟩ := C p hp
      refine ⟨o, us, file, tf, flags, tg, inF, text, tt, seen e1 (untr e1 (fun z => ?_) fun _ _ z => ?_), r1, r2, r3, rest⟩
      · rw [r2] at z
        cases z
        simp at r3
      · rw [r2] at z
        cases z
    · obtain ⟨bm, ob, b1, b2, b3, b4, b5, b6⟩ := hmain
      refine ⟨bm, ob, b1, b2, fun q => ?_, fun q => ?_, seen b3 (untr b3 (by rw [b6]; exact fun z => nomatch z) fun _ _ => by rw [b6]; exact fun z => nomatch z), b4, b5, b6⟩
      · obtain ⟨o, es, ep, e, hd, _⟩ := hglo
        rw [← q, b3] at e
        cases e
        rw [hd] at b6
        cases b6
      · rw [← q, b3] at ht
        cases ht
        cases b6
    · obtain ⟨o, es, ep, e, hd, _⟩ := hglo
      rw [z, ht] at e
      cases e
      cases hd
  have sq : SqL K H a (ns.map V.int) := by
    cases q : K.lookup a with
    | none =>
      rw [q] at hH
      exact .inl (.inr ⟨lo, by rw [hH]; exact lawH_own aT⟩)
    | some o =>
      have e := kin a o q
      rw [hscr] at e
      cases e
      exact .inr ⟨lo, vs.toArray, 0, q, by rw [← hlo], by rw [← hlo], by rw [← hlo], by rw [List.size_toArray, hlv]; exact hlen, by simpa using relV⟩
  have hok : HOk P w H s₁.heap := fun b u e => by
    rcases cas (by rw [e]; exact fun z => nomatch z) with z | ⟨z1, rfl, _⟩
    · rw [hH, lawH_tab z] at e
      cases e
      exact (isT b z).1
    · rw [hH, z1, lawH_own aT] at e
      cases e
      exact ⟨hscr, by rw [List.length_map]; exact hlen, vs, 0, relV, by rw [hscr, ← hlo]⟩
  have e0 : Env0 P w K mg (hidT s₁.heap H) callerA [] s₁ H := by
    refine ⟨rfl, ⟨kinB, nsB hglo, ⟨mb, nsB hblt, hboot⟩, ?_⟩, fun b o e => of_hidT e, Nat.le_of_eq (hidT_size _ _), trivial, fun b hb => ?_, hok, .of_eq hgens⟩
    · obtain ⟨mc, h1, h2⟩ := hlimit
      exact ⟨mc, nsB h1, h2⟩
    · exact absurd (show b ∈ ([] : List Addr) from hb) List.not_mem_nil
  have hTH : ∀ p ∈ cs, H p.2 = some (.tbl #[]) := fun p hp => by rw [hH]; exact lawH_tab (inT p hp)
  refine codeAny_mono ((F _ kinB (nsB hglo) tabB).runG callerA [] s₁ H ⟨[.ref a], []⟩ [.ref a] [.ref a] _ _ rfl hroom e0 (hbind s₁ (.ref a)) (.cons rfl .nil) (hsp H hTH sq)) fun r s' hr => ?_
  match r, hr with
  | .error e, hr => exact (hout H e s' hr).elim
  | .ok (.ret u), hr =>
    obtain ⟨v, H', os, bare, un, hok', rv, q⟩ := hr
    subst q
    obtain rfl : u = Value.bool true := rv
    have stays : ∀ b o, b ∉ tabs → s₁.heap.get? b = some o → s'.heap.get? b = some o := fun b o nb e => by
      cases q : H b with
      | none => exact un.keep b o e q (List.not_mem_nil (a := b)) List.not_mem_nil
      | some u =>
        rcases cas (by rw [q]; exact fun z => nomatch z) with z | ⟨z1, rfl, _⟩
        · exact absurd z nb
        · have e2 : H b = some (.frz lo (.lst (ns.map V.int))) := by rw [hH, z1]; exact lawH_own aT
          have e3 := (hok' b _ (un.frzs b lo _ e2)).1
          rw [hscr] at e
          cases e
          exact e3
    have more : ∀ b ∈ tabs, ∃ m : Array Value, s'.heap.get? b = some { cls := .none, data := .fields m } := fun b hb => by
      obtain ⟨m, z⟩ := un.tbls b #[] (by rw [hH]; exact lawH_tab hb)
      exact ⟨_, hok' b _ z⟩
    refine ⟨rfl, ⟨fun b o e => ?_, fun b o e => ?_⟩, os, bare⟩
    · by_cases hb : b ∈ tabs
      · obtain ⟨e1, _, p, hp, rfl⟩ := isT b hb
        obtain ⟨m, hm⟩ := more _ hb
        rw [e1] at e
        cases e
        exact .inr (.inl ⟨((C p hp).tab (hTab p hp)).isCodeTable, rfl, #[], m, rfl, by rw [Array.empty_append]; exact hm⟩)
      · exact .inl (stays b o hb e)
    · by_cases hb : b ∈ tabs
      · obtain ⟨m, hm⟩ := more b hb
        exact ⟨_, hm⟩
      · exact ⟨o, stays b o hb e⟩
/-- the law's promise, where the head ends -/
def LawAtG (l : PySem.W.OpenLaw) (w : World) (K : PySem.W.Frag) (CX : CXT) (k n : Nat) (x : Str) (mg : Str → Option Value) (fa : Addr) (h : Heap) : Prop :=
  ∃ (fd : FuncData) (cs : List (Addr × Addr)) (sp : Sp), (∀ p ∈ cs, h.get? p.2 = some { cls := .none, data := .fields #[] } ∧ K.lookup p.2 = none ∧ PySem.W.CodeHd h p.1 p.2) ∧ (∀ (s : Shared) (u : Value), BindsTo s fd ⟨[u], []⟩ [(x, u)]) ∧
    (∀ (H : Hp) (a : Addr) (ns : List Int), ns.length ≤ n → (∀ z ∈ ns, Builtin.Int.intBits z ≤ 1048576) → (∀ p ∈ cs, H p.2 = some (.tbl #[])) → SqL K H a (ns.map V.int) → sp [.ref a] H (fun v _ => v = .bl true) fun _ _ _ => False) ∧
    ∀ base : Heap, K.In base → base.Ns mainGlobals mg → (∀ p ∈ cs, TabB base mg p.1 p.2) → FnG l.prog w K mg base CX k fa fd [x] sp
theorem walk_ofG {l : PySem.W.OpenLaw} {n k : Nat} {q : Program} {loose : List Str} {XP : (Str → Option Value) → Heap → Prop} {YP : World → Heap → Prop} {d : DefRec} {CX : World → CXT} {x : Str}
    (hmost : l.most = some n) (hn2 : n ≤ sizeLine) (hdf : d.params.defaults = []) (hroom : Room k callerA)
    (F : ∀ (w : World) (mg : Str → Option Value) (fa : Addr) (h : Heap), YP w h → h.Ns mainGlobals mg → mg d.name = some (.ref fa) → ∃ K : PySem.W.Frag, K.In h ∧ LawAtG l w K (CX w) k n x mg fa h)
    (hout : ∀ (w : World) (H : Hp) (s : Shared) (e : Value) (s' : Shared), CX w [] H s (fun _ _ _ => False) e s' → False) :
    PySem.W.WalkO q loose XP YP l.row.toRowW d [] (fun f vs => PySem.call f vs) :=
  Att.attach_callB hmost hdf fun w s₀ s₁ mg mb fa o pm cd doc a vs ns G Y ho hd hcd hmg hobj hints hlen hbits hg => by
    obtain ⟨K, kin, fd, cs, sp, hC, hb, hsp, hF⟩ := F w mg fa _ Y G.T.g hmg
    exact law_callG kin G.T.g G.T.b G.T.builtins G.T.nolimit hg (fun p hp => (hC p hp).1) (fun p hp => (hC p hp).2.1) (fun p hp => (hC p hp).2.2) G.T.bmain hobj hints (Nat.le_trans hlen hn2) hroom hF hb (fun H hH hS => hsp H a ns hlen hbits hH hS) fun H e s' => hout w H s₁ e s'
end Rw
set_option maxHeartbeats 4000000
/-! The law's defs: _law_w_in_turns. -/
namespace Rw
open PySem PySem.Spec PyProof.Rows L2 LamX NdefX
variable {P : Program} {w : World} {K : PySem.W.Frag} {mg : Str → Option Value} {base : Heap} {T : List NTab}
theorem hu2 {k : Nat} {A : Around} (r : Room k A) : A.units + 2 < cLine := by
  have := r.un
  omega
/-- the numbers of a drawn stand are not large -/
theorem res_log {ns : List Str} {t : Nat} {k : Int} (nd : ns.Nodup) (le : ns.length ≤ 22) (ht : t < 2 ^ 58) (h0 : 0 ≤ k) (h1 : k < nobF ns.length t) : ∀ x ∈ ns, (resN ns t k x).natAbs.log2 < 100 := fun x hx => by
  obtain ⟨lok, lsum⟩ := lfM_ok (t := t) nd h0 h1
  have b := standF_bd nd (sumF ns (lfM ns t k)).toNat (fun x => (ns.idxOf x : Nat)) (lfM ns t k) lok x hx
  have e : standF ns (sumF ns (lfM ns t k)).toNat (fun x => ((ns.idxOf x : Nat) : Int)) (lfM ns t k) x = resN ns t k x := rfl
  rw [e, lsum] at b
  have hi : ns.idxOf x < ns.length := List.idxOf_lt_length_of_mem hx
  have q : (ns.length : Int) * t ≤ 22 * t := Int.mul_le_mul_of_nonneg_right (by omega) (by omega)
  generalize resN ns t k x = v at b
  generalize (ns.length : Int) * t = D at b q
  generalize ns.idxOf x = i at b hi
  have hv : v.natAbs < 2 ^ 64 := by omega
  by_cases z : v.natAbs = 0
  · rw [z]
    decide
  · exact Nat.lt_trans ((Nat.log2_lt z).mpr hv) (by decide)
/-! ### the texts' points -/
def okS (x : Str) : Prop := ∀ c ∈ x.cps.toList, c < 0x110000
theorem okS_app {x y : Str} (h1 : okS x) (h2 : okS y) : okS (x ++ y) := fun c hc => by
  have hc' : c ∈ (x.cps ++ y.cps).toList := hc
  rw [Array.toList_append] at hc'
  rcases List.mem_append.mp hc' with h | h
  · exact h1 c h
  · exact h2 c h
theorem okS_of (s : String) : okS (Str.ofString s) := fun c hc => by
  rw [Str.ofString_eq_toList] at hc
  have hc' : c ∈ s.toList.map Char.toNat := by simpa using hc
  obtain ⟨k, _, rfl⟩ := List.mem_map.mp hc'
  have v := k.valid
  have e : k.toNat = k.val.toNat := rfl
  rw [e]
  rcases v with h | ⟨_, h⟩
  · exact Nat.lt_trans h (by decide)
  · exact h
theorem okS_join {sep : Str} (hs : okS sep) : ∀ {l : List Str}, (∀ x ∈ l, okS x) → okS (Str.join sep l)
  | [], _ => fun c hc => by
    have hc' : c ∈ ([] : List Nat) := hc
    cases hc'
  | [x], h => h x (.head _)
  | x :: y :: r, h => okS_app (okS_app (h x (.head _)) hs) (okS_join hs fun z hz => h z (.tail _ hz))
theorem names_okS : ∀ x ∈ namesL, okS (reprText x) := by
  have key : ∀ x ∈ namesL, ∀ c ∈ (reprText x).cps.toList, c < 0x110000 := by decide +kernel
  exact key
theorem showZ_okS {f : Str → Int} : ∀ {ns : List Str}, (∀ x ∈ ns, x ∈ namesL) → ∀ p ∈ PyData.shownKv (dataZ ns f), okS p
  | [], _, p, hp => by cases hp
  | x :: r, h, p, hp => by
    have e : PyData.shownKv (dataZ (x :: r) f) = (reprText x ++ (": " : Str) ++ (Str.ofString (toString (f x)))) :: PyData.shownKv (dataZ r f) := rfl
    rw [e] at hp
    rcases List.mem_cons.mp hp with rfl | hp
    · exact okS_app (okS_app (names_okS x (h x (.head _))) (okS_of _)) (okS_of _)
    · exact showZ_okS (fun y hy => h y (.tail _ hy)) p hp
theorem showZ_ok {f : Str → Int} {ns : List Str} (h : ∀ x ∈ ns, x ∈ namesL) : PyData.strOk (showZ ns f) = true := by
  have q : okS (showZ ns f) := okS_app (okS_app (okS_of "{") (okS_join (okS_of ", ") (showZ_okS h))) (okS_of "}")
  unfold PyData.strOk
  rw [← Array.all_toList]
  exact List.all_eq_true.mpr fun c hc => decide_eq_true (q c hc)
theorem dp_strs {H : Hp} : ∀ {xs : List Str}, DpAll K H (xs.map V.str) (xs.map PyData.str)
  | [] => .nil
  | x :: r => .cons (.str x) dp_strs
theorem shaped_strs {xs : List Str} (h : ∀ x ∈ xs, PyData.strOk x = true) : SeqAt.shaped (.list (xs.map PyData.str)) = true := by
  have h1 : PyData.canLayAll0 (xs.map PyData.str) = true := by
    rw [canLayAll_strs']
    exact List.all_eq_true.mpr h
  have h2 : PyData.depthAll (xs.map PyData.str) = 0 := by
    clear h h1
    induction xs with
    | nil => rfl
    | cons x r ih => exact (Nat.zero_max _).trans ih
  unfold SeqAt.shaped
  rw [show (PyData.list (xs.map PyData.str)).canLay0 = PyData.canLayAll0 (xs.map PyData.str) from rfl, h1, show (PyData.list (xs.map PyData.str)).depth = PyData.depthAll (xs.map PyData.str) + 1 from rfl, h2]
  rfl
theorem eqv_strs : ∀ xs : List Str, PyData.eqvAll (xs.map PyData.str) (xs.map PyData.str) = true
  | [] => by simp only [List.map_nil, PyData.eqvAll]
  | p :: r => by simp only [List.map_cons, PyData.eqvAll, PyData.eqv, eqv_strs r, beq_self_eq_true, Bool.and_self]
theorem ne_strs {H : Hp} {a b : Addr} {xs : List Str} {Q : VK} (h1 : H a = some (.lst (xs.map V.str))) (h2 : H b = some (.lst (xs.map V.str))) (ok : ∀ x ∈ xs, PyData.strOk x = true) (q : Q (.bl false) H) : rNeD K (.ref a) (.ref b) H Q :=
  ⟨_, _, .lst (.inl (.inl h1)) dp_strs, .lst (.inl (.inl h2)) dp_strs, shaped_strs ok, shaped_strs ok, by
    have e : (PyData.list (xs.map PyData.str)).eqv (PyData.list (xs.map PyData.str)) = true := by simp only [PyData.eqv, eqv_strs]
    rw [e]
    exact q⟩
/-- what is told of the totals xs -/
def toldL (ns : List Str) (kf : Nat → Nat → Int) (xs : List Nat) : List Str := xs.map fun t => showZ ns (resN ns t (kf ns.length t))
theorem toldL_take {ns : List Str} {kf : Nat → Nat → Int} {xs : List Nat} {i : Nat} (hi : i < xs.length) : (toldL ns kf xs).take (i + 1) = (toldL ns kf xs).take i ++ [showZ ns (resN ns xs[i] (kf ns.length xs[i]))] := by
  refine take_snoc ?_
  unfold toldL
  rw [List.getElem?_map, List.getElem?_eq_getElem hi]
  rfl
/-- a function that asks for a drawn stand -/
def spAskD (K : PySem.W.Frag) (T : List NTab) (kf : Nat → Nat → Int) : Sp := fun vs H Q _ => ∃ (a : Addr) (ns : List Str) (t : Nat), vs = [.ref a, .int t] ∧ TabsN T H ∧ PathAt K H a ns ∧ t < 2 ^ 58 ∧ ∀ H' p, Gr T [] H H' → H p = none → H' p = some (.dK (dz ns (resN ns t (kf ns.length t)))) → Q (.ref p) H'
def AskAt (P : Program) (w : World) (K : PySem.W.Frag) (mg : Str → Option Value) (base : Heap) (T : List NTab) (H : Hp) (f : Addr) : Prop :=
  ∃ (kf : Nat → Nat → Int) (Hc : Hp → Prop), Fv P w K mg base (L2.CX P w) 10 Hc f 2 (spAskD K T kf) ∧ Hc H ∧ (∀ (B : List Addr) H H', Gr T B H H' → Hc H → Hc H') ∧ ∀ n t : Nat, 2 ≤ n → 0 ≤ kf n t ∧ kf n t < nobF n t
def spTurns (P : Program) (w : World) (K : PySem.W.Frag) (mg : Str → Option Value) (base : Heap) (T : List NTab) : Sp := fun vs H Q _ => ∃ (st big nl al tl f1 f2 : Addr) (n : Nat) (ns : List Str) (t1 t2 : Nat), vs = [.ref st, .ref nl, .ref al, .ref tl] ∧ TabsN T H ∧ StrmAt (n + 7) st big H ∧
  H nl = some (.lst (ns.map V.str)) ∧ NsOk ns ∧ (∀ x ∈ ns, x ∈ namesL) ∧ H al = some (.lst [.ref f1, .ref f2]) ∧ H tl = some (.lst [.int t1, .int t2]) ∧ nl ∉ [st, big] ∧ al ∉ [st, big] ∧ tl ∉ [st, big] ∧ t1 < 2 ^ 58 ∧ t2 < 2 ^ 58 ∧
  AskAt P w K mg base T H f1 ∧ AskAt P w K mg base T H f2 ∧ ∀ H', Gr T [st, big] H H' → StrmAt n st big H' → Q (.bl true) H'
theorem sc98 : FnScope ["_law_stream", "_law_names", "_law_asks", "_law_things", "_law_made", "_law_row", "_law_ask", "_law_told", "_law_thing"] ["_law_stream", "_law_names", "_law_asks", "_law_things"] (defScope (top 98)) := ⟨rfl, rfl, rfl, by decide +kernel, rfl, by decide +kernel, by decide +kernel⟩
theorem ok_turns (M : Mo K mg) (L : Ml K mg) : GdG P w K mg base 11 "_law_w_in_turns" ["_law_stream", "_law_names", "_law_asks", "_law_things"] (spTurns P w K mg base T) := by
  refine gdG_of (M.df "_law_w_in_turns" 98) sc98 (fun F => F.bindsN fun _ _ _ _ _ _ us hl => match us, hl with | [_, _, _, _], _ => rfl) (fun vs H Q E h => ?_) fun cdv A outer s H vs Q E ga hr h => ⟨_, (pss_cons (ps_asg (pe_tup (pa_cons (pe_gd (ok_w_path (T := T) M L) hr (by decide) rfl passL (pa_cons (pv 0) (pa_cons (pv 1) pa_nil))) (pa_cons (pe_lst (pa_cons (pe_ix ix_list (pv 3) pe_int (fun _ _ => rfl)) (pa_cons (pe_ix ix_list (pv 3) pe_int (fun _ _ => rfl)) (pa_cons (pe_ix ix_list (pv 3) pe_int (fun _ _ => rfl)) pa_nil)))) pa_nil))) (pg_tup rfl (pgs_cons (pg_name (i := 4) sc98.nd rfl (Or.inr rfl)) (pgs_cons (pg_name (i := 5) sc98.nd rfl (Or.inl rfl)) pgs_nil)))) (pss_cons (ps_for (passes_of rfl) rfl (pi_list (pv 2)) (pg_name (i := 6) sc98.nd rfl (Or.inr rfl)) (pss_cons (ps_setLc (i := 7) (own := [("_law_thing", 8)]) rfl sc98.nd rfl rfl (by rfl) (pi_list (pv 5)) (blkOk_by (by kernel_rfl)) (fun _ _ _ _ _ => (pg_name (i := 8) sc98.nd rfl (Or.inl rfl) (hf := Or.inr rfl))) (fun _ _ _ _ _ => pts_nil) (fun _ _ _ _ _ => (pe_callB (call_reprZ ga (hu2 hr)) rfl (M.fr "repr") (by decide +kernel) (pa_cons (pe_callV (P := P) (w := w) (K := K) (mg := mg) (base := base) rfl rfl rfl rfl rfl hr passL (i := 6) rfl (by first | exact Or.inl rfl | exact Or.inr (Or.inl rfl) | exact Or.inr (Or.inr rfl)) (pa_cons (pv 4) (pa_cons (pv 8) pa_nil))) pa_nil)))) (pss_one (ps_if (pt_cmpR (op_neD hr.units) (pv 7) (pe_lc (own := [("_law_thing", 8)]) rfl sc98.nd (pi_list (pv 5)) (blkOk_by (by kernel_rfl)) (fun _ _ _ _ _ => (pg_name (i := 8) sc98.nd rfl (Or.inl rfl) (hf := Or.inr rfl))) (fun _ _ _ _ _ => pts_nil) (fun _ _ _ _ _ => (pe_callB (call_reprZ ga (hu2 hr)) rfl (M.fr "repr") (by decide +kernel) (pa_cons (pe_callV (P := P) (w := w) (K := K) (mg := mg) (base := base) rfl rfl rfl rfl rfl hr passL (i := 6) rfl (by first | exact Or.inl rfl | exact Or.inr (Or.inl rfl) | exact Or.inr (Or.inr rfl)) (pa_cons (pe_gd (ok_w_path (T := T) M L) hr (by decide) rfl passL (pa_cons (pv 0) (pa_cons (pv 1) pa_nil))) (pa_cons (pv 8) pa_nil))) pa_nil)))) (nomark _)) (pss_one (ps_ret pe_bl)) pss_nil)))) (pss_one (ps_ret pe_bl)))), ?_⟩
  · obtain ⟨st, big, nl, al, tl, f1, f2, n, ns, t1, t2, rfl, _⟩ := h
    rfl
  · obtain ⟨st, big, nl, al, tl, f1, f2, n, ns, t1, t2, rfl, hT, hs, hn, nok, mem, hal, htl, i1, i2, i3, b1, b2, A1, A2, q⟩ := h
    refine ⟨_, rfl, _, rfl, st, big, nl, n + 6, ns, rfl, hs, hn, i1, nok, fun H1 a g1 s1 ha0 pa => ?_⟩
    have htl1 := g1.lst htl i3
    refine ⟨_, rfl, tl, _, _, _, rfl, rfl, .inl (.inl htl1), rfl, _, rfl, tl, _, _, _, rfl, rfl, .inl (.inl htl1), rfl, _, rfl, tl, _, _, _, rfl, rfl, .inl (.inl htl1), rfl, szl, fun rw hrw => ⟨szl, fun tp htp => ⟨tp, _, rfl, .inl (.inl upd_same), rfl, _, _, rfl, _, _, rfl, rfl, ?_⟩⟩⟩
    obtain ⟨xs, hxs⟩ : ∃ xs : List Nat, xs = [t1, t2, t1] := ⟨_, rfl⟩
    have xlt : ∀ t ∈ xs, t < 2 ^ 58 := fun t ht => by
      rw [hxs] at ht
      have ht' : t = t1 ∨ t = t2 := by simpa [or_comm, or_assoc] using ht
      rcases ht' with rfl | rfl
      · exact b1
      · exact b2
    have xlen : xs.length = 3 := by rw [hxs] <;> rfl
    have g2 : Gr T [] H1 (upd (upd H1 rw (.lst [V.int t1, V.int t2, V.int t1])) tp (.tup [.ref a, .ref rw])) := (Gr.new hrw).trans (.new htp)
    have erw : upd (upd H1 rw (.lst [V.int t1, V.int t2, V.int t1])) tp (.tup [.ref a, .ref rw]) rw = some (.lst (xs.map fun t : Nat => V.int t)) := by
      rw [upd_ne (fun z => by rw [← z, upd_same] at htp; cases htp), upd_same, hxs]
      rfl
    have nrw := s1.ne hrw
    clear hrw htp
    dsimp only
    generalize upd (upd H1 rw (.lst [V.int t1, V.int t2, V.int t1])) tp (.tup [.ref a, .ref rw]) = H2 at g2 erw ⊢
    have g02 := g1.trans g2.wk
    have hal2 := g02.lst hal i2
    have hn2 := g02.lst hn i1
    have pa2 := pa.gr g2
    have s2 := s1.gr g2
    refine ⟨_, rfl, al, rfl, ⟨_, .inl (.inl hal2)⟩, ?_⟩
    refine for_it (walk_list (xs := [.ref f1, .ref f2])) (fun i σ H' => Gr T [st, big] H2 H' ∧ StrmAt (n + 3 * (2 - i)) st big H' ∧ ∃ z6 z7 z8, σ = [some (.ref st), some (.ref nl), some (.ref al), some (.ref tl), some (.ref a), some (.ref rw), z6, z7, z8]) ⟨.refl _, s2, none, none, none, rfl⟩ (fun i σ H' _ h => .inl (.inl (h.1.lst hal2 i2))) (fun i v σ Ha Hb hi ⟨g, sa, z6, z7, z8, e⟩ ⟨y1, y2⟩ => ?_) ?_
    · subst e y1
      have hi2 : i < 2 := hi
      obtain ⟨f, ev, Af⟩ : ∃ f, v = .ref f ∧ AskAt P w K mg base T H f := by
        match i, hi2, y2 with
        | 0, _, y2 =>
          cases y2
          exact ⟨f1, rfl, A1⟩
        | 1, _, y2 =>
          cases y2
          exact ⟨f2, rfl, A2⟩
      subst ev
      obtain ⟨kf, Hc, fv, hc0, mono, rng⟩ := Af
      have kr : ∀ t : Nat, 0 ≤ kf ns.length t ∧ kf ns.length t < nobF ns.length t := fun t => rng _ t nok.2.1
      have gA := g02.trans g
      have hcA := mono _ _ _ gA hc0
      have paA := pa2.gr g
      have erA := g.lst erw nrw
      have hnA := g.lst hn2 i1
      have hTA := gA.tab hT
      have tok : ∀ x ∈ toldL ns kf xs, PyData.strOk x = true := fun x hx => by
        obtain ⟨t, _, rfl⟩ := List.mem_map.mp hx
        exact showZ_ok mem
      have tl3 : (toldL ns kf xs).length = 3 := by unfold toldL; rw [List.length_map, xlen]
      have hsa : n + 3 * (2 - i) = n + 3 * (2 - (i + 1)) + 3 := by omega
      refine ⟨_, rfl, rw, rfl, ⟨_, .inl (.inl erA)⟩, fun D hD => ?_⟩
      refine lc_it (walk_list (xs := xs.map fun t : Nat => V.int t)) (fun j H' => Gr T [] Hb H' ∧ H' D = some (.lst (((toldL ns kf xs).take j).map V.str))) ⟨.new hD, upd_same⟩ (fun j H' _ h => .inl (.inl (h.1.lst erA (fun z => nomatch z)))) (fun j v H3 H4 hj ⟨g3, hD3⟩ ⟨y3, y4⟩ => ?_) fun H3 ⟨g3, hD3⟩ => ?_
      · subst y3
        rw [List.length_map] at hj
        rw [List.getElem?_map, List.getElem?_eq_getElem hj] at y4
        cases y4
        have hm := xlt _ (List.getElem_mem hj)
        refine ⟨rfl, f, Hc, 2, _, rfl, fv, mono _ _ _ g3 hcA, _, rfl, _, rfl, mono _ _ _ g3 hcA, a, ns, xs[j], rfl, g3.tab hTA, paA.gr g3, hm, fun H5 p g5 _ hp => ⟨p, ns, _, rfl, hp, by have := nok.2.2.1; omega, mem, res_log nok.1 nok.2.2.1 hm (kr _).1 (kr _).2, ?_⟩⟩
        have hD5 := g5.lst hD3 (fun z => nomatch z)
        refine ⟨_, hD5, ?_, (g3.trans g5).ownL hD hD5, ?_⟩
        · rw [List.length_map, List.length_take]
          exact small1000 (by omega)
        · rw [upd_same, toldL_take hj, List.map_append]
          rfl
      · rw [List.length_map, xlen, ← tl3, List.take_length] at hD3
        have erB := g3.lst erA (fun z => nomatch z)
        have hnB := g3.lst hnA (fun z => nomatch z)
        have paB := paA.gr g3
        have hTB := g3.tab hTA
        have hcB := mono _ _ _ g3 hcA
        have sB := sa.gr g3
        rw [hsa] at sB
        refine ⟨_, rfl, _, rfl, rw, rfl, ⟨_, .inl (.inl erB)⟩, fun D2 hD2 => ?_⟩
        have hDn := sa.ne hD
        refine lc_it (walk_list (xs := xs.map fun t : Nat => V.int t)) (fun j H' => Gr T [st, big] H3 H' ∧ StrmAt (n + 3 * (2 - (i + 1)) + (3 - j)) st big H' ∧ H' D2 = some (.lst (((toldL ns kf xs).take j).map V.str))) ⟨.new hD2, sB.gr (T := T) (.new hD2), upd_same⟩ (fun j H' _ h => .inl (.inl (h.1.lst erB nrw))) (fun j v H5 H6 hj ⟨g5, s5, hD5⟩ ⟨y3, y4⟩ => ?_) fun H5 ⟨g5, s5, hD5⟩ => ?_
        · subst y3
          rw [List.length_map] at hj
          rw [List.getElem?_map, List.getElem?_eq_getElem hj] at y4
          cases y4
          have hm := xlt _ (List.getElem_mem hj)
          obtain ⟨u, hu⟩ : ∃ u, 3 - j = u + 1 := ⟨3 - j - 1, by omega⟩
          rw [hu] at s5
          have hnD2 : D2 ∉ [st, big] := sB.ne hD2
          refine ⟨rfl, f, Hc, 2, _, rfl, fv, mono _ _ _ g5 hcB, _, rfl, _, rfl, st, big, nl, n + 3 * (2 - (i + 1)) + u, ns, rfl, s5, g5.lst hnB i1, i1, nok, fun H7 a2 g7 s7 ha2 pa2 => ⟨_, rfl, mono _ _ _ (g5.trans g7) hcB, a2, ns, xs[j], rfl, (g5.trans g7).tab hTB, pa2, hm, fun H8 p g8 _ hp => ⟨p, ns, _, rfl, hp, by have := nok.2.2.1; omega, mem, res_log nok.1 nok.2.2.1 hm (kr _).1 (kr _).2, ?_⟩⟩⟩
          have hD8 := g8.lst (g7.lst hD5 hnD2) (fun z => nomatch z)
          refine ⟨_, hD8, ?_, ((g5.trans g7).trans g8.wk).ownL hD2 hD8, ?_, ?_⟩
          · rw [List.length_map, List.length_take]
            exact small1000 (by omega)
          · have s8 := s7.gr g8
            have eu : 3 - (j + 1) = u := by omega
            rw [eu]
            obtain ⟨ne, ys, m, c, d, h1, h2, r⟩ := s8
            have n1 : st ≠ D2 := fun z => hnD2 (by rw [← z]; simp)
            have n2 : big ≠ D2 := fun z => hnD2 (by rw [← z]; simp)
            exact ⟨ne, ys, m, c, d, (upd_ne n1).trans h1, (upd_ne n2).trans h2, r⟩
          · rw [upd_same, toldL_take hj, List.map_append]
            rfl
        · rw [List.length_map, xlen] at s5
          rw [List.length_map, xlen, ← tl3, List.take_length] at hD5
          have hD3' := g5.lst hD3 hDn
          refine ne_strs hD3' hD5 tok ⟨_, rfl, ?_⟩
          exact ⟨(g.trans g3.wk).trans g5, s5, _, _, _, rfl⟩
    · rintro σ H3 ⟨g, s3, z6, z7, z8, rfl⟩
      exact q H3 (g02.trans g) s3
end Rw
set_option maxHeartbeats 4000000
/-! The law. -/
namespace Rw
open PySem PySem.Spec PyProof.Rows L2 LamX NdefX
variable {P : Program} {w : World} {K : PySem.W.Frag} {mg : Str → Option Value} {base : Heap} {T : List NTab}
theorem thw_nil {C : Addr → Prop} {H : Hp} (h : ∀ b, ¬ C b) : Rw.thw C H = H := funext fun b => thw_out (h b)
theorem rfz_nil {C : Addr → Prop} {H H2 : Hp} (h : ∀ b, ¬ C b) : Rw.rfz C H H2 = H2 := funext fun b => rfz_out (h b)
theorem askD_link {kf : Nat → Nat → Int} {f : Addr} {F : CF} {fr : List Str} {ws : List V} (hn : ∀ b, ¬ ClC F.cl b) : ∀ vs H Q E, CfH f F fr ws H → spAskD K T kf vs H Q E → SpIn F.cl H (spAskD K T kf) vs Q E := fun vs H Q E _ ⟨a, ns, t, e, h1, h2, h3, q⟩ => by
  unfold SpIn
  rw [thw_nil hn]
  refine ⟨a, ns, t, e, h1, h2, h3, fun H' p g h0 hp _ => ?_⟩
  rw [rfz_nil hn]
  exact q H' p g h0 hp
theorem capH_nil {cl : List (Str × Addr)} {H : Hp} (h : cl = []) : CapH cl [] [] H := by
  subst h
  exact ⟨rfl, fun x y c e => (nomatch (show none = some c from e)), fun y c e => (nomatch (show none = some c from e)), fun i y v e => by simp at e⟩
theorem size_ok : ∀ v ∈ ([.int 1, .int 9, .int ((10 : Int) ^ (15 : Int).toNat)] : List V), ∃ k : Int, v = .int k ∧ 1 ≤ k ∧ k ≤ 2 ^ 50 := by
  intro v hv
  have hv' : v = .int 1 ∨ v = .int 9 ∨ v = .int ((10 : Int) ^ (15 : Int).toNat) := by simpa using hv
  rcases hv' with rfl | rfl | rfl
  · exact ⟨1, rfl, by decide, by decide⟩
  · exact ⟨9, rfl, by decide, by decide⟩
  · exact ⟨_, rfl, by decide, by decide⟩
theorem log_small {k : Int} (h1 : 1 ≤ k) (h2 : k ≤ 2 ^ 50) : k.natAbs.log2 < 9000 := by
  have hz : k.natAbs ≠ 0 := by omega
  exact Nat.lt_trans ((Nat.log2_lt (k := 51) hz).mpr (by omega)) (by decide)
theorem AskAt.gr {B : List Addr} {H H' : Hp} {f : Addr} (h : AskAt P w K mg base T H f) (g : Gr T B H H') : AskAt P w K mg base T H' f :=
  let ⟨kf, Hc, fv, h1, m, r⟩ := h
  ⟨kf, Hc, fv, m _ _ _ g h1, m, r⟩
def spLaw (K : PySem.W.Frag) (T : List NTab) : Sp := fun vs H Q _ => ∃ (a : Addr) (xs : List Int), vs = [.ref a] ∧ TabsN T H ∧ SqL K H a (xs.map V.int) ∧ xs.length ≤ 100 ∧ ∀ H', Q (.bl true) H'
theorem sc109 : FnScope ["_law_script", "_law_stream", "_law_turn", "_law_path", "_law_size", "_law_names", "_law_asks"] ["_law_script"] (defScope (top 109)) := ⟨rfl, rfl, rfl, by decide +kernel, rfl, by decide +kernel, by decide +kernel⟩
theorem ok_law (A0 : All P K mg base T) {fd : FuncData} (F : FunD K "law" "law" (defArgs (top 109)) (defBody (top 109)) (defScope (top 109)) [] [] (He.ga K "law") fd) : FnG P w K mg base (L2.CX P w) 14 (He.ga K "law") fd ["_law_script"] (spLaw K T) := by
  obtain ⟨M, X, I, Tbl, L, D, N, Y, Z, fty⟩ := id A0
  refine fnG_ofT F sc109 (fun vs H Q E h => ?_) fun A outer s H vs Q E ga hr h => ⟨_, (pss_cons (ps_set (i := 1) sc109.nd rfl (Or.inl rfl) (pe_gd (ok_start (T := T) M) hr (by decide) rfl passL (pa_cons (pv 0) pa_nil))) (pss_cons (ps_for (passes_of rfl) rfl (pi_range1 rfl (M.fr "range") (pa_cons pe_int pa_nil)) (pg_name (i := 2) sc109.nd rfl (Or.inl rfl)) (pss_cons (ps_set (i := 3) sc109.nd rfl (Or.inl rfl) (pe_gd (ok_w_path (T := T) M L) hr (by decide) rfl passL (pa_cons (pv 1) (pa_cons (pe_gd (ok_names (T := T) M) hr (by decide) rfl passL (pa_cons (pv 1) (pa_cons pe_int (pa_cons pe_int pa_nil)))) pa_nil)))) (pss_cons (ps_for (passes_of rfl) rfl (pi_tup (pe_tup (pa_cons pe_int (pa_cons pe_int (pa_cons (pe_op op_pow pe_int pe_int) pa_nil))))) (pg_name (i := 4) sc109.nd rfl (Or.inl rfl)) (pss_one (ps_if (pt_not (pt_val (pe_gd (ok_right (T := T) A0) hr (by decide) rfl passL (pa_cons (pv 1) (pa_cons (pv 3) (pa_cons (pe_gd (ok_draw (T := T) M) hr (by decide) rfl passL (pa_cons (pv 1) (pa_cons (pv 4) pa_nil))) pa_nil)))))) (pss_one (ps_ret pe_bl)) pss_nil))) (pss_one (ps_if (pt_not (pt_val (pe_gd (ok_all_right (T := T) A0) hr (by decide) rfl passL (pa_cons (pv 1) pa_nil)))) (pss_one (ps_ret pe_bl)) pss_nil))))) (pss_cons (ps_set (i := 5) sc109.nd rfl (Or.inl rfl) (pe_gd (ok_names (T := T) M) hr (by decide) rfl passL (pa_cons (pv 1) (pa_cons pe_int (pa_cons pe_int pa_nil))))) (pss_cons (ps_set (i := 6) sc109.nd rfl (Or.inl rfl) (pe_lst (pa_cons (pe_lam (T := T) (Tbl.t "law") rfl (Tbl.m "law") (by kernel_rfl) Tbl.u (ndef_free (fr := []) (by kernel_rfl)) rfl) pa_nil))) (pss_cons (ps_expr (pe_bm PySem.F.plainAttrs_list PySem.F.slot_list_append PySem.F.type_list_append mt_append (pv 6) (pa_cons (pe_lam (T := T) (Tbl.t "law") rfl (Tbl.m "law") (by kernel_rfl) Tbl.u (ndef_free (fr := []) (by kernel_rfl)) rfl) pa_nil))) (pss_one (ps_ret (pe_and (pe_gdG (ok_turns (T := T) M L) ga hr (by decide) rfl passL (pa_cons (pv 1) (pa_cons (pv 5) (pa_cons (pv 6) (pa_cons (pe_lst (pa_cons pe_int (pa_cons (pe_gd (ok_draw (T := T) M) hr (by decide) rfl passL (pa_cons (pv 1) (pa_cons pe_int pa_nil))) pa_nil))) pa_nil))))) (pe_one (pe_gd (ok_refused_right (T := T) A0) hr (by decide) rfl passL (pa_cons (pv 1) pa_nil))))))))))), ?_⟩
  · obtain ⟨a, xs, rfl, _⟩ := h
    rfl
  · obtain ⟨a, xs, rfl, hT, hs, hl, q⟩ := h
    refine ⟨_, rfl, a, xs, rfl, hs, hl, fun H1 st big g1 h0 hb0 s1 => ?_⟩
    have hT1 := g1.tab hT
    refine ⟨_, rfl, by decide, by decide, ?_⟩
    refine for_it (walk_range (lo := 0) (n := 3)) (fun i σ H' => Gr T [st, big] H1 H' ∧ StrmAt (100 + 55 * (3 - i)) st big H' ∧ ∃ z2 z3 z4, σ = [some (.ref a), some (.ref st), z2, z3, z4, none, none]) ⟨.refl _, s1.le (by decide), none, none, none, rfl⟩ (fun _ _ _ _ _ => True.intro) (fun i v σ Ha Hb hi ⟨g, sa, z2, z3, z4, e⟩ ⟨y1, y2⟩ => ?_) ?_
    · subst e y1
      have hc : 100 + 55 * (3 - i) = (100 + 55 * (3 - (i + 1))) + 55 := by omega
      rw [hc] at sa
      generalize 100 + 55 * (3 - (i + 1)) = c at sa ⊢
      refine ⟨_, rfl, _, rfl, st, big, c + 32, 2, 20, rfl, sa, by decide, by decide, fun H3 np ns g3 s3 hn0 hn nd l2 l20 mem => ?_⟩
      have nok : NsOk ns := ⟨nd, l2, by omega, fun x hx => names_ok x (mem x hx)⟩
      refine ⟨st, big, np, c + 31, ns, rfl, s3, hn, sa.ne hn0, nok, fun H4 p g4 s4 hp0 pa => ?_⟩
      have g04 := (g.trans g3).trans g4
      refine ⟨_, _, rfl, rfl, ⟨by decide, by decide, by decide⟩, szl, fun tt htt => ?_⟩
      have g5 : Gr T [] H4 (upd H4 tt (.tup [.int 1, .int 9, .int ((10 : Int) ^ (15 : Int).toNat)])) := .new htt
      have e5 : upd H4 tt (.tup [.int 1, .int 9, .int ((10 : Int) ^ (15 : Int).toNat)]) tt = some (.tup [.int 1, .int 9, .int ((10 : Int) ^ (15 : Int).toNat)]) := upd_same
      refine ⟨tt, rfl, ⟨[.int 1, .int 9, .int ((10 : Int) ^ (15 : Int).toNat)], .inl (.inl e5)⟩, ?_⟩
      change ∃ W : Nat → Nat → L2.St → Hp → Prop, (∃ m', W 0 m' _ (upd H4 tt (.tup [.int 1, .int 9, .int ((10 : Int) ^ (15 : Int).toNat)]))) ∧ _
      generalize upd H4 tt (.tup [.int 1, .int 9, .int ((10 : Int) ^ (15 : Int).toNat)]) = H5 at g5 e5 ⊢
      have g05 := g04.trans g5.wk
      have pa5 := pa.gr g5
      have s5 := s4.gr g5
      refine for_it (walk_tup (xs := [.int 1, .int 9, .int ((10 : Int) ^ (15 : Int).toNat)])) (fun j σ H' => Gr T [st, big] H5 H' ∧ StrmAt (c + 25 + 2 * (3 - j)) st big H' ∧ ∃ z4, σ = [some (.ref a), some (.ref st), some v, some (.ref p), z4, none, none]) ⟨.refl _, s5, z4, rfl⟩ (fun i σ H' _ h => .inl (.inl (h.1.tup e5))) (fun j u σ Hc Hd hj ⟨gj, sj, z4, e⟩ ⟨y3, y4⟩ => ?_) ?_
      · subst e y3
        obtain ⟨k, rfl, k1, k2⟩ := size_ok u (List.mem_of_getElem? y4)
        have hj3 : j < 3 := hj
        have hcj : c + 25 + 2 * (3 - j) = (c + 25 + 2 * (3 - (j + 1))) + 1 + 1 := by omega
        rw [hcj] at sj
        refine ⟨_, rfl, _, rfl, _, rfl, _, rfl, st, big, _, k, rfl, sj, k1, log_small k1 k2, fun H6 t g6 s6 t0 tk => ?_⟩
        obtain ⟨t, rfl⟩ : ∃ t' : Nat, t = t' := ⟨t.toNat, by omega⟩
        have gg := (g05.trans gj).trans g6
        exact ⟨st, big, p, _, ns, t, rfl, gg.tab hT1, s6, (pa5.gr gj).gr g6, by omega, fun H7 g7 s7 => ⟨_, rfl, (gj.trans g6).trans g7, s7, _, rfl⟩⟩
      · rintro σ H6 ⟨g6, s6, z4, rfl⟩
        have gg := g05.trans g6
        exact ⟨_, rfl, st, big, c, rfl, gg.tab hT1, s6, fun H7 g7 s7 => ⟨_, rfl, gg.trans g7, s7, _, _, _, rfl⟩⟩
    · rintro σ H2 ⟨g2, s2, z2, z3, z4, rfl⟩
      have g02 := g1.wk.trans g2
      refine ⟨_, rfl, st, big, 77, 2, 9, rfl, s2, by decide, by decide, fun H3 np ns g3 s3 hn0 hn nd l2 l9 mem => ?_⟩
      have nok : NsOk ns := ⟨nd, l2, by omega, fun x hx => names_ok x (mem x hx)⟩
      have g03 := g02.trans g3
      have nnp : np ∉ [st, big] := s2.ne hn0
      refine ⟨g03.tab hT, fun f1 c1 H4 g4 hf1 f1' fc1 => ?_⟩
      refine with_F f1' fun F1 hF1 f1' => ?_
      have A1 : AskAt P w K mg base T H4 f1 := by
        refine ⟨fun _ _ => 0, CfH f1 F1 [] [], ?_, ⟨f1', by rw [hF1]; exact fc1, ?_⟩, fun B _ _ g c => c.gr g, fun n t h2 => ?_⟩
        · subst hF1
          refine fv_expr (k := 9) (N := ["_law_here", "_law_total"]) (ps := ["_law_here", "_law_total"]) (spb := spAskD K T (fun _ _ => 0)) rfl (nscope_by (by kernel_rfl)) (fun _ _ _ us hl => match us, hl with | [_, _], _ => rfl) (fun vs H Q E h => ?_) (askD_link fun b ⟨y, e⟩ => nomatch (show none = some b from e)) (fun A outer s H vs Q E hr hl h => ⟨_, (pe_gd (ok_drawn_stand (T := T) M X I Tbl) hr (by decide) rfl (passes_call (takes_of rfl rfl rfl rfl) fun _ _ _ _ z => z) (pa_cons (pv 0) (pa_cons (pv 1) (pa_cons (pe_glob (v := .ref (He.ga K "_law_first")) rfl (M.gl "_law_first") rfl) pa_nil)))), ?_⟩)
          · obtain ⟨a, ns, t, rfl, _⟩ := h
            rfl
          · obtain ⟨a, ns, t, rfl, hT, pa, ht, q⟩ := h
            refine ⟨_, rfl, _, rfl, ?_⟩
            have m1 := nobF_pos t pa.two
            dsimp only [tCons, tC, tNil]
            exact drawn_known (k := (fun _ _ => 0) ns.length t) pa hT ht (ty_glo (fty _ (by decide))) (((ok_first M).fv).mono (by decide)) (fun H' Q' hq => ⟨_, rfl, hq _ _ ⟨rfl, rfl⟩⟩) (by dsimp only; omega) (by dsimp only; omega) q
        · refine capH_nil ?_
          subst hF1
          rfl
        · have := nobF_pos t h2
          dsimp only
          omega
      refine ⟨szl, fun al hal => ?_⟩
      have g5 : Gr T [] H4 (upd H4 al (.lst [.ref f1])) := .new hal
      have e5 : upd H4 al (.lst [.ref f1]) al = some (.lst [.ref f1]) := upd_same
      generalize upd H4 al (.lst [.ref f1]) = H5 at g5 e5 ⊢
      have g45 := g4.trans g5
      refine ⟨_, rfl, .inl ⟨rfl, _, .inl (.inl e5)⟩, g45.tab (g03.tab hT), fun f2 c2 H6 g6 hf2 f2' fc2 => ?_⟩
      refine with_F f2' fun F2 hF2 f2' => ?_
      have A2 : AskAt P w K mg base T H6 f2 := by
        refine ⟨fun n t => nobF n t - 1, CfH f2 F2 [] [], ?_, ⟨f2', by rw [hF2]; exact fc2, ?_⟩, fun B _ _ g c => c.gr g, fun n t h2 => ?_⟩
        · subst hF2
          refine fv_expr (k := 9) (N := ["_law_here", "_law_total"]) (ps := ["_law_here", "_law_total"]) (spb := spAskD K T (fun n t => nobF n t - 1)) rfl (nscope_by (by kernel_rfl)) (fun _ _ _ us hl => match us, hl with | [_, _], _ => rfl) (fun vs H Q E h => ?_) (askD_link fun b ⟨y, e⟩ => nomatch (show none = some b from e)) (fun A outer s H vs Q E hr hl h => ⟨_, (pe_gd (ok_drawn_stand (T := T) M X I Tbl) hr (by decide) rfl (passes_call (takes_of rfl rfl rfl rfl) fun _ _ _ _ z => z) (pa_cons (pv 0) (pa_cons (pv 1) (pa_cons (pe_glob (v := .ref (He.ga K "_law_last")) rfl (M.gl "_law_last") rfl) pa_nil)))), ?_⟩)
          · obtain ⟨a, ns, t, rfl, _⟩ := h
            rfl
          · obtain ⟨a, ns, t, rfl, hT, pa, ht, q⟩ := h
            refine ⟨_, rfl, _, rfl, ?_⟩
            have m1 := nobF_pos t pa.two
            dsimp only [tCons, tC, tNil]
            exact drawn_known (k := (fun n t => nobF n t - 1) ns.length t) pa hT ht (ty_glo (fty _ (by decide))) (((ok_last M).fv).mono (by decide)) (fun H' Q' hq => ⟨_, rfl, hq _ _ ⟨rfl, rfl⟩⟩) (by dsimp only; omega) (by dsimp only; omega) q
        · refine capH_nil ?_
          subst hF2
          rfl
        · have := nobF_pos t h2
          dsimp only
          omega
      have e6 := g6.lst e5 (fun z => nomatch z)
      refine ⟨al, _, _, rfl, rfl, e6, small1000 (show (1 : Nat) ≤ 1000 by decide), ?_⟩
      have g36 := g45.trans g6
      have halH : H al = none := g03.mono _ (g4.mono _ hal)
      have halI : al ∉ [st, big] := s3.ne (g4.mono _ hal)
      have gA : Gr T [st, big] H (upd H6 al (.lst [.ref f1, .ref f2])) := (g03.trans g36.wk).ownL halH e6
      have gB : Gr T [al] H6 (upd H6 al (.lst [.ref f1, .ref f2])) := .putL (by simp) e6
      have e7 : upd H6 al (.lst [.ref f1, .ref f2]) al = some (.lst [.ref f1, .ref f2]) := upd_same
      have s7 : StrmAt 77 st big (upd H6 al (.lst [.ref f1, .ref f2])) := (s3.gr g36).via gB halI
      have hn7 : upd H6 al (.lst [.ref f1, .ref f2]) np = some (.lst (ns.map V.str)) := (upd_ne (fun z => by
        have q := g4.lst hn (fun z => nomatch z)
        rw [z, hal] at q
        cases q)).trans (g36.lst hn (fun z => nomatch z))
      have A1' := (A1.gr (g5.trans g6)).gr gB
      have A2' := A2.gr gB
      show (fun X => _) (upd H6 al (.lst [.ref f1, .ref f2]))
      generalize upd H6 al (.lst [.ref f1, .ref f2]) = H7 at gA e7 s7 hn7 A1' A2' ⊢
      dsimp only
      refine ⟨_, rfl, _, rfl, _, rfl, _, rfl, st, big, 76, 50, rfl, s7, by decide, by decide, fun H8 t g8 s8 t0 t50 => ?_⟩
      obtain ⟨t, rfl⟩ : ∃ t' : Nat, t = t' := ⟨t.toNat, by omega⟩
      refine ⟨szl, fun tl htl => ?_⟩
      have g9 : Gr T [] H8 (upd H8 tl (.lst [.int 4, .int t])) := .new htl
      have gC := (gA.trans g8).trans g9.wk
      refine ⟨st, big, np, al, tl, f1, f2, 69, ns, 4, t, rfl, gC.tab hT, s8.gr g9, g9.lst (g8.lst hn7 nnp) (fun z => nomatch z), nok, mem, g9.lst (g8.lst e7 halI) (fun z => nomatch z), upd_same, nnp, halI, s7.ne (g8.mono _ htl), by decide, by omega, (A1'.gr g8).gr g9, (A2'.gr g8).gr g9, fun HA gD sD => ⟨true, rfl, iteT ?_⟩⟩
      exact ⟨_, rfl, st, big, 45, rfl, (gC.trans gD).tab hT, sD, fun HB gE => q HB⟩
end Rw
set_option maxHeartbeats 4000000
/-! The head's facts: what is read of the heap behind the head, and All of it. -/
namespace Rw
open PySem PySem.Spec PyProof.Rows L2 LamX NdefX
variable {P : Program} {w : World} {K : PySem.W.Frag} {mg : Str → Option Value} {base : Heap} {T : List NTab}
/-! ### an exception class, its __init__ with the class in a cell -/
theorem oexB_ok {C : Addr} (h : oexB K C = true) : OexC K C := by
  obtain ⟨h1, h⟩ := He.ba h
  obtain ⟨h2, h⟩ := He.ba h
  obtain ⟨h3, h⟩ := He.ba h
  obtain ⟨h4, h5⟩ := He.ba h
  refine ⟨?_, He.eqO_ok h2, of_decide_eq_true h3, of_decide_eq_true h4, h5⟩
  split at h1
  · rename_i t dd cd sl ho
    obtain ⟨et, g1⟩ := He.ba h1
    clear h1
    have et := of_decide_eq_true et
    subst et
    split at g1
    · rename_i D bm k0 k1 k2 k3 n k5 hm hs
      obtain ⟨e1, g2⟩ := He.ba g1
      obtain ⟨e2, g3⟩ := He.ba g2
      obtain ⟨e3, g4⟩ := He.ba g3
      obtain ⟨e4, e5⟩ := He.ba g4
      clear g1 g2 g3 g4
      have e1 := of_decide_eq_true e1
      have e2 := of_decide_eq_true e2
      have f4 : cd.hasDel = false := by simpa using e4
      clear e4
      obtain ⟨nm, bs, mro, ns, qn, hd, sn, sub, ab, col, del⟩ := cd
      dsimp only at hm e3 f4
      subst hm e3 f4 e1 e2
      have hsl : sl = #[k0, k1, k2, k3, some (.builtin "ValueError.__new__"), k5] := by
        rw [← hs]
      subst hsl
      exact ⟨nm, qn, ns, bs, bm, sn, sub, ab, col, dd, k0, k1, k2, k3, k5, ho, e5⟩
    · cases g1
  · cases h1
theorem fileB_ok {file : Str} {cd : Value} (h : fileB K file cd = true) : ∃ c, cd = .ref c ∧ ∃ c1 c2 vs c3 fl tf, K.lookup c = some ⟨c1, c2, .fields vs, c3⟩ ∧ vs[2]? = some (.str fl tf) ∧ (file == fl) = true := by
  cases cd with
  | ref c =>
    refine ⟨c, rfl, ?_⟩
    unfold fileB at h
    dsimp only at h
    split at h
    · rename_i vs sl hk
      split at h
      · rename_i fl tf hv
        exact ⟨_, _, vs, _, fl, tf, hk, hv, h⟩
      · cases h
    · cases h
  | _ => cases h
theorem cellB_ok {C : Addr} {cl : List (Str × Addr)} (h : cellB K C cl = true) (hn : cl.map (·.1) = (["__class__"] : List Str)) : ∃ cc : Addr, cl = ([(("__class__" : Str), cc)] : List (Str × Addr)) ∧ ∃ d1 d2 d3, K.lookup cc = some ⟨d1, d2, .cell (some (.ref C)), d3⟩ := by
  match cl, h, hn with
  | [(y, cc)], h, hn =>
    have ey : y = "__class__" := (List.cons.inj (show ([y] : List Str) = (["__class__"] : List Str) from hn)).1
    subst ey
    refine ⟨cc, rfl, ?_⟩
    unfold cellB at h
    dsimp only at h
    split at h
    · rename_i D sl hD
      have eD := of_decide_eq_true h
      subst eD
      exact ⟨_, _, _, hD⟩
    · cases h
theorem init_ok {x file : Str} {i : Nat} {C : Addr} (e : initO K x = initV x i) (c : initB K file C (initF K x) = true) :
    ∃ (nm : Str) (doc pm : Value) (an : Option Addr) (cda : Addr) (ct oc : Value) (od : Option Addr) (osl : Array (Option Value)) (cc : Addr), K.lookup (initF K x) = some ⟨oc, od, .func (PySem.W.fnX nm (x ++ ".__init__") (defArgs (meth i 0)) (defBody (meth i 0)) (defScope (meth i 0)) [("__class__", cc)] .none .none doc pm an (.ref cda) ct), osl⟩ ∧
    PySem.W.codeIn K (.ref cda) (x ++ ".__init__") = true ∧ (∃ c1 c2 vs c3 fl tf, K.lookup cda = some ⟨c1, c2, .fields vs, c3⟩ ∧ vs[2]? = some (.str fl tf) ∧ (file == fl) = true) ∧ ∃ d1 d2 d3, K.lookup cc = some ⟨d1, d2, .cell (some (.ref C)), d3⟩ := by
  unfold initO at e
  unfold initB at c
  cases q : K.lookup (initF K x) with
  | none =>
    rw [q] at c
    cases c
  | some o =>
    obtain ⟨oc, od, dt, osl⟩ := o
    rw [q] at c e
    cases dt with
    | func fd =>
      obtain ⟨n1, n2, n3, n4, n5, n6, n7, n8, n9, n10, n11, n12, n13, n14, n15⟩ := fd
      have e2 : (some (n2, n3, n4, n5, n6, n7.map (·.1), n8, n9, n15) : FnE) = (some (x ++ ".__init__", defArgs (meth i 0), FuncBody.stmts (defBody (meth i 0)), defScope (meth i 0), mainGlobals, ["__class__"], Value.none, Value.none, builtinsNs) : FnE) := e
      simp only [Option.some.injEq, Prod.mk.injEq] at e2
      obtain ⟨h1, h2, h3, h4, h5, h6, h7, h8, h9⟩ := e2
      subst h1 h2 h3 h4 h5 h7 h8 h9
      obtain ⟨d1, d0⟩ := He.ba (show (fileB K file n13 && (PySem.W.codeIn K n13 (x ++ ".__init__") && cellB K C n7)) = true from c)
      obtain ⟨d2, d3⟩ := He.ba d0
      obtain ⟨cda, rfl, hf⟩ := fileB_ok d1
      obtain ⟨cc, rfl, hc⟩ := cellB_ok d3 h6
      exact ⟨n1, n10, n11, n12, cda, n14, oc, od, osl, cc, rfl, d2, hf, hc⟩
    | _ => cases c
/-- the classes of exceptions: name, field, the top's statement -/
theorem exw_ok {x fld : Str} {i : Nat} (g : mg x = some (.ref (He.ga K x))) (e : initO K x = initV x i) (c : exwB K P.main.file x fld = true) : ExW P K mg x fld i := by
  obtain ⟨c1, c⟩ := He.ba c
  obtain ⟨c2, c⟩ := He.ba c
  obtain ⟨c3, c⟩ := He.ba c
  obtain ⟨c4, c⟩ := He.ba c
  obtain ⟨c5, c⟩ := He.ba c
  obtain ⟨c6, c⟩ := He.ba c
  obtain ⟨c7, c8⟩ := He.ba c
  exact ⟨g, initF K x, oexB_ok c1, He.eqO_ok c2, of_decide_eq_true c3, He.eqO_ok c4, He.eqO_ok c5, of_decide_eq_true c6, He.eqO_ok c7, init_ok e c8⟩
/-! ### the other facts of the classes -/
theorem objB_ok {C : Addr} (c : objB K C = true) : ObjK K C := by
  obtain ⟨c1, c⟩ := He.ba c
  obtain ⟨c2, c⟩ := He.ba c
  obtain ⟨c3, c4⟩ := He.ba c
  exact ⟨of_decide_eq_true c1, of_decide_eq_true c2, of_decide_eq_true c3, of_decide_eq_true c4⟩
theorem isB_ok (c : isB K = true) : Is K := by
  obtain ⟨c1, c⟩ := He.ba c
  obtain ⟨c2, c⟩ := He.ba c
  obtain ⟨c3, c⟩ := He.ba c
  obtain ⟨c4, c5⟩ := He.ba c
  exact ⟨He.eqO_ok c1, He.eqO_ok c2, of_decide_eq_true c3, of_decide_eq_true c4, of_decide_eq_true c5⟩
theorem mxB_ok (c : mxB K = true) : Mx K := by
  obtain ⟨c1, c⟩ := He.ba c
  obtain ⟨c2, c⟩ := He.ba c
  obtain ⟨c3, c⟩ := He.ba c
  obtain ⟨c4, c5⟩ := He.ba c
  exact ⟨objB_ok c1, objB_ok c2, objB_ok c3, of_decide_eq_true c4, He.eqO_ok c5⟩
theorem mtB_ok (c : mtB K = true) : Mt K := by
  obtain ⟨c1, c2⟩ := He.ba c
  exact ⟨fun x hx y hy => of_decide_eq_true (List.all_eq_true.mp (List.all_eq_true.mp c1 x hx) y hy), fun x hx => xfB_ok (List.all_eq_true.mp c2 x hx)⟩
theorem mzB_ok (c : mzB K = true) : Mz K := by
  obtain ⟨c1, c⟩ := He.ba c
  obtain ⟨c2, c⟩ := He.ba c
  obtain ⟨c3, c⟩ := He.ba c
  obtain ⟨c4, c5⟩ := He.ba c
  exact ⟨fun n hn => of_decide_eq_true (List.all_eq_true.mp c1 n hn), fun n hn => of_decide_eq_true (List.all_eq_true.mp c2 n hn), fun x hx => of_decide_eq_true (List.all_eq_true.mp c3 x hx), c4, He.eqO_ok c5⟩
/-! ### the facts by name -/
/-- what is told -/
structure SaysY (file : Str) (h : Heap) (K : PySem.W.Frag) : Prop where
  d : He.SaysD faL fnL K
  ex : exB file K = true
  ini : exDs.map (fun d => initO K d.1) = exDs.map fun d => initV d.1 d.2.2
  hd : ∀ p ∈ tfD, PySem.W.codeHdIn K (He.cT K p).1 (He.cT K p).2 = true
  out : ∀ p ∈ tfD, K.lookup (He.cT K p).2 = none
  empty : ∀ p ∈ tfD, h.get? (He.cT K p).2 = some { cls := .none, data := .fields #[] }
theorem SaysY.fa {file : Str} {h : Heap} (S : SaysY file h K) (f : He.Fa) (hf : f ∈ faL) : f.ok K = true := S.d.facts hf
end Rw
set_option maxHeartbeats 0
/-! The head's Hook. -/
namespace Rw
open PySem PySem.Spec PyProof.Rows L2 LamX NdefX
/-! the addresses that are looked at -/
/-- a class, its names, some of its functions -/
theorem saysY_of {file : Str} {h : Heap} (e : obY file h.get? = valY) : SaysY file h (knY h.get?) := by
  obtain ⟨e1, e23⟩ := Prod.mk.inj e
  obtain ⟨e2, e3⟩ := Prod.mk.inj e23
  obtain ⟨x1, x2⟩ := He.ba e2
  have key : ∀ p ∈ tfD, PySem.W.codeHdIn (knY h.get?) (He.cT (knY h.get?) p).1 (He.cT (knY h.get?) p).2 = true ∧ ∃ o, h.get? (He.cT (knY h.get?) p).2 = some o ∧ He.emptyTab o = true := fun p hp => by
    obtain ⟨y1, y2⟩ := He.ba (List.all_eq_true.mp x2 p hp)
    refine ⟨y1, ?_⟩
    cases q : h.get? (He.cT (knY h.get?) p).2 with
    | none =>
      rw [q] at y2
      cases y2
    | some o =>
      rw [q] at y2
      exact ⟨o, rfl, y2⟩
  exact ⟨e1, x1, e3, fun p hp => (key p hp).1, fun p hp => let ⟨_, o, q, z⟩ := key p hp; He.frT_none q z, fun p hp => by
    obtain ⟨_, o, q, z⟩ := key p hp
    rw [q, He.emptyTab_eq z]⟩
def hookY (file : Str) : PySem.W.Hook where
  α := AlY
  obs := fun s => obY file s.heap.get?
  val := fun _ => valY
  says := fun _ h => ∃ K : PySem.W.Frag, K.In h ∧ SaysY file h K
  of := fun _ _ e => ⟨_, He.frT_in, saysY_of e⟩
  keeps := fun _ _ _ ⟨K, kin, S⟩ k => ⟨K, PySem.W.Frag.In.keeps kin k, ⟨S.d, S.ex, S.ini, S.hd, S.out, fun p hp => k _ _ (S.empty p hp)⟩⟩
theorem obY_eq {file : Str} {g : Addr → Option Obj} {s : Shared} (h : ∀ a, g a = s.heap.get? a) : obY file g = (hookY file).obs s := by
  rw [show g = s.heap.get? from funext h]
  rfl
end Rw
set_option maxHeartbeats 4000000
/-! All the facts, of what the head tells. -/
namespace Rw
open PySem PySem.Spec PyProof.Rows L2 LamX NdefX
variable {P : Program} {w : World} {K : PySem.W.Frag} {mg : Str → Option Value} {base : Heap} {T : List NTab}
theorem fa_free {x : Str} (h : x ∈ freeL) : He.Fa.free x ∈ faL := List.mem_append_left _ (List.mem_append_left _ (List.mem_append_left _ (List.mem_map_of_mem h)))
theorem fa_glo {x : Str} (h : x ∈ gloL) : He.Fa.glo x ∈ faL := List.mem_append_left _ (List.mem_append_left _ (List.mem_append_right _ (List.mem_map_of_mem h)))
theorem fa_df {p : Str × Nat} (h : p ∈ dfL) : He.Fa.glo p.1 ∈ faL := List.mem_append_left _ (List.mem_append_right _ (List.mem_map.mpr ⟨p, h, rfl⟩))
/-- the tables of code objects -/
def tabR (K : PySem.W.Frag) : List NTab := tfL.map fun x => ((He.cT K (x, none)).2, nmA)
theorem all_of {h : Heap} {file : Str} (kin : K.In h) (G : h.Ns mainGlobals mg) (h1 : (P.main.scope.names.lookup ("super" : Str)).isSome = false) (h2 : P.main.file = file) (S : SaysY file h K) (tb : ∀ x ∈ tfL, TabB base mg (He.cT K (x, none)).1 (He.cT K (x, none)).2) : All P K mg base (tabR K) := by
  subst h2
  obtain ⟨x1, x⟩ := He.ba S.ex
  obtain ⟨x2, x⟩ := He.ba x
  obtain ⟨x3, x⟩ := He.ba x
  obtain ⟨x4, x⟩ := He.ba x
  obtain ⟨x5, x⟩ := He.ba x
  obtain ⟨y1, x⟩ := He.ba x
  obtain ⟨y2, x⟩ := He.ba x
  obtain ⟨y3, y4⟩ := He.ba x
  have more : ∀ f ∈ ([.cls "Path", .noat "Path" "names", .noat "Path" "many", .noat "Path" "ranks", .mkr "Path", .meth "Path" "__eq__", .str "LETTERS" letS, .str "FIGURES" figS, .cls "Desk", .mkr "Desk", .meth "Desk" "__eq__", .noat "Desk" "own_path", .noat "Desk" "own_grounds", .noat "Desk" "own_deeds", .noat "Desk" "own_undone"] : List He.Fa), f.ok K = true := fun f hf => S.fa f (List.mem_append_right _ hf)
  simp only [List.forall_mem_cons] at more
  obtain ⟨m1, m2, m3, m4, m5, m6, m7, m8, m9, m10, m11, m12, m13, m14, m15, _⟩ := more
  have fr : ∀ x ∈ freeL, mg x = none := fun x hx => He.free_ok kin G (S.fa _ (fa_free hx))
  have gl : ∀ x ∈ gloL, mg x = some (.ref (He.ga K x)) := fun x hx => He.glo_ok kin G (S.fa _ (fa_glo hx))
  have ds : ∀ d ∈ ([methD "Path" "__init__" "Path.__init__" 23 0, methD "Path" "__eq__" "Path.__eq__" 23 3, methD "Desk" "__init__" "Desk.__init__" 60 0, methD "Desk" "__eq__" "Desk.__eq__" 60 19] : List He.DefD), ∃ fd, FunD K d.name d.qual d.params d.body d.scope (d.dvs K) (d.kws K) (He.fAd K d.at_) fd := fun d hd => S.d.defs (List.mem_append_right _ hd)
  simp only [List.forall_mem_cons] at ds
  obtain ⟨d1, d2, d3, d4, _⟩ := ds
  have ini : ([initO K "BadPath", initO K "BadTotal", initO K "BadNumber", initO K "BadChooser"] : List FnE) = [initV "BadPath" 15, initV "BadTotal" 19, initV "BadNumber" 20, initV "BadChooser" 21] := S.ini
  simp only [List.cons.injEq, and_true] at ini
  obtain ⟨i1, i2, i3, i4⟩ := ini
  have ew : ∀ d ∈ exDs, exwB K P.main.file d.1 d.2.1 = true := fun d hd => List.all_eq_true.mp x1 d hd
  obtain ⟨p1, p2, p3⟩ := He.meth_ok m6
  obtain ⟨q1, q2, q3⟩ := He.meth_ok m11
  obtain ⟨fd1, F1⟩ := d1
  obtain ⟨fd2, F2⟩ := d2
  obtain ⟨fd3, F3⟩ := d3
  obtain ⟨fd4, F4⟩ := d4
  refine ⟨⟨fr, gl, fun p hp => ⟨He.glo_ok kin G (S.fa _ (fa_df hp)), S.d.defs (d := defD p) (List.mem_append_left _ (List.mem_map_of_mem hp))⟩, PySem.W.mg_of kin G (He.eqO_ok y1), He.cls_ok m1, He.noat_ok m2, He.noat_ok m3⟩,
    ⟨fr _ (by decide +kernel), h1, exw_ok (gl _ (by decide +kernel)) i1 (ew ("BadPath", "thing", 15) (by decide +kernel)), exw_ok (gl _ (by decide +kernel)) i2 (ew ("BadTotal", "total", 19) (by decide +kernel)), exw_ok (gl _ (by decide +kernel)) i3 (ew ("BadNumber", "number", 20) (by decide +kernel)), exw_ok (gl _ (by decide +kernel)) i4 (ew ("BadChooser", "thing", 21) (by decide +kernel))⟩,
    isB_ok x2, ⟨fun p hp => ?_, fun x hx => List.mem_map.mpr ⟨x, hx, rfl⟩, tb⟩, ⟨He.str_ok kin G m7, He.str_ok kin G m8, He.noat_ok m4, _, _, He.mkr_ok m5, F1⟩,
    ⟨⟨_, _, p1, p2, F2⟩, ⟨_, _, q1, q2, F4⟩, ⟨_, _, He.mkr_ok m10, F3⟩, He.cls_ok m9, He.noat_ok m12, He.noat_ok m13, He.noat_ok m14, He.noat_ok m15, He.eqO_ok y2, of_decide_eq_true y3⟩,
    mxB_ok x3, mtB_ok x4, mzB_ok x5, fun x hx => of_decide_eq_true (List.all_eq_true.mp y4 x hx)⟩
  obtain ⟨x, _, rfl⟩ := List.mem_map.mp hp
  rfl
end Rw
set_option maxHeartbeats 0
/-! The law's row. -/
namespace Rw
open PySem PySem.Spec PyProof.Rows L2 LamX NdefX
theorem ob_of {g : Addr → Option Obj} (h3 : He.obsD faL fnL (knY g) = He.valD fnL) (h4 : (exB fileR (knY g) && He.tabsB g tfD (knY g)) = true) (h5 : (exDs.map fun d => initO (knY g) d.1) = exDs.map fun d => initV d.1 d.2.2) : obY fileR g = valY := by
  show (He.obsD faL fnL (knY g), (exB fileR (knY g) && He.tabsB g tfD (knY g)), exDs.map fun d => initO (knY g) d.1) = (He.valD fnL, true, exDs.map fun d => initV d.1 d.2.2)
  rw [h3, h4, h5]
theorem runR (w : World) : HandSHeadRun.RunEqI lawR lawV (hookY fileR) (fun s => obY fileR (HandSHeadRun.getT s)) 20000 namesR w := by
  obtain ⟨x, hx, a⟩ := Option.map_eq_some_iff.mp (run_looks w)
  obtain ⟨y, hy, b⟩ := Option.map_eq_some_iff.mp (run_seen w)
  obtain ⟨z, hz, c⟩ := Option.map_eq_some_iff.mp (run_defs w)
  obtain ⟨v, hv, d⟩ := Option.map_eq_some_iff.mp (run_more w)
  have e1 : x = y := Option.some.inj (hx.symm.trans hy)
  have e2 : x = z := Option.some.inj (hx.symm.trans hz)
  have e3 : x = v := Option.some.inj (hx.symm.trans hv)
  subst e1 e2 e3
  obtain ⟨d1, d2⟩ := Prod.mk.inj d
  have h2 := ob_of c d1 d2
  refine Option.map_eq_some_iff.mpr ⟨x, hx, ?_⟩
  exact Prod.ext a (Prod.ext b h2)
theorem law_facts {w : World} {mg : Str → Option Value} {fa : Addr} {h : Heap} (Y : (hookY fileR).says w h) (G : h.Ns mainGlobals mg) (hmg : mg ("law" : Str) = some (.ref fa)) :
    ∃ K : PySem.W.Frag, K.In h ∧ LawAtG PySem.Challenge.rw_ringwalkers_k30_whole_drawn_stands w K (L2.CX PySem.Challenge.rw_ringwalkers_k30_whole_drawn_stands.prog w) 14 63 "_law_script" mg fa h := by
  obtain ⟨K, kin, S⟩ := Y
  obtain ⟨fd, F⟩ := S.d.defs (d := defD ("law", 109)) (List.mem_append_left _ (List.mem_map_of_mem (by decide +kernel)))
  have e := hmg.symm.trans (He.glo_ok kin G (S.fa _ (fa_df (p := ("law", 109)) (by decide +kernel))))
  have e' : fa = He.ga K "law" := by
    have z := Option.some.inj e
    injection z
  subst e'
  have b := FunD.bindsA (ps := ["_law_script"]) F fun _ _ _ _ _ _ us hl => match us, hl with | [_], _ => rfl
  have tm : ∀ x ∈ tfL, ((x, none) : He.Defn) ∈ tfD := fun x hx => List.mem_map.mpr ⟨x, hx, rfl⟩
  refine ⟨K, kin, fd, tfL.map fun x => He.cT K (x, none), spLaw K (tabR K), fun p hp => ?_, fun s v => b s [v] rfl, fun H a ns hl _ ht hs => ?_, fun base hB hN hT => ?_⟩
  · obtain ⟨x, hx, rfl⟩ := List.mem_map.mp hp
    exact ⟨S.empty _ (tm x hx), S.out _ (tm x hx), PySem.W.codeHd_of_K kin (S.hd _ (tm x hx))⟩
  · refine ⟨a, ns, rfl, fun q hq => ?_, hs, by omega, fun _ => rfl⟩
    obtain ⟨x, hx, rfl⟩ := List.mem_map.mp hq
    exact TabN.nil (ht _ (List.mem_map.mpr ⟨x, hx, rfl⟩))
  · exact ok_law (all_of kin G (by kernel_rfl) rfl S fun x hx => hT _ (List.mem_map.mpr ⟨x, hx, rfl⟩)) F
theorem cx_end {P : Program} {w : World} (H : Hp) (s : Shared) (e : Value) (s' : Shared) (z : L2.CX P w [] H s (fun _ _ _ => False) e s') : False := by
  obtain ⟨_, _, _, _, _, _, _, _, _, _, _, _, q⟩ := z
  exact q
end Rw
open PySem PySem.W PySem.Calls PyProof.Rows
theorem PySem.Challenge.cw_ringwalkers_k30_whole_drawn_stands_holds : PySem.Challenge.rw_ringwalkers_k30_whole_drawn_stands.Holds := by
  w_on
  o_law
  refine HandSHeadRun.head_imp (r := Rw.lawR) (q := Rw.lawV) (H := Rw.hookY Rw.fileR) (ob := fun s => Rw.obY Rw.fileR (HandSHeadRun.getT s)) (M := 20000) (loose := Rw.namesR) (d := HandSHeadRun.topDef Rw.lawR.prog 109) (kwd := []) (fun s => Rw.obY_eq (HandSHeadRun.getT_eq s))
    Rw.runR (by kernel_rfl) (by kernel_rfl) (by kernel_rfl) (by rfl) (by first | assumption | decide +kernel) (by decide +kernel) ⟨rfl, rfl, rfl, rfl, rfl, by decide +kernel⟩ ?hw ?hc
  case hw => w_witness2
  case hc =>
    refine Rw.walk_ofG (l := PySem.Challenge.rw_ringwalkers_k30_whole_drawn_stands) (n := 63) (k := 14) (x := "_law_script") (CX := fun w => L2.CX PySem.Challenge.rw_ringwalkers_k30_whole_drawn_stands.prog w) rfl (by decide) (by kernel_rfl) ⟨rfl, by decide, by decide⟩ (fun w mg fa h Y G hmg0 => Rw.law_facts Y G ?_) (fun w H s e s' z => Rw.cx_end H s e s' z)
    have e : (HandSHeadRun.topDef Rw.lawR.prog 109).name = ("law" : PySem.Str) := by kernel_rfl
    rw [← e]
    exact hmg0

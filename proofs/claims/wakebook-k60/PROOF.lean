import PyProof.Rows.All
import Wide.All
import OpenK.AllK
import Wide.FinOn
import HandS.Words
import HandS.HeadHook1
import HandS.HeadHook2
import HandS.Head0
import HandS.Head1
import HandS.Head2
import KE.KNestM
import KE.KSuper
import KE.KIsAll
import KE.KTryMore
import HandS.Exc
import PyProof.EqAt
import PyProof.EqKinds
import PyProof.TupleCall
import HandS.ForMost
import HandS.Zip
import HandS.Walk
import HandS.TupAny
import HandS.Conv
import HandS.IsInst
import HandS.RaiseMore
import HandS.Flow
import HandS.Strs
import KE.DataCmp
import PyProof.NeData
import KE.GoesEnum
import HandS.Star
import HandS.Defaults
import HandS.Dict
import HandS.TupMul
import HandS.ExcInit
import KE.KExcSuper
import KE.RegKSuper
import KE.KeyNested
import KE.KDictKeyed
import KE.SortData
import HandS.Lambda
import PyProof.ReprRoads
import KE.KExcIs
import HandS.ExcField
import HandS.ExcIs
import HandS.TryMany
import HandS.ExcValue
import KE.KDflt
import HandS.EndOwn
import PySem.Challenge.RW_wakebook_k60_whole_texts_of_houses
set_option Elab.async false
set_option linter.all false
set_option maxRecDepth 100000
set_option maxHeartbeats 4200000
namespace Wk
open L2 PyProof.Rows PySem.Spec PySem
/-! ### the text, the facts -/
def top (i : Nat) : Stmt := PySem.Challenge.pw_wakebook_k60_whole_texts_of_houses.main.body.getD i (.Pass ⟨0, 0, 0, 0⟩)
def fa0 : List He.Fa := [.free "isinstance", .free "len", .free "all", .free "zip", .free "enumerate", .free "range", .free "str", .free "int", .free "bool", .free "tuple", .free "list", .free "sorted", .free "dict", .free "repr", .free "super", .int "MOST_KINDS" 3, .int "MOST_STANDS" 6, .int "MOST_EDGES" 24, .int "MOST_LETTERS" 8, .int "MOST_DEVICES" 12]
def fa1 : List He.Fa := [.int "MOST_MOVES" 10000, .str "LETTERS" "abcdefghijklmnopqrstuvwxyz", .str "CALM" "calm", .str "HELD" "held", .str "OVER" "over", .str "RUNG" "rung", .str "UNHELD" "unheld", .str "GIVE" "give", .str "GO" "go", .str "HOLD" "hold", .str "HUSH" "hush", .str "EDGE" "edge", .str "COME" "come", .str "LEAVE" "leave", .str "BELL" "bell", .str "FIGURES" "0123456789", .str "KIND" "kind", .str "UP" "up", .str "DEAF" "deaf", .str "BELOW" "below"]
def fa2 : List He.Fa := [.str "EDGES" "edges", .glo "ASKS", .glo "DEEDS", .glo "STRANGER_MOVES", .glo "ORDER", .glo "is_whole", .glo "is_word", .glo "is_tuple_of", .glo "is_ascending", .glo "is_stands", .glo "is_asks", .glo "is_edge", .glo "need_edges", .glo "is_below", .glo "need_kind", .glo "is_pair", .glo "need_house", .glo "spaced", .glo "edge_words", .glo "kind_lines"]
def fa3 : List He.Fa := [.glo "house_text", .glo "number_in", .glo "edge_in", .glo "numbers_in", .glo "names_in", .glo "line_in", .glo "kind_in", .glo "goes_on", .glo "blocks_in", .glo "item_of", .glo "kind_of", .glo "read_house", .glo "is_move", .glo "move_words", .glo "weaving_text", .glo "move_in", .glo "read_weaving", .glo "_law_begun", .glo "_law_draw", .glo "_law_like"]
def fa4 : List He.Fa := [.glo "_law_some", .glo "_law_order", .glo "_law_word_of", .glo "_law_told", .glo "_law_asks", .glo "_law_edge", .glo "_law_book", .glo "_law_house", .glo "_law_books", .glo "_law_belows", .glo "_law_tree", .glo "_law_lot", .glo "_law_is_up", .glo "_law_is_held", .glo "_law_is_so", .glo "_law_may", .glo "_law_moves", .glo "_law_done", .glo "_law_any", .glo "_law_begin"]
def fa5 : List He.Fa := [.glo "_law_weaving", .glo "_law_edge_text", .glo "_law_house_text", .glo "_law_move_text", .glo "law", .glo "WakeError", .glo "BadHouse", .glo "BadTree", .glo "BadMove", .glo "BadShape", .glo "BadName", .glo "BadCut", .glo "BadRow", .glo "BadOrder", .glo "BadNumber", .glo "BadText", .glo "TooGreat", .glo "NothingLeft"]
def FA : List He.Fa := fa0 ++ fa1 ++ fa2 ++ fa3 ++ fa4 ++ fa5
def dDef (x : Str) (i : Nat) : He.DefD := ⟨(x, none), x, x, defArgs (top i), defBody (top i), defScope (top i), [], []⟩
def fn0 : List He.DefD := [dDef "is_whole" 31, dDef "is_word" 32, dDef "is_tuple_of" 33, dDef "is_ascending" 34, dDef "is_stands" 35, dDef "is_asks" 36, dDef "is_edge" 37, dDef "need_edges" 38, dDef "is_below" 39, dDef "need_kind" 40, dDef "is_pair" 41, dDef "need_house" 42, dDef "spaced" 58, dDef "edge_words" 59, dDef "kind_lines" 60, dDef "house_text" 61, dDef "number_in" 62, dDef "edge_in" 63, dDef "numbers_in" 64, dDef "names_in" 65]
def fn1 : List He.DefD := [dDef "line_in" 66, dDef "kind_in" 67, dDef "goes_on" 68, dDef "blocks_in" 69, dDef "item_of" 70, dDef "kind_of" 71, dDef "read_house" 72, dDef "is_move" 73, dDef "move_words" 74, dDef "weaving_text" 75, dDef "move_in" 76, dDef "read_weaving" 77, dDef "_law_begun" 79, dDef "_law_draw" 80, dDef "_law_like" 81, dDef "_law_some" 82, dDef "_law_order" 83, dDef "_law_word_of" 84, dDef "_law_told" 85, dDef "_law_asks" 86]
def fn2 : List He.DefD := [dDef "_law_edge" 87, dDef "_law_book" 88, dDef "_law_house" 89, dDef "_law_books" 90, dDef "_law_belows" 91, dDef "_law_tree" 92, dDef "_law_lot" 93, dDef "_law_is_up" 94, dDef "_law_is_held" 95, dDef "_law_is_so" 96, dDef "_law_may" 97, dDef "_law_moves" 98, dDef "_law_done" 99, dDef "_law_any" 100, dDef "_law_begin" 101, dDef "_law_weaving" 102, dDef "_law_edge_text" 103, dDef "_law_house_text" 104, dDef "_law_move_text" 105, dDef "law" 106]
def FN : List He.DefD := fn0 ++ fn1 ++ fn2
def TUPS : List (Str × List Str) := [("ASKS", ["calm", "held", "over", "rung", "unheld"]), ("DEEDS", ["give", "go", "hold", "hush"]), ("STRANGER_MOVES", ["come", "leave", "bell"]), ("ORDER", ["up", "deaf", "edges", "below"])]
def tupN (K : PySem.W.Frag) (x : Str) : Bool := match K.lookup (He.ga K x) with | some ⟨_, none, _, _⟩ => true | _ => false
end Wk
set_option maxHeartbeats 0
/-! What the head looks at. -/
namespace Wk
open L2 PyProof.Rows PySem.Spec PySem
/-! ### which objects -/
def kRefs (o : Obj) : List Addr := match o.data with
  | .dict es _ => es.toList.flatMap fun e => He.refV e.val
  | _ => []
def kFn (g : Addr → Option Obj) (a : Addr) : List Addr := a :: (match g a with
  | some ob => (match ob.data with
    | .func fd => He.refV fd.code ++ fd.closure.map (·.2)
    | _ => [])
  | none => [])
def kTop (g : Addr → Option Obj) (a : Addr) : List Addr := kFn g a ++ (match g a with
  | some ob => (match ob.data with
    | .cls cd => cd.ns :: (match g cd.ns with
      | some n => (kRefs n).flatMap (kFn g)
      | none => [])
    | _ => [])
  | none => [])
def kAs (g : Addr → Option Obj) : List Addr := cStatics :: mainGlobals :: (match g mainGlobals with
  | some o => (kRefs o).flatMap (kTop g)
  | none => [])
def kOf (g : Addr → Option Obj) : PySem.W.Frag := He.frG g (kAs g)
/-! ### an own exception with an __init__ -/
def fI (K : PySem.W.Frag) (x : Str) : Addr := He.ma K (He.ga K x) "__init__"
def fdI (K : PySem.W.Frag) (x : Str) : Option FuncData := match K.lookup (fI K x) with
  | some ob => (match ob.data with
    | .func fd => some fd
    | _ => none)
  | none => none
def ccI (K : PySem.W.Frag) (x : Str) : Addr := match fdI K x with
  | some fd => (match fd.closure with
    | [(_, c)] => c
    | _ => 0)
  | none => 0
def cdI (K : PySem.W.Frag) (x : Str) : Addr := match fdI K x with
  | some fd => (match fd.code with
    | .ref c => c
    | _ => 0)
  | none => 0
def codeF (K : PySem.W.Frag) (x q : Str) : Bool := match fdI K x with
  | some fd => PySem.W.codeIn K fd.code q
  | none => false
def oexB (K : PySem.W.Frag) (C : Addr) : Bool := match K.lookup C with
  | some o => (match o.cls, o.data, o.slots.toList with
    | .type t, .cls cd, [_, _, _, _, some (.builtin n), _] => t == "type" && (n == "ValueError.__new__" && (!cd.hasDel && (cd.hasDict && (match cd.mro with
      | .ref D :: bm => D == C && HandSPX.refsVE bm
      | _ => false))))
    | _, _, _ => false)
  | none => false
def cellB (K : PySem.W.Frag) (cc C : Addr) : Bool := match K.lookup cc with
  | some ob => (match ob.data with
    | .cell (some (.ref D)) => D == C
    | _ => false)
  | none => false
def fileB (z : Str) (K : PySem.W.Frag) (cda : Addr) : Bool := match K.lookup cda with
  | some ob => (match ob.data with
    | .fields vs => (match (vs[2]? : Option Value) with
      | some (.str f _) => z == f
      | _ => false)
    | _ => false)
  | none => false
def toldCs (K : PySem.W.Frag) : List Value := [.ref (He.ga K "WakeError"), .ref (He.ga K "TooGreat"), .ref (He.ga K "NothingLeft")]
def exL (z : Str) (K : PySem.W.Frag) (x fld q : Str) (g : Nat) : List Bool :=
  let C := He.ga K x
  [oexB K C,
   He.eqO (PySem.W.findIn K (.ref C) "__setattr__") (some (some (.builtin "object.__setattr__"))),
   decide (PySem.W.subIn K (.ref C) (.type "BaseException") = some true),
   decide (PySem.W.typeIn K (.ref C) = some (.type "type")),
   PySem.W.keepIn K (.ref C),
   He.eqO (PySem.W.findIn K (.ref C) "__init__") (some (some (.ref (fI K x)))),
   decide (PySem.W.typeIn K (.ref (fI K x)) = some (.type "function")),
   He.eqO (PySem.W.ks_superIn K C C "__init__") (some (some (.builtin "ValueError.__init__"))),
   decide (PySem.W.subIn K (.ref C) (.type "ValueError") = some true),
   decide (PySem.W.mroIn K C (.ref C) = some true),
   He.eqO (PySem.W.nsIn K cStatics "thirdparty.any") (some none),
   cellB K (ccI K x) C,
   fileB z K (cdI K x),
   He.eqO (PySem.W.findIn K (.ref C) fld) (some none),
   codeF K x q,
   (PySem.W.clsIn K C).isSome,
   He.eqO (PySem.W.findIn K (.ref C) "__getattribute__") (some (some (.builtin "BaseException.__getattribute__"))),
   He.eqO (PySem.W.findIn K (.ref C) "__getattr__") (some none),
   He.eqO (PySem.W.findIn K (.ref C) "__class__") (some (some (.builtin "object.__class__"))),
   He.eqO (PySem.W.specialIn K (.builtin "object.__class__") "__get__") (some (some (.builtin "getset_descriptor.__get__"))),
   decide (PySem.W.takesIn K (.builtin "object.__class__") = some true),
   decide (PySem.W.mroIn K C (.type "object") = some true),
   PySem.W.hasDictIn K C,
   decide (PySem.W.exmAny K (.ref C) (toldCs K) = some true),
   decide (PySem.W.kitOne K (.ref C) (.ref (He.ga K "BadHouse")) = some (g == 0)),
   decide (PySem.W.kitOne K (.ref C) (.ref (He.ga K "BadTree")) = some (g == 1)),
   decide (PySem.W.kitOne K (.ref C) (.ref (He.ga K "BadMove")) = some (g == 2)),
   decide (PySem.W.kitOne K (.ref C) (.ref (He.ga K "BadShape")) = some (g == 3)),
   decide (PySem.W.kitOne K (.ref C) (.ref (He.ga K "BadName")) = some (g == 4)),
   decide (PySem.W.kitOne K (.ref C) (.ref (He.ga K "BadCut")) = some (g == 5)),
   decide (PySem.W.kitOne K (.ref C) (.ref (He.ga K "BadRow")) = some (g == 6)),
   decide (PySem.W.kitOne K (.ref C) (.ref (He.ga K "BadOrder")) = some (g == 7)),
   decide (PySem.W.kitOne K (.ref C) (.ref (He.ga K "BadNumber")) = some (g == 8)),
   decide (PySem.W.kitOne K (.ref C) (.ref (He.ga K "BadText")) = some (g == 9)),
   decide (PySem.W.kitOne K (.ref C) (.ref (He.ga K "TooGreat")) = some (g == 10)),
   decide (PySem.W.kitOne K (.ref C) (.ref (He.ga K "NothingLeft")) = some (g == 11))]
def lawB (K : PySem.W.Frag) : Bool := match PySem.W.tabIn K "law" with
  | some (c, p) => PySem.W.codeHdIn K c p && (K.lookup p).isNone
  | none => false
def prgW : Program := PySem.Challenge.pw_wakebook_k60_whole_texts_of_houses
def moreB (K : PySem.W.Frag) : Bool := (TUPS.all fun q => He.tupB K q.1 (q.2.map He.Dv.str) && tupN K q.1) && (lawB K && ((exL prgW.main.file K "BadHouse" "place" "BadHouse.__init__" 0).all (fun b => b) && (exL prgW.main.file K "BadRow" "value" "BadRow.__init__" 6).all fun b => b))
abbrev IniV : Type := Option (Str × Str × Arguments × FuncBody × Scope × Addr × List Str × Value × Addr)
def iniObs (K : PySem.W.Frag) (x : Str) : IniV := match fdI K x with
  | some fd => some (fd.name, fd.qualname, fd.params, fd.body, fd.scope, fd.globals, fd.closure.map (·.1), fd.defaults, fd.builtins)
  | none => none
def clsIni (i : Nat) : Stmt := match top i with
  | .ClassDef _ _ _ (st :: _) _ _ _ _ _ _ _ => st
  | st => st
def iniVal (q : Str) (i : Nat) : IniV := some ("__init__", q, defArgs (clsIni i), .stmts (defBody (clsIni i)), defScope (clsIni i), mainGlobals, ["__class__"], .none, builtinsNs)
abbrev AlW : Type := He.AlD × Bool × IniV × IniV
def obsW (K : PySem.W.Frag) : AlW := (He.obsD FA FN K, moreB K, iniObs K "BadHouse", iniObs K "BadRow")
def valW : AlW := (He.valD FN, true, iniVal "BadHouse.__init__" 2, iniVal "BadRow.__init__" 8)
def hkW : PySem.W.Hook where
  α := AlW
  obs := fun s => obsW (kOf s.heap.get?)
  val := fun _ => valW
  says := fun _ h => ∃ K : PySem.W.Frag, K.In h ∧ obsW K = valW
  of := fun _ _ e => ⟨_, He.frG_in, e⟩
  keeps := fun _ _ _ z kk => z.elim fun K0 y => ⟨K0, PySem.W.Frag.In.keeps y.1 kk, y.2⟩
def obW (s : PySem.W.SharedT) : AlW := obsW (kOf (HandSHeadRun.getT s))
theorem obW_eq (s : PySem.W.SharedT) : obW s = hkW.obs s.abs := by
  have e : HandSHeadRun.getT s = s.abs.heap.get? := funext (HandSHeadRun.getT_eq s)
  unfold obW
  rw [e]
  rfl
def lo0 : List Str := ["WakeError", "BadHouse", "BadTree", "BadMove", "BadShape", "BadName", "BadCut", "BadRow", "BadOrder", "BadNumber", "BadText", "TooGreat", "NothingLeft", "MOST_KINDS", "MOST_STANDS", "MOST_EDGES", "MOST_LETTERS", "LETTERS", "CALM", "HELD", "OVER", "RUNG", "UNHELD", "ASKS", "GIVE", "GO"]
def lo1 : List Str := ["HOLD", "HUSH", "DEEDS", "is_whole", "is_word", "is_tuple_of", "is_ascending", "is_stands", "is_asks", "is_edge", "need_edges", "is_below", "need_kind", "is_pair", "need_house", "MOST_DEVICES", "MOST_MOVES", "EDGE", "COME", "LEAVE", "BELL", "STRANGER_MOVES", "FIGURES", "KIND", "UP", "DEAF"]
def lo2 : List Str := ["BELOW", "EDGES", "ORDER", "spaced", "edge_words", "kind_lines", "house_text", "number_in", "edge_in", "numbers_in", "names_in", "line_in", "kind_in", "goes_on", "blocks_in", "item_of", "kind_of", "read_house", "is_move", "move_words", "weaving_text", "move_in", "read_weaving", "_law_begun", "_law_draw", "_law_like"]
def lo3 : List Str := ["_law_some", "_law_order", "_law_word_of", "_law_told", "_law_asks", "_law_edge", "_law_book", "_law_house", "_law_books", "_law_belows", "_law_tree", "_law_lot", "_law_is_up", "_law_is_held", "_law_is_so", "_law_may", "_law_moves", "_law_done", "_law_any", "_law_begin", "_law_weaving", "_law_edge_text", "_law_house_text", "_law_move_text"]
def LO : List Str := lo0 ++ lo1 ++ lo2 ++ lo3
abbrev rowW : PySem.W.OpenRow := PySem.W.OpenLaw.row PySem.Challenge.rw_wakebook_k60_whole_texts_of_houses
end Wk
namespace Wk
open PyProof.Rows PySem.Calls PySem.W PySem
theorem runW (w : World) : HandSHeadRun.RunEq rowW (view rowW.prog [106]) hkW obW 6000 LO w := by
  intro os
  kernel_rfl
end Wk
set_option maxHeartbeats 4200000
/-! The data layer: what a value stands for (PyData), off the addresses that may change. -/
namespace Wk
open L2 PyProof.Rows PySem.Spec PySem
/-! ### heaps: all but Mu stays -/
def ExM (Mu : Addr → Prop) (H H' : Hp) : Prop := ∀ a o, ¬ Mu a → H a = some o → H' a = some o
theorem ExM.refl {Mu : Addr → Prop} (H : Hp) : ExM Mu H H := fun _ _ _ h => h
theorem ExM.trans {Mu : Addr → Prop} {H H1 H2 : Hp} (a : ExM Mu H H1) (b : ExM Mu H1 H2) : ExM Mu H H2 := fun x o n h => b x o n (a x o n h)
theorem ExM.new {Mu : Addr → Prop} {H : Hp} {p : Addr} {o : HO} (h : H p = none) : ExM Mu H (upd H p o) := fun a u _ e => by
  rw [upd_ne (ne_of_none e h)]; exact e
theorem ExM.at {Mu : Addr → Prop} {H : Hp} {p : Addr} {o : HO} (h : Mu p) : ExM Mu H (upd H p o) := fun a u n e => by
  rw [upd_ne (fun z => n (by rw [z]; exact h))]; exact e
theorem ExM.mono {Mu Mu' : Addr → Prop} {H H' : Hp} (e : ExM Mu H H') (h : ∀ a, Mu a → Mu' a) : ExM Mu' H H' := fun a o n q => e a o (fun z => n (h a z)) q
/-- a list, a tuple that is read and stays -/
def SqLM (K : PySem.W.Frag) (Mu : Addr → Prop) (H : Hp) (a : Addr) (xs : List V) : Prop :=
  (Rd H a (.lst xs) ∧ ¬ Mu a) ∨ ∃ (o : Obj) (its : Array Value) (n : Nat), K.lookup a = some o ∧ o.cls = .type "list" ∧ o.dict = none ∧ o.data = .seq its n ∧ its.size ≤ sizeLine ∧ Vals xs its.toList
def SqTM (K : PySem.W.Frag) (Mu : Addr → Prop) (H : Hp) (a : Addr) (xs : List V) : Prop :=
  (Rd H a (.tup xs) ∧ ¬ Mu a) ∨ ∃ (o : Obj) (its : Array Value) (n : Nat), K.lookup a = some o ∧ o.cls = .type "tuple" ∧ o.data = .seq its n ∧ its.size ≤ sizeLine ∧ Vals xs its.toList
section
variable {K : PySem.W.Frag} {Mu Mu' : Addr → Prop} {H H' : Hp} {a : Addr} {xs : List V}
theorem SqLM.sq (h : SqLM K Mu H a xs) : SqL K H a xs := h.elim (fun z => .inl z.1) .inr
theorem SqTM.sq (h : SqTM K Mu H a xs) : SqT K H a xs := h.elim (fun z => .inl z.1) .inr
theorem rd_ex {u : HO} (e : ExM Mu H H') (n : ¬ Mu a) (h : Rd H a u) : Rd H' a u := h.elim (fun z => .inl (e a _ n z)) fun ⟨o, z⟩ => .inr ⟨o, e a _ n z⟩
theorem SqLM.exM (e : ExM Mu H H') (h : SqLM K Mu H a xs) : SqLM K Mu H' a xs := h.elim (fun z => .inl ⟨rd_ex e z.2 z.1, z.2⟩) .inr
theorem SqTM.exM (e : ExM Mu H H') (h : SqTM K Mu H a xs) : SqTM K Mu H' a xs := h.elim (fun z => .inl ⟨rd_ex e z.2 z.1, z.2⟩) .inr
theorem rd_some {u : HO} (h : Rd H a u) : H a ≠ none := by
  rcases h with h | ⟨o, h⟩ <;> rw [h] <;> simp
theorem SqLM.mu (m : ∀ a, Mu' a → Mu a ∨ H a = none) (h : SqLM K Mu H a xs) : SqLM K Mu' H a xs := h.elim (fun z => .inl ⟨z.1, fun q => (m a q).elim z.2 (rd_some z.1)⟩) .inr
theorem SqTM.mu (m : ∀ a, Mu' a → Mu a ∨ H a = none) (h : SqTM K Mu H a xs) : SqTM K Mu' H a xs := h.elim (fun z => .inl ⟨z.1, fun q => (m a q).elim z.2 (rd_some z.1)⟩) .inr
theorem SqLM.of (h : H a = some (.lst xs)) (n : ¬ Mu a) : SqLM K Mu H a xs := .inl ⟨.inl h, n⟩
theorem SqTM.of (h : H a = some (.tup xs)) (n : ¬ Mu a) : SqTM K Mu H a xs := .inl ⟨.inl h, n⟩
end
mutual
/-- v stands for d, and goes on to, whatever happens at Mu -/
inductive Dq (K : PySem.W.Frag) (Mu : Addr → Prop) (H : Hp) : V → PyData → Prop
  | non : Dq K Mu H .non .none
  | bl (b : Bool) : Dq K Mu H (.bl b) (.bool b)
  | int (i : Int) : Dq K Mu H (.int i) (.int i)
  | str (x : Str) : Dq K Mu H (.str x) (.str x)
  | lst {a : Addr} {xs : List V} {ds : List PyData} : SqLM K Mu H a xs → DqAll K Mu H xs ds → Dq K Mu H (.ref a) (.list ds)
  | tup {a : Addr} {xs : List V} {ds : List PyData} : SqTM K Mu H a xs → DqAll K Mu H xs ds → Dq K Mu H (.ref a) (.tuple ds)
inductive DqAll (K : PySem.W.Frag) (Mu : Addr → Prop) (H : Hp) : List V → List PyData → Prop
  | nil : DqAll K Mu H [] []
  | cons {v : V} {vs : List V} {d : PyData} {ds : List PyData} : Dq K Mu H v d → DqAll K Mu H vs ds → DqAll K Mu H (v :: vs) (d :: ds)
end
section
variable {K : PySem.W.Frag} {Mu Mu' : Addr → Prop} {H H' : Hp}
mutual
theorem Dq.map (hl : ∀ a xs, SqLM K Mu H a xs → SqLM K Mu' H' a xs) (ht : ∀ a xs, SqTM K Mu H a xs → SqTM K Mu' H' a xs) : ∀ (d : PyData) (v : V), Dq K Mu H v d → Dq K Mu' H' v d
  | .none, _, h => by cases h; exact .non
  | .bool b, _, h => by cases h; exact .bl _
  | .int i, _, h => by cases h; exact .int _
  | .str x, _, h => by cases h; exact .str _
  | .list ds, _, h => by
    cases h with
    | lst hs ha => exact .lst (hl _ _ hs) (DqAll.map hl ht ds _ ha)
  | .tuple ds, _, h => by
    cases h with
    | tup hs ha => exact .tup (ht _ _ hs) (DqAll.map hl ht ds _ ha)
  | .dict _, _, h => by cases h
theorem DqAll.map (hl : ∀ a xs, SqLM K Mu H a xs → SqLM K Mu' H' a xs) (ht : ∀ a xs, SqTM K Mu H a xs → SqTM K Mu' H' a xs) : ∀ (ds : List PyData) (vs : List V), DqAll K Mu H vs ds → DqAll K Mu' H' vs ds
  | [], _, h => by cases h; exact .nil
  | d :: ds, _, h => by
    cases h with
    | cons h1 h2 => exact .cons (Dq.map hl ht d _ h1) (DqAll.map hl ht ds _ h2)
end
mutual
theorem Dq.dp : ∀ (d : PyData) (v : V), Dq K Mu H v d → Dp K H v d
  | .none, _, h => by cases h; exact .non
  | .bool b, _, h => by cases h; exact .bl _
  | .int i, _, h => by cases h; exact .int _
  | .str x, _, h => by cases h; exact .str _
  | .list ds, _, h => by
    cases h with
    | lst hs ha => exact .lst hs.sq (DqAll.dp ds _ ha)
  | .tuple ds, _, h => by
    cases h with
    | tup hs ha => exact .tup hs.sq (DqAll.dp ds _ ha)
  | .dict _, _, h => by cases h
theorem DqAll.dp : ∀ (ds : List PyData) (vs : List V), DqAll K Mu H vs ds → DpAll K H vs ds
  | [], _, h => by cases h; exact .nil
  | d :: ds, _, h => by
    cases h with
    | cons h1 h2 => exact .cons (Dq.dp d _ h1) (DqAll.dp ds _ h2)
end
theorem Dq.exM {v : V} {d : PyData} (h : Dq K Mu H v d) (e : ExM Mu H H') : Dq K Mu H' v d := Dq.map (fun _ _ z => z.exM e) (fun _ _ z => z.exM e) d v h
theorem DqAll.exM {v : List V} {d : List PyData} (h : DqAll K Mu H v d) (e : ExM Mu H H') : DqAll K Mu H' v d := DqAll.map (fun _ _ z => z.exM e) (fun _ _ z => z.exM e) d v h
theorem Dq.mu {v : V} {d : PyData} (h : Dq K Mu H v d) (m : ∀ a, Mu' a → Mu a ∨ H a = none) : Dq K Mu' H v d := Dq.map (fun _ _ z => z.mu m) (fun _ _ z => z.mu m) d v h
theorem DqAll.mu {v : List V} {d : List PyData} (h : DqAll K Mu H v d) (m : ∀ a, Mu' a → Mu a ∨ H a = none) : DqAll K Mu' H v d := DqAll.map (fun _ _ z => z.mu m) (fun _ _ z => z.mu m) d v h
theorem DqAll.length : ∀ {vs : List V} {ds : List PyData}, DqAll K Mu H vs ds → vs.length = ds.length
  | _, [], h => by cases h; rfl
  | _, _ :: _, h => by
    cases h with
    | cons _ h2 => simp [DqAll.length h2]
theorem DqAll.get : ∀ {vs : List V} {ds : List PyData} {i : Nat} {d : PyData}, DqAll K Mu H vs ds → ds[i]? = some d → ∃ v, vs[i]? = some v ∧ Dq K Mu H v d
  | _, [], _, _, h, e => by simp at e
  | _, d :: ds, 0, _, h, e => by
    cases h with
    | cons h1 h2 =>
      simp at e; subst e
      exact ⟨_, rfl, h1⟩
  | _, d :: ds, i + 1, _, h, e => by
    cases h with
    | cons h1 h2 =>
      obtain ⟨v, q1, q2⟩ := DqAll.get (i := i) h2 (by simpa using e)
      exact ⟨v, by simpa using q1, q2⟩
theorem DqAll.getV {vs : List V} {ds : List PyData} {i : Nat} {v : V} (h : DqAll K Mu H vs ds) (e : vs[i]? = some v) : ∃ d, ds[i]? = some d ∧ Dq K Mu H v d := by
  have hl := h.length
  obtain ⟨hi, _⟩ := List.getElem?_eq_some_iff.mp e
  obtain ⟨v', q1, q2⟩ := h.get (i := i) (d := ds[i]'(by omega)) (List.getElem?_eq_getElem _)
  rw [e] at q1; cases q1
  exact ⟨_, List.getElem?_eq_getElem _, q2⟩
theorem DqAll.append : ∀ {vs ws : List V} {ds es : List PyData}, DqAll K Mu H vs ds → DqAll K Mu H ws es → DqAll K Mu H (vs ++ ws) (ds ++ es)
  | _, _, [], _, h, h' => by cases h; exact h'
  | _, _, _ :: _, _, h, h' => by
    cases h with
    | cons h1 h2 => exact .cons h1 (DqAll.append h2 h')
theorem DqAll.drop : ∀ {vs : List V} {ds : List PyData} (n : Nat), DqAll K Mu H vs ds → DqAll K Mu H (vs.drop n) (ds.drop n)
  | _, _, 0, h => h
  | _, [], _ + 1, h => by cases h; exact .nil
  | _, _ :: _, n + 1, h => by
    cases h with
    | cons _ h2 => exact DqAll.drop n h2
theorem DqAll.take : ∀ {vs : List V} {ds : List PyData} (n : Nat), DqAll K Mu H vs ds → DqAll K Mu H (vs.take n) (ds.take n)
  | _, _, 0, h => .nil
  | _, [], _ + 1, h => by cases h; exact .nil
  | _, _ :: _, n + 1, h => by
    cases h with
    | cons h1 h2 => exact .cons h1 (DqAll.take n h2)
theorem Dq.int_inv {v : V} {i : Int} (h : Dq K Mu H v (.int i)) : v = .int i := by cases h; rfl
theorem Dq.str_inv {v : V} {i : Str} (h : Dq K Mu H v (.str i)) : v = .str i := by cases h; rfl
theorem Dq.bl_inv {v : V} {i : Bool} (h : Dq K Mu H v (.bool i)) : v = .bl i := by cases h; rfl
theorem Dq.non_inv {v : V} (h : Dq K Mu H v .none) : v = .non := by cases h; rfl
theorem Dq.tup_inv {v : V} {ds : List PyData} (h : Dq K Mu H v (.tuple ds)) : ∃ a xs, v = .ref a ∧ SqTM K Mu H a xs ∧ DqAll K Mu H xs ds := by
  cases h with
  | tup h1 h2 => exact ⟨_, _, rfl, h1, h2⟩
theorem Dq.lst_inv {v : V} {ds : List PyData} (h : Dq K Mu H v (.list ds)) : ∃ a xs, v = .ref a ∧ SqLM K Mu H a xs ∧ DqAll K Mu H xs ds := by
  cases h with
  | lst h1 h2 => exact ⟨_, _, rfl, h1, h2⟩
theorem Dq.dict_inv {v : V} {ds} (h : Dq K Mu H v (.dict ds)) : False := by cases h
end
/-! ### slots -/
/-- what a slot holds: nothing that is known, data, a list of its own, this very value -/
inductive Sl where
  | no | dat (d : PyData) | own (ds : List PyData) | raw (v : V) | sta (P : (Addr → Prop) → Hp → V → Prop)
/-- what stays, whatever happens at Mu -/
structure StaP (P : (Addr → Prop) → Hp → V → Prop) : Prop where
  ex : ∀ Mu H H' v, P Mu H v → ExM Mu H H' → P Mu H' v
  mu : ∀ Mu Mu' H v, P Mu H v → (∀ a, Mu' a → Mu a ∨ H a = none) → P Mu' H v
/-- the frame: the heap at the entry, the entry's addresses that are no data, the machine of draws -/
structure Fm where
  H0 : Hp
  N0 : Addr → Prop
  m : Option Addr := none
/-- the machine: its dict at m -/
def MOk (K : PySem.W.Frag) (Mu : Addr → Prop) (H : Hp) (m : Addr) (b : Nat) : Prop :=
  ∃ (g : Addr) (gs : List Int) (s a : Int), H m = some (.dK [(Sum.inr "great", .ref g), (Sum.inr "seed", .int s), (Sum.inr "at", .int a)]) ∧
    (∃ vs, SqLM K Mu H g vs ∧ DqAll K Mu H vs (gs.map PyData.int)) ∧ gs.length ≤ 63 ∧ (∀ x ∈ gs, 0 ≤ x) ∧ 0 ≤ s ∧ s < 2147483647 ∧ 0 ≤ a ∧ a ≤ b
def SlOk (K : PySem.W.Frag) (Mu N0 : Addr → Prop) (H : Hp) (σ : L2.St) (i : Nat) : Sl → Prop
  | .no => True
  | .dat d => ∃ v, σ[i]? = some (some v) ∧ Dq K Mu H v d
  | .own ds => ∃ l vs, σ[i]? = some (some (.ref l)) ∧ Mu l ∧ ¬ N0 l ∧ H l = some (.lst vs) ∧ DqAll K Mu H vs ds
  | .raw v => σ[i]? = some (some v)
  | .sta P => ∃ v, σ[i]? = some (some v) ∧ StaP P ∧ P Mu H v
structure Rep (K : PySem.W.Frag) (F : Fm) (Mu : Addr → Prop) (σ : L2.St) (H : Hp) (δ : List Sl) (b : Nat) : Prop where
  len : σ.length = δ.length
  ext : ∀ a o, F.m ≠ some a → F.H0 a = some o → H a = some o
  mu0 : ∀ a, F.N0 a → Mu a
  tr : ∀ a, Mu a → H a ≠ none
  new : ∀ a, Mu a → F.N0 a ∨ F.H0 a = none
  sl : ∀ (i : Nat) (s : Sl), δ[i]? = some s → SlOk K Mu F.N0 H σ i s
  own1 : ∀ (i j : Nat) (ds ds' : List PyData), i ≠ j → δ[i]? = some (Sl.own ds) → δ[j]? = some (Sl.own ds') → σ[i]? ≠ σ[j]?
  mach : ∀ m, F.m = some m → F.N0 m ∧ MOk K Mu H m b
section
variable {K : PySem.W.Frag} {F : Fm} {Mu Mu' : Addr → Prop} {σ : L2.St} {H H' : Hp} {δ : List Sl} {b : Nat}
theorem MOk.exM {m : Addr} (h : MOk K Mu H m b) (e : ExM Mu H H') (he : H' m = H m) : MOk K Mu H' m b := by
  obtain ⟨g, gs, s, a, h1, ⟨vs, h2, h3⟩, h4⟩ := h
  exact ⟨g, gs, s, a, he.trans h1, ⟨vs, h2.exM e, h3.exM e⟩, h4⟩
theorem MOk.mu {m : Addr} (h : MOk K Mu H m b) (n : ∀ a, Mu' a → Mu a ∨ H a = none) : MOk K Mu' H m b := by
  obtain ⟨g, gs, s, a, h1, ⟨vs, h2, h3⟩, h4⟩ := h
  exact ⟨g, gs, s, a, h1, ⟨vs, h2.mu n, h3.mu n⟩, h4⟩
theorem MOk.le {m : Addr} {b' : Nat} (h : MOk K Mu H m b) (n : b ≤ b') : MOk K Mu H m b' := by
  obtain ⟨g, gs, s, a, h1, h2, h3, h4, h5, h6, h7, h8⟩ := h
  exact ⟨g, gs, s, a, h1, h2, h3, h4, h5, h6, h7, by omega⟩
/-- a new object that is no data's -/
theorem Rep.grow (R : Rep K F Mu σ H δ b) (e : ∀ a o, H a = some o → H' a = some o) : Rep K F Mu σ H' δ b := by
  have ex : ExM Mu H H' := fun a o _ q => e a o q
  refine ⟨R.len, fun a o n q => e _ _ (R.ext a o n q), R.mu0, fun a q z => ?_, R.new, fun i s q => ?_, R.own1, fun m q => ?_⟩
  · cases h : H a with
    | none => exact R.tr a q h
    | some o => rw [e _ _ h] at z; cases z
  · have := R.sl i s q
    cases s with
    | no => trivial
    | raw v => exact this
    | dat d => obtain ⟨v, h1, h2⟩ := this; exact ⟨v, h1, h2.exM ex⟩
    | sta P => obtain ⟨v, h1, h2, h3⟩ := this; exact ⟨v, h1, h2, h2.ex _ _ _ _ h3 ex⟩
    | own ds => obtain ⟨l, vs, h1, h2, h3, h4, h5⟩ := this; exact ⟨l, vs, h1, h2, h3, e _ _ h4, h5.exM ex⟩
  · obtain ⟨h1, h2⟩ := R.mach m q
    refine ⟨h1, h2.exM ex ?_⟩
    obtain ⟨g, gs, s, a, h1, _⟩ := h2
    rw [e _ _ h1, h1]
theorem Rep.fresh (R : Rep K F Mu σ H δ b) {p : Addr} {o : HO} (h : H p = none) : Rep K F Mu σ (upd H p o) δ b := R.grow fun a u q => by rw [upd_ne (ne_of_none q h)]; exact q
theorem Rep.nmu (R : Rep K F Mu σ H δ b) {p : Addr} (h : H p = none) : ¬ Mu p := fun z => R.tr p z h
/-- a slot's data -/
theorem Rep.dat (R : Rep K F Mu σ H δ b) {i : Nat} {d : PyData} (h : δ[i]? = some (Sl.dat d)) : ∃ v, σ[i]? = some (some v) ∧ Dq K Mu H v d := R.sl i _ h
end
/-! ### what an expression leaves: all but the machine -/
def ExB (F : Fm) (Mu : Addr → Prop) (H H' : Hp) : Prop := (∀ a o, F.m ≠ some a → H a = some o → H' a = some o) ∧ ExM Mu H H'
section
variable {K : PySem.W.Frag} {F : Fm} {Mu : Addr → Prop} {H H1 H2 : Hp}
theorem ExB.refl (H : Hp) : ExB F Mu H H := ⟨fun _ _ _ h => h, ExM.refl H⟩
theorem ExB.trans (a : ExB F Mu H H1) (b : ExB F Mu H1 H2) : ExB F Mu H H2 := ⟨fun x o n h => b.1 x o n (a.1 x o n h), a.2.trans b.2⟩
theorem ExB.new {p : Addr} {o : HO} (h : H p = none) : ExB F Mu H (upd H p o) := ⟨fun a u _ e => by
  rw [upd_ne (ne_of_none e h)]; exact e, ExM.new h⟩
theorem ExB.all (h : ∀ a o, H a = some o → H1 a = some o) : ExB F Mu H H1 := ⟨fun a o _ q => h a o q, fun a o _ q => h a o q⟩
theorem Dq.ex {v : V} {d : PyData} (h : Dq K Mu H v d) (e : ExB F Mu H H1) : Dq K Mu H1 v d := h.exM e.2
theorem DqAll.ex {v : List V} {d : List PyData} (h : DqAll K Mu H v d) (e : ExB F Mu H H1) : DqAll K Mu H1 v d := h.exM e.2
theorem SqLM.ex {a : Addr} {xs : List V} (h : SqLM K Mu H a xs) (e : ExB F Mu H H1) : SqLM K Mu H1 a xs := h.exM e.2
theorem SqTM.ex {a : Addr} {xs : List V} (h : SqTM K Mu H a xs) (e : ExB F Mu H H1) : SqTM K Mu H1 a xs := h.exM e.2
end
end Wk
namespace Wk
open L2 PyProof.Rows PySem.Spec PySem
/-! ### readings over data -/
abbrev TD := List Sl → Nat → (PyData → Nat → Prop) → Prop
abbrev TTD := List Sl → Nat → (Bool → Nat → Prop) → Prop
abbrev TAD := List Sl → Nat → (List PyData → Nat → Prop) → Prop
def cE (K : PySem.W.Frag) (F : Fm) (t : TD) : TE := fun σ H Q => ∃ Mu δ b Q', Rep K F Mu σ H δ b ∧ t δ b Q' ∧ ∀ v H' d b', Rep K F Mu σ H' δ b' → ExB F Mu H H' → Dq K Mu H' v d → Q' d b' → Q v H'
def cT (K : PySem.W.Frag) (F : Fm) (t : TTD) : TT := fun σ H Q => ∃ Mu δ b Q', Rep K F Mu σ H δ b ∧ t δ b Q' ∧ ∀ c H' b', Rep K F Mu σ H' δ b' → ExB F Mu H H' → Q' c b' → Q c H'
def cA (K : PySem.W.Frag) (F : Fm) (t : TAD) : TA := fun σ H Q => ∃ Mu δ b Q', Rep K F Mu σ H δ b ∧ t δ b Q' ∧ ∀ vs H' ds b', Rep K F Mu σ H' δ b' → ExB F Mu H H' → DqAll K Mu H' vs ds → Q' ds b' → Q vs H'
/-- a list object at l: it holds ds, as long as the slots say the same -/
def Vw (K : PySem.W.Frag) (F : Fm) (Mu : Addr → Prop) (σ : L2.St) (δ : List Sl) (H : Hp) (l : Addr) (ds : List PyData) : Prop :=
  ∀ H'' b'', Rep K F Mu σ H'' δ b'' → ExB F Mu H H'' → ∃ vs, H'' l = some (.lst vs) ∧ DqAll K Mu H'' vs ds
/-- .. one that is read -/
def VwS (K : PySem.W.Frag) (F : Fm) (Mu : Addr → Prop) (σ : L2.St) (δ : List Sl) (H : Hp) (l : Addr) (ds : List PyData) : Prop :=
  ∀ H'' b'', Rep K F Mu σ H'' δ b'' → ExB F Mu H H'' → ∃ vs, SqL K H'' l vs ∧ DqAll K Mu H'' vs ds
def cV (K : PySem.W.Frag) (F : Fm) (t : TAD) : TE := fun σ H Q => ∃ Mu δ b Q', Rep K F Mu σ H δ b ∧ t δ b Q' ∧ ∀ l H' ds b', Rep K F Mu σ H' δ b' → ExB F Mu H H' → VwS K F Mu σ δ H' l ds → Q' ds b' → Q (.ref l) H'
def cL (K : PySem.W.Frag) (F : Fm) (t : TAD) : TE := fun σ H Q => ∃ Mu δ b Q', Rep K F Mu σ H δ b ∧ t δ b Q' ∧ ∀ l H' ds b', Rep K F Mu σ H' δ b' → ExB F Mu H H' → Vw K F Mu σ δ H' l ds → Q' ds b' → Q (.ref l) H'
/-- a new list: where it stands is no data's yet -/
def cN (K : PySem.W.Frag) (F : Fm) (t : TAD) : TE := fun σ H Q => ∃ Mu δ b Q', Rep K F Mu σ H δ b ∧ t δ b Q' ∧ ∀ p H1 vs ds b', Rep K F Mu σ H1 δ b' → ExB F Mu H H1 → H1 p = none → vs.length ≤ sizeLine → DqAll K Mu H1 vs ds → Q' ds b' → Q (.ref p) (upd H1 p (.lst vs))
structure PD (X : Cx) (F : Fm) (e : Expr) (t : TD) : Prop where
  pe : PE X e (cE X.K F t)
structure PDT (X : Cx) (F : Fm) (e : Expr) (t : TTD) : Prop where
  pt : PT X e (cT X.K F t)
structure PDW (X : Cx) (F : Fm) (e : Expr) (t : TTD) : Prop where
  pw : PW X e (cT X.K F t)
structure PDA (X : Cx) (F : Fm) (es : List Expr) (t : TAD) : Prop where
  pa : PA X es (cA X.K F t)
structure PDL (X : Cx) (F : Fm) (e : Expr) (t : TAD) : Prop where
  pe : PE X e (cL X.K F t)
structure PDV (X : Cx) (F : Fm) (e : Expr) (t : TAD) : Prop where
  pe : PE X e (cV X.K F t)
structure PDN (X : Cx) (F : Fm) (e : Expr) (t : TAD) : Prop where
  pe : PE X e (cN X.K F t)
section
variable {X : Cx} {F : Fm} {K : PySem.W.Frag} {Mu : Addr → Prop} {σ : L2.St} {H H1 H2 : Hp} {δ : List Sl} {b : Nat}
theorem PE.weak {e : Expr} {te te' : TE} (h : PE X e te) (k : ∀ σ H Q, te' σ H Q → te σ H Q) : PE X e te' := ⟨fun pins s σ H Q I q => h.run pins s σ H Q I (k σ H Q q)⟩
theorem PT.weak {e : Expr} {te te' : TT} (h : PT X e te) (k : ∀ σ H Q, te' σ H Q → te σ H Q) : PT X e te' := ⟨fun pins s σ H Q I q => h.run pins s σ H Q I (k σ H Q q)⟩
theorem PW.weak {e : Expr} {te te' : TT} (h : PW X e te) (k : ∀ σ H Q, te' σ H Q → te σ H Q) : PW X e te' := ⟨fun wh pins s σ H Q I q => h.run wh pins s σ H Q I (k σ H Q q)⟩
theorem PA.weak {e : List Expr} {te te' : TA} (h : PA X e te) (k : ∀ σ H Q, te' σ H Q → te σ H Q) : PA X e te' := ⟨fun pos pins s σ H Q I q => h.run pos pins s σ H Q I (k σ H Q q)⟩
/-- how to give what a sub-reading wants -/
theorem cE.go {t : TD} {Q : VK} {Q' : PyData → Nat → Prop} (R : Rep K F Mu σ H δ b) (h : t δ b Q') (k : ∀ v H' d b', Rep K F Mu σ H' δ b' → ExB F Mu H H' → Dq K Mu H' v d → Q' d b' → Q v H') : cE K F t σ H Q := ⟨Mu, δ, b, Q', R, h, k⟩
/-! ### what a name, a constant tells -/
@[simp] def dVar (i : Nat) : TD := fun δ b Q => ∃ d, δ[i]? = some (Sl.dat d) ∧ Q d b
@[simp] def dC (d : PyData) : TD := fun _ b Q => Q d b
theorem d_var (i : Nat) {x : Str} {pos : Pos} (hN : X.N[i]? = some x := by rfl) (hv : Vis X.env.scope x := by first | exact Or.inl rfl | exact Or.inr (Or.inl rfl) | exact Or.inr (Or.inr rfl)) (hd : (x == ("__debug__" : Str)) = false := by decide)
    (hcd : (x == ("__classdict__" : Str)) = false := by decide) : PD X F (.Name x pos) (dVar i) :=
  ⟨PE.weak (pe_var hN hv hd hcd) fun σ H Q ⟨Mu, δ, b, Q', R, ⟨d, h1, h2⟩, k⟩ => by
    obtain ⟨v, e, q⟩ := R.dat h1
    exact ⟨v, e, k v H d b R (ExB.refl H) q h2⟩⟩
theorem d_int {i : Int} {j : Nat} {pos : Pos} : PD X F (.Constant (.int i) j pos) (dC (.int i)) := ⟨PE.weak pe_int fun σ H Q ⟨Mu, δ, b, Q', R, h, k⟩ => k _ H _ b R (ExB.refl H) (.int i) h⟩
theorem d_str {i : Str} {j : Nat} {pos : Pos} : PD X F (.Constant (.str i) j pos) (dC (.str i)) := ⟨PE.weak pe_str fun σ H Q ⟨Mu, δ, b, Q', R, h, k⟩ => k _ H _ b R (ExB.refl H) (.str i) h⟩
theorem d_bl {i : Bool} {j : Nat} {pos : Pos} : PD X F (.Constant (.bool i) j pos) (dC (.bool i)) := ⟨PE.weak pe_bl fun σ H Q ⟨Mu, δ, b, Q', R, h, k⟩ => k _ H _ b R (ExB.refl H) (.bl i) h⟩
theorem d_non {j : Nat} {pos : Pos} : PD X F (.Constant .none j pos) (dC .none) := ⟨PE.weak pe_non fun σ H Q ⟨Mu, δ, b, Q', R, h, k⟩ => k _ H _ b R (ExB.refl H) .non h⟩
/-- a module's constant that is data in the written part -/
theorem d_glob {x : Str} {v : V} {u : Value} {d : PyData} {pos : Pos} (hg : Gl X x) (hm : X.mg x = some u) (r : RelV v u) (hq : ∀ Mu H, Dq X.K Mu H v d) (hd : (x == ("__debug__" : Str)) = false := by decide) : PD X F (.Name x pos) (dC d) :=
  ⟨PE.weak (pe_glob hg hm r hd) fun σ H Q ⟨Mu, δ, b, Q', R, h, k⟩ => k _ H _ b R (ExB.refl H) (hq Mu H) h⟩
theorem d_gint {x : Str} {i : Int} {pos : Pos} (hg : Gl X x) (hm : ∃ t, X.mg x = some (.int i t)) (hd : (x == ("__debug__" : Str)) = false := by decide) : PD X F (.Name x pos) (dC (.int i)) := by
  obtain ⟨t, hm⟩ := hm
  exact d_glob (v := .int i) hg hm ⟨t, rfl⟩ (fun _ _ => .int i) hd
theorem d_gstr {x z : Str} {pos : Pos} (hg : Gl X x) (hm : ∃ t, X.mg x = some (.str z t)) (hd : (x == ("__debug__" : Str)) = false := by decide) : PD X F (.Name x pos) (dC (.str z)) := by
  obtain ⟨t, hm⟩ := hm
  exact d_glob (v := .str z) hg hm ⟨t, rfl⟩ (fun _ _ => .str z) hd
/-! ### operators by what they make of data -/
/-- one operand, two operands, arguments -/
def R1D (K : PySem.W.Frag) (F : Fm) (r : V → Hp → VK → Prop) (f : PyData → Option PyData) : Prop :=
  ∀ {Mu : Addr → Prop} {σ : L2.St} {H : Hp} {δ : List Sl} {b : Nat} {x : V} {dx dz : PyData} {Q : VK}, Rep K F Mu σ H δ b → Dq K Mu H x dx → f dx = some dz →
    (∀ v H', Rep K F Mu σ H' δ b → ExB F Mu H H' → Dq K Mu H' v dz → Q v H') → r x H Q
def R2D (K : PySem.W.Frag) (F : Fm) (r : R2) (f : PyData → PyData → Option PyData) : Prop :=
  ∀ {Mu : Addr → Prop} {σ : L2.St} {H : Hp} {δ : List Sl} {b : Nat} {x y : V} {dx dy dz : PyData} {Q : VK}, Rep K F Mu σ H δ b → Dq K Mu H x dx → Dq K Mu H y dy → f dx dy = some dz →
    (∀ v H', Rep K F Mu σ H' δ b → ExB F Mu H H' → Dq K Mu H' v dz → Q v H') → r x y H Q
def RcD (K : PySem.W.Frag) (F : Fm) (r : List V → Hp → VK → Prop) (f : List PyData → Option PyData) : Prop :=
  ∀ {Mu : Addr → Prop} {σ : L2.St} {H : Hp} {δ : List Sl} {b : Nat} {xs : List V} {ds : List PyData} {dz : PyData} {Q : VK}, Rep K F Mu σ H δ b → DqAll K Mu H xs ds → f ds = some dz →
    (∀ v H', Rep K F Mu σ H' δ b → ExB F Mu H H' → Dq K Mu H' v dz → Q v H') → r xs H Q
@[simp] def d1 (f : PyData → Option PyData) (ta : TD) : TD := fun δ b Q => ta δ b fun x b1 => ∃ z, f x = some z ∧ Q z b1
@[simp] def d2 (f : PyData → PyData → Option PyData) (ta tb : TD) : TD := fun δ b Q => ta δ b fun x b1 => tb δ b1 fun y b2 => ∃ z, f x y = some z ∧ Q z b2
@[simp] def dc (f : List PyData → Option PyData) (ta : TAD) : TD := fun δ b Q => ta δ b fun xs b1 => ∃ z, f xs = some z ∧ Q z b1
variable {a e c : Expr} {es : List Expr} {ta tb tc : TD} {tas : TAD} {pos : Pos} {f : PyData → PyData → Option PyData} {r : R2}
theorem two (hr : R2D K F r f) {σ : L2.St} {H : Hp} {Q : VK} : cE K F (d2 f ta tb) σ H Q → tOp r (cE K F ta) (cE K F tb) σ H Q := fun ⟨Mu, δ, b, Q', R, h, k⟩ =>
  cE.go R h fun x H1 dx b1 R1 e1 q1 h1 => cE.go R1 h1 fun y H2 dy b2 R2 e2 q2 ⟨z, hz, h2⟩ =>
    hr R2 (q1.ex e2) q2 hz fun v H' R' e' q' => k v H' z b2 R' ((e1.trans e2).trans e') q' h2
theorem d_op {op : Operator} (ho : OpR X (binaryOp op) r) (hr : R2D X.K F r f) (ha : PD X F a ta) (hb : PD X F e tb) : PD X F (.BinOp a op e pos) (d2 f ta tb) :=
  ⟨PE.weak (pe_op ho ha.pe hb.pe) fun _ _ _ => two hr⟩
theorem d_cmp {op : CmpOp} (ho : OpR X (compareOp op) r) (hr : R2D X.K F r f) (ha : PD X F a ta) (hb : PD X F e tb) (hm : behindInMarks op e = false) : PD X F (.Compare a [op] [e] pos) (d2 f ta tb) :=
  ⟨PE.weak (pe_cmpR ho ha.pe hb.pe hm) fun _ _ _ => two hr⟩
/-- a comparison as a test -/
@[simp] def dTest (t : TD) : TTD := fun δ b Q => t δ b fun d b' => ∃ c, d = .bool c ∧ Q c b'
theorem d_cmpT {op : CmpOp} (ho : OpR X (compareOp op) r) (hr : R2D X.K F r f) (ha : PD X F a ta) (hb : PD X F e tb) (hm : behindInMarks op e = false) : PDT X F (.Compare a [op] [e] pos) (dTest (d2 f ta tb)) :=
  ⟨PT.weak (pt_cmpR ho ha.pe hb.pe hm) fun σ H Q ⟨Mu, δ, b, Q', R, h, k⟩ =>
    two hr ⟨Mu, δ, b, _, R, h, fun v H' d b' R' e' q ⟨c, ec, h2⟩ => by
      subst ec
      exact ⟨c, q.bl_inv, k c H' b' R' e' h2⟩⟩⟩
theorem d_val (ha : PD X F a ta) (he : ∀ whole, isTrue a X.env whole = (do let v ← whole; standAt a.pos; holding [v] (truthy v)) := by intro _; rfl) : PDT X F a (dTest ta) :=
  ⟨PT.weak (pt_val ha.pe he) fun σ H Q ⟨Mu, δ, b, Q', R, h, k⟩ => cE.go R h fun v H' d b' R' e' q ⟨c, ec, h2⟩ => by
    subst ec
    exact ⟨c, q.bl_inv, k c H' b' R' e' h2⟩⟩
/-- a op b op c -/
@[simp] def dChain (f g : PyData → PyData → Option PyData) (ta tb tc : TD) : TD := fun δ b Q => ta δ b fun x b1 => tb δ b1 fun y b2 => ∃ k, f x y = some (.bool k) ∧
  if k = true then tc δ b2 fun w b3 => ∃ z, g y w = some z ∧ Q z b3 else Q (.bool false) b2
theorem chain_go {r' : R2} {g : PyData → PyData → Option PyData} (hr : R2D K F r f) (hr' : R2D K F r' g) {σ : L2.St} {H : Hp} {Q : VK} : cE K F (dChain f g ta tb tc) σ H Q → tChain r r' (cE K F ta) (cE K F tb) (cE K F tc) σ H Q := fun ⟨Mu, δ, b, Q', R, h, k⟩ =>
  cE.go R h fun x H1 dx b1 R1 e1 q1 h1 => cE.go R1 h1 fun y H2 dy b2 R2 e2 q2 ⟨c, hc, h2⟩ =>
    hr R2 (q1.ex e2) q2 hc fun v H' R' e' q' => ⟨c, q'.bl_inv, by
      cases c with
      | true =>
        rw [if_pos rfl] at h2 ⊢
        exact cE.go R' h2 fun w H3 dw b3 R3 e3 q3 ⟨z, hz, h3⟩ => hr' R3 ((q2.ex e').ex e3) q3 hz fun v4 H4 R4 e4 q4 => k v4 H4 z b3 R4 (((e1.trans e2).trans e').trans (e3.trans e4)) q4 h3
      | false =>
        rw [if_neg Bool.false_ne_true] at h2 ⊢
        exact k _ H' _ b2 R' ((e1.trans e2).trans e') (.bl false) h2⟩
theorem d_chain {op op' : CmpOp} {r' : R2} {g : PyData → PyData → Option PyData} (ho : OpR X (compareOp op) r) (ho' : OpR X (compareOp op') r') (hr : R2D X.K F r f) (hr' : R2D X.K F r' g) (ha : PD X F a ta) (hb : PD X F e tb) (hc : PD X F c tc)
    (hm : lastMarks [op, op'] [e, c] = false := by with_unfolding_all rfl) : PD X F (.Compare a [op, op'] [e, c] pos) (dChain f g ta tb tc) :=
  ⟨PE.weak (pe_chain ho ho' ha.pe hb.pe hc.pe hm) fun _ _ _ => chain_go hr hr'⟩
theorem d_chainT {op op' : CmpOp} {r' : R2} {g : PyData → PyData → Option PyData} (ho : OpR X (compareOp op) r) (ho' : OpR X (compareOp op') r') (hr : R2D X.K F r f) (hr' : R2D X.K F r' g) (ha : PD X F a ta) (hb : PD X F e tb) (hc : PD X F c tc)
    (hm : lastMarks [op, op'] [e, c] = false := by with_unfolding_all rfl) : PDT X F (.Compare a [op, op'] [e, c] pos) (dTest (dChain f g ta tb tc)) :=
  ⟨PT.weak (pt_chain ho ho' ha.pe hb.pe hc.pe hm) fun σ H Q ⟨Mu, δ, b, Q', R, h, k⟩ =>
    chain_go hr hr' ⟨Mu, δ, b, _, R, h, fun v H' d b' R' e' q ⟨c, ec, h2⟩ => by
      subst ec
      exact ⟨c, q.bl_inv, k c H' b' R' e' h2⟩⟩⟩
/-! ### and, or, not, if -/
variable {tA tB' : TTD} {rest : List Expr}
theorem cT.go {t : TTD} {Q : Bool → Hp → Prop} {Q' : Bool → Nat → Prop} (R : Rep K F Mu σ H δ b) (h : t δ b Q') (k : ∀ c H' b', Rep K F Mu σ H' δ b' → ExB F Mu H H' → Q' c b' → Q c H') : cT K F t σ H Q := ⟨Mu, δ, b, Q', R, h, k⟩
@[simp] def dAnd (t u : TTD) : TTD := fun δ b Q => t δ b fun c b1 => if c = true then u δ b1 Q else Q false b1
@[simp] def dOr (t u : TTD) : TTD := fun δ b Q => t δ b fun c b1 => if c = true then Q true b1 else u δ b1 Q
@[simp] def dNot (t : TTD) : TTD := fun δ b Q => t δ b fun c b1 => Q (!c) b1
theorem d_and1 (ha : PDT X F a tA) : PDW X F (.BoolOp .And [a] pos) tA := ⟨pw_and1 ha.pt⟩
theorem d_or1 (ha : PDT X F a tA) : PDW X F (.BoolOp .Or [a] pos) tA := ⟨pw_or1 ha.pt⟩
theorem d_andW (ha : PDT X F a tA) (hb : PDW X F (.BoolOp .And (e :: rest) pos) tB') : PDW X F (.BoolOp .And (a :: e :: rest) pos) (dAnd tA tB') :=
  ⟨PW.weak (pw_and ha.pt hb.pw) fun σ H Q ⟨Mu, δ, b, Q', R, h, k⟩ => cT.go R h fun c H1 b1 R1 e1 h1 => by
    cases c with
    | true =>
      rw [if_pos rfl] at h1 ⊢
      exact cT.go R1 h1 fun c H2 b2 R2 e2 h2 => k c H2 b2 R2 (e1.trans e2) h2
    | false =>
      rw [if_neg Bool.false_ne_true] at h1 ⊢
      exact k _ H1 b1 R1 e1 h1⟩
theorem d_orW (ha : PDT X F a tA) (hb : PDW X F (.BoolOp .Or (e :: rest) pos) tB') : PDW X F (.BoolOp .Or (a :: e :: rest) pos) (dOr tA tB') :=
  ⟨PW.weak (pw_or ha.pt hb.pw) fun σ H Q ⟨Mu, δ, b, Q', R, h, k⟩ => cT.go R h fun c H1 b1 R1 e1 h1 => by
    cases c with
    | true =>
      rw [if_pos rfl] at h1 ⊢
      exact k _ H1 b1 R1 e1 h1
    | false =>
      rw [if_neg Bool.false_ne_true] at h1 ⊢
      exact cT.go R1 h1 fun c H2 b2 R2 e2 h2 => k c H2 b2 R2 (e1.trans e2) h2⟩
theorem PDW.t (h : PDW X F a tA) : PDT X F a tA := ⟨PW.pt h.pw⟩
theorem d_notT (ha : PDT X F a tA) : PDT X F (.UnaryOp .Not a pos) (dNot tA) :=
  ⟨PT.weak (pt_not ha.pt) fun σ H Q ⟨Mu, δ, b, Q', R, h, k⟩ => cT.go R h fun c H1 b1 R1 e1 h1 => k _ H1 b1 R1 e1 h1⟩
@[simp] def dIf (t : TTD) (ta tb : TD) : TD := fun δ b Q => t δ b fun c b1 => if c = true then ta δ b1 Q else tb δ b1 Q
theorem d_ifExp (hc : PDT X F c tA) (ha : PD X F a ta) (hb : PD X F e tb) : PD X F (.IfExp c a e pos) (dIf tA ta tb) :=
  ⟨PE.weak (pe_ifExp hc.pt ha.pe hb.pe) fun σ H Q ⟨Mu, δ, b, Q', R, h, k⟩ => cT.go R h fun c H1 b1 R1 e1 h1 => by
    cases c with
    | true =>
      rw [if_pos rfl] at h1 ⊢
      exact cE.go R1 h1 fun v H2 d b2 R2 e2 q2 h2 => k v H2 d b2 R2 (e1.trans e2) q2 h2
    | false =>
      rw [if_neg Bool.false_ne_true] at h1 ⊢
      exact cE.go R1 h1 fun v H2 d b2 R2 e2 q2 h2 => k v H2 d b2 R2 (e1.trans e2) q2 h2⟩
/-- .. as values: all but the last are bools -/
@[simp] def dAndV (ta tb : TD) : TD := fun δ b Q => ta δ b fun x b1 => ∃ c, x = .bool c ∧ if c = true then tb δ b1 Q else Q (.bool false) b1
@[simp] def dOrV (ta tb : TD) : TD := fun δ b Q => ta δ b fun x b1 => ∃ c, x = .bool c ∧ if c = true then Q (.bool true) b1 else tb δ b1 Q
@[simp] def dNotV (ta : TD) : TD := fun δ b Q => ta δ b fun x b1 => ∃ c, x = .bool c ∧ Q (.bool (!c)) b1
theorem d_one {op} (h : PD X F a ta) : PD X F (.BoolOp op [a] pos) ta := ⟨pe_one h.pe⟩
theorem d_andV (ha : PD X F a ta) (hb : PD X F (.BoolOp .And (e :: rest) pos) tb) : PD X F (.BoolOp .And (a :: e :: rest) pos) (dAndV ta tb) :=
  ⟨PE.weak (pe_and ha.pe hb.pe) fun σ H Q ⟨Mu, δ, b, Q', R, h, k⟩ => cE.go R h fun v H1 d b1 R1 e1 q1 ⟨c, ec, h1⟩ => by
    subst ec
    refine ⟨c, q1.bl_inv, ?_⟩
    cases c with
    | true =>
      rw [if_pos rfl] at h1 ⊢
      exact cE.go R1 h1 fun v H2 d b2 R2 e2 q2 h2 => k v H2 d b2 R2 (e1.trans e2) q2 h2
    | false =>
      rw [if_neg Bool.false_ne_true] at h1 ⊢
      exact k _ H1 _ b1 R1 e1 (.bl false) h1⟩
theorem d_orV (ha : PD X F a ta) (hb : PD X F (.BoolOp .Or (e :: rest) pos) tb) : PD X F (.BoolOp .Or (a :: e :: rest) pos) (dOrV ta tb) :=
  ⟨PE.weak (pe_or ha.pe hb.pe) fun σ H Q ⟨Mu, δ, b, Q', R, h, k⟩ => cE.go R h fun v H1 d b1 R1 e1 q1 ⟨c, ec, h1⟩ => by
    subst ec
    refine ⟨c, q1.bl_inv, ?_⟩
    cases c with
    | true =>
      rw [if_pos rfl] at h1 ⊢
      exact k _ H1 _ b1 R1 e1 (.bl true) h1
    | false =>
      rw [if_neg Bool.false_ne_true] at h1 ⊢
      exact cE.go R1 h1 fun v H2 d b2 R2 e2 q2 h2 => k v H2 d b2 R2 (e1.trans e2) q2 h2⟩
theorem d_notV (ha : PD X F a ta) : PD X F (.UnaryOp .Not a pos) (dNotV ta) :=
  ⟨PE.weak (pe_not ha.pe) fun σ H Q ⟨Mu, δ, b, Q', R, h, k⟩ => cE.go R h fun v H1 d b1 R1 e1 q1 ⟨c, ec, h1⟩ => by
    subst ec
    exact ⟨c, q1.bl_inv, k _ H1 _ b1 R1 e1 (.bl _) h1⟩⟩
/-! ### arguments, displays -/
@[simp] def aNil : TAD := fun _ b Q => Q [] b
@[simp] def aCons (ta : TD) (tr : TAD) : TAD := fun δ b Q => ta δ b fun x b1 => tr δ b1 fun xs b2 => Q (x :: xs) b2
theorem cA.go {t : TAD} {Q : List V → Hp → Prop} {Q' : List PyData → Nat → Prop} (R : Rep K F Mu σ H δ b) (h : t δ b Q') (k : ∀ v H' d b', Rep K F Mu σ H' δ b' → ExB F Mu H H' → DqAll K Mu H' v d → Q' d b' → Q v H') : cA K F t σ H Q := ⟨Mu, δ, b, Q', R, h, k⟩
theorem a_nil : PDA X F [] aNil := ⟨PA.weak pa_nil fun σ H Q ⟨Mu, δ, b, Q', R, h, k⟩ => k [] H [] b R (ExB.refl H) .nil h⟩
theorem a_cons (ha : PD X F e ta) (hr : PDA X F es tas) (hs : starEach (e :: es) X.env = (false, eval e X.env) :: starEach es X.env := by rfl) : PDA X F (e :: es) (aCons ta tas) :=
  ⟨PA.weak (pa_cons ha.pe hr.pa hs) fun σ H Q ⟨Mu, δ, b, Q', R, h, k⟩ => cE.go R h fun v H1 d b1 R1 e1 q1 h1 =>
    cA.go R1 h1 fun vs H2 ds b2 R2 e2 q2 h2 => k _ H2 _ b2 R2 (e1.trans e2) (.cons (q1.ex e2) q2) h2⟩
@[simp] def dTup (t : TAD) : TD := fun δ b Q => t δ b fun ds b1 => ds.length ≤ sizeLine ∧ Q (.tuple ds) b1
theorem d_tup {x1} (h : PDA X F es tas) : PD X F (.Tuple es x1 pos) (dTup tas) :=
  ⟨PE.weak (pe_tup h.pa) fun σ H Q ⟨Mu, δ, b, Q', R, h, k⟩ => cA.go R h fun vs H1 ds b1 R1 e1 q1 ⟨h1, h2⟩ =>
    ⟨by rw [q1.length]; exact h1, fun p hp => k _ _ _ b1 (R1.fresh hp) (e1.trans (ExB.new hp)) (.tup (.of upd_same (R1.nmu hp)) (q1.exM (ExM.new hp))) h2⟩⟩
/-- a new list -/
@[simp] def aLst (t : TAD) : TAD := fun δ b Q => t δ b fun ds b1 => ds.length ≤ sizeLine ∧ Q ds b1
theorem n_lst (h : PDA X F es tas) : PDN X F (.List es pos) (aLst tas) :=
  ⟨PE.weak (pe_lst h.pa) fun σ H Q ⟨Mu, δ, b, Q', R, h, k⟩ => cA.go R h fun vs H1 ds b1 R1 e1 q1 ⟨h1, h2⟩ =>
    ⟨by rw [q1.length]; exact h1, fun p hp => k p H1 vs ds b1 R1 e1 hp (by rw [q1.length]; exact h1) q1 h2⟩⟩
/-- a new list, as data -/
@[simp] def dList (t : TAD) : TD := fun δ b Q => t δ b fun ds b1 => Q (.list ds) b1
theorem PDN.d (h : PDN X F e tas) : PD X F e (dList tas) :=
  ⟨PE.weak h.pe fun σ H Q ⟨Mu, δ, b, Q', R, h, k⟩ => ⟨Mu, δ, b, _, R, h, fun p H1 vs ds b1 R1 e1 hp hz q1 h1 =>
    k _ _ _ b1 (R1.fresh hp) (e1.trans (ExB.new hp)) (.lst (.of upd_same (R1.nmu hp)) (q1.exM (ExM.new hp))) h1⟩⟩
/-- a new list, as a list object -/
theorem PDN.l (h : PDN X F e tas) : PDL X F e tas :=
  ⟨PE.weak h.pe fun σ H Q ⟨Mu, δ, b, Q', R, h, k⟩ => ⟨Mu, δ, b, Q', R, h, fun p H1 vs ds b1 R1 e1 hp hz q1 h1 =>
    k p _ ds b1 (R1.fresh hp) (e1.trans (ExB.new hp)) (fun H2 b2 R2 e2 => ⟨vs, e2.2 p _ (R1.nmu hp) upd_same, (q1.exM (ExM.new hp)).ex e2⟩) h1⟩⟩
/-- data that is a list, as a list object -/
@[simp] def lDat (t : TD) : TAD := fun δ b Q => t δ b fun d b1 => ∃ ds, d = .list ds ∧ Q ds b1
theorem PD.v (h : PD X F e ta) : PDV X F e (lDat ta) :=
  ⟨PE.weak h.pe fun σ H Q ⟨Mu, δ, b, Q', R, h, k⟩ => ⟨Mu, δ, b, _, R, h, fun v H1 d b1 R1 e1 q1 ⟨ds, ed, h1⟩ => by
    subst ed
    obtain ⟨a, vs, rfl, ha, qa⟩ := q1.lst_inv
    exact k a H1 ds b1 R1 e1 (fun H2 b2 R2 e2 => ⟨vs, (ha.ex e2).sq, qa.ex e2⟩) h1⟩⟩
theorem PDL.v (h : PDL X F e tas) : PDV X F e tas :=
  ⟨PE.weak h.pe fun σ H Q ⟨Mu, δ, b, Q', R, h, k⟩ => ⟨Mu, δ, b, Q', R, h, fun l H1 ds b1 R1 e1 q1 h1 => k l H1 ds b1 R1 e1 (fun H2 b2 R2 e2 => by
    obtain ⟨vs, z1, z2⟩ := q1 H2 b2 R2 e2
    exact ⟨vs, .inl (.inl z1), z2⟩) h1⟩⟩
theorem PDN.v (h : PDN X F e tas) : PDV X F e tas := h.l.v
/-- a list of the def's own -/
@[simp] def lOwn (i : Nat) : TAD := fun δ b Q => ∃ ds, δ[i]? = some (Sl.own ds) ∧ Q ds b
theorem l_own (i : Nat) {x : Str} {pos : Pos} (hN : X.N[i]? = some x := by rfl) (hv : Vis X.env.scope x := by first | exact Or.inl rfl | exact Or.inr (Or.inl rfl) | exact Or.inr (Or.inr rfl)) (hd : (x == ("__debug__" : Str)) = false := by decide)
    (hcd : (x == ("__classdict__" : Str)) = false := by decide) : PDL X F (.Name x pos) (lOwn i) :=
  ⟨PE.weak (pe_var hN hv hd hcd) fun σ H Q ⟨Mu, δ, b, Q', R, ⟨ds, h1, h2⟩, k⟩ => by
    obtain ⟨l, vs, e, m, n, q1, q2⟩ := R.sl i _ h1
    refine ⟨_, e, k l H ds b R (ExB.refl H) (fun H2 b2 R2 e2 => ?_) h2⟩
    obtain ⟨l', vs', e', m', n', q1', q2'⟩ := R2.sl i _ h1
    rw [e] at e'; cases e'
    exact ⟨vs', q1', q2'⟩⟩
end
end Wk
namespace Wk
open L2 PyProof.Rows PySem.Spec PySem
/-! ### comparisons of data -/
def rEqG (K : PySem.W.Frag) : R2 := fun x y H Q => ∃ d e, L2.Dp K H x d ∧ L2.Dp K H y e ∧ (d.canLay0 = true ∧ e.canLay0 = true) ∧ min d.depth e.depth ≤ 64 ∧ Q (.bl (PyData.eqv d e)) H
def rNeG (K : PySem.W.Frag) : R2 := fun x y H Q => ∃ d e, L2.Dp K H x d ∧ L2.Dp K H y e ∧ (d.canLay0 = true ∧ e.canLay0 = true) ∧ min d.depth e.depth ≤ 64 ∧ Q (.bl (!PyData.eqv d e)) H
def rLtG (K : PySem.W.Frag) : R2 := fun x y H Q => ∃ d e, L2.Dp K H x d ∧ L2.Dp K H y e ∧ PySem.W.alike d e = true ∧ d ≠ .none ∧ min d.depth e.depth ≤ 64 ∧ Q (.bl (PySem.W.dataLt d e)) H
section
variable {X : Cx}
theorem op_eqG (hu : X.A.units + 64 < cLine) : OpR X (compareOp .Eq) (rEqG X.K) := by
  intro pins s σ H x y v u Q I rx ry h; obtain ⟨d, e, hd, he, ⟨c1, c2⟩, hz, q⟩ := h
  obtain ⟨as, r1⟩ := L2.Dp.reads I d x v hd rx
  obtain ⟨bs, r2⟩ := L2.Dp.reads I e y u he ry
  exact SeqAt.compareEq_reads r1 r2 c1 c2 (by omega) ⟨.bl _, H, I, rfl, q⟩
theorem op_neG (hu : X.A.units + 64 < cLine) : OpR X (compareOp .NotEq) (rNeG X.K) := by
  intro pins s σ H x y v u Q I rx ry h; obtain ⟨d, e, hd, he, ⟨c1, c2⟩, hz, q⟩ := h
  obtain ⟨as, r1⟩ := L2.Dp.reads I d x v hd rx
  obtain ⟨bs, r2⟩ := L2.Dp.reads I e y u he ry
  exact SeqAt.compareNe_reads r1 r2 c1 c2 (by omega) ⟨.bl _, H, I, rfl, q⟩
theorem op_ltG (hu : X.A.units + 64 < cLine) : OpR X (compareOp .Lt) (rLtG X.K) := by
  intro pins s σ H x y v u Q I rx ry h; obtain ⟨d, e, hd, he, ha, hn, hz, q⟩ := h
  obtain ⟨as, r1⟩ := L2.Dp.reads I d x v hd rx
  obtain ⟨bs, r2⟩ := L2.Dp.reads I e y u he ry
  exact PySem.W.lt_data r1 r2 ha hn (by omega) ⟨.bl _, H, I, rfl, q⟩
end
/-- two texts, or what can be told apart as laid data -/
def eqOk : PyData → PyData → Bool
  | .str _, .str _ => true
  | d, e => d.canLay0 && e.canLay0 && decide (min d.depth e.depth ≤ 64)
def eqD (d e : PyData) : Option PyData := if eqOk d e = true then some (.bool (PyData.eqv d e)) else none
def neD (d e : PyData) : Option PyData := if eqOk d e = true then some (.bool (!PyData.eqv d e)) else none
def rEq2 (K : PySem.W.Frag) : R2 := fun x y H Q => L2.rEq x y H Q ∨ rEqG K x y H Q
def rNe2 (K : PySem.W.Frag) : R2 := fun x y H Q => L2.rNe x y H Q ∨ rNeG K x y H Q
theorem op_eq2 {X : Cx} (hu : X.A.units + 64 < cLine) : OpR X (compareOp .Eq) (rEq2 X.K) := OpR.or op_eq (op_eqG hu)
theorem op_ne2 {X : Cx} (hu : X.A.units + 64 < cLine) : OpR X (compareOp .NotEq) (rNe2 X.K) := OpR.or op_ne (op_neG hu)
def ltD : PyData → PyData → Option PyData
  | .int i, .int j => some (.bool (decide (i < j)))
  | .str x, .str y => some (.bool (decide (x.cps.toList < y.cps.toList)))
  | .tuple xs, .tuple ys => if PySem.W.alike (.tuple xs) (.tuple ys) = true ∧ min (PyData.tuple xs).depth (PyData.tuple ys).depth ≤ 64 then some (.bool (PySem.W.dataLt (.tuple xs) (.tuple ys))) else none
  | _, _ => none
def leD : PyData → PyData → Option PyData
  | .int i, .int j => some (.bool (decide (i ≤ j)))
  | _, _ => none
def gtD : PyData → PyData → Option PyData
  | .int i, .int j => some (.bool (decide (j < i)))
  | _, _ => none
def geD : PyData → PyData → Option PyData
  | .int i, .int j => some (.bool (decide (j ≤ i)))
  | _, _ => none
def addD : PyData → PyData → Option PyData
  | .int i, .int j => some (.int (i + j))
  | .str x, .str y => if x.length + y.length ≤ sizeLine then some (.str (x ++ y)) else none
  | .tuple xs, .tuple ys => if xs.length + ys.length ≤ sizeLine then some (.tuple (xs ++ ys)) else none
  | _, _ => none
def subD : PyData → PyData → Option PyData
  | .int i, .int j => some (.int (i - j))
  | _, _ => none
def flatD : PyData → Bool
  | .none => true | .bool _ => true | .int _ => true | .str _ => true | _ => false
def inD : PyData → PyData → Option PyData
  | .str x, .str z => match x.cps.toList with
    | [c] => some (.bool (decide (c ∈ z.cps.toList)))
    | _ => none
  | x, .list ds => if flatD x = true ∧ ds.all flatD = true then some (.bool (ds.any fun y => PyData.eqv y x)) else none
  | x, .tuple ds => if flatD x = true ∧ ds.all flatD = true then some (.bool (ds.any fun y => PyData.eqv y x)) else none
  | _, _ => none
def ninD (x y : PyData) : Option PyData := match inD x y with
  | some (.bool k) => some (.bool (!k))
  | _ => none
def isND (d e : PyData) : Option PyData := match d, e with
  | .none, .none => some (.bool true)
  | .bool _, .none => some (.bool false)
  | .int _, .none => some (.bool false)
  | .str _, .none => some (.bool false)
  | .list _, .none => some (.bool false)
  | .tuple _, .none => some (.bool false)
  | _, _ => none
def isNND (d e : PyData) : Option PyData := match isND d e with
  | some (.bool k) => some (.bool (!k))
  | _ => none
section
variable {K : PySem.W.Frag} {F : Fm} {Mu : Addr → Prop} {σ : L2.St} {H H' : Hp} {δ : List Sl} {b : Nat}
theorem r_eq : R2D K F (rEq2 K) eqD := by
  intro Mu σ H δ b x y dx dy dz Q R hx hy hz k
  unfold eqD at hz
  split at hz
  · rename_i h; cases hz
    unfold eqOk at h
    split at h
    · cases hx; cases hy
      exact .inl ⟨rfl, by rw [dec_str]; exact k _ H R (ExB.refl H) (.bl _)⟩
    · rw [Bool.and_eq_true, Bool.and_eq_true, decide_eq_true_eq] at h
      exact .inr ⟨dx, dy, hx.dp, hy.dp, h.1, h.2, k _ H R (ExB.refl H) (.bl _)⟩
  · cases hz
theorem r_ne : R2D K F (rNe2 K) neD := by
  intro Mu σ H δ b x y dx dy dz Q R hx hy hz k
  unfold neD at hz
  split at hz
  · rename_i h; cases hz
    unfold eqOk at h
    split at h
    · cases hx; cases hy
      exact .inl ⟨rfl, by rw [dec_str]; exact k _ H R (ExB.refl H) (.bl _)⟩
    · rw [Bool.and_eq_true, Bool.and_eq_true, decide_eq_true_eq] at h
      exact .inr ⟨dx, dy, hx.dp, hy.dp, h.1, h.2, k _ H R (ExB.refl H) (.bl _)⟩
  · cases hz
def rLt3 (K : PySem.W.Frag) : R2 := fun x y H Q => (∃ i j, x = .int i ∧ y = .int j ∧ Q (.bl (decide (i < j))) H) ∨ ((∃ i j, x = .str i ∧ y = .str j ∧ Q (.bl (decide (i.cps.toList < j.cps.toList))) H) ∨ rLtG K x y H Q)
theorem op_lt3 {X : Cx} (hu : X.A.units + 64 < cLine) : OpR X (compareOp .Lt) (rLt3 X.K) := OpR.or op_lt (OpR.or op_lt_str (op_ltG hu))
theorem r_lt : R2D K F (rLt3 K) ltD := by
  intro Mu σ H δ b x y dx dy dz Q R hx hy hz k
  unfold ltD at hz
  split at hz
  · cases hz; cases hx; cases hy
    exact .inl ⟨_, _, rfl, rfl, k _ H R (ExB.refl H) (.bl _)⟩
  · cases hz; cases hx; cases hy
    exact .inr (.inl ⟨_, _, rfl, rfl, k _ H R (ExB.refl H) (.bl _)⟩)
  · split at hz
    · rename_i h; cases hz
      exact .inr (.inr ⟨_, _, hx.dp, hy.dp, h.1, by simp, h.2, k _ H R (ExB.refl H) (.bl _)⟩)
    · cases hz
  · cases hz
theorem r_int2 {g : Int → Int → Bool} {f : PyData → PyData → Option PyData} (hf : ∀ d e z, f d e = some z → ∃ i j, d = .int i ∧ e = .int j ∧ z = .bool (g i j)) : R2D K F (rI0 fun i j => .bl (g i j)) f := by
  intro Mu σ H δ b x y dx dy dz Q R hx hy hz k
  obtain ⟨i, j, rfl, rfl, rfl⟩ := hf _ _ _ hz
  cases hx; cases hy
  exact ⟨_, _, rfl, rfl, k _ H R (ExB.refl H) (.bl _)⟩
theorem r_le : R2D K F (rI0 fun i j => .bl (decide (i ≤ j))) leD := r_int2 fun d e z h => by
  unfold leD at h; split at h <;> cases h; exact ⟨_, _, rfl, rfl, rfl⟩
theorem r_gt : R2D K F (rI0 fun i j => .bl (decide (j < i))) gtD := r_int2 fun d e z h => by
  unfold gtD at h; split at h <;> cases h; exact ⟨_, _, rfl, rfl, rfl⟩
theorem r_ge : R2D K F (rI0 fun i j => .bl (decide (j ≤ i))) geD := r_int2 fun d e z h => by
  unfold geD at h; split at h <;> cases h; exact ⟨_, _, rfl, rfl, rfl⟩
theorem r_sub : R2D K F (rI0 fun i j => .int (i - j)) subD := by
  intro Mu σ H δ b x y dx dy dz Q R hx hy hz k
  unfold subD at hz; split at hz <;> cases hz
  cases hx; cases hy
  exact ⟨_, _, rfl, rfl, k _ H R (ExB.refl H) (.int _)⟩
def rAdd3 (K : PySem.W.Frag) : R2 := fun x y H Q => (∃ i j, x = .int i ∧ y = .int j ∧ Q (.int (i + j)) H) ∨ ((∃ i j, x = .str i ∧ y = .str j ∧ i.length + j.length ≤ sizeLine ∧ Q (.str (i ++ j)) H) ∨ rCatA K x y H Q)
theorem op_add3 {X : Cx} : OpR X (binaryOp .Add) (rAdd3 X.K) := OpR.or op_add (OpR.or op_add_str op_catA)
theorem r_add : R2D K F (rAdd3 K) addD := by
  intro Mu σ H δ b x y dx dy dz Q R hx hy hz k
  unfold addD at hz
  split at hz
  · cases hz; cases hx; cases hy
    exact .inl ⟨_, _, rfl, rfl, k _ H R (ExB.refl H) (.int _)⟩
  · split at hz
    · rename_i h; cases hz; cases hx; cases hy
      exact .inr (.inl ⟨_, _, rfl, rfl, h, k _ H R (ExB.refl H) (.str _)⟩)
    · cases hz
  · split at hz
    · rename_i xs ys h; cases hz
      obtain ⟨a, vs, rfl, ha, qa⟩ := hx.tup_inv
      obtain ⟨c, ws, rfl, hc, qc⟩ := hy.tup_inv
      have la := qa.length
      have lc := qc.length
      refine .inr (.inr ⟨a, c, vs, ws, rfl, rfl, ha.sq, hc.sq, by omega, fun e => ?_, fun _ e => ?_, fun _ _ p hp => ?_⟩)
      · subst e
        have : xs = [] := List.eq_nil_of_length_eq_zero (by simpa using la.symm)
        subst this
        exact k _ H R (ExB.refl H) (.tup hc (by simpa using qc))
      · subst e
        have : ys = [] := List.eq_nil_of_length_eq_zero (by simpa using lc.symm)
        subst this
        exact k _ H R (ExB.refl H) (.tup ha (by simpa using qa))
      · exact k _ _ (R.fresh hp) (ExB.new hp) (.tup (.of upd_same (R.nmu hp)) ((qa.append qc).exM (ExM.new hp)))
    · cases hz
  · cases hz
/-! in, not in -/
theorem flat_of {v : V} {d : PyData} (q : Dq K Mu H v d) (h : flatD d = true) : flatV v = true := by
  cases q <;> first | rfl | cases h
theorem eqv_flat {v w : V} {d e : PyData} (q : Dq K Mu H v d) (r : Dq K Mu H w e) (h : flatD d = true) (h' : flatD e = true) : eqV v w = PyData.eqv d e := by
  cases q <;> first | (cases h; done) | (cases r <;> first | (cases h'; done) | rfl | simp [eqV, PyData.eqv])
theorem in_flat {w : V} {e : PyData} (r : Dq K Mu H w e) (h' : flatD e = true) : ∀ {vs : List V} {ds : List PyData}, DqAll K Mu H vs ds → ds.all flatD = true → vs.all flatV = true ∧ inV w vs = ds.any fun y => PyData.eqv y e
  | _, [], q, _ => by cases q; exact ⟨rfl, rfl⟩
  | _, d :: ds, q, h => by
    cases q with
    | cons q1 q2 =>
      rw [List.all_cons, Bool.and_eq_true] at h; obtain ⟨a, c⟩ := in_flat r h' q2 h.2
      refine ⟨by rw [List.all_cons, flat_of q1 h.1, a]; rfl, ?_⟩
      unfold inV at c ⊢
      rw [List.any_cons, List.any_cons, c, eqv_flat q1 r h.1 h']
def rIn2 (K : PySem.W.Frag) : R2 := fun x y H Q => rIn K false x y H Q ∨ ∃ (c : Nat) (z : Str), x = .str ⟨#[c]⟩ ∧ y = .str z ∧ Q (.bl (decide (c ∈ z.cps.toList))) H
def rNin2 (K : PySem.W.Frag) : R2 := fun x y H Q => rIn K true x y H Q ∨ ∃ (c : Nat) (z : Str), x = .str ⟨#[c]⟩ ∧ y = .str z ∧ Q (.bl (!decide (c ∈ z.cps.toList))) H
theorem op_in2 {X : Cx} : OpR X (compareOp .In) (rIn2 X.K) := OpR.or op_in_seq op_in_sign
theorem op_nin2 {X : Cx} : OpR X (compareOp .NotIn) (rNin2 X.K) := OpR.or op_notIn_seq op_notIn_sign
theorem one_sign {x : Str} {c : Nat} (h : x.cps.toList = [c]) : x = ⟨#[c]⟩ := TL.ext_tl (by show x.cps.toList = _; rw [h])
theorem in_go {dx dy : PyData} {k : Bool} (h : inD dx dy = some (.bool k)) {x y : V} (hx : Dq K Mu H x dx) (hy : Dq K Mu H y dy) :
    (∃ p xs, y = .ref p ∧ (SqL K H p xs ∨ SqT K H p xs) ∧ flatV x = true ∧ xs.all flatV = true ∧ inV x xs = k) ∨ ∃ (c : Nat) (z : Str), x = .str ⟨#[c]⟩ ∧ y = .str z ∧ k = decide (c ∈ z.cps.toList) := by
  unfold inD at h
  split at h
  · split at h
    · rename_i c hc; cases h; cases hx; cases hy
      exact .inr ⟨c, _, by rw [one_sign hc], rfl, rfl⟩
    · cases h
  · split at h
    · rename_i hf; cases h
      obtain ⟨a, vs, rfl, ha, qa⟩ := hy.lst_inv
      obtain ⟨u1, u2⟩ := in_flat hx hf.1 qa hf.2
      exact .inl ⟨a, vs, rfl, .inl ha.sq, flat_of hx hf.1, u1, u2⟩
    · cases h
  · split at h
    · rename_i hf; cases h
      obtain ⟨a, vs, rfl, ha, qa⟩ := hy.tup_inv
      obtain ⟨u1, u2⟩ := in_flat hx hf.1 qa hf.2
      exact .inl ⟨a, vs, rfl, .inr ha.sq, flat_of hx hf.1, u1, u2⟩
    · cases h
  · cases h
theorem inD_bool {d e z : PyData} (h : inD d e = some z) : ∃ k, z = .bool k := by
  unfold inD at h
  split at h
  · split at h <;> cases h; exact ⟨_, rfl⟩
  · split at h <;> cases h; exact ⟨_, rfl⟩
  · split at h <;> cases h; exact ⟨_, rfl⟩
  · cases h
theorem r_in : R2D K F (rIn2 K) inD := by
  intro Mu σ H δ b x y dx dy dz Q R hx hy hz k
  obtain ⟨t, rfl⟩ := inD_bool hz
  rcases in_go hz hx hy with ⟨p, xs, rfl, a1, a2, a3, rfl⟩ | ⟨c, z, rfl, rfl, rfl⟩
  · exact .inl ⟨p, xs, rfl, a1, a2, a3, by rw [if_neg Bool.false_ne_true]; exact k _ H R (ExB.refl H) (.bl _)⟩
  · exact .inr ⟨c, z, rfl, rfl, k _ H R (ExB.refl H) (.bl _)⟩
theorem r_nin : R2D K F (rNin2 K) ninD := by
  intro Mu σ H δ b x y dx dy dz Q R hx hy hz k
  unfold ninD at hz
  split at hz
  · rename_i t hz'
    cases hz
    rcases in_go hz' hx hy with ⟨p, xs, rfl, a1, a2, a3, rfl⟩ | ⟨c, z, rfl, rfl, rfl⟩
    · exact .inl ⟨p, xs, rfl, a1, a2, a3, by rw [if_pos rfl]; exact k _ H R (ExB.refl H) (.bl _)⟩
    · exact .inr ⟨c, z, rfl, rfl, k _ H R (ExB.refl H) (.bl _)⟩
  · cases hz
theorem r_isN : R2D K F (fun x y H Q => y = .non ∧ Q (.bl (decide (x = .non))) H) isND := by
  intro Mu σ H δ b x y dx dy dz Q R hx hy hz k
  unfold isND at hz
  split at hz <;> cases hz <;> cases hx <;> cases hy <;> exact ⟨rfl, k _ H R (ExB.refl H) (.bl _)⟩
theorem r_isNN : R2D K F (fun x y H Q => y = .non ∧ Q (.bl (!decide (x = .non))) H) isNND := by
  intro Mu σ H δ b x y dx dy dz Q R hx hy hz k
  unfold isNND isND at hz
  split at hz
  · rename_i t hz'
    cases hz
    split at hz' <;> cases hz' <;> cases hx <;> cases hy <;> exact ⟨rfl, k _ H R (ExB.refl H) (.bl _)⟩
  · cases hz
/-! ### places, slices -/
theorem atI_len {α β : Type} {xs : List α} {ys : List β} (h : xs.length = ys.length) {i : Int} {y : β} (e : atI ys i = some y) : ∃ j, ixN ys.length i = some j ∧ ys[j]? = some y ∧ ∀ x, xs[j]? = some x → atI xs i = some x := by
  unfold atI at e ⊢
  cases q : ixN ys.length i with
  | none => (rw [q] at e; cases e)
  | some j =>
    rw [q] at e
    refine ⟨j, rfl, e, fun x hx => ?_⟩
    rw [h, q]
    exact hx
theorem DqAll.at {vs : List V} {ds : List PyData} (q : DqAll K Mu H vs ds) {i : Int} {d : PyData} (e : atI ds i = some d) : ∃ v, atI vs i = some v ∧ Dq K Mu H v d := by
  obtain ⟨j, _, h2, h3⟩ := atI_len q.length e
  obtain ⟨v, h4, h5⟩ := q.get h2
  exact ⟨v, h3 v h4, h5⟩
def idxD : PyData → PyData → Option PyData
  | .list ds, .int i => atI ds i
  | .tuple ds, .int i => atI ds i
  | .str z, .int i => if z.length ≤ sizeLine then (atI z.cps.toList i).map fun c => .str ⟨#[c]⟩ else none
  | _, _ => none
theorem r_idx : R2D K F (rIx K) idxD := by
  intro Mu σ H δ b x y dx dy dz Q R hx hy hz k
  unfold idxD at hz
  split at hz
  · obtain ⟨a, vs, rfl, ha, qa⟩ := hx.lst_inv
    cases hy
    obtain ⟨v, h1, h2⟩ := qa.at hz
    exact .inl ⟨a, vs, _, v, rfl, rfl, ha.sq, h1, k _ H R (ExB.refl H) h2⟩
  · obtain ⟨a, vs, rfl, ha, qa⟩ := hx.tup_inv
    cases hy
    obtain ⟨v, h1, h2⟩ := qa.at hz
    exact .inr (.inl ⟨a, vs, _, v, rfl, rfl, ha.sq, h1, k _ H R (ExB.refl H) h2⟩)
  · split at hz
    · rename_i h
      obtain ⟨c, h1, rfl⟩ := Option.map_eq_some_iff.mp hz
      cases hx; cases hy
      exact .inr (.inr ⟨_, _, c, rfl, rfl, h, h1, k _ H R (ExB.refl H) (.str _)⟩)
    · cases hz
  · cases hz
def cutP {α : Type} (xs : List α) (lo hi : Option Int) : List α := (xs.drop (HT.sIx xs.length 0 lo)).take (HT.sIx xs.length xs.length hi - HT.sIx xs.length 0 lo)
theorem DqAll.cut {vs : List V} {ds : List PyData} (q : DqAll K Mu H vs ds) (lo hi : Option Int) : DqAll K Mu H (cutV vs lo hi) (cutP ds lo hi) := by
  unfold cutV cutP
  rw [q.length]
  exact (q.drop _).take _
def sliceD (lo hi : Option Int) : PyData → Option PyData
  | .list ds => some (.list (cutP ds lo hi))
  | .tuple ds => some (.tuple (cutP ds lo hi))
  | _ => none
theorem cutP_whole {α : Type} {xs : List α} {lo hi : Option Int} (h1 : HT.sIx xs.length 0 lo = 0) (h2 : HT.sIx xs.length xs.length hi = xs.length) : cutP xs lo hi = xs := by
  unfold cutP; rw [h1, h2]; simp
end
/-! ### rules -/
section
variable {X : Cx} {F : Fm} {K : PySem.W.Frag} {a e : Expr} {es : List Expr} {ta tb : TD} {tas : TAD} {pos : Pos}
theorem d_eq (hu : X.A.units + 64 < cLine) (ha : PD X F a ta) (hb : PD X F e tb) (hm : behindInMarks .Eq e = false := by exact nomark _) : PD X F (.Compare a [.Eq] [e] pos) (d2 eqD ta tb) := d_cmp (op_eq2 hu) r_eq ha hb hm
theorem d_ne (hu : X.A.units + 64 < cLine) (ha : PD X F a ta) (hb : PD X F e tb) (hm : behindInMarks .NotEq e = false := by exact nomark _) : PD X F (.Compare a [.NotEq] [e] pos) (d2 neD ta tb) := d_cmp (op_ne2 hu) r_ne ha hb hm
theorem d_lt (hu : X.A.units + 64 < cLine) (ha : PD X F a ta) (hb : PD X F e tb) (hm : behindInMarks .Lt e = false := by exact nomark _) : PD X F (.Compare a [.Lt] [e] pos) (d2 ltD ta tb) := d_cmp (op_lt3 hu) r_lt ha hb hm
theorem d_le (ha : PD X F a ta) (hb : PD X F e tb) (hm : behindInMarks .LtE e = false := by exact nomark _) : PD X F (.Compare a [.LtE] [e] pos) (d2 leD ta tb) := d_cmp op_le r_le ha hb hm
theorem d_gt (ha : PD X F a ta) (hb : PD X F e tb) (hm : behindInMarks .Gt e = false := by exact nomark _) : PD X F (.Compare a [.Gt] [e] pos) (d2 gtD ta tb) := d_cmp op_gt r_gt ha hb hm
theorem d_ge (ha : PD X F a ta) (hb : PD X F e tb) (hm : behindInMarks .GtE e = false := by exact nomark _) : PD X F (.Compare a [.GtE] [e] pos) (d2 geD ta tb) := d_cmp op_ge r_ge ha hb hm
theorem d_in (ha : PD X F a ta) (hb : PD X F e tb) (hm : behindInMarks .In e = false := by with_unfolding_all rfl) : PD X F (.Compare a [.In] [e] pos) (d2 inD ta tb) := d_cmp op_in2 r_in ha hb hm
theorem d_nin (ha : PD X F a ta) (hb : PD X F e tb) (hm : behindInMarks .NotIn e = false := by with_unfolding_all rfl) : PD X F (.Compare a [.NotIn] [e] pos) (d2 ninD ta tb) := d_cmp op_nin2 r_nin ha hb hm
theorem d_is (ha : PD X F a ta) (hb : PD X F e tb) (hm : behindInMarks .Is e = false := by exact nomark _) : PD X F (.Compare a [.Is] [e] pos) (d2 isND ta tb) := d_cmp op_isN r_isN ha hb hm
theorem d_isnt (ha : PD X F a ta) (hb : PD X F e tb) (hm : behindInMarks .IsNot e = false := by exact nomark _) : PD X F (.Compare a [.IsNot] [e] pos) (d2 isNND ta tb) := d_cmp op_notN r_isNN ha hb hm
theorem d_eqT (hu : X.A.units + 64 < cLine) (ha : PD X F a ta) (hb : PD X F e tb) (hm : behindInMarks .Eq e = false := by exact nomark _) : PDT X F (.Compare a [.Eq] [e] pos) (dTest (d2 eqD ta tb)) := d_cmpT (op_eq2 hu) r_eq ha hb hm
theorem d_neT (hu : X.A.units + 64 < cLine) (ha : PD X F a ta) (hb : PD X F e tb) (hm : behindInMarks .NotEq e = false := by exact nomark _) : PDT X F (.Compare a [.NotEq] [e] pos) (dTest (d2 neD ta tb)) := d_cmpT (op_ne2 hu) r_ne ha hb hm
theorem d_ltT (hu : X.A.units + 64 < cLine) (ha : PD X F a ta) (hb : PD X F e tb) (hm : behindInMarks .Lt e = false := by exact nomark _) : PDT X F (.Compare a [.Lt] [e] pos) (dTest (d2 ltD ta tb)) := d_cmpT (op_lt3 hu) r_lt ha hb hm
theorem d_leT (ha : PD X F a ta) (hb : PD X F e tb) (hm : behindInMarks .LtE e = false := by exact nomark _) : PDT X F (.Compare a [.LtE] [e] pos) (dTest (d2 leD ta tb)) := d_cmpT op_le r_le ha hb hm
theorem d_gtT (ha : PD X F a ta) (hb : PD X F e tb) (hm : behindInMarks .Gt e = false := by exact nomark _) : PDT X F (.Compare a [.Gt] [e] pos) (dTest (d2 gtD ta tb)) := d_cmpT op_gt r_gt ha hb hm
theorem d_geT (ha : PD X F a ta) (hb : PD X F e tb) (hm : behindInMarks .GtE e = false := by exact nomark _) : PDT X F (.Compare a [.GtE] [e] pos) (dTest (d2 geD ta tb)) := d_cmpT op_ge r_ge ha hb hm
theorem d_inT (ha : PD X F a ta) (hb : PD X F e tb) (hm : behindInMarks .In e = false := by with_unfolding_all rfl) : PDT X F (.Compare a [.In] [e] pos) (dTest (d2 inD ta tb)) := d_cmpT op_in2 r_in ha hb hm
theorem d_ninT (ha : PD X F a ta) (hb : PD X F e tb) (hm : behindInMarks .NotIn e = false := by with_unfolding_all rfl) : PDT X F (.Compare a [.NotIn] [e] pos) (dTest (d2 ninD ta tb)) := d_cmpT op_nin2 r_nin ha hb hm
theorem d_isT (ha : PD X F a ta) (hb : PD X F e tb) (hm : behindInMarks .Is e = false := by exact nomark _) : PDT X F (.Compare a [.Is] [e] pos) (dTest (d2 isND ta tb)) := d_cmpT op_isN r_isN ha hb hm
theorem d_isntT (ha : PD X F a ta) (hb : PD X F e tb) (hm : behindInMarks .IsNot e = false := by exact nomark _) : PDT X F (.Compare a [.IsNot] [e] pos) (dTest (d2 isNND ta tb)) := d_cmpT op_notN r_isNN ha hb hm
theorem d_lele {c : Expr} {tc : TD} (ha : PD X F a ta) (hb : PD X F e tb) (hc : PD X F c tc) (hm : lastMarks [.LtE, .LtE] [e, c] = false := by with_unfolding_all rfl) : PD X F (.Compare a [.LtE, .LtE] [e, c] pos) (dChain leD leD ta tb tc) := d_chain op_le op_le r_le r_le ha hb hc hm
theorem d_leleT {c : Expr} {tc : TD} (ha : PD X F a ta) (hb : PD X F e tb) (hc : PD X F c tc) (hm : lastMarks [.LtE, .LtE] [e, c] = false := by with_unfolding_all rfl) : PDT X F (.Compare a [.LtE, .LtE] [e, c] pos) (dTest (dChain leD leD ta tb tc)) := d_chainT op_le op_le r_le r_le ha hb hc hm
theorem d_add (ha : PD X F a ta) (hb : PD X F e tb) : PD X F (.BinOp a .Add e pos) (d2 addD ta tb) := d_op op_add3 r_add ha hb
theorem d_sub (ha : PD X F a ta) (hb : PD X F e tb) : PD X F (.BinOp a .Sub e pos) (d2 subD ta tb) := d_op op_sub r_sub ha hb
theorem d_ix (ha : PD X F a ta) (hb : PD X F e tb) (hs : PlainIx e) : PD X F (.Subscript a e pos) (d2 idxD ta tb) := ⟨PE.weak (pe_ix ix_seq ha.pe hb.pe hs) fun _ _ _ => two r_idx⟩
/-! slices -/
abbrev TOD := List Sl → Nat → (Option Int → Nat → Prop) → Prop
def cO (K : PySem.W.Frag) (F : Fm) (t : TOD) : TO := fun σ H Q => ∃ Mu δ b Q', Rep K F Mu σ H δ b ∧ t δ b Q' ∧ ∀ o H' b', Rep K F Mu σ H' δ b' → ExB F Mu H H' → Q' o b' → Q o H'
structure PDO (X : Cx) (F : Fm) (e : Option Expr) (t : TOD) : Prop where
  po : PO X e (cO X.K F t)
theorem PO.weak {e : Option Expr} {te te' : TO} (h : PO X e te) (k : ∀ σ H Q, te' σ H Q → te σ H Q) : PO X e te' := ⟨fun pins s σ H Q I q => h.run pins s σ H Q I (k σ H Q q)⟩
@[simp] def oNo : TOD := fun _ b Q => Q none b
@[simp] def oSome (t : TD) : TOD := fun δ b Q => t δ b fun d b1 => ∃ i, d = .int i ∧ Q (some i) b1
theorem o_none : PDO X F none oNo := ⟨PO.weak po_none fun σ H Q ⟨Mu, δ, b, Q', R, h, k⟩ => k none H b R (ExB.refl H) h⟩
theorem o_some (h : PD X F e ta) : PDO X F (some e) (oSome ta) := ⟨PO.weak (po_some h.pe) fun σ H Q ⟨Mu, δ, b, Q', R, h, k⟩ => cE.go R h fun v H1 d b1 R1 e1 q1 ⟨i, ed, h1⟩ => by
    subst ed
    exact ⟨i, q1.int_inv, k (some i) H1 b1 R1 e1 h1⟩⟩
@[simp] def dSl (t : TD) (lo hi : TOD) : TD := fun δ b Q => t δ b fun x b1 => lo δ b1 fun l b2 => hi δ b2 fun u b3 => ∃ z, sliceD l u x = some z ∧ Q z b3
theorem d_slice {lo hi : Option Expr} {tl th : TOD} {p2 : Pos} (he : PD X F e ta) (hl : PDO X F lo tl) (hh : PDO X F hi th) : PD X F (.Subscript e (.Slice lo hi none p2) pos) (dSl ta tl th) :=
  ⟨PE.weak (pe_slice (SlR.or sl_list sl_tupA) he.pe hl.po hh.po) fun σ H Q ⟨Mu, δ, b, Q', R, h, k⟩ => cE.go R h fun v H1 d b1 R1 e1 q1 h1 =>
    ⟨Mu, δ, b1, _, R1, h1, fun l H2 b2 R2 e2 h2 => ⟨Mu, δ, b2, _, R2, h2, fun u H3 b3 R3 e3 ⟨z, hz, h3⟩ => by
      have q3 := (q1.ex e2).ex e3
      have ee := (e1.trans e2).trans e3
      unfold sliceD at hz
      split at hz
      · cases hz
        obtain ⟨a, vs, rfl, ha, qa⟩ := q3.lst_inv
        exact .inl ⟨a, vs, rfl, ha.sq, fun p hp => k _ _ _ b3 (R3.fresh hp) (ee.trans (ExB.new hp)) (.lst (.of upd_same (R3.nmu hp)) ((qa.cut l u).exM (ExM.new hp))) h3⟩
      · cases hz
        obtain ⟨a, vs, rfl, ha, qa⟩ := q3.tup_inv
        refine .inr ⟨a, vs, rfl, ha.sq, fun w => ?_, fun _ p hp => k _ _ _ b3 (R3.fresh hp) (ee.trans (ExB.new hp)) (.tup (.of upd_same (R3.nmu hp)) ((qa.cut l u).exM (ExM.new hp))) h3⟩
        rw [qa.length] at w
        rw [cutP_whole w.1 w.2] at h3
        exact k _ H3 _ b3 R3 ee (.tup ha qa) h3
      · cases hz⟩⟩⟩
end
end Wk
namespace Wk
open L2 PyProof.Rows PySem.Spec PySem
/-! ### built-in calls over data -/
def tyD : PyData → String
  | .none => "NoneType" | .bool _ => "bool" | .int _ => "int"
  | .str _ => "str" | .list _ => "list" | .tuple _ => "tuple" | .dict _ => "dict"
def isB (T : String) (d : PyData) : Bool := tyD d == T || (T == "int" && tyD d == "bool")
theorem kit_all : (["NoneType", "bool", "int", "str", "list", "tuple"].all fun t => ["bool", "int", "str", "tuple"].all fun T => kitB t T == some (t == T || (T == "int" && t == "bool"))) = true := by decide +kernel
theorem kit_tys {d : PyData} {T : String} (hd : ∀ x, d ≠ .dict x) (hT : T ∈ ["bool", "int", "str", "tuple"]) : kitB (tyD d) T = some (isB T d) := by
  have h := kit_all
  simp only [List.all_eq_true, beq_iff_eq] at h
  exact h (tyD d) (by cases d <;> simp [tyD] at * ) T hT
section
variable {K : PySem.W.Frag} {F : Fm} {Mu : Addr → Prop} {σ : L2.St} {H H' : Hp} {δ : List Sl} {b : Nat}
theorem Dq.ty {v : V} {d : PyData} (h : Dq K Mu H v d) : TyX K H v (.type (tyD d)) := by
  cases h with
  | non => exact .base .non
  | bl _ => exact .base (.bl _)
  | int _ => exact .base (.int _)
  | str _ => exact .base (.str _)
  | lst hs _ =>
    rcases hs.sq with (h | ⟨o, h⟩) | ⟨o, its, n, e, c, _⟩
    · exact .base (.lst h)
    · exact .base (.frz h)
    · exact .kList e c
  | tup hs _ =>
    rcases hs.sq with (h | ⟨o, h⟩) | ⟨o, its, n, e, c, _⟩
    · exact .base (.tup h)
    · exact .fTuple h
    · exact .kTuple e c
theorem Dq.nodict {v : V} {d : PyData} (h : Dq K Mu H v d) : ∀ x, d ≠ .dict x := fun x e => by subst e; exact h.dict_inv
def isiD (T : String) (d : PyData) : Option PyData := some (.bool (isB T d))
/-- what a value's length is -/
def lenD : PyData → Option PyData
  | .str z => if z.length ≤ sizeLine then some (.int z.length) else none
  | .list ds => some (.int ds.length)
  | .tuple ds => some (.int ds.length)
  | _ => none
def strD : PyData → Option PyData
  | .str z => some (.str z)
  | .int i => if i.natAbs.log2 < 1920 then some (.str (toString i)) else none
  | _ => none
def intD : PyData → Option PyData
  | .int i => some (.int i)
  | .bool k => some (.int (if k then 1 else 0))
  | .str a => if a.length ≤ 640 then (PySem.intText? a).map PyData.int else none
  | _ => none
def seqD : PyData → Option (List PyData)
  | .list ds => some ds
  | .tuple ds => some ds
  | _ => none
end
section
variable {X : Cx} {F : Fm} {a e : Expr} {es : List Expr} {ta tb : TD} {tas : TAD} {x : Str} {p pos : Pos} {T id : String} {te : TE} {r : List V → Hp → VK → Prop}
theorem pe_one1 (hc : CallR X (.builtin id) r) (hg : Gl X x) (hm : X.mg x = none) (hv : bootBuiltins x = some (.builtin id)) (ha : PE X e te) (hn : x ≠ "__name__" := by decide) (hdb : (x == ("__debug__" : Str)) = false := by decide)
    (he : starEach [e] X.env = (false, eval e X.env) :: starEach [] X.env := by rfl) : PE X (.Call (.Name x p) [e] [] pos) (fun σ H Q => te σ H fun v H1 => r [v] H1 Q) :=
  pe_callB hc hg hm hv (pa_cons ha pa_nil he) hn hdb he rfl
theorem pe_oneT (hc : CallR X (.type T) r) (hg : Gl X x) (hm : X.mg x = none) (hv : bootBuiltins x = some (.type T)) (ha : PE X e te) (hn : x ≠ "__name__" := by decide) (hdb : (x == ("__debug__" : Str)) = false := by decide)
    (he : starEach [e] X.env = (false, eval e X.env) :: starEach [] X.env := by rfl) : PE X (.Call (.Name x p) [e] [] pos) (fun σ H Q => te σ H fun v H1 => r [v] H1 Q) :=
  pe_callTy hc hg hm hv (pa_cons ha pa_nil he) hn hdb he rfl
/-- isinstance(x, T) -/
theorem d_isi {z : Str} {p2 : Pos} (hg : Gl X "isinstance") (hm : X.mg "isinstance" = none) (ha : PD X F a ta) (hg2 : Gl X z) (hm2 : X.mg z = none) (hv2 : bootBuiltins z = some (.type T)) (hT : T ∈ ["bool", "int", "str", "tuple"])
    (he : starEach [a, .Name z p2] X.env = (false, eval a X.env) :: starEach [.Name z p2] X.env := by rfl) (hn : z ≠ "__name__" := by decide) (hdb : (z == ("__debug__" : Str)) = false := by decide) :
    PD X F (.Call (.Name "isinstance" p) [a, .Name z p2] [] pos) (d1 (isiD T) ta) :=
  ⟨PE.weak (pe_callB call_isi hg hm boot_isinstance (pa_cons ha.pe (pa_cons (pe_bltn (v := .ty T) hg2 hm2 hv2 rfl hn hdb) pa_nil rfl) he) (by decide) (by decide) he rfl) fun σ H Q ⟨Mu, δ, b, Q', R, h, k⟩ =>
    cE.go R h fun v H1 d b1 R1 e1 q1 ⟨z, hz, h1⟩ => by
      cases hz
      exact ⟨v, .ty T, .type (tyD d), .type T, isB T d, rfl, .ty T, q1.ty, kit_ty (kit_tys q1.nodict hT), k _ H1 _ b1 R1 e1 (.bl _) h1⟩⟩
/-- len(x) -/
theorem d_len (hg : Gl X "len") (hm : X.mg "len" = none) (ha : PD X F a ta) (he : starEach [a] X.env = (false, eval a X.env) :: starEach [] X.env := by rfl) : PD X F (.Call (.Name "len" p) [a] [] pos) (d1 lenD ta) :=
  ⟨PE.weak (pe_one1 call_len hg hm boot_len ha.pe (by decide) (by decide) he) fun σ H Q ⟨Mu, δ, b, Q', R, h, k⟩ =>
    cE.go R h fun v H1 d b1 R1 e1 q1 ⟨z, hz, h1⟩ => by
      unfold lenD at hz
      split at hz
      · split at hz
        · rename_i hl; cases hz; cases q1
          exact ⟨_, _, rfl, ⟨hl, rfl⟩, k _ H1 _ b1 R1 e1 (.int _) h1⟩
        · cases hz
      · cases hz
        obtain ⟨l, vs, rfl, hl, hq⟩ := q1.lst_inv
        exact ⟨_, _, rfl, .inl ⟨vs, hl.sq, rfl⟩, k _ H1 _ b1 R1 e1 (by rw [hq.length]; exact .int _) h1⟩
      · cases hz
        obtain ⟨l, vs, rfl, hl, hq⟩ := q1.tup_inv
        exact ⟨_, _, rfl, .inr ⟨vs, hl.sq, rfl⟩, k _ H1 _ b1 R1 e1 (by rw [hq.length]; exact .int _) h1⟩
      · cases hz⟩
@[simp] def dLenV (t : TAD) : TD := fun δ b Q => t δ b fun ds b1 => Q (.int ds.length) b1
theorem d_lenV (hg : Gl X "len") (hm : X.mg "len" = none) (ha : PDV X F a tas) (he : starEach [a] X.env = (false, eval a X.env) :: starEach [] X.env := by rfl) : PD X F (.Call (.Name "len" p) [a] [] pos) (dLenV tas) :=
  ⟨PE.weak (pe_one1 call_len hg hm boot_len ha.pe (by decide) (by decide) he) fun σ H Q ⟨Mu, δ, b, Q', R, h, k⟩ =>
    ⟨Mu, δ, b, _, R, h, fun l H1 ds b1 R1 e1 w h1 => by
      obtain ⟨vs, hl, hq⟩ := w H1 b1 R1 (ExB.refl H1)
      exact ⟨_, _, rfl, .inl ⟨vs, hl, rfl⟩, k _ H1 _ b1 R1 e1 (by rw [hq.length]; exact .int _) h1⟩⟩⟩
/-- all([..]) -/
theorem DqAll.bools {K : PySem.W.Frag} {Mu : Addr → Prop} {H : Hp} : ∀ {vs : List V} {bs : List Bool}, DqAll K Mu H vs (bs.map PyData.bool) → vs = bs.map V.bl
  | _, [], h => by cases h; rfl
  | _, b :: bs, h => by
    cases h with
    | cons h1 h2 =>
      cases h1
      rw [DqAll.bools h2]; rfl
theorem DqAll.strs {K : PySem.W.Frag} {Mu : Addr → Prop} {H : Hp} : ∀ {vs : List V} {bs : List Str}, DqAll K Mu H vs (bs.map PyData.str) → vs = bs.map V.str
  | _, [], h => by cases h; rfl
  | _, b :: bs, h => by
    cases h with
    | cons h1 h2 =>
      cases h1
      rw [DqAll.strs h2]; rfl
theorem DqAll.ofStrs {K : PySem.W.Frag} {Mu : Addr → Prop} {H : Hp} : ∀ (bs : List Str), DqAll K Mu H (bs.map V.str) (bs.map PyData.str)
  | [] => .nil
  | b :: bs => .cons (.str b) (DqAll.ofStrs bs)
@[simp] def dAll (t : TAD) : TD := fun δ b Q => t δ b fun ds b1 => ∃ bs : List Bool, ds = bs.map PyData.bool ∧ Q (.bool (bs.all fun k => k)) b1
theorem d_all (hc : X.calm = true) (hg : Gl X "all") (hm : X.mg "all" = none) (ha : PDV X F a tas) (he : starEach [a] X.env = (false, eval a X.env) :: starEach [] X.env := by rfl) : PD X F (.Call (.Name "all" p) [a] [] pos) (dAll tas) :=
  ⟨PE.weak (pe_one1 (cr_all hc) hg hm boot_all ha.pe (by decide) (by decide) he) fun σ H Q ⟨Mu, δ, b, Q', R, h, k⟩ =>
    ⟨Mu, δ, b, _, R, h, fun l H1 ds b1 R1 e1 w ⟨bs, eb, h1⟩ => by
      obtain ⟨vs, hl, hq⟩ := w H1 b1 R1 (ExB.refl H1)
      subst eb
      rw [hq.bools] at hl
      exact ⟨l, bs, rfl, hl, k _ H1 _ b1 R1 e1 (.bl _) h1⟩⟩⟩
/-- tuple(xs) -/
@[simp] def dTupV (t : TAD) : TD := fun δ b Q => t δ b fun ds b1 => Q (.tuple ds) b1
theorem d_tuple (hg : Gl X "tuple") (hm : X.mg "tuple" = none) (ha : PDV X F a tas) (he : starEach [a] X.env = (false, eval a X.env) :: starEach [] X.env := by rfl) : PD X F (.Call (.Name "tuple" p) [a] [] pos) (dTupV tas) :=
  ⟨PE.weak (pe_oneT call_tuple_of hg hm boot_tuple ha.pe (by decide) (by decide) he) fun σ H Q ⟨Mu, δ, b, Q', R, h, k⟩ =>
    ⟨Mu, δ, b, _, R, h, fun l H1 ds b1 R1 e1 w h1 => by
      obtain ⟨vs, hl, hq⟩ := w H1 b1 R1 (ExB.refl H1)
      exact ⟨l, vs, rfl, .inl ⟨hl, fun p hp => k _ _ _ b1 (R1.fresh hp) (e1.trans (ExB.new hp)) (.tup (.of upd_same (R1.nmu hp)) (hq.exM (ExM.new hp))) h1⟩⟩⟩⟩
/-- list(xs), xs a list or a tuple -/
@[simp] def nSeq (t : TD) : TAD := fun δ b Q => t δ b fun d b1 => ∃ ds, seqD d = some ds ∧ ds.length ≤ sizeLine ∧ Q ds b1
theorem n_list (hg : Gl X "list") (hm : X.mg "list" = none) (ha : PD X F a ta) (he : starEach [a] X.env = (false, eval a X.env) :: starEach [] X.env := by rfl) : PDN X F (.Call (.Name "list" p) [a] [] pos) (nSeq ta) :=
  ⟨PE.weak (pe_oneT call_list_of hg hm boot_list ha.pe (by decide) (by decide) he) fun σ H Q ⟨Mu, δ, b, Q', R, h, k⟩ =>
    cE.go R h fun v H1 d b1 R1 e1 q1 ⟨ds, hz, hs, h1⟩ => by
      unfold seqD at hz
      split at hz
      · cases hz
        obtain ⟨l, vs, rfl, hl, hq⟩ := q1.lst_inv
        exact ⟨l, vs, rfl, .inl hl.sq, fun p hp => k p H1 vs _ b1 R1 e1 hp (by rw [hq.length]; exact hs) hq h1⟩
      · cases hz
        obtain ⟨l, vs, rfl, hl, hq⟩ := q1.tup_inv
        exact ⟨l, vs, rfl, .inr hl.sq, fun p hp => k p H1 vs _ b1 R1 e1 hp (by rw [hq.length]; exact hs) hq h1⟩
      · cases hz⟩
/-- str(x), int(x) -/
theorem d_strC (hg : Gl X "str") (hm : X.mg "str" = none) (ha : PD X F a ta) (he : starEach [a] X.env = (false, eval a X.env) :: starEach [] X.env := by rfl) : PD X F (.Call (.Name "str" p) [a] [] pos) (d1 strD ta) :=
  ⟨PE.weak (pe_oneT (CallR.or SkE.call_str_str call_str_int) hg hm boot_str ha.pe (by decide) (by decide) he) fun σ H Q ⟨Mu, δ, b, Q', R, h, k⟩ =>
    cE.go R h fun v H1 d b1 R1 e1 q1 ⟨z, hz, h1⟩ => by
      unfold strD at hz
      split at hz
      · cases hz; cases q1
        exact .inl ⟨_, rfl, k _ H1 _ b1 R1 e1 (.str _) h1⟩
      · split at hz
        · rename_i hl; cases hz; cases q1
          exact .inr ⟨_, rfl, hl, k _ H1 _ b1 R1 e1 (.str _) h1⟩
        · cases hz
      · cases hz⟩
theorem d_intC (hg : Gl X "int") (hm : X.mg "int" = none) (ha : PD X F a ta) (he : starEach [a] X.env = (false, eval a X.env) :: starEach [] X.env := by rfl) : PD X F (.Call (.Name "int" p) [a] [] pos) (d1 intD ta) :=
  ⟨PE.weak (pe_oneT (CallR.or call_int1 call_int_str) hg hm boot_int ha.pe (by decide) (by decide) he) fun σ H Q ⟨Mu, δ, b, Q', R, h, k⟩ =>
    cE.go R h fun v H1 d b1 R1 e1 q1 ⟨z, hz, h1⟩ => by
      unfold intD at hz
      split at hz
      · cases hz; cases q1
        exact .inl (.inl ⟨_, rfl, k _ H1 _ b1 R1 e1 (.int _) h1⟩)
      · cases hz; cases q1
        exact .inl (.inr ⟨_, rfl, k _ H1 _ b1 R1 e1 (.int _) h1⟩)
      · split at hz
        · rename_i hl
          obtain ⟨n, hn, rfl⟩ := Option.map_eq_some_iff.mp hz
          cases q1
          exact .inr ⟨_, n, rfl, hn, hl, k _ H1 _ b1 R1 e1 (.int _) h1⟩
        · cases hz
      · cases hz⟩
/-- sorted(texts): some order -/
@[simp] def nSortS (t : TAD) : TAD := fun δ b Q => t δ b fun ds b1 => ∃ xs : List Str, ds = xs.map PyData.str ∧ xs.length < 64 ∧ ∀ ys : List Str, ys.Perm xs → sortedS ys = true → Q (ys.map PyData.str) b1
theorem n_sortS (hg : Gl X "sorted") (hm : X.mg "sorted" = none) (ha : PDV X F a tas) (he : starEach [a] X.env = (false, eval a X.env) :: starEach [] X.env := by rfl) : PDN X F (.Call (.Name "sorted" p) [a] [] pos) (nSortS tas) :=
  ⟨PE.weak (pe_one1 cr_sortedS hg hm boot_sorted ha.pe (by decide) (by decide) he) fun σ H Q ⟨Mu, δ, b, Q', R, h, k⟩ =>
    ⟨Mu, δ, b, _, R, h, fun l H1 ds b1 R1 e1 w ⟨xs, eb, h6, h1⟩ => by
      obtain ⟨vs, hl, hq⟩ := w H1 b1 R1 (ExB.refl H1)
      subst eb
      rw [hq.strs] at hl
      exact ⟨l, xs, rfl, hl, h6, fun ys p hp hs hn => k p H1 _ _ b1 R1 e1 hn (by rw [List.length_map, hp.length_eq]; exact small64 h6) (DqAll.ofStrs ys) (h1 ys hp hs)⟩⟩⟩
/-- sep.join(xs) -/
@[simp] def dJoin (tz : TD) (t : TAD) : TD := fun δ b Q => tz δ b fun z b1 => ∃ y, z = .str y ∧ t δ b1 fun ds b2 => ∃ xs : List Str, ds = xs.map PyData.str ∧ (xs.map (·.length)).sum + xs.length * y.length ≤ 16777216 ∧ Q (.str (Txt.join y xs)) b2
theorem d_join {apos : Pos} (hz : PD X F a ta) (ha : PDV X F e tas) (hs : starEach [e] X.env = [(false, eval e X.env)] := by rfl) (hbase : attributeBase a "join" X.env (eval a X.env) = eval a X.env := by rfl) (hline : (apos.endLine == pos.line) = true := by rfl) :
    PD X F (.Call (.Attribute a "join" apos) [e] [] pos) (dJoin ta tas) :=
  ⟨PE.weak (pe_join hz.pe ha.pe hs hbase hline) fun σ H Q ⟨Mu, δ, b, Q', R, h, k⟩ =>
    cE.go R h fun v H1 d b1 R1 e1 q1 ⟨y, ey, h1⟩ => by
      subst ey
      cases q1
      exact ⟨⟨_, rfl⟩, Mu, δ, b1, _, R1, h1, fun l H2 ds b2 R2 e2 w ⟨xs, eb, h6, h2⟩ => by
        obtain ⟨vs, hl, hq⟩ := w H2 b2 R2 (ExB.refl H2)
        subst eb
        rw [hq.strs] at hl
        exact ⟨_, l, xs, rfl, rfl, .inl hl, h6, k _ H2 _ b2 R2 (e1.trans e2) (.str _) h2⟩⟩⟩
/-- text.split(sep) -/
@[simp] def nSplit (tz ts : TD) : TAD := fun δ b Q => tz δ b fun z b1 => ∃ x, z = .str x ∧ ts δ b1 fun s b2 => ∃ y, s = .str y ∧ (y.length == 0) = false ∧ x.length + 2 ≤ sizeLine ∧ (Txt.split x y).length ≤ sizeLine ∧ Q ((Txt.split x y).map PyData.str) b2
theorem n_split {apos : Pos} (hz : PD X F a ta) (ha : PD X F e tb) (hs : starEach [e] X.env = [(false, eval e X.env)] := by rfl) (hbase : attributeBase a "split" X.env (eval a X.env) = eval a X.env := by rfl) (hline : (apos.endLine == pos.line) = true := by rfl) :
    PDN X F (.Call (.Attribute a "split" apos) [e] [] pos) (nSplit ta tb) :=
  ⟨PE.weak (pe_split hz.pe ha.pe hs hbase hline) fun σ H Q ⟨Mu, δ, b, Q', R, h, k⟩ =>
    cE.go R h fun v H1 d b1 R1 e1 q1 ⟨x, ex, h1⟩ => by
      subst ex
      cases q1
      exact ⟨⟨_, rfl⟩, cE.go R1 h1 fun w H2 d2 b2 R2 e2 q2 ⟨y, ey, h3, h4, h5, h6⟩ => by
        subst ey
        cases q2
        exact ⟨_, _, rfl, rfl, h3, h4, fun p hp => k p H2 _ _ b2 R2 (e1.trans e2) hp (by rw [List.length_map]; exact h5) (DqAll.ofStrs _) h6⟩⟩⟩
end
end Wk
/-! enumerate over a tuple. -/
namespace Wk
open L2 RZ PyProof.Rows PySem.Spec PySem
/-- enumerate.__new__ of one thing that begins -/
theorem enum_new1 {v : Value} {o : Obj} {Z : Heap → Prop} (B : Begins v o Z) :
    Meets (Builtin.«enumerate.__new__» ⟨[.type "enumerate", v], []⟩) (fun _ R s => Z s.heap ∧
      R (.ok (.ret (.ref (s.heap.push o).objs.size))) { s with heap := (s.heap.push o).push { cls := .type "enumerate", data := .fields #[.none, .bool false, .ref s.heap.objs.size, rawInt 0, .none, .none] } }) :=
  .of_wp fun prog w A R s z => by
    obtain ⟨zh, zg, zd, zt, zo⟩ := s
    obtain ⟨z1, z2⟩ := z
    have zsub := sub_enumerate
    have zi : ∀ {A2 : Around} {E2 : Value → Shared → Prop} {Q2 : Value → Shared → Prop}, Q2 (.ref zh.objs.size) ⟨zh.push o, zg, zd, zt, zo⟩ → wpAny (model prog w) A2 (pyIter v) Q2 E2 ⟨zh, zg, zd, zt, zo⟩ :=
      fun q => B.iter prog w _ _ ⟨zh, zg, zd, zt, zo⟩ _ z1 q
    wp_walk using zi
    refine wpAny_stack_any fun _ => wpAny_pure ?_
    split
    · rename_i cc _ _ _ _ _
      cases (cc == Value.type "enumerate") <;> (wp_walk using zi; exact ⟨_, rfl, z2⟩)
    · wp_walk using zi
      exact ⟨_, rfl, z2⟩
theorem enum_call1 {prog : Program} {w : World} {A : Around} {E : Value → Shared → Prop} {s : Shared} {v : Value} {o : Obj} {Z : Heap → Prop} {Q : Value → Shared → Prop} (B : Begins v o Z) (z : Z s.heap)
    (k : ∀ g, IsEnum g (s.heap.objs.size + 1) s.heap.objs.size 0 .none → g.get? s.heap.objs.size = some o → (∀ b u, s.heap.get? b = some u → g.get? b = some u) → Q (.ref (s.heap.objs.size + 1)) { s with heap := g }) :
    wpAny (model prog w) A (call (.type "enumerate") [v]) Q E s := by
  refine callType_new F.called_enumerate (by decide) (F.typeCall_enumerate_1 _) (F.newCall_enumerate_1 _) (fun obj => F.args_object_init_2 obj _) F.entry_enumerate_new (enum_new1 B) ⟨z, ?_⟩
  have hz : (s.heap.push o).objs.size = s.heap.objs.size + 1 := Heap.size_push ..; show _ ∧ _
  rw [hz]
  have he := Heap.get?_push_size (s.heap.push o) (o := { cls := .type "enumerate", data := .fields #[.none, .bool false, .ref s.heap.objs.size, rawInt 0, .none, .none] }) rfl
  rw [hz] at he
  exact ⟨⟨_, he, rfl⟩, k _ he (Heap.get?_push_of_some _ (Heap.get?_push_size _ B.free)) fun b u x => Heap.get?_push_of_some _ (Heap.get?_push_of_some _ x)⟩
/-- the tuple at a, each item in a new pair behind its place -/
def Itet (K : PySem.W.Frag) (a : Addr) : It :=
  ⟨fun i H => ∃ (xs : List V) (x : V), SqT K H a xs ∧ xs[i]? = some x, fun i H v H' => ∃ T x, v = .ref T ∧ H T = none ∧ H' = upd H T (.tup [.int (i : Nat), x]) ∧ ∀ xs, SqT K H a xs → xs[i]? = some x, fun i H => ∃ xs : List V, SqT K H a xs ∧ xs.length ≤ i⟩
theorem tup_iter_at {g : Heap} {it a : Addr} {o : Obj} (e : g.get? it = some o) (c : o.cls = .type "tuple_iterator") (d : o.data = .fields #[.ref a, .int 0 0]) : g.IsTupleIter it a 0 := ⟨o, e, c, by rw [d]; rfl⟩
theorem turn_enumT {P : Program} {w : World} {K : PySem.W.Frag} {elts : List Expr} {kk : Nat} {tpos : Pos} (a e it : Addr) (hle : a ≠ e) (hli : a ≠ it) :
    Turn P w K (.Tuple elts kk tpos) (Itet K a) [e, it] e (fun i g => (∃ old, IsEnum g e it ((i : Nat) : Int) old) ∧ g.IsTupleIter it a i ∧ e ≠ it) where
  mem := by simp
  obj := fun i g st b hb => by
    obtain ⟨⟨old, he⟩, ⟨o, ho, hc, hd⟩, _⟩ := st; rcases (show b = e ∨ b = it by simpa using hb) with z | z <;> rw [z]
    · exact ⟨_, he, fun v q => nomatch q⟩
    · exact ⟨o, ho, fun v q => by rw [hd] at q; cases q⟩
  keep := fun i g g' st k => ⟨st.1.imp fun _ z => k e (by simp) _ z, st.2.1.at fun o q => k it (by simp) o q, st.2.2⟩
  item := by
    intro X hP hw hK hc i pins s σ H E I hf st hg; subst hP hw hK
    obtain ⟨⟨old, he⟩, hit, hne⟩ := st; obtain ⟨xs, x, hq, hx⟩ := hg
    obtain ⟨its, rv, p, hz⟩ := I.tuple hq; obtain ⟨u, hu, ru⟩ := rv.get hx
    have hel : e < s.heap.objs.size := Heap.lt_size he; have hil : it < s.heap.objs.size := by obtain ⟨_, q, _⟩ := hit; exact Heap.lt_size q
    have D := Draws.tuple (prog := X.prog) (w := X.w) (A := X.A.in1) (I.ok.hd hc) it a hli its.toArray
    have hin : i < its.toArray.size := by rw [List.size_toArray]; exact (List.getElem?_eq_some_iff.mp hu).1
    refine wpAny_pyNext_enum_itemD D he ⟨hit, p⟩ hin hne (by simp only [List.mem_cons, List.not_mem_nil, or_false, not_or]; exact ⟨hne, fun z => hle z.symm⟩) fun y h' tk hy ho hst hT hsz hk => ?_
    have ey : y = u := by
      have : its[i]? = some y := by simpa using hy
      rw [hu] at this; exact (Option.some.inj this).symm
    subst ey
    refine ⟨_, rfl, wpAny_letOwnedTupleGo_enum (s := { s with heap := h', toks := tk + 1 }) ho fun h'' he' sb => ?_⟩
    have hT2 : h''.get? s.heap.objs.size = some { cls := .type "tuple", data := .seq #[.int i tk, y] } := (sb.2 _ (Nat.ne_of_gt hel)).trans hT
    have laid0 : ObjOk X.prog X.w (upd H s.heap.objs.size (.tup [.int (i : Nat), x])) h'' s.heap.objs.size (.tup [.int (i : Nat), x]) :=
      ⟨by show 2 ≤ sizeLine; decide, [.int i tk, y], .cons ⟨_, rfl⟩ (.cons ru .nil), ⟨_, hT2, rfl, _, rfl⟩⟩
    have I1 : Inv X pins σ (upd H s.heap.objs.size (.tup [.int (i : Nat), x])) { s with heap := h'', toks := tk + 1 } :=
      I.turnedNew (ch := [e, it]) (fun b ob hb q => (sb.2 b (fun z => hb (by simp [z]))).trans (hk b ob (fun z => hb (by simp [z])) (fun z => hb (by simp [z])) q)) hf (Nat.le_refl _) laid0
    refine ⟨.ref s.heap.objs.size, _, I1, rfl, ⟨_, x, rfl, I.hok.fresh (Nat.le_refl _), rfl, fun ys hy => by rw [I.tuple_inj hy hq]; exact hx⟩, ⟨⟨y, ?_⟩, hst.1.at fun o q => (sb.2 it (Ne.symm hne)).trans q, hne⟩, fun b hb => ?_⟩
    · rw [show ((i + 1 : Nat) : Int) = (i : Int) + 1 by omega]
      exact he'
    · have inOld : b < s.heap.objs.size := by
        rcases (show b = e ∨ b = it by simpa using hb) with z | z <;> rw [z]
        · exact hel
        · exact hil
      rw [upd_ne (Nat.ne_of_lt inOld)]
      exact (hf b hb).1
  done := by
    intro X hP hw hK hc i pins s σ H E I hf st hg; subst hP hw hK
    obtain ⟨⟨old, he⟩, hit, hne⟩ := st; obtain ⟨xs, hq, hx⟩ := hg
    obtain ⟨its, rv, p, hz⟩ := I.tuple hq; obtain ⟨f0, f1, f2, f3, f4, f5⟩ := hf it (by simp)
    have hl := rv.length
    unfold pyNext
    refine wpAny_bind (wpAny_attempt (wpAny_callSpecial?_slot (name := Str.ofString "__next__") (⟨_, he, rfl⟩ : s.TypeIs (.ref e) "enumerate") F.slot_enumerate_next (wpAny_call_entry F.slot_enumerate_next ⟨_, he, rfl⟩ F.entry_enumerate_next ?_ (F.args_enumerate_next_1 _))))
    show wpAny _ _ (field (.ref e) 2 >>= _) _ _ _; refine wpAny_bind (wpAny_field he rfl (x := .ref it) rfl ?_)
    refine wpAny_bind (wpAny_nextOf_tuple_end (I.ok.hd hc) hit p (Array.getElem?_eq_none (by rw [List.size_toArray]; omega)) fun h' z hk hx' => ?_)
    obtain ⟨o, ho, hcl⟩ := hx'
    refine wpAny_bind (wpAny_isInstance (T := "StopIteration") (b := true) ⟨o, ho, hcl⟩ isSubtype_stop ?_)
    exact wpAny_pure ⟨rfl, I.turned (t' := s.toks) (fun b o hb q => hk b o hb q) f0 f1 f3 f4 f5⟩
  self := fun A i s Q E st h => (let ⟨⟨_, at0⟩, _⟩ := st; wpAny_pyIter_enum at0 h)
def iEnumT (K : PySem.W.Frag) (ta : TA) : TI := fun σ H R => ta σ H fun vs H1 => ∃ a xs, vs = [.ref a] ∧ SqT K H1 a xs ∧ R (Itet K a) H1
theorem pi_enumT {X : Cx} {e : Expr} {ta : TA} {p pos tpos : Pos} {elts : List Expr} {kk : Nat} (hg : Gl X "enumerate") (hm : X.mg "enumerate" = none) (ha : PA X [e] ta) (hs : starEach [e] X.env = [(false, eval e X.env)] := by rfl) :
    PI X (.Tuple elts kk tpos) (.Call (.Name "enumerate" p) [e] [] pos) (iEnumT X.K ta) := by
  refine ⟨fun pins s σ H R I z => Call_ (ld_blt I hg hm boot_enumerate (PyProof.Rows.callWith_type1 (thn (ha.run pos pins s σ H _ I z) fun us s1 ⟨vs, H1, I1, r1, q1⟩ => ?_) hs rfl))⟩
  obtain ⟨a, xs, ex, hq, q⟩ := q1; subst ex
  cases r1 with
  | cons r rr =>
    cases rr
    cases r
    obtain ⟨its, rv, p', hz⟩ := I1.tuple hq
    refine enum_call1 (begins_tuple a its.toArray) p' fun g he hit hk => wpAny_pyIter_enum he ?_
    have I2 : Inv X pins σ H1 { s1 with heap := g } := I1.kept (t' := s1.toks) hk
    obtain ⟨oa, hoa, _⟩ := id p'
    have hla := Heap.lt_size hoa
    refine ⟨s1.heap.objs.size + 1, [s1.heap.objs.size + 1, s1.heap.objs.size], _, _, H1, rfl, I2, turn_enumT a (s1.heap.objs.size + 1) s1.heap.objs.size (Nat.ne_of_lt (Nat.lt_succ_of_lt hla)) (Nat.ne_of_lt hla), ⟨⟨.none, he⟩, tup_iter_at hit rfl rfl, Nat.succ_ne_self _⟩, fun b hb => ?_, q⟩
    have above1 : s1.heap.objs.size ≤ b := by
      rcases (show b = s1.heap.objs.size + 1 ∨ b = s1.heap.objs.size by simpa using hb) with z | z <;> rw [z]
      · exact Nat.le_add_right _ _
      · exact Nat.le_refl _
    exact I1.fpOk above1 (I1.hok.fresh above1)
theorem walk_enumT {K : PySem.W.Frag} {a : Addr} {xs : List V} : Walk (Itet K a) xs.length (fun H => SqT K H a xs) (YPair (fun i => some (.int (i : Nat))) (fun i => xs[i]?)) :=
  ⟨fun i _ hi q => ⟨xs, xs[i], q, by simp [hi]⟩, fun _ q => ⟨xs, q, Nat.le_refl _⟩, fun i H v H' _ q ⟨T, x, h1, h2, h3, h4⟩ => ⟨T, .int (i : Nat), x, h1, h2, h3, rfl, h4 xs q⟩⟩
theorem walk_zipT {K : PySem.W.Frag} {a b : Addr} {xs ys : List V} {n : Nat} (hn : n = min xs.length ys.length) : Walk (ItzT K a b) n (fun H => SqT K H a xs ∧ SqT K H b ys) (YPair (fun i => xs[i]?) (fun i => ys[i]?)) := by
  subst hn
  refine ⟨fun i _ hi q => ?_, fun _ q => ⟨xs, ys, q.1, q.2, by omega⟩, fun i H v H' _ q ⟨T, x, z, h1, h2, h3, h4, h5⟩ => ⟨T, x, z, h1, h2, h3, h4 xs q.1, h5 ys q.2⟩⟩
  exact ⟨xs, ys, xs[i]'(by omega), ys[i]'(by omega), q.1, q.2, by simp, by simp⟩
end Wk
namespace Wk
open L2 RZ PyProof.Rows PySem.Spec PySem
/-! ### targets -/
inductive Tg where
  | nm (i : Nat)
  | tup (ts : List Tg)
mutual
@[simp] def Tg.put : Tg → PyData → List Sl → Option (List Sl)
  | .nm i, d, δ => some (δ.set i (.dat d))
  | .tup ts, .tuple ds, δ => Tg.puts ts ds δ
  | .tup _, _, _ => none
@[simp] def Tg.puts : List Tg → List PyData → List Sl → Option (List Sl)
  | [], [], δ => some δ
  | t :: ts, d :: ds, δ => (t.put d δ).bind fun δ' => Tg.puts ts ds δ'
  | _, _, _ => none
end
mutual
def Tg.ixs : Tg → List Nat
  | .nm i => [i]
  | .tup ts => Tg.ixss ts
def Tg.ixss : List Tg → List Nat
  | [] => []
  | t :: ts => t.ixs ++ Tg.ixss ts
end
theorem wipe_set {σ : L2.St} {i : Nat} {o : Option V} : ∀ {vs : List Nat}, i ∈ vs → wipe (σ.set i o) vs = wipe σ vs
  | v :: vs, h => by
    show (wipe (σ.set i o) vs).set v none = (wipe σ vs).set v none
    by_cases e : i = v
    · subst e
      by_cases h2 : i ∈ vs
      · rw [wipe_set h2]
      · have : ∀ (ws : List Nat), i ∉ ws → wipe (σ.set i o) ws = (wipe σ ws).set i o := by
          intro ws
          induction ws with
          | nil => intro _; rfl
          | cons w ws ih =>
            intro hn
            simp only [List.mem_cons, not_or] at hn
            show (wipe (σ.set i o) ws).set w none = ((wipe σ ws).set w none).set i o
            rw [ih hn.2, List.set_comm _ _ (fun e => hn.1 e)]
        rw [this vs h2, List.set_set]
    · have h2 : i ∈ vs := by simpa [e] using h
      rw [wipe_set h2]
section
variable {K : PySem.W.Frag} {F : Fm} {Mu Mu' : Addr → Prop} {σ : L2.St} {H H' : Hp} {δ : List Sl} {b : Nat}
/-- a slot takes data -/
theorem Rep.set (R : Rep K F Mu σ H δ b) {i : Nat} {v : V} {d : PyData} (q : Dq K Mu H v d) : Rep K F Mu (σ.set i (some v)) H (δ.set i (.dat d)) b := by
  refine ⟨by simp [R.len], R.ext, R.mu0, R.tr, R.new, fun j s hs => ?_, fun j k ds ds' hn h1 h2 => ?_, R.mach⟩
  · rw [List.getElem?_set] at hs
    by_cases e : i = j
    · subst e
      rw [if_pos rfl] at hs
      split at hs
      · rename_i hl
        cases hs
        exact ⟨v, by rw [List.getElem?_set, if_pos rfl, if_pos (by rw [R.len]; exact hl)], q⟩
      · cases hs
    · rw [if_neg e] at hs
      have := R.sl j s hs
      have e2 : (σ.set i (some v))[j]? = σ[j]? := List.getElem?_set_ne e
      cases s with
      | no => trivial
      | raw w => exact e2.trans this
      | dat d => obtain ⟨w, h1, h2⟩ := this; exact ⟨w, e2.trans h1, h2⟩
      | sta P => obtain ⟨w, h1, h2⟩ := this; exact ⟨w, e2.trans h1, h2⟩
      | own ds => obtain ⟨l, vs, h1, h2⟩ := this; exact ⟨l, vs, e2.trans h1, h2⟩
  · rw [List.getElem?_set] at h1 h2
    have hj : i ≠ j := fun e => by
      rw [if_pos e] at h1
      split at h1 <;> cases h1
    have hk : i ≠ k := fun e => by
      rw [if_pos e] at h2
      split at h2 <;> cases h2
    rw [if_neg hj] at h1
    rw [if_neg hk] at h2
    rw [List.getElem?_set_ne hj, List.getElem?_set_ne hk]
    exact R.own1 j k ds ds' hn h1 h2
/-- .. a value of its own kind -/
theorem Rep.clr (R : Rep K F Mu σ H δ b) {i : Nat} {o : Option V} : Rep K F Mu (σ.set i o) H (δ.set i .no) b := by
  refine ⟨by simp [R.len], R.ext, R.mu0, R.tr, R.new, fun j s hs => ?_, fun j k ds ds' hn h1 h2 => ?_, R.mach⟩
  · rw [List.getElem?_set] at hs
    by_cases e : i = j
    · subst e
      rw [if_pos rfl] at hs
      split at hs <;> cases hs
      trivial
    · rw [if_neg e] at hs
      have := R.sl j s hs
      have e2 : (σ.set i o)[j]? = σ[j]? := List.getElem?_set_ne e
      cases s with
      | no => trivial
      | raw w => exact e2.trans this
      | dat d => obtain ⟨w, h1, h2⟩ := this; exact ⟨w, e2.trans h1, h2⟩
      | sta P => obtain ⟨w, h1, h2⟩ := this; exact ⟨w, e2.trans h1, h2⟩
      | own ds => obtain ⟨l, vs, h1, h2⟩ := this; exact ⟨l, vs, e2.trans h1, h2⟩
  · rw [List.getElem?_set] at h1 h2
    have hj : i ≠ j := fun e => by
      rw [if_pos e] at h1
      split at h1 <;> cases h1
    have hk : i ≠ k := fun e => by
      rw [if_pos e] at h2
      split at h2 <;> cases h2
    rw [if_neg hj] at h1
    rw [if_neg hk] at h2
    rw [List.getElem?_set_ne hj, List.getElem?_set_ne hk]
    exact R.own1 j k ds ds' hn h1 h2
end
def wipeD (δ : List Sl) : List Nat → List Sl
  | [] => δ
  | v :: vs => (wipeD δ vs).set v .no
section
variable {K : PySem.W.Frag} {F : Fm} {Mu Mu' : Addr → Prop} {σ σ2 : L2.St} {H H' : Hp} {δ δ2 : List Sl} {b b' : Nat}
theorem Rep.wipe (R : Rep K F Mu σ H δ b) : ∀ vs : List Nat, Rep K F Mu (L2.wipe σ vs) H (wipeD δ vs) b
  | [] => R
  | v :: vs => (Rep.wipe R vs).clr
theorem wipeD_out {i : Nat} : ∀ {vs : List Nat}, i ∉ vs → (wipeD δ vs)[i]? = δ[i]?
  | [], _ => rfl
  | v :: vs, h => by
    simp only [List.mem_cons, not_or] at h
    show ((wipeD δ vs).set v .no)[i]? = _
    rw [List.getElem?_set_ne (fun e => h.1 e.symm), wipeD_out h.2]
/-- no list of the def's own stands at these places -/
def noOwn (vs : List Nat) (δ : List Sl) : Prop := ∀ i ∈ vs, ∀ ds, δ[i]? ≠ some (.own ds)
/-- behind a block: its own slots as before, the others as the block left them -/
theorem Rep.carry {vs : List Nat} (R : Rep K F Mu σ H δ b) (R2 : Rep K F Mu σ2 H' δ2 b') (e : ExM Mu H H') (h1 : L2.wipe σ2 vs = L2.wipe σ vs) (h2 : wipeD δ2 vs = wipeD δ vs) (hn : noOwn vs δ) : Rep K F Mu σ H' δ b' := by
  have at1 : ∀ i, i ∉ vs → σ2[i]? = σ[i]? := fun i hi => by
    have := congrArg (fun l => l[i]?) h1
    simpa [wipe_out hi] using this
  have at2 : ∀ i, i ∉ vs → δ2[i]? = δ[i]? := fun i hi => by
    have := congrArg (fun l => l[i]?) h2
    simpa [wipeD_out hi] using this
  refine ⟨R.len, R2.ext, R2.mu0, R2.tr, R2.new, fun i s hs => ?_, fun i j ds ds' hij q1 q2 => ?_, R2.mach⟩
  · by_cases hi : i ∈ vs
    · have := R.sl i s hs
      cases s with
      | no => trivial
      | raw w => exact this
      | dat d => obtain ⟨w, z1, z2⟩ := this; exact ⟨w, z1, z2.exM e⟩
      | sta P => obtain ⟨w, z1, z2, z3⟩ := this; exact ⟨w, z1, z2, z2.ex _ _ _ _ z3 e⟩
      | own ds => exact absurd hs (hn i hi ds)
    · have := R2.sl i s ((at2 i hi).trans hs)
      cases s with
      | no => trivial
      | raw w => exact (at1 i hi).symm.trans this
      | dat d => obtain ⟨w, z1, z2⟩ := this; exact ⟨w, (at1 i hi).symm.trans z1, z2⟩
      | sta P => obtain ⟨w, z1, z2⟩ := this; exact ⟨w, (at1 i hi).symm.trans z1, z2⟩
      | own ds => obtain ⟨l, ws, z1, z2⟩ := this; exact ⟨l, ws, (at1 i hi).symm.trans z1, z2⟩
  · exact R.own1 i j ds ds' hij q1 q2
/-- a new address that may change -/
theorem Rep.more (R : Rep K F Mu σ H δ b) {p : Addr} {o : HO} (h : H p = none) : Rep K F (fun a => Mu a ∨ a = p) σ (upd H p o) δ b := by
  have e : ExM Mu H (upd H p o) := ExM.new h
  have mu : ∀ a, (Mu a ∨ a = p) → Mu a ∨ H a = none := fun a z => z.imp id fun z => by rw [z]; exact h
  refine ⟨R.len, fun a u n q => ?_, fun a q => .inl (R.mu0 a q), fun a z => ?_, fun a z => ?_, fun i s hs => ?_, R.own1, fun m q => ?_⟩
  · have := R.ext a u n q
    rw [upd_ne (ne_of_none this h)]; exact this
  · by_cases ea : a = p
    · subst ea; rw [upd_same]; simp
    · rw [upd_ne ea]
      exact R.tr a (z.resolve_right ea)
  · rcases z with z | z
    · exact R.new a z
    · subst z
      cases q : F.H0 a with
      | none => exact .inr rfl
      | some u =>
        by_cases hm : F.m = some a
        · obtain ⟨_, _, _, _, _, w, _⟩ := R.mach a hm
          rw [w] at h; cases h
        · rw [R.ext a u hm q] at h; cases h
  · have := R.sl i s hs
    cases s with
    | no => trivial
    | raw w => exact this
    | dat d => obtain ⟨w, z1, z2⟩ := this; exact ⟨w, z1, (z2.mu mu).exM (fun a u n q => e a u (fun z => n (.inl z)) q)⟩
    | sta P => obtain ⟨w, z1, z2, z3⟩ := this; exact ⟨w, z1, z2, z2.ex _ _ _ _ (z2.mu _ _ _ _ z3 mu) (fun a u n q => e a u (fun z => n (.inl z)) q)⟩
    | own ds =>
      obtain ⟨l, ws, z1, z2, z3, z4, z5⟩ := this
      exact ⟨l, ws, z1, .inl z2, z3, by rw [upd_ne (ne_of_none z4 h)]; exact z4, (z5.mu mu).exM (fun a u n q => e a u (fun z => n (.inl z)) q)⟩
  · obtain ⟨z1, z2⟩ := R.mach m q
    have hmp : m ≠ p := by
      obtain ⟨_, _, _, _, w, _⟩ := z2
      exact ne_of_none w h
    exact ⟨z1, (z2.mu mu).exM (fun a u n q => e a u (fun z => n (.inl z)) q) (upd_ne hmp)⟩
/-- .. changes -/
theorem Rep.chg {p : Addr} (R : Rep K F (fun a => Mu a ∨ a = p) σ H δ b) (hm : ¬ Mu p) (R0 : ∀ a, F.N0 a → Mu a) (hs : ∀ (i : Nat) ds, δ[i]? = some (Sl.own ds) → σ[i]? ≠ some (some (V.ref p))) {o : HO} (h0 : F.H0 p = none) : Rep K F (fun a => Mu a ∨ a = p) σ (upd H p o) δ b := by
  have e : ExM (fun a => Mu a ∨ a = p) H (upd H p o) := ExM.at (.inr rfl)
  refine ⟨R.len, fun a u n q => ?_, R.mu0, fun a z => ?_, R.new, fun i s q => ?_, R.own1, fun m q => ?_⟩
  · rw [upd_ne (fun ea => by rw [ea, h0] at q; cases q)]
    exact R.ext a u n q
  · by_cases ea : a = p
    · subst ea; rw [upd_same]; simp
    · rw [upd_ne ea]; exact R.tr a z
  · have := R.sl i s q
    cases s with
    | no => trivial
    | raw w => exact this
    | dat d => obtain ⟨w, z1, z2⟩ := this; exact ⟨w, z1, z2.exM e⟩
    | sta P => obtain ⟨w, z1, z2, z3⟩ := this; exact ⟨w, z1, z2, z2.ex _ _ _ _ z3 e⟩
    | own ds =>
      obtain ⟨l, ws, z1, z2, z3, z4, z5⟩ := this
      have hl : l ≠ p := fun el => hs i ds q (by rw [z1, el])
      exact ⟨l, ws, z1, z2, z3, by rw [upd_ne hl]; exact z4, z5.exM e⟩
  · obtain ⟨z1, z2⟩ := R.mach m q
    have hmp : m ≠ p := fun em => hm (by rw [← em]; exact R0 m z1)
    exact ⟨z1, z2.exM e (upd_ne hmp)⟩
/-- .. is gone -/
def drp (H : Hp) (p : Addr) : Hp := fun a => if a = p then none else H a
theorem drp_upd {p : Addr} {o : HO} (h : H p = some o) : upd (drp H p) p o = H := by
  funext a
  unfold upd drp
  by_cases e : a = p
  · rw [if_pos e, e, h]
  · rw [if_neg e, if_neg e]
theorem drp_same {p : Addr} : drp H p p = none := by unfold drp; rw [if_pos rfl]
theorem drp_ne {p a : Addr} (h : a ≠ p) : drp H p a = H a := by unfold drp; rw [if_neg h]
theorem SqLM.drp {p a : Addr} {xs : List V} (h : SqLM K (fun a => Mu a ∨ a = p) H a xs) : SqLM K Mu (drp H p) a xs := h.elim (fun ⟨z, n⟩ => .inl ⟨by
  have ne : a ≠ p := fun e => n (.inr e)
  rcases z with z | ⟨o, z⟩
  · exact .inl ((drp_ne ne).trans z)
  · exact .inr ⟨o, (drp_ne ne).trans z⟩, fun q => n (.inl q)⟩) .inr
theorem SqTM.drp {p a : Addr} {xs : List V} (h : SqTM K (fun a => Mu a ∨ a = p) H a xs) : SqTM K Mu (drp H p) a xs := h.elim (fun ⟨z, n⟩ => .inl ⟨by
  have ne : a ≠ p := fun e => n (.inr e)
  rcases z with z | ⟨o, z⟩
  · exact .inl ((drp_ne ne).trans z)
  · exact .inr ⟨o, (drp_ne ne).trans z⟩, fun q => n (.inl q)⟩) .inr
theorem Dq.drp {p : Addr} {v : V} {d : PyData} (h : Dq K (fun a => Mu a ∨ a = p) H v d) : Dq K Mu (Wk.drp H p) v d := Dq.map (fun _ _ z => z.drp) (fun _ _ z => z.drp) d v h
theorem DqAll.drp {p : Addr} {v : List V} {d : List PyData} (h : DqAll K (fun a => Mu a ∨ a = p) H v d) : DqAll K Mu (Wk.drp H p) v d := DqAll.map (fun _ _ z => z.drp) (fun _ _ z => z.drp) d v h
theorem Rep.gone {p : Addr} (R : Rep K F (fun a => Mu a ∨ a = p) σ H δ b) (hm : ¬ Mu p) (R0 : ∀ a, F.N0 a → Mu a) (hs : ∀ (i : Nat) ds, δ[i]? = some (Sl.own ds) → σ[i]? ≠ some (some (V.ref p))) (h0 : F.H0 p = none) : Rep K F Mu σ (Wk.drp H p) δ b := by
  refine ⟨R.len, fun a u n q => ?_, R0, fun a z => ?_, fun a z => R.new a (.inl z), fun i s q => ?_, R.own1, fun m q => ?_⟩
  · rw [drp_ne (fun ea => by rw [ea, h0] at q; cases q)]
    exact R.ext a u n q
  · rw [drp_ne (fun ea => hm (by rw [← ea]; exact z))]
    exact R.tr a (.inl z)
  · have := R.sl i s q
    cases s with
    | no => trivial
    | raw w => exact this
    | dat d => obtain ⟨w, z1, z2⟩ := this; exact ⟨w, z1, z2.drp⟩
    | sta P =>
      obtain ⟨w, z1, z2, z3⟩ := this
      have ed : ExM (fun a => Mu a ∨ a = p) H (Wk.drp H p) := fun a o n q => by rw [drp_ne (fun ea => n (.inr ea))]; exact q
      exact ⟨w, z1, z2, z2.mu _ _ _ _ (z2.ex _ _ _ _ z3 ed) fun a q => .inl (.inl q)⟩
    | own ds =>
      obtain ⟨l, ws, z1, z2, z3, z4, z5⟩ := this
      have hl : l ≠ p := fun el => hs i ds q (by rw [z1, el])
      exact ⟨l, ws, z1, z2.resolve_right hl, z3, (drp_ne hl).trans z4, z5.drp⟩
  · obtain ⟨z1, g, gs, s, a, h1, ⟨vs, h2, h3⟩, h4⟩ := R.mach m q
    have hmp : m ≠ p := fun em => hm (by rw [← em]; exact R0 m z1)
    exact ⟨z1, g, gs, s, a, (drp_ne hmp).trans h1, ⟨vs, h2.drp, h3.drp⟩, h4⟩
end
/-! ### targets, run -/
def cG (K : PySem.W.Frag) (F : Fm) (T : Tg) : TG := fun x σ H Q => ∃ Mu δ b d δ', Rep K F Mu σ H δ b ∧ Dq K Mu H x d ∧ T.put d δ = some δ' ∧
  ∀ σ', Rep K F Mu σ' H δ' b → (∀ vs, (∀ i ∈ T.ixs, i ∈ vs) → L2.wipe σ' vs = L2.wipe σ vs ∧ wipeD δ' vs = wipeD δ vs) → Q σ' H
def cGs (K : PySem.W.Frag) (F : Fm) (T : List Tg) : TGs := fun xs σ H Q => ∃ Mu δ b ds δ', Rep K F Mu σ H δ b ∧ DqAll K Mu H xs ds ∧ Tg.puts T ds δ = some δ' ∧
  ∀ σ', Rep K F Mu σ' H δ' b → (∀ vs, (∀ i ∈ Tg.ixss T, i ∈ vs) → L2.wipe σ' vs = L2.wipe σ vs ∧ wipeD δ' vs = wipeD δ vs) → Q σ' H
theorem wipeD_set {δ : List Sl} {i : Nat} {o : Sl} : ∀ {vs : List Nat}, i ∈ vs → wipeD (δ.set i o) vs = wipeD δ vs
  | v :: vs, h => by
    show (wipeD (δ.set i o) vs).set v .no = (wipeD δ vs).set v .no
    by_cases e : i = v
    · subst e
      by_cases h2 : i ∈ vs
      · rw [wipeD_set h2]
      · have : ∀ (ws : List Nat), i ∉ ws → wipeD (δ.set i o) ws = (wipeD δ ws).set i o := by
          intro ws
          induction ws with
          | nil => intro _; rfl
          | cons w ws ih =>
            intro hn
            simp only [List.mem_cons, not_or] at hn
            show (wipeD (δ.set i o) ws).set w .no = ((wipeD δ ws).set w .no).set i o
            rw [ih hn.2, List.set_comm _ _ (fun e => hn.1 e)]
        rw [this vs h2, List.set_set]
    · have h2 : i ∈ vs := by simpa [e] using h
      rw [wipeD_set h2]
structure PGD (X : Cx) (F : Fm) (e : Expr) (T : Tg) : Prop where
  pg : PG X e (cG X.K F T)
structure PGsD (X : Cx) (F : Fm) (e : List Expr) (T : List Tg) : Prop where
  pg : PGs X e (cGs X.K F T)
theorem PG.weak {X : Cx} {e : Expr} {t t' : TG} (h : PG X e t) (k : ∀ v σ H Q, t' v σ H Q → t v σ H Q) : PG X e t' := ⟨fun pins s σ H v u Q I r q => h.run pins s σ H v u Q I r (k v σ H Q q)⟩
theorem PGs.weak {X : Cx} {e : List Expr} {t t' : TGs} (h : PGs X e t) (k : ∀ v σ H Q, t' v σ H Q → t v σ H Q) : PGs X e t' := ⟨fun pins s σ H v u Q I r q => h.run pins s σ H v u Q I r (k v σ H Q q)⟩
section
variable {X : Cx} {F : Fm} {pos : Pos}
theorem g_nm (i : Nat) {x : Str} (hN : X.N.Nodup) (hi : X.N[i]? = some x := by rfl) (hx : Loc X.env.scope x := by first | exact Or.inl rfl | exact Or.inr rfl) (hf : X.fn x = true ∨ X.env.scope.names.lookup x = some .local := by first | exact .inl rfl | exact .inr rfl) : PGD X F (.Name x pos) (.nm i) :=
  ⟨PG.weak (pg_name hN hi hx hf) fun v σ H Q ⟨Mu, δ, b, d, δ', R, q, e, k⟩ => by
    cases e
    exact k _ (R.set q) fun vs hv => ⟨wipe_set (hv i (by simp [Tg.ixs])), wipeD_set (hv i (by simp [Tg.ixs]))⟩⟩
theorem g_nil : PGsD X F [] [] := ⟨PGs.weak pgs_nil fun v σ H Q ⟨Mu, δ, b, d, δ', R, q, e, k⟩ => by
    cases q with
    | nil => cases e; exact ⟨rfl, k σ R fun vs _ => ⟨rfl, rfl⟩⟩
    | cons _ _ => cases e⟩
theorem g_cons {e : Expr} {es : List Expr} {t : Tg} {ts : List Tg} (h : PGD X F e t) (h' : PGsD X F es ts) (hs : (assignEach (e :: es) X.env).map (·.2) = assign e X.env :: (assignEach es X.env).map (·.2) := by rfl) : PGsD X F (e :: es) (t :: ts) :=
  ⟨PGs.weak (pgs_cons h.pg h'.pg hs) fun v σ H Q ⟨Mu, δ, b, ds, δ', R, q, e, k⟩ => by
    cases q with
    | nil => cases e
    | cons q1 q2 =>
      obtain ⟨δ1, e1, e2⟩ := Option.bind_eq_some_iff.mp (show ((t.put _ δ).bind fun δ' => Tg.puts ts _ δ') = some δ' from e)
      refine ⟨_, _, rfl, Mu, δ, b, _, δ1, R, q1, e1, fun σ1 R1 w1 => ⟨Mu, δ1, b, _, δ', R1, q2, e2, fun σ2 R2 w2 => k σ2 R2 fun vs hv => ?_⟩⟩
      have h1 := w1 vs fun i hi => hv i (by rw [Tg.ixss]; exact List.mem_append_left _ hi)
      have h2 := w2 vs fun i hi => hv i (by rw [Tg.ixss]; exact List.mem_append_right _ hi)
      exact ⟨h2.1.trans h1.1, h2.2.trans h1.2⟩⟩
theorem put_len : ∀ {ts : List Tg} {ds : List PyData} {δ δ' : List Sl}, Tg.puts ts ds δ = some δ' → ds.length = ts.length
  | [], [], _, _, _ => rfl
  | t :: ts, d :: ds, _, _, e => by
    obtain ⟨δ1, _, e2⟩ := Option.bind_eq_some_iff.mp (show ((t.put d _).bind fun δ' => Tg.puts ts ds δ') = some _ from e)
    simp [put_len e2]
  | [], _ :: _, _, _, e => by cases e
  | _ :: _, [], _, _, e => by cases e
theorem g_tup {es : List Expr} {k : Nat} {ts : List Tg} (hc : X.calm = true) (h : PGsD X F es ts) (hn : (assignEach es X.env).length = ts.length := by rfl) (hst : (assignEach es X.env).findIdx? (·.1) = none := by rfl) : PGD X F (.Tuple es k pos) (.tup ts) :=
  ⟨PG.weak (pg_tup (n := ts.length) hc h.pg hn hst) fun v σ H Q ⟨Mu, δ, b, d, δ', R, q, e, k⟩ => by
    cases d with
    | tuple ds =>
      obtain ⟨a, xs, rfl, ha, qa⟩ := q.tup_inv
      exact ⟨a, xs, rfl, ha.sq, by rw [qa.length, put_len e], Mu, δ, b, ds, δ', R, qa, e, fun σ' R' w => k σ' R' w⟩
    | _ => cases e⟩
end
end Wk
namespace Wk
open L2 RZ PyProof.Rows PySem.Spec PySem
/-! ### what is walked -/
structure Wlk (K : PySem.W.Frag) (J : It) (G : (Addr → Prop) → Hp → Prop) (ds : List PyData) : Prop where
  ex : ∀ Mu H H', G Mu H → ExM Mu H H' → G Mu H'
  mu : ∀ Mu Mu' H, G Mu H → (∀ a, Mu' a → Mu a ∨ H a = none) → G Mu' H
  go : ∀ Mu H i, G Mu H → i < ds.length → J.go i H
  stop : ∀ Mu H, G Mu H → J.stop ds.length H
  yld : ∀ Mu H i x H', G Mu H → (∀ a, Mu a → H a ≠ none) → i < ds.length → J.yld i H x H' → (∀ a o, H a = some o → H' a = some o) ∧ ∃ d, ds[i]? = some d ∧ Dq K Mu H' x d
def cI (K : PySem.W.Frag) (F : Fm) (t : TAD) : TI := fun σ H R => ∃ Mu δ b Q', Rep K F Mu σ H δ b ∧ t δ b Q' ∧ ∀ J H' ds G b', Rep K F Mu σ H' δ b' → ExB F Mu H H' → G Mu H' → Wlk K J G ds → Q' ds b' → R J H'
structure PID (X : Cx) (F : Fm) (tg e : Expr) (t : TAD) : Prop where
  pi : PI X tg e (cI X.K F t)
theorem PI.weak {X : Cx} {tg e : Expr} {t t' : TI} (h : PI X tg e t) (k : ∀ σ H R, t' σ H R → t σ H R) : PI X tg e t' := ⟨fun pins s σ H R I q => h.run pins s σ H R I (k σ H R q)⟩
theorem PI.or {X : Cx} {tg e : Expr} {t t' : TI} (h : PI X tg e t) (h' : PI X tg e t') : PI X tg e (fun σ H R => t σ H R ∨ t' σ H R) := ⟨fun pins s σ H R I q => q.elim (h.run pins s σ H R I) (h'.run pins s σ H R I)⟩
def enumD : Nat → List PyData → List PyData
  | _, [] => []
  | n, d :: ds => .tuple [.int n, d] :: enumD (n + 1) ds
theorem enumD_len : ∀ (ds : List PyData) (n : Nat), (enumD n ds).length = ds.length
  | [], _ => rfl
  | d :: ds, n => by simp [enumD, enumD_len ds]
theorem enumD_get : ∀ (ds : List PyData) (n i : Nat) (d : PyData), ds[i]? = some d → (enumD n ds)[i]? = some (.tuple [.int ((n + i : Nat) : Int), d])
  | d :: ds, n, 0, e, h => by simp at h; subst h; simp [enumD]
  | d :: ds, n, i + 1, e, h => by
    have := enumD_get ds (n + 1) i e (by simpa using h)
    rw [show (n + 1 + i) = n + (i + 1) by omega] at this
    simpa [enumD] using this
def zipD : List PyData → List PyData → List PyData
  | x :: xs, y :: ys => .tuple [x, y] :: zipD xs ys
  | _, _ => []
theorem zipD_len : ∀ xs ys : List PyData, (zipD xs ys).length = min xs.length ys.length
  | [], _ => by simp [zipD]
  | _ :: _, [] => by simp [zipD]
  | x :: xs, y :: ys => by simp [zipD, zipD_len xs ys]
theorem zipD_get : ∀ (xs ys : List PyData) (i : Nat) (x y : PyData), xs[i]? = some x → ys[i]? = some y → (zipD xs ys)[i]? = some (.tuple [x, y])
  | x :: xs, y :: ys, 0, a, b, h, h' => by simp at h h'; subst h h'; simp [zipD]
  | x :: xs, y :: ys, i + 1, a, b, h, h' => by simpa [zipD] using zipD_get xs ys i a b (by simpa using h) (by simpa using h')
  | [], _, _, _, _, q, _ => by simp at q
  | _ :: _, [], _, _, _, _, q => by simp at q
def rangeD (lo : Int) (n : Nat) : List PyData := (List.range n).map fun i => .int (lo + (i : Nat))
def charsD (z : Str) : List PyData := z.cps.toList.map fun c => .str ⟨#[c]⟩
section
variable {K : PySem.W.Frag} {Mu : Addr → Prop} {H : Hp} {a b : Addr} {xs ys : List V} {ds es : List PyData}
theorem lt_get {α β : Type} {xs : List α} {ys : List β} (h : xs.length = ys.length) {i : Nat} (hi : i < ys.length) : ∃ x, xs[i]? = some x := ⟨xs[i]'(by omega), List.getElem?_eq_getElem _⟩
theorem wlk_lst : Wlk K (Itl K a) (fun Mu H => SqLM K Mu H a xs ∧ DqAll K Mu H xs ds) ds where
  ex := fun Mu H H' g e => ⟨g.1.exM e, g.2.exM e⟩
  mu := fun Mu Mu' H g e => ⟨g.1.mu e, g.2.mu e⟩
  go := fun Mu H i g hi => walk_list.goes i H (by rw [g.2.length]; exact hi) g.1.sq
  stop := fun Mu H g => by rw [← g.2.length]; exact walk_list.stops H g.1.sq
  yld := fun Mu H i x H' g _ hi y => by
    obtain ⟨rfl, hx⟩ := walk_list.yields i H x H' (by rw [g.2.length]; exact hi) g.1.sq y
    obtain ⟨d, h1, h2⟩ := g.2.getV hx
    exact ⟨fun _ _ e => e, d, h1, h2⟩
theorem wlk_tup : Wlk K (Itt K a) (fun Mu H => SqTM K Mu H a xs ∧ DqAll K Mu H xs ds) ds where
  ex := fun Mu H H' g e => ⟨g.1.exM e, g.2.exM e⟩
  mu := fun Mu Mu' H g e => ⟨g.1.mu e, g.2.mu e⟩
  go := fun Mu H i g hi => walk_tup.goes i H (by rw [g.2.length]; exact hi) g.1.sq
  stop := fun Mu H g => by rw [← g.2.length]; exact walk_tup.stops H g.1.sq
  yld := fun Mu H i x H' g _ hi y => by
    obtain ⟨rfl, hx⟩ := walk_tup.yields i H x H' (by rw [g.2.length]; exact hi) g.1.sq y
    obtain ⟨d, h1, h2⟩ := g.2.getV hx
    exact ⟨fun _ _ e => e, d, h1, h2⟩
theorem wlk_rng {lo : Int} {n : Nat} : Wlk K (Itr lo n) (fun _ _ => True) (rangeD lo n) where
  ex := fun _ _ _ _ _ => trivial
  mu := fun _ _ _ _ _ => trivial
  go := fun Mu H i _ hi => by
    have h : i < n := by simpa [rangeD] using hi
    exact h
  stop := fun Mu H _ => by simp [rangeD, Itr]
  yld := fun Mu H i x H' _ _ hi y => by
    obtain ⟨rfl, rfl⟩ := y
    exact ⟨fun _ _ e => e, .int (lo + i), by simp [rangeD] at hi ⊢; exact ⟨i, by simp [hi], rfl⟩, .int _⟩
theorem wlk_str {z : Str} : Wlk K (Its z) (fun _ _ => True) (charsD z) where
  ex := fun _ _ _ _ _ => trivial
  mu := fun _ _ _ _ _ => trivial
  go := fun Mu H i _ hi => walk_str.goes i H (by simpa [charsD] using hi) trivial
  stop := fun Mu H _ => by
    have := (walk_str (z := z)).stops H trivial
    simpa [charsD] using this
  yld := fun Mu H i x H' _ _ hi y => by
    obtain ⟨rfl, c, hc, rfl⟩ := walk_str.yields i H x H' (by simpa [charsD] using hi) trivial y
    exact ⟨fun _ _ e => e, .str ⟨#[c]⟩, by simp [charsD, hc], .str _⟩
theorem pair_go {Mu : Addr → Prop} {H H' : Hp} {v x y : V} {dx dy : PyData} {T : Addr} (tr : ∀ a, Mu a → H a ≠ none) (ev : v = .ref T) (hT : H T = none) (eH : H' = upd H T (.tup [x, y])) (qx : Dq K Mu H x dx) (qy : Dq K Mu H y dy) :
    (∀ a o, H a = some o → H' a = some o) ∧ Dq K Mu H' v (.tuple [dx, dy]) := by
  subst ev eH
  have e := ExM.new (Mu := Mu) (o := HO.tup [x, y]) hT
  exact ⟨fun a o q => by rw [upd_ne (ne_of_none q hT)]; exact q, .tup (.of upd_same fun z => tr T z hT) (.cons (qx.exM e) (.cons (qy.exM e) .nil))⟩
theorem wlk_zipL : Wlk K (Itz K a b) (fun Mu H => (SqLM K Mu H a xs ∧ DqAll K Mu H xs ds) ∧ SqLM K Mu H b ys ∧ DqAll K Mu H ys es) (zipD ds es) where
  ex := fun Mu H H' g e => ⟨⟨g.1.1.exM e, g.1.2.exM e⟩, g.2.1.exM e, g.2.2.exM e⟩
  mu := fun Mu Mu' H g e => ⟨⟨g.1.1.mu e, g.1.2.mu e⟩, g.2.1.mu e, g.2.2.mu e⟩
  go := fun Mu H i g hi => (walk_zip rfl).goes i H (by rw [g.1.2.length, g.2.2.length, ← zipD_len]; exact hi) ⟨g.1.1.sq, g.2.1.sq⟩
  stop := fun Mu H g => by
    have := (walk_zip rfl).stops H ⟨g.1.1.sq, g.2.1.sq⟩
    rw [g.1.2.length, g.2.2.length, ← zipD_len] at this
    exact this
  yld := fun Mu H i x H' g tr hi y => by
    obtain ⟨T, u, v, e1, e2, e3, h1, h2⟩ := (walk_zip rfl).yields i H x H' (by rw [g.1.2.length, g.2.2.length, ← zipD_len]; exact hi) ⟨g.1.1.sq, g.2.1.sq⟩ y
    obtain ⟨d1, k1, q1⟩ := g.1.2.getV h1
    obtain ⟨d2, k2, q2⟩ := g.2.2.getV h2
    obtain ⟨w1, w2⟩ := pair_go tr e1 e2 e3 q1 q2
    exact ⟨w1, _, zipD_get _ _ _ _ _ k1 k2, w2⟩
theorem wlk_zipT : Wlk K (ItzT K a b) (fun Mu H => (SqTM K Mu H a xs ∧ DqAll K Mu H xs ds) ∧ SqTM K Mu H b ys ∧ DqAll K Mu H ys es) (zipD ds es) where
  ex := fun Mu H H' g e => ⟨⟨g.1.1.exM e, g.1.2.exM e⟩, g.2.1.exM e, g.2.2.exM e⟩
  mu := fun Mu Mu' H g e => ⟨⟨g.1.1.mu e, g.1.2.mu e⟩, g.2.1.mu e, g.2.2.mu e⟩
  go := fun Mu H i g hi => (walk_zipT rfl).goes i H (by rw [g.1.2.length, g.2.2.length, ← zipD_len]; exact hi) ⟨g.1.1.sq, g.2.1.sq⟩
  stop := fun Mu H g => by
    have := (walk_zipT rfl).stops H ⟨g.1.1.sq, g.2.1.sq⟩
    rw [g.1.2.length, g.2.2.length, ← zipD_len] at this
    exact this
  yld := fun Mu H i x H' g tr hi y => by
    obtain ⟨T, u, v, e1, e2, e3, h1, h2⟩ := (walk_zipT rfl).yields i H x H' (by rw [g.1.2.length, g.2.2.length, ← zipD_len]; exact hi) ⟨g.1.1.sq, g.2.1.sq⟩ y
    obtain ⟨d1, k1, q1⟩ := g.1.2.getV h1
    obtain ⟨d2, k2, q2⟩ := g.2.2.getV h2
    obtain ⟨w1, w2⟩ := pair_go tr e1 e2 e3 q1 q2
    exact ⟨w1, _, zipD_get _ _ _ _ _ k1 k2, w2⟩
theorem wlk_enumL : Wlk K (Ite K a) (fun Mu H => SqLM K Mu H a xs ∧ DqAll K Mu H xs ds) (enumD 0 ds) where
  ex := fun Mu H H' g e => ⟨g.1.exM e, g.2.exM e⟩
  mu := fun Mu Mu' H g e => ⟨g.1.mu e, g.2.mu e⟩
  go := fun Mu H i g hi => walk_enum.goes i H (by rw [g.2.length, ← enumD_len]; exact hi) g.1.sq
  stop := fun Mu H g => by rw [enumD_len, ← g.2.length]; exact walk_enum.stops H g.1.sq
  yld := fun Mu H i x H' g tr hi y => by
    obtain ⟨T, u, v, e1, e2, e3, h1, h2⟩ := walk_enum.yields i H x H' (by rw [g.2.length, ← enumD_len]; exact hi) g.1.sq y
    cases h1
    obtain ⟨d2, k2, q2⟩ := g.2.getV h2
    obtain ⟨w1, w2⟩ := pair_go tr e1 e2 e3 (.int _) q2
    exact ⟨w1, _, by rw [enumD_get _ 0 i d2 k2, Nat.zero_add], w2⟩
theorem wlk_enumT : Wlk K (Itet K a) (fun Mu H => SqTM K Mu H a xs ∧ DqAll K Mu H xs ds) (enumD 0 ds) where
  ex := fun Mu H H' g e => ⟨g.1.exM e, g.2.exM e⟩
  mu := fun Mu Mu' H g e => ⟨g.1.mu e, g.2.mu e⟩
  go := fun Mu H i g hi => walk_enumT.goes i H (by rw [g.2.length, ← enumD_len]; exact hi) g.1.sq
  stop := fun Mu H g => by rw [enumD_len, ← g.2.length]; exact walk_enumT.stops H g.1.sq
  yld := fun Mu H i x H' g tr hi y => by
    obtain ⟨T, u, v, e1, e2, e3, h1, h2⟩ := walk_enumT.yields i H x H' (by rw [g.2.length, ← enumD_len]; exact hi) g.1.sq y
    cases h1
    obtain ⟨d2, k2, q2⟩ := g.2.getV h2
    obtain ⟨w1, w2⟩ := pair_go tr e1 e2 e3 (.int _) q2
    exact ⟨w1, _, by rw [enumD_get _ 0 i d2 k2, Nat.zero_add], w2⟩
end
section
variable {X : Cx} {F : Fm} {tg e e2 : Expr} {ta tb : TD} {tas : TAD} {p pos tpos : Pos} {elts : List Expr} {kk : Nat}
@[simp] def iL (t : TD) : TAD := fun δ b Q => t δ b fun d b1 => ∃ ds, d = .list ds ∧ Q ds b1
@[simp] def iT (t : TD) : TAD := fun δ b Q => t δ b fun d b1 => ∃ ds, d = .tuple ds ∧ Q ds b1
@[simp] def iS (t : TD) : TAD := fun δ b Q => t δ b fun d b1 => ∃ z, d = .str z ∧ Q (charsD z) b1
theorem i_lst (h : PD X F e ta) : PID X F tg e (iL ta) := ⟨PI.weak (pi_list h.pe) fun σ H R ⟨Mu, δ, b, Q', R0, h, k⟩ => cE.go R0 h fun v H1 d b1 R1 e1 q1 ⟨ds, ed, h1⟩ => by
    subst ed
    obtain ⟨a, vs, rfl, ha, qa⟩ := q1.lst_inv
    exact ⟨a, rfl, ⟨vs, ha.sq⟩, k _ H1 ds _ b1 R1 e1 ⟨ha, qa⟩ wlk_lst h1⟩⟩
theorem i_tup (h : PD X F e ta) : PID X F tg e (iT ta) := ⟨PI.weak (pi_tup h.pe) fun σ H R ⟨Mu, δ, b, Q', R0, h, k⟩ => cE.go R0 h fun v H1 d b1 R1 e1 q1 ⟨ds, ed, h1⟩ => by
    subst ed
    obtain ⟨a, vs, rfl, ha, qa⟩ := q1.tup_inv
    exact ⟨a, rfl, ⟨vs, ha.sq⟩, k _ H1 ds _ b1 R1 e1 ⟨ha, qa⟩ wlk_tup h1⟩⟩
theorem i_str (h : PD X F e ta) : PID X F tg e (iS ta) := ⟨PI.weak (pi_str h.pe) fun σ H R ⟨Mu, δ, b, Q', R0, h, k⟩ => cE.go R0 h fun v H1 d b1 R1 e1 q1 ⟨z, ed, h1⟩ => by
    subst ed
    cases q1
    exact ⟨z, rfl, k _ H1 _ (fun _ _ => True) b1 R1 e1 trivial wlk_str h1⟩⟩
@[simp] def iR1 (t : TD) : TAD := fun δ b Q => t δ b fun d b1 => ∃ j : Int, d = .int j ∧ -(2 ^ 62) ≤ j ∧ j < 2 ^ 62 ∧ Q (rangeD 0 j.toNat) b1
@[simp] def iR2 (t u : TD) : TAD := fun δ b Q => t δ b fun d b1 => u δ b1 fun d' b2 => ∃ i j : Int, d = .int i ∧ d' = .int j ∧ (-(2 ^ 62) ≤ i ∧ i < 2 ^ 62 ∧ -(2 ^ 62) ≤ j ∧ j < 2 ^ 62) ∧ Q (rangeD i (j - i).toNat) b2
theorem i_range1 (hg : Gl X "range") (hm : X.mg "range" = none) (h : PD X F e ta) (hs : starEach [e] X.env = (false, eval e X.env) :: starEach [] X.env := by rfl) : PID X F tg (.Call (.Name "range" p) [e] [] pos) (iR1 ta) :=
  ⟨PI.weak (pi_range1 hg hm (pa_cons h.pe pa_nil hs) hs) fun σ H R ⟨Mu, δ, b, Q', R0, h, k⟩ => cE.go R0 h fun v H1 d b1 R1 e1 q1 ⟨j, ed, h1, h2, h3⟩ => by
    subst ed
    cases q1
    exact ⟨j, rfl, h1, h2, k _ H1 _ (fun _ _ => True) b1 R1 e1 trivial wlk_rng h3⟩⟩
theorem i_range2 (hg : Gl X "range") (hm : X.mg "range" = none) (h : PD X F e ta) (h' : PD X F e2 tb) (hs : starEach [e, e2] X.env = (false, eval e X.env) :: starEach [e2] X.env := by rfl) (hs2 : starEach [e2] X.env = (false, eval e2 X.env) :: starEach [] X.env := by rfl)
    (hs3 : starEach [e, e2] X.env = [(false, eval e X.env), (false, eval e2 X.env)] := by rfl) : PID X F tg (.Call (.Name "range" p) [e, e2] [] pos) (iR2 ta tb) :=
  ⟨PI.weak (pi_range2 hg hm (pa_cons h.pe (pa_cons h'.pe pa_nil hs2) hs) hs3 hs2) fun σ H R ⟨Mu, δ, b, Q', R0, h, k⟩ => cE.go R0 h fun v H1 d b1 R1 e1 q1 h1 => cE.go R1 h1 fun v2 H2 d2 b2 R2 e2 q2 ⟨i, j, ed, ed2, h2, h3⟩ => by
    subst ed ed2
    cases q1; cases q2
    exact ⟨i, j, rfl, h2, k _ H2 _ (fun _ _ => True) b2 R2 (e1.trans e2) trivial wlk_rng h3⟩⟩
@[simp] def iZ (t u : TD) : TAD := fun δ b Q => t δ b fun d b1 => u δ b1 fun d' b2 => ∃ ds es, ((d = .list ds ∧ d' = .list es) ∨ (d = .tuple ds ∧ d' = .tuple es)) ∧ Q (zipD ds es) b2
theorem i_zip (hg : Gl X "zip") (hm : X.mg "zip" = none) (h : PD X F e ta) (h' : PD X F e2 tb) (hs : starEach [e, e2] X.env = (false, eval e X.env) :: starEach [e2] X.env := by rfl) (hs2 : starEach [e2] X.env = (false, eval e2 X.env) :: starEach [] X.env := by rfl)
    (hpl : (backTo pos (starEach [e2] X.env)).any (·.1) = false := by rfl) : PID X F (.Tuple elts kk tpos) (.Call (.Name "zip" p) [e, e2] [] pos) (iZ ta tb) :=
  ⟨PI.weak (pi_zipA hg hm (pa_cons h.pe (pa_cons h'.pe pa_nil hs2) hs) hs hpl) fun σ H R ⟨Mu, δ, b, Q', R0, h, k⟩ => cE.go R0 h fun v H1 d b1 R1 e1 q1 h1 => cE.go R1 h1 fun v2 H2 d2 b2 R2 e2 q2 ⟨ds, es, ed, h3⟩ => by
    rcases ed with ⟨ed, ed2⟩ | ⟨ed, ed2⟩
    · subst ed ed2
      obtain ⟨a, vs, rfl, ha, qa⟩ := (q1.ex e2).lst_inv
      obtain ⟨c, ws, rfl, hc, qc⟩ := q2.lst_inv
      exact ⟨a, c, vs, ws, rfl, .inl ⟨ha.sq, hc.sq, k _ H2 _ _ b2 R2 (e1.trans e2) ⟨⟨ha, qa⟩, hc, qc⟩ wlk_zipL h3⟩⟩
    · subst ed ed2
      obtain ⟨a, vs, rfl, ha, qa⟩ := (q1.ex e2).tup_inv
      obtain ⟨c, ws, rfl, hc, qc⟩ := q2.tup_inv
      exact ⟨a, c, vs, ws, rfl, .inr ⟨ha.sq, hc.sq, k _ H2 _ _ b2 R2 (e1.trans e2) ⟨⟨ha, qa⟩, hc, qc⟩ wlk_zipT h3⟩⟩⟩
@[simp] def iEL (t : TD) : TAD := fun δ b Q => t δ b fun d b1 => ∃ ds, d = .list ds ∧ Q (enumD 0 ds) b1
@[simp] def iET (t : TD) : TAD := fun δ b Q => t δ b fun d b1 => ∃ ds, d = .tuple ds ∧ Q (enumD 0 ds) b1
theorem i_enumL (hg : Gl X "enumerate") (hm : X.mg "enumerate" = none) (h : PD X F e ta) (hs : starEach [e] X.env = (false, eval e X.env) :: starEach [] X.env := by rfl) : PID X F (.Tuple elts kk tpos) (.Call (.Name "enumerate" p) [e] [] pos) (iEL ta) :=
  ⟨PI.weak (pi_enum hg hm (pa_cons h.pe pa_nil hs) hs) fun σ H R ⟨Mu, δ, b, Q', R0, h, k⟩ => cE.go R0 h fun v H1 d b1 R1 e1 q1 ⟨ds, ed, h1⟩ => by
    subst ed
    obtain ⟨a, vs, rfl, ha, qa⟩ := q1.lst_inv
    exact ⟨a, vs, rfl, ha.sq, k _ H1 _ _ b1 R1 e1 ⟨ha, qa⟩ wlk_enumL h1⟩⟩
theorem i_enumT (hg : Gl X "enumerate") (hm : X.mg "enumerate" = none) (h : PD X F e ta) (hs : starEach [e] X.env = (false, eval e X.env) :: starEach [] X.env := by rfl) : PID X F (.Tuple elts kk tpos) (.Call (.Name "enumerate" p) [e] [] pos) (iET ta) :=
  ⟨PI.weak (pi_enumT hg hm (pa_cons h.pe pa_nil hs) hs) fun σ H R ⟨Mu, δ, b, Q', R0, h, k⟩ => cE.go R0 h fun v H1 d b1 R1 e1 q1 ⟨ds, ed, h1⟩ => by
    subst ed
    obtain ⟨a, vs, rfl, ha, qa⟩ := q1.tup_inv
    exact ⟨a, vs, rfl, ha.sq, k _ H1 _ _ b1 R1 e1 ⟨ha, qa⟩ wlk_enumT h1⟩⟩
end
/-! ### a clause's tests -/
structure PTsD (X : Cx) (F : Fm) (ifs : List Expr) (t : TTD) : Prop where
  pt : PTs X ifs (cT X.K F t)
theorem PTs.weak {X : Cx} {e : List Expr} {te te' : TT} (h : PTs X e te) (k : ∀ σ H Q, te' σ H Q → te σ H Q) : PTs X e te' := ⟨fun pins s σ H Q I q => h.run pins s σ H Q I (k σ H Q q)⟩
@[simp] def dYes : TTD := fun _ b Q => Q true b
theorem ts_nil {X : Cx} {F : Fm} : PTsD X F [] dYes := ⟨PTs.weak pts_nil fun σ H Q ⟨Mu, δ, b, Q', R, h, k⟩ => k true H b R (ExB.refl H) h⟩
theorem ts_one {X : Cx} {F : Fm} {c : Expr} {t : TTD} (h : PDT X F c t) : PTsD X F [c] t := ⟨pts_one h.pt⟩
/-! ### comprehensions -/
def lcGo (T : Tg) (tt : TTD) (te : TD) (δ : List Sl) : List PyData → List PyData → Nat → (List PyData → Nat → Prop) → Prop
  | [], acc, b, Q => Q acc b
  | d :: ds, acc, b, Q => ∃ δ', T.put d δ = some δ' ∧ tt δ' b fun c b2 => if c = true then te δ' b2 fun z b3 => lcGo T tt te δ ds (acc ++ [z]) b3 Q else lcGo T tt te δ ds acc b2 Q
@[simp] def nLc (src : TAD) (T : Tg) (tt : TTD) (te : TD) (vs : List Nat) : TAD := fun δ b Q => noOwn vs δ ∧ src δ b fun ds b1 => ds.length ≤ sizeLine ∧ lcGo T tt te (wipeD δ vs) ds [] b1 Q
theorem lc_go {K : PySem.W.Frag} {F : Fm} {src : TAD} {T : Tg} {tt : TTD} {te : TD} {ws : List Nat} (hT : ∀ i ∈ T.ixs, i ∈ ws) {σ : L2.St} {H : Hp} {Q : VK} : cN K F (nLc src T tt te ws) σ H Q → tLc (cI K F src) (cG K F T) (cT K F tt) (cE K F te) ws σ H Q := by
  rintro ⟨Mu, δ, b, Q', R, ⟨hno, h⟩, k⟩
  refine ⟨Mu, δ, b, _, R, h, fun J H1 ds G b1 R1 e1 g1 wk ⟨hz, h1⟩ D hD => ?_⟩
  have nD : ¬ Mu D := R1.nmu hD
  have R0 := R1.mu0
  have hs0 : ∀ (i : Nat) ds, δ[i]? = some (Sl.own ds) → σ[i]? ≠ some (some (V.ref D)) := fun i ds q z => by
    obtain ⟨l, ws, z1, _, _, z4, _⟩ := R1.sl i _ q
    rw [z1] at z
    cases z
    rw [hD] at z4; cases z4
  have h0 : F.H0 D = none := by
    cases q : F.H0 D with
    | none => rfl
    | some u =>
      by_cases hm : F.m = some D
      · obtain ⟨_, _, _, _, _, w, _⟩ := R1.mach D hm
        rw [w] at hD; cases hD
      · rw [R1.ext D u hm q] at hD; cases hD
  have hmD : F.m ≠ some D := fun hm => by
    obtain ⟨_, _, _, _, _, w, _⟩ := R1.mach D hm
    rw [w] at hD; cases hD
  let M2 : Addr → Prop := fun a => Mu a ∨ a = D
  let Wi : Nat → Nat → Hp → Prop := fun i m H => m = ds.length - i ∧ i ≤ ds.length ∧ ∃ b acc vs, H D = some (.lst vs) ∧ DqAll K M2 H vs acc ∧ acc.length ≤ i ∧ Rep K F M2 σ H δ b ∧ G M2 H ∧ (∀ a o, F.m ≠ some a → H1 a = some o → H a = some o) ∧ ExM Mu H1 H ∧ lcGo T tt te (wipeD δ ws) (ds.drop i) acc b Q'
  have mono : ∀ {Ha Hb : Hp}, ExB F M2 Ha Hb → (∀ a o, F.m ≠ some a → H1 a = some o → Ha a = some o) → ExM Mu H1 Ha → (∀ a o, F.m ≠ some a → H1 a = some o → Hb a = some o) ∧ ExM Mu H1 Hb := fun {Ha Hb} e q1 q2 =>
    ⟨fun a o n z => e.1 a o n (q1 a o n z), fun a o n z => e.2 a o (fun w => w.elim n fun w => by rw [w, hD] at z; cases z) (q2 a o n z)⟩
  refine ⟨Wi, ⟨_, rfl, Nat.zero_le _, b1, [], [], upd_same, .nil, Nat.le_refl _, R1.more hD, ?_, fun a o _ z => ?_, fun a o _ z => ?_, by simpa using h1⟩, ?_⟩
  · exact wk.ex _ _ _ (wk.mu _ _ _ g1 fun a z => z.imp id fun z => by rw [z]; exact hD) (ExM.at (.inr rfl))
  · rw [upd_ne (ne_of_none z hD)]; exact z
  · rw [upd_ne (ne_of_none z hD)]; exact z
  rintro i m H2 ⟨em, hi, b2, acc, vs, hl, hq, hacc, R2, g2, x1, x2, h2⟩
  by_cases hlt : i < ds.length
  · refine .inr ⟨wk.go _ _ _ g2 hlt, fun H' => ∃ m', Wi (i + 1) m' H', fun H' ⟨m', w⟩ => ⟨m', by rw [w.1, em]; omega, w⟩, fun x H3 hy => ?_⟩
    obtain ⟨keep, d, hd, qx⟩ := wk.yld _ _ _ _ _ g2 R2.tr hlt hy
    have hdr : ds.drop i = d :: ds.drop (i + 1) := by
      rw [List.drop_eq_getElem_cons hlt]; rw [List.getElem?_eq_getElem hlt] at hd
      cases hd; rfl
    rw [hdr] at h2
    obtain ⟨δ', hp, h3⟩ := h2
    have R3 := R2.grow keep
    have eb0 : ExB F M2 H2 H3 := ExB.all keep
    refine ⟨M2, wipeD δ ws, b2, d, δ', R3.wipe ws, qx, hp, fun σ2 Ra wa => ?_⟩
    have w1 := wa ws hT
    have ww : L2.wipe (L2.wipe σ ws) ws = L2.wipe σ ws := by
      have : ∀ us : List Nat, (∀ u ∈ us, u ∈ ws) → L2.wipe (L2.wipe σ us) ws = L2.wipe σ ws := by
        intro us
        induction us with
        | nil => intro _; rfl
        | cons u us ih =>
          intro hu
          show L2.wipe ((L2.wipe σ us).set u none) ws = _
          rw [wipe_set (hu u (by simp)), ih fun v hv => hu v (by simp [hv])]
      exact this ws fun _ h => h
    have wwD : wipeD (wipeD δ ws) ws = wipeD δ ws := by
      have : ∀ us : List Nat, (∀ u ∈ us, u ∈ ws) → wipeD (wipeD δ us) ws = wipeD δ ws := by
        intro us
        induction us with
        | nil => intro _; rfl
        | cons u us ih =>
          intro hu
          show wipeD ((wipeD δ us).set u .no) ws = _
          rw [wipeD_set (hu u (by simp)), ih fun v hv => hu v (by simp [hv])]
      exact this ws fun _ h => h
    have k1 := w1.1.trans ww
    have k2 := w1.2.trans wwD
    refine ⟨k1, M2, δ', b2, _, Ra, h3, fun c H4 b4 R4 e4 h4 => ?_⟩
    have hl3 : H3 D = some (.lst vs) := keep _ _ hl
    have hl4 : H4 D = some (.lst vs) := e4.1 D _ hmD hl3
    cases c with
    | false =>
      rw [if_neg Bool.false_ne_true] at h4
      show if false = true then _ else _
      rw [if_neg Bool.false_ne_true]; have y1 := mono eb0 x1 x2
      have y2 := mono e4 y1.1 y1.2
      exact ⟨_, rfl, hlt, b4, acc, vs, hl4, (hq.ex eb0).ex e4, by omega, R3.carry R4 e4.2 k1 k2 hno, wk.ex _ _ _ (wk.ex _ _ _ g2 eb0.2) e4.2, y2.1, y2.2, h4⟩
    | true =>
      rw [if_pos rfl] at h4
      show if true = true then _ else _
      rw [if_pos rfl]
      refine ⟨M2, δ', b4, _, R4, h4, fun y H5 dz b5 R5 e5 q5 h5 => ⟨vs, e5.1 D _ hmD hl4, by rw [hq.length]; omega, ?_⟩⟩
      have y1 := mono eb0 x1 x2
      have y2 := mono e4 y1.1 y1.2
      have y3 := mono e5 y2.1 y2.2
      have ec : ExM M2 H5 (upd H5 D (.lst (vs ++ [y]))) := ExM.at (.inr rfl)
      have R6 : Rep K F M2 σ H5 δ b5 := R3.carry R5 (e4.trans e5).2 k1 k2 hno
      refine ⟨_, rfl, hlt, b5, acc ++ [dz], vs ++ [y], upd_same, ?_, by simp; omega, R6.chg nD R0 hs0 h0, wk.ex _ _ _ (wk.ex _ _ _ (wk.ex _ _ _ g2 eb0.2) (e4.trans e5).2) ec, fun a o n z => ?_, fun a o n z => ?_, h5⟩
      · exact ((((hq.ex eb0).ex e4).ex e5).append (.cons q5 .nil)).exM ec
      · rw [upd_ne (ne_of_none z hD)]; exact y3.1 a o n z
      · rw [upd_ne (ne_of_none z hD)]; exact y3.2 a o n z
  · have e : i = ds.length := by omega
    subst e
    rw [List.drop_length] at h2
    have rg := R2.gone nD R0 hs0 h0
    have eg : ExB F Mu H (drp H2 D) := e1.trans ⟨fun a o n z => by rw [drp_ne (ne_of_none z hD)]; exact x1 a o n z, fun a o n z => by rw [drp_ne (ne_of_none z hD)]; exact x2 a o n z⟩
    have fin := k D (drp H2 D) vs acc b2 rg eg drp_same (by rw [hq.length]; omega) hq.drp h2
    rw [drp_upd hl] at fin
    exact .inl ⟨wk.stop _ _ g2, fin⟩
theorem n_lc {X : Cx} {F : Fm} {elt tg iter : Expr} {ifs : List Expr} {scope : Scope} (own : List (Str × Nat)) {pos : Pos} {src : TAD} {T : Tg} {tt : TTD} {te : TD} (hc : X.calm = true) (hN : X.N.Nodup) (hi : PID X F tg iter src) (ok : BlkOk X.N X.env.scope scope own)
    (hT : ∀ i ∈ T.ixs, i ∈ own.map (·.2))
    (hg : ∀ (s : Shared) (H : Hp) (C : Addr) (cl : List (Str × Addr)) (fp : List Addr), PGD (X.blk s H scope (compEnvC scope cl C X.env) fp) F tg T) (ht : ∀ (s : Shared) (H : Hp) (C : Addr) (cl : List (Str × Addr)) (fp : List Addr), PTsD (X.blk s H scope (compEnvC scope cl C X.env) fp) F ifs tt)
    (he : ∀ (s : Shared) (H : Hp) (C : Addr) (cl : List (Str × Addr)) (fp : List Addr), PD (X.blk s H scope (compEnvC scope cl C X.env) fp) F elt te) (hs : ∀ x, foldedSetIterable iter X.env x = pure x := by intro _; rfl) :
    PDN X F (.ListComp elt [⟨tg, iter, ifs, 0⟩] scope pos) (nLc src T tt te (own.map (·.2))) :=
  ⟨PE.weak (pe_lc hc hN hi.pi ok (g := cG X.K F T) (tt := cT X.K F tt) (te := cE X.K F te) (fun s H C cl fp => (hg s H C cl fp).pg) (fun s H C cl fp => (ht s H C cl fp).pt) (fun s H C cl fp => (he s H C cl fp).pe) hs) fun σ H Q => lc_go hT⟩
end Wk
namespace Wk
open L2 RZ PyProof.Rows PySem.Spec PySem StX
section
variable {X : Cx} {F : Fm} {K : PySem.W.Frag} {Mu : Addr → Prop} {σ : L2.St} {H : Hp} {δ : List Sl} {b : Nat} {a e c : Expr} {es : List Expr} {ta tb : TD} {tas tbs : TAD} {tc : TTD} {p pos : Pos}
/-- *e among the items -/
@[simp] def aStar (t : TD) (tr : TAD) : TAD := fun δ b Q => t δ b fun d b1 => ∃ ds, seqD d = some ds ∧ tr δ b1 fun es b2 => Q (ds ++ es) b2
theorem a_star (he : PD X F e ta) (hr : PDA X F es tas) (hs : starEach (.Starred e p :: es) X.env = (true, eval e X.env) :: starEach es X.env := by rfl) : PDA X F (.Starred e p :: es) (aStar ta tas) :=
  ⟨PA.weak (pa_star he.pe hr.pa hs) fun σ H Q ⟨Mu, δ, b, Q', R, h, k⟩ => cE.go R h fun v H1 d b1 R1 e1 q1 ⟨ds, hz, h1⟩ => by
    unfold seqD at hz
    split at hz
    · cases hz
      obtain ⟨l, vs, rfl, hl, hq⟩ := q1.lst_inv
      exact ⟨l, vs, rfl, .inr hl.sq, cA.go R1 h1 fun ws H2 es b2 R2 e2 q2 h2 => k _ H2 _ b2 R2 (e1.trans e2) ((hq.ex e2).append q2) h2⟩
    · cases hz
      obtain ⟨l, vs, rfl, hl, hq⟩ := q1.tup_inv
      exact ⟨l, vs, rfl, .inl hl.sq, cA.go R1 h1 fun ws H2 es b2 R2 e2 q2 h2 => k _ H2 _ b2 R2 (e1.trans e2) ((hq.ex e2).append q2) h2⟩
    · cases hz⟩
/-- two list objects, joined anew -/
@[simp] def nCat (t u : TAD) : TAD := fun δ b Q => t δ b fun ds b1 => u δ b1 fun es b2 => ds.length + es.length ≤ sizeLine ∧ Q (ds ++ es) b2
theorem n_cat (ha : PDL X F a tas) (hb : PDL X F e tbs) : PDN X F (.BinOp a .Add e pos) (nCat tas tbs) :=
  ⟨PE.weak (pe_op op_cat ha.pe hb.pe) fun σ H Q ⟨Mu, δ, b, Q', R, h, k⟩ => ⟨Mu, δ, b, _, R, h, fun l H1 ds b1 R1 e1 w1 h1 => ⟨Mu, δ, b1, _, R1, h1, fun l2 H2 es b2 R2 e2 w2 ⟨hz, h2⟩ => by
    obtain ⟨vs, hl, hq⟩ := w1 H2 b2 R2 e2
    obtain ⟨ws, hl2, hq2⟩ := w2 H2 b2 R2 (ExB.refl H2)
    exact ⟨l, l2, vs, ws, rfl, rfl, hl, hl2, by rw [hq.length, hq2.length]; exact hz, fun p hp => k p H2 _ _ b2 R2 (e1.trans e2) hp (by rw [List.length_append, hq.length, hq2.length]; exact hz) (hq.append hq2) h2⟩⟩⟩⟩
/-- a list object, some times -/
@[simp] def nRep (t : TAD) (u : TD) : TAD := fun δ b Q => t δ b fun ds b1 => u δ b1 fun z b2 => ∃ i : Int, z = .int i ∧ 0 ≤ i ∧ i < 2 ^ 63 ∧ ds.length * i.toNat ≤ sizeLine ∧ Q (List.replicate i.toNat ds).flatten b2
theorem DqAll.rep {K : PySem.W.Frag} {Mu : Addr → Prop} {H : Hp} {vs : List V} {ds : List PyData} (q : DqAll K Mu H vs ds) : ∀ n : Nat, DqAll K Mu H (List.replicate n vs).flatten (List.replicate n ds).flatten
  | 0 => .nil
  | n + 1 => by rw [List.replicate_succ, List.replicate_succ, List.flatten_cons, List.flatten_cons]; exact q.append (DqAll.rep q n)
theorem rep_len {α : Type} (xs : List α) : ∀ n : Nat, (List.replicate n xs).flatten.length = xs.length * n
  | 0 => by simp
  | n + 1 => by rw [List.replicate_succ, List.flatten_cons, List.length_append, rep_len xs n, Nat.mul_succ]; omega
theorem n_rep (ha : PDL X F a tas) (hb : PD X F e tb) : PDN X F (.BinOp a .Mult e pos) (nRep tas tb) :=
  ⟨PE.weak (pe_op op_rep ha.pe hb.pe) fun σ H Q ⟨Mu, δ, b, Q', R, h, k⟩ => ⟨Mu, δ, b, _, R, h, fun l H1 ds b1 R1 e1 w1 h1 => cE.go R1 h1 fun v H2 z b2 R2 e2 q2 ⟨i, ez, i0, i1, hz, h2⟩ => by
    subst ez
    cases q2
    obtain ⟨vs, hl, hq⟩ := w1 H2 b2 R2 e2
    exact ⟨l, i, vs, rfl, rfl, hl, by omega, i1, by rw [hq.length]; exact hz, fun p hp => k p H2 _ _ b2 R2 (e1.trans e2) hp (by rw [rep_len, hq.length]; exact hz) (hq.rep _) h2⟩⟩⟩
@[simp] def nIf (t : TTD) (ta tb : TAD) : TAD := fun δ b Q => t δ b fun c b1 => if c = true then ta δ b1 Q else tb δ b1 Q
theorem n_if (hc : PDT X F c tc) (ha : PDN X F a tas) (hb : PDN X F e tbs) : PDN X F (.IfExp c a e pos) (nIf tc tas tbs) :=
  ⟨PE.weak (pe_ifExp hc.pt ha.pe hb.pe) fun σ H Q ⟨Mu, δ, b, Q', R, h, k⟩ => cT.go R h fun c H1 b1 R1 e1 h1 => by
    cases c with
    | true =>
      rw [if_pos rfl] at h1 ⊢
      exact ⟨Mu, δ, b1, _, R1, h1, fun p H2 vs ds b2 R2 e2 hp hl q h2 => k p H2 vs ds b2 R2 (e1.trans e2) hp hl q h2⟩
    | false =>
      rw [if_neg Bool.false_ne_true] at h1 ⊢
      exact ⟨Mu, δ, b1, _, R1, h1, fun p H2 vs ds b2 R2 e2 hp hl q h2 => k p H2 vs ds b2 R2 (e1.trans e2) hp hl q h2⟩⟩
/-- a list that is looked at, with data: == and != -/
theorem dp_view {l : Addr} {vs : List V} {ds : List PyData} (h : SqL K H l vs) (q : DqAll K Mu H vs ds) : L2.Dp K H (.ref l) (.list ds) := .lst h (DqAll.dp _ _ q)
@[simp] def dV2 (f : PyData → PyData → Option PyData) (t : TAD) (u : TD) : TD := fun δ b Q => t δ b fun ds b1 => u δ b1 fun y b2 => ∃ z, f (.list ds) y = some z ∧ Q z b2
theorem eqV_go {σ : L2.St} {H : Hp} {Q : VK} : cE K F (dV2 eqD tas tb) σ H Q → tOp (rEq2 K) (cV K F tas) (cE K F tb) σ H Q := fun ⟨Mu, δ, b, Q', R, h, k⟩ =>
  ⟨Mu, δ, b, _, R, h, fun l H1 ds b1 R1 e1 w1 h1 => cE.go R1 h1 fun y H2 d b2 R2 e2 q2 ⟨z, hz, h2⟩ => by
    obtain ⟨vs, hl, hq⟩ := w1 H2 b2 R2 e2
    unfold eqD at hz
    split at hz
    · rename_i ho; cases hz
      have ho : (PyData.canLay0 (.list ds) && d.canLay0 && decide (min (PyData.depth (.list ds)) d.depth ≤ 64)) = true := by cases d <;> exact ho
      rw [Bool.and_eq_true, Bool.and_eq_true, decide_eq_true_eq] at ho
      exact .inr ⟨_, _, dp_view hl hq, q2.dp, ho.1, ho.2, k _ H2 _ b2 R2 (e1.trans e2) (.bl _) h2⟩
    · cases hz⟩
theorem neV_go {σ : L2.St} {H : Hp} {Q : VK} : cE K F (dV2 neD tas tb) σ H Q → tOp (rNe2 K) (cV K F tas) (cE K F tb) σ H Q := fun ⟨Mu, δ, b, Q', R, h, k⟩ =>
  ⟨Mu, δ, b, _, R, h, fun l H1 ds b1 R1 e1 w1 h1 => cE.go R1 h1 fun y H2 d b2 R2 e2 q2 ⟨z, hz, h2⟩ => by
    obtain ⟨vs, hl, hq⟩ := w1 H2 b2 R2 e2
    unfold neD at hz
    split at hz
    · rename_i ho; cases hz
      have ho : (PyData.canLay0 (.list ds) && d.canLay0 && decide (min (PyData.depth (.list ds)) d.depth ≤ 64)) = true := by cases d <;> exact ho
      rw [Bool.and_eq_true, Bool.and_eq_true, decide_eq_true_eq] at ho
      exact .inr ⟨_, _, dp_view hl hq, q2.dp, ho.1, ho.2, k _ H2 _ b2 R2 (e1.trans e2) (.bl _) h2⟩
    · cases hz⟩
theorem d_neV (hu : X.A.units + 64 < cLine) (ha : PDV X F a tas) (hb : PD X F e tb) (hm : behindInMarks .NotEq e = false := by exact nomark _) : PD X F (.Compare a [.NotEq] [e] pos) (dV2 neD tas tb) :=
  ⟨PE.weak (pe_cmpR (op_ne2 hu) ha.pe hb.pe hm) fun _ _ _ => neV_go⟩
theorem d_neVT (hu : X.A.units + 64 < cLine) (ha : PDV X F a tas) (hb : PD X F e tb) (hm : behindInMarks .NotEq e = false := by exact nomark _) : PDT X F (.Compare a [.NotEq] [e] pos) (dTest (dV2 neD tas tb)) :=
  ⟨PT.weak (pt_cmpR (op_ne2 hu) ha.pe hb.pe hm) fun σ H Q ⟨Mu, δ, b, Q', R, h, k⟩ => neV_go ⟨Mu, δ, b, _, R, h, fun v H' d b' R' e' q ⟨c, ec, h2⟩ => by
      subst ec
      exact ⟨c, q.bl_inv, k c H' b' R' e' h2⟩⟩⟩
/-- an own list's item -/
@[simp] def dIxV (t : TAD) (u : TD) : TD := fun δ b Q => t δ b fun ds b1 => u δ b1 fun z b2 => ∃ i d, z = .int i ∧ atI ds i = some d ∧ Q d b2
theorem d_ixV (ha : PDV X F a tas) (hb : PD X F e tb) (hs : PlainIx e) : PD X F (.Subscript a e pos) (dIxV tas tb) :=
  ⟨PE.weak (pe_ix ix_seq ha.pe hb.pe hs) fun σ H Q ⟨Mu, δ, b, Q', R, h, k⟩ => ⟨Mu, δ, b, _, R, h, fun l H1 ds b1 R1 e1 w1 h1 => cE.go R1 h1 fun v H2 z b2 R2 e2 q2 ⟨i, d, ez, hd, h2⟩ => by
    subst ez
    cases q2
    obtain ⟨vs, hl, hq⟩ := w1 H2 b2 R2 e2
    obtain ⟨v, z1, z2⟩ := hq.at hd
    exact .inl ⟨l, vs, i, v, rfl, rfl, hl, z1, k v H2 d b2 R2 (e1.trans e2) z2 h2⟩⟩⟩
/-- -i, a constant -/
theorem d_neg {i : Int} {j : Nat} {p2 : Pos} : PD X F (.UnaryOp .USub (.Constant (.int i) j p2) pos) (dC (.int (-i))) :=
  ⟨PE.weak (pe_un un_neg pe_int) fun σ H Q ⟨Mu, δ, b, Q', R, h, k⟩ => ⟨i, rfl, k _ H _ b R (ExB.refl H) (.int _) h⟩⟩
/-- sep.join(a tuple of texts) -/
@[simp] def dJoinT (tz t : TD) : TD := fun δ b Q => tz δ b fun z b1 => ∃ y, z = .str y ∧ t δ b1 fun d b2 => ∃ xs : List Str, d = .tuple (xs.map PyData.str) ∧ (xs.map (·.length)).sum + xs.length * y.length ≤ 16777216 ∧ Q (.str (Txt.join y xs)) b2
theorem d_joinT {apos : Pos} (hz : PD X F a ta) (ha : PD X F e tb) (hs : starEach [e] X.env = [(false, eval e X.env)] := by rfl) (hbase : attributeBase a "join" X.env (eval a X.env) = eval a X.env := by rfl) (hline : (apos.endLine == pos.line) = true := by rfl) :
    PD X F (.Call (.Attribute a "join" apos) [e] [] pos) (dJoinT ta tb) :=
  ⟨PE.weak (pe_join hz.pe ha.pe hs hbase hline) fun σ H Q ⟨Mu, δ, b, Q', R, h, k⟩ =>
    cE.go R h fun v H1 d b1 R1 e1 q1 ⟨y, ey, h1⟩ => by
      subst ey
      cases q1
      exact ⟨⟨_, rfl⟩, cE.go R1 h1 fun w H2 d2 b2 R2 e2 q2 ⟨xs, ed, h6, h2⟩ => by
        subst ed
        obtain ⟨l, vs, rfl, hl, hq⟩ := q2.tup_inv
        rw [hq.strs] at hl
        exact ⟨_, l, xs, rfl, rfl, .inr hl.sq, h6, k _ H2 _ b2 R2 (e1.trans e2) (.str _) h2⟩⟩⟩
end
end Wk
namespace Wk
open L2 RZ PyProof.Rows PySem.Spec PySem
/-! ### statements over data -/
def ExS (Mu : Addr → Prop) (H : Hp) (Mu' : Addr → Prop) (H' : Hp) : Prop := ExM Mu H H' ∧ (∀ a, Mu' a → Mu a ∨ H a = none) ∧ ∀ a, Mu a → Mu' a
theorem ExS.refl {Mu : Addr → Prop} (H : Hp) : ExS Mu H Mu H := ⟨ExM.refl H, fun _ h => .inl h, fun _ h => h⟩
theorem ExS.trans {Mu Mu1 Mu2 : Addr → Prop} {H H1 H2 : Hp} (a : ExS Mu H Mu1 H1) (b : ExS Mu1 H1 Mu2 H2) : ExS Mu H Mu2 H2 := by
  refine ⟨fun x o n e => b.1 x o (fun z => (a.2.1 x z).elim n fun z => by rw [z] at e; cases e) (a.1 x o n e), fun x z => ?_, fun x z => b.2.2 x (a.2.2 x z)⟩
  rcases b.2.1 x z with z | z
  · exact a.2.1 x z
  · by_cases hm : Mu x
    · exact .inl hm
    · cases q : H x with
      | none => exact .inr rfl
      | some o => rw [a.1 x o hm q] at z; cases z
theorem ExS.ofB {F : Fm} {Mu : Addr → Prop} {H H' : Hp} (e : ExB F Mu H H') : ExS Mu H Mu H' := ⟨e.2, fun _ h => .inl h, fun _ h => h⟩
def KeepM (F : Fm) (H H' : Hp) : Prop := ∀ a o, F.m ≠ some a → H a = some o → H' a = some o
/-- the ends of a statement, over the slots' data -/
structure EndsD where
  nx : List Sl → Nat → Prop
  rt : PyData → Nat → Prop
  bk : List Sl → Nat → Prop := fun _ _ => False
  ct : List Sl → Nat → Prop := fun _ _ => False
abbrev TSD := EndsD → List Sl → Nat → Prop
structure Lift (K : PySem.W.Frag) (F : Fm) (Mu : Addr → Prop) (H : Hp) (D' : EndsD) (D : Ends) : Prop where
  nx : ∀ Mu' σ' H' δ' b', Rep K F Mu' σ' H' δ' b' → ExS Mu H Mu' H' → D'.nx δ' b' → D.nx σ' H'
  bk : ∀ Mu' σ' H' δ' b', Rep K F Mu' σ' H' δ' b' → ExS Mu H Mu' H' → D'.bk δ' b' → D.bk σ' H'
  ct : ∀ Mu' σ' H' δ' b', Rep K F Mu' σ' H' δ' b' → ExS Mu H Mu' H' → D'.ct δ' b' → D.ct σ' H'
  rt : ∀ v H' d b', (∀ a o, F.m ≠ some a → F.H0 a = some o → H' a = some o) → (∀ m, F.m = some m → MOk K F.N0 H' m b') → Dq K F.N0 H' v d → D'.rt d b' → D.rt v H'
theorem Lift.step {K : PySem.W.Frag} {F : Fm} {Mu Mu1 : Addr → Prop} {H H1 : Hp} {D' : EndsD} {D : Ends} (l : Lift K F Mu H D' D) (e : ExS Mu H Mu1 H1) : Lift K F Mu1 H1 D' D :=
  ⟨fun Mu' σ' H' δ' b' R x q => l.nx Mu' σ' H' δ' b' R (e.trans x) q, fun Mu' σ' H' δ' b' R x q => l.bk Mu' σ' H' δ' b' R (e.trans x) q, fun Mu' σ' H' δ' b' R x q => l.ct Mu' σ' H' δ' b' R (e.trans x) q, l.rt⟩
def cS (K : PySem.W.Frag) (F : Fm) (t : TSD) : TS := fun D σ H => ∃ Mu δ b D', Rep K F Mu σ H δ b ∧ t D' δ b ∧ Lift K F Mu H D' D
structure PSD (X : Cx) (F : Fm) (st : Stmt) (t : TSD) : Prop where
  ps : PS X st (cS X.K F t)
structure PSsD (X : Cx) (F : Fm) (sts : List Stmt) (t : TSD) : Prop where
  ps : PSs X sts (cS X.K F t)
theorem PS.weak {X : Cx} {st : Stmt} {t t' : TS} (h : PS X st t) (k : ∀ D σ H, t' D σ H → t D σ H) : PS X st t' := ⟨fun pins s σ H D I q => h.run pins s σ H D I (k D σ H q)⟩
theorem PSs.weak {X : Cx} {st : List Stmt} {t t' : TS} (h : PSs X st t) (k : ∀ D σ H, t' D σ H → t D σ H) : PSs X st t' := ⟨fun pins s σ H D I q => h.run pins s σ H D I (k D σ H q)⟩
section
variable {K : PySem.W.Frag} {F : Fm} {Mu Mu1 : Addr → Prop} {σ : L2.St} {H H1 : Hp} {δ : List Sl} {b : Nat} {D' : EndsD} {D : Ends}
theorem Lift.ret (l : Lift K F Mu H D' D) (R : Rep K F Mu1 σ H1 δ b) {v : V} {d : PyData} (q : Dq K Mu1 H1 v d) (z : D'.rt d b) : D.rt v H1 :=
  l.rt v H1 d b R.ext (fun m hm => (R.mach m hm).2.mu fun a h => .inl (R.mu0 a h)) (q.mu fun a h => .inl (R.mu0 a h)) z
theorem Lift.retOwn (l : Lift K F Mu H D' D) (R : Rep K F Mu1 σ H1 δ b) {p : Addr} {vs : List V} {ds : List PyData} (n : ¬ F.N0 p) (e : H1 p = some (.lst vs)) (q : DqAll K Mu1 H1 vs ds) (z : D'.rt (.list ds) b) : D.rt (.ref p) H1 :=
  l.rt _ H1 _ b R.ext (fun m hm => (R.mach m hm).2.mu fun a h => .inl (R.mu0 a h)) (.lst (.of e n) (q.mu fun a h => .inl (R.mu0 a h))) z
end
section
variable {X : Cx} {F : Fm} {st : Stmt} {rest : List Stmt} {t u : TSD} {a e c : Expr} {ta tb : TD} {tas tbs : TAD} {tc : TTD} {pos : Pos}
@[simp] def sNext : TSD := fun D δ b => D.nx δ b
@[simp] def sSeq (t u : TSD) : TSD := fun D δ b => t { D with nx := u D } δ b
theorem ss_nil : PSsD X F [] sNext := ⟨PSs.weak pss_nil fun D σ H ⟨Mu, δ, b, D', R, h, l⟩ => l.nx Mu σ H δ b R (ExS.refl H) h⟩
theorem ss_cons (h1 : PSD X F st t) (h2 : PSsD X F rest u) : PSsD X F (st :: rest) (sSeq t u) :=
  ⟨PSs.weak (pss_cons h1.ps h2.ps) fun D σ H ⟨Mu, δ, b, D', R, h, l⟩ => ⟨Mu, δ, b, _, R, h, ⟨fun Mu' σ' H' δ' b' R' x q => ⟨Mu', δ', b', D', R', q, l.step x⟩, l.bk, l.ct, l.rt⟩⟩⟩
theorem ss_one (h1 : PSD X F st t) : PSsD X F [st] t := ⟨pss_one h1.ps⟩
@[simp] def sNever : TSD := fun _ _ _ => False
theorem s_never : PSD X F st sNever := ⟨PS.weak ps_never fun D σ H ⟨Mu, δ, b, D', R, h, l⟩ => h⟩
@[simp] def sRet (t : TD) : TSD := fun D δ b => t δ b D.rt
theorem s_ret (he : PD X F e ta) : PSD X F (.Return (some e) pos) (sRet ta) :=
  ⟨PS.weak (ps_ret he.pe) fun D σ H ⟨Mu, δ, b, D', R, h, l⟩ => ⟨Mu, δ, b, _, R, h, fun v H1 d b1 R1 e1 q1 z => l.ret R1 q1 z⟩⟩
/-- return of a list of the def's own -/
@[simp] def sRetO (i : Nat) : TSD := fun D δ b => ∃ ds, δ[i]? = some (Sl.own ds) ∧ D.rt (.list ds) b
theorem s_retO (i : Nat) {x : Str} {p : Pos} (hN : X.N[i]? = some x := by rfl) (hv : Vis X.env.scope x := by first | exact Or.inl rfl | exact Or.inr (Or.inl rfl) | exact Or.inr (Or.inr rfl)) (hd : (x == ("__debug__" : Str)) = false := by decide)
    (hcd : (x == ("__classdict__" : Str)) = false := by decide) : PSD X F (.Return (some (.Name x p)) pos) (sRetO i) :=
  ⟨PS.weak (ps_ret (pe_var hN hv hd hcd)) fun D σ H ⟨Mu, δ, b, D', R, ⟨ds, h1, h2⟩, l⟩ => by
    obtain ⟨p, vs, e, m, n, q1, q2⟩ := R.sl i _ h1
    exact ⟨_, e, l.retOwn R n q1 q2 h2⟩⟩
@[simp] def sIf (c : TTD) (t u : TSD) : TSD := fun D δ b => c δ b fun k b1 => if k = true then t D δ b1 else u D δ b1
theorem s_if {x y : List Stmt} (hc : PDT X F c tc) (ha : PSsD X F x t) (hb : PSsD X F y u) : PSD X F (.If c x y pos) (sIf tc t u) :=
  ⟨PS.weak (ps_if hc.pt ha.ps hb.ps) fun D σ H ⟨Mu, δ, b, D', R, h, l⟩ => cT.go R h fun k H1 b1 R1 e1 h1 => by
    cases k with
    | true => rw [if_pos rfl] at h1 ⊢; exact ⟨Mu, δ, b1, D', R1, h1, l.step (ExS.ofB e1)⟩
    | false => rw [if_neg Bool.false_ne_true] at h1 ⊢; exact ⟨Mu, δ, b1, D', R1, h1, l.step (ExS.ofB e1)⟩⟩
@[simp] def sDrop (t : TD) : TSD := fun D δ b => t δ b fun _ b1 => D.nx δ b1
theorem s_expr (he : PD X F e ta) (hs : swapsWith e none pos.line X.env = pure false := by rfl) : PSD X F (.Expr e pos) (sDrop ta) :=
  ⟨PS.weak (ps_expr he.pe hs) fun D σ H ⟨Mu, δ, b, D', R, h, l⟩ => ⟨Mu, δ, b, _, R, h, fun v H1 d b1 R1 e1 q1 z => l.nx _ _ _ _ _ R1 (ExS.ofB e1) z⟩⟩
/-! ### what a name takes -/
/-- v is what the slot's kind tells, at Mu, H; no list of the def's own in δ is it -/
def Fill (K : PySem.W.Frag) (F : Fm) (Mu : Addr → Prop) (σ : L2.St) (H : Hp) (δ : List Sl) (v : V) : Sl → Prop
  | .no => True
  | .dat d => Dq K Mu H v d
  | .own ds => (∃ l vs, v = .ref l ∧ Mu l ∧ ¬ F.N0 l ∧ H l = some (.lst vs) ∧ DqAll K Mu H vs ds) ∧ ∀ (i : Nat) (es : List PyData), δ[i]? = some (Sl.own es) → σ[i]? ≠ some (some v)
  | .raw w => v = w
  | .sta P => StaP P ∧ P Mu H v
abbrev TFD := List Sl → Nat → (Sl → Nat → Prop) → Prop
def cF (K : PySem.W.Frag) (F : Fm) (t : TFD) : TE := fun σ H Q => ∃ Mu δ b Q', Rep K F Mu σ H δ b ∧ t δ b Q' ∧
  ∀ v H' s b' Mu', Rep K F Mu' σ H' δ b' → ExS Mu H Mu' H' → KeepM F H H' ∧ (∀ es l, s = Sl.own es → v = .ref l → H l = none) → Fill K F Mu' σ H' δ v s → Q' s b' → Q v H'
structure PDF (X : Cx) (F : Fm) (e : Expr) (t : TFD) : Prop where
  pe : PE X e (cF X.K F t)
@[simp] def fDat (t : TD) : TFD := fun δ b Q => t δ b fun d b1 => Q (.dat d) b1
theorem PD.f (h : PD X F e ta) : PDF X F e (fDat ta) := ⟨PE.weak h.pe fun σ H Q ⟨Mu, δ, b, Q', R, h, k⟩ => ⟨Mu, δ, b, _, R, h, fun v H1 d b1 R1 e1 q1 z => k v H1 (.dat d) b1 Mu R1 (ExS.ofB e1) ⟨e1.1, fun _ _ z => nomatch z⟩ q1 z⟩⟩
@[simp] def fOwn (t : TAD) : TFD := fun δ b Q => t δ b fun ds b1 => Q (.own ds) b1
theorem fill_new {K : PySem.W.Frag} {Mu : Addr → Prop} {σ : L2.St} {H : Hp} {δ : List Sl} {b : Nat} {p : Addr} {vs : List V} {ds : List PyData} (R : Rep K F Mu σ H δ b) (hp : H p = none) (q : DqAll K Mu H vs ds) :
    Rep K F (fun a => Mu a ∨ a = p) σ (upd H p (.lst vs)) δ b ∧ ExS Mu H (fun a => Mu a ∨ a = p) (upd H p (.lst vs)) ∧ Fill K F (fun a => Mu a ∨ a = p) σ (upd H p (.lst vs)) δ (.ref p) (.own ds) := by
  refine ⟨R.more hp, ⟨ExM.new hp, fun a z => z.imp id fun z => by rw [z]; exact hp, fun a z => .inl z⟩, ⟨p, vs, rfl, .inr rfl, fun z => R.nmu hp (R.mu0 p z), upd_same, (q.mu fun a z => z.imp id fun z => by rw [z]; exact hp).exM (ExM.new hp)⟩, fun i es h1 h2 => ?_⟩
  obtain ⟨l, ws, z1, _, _, z4, _⟩ := R.sl i _ h1
  rw [h2] at z1
  cases z1
  rw [hp] at z4; cases z4
theorem Rep.was_none {K : PySem.W.Frag} {Mu : Addr → Prop} {σ : L2.St} {H H1 : Hp} {δ : List Sl} {b b1 : Nat} {p : Addr} (R : Rep K F Mu σ H δ b) (R1 : Rep K F Mu σ H1 δ b1) (e : ExB F Mu H H1) (hp : H1 p = none) : H p = none := by
  cases q : H p with
  | none => rfl
  | some o =>
    by_cases hm : F.m = some p
    · obtain ⟨_, _, _, _, _, w, _⟩ := R1.mach p hm
      rw [w] at hp; cases hp
    · rw [e.1 p o hm q] at hp; cases hp
theorem PDN.f (h : PDN X F e tas) : PDF X F e (fOwn tas) := ⟨PE.weak h.pe fun σ H Q ⟨Mu, δ, b, Q', R, h, k⟩ => ⟨Mu, δ, b, _, R, h, fun p H1 vs ds b1 R1 e1 hp hl q1 z => by
  obtain ⟨r1, r2, r3⟩ := fill_new R1 hp q1
  exact k _ _ _ b1 _ r1 ((ExS.ofB e1).trans r2) ⟨fun a o n z => by rw [upd_ne (ne_of_none (e1.1 a o n z) hp)]; exact e1.1 a o n z, fun _ l _ el => by
    cases el
    exact R.was_none R1 e1 hp⟩ r3 z⟩⟩
theorem Rep.fill {K : PySem.W.Frag} {Mu : Addr → Prop} {σ : L2.St} {H : Hp} {δ : List Sl} {b i : Nat} {v : V} {s : Sl} (R : Rep K F Mu σ H δ b) (q : Fill K F Mu σ H δ v s) : Rep K F Mu (σ.set i (some v)) H (δ.set i s) b := by
  have R1 : Rep K F Mu (σ.set i (some v)) H (δ.set i .no) b := R.clr
  refine ⟨by simp [R.len], R.ext, R.mu0, R.tr, R.new, fun j s' hs => ?_, fun j k ds ds' hn h1 h2 => ?_, R.mach⟩
  · rw [List.getElem?_set] at hs
    by_cases ej : i = j
    · subst ej
      rw [if_pos rfl] at hs
      split at hs
      · rename_i hl
        cases hs
        have hv : (σ.set i (some v))[i]? = some (some v) := by rw [List.getElem?_set, if_pos rfl, if_pos (by rw [R.len]; exact hl)]
        cases s with
        | no => trivial
        | dat d => exact ⟨v, hv, q⟩
        | own ds => obtain ⟨⟨l, vs, rfl, q⟩, _⟩ := q; exact ⟨l, vs, hv, q⟩
        | raw w => subst q; exact hv
        | sta P => exact ⟨v, hv, q⟩
      · cases hs
    · rw [if_neg ej] at hs
      exact R1.sl j s' (by rw [List.getElem?_set_ne ej]; exact hs)
  · have hset : ∀ (j k : Nat) (es es' : List PyData), i = j → j ≠ k → (δ.set i s)[j]? = some (Sl.own es) → (δ.set i s)[k]? = some (Sl.own es') → (σ.set i (some v))[j]? ≠ (σ.set i (some v))[k]? := by
      clear h1 h2 hn
      rintro j k es es' rfl hn g1 g2
      rw [List.getElem?_set_ne hn] at g2
      rw [List.getElem?_set, if_pos rfl] at g1
      split at g1
      · rename_i hl
        cases g1
        obtain ⟨_, w⟩ := q
        rw [List.getElem?_set_ne hn, List.getElem?_set, if_pos rfl, if_pos (by rw [R.len]; exact hl)]
        exact fun z => w k es' g2 z.symm
      · cases g1
    by_cases ej : i = j
    · exact hset _ _ _ _ ej hn h1 h2
    · by_cases ek : i = k
      · exact fun z => hset _ _ _ _ ek (Ne.symm hn) h2 h1 z.symm
      · rw [List.getElem?_set_ne ej] at h1
        rw [List.getElem?_set_ne ek] at h2
        rw [List.getElem?_set_ne ej, List.getElem?_set_ne ek]
        exact R.own1 j k ds ds' hn h1 h2
@[simp] def sSet (i : Nat) (t : TFD) : TSD := fun D δ b => t δ b fun s b1 => D.nx (δ.set i s) b1
theorem s_set (i : Nat) {x : Str} {p : Pos} {tf : TFD} (hN : X.N.Nodup) (he : PDF X F e tf) (hi : X.N[i]? = some x := by rfl) (hx : Loc X.env.scope x := by first | exact Or.inl rfl | exact Or.inr rfl)
    (hs : swapsWith e (some (.Name x p)) pos.line X.env = pure false := by rfl) (hf : X.fn x = true ∨ X.env.scope.names.lookup x = some .local := by first | exact .inl rfl | exact .inr rfl) : PSD X F (.Assign [.Name x p] e pos) (sSet i tf) :=
  ⟨PS.weak (ps_set hN hi hx he.pe hs hf) fun D σ H ⟨Mu, δ, b, D', R, h, l⟩ => ⟨Mu, δ, b, _, R, h, fun v H1 s b1 Mu1 R1 e1 _ q1 z => l.nx _ _ _ _ _ (R1.fill q1) e1 z⟩⟩
/-- name = [..], the list built in its place -/
theorem s_setLc (i : Nat) {y : Str} {py : Pos} {elt tg iter : Expr} {ifs : List Expr} {scope : Scope} (own : List (Str × Nat)) {pos spos : Pos} {src : TAD} {T : Tg} {tt : TTD} {te : TD} (hc : X.calm = true) (hN : X.N.Nodup) (hi : PID X F tg iter src) (ok : BlkOk X.N X.env.scope scope own)
    (hT : ∀ i ∈ T.ixs, i ∈ own.map (·.2))
    (hg : ∀ (s : Shared) (H : Hp) (C : Addr) (cl : List (Str × Addr)) (fp : List Addr), PGD (X.blk s H scope (compEnvC scope cl C X.env) fp) F tg T) (ht : ∀ (s : Shared) (H : Hp) (C : Addr) (cl : List (Str × Addr)) (fp : List Addr), PTsD (X.blk s H scope (compEnvC scope cl C X.env) fp) F ifs tt)
    (he : ∀ (s : Shared) (H : Hp) (C : Addr) (cl : List (Str × Addr)) (fp : List Addr), PD (X.blk s H scope (compEnvC scope cl C X.env) fp) F elt te) (hsw : swapsWith (.ListComp elt [⟨tg, iter, ifs, 0⟩] scope pos) (some (.Name y py)) spos.line X.env = pure true)
    (hy : X.N[i]? = some y := by rfl) (hyl : X.env.scope.names.lookup y = some .local := by rfl) (hs : ∀ x, foldedSetIterable iter X.env x = pure x := by intro _; rfl) :
    PSD X F (.Assign [.Name y py] (.ListComp elt [⟨tg, iter, ifs, 0⟩] scope pos) spos) (sSet i (fOwn (nLc src T tt te (own.map (·.2))))) :=
  ⟨PS.weak (ps_setLc hc hN hy hyl hsw hi.pi ok (g := cG X.K F T) (tt := cT X.K F tt) (te := cE X.K F te) (fun s H C cl fp => (hg s H C cl fp).pg) (fun s H C cl fp => (ht s H C cl fp).pt) (fun s H C cl fp => (he s H C cl fp).pe) hs) fun D σ H ⟨Mu, δ, b, D', R, h, l⟩ =>
    lc_go hT ⟨Mu, δ, b, _, R, h, fun p H1 vs ds b1 R1 e1 hp hl q1 z => by
      obtain ⟨r1, r2, r3⟩ := fill_new R1 hp q1
      exact l.nx _ _ _ _ _ (r1.fill r3) ((ExS.ofB e1).trans r2) z⟩⟩
/-- a target of names, a value that is data -/
@[simp] def sAsg (t : TD) (T : Tg) : TSD := fun D δ b => t δ b fun d b1 => ∃ δ', T.put d δ = some δ' ∧ D.nx δ' b1
theorem s_asg {tg : Expr} {T : Tg} (he : PD X F e ta) (hg : PGD X F tg T) (hs : swapsWithSole [tg] e pos.line X.env = pure false := by rfl) (hw : swappedStores [tg] e X.env = pure none := by rfl)
    (h1 : (assignEach [tg] X.env).map (·.2) = [assign tg X.env] := by rfl) : PSD X F (.Assign [tg] e pos) (sAsg ta T) :=
  ⟨PS.weak (ps_asg he.pe hg.pg hs hw h1) fun D σ H ⟨Mu, δ, b, D', R, h, l⟩ => cE.go R h fun v H1 d b1 R1 e1 q1 ⟨δ', hp, z⟩ =>
    ⟨Mu, δ, b1, d, δ', R1, q1, hp, fun σ' R' _ => l.nx _ _ _ _ _ R' (ExS.ofB e1) z⟩⟩
/-- a, b = e, e' -/
@[simp] def sPar (i j : Nat) (t u : TFD) : TSD := fun D δ b => t δ b fun s b1 => u δ b1 fun s' b2 => D.nx ((δ.set i s).set j s') b2
theorem Fill.ex {K : PySem.W.Frag} {Mu Mu1 : Addr → Prop} {σ : L2.St} {H H1 : Hp} {δ : List Sl} {b : Nat} {v : V} {s : Sl} (q : Fill K F Mu σ H δ v s) (R : Rep K F Mu σ H δ b) (e : ExS Mu H Mu1 H1) (ek : KeepM F H H1) : Fill K F Mu1 σ H1 δ v s := by
  have e1 : ExM Mu1 H H1 := fun a o n z => e.1 a o (fun w => n (e.2.2 a w)) z
  cases s with
  | no => trivial
  | dat d => exact (Dq.mu (show Dq K Mu H v d from q) e.2.1).exM e1
  | own ds =>
    obtain ⟨⟨l, vs, rfl, z1, z2, z3, z4⟩, z5⟩ := q
    have hm : F.m ≠ some l := fun hm => z2 (R.mach l hm).1
    exact ⟨⟨l, vs, rfl, e.2.2 l z1, z2, ek l _ hm z3, (z4.mu e.2.1).exM e1⟩, z5⟩
  | raw w => exact q
  | sta P => exact ⟨q.1, q.1.ex _ _ _ _ (q.1.mu _ _ _ _ q.2 e.2.1) e1⟩
/-- two own lists of two names are two lists -/
def apart : Sl → Sl → Prop
  | .own _, .own _ => False
  | _, _ => True
theorem s_par (i j : Nat) {x y : Str} {e2 : Expr} {tf tg : TFD} {px py pt : Pos} {kt k2 pt2} (hc : X.calm = true) (hN : X.N.Nodup) (ha : PDF X F a tf) (hb : PDF X F e2 tg) (hij : i ≠ j)
    (hw : swappedStores [.Tuple [.Name x px, .Name y py] kt pt] (.Tuple [a, e2] k2 pt2) X.env = pure (some [x, y]))
    (hi : X.N[i]? = some x := by rfl) (hj : X.N[j]? = some y := by rfl) (hx : X.env.scope.names.lookup x = some .local := by rfl) (hy : X.env.scope.names.lookup y = some .local := by rfl)
    (hs : swapsWithSole [.Tuple [.Name x px, .Name y py] kt pt] (.Tuple [a, e2] k2 pt2) pos.line X.env = pure false := by rfl)
    (ht : starEach [a, e2] X.env = (false, eval a X.env) :: starEach [e2] X.env := by rfl) (ht2 : starEach [e2] X.env = (false, eval e2 X.env) :: starEach [] X.env := by rfl) :
    PSD X F (.Assign [.Tuple [.Name x px, .Name y py] kt pt] (.Tuple [a, e2] k2 pt2) pos) (sPar i j tf tg) :=
  ⟨PS.weak (ps_par hc hN hi hj hij hx hy (pa_cons ha.pe (pa_cons hb.pe pa_nil ht2) ht) hw hs) fun D σ H ⟨Mu, δ, b, D', R, h, l⟩ =>
    ⟨Mu, δ, b, _, R, h, fun v H1 s b1 Mu1 R1 e1 k1 q1 h1 => ⟨Mu1, δ, b1, _, R1, h1, fun w H2 s2 b2 Mu2 R2 e2 k2 q2 h2 => by
      refine ⟨v, w, rfl, ?_⟩
      have q1' := q1.ex R1 e2 k2.1
      have R3 := R2.fill (i := i) q1'
      refine l.nx _ _ _ _ _ (R3.fill (i := j) ?_) (e1.trans e2) h2
      cases s2 with
      | own es =>
        refine ⟨q2.1, fun k fs hk hv => ?_⟩
        by_cases hik : i = k
        · subst hik
          rw [List.getElem?_set, if_pos rfl] at hk hv
          split at hk
          · rename_i hl
            rw [if_pos (by rw [R2.len]; exact hl)] at hv
            cases hk
            cases hv
            obtain ⟨⟨l1, vs1, e4, m1, n1, z1, _⟩, _⟩ := q1
            obtain ⟨⟨l2, vs2, e3, m2, n2, z2, _⟩, _⟩ := q2
            cases e4
            cases e3
            rw [k2.2 _ _ rfl rfl] at z1
            cases z1
          · cases hk
        · rw [List.getElem?_set_ne hik] at hk hv
          exact q2.2 k fs hk hv
      | _ => exact q2⟩⟩⟩
end
end Wk
namespace Wk
open L2 RZ PyProof.Rows PySem.Spec PySem
section
variable {K : PySem.W.Frag} {F : Fm} {Mu : Addr → Prop} {σ : L2.St} {H : Hp} {δ : List Sl} {b : Nat}
/-- a list of the def's own changes -/
theorem Rep.own (R : Rep K F Mu σ H δ b) {i : Nat} {ds es : List PyData} {l : Addr} {ws : List V} (h : δ[i]? = some (Sl.own ds)) (hl : σ[i]? = some (some (.ref l))) (m : Mu l) (n : ¬ F.N0 l) (q : DqAll K Mu H ws es) :
    Rep K F Mu σ (upd H l (.lst ws)) (δ.set i (.own es)) b ∧ ExS Mu H Mu (upd H l (.lst ws)) := by
  have e : ExM Mu H (upd H l (.lst ws)) := ExM.at m
  have h0 : F.H0 l = none := (R.new l m).resolve_left n
  have hi : i < δ.length := (List.getElem?_eq_some_iff.mp h).1
  refine ⟨⟨by simp [R.len], fun a o z w => ?_, R.mu0, fun a z => ?_, R.new, fun j s hs => ?_, fun j k es1 es2 hn h1 h2 => ?_, fun m' hm => ?_⟩, e, fun _ h => .inl h, fun _ h => h⟩
  · rw [upd_ne (fun ea => by rw [ea, h0] at w; cases w)]
    exact R.ext a o z w
  · by_cases ea : a = l
    · rw [ea, upd_same]; simp
    · rw [upd_ne ea]; exact R.tr a z
  · rw [List.getElem?_set] at hs
    by_cases ej : i = j
    · subst ej
      rw [if_pos rfl, if_pos hi] at hs
      cases hs
      exact ⟨l, ws, hl, m, n, upd_same, q.exM e⟩
    · rw [if_neg ej] at hs
      have := R.sl j s hs
      cases s with
      | no => trivial
      | raw w => exact this
      | dat d => obtain ⟨w, z1, z2⟩ := this; exact ⟨w, z1, z2.exM e⟩
      | sta P => obtain ⟨w, z1, z2, z3⟩ := this; exact ⟨w, z1, z2, z2.ex _ _ _ _ z3 e⟩
      | own fs =>
        obtain ⟨l2, us, z1, z2, z3, z4, z5⟩ := this
        have ne : l2 ≠ l := fun el => R.own1 i j ds fs ej h hs (by rw [hl, z1, el])
        exact ⟨l2, us, z1, z2, z3, by rw [upd_ne ne]; exact z4, z5.exM e⟩
  · have g : ∀ {j : Nat} {fs : List PyData}, (δ.set i (Sl.own es))[j]? = some (Sl.own fs) → ∃ fs', δ[j]? = some (Sl.own fs') := fun {j fs} z => by
      rw [List.getElem?_set] at z
      by_cases ej : i = j
      · subst ej; exact ⟨ds, h⟩
      · rw [if_neg ej] at z; exact ⟨fs, z⟩
    obtain ⟨f1, g1⟩ := g h1
    obtain ⟨f2, g2⟩ := g h2
    exact R.own1 j k f1 f2 hn g1 g2
  · obtain ⟨z1, z2⟩ := R.mach m' hm
    have ne : m' ≠ l := fun em => n (by rw [← em]; exact z1)
    exact ⟨z1, z2.exM e (upd_ne ne)⟩
end
section
variable {X : Cx} {F : Fm} {a e c : Expr} {ta tb : TD} {tas tbs : TAD} {tc : TTD} {p pos apos cpos : Pos}
@[simp] def sApp (i : Nat) (t : TD) : TSD := fun D δ b => ∃ ds, δ[i]? = some (Sl.own ds) ∧ t δ b fun d b1 => ds.length < sizeLine ∧ D.nx (δ.set i (.own (ds ++ [d]))) b1
theorem s_app (i : Nat) {x : Str} (he : PD X F e ta) (hN : X.N[i]? = some x := by rfl) (hv : Vis X.env.scope x := by first | exact Or.inl rfl | exact Or.inr (Or.inl rfl) | exact Or.inr (Or.inr rfl)) (hd : (x == ("__debug__" : Str)) = false := by decide)
    (hcd : (x == ("__classdict__" : Str)) = false := by decide) (hbase : attributeBase (.Name x p) "append" X.env (eval (.Name x p) X.env) = eval (.Name x p) X.env := by rfl)
    (hfew : ((backTo cpos (starEach [e] X.env)).all (fun x => !x.1) && (backToKw cpos (keywordEach [] X.env)).all (fun x => x.1.isSome) && decide (([e]).length + ([] : List Keyword).length + (if ([] : List Keyword).isEmpty then 0 else 1) < 30)) = true := by rfl)
    (hline : (apos.endLine == cpos.line) = true := by rfl) (hs : starEach [e] X.env = (false, eval e X.env) :: starEach [] X.env := by rfl)
    (hsw : swapsWith (.Call (.Attribute (.Name x p) "append" apos) [e] [] cpos) none pos.line X.env = pure false := by rfl) :
    PSD X F (.Expr (.Call (.Attribute (.Name x p) "append" apos) [e] [] cpos) pos) (sApp i ta) :=
  ⟨PS.weak (ps_expr (pe_bm PySem.F.plainAttrs_list PySem.F.slot_list_append PySem.F.type_list_append mt_append (pe_var hN hv hd hcd) (pa_cons he.pe pa_nil hs) hbase hfew hline hs rfl) hsw) fun D σ H ⟨Mu, δ, b, D', R, ⟨ds, h1, h2⟩, l⟩ => by
    obtain ⟨p, vs, e1, m, n, q1, q2⟩ := R.sl i _ h1
    refine ⟨_, e1, .inl ⟨rfl, vs, .inl (.inl q1)⟩, cE.go R h2 fun v H1 d b1 R1 e2 q3 ⟨hz, z⟩ => ?_⟩
    obtain ⟨p', vs', e1', m', n', q1', q2'⟩ := R1.sl i _ h1
    rw [e1] at e1'; cases e1'
    obtain ⟨R2, x2⟩ := R1.own h1 e1 m' n' (q2'.append (.cons q3 .nil))
    exact ⟨p, vs', v, rfl, rfl, q1', by rw [q2'.length]; exact hz, l.nx _ _ _ _ _ R2 ((ExS.ofB e2).trans x2) z⟩⟩
@[simp] def sExt (i : Nat) (t : TAD) : TSD := fun D δ b => ∃ ds, δ[i]? = some (Sl.own ds) ∧ t δ b fun es b1 => ds.length + es.length ≤ sizeLine ∧ D.nx (δ.set i (.own (ds ++ es))) b1
theorem s_ext (i : Nat) {x : Str} (he : PDL X F e tas) (hN : X.N[i]? = some x := by rfl) (hv : Vis X.env.scope x := by first | exact Or.inl rfl | exact Or.inr (Or.inl rfl) | exact Or.inr (Or.inr rfl)) (hd : (x == ("__debug__" : Str)) = false := by decide)
    (hcd : (x == ("__classdict__" : Str)) = false := by decide) (hbase : attributeBase (.Name x p) "extend" X.env (eval (.Name x p) X.env) = eval (.Name x p) X.env := by rfl)
    (hfew : ((backTo cpos (starEach [e] X.env)).all (fun x => !x.1) && (backToKw cpos (keywordEach [] X.env)).all (fun x => x.1.isSome) && decide (([e]).length + ([] : List Keyword).length + (if ([] : List Keyword).isEmpty then 0 else 1) < 30)) = true := by rfl)
    (hline : (apos.endLine == cpos.line) = true := by rfl) (hs : starEach [e] X.env = (false, eval e X.env) :: starEach [] X.env := by rfl)
    (hsw : swapsWith (.Call (.Attribute (.Name x p) "extend" apos) [e] [] cpos) none pos.line X.env = pure false := by rfl) :
    PSD X F (.Expr (.Call (.Attribute (.Name x p) "extend" apos) [e] [] cpos) pos) (sExt i tas) :=
  ⟨PS.weak (ps_expr (pe_bm PySem.F.plainAttrs_list PySem.F.slot_list_extend PySem.F.type_list_extend mt_extend (pe_var hN hv hd hcd) (pa_cons he.pe pa_nil hs) hbase hfew hline hs rfl) hsw) fun D σ H ⟨Mu, δ, b, D', R, ⟨ds, h1, h2⟩, l⟩ => by
    obtain ⟨p, vs, e1, m, n, q1, q2⟩ := R.sl i _ h1
    refine ⟨_, e1, .inl ⟨rfl, vs, .inl (.inl q1)⟩, Mu, δ, b, _, R, h2, fun l2 H1 es b1 R1 e2 w ⟨hz, z⟩ => ?_⟩
    obtain ⟨p', vs', e1', m', n', q1', q2'⟩ := R1.sl i _ h1
    rw [e1] at e1'; cases e1'
    obtain ⟨ws, z1, z2⟩ := w H1 b1 R1 (ExB.refl H1)
    obtain ⟨R2, x2⟩ := R1.own h1 e1 m' n' (q2'.append z2)
    exact ⟨p, l2, vs', ws, rfl, rfl, q1', z1, by rw [q2'.length, z2.length]; exact hz, l.nx _ _ _ _ _ R2 ((ExS.ofB e2).trans x2) z⟩⟩
/-! ### for -/
def forGo (T : Tg) (body : TSD) (D : EndsD) : List PyData → List Sl → Nat → Prop
  | [], δ, b => D.nx δ b
  | d :: ds, δ, b => ∃ δ', T.put d δ = some δ' ∧ body { D with nx := forGo T body D ds, ct := forGo T body D ds, bk := D.nx } δ' b
@[simp] def sFor (src : TAD) (T : Tg) (body : TSD) : TSD := fun D δ b => src δ b fun ds b1 => forGo T body D ds δ b1
theorem s_for {tg iter : Expr} {sts : List Stmt} {src : TAD} {T : Tg} {body : TSD} (hp : PassesOwn (model X.prog X.w) X.A X.env X.xe) (hc : X.calm = true) (hi : PID X F tg iter src) (hg : PGD X F tg T) (hb : PSsD X F sts body)
    (hs : ∀ x, foldedSetIterable iter X.env x = pure x := by intro _; rfl) : PSD X F (.For tg iter sts [] pos) (sFor src T body) :=
  ⟨PS.weak (ps_for hp hc hi.pi hg.pg hb.ps hs) fun D σ H ⟨Mu, δ, b, D', R, h, l⟩ => ⟨Mu, δ, b, _, R, h, fun J H1 ds G b1 R1 e1 g1 wk h1 => by
    refine ⟨fun i m σ H => m = ds.length - i ∧ i ≤ ds.length ∧ ∃ Mu' δ' b', Rep X.K F Mu' σ H δ' b' ∧ ExS Mu H1 Mu' H ∧ G Mu' H ∧ forGo T body D' (ds.drop i) δ' b', ⟨_, rfl, Nat.zero_le _, Mu, δ, b1, R1, ExS.refl H1, g1, by simpa using h1⟩, ?_⟩
    rintro i m σ2 H2 ⟨em, hi, Mu2, δ2, b2, R2, x2, g2, h2⟩
    have l2 := l.step ((ExS.ofB e1).trans x2)
    by_cases hlt : i < ds.length
    · refine .inr ⟨wk.go _ _ _ g2 hlt, fun σ' H' => i + 1 ≤ ds.length ∧ ∃ Mu' δ' b', Rep X.K F Mu' σ' H' δ' b' ∧ ExS Mu H1 Mu' H' ∧ G Mu' H' ∧ forGo T body D' (ds.drop (i + 1)) δ' b', fun σ' H' z => ⟨ds.length - (i + 1), by omega, rfl, z⟩, fun x H3 hy => ?_⟩
      obtain ⟨keep, d, hd, qx⟩ := wk.yld _ _ _ _ _ g2 R2.tr hlt hy
      have hdr : ds.drop i = d :: ds.drop (i + 1) := by
        rw [List.drop_eq_getElem_cons hlt]; rw [List.getElem?_eq_getElem hlt] at hd
        cases hd; rfl
      rw [hdr] at h2
      obtain ⟨δ', hp, h3⟩ := h2
      have x3 : ExS Mu2 H2 Mu2 H3 := ⟨fun a o _ q => keep a o q, fun _ h => .inl h, fun _ h => h⟩
      have g3 := wk.ex _ _ _ g2 x3.1
      refine ⟨Mu2, δ2, b2, d, δ', R2.grow keep, qx, hp, fun σ3 R3 _ => ⟨Mu2, δ', b2, _, R3, h3, ?_⟩⟩
      have turn : ∀ Mu' σ' H' δ' b', Rep X.K F Mu' σ' H' δ' b' → ExS Mu2 H3 Mu' H' → forGo T body D' (ds.drop (i + 1)) δ' b' → i + 1 ≤ ds.length ∧ ∃ Mu' δ' b', Rep X.K F Mu' σ' H' δ' b' ∧ ExS Mu H1 Mu' H' ∧ G Mu' H' ∧ forGo T body D' (ds.drop (i + 1)) δ' b' :=
        fun Mu' σ' H' δ' b' R' x' z => ⟨hlt, Mu', δ', b', R', x2.trans (x3.trans x'), wk.ex _ _ _ (wk.mu _ _ _ g3 x'.2.1) fun a o n z => x'.1 a o (fun w => n (x'.2.2 a w)) z, z⟩
      exact ⟨turn, fun Mu' σ' H' δ' b' R' x' z => l2.nx _ _ _ _ _ R' (x3.trans x') z, turn, l2.rt⟩
    · have e : i = ds.length := by omega
      subst e
      rw [List.drop_length] at h2
      exact .inl ⟨wk.stop _ _ g2, l2.nx _ _ _ _ _ R2 (ExS.refl H2) h2⟩⟩⟩
end
end Wk
namespace Wk
open L2 RZ PyProof.Rows PySem.Spec PySem
/-! ### promises over data -/
/-- a def of data: what it is asked of, T -/
def spD (K : PySem.W.Frag) (T : List PyData → (PyData → Prop) → Prop) : Sp := fun vs H Q _ => ∃ (Mu : Addr → Prop) (ds : List PyData) (Q' : PyData → Prop), (∀ a, Mu a → H a ≠ none) ∧ DqAll K Mu H vs ds ∧ T ds Q' ∧
  ∀ v H' d, (∀ a o, H a = some o → H' a = some o) → Dq K Mu H' v d → Q' d → Q v H'
/-- .. whose first argument is the machine -/
def spM (K : PySem.W.Frag) (T : List PyData → Nat → (PyData → Nat → Prop) → Prop) : Sp := fun vs H Q _ => ∃ (Mu : Addr → Prop) (m : Addr) (ws : List V) (ds : List PyData) (b : Nat) (Q' : PyData → Nat → Prop), vs = .ref m :: ws ∧ Mu m ∧ (∀ a, Mu a → H a ≠ none) ∧ MOk K Mu H m b ∧ DqAll K Mu H ws ds ∧ T ds b Q' ∧
  ∀ v H' d b', (∀ a o, a ≠ m → H a = some o → H' a = some o) → MOk K Mu H' m b' → Dq K Mu H' v d → Q' d b' → Q v H'
/-- what is called by name -/
structure Cal (P : Program) (w : World) (K : PySem.W.Frag) (mg : Str → Option Value) (base : Heap) (k : Nat) (x : Str) (sp : Sp) : Prop where
  at_ : mg x = some (.ref (He.ga K x))
  kp : PySem.W.keepIn K (.ref (He.ga K x)) = true
  ok : ∃ fd ps, FnOk P w K mg base (L2.CX P w) k (He.ga K x) fd ps sp ∧ Binds K fd ps []
theorem Cal.mono {P : Program} {w : World} {K : PySem.W.Frag} {mg : Str → Option Value} {base : Heap} {j k : Nat} {x : Str} {sp : Sp} (c : Cal P w K mg base j x sp) (h : j ≤ k) : Cal P w K mg base k x sp :=
  ⟨c.at_, c.kp, let ⟨fd, ps, h1, h2⟩ := c.ok; ⟨fd, ps, h1.mono h, h2⟩⟩
theorem Cal.imp {P : Program} {w : World} {K : PySem.W.Frag} {mg : Str → Option Value} {base : Heap} {k : Nat} {x : Str} {sp sp' : Sp} (c : Cal P w K mg base k x sp) (h : ∀ vs H Q E, sp' vs H Q E → sp vs H Q E) : Cal P w K mg base k x sp' :=
  ⟨c.at_, c.kp, let ⟨fd, ps, h1, h2⟩ := c.ok; ⟨fd, ps, h1.imp h, h2⟩⟩
def EF : XK := fun _ _ _ => False
theorem passF {X : Cx} {P : Program} {w : World} : Passes (L2.CX P w) X EF := fun _ _ _ _ _ _ _ ⟨_, _, _, _, _, _, _, _, _, _, _, _, h⟩ => h.elim
section
variable {X : Cx} {F : Fm} {e : Expr} {es : List Expr} {tas : TAD} {p pos p2 : Pos} {k n : Nat} {x : Str}
@[simp] def dCall (T : List PyData → (PyData → Prop) → Prop) (t : TAD) : TD := fun δ b Q => t δ b fun ds b1 => T ds fun d => Q d b1
theorem d_call {T : List PyData → (PyData → Prop) → Prop} (c : Cal X.prog X.w X.K X.mg X.base k x (spD X.K T)) (hr : Room k X.A) (ha : PDA X F (e :: es) tas) (hg : Gl X x := by rfl) (hdb : (x == ("__debug__" : Str)) = false := by decide)
    (he : starEach (e :: es) X.env = (false, eval e X.env) :: starEach es X.env := by rfl) (hpl : (backTo pos (starEach es X.env)).any (·.1) = false := by rfl) : PD X F (.Call (.Name x p) (e :: es) [] pos) (dCall T tas) := by
  obtain ⟨fd, ps, h1, h2⟩ := c.ok
  refine ⟨PE.weak (pe_call h1 hr hg c.at_ c.kp h2 (dvs := []) .nil (E := EF) (passF (P := X.prog) (w := X.w)) ha.pa hdb he hpl) ?_⟩
  rintro σ H Q ⟨Mu, δ, b, Q', R, h, k'⟩
  refine cA.go R h fun vs H1 ds b1 R1 e1 q1 h1 => ?_
  rw [List.append_nil]
  exact ⟨Mu, ds, fun d => Q' d b1, R1.tr, q1, h1, fun v H' d keep q hQ => k' v H' d b1 (R1.grow keep) (e1.trans (ExB.all keep)) q hQ⟩
/-- f(the machine, e, ..) -/
@[simp] def dCallM (i : Nat) (T : List PyData → Nat → (PyData → Nat → Prop) → Prop) (t : TAD) : TD := fun δ b Q => (∃ m, F.m = some m ∧ δ[i]? = some (Sl.raw (.ref m))) ∧ t δ b fun ds b1 => T ds b1 Q
end
/-- only the machine has changed -/
theorem Rep.ran {K : PySem.W.Frag} {F : Fm} {Mu : Addr → Prop} {σ : L2.St} {H H' : Hp} {δ : List Sl} {b b' : Nat} {m : Addr} (R : Rep K F Mu σ H δ b) (hm : F.m = some m) (keep : ∀ a o, a ≠ m → H a = some o → H' a = some o) (q : MOk K Mu H' m b') : Rep K F Mu σ H' δ b' ∧ ExB F Mu H H' := by
  obtain ⟨n0, _⟩ := R.mach m hm
  have mm : Mu m := R.mu0 m n0
  have e : ExM Mu H H' := fun a o n z => keep a o (fun ea => n (by rw [ea]; exact mm)) z
  have hs : H' m ≠ none := by obtain ⟨_, _, _, _, z, _⟩ := q; rw [z]; simp
  refine ⟨⟨R.len, fun a o n z => keep a o (fun ea => n (by rw [ea]; exact hm)) (R.ext a o n z), R.mu0, fun a z w => ?_, R.new, fun i s hs => ?_, R.own1, fun m' hm' => ?_⟩, fun a o n z => keep a o (fun ea => n (by rw [ea]; exact hm)) z, e⟩
  · by_cases ea : a = m
    · exact hs (by rw [← ea]; exact w)
    · cases q2 : H a with
      | none => exact R.tr a z q2
      | some o => rw [keep a o ea q2] at w; cases w
  · have := R.sl i s hs
    cases s with
    | no => trivial
    | raw w => exact this
    | dat d => obtain ⟨w, z1, z2⟩ := this; exact ⟨w, z1, z2.exM e⟩
    | sta P => obtain ⟨w, z1, z2, z3⟩ := this; exact ⟨w, z1, z2, z2.ex _ _ _ _ z3 e⟩
    | own ds =>
      obtain ⟨l, ws, z1, z2, z3, z4, z5⟩ := this
      exact ⟨l, ws, z1, z2, z3, keep _ _ (fun el => z3 (by rw [el]; exact n0)) z4, z5.exM e⟩
  · rw [hm] at hm'
    cases hm'
    exact ⟨n0, q⟩
section
variable {X : Cx} {F : Fm} {e : Expr} {es : List Expr} {tas : TAD} {p pos p2 : Pos} {k n : Nat} {x y : Str}
theorem d_callM (i : Nat) {T : List PyData → Nat → (PyData → Nat → Prop) → Prop} (c : Cal X.prog X.w X.K X.mg X.base k x (spM X.K T)) (hr : Room k X.A) (ha : PDA X F es tas) (hN : X.N[i]? = some y := by rfl) (hv : Vis X.env.scope y := by first | exact Or.inl rfl | exact Or.inr (Or.inl rfl) | exact Or.inr (Or.inr rfl))
    (hg : Gl X x := by rfl) (hdb : (x == ("__debug__" : Str)) = false := by decide) (hyd : (y == ("__debug__" : Str)) = false := by decide) (hcd : (y == ("__classdict__" : Str)) = false := by decide)
    (he : starEach (.Name y p2 :: es) X.env = (false, eval (.Name y p2) X.env) :: starEach es X.env := by rfl) (hpl : (backTo pos (starEach es X.env)).any (·.1) = false := by rfl) : PD X F (.Call (.Name x p) (.Name y p2 :: es) [] pos) (dCallM (F := F) i T tas) := by
  obtain ⟨fd, ps, h1, h2⟩ := c.ok
  refine ⟨PE.weak (pe_call h1 hr hg c.at_ c.kp h2 (dvs := []) .nil (E := EF) (passF (P := X.prog) (w := X.w)) (pa_cons (pe_var hN hv hyd hcd) ha.pa he) hdb he hpl) ?_⟩
  rintro σ H Q ⟨Mu, δ, b, Q', R, ⟨⟨m, hm, hi⟩, h⟩, k'⟩
  refine ⟨.ref m, R.sl i _ hi, cA.go R h fun vs H1 ds b1 R1 e1 q1 h1 => ?_⟩
  show spM X.K T ((V.ref m :: vs) ++ []) H1 Q EF
  rw [List.append_nil]
  obtain ⟨n0, mk⟩ := R1.mach m hm
  refine ⟨Mu, m, vs, ds, b1, Q', rfl, R1.mu0 m n0, R1.tr, mk, q1, h1, fun v H' d b' keep mk' q hQ => ?_⟩
  obtain ⟨R2, e2⟩ := R1.ran hm keep mk'
  exact k' v H' d b' R2 (e1.trans e2) q hQ
end
/-! ### from a body's reading to the def's promise -/
def startD (n : Nat) (ds : List PyData) : List Sl := ds.map Sl.dat ++ List.replicate (n - ds.length) .no
theorem start_rep {K : PySem.W.Frag} {Mu : Addr → Prop} {H : Hp} {vs : List V} {ds : List PyData} {N : List Str} (tr : ∀ a, Mu a → H a ≠ none) (q : DqAll K Mu H vs ds) : Rep K ⟨H, Mu, none⟩ Mu (L2.start N vs) H (startD N.length ds) 0 := by
  have hl := q.length
  refine ⟨by simp [L2.start, startD, hl], fun a o _ z => z, fun a z => z, tr, fun a z => .inl z, fun i s hs => ?_, fun i j es es' hn h1 h2 => ?_, fun m hm => nomatch hm⟩
  · unfold startD at hs
    by_cases hi : i < ds.length
    · rw [List.getElem?_append_left (by simpa using hi), List.getElem?_map] at hs
      obtain ⟨d, hd, rfl⟩ := Option.map_eq_some_iff.mp hs
      obtain ⟨v, h1, h2⟩ := q.get hd
      exact ⟨v, by unfold L2.start; rw [List.getElem?_append_left (by simp; omega), List.getElem?_map, h1]; rfl, h2⟩
    · rw [List.getElem?_append_right (by simpa using hi), List.getElem?_replicate] at hs
      split at hs <;> cases hs
      trivial
  · unfold startD at h1
    by_cases hi : i < ds.length
    · rw [List.getElem?_append_left (by simpa using hi), List.getElem?_map] at h1
      obtain ⟨d, hd, e⟩ := Option.map_eq_some_iff.mp h1
      cases e
    · rw [List.getElem?_append_right (by simpa using hi), List.getElem?_replicate] at h1
      split at h1 <;> cases h1
/-- .. with the machine in front -/
def startM (m : Addr) (n : Nat) (ds : List PyData) : List Sl := .raw (.ref m) :: startD (n - 1) ds
theorem start_repM {K : PySem.W.Frag} {Mu : Addr → Prop} {H : Hp} {m : Addr} {vs : List V} {ds : List PyData} {N : List Str} {b : Nat} (tr : ∀ a, Mu a → H a ≠ none) (hm : Mu m) (mk : MOk K Mu H m b) (q : DqAll K Mu H vs ds) (hN : N ≠ []) : Rep K ⟨H, Mu, some m⟩ Mu (L2.start N (.ref m :: vs)) H (startM m N.length ds) b := by
  have hl := q.length
  obtain ⟨n0, Nr, rfl⟩ := List.exists_cons_of_ne_nil hN
  have e : L2.start (n0 :: Nr) (.ref m :: vs) = some (.ref m) :: L2.start Nr vs := by simp [L2.start]
  rw [e]
  have R := start_rep (N := Nr) tr q
  have hlen : (n0 :: Nr).length - 1 = Nr.length := by simp
  unfold startM
  rw [hlen]
  refine ⟨by simp [R.len], fun a o _ z => z, fun a z => z, tr, fun a z => .inl z, fun i s hs => ?_, fun i j es es' hn h1 h2 => ?_, fun m' hm' => by cases hm'; exact ⟨hm, mk⟩⟩
  · cases i with
    | zero => simp at hs; subst hs; rfl
    | succ i =>
      have := R.sl i s (by simpa using hs)
      cases s with
      | no => trivial
      | _ => exact this
  · cases i with
    | zero => simp at h1
    | succ i =>
      cases j with
      | zero => simp at h2
      | succ j => simpa using R.own1 i j es es' (by omega) (by simpa using h1) (by simpa using h2)
section
variable {K : PySem.W.Frag} {P : Program} {w : World} {base : Heap} {mg : Str → Option Value}
theorem fnD {x : Str} {params : Arguments} {body : List Stmt} {scope : Scope} {fd : FuncData} {N ps : List Str} {k : Nat} {T : List PyData → (PyData → Prop) → Prop} {t : TSD} (F : FunD K x x params body scope [] [] (He.ga K x) fd) (hm : mg x = some (.ref (He.ga K x))) (S : FnScope N ps scope)
    (hT : ∀ ds Q, T ds Q → ds.length = ps.length)
    (hb : ∀ (kV doc pm : Value) (an : Option Addr) (cdv ct : Value) (us : List Value), us.length = ps.length → bindArgs (PySem.W.fnOf x x params body scope .none kV doc pm an cdv ct) ⟨us, []⟩ = pure (ps.zip us))
    (hbody : ∀ (cdv : Value) (A : Around) (outer : List Env) (s : Shared) (H : Hp) (Fr : Fm) (E : XK), Room k (A.deeper (envOfC x scope s.heap.objs.size (He.ga K x) cdv)) → PSsD (cxOf (L2.CX P w) P w K mg base N x scope (He.ga K x) cdv A outer s H E) Fr body t)
    (hp : ∀ ds Q, T ds Q → t { nx := fun _ _ => Q .none, rt := fun d _ => Q d } (startD N.length ds) 0) : Cal P w K mg base (k + 1) x (spD K T) := by
  refine ⟨hm, F.kp, fd, ps, F.ok S (fun vs H Q E ⟨Mu, ds, Q', _, q, h, _⟩ => by rw [q.length]; exact hT ds Q' h) (fun cdv A outer s H vs Q E hr ⟨Mu, ds, Q', tr, q, h, k'⟩ => ⟨_, (hbody cdv A outer s H ⟨H, Mu, none⟩ E hr).ps, Mu, _, 0, _, start_rep tr q, hp ds Q' h, ?_, fun _ _ _ _ _ _ _ z => z.elim, fun _ _ _ _ _ _ _ z => z.elim, ?_⟩), F.bindsN hb⟩
  · exact fun Mu' σ' H' δ' b' R _ z => k' _ _ _ (fun a o q => R.ext a o (fun e => nomatch e) q) .non z
  · exact fun v H' d b' e _ q z => k' _ _ _ (fun a o q => e a o (fun e => nomatch e) q) q z
theorem fnM {x : Str} {params : Arguments} {body : List Stmt} {scope : Scope} {fd : FuncData} {N ps : List Str} {k : Nat} {T : List PyData → Nat → (PyData → Nat → Prop) → Prop} {t : Fm → TSD} (F : FunD K x x params body scope [] [] (He.ga K x) fd) (hm : mg x = some (.ref (He.ga K x))) (S : FnScope N ps scope) (hN : N ≠ [])
    (hT : ∀ ds b Q, T ds b Q → ds.length + 1 = ps.length)
    (hb : ∀ (kV doc pm : Value) (an : Option Addr) (cdv ct : Value) (us : List Value), us.length = ps.length → bindArgs (PySem.W.fnOf x x params body scope .none kV doc pm an cdv ct) ⟨us, []⟩ = pure (ps.zip us))
    (hbody : ∀ (cdv : Value) (A : Around) (outer : List Env) (s : Shared) (H : Hp) (Fr : Fm) (E : XK), Room k (A.deeper (envOfC x scope s.heap.objs.size (He.ga K x) cdv)) → PSsD (cxOf (L2.CX P w) P w K mg base N x scope (He.ga K x) cdv A outer s H E) Fr body (t Fr))
    (hp : ∀ (Fr : Fm) m ds b Q, Fr.m = some m → T ds b Q → t Fr { nx := fun _ b' => Q .none b', rt := Q } (startM m N.length ds) b) : Cal P w K mg base (k + 1) x (spM K T) := by
  refine ⟨hm, F.kp, fd, ps, F.ok S (fun vs H Q E ⟨Mu, m, ws, ds, b, Q', e, _, _, _, q, h, _⟩ => by rw [e, List.length_cons, q.length]; exact hT ds b Q' h) (fun cdv A outer s H vs Q E hr ⟨Mu, m, ws, ds, b, Q', e, mm, tr, mk, q, h, k'⟩ => ⟨_, (hbody cdv A outer s H ⟨H, Mu, some m⟩ E hr).ps, Mu, _, b, _, by rw [e]; exact start_repM tr mm mk q hN, hp ⟨H, Mu, some m⟩ m ds b Q' rfl h, ?_, fun _ _ _ _ _ _ _ z => z.elim, fun _ _ _ _ _ _ _ z => z.elim, ?_⟩), F.bindsN hb⟩
  · intro Mu' σ' H' δ' b' R _ z
    obtain ⟨_, mk'⟩ := R.mach m rfl
    exact k' _ _ _ _ (fun a o n q => R.ext a o (fun e => n (Option.some.inj e).symm) q) (mk'.mu fun a z => .inl (R.mu0 a z)) .non z
  · exact fun v H' d b' e mk' q z => k' _ _ _ _ (fun a o n q => e a o (fun e => n (Option.some.inj e).symm) q) (mk' m rfl) q z
end
end Wk
namespace Wk
open L2 RZ PyProof.Rows PySem.Spec PySem
/-- what the walks lean on -/
structure Wo (P : Program) (w : World) (K : PySem.W.Frag) (mg : Str → Option Value) (base : Heap) : Prop where
  hp : ∃ h : Heap, K.In h ∧ h.Ns mainGlobals mg
  fact : ∀ f ∈ FA, f.ok K = true
  tups : ∀ q ∈ TUPS, He.tupB K q.1 (q.2.map He.Dv.str) = true
  tupn : ∀ q ∈ TUPS, tupN K q.1 = true
  defs : ∀ d ∈ FN, ∃ fd, FunD K d.name d.qual d.params d.body d.scope (d.dvs K) (d.kws K) (He.fAd K d.at_) fd
section
variable {K : PySem.W.Frag} {P : Program} {w : World} {base : Heap} {mg : Str → Option Value}
theorem Wo.free (W : Wo P w K mg base) (i : Nat) {x : Str} (h : FA[i]? = some (.free x) := by rfl) : mg x = none := by
  obtain ⟨hp, h1, h2⟩ := W.hp
  exact He.free_ok h1 h2 (W.fact _ (List.mem_of_getElem? h))
theorem Wo.glo (W : Wo P w K mg base) (i : Nat) {x : Str} (h : FA[i]? = some (.glo x) := by rfl) : mg x = some (.ref (He.ga K x)) := by
  obtain ⟨hp, h1, h2⟩ := W.hp
  exact He.glo_ok h1 h2 (W.fact _ (List.mem_of_getElem? h))
theorem Wo.int (W : Wo P w K mg base) (i : Nat) {x : Str} {z : Int} (h : FA[i]? = some (.int x z) := by rfl) : ∃ t, mg x = some (.int z t) := by
  obtain ⟨hp, h1, h2⟩ := W.hp
  exact He.int_ok h1 h2 (W.fact _ (List.mem_of_getElem? h))
theorem Wo.str (W : Wo P w K mg base) (i : Nat) {x z : Str} (h : FA[i]? = some (.str x z) := by rfl) : ∃ t, mg x = some (.str z t) := by
  obtain ⟨hp, h1, h2⟩ := W.hp
  exact He.str_ok h1 h2 (W.fact _ (List.mem_of_getElem? h))
theorem Wo.fun (W : Wo P w K mg base) (i j : Nat) {x : Str} (h : FN[i]? = some (dDef x j) := by rfl) : ∃ fd, FunD K x x (defArgs (top j)) (defBody (top j)) (defScope (top j)) [] [] (He.ga K x) fd := W.defs _ (List.mem_of_getElem? h)
theorem Wo.tup (W : Wo P w K mg base) (i : Nat) {x : Str} {ys : List Str} (h : TUPS[i]? = some (x, ys) := by rfl) (Mu : Addr → Prop) (H : Hp) : Dq K Mu H (.ref (He.ga K x)) (.tuple (ys.map PyData.str)) := by
  have h1 := He.tupB_ok (W.tups _ (List.mem_of_getElem? h)) (fun _ => none)
  have e : (ys.map He.Dv.str).map (He.Dv.v K) = ys.map V.str := by rw [List.map_map]; rfl
  rw [e] at h1
  refine .tup (.inr (h1.resolve_left fun z => ?_)) (DqAll.ofStrs ys)
  rcases z with z | ⟨_, z⟩ <;> cases z
theorem Wo.tup1 (W : Wo P w K mg base) (i : Nat) {x : Str} {ys : List Str} (h : TUPS[i]? = some (x, ys) := by rfl) (H : Hp) : SqT K H (He.ga K x) (ys.map V.str) := by
  have h1 := He.tupB_ok (W.tups _ (List.mem_of_getElem? h)) H
  have e : (ys.map He.Dv.str).map (He.Dv.v K) = ys.map V.str := by rw [List.map_map]; rfl
  rw [e] at h1
  exact h1
theorem Wo.tup0 (W : Wo P w K mg base) (i : Nat) {x : Str} {ys : List Str} (h : TUPS[i]? = some (x, ys) := by rfl) : ∃ o, K.lookup (He.ga K x) = some o ∧ o.cls = .type "tuple" ∧ o.dict = none := by
  have h1 := W.tupn _ (List.mem_of_getElem? h)
  have h2 := W.tup1 i h (fun _ => none)
  rcases h2 with (z | ⟨_, z⟩) | ⟨o, _, _, z1, z2, _⟩
  · cases z
  · cases z
  · refine ⟨o, z1, z2, ?_⟩
    have h3 : (match K.lookup (He.ga K x) with | some ⟨_, none, _, _⟩ => true | _ => false) = true := h1
    rw [z1] at h3
    obtain ⟨oc, od, dt, sl⟩ := o
    cases od with
    | none => rfl
    | some d => cases h3
theorem d_gtup {X : Cx} {F : Fm} {x : Str} {ys : List Str} {pos : Pos} (hg : Gl X x) (hm : X.mg x = some (.ref (He.ga X.K x))) (hq : ∀ Mu H, Dq X.K Mu H (.ref (He.ga X.K x)) (.tuple (ys.map PyData.str))) (hd : (x == ("__debug__" : Str)) = false := by decide) : PD X F (.Name x pos) (dC (.tuple (ys.map PyData.str))) :=
  d_glob (v := .ref (He.ga X.K x)) hg hm rfl hq hd
end
end Wk
namespace Wk
open L2 RZ PyProof.Rows PySem.Spec PySem
def noOwnB (vs : List Nat) (δ : List Sl) : Bool := vs.all fun i => match δ[i]? with | some (.own _) => false | _ => true
theorem noOwn_by {vs : List Nat} {δ : List Sl} (h : noOwnB vs δ = true) : noOwn vs δ := fun i hi ds e => by
  have := List.all_eq_true.mp h i hi
  rw [e] at this
  cases this
section
variable {X : Cx} {F : Fm} {pos spos : Pos}
/-- name = [..], the list built in its place, that is data -/
theorem s_setLcD (i : Nat) {y : Str} {py : Pos} {elt tg iter : Expr} {ifs : List Expr} {scope : Scope} (own : List (Str × Nat)) {src : TAD} {T : Tg} {tt : TTD} {te : TD} (hc : X.calm = true) (hN : X.N.Nodup) (hi : PID X F tg iter src) (ok : BlkOk X.N X.env.scope scope own)
    (hT : ∀ i ∈ T.ixs, i ∈ own.map (·.2))
    (hg : ∀ (s : Shared) (H : Hp) (C : Addr) (cl : List (Str × Addr)) (fp : List Addr), PGD (X.blk s H scope (compEnvC scope cl C X.env) fp) F tg T) (ht : ∀ (s : Shared) (H : Hp) (C : Addr) (cl : List (Str × Addr)) (fp : List Addr), PTsD (X.blk s H scope (compEnvC scope cl C X.env) fp) F ifs tt)
    (he : ∀ (s : Shared) (H : Hp) (C : Addr) (cl : List (Str × Addr)) (fp : List Addr), PD (X.blk s H scope (compEnvC scope cl C X.env) fp) F elt te) (hsw : swapsWith (.ListComp elt [⟨tg, iter, ifs, 0⟩] scope pos) (some (.Name y py)) spos.line X.env = pure true)
    (hy : X.N[i]? = some y := by rfl) (hyl : X.env.scope.names.lookup y = some .local := by rfl) (hs : ∀ x, foldedSetIterable iter X.env x = pure x := by intro _; rfl) :
    PSD X F (.Assign [.Name y py] (.ListComp elt [⟨tg, iter, ifs, 0⟩] scope pos) spos) (sSet i (fDat (dList (nLc src T tt te (own.map (·.2)))))) :=
  ⟨PS.weak (ps_setLc hc hN hy hyl hsw hi.pi ok (g := cG X.K F T) (tt := cT X.K F tt) (te := cE X.K F te) (fun s H C cl fp => (hg s H C cl fp).pg) (fun s H C cl fp => (ht s H C cl fp).pt) (fun s H C cl fp => (he s H C cl fp).pe) hs) fun D σ H ⟨Mu, δ, b, D', R, h, l⟩ =>
    lc_go hT ⟨Mu, δ, b, _, R, h, fun p H1 vs ds b1 R1 e1 hp hl q1 z =>
      l.nx _ _ _ _ _ ((R1.fresh hp).fill (s := .dat (.list ds)) (show Dq X.K Mu _ _ _ from .lst (.of upd_same (R1.nmu hp)) (q1.exM (ExM.new hp)))) (ExS.ofB (e1.trans (ExB.new hp))) z⟩⟩
/-! ### two clauses -/
def lc2Go (T : Tg) (src1 : TAD) (T1 : Tg) (te : TD) (vs vs1 : List Nat) (δ : List Sl) : List PyData → List PyData → Nat → (List PyData → Nat → Prop) → Prop
  | [], acc, b, Q => Q acc b
  | d :: ds, acc, b, Q => ∃ δ', T.put d δ = some δ' ∧ noOwn vs δ' ∧ src1 δ' b fun ds1 b3 => acc.length + ds1.length ≤ sizeLine ∧ lcGo T1 dYes te (wipeD δ' vs1) ds1 acc b3 fun acc' b4 => lc2Go T src1 T1 te vs vs1 δ ds acc' b4 Q
@[simp] def nLc2 (src : TAD) (T : Tg) (src1 : TAD) (T1 : Tg) (te : TD) (vs vs1 : List Nat) : TAD := fun δ b Q => noOwn vs δ ∧ src δ b fun ds b1 => lc2Go T src1 T1 te vs vs1 (wipeD δ vs) ds [] b1 fun acc b2 => acc.length ≤ sizeLine ∧ Q acc b2
theorem wipe_sub {σ : L2.St} {ws : List Nat} : ∀ {us : List Nat}, (∀ u ∈ us, u ∈ ws) → L2.wipe (L2.wipe σ us) ws = L2.wipe σ ws
  | [], _ => rfl
  | u :: us, hu => by
    show L2.wipe ((L2.wipe σ us).set u none) ws = _
    rw [wipe_set (hu u (by simp)), wipe_sub fun v hv => hu v (by simp [hv])]
theorem wipeD_sub {δ : List Sl} {ws : List Nat} : ∀ {us : List Nat}, (∀ u ∈ us, u ∈ ws) → wipeD (wipeD δ us) ws = wipeD δ ws
  | [], _ => rfl
  | u :: us, hu => by
    show wipeD ((wipeD δ us).set u .no) ws = _
    rw [wipeD_set (hu u (by simp)), wipeD_sub fun v hv => hu v (by simp [hv])]
/-- the growing list's state -/
structure AccS (K : PySem.W.Frag) (F : Fm) (Mu : Addr → Prop) (D : Addr) (H1 : Hp) (σ : L2.St) (δ : List Sl) (H : Hp) (b : Nat) (acc : List PyData) (vs : List V) : Prop where
  hl : H D = some (.lst vs)
  q : DqAll K (fun a => Mu a ∨ a = D) H vs acc
  R : Rep K F (fun a => Mu a ∨ a = D) σ H δ b
  k1 : ∀ a o, F.m ≠ some a → H1 a = some o → H a = some o
  k2 : ExM Mu H1 H
theorem AccS.stepB {K : PySem.W.Frag} {Mu : Addr → Prop} {D : Addr} {H1 : Hp} {σ σ2 : L2.St} {δ δ2 : List Sl} {H H2 : Hp} {b b2 : Nat} {acc : List PyData} {vs : List V} {ws : List Nat} (a : AccS K F Mu D H1 σ δ H b acc vs) (hD : H1 D = none) (hmD : F.m ≠ some D) (R2 : Rep K F (fun a => Mu a ∨ a = D) σ2 H2 δ2 b2)
    (e : ExB F (fun a => Mu a ∨ a = D) H H2) (w1 : L2.wipe σ2 ws = L2.wipe σ ws) (w2 : wipeD δ2 ws = wipeD δ ws) (hn : noOwn ws δ) : AccS K F Mu D H1 σ δ H2 b2 acc vs :=
  ⟨e.1 D _ hmD a.hl, a.q.ex e, a.R.carry R2 e.2 w1 w2 hn, fun x o n z => e.1 x o n (a.k1 x o n z), fun x o n z => e.2 x o (fun w => w.elim n fun w => by rw [w, hD] at z; cases z) (a.k2 x o n z)⟩
theorem AccS.app {K : PySem.W.Frag} {Mu : Addr → Prop} {D : Addr} {H1 : Hp} {σ : L2.St} {δ : List Sl} {H : Hp} {b : Nat} {acc : List PyData} {vs : List V} {v : V} {d : PyData} (a : AccS K F Mu D H1 σ δ H b acc vs) (hD : H1 D = none) (nD : ¬ Mu D) (R0 : ∀ a, F.N0 a → Mu a)
    (hs0 : ∀ (i : Nat) ds, δ[i]? = some (Sl.own ds) → σ[i]? ≠ some (some (V.ref D))) (h0 : F.H0 D = none) (q : Dq K (fun a => Mu a ∨ a = D) H v d) : AccS K F Mu D H1 σ δ (upd H D (.lst (vs ++ [v]))) b (acc ++ [d]) (vs ++ [v]) :=
  ⟨upd_same, (a.q.append (.cons q .nil)).exM (ExM.at (.inr rfl)), a.R.chg nD R0 hs0 h0, fun x o n z => by rw [upd_ne (ne_of_none z hD)]; exact a.k1 x o n z, fun x o n z => by rw [upd_ne (ne_of_none z hD)]; exact a.k2 x o n z⟩
theorem lc2_go {K : PySem.W.Frag} {src src1 : TAD} {T T1 : Tg} {te : TD} {ws vs1 : List Nat} (hT : ∀ i ∈ T.ixs, i ∈ ws) (hT1 : ∀ i ∈ T1.ixs, i ∈ vs1) (hv : ∀ i ∈ vs1, i ∈ ws) {σ : L2.St} {H : Hp} {Q : VK} :
    cN K F (nLc2 src T src1 T1 te ws vs1) σ H Q → tLc2 (cI K F src) (cG K F T) (cT K F dYes) (cI K F src1) (cG K F T1) (cT K F dYes) (cE K F te) ws vs1 σ H Q := by
  rintro ⟨Mu, δ, b, Q', R, ⟨hno, h⟩, k⟩
  refine ⟨Mu, δ, b, _, R, h, fun J H1 ds G b1 R1 e1 g1 wk h1 D hD => ?_⟩
  have nD : ¬ Mu D := R1.nmu hD
  have R0 := R1.mu0
  have hs0 : ∀ (i : Nat) ds, δ[i]? = some (Sl.own ds) → σ[i]? ≠ some (some (V.ref D)) := fun i ds q z => by
    obtain ⟨l, us, z1, _, _, z4, _⟩ := R1.sl i _ q
    rw [z1] at z
    cases z
    rw [hD] at z4; cases z4
  have hmD : F.m ≠ some D := fun hm => by
    obtain ⟨_, _, _, _, _, w, _⟩ := R1.mach D hm
    rw [w] at hD; cases hD
  have h0 : F.H0 D = none := by
    cases q : F.H0 D with
    | none => rfl
    | some u => rw [R1.ext D u hmD q] at hD; cases hD
  let M2 : Addr → Prop := fun a => Mu a ∨ a = D
  let Wi : Nat → Nat → Hp → Prop := fun i m H => m = ds.length - i ∧ i ≤ ds.length ∧ ∃ b acc vs, AccS K F Mu D H1 σ δ H b acc vs ∧ G M2 H ∧ lc2Go T src1 T1 te ws vs1 (wipeD δ ws) (ds.drop i) acc b fun acc b2 => acc.length ≤ sizeLine ∧ Q' acc b2
  refine ⟨Wi, ⟨_, rfl, Nat.zero_le _, b1, [], [], ⟨upd_same, .nil, R1.more hD, fun a o _ z => by rw [upd_ne (ne_of_none z hD)]; exact z, fun a o _ z => by rw [upd_ne (ne_of_none z hD)]; exact z⟩, wk.ex _ _ _ (wk.mu _ _ _ g1 fun a z => z.imp id fun z => by rw [z]; exact hD) (ExM.at (.inr rfl)), by simpa using h1⟩, ?_⟩
  rintro i m H2 ⟨em, hi, b2, acc, vs, A2, g2, h2⟩
  by_cases hlt : i < ds.length
  · refine .inr ⟨wk.go _ _ _ g2 hlt, fun H' => ∃ m', Wi (i + 1) m' H', fun H' ⟨m', w⟩ => ⟨m', by rw [w.1, em]; omega, w⟩, fun x H3 hy => ?_⟩
    obtain ⟨keep, d, hd, qx⟩ := wk.yld _ _ _ _ _ g2 A2.R.tr hlt hy
    have hdr : ds.drop i = d :: ds.drop (i + 1) := by
      rw [List.drop_eq_getElem_cons hlt]; rw [List.getElem?_eq_getElem hlt] at hd
      cases hd; rfl
    rw [hdr] at h2
    obtain ⟨δ', hp, hno', h3⟩ := h2
    have eb0 : ExB F M2 H2 H3 := ExB.all keep
    have A3 : AccS K F Mu D H1 σ δ H3 b2 acc vs := A2.stepB hD hmD (A2.R.grow keep) eb0 rfl rfl hno
    refine ⟨M2, wipeD δ ws, b2, d, δ', A3.R.wipe ws, qx, hp, fun σ2 Ra wa => ?_⟩
    have w1 := wa ws hT
    have k1 : L2.wipe σ2 ws = L2.wipe σ ws := w1.1.trans (wipe_sub fun _ h => h)
    have k2 : wipeD δ' ws = wipeD δ ws := w1.2.trans (wipeD_sub fun _ h => h)
    refine ⟨k1, M2, δ', b2, _, Ra, (show dYes δ' b2 (fun c b => c = true ∧ b = b2) from ⟨rfl, rfl⟩), fun c H4 b4 R4 e4 hc4 => ?_⟩
    obtain ⟨rfl, rfl⟩ := hc4
    show if true = true then _ else _
    rw [if_pos rfl]
    have A4 := A3.stepB hD hmD R4 e4 k1 k2 hno
    have g4 := wk.ex _ _ _ (wk.ex _ _ _ g2 eb0.2) e4.2
    refine ⟨M2, δ', b4, _, R4, h3, fun J1 H5 ds1 G1 b5 R5 e5 gi5 wk1 ⟨hz, h5⟩ => ?_⟩
    have A5 := A4.stepB hD hmD R5 e5 k1 k2 hno
    have g5 := wk.ex _ _ _ g4 e5.2
    let W1 : Nat → Nat → Hp → Prop := fun j k H => k = ds1.length - j ∧ j ≤ ds1.length ∧ ∃ b acc' vs, AccS K F Mu D H1 σ δ H b acc' vs ∧ Rep K F M2 σ2 H δ' b ∧ G M2 H ∧ G1 M2 H ∧ acc'.length ≤ acc.length + j ∧ lcGo T1 dYes te (wipeD δ' vs1) (ds1.drop j) acc' b fun acc' b4 => lc2Go T src1 T1 te ws vs1 (wipeD δ ws) (ds.drop (i + 1)) acc' b4 fun acc b2 => acc.length ≤ sizeLine ∧ Q' acc b2
    refine ⟨W1, ⟨_, rfl, Nat.zero_le _, b5, acc, vs, A5, R5, g5, gi5, Nat.le_refl _, by simpa using h5⟩, ?_⟩
    rintro j kk H6 ⟨ek, hj, b6, acc', vs', A6, R6, g6, gi6, hacc, h6⟩
    by_cases hjl : j < ds1.length
    · refine .inr ⟨wk1.go _ _ _ gi6 hjl, fun H' => ∃ m', W1 (j + 1) m' H', fun H' ⟨m', w⟩ => ⟨m', by rw [w.1, ek]; omega, w⟩, fun y H7 hy7 => ?_⟩
      obtain ⟨keep7, d7, hd7, q7⟩ := wk1.yld _ _ _ _ _ gi6 A6.R.tr hjl hy7
      have hdr7 : ds1.drop j = d7 :: ds1.drop (j + 1) := by
        rw [List.drop_eq_getElem_cons hjl]
        rw [List.getElem?_eq_getElem hjl] at hd7
        cases hd7; rfl
      rw [hdr7] at h6
      obtain ⟨δ3, hp7, h7⟩ := h6
      have eb7 : ExB F M2 H6 H7 := ExB.all keep7
      have R7 := R6.grow keep7
      have A7 := A6.stepB hD hmD R7 eb7 k1 k2 hno
      refine ⟨M2, wipeD δ' vs1, b6, d7, δ3, R7.wipe vs1, q7, hp7, fun σ3 Rb wb => ?_⟩
      have x1 := wb vs1 hT1
      have j1 : L2.wipe σ3 vs1 = L2.wipe σ2 vs1 := x1.1.trans (wipe_sub fun _ h => h)
      have x2 := wb ws fun i hi => hv i (hT1 i hi)
      have j2 : L2.wipe σ3 ws = L2.wipe σ ws := (x2.1.trans (wipe_sub hv)).trans k1
      have j3 : wipeD δ3 ws = wipeD δ ws := (x2.2.trans (wipeD_sub hv)).trans k2
      refine ⟨j1, M2, δ3, b6, _, Rb, (show dYes δ3 b6 (fun c b => c = true ∧ b = b6) from ⟨rfl, rfl⟩), fun c H8 b8 R8 e8 hc8 => ?_⟩
      obtain ⟨rfl, rfl⟩ := hc8
      show if true = true then _ else _
      rw [if_pos rfl]
      have A8 := A7.stepB hD hmD R8 e8 j2 j3 hno
      refine ⟨M2, δ3, b8, _, R8, (by simpa [dYes] using h7), fun z H9 dz b9 R9 e9 q9 h9 => ⟨vs', (A8.stepB hD hmD R9 e9 j2 j3 hno).hl, by rw [A6.q.length]; omega, ?_⟩⟩
      have A9 := A8.stepB hD hmD R9 e9 j2 j3 hno
      have AA := A9.app (v := z) (d := dz) hD nD R0 hs0 h0 q9
      have eu : ExM M2 H9 (upd H9 D (.lst (vs' ++ [z]))) := ExM.at (.inr rfl)
      have ee : ExM M2 H6 (upd H9 D (.lst (vs' ++ [z]))) := ((eb7.2.trans e8.2).trans e9.2).trans eu
      exact ⟨_, rfl, hjl, b9, acc' ++ [dz], vs' ++ [z], AA, R6.carry AA.R ee k1.symm k2.symm hno', wk.ex _ _ _ g6 ee, wk1.ex _ _ _ gi6 ee, by simp; omega, h9⟩
    · have ej : j = ds1.length := by omega
      subst ej
      rw [List.drop_length] at h6
      exact .inl ⟨wk1.stop _ _ gi6, _, rfl, hlt, b6, acc', vs', A6, g6, h6⟩
  · have e : i = ds.length := by omega
    subst e
    rw [List.drop_length] at h2
    have rg := A2.R.gone nD R0 hs0 h0
    have eg : ExB F Mu H (drp H2 D) := e1.trans ⟨fun a o n z => by rw [drp_ne (ne_of_none z hD)]; exact A2.k1 a o n z, fun a o n z => by rw [drp_ne (ne_of_none z hD)]; exact A2.k2 a o n z⟩
    have fin := k D (drp H2 D) vs acc b2 rg eg drp_same (by rw [A2.q.length]; exact h2.1) A2.q.drp h2.2
    rw [drp_upd A2.hl] at fin
    exact .inl ⟨wk.stop _ _ g2, fin⟩
theorem n_lc2 {elt tg iter tg1 iter1 : Expr} {scope : Scope} (own : List (Str × Nat)) (vs1 : List Nat) {src src1 : TAD} {T T1 : Tg} {te : TD} (hc : X.calm = true) (hN : X.N.Nodup) (hi : PID X F tg iter src) (ok : BlkOk X.N X.env.scope scope own) (hv : ∀ i ∈ vs1, i ∈ own.map (·.2))
    (hT : ∀ i ∈ T.ixs, i ∈ own.map (·.2)) (hT1 : ∀ i ∈ T1.ixs, i ∈ vs1)
    (hg : ∀ (s : Shared) (H : Hp) (C : Addr) (cl : List (Str × Addr)) (fp : List Addr), PGD (X.blk s H scope (compEnvC scope cl C X.env) fp) F tg T)
    (hi1 : ∀ (s : Shared) (H : Hp) (C : Addr) (cl : List (Str × Addr)) (fp : List Addr), PID (X.blk s H scope (compEnvC scope cl C X.env) fp) F tg1 iter1 src1)
    (hg1 : ∀ (s : Shared) (H : Hp) (C : Addr) (cl : List (Str × Addr)) (fp : List Addr), PGD (X.blk s H scope (compEnvC scope cl C X.env) fp) F tg1 T1)
    (he : ∀ (s : Shared) (H : Hp) (C : Addr) (cl : List (Str × Addr)) (fp : List Addr), PD (X.blk s H scope (compEnvC scope cl C X.env) fp) F elt te) (hs : ∀ x, foldedSetIterable iter X.env x = pure x := by intro _; rfl) (hs1 : ∀ env x, foldedSetIterable iter1 env x = pure x := by intro _ _; rfl) :
    PDN X F (.ListComp elt [⟨tg, iter, [], 0⟩, ⟨tg1, iter1, [], 0⟩] scope pos) (nLc2 src T src1 T1 te (own.map (·.2)) vs1) :=
  ⟨PE.weak (pe_lc2 hc hN hi.pi ok hv (g := cG X.K F T) (tt := cT X.K F dYes) (wi1 := cI X.K F src1) (g1 := cG X.K F T1) (tt1 := cT X.K F dYes) (te := cE X.K F te) (fun s H C cl fp => (hg s H C cl fp).pg) (fun s H C cl fp => (ts_nil (X := X.blk s H scope (compEnvC scope cl C X.env) fp)).pt) (fun s H C cl fp => (hi1 s H C cl fp).pi) (fun s H C cl fp => (hg1 s H C cl fp).pg) (fun s H C cl fp => (ts_nil (X := X.blk s H scope (compEnvC scope cl C X.env) fp)).pt) (fun s H C cl fp => (he s H C cl fp).pe) hs hs1) fun σ H Q => lc2_go hT hT1 hv⟩
end
end Wk
namespace Wk
open L2 RZ PyProof.Rows PySem.Spec PySem
/-! ### dicts of texts that stay -/
inductive Kq (K : PySem.W.Frag) (Mu : Addr → Prop) (H : Hp) : List (Key × V) → List (Str × PyData) → Prop
  | nil : Kq K Mu H [] []
  | cons {x : Str} {v : V} {d : PyData} {ks : List (Key × V)} {es : List (Str × PyData)} : Dq K Mu H v d → Kq K Mu H ks es → Kq K Mu H ((Sum.inr x, v) :: ks) ((x, d) :: es)
def DctP (K : PySem.W.Frag) (es : List (Str × PyData)) : (Addr → Prop) → Hp → V → Prop := fun Mu H v => ∃ p ks, v = .ref p ∧ ¬ Mu p ∧ H p = some (.dK ks) ∧ Kq K Mu H ks es
section
variable {K : PySem.W.Frag} {F : Fm} {Mu Mu' : Addr → Prop} {σ : L2.St} {H H' : Hp} {δ : List Sl} {b : Nat}
theorem Kq.exM {ks : List (Key × V)} {es : List (Str × PyData)} (h : Kq K Mu H ks es) (e : ExM Mu H H') : Kq K Mu H' ks es := by
  induction h with
  | nil => exact .nil
  | cons q _ ih => exact .cons (q.exM e) ih
theorem Kq.mu {ks : List (Key × V)} {es : List (Str × PyData)} (h : Kq K Mu H ks es) (m : ∀ a, Mu' a → Mu a ∨ H a = none) : Kq K Mu' H ks es := by
  induction h with
  | nil => exact .nil
  | cons q _ ih => exact .cons (q.mu m) ih
theorem dct_sta (es : List (Str × PyData)) : StaP (DctP K es) :=
  ⟨fun Mu H H' v ⟨p, ks, h1, h2, h3, h4⟩ e => ⟨p, ks, h1, h2, e p _ h2 h3, h4.exM e⟩, fun Mu Mu' H v ⟨p, ks, h1, h2, h3, h4⟩ m => ⟨p, ks, h1, fun z => (m p z).elim h2 (fun z => by rw [z] at h3; cases h3), h3, h4.mu m⟩⟩
theorem Kq.get {ks : List (Key × V)} {es : List (Str × PyData)} (h : Kq K Mu H ks es) {x : Str} {d : PyData} (e : es.lookup x = some d) : ∃ v, valV ks (Sum.inr x : Key) = some v ∧ Dq K Mu H v d := by
  induction h with
  | nil => cases e
  | @cons y v d' ks es q _ ih =>
    by_cases hxy : x = y
    · subst hxy
      have : ((x, d') :: es).lookup x = some d' := by simp
      rw [this] at e
      cases e
      exact ⟨v, valV_pos rfl, q⟩
    · have : ((y, d') :: es).lookup x = es.lookup x := by
        have hb : (x == y) = false := beq_eq_false_iff_ne.mpr hxy
        simp [List.lookup_cons, hb]
      rw [this] at e
      obtain ⟨w, h1, h2⟩ := ih e
      exact ⟨w, (valV_neg (fun z => hxy (Sum.inr.inj z).symm)).trans h1, h2⟩
theorem Kq.keys {ks : List (Key × V)} {es : List (Str × PyData)} (h : Kq K Mu H ks es) : ks.map (·.1) = es.map fun e => (Sum.inr e.1 : Key) := by
  induction h with
  | nil => rfl
  | cons _ _ ih => simp [ih]
end
theorem valV_none {ks : List (Key × V)} {k : Key} (h : k ∉ ks.map (·.1)) : valV ks k = none := by
  cases q : valV ks k with
  | none => rfl
  | some v =>
    exfalso
    unfold valV at q
    obtain ⟨p, h1, h2⟩ := Option.map_eq_some_iff.mp q
    have h3 := List.find?_some h1
    have h4 := List.mem_of_find?_eq_some h1
    exact h (List.mem_map.mpr ⟨p, h4, of_decide_eq_true h3⟩)
theorem mergeK_nodup : ∀ (more ks : List (Key × V)), (ks.map (·.1) ++ more.map (·.1)).Nodup → mergeK ks more = ks ++ more
  | [], ks, _ => by simp [mergeK]
  | p :: more, ks, h => by
    have hn : p.1 ∉ ks.map (·.1) := by
      rw [List.nodup_append] at h
      intro hm
      exact h.2.2 p.1 hm p.1 (by simp) rfl
    show mergeK (putK ks p.1 p.2) more = _
    rw [putK_new _ (valV_none hn), mergeK_nodup more (ks ++ [(p.1, p.2)]) (by simpa using h)]
    simp
/-- dict values -/
abbrev TKD := List Sl → Nat → (List (Str × PyData) → Nat → Prop) → Prop
def cK (K : PySem.W.Frag) (F : Fm) (t : TKD) : TE := fun σ H Q => ∃ Mu δ b Q', Rep K F Mu σ H δ b ∧ t δ b Q' ∧ ∀ v H' es b', Rep K F Mu σ H' δ b' → ExB F Mu H H' → DctP K es Mu H' v → Q' es b' → Q v H'
structure PDK (X : Cx) (F : Fm) (e : Expr) (t : TKD) : Prop where
  pe : PE X e (cK X.K F t)
/-- a def of data that gives a dict -/
def spK (K : PySem.W.Frag) (T : List PyData → (List (Str × PyData) → Prop) → Prop) : Sp := fun vs H Q _ => ∃ (Mu : Addr → Prop) (ds : List PyData) (Q' : List (Str × PyData) → Prop), (∀ a, Mu a → H a ≠ none) ∧ DqAll K Mu H vs ds ∧ T ds Q' ∧
  ∀ v H' es, (∀ a o, H a = some o → H' a = some o) → DctP K es Mu H' v → Q' es → Q v H'
section
variable {X : Cx} {F : Fm} {a e : Expr} {es : List Expr} {ta tb : TD} {tas : TAD} {tk : TKD} {p pos apos cpos : Pos} {k : Nat} {x : Str}
@[simp] def kVar (K : PySem.W.Frag) (i : Nat) : TKD := fun δ b Q => ∃ es, δ[i]? = some (Sl.sta (DctP K es)) ∧ Q es b
theorem k_var (i : Nat) (hN : X.N[i]? = some x := by rfl) (hv : Vis X.env.scope x := by first | exact Or.inl rfl | exact Or.inr (Or.inl rfl) | exact Or.inr (Or.inr rfl)) (hd : (x == ("__debug__" : Str)) = false := by decide)
    (hcd : (x == ("__classdict__" : Str)) = false := by decide) : PDK X F (.Name x pos) (kVar X.K i) :=
  ⟨PE.weak (pe_var hN hv hd hcd) fun σ H Q ⟨Mu, δ, b, Q', R, ⟨es, h1, h2⟩, k⟩ => by
    obtain ⟨v, e, _, q⟩ := R.sl i _ h1
    exact ⟨v, e, k v H es b R (ExB.refl H) q h2⟩⟩
@[simp] def kCall (T : List PyData → (List (Str × PyData) → Prop) → Prop) (t : TAD) : TKD := fun δ b Q => t δ b fun ds b1 => T ds fun d => Q d b1
theorem k_call {T : List PyData → (List (Str × PyData) → Prop) → Prop} (c : Cal X.prog X.w X.K X.mg X.base k x (spK X.K T)) (hr : Room k X.A) (ha : PDA X F (e :: es) tas) (hg : Gl X x := by rfl) (hdb : (x == ("__debug__" : Str)) = false := by decide)
    (he : starEach (e :: es) X.env = (false, eval e X.env) :: starEach es X.env := by rfl) (hpl : (backTo pos (starEach es X.env)).any (·.1) = false := by rfl) : PDK X F (.Call (.Name x p) (e :: es) [] pos) (kCall T tas) := by
  obtain ⟨fd, ps, h1, h2⟩ := c.ok
  refine ⟨PE.weak (pe_call h1 hr hg c.at_ c.kp h2 (dvs := []) .nil (E := EF) (passF (P := X.prog) (w := X.w)) ha.pa hdb he hpl) ?_⟩
  rintro σ H Q ⟨Mu, δ, b, Q', R, h, k'⟩
  refine cA.go R h fun vs H1 ds b1 R1 e1 q1 h1 => ?_
  rw [List.append_nil]
  exact ⟨Mu, ds, fun d => Q' d b1, R1.tr, q1, h1, fun v H' d keep q hQ => k' v H' d b1 (R1.grow keep) (e1.trans (ExB.all keep)) q hQ⟩
/-- dict([(text, data), ..]), the texts apart -/
@[simp] def kDict (t : TAD) : TKD := fun δ b Q => t δ b fun ds b1 => ∃ es : List (Str × PyData), ds = es.map (fun e => .tuple [.str e.1, e.2]) ∧ (es.map (·.1)).Nodup ∧ Q es b1
theorem pairs_kq {K : PySem.W.Frag} {Mu : Addr → Prop} {H : Hp} : ∀ {es : List (Str × PyData)} {vs : List V}, DqAll K Mu H vs (es.map fun e => .tuple [.str e.1, e.2]) → ∃ (ps : List Addr) (ks : List (Key × V)), vs = ps.map V.ref ∧ Paired (fun p kv => SqT K H p [kV kv.1, kv.2]) ps ks ∧ Kq K Mu H ks es
  | [], _, h => by cases h; exact ⟨[], [], rfl, .nil, .nil⟩
  | e :: es, _, h => by
    cases h with
    | cons h1 h2 =>
      obtain ⟨ps, ks, rfl, z1, z2⟩ := pairs_kq h2
      obtain ⟨a, xs, rfl, ha, qa⟩ := h1.tup_inv
      cases qa with
      | cons q1 q2 =>
        cases q2 with
        | cons q3 q4 =>
          cases q4
          cases q1
          exact ⟨a :: ps, (Sum.inr e.1, _) :: ks, rfl, .cons ha.sq z1, .cons q3 z2⟩
theorem k_dict (hc : X.calm = true) (hg : Gl X "dict") (hm : X.mg "dict" = none) (ha : PDV X F a tas) (he : starEach [a] X.env = (false, eval a X.env) :: starEach [] X.env := by rfl) : PDK X F (.Call (.Name "dict" p) [a] [] pos) (kDict tas) :=
  ⟨PE.weak (pe_oneT (call_dictP hc) hg hm boot_dict ha.pe (by decide) (by decide) he) fun σ H Q ⟨Mu, δ, b, Q', R, h, k⟩ =>
    ⟨Mu, δ, b, _, R, h, fun l H1 ds b1 R1 e1 w ⟨es, ed, nd, h1⟩ => by
      obtain ⟨vs, hl, hq⟩ := w H1 b1 R1 (ExB.refl H1)
      subst ed
      obtain ⟨ps, ks, rfl, z1, z2⟩ := pairs_kq hq
      refine ⟨l, ps, ks, rfl, hl, z1, fun p hp => k _ _ es b1 (R1.fresh hp) (e1.trans (ExB.new hp)) ⟨p, ks, rfl, R1.nmu hp, ?_, z2.exM (ExM.new hp)⟩ h1⟩
      rw [upd_same, mergeK_nodup ks [] ?_]
      · rfl
      · rw [z2.keys]
        have : (es.map fun e => (Sum.inr e.1 : Key)) = (es.map (·.1)).map Sum.inr := by rw [List.map_map]; rfl
        rw [this, List.map_nil, List.nil_append]
        exact List.pairwise_map.mpr (nd.imp fun h z => h (Sum.inr.inj z))⟩⟩
/-- d[x] -/
@[simp] def dKix (t : TKD) (u : TD) : TD := fun δ b Q => t δ b fun es b1 => u δ b1 fun y b2 => ∃ z d, y = .str z ∧ es.lookup z = some d ∧ Q d b2
theorem d_kix (hu : X.A.units + 1 < cLine) (ha : PDK X F a tk) (hb : PD X F e tb) (hs : NoSl e := by intro _ _; rfl) : PD X F (.Subscript a e pos) (dKix tk tb) :=
  ⟨PE.weak (pe_dget hu ha.pe hb.pe hs) fun σ H Q ⟨Mu, δ, b, Q', R, h, k⟩ => ⟨Mu, δ, b, _, R, h, fun v H1 es b1 R1 e1 q1 h1 => cE.go R1 h1 fun w H2 y b2 R2 e2 q2 ⟨z, d, ey, hd, h2⟩ => by
    subst ey
    cases q2
    obtain ⟨p, ks, rfl, _, z1, z2⟩ := (dct_sta es).ex _ _ _ _ q1 e2.2
    obtain ⟨u, z3, z4⟩ := z2.get hd
    refine ⟨p, u, rfl, ?_, k u H2 d b2 R2 (e1.trans e2) z4 h2⟩
    rw [← z3]
    exact DGet.k (k := (Sum.inr z : Key)) z1⟩⟩
@[simp] def fDct (K : PySem.W.Frag) (t : TKD) : TFD := fun δ b Q => t δ b fun es b1 => Q (.sta (DctP K es)) b1
theorem PDK.f (h : PDK X F a tk) : PDF X F a (fDct X.K tk) := ⟨PE.weak h.pe fun σ H Q ⟨Mu, δ, b, Q', R, h, k⟩ => ⟨Mu, δ, b, _, R, h, fun v H1 es b1 R1 e1 q1 z => k v H1 (.sta (DctP X.K es)) b1 Mu R1 (ExS.ofB e1) ⟨e1.1, fun _ _ z => nomatch z⟩ ⟨dct_sta es, q1⟩ z⟩⟩
/-- t.index(x), t a tuple of texts of the module -/
@[simp] def dIndex (ys : List Str) (t : TD) : TD := fun δ b Q => t δ b fun y b1 => ∃ z j, y = .str z ∧ ys[j]? = some z ∧ (∀ m, m < j → ys[m]? ≠ some z) ∧ Q (.int (j : Nat)) b1
theorem d_index {ys : List Str} (he : PD X F e ta) (hg : Gl X x) (hm : X.mg x = some (.ref (He.ga X.K x))) (hq : ∃ o, X.K.lookup (He.ga X.K x) = some o ∧ o.cls = .type "tuple" ∧ o.dict = none) (hq2 : ∀ H, SqT X.K H (He.ga X.K x) (ys.map V.str)) (hd : (x == ("__debug__" : Str)) = false := by decide)
    (hbase : attributeBase (.Name x p) "index" X.env (eval (.Name x p) X.env) = eval (.Name x p) X.env := by rfl)
    (hfew : ((backTo cpos (starEach [e] X.env)).all (fun x => !x.1) && (backToKw cpos (keywordEach [] X.env)).all (fun x => x.1.isSome) && decide (([e]).length + ([] : List Keyword).length + (if ([] : List Keyword).isEmpty then 0 else 1) < 30)) = true := by rfl)
    (hline : (apos.endLine == cpos.line) = true := by rfl) (hs : starEach [e] X.env = (false, eval e X.env) :: starEach [] X.env := by rfl) :
    PD X F (.Call (.Attribute (.Name x p) "index" apos) [e] [] cpos) (dIndex ys ta) :=
  ⟨PE.weak (pe_bm PySem.F.plainAttrs_tuple PySem.F.slot_tuple_index PySem.F.type_tuple_index mt_tup_index (pe_glob (v := .ref (He.ga X.K x)) hg hm rfl hd) (pa_cons he.pe pa_nil hs) hbase hfew hline hs rfl) fun σ H Q ⟨Mu, δ, b, Q', R, h, k⟩ =>
    ⟨.inr (.inl ⟨rfl, hq⟩), cE.go R h fun v H1 d b1 R1 e1 q1 ⟨z, j, ey, h1, h2, h3⟩ => by
      subst ey
      cases q1
      exact ⟨_, ys, z, j, rfl, rfl, hq2 H1, h1, h2, k _ H1 _ b1 R1 e1 (.int _) h3⟩⟩⟩
end
end Wk
namespace Wk
open L2 RZ PyProof.Rows PySem.Spec PySem
theorem units1 {k : Nat} {A : Around} (r : Room k A) : A.units + 1 < cLine := by have := r.un; omega
/-! ### a tuple, some times -/
theorem tup_mul_one (l : Addr) (items : Array Value) (n : Nat) (dd : Option Addr) (sl : Array (Option Value)) (u : Tok) (c1 : items.isEmpty = false) :
    Meets (Builtin.«tuple.__mul__» ⟨[.ref l, .int 1 u], []⟩) (fun _ R s => s.heap.get? l = some { cls := .type "tuple", dict := dd, data := .seq items n, slots := sl } ∧ R (.ok (.ret (Value.ref l))) s) :=
  .of_wp fun prog w A R s z => by
    obtain ⟨zh, zg, zd, zt, zo⟩ := s
    obtain ⟨zl, z⟩ := z
    have f1 := AutoSeq1.idx_int
    wp_walk using AutoSeq1.wpAny_loadPart' zl
    exact ⟨_, rfl, z⟩
def rMulT (K : PySem.W.Frag) : R2 := fun x y H Q => ∃ l k xs, x = .ref l ∧ y = .int k ∧ SqT K H l xs ∧ xs ≠ [] ∧ 1 ≤ k ∧ xs.length * k.toNat ≤ 16777216 ∧ (k = 1 → Q (.ref l) H) ∧ (2 ≤ k → ∀ p, H p = none → Q (.ref p) (upd H p (.tup (List.replicate k.toNat xs).flatten)))
theorem op_mulT {X : Cx} : OpR X (binaryOp .Mult) (rMulT X.K) := by
  intro pins s σ H x y v u Q I rx ry z
  obtain ⟨l, k, xs, rfl, rfl, hT, hne, h1, hz, q1, q2⟩ := z
  cases rx
  obtain ⟨t, rfl⟩ := ry
  obtain ⟨vals, r, ⟨⟨cls, od, data, osl⟩, ho, hc, n, hd⟩, hs⟩ := I.tuple hT
  simp only at hc hd
  subst hc hd
  have lenIt : vals.length = xs.length := r.length.symm
  have somIt : 1 ≤ vals.length := by
    rw [lenIt]; exact List.length_pos_iff.mpr hne
  have notE : vals.toArray.isEmpty = false := by
    cases vals with
    | nil => exact absurd somIt (by simp)
    | cons a b => rfl
  have road : ∀ {v' : Value} {s' : Shared}, wpAny (model X.prog X.w) X.A (call (.builtin "tuple.__mul__") [.ref l, .int k t]) (EP X pins σ Q) X.xe s → wpAny (model X.prog X.w) X.A (binaryOp .Mult (.ref l) (.int k t)) (EP X pins σ Q) X.xe s := fun z =>
    wpAny_binaryOp_repeat_ref (T := "tuple") (U := "int") (by decide) ⟨_, ho, rfl⟩ (fun s' => typeIs_int s' k t) noFill_tuple_mul F.fills_int_mul F.slot_int_rmul repeat_tuple F.slot_int_index.lookup
      (call_meets F.slot_int_rmul (typeIs_int s k t) F.entry_int_rmul (F.args_int_rmul_2 _ _) (int_rmul_tuple k t l vals.toArray n od osl) ⟨ho, rfl, ⟨_, ho, rfl⟩, z⟩)
  refine road (v' := .none) (s' := s) ?_
  by_cases hk : k = 1
  · subst hk
    exact call_meets F.slot_tuple_mul ⟨_, ho, rfl⟩ F.entry_tuple_mul (F.args_tuple_mul_2 _ _) (tup_mul_one l vals.toArray n od osl t notE) ⟨ho, .ref l, H, I, rfl, q1 rfl⟩
  · have two : 2 ≤ k := by omega
    have szIt : vals.toArray.size = xs.length := by rw [List.size_toArray, lenIt]
    have xs1 : 1 ≤ xs.length := by omega
    have knat : ((k.toNat : Nat) : Int) = k := Int.toNat_of_nonneg (by omega)
    have fits : ((vals.toArray.size : Nat) : Int) * k ≤ 16777216 := by
      rw [szIt, ← knat]
      have hzi := Int.ofNat_le.mpr hz
      rw [Int.natCast_mul] at hzi
      exact hzi
    have kbd : k ≤ 16777216 := by
      have : k.toNat ≤ xs.length * k.toNat := Nat.le_mul_of_pos_left _ (by omega)
      omega
    have lenF : (List.replicate k.toNat vals).flatten.length ≤ sizeLine := by
      rw [PyProof.Rows.lm_len_rep_flat, lenIt, sizeLine_eq, Nat.mul_comm]
      exact hz
    have g0 : (decide (k < -(2 ^ 63)) || decide (k ≥ 2 ^ 63)) = false := by
      rw [decide_eq_false (by omega)]; rw [decide_eq_false (by omega)] <;> rfl
    have g1 : (vals.toArray.isEmpty || k == 1) = false := by
      rw [notE, Bool.false_or]
      exact beq_eq_false_iff_ne.mpr hk
    have g2 : (decide (k ≤ 0) || vals.toArray.isEmpty) = false := by
      rw [notE, Bool.or_false]; exact decide_eq_false (by omega)
    have g4 : Builtin.Tuple.tupleTooMany (((vals.toArray.size : Nat) : Int) * k) = false := by
      unfold Builtin.Tuple.tupleTooMany; rw [sizeLine_eq]; exact decide_eq_false (by omega)
    refine call_meets F.slot_tuple_mul ⟨_, ho, rfl⟩ F.entry_tuple_mul (F.args_tuple_mul_2 _ _) (tuple_mulW l vals.toArray n od osl k t g0 g1 g2 (by omega) g4 (by rw [size_rep, List.size_toArray]; exact lenF)) ⟨ho, ?_⟩
    rw [size_rep]
    exact ⟨.ref s.heap.objs.size, _, I.laid (t' := s.toks) (o := .tup (List.replicate k.toNat xs).flatten) (fun b ob q => Heap.get?_push_of_some _ q) (Nat.le_refl _) ⟨by rw [← (r.rep k.toNat).length] at lenF; exact lenF, _, r.rep k.toNat, IsTup.new _ _⟩, rfl, q2 two _ (I.hok.fresh (Nat.le_refl _))⟩
def mulD : PyData → PyData → Option PyData
  | .tuple ds, .int k => if 1 ≤ ds.length ∧ 1 ≤ k ∧ ds.length * k.toNat ≤ 16777216 then some (.tuple (List.replicate k.toNat ds).flatten) else none
  | _, _ => none
section
variable {X : Cx} {F : Fm} {K : PySem.W.Frag} {a e : Expr} {ta tb : TD} {pos : Pos}
theorem r_mulT : R2D K F (rMulT K) mulD := by
  intro Mu σ H δ b x y dx dy dz Q R hx hy hz k
  unfold mulD at hz
  split at hz
  · split at hz
    · rename_i ds i h
      cases hz
      cases hy
      obtain ⟨l, vs, rfl, hl, hq⟩ := hx.tup_inv
      have hlen := hq.length
      refine ⟨l, i, vs, rfl, rfl, hl.sq, fun e => by rw [e] at hlen; simp at hlen; omega, h.2.1, by rw [hlen]; exact h.2.2, fun e => ?_, fun _ p hp => k _ _ (R.fresh hp) (ExB.new hp) (.tup (.of upd_same (R.nmu hp)) ((hq.rep _).exM (ExM.new hp)))⟩
      subst e
      have : (List.replicate (1 : Int).toNat ds).flatten = ds := by simp
      exact k _ H R (ExB.refl H) (.tup hl (by rw [this]; exact hq))
    · cases hz
  · cases hz
theorem d_mulT (ha : PD X F a ta) (hb : PD X F e tb) : PD X F (.BinOp a .Mult e pos) (d2 mulD ta tb) := d_op op_mulT r_mulT ha hb
end
end Wk
namespace Wk
open L2 RZ PyProof.Rows PySem.Spec PySem
/-! ### the plain things -/
structure Ed where
  a : Int
  asks : List Str
  deed : Str
  z : Int
def strsD (zs : List Str) : PyData := .tuple (zs.map PyData.str)
def intsD (zs : List Int) : PyData := .tuple (zs.map PyData.int)
def Ed.d (e : Ed) : PyData := .tuple [.int e.a, strsD e.asks, .str e.deed, .int e.z]
structure Kd where
  many : Int
  up : List Int
  deaf : List Int
  edges : List Ed
  below : List Str
def Kd.book (k : Kd) : PyData := .tuple [.int k.many, intsD k.up, intsD k.deaf, .tuple (k.edges.map Ed.d)]
def Kd.d (k : Kd) : PyData := .tuple [k.book, strsD k.below]
abbrev Ho := List (Str × Kd)
def itemD (p : Str × Kd) : PyData := .tuple [.str p.1, p.2.d]
def hoD (h : Ho) : PyData := .tuple (h.map itemD)
def LETTERS : Str := "abcdefghijklmnopqrstuvwxyz"
def FIGURES : Str := "0123456789"
def ASKS : List Str := ["calm", "held", "over", "rung", "unheld"]
def DEEDS : List Str := ["give", "go", "hold", "hush"]
def ORDER : List Str := ["up", "deaf", "edges", "below"]
def MOVES3 : List Str := ["come", "leave", "bell"]
def isWord (z : Str) : Bool := decide (1 ≤ z.length) && decide (z.length ≤ 8) && z.cps.toList.all fun c => decide (c ∈ LETTERS.cps.toList)
def asc {α : Type} (lt : α → α → Bool) : List α → Bool
  | [] => true
  | [_] => true
  | x :: y :: r => lt x y && asc lt (y :: r)
def ltS (x y : Str) : Bool := decide (x.cps.toList < y.cps.toList)
def ltI (i j : Int) : Bool := decide (i < j)
abbrev ascS : List Str → Bool := asc ltS
abbrev ascI : List Int → Bool := asc ltI
def inS (x : Str) (l : List Str) : Bool := l.any fun y => y == x
def asksB (zs : List Str) : Bool := (zs.all fun z => inS z ASKS) && (ascS zs && decide ((zs.filter fun z => inS z ["calm", "held", "unheld"]).length < 2))
def wholeI (i lo hi : Int) : Bool := decide (lo ≤ i) && decide (i ≤ hi)
def wholeB : PyData → Int → Int → Bool
  | .int i, lo, hi => wholeI i lo hi
  | _, _, _ => false
def edgeB (e : Ed) (stands : Int) : Bool := asksB e.asks && (inS e.deed DEEDS && (wholeI e.a 0 (stands - 1) && wholeI e.z 0 (stands - 1)))
def ltE (e f : Ed) : Bool := PySem.W.dataLt e.d f.d
structure KdOk (names : List Str) (k : Kd) : Prop where
  many : wholeI k.many 1 6 = true
  up : (k.up.all fun i => wholeI i 1 (k.many - 1)) = true
  upA : ascI k.up = true
  deaf : (k.deaf.all fun i => wholeI i 0 (k.many - 1)) = true
  deafA : ascI k.deaf = true
  edges : ∀ e ∈ k.edges, edgeB e k.many = true
  edgesA : asc ltE k.edges = true
  edgesL : k.edges.length ≤ 24
  below : (k.below.all fun z => inS z names) = true
  belowA : ascS k.below = true
structure HoOk (h : Ho) : Prop where
  lo : 1 ≤ h.length
  hi : h.length ≤ 3
  word : ∀ p ∈ h, isWord p.1 = true
  nameA : ascS (h.map (·.1)) = true
  kind : ∀ p ∈ h, KdOk (h.map (·.1)) p.2
/-! texts -/
def num (i : Int) : Str := toString i
def sp (zs : List Str) : Str := Txt.join " " zs
def edgeWs (e : Ed) : List Str := [num e.a, e.deed, num e.z] ++ e.asks
def kindLines (n : Str) (k : Kd) : List Str :=
  [sp ["kind", n, num k.many]] ++ (if k.up = [] then [] else [sp ("up" :: k.up.map num)]) ++ (if k.deaf = [] then [] else [sp ("deaf" :: k.deaf.map num)]) ++ k.edges.map (fun e => sp (edgeWs e)) ++ (if k.below = [] then [] else [sp ("below" :: k.below)])
def houseLines (h : Ho) : List Str := h.flatMap fun p => kindLines p.1 p.2
def houseText (h : Ho) : Str := Txt.join "\n" (houseLines h)
/-! reading -/
def numIn (w : Str) : Option Int := match w.cps.toList with
  | [c] => if 48 ≤ c ∧ c ≤ 57 then some ((c : Int) - 48) else none
  | [c, d] => if (48 ≤ c ∧ c ≤ 57) ∧ (48 ≤ d ∧ d ≤ 57) ∧ c ≠ 48 then some (((c : Int) - 48) * 10 + ((d : Int) - 48)) else none
  | _ => none
def optI : Option Int → PyData
  | none => .none
  | some i => .int i
def edgeIn : List Str → Option Ed
  | w0 :: w1 :: w2 :: r => if inS w1 DEEDS = true ∧ asksB r = true then (match numIn w0, numIn w2 with
    | some a, some z => some ⟨a, r, w1, z⟩
    | _, _ => none) else none
  | _ => none
def optE : Option Ed → PyData
  | none => .none
  | some e => e.d
def numbersIn (ws : List Str) : Option (List Int) := if ws = [] then none else match ws.mapM numIn with
  | some is => if ascI is = true then some is else none
  | none => none
def optIs : Option (List Int) → PyData
  | none => .none
  | some is => intsD is
def namesIn (ws : List Str) : Option (List Str) := if ws ≠ [] ∧ (ws.all isWord) = true ∧ ascS ws = true then some ws else none
def optSs : Option (List Str) → PyData
  | none => .none
  | some is => strsD is
/-- a line's sort and what it holds -/
inductive Ln where
  | up (is : List Int) | deaf (is : List Int) | edge (e : Ed) | below (zs : List Str)
def Ln.sort : Ln → Str
  | .up _ => "up" | .deaf _ => "deaf" | .edge _ => "edges" | .below _ => "below"
def Ln.v : Ln → PyData
  | .up is => intsD is | .deaf is => intsD is | .edge e => e.d | .below zs => strsD zs
def Ln.d (l : Ln) : PyData := .tuple [.str l.sort, l.v]
def lineIn (ws : List Str) : Option Ln := match edgeIn ws with
  | some e => some (.edge e)
  | none => match ws with
    | [] => none
    | w :: r => if w = "up" then (numbersIn r).map .up else if w = "deaf" then (numbersIn r).map .deaf else if w = "below" then (namesIn r).map .below else none
def lineD : Option Ln → PyData
  | none => .tuple [.none, .none]
  | some l => l.d
def kindIn : List Str → Option (Str × Int)
  | [w0, w1, w2] => if w0 = "kind" ∧ isWord w1 = true then (numIn w2).map fun n => (w1, n) else none
  | _ => none
def optK : Option (Str × Int) → PyData
  | none => .none
  | some p => .tuple [.str p.1, .int p.2]
def ordIx : Ln → Nat
  | .up _ => 0 | .deaf _ => 1 | .edge _ => 2 | .below _ => 3
def goesOn (ls : List Ln) (l : Ln) : Bool := match ls.getLast? with
  | none => true
  | some a => decide (ordIx a < ordIx l) || (match a, l with
    | .edge e, .edge f => ltE e f
    | _, _ => false)
/-- blocks: name, stands, lines -/
abbrev Bk := Str × Int × List Ln
def Bk.d (b : Bk) : PyData := .tuple [.str b.1, .int b.2.1, .list (b.2.2.map Ln.d)]
def stepB (bs : List Bk) (ws : List Str) : Option (List Bk) :=
  match kindIn ws with
  | some (n, k) => if (match bs.getLast? with | none => true | some b => ltS b.1 n) = true then some (bs ++ [(n, k, [])]) else stepL bs ws
  | none => stepL bs ws
where stepL (bs : List Bk) (ws : List Str) : Option (List Bk) := match lineIn ws, bs.getLast? with
  | some l, some b => if goesOn b.2.2 l = true then some (bs.dropLast ++ [(b.1, b.2.1, b.2.2 ++ [l])]) else none
  | _, _ => none
def upOf : List Ln → List Int
  | [] => [] | .up is :: _ => is | _ :: r => upOf r
def deafOf : List Ln → List Int
  | [] => [] | .deaf is :: _ => is | _ :: r => deafOf r
def belowOf : List Ln → List Str
  | [] => [] | .below is :: _ => is | _ :: r => belowOf r
def edgesOf (l : List Ln) : List Ed := l.filterMap fun | .edge e => some e | _ => none
def kindOf (stands : Int) (l : List Ln) : Kd := ⟨stands, upOf l, deafOf l, edgesOf l, belowOf l⟩
/-! moves -/
inductive Mv where
  | edge (k : Int) (e : Ed) | come (k : Int) | leave (k : Int) | bell (k : Int)
def Mv.d : Mv → PyData
  | .edge k e => .tuple [.str "edge", .int k, e.d] | .come k => .tuple [.str "come", .int k] | .leave k => .tuple [.str "leave", .int k] | .bell k => .tuple [.str "bell", .int k]
def Mv.ok : Mv → Bool
  | .edge k e => wholeI k 0 11 && edgeB e 6 | .come k => wholeI k 0 11 | .leave k => wholeI k 0 11 | .bell k => wholeI k 0 11
def Mv.ws : Mv → List Str
  | .edge k e => ("edge" : Str) :: num k :: edgeWs e | .come k => ["come", num k] | .leave k => ["leave", num k] | .bell k => ["bell", num k]
def weavText (ms : List Mv) : Str := Txt.join "\n" (ms.map fun m => sp m.ws)
def mvsD (ms : List Mv) : PyData := .tuple (ms.map Mv.d)
/-! ### what the defs are asked -/
abbrev TSp := List PyData → (PyData → Prop) → Prop
abbrev TSm := List PyData → Nat → (PyData → Nat → Prop) → Prop
def big {α : Type} (l : List α) : Prop := l.length ≤ 100000
def T_is_whole : TSp := fun ds Q => ∃ d lo hi, ds = [d, .int lo, .int hi] ∧ (∀ x, d ≠ .dict x) ∧ Q (.bool (wholeB d lo hi))
def T_is_word : TSp := fun ds Q => ∃ z : Str, ds = [.str z] ∧ z.length ≤ 100000 ∧ Q (.bool (isWord z))
def tupB (d : PyData) (n : Int) : Bool := match d with
  | .tuple xs => decide ((xs.length : Int) = n)
  | _ => false
def T_is_tuple_of : TSp := fun ds Q => ∃ d n, ds = [d, .int n] ∧ (∀ x, d ≠ .dict x) ∧ Q (.bool (tupB d n))
def T_is_ascending : TSp := fun ds Q => ∃ xs, (ds = [.list xs] ∨ ds = [.tuple xs]) ∧ ((∃ is : List Int, xs = is.map PyData.int ∧ big is ∧ Q (.bool (ascI is))) ∨ ∃ zs : List Str, xs = zs.map PyData.str ∧ big zs ∧ Q (.bool (ascS zs)))
def T_is_stands : TSp := fun ds Q => ∃ is lo st, ds = [intsD is, .int lo, .int st] ∧ big is ∧ Q (.bool ((is.all fun i => wholeI i lo (st - 1)) && ascI is))
def T_is_asks : TSp := fun ds Q => ∃ zs, ds = [strsD zs] ∧ big zs ∧ Q (.bool (asksB zs))
def T_is_edge : TSp := fun ds Q => ∃ (e : Ed) (st : Int), ds = [e.d, .int st] ∧ big e.asks ∧ Q (.bool (edgeB e st))
def T_need_edges : TSp := fun ds Q => ∃ (i st : Int) (es : List Ed), ds = [.int i, .int st, .tuple (es.map Ed.d)] ∧ es.length ≤ 24 ∧ (∀ e ∈ es, big e.asks ∧ edgeB e st = true) ∧ asc ltE es = true ∧ Q .none
def T_is_below : TSp := fun ds Q => ∃ zs names : List Str, ds = [strsD zs, .list (names.map PyData.str)] ∧ big zs ∧ Q (.bool ((zs.all fun z => inS z names) && ascS zs))
def T_need_kind : TSp := fun ds Q => ∃ (i : Int) (k : Kd) (names : List Str), ds = [.int i, k.d, .list (names.map PyData.str)] ∧ KdOk names k ∧ big k.up ∧ big k.deaf ∧ big k.below ∧ (∀ e ∈ k.edges, big e.asks) ∧ Q .none
def T_is_pair : TSp := fun ds Q => ∃ p, ds = [itemD p] ∧ p.1.length ≤ 100000 ∧ Q (.bool (isWord p.1))
def HoBig (h : Ho) : Prop := ∀ p ∈ h, p.1.length ≤ 8 ∧ p.2.up.length ≤ 8 ∧ p.2.deaf.length ≤ 8 ∧ p.2.below.length ≤ 8 ∧ (∀ z ∈ p.2.below, z.length ≤ 8) ∧ ∀ e ∈ p.2.edges, e.asks.length ≤ 8 ∧ (∀ z ∈ e.asks, z.length ≤ 8) ∧ e.deed.length ≤ 8
def T_need_house : TSp := fun ds Q => ∃ h, ds = [hoD h] ∧ HoOk h ∧ HoBig h ∧ Q (hoD h)
def T_spaced : TSp := fun ds Q => ∃ (ws : List PyData) (zs : List Str), ds = [.list ws] ∧ ws.length ≤ 1000 ∧ ws.map strD = zs.map (fun z => some (.str z)) ∧ (∀ z ∈ zs, z.length ≤ 1000) ∧ Q (.str (sp zs))
def T_edge_words : TSp := fun ds Q => ∃ e : Ed, ds = [e.d] ∧ e.asks.length ≤ 1000 ∧ Q (.list ([.int e.a, .str e.deed, .int e.z] ++ e.asks.map PyData.str))
def small (i : Int) : Prop := 0 ≤ i ∧ i < 100
def strsOk (ws : List Str) : Prop := (PyData.canLayAll0 (ws.map PyData.str)) = true
structure KdS (n : Str) (k : Kd) : Prop where
  lay : strsOk k.below
  n : n.length ≤ 8
  many : small k.many
  up : k.up.length ≤ 8 ∧ ∀ i ∈ k.up, small i
  deaf : k.deaf.length ≤ 8 ∧ ∀ i ∈ k.deaf, small i
  below : k.below.length ≤ 8 ∧ ∀ z ∈ k.below, z.length ≤ 8
  edges : k.edges.length ≤ 24 ∧ ∀ e ∈ k.edges, small e.a ∧ small e.z ∧ e.asks.length ≤ 8 ∧ (∀ z ∈ e.asks, z.length ≤ 8) ∧ e.deed.length ≤ 8
def T_kind_lines : TSp := fun ds Q => ∃ n k, ds = [.str n, k.d] ∧ KdS n k ∧ Q (.list ((kindLines n k).map PyData.str))
def T_house_text : TSp := fun ds Q => ∃ h, ds = [hoD h] ∧ HoOk h ∧ HoBig h ∧ Q (.str (houseText h))
def T_number_in : TSp := fun ds Q => ∃ w : Str, ds = [.str w] ∧ w.length ≤ 100000 ∧ Q (optI (numIn w))
def wsOk (ws : List Str) : Prop := big ws ∧ ∀ w ∈ ws, w.length ≤ 100000
def T_edge_in : TSp := fun ds Q => ∃ ws : List Str, ds = [.list (ws.map PyData.str)] ∧ wsOk ws ∧ Q (optE (edgeIn ws))
def T_numbers_in : TSp := fun ds Q => ∃ ws : List Str, ds = [.list (ws.map PyData.str)] ∧ wsOk ws ∧ Q (optIs (numbersIn ws))
def T_names_in : TSp := fun ds Q => ∃ ws : List Str, ds = [.list (ws.map PyData.str)] ∧ wsOk ws ∧ strsOk ws ∧ Q (optSs (namesIn ws))
def T_line_in : TSp := fun ds Q => ∃ ws : List Str, ds = [.list (ws.map PyData.str)] ∧ ws ≠ [] ∧ wsOk ws ∧ strsOk ws ∧ Q (lineD (lineIn ws))
def T_kind_in : TSp := fun ds Q => ∃ ws : List Str, ds = [.list (ws.map PyData.str)] ∧ wsOk ws ∧ Q (optK (kindIn ws))
def layOk (d : PyData) : Prop := d.canLay0 = true ∧ d.depth ≤ 60
def T_goes_on : TSp := fun ds Q => ∃ (ls : List Ln) (l : Ln), ds = [.list (ls.map Ln.d), .str l.sort, l.v] ∧ layOk (.list (ls.map Ln.d)) ∧ Q (.bool (goesOn ls l))
def lineOk (l : Str) : Prop := l.length ≤ 100000 ∧ wsOk (Txt.split l " ") ∧ strsOk (Txt.split l " ") ∧ Txt.split l " " ≠ []
def layB (bs : List Bk) : Prop := ∀ b ∈ bs, layOk (.list (b.2.2.map Ln.d)) ∧ (PyData.str b.1).canLay0 = true
/-- the blocks grow, line by line -/
inductive RunB : List Str → List Bk → List Bk → Prop
  | nil (bs : List Bk) : RunB [] bs bs
  | cons {l : Str} {ls : List Str} {bs bs' cs : List Bk} : lineOk l → layB bs → stepB bs (Txt.split l " ") = some bs' → RunB ls bs' cs → RunB (l :: ls) bs cs
def T_blocks_in : TSp := fun ds Q => ∃ (x : Str) (bs : List Bk), ds = [.str x] ∧ x.length ≤ 1000000 ∧ (Txt.split x "\n").length ≤ 100000 ∧ RunB (Txt.split x "\n") [] bs ∧ Q (.list (bs.map Bk.d))
def itemOf (l : List Ln) (sort : Str) : PyData := match l.find? (fun x => x.sort == sort) with
  | some x => x.v
  | none => .tuple []
def T_item_of : TSp := fun ds Q => ∃ (ls : List Ln) (sort : Str), ds = [.list (ls.map Ln.d), .str sort] ∧ big ls ∧ layOk (.list (ls.map Ln.d)) ∧ Q (itemOf ls sort)
def T_kind_of : TSp := fun ds Q => ∃ (st : Int) (ls : List Ln), ds = [.int st, .list (ls.map Ln.d)] ∧ big ls ∧ layOk (.list (ls.map Ln.d)) ∧ Q (kindOf st ls).d
def T_read_house : TSp := fun ds Q => ∃ h, ds = [.str (houseText h)] ∧ HoOk h ∧ HoBig h ∧ Q (hoD h)
/-- what is no move, in the law's menu -/
def oddMvs : List PyData := [.none, .tuple [.str "bell", .int 12], .tuple [.str "come", .bool true], .tuple [.str "edge", .int 0, (Ed.mk 0 [] "go" 6).d], .tuple [.str "edge", .int 0], .tuple [.str "bell", .int 0, .int 0], .tuple [.str "ring", .int 0]]
def T_is_move : TSp := fun ds Q => (∃ m : Mv, ds = [m.d] ∧ (∀ k e, m = .edge k e → big e.asks) ∧ Q (.bool m.ok)) ∨ ∃ d ∈ oddMvs, ds = [d] ∧ Q (.bool false)
def T_move_words : TSp := fun ds Q => ∃ m : Mv, ds = [m.d] ∧ m.ok = true ∧ (∀ k e, m = .edge k e → e.asks.length ≤ 100) ∧ ∀ ws : List PyData, (ws.map strD = m.ws.map fun z => some (.str z)) → ws.length = m.ws.length → Q (.list ws)
def MvS (m : Mv) : Prop := m.ok = true ∧ ∀ k e, m = .edge k e → e.asks.length ≤ 8 ∧ (∀ z ∈ e.asks, z.length ≤ 8) ∧ e.deed.length ≤ 8
def T_weaving_text : TSp := fun ds Q => ∃ ms, ds = [mvsD ms] ∧ ms.length ≤ 10000 ∧ (∀ m ∈ ms, MvS m) ∧ Q (.str (weavText ms))
def T_move_in : TSp := fun ds Q => ∃ m : Mv, ds = [.list (m.ws.map PyData.str)] ∧ MvS m ∧ Q m.d
def T_read_weaving : TSp := fun ds Q => ∃ ms, ds = [.str (weavText ms)] ∧ ms.length ≤ 1000 ∧ (∀ m ∈ ms, MvS m) ∧ Q (mvsD ms)
end Wk
namespace Wk
open L2 RZ PyProof.Rows PySem.Spec PySem
/-! ### the law's own defs -/
/-- draws are counted; no more than this -/
def drawsMax : Nat := 1000000
def T_law_draw : TSm := fun ds b Q => ∃ top : Int, ds = [.int top] ∧ 1 ≤ top ∧ top ≤ 1000000 ∧ b < drawsMax ∧ ∀ r, 0 ≤ r → r < top → Q (.int r) (b + 1)
def T_law_some : TSm := fun ds b Q => ∃ xs, (ds = [.list xs] ∨ ds = [.tuple xs]) ∧ 1 ≤ xs.length ∧ xs.length ≤ 1000000 ∧ b < drawsMax ∧ ∀ x ∈ xs, Q x (b + 1)
def T_law_order : TSm := fun ds b Q => ∃ n : Nat, ds = [.int n] ∧ n ≤ 1000 ∧ b + n ≤ drawsMax ∧ ∀ is : List Int, is.Perm ((List.range n).map fun (i : Nat) => (i : Int)) → Q (.list (is.map PyData.int)) (b + n)
def asksMenu : List (List Str) := [[], [], ["over"], ["over"], ["calm"], ["unheld"], ["held"], ["rung"], ["calm", "over"], ["held", "over"], ["over", "unheld"], ["over", "rung"], ["held", "rung"]]
def T_law_asks : TSm := fun ds b Q => ds = [] ∧ b < drawsMax ∧ ∀ zs ∈ asksMenu, Q (strsD zs) (b + 1)
def deedMenu : List Str := ["go", "go", "hold", "give", "hush"]
def T_law_edge : TSm := fun ds b Q => ∃ a z, ds = [.int a, .int z] ∧ b + 1 < drawsMax ∧ ∀ zs ∈ asksMenu, ∀ d ∈ deedMenu, Q (Ed.mk a zs d z).d (b + 2)
/-- a drawn book -/
structure BookOk (k : Kd) : Prop where
  many : wholeI k.many 1 6 = true
  up : (k.up.all fun i => wholeI i 1 (k.many - 1)) = true
  upA : ascI k.up = true
  deaf : (k.deaf.all fun i => wholeI i 0 (k.many - 1)) = true
  deafA : ascI k.deaf = true
  edges : ∀ e ∈ k.edges, e.asks ∈ asksMenu ∧ e.deed ∈ deedMenu ∧ wholeI e.a 0 (k.many - 1) = true ∧ wholeI e.z 0 (k.many - 1) = true
  edgesA : asc ltE k.edges = true
  edgesL : k.edges.length ≤ 13
def T_law_book : TSm := fun ds b Q => ds = [.int 6, .int 8] ∧ b + 100 ≤ drawsMax ∧ ∀ k : Kd, BookOk k → ∀ b', b' ≤ b + 100 → Q k.book b'
def names4 : List Str := ["a", "bus", "go", "up"]
/-- a drawn house -/
structure HoDr (h : Ho) : Prop where
  ok : HoOk h
  book : ∀ p ∈ h, BookOk p.2 ∧ p.1 ∈ names4 ∧ (∀ z ∈ p.2.below, z ∈ h.map (·.1)) ∧ p.2.below.length ≤ 3
def T_law_house : TSm := fun ds b Q => ds = [.int 3, .int 6, .int 8] ∧ b + 1000 ≤ drawsMax ∧ ∀ h : Ho, HoDr h → ∀ b', b' ≤ b + 1000 → Q (hoD h) b'
def T_law_books : List PyData → (List (Str × PyData) → Prop) → Prop := fun ds Q => ∃ h, ds = [hoD h] ∧ h.length ≤ 3 ∧ (h.map (·.1)).Nodup ∧ Q (h.map fun p => (p.1, p.2.book))
def T_law_belows : List PyData → (List (Str × PyData) → Prop) → Prop := fun ds Q => ∃ h, ds = [hoD h] ∧ h.length ≤ 3 ∧ (h.map (·.1)).Nodup ∧ Q (h.map fun p => (p.1, strsD p.2.below))
/-- a tree: names, above -/
structure Tr where
  names : List Str
  above : List (Option Int)
def Tr.d (t : Tr) : PyData := .tuple [strsD t.names, .tuple (t.above.map optI)]
structure TrOk (h : Ho) (t : Tr) : Prop where
  len : t.names.length = t.above.length
  lo : 1 ≤ t.names.length
  hi : t.names.length ≤ 12
  inH : ∀ z ∈ t.names, z ∈ h.map (·.1)
  ab : ∀ i : Nat, 1 ≤ i → i < t.above.length → ∃ j : Int, t.above[i]? = some (some j) ∧ 0 ≤ j ∧ j < t.above.length
def T_law_tree : TSm := fun ds b Q => ∃ h, ds = [hoD h, .int 12] ∧ HoDr h ∧ b + 100 ≤ drawsMax ∧ ∀ t : Tr, TrOk h t → ∀ b', b' ≤ b + 100 → Q t.d b'
def T_law_lot : TSp := fun ds Q => ∃ (h : Ho) (t : Tr) (k : Int), ds = [t.d, .int k] ∧ TrOk h t ∧ ∀ is : List Int, is.length ≤ 12 → (∀ i ∈ is, 0 ≤ i ∧ i < t.names.length) → Q (.list (is.map PyData.int))
structure Sd where
  stand : Int
  holds : Bool
  rung : Bool
  many : Int
def Sd.d (s : Sd) : PyData := .tuple [.int s.stand, .bool s.holds, .bool s.rung, .int s.many]
def stD (ss : List Sd) : PyData := .tuple (ss.map Sd.d)
/-- a house, a tree of it, a state of the tree -/
structure Sit (h : Ho) (t : Tr) (ss : List Sd) : Prop where
  hd : HoDr h
  tr : TrOk h t
  sl : ss.length = t.names.length
def inT (t : Tr) (k : Int) : Prop := 0 ≤ k ∧ k < t.names.length
def T_law_is_up : TSp := fun ds Q => ∃ h t ss k, ds = [hoD h, t.d, stD ss, .int k] ∧ Sit h t ss ∧ inT t k ∧ ∀ c, Q (.bool c)
def T_law_is_held : TSp := fun ds Q => ∃ (h : Ho) (t : Tr) (ss : List Sd) (k : Int), ds = [t.d, stD ss, .int k] ∧ Sit h t ss ∧ inT t k ∧ ∀ c, Q (.bool c)
def T_law_is_so : TSp := fun ds Q => ∃ h t ss k z, ds = [hoD h, t.d, stD ss, .int k, .str z] ∧ Sit h t ss ∧ inT t k ∧ ∀ c, Q (.bool c)
def T_law_may : TSp := fun ds Q => ∃ h t ss k, ∃ e : Ed, ds = [hoD h, t.d, stD ss, .int k, e.d] ∧ Sit h t ss ∧ inT t k ∧ e.asks.length ≤ 8 ∧ (∀ z ∈ e.asks, z ∈ ASKS) ∧ ∀ c, Q (.bool c)
/-- a drawn move -/
structure MvDr (t : Tr) (m : Mv) : Prop where
  s : MvS m
  k : match m with
    | .edge k _ => inT t k
    | .come k => inT t k
    | .leave k => inT t k
    | .bell k => inT t k
def T_law_moves : TSp := fun ds Q => ∃ h t ss, ds = [hoD h, t.d, stD ss] ∧ Sit h t ss ∧ ∀ ms : List Mv, ms.length ≤ 200 → (∀ m ∈ ms, MvDr t m) → Q (.list (ms.map Mv.d))
def T_law_done : TSp := fun ds Q => ∃ h t ss m, ds = [hoD h, t.d, stD ss, m.d] ∧ Sit h t ss ∧ MvDr t m ∧ ∀ ss', Sit h t ss' → Q (stD ss')
def T_law_any : TSm := fun ds b Q => ∃ h t ss, ds = [hoD h, t.d, stD ss] ∧ Sit h t ss ∧ b + 10 ≤ drawsMax ∧ ∀ m, MvDr t m → ∀ b', b' ≤ b + 10 → Q m.d b'
def T_law_begin : TSp := fun ds Q => ∃ (h : Ho) (t : Tr), ds = [t.d] ∧ TrOk h t ∧ Q (stD (List.replicate t.names.length ⟨0, false, false, 0⟩))
def T_law_weaving : TSm := fun ds b Q => ∃ h t, ds = [hoD h, t.d, .int 15] ∧ HoDr h ∧ TrOk h t ∧ b + 500 ≤ drawsMax ∧ ∀ ms : List Mv, ms.length ≤ 15 → (∀ m ∈ ms, MvDr t m) → ∀ ss, ∀ b', b' ≤ b + 500 → Q (.tuple [mvsD ms, stD ss]) b'
def T_law_edge_text : TSp := fun ds Q => ∃ e : Ed, ds = [e.d] ∧ e.asks.length ≤ 8 ∧ (∀ z ∈ e.asks, z.length ≤ 8) ∧ e.deed.length ≤ 8 ∧ small e.a ∧ small e.z ∧ Q (.str (sp (edgeWs e)))
def T_law_house_text : TSp := fun ds Q => ∃ h, ds = [hoD h] ∧ HoOk h ∧ HoBig h ∧ Q (.str (houseText h))
def T_law_move_text : TSp := fun ds Q => ∃ m : Mv, ds = [m.d] ∧ MvS m ∧ Q (.str (sp m.ws))
end Wk
namespace Wk
open L2 RZ PyProof.Rows PySem.Spec PySem
/-! ### readings, told in closed form -/
@[simp] theorem isi_int_non : isiD "int" .none = some (.bool false) := rfl
@[simp] theorem isi_int_bl (b : Bool) : isiD "int" (.bool b) = some (.bool true) := rfl
@[simp] theorem isi_int_int (i : Int) : isiD "int" (.int i) = some (.bool true) := rfl
@[simp] theorem isi_int_str (z : Str) : isiD "int" (.str z) = some (.bool false) := rfl
@[simp] theorem isi_int_list (ds : List PyData) : isiD "int" (.list ds) = some (.bool false) := rfl
@[simp] theorem isi_int_tup (ds : List PyData) : isiD "int" (.tuple ds) = some (.bool false) := rfl
@[simp] theorem isi_bool_non : isiD "bool" .none = some (.bool false) := rfl
@[simp] theorem isi_bool_bl (b : Bool) : isiD "bool" (.bool b) = some (.bool true) := rfl
@[simp] theorem isi_bool_int (i : Int) : isiD "bool" (.int i) = some (.bool false) := rfl
@[simp] theorem isi_bool_str (z : Str) : isiD "bool" (.str z) = some (.bool false) := rfl
@[simp] theorem isi_bool_list (ds : List PyData) : isiD "bool" (.list ds) = some (.bool false) := rfl
@[simp] theorem isi_bool_tup (ds : List PyData) : isiD "bool" (.tuple ds) = some (.bool false) := rfl
@[simp] theorem isi_str_non : isiD "str" .none = some (.bool false) := rfl
@[simp] theorem isi_str_bl (b : Bool) : isiD "str" (.bool b) = some (.bool false) := rfl
@[simp] theorem isi_str_int (i : Int) : isiD "str" (.int i) = some (.bool false) := rfl
@[simp] theorem isi_str_str (z : Str) : isiD "str" (.str z) = some (.bool true) := rfl
@[simp] theorem isi_str_list (ds : List PyData) : isiD "str" (.list ds) = some (.bool false) := rfl
@[simp] theorem isi_str_tup (ds : List PyData) : isiD "str" (.tuple ds) = some (.bool false) := rfl
@[simp] theorem isi_tuple_non : isiD "tuple" .none = some (.bool false) := rfl
@[simp] theorem isi_tuple_bl (b : Bool) : isiD "tuple" (.bool b) = some (.bool false) := rfl
@[simp] theorem isi_tuple_int (i : Int) : isiD "tuple" (.int i) = some (.bool false) := rfl
@[simp] theorem isi_tuple_str (z : Str) : isiD "tuple" (.str z) = some (.bool false) := rfl
@[simp] theorem isi_tuple_list (ds : List PyData) : isiD "tuple" (.list ds) = some (.bool false) := rfl
@[simp] theorem isi_tuple_tup (ds : List PyData) : isiD "tuple" (.tuple ds) = some (.bool true) := rfl
@[simp] theorem leD_ii (i j : Int) : leD (.int i) (.int j) = some (.bool (decide (i ≤ j))) := rfl
@[simp] theorem gtD_ii (i j : Int) : gtD (.int i) (.int j) = some (.bool (decide (j < i))) := rfl
@[simp] theorem geD_ii (i j : Int) : geD (.int i) (.int j) = some (.bool (decide (j ≤ i))) := rfl
@[simp] theorem ltD_ii (i j : Int) : ltD (.int i) (.int j) = some (.bool (decide (i < j))) := rfl
@[simp] theorem ltD_ss (x y : Str) : ltD (.str x) (.str y) = some (.bool (ltS x y)) := rfl
@[simp] theorem addD_ii (i j : Int) : addD (.int i) (.int j) = some (.int (i + j)) := rfl
@[simp] theorem subD_ii (i j : Int) : subD (.int i) (.int j) = some (.int (i - j)) := rfl
theorem line_eq : sizeLine = 16777216 := sizeLine_eq
@[simp] theorem lenD_str (z : Str) (h : z.length ≤ 16777216) : lenD (.str z) = some (.int z.length) := by
  show (if z.length ≤ sizeLine then _ else _) = _
  rw [line_eq, if_pos h]
@[simp] theorem lenD_list (ds : List PyData) : lenD (.list ds) = some (.int ds.length) := rfl
@[simp] theorem lenD_tup (ds : List PyData) : lenD (.tuple ds) = some (.int ds.length) := rfl
@[simp] theorem addD_ss (x y : Str) (h : x.length + y.length ≤ 16777216) : addD (.str x) (.str y) = some (.str (x ++ y)) := by
  show (if x.length + y.length ≤ sizeLine then _ else _) = _
  rw [line_eq, if_pos h]
@[simp] theorem addD_tt (xs ys : List PyData) (h : xs.length + ys.length ≤ 16777216) : addD (.tuple xs) (.tuple ys) = some (.tuple (xs ++ ys)) := by
  show (if xs.length + ys.length ≤ sizeLine then _ else _) = _
  rw [line_eq, if_pos h]
@[simp] theorem strD_str (z : Str) : strD (.str z) = some (.str z) := rfl
@[simp] theorem seqD_list (ds : List PyData) : seqD (.list ds) = some ds := rfl
@[simp] theorem seqD_tup (ds : List PyData) : seqD (.tuple ds) = some ds := rfl
@[simp] theorem eqD_ss (x y : Str) : eqD (.str x) (.str y) = some (.bool (x == y)) := by
  rfl
@[simp] theorem neD_ss (x y : Str) : neD (.str x) (.str y) = some (.bool (!(x == y))) := by
  rfl
@[simp] theorem eqD_ii (x y : Int) : eqD (.int x) (.int y) = some (.bool (x == y)) := by
  unfold eqD
  have : eqOk (.int x) (.int y) = true := by simp [eqOk, PyData.canLay0, PyData.depth]
  rw [if_pos this]; rfl
@[simp] theorem neD_ii (x y : Int) : neD (.int x) (.int y) = some (.bool (!(x == y))) := by
  unfold neD
  have : eqOk (.int x) (.int y) = true := by simp [eqOk, PyData.canLay0, PyData.depth]
  rw [if_pos this]; rfl
@[simp] theorem isND_non : isND .none .none = some (.bool true) := rfl
@[simp] theorem isND_int (i : Int) : isND (.int i) .none = some (.bool false) := rfl
@[simp] theorem isND_str (i : Str) : isND (.str i) .none = some (.bool false) := rfl
@[simp] theorem isND_tup (i : List PyData) : isND (.tuple i) .none = some (.bool false) := rfl
@[simp] theorem isND_list (i : List PyData) : isND (.list i) .none = some (.bool false) := rfl
@[simp] theorem isNND_non : isNND .none .none = some (.bool false) := rfl
@[simp] theorem isNND_int (i : Int) : isNND (.int i) .none = some (.bool true) := rfl
@[simp] theorem isNND_str (i : Str) : isNND (.str i) .none = some (.bool true) := rfl
@[simp] theorem isNND_tup (i : List PyData) : isNND (.tuple i) .none = some (.bool true) := rfl
@[simp] theorem isNND_list (i : List PyData) : isNND (.list i) .none = some (.bool true) := rfl
theorem all_flat : ∀ zs : List Str, (zs.map PyData.str).all flatD = true
  | [] => rfl
  | z :: zs => by rw [List.map_cons, List.all_cons, all_flat zs]; rfl
theorem any_eqv (x : Str) : ∀ zs : List Str, ((zs.map PyData.str).any fun y => PyData.eqv y (.str x)) = inS x zs
  | [] => rfl
  | z :: zs => by
    rw [List.map_cons, List.any_cons, any_eqv x zs]; rfl
theorem inD_tup0 (x : Str) (zs : List Str) : inD (.str x) (.tuple (zs.map PyData.str)) = some (.bool (inS x zs)) := by
  show (if flatD (.str x) = true ∧ (zs.map PyData.str).all flatD = true then some (PyData.bool ((zs.map PyData.str).any fun y => PyData.eqv y (.str x))) else none) = _
  rw [if_pos ⟨rfl, all_flat zs⟩, any_eqv]
theorem inD_list0 (x : Str) (zs : List Str) : inD (.str x) (.list (zs.map PyData.str)) = some (.bool (inS x zs)) := by
  show (if flatD (.str x) = true ∧ (zs.map PyData.str).all flatD = true then some (PyData.bool ((zs.map PyData.str).any fun y => PyData.eqv y (.str x))) else none) = _
  rw [if_pos ⟨rfl, all_flat zs⟩, any_eqv]
theorem inD_sign (c : Nat) (z : Str) : inD (.str ⟨#[c]⟩) (.str z) = some (.bool (decide (c ∈ z.cps.toList))) := rfl
@[simp] theorem idxD_tup (ds : List PyData) (i : Int) : idxD (.tuple ds) (.int i) = atI ds i := rfl
@[simp] theorem idxD_list (ds : List PyData) (i : Int) : idxD (.list ds) (.int i) = atI ds i := rfl
theorem atI_nat' {α : Type} (xs : List α) (j : Nat) : atI xs (j : Int) = xs[j]? := by
  cases h : xs[j]? with
  | some v => exact atI_nat h
  | none =>
    have := List.getElem?_eq_none_iff.mp h
    unfold atI ixN
    rw [if_pos (by omega), if_neg (by omega)]; rfl
@[simp] theorem atI_0 {α : Type} (xs : List α) : atI xs 0 = xs[0]? := atI_nat' xs 0
@[simp] theorem atI_1 {α : Type} (xs : List α) : atI xs 1 = xs[1]? := atI_nat' xs 1
@[simp] theorem atI_2 {α : Type} (xs : List α) : atI xs 2 = xs[2]? := atI_nat' xs 2
@[simp] theorem atI_3 {α : Type} (xs : List α) : atI xs 3 = xs[3]? := atI_nat' xs 3
@[simp] theorem atI_m1 {α : Type} (xs : List α) : atI xs (-1) = xs.getLast? := by
  cases xs with
  | nil => rfl
  | cons x xs =>
    unfold atI ixN
    rw [if_neg (by omega), if_pos (by simp; omega)]
    rw [List.getLast?_eq_getElem?]; show (x :: xs)[((-1 : Int) + ((x :: xs).length : Nat)).toNat]? = _
    congr 1
    simp
    omega
theorem len_chars (z : Str) : (charsD z).length = z.length := by simp [charsD, Str.length]
@[simp] theorem cut_all {α : Type} (xs : List α) : cutP xs none none = xs := cutP_whole rfl rfl
theorem cut_from {α : Type} (xs : List α) (n : Nat) : cutP xs (some (n : Int)) none = xs.drop n := by
  unfold cutP
  have h1 : HT.sIx xs.length 0 (some (n : Int)) = min n xs.length := by
    simp [HT.sIx]; omega
  have h2 : HT.sIx xs.length xs.length none = xs.length := rfl
  rw [h1, h2]
  by_cases h : n ≤ xs.length
  · rw [Nat.min_eq_left h]; rw [List.take_of_length_le (by simp)]
  · rw [Nat.min_eq_right (by omega), List.drop_of_length_le (by omega), List.drop_of_length_le (by omega)]; simp
@[simp] theorem slice_list (lo hi : Option Int) (ds : List PyData) : sliceD lo hi (.list ds) = some (.list (cutP ds lo hi)) := rfl
@[simp] theorem slice_tup (lo hi : Option Int) (ds : List PyData) : sliceD lo hi (.tuple ds) = some (.tuple (cutP ds lo hi)) := rfl
@[simp] theorem cut_1 {α : Type} (xs : List α) : cutP xs (some 1) none = xs.drop 1 := cut_from xs 1
@[simp] theorem cut_2 {α : Type} (xs : List α) : cutP xs (some 2) none = xs.drop 2 := cut_from xs 2
@[simp] theorem cut_3 {α : Type} (xs : List α) : cutP xs (some 3) none = xs.drop 3 := cut_from xs 3
/-! comprehensions -/
theorem lc_filter {α : Type} (enc g : α → PyData) (p : α → Bool) {T : Tg} {tt : TTD} {te : TD} {δ : List Sl} : ∀ (xs : List α), (∀ x ∈ xs, ∃ δ', T.put (enc x) δ = some δ' ∧ (∀ b Q, Q (p x) b → tt δ' b Q) ∧ (p x = true → ∀ b Q, Q (g x) b → te δ' b Q)) → ∀ acc b Q, Q (acc ++ (xs.filter p).map g) b → lcGo T tt te δ (xs.map enc) acc b Q
  | [], _, acc, b, Q, h => by simpa [lcGo] using h
  | x :: xs, hx, acc, b, Q, h => by
    obtain ⟨δ', h1, h2, h3⟩ := hx x (by simp)
    refine ⟨δ', h1, h2 b _ ?_⟩
    cases hp : p x with
    | true =>
      rw [if_pos rfl]
      exact h3 hp b _ (lc_filter enc g p xs (fun y hy => hx y (by simp [hy])) (acc ++ [g x]) b Q (by simpa [List.filter_cons, hp] using h))
    | false =>
      rw [if_neg Bool.false_ne_true]; exact lc_filter enc g p xs (fun y hy => hx y (by simp [hy])) acc b Q (by simpa [List.filter_cons, hp] using h)
theorem lc_map {α : Type} (enc g : α → PyData) {T : Tg} {te : TD} {δ : List Sl} (xs : List α) (hx : ∀ x ∈ xs, ∃ δ', T.put (enc x) δ = some δ' ∧ ∀ b Q, Q (g x) b → te δ' b Q) (acc : List PyData) (b : Nat) (Q : List PyData → Nat → Prop) (h : Q (acc ++ xs.map g) b) : lcGo T dYes te δ (xs.map enc) acc b Q :=
  lc_filter enc g (fun _ => true) xs (fun x hm => by
    obtain ⟨δ', h1, h2⟩ := hx x hm
    exact ⟨δ', h1, fun b Q h => h, fun _ => h2⟩) acc b Q (by rw [List.filter_eq_self.mpr fun _ _ => rfl]; exact h)
end Wk
namespace Wk
open L2 RZ PyProof.Rows PySem.Spec PySem
/-! is_whole -/
abbrev N_is_whole : List Str := ["value", "least", "most"]
theorem sc_is_whole : FnScope N_is_whole ["value", "least", "most"] (defScope (top 31)) := ⟨rfl, rfl, rfl, by decide +kernel, rfl, by decide +kernel, by decide +kernel⟩
def t_is_whole : TSD := (sRet (dAndV (d1 (isiD "int") (dVar 0)) (dAndV (dNotV (d1 (isiD "bool") (dVar 0))) (dChain leD leD (dVar 1) (dVar 0) (dVar 2)))))
theorem b_is_whole {P : Program} {w : World} {K : PySem.W.Frag} {mg : Str → Option Value} {base : Heap} (W : Wo P w K mg base) 
    (cdv : Value) (A : Around) (outer : List Env) (s : Shared) (H : Hp) (F : Fm) (E : XK) (hr : Room 0 (A.deeper (envOfC "is_whole" (defScope (top 31)) s.heap.objs.size (He.ga K "is_whole") cdv))) :
    PSsD (cxOf (L2.CX P w) P w K mg base N_is_whole "is_whole" (defScope (top 31)) (He.ga K "is_whole") cdv A outer s H E) F (defBody (top 31)) (t_is_whole) :=
  (ss_one (s_ret (d_andV (d_isi rfl (W.free 0) (d_var 0) rfl (W.free 7) boot_int (by decide)) (d_andV (d_notV (d_isi rfl (W.free 0) (d_var 0) rfl (W.free 8) boot_bool (by decide))) (d_one (d_lele (d_var 1) (d_var 0) (d_var 2)))))))
/-! is_word -/
abbrev N_is_word : List Str := ["value", "letter"]
theorem sc_is_word : FnScope N_is_word ["value"] (defScope (top 32)) := ⟨rfl, rfl, rfl, by decide +kernel, rfl, by decide +kernel, by decide +kernel⟩
def t_is_word : TSD := (sSeq (sIf (dOr (dNot (dTest (d1 (isiD "str") (dVar 0)))) (dNot (dTest (dChain leD leD (dC (.int 1)) (d1 lenD (dVar 0)) (dC (.int 8)))))) (sRet (dC (.bool false))) sNext) (sRet (dAll (nLc (iS (dVar 0)) (.nm 1) dYes (d2 inD (dVar 1) (dC (.str "abcdefghijklmnopqrstuvwxyz"))) [1]))))
theorem b_is_word {P : Program} {w : World} {K : PySem.W.Frag} {mg : Str → Option Value} {base : Heap} (W : Wo P w K mg base) 
    (cdv : Value) (A : Around) (outer : List Env) (s : Shared) (H : Hp) (F : Fm) (E : XK) (hr : Room 0 (A.deeper (envOfC "is_word" (defScope (top 32)) s.heap.objs.size (He.ga K "is_word") cdv))) :
    PSsD (cxOf (L2.CX P w) P w K mg base N_is_word "is_word" (defScope (top 32)) (He.ga K "is_word") cdv A outer s H E) F (defBody (top 32)) (t_is_word) :=
  (ss_cons (s_if (PDW.t (d_orW (d_notT (d_val (d_isi rfl (W.free 0) (d_var 0) rfl (W.free 6) boot_str (by decide)))) (d_or1 (d_notT (d_leleT d_int (d_len rfl (W.free 1) (d_var 0)) (d_gint rfl (W.int 18))))))) (ss_one (s_ret d_bl)) ss_nil) (ss_one (s_ret (d_all rfl rfl (W.free 2) (PDN.v (n_lc [("letter", 1)] rfl sc_is_word.nd (i_str (d_var 0)) (blkOk_by (N := N_is_word) (sc := defScope (top 32)) (by decide +kernel)) (by decide) (fun _ _ _ _ _ => (g_nm 1 sc_is_word.nd)) (fun _ _ _ _ _ => ts_nil) (fun _ _ _ _ _ => (d_in (d_var 1) (d_gstr rfl (W.str 21))))))))))
/-! is_tuple_of -/
abbrev N_is_tuple_of : List Str := ["value", "many"]
theorem sc_is_tuple_of : FnScope N_is_tuple_of ["value", "many"] (defScope (top 33)) := ⟨rfl, rfl, rfl, by decide +kernel, rfl, by decide +kernel, by decide +kernel⟩
def t_is_tuple_of : TSD := (sRet (dAndV (d1 (isiD "tuple") (dVar 0)) (d2 eqD (d1 lenD (dVar 0)) (dVar 1))))
theorem b_is_tuple_of {P : Program} {w : World} {K : PySem.W.Frag} {mg : Str → Option Value} {base : Heap} (W : Wo P w K mg base) 
    (cdv : Value) (A : Around) (outer : List Env) (s : Shared) (H : Hp) (F : Fm) (E : XK) (hr : Room 0 (A.deeper (envOfC "is_tuple_of" (defScope (top 33)) s.heap.objs.size (He.ga K "is_tuple_of") cdv))) :
    PSsD (cxOf (L2.CX P w) P w K mg base N_is_tuple_of "is_tuple_of" (defScope (top 33)) (He.ga K "is_tuple_of") cdv A outer s H E) F (defBody (top 33)) (t_is_tuple_of) :=
  (ss_one (s_ret (d_andV (d_isi rfl (W.free 0) (d_var 0) rfl (W.free 9) boot_tuple (by decide)) (d_one (d_eq hr.units (d_len rfl (W.free 1) (d_var 0)) (d_var 1))))))
/-! is_ascending -/
abbrev N_is_ascending : List Str := ["value", "one", "other"]
theorem sc_is_ascending : FnScope N_is_ascending ["value"] (defScope (top 34)) := ⟨rfl, rfl, rfl, by decide +kernel, rfl, by decide +kernel, by decide +kernel⟩
def t_is_ascending : TSD := (sRet (dAll (nLc (iZ (dVar 0) (dSl (dVar 0) (oSome (dC (.int 1))) oNo)) (.tup [(.nm 1), (.nm 2)]) dYes (d2 ltD (dVar 1) (dVar 2)) [1, 2])))
theorem b_is_ascending {P : Program} {w : World} {K : PySem.W.Frag} {mg : Str → Option Value} {base : Heap} (W : Wo P w K mg base) 
    (cdv : Value) (A : Around) (outer : List Env) (s : Shared) (H : Hp) (F : Fm) (E : XK) (hr : Room 0 (A.deeper (envOfC "is_ascending" (defScope (top 34)) s.heap.objs.size (He.ga K "is_ascending") cdv))) :
    PSsD (cxOf (L2.CX P w) P w K mg base N_is_ascending "is_ascending" (defScope (top 34)) (He.ga K "is_ascending") cdv A outer s H E) F (defBody (top 34)) (t_is_ascending) :=
  (ss_one (s_ret (d_all rfl rfl (W.free 2) (PDN.v (n_lc [("one", 1), ("other", 2)] rfl sc_is_ascending.nd (i_zip rfl (W.free 3) (d_var 0) (d_slice (d_var 0) (o_some d_int) o_none)) (blkOk_by (N := N_is_ascending) (sc := defScope (top 34)) (by decide +kernel)) (by decide) (fun _ _ _ _ _ => (g_tup rfl (g_cons (g_nm 1 sc_is_ascending.nd) (g_cons (g_nm 2 sc_is_ascending.nd) g_nil)))) (fun _ _ _ _ _ => ts_nil) (fun _ _ _ _ _ => (d_lt hr.units (d_var 1) (d_var 2))))))))
/-! is_stands -/
abbrev N_is_stands : List Str := ["value", "first", "stands", "stand"]
theorem sc_is_stands : FnScope N_is_stands ["value", "first", "stands"] (defScope (top 35)) := ⟨rfl, rfl, rfl, by decide +kernel, rfl, by decide +kernel, by decide +kernel⟩
def t_is_stands : TSD := (sSeq (sIf (dOr (dNot (dTest (d1 (isiD "tuple") (dVar 0)))) (dNot (dTest (dAll (nLc (iT (dVar 0)) (.nm 3) dYes (dCall T_is_whole (aCons (dVar 3) (aCons (dVar 1) (aCons (d2 subD (dVar 2) (dC (.int 1))) aNil)))) [3]))))) (sRet (dC (.bool false))) sNext) (sRet (dCall T_is_ascending (aCons (dVar 0) aNil))))
theorem b_is_stands {P : Program} {w : World} {K : PySem.W.Frag} {mg : Str → Option Value} {base : Heap} (W : Wo P w K mg base) (c_is_ascending : Cal P w K mg base 1 "is_ascending" (spD K T_is_ascending)) (c_is_whole : Cal P w K mg base 1 "is_whole" (spD K T_is_whole))
    (cdv : Value) (A : Around) (outer : List Env) (s : Shared) (H : Hp) (F : Fm) (E : XK) (hr : Room 1 (A.deeper (envOfC "is_stands" (defScope (top 35)) s.heap.objs.size (He.ga K "is_stands") cdv))) :
    PSsD (cxOf (L2.CX P w) P w K mg base N_is_stands "is_stands" (defScope (top 35)) (He.ga K "is_stands") cdv A outer s H E) F (defBody (top 35)) (t_is_stands) :=
  (ss_cons (s_if (PDW.t (d_orW (d_notT (d_val (d_isi rfl (W.free 0) (d_var 0) rfl (W.free 9) boot_tuple (by decide)))) (d_or1 (d_notT (d_val (d_all rfl rfl (W.free 2) (PDN.v (n_lc [("stand", 3)] rfl sc_is_stands.nd (i_tup (d_var 0)) (blkOk_by (N := N_is_stands) (sc := defScope (top 35)) (by decide +kernel)) (by decide) (fun _ _ _ _ _ => (g_nm 3 sc_is_stands.nd)) (fun _ _ _ _ _ => ts_nil) (fun _ _ _ _ _ => (d_call c_is_whole hr (a_cons (d_var 3) (a_cons (d_var 1) (a_cons (d_sub (d_var 2) d_int) a_nil))))))))))))) (ss_one (s_ret d_bl)) ss_nil) (ss_one (s_ret (d_call c_is_ascending hr (a_cons (d_var 0) a_nil)))))
/-! is_asks -/
abbrev N_is_asks : List Str := ["value", "ask"]
theorem sc_is_asks : FnScope N_is_asks ["value"] (defScope (top 36)) := ⟨rfl, rfl, rfl, by decide +kernel, rfl, by decide +kernel, by decide +kernel⟩
def t_is_asks : TSD := (sSeq (sIf (dOr (dNot (dTest (d1 (isiD "tuple") (dVar 0)))) (dNot (dTest (dAll (nLc (iT (dVar 0)) (.nm 1) dYes (dAndV (d1 (isiD "str") (dVar 1)) (d2 inD (dVar 1) (dC (.tuple (List.map PyData.str ["calm", "held", "over", "rung", "unheld"]))))) [1]))))) (sRet (dC (.bool false))) sNext) (sRet (dAndV (dCall T_is_ascending (aCons (dVar 0) aNil)) (d2 ltD (dLenV (nLc (iT (dVar 0)) (.nm 1) (dTest (d2 inD (dVar 1) (dTup (aCons (dC (.str "calm")) (aCons (dC (.str "held")) (aCons (dC (.str "unheld")) aNil)))))) (dVar 1) [1])) (dC (.int 2))))))
theorem b_is_asks {P : Program} {w : World} {K : PySem.W.Frag} {mg : Str → Option Value} {base : Heap} (W : Wo P w K mg base) (c_is_ascending : Cal P w K mg base 1 "is_ascending" (spD K T_is_ascending))
    (cdv : Value) (A : Around) (outer : List Env) (s : Shared) (H : Hp) (F : Fm) (E : XK) (hr : Room 1 (A.deeper (envOfC "is_asks" (defScope (top 36)) s.heap.objs.size (He.ga K "is_asks") cdv))) :
    PSsD (cxOf (L2.CX P w) P w K mg base N_is_asks "is_asks" (defScope (top 36)) (He.ga K "is_asks") cdv A outer s H E) F (defBody (top 36)) (t_is_asks) :=
  (ss_cons (s_if (PDW.t (d_orW (d_notT (d_val (d_isi rfl (W.free 0) (d_var 0) rfl (W.free 9) boot_tuple (by decide)))) (d_or1 (d_notT (d_val (d_all rfl rfl (W.free 2) (PDN.v (n_lc [("ask", 1)] rfl sc_is_asks.nd (i_tup (d_var 0)) (blkOk_by (N := N_is_asks) (sc := defScope (top 36)) (by decide +kernel)) (by decide) (fun _ _ _ _ _ => (g_nm 1 sc_is_asks.nd)) (fun _ _ _ _ _ => ts_nil) (fun _ _ _ _ _ => (d_andV (d_isi rfl (W.free 0) (d_var 1) rfl (W.free 6) boot_str (by decide)) (d_one (d_in (d_var 1) (d_gtup rfl (W.glo 41) (W.tup 0)))))))))))))) (ss_one (s_ret d_bl)) ss_nil) (ss_one (s_ret (d_andV (d_call c_is_ascending hr (a_cons (d_var 0) a_nil)) (d_one (d_lt hr.units (d_lenV rfl (W.free 1) (PDN.v (n_lc [("ask", 1)] rfl sc_is_asks.nd (i_tup (d_var 0)) (blkOk_by (N := N_is_asks) (sc := defScope (top 36)) (by decide +kernel)) (by decide) (fun _ _ _ _ _ => (g_nm 1 sc_is_asks.nd)) (fun _ _ _ _ _ => (ts_one (d_inT (d_var 1) (d_tup (a_cons (d_gstr rfl (W.str 22)) (a_cons (d_gstr rfl (W.str 23)) (a_cons (d_gstr rfl (W.str 26)) a_nil))))))) (fun _ _ _ _ _ => (d_var 1))))) d_int))))))
/-! is_edge -/
abbrev N_is_edge : List Str := ["value", "stands"]
theorem sc_is_edge : FnScope N_is_edge ["value", "stands"] (defScope (top 37)) := ⟨rfl, rfl, rfl, by decide +kernel, rfl, by decide +kernel, by decide +kernel⟩
def t_is_edge : TSD := (sSeq (sIf (dOr (dNot (dTest (dCall T_is_tuple_of (aCons (dVar 0) (aCons (dC (.int 4)) aNil))))) (dOr (dNot (dTest (dCall T_is_asks (aCons (d2 idxD (dVar 0) (dC (.int 1))) aNil)))) (dNot (dTest (d1 (isiD "str") (d2 idxD (dVar 0) (dC (.int 2)))))))) (sRet (dC (.bool false))) sNext) (sRet (dAndV (d2 inD (d2 idxD (dVar 0) (dC (.int 2))) (dC (.tuple (List.map PyData.str ["give", "go", "hold", "hush"])))) (dAndV (dCall T_is_whole (aCons (d2 idxD (dVar 0) (dC (.int 0))) (aCons (dC (.int 0)) (aCons (d2 subD (dVar 1) (dC (.int 1))) aNil)))) (dCall T_is_whole (aCons (d2 idxD (dVar 0) (dC (.int 3))) (aCons (dC (.int 0)) (aCons (d2 subD (dVar 1) (dC (.int 1))) aNil))))))))
theorem b_is_edge {P : Program} {w : World} {K : PySem.W.Frag} {mg : Str → Option Value} {base : Heap} (W : Wo P w K mg base) (c_is_asks : Cal P w K mg base 2 "is_asks" (spD K T_is_asks)) (c_is_tuple_of : Cal P w K mg base 2 "is_tuple_of" (spD K T_is_tuple_of)) (c_is_whole : Cal P w K mg base 2 "is_whole" (spD K T_is_whole))
    (cdv : Value) (A : Around) (outer : List Env) (s : Shared) (H : Hp) (F : Fm) (E : XK) (hr : Room 2 (A.deeper (envOfC "is_edge" (defScope (top 37)) s.heap.objs.size (He.ga K "is_edge") cdv))) :
    PSsD (cxOf (L2.CX P w) P w K mg base N_is_edge "is_edge" (defScope (top 37)) (He.ga K "is_edge") cdv A outer s H E) F (defBody (top 37)) (t_is_edge) :=
  (ss_cons (s_if (PDW.t (d_orW (d_notT (d_val (d_call c_is_tuple_of hr (a_cons (d_var 0) (a_cons d_int a_nil))))) (d_orW (d_notT (d_val (d_call c_is_asks hr (a_cons (d_ix (d_var 0) d_int (by intro _ _; rfl)) a_nil)))) (d_or1 (d_notT (d_val (d_isi rfl (W.free 0) (d_ix (d_var 0) d_int (by intro _ _; rfl)) rfl (W.free 6) boot_str (by decide)))))))) (ss_one (s_ret d_bl)) ss_nil) (ss_one (s_ret (d_andV (d_in (d_ix (d_var 0) d_int (by intro _ _; rfl)) (d_gtup rfl (W.glo 42) (W.tup 1))) (d_andV (d_call c_is_whole hr (a_cons (d_ix (d_var 0) d_int (by intro _ _; rfl)) (a_cons d_int (a_cons (d_sub (d_var 1) d_int) a_nil)))) (d_one (d_call c_is_whole hr (a_cons (d_ix (d_var 0) d_int (by intro _ _; rfl)) (a_cons d_int (a_cons (d_sub (d_var 1) d_int) a_nil))))))))))
/-! need_edges -/
abbrev N_need_edges : List Str := ["number", "stands", "edges", "place", "edge"]
theorem sc_need_edges : FnScope N_need_edges ["number", "stands", "edges"] (defScope (top 38)) := ⟨rfl, rfl, rfl, by decide +kernel, rfl, by decide +kernel, by decide +kernel⟩
def t_need_edges : TSD := (sSeq (sIf (dOr (dNot (dTest (d1 (isiD "tuple") (dVar 2)))) (dTest (d2 gtD (d1 lenD (dVar 2)) (dC (.int 24))))) sNever sNext) (sFor (iET (dVar 2)) (.tup [(.nm 3), (.nm 4)]) (sIf (dOr (dNot (dTest (dCall T_is_edge (aCons (dVar 4) (aCons (dVar 1) aNil))))) (dAnd (dTest (d2 gtD (dVar 3) (dC (.int 0)))) (dNot (dTest (d2 ltD (d2 idxD (dVar 2) (d2 subD (dVar 3) (dC (.int 1)))) (dVar 4)))))) sNever sNext)))
theorem b_need_edges {P : Program} {w : World} {K : PySem.W.Frag} {mg : Str → Option Value} {base : Heap} (W : Wo P w K mg base) (c_is_edge : Cal P w K mg base 3 "is_edge" (spD K T_is_edge))
    (cdv : Value) (A : Around) (outer : List Env) (s : Shared) (H : Hp) (F : Fm) (E : XK) (hr : Room 3 (A.deeper (envOfC "need_edges" (defScope (top 38)) s.heap.objs.size (He.ga K "need_edges") cdv))) :
    PSsD (cxOf (L2.CX P w) P w K mg base N_need_edges "need_edges" (defScope (top 38)) (He.ga K "need_edges") cdv A outer s H E) F (defBody (top 38)) (t_need_edges) :=
  (ss_cons (s_if (PDW.t (d_orW (d_notT (d_val (d_isi rfl (W.free 0) (d_var 2) rfl (W.free 9) boot_tuple (by decide)))) (d_or1 (d_gtT (d_len rfl (W.free 1) (d_var 2)) (d_gint rfl (W.int 17)))))) (ss_one s_never) ss_nil) (ss_one (s_for (passes_of rfl) rfl (i_enumT rfl (W.free 4) (d_var 2)) (g_tup rfl (g_cons (g_nm 3 sc_need_edges.nd) (g_cons (g_nm 4 sc_need_edges.nd) g_nil))) (ss_one (s_if (PDW.t (d_orW (d_notT (d_val (d_call c_is_edge hr (a_cons (d_var 4) (a_cons (d_var 1) a_nil))))) (d_or1 (PDW.t (d_andW (d_gtT (d_var 3) d_int) (d_and1 (d_notT (d_ltT hr.units (d_ix (d_var 2) (d_sub (d_var 3) d_int) (by intro _ _; rfl)) (d_var 4))))))))) (ss_one s_never) ss_nil)))))
/-! is_below -/
abbrev N_is_below : List Str := ["value", "names", "name"]
theorem sc_is_below : FnScope N_is_below ["value", "names"] (defScope (top 39)) := ⟨rfl, rfl, rfl, by decide +kernel, rfl, by decide +kernel, by decide +kernel⟩
def t_is_below : TSD := (sSeq (sIf (dOr (dNot (dTest (d1 (isiD "tuple") (dVar 0)))) (dNot (dTest (dAll (nLc (iT (dVar 0)) (.nm 2) dYes (dAndV (d1 (isiD "str") (dVar 2)) (d2 inD (dVar 2) (dVar 1))) [2]))))) (sRet (dC (.bool false))) sNext) (sRet (dCall T_is_ascending (aCons (dVar 0) aNil))))
theorem b_is_below {P : Program} {w : World} {K : PySem.W.Frag} {mg : Str → Option Value} {base : Heap} (W : Wo P w K mg base) (c_is_ascending : Cal P w K mg base 1 "is_ascending" (spD K T_is_ascending))
    (cdv : Value) (A : Around) (outer : List Env) (s : Shared) (H : Hp) (F : Fm) (E : XK) (hr : Room 1 (A.deeper (envOfC "is_below" (defScope (top 39)) s.heap.objs.size (He.ga K "is_below") cdv))) :
    PSsD (cxOf (L2.CX P w) P w K mg base N_is_below "is_below" (defScope (top 39)) (He.ga K "is_below") cdv A outer s H E) F (defBody (top 39)) (t_is_below) :=
  (ss_cons (s_if (PDW.t (d_orW (d_notT (d_val (d_isi rfl (W.free 0) (d_var 0) rfl (W.free 9) boot_tuple (by decide)))) (d_or1 (d_notT (d_val (d_all rfl rfl (W.free 2) (PDN.v (n_lc [("name", 2)] rfl sc_is_below.nd (i_tup (d_var 0)) (blkOk_by (N := N_is_below) (sc := defScope (top 39)) (by decide +kernel)) (by decide) (fun _ _ _ _ _ => (g_nm 2 sc_is_below.nd)) (fun _ _ _ _ _ => ts_nil) (fun _ _ _ _ _ => (d_andV (d_isi rfl (W.free 0) (d_var 2) rfl (W.free 6) boot_str (by decide)) (d_one (d_in (d_var 2) (d_var 1))))))))))))) (ss_one (s_ret d_bl)) ss_nil) (ss_one (s_ret (d_call c_is_ascending hr (a_cons (d_var 0) a_nil)))))
/-! need_kind -/
abbrev N_need_kind : List Str := ["number", "kind", "names", "below", "stands", "up", "deaf", "edges"]
theorem sc_need_kind : FnScope N_need_kind ["number", "kind", "names"] (defScope (top 40)) := ⟨rfl, rfl, rfl, by decide +kernel, rfl, by decide +kernel, by decide +kernel⟩
def t_need_kind : TSD := (sSeq (sAsg (dVar 1) (.tup [(.tup [(.nm 4), (.nm 5), (.nm 6), (.nm 7)]), (.nm 3)])) (sSeq (sIf (dNot (dTest (dCall T_is_whole (aCons (dVar 4) (aCons (dC (.int 1)) (aCons (dC (.int 6)) aNil)))))) sNever sNext) (sSeq (sIf (dNot (dTest (dCall T_is_stands (aCons (dVar 5) (aCons (dC (.int 1)) (aCons (dVar 4) aNil)))))) sNever sNext) (sSeq (sIf (dNot (dTest (dCall T_is_stands (aCons (dVar 6) (aCons (dC (.int 0)) (aCons (dVar 4) aNil)))))) sNever sNext) (sSeq (sDrop (dCall T_need_edges (aCons (dVar 0) (aCons (dVar 4) (aCons (dVar 7) aNil))))) (sIf (dNot (dTest (dCall T_is_below (aCons (dVar 3) (aCons (dVar 2) aNil))))) sNever sNext))))))
theorem b_need_kind {P : Program} {w : World} {K : PySem.W.Frag} {mg : Str → Option Value} {base : Heap} (W : Wo P w K mg base) (c_is_below : Cal P w K mg base 4 "is_below" (spD K T_is_below)) (c_is_stands : Cal P w K mg base 4 "is_stands" (spD K T_is_stands)) (c_is_whole : Cal P w K mg base 4 "is_whole" (spD K T_is_whole)) (c_need_edges : Cal P w K mg base 4 "need_edges" (spD K T_need_edges))
    (cdv : Value) (A : Around) (outer : List Env) (s : Shared) (H : Hp) (F : Fm) (E : XK) (hr : Room 4 (A.deeper (envOfC "need_kind" (defScope (top 40)) s.heap.objs.size (He.ga K "need_kind") cdv))) :
    PSsD (cxOf (L2.CX P w) P w K mg base N_need_kind "need_kind" (defScope (top 40)) (He.ga K "need_kind") cdv A outer s H E) F (defBody (top 40)) (t_need_kind) :=
  (ss_cons (s_asg (d_var 1) (g_tup rfl (g_cons (g_tup rfl (g_cons (g_nm 4 sc_need_kind.nd) (g_cons (g_nm 5 sc_need_kind.nd) (g_cons (g_nm 6 sc_need_kind.nd) (g_cons (g_nm 7 sc_need_kind.nd) g_nil))))) (g_cons (g_nm 3 sc_need_kind.nd) g_nil)))) (ss_cons (s_if (d_notT (d_val (d_call c_is_whole hr (a_cons (d_var 4) (a_cons d_int (a_cons (d_gint rfl (W.int 16)) a_nil)))))) (ss_one s_never) ss_nil) (ss_cons (s_if (d_notT (d_val (d_call c_is_stands hr (a_cons (d_var 5) (a_cons d_int (a_cons (d_var 4) a_nil)))))) (ss_one s_never) ss_nil) (ss_cons (s_if (d_notT (d_val (d_call c_is_stands hr (a_cons (d_var 6) (a_cons d_int (a_cons (d_var 4) a_nil)))))) (ss_one s_never) ss_nil) (ss_cons (s_expr (d_call c_need_edges hr (a_cons (d_var 0) (a_cons (d_var 4) (a_cons (d_var 7) a_nil))))) (ss_one (s_if (d_notT (d_val (d_call c_is_below hr (a_cons (d_var 3) (a_cons (d_var 2) a_nil))))) (ss_one s_never) ss_nil)))))))
/-! is_pair -/
abbrev N_is_pair : List Str := ["item"]
theorem sc_is_pair : FnScope N_is_pair ["item"] (defScope (top 41)) := ⟨rfl, rfl, rfl, by decide +kernel, rfl, by decide +kernel, by decide +kernel⟩
def t_is_pair : TSD := (sSeq (sIf (dOr (dNot (dTest (dCall T_is_tuple_of (aCons (dVar 0) (aCons (dC (.int 2)) aNil))))) (dOr (dNot (dTest (dCall T_is_word (aCons (d2 idxD (dVar 0) (dC (.int 0))) aNil)))) (dNot (dTest (dCall T_is_tuple_of (aCons (d2 idxD (dVar 0) (dC (.int 1))) (aCons (dC (.int 2)) aNil))))))) (sRet (dC (.bool false))) sNext) (sRet (dCall T_is_tuple_of (aCons (d2 idxD (d2 idxD (dVar 0) (dC (.int 1))) (dC (.int 0))) (aCons (dC (.int 4)) aNil)))))
theorem b_is_pair {P : Program} {w : World} {K : PySem.W.Frag} {mg : Str → Option Value} {base : Heap} (W : Wo P w K mg base) (c_is_tuple_of : Cal P w K mg base 1 "is_tuple_of" (spD K T_is_tuple_of)) (c_is_word : Cal P w K mg base 1 "is_word" (spD K T_is_word))
    (cdv : Value) (A : Around) (outer : List Env) (s : Shared) (H : Hp) (F : Fm) (E : XK) (hr : Room 1 (A.deeper (envOfC "is_pair" (defScope (top 41)) s.heap.objs.size (He.ga K "is_pair") cdv))) :
    PSsD (cxOf (L2.CX P w) P w K mg base N_is_pair "is_pair" (defScope (top 41)) (He.ga K "is_pair") cdv A outer s H E) F (defBody (top 41)) (t_is_pair) :=
  (ss_cons (s_if (PDW.t (d_orW (d_notT (d_val (d_call c_is_tuple_of hr (a_cons (d_var 0) (a_cons d_int a_nil))))) (d_orW (d_notT (d_val (d_call c_is_word hr (a_cons (d_ix (d_var 0) d_int (by intro _ _; rfl)) a_nil)))) (d_or1 (d_notT (d_val (d_call c_is_tuple_of hr (a_cons (d_ix (d_var 0) d_int (by intro _ _; rfl)) (a_cons d_int a_nil))))))))) (ss_one (s_ret d_bl)) ss_nil) (ss_one (s_ret (d_call c_is_tuple_of hr (a_cons (d_ix (d_ix (d_var 0) d_int (by intro _ _; rfl)) d_int (by intro _ _; rfl)) (a_cons d_int a_nil))))))
/-! need_house -/
abbrev N_need_house : List Str := ["house", "names", "number", "item", "name", "kind"]
theorem sc_need_house : FnScope N_need_house ["house"] (defScope (top 42)) := ⟨rfl, rfl, rfl, by decide +kernel, rfl, by decide +kernel, by decide +kernel⟩
def t_need_house : TSD := (sSeq (sIf (dOr (dNot (dTest (d1 (isiD "tuple") (dVar 0)))) (dNot (dTest (dChain leD leD (dC (.int 1)) (d1 lenD (dVar 0)) (dC (.int 3)))))) sNever sNext) (sSeq (sFor (iET (dVar 0)) (.tup [(.nm 2), (.nm 3)]) (sIf (dOr (dNot (dTest (dCall T_is_pair (aCons (dVar 3) aNil)))) (dAnd (dTest (d2 gtD (dVar 2) (dC (.int 0)))) (dNot (dTest (d2 ltD (d2 idxD (d2 idxD (dVar 0) (d2 subD (dVar 2) (dC (.int 1)))) (dC (.int 0))) (d2 idxD (dVar 3) (dC (.int 0)))))))) sNever sNext)) (sSeq (sSet 1 (fDat (dList (nLc (iT (dVar 0)) (.tup [(.nm 4), (.nm 5)]) dYes (dVar 4) [4, 5])))) (sSeq (sFor (iET (dVar 0)) (.tup [(.nm 2), (.tup [(.nm 4), (.nm 5)])]) (sDrop (dCall T_need_kind (aCons (dVar 2) (aCons (dVar 5) (aCons (dVar 1) aNil)))))) (sRet (dVar 0))))))
theorem b_need_house {P : Program} {w : World} {K : PySem.W.Frag} {mg : Str → Option Value} {base : Heap} (W : Wo P w K mg base) (c_is_pair : Cal P w K mg base 5 "is_pair" (spD K T_is_pair)) (c_need_kind : Cal P w K mg base 5 "need_kind" (spD K T_need_kind))
    (cdv : Value) (A : Around) (outer : List Env) (s : Shared) (H : Hp) (F : Fm) (E : XK) (hr : Room 5 (A.deeper (envOfC "need_house" (defScope (top 42)) s.heap.objs.size (He.ga K "need_house") cdv))) :
    PSsD (cxOf (L2.CX P w) P w K mg base N_need_house "need_house" (defScope (top 42)) (He.ga K "need_house") cdv A outer s H E) F (defBody (top 42)) (t_need_house) :=
  (ss_cons (s_if (PDW.t (d_orW (d_notT (d_val (d_isi rfl (W.free 0) (d_var 0) rfl (W.free 9) boot_tuple (by decide)))) (d_or1 (d_notT (d_leleT d_int (d_len rfl (W.free 1) (d_var 0)) (d_gint rfl (W.int 15))))))) (ss_one s_never) ss_nil) (ss_cons (s_for (passes_of rfl) rfl (i_enumT rfl (W.free 4) (d_var 0)) (g_tup rfl (g_cons (g_nm 2 sc_need_house.nd) (g_cons (g_nm 3 sc_need_house.nd) g_nil))) (ss_one (s_if (PDW.t (d_orW (d_notT (d_val (d_call c_is_pair hr (a_cons (d_var 3) a_nil)))) (d_or1 (PDW.t (d_andW (d_gtT (d_var 2) d_int) (d_and1 (d_notT (d_ltT hr.units (d_ix (d_ix (d_var 0) (d_sub (d_var 2) d_int) (by intro _ _; rfl)) d_int (by intro _ _; rfl)) (d_ix (d_var 3) d_int (by intro _ _; rfl)))))))))) (ss_one s_never) ss_nil))) (ss_cons (s_setLcD 1 [("name", 4), ("kind", 5)] rfl sc_need_house.nd (i_tup (d_var 0)) (blkOk_by (N := N_need_house) (sc := defScope (top 42)) (by decide +kernel)) (by decide) (fun _ _ _ _ _ => (g_tup rfl (g_cons (g_nm 4 sc_need_house.nd) (g_cons (g_nm 5 sc_need_house.nd) g_nil)))) (fun _ _ _ _ _ => ts_nil) (fun _ _ _ _ _ => (d_var 4)) (by rfl)) (ss_cons (s_for (passes_of rfl) rfl (i_enumT rfl (W.free 4) (d_var 0)) (g_tup rfl (g_cons (g_nm 2 sc_need_house.nd) (g_cons (g_tup rfl (g_cons (g_nm 4 sc_need_house.nd) (g_cons (g_nm 5 sc_need_house.nd) g_nil))) g_nil))) (ss_one (s_expr (d_call c_need_kind hr (a_cons (d_var 2) (a_cons (d_var 5) (a_cons (d_var 1) a_nil))))))) (ss_one (s_ret (d_var 0)))))))
/-! spaced -/
abbrev N_spaced : List Str := ["words", "word"]
theorem sc_spaced : FnScope N_spaced ["words"] (defScope (top 58)) := ⟨rfl, rfl, rfl, by decide +kernel, rfl, by decide +kernel, by decide +kernel⟩
def t_spaced : TSD := (sRet (dJoin (dC (.str " ")) (nLc (iL (dVar 0)) (.nm 1) dYes (d1 strD (dVar 1)) [1])))
theorem b_spaced {P : Program} {w : World} {K : PySem.W.Frag} {mg : Str → Option Value} {base : Heap} (W : Wo P w K mg base) 
    (cdv : Value) (A : Around) (outer : List Env) (s : Shared) (H : Hp) (F : Fm) (E : XK) (hr : Room 0 (A.deeper (envOfC "spaced" (defScope (top 58)) s.heap.objs.size (He.ga K "spaced") cdv))) :
    PSsD (cxOf (L2.CX P w) P w K mg base N_spaced "spaced" (defScope (top 58)) (He.ga K "spaced") cdv A outer s H E) F (defBody (top 58)) (t_spaced) :=
  (ss_one (s_ret (d_join d_str (PDN.v (n_lc [("word", 1)] rfl sc_spaced.nd (i_lst (d_var 0)) (blkOk_by (N := N_spaced) (sc := defScope (top 58)) (by decide +kernel)) (by decide) (fun _ _ _ _ _ => (g_nm 1 sc_spaced.nd)) (fun _ _ _ _ _ => ts_nil) (fun _ _ _ _ _ => (d_strC rfl (W.free 6) (d_var 1))))))))
/-! edge_words -/
abbrev N_edge_words : List Str := ["edge"]
theorem sc_edge_words : FnScope N_edge_words ["edge"] (defScope (top 59)) := ⟨rfl, rfl, rfl, by decide +kernel, rfl, by decide +kernel, by decide +kernel⟩
def t_edge_words : TSD := (sRet (dList (aLst (aCons (d2 idxD (dVar 0) (dC (.int 0))) (aCons (d2 idxD (dVar 0) (dC (.int 2))) (aCons (d2 idxD (dVar 0) (dC (.int 3))) (aStar (d2 idxD (dVar 0) (dC (.int 1))) aNil)))))))
theorem b_edge_words {P : Program} {w : World} {K : PySem.W.Frag} {mg : Str → Option Value} {base : Heap} (W : Wo P w K mg base) 
    (cdv : Value) (A : Around) (outer : List Env) (s : Shared) (H : Hp) (F : Fm) (E : XK) (hr : Room 0 (A.deeper (envOfC "edge_words" (defScope (top 59)) s.heap.objs.size (He.ga K "edge_words") cdv))) :
    PSsD (cxOf (L2.CX P w) P w K mg base N_edge_words "edge_words" (defScope (top 59)) (He.ga K "edge_words") cdv A outer s H E) F (defBody (top 59)) (t_edge_words) :=
  (ss_one (s_ret (PDN.d (n_lst (a_cons (d_ix (d_var 0) d_int (by intro _ _; rfl)) (a_cons (d_ix (d_var 0) d_int (by intro _ _; rfl)) (a_cons (d_ix (d_var 0) d_int (by intro _ _; rfl)) (a_star (d_ix (d_var 0) d_int (by intro _ _; rfl)) a_nil))))))))
/-! kind_lines -/
abbrev N_kind_lines : List Str := ["name", "kind", "found", "below", "stands", "up", "deaf", "edges", "edge", "word", "some"]
theorem sc_kind_lines : FnScope N_kind_lines ["name", "kind"] (defScope (top 60)) := ⟨rfl, rfl, rfl, by decide +kernel, rfl, by decide +kernel, by decide +kernel⟩
def t_kind_lines : TSD := (sSeq (sAsg (dVar 1) (.tup [(.tup [(.nm 4), (.nm 5), (.nm 6), (.nm 7)]), (.nm 3)])) (sSeq (sSet 2 (fOwn (aLst (aCons (dCall T_spaced (aCons (dList (aLst (aCons (dC (.str "kind")) (aCons (dVar 0) (aCons (dVar 4) aNil))))) aNil)) aNil)))) (sSeq (sExt 2 (nLc (iT (dTup (aCons (dTup (aCons (dC (.str "up")) (aCons (dVar 5) aNil))) (aCons (dTup (aCons (dC (.str "deaf")) (aCons (dVar 6) aNil))) aNil)))) (.tup [(.nm 9), (.nm 10)]) (dTest (d2 neD (dVar 10) (dTup aNil))) (dCall T_spaced (aCons (dList (aLst (aCons (dVar 9) (aStar (dVar 10) aNil)))) aNil)) [9, 10])) (sSeq (sExt 2 (nLc (iT (dVar 7)) (.nm 8) dYes (dCall T_spaced (aCons (dCall T_edge_words (aCons (dVar 8) aNil)) aNil)) [8])) (sRet (dList (nCat (lOwn 2) (nIf (dTest (d2 neD (dVar 3) (dTup aNil))) (aLst (aCons (dCall T_spaced (aCons (dList (aLst (aCons (dC (.str "below")) (aStar (dVar 3) aNil)))) aNil)) aNil)) (aLst aNil)))))))))
theorem b_kind_lines {P : Program} {w : World} {K : PySem.W.Frag} {mg : Str → Option Value} {base : Heap} (W : Wo P w K mg base) (c_edge_words : Cal P w K mg base 1 "edge_words" (spD K T_edge_words)) (c_spaced : Cal P w K mg base 1 "spaced" (spD K T_spaced))
    (cdv : Value) (A : Around) (outer : List Env) (s : Shared) (H : Hp) (F : Fm) (E : XK) (hr : Room 1 (A.deeper (envOfC "kind_lines" (defScope (top 60)) s.heap.objs.size (He.ga K "kind_lines") cdv))) :
    PSsD (cxOf (L2.CX P w) P w K mg base N_kind_lines "kind_lines" (defScope (top 60)) (He.ga K "kind_lines") cdv A outer s H E) F (defBody (top 60)) (t_kind_lines) :=
  (ss_cons (s_asg (d_var 1) (g_tup rfl (g_cons (g_tup rfl (g_cons (g_nm 4 sc_kind_lines.nd) (g_cons (g_nm 5 sc_kind_lines.nd) (g_cons (g_nm 6 sc_kind_lines.nd) (g_cons (g_nm 7 sc_kind_lines.nd) g_nil))))) (g_cons (g_nm 3 sc_kind_lines.nd) g_nil)))) (ss_cons (s_set 2 sc_kind_lines.nd (PDN.f (n_lst (a_cons (d_call c_spaced hr (a_cons (PDN.d (n_lst (a_cons (d_gstr rfl (W.str 36)) (a_cons (d_var 0) (a_cons (d_var 4) a_nil))))) a_nil)) a_nil)))) (ss_cons (s_ext 2 (PDN.l (n_lc [("word", 9), ("some", 10)] rfl sc_kind_lines.nd (i_tup (d_tup (a_cons (d_tup (a_cons (d_gstr rfl (W.str 37)) (a_cons (d_var 5) a_nil))) (a_cons (d_tup (a_cons (d_gstr rfl (W.str 38)) (a_cons (d_var 6) a_nil))) a_nil)))) (blkOk_by (N := N_kind_lines) (sc := defScope (top 60)) (by decide +kernel)) (by decide) (fun _ _ _ _ _ => (g_tup rfl (g_cons (g_nm 9 sc_kind_lines.nd) (g_cons (g_nm 10 sc_kind_lines.nd) g_nil)))) (fun _ _ _ _ _ => (ts_one (d_neT hr.units (d_var 10) (d_tup a_nil)))) (fun _ _ _ _ _ => (d_call c_spaced hr (a_cons (PDN.d (n_lst (a_cons (d_var 9) (a_star (d_var 10) a_nil)))) a_nil)))))) (ss_cons (s_ext 2 (PDN.l (n_lc [("edge", 8)] rfl sc_kind_lines.nd (i_tup (d_var 7)) (blkOk_by (N := N_kind_lines) (sc := defScope (top 60)) (by decide +kernel)) (by decide) (fun _ _ _ _ _ => (g_nm 8 sc_kind_lines.nd)) (fun _ _ _ _ _ => ts_nil) (fun _ _ _ _ _ => (d_call c_spaced hr (a_cons (d_call c_edge_words hr (a_cons (d_var 8) a_nil)) a_nil)))))) (ss_one (s_ret (PDN.d (n_cat (l_own 2) (PDN.l (n_if (d_neT hr.units (d_var 3) (d_tup a_nil)) (n_lst (a_cons (d_call c_spaced hr (a_cons (PDN.d (n_lst (a_cons (d_gstr rfl (W.str 39)) (a_star (d_var 3) a_nil)))) a_nil)) a_nil)) (n_lst a_nil)))))))))))
/-! house_text -/
abbrev N_house_text : List Str := ["house", "line", "name", "kind"]
theorem sc_house_text : FnScope N_house_text ["house"] (defScope (top 61)) := ⟨rfl, rfl, rfl, by decide +kernel, rfl, by decide +kernel, by decide +kernel⟩
def t_house_text : TSD := (sRet (dJoin (dC (.str "\n")) (nLc2 (iT (dCall T_need_house (aCons (dVar 0) aNil))) (.tup [(.nm 2), (.nm 3)]) (iL (dCall T_kind_lines (aCons (dVar 2) (aCons (dVar 3) aNil)))) (.nm 1) (dVar 1) [2, 3, 1] [1])))
theorem b_house_text {P : Program} {w : World} {K : PySem.W.Frag} {mg : Str → Option Value} {base : Heap} (W : Wo P w K mg base) (c_kind_lines : Cal P w K mg base 6 "kind_lines" (spD K T_kind_lines)) (c_need_house : Cal P w K mg base 6 "need_house" (spD K T_need_house))
    (cdv : Value) (A : Around) (outer : List Env) (s : Shared) (H : Hp) (F : Fm) (E : XK) (hr : Room 6 (A.deeper (envOfC "house_text" (defScope (top 61)) s.heap.objs.size (He.ga K "house_text") cdv))) :
    PSsD (cxOf (L2.CX P w) P w K mg base N_house_text "house_text" (defScope (top 61)) (He.ga K "house_text") cdv A outer s H E) F (defBody (top 61)) (t_house_text) :=
  (ss_one (s_ret (d_join d_str (PDN.v (n_lc2 [("name", 2), ("kind", 3), ("line", 1)] [1] rfl sc_house_text.nd (i_tup (d_call c_need_house hr (a_cons (d_var 0) a_nil))) (blkOk_by (N := N_house_text) (sc := defScope (top 61)) (by decide +kernel)) (by decide) (by decide) (by decide) (fun _ _ _ _ _ => (g_tup rfl (g_cons (g_nm 2 sc_house_text.nd) (g_cons (g_nm 3 sc_house_text.nd) g_nil)))) (fun _ _ _ _ _ => (i_lst (d_call c_kind_lines hr (a_cons (d_var 2) (a_cons (d_var 3) a_nil))))) (fun _ _ _ _ _ => (g_nm 1 sc_house_text.nd)) (fun _ _ _ _ _ => (d_var 1)))))))
/-! number_in -/
abbrev N_number_in : List Str := ["word", "sign"]
theorem sc_number_in : FnScope N_number_in ["word"] (defScope (top 62)) := ⟨rfl, rfl, rfl, by decide +kernel, rfl, by decide +kernel, by decide +kernel⟩
def t_number_in : TSD := (sSeq (sIf (dOr (dNot (dTest (dChain leD leD (dC (.int 1)) (d1 lenD (dVar 0)) (dC (.int 2))))) (dNot (dTest (dAll (nLc (iS (dVar 0)) (.nm 1) dYes (d2 inD (dVar 1) (dC (.str "0123456789"))) [1]))))) (sRet (dC .none)) sNext) (sRet (dIf (dAnd (dTest (d2 eqD (d1 lenD (dVar 0)) (dC (.int 2)))) (dTest (d2 eqD (d2 idxD (dVar 0) (dC (.int 0))) (dC (.str "0"))))) (dC .none) (d1 intD (dVar 0)))))
theorem b_number_in {P : Program} {w : World} {K : PySem.W.Frag} {mg : Str → Option Value} {base : Heap} (W : Wo P w K mg base) 
    (cdv : Value) (A : Around) (outer : List Env) (s : Shared) (H : Hp) (F : Fm) (E : XK) (hr : Room 0 (A.deeper (envOfC "number_in" (defScope (top 62)) s.heap.objs.size (He.ga K "number_in") cdv))) :
    PSsD (cxOf (L2.CX P w) P w K mg base N_number_in "number_in" (defScope (top 62)) (He.ga K "number_in") cdv A outer s H E) F (defBody (top 62)) (t_number_in) :=
  (ss_cons (s_if (PDW.t (d_orW (d_notT (d_leleT d_int (d_len rfl (W.free 1) (d_var 0)) d_int)) (d_or1 (d_notT (d_val (d_all rfl rfl (W.free 2) (PDN.v (n_lc [("sign", 1)] rfl sc_number_in.nd (i_str (d_var 0)) (blkOk_by (N := N_number_in) (sc := defScope (top 62)) (by decide +kernel)) (by decide) (fun _ _ _ _ _ => (g_nm 1 sc_number_in.nd)) (fun _ _ _ _ _ => ts_nil) (fun _ _ _ _ _ => (d_in (d_var 1) (d_gstr rfl (W.str 35)))))))))))) (ss_one (s_ret d_non)) ss_nil) (ss_one (s_ret (d_ifExp (PDW.t (d_andW (d_eqT hr.units (d_len rfl (W.free 1) (d_var 0)) d_int) (d_and1 (d_eqT hr.units (d_ix (d_var 0) d_int (by intro _ _; rfl)) d_str)))) d_non (d_intC rfl (W.free 7) (d_var 0))))))
/-! edge_in -/
abbrev N_edge_in : List Str := ["words", "begin", "end"]
theorem sc_edge_in : FnScope N_edge_in ["words"] (defScope (top 63)) := ⟨rfl, rfl, rfl, by decide +kernel, rfl, by decide +kernel, by decide +kernel⟩
def t_edge_in : TSD := (sSeq (sIf (dOr (dTest (d2 ltD (d1 lenD (dVar 0)) (dC (.int 3)))) (dOr (dTest (d2 ninD (d2 idxD (dVar 0) (dC (.int 1))) (dC (.tuple (List.map PyData.str ["give", "go", "hold", "hush"]))))) (dNot (dTest (dCall T_is_asks (aCons (dTupV (lDat (dSl (dVar 0) (oSome (dC (.int 3))) oNo))) aNil)))))) (sRet (dC .none)) sNext) (sSeq (sPar 1 2 (fDat (dCall T_number_in (aCons (d2 idxD (dVar 0) (dC (.int 0))) aNil))) (fDat (dCall T_number_in (aCons (d2 idxD (dVar 0) (dC (.int 2))) aNil)))) (sRet (dIf (dOr (dTest (d2 isND (dVar 1) (dC .none))) (dTest (d2 isND (dVar 2) (dC .none)))) (dC .none) (dTup (aCons (dVar 1) (aCons (dTupV (lDat (dSl (dVar 0) (oSome (dC (.int 3))) oNo))) (aCons (d2 idxD (dVar 0) (dC (.int 1))) (aCons (dVar 2) aNil)))))))))
theorem b_edge_in {P : Program} {w : World} {K : PySem.W.Frag} {mg : Str → Option Value} {base : Heap} (W : Wo P w K mg base) (c_is_asks : Cal P w K mg base 2 "is_asks" (spD K T_is_asks)) (c_number_in : Cal P w K mg base 2 "number_in" (spD K T_number_in))
    (cdv : Value) (A : Around) (outer : List Env) (s : Shared) (H : Hp) (F : Fm) (E : XK) (hr : Room 2 (A.deeper (envOfC "edge_in" (defScope (top 63)) s.heap.objs.size (He.ga K "edge_in") cdv))) :
    PSsD (cxOf (L2.CX P w) P w K mg base N_edge_in "edge_in" (defScope (top 63)) (He.ga K "edge_in") cdv A outer s H E) F (defBody (top 63)) (t_edge_in) :=
  (ss_cons (s_if (PDW.t (d_orW (d_ltT hr.units (d_len rfl (W.free 1) (d_var 0)) d_int) (d_orW (d_ninT (d_ix (d_var 0) d_int (by intro _ _; rfl)) (d_gtup rfl (W.glo 42) (W.tup 1))) (d_or1 (d_notT (d_val (d_call c_is_asks hr (a_cons (d_tuple rfl (W.free 9) (PD.v (d_slice (d_var 0) (o_some d_int) o_none))) a_nil)))))))) (ss_one (s_ret d_non)) ss_nil) (ss_cons (s_par 1 2 rfl sc_edge_in.nd (PD.f (d_call c_number_in hr (a_cons (d_ix (d_var 0) d_int (by intro _ _; rfl)) a_nil))) (PD.f (d_call c_number_in hr (a_cons (d_ix (d_var 0) d_int (by intro _ _; rfl)) a_nil))) (by decide) (by rfl)) (ss_one (s_ret (d_ifExp (PDW.t (d_orW (d_isT (d_var 1) d_non) (d_or1 (d_isT (d_var 2) d_non)))) d_non (d_tup (a_cons (d_var 1) (a_cons (d_tuple rfl (W.free 9) (PD.v (d_slice (d_var 0) (o_some d_int) o_none))) (a_cons (d_ix (d_var 0) d_int (by intro _ _; rfl)) (a_cons (d_var 2) a_nil))))))))))
/-! numbers_in -/
abbrev N_numbers_in : List Str := ["words", "found", "word"]
theorem sc_numbers_in : FnScope N_numbers_in ["words"] (defScope (top 64)) := ⟨rfl, rfl, rfl, by decide +kernel, rfl, by decide +kernel, by decide +kernel⟩
def t_numbers_in : TSD := (sSeq (sSet 1 (fDat (dTupV (nLc (iL (dVar 0)) (.nm 2) dYes (dCall T_number_in (aCons (dVar 2) aNil)) [2])))) (sRet (dIf (dOr (dTest (d2 eqD (dVar 1) (dTup aNil))) (dOr (dTest (d2 inD (dC .none) (dVar 1))) (dNot (dTest (dCall T_is_ascending (aCons (dVar 1) aNil)))))) (dC .none) (dVar 1))))
theorem b_numbers_in {P : Program} {w : World} {K : PySem.W.Frag} {mg : Str → Option Value} {base : Heap} (W : Wo P w K mg base) (c_is_ascending : Cal P w K mg base 1 "is_ascending" (spD K T_is_ascending)) (c_number_in : Cal P w K mg base 1 "number_in" (spD K T_number_in))
    (cdv : Value) (A : Around) (outer : List Env) (s : Shared) (H : Hp) (F : Fm) (E : XK) (hr : Room 1 (A.deeper (envOfC "numbers_in" (defScope (top 64)) s.heap.objs.size (He.ga K "numbers_in") cdv))) :
    PSsD (cxOf (L2.CX P w) P w K mg base N_numbers_in "numbers_in" (defScope (top 64)) (He.ga K "numbers_in") cdv A outer s H E) F (defBody (top 64)) (t_numbers_in) :=
  (ss_cons (s_set 1 sc_numbers_in.nd (PD.f (d_tuple rfl (W.free 9) (PDN.v (n_lc [("word", 2)] rfl sc_numbers_in.nd (i_lst (d_var 0)) (blkOk_by (N := N_numbers_in) (sc := defScope (top 64)) (by decide +kernel)) (by decide) (fun _ _ _ _ _ => (g_nm 2 sc_numbers_in.nd)) (fun _ _ _ _ _ => ts_nil) (fun _ _ _ _ _ => (d_call c_number_in hr (a_cons (d_var 2) a_nil)))))))) (ss_one (s_ret (d_ifExp (PDW.t (d_orW (d_eqT hr.units (d_var 1) (d_tup a_nil)) (d_orW (d_inT d_non (d_var 1)) (d_or1 (d_notT (d_val (d_call c_is_ascending hr (a_cons (d_var 1) a_nil)))))))) d_non (d_var 1)))))
/-! names_in -/
abbrev N_names_in : List Str := ["words", "word"]
theorem sc_names_in : FnScope N_names_in ["words"] (defScope (top 65)) := ⟨rfl, rfl, rfl, by decide +kernel, rfl, by decide +kernel, by decide +kernel⟩
def t_names_in : TSD := (sSeq (sIf (dOr (dTest (d2 eqD (dVar 0) (dList (aLst aNil)))) (dOr (dNot (dTest (dAll (nLc (iL (dVar 0)) (.nm 1) dYes (dCall T_is_word (aCons (dVar 1) aNil)) [1])))) (dNot (dTest (dCall T_is_ascending (aCons (dVar 0) aNil)))))) (sRet (dC .none)) sNext) (sRet (dTupV (lDat (dVar 0)))))
theorem b_names_in {P : Program} {w : World} {K : PySem.W.Frag} {mg : Str → Option Value} {base : Heap} (W : Wo P w K mg base) (c_is_ascending : Cal P w K mg base 1 "is_ascending" (spD K T_is_ascending)) (c_is_word : Cal P w K mg base 1 "is_word" (spD K T_is_word))
    (cdv : Value) (A : Around) (outer : List Env) (s : Shared) (H : Hp) (F : Fm) (E : XK) (hr : Room 1 (A.deeper (envOfC "names_in" (defScope (top 65)) s.heap.objs.size (He.ga K "names_in") cdv))) :
    PSsD (cxOf (L2.CX P w) P w K mg base N_names_in "names_in" (defScope (top 65)) (He.ga K "names_in") cdv A outer s H E) F (defBody (top 65)) (t_names_in) :=
  (ss_cons (s_if (PDW.t (d_orW (d_eqT hr.units (d_var 0) (PDN.d (n_lst a_nil))) (d_orW (d_notT (d_val (d_all rfl rfl (W.free 2) (PDN.v (n_lc [("word", 1)] rfl sc_names_in.nd (i_lst (d_var 0)) (blkOk_by (N := N_names_in) (sc := defScope (top 65)) (by decide +kernel)) (by decide) (fun _ _ _ _ _ => (g_nm 1 sc_names_in.nd)) (fun _ _ _ _ _ => ts_nil) (fun _ _ _ _ _ => (d_call c_is_word hr (a_cons (d_var 1) a_nil)))))))) (d_or1 (d_notT (d_val (d_call c_is_ascending hr (a_cons (d_var 0) a_nil)))))))) (ss_one (s_ret d_non)) ss_nil) (ss_one (s_ret (d_tuple rfl (W.free 9) (PD.v (d_var 0))))))
/-! line_in -/
abbrev N_line_in : List Str := ["words", "sort", "found"]
theorem sc_line_in : FnScope N_line_in ["words"] (defScope (top 66)) := ⟨rfl, rfl, rfl, by decide +kernel, rfl, by decide +kernel, by decide +kernel⟩
def t_line_in : TSD := (sSeq (sPar 1 2 (fDat (dC (.str "edges"))) (fDat (dCall T_edge_in (aCons (dVar 0) aNil)))) (sSeq (sIf (dAnd (dTest (d2 isND (dVar 2) (dC .none))) (dTest (d2 inD (d2 idxD (dVar 0) (dC (.int 0))) (dTup (aCons (dC (.str "up")) (aCons (dC (.str "deaf")) aNil)))))) (sPar 1 2 (fDat (d2 idxD (dVar 0) (dC (.int 0)))) (fDat (dCall T_numbers_in (aCons (dSl (dVar 0) (oSome (dC (.int 1))) oNo) aNil)))) sNext) (sSeq (sIf (dAnd (dTest (d2 isND (dVar 2) (dC .none))) (dTest (d2 eqD (d2 idxD (dVar 0) (dC (.int 0))) (dC (.str "below"))))) (sPar 1 2 (fDat (dC (.str "below"))) (fDat (dCall T_names_in (aCons (dSl (dVar 0) (oSome (dC (.int 1))) oNo) aNil)))) sNext) (sRet (dIf (dTest (d2 isND (dVar 2) (dC .none))) (dTup (aCons (dC .none) (aCons (dC .none) aNil))) (dTup (aCons (dVar 1) (aCons (dVar 2) aNil))))))))
theorem b_line_in {P : Program} {w : World} {K : PySem.W.Frag} {mg : Str → Option Value} {base : Heap} (W : Wo P w K mg base) (c_edge_in : Cal P w K mg base 3 "edge_in" (spD K T_edge_in)) (c_names_in : Cal P w K mg base 3 "names_in" (spD K T_names_in)) (c_numbers_in : Cal P w K mg base 3 "numbers_in" (spD K T_numbers_in))
    (cdv : Value) (A : Around) (outer : List Env) (s : Shared) (H : Hp) (F : Fm) (E : XK) (hr : Room 3 (A.deeper (envOfC "line_in" (defScope (top 66)) s.heap.objs.size (He.ga K "line_in") cdv))) :
    PSsD (cxOf (L2.CX P w) P w K mg base N_line_in "line_in" (defScope (top 66)) (He.ga K "line_in") cdv A outer s H E) F (defBody (top 66)) (t_line_in) :=
  (ss_cons (s_par 1 2 rfl sc_line_in.nd (PD.f (d_gstr rfl (W.str 40))) (PD.f (d_call c_edge_in hr (a_cons (d_var 0) a_nil))) (by decide) (by rfl)) (ss_cons (s_if (PDW.t (d_andW (d_isT (d_var 2) d_non) (d_and1 (d_inT (d_ix (d_var 0) d_int (by intro _ _; rfl)) (d_tup (a_cons (d_gstr rfl (W.str 37)) (a_cons (d_gstr rfl (W.str 38)) a_nil))))))) (ss_one (s_par 1 2 rfl sc_line_in.nd (PD.f (d_ix (d_var 0) d_int (by intro _ _; rfl))) (PD.f (d_call c_numbers_in hr (a_cons (d_slice (d_var 0) (o_some d_int) o_none) a_nil))) (by decide) (by rfl))) ss_nil) (ss_cons (s_if (PDW.t (d_andW (d_isT (d_var 2) d_non) (d_and1 (d_eqT hr.units (d_ix (d_var 0) d_int (by intro _ _; rfl)) (d_gstr rfl (W.str 39)))))) (ss_one (s_par 1 2 rfl sc_line_in.nd (PD.f (d_gstr rfl (W.str 39))) (PD.f (d_call c_names_in hr (a_cons (d_slice (d_var 0) (o_some d_int) o_none) a_nil))) (by decide) (by rfl))) ss_nil) (ss_one (s_ret (d_ifExp (d_isT (d_var 2) d_non) (d_tup (a_cons d_non (a_cons d_non a_nil))) (d_tup (a_cons (d_var 1) (a_cons (d_var 2) a_nil)))))))))
/-! kind_in -/
abbrev N_kind_in : List Str := ["words"]
theorem sc_kind_in : FnScope N_kind_in ["words"] (defScope (top 67)) := ⟨rfl, rfl, rfl, by decide +kernel, rfl, by decide +kernel, by decide +kernel⟩
def t_kind_in : TSD := (sSeq (sIf (dOr (dTest (d2 neD (d1 lenD (dVar 0)) (dC (.int 3)))) (dOr (dTest (d2 neD (d2 idxD (dVar 0) (dC (.int 0))) (dC (.str "kind")))) (dOr (dNot (dTest (dCall T_is_word (aCons (d2 idxD (dVar 0) (dC (.int 1))) aNil)))) (dTest (d2 isND (dCall T_number_in (aCons (d2 idxD (dVar 0) (dC (.int 2))) aNil)) (dC .none)))))) (sRet (dC .none)) sNext) (sRet (dTup (aCons (d2 idxD (dVar 0) (dC (.int 1))) (aCons (dCall T_number_in (aCons (d2 idxD (dVar 0) (dC (.int 2))) aNil)) aNil)))))
theorem b_kind_in {P : Program} {w : World} {K : PySem.W.Frag} {mg : Str → Option Value} {base : Heap} (W : Wo P w K mg base) (c_is_word : Cal P w K mg base 1 "is_word" (spD K T_is_word)) (c_number_in : Cal P w K mg base 1 "number_in" (spD K T_number_in))
    (cdv : Value) (A : Around) (outer : List Env) (s : Shared) (H : Hp) (F : Fm) (E : XK) (hr : Room 1 (A.deeper (envOfC "kind_in" (defScope (top 67)) s.heap.objs.size (He.ga K "kind_in") cdv))) :
    PSsD (cxOf (L2.CX P w) P w K mg base N_kind_in "kind_in" (defScope (top 67)) (He.ga K "kind_in") cdv A outer s H E) F (defBody (top 67)) (t_kind_in) :=
  (ss_cons (s_if (PDW.t (d_orW (d_neT hr.units (d_len rfl (W.free 1) (d_var 0)) d_int) (d_orW (d_neT hr.units (d_ix (d_var 0) d_int (by intro _ _; rfl)) (d_gstr rfl (W.str 36))) (d_orW (d_notT (d_val (d_call c_is_word hr (a_cons (d_ix (d_var 0) d_int (by intro _ _; rfl)) a_nil)))) (d_or1 (d_isT (d_call c_number_in hr (a_cons (d_ix (d_var 0) d_int (by intro _ _; rfl)) a_nil)) d_non)))))) (ss_one (s_ret d_non)) ss_nil) (ss_one (s_ret (d_tup (a_cons (d_ix (d_var 0) d_int (by intro _ _; rfl)) (a_cons (d_call c_number_in hr (a_cons (d_ix (d_var 0) d_int (by intro _ _; rfl)) a_nil)) a_nil))))))
/-! goes_on -/
abbrev N_goes_on : List Str := ["lines", "sort", "found", "ahead", "last"]
theorem sc_goes_on : FnScope N_goes_on ["lines", "sort", "found"] (defScope (top 68)) := ⟨rfl, rfl, rfl, by decide +kernel, rfl, by decide +kernel, by decide +kernel⟩
def t_goes_on : TSD := (sSeq (sIf (dTest (d2 eqD (dVar 0) (dList (aLst aNil)))) (sRet (dC (.bool true))) sNext) (sSeq (sAsg (d2 idxD (dVar 0) (dC (.int (-1)))) (.tup [(.nm 3), (.nm 4)])) (sRet (dOrV (d2 ltD (dIndex ["up", "deaf", "edges", "below"] (dVar 3)) (dIndex ["up", "deaf", "edges", "below"] (dVar 1))) (dAndV (d2 eqD (dVar 1) (dC (.str "edges"))) (dAndV (d2 eqD (dVar 3) (dC (.str "edges"))) (d2 ltD (dVar 4) (dVar 2))))))))
theorem b_goes_on {P : Program} {w : World} {K : PySem.W.Frag} {mg : Str → Option Value} {base : Heap} (W : Wo P w K mg base) 
    (cdv : Value) (A : Around) (outer : List Env) (s : Shared) (H : Hp) (F : Fm) (E : XK) (hr : Room 0 (A.deeper (envOfC "goes_on" (defScope (top 68)) s.heap.objs.size (He.ga K "goes_on") cdv))) :
    PSsD (cxOf (L2.CX P w) P w K mg base N_goes_on "goes_on" (defScope (top 68)) (He.ga K "goes_on") cdv A outer s H E) F (defBody (top 68)) (t_goes_on) :=
  (ss_cons (s_if (d_eqT hr.units (d_var 0) (PDN.d (n_lst a_nil))) (ss_one (s_ret d_bl)) ss_nil) (ss_cons (s_asg (d_ix (d_var 0) d_neg (by intro _ _; rfl)) (g_tup rfl (g_cons (g_nm 3 sc_goes_on.nd) (g_cons (g_nm 4 sc_goes_on.nd) g_nil)))) (ss_one (s_ret (d_orV (d_lt hr.units (d_index (d_var 3) rfl (W.glo 44) (W.tup0 3 (by rfl)) (W.tup1 3 (by rfl))) (d_index (d_var 1) rfl (W.glo 44) (W.tup0 3 (by rfl)) (W.tup1 3 (by rfl)))) (d_one (d_andV (d_eq hr.units (d_var 1) (d_gstr rfl (W.str 40))) (d_andV (d_eq hr.units (d_var 3) (d_gstr rfl (W.str 40))) (d_one (d_lt hr.units (d_var 4) (d_var 2)))))))))))
/-! item_of -/
abbrev N_item_of : List Str := ["lines", "sort", "found", "own", "row"]
theorem sc_item_of : FnScope N_item_of ["lines", "sort"] (defScope (top 70)) := ⟨rfl, rfl, rfl, by decide +kernel, rfl, by decide +kernel, by decide +kernel⟩
def t_item_of : TSD := (sSeq (sSet 2 (fOwn (nLc (iL (dVar 0)) (.tup [(.nm 3), (.nm 4)]) (dTest (d2 eqD (dVar 3) (dVar 1))) (dVar 4) [3, 4]))) (sRet (dIf (dTest (dV2 neD (lOwn 2) (dList (aLst aNil)))) (dIxV (lOwn 2) (dC (.int 0))) (dTup aNil))))
theorem b_item_of {P : Program} {w : World} {K : PySem.W.Frag} {mg : Str → Option Value} {base : Heap} (W : Wo P w K mg base) 
    (cdv : Value) (A : Around) (outer : List Env) (s : Shared) (H : Hp) (F : Fm) (E : XK) (hr : Room 0 (A.deeper (envOfC "item_of" (defScope (top 70)) s.heap.objs.size (He.ga K "item_of") cdv))) :
    PSsD (cxOf (L2.CX P w) P w K mg base N_item_of "item_of" (defScope (top 70)) (He.ga K "item_of") cdv A outer s H E) F (defBody (top 70)) (t_item_of) :=
  (ss_cons (s_setLc 2 [("own", 3), ("row", 4)] rfl sc_item_of.nd (i_lst (d_var 0)) (blkOk_by (N := N_item_of) (sc := defScope (top 70)) (by decide +kernel)) (by decide) (fun _ _ _ _ _ => (g_tup rfl (g_cons (g_nm 3 sc_item_of.nd) (g_cons (g_nm 4 sc_item_of.nd) g_nil)))) (fun _ _ _ _ _ => (ts_one (d_eqT hr.units (d_var 3) (d_var 1)))) (fun _ _ _ _ _ => (d_var 4)) (by rfl)) (ss_one (s_ret (d_ifExp (d_neVT hr.units (PDL.v (l_own 2)) (PDN.d (n_lst a_nil))) (d_ixV (PDL.v (l_own 2)) d_int (by intro _ _; rfl)) (d_tup a_nil)))))
/-! kind_of -/
abbrev N_kind_of : List Str := ["stands", "lines", "edges", "sort", "row"]
theorem sc_kind_of : FnScope N_kind_of ["stands", "lines"] (defScope (top 71)) := ⟨rfl, rfl, rfl, by decide +kernel, rfl, by decide +kernel, by decide +kernel⟩
def t_kind_of : TSD := (sSeq (sSet 2 (fDat (dTupV (nLc (iL (dVar 1)) (.tup [(.nm 3), (.nm 4)]) (dTest (d2 eqD (dVar 3) (dC (.str "edges")))) (dVar 4) [3, 4])))) (sRet (dTup (aCons (dTup (aCons (dVar 0) (aCons (dCall T_item_of (aCons (dVar 1) (aCons (dC (.str "up")) aNil))) (aCons (dCall T_item_of (aCons (dVar 1) (aCons (dC (.str "deaf")) aNil))) (aCons (dVar 2) aNil))))) (aCons (dCall T_item_of (aCons (dVar 1) (aCons (dC (.str "below")) aNil))) aNil)))))
theorem b_kind_of {P : Program} {w : World} {K : PySem.W.Frag} {mg : Str → Option Value} {base : Heap} (W : Wo P w K mg base) (c_item_of : Cal P w K mg base 1 "item_of" (spD K T_item_of))
    (cdv : Value) (A : Around) (outer : List Env) (s : Shared) (H : Hp) (F : Fm) (E : XK) (hr : Room 1 (A.deeper (envOfC "kind_of" (defScope (top 71)) s.heap.objs.size (He.ga K "kind_of") cdv))) :
    PSsD (cxOf (L2.CX P w) P w K mg base N_kind_of "kind_of" (defScope (top 71)) (He.ga K "kind_of") cdv A outer s H E) F (defBody (top 71)) (t_kind_of) :=
  (ss_cons (s_set 2 sc_kind_of.nd (PD.f (d_tuple rfl (W.free 9) (PDN.v (n_lc [("sort", 3), ("row", 4)] rfl sc_kind_of.nd (i_lst (d_var 1)) (blkOk_by (N := N_kind_of) (sc := defScope (top 71)) (by decide +kernel)) (by decide) (fun _ _ _ _ _ => (g_tup rfl (g_cons (g_nm 3 sc_kind_of.nd) (g_cons (g_nm 4 sc_kind_of.nd) g_nil)))) (fun _ _ _ _ _ => (ts_one (d_eqT hr.units (d_var 3) (d_gstr rfl (W.str 40))))) (fun _ _ _ _ _ => (d_var 4))))))) (ss_one (s_ret (d_tup (a_cons (d_tup (a_cons (d_var 0) (a_cons (d_call c_item_of hr (a_cons (d_var 1) (a_cons (d_gstr rfl (W.str 37)) a_nil))) (a_cons (d_call c_item_of hr (a_cons (d_var 1) (a_cons (d_gstr rfl (W.str 38)) a_nil))) (a_cons (d_var 2) a_nil))))) (a_cons (d_call c_item_of hr (a_cons (d_var 1) (a_cons (d_gstr rfl (W.str 39)) a_nil))) a_nil))))))
/-! read_house -/
abbrev N_read_house : List Str := ["text", "name", "stands", "lines"]
theorem sc_read_house : FnScope N_read_house ["text"] (defScope (top 72)) := ⟨rfl, rfl, rfl, by decide +kernel, rfl, by decide +kernel, by decide +kernel⟩
def t_read_house : TSD := (sSeq (sIf (dNot (dTest (d1 (isiD "str") (dVar 0)))) sNever sNext) (sRet (dCall T_need_house (aCons (dTupV (nLc (iL (dCall T_blocks_in (aCons (dVar 0) aNil))) (.tup [(.nm 1), (.nm 2), (.nm 3)]) dYes (dTup (aCons (dVar 1) (aCons (dCall T_kind_of (aCons (dVar 2) (aCons (dVar 3) aNil))) aNil))) [1, 2, 3])) aNil))))
theorem b_read_house {P : Program} {w : World} {K : PySem.W.Frag} {mg : Str → Option Value} {base : Heap} (W : Wo P w K mg base) (c_blocks_in : Cal P w K mg base 6 "blocks_in" (spD K T_blocks_in)) (c_kind_of : Cal P w K mg base 6 "kind_of" (spD K T_kind_of)) (c_need_house : Cal P w K mg base 6 "need_house" (spD K T_need_house))
    (cdv : Value) (A : Around) (outer : List Env) (s : Shared) (H : Hp) (F : Fm) (E : XK) (hr : Room 6 (A.deeper (envOfC "read_house" (defScope (top 72)) s.heap.objs.size (He.ga K "read_house") cdv))) :
    PSsD (cxOf (L2.CX P w) P w K mg base N_read_house "read_house" (defScope (top 72)) (He.ga K "read_house") cdv A outer s H E) F (defBody (top 72)) (t_read_house) :=
  (ss_cons (s_if (d_notT (d_val (d_isi rfl (W.free 0) (d_var 0) rfl (W.free 6) boot_str (by decide)))) (ss_one s_never) ss_nil) (ss_one (s_ret (d_call c_need_house hr (a_cons (d_tuple rfl (W.free 9) (PDN.v (n_lc [("name", 1), ("stands", 2), ("lines", 3)] rfl sc_read_house.nd (i_lst (d_call c_blocks_in hr (a_cons (d_var 0) a_nil))) (blkOk_by (N := N_read_house) (sc := defScope (top 72)) (by decide +kernel)) (by decide) (fun _ _ _ _ _ => (g_tup rfl (g_cons (g_nm 1 sc_read_house.nd) (g_cons (g_nm 2 sc_read_house.nd) (g_cons (g_nm 3 sc_read_house.nd) g_nil))))) (fun _ _ _ _ _ => ts_nil) (fun _ _ _ _ _ => (d_tup (a_cons (d_var 1) (a_cons (d_call c_kind_of hr (a_cons (d_var 2) (a_cons (d_var 3) a_nil))) a_nil))))))) a_nil)))))
/-! is_move -/
abbrev N_is_move : List Str := ["value"]
theorem sc_is_move : FnScope N_is_move ["value"] (defScope (top 73)) := ⟨rfl, rfl, rfl, by decide +kernel, rfl, by decide +kernel, by decide +kernel⟩
def t_is_move : TSD := (sSeq (sIf (dOr (dNot (dTest (d1 (isiD "tuple") (dVar 0)))) (dOr (dTest (d2 ltD (d1 lenD (dVar 0)) (dC (.int 2)))) (dNot (dTest (d1 (isiD "str") (d2 idxD (dVar 0) (dC (.int 0)))))))) (sRet (dC (.bool false))) sNext) (sSeq (sIf (dNot (dTest (dCall T_is_whole (aCons (d2 idxD (dVar 0) (dC (.int 1))) (aCons (dC (.int 0)) (aCons (d2 subD (dC (.int 12)) (dC (.int 1))) aNil)))))) (sRet (dC (.bool false))) sNext) (sSeq (sIf (dTest (d2 eqD (d2 idxD (dVar 0) (dC (.int 0))) (dC (.str "edge")))) (sRet (dAndV (dCall T_is_tuple_of (aCons (dVar 0) (aCons (dC (.int 3)) aNil))) (dCall T_is_edge (aCons (d2 idxD (dVar 0) (dC (.int 2))) (aCons (dC (.int 6)) aNil))))) sNext) (sRet (dAndV (dCall T_is_tuple_of (aCons (dVar 0) (aCons (dC (.int 2)) aNil))) (d2 inD (d2 idxD (dVar 0) (dC (.int 0))) (dC (.tuple (List.map PyData.str ["come", "leave", "bell"])))))))))
theorem b_is_move {P : Program} {w : World} {K : PySem.W.Frag} {mg : Str → Option Value} {base : Heap} (W : Wo P w K mg base) (c_is_edge : Cal P w K mg base 3 "is_edge" (spD K T_is_edge)) (c_is_tuple_of : Cal P w K mg base 3 "is_tuple_of" (spD K T_is_tuple_of)) (c_is_whole : Cal P w K mg base 3 "is_whole" (spD K T_is_whole))
    (cdv : Value) (A : Around) (outer : List Env) (s : Shared) (H : Hp) (F : Fm) (E : XK) (hr : Room 3 (A.deeper (envOfC "is_move" (defScope (top 73)) s.heap.objs.size (He.ga K "is_move") cdv))) :
    PSsD (cxOf (L2.CX P w) P w K mg base N_is_move "is_move" (defScope (top 73)) (He.ga K "is_move") cdv A outer s H E) F (defBody (top 73)) (t_is_move) :=
  (ss_cons (s_if (PDW.t (d_orW (d_notT (d_val (d_isi rfl (W.free 0) (d_var 0) rfl (W.free 9) boot_tuple (by decide)))) (d_orW (d_ltT hr.units (d_len rfl (W.free 1) (d_var 0)) d_int) (d_or1 (d_notT (d_val (d_isi rfl (W.free 0) (d_ix (d_var 0) d_int (by intro _ _; rfl)) rfl (W.free 6) boot_str (by decide)))))))) (ss_one (s_ret d_bl)) ss_nil) (ss_cons (s_if (d_notT (d_val (d_call c_is_whole hr (a_cons (d_ix (d_var 0) d_int (by intro _ _; rfl)) (a_cons d_int (a_cons (d_sub (d_gint rfl (W.int 19)) d_int) a_nil)))))) (ss_one (s_ret d_bl)) ss_nil) (ss_cons (s_if (d_eqT hr.units (d_ix (d_var 0) d_int (by intro _ _; rfl)) (d_gstr rfl (W.str 31))) (ss_one (s_ret (d_andV (d_call c_is_tuple_of hr (a_cons (d_var 0) (a_cons d_int a_nil))) (d_one (d_call c_is_edge hr (a_cons (d_ix (d_var 0) d_int (by intro _ _; rfl)) (a_cons (d_gint rfl (W.int 16)) a_nil))))))) ss_nil) (ss_one (s_ret (d_andV (d_call c_is_tuple_of hr (a_cons (d_var 0) (a_cons d_int a_nil))) (d_one (d_in (d_ix (d_var 0) d_int (by intro _ _; rfl)) (d_gtup rfl (W.glo 43) (W.tup 2))))))))))
/-! move_words -/
abbrev N_move_words : List Str := ["move"]
theorem sc_move_words : FnScope N_move_words ["move"] (defScope (top 74)) := ⟨rfl, rfl, rfl, by decide +kernel, rfl, by decide +kernel, by decide +kernel⟩
def t_move_words : TSD := (sRet (dIf (dTest (d2 eqD (d2 idxD (dVar 0) (dC (.int 0))) (dC (.str "edge")))) (dList (aLst (aCons (d2 idxD (dVar 0) (dC (.int 0))) (aCons (d2 idxD (dVar 0) (dC (.int 1))) (aStar (dCall T_edge_words (aCons (d2 idxD (dVar 0) (dC (.int 2))) aNil)) aNil))))) (dList (aLst (aCons (d2 idxD (dVar 0) (dC (.int 0))) (aCons (d2 idxD (dVar 0) (dC (.int 1))) aNil))))))
theorem b_move_words {P : Program} {w : World} {K : PySem.W.Frag} {mg : Str → Option Value} {base : Heap} (W : Wo P w K mg base) (c_edge_words : Cal P w K mg base 1 "edge_words" (spD K T_edge_words))
    (cdv : Value) (A : Around) (outer : List Env) (s : Shared) (H : Hp) (F : Fm) (E : XK) (hr : Room 1 (A.deeper (envOfC "move_words" (defScope (top 74)) s.heap.objs.size (He.ga K "move_words") cdv))) :
    PSsD (cxOf (L2.CX P w) P w K mg base N_move_words "move_words" (defScope (top 74)) (He.ga K "move_words") cdv A outer s H E) F (defBody (top 74)) (t_move_words) :=
  (ss_one (s_ret (d_ifExp (d_eqT hr.units (d_ix (d_var 0) d_int (by intro _ _; rfl)) (d_gstr rfl (W.str 31))) (PDN.d (n_lst (a_cons (d_ix (d_var 0) d_int (by intro _ _; rfl)) (a_cons (d_ix (d_var 0) d_int (by intro _ _; rfl)) (a_star (d_call c_edge_words hr (a_cons (d_ix (d_var 0) d_int (by intro _ _; rfl)) a_nil)) a_nil))))) (PDN.d (n_lst (a_cons (d_ix (d_var 0) d_int (by intro _ _; rfl)) (a_cons (d_ix (d_var 0) d_int (by intro _ _; rfl)) a_nil)))))))
/-! weaving_text -/
abbrev N_weaving_text : List Str := ["weaving", "move"]
theorem sc_weaving_text : FnScope N_weaving_text ["weaving"] (defScope (top 75)) := ⟨rfl, rfl, rfl, by decide +kernel, rfl, by decide +kernel, by decide +kernel⟩
def t_weaving_text : TSD := (sSeq (sIf (dOr (dNot (dTest (d1 (isiD "tuple") (dVar 0)))) (dOr (dTest (d2 gtD (d1 lenD (dVar 0)) (dC (.int 10000)))) (dNot (dTest (dAll (nLc (iT (dVar 0)) (.nm 1) dYes (dCall T_is_move (aCons (dVar 1) aNil)) [1])))))) sNever sNext) (sRet (dJoin (dC (.str "\n")) (nLc (iT (dVar 0)) (.nm 1) dYes (dCall T_spaced (aCons (dCall T_move_words (aCons (dVar 1) aNil)) aNil)) [1]))))
theorem b_weaving_text {P : Program} {w : World} {K : PySem.W.Frag} {mg : Str → Option Value} {base : Heap} (W : Wo P w K mg base) (c_is_move : Cal P w K mg base 4 "is_move" (spD K T_is_move)) (c_move_words : Cal P w K mg base 4 "move_words" (spD K T_move_words)) (c_spaced : Cal P w K mg base 4 "spaced" (spD K T_spaced))
    (cdv : Value) (A : Around) (outer : List Env) (s : Shared) (H : Hp) (F : Fm) (E : XK) (hr : Room 4 (A.deeper (envOfC "weaving_text" (defScope (top 75)) s.heap.objs.size (He.ga K "weaving_text") cdv))) :
    PSsD (cxOf (L2.CX P w) P w K mg base N_weaving_text "weaving_text" (defScope (top 75)) (He.ga K "weaving_text") cdv A outer s H E) F (defBody (top 75)) (t_weaving_text) :=
  (ss_cons (s_if (PDW.t (d_orW (d_notT (d_val (d_isi rfl (W.free 0) (d_var 0) rfl (W.free 9) boot_tuple (by decide)))) (d_orW (d_gtT (d_len rfl (W.free 1) (d_var 0)) (d_gint rfl (W.int 20))) (d_or1 (d_notT (d_val (d_all rfl rfl (W.free 2) (PDN.v (n_lc [("move", 1)] rfl sc_weaving_text.nd (i_tup (d_var 0)) (blkOk_by (N := N_weaving_text) (sc := defScope (top 75)) (by decide +kernel)) (by decide) (fun _ _ _ _ _ => (g_nm 1 sc_weaving_text.nd)) (fun _ _ _ _ _ => ts_nil) (fun _ _ _ _ _ => (d_call c_is_move hr (a_cons (d_var 1) a_nil)))))))))))) (ss_one s_never) ss_nil) (ss_one (s_ret (d_join d_str (PDN.v (n_lc [("move", 1)] rfl sc_weaving_text.nd (i_tup (d_var 0)) (blkOk_by (N := N_weaving_text) (sc := defScope (top 75)) (by decide +kernel)) (by decide) (fun _ _ _ _ _ => (g_nm 1 sc_weaving_text.nd)) (fun _ _ _ _ _ => ts_nil) (fun _ _ _ _ _ => (d_call c_spaced hr (a_cons (d_call c_move_words hr (a_cons (d_var 1) a_nil)) a_nil)))))))))
/-! move_in -/
abbrev N_move_in : List Str := ["words", "found"]
theorem sc_move_in : FnScope N_move_in ["words"] (defScope (top 76)) := ⟨rfl, rfl, rfl, by decide +kernel, rfl, by decide +kernel, by decide +kernel⟩
def t_move_in : TSD := (sSeq (sIf (dTest (d2 ltD (d1 lenD (dVar 0)) (dC (.int 2)))) (sRet (dC .none)) sNext) (sSeq (sSet 1 (fDat (dTup (aCons (d2 idxD (dVar 0) (dC (.int 0))) (aCons (dCall T_number_in (aCons (d2 idxD (dVar 0) (dC (.int 1))) aNil)) aNil))))) (sSeq (sIf (dTest (d2 eqD (d2 idxD (dVar 0) (dC (.int 0))) (dC (.str "edge")))) (sSet 1 (fDat (dTup (aCons (d2 idxD (dVar 0) (dC (.int 0))) (aCons (dCall T_number_in (aCons (d2 idxD (dVar 0) (dC (.int 1))) aNil)) (aCons (dCall T_edge_in (aCons (dSl (dVar 0) (oSome (dC (.int 2))) oNo) aNil)) aNil)))))) (sIf (dTest (d2 gtD (d1 lenD (dVar 0)) (dC (.int 2)))) (sRet (dC .none)) sNext)) (sRet (dIf (dTest (dCall T_is_move (aCons (dVar 1) aNil))) (dVar 1) (dC .none))))))
theorem b_move_in {P : Program} {w : World} {K : PySem.W.Frag} {mg : Str → Option Value} {base : Heap} (W : Wo P w K mg base) (c_edge_in : Cal P w K mg base 4 "edge_in" (spD K T_edge_in)) (c_is_move : Cal P w K mg base 4 "is_move" (spD K T_is_move)) (c_number_in : Cal P w K mg base 4 "number_in" (spD K T_number_in))
    (cdv : Value) (A : Around) (outer : List Env) (s : Shared) (H : Hp) (F : Fm) (E : XK) (hr : Room 4 (A.deeper (envOfC "move_in" (defScope (top 76)) s.heap.objs.size (He.ga K "move_in") cdv))) :
    PSsD (cxOf (L2.CX P w) P w K mg base N_move_in "move_in" (defScope (top 76)) (He.ga K "move_in") cdv A outer s H E) F (defBody (top 76)) (t_move_in) :=
  (ss_cons (s_if (d_ltT hr.units (d_len rfl (W.free 1) (d_var 0)) d_int) (ss_one (s_ret d_non)) ss_nil) (ss_cons (s_set 1 sc_move_in.nd (PD.f (d_tup (a_cons (d_ix (d_var 0) d_int (by intro _ _; rfl)) (a_cons (d_call c_number_in hr (a_cons (d_ix (d_var 0) d_int (by intro _ _; rfl)) a_nil)) a_nil))))) (ss_cons (s_if (d_eqT hr.units (d_ix (d_var 0) d_int (by intro _ _; rfl)) (d_gstr rfl (W.str 31))) (ss_one (s_set 1 sc_move_in.nd (PD.f (d_tup (a_cons (d_ix (d_var 0) d_int (by intro _ _; rfl)) (a_cons (d_call c_number_in hr (a_cons (d_ix (d_var 0) d_int (by intro _ _; rfl)) a_nil)) (a_cons (d_call c_edge_in hr (a_cons (d_slice (d_var 0) (o_some d_int) o_none) a_nil)) a_nil))))))) (ss_one (s_if (d_gtT (d_len rfl (W.free 1) (d_var 0)) d_int) (ss_one (s_ret d_non)) ss_nil))) (ss_one (s_ret (d_ifExp (d_val (d_call c_is_move hr (a_cons (d_var 1) a_nil))) (d_var 1) d_non))))))
/-! read_weaving -/
abbrev N_read_weaving : List Str := ["text", "found", "number", "line", "move"]
theorem sc_read_weaving : FnScope N_read_weaving ["text"] (defScope (top 77)) := ⟨rfl, rfl, rfl, by decide +kernel, rfl, by decide +kernel, by decide +kernel⟩
def t_read_weaving : TSD := (sSeq (sIf (dNot (dTest (d1 (isiD "str") (dVar 0)))) sNever sNext) (sSeq (sSet 1 (fOwn (aLst aNil))) (sSeq (sFor (iEL (dList (nIf (dTest (d2 neD (dVar 0) (dC (.str "")))) (nSplit (dVar 0) (dC (.str "\n"))) (aLst aNil)))) (.tup [(.nm 2), (.nm 3)]) (sSeq (sSet 4 (fDat (dCall T_move_in (aCons (dList (nSplit (dVar 3) (dC (.str " ")))) aNil)))) (sSeq (sIf (dTest (d2 isND (dVar 4) (dC .none))) sNever sNext) (sApp 1 (dVar 4))))) (sRet (dTupV (lOwn 1))))))
theorem b_read_weaving {P : Program} {w : World} {K : PySem.W.Frag} {mg : Str → Option Value} {base : Heap} (W : Wo P w K mg base) (c_move_in : Cal P w K mg base 5 "move_in" (spD K T_move_in))
    (cdv : Value) (A : Around) (outer : List Env) (s : Shared) (H : Hp) (F : Fm) (E : XK) (hr : Room 5 (A.deeper (envOfC "read_weaving" (defScope (top 77)) s.heap.objs.size (He.ga K "read_weaving") cdv))) :
    PSsD (cxOf (L2.CX P w) P w K mg base N_read_weaving "read_weaving" (defScope (top 77)) (He.ga K "read_weaving") cdv A outer s H E) F (defBody (top 77)) (t_read_weaving) :=
  (ss_cons (s_if (d_notT (d_val (d_isi rfl (W.free 0) (d_var 0) rfl (W.free 6) boot_str (by decide)))) (ss_one s_never) ss_nil) (ss_cons (s_set 1 sc_read_weaving.nd (PDN.f (n_lst a_nil))) (ss_cons (s_for (passes_of rfl) rfl (i_enumL rfl (W.free 4) (PDN.d (n_if (d_neT hr.units (d_var 0) d_str) (n_split (d_var 0) d_str) (n_lst a_nil)))) (g_tup rfl (g_cons (g_nm 2 sc_read_weaving.nd) (g_cons (g_nm 3 sc_read_weaving.nd) g_nil))) (ss_cons (s_set 4 sc_read_weaving.nd (PD.f (d_call c_move_in hr (a_cons (PDN.d (n_split (d_var 3) d_str)) a_nil)))) (ss_cons (s_if (d_isT (d_var 4) d_non) (ss_one s_never) ss_nil) (ss_one (s_app 1 (d_var 4)))))) (ss_one (s_ret (d_tuple rfl (W.free 9) (PDL.v (l_own 1))))))))
end Wk
namespace Wk
open L2 RZ PyProof.Rows PySem.Spec PySem
abbrev EQ (Q : PyData → Prop) : EndsD := { nx := fun _ _ => Q .none, rt := fun d _ => Q d }
theorem q_of {Q : PyData → Prop} {a c : Bool} (h : Q (.bool a)) (e : a = c) : Q (.bool c) := by rw [← e]; exact h
theorem p_is_whole : ∀ ds Q, T_is_whole ds Q → t_is_whole { nx := fun _ _ => Q .none, rt := fun d _ => Q d } (startD N_is_whole.length ds) 0 := by
  rintro ds Q ⟨d, lo, hi, rfl, hd, h⟩
  cases d <;> simp_all [t_is_whole, startD, wholeB, wholeI]
  rename_i i
  by_cases c : lo ≤ i
  · exact .inr ⟨c, by simpa [c] using h⟩
  · exact .inl ⟨by omega, by simpa [c] using h⟩
theorem p_is_word : ∀ ds Q, T_is_word ds Q → t_is_word { nx := fun _ _ => Q .none, rt := fun d _ => Q d } (startD N_is_word.length ds) 0 := by
  rintro ds Q ⟨z, rfl, hz, h⟩
  have hz' : z.length ≤ 16777216 := by omega
  simp [t_is_word, startD, hz', noOwn, wipeD, len_chars, line_eq]
  unfold isWord at h
  by_cases c1 : 1 ≤ z.length
  · by_cases c2 : z.length ≤ 8
    · refine .inr ⟨by omega, .inr ⟨by omega, ?_⟩⟩
      refine lc_map (fun c => .str ⟨#[c]⟩) (fun c => .bool (decide (c ∈ LETTERS.cps.toList))) z.cps.toList (fun c _ => ⟨_, rfl, fun b Q q => ?_⟩) [] 0 _ ?_
      · exact ⟨_, rfl, _, inD_sign c LETTERS, q⟩
      · refine ⟨z.cps.toList.map fun c => decide (c ∈ LETTERS.cps.toList), by simp, ?_⟩
        simpa [c1, c2, List.all_map, Function.comp_def] using h
    · exact .inr ⟨by omega, .inl ⟨by omega, by simpa [c1, c2] using h⟩⟩
  · exact .inl ⟨by omega, by simpa [c1] using h⟩
theorem p_is_tuple_of : ∀ ds Q, T_is_tuple_of ds Q → t_is_tuple_of { nx := fun _ _ => Q .none, rt := fun d _ => Q d } (startD N_is_tuple_of.length ds) 0 := by
  rintro ds Q ⟨d, n, rfl, hd, h⟩
  cases d with
  | tuple xs =>
    simp only [tupB] at h
    simp [t_is_tuple_of, startD]
    by_cases c : (xs.length : Int) = n
    · simpa [c] using h
    · have c2 : ((xs.length : Int) == n) = false := beq_eq_false_iff_ne.mpr c
      rw [c2]
      simpa [c] using h
  | _ => simp_all [t_is_tuple_of, startD, tupB]
theorem zip_drop {α : Type} (enc : α → PyData) : ∀ xs : List α, zipD (xs.map enc) ((xs.map enc).drop 1) = (xs.zip (xs.drop 1)).map fun p => .tuple [enc p.1, enc p.2]
  | [] => rfl
  | [_] => rfl
  | x :: y :: r => by
    have := zip_drop enc (y :: r)
    simp only [List.map_cons, List.drop_succ_cons, List.drop_zero, zipD, List.zip_cons_cons] at this ⊢
    rw [this]
theorem asc_zip {α : Type} (lt : α → α → Bool) : ∀ xs : List α, ((xs.zip (xs.drop 1)).map fun p => lt p.1 p.2).all (fun k => k) = asc lt xs
  | [] => rfl
  | [_] => rfl
  | x :: y :: r => by
    have := asc_zip lt (y :: r)
    simp only [List.drop_succ_cons, List.drop_zero, List.zip_cons_cons, List.map_cons, List.all_cons, asc] at this ⊢
    rw [this]
theorem p_is_ascending : ∀ ds Q, T_is_ascending ds Q → t_is_ascending { nx := fun _ _ => Q .none, rt := fun d _ => Q d } (startD N_is_ascending.length ds) 0 := by
  have key : ∀ {α : Type} (enc : α → PyData) (lt : α → α → Bool) (hlt : ∀ x y, ltD (enc x) (enc y) = some (.bool (lt x y))) (xs : List α) (d : PyData) (Q : PyData → Prop), (d = .list (xs.map enc) ∨ d = .tuple (xs.map enc)) → big xs → Q (.bool (asc lt xs)) →
      t_is_ascending { nx := fun _ _ => Q .none, rt := fun d _ => Q d } (startD N_is_ascending.length [d]) 0 := by
    intro α enc lt hlt xs d Q hd hb h
    have hl : (zipD (xs.map enc) ((xs.map enc).drop 1)).length ≤ 16777216 := by
      rw [zipD_len]
      have : xs.length ≤ 100000 := hb
      simp; omega
    have go : lcGo (.tup [.nm 1, .nm 2]) dYes (d2 ltD (dVar 1) (dVar 2)) [Sl.dat d, Sl.no, Sl.no] (zipD (xs.map enc) ((xs.map enc).drop 1)) [] 0 fun ds b1 => ∃ bs, ds = List.map PyData.bool bs ∧ Q (PyData.bool (bs.all fun k => k)) := by
      rw [zip_drop]
      refine lc_map _ (fun p => .bool (lt p.1 p.2)) _ (fun p _ => ⟨[Sl.dat d, Sl.dat (enc p.1), Sl.dat (enc p.2)], rfl, fun b Q q => ⟨_, rfl, _, rfl, _, hlt _ _, q⟩⟩) [] 0 _ ?_
      exact ⟨(xs.zip (xs.drop 1)).map fun p => lt p.1 p.2, by simp, by rw [asc_zip]; exact h⟩
    rcases hd with rfl | rfl
    · simp [t_is_ascending, startD, noOwn, wipeD, line_eq]
      simp at hl go
      exact ⟨_, _, ⟨rfl, rfl⟩, hl, go⟩
    · simp [t_is_ascending, startD, noOwn, wipeD, line_eq]
      simp at hl go
      exact ⟨_, _, ⟨rfl, rfl⟩, hl, go⟩
  rintro ds Q ⟨xs, hd, ⟨is, rfl, hb, h⟩ | ⟨zs, rfl, hb, h⟩⟩
  · rcases hd with rfl | rfl
    · exact key PyData.int ltI (fun _ _ => rfl) is _ Q (.inl rfl) hb h
    · exact key PyData.int ltI (fun _ _ => rfl) is _ Q (.inr rfl) hb h
  · rcases hd with rfl | rfl
    · exact key PyData.str ltS (fun _ _ => rfl) zs _ Q (.inl rfl) hb h
    · exact key PyData.str ltS (fun _ _ => rfl) zs _ Q (.inr rfl) hb h
theorem p_is_stands : ∀ ds Q, T_is_stands ds Q → t_is_stands { nx := fun _ _ => Q .none, rt := fun d _ => Q d } (startD N_is_stands.length ds) 0 := by
  rintro ds Q ⟨is, lo, st, rfl, hb, h⟩
  have hb' : is.length ≤ 16777216 := Nat.le_trans hb (by decide)
  simp [t_is_stands, startD, noOwn, wipeD, line_eq, intsD, hb']
  refine lc_map PyData.int (fun i => .bool (wholeI i lo (st - 1))) is (fun i _ => ⟨_, rfl, fun b Q q => ?_⟩) [] 0 _ ?_
  · exact ⟨_, rfl, _, rfl, _, rfl, _, rfl, .int i, lo, st - 1, rfl, (fun x e => nomatch e), q⟩
  · refine ⟨is.map fun i => wholeI i lo (st - 1), by simp, ?_⟩
    cases c : is.all fun i => wholeI i lo (st - 1) with
    | true =>
      rw [c] at h
      rw [if_neg (by simp at c ⊢; exact c)]
      exact ⟨_, .inr rfl, .inl ⟨is, rfl, hb, h⟩⟩
    | false =>
      rw [c] at h
      rw [if_pos (by simp at c ⊢; exact c)]
      exact h
theorem all_false {α : Type} {p : α → Bool} {xs : List α} : (∃ x ∈ xs, p x = false) ↔ xs.all p = false := by
  rw [List.all_eq_false]
  simp
theorem p_is_asks : ∀ ds Q, T_is_asks ds Q → t_is_asks { nx := fun _ _ => Q .none, rt := fun d _ => Q d } (startD N_is_asks.length ds) 0 := by
  rintro ds Q ⟨zs, rfl, hb, h⟩
  have hb' : zs.length ≤ 16777216 := Nat.le_trans hb (by decide)
  simp [t_is_asks, startD, noOwn, wipeD, line_eq, strsD, hb']
  refine lc_map PyData.str (fun z => .bool (inS z ASKS)) zs (fun z _ => ⟨_, rfl, fun b Q q => ?_⟩) [] 0 _ ?_
  · exact ⟨_, rfl, _, rfl, true, rfl, _, rfl, _, inD_tup0 z ASKS, q⟩
  · refine ⟨zs.map fun z => inS z ASKS, by simp, ?_⟩
    unfold asksB at h
    cases c : zs.all fun z => inS z ASKS with
    | false =>
      rw [c] at h
      rw [if_pos (by simp at c ⊢; exact c)]
      exact h
    | true =>
      rw [c] at h
      rw [if_neg (by simp at c ⊢; exact c)]
      refine ⟨_, .inr rfl, .inr ⟨zs, rfl, hb, ?_⟩⟩
      show (PyData.bool (ascS zs) = _ ∧ _) ∨ (PyData.bool (ascS zs) = _ ∧ _)
      cases c2 : ascS zs with
      | false => exact .inl ⟨rfl, by simpa [c2] using h⟩
      | true =>
        refine .inr ⟨rfl, lc_filter PyData.str PyData.str (fun z => inS z ["calm", "held", "unheld"]) zs (fun z _ => ⟨_, rfl, fun b Q q => ?_, fun _ b Q q => ⟨_, rfl, q⟩⟩) [] 0 _ ?_⟩
        · exact ⟨_, rfl, by show (3 : Nat) ≤ sizeLine; decide, _, inD_tup0 z ["calm", "held", "unheld"], _, rfl, q⟩
        · rw [c2] at h
          refine q_of h ?_
          simp
          omega
theorem p_is_below : ∀ ds Q, T_is_below ds Q → t_is_below { nx := fun _ _ => Q .none, rt := fun d _ => Q d } (startD N_is_below.length ds) 0 := by
  rintro ds Q ⟨zs, names, rfl, hb, h⟩
  have hb' : zs.length ≤ 16777216 := Nat.le_trans hb (by decide)
  simp [t_is_below, startD, noOwn, wipeD, line_eq, strsD, hb']
  refine lc_map PyData.str (fun z => .bool (inS z names)) zs (fun z _ => ⟨_, rfl, fun b Q q => ?_⟩) [] 0 _ ?_
  · exact ⟨_, rfl, _, rfl, true, rfl, _, rfl, _, rfl, _, inD_list0 z names, q⟩
  · refine ⟨zs.map fun z => inS z names, by simp, ?_⟩
    cases c : zs.all fun z => inS z names with
    | false =>
      rw [c] at h
      rw [if_pos (by simp at c ⊢; exact c)]
      exact h
    | true =>
      rw [c] at h
      rw [if_neg (by simp at c ⊢; exact c)]
      exact ⟨_, .inr rfl, .inr ⟨zs, rfl, hb, h⟩⟩
theorem p_is_pair : ∀ ds Q, T_is_pair ds Q → t_is_pair { nx := fun _ _ => Q .none, rt := fun d _ => Q d } (startD N_is_pair.length ds) 0 := by
  rintro ds Q ⟨p, rfl, hb, h⟩
  refine ⟨_, rfl, _, _, rfl, (fun x e => nomatch e), ?_⟩
  simp [tupB, itemD, startD, Kd.d, Kd.book]
  refine ⟨p.1, rfl, hb, ?_⟩
  cases c : isWord p.1 with
  | false => exact .inl ⟨rfl, by rw [c] at h; exact h⟩
  | true => exact .inr ⟨rfl, _, 2, rfl, (fun x e => nomatch e), .inr ⟨rfl, _, 4, rfl, (fun x e => nomatch e), by rw [c] at h; exact h⟩⟩
theorem p_is_edge : ∀ ds Q, T_is_edge ds Q → t_is_edge { nx := fun _ _ => Q .none, rt := fun d _ => Q d } (startD N_is_edge.length ds) 0 := by
  rintro ds Q ⟨e, st, rfl, hb, h⟩
  refine ⟨_, rfl, _, 4, rfl, (fun x e => nomatch e), ?_⟩
  simp [tupB, Ed.d, startD, strsD]
  refine ⟨e.asks, rfl, hb, ?_⟩
  unfold edgeB at h
  cases c : asksB e.asks with
  | false => exact .inl ⟨rfl, by rw [c] at h; exact h⟩
  | true =>
    refine .inr ⟨rfl, _, inD_tup0 e.deed DEEDS, ?_⟩
    rw [c] at h
    cases c2 : inS e.deed DEEDS with
    | false => exact .inl ⟨rfl, by rw [c2] at h; exact h⟩
    | true =>
      rw [c2] at h
      refine .inr ⟨rfl, .int e.a, 0, st - 1, rfl, (fun x e => nomatch e), ?_⟩
      show (PyData.bool (wholeI e.a 0 (st - 1)) = _ ∧ _) ∨ (PyData.bool (wholeI e.a 0 (st - 1)) = _ ∧ _)
      cases c3 : wholeI e.a 0 (st - 1) with
      | false => exact .inl ⟨rfl, by rw [c3] at h; exact h⟩
      | true =>
        rw [c3] at h
        exact .inr ⟨rfl, .int e.z, 0, st - 1, rfl, (fun x e => nomatch e), h⟩
theorem for_ix {T : Tg} {body : TSD} {D : EndsD} (C : Nat → List Sl → Nat → Prop) : ∀ (ds : List PyData) (i : Nat) (δ : List Sl) (b : Nat), C i δ b →
    (∀ j d δ b, ds[j]? = some d → C (i + j) δ b → ∃ δ', T.put d δ = some δ' ∧ ∀ N : List Sl → Nat → Prop, (∀ δ'' b'', C (i + j + 1) δ'' b'' → N δ'' b'') → body { D with nx := N, ct := N, bk := D.nx } δ' b) → (∀ δ b, C (i + ds.length) δ b → D.nx δ b) → forGo T body D ds δ b
  | [], i, δ, b, h0, _, hd => hd δ b h0
  | d :: ds, i, δ, b, h0, hs, hd => by
    obtain ⟨δ', h1, h2⟩ := hs 0 d δ b rfl h0
    refine ⟨δ', h1, h2 _ fun δ'' b'' c => for_ix C ds (i + 1) δ'' b'' c (fun j d' δ1 b1 hj hc => ?_) fun δ1 b1 hc => hd δ1 b1 (by rw [List.length_cons]; rwa [show i + (ds.length + 1) = i + 1 + ds.length by omega])⟩
    have := hs (j + 1) d' δ1 b1 (by simpa using hj) (by rwa [show i + (j + 1) = i + 1 + j by omega])
    rwa [show i + (j + 1) + 1 = i + 1 + j + 1 by omega] at this
theorem alike_strs : ∀ zs ws : List Str, PySem.W.alikeAll (zs.map PyData.str) (ws.map PyData.str) = true
  | [], _ => by simp [PySem.W.alikeAll]
  | _ :: _, [] => by simp [PySem.W.alikeAll]
  | z :: zs, w :: ws => by simp [PySem.W.alikeAll, PySem.W.alike, alike_strs zs ws]
theorem alike_ed (e f : Ed) : PySem.W.alike e.d f.d = true := by
  simp [Ed.d, strsD, PySem.W.alike, PySem.W.alikeAll, alike_strs]
theorem depth_strs : ∀ zs : List Str, PyData.depthAll (zs.map PyData.str) ≤ 1
  | [] => (by simp [PyData.depthAll])
  | z :: zs => by
    have := depth_strs zs
    simp [PyData.depthAll, PyData.depth]
    omega
theorem depth_ed (e : Ed) : e.d.depth ≤ 5 := by
  have := depth_strs e.asks
  simp [Ed.d, strsD, PyData.depth, PyData.depthAll]
  omega
@[simp] theorem ltD_ed (e f : Ed) : ltD e.d f.d = some (.bool (ltE e f)) := by
  have h := depth_ed e
  show (if PySem.W.alike e.d f.d = true ∧ min e.d.depth f.d.depth ≤ 64 then some (PyData.bool (PySem.W.dataLt e.d f.d)) else none) = _
  rw [if_pos ⟨alike_ed e f, by omega⟩]; rfl
theorem asc_get {α : Type} {lt : α → α → Bool} : ∀ {xs : List α} {i : Nat} {x y : α}, asc lt xs = true → xs[i]? = some x → xs[i + 1]? = some y → lt x y = true
  | [], _, _, _, _, q, _ => by simp at q
  | [_], i, _, _, _, _, h => by simp at h
  | a :: b :: r, 0, x, y, h, h1, h2 => by
    simp at h1 h2; subst h1 h2
    simp [asc] at h; exact h.1
  | a :: b :: r, i + 1, x, y, h, h1, h2 => by
    simp only [asc, Bool.and_eq_true] at h
    exact asc_get (xs := b :: r) (i := i) h.2 (by simpa using h1) (by simpa using h2)
theorem enum_get {ds : List PyData} {j : Nat} {d : PyData} (h : (enumD 0 ds)[j]? = some d) : ∃ e, ds[j]? = some e ∧ d = .tuple [.int (j : Nat), e] := by
  have hl : j < ds.length := by
    have := (List.getElem?_eq_some_iff.mp h).1
    rwa [enumD_len] at this
  have := enumD_get ds 0 j ds[j] (List.getElem?_eq_getElem hl)
  rw [h] at this
  cases this
  exact ⟨ds[j], List.getElem?_eq_getElem hl, by simp⟩
theorem p_need_edges : ∀ ds Q, T_need_edges ds Q → t_need_edges { nx := fun _ _ => Q .none, rt := fun d _ => Q d } (startD N_need_edges.length ds) 0 := by
  rintro ds Q ⟨i, st, es, rfl, h24, hok, hasc, h⟩
  have h24' : (es.length : Int) ≤ 24 := by omega
  simp [t_need_edges, startD, h24']
  refine for_ix (fun j δ b => ∃ s3 s4, δ = [Sl.dat (.int i), Sl.dat (.int st), Sl.dat (.tuple (es.map Ed.d)), s3, s4]) _ 0 _ _ ⟨_, _, rfl⟩ (fun j d δ b hj ⟨s3, s4, hδ⟩ => ?_) fun δ b ⟨s3, s4, hδ⟩ => h
  subst hδ
  obtain ⟨e', he, rfl⟩ := enum_get hj
  obtain ⟨e, he2, rfl⟩ := by
    rw [List.getElem?_map] at he
    exact Option.map_eq_some_iff.mp he
  have hm := hok e (List.mem_of_getElem? he2)
  refine ⟨_, rfl, fun N hN => ?_⟩
  refine ⟨_, rfl, _, rfl, e, st, rfl, hm.1, ?_⟩
  rw [hm.2]
  have fin : ∀ b, N [Sl.dat (.int i), Sl.dat (.int st), Sl.dat (.tuple (es.map Ed.d)), Sl.dat (.int (j : Nat)), Sl.dat e.d] b := fun b => hN _ _ ⟨_, _, rfl⟩
  simp
  cases j with
  | zero => exact .inl ⟨by simp, by simpa [sNext] using fin _⟩
  | succ j =>
    refine .inr ⟨by omega, ?_⟩
    have hlt : j + 1 < es.length := (List.getElem?_eq_some_iff.mp he2).1
    have hf : es[j]? = some es[j] := List.getElem?_eq_getElem (by omega)
    rw [show (((j + 1 : Nat) : Int) - 1) = ((j : Nat) : Int) by omega, atI_nat', List.getElem?_map, hf]
    exact ⟨_, rfl, _, ltD_ed _ _, by rw [asc_get hasc hf he2], fin _⟩
theorem p_need_kind : ∀ ds Q, T_need_kind ds Q → t_need_kind { nx := fun _ _ => Q .none, rt := fun d _ => Q d } (startD N_need_kind.length ds) 0 := by
  rintro ds Q ⟨i, k, names, rfl, ok, b1, b2, b3, b4, h⟩
  refine ⟨_, rfl, _, rfl, ?_⟩
  refine ⟨_, rfl, .int k.many, 1, 6, rfl, (fun x e => nomatch e), true, by rw [← ok.many]; rfl, ?_⟩
  refine ⟨_, rfl, _, rfl, k.up, 1, k.many, rfl, b1, true, by rw [ok.up, ok.upA]; rfl, ?_⟩
  refine ⟨_, rfl, _, rfl, k.deaf, 0, k.many, rfl, b2, true, by rw [ok.deaf, ok.deafA]; rfl, ?_⟩
  refine ⟨_, rfl, _, rfl, _, rfl, i, k.many, k.edges, rfl, ok.edgesL, fun e he => ⟨b4 e he, ok.edges e he⟩, ok.edgesA, ?_⟩
  refine ⟨_, rfl, _, rfl, k.below, names, rfl, b3, true, by rw [ok.below, ok.belowA]; rfl, h⟩
theorem p_need_house : ∀ ds Q, T_need_house ds Q → t_need_house { nx := fun _ _ => Q .none, rt := fun d _ => Q d } (startD N_need_house.length ds) 0 := by
  rintro ds Q ⟨h, rfl, ok, hb, hq⟩
  have l1 := ok.lo
  have l2 := ok.hi
  simp [t_need_house, startD, hoD, noOwn, wipeD, line_eq, (show (1 : Int) ≤ h.length by omega), (show (h.length : Int) ≤ 3 by omega)]
  have small8 : ∀ {α : Type} {l : List α}, l.length ≤ 8 → big l := fun hl => Nat.le_trans hl (by decide)
  refine for_ix (fun j δ b => ∃ s2 s3, δ = [Sl.dat (.tuple (h.map itemD)), Sl.no, s2, s3, Sl.no, Sl.no]) _ 0 _ _ ⟨_, _, rfl⟩ (fun j d δ b hj ⟨s2, s3, hδ⟩ => ?_) fun δ b ⟨s2, s3, hδ⟩ => ?_
  · subst hδ
    obtain ⟨e', he, rfl⟩ := enum_get hj
    obtain ⟨p, he2, rfl⟩ := by
      rw [List.getElem?_map] at he
      exact Option.map_eq_some_iff.mp he
    have hm := List.mem_of_getElem? he2
    refine ⟨_, rfl, fun N hN => ?_⟩
    refine ⟨_, rfl, p, rfl, Nat.le_trans (hb p hm).1 (by decide), true, by rw [ok.word p hm], ?_⟩
    have fin : ∀ b, N [Sl.dat (.tuple (h.map itemD)), Sl.no, Sl.dat (.int (j : Nat)), Sl.dat (itemD p), Sl.no, Sl.no] b := fun b => hN _ _ ⟨_, _, rfl⟩
    simp
    cases j with
    | zero => exact .inl ⟨by simp, by simpa [sNext] using fin _⟩
    | succ j =>
      refine .inr ⟨by omega, ?_⟩
      have hlt : j + 1 < h.length := (List.getElem?_eq_some_iff.mp he2).1
      have hf : h[j]? = some h[j] := List.getElem?_eq_getElem (by omega)
      rw [show (((j + 1 : Nat) : Int) - 1) = ((j : Nat) : Int) by omega, atI_nat', List.getElem?_map, hf]
      have hn : ltS h[j].1 p.1 = true := asc_get (xs := h.map (·.1)) (i := j) ok.nameA (by rw [List.getElem?_map, hf]; rfl) (by rw [List.getElem?_map, he2]; rfl)
      exact ⟨_, rfl, .str h[j].1, rfl, .str p.1, rfl, .bool (ltS h[j].1 p.1), rfl, by rw [hn], fin _⟩
  · subst hδ
    refine ⟨noOwn_by rfl, _, rfl, _, rfl, by rw [line_eq, List.length_map]; omega, ?_⟩
    refine lc_map itemD (fun p => .str p.1) h (fun p _ => ⟨_, rfl, fun b Q q => ⟨_, rfl, q⟩⟩) [] b _ ?_
    rw [List.nil_append]
    refine ⟨_, rfl, _, rfl, ?_⟩
    refine for_ix (fun j δ b => ∃ s2 s4 s5, δ = [Sl.dat (.tuple (h.map itemD)), Sl.dat (.list (h.map fun p => .str p.1)), s2, s3, s4, s5]) _ 0 _ _ ⟨_, _, _, rfl⟩ (fun j d δ b hj ⟨s2, s4, s5, hδ⟩ => ?_) fun δ b ⟨s2, s4, s5, hδ⟩ => ?_
    · subst hδ
      obtain ⟨e', he, rfl⟩ := enum_get hj
      obtain ⟨p, he2, rfl⟩ := by
        rw [List.getElem?_map] at he
        exact Option.map_eq_some_iff.mp he
      have hm := List.mem_of_getElem? he2
      have hbp := hb p hm
      refine ⟨_, rfl, fun N hN => ?_⟩
      refine ⟨_, rfl, _, rfl, _, rfl, (j : Nat), p.2, h.map (·.1), ?_, ok.kind p hm, small8 hbp.2.1, small8 hbp.2.2.1, small8 hbp.2.2.2.1, fun e he => small8 (hbp.2.2.2.2.2 e he).1, hN _ _ ⟨_, _, _, rfl⟩⟩
      simp [itemD, List.map_map, Function.comp_def]
    · subst hδ
      exact ⟨_, rfl, hq⟩
end Wk
namespace Wk
open L2 RZ PyProof.Rows PySem.Spec PySem
theorem lc_opt {f : PyData → Option PyData} {T : Tg} {te : TD} {δ : List Sl} : ∀ (ds es : List PyData), ds.map f = es.map some → (∀ d e, f d = some e → ∃ δ', T.put d δ = some δ' ∧ ∀ b Q, Q e b → te δ' b Q) → ∀ acc b Q, Q (acc ++ es) b → lcGo T dYes te δ ds acc b Q
  | [], [], _, _, acc, b, Q, h => by simpa [lcGo] using h
  | [], _ :: _, h, _, _, _, _, _ => by simp at h
  | _ :: _, [], h, _, _, _, _, _ => by simp at h
  | d :: ds, e :: es, h, hx, acc, b, Q, q => by
    simp only [List.map_cons, List.cons.injEq] at h; obtain ⟨δ', h1, h2⟩ := hx d e h.1
    refine ⟨δ', h1, ?_⟩
    show (if true = true then (te δ' b fun z b3 => lcGo T dYes te δ ds (acc ++ [z]) b3 Q) else lcGo T dYes te δ ds acc b Q)
    rw [if_pos rfl]
    exact h2 b _ (lc_opt ds es h.2 hx (acc ++ [e]) b Q (by simpa using q))
/-! lengths -/
theorem len_app (x y : Str) : (x ++ y).length = x.length + y.length := by
  rw [TL.len_tl, TL.len_tl, TL.len_tl, TL.tl_append, List.length_append]
theorem joinL_len (S : List Nat) : ∀ parts : List (List Nat), (TL.joinL S parts).length ≤ (parts.map List.length).sum + parts.length * S.length
  | [] => by simp [TL.joinL]
  | [p] => by simp [TL.joinL]
  | p :: q :: r => by
    have := joinL_len S (q :: r)
    simp only [TL.joinL, List.length_append, List.map_cons, List.sum_cons, List.length_cons] at this ⊢
    have e : (r.length + 1 + 1) * S.length = (r.length + 1) * S.length + S.length := by rw [Nat.add_mul (r.length + 1), Nat.one_mul]
    omega
theorem join_len (y : Str) (zs : List Str) : (Txt.join y zs).length ≤ (zs.map (·.length)).sum + zs.length * y.length := by
  rw [TL.len_tl, TL.join_eq, TL.tl_join]
  have := joinL_len (TL.tl y) (zs.map TL.tl)
  simp only [List.map_map, List.length_map] at this
  refine Nat.le_trans this ?_
  have e : (List.length ∘ TL.tl) = fun z : Str => z.length := by funext z; exact (TL.len_tl z).symm
  rw [e, ← TL.len_tl]
  exact Nat.le_refl _
theorem sum_le {zs : List Str} {m : Nat} (h : ∀ z ∈ zs, z.length ≤ m) : (zs.map (·.length)).sum ≤ zs.length * m := by
  induction zs with
  | nil => simp
  | cons z zs ih =>
    have := ih fun y hy => h y (by simp [hy])
    have h1 := h z (by simp)
    simp only [List.map_cons, List.sum_cons, List.length_cons, Nat.add_mul]
    omega
theorem sp_len {zs : List Str} {m : Nat} (h : ∀ z ∈ zs, z.length ≤ m) : (sp zs).length ≤ zs.length * (m + 1) := by
  have h1 := join_len " " zs
  have h2 := sum_le h
  have h3 : (" " : Str).length = 1 := rfl
  rw [h3] at h1
  unfold sp
  rw [Nat.mul_add]
  omega
theorem p_spaced : ∀ ds Q, T_spaced ds Q → t_spaced { nx := fun _ _ => Q .none, rt := fun d _ => Q d } (startD N_spaced.length ds) 0 := by
  rintro ds Q ⟨ws, zs, rfl, hl, he, hz, h⟩
  have hlen : ws.length = zs.length := by simpa using congrArg List.length he
  refine ⟨" ", rfl, noOwn_by rfl, _, rfl, _, rfl, by rw [line_eq]; omega, ?_⟩
  refine lc_opt ws (zs.map PyData.str) (f := strD) (by rw [he]; simp) (fun d e hd => ⟨_, rfl, fun b Q q => ⟨_, rfl, _, hd, q⟩⟩) [] 0 _ ?_
  refine ⟨zs, by simp, ?_, h⟩
  have h2 := sum_le hz
  have h3 : (" " : Str).length = 1 := rfl
  rw [h3]
  have h4 : zs.length * 1000 ≤ 1000 * 1000 := Nat.mul_le_mul_right _ (by omega)
  omega
theorem p_edge_words : ∀ ds Q, T_edge_words ds Q → t_edge_words { nx := fun _ _ => Q .none, rt := fun d _ => Q d } (startD N_edge_words.length ds) 0 := by
  rintro ds Q ⟨e, rfl, hl, h⟩
  refine ⟨_, rfl, _, rfl, _, rfl, _, rfl, _, rfl, _, rfl, _, rfl, _, rfl, _, rfl, ?_⟩
  refine ⟨?_, ?_⟩
  · rw [line_eq]; simp; omega
  · simpa using h
theorem small_log {i : Int} (h : small i) : i.natAbs.log2 < 1920 := by
  have : i.natAbs < 2 ^ 1920 := Nat.lt_of_lt_of_le (by obtain ⟨_, _⟩ := h; omega : i.natAbs < 100) (by
    calc 100 ≤ 2 ^ 7 := by decide
      _ ≤ 2 ^ 1920 := Nat.pow_le_pow_right (by decide) (by decide))
  by_cases h0 : i.natAbs = 0
  · rw [h0]; decide
  · exact (Nat.log2_lt h0).mpr this
theorem strD_num {i : Int} (h : small i) : strD (.int i) = some (.str (num i)) := by
  show (if i.natAbs.log2 < 1920 then some (PyData.str (toString i)) else none) = _
  rw [if_pos (small_log h)]; rfl
theorem num_tl {i : Int} (h : small i) : TL.tl (num i) = TL.numL i.toNat := by
  have e : i = ((i.toNat : Nat) : Int) := by obtain ⟨_, _⟩ := h; omega
  have := TL.tl_num i.toNat
  rw [← e] at this
  exact this
theorem num_len {i : Int} (h : small i) : (num i).length ≤ 2 := by
  rw [TL.len_tl, num_tl h]
  exact TL.numL_len (by decide) (by obtain ⟨_, _⟩ := h; omega)
theorem edgeWs_S {e : Ed} (h : small e.a ∧ small e.z ∧ e.asks.length ≤ 8 ∧ (∀ z ∈ e.asks, z.length ≤ 8) ∧ e.deed.length ≤ 8) : (edgeWs e).length ≤ 11 ∧ ∀ z ∈ edgeWs e, z.length ≤ 8 := by
  obtain ⟨h1, h2, h3, h4, h5⟩ := h
  refine ⟨by simp [edgeWs]; omega, fun z hz => ?_⟩
  simp only [edgeWs, List.cons_append, List.nil_append, List.mem_cons] at hz
  rcases hz with rfl | rfl | rfl | hz
  · exact Nat.le_trans (num_len h1) (by decide)
  · exact h5
  · exact Nat.le_trans (num_len h2) (by decide)
  · exact h4 z hz
theorem ne_tup {xs : List PyData} (h : PyData.canLayAll0 xs = true) : neD (.tuple xs) (.tuple []) = some (.bool (!xs.isEmpty)) := by
  have h1 : eqOk (.tuple xs) (.tuple []) = true := by
    show ((PyData.tuple xs).canLay0 && (PyData.tuple []).canLay0 && decide (min (PyData.tuple xs).depth (PyData.tuple []).depth ≤ 64)) = true
    simp [PyData.canLay0, PyData.canLayAll0, PyData.depth, PyData.depthAll, h]
  show (if eqOk (.tuple xs) (.tuple []) = true then some (PyData.bool (!PyData.eqv (.tuple xs) (.tuple []))) else none) = _
  rw [if_pos h1]
  cases xs <;> simp [PyData.eqv, PyData.eqvAll]
theorem ne_lst {xs : List PyData} (h : PyData.canLayAll0 xs = true) : neD (.list xs) (.list []) = some (.bool (!xs.isEmpty)) := by
  have h1 : eqOk (.list xs) (.list []) = true := by
    show ((PyData.list xs).canLay0 && (PyData.list []).canLay0 && decide (min (PyData.list xs).depth (PyData.list []).depth ≤ 64)) = true
    simp [PyData.canLay0, PyData.canLayAll0, PyData.depth, PyData.depthAll, h]
  show (if eqOk (.list xs) (.list []) = true then some (PyData.bool (!PyData.eqv (.list xs) (.list []))) else none) = _
  rw [if_pos h1]
  cases xs <;> simp [PyData.eqv, PyData.eqvAll]
theorem eq_tup {xs : List PyData} (h : PyData.canLayAll0 xs = true) : eqD (.tuple xs) (.tuple []) = some (.bool xs.isEmpty) := by
  have h1 : eqOk (.tuple xs) (.tuple []) = true := by
    show ((PyData.tuple xs).canLay0 && (PyData.tuple []).canLay0 && decide (min (PyData.tuple xs).depth (PyData.tuple []).depth ≤ 64)) = true
    simp [PyData.canLay0, PyData.canLayAll0, PyData.depth, PyData.depthAll, h]
  show (if eqOk (.tuple xs) (.tuple []) = true then some (PyData.bool (PyData.eqv (.tuple xs) (.tuple []))) else none) = _
  rw [if_pos h1]
  cases xs <;> simp [PyData.eqv, PyData.eqvAll]
theorem eq_lst {xs : List PyData} (h : PyData.canLayAll0 xs = true) : eqD (.list xs) (.list []) = some (.bool xs.isEmpty) := by
  have h1 : eqOk (.list xs) (.list []) = true := by
    show ((PyData.list xs).canLay0 && (PyData.list []).canLay0 && decide (min (PyData.list xs).depth (PyData.list []).depth ≤ 64)) = true
    simp [PyData.canLay0, PyData.canLayAll0, PyData.depth, PyData.depthAll, h]
  show (if eqOk (.list xs) (.list []) = true then some (PyData.bool (PyData.eqv (.list xs) (.list []))) else none) = _
  rw [if_pos h1]
  cases xs <;> simp [PyData.eqv, PyData.eqvAll]
theorem lay_ints : ∀ is : List Int, PyData.canLayAll0 (is.map PyData.int) = true
  | [] => rfl
  | i :: is => by simp [PyData.canLayAll0, PyData.canLay0, lay_ints is]
theorem p_kind_lines : ∀ ds Q, T_kind_lines ds Q → t_kind_lines { nx := fun _ _ => Q .none, rt := fun d _ => Q d } (startD N_kind_lines.length ds) 0 := by
  rintro ds Q ⟨n, k, rfl, S, h⟩
  have l4 : ∀ m : Nat, m ≤ 1000 → m ≤ sizeLine := fun m hm => by rw [line_eq]; omega
  refine ⟨_, rfl, _, rfl, ?_⟩
  refine ⟨_, rfl, _, rfl, l4 3 (by decide), _, ["kind", n, num k.many], rfl, (by show 3 ≤ 1000; decide), by simp [strD_num S.many], ?_, ?_⟩
  · intro z hz
    simp only [List.mem_cons, List.not_mem_nil, or_false] at hz
    rcases hz with rfl | rfl | rfl
    · decide
    · exact Nat.le_trans S.n (by decide)
    · exact Nat.le_trans (num_len S.many) (by decide)
  refine ⟨l4 1 (by decide), ?_⟩
  refine ⟨_, rfl, noOwn_by rfl, _, rfl, l4 2 (by decide), _, rfl, l4 2 (by decide), l4 2 (by decide), _, rfl, l4 2 (by decide), ?_⟩
  have numsOk : ∀ (x : Str) (is : List Int), x.length ≤ 8 → is.length ≤ 8 → (∀ i ∈ is, small i) → ((PyData.str x :: is.map PyData.int).map strD = (x :: is.map num).map fun z => some (.str z)) ∧ ∀ z ∈ x :: is.map num, z.length ≤ 1000 := fun x is hx hl hs => by
    refine ⟨?_, fun z hz => ?_⟩
    · simp only [List.map_cons, strD_str, List.map_map]
      congr 1
      exact List.map_congr_left fun i hi => strD_num (hs i hi)
    · simp only [List.mem_cons, List.mem_map] at hz
      rcases hz with rfl | ⟨i, hi, rfl⟩
      · omega
      · exact Nat.le_trans (num_len (hs i hi)) (by decide)
  refine lc_filter (fun p : Str × List Int => .tuple [.str p.1, intsD p.2]) (fun p => .str (sp (p.1 :: p.2.map num))) (fun p => !p.2.isEmpty) [("up", k.up), ("deaf", k.deaf)] (fun p hp => ?_) [] 0 _ ?_
  · have hp2 : p.1.length ≤ 8 ∧ p.2.length ≤ 8 ∧ ∀ i ∈ p.2, small i := by
      simp only [List.mem_cons, List.not_mem_nil, or_false] at hp
      rcases hp with rfl | rfl
      · exact ⟨by show ("up" : Str).length ≤ 8; decide, S.up⟩
      · exact ⟨by show ("deaf" : Str).length ≤ 8; decide, S.deaf⟩
    obtain ⟨n1, n2⟩ := numsOk p.1 p.2 hp2.1 hp2.2.1 hp2.2.2
    refine ⟨_, rfl, fun b Q q => ⟨_, rfl, by rw [line_eq]; decide, _, ne_tup (lay_ints p.2), _, rfl, by simpa using q⟩, fun _ b Q q => ?_⟩
    refine ⟨_, rfl, _, rfl, _, rfl, ?_, _, _, rfl, ?_, by simpa using n1, n2, q⟩
    · rw [line_eq]; simp; omega
    · simp; omega
  have hfl : (([("up", k.up), ("deaf", k.deaf)] : List (Str × List Int)).filter fun p => !p.2.isEmpty).length ≤ 2 := Nat.le_trans (List.length_filter_le _ _) (by show 2 ≤ 2; decide)
  refine ⟨by rw [line_eq]; simp at hfl ⊢; omega, ?_⟩
  have he := S.edges
  refine ⟨_, rfl, noOwn_by rfl, _, rfl, _, rfl, by rw [line_eq]; simp; omega, ?_⟩
  refine lc_map Ed.d (fun e => .str (sp (edgeWs e))) k.edges (fun e hm => ⟨_, rfl, fun b Q q => ?_⟩) [] 0 _ ?_
  · have hs := he.2 e hm
    obtain ⟨w1, w2⟩ := edgeWs_S hs
    refine ⟨_, rfl, e, rfl, by omega, _, edgeWs e, rfl, ?_, ?_, fun z hz => Nat.le_trans (w2 z hz) (by decide), q⟩
    · simp; omega
    · simp [edgeWs, strD_num hs.1, strD_num hs.2.1, Function.comp_def]
  refine ⟨by rw [line_eq]; simp at hfl ⊢; omega, ?_⟩
  refine ⟨_, rfl, _, rfl, by rw [line_eq]; decide, _, ne_tup S.lay, _, rfl, ?_⟩
  have fin : kindLines n k = [sp ["kind", n, num k.many]] ++ (([("up", k.up), ("deaf", k.deaf)] : List (Str × List Int)).filter fun p => !p.2.isEmpty).map (fun p => sp (p.1 :: p.2.map num)) ++ k.edges.map (fun e => sp (edgeWs e)) ++ (if k.below = [] then [] else [sp ("below" :: k.below)]) := by
    unfold kindLines
    cases k.up <;> cases k.deaf <;> simp
  rw [fin] at h
  have hb := S.below
  cases hbl : k.below with
  | nil =>
    refine ⟨l4 0 (by decide), ?_, ?_⟩
    · rw [line_eq]; simp at hfl ⊢; omega
    · rw [hbl, if_pos rfl] at h
      simpa [Function.comp_def] using h
  | cons z zs =>
    rw [hbl] at h hb
    rw [if_neg (by simp)] at h
    refine ⟨_, rfl, _, rfl, by rw [line_eq]; simp at hb ⊢; omega, _, "below" :: z :: zs, rfl, ?_, ?_, ?_, l4 1 (by decide), ?_, ?_⟩
    · simp at hb ⊢; omega
    · simp [Function.comp_def]
    · intro y hy
      rcases (List.mem_cons.mp hy) with rfl | hy
      · decide
      · exact Nat.le_trans (hb.2 y hy) (by decide)
    · rw [line_eq]; simp at hfl ⊢; omega
    · simpa [Function.comp_def] using h
theorem lineLen {n : Str} {k : Kd} (S : KdS n k) : (kindLines n k).length ≤ 28 ∧ ∀ z ∈ kindLines n k, z.length ≤ 100 := by
  have hu : ∀ (x : Str) (is : List Int), x.length ≤ 8 → is.length ≤ 8 → (∀ i ∈ is, small i) → (sp (x :: is.map num)).length ≤ 100 := fun x is hx hl hs => by
    have := sp_len (zs := x :: is.map num) (m := 8) fun z hz => by
      simp only [List.mem_cons, List.mem_map] at hz
      rcases hz with rfl | ⟨i, hi, rfl⟩
      · exact hx
      · exact Nat.le_trans (num_len (hs i hi)) (by decide)
    simp at this
    omega
  refine ⟨?_, fun z hz => ?_⟩
  · have := S.edges.1
    unfold kindLines
    split <;> split <;> split <;> simp <;> omega
  · unfold kindLines at hz
    simp only [List.mem_append, List.mem_map] at hz
    rcases hz with (((hz | hz) | hz) | ⟨e, he, rfl⟩) | hz
    · simp at hz; subst hz
      have := sp_len (zs := ["kind", n, num k.many]) (m := 8) fun z hz => by
        simp only [List.mem_cons, List.not_mem_nil, or_false] at hz
        rcases hz with rfl | rfl | rfl
        · decide
        · exact S.n
        · exact Nat.le_trans (num_len S.many) (by decide)
      simp at this
      omega
    · split at hz
      · cases hz
      · simp at hz; subst hz
        exact hu "up" k.up (by decide) S.up.1 S.up.2
    · split at hz
      · cases hz
      · simp at hz; subst hz
        exact hu "deaf" k.deaf (by decide) S.deaf.1 S.deaf.2
    · obtain ⟨w1, w2⟩ := edgeWs_S (S.edges.2 e he)
      have := sp_len (zs := edgeWs e) (m := 8) w2
      omega
    · split at hz
      · cases hz
      · simp at hz; subst hz
        have := sp_len (zs := "below" :: k.below) (m := 8) fun z hz => by
          rcases (List.mem_cons.mp hz) with rfl | hz
          · decide
          · exact S.below.2 z hz
        have hb := S.below.1
        simp at this
        omega
end Wk
namespace Wk
open L2 RZ PyProof.Rows PySem.Spec PySem
theorem inS_mem {z : Str} {l : List Str} : inS z l = true ↔ z ∈ l := by
  unfold inS
  rw [List.any_eq_true]
  constructor
  · rintro ⟨y, hy, e⟩
    have : y = z := by simpa using e
    rw [← this]; exact hy
  · intro h
    exact ⟨z, h, by simp⟩
theorem word_lay {z : Str} (h : isWord z = true) : (PyData.str z).canLay0 = true := by
  unfold isWord at h
  simp only [Bool.and_eq_true, List.all_eq_true, decide_eq_true_eq] at h; show z.cps.all (· < 0x110000) = true
  rw [← Array.all_toList, List.all_eq_true]; intro c hc
  have h2 := h.2 c hc
  have : ∀ c ∈ LETTERS.cps.toList, c < 0x110000 := by decide +kernel
  simpa using this c h2
theorem lay_strs {zs : List Str} (h : ∀ z ∈ zs, (PyData.str z).canLay0 = true) : PyData.canLayAll0 (zs.map PyData.str) = true := by
  induction zs with
  | nil => rfl
  | cons z zs ih =>
    simp only [List.map_cons, PyData.canLayAll0, Bool.and_eq_true]
    exact ⟨h z (by simp), ih fun y hy => h y (by simp [hy])⟩
theorem whole_iff {i lo hi : Int} : wholeI i lo hi = true ↔ lo ≤ i ∧ i ≤ hi := by
  unfold wholeI; simp
theorem edge_parts {e : Ed} {st : Int} (h : edgeB e st = true) : asksB e.asks = true ∧ e.deed ∈ DEEDS ∧ (0 ≤ e.a ∧ e.a ≤ st - 1) ∧ (0 ≤ e.z ∧ e.z ≤ st - 1) := by
  unfold edgeB at h
  simp only [Bool.and_eq_true] at h; exact ⟨h.1, inS_mem.mp h.2.1, whole_iff.mp h.2.2.1, whole_iff.mp h.2.2.2⟩
theorem kdS_of {h : Ho} (ok : HoOk h) (hb : HoBig h) {p : Str × Kd} (hp : p ∈ h) : KdS p.1 p.2 := by
  have k := ok.kind p hp
  have b := hb p hp
  have m := whole_iff.mp k.many
  have wordOf : ∀ z ∈ p.2.below, isWord z = true := fun z hz => by
    have := List.all_eq_true.mp k.below z hz
    have := inS_mem.mp this
    obtain ⟨q, hq, rfl⟩ := List.mem_map.mp this
    exact ok.word q hq
  refine ⟨lay_strs fun z hz => word_lay (wordOf z hz), b.1, ⟨by omega, by omega⟩, ⟨b.2.1, fun i hi => ?_⟩, ⟨b.2.2.1, fun i hi => ?_⟩, ⟨b.2.2.2.1, b.2.2.2.2.1⟩, ⟨k.edgesL, fun e he => ?_⟩⟩
  · have := whole_iff.mp (List.all_eq_true.mp k.up i hi)
    exact ⟨by omega, by omega⟩
  · have := whole_iff.mp (List.all_eq_true.mp k.deaf i hi)
    exact ⟨by omega, by omega⟩
  · obtain ⟨_, _, h3, h4⟩ := edge_parts (k.edges e he)
    have := b.2.2.2.2.2 e he
    exact ⟨⟨by omega, by omega⟩, ⟨by omega, by omega⟩, this.1, this.2.1, this.2.2⟩
theorem lc2_map {α : Type} (enc : α → PyData) (f : α → List Str) {T T1 : Tg} {src1 : TAD} {te : TD} {vs vs1 : List Nat} {δ : List Sl} : ∀ (xs : List α) (acc : List PyData) (b : Nat) (Q : List PyData → Nat → Prop),
    (∀ x ∈ xs, ∃ δ', T.put (enc x) δ = some δ' ∧ noOwn vs δ' ∧ (∀ b Q, Q ((f x).map PyData.str) b → src1 δ' b Q) ∧ (∀ b acc Q, Q (acc ++ (f x).map PyData.str) b → lcGo T1 dYes te (wipeD δ' vs1) ((f x).map PyData.str) acc b Q) ∧ (f x).length ≤ 1000) →
    acc.length + xs.length * 1000 ≤ 16777216 → Q (acc ++ (xs.flatMap f).map PyData.str) b → lc2Go T src1 T1 te vs vs1 δ (xs.map enc) acc b Q
  | [], acc, b, Q, _, _, h => by simpa [lc2Go] using h
  | x :: xs, acc, b, Q, hx, hl, h => by
    obtain ⟨δ', h1, h2, h3, h4, h5⟩ := hx x (by simp)
    simp only [List.length_cons, Nat.add_mul] at hl
    refine ⟨δ', h1, h2, h3 _ _ ⟨by rw [line_eq, List.length_map]; omega, h4 _ _ _ (lc2_map enc f xs _ b Q (fun y hy => hx y (by simp [hy])) ?_ (by simpa using h))⟩⟩
    rw [List.length_append, List.length_map]; omega
theorem sum_flat : ∀ (h : Ho), (∀ p ∈ h, (kindLines p.1 p.2).length ≤ 28) → (houseLines h).length ≤ h.length * 28
  | [], _ => by simp [houseLines]
  | p :: h, hp => by
    have := sum_flat h fun q hq => hp q (by simp [hq])
    have h1 := hp p (by simp)
    unfold houseLines at this ⊢
    rw [List.flatMap_cons, List.length_append, List.length_cons, Nat.add_mul]
    omega
theorem houseLines_S {h : Ho} (ok : HoOk h) (hb : HoBig h) : (houseLines h).length ≤ 84 ∧ ∀ z ∈ houseLines h, z.length ≤ 100 := by
  refine ⟨?_, fun z hz => ?_⟩
  · have := sum_flat h fun p hp => (lineLen (kdS_of ok hb hp)).1
    have h2 := ok.hi
    have : h.length * 28 ≤ 3 * 28 := Nat.mul_le_mul_right _ h2
    omega
  · obtain ⟨p, hp, hz⟩ := List.mem_flatMap.mp hz
    exact (lineLen (kdS_of ok hb hp)).2 z hz
theorem p_house_text : ∀ ds Q, T_house_text ds Q → t_house_text { nx := fun _ _ => Q .none, rt := fun d _ => Q d } (startD N_house_text.length ds) 0 := by
  rintro ds Q ⟨h, rfl, ok, hb, hq⟩
  have l2 := ok.hi
  refine ⟨"\n", rfl, noOwn_by rfl, _, rfl, h, rfl, ok, hb, _, rfl, ?_⟩
  refine lc2_map itemD (fun p => kindLines p.1 p.2) h [] 0 _ (fun p hp => ?_) ?_ ?_
  · have S := kdS_of ok hb hp
    refine ⟨_, rfl, noOwn_by rfl, fun b Q q => ⟨_, rfl, _, rfl, p.1, p.2, rfl, S, _, rfl, q⟩, fun b acc Q q => ?_, Nat.le_trans (lineLen S).1 (by decide)⟩
    exact lc_map PyData.str PyData.str (kindLines p.1 p.2) (fun z _ => ⟨_, rfl, fun b Q q => ⟨_, rfl, q⟩⟩) acc b Q q
  · have : h.length * 1000 ≤ 3 * 1000 := Nat.mul_le_mul_right _ l2
    simp; omega
  · obtain ⟨s1, s2⟩ := houseLines_S ok hb
    rw [List.nil_append]
    refine ⟨by rw [line_eq, List.length_map]; show (houseLines h).length ≤ _; omega, houseLines h, rfl, ?_, hq⟩
    have h2 := sum_le s2
    have h3 : ("\n" : Str).length = 1 := rfl
    rw [h3]
    have : (houseLines h).length * 100 ≤ 84 * 100 := Nat.mul_le_mul_right _ s1
    omega
end Wk
namespace Wk
open L2 RZ PyProof.Rows PySem.Spec PySem
theorem fig_iff (c : Nat) : c ∈ FIGURES.cps.toList ↔ 48 ≤ c ∧ c ≤ 57 := by
  have e : FIGURES.cps.toList = [48, 49, 50, 51, 52, 53, 54, 55, 56, 57] := by decide +kernel
  rw [e]
  simp
  omega
theorem int1 {c : Nat} (h1 : 48 ≤ c) (h2 : c ≤ 57) : PySem.intText? ⟨#[c]⟩ = some ((c : Int) - 48) := by
  have h : ∀ k : Fin 10, PySem.intText? ⟨#[48 + k.val]⟩ = some (k.val : Int) := by decide +kernel
  have := h ⟨c - 48, by omega⟩
  rw [show 48 + (c - 48) = c by omega] at this
  rw [this]
  congr 1
  show ((c - 48 : Nat) : Int) = _
  omega
theorem int2 {c d : Nat} (h1 : 48 ≤ c) (h2 : c ≤ 57) (h3 : 48 ≤ d) (h4 : d ≤ 57) : PySem.intText? ⟨#[c, d]⟩ = some (((c : Int) - 48) * 10 + ((d : Int) - 48)) := by
  have h : ∀ k l : Fin 10, PySem.intText? ⟨#[48 + k.val, 48 + l.val]⟩ = some ((k.val : Int) * 10 + (l.val : Int)) := by decide +kernel
  have := h ⟨c - 48, by omega⟩ ⟨d - 48, by omega⟩
  simp only at this
  rw [show 48 + (c - 48) = c by omega, show 48 + (d - 48) = d by omega] at this
  rw [this]
  congr 1
  omega
theorem p_number_in : ∀ ds Q, T_number_in ds Q → t_number_in { nx := fun _ _ => Q .none, rt := fun d _ => Q d } (startD N_number_in.length ds) 0 := by
  rintro ds Q ⟨w, rfl, hw, h⟩
  have hw' : w.length ≤ 16777216 := by omega
  have hlen : w.length = w.cps.toList.length := by simp [Str.length]
  have comp : ∀ (Q' : List PyData → Nat → Prop) (b : Nat), Q' (w.cps.toList.map fun c => .bool (decide (c ∈ FIGURES.cps.toList))) b → lcGo (.nm 1) dYes (d2 inD (dVar 1) (dC (.str FIGURES))) [Sl.dat (.str w), Sl.no] (charsD w) [] b Q' := fun Q' b q =>
    lc_map (fun c => .str ⟨#[c]⟩) (fun c => .bool (decide (c ∈ FIGURES.cps.toList))) w.cps.toList (fun c _ => ⟨_, rfl, fun b Q q => ⟨_, rfl, _, inD_sign c FIGURES, q⟩⟩) [] b Q' (by simpa using q)
  have no : ∀ (hn : ¬ (1 ≤ w.length ∧ w.length ≤ 2)), Q .none → t_number_in { nx := fun _ _ => Q .none, rt := fun d _ => Q d } (startD N_number_in.length [.str w]) 0 := fun hn q => by
    by_cases c : 1 ≤ w.length
    · exact ⟨_, rfl, _, lenD_str w hw', true, by simp [leD_ii]; omega, .bool false, by simp; omega, false, rfl, q⟩
    · exact ⟨_, rfl, _, lenD_str w hw', false, by simp [leD_ii]; omega, false, rfl, q⟩
  unfold numIn at h
  rcases hl : w.cps.toList with _ | ⟨c, _ | ⟨d, _ | ⟨e, r⟩⟩⟩
  · rw [hl] at h hlen
    exact no (by rw [hlen]; simp) h
  · rw [hl] at h hlen comp
    have ew : w = ⟨#[c]⟩ := TL.ext_tl (by show w.cps.toList = _; rw [hl])
    refine ⟨_, rfl, _, lenD_str w hw', true, by simp [leD_ii, hlen], .bool true, by simp [hlen], true, rfl, ?_⟩
    refine ⟨noOwn_by rfl, _, rfl, w, rfl, by rw [len_chars, line_eq]; exact hw', comp _ _ ?_⟩
    refine ⟨[decide (c ∈ FIGURES.cps.toList)], rfl, _, rfl, ?_⟩
    by_cases hc : 48 ≤ c ∧ c ≤ 57
    · have hd : decide (c ∈ FIGURES.cps.toList) = true := decide_eq_true ((fig_iff c).mpr hc)
      have h' : Q (optI (some ((c : Int) - 48))) := by
        have h2 : Q (optI (if 48 ≤ c ∧ c ≤ 57 then some ((c : Int) - 48) else none)) := h
        rwa [if_pos hc] at h2
      rw [hd]
      refine ⟨_, rfl, _, lenD_str w hw', .bool false, by simp [hlen], false, rfl, _, rfl, .int ((c : Int) - 48), ?_, h'⟩
      show (if w.length ≤ 640 then (PySem.intText? w).map PyData.int else none) = _
      rw [if_pos (by rw [hlen]; simp), ew, int1 hc.1 hc.2]; rfl
    · have hd : decide (c ∈ FIGURES.cps.toList) = false := decide_eq_false fun z => hc ((fig_iff c).mp z)
      have h' : Q .none := by
        have h2 : Q (optI (if 48 ≤ c ∧ c ≤ 57 then some ((c : Int) - 48) else none)) := h
        rwa [if_neg hc] at h2
      rw [hd]
      exact h'
  · rw [hl] at h hlen comp
    have ew : w = ⟨#[c, d]⟩ := TL.ext_tl (by show w.cps.toList = _; rw [hl])
    refine ⟨_, rfl, _, lenD_str w hw', true, by simp [leD_ii, hlen], .bool true, by simp [hlen], true, rfl, ?_⟩
    refine ⟨noOwn_by rfl, _, rfl, w, rfl, by rw [len_chars, line_eq]; exact hw', comp _ _ ?_⟩
    refine ⟨[decide (c ∈ FIGURES.cps.toList), decide (d ∈ FIGURES.cps.toList)], rfl, _, rfl, ?_⟩
    have h2 : Q (optI (if (48 ≤ c ∧ c ≤ 57) ∧ (48 ≤ d ∧ d ≤ 57) ∧ c ≠ 48 then some (((c : Int) - 48) * 10 + ((d : Int) - 48)) else none)) := h
    by_cases hc : (48 ≤ c ∧ c ≤ 57) ∧ 48 ≤ d ∧ d ≤ 57
    · have hd : ([decide (c ∈ FIGURES.cps.toList), decide (d ∈ FIGURES.cps.toList)].all fun k => k) = true := by simp [(fig_iff c).mpr hc.1, (fig_iff d).mpr hc.2]
      rw [hd]
      have hix : idxD (.str w) (.int 0) = some (.str ⟨#[c]⟩) := by
        show (if w.length ≤ sizeLine then (atI w.cps.toList 0).map (fun c => PyData.str ⟨#[c]⟩) else none) = _
        rw [if_pos (by rw [line_eq]; exact hw'), hl]; rfl
      have he : ((⟨#[c]⟩ : Str) == "0") = decide (c = 48) := by
        by_cases e : c = 48
        · subst e; decide
        · rw [decide_eq_false e]
          refine beq_eq_false_iff_ne.mpr fun z => e ?_
          have := congrArg TL.tl z
          have e0 : TL.tl ("0" : Str) = [48] := by decide +kernel
          rw [e0] at this
          simpa [TL.tl] using this
      refine ⟨_, rfl, _, lenD_str w hw', .bool true, by simp [hlen], true, rfl, ?_⟩
      refine ⟨_, rfl, _, hix, _, eqD_ss _ _, _, rfl, ?_⟩
      rw [he]
      by_cases e : c = 48
      · rw [decide_eq_true e]
        rw [if_neg (fun z => z.2.2 e)] at h2
        exact h2
      · rw [decide_eq_false e]
        rw [if_pos ⟨hc.1, hc.2, e⟩] at h2
        refine ⟨_, rfl, .int (((c : Int) - 48) * 10 + ((d : Int) - 48)), ?_, h2⟩
        show (if w.length ≤ 640 then (PySem.intText? w).map PyData.int else none) = _
        rw [if_pos (by rw [hlen]; simp), ew, int2 hc.1.1 hc.1.2 hc.2.1 hc.2.2]; rfl
    · have hd : ([decide (c ∈ FIGURES.cps.toList), decide (d ∈ FIGURES.cps.toList)].all fun k => k) = false := by
        by_cases h3 : c ∈ FIGURES.cps.toList
        · have h4 : ¬ d ∈ FIGURES.cps.toList := fun z => hc ⟨(fig_iff c).mp h3, (fig_iff d).mp z⟩
          rw [decide_eq_false h4, decide_eq_true h3]; rfl
        · rw [decide_eq_false h3]; rfl
      rw [hd]
      rw [if_neg (fun z => hc ⟨z.1, z.2.1⟩)] at h2
      exact h2
  · rw [hl] at h hlen
    exact no (by rw [hlen]; simp) h
theorem wsOk.mem {ws : List Str} (h : wsOk ws) {w : Str} (hw : w ∈ ws) : w.length ≤ 100000 := h.2 w hw
theorem p_edge_in : ∀ ds Q, T_edge_in ds Q → t_edge_in { nx := fun _ _ => Q .none, rt := fun d _ => Q d } (startD N_edge_in.length ds) 0 := by
  rintro ds Q ⟨ws, rfl, hw, h⟩
  rcases ws with _ | ⟨w0, _ | ⟨w1, _ | ⟨w2, r⟩⟩⟩
  · exact ⟨_, rfl, _, rfl, _, rfl, true, rfl, h⟩
  · exact ⟨_, rfl, _, rfl, _, rfl, true, rfl, h⟩
  · exact ⟨_, rfl, _, rfl, _, rfl, true, rfl, h⟩
  have l0 := hw.mem (w := w0) (by simp)
  have l2 := hw.mem (w := w2) (by simp)
  have hr : big r := by
    have h1 : (w0 :: w1 :: w2 :: r).length ≤ 100000 := hw.1
    simp at h1
    show r.length ≤ 100000
    omega
  simp only [edgeIn] at h
  refine ⟨_, rfl, _, rfl, _, ltD_ii _ _, false, by simp; omega, ?_⟩
  refine ⟨_, rfl, _, atI_1 _, _, ?_, !(inS w1 DEEDS), rfl, ?_⟩
  · show ninD (.str w1) (.tuple (DEEDS.map PyData.str)) = _
    unfold ninD
    rw [inD_tup0]
  cases c1 : inS w1 DEEDS with
  | false =>
    rw [if_neg (by simp [c1])] at h
    exact h
  | true =>
    refine ⟨_, rfl, _, rfl, _, rfl, _, rfl, r, ?_, hr, ?_⟩
    · show _ = [PyData.tuple (r.map PyData.str)]
      rw [cut_3]; simp
    refine ⟨_, rfl, ?_⟩
    cases c2 : asksB r with
    | false =>
      rw [if_neg (by simp [c2])] at h
      exact h
    | true =>
      rw [if_pos ⟨c1, c2⟩] at h
      refine ⟨_, rfl, _, atI_0 _, w0, rfl, l0, _, rfl, _, atI_2 _, w2, rfl, l2, ?_⟩
      cases a0 : numIn w0 with
      | none =>
        rw [a0] at h
        exact ⟨_, rfl, _, rfl, true, rfl, h⟩
      | some a =>
        rw [a0] at h
        cases a2 : numIn w2 with
        | none =>
          rw [a2] at h
          exact ⟨_, rfl, _, rfl, false, rfl, _, rfl, _, rfl, true, rfl, h⟩
        | some z =>
          rw [a2] at h
          refine ⟨_, rfl, _, rfl, false, rfl, _, rfl, _, rfl, false, rfl, ?_⟩
          refine ⟨_, rfl, _, rfl, _, rfl, _, rfl, _, rfl, _, rfl, _, atI_1 _, _, rfl, (by rw [line_eq]; show 4 ≤ 16777216; decide), ?_⟩
          have : cutP (PyData.str w0 :: PyData.str w1 :: PyData.str w2 :: r.map PyData.str) (some 3) none = r.map PyData.str := by rw [cut_3]; simp
          rw [List.map_cons, List.map_cons, List.map_cons, this]
          exact h
theorem map_numIn (ws : List Str) : ws.mapM numIn = none ↔ ∃ w ∈ ws, numIn w = none := by
  induction ws with
  | nil => simp
  | cons w ws ih =>
    rw [List.mapM_cons]
    cases h : numIn w with
    | none => simp [h]
    | some a =>
      cases h2 : ws.mapM numIn with
      | none =>
        obtain ⟨y, hy, e⟩ := ih.mp h2
        simp only [Option.bind_eq_bind, Option.bind_some, Option.bind_none, true_iff]
        exact ⟨y, by simp [hy], e⟩
      | some l =>
        have h3 : ¬ ∃ w ∈ ws, numIn w = none := fun z => by rw [ih.mpr z] at h2; cases h2
        simp [h]
        intro y hy e
        exact h3 ⟨y, hy, e⟩
theorem map_numIn_some : ∀ {ws : List Str} {is : List Int}, ws.mapM numIn = some is → ws.map (fun w => optI (numIn w)) = is.map PyData.int
  | [], is, h => by simp at h; subst h; rfl
  | w :: ws, is, h => by
    rw [List.mapM_cons] at h
    cases a : numIn w with
    | none => rw [a] at h; simp at h
    | some i =>
      rw [a] at h
      cases c : ws.mapM numIn with
      | none => rw [c] at h; simp at h
      | some l =>
        rw [c] at h
        simp at h
        subst h
        rw [List.map_cons, map_numIn_some c, a]; rfl
end Wk
namespace Wk
open L2 RZ PyProof.Rows PySem.Spec PySem
theorem lay_opts : ∀ os : List (Option Int), PyData.canLayAll0 (os.map optI) = true
  | [] => rfl
  | o :: os => by cases o <;> simp [PyData.canLayAll0, PyData.canLay0, optI, lay_opts os]
theorem flat_opts : ∀ os : List (Option Int), (os.map optI).all flatD = true
  | [] => rfl
  | o :: os => by
    rw [List.map_cons, List.all_cons, flat_opts os]
    cases o <;> rfl
theorem inD_none (os : List (Option Int)) : inD .none (.tuple (os.map optI)) = some (.bool (os.any fun o => o.isNone)) := by
  show (if flatD .none = true ∧ (os.map optI).all flatD = true then some (PyData.bool ((os.map optI).any fun y => PyData.eqv y .none)) else none) = _
  rw [if_pos ⟨rfl, flat_opts os⟩, List.any_map]
  have e : ((fun y => PyData.eqv y .none) ∘ optI) = fun o => o.isNone := by
    funext o
    cases o <;> rfl
  rw [e]
theorem p_numbers_in : ∀ ds Q, T_numbers_in ds Q → t_numbers_in { nx := fun _ _ => Q .none, rt := fun d _ => Q d } (startD N_numbers_in.length ds) 0 := by
  rintro ds Q ⟨ws, rfl, hw, h⟩
  have hb : ws.length ≤ 16777216 := Nat.le_trans hw.1 (by decide)
  refine ⟨noOwn_by rfl, _, rfl, _, rfl, by rw [line_eq, List.length_map]; exact hb, ?_⟩
  refine lc_map PyData.str (fun w => optI (numIn w)) ws (fun w hm => ⟨_, rfl, fun b Q q => ⟨_, rfl, w, rfl, hw.mem hm, q⟩⟩) [] 0 _ ?_
  rw [List.nil_append]
  have em : (ws.map fun w => optI (numIn w)) = (ws.map numIn).map optI := by simp
  rw [em]
  refine ⟨_, rfl, (by rw [line_eq]; exact Nat.zero_le _), _, eq_tup (lay_opts _), _, rfl, ?_⟩
  unfold numbersIn at h
  cases ws with
  | nil => exact h
  | cons w ws =>
    rw [if_neg (by simp)] at h
    show (if false = true then _ else _)
    rw [if_neg Bool.false_ne_true]; refine ⟨_, rfl, _, inD_none _, _, rfl, ?_⟩
    cases c : (w :: ws).mapM numIn with
    | none =>
      rw [c] at h
      obtain ⟨y, hy, e⟩ := (map_numIn _).mp c
      have : (((w :: ws).map numIn).any fun o => o.isNone) = true := List.any_eq_true.mpr ⟨numIn y, List.mem_map.mpr ⟨y, hy, rfl⟩, by rw [e]; rfl⟩
      rw [this]
      exact h
    | some is =>
      rw [c] at h
      have : (((w :: ws).map numIn).any fun o => o.isNone) = false := by
        rw [List.any_eq_false]
        intro o ho hn
        obtain ⟨y, hy, rfl⟩ := List.mem_map.mp ho
        have : numIn y = none := by simpa using hn
        rw [(map_numIn _).mpr ⟨y, hy, this⟩] at c; cases c
      rw [this]
      have e2 := map_numIn_some c
      rw [em] at e2
      rw [e2]
      have hl : is.length = (w :: ws).length := by simpa using (congrArg List.length e2).symm
      refine ⟨_, rfl, _, .inr rfl, .inl ⟨is, rfl, ?_, ?_⟩⟩
      · show is.length ≤ 100000
        rw [hl]; exact hw.1
      · refine ⟨ascI is, rfl, ?_⟩
        show (if (!ascI is) = true then _ else _)
        cases c2 : ascI is with
        | false =>
          simp only [c2] at h
          exact h
        | true =>
          simp only [c2] at h
          exact ⟨_, rfl, h⟩
theorem p_names_in : ∀ ds Q, T_names_in ds Q → t_names_in { nx := fun _ _ => Q .none, rt := fun d _ => Q d } (startD N_names_in.length ds) 0 := by
  rintro ds Q ⟨ws, rfl, hw, hlay, h⟩
  have hb : ws.length ≤ 16777216 := Nat.le_trans hw.1 (by decide)
  refine ⟨_, rfl, by rw [line_eq]; decide, _, eq_lst hlay, _, rfl, ?_⟩
  unfold namesIn at h
  cases ws with
  | nil => exact h
  | cons w ws =>
    show (if false = true then _ else _)
    rw [if_neg Bool.false_ne_true]; refine ⟨noOwn_by rfl, _, rfl, _, rfl, by rw [line_eq, List.length_map]; exact hb, ?_⟩
    refine lc_map PyData.str (fun w => .bool (isWord w)) (w :: ws) (fun w hm => ⟨_, rfl, fun b Q q => ⟨_, rfl, w, rfl, hw.mem hm, q⟩⟩) [] 0 _ ?_
    refine ⟨(w :: ws).map isWord, by simp, _, rfl, ?_⟩
    have e : (((w :: ws).map isWord).all fun k => k) = (w :: ws).all isWord := by simp [List.all_map, Function.comp_def]
    rw [e]
    cases c : (w :: ws).all isWord with
    | false =>
      rw [if_neg (by simp [c])] at h
      exact h
    | true =>
      show (if false = true then _ else _)
      rw [if_neg Bool.false_ne_true]; refine ⟨_, rfl, _, .inl rfl, .inr ⟨w :: ws, rfl, hw.1, _, rfl, ?_⟩⟩
      cases c2 : ascS (w :: ws) with
      | false =>
        rw [if_neg (by simp [c2])] at h
        exact h
      | true =>
        rw [if_pos ⟨by simp, c, c2⟩] at h
        exact ⟨_, rfl, _, rfl, h⟩
theorem p_kind_in : ∀ ds Q, T_kind_in ds Q → t_kind_in { nx := fun _ _ => Q .none, rt := fun d _ => Q d } (startD N_kind_in.length ds) 0 := by
  rintro ds Q ⟨ws, rfl, hw, h⟩
  by_cases h3 : ws.length = 3
  · rcases ws with _ | ⟨w0, _ | ⟨w1, _ | ⟨w2, _ | ⟨w3, r⟩⟩⟩⟩
    · simp at h3
    · simp at h3
    · simp at h3
    · simp only [kindIn] at h
      have l1 := hw.mem (w := w1) (by simp)
      have l2 := hw.mem (w := w2) (by simp)
      refine ⟨_, rfl, _, rfl, _, neD_ii _ _, false, by rfl, ?_⟩
      refine ⟨_, rfl, _, atI_0 _, _, neD_ss _ _, _, rfl, ?_⟩
      by_cases c0 : w0 = "kind"
      · have e0 : (w0 == ("kind" : Str)) = true := by rw [c0]; decide
        rw [e0]
        refine ⟨_, rfl, _, atI_1 _, w1, rfl, l1, _, rfl, ?_⟩
        cases c1 : isWord w1 with
        | false =>
          rw [if_neg (by simp [c1])] at h
          exact h
        | true =>
          rw [if_pos ⟨c0, c1⟩] at h
          refine ⟨_, rfl, _, atI_2 _, w2, rfl, l2, ?_⟩
          cases c2 : numIn w2 with
          | none =>
            rw [c2] at h
            exact ⟨_, rfl, true, rfl, h⟩
          | some n =>
            rw [c2] at h
            refine ⟨_, rfl, false, rfl, ?_⟩
            refine ⟨_, rfl, _, atI_1 _, _, rfl, _, atI_2 _, w2, rfl, l2, ?_⟩
            rw [c2]
            exact ⟨(by rw [line_eq]; show 2 ≤ 16777216; decide), h⟩
      · have e0 : (w0 == ("kind" : Str)) = false := beq_eq_false_iff_ne.mpr c0
        rw [e0]
        rw [if_neg (fun z => c0 z.1)] at h
        exact h
    · simp at h3
  · have hn : kindIn ws = none := by
      rcases ws with _ | ⟨w0, _ | ⟨w1, _ | ⟨w2, _ | ⟨w3, r⟩⟩⟩⟩ <;> first | rfl | (simp at h3)
    rw [hn] at h
    refine ⟨_, rfl, _, rfl, _, neD_ii _ _, true, ?_, h⟩
    have e : (((ws.map PyData.str).length : Int) == 3) = false := by
      rw [List.length_map]
      exact beq_eq_false_iff_ne.mpr fun z => h3 (by omega)
    rw [e]; rfl
theorem p_line_in : ∀ ds Q, T_line_in ds Q → t_line_in { nx := fun _ _ => Q .none, rt := fun d _ => Q d } (startD N_line_in.length ds) 0 := by
  rintro ds Q ⟨ws, rfl, hne, hw, hlay, h⟩
  refine ⟨_, rfl, ws, rfl, hw, ?_⟩
  cases ce : edgeIn ws with
  | some e =>
    have hl : lineIn ws = some (.edge e) := by unfold lineIn; rw [ce]
    rw [hl] at h
    exact ⟨_, rfl, _, rfl, false, rfl, _, rfl, _, rfl, false, rfl, _, rfl, _, rfl, false, rfl, _, rfl, _, rfl, (by rw [line_eq]; show 2 ≤ 16777216; decide), h⟩
  | none =>
    cases ws with
    | nil => exact absurd rfl hne
    | cons w r =>
      have hr : wsOk r := ⟨by have := hw.1; unfold big at this ⊢; simp at this; omega, fun y hy => hw.2 y (by simp [hy])⟩
      have hrl : strsOk r := by
        unfold strsOk at hlay ⊢
        simp only [List.map_cons, PyData.canLayAll0, Bool.and_eq_true] at hlay
        exact hlay.2
      have hl : lineIn (w :: r) = if w = "up" then (numbersIn r).map .up else if w = "deaf" then (numbersIn r).map .deaf else if w = "below" then (namesIn r).map .below else none := by unfold lineIn; rw [ce]
      rw [hl] at h
      refine ⟨_, rfl, _, rfl, true, rfl, ?_⟩
      have cutr : cutP (PyData.str w :: r.map PyData.str) (some 1) none = r.map PyData.str := by rw [cut_1]; rfl
      refine ⟨_, rfl, _, atI_0 _, (by rw [line_eq]; show 2 ≤ 16777216; decide), _, inD_tup0 w ["up", "deaf"], _, rfl, ?_⟩
      have two : (2 : Nat) ≤ sizeLine := by rw [line_eq]; decide
      have sl : ∃ z, sliceD (some 1) none (.list ((w :: r).map PyData.str)) = some z ∧ z = .list (r.map PyData.str) := ⟨_, rfl, by rw [List.map_cons, cutr]⟩
      obtain ⟨zz, hz1, hz2⟩ := sl
      subst hz2
      by_cases hu : w = "up" ∨ w = "deaf"
      · have hin : inS w ["up", "deaf"] = true := inS_mem.mpr (by rcases hu with rfl | rfl <;> simp)
        rw [hin]
        refine ⟨_, rfl, _, atI_0 _, _, rfl, _, rfl, _, hz1, r, rfl, hr, ?_⟩
        cases cn : numbersIn r with
        | none =>
          have hno : Q (lineD none) := by
            rcases hu with rfl | rfl
            · rw [if_pos rfl, cn] at h; exact h
            · rw [if_neg (by decide), if_pos rfl, cn] at h; exact h
          refine ⟨_, rfl, _, rfl, true, rfl, _, rfl, _, atI_0 _, _, eqD_ss _ _, _, rfl, ?_⟩
          have hb : (w == ("below" : Str)) = false := beq_eq_false_iff_ne.mpr (by rcases hu with rfl | rfl <;> decide)
          rw [hb]
          exact ⟨_, rfl, _, rfl, true, rfl, two, hno⟩
        | some is =>
          have hno : Q (.tuple [.str w, intsD is]) := by
            rcases hu with rfl | rfl
            · rw [if_pos rfl, cn] at h; exact h
            · rw [if_neg (by decide), if_pos rfl, cn] at h; exact h
          exact ⟨_, rfl, _, rfl, false, rfl, _, rfl, _, rfl, false, rfl, _, rfl, _, rfl, two, hno⟩
      · have hin : inS w ["up", "deaf"] = false := by
          cases c : inS w ["up", "deaf"] with
          | false => rfl
          | true => exact absurd (by simpa using inS_mem.mp c) hu
        rw [hin]
        rw [if_neg (fun e => hu (.inl e)), if_neg (fun e => hu (.inr e))] at h
        refine ⟨_, rfl, _, rfl, true, rfl, _, rfl, _, atI_0 _, _, eqD_ss _ _, _, rfl, ?_⟩
        by_cases hb : w = "below"
        · have hb2 : (w == ("below" : Str)) = true := by rw [hb]; decide
          rw [hb2]
          rw [if_pos hb] at h
          refine ⟨_, rfl, _, rfl, _, hz1, r, rfl, hr, hrl, ?_⟩
          cases cn : namesIn r with
          | none =>
            rw [cn] at h
            exact ⟨_, rfl, _, rfl, true, rfl, two, h⟩
          | some zs =>
            rw [cn] at h
            exact ⟨_, rfl, _, rfl, false, rfl, _, rfl, _, rfl, two, h⟩
        · have hb2 : (w == ("below" : Str)) = false := beq_eq_false_iff_ne.mpr hb
          rw [hb2]
          rw [if_neg hb] at h
          exact ⟨_, rfl, _, rfl, true, rfl, two, h⟩
end Wk
namespace Wk
open L2 RZ PyProof.Rows PySem.Spec PySem
theorem ord_at (l : Ln) : ORDER[ordIx l]? = some l.sort ∧ ∀ m, m < ordIx l → ORDER[m]? ≠ some l.sort := by
  have key : ∀ (i : Nat) (z : Str), i < 4 → ORDER[i]? = some z → ∀ m, m < i → ORDER[m]? ≠ some z := by
    have h : ∀ i : Fin 4, ∀ m : Fin 4, m.val < i.val → ORDER[m.val]? ≠ ORDER[i.val]? := by decide +kernel
    intro i z hi hz m hm
    rw [← hz]
    exact h ⟨i, hi⟩ ⟨m, by omega⟩ hm
  cases l with
  | up _ => exact ⟨rfl, key 0 _ (by decide) rfl⟩
  | deaf _ => exact ⟨rfl, key 1 _ (by decide) rfl⟩
  | edge _ => exact ⟨rfl, key 2 _ (by decide) rfl⟩
  | below _ => exact ⟨rfl, key 3 _ (by decide) rfl⟩
theorem p_goes_on : ∀ ds Q, T_goes_on ds Q → t_goes_on { nx := fun _ _ => Q .none, rt := fun d _ => Q d } (startD N_goes_on.length ds) 0 := by
  rintro ds Q ⟨ls, l, rfl, lay, h⟩
  have hl : PyData.canLayAll0 (ls.map Ln.d) = true := lay.1
  refine ⟨_, rfl, (by rw [line_eq]; exact Nat.zero_le _), _, eq_lst hl, _, rfl, ?_⟩
  cases hg : ls.getLast? with
  | none =>
    have e : ls = [] := List.getLast?_eq_none_iff.mp hg
    subst e
    exact h
  | some a =>
    have ne : (ls.map Ln.d).isEmpty = false := by
      cases ls with
      | nil => simp at hg
      | cons x xs => rfl
    rw [ne]
    have hd : (ls.map Ln.d).getLast? = some a.d := by rw [List.getLast?_map, hg]; rfl
    unfold goesOn at h
    rw [hg] at h
    simp only at h
    refine ⟨_, rfl, _, (by rw [idxD_list, atI_m1]; exact hd), _, rfl, ?_⟩
    refine ⟨_, rfl, _, _, rfl, (ord_at a).1, (ord_at a).2, _, rfl, _, _, rfl, (ord_at l).1, (ord_at l).2, _, rfl, _, rfl, ?_⟩
    by_cases c : ordIx a < ordIx l
    · have c2 : decide (((ordIx a : Nat) : Int) < (ordIx l : Nat)) = true := decide_eq_true (by omega)
      rw [c2]
      rw [decide_eq_true c] at h
      exact h
    · have c2 : decide (((ordIx a : Nat) : Int) < (ordIx l : Nat)) = false := decide_eq_false (by omega)
      rw [c2]
      rw [decide_eq_false c] at h
      refine ⟨_, rfl, _, eqD_ss _ _, _, rfl, ?_⟩
      cases l with
      | edge f =>
        refine ⟨_, rfl, _, eqD_ss _ _, _, rfl, ?_⟩
        cases a with
        | edge e => exact ⟨_, rfl, _, rfl, _, ltD_ed e f, h⟩
        | up _ => exact h
        | deaf _ => exact h
        | below _ => exact h
      | up _ => cases a <;> exact h
      | deaf _ => cases a <;> exact h
      | below _ => cases a <;> exact h
theorem lay_vals : ∀ {ls : List Ln}, PyData.canLayAll0 (ls.map Ln.d) = true → ∀ l ∈ ls, l.v.canLay0 = true
  | [], _, l, hl => by cases hl
  | a :: ls, h, l, hl => by
    simp only [List.map_cons, PyData.canLayAll0, Bool.and_eq_true, Ln.d, PyData.canLay0] at h
    rcases List.mem_cons.mp hl with rfl | hl
    · exact h.1.2.1
    · exact lay_vals h.2 l hl
theorem lay_all {xs : List PyData} (h : ∀ x ∈ xs, x.canLay0 = true) : PyData.canLayAll0 xs = true := by
  induction xs with
  | nil => rfl
  | cons x xs ih =>
    simp only [PyData.canLayAll0, Bool.and_eq_true]
    exact ⟨h x (by simp), ih fun y hy => h y (by simp [hy])⟩
theorem p_item_of : ∀ ds Q, T_item_of ds Q → t_item_of { nx := fun _ _ => Q .none, rt := fun d _ => Q d } (startD N_item_of.length ds) 0 := by
  rintro ds Q ⟨ls, sort, rfl, hb, lay, h⟩
  have hl : PyData.canLayAll0 (ls.map Ln.d) = true := lay.1
  have hb' : ls.length ≤ 16777216 := Nat.le_trans hb (by decide)
  refine ⟨noOwn_by rfl, _, rfl, _, rfl, by rw [line_eq, List.length_map]; exact hb', ?_⟩
  refine lc_filter Ln.d Ln.v (fun l => l.sort == sort) ls (fun l hm => ⟨_, rfl, fun b Q q => ⟨_, rfl, _, rfl, _, eqD_ss _ _, _, rfl, q⟩, fun _ b Q q => ⟨_, rfl, q⟩⟩) [] 0 _ ?_
  rw [List.nil_append]
  refine ⟨_, rfl, (by rw [line_eq]; exact Nat.zero_le _), _, ne_lst (lay_all fun x hx => ?_), _, rfl, ?_⟩
  · obtain ⟨l, hm, rfl⟩ := List.mem_map.mp hx
    exact lay_vals hl l (List.mem_filter.mp hm).1
  unfold itemOf at h
  cases c : ls.find? (fun x => x.sort == sort) with
  | none =>
    rw [c] at h
    have e : ls.filter (fun l => l.sort == sort) = [] := List.filter_eq_nil_iff.mpr fun l hm => by
      have := List.find?_eq_none.mp c l hm
      exact this
    rw [e]
    exact ⟨(by rw [line_eq]; exact Nat.zero_le _), h⟩
  | some l =>
    rw [c] at h
    have e : (ls.filter (fun l => l.sort == sort)).head? = some l := by rw [List.head?_filter]; exact c
    cases f : ls.filter (fun l => l.sort == sort) with
    | nil => rw [f] at e; simp at e
    | cons x xs =>
      rw [f] at e
      simp at e
      subst e
      exact ⟨_, rfl, 0, x.v, rfl, (by rw [atI_0]; rfl), h⟩
theorem item_up : ∀ ls : List Ln, itemOf ls "up" = intsD (upOf ls)
  | [] => rfl
  | l :: ls => by
    have ih := item_up ls
    unfold itemOf at ih ⊢
    cases l with
    | up is => rfl
    | deaf is => rw [List.find?_cons_of_neg (by show ¬ ((("deaf" : Str) == "up") = true); decide)]; exact ih
    | edge is => rw [List.find?_cons_of_neg (by show ¬ ((("edges" : Str) == "up") = true); decide)]; exact ih
    | below is => rw [List.find?_cons_of_neg (by show ¬ ((("below" : Str) == "up") = true); decide)]; exact ih
theorem item_deaf : ∀ ls : List Ln, itemOf ls "deaf" = intsD (deafOf ls)
  | [] => rfl
  | l :: ls => by
    have ih := item_deaf ls
    unfold itemOf at ih ⊢
    cases l with
    | up is => rw [List.find?_cons_of_neg (by show ¬ ((("up" : Str) == "deaf") = true); decide)]; exact ih
    | deaf is => rfl
    | edge is => rw [List.find?_cons_of_neg (by show ¬ ((("edges" : Str) == "deaf") = true); decide)]; exact ih
    | below is => rw [List.find?_cons_of_neg (by show ¬ ((("below" : Str) == "deaf") = true); decide)]; exact ih
theorem item_below : ∀ ls : List Ln, itemOf ls "below" = strsD (belowOf ls)
  | [] => rfl
  | l :: ls => by
    have ih := item_below ls
    unfold itemOf at ih ⊢
    cases l with
    | up is => rw [List.find?_cons_of_neg (by show ¬ ((("up" : Str) == "below") = true); decide)]; exact ih
    | deaf is => rw [List.find?_cons_of_neg (by show ¬ ((("deaf" : Str) == "below") = true); decide)]; exact ih
    | edge is => rw [List.find?_cons_of_neg (by show ¬ ((("edges" : Str) == "below") = true); decide)]; exact ih
    | below is => rfl
theorem edges_of : ∀ ls : List Ln, (ls.filter fun l : Ln => l.sort == ("edges" : Str)).map Ln.v = (edgesOf ls).map Ed.d
  | [] => rfl
  | l :: ls => by
    have ih := edges_of ls
    cases l with
    | up is => rw [List.filter_cons_of_neg (by show ¬ ((("up" : Str) == "edges") = true); decide)]; exact ih
    | deaf is => rw [List.filter_cons_of_neg (by show ¬ ((("deaf" : Str) == "edges") = true); decide)]; exact ih
    | below is => rw [List.filter_cons_of_neg (by show ¬ ((("below" : Str) == "edges") = true); decide)]; exact ih
    | edge e =>
      rw [List.filter_cons_of_pos (by show (("edges" : Str) == "edges") = true; decide), List.map_cons, ih]
      rfl
theorem p_kind_of : ∀ ds Q, T_kind_of ds Q → t_kind_of { nx := fun _ _ => Q .none, rt := fun d _ => Q d } (startD N_kind_of.length ds) 0 := by
  rintro ds Q ⟨st, ls, rfl, hb, lay, h⟩
  have hb' : ls.length ≤ 16777216 := Nat.le_trans hb (by decide)
  have two : (2 : Nat) ≤ sizeLine := by rw [line_eq]; decide
  have four : (4 : Nat) ≤ sizeLine := by rw [line_eq]; decide
  refine ⟨noOwn_by rfl, _, rfl, _, rfl, by rw [line_eq, List.length_map]; exact hb', ?_⟩
  refine lc_filter Ln.d Ln.v (fun l : Ln => l.sort == ("edges" : Str)) ls (fun l hm => ⟨_, rfl, fun b Q q => ⟨_, rfl, _, eqD_ss _ _, _, rfl, q⟩, fun _ b Q q => ⟨_, rfl, q⟩⟩) [] 0 _ ?_
  rw [List.nil_append, edges_of]
  refine ⟨_, rfl, _, rfl, ls, "up", rfl, hb, lay, _, rfl, ls, "deaf", rfl, hb, lay, _, rfl, four, _, rfl, ls, "below", rfl, hb, lay, two, ?_⟩
  rw [item_up, item_deaf, item_below]
  exact h
end Wk
namespace Wk
open L2 RZ PyProof.Rows PySem.Spec PySem
/-! ### words, lines -/
def okW (z : Str) : Prop := z.length ≤ 8 ∧ ∀ c ∈ TL.tl z, 33 ≤ c ∧ c < 127
def okWB (z : Str) : Bool := decide (z.length ≤ 8) && (TL.tl z).all fun c => decide (33 ≤ c) && decide (c < 127)
theorem okW_by {z : Str} (h : okWB z = true) : okW z := by
  unfold okWB at h
  simp only [Bool.and_eq_true, decide_eq_true_eq, List.all_eq_true] at h
  exact h
theorem okW_num {i : Int} (h : small i) : okW (num i) := by
  refine ⟨Nat.le_trans (num_len h) (by decide), fun c hc => ?_⟩
  rw [num_tl h] at hc
  by_cases h1 : 33 ≤ c ∧ c < 127
  · exact h1
  · exact absurd hc (TL.numL_free (by omega))
theorem okW_word {z : Str} (h : isWord z = true) : okW z := by
  unfold isWord at h
  simp only [Bool.and_eq_true, List.all_eq_true, decide_eq_true_eq] at h; refine ⟨h.1.2, fun c hc => ?_⟩
  have : ∀ c ∈ LETTERS.cps.toList, 33 ≤ c ∧ c < 127 := by decide +kernel
  exact this c (h.2 c hc)
theorem okW_deed {z : Str} (h : z ∈ DEEDS) : okW z := by
  have : ∀ z ∈ DEEDS, okWB z = true := by decide +kernel
  exact okW_by (this z h)
theorem okW_ask {z : Str} (h : z ∈ ASKS) : okW z := by
  have : ∀ z ∈ ASKS, okWB z = true := by decide +kernel
  exact okW_by (this z h)
theorem asks_mem {zs : List Str} (h : asksB zs = true) : ∀ z ∈ zs, z ∈ ASKS := fun z hz => by
  unfold asksB at h
  simp only [Bool.and_eq_true] at h; exact inS_mem.mp (List.all_eq_true.mp h.1 z hz)
theorem mem_joinL {S : List Nat} {c : Nat} : ∀ {parts : List (List Nat)}, c ∈ TL.joinL S parts → c ∈ S ∨ ∃ p ∈ parts, c ∈ p
  | [], h => by simp [TL.joinL] at h
  | [p], h => .inr ⟨p, by simp, by simpa [TL.joinL] using h⟩
  | p :: q :: r, h => by
    simp only [TL.joinL, List.mem_append] at h
    rcases h with h | h | h
    · exact .inr ⟨p, by simp, h⟩
    · exact .inl h
    · rcases mem_joinL (parts := q :: r) h with h | ⟨x, hx, h⟩
      · exact .inl h
      · exact .inr ⟨x, by simp at hx ⊢; exact .inr hx, h⟩
theorem tl_sp (ws : List Str) : TL.tl (sp ws) = TL.joinL [32] (ws.map TL.tl) := by
  unfold sp
  rw [TL.join_eq, TL.tl_join]
  rfl
theorem line_free {ws : List Str} (h : ∀ w ∈ ws, okW w) : 10 ∉ TL.tl (sp ws) := fun hm => by
  rw [tl_sp] at hm
  rcases mem_joinL hm with hm | ⟨p, hp, hm⟩
  · simp at hm
  · obtain ⟨w, hw, rfl⟩ := List.mem_map.mp hp
    have := (h w hw).2 10 hm
    omega
theorem split_sp {ws : List Str} (hne : ws ≠ []) (h : ∀ w ∈ ws, okW w) : Txt.split (sp ws) " " = ws :=
  TL.split_join (y := " ") (s := 32) (S := []) (by decide +kernel) (by decide +kernel) hne fun w hw hm => by
    have := (h w hw).2 32 hm
    omega
theorem split_nl {ls : List Str} (hne : ls ≠ []) (h : ∀ l ∈ ls, 10 ∉ TL.tl l) : Txt.split (Txt.join "\n" ls) "\n" = ls :=
  TL.split_join (y := "\n") (s := 10) (S := []) (by decide +kernel) (by decide +kernel) hne h
theorem okW_lay {ws : List Str} (h : ∀ w ∈ ws, okW w) : strsOk ws := lay_strs fun z hz => by
  show z.cps.all (· < 0x110000) = true
  rw [← Array.all_toList, List.all_eq_true]; intro c hc
  have := (h z hz).2 c hc
  simp
  omega
theorem okW_ws {ws : List Str} (h : ∀ w ∈ ws, okW w) (hl : ws.length ≤ 1000) : wsOk ws := ⟨Nat.le_trans hl (by decide), fun w hw => Nat.le_trans (h w hw).1 (by decide)⟩
theorem edge_small {e : Ed} {st : Int} (h : edgeB e st = true) (hs : st ≤ 6) : small e.a ∧ small e.z := by
  obtain ⟨_, _, h3, h4⟩ := edge_parts h
  exact ⟨⟨by omega, by omega⟩, ⟨by omega, by omega⟩⟩
theorem edgeWs_ok {e : Ed} {st : Int} (h : edgeB e st = true) (hs : st ≤ 6) : ∀ w ∈ edgeWs e, okW w := fun w hw => by
  obtain ⟨h1, h2, _, _⟩ := edge_parts h
  obtain ⟨s1, s2⟩ := edge_small h hs
  simp only [edgeWs, List.cons_append, List.nil_append, List.mem_cons] at hw
  rcases hw with rfl | rfl | rfl | hw
  · exact okW_num s1
  · exact okW_deed h2
  · exact okW_num s2
  · exact okW_ask (asks_mem h1 w hw)
theorem numIn_num {i : Int} (h : small i) : numIn (num i) = some i := by
  have key : ∀ k : Fin 100, numIn (num (k.val : Int)) = some (k.val : Int) := by decide +kernel
  obtain ⟨h0, h1⟩ := h
  have := key ⟨i.toNat, by omega⟩
  simp only at this
  rwa [show ((i.toNat : Nat) : Int) = i by omega] at this
theorem edgeIn_ws {e : Ed} {st : Int} (h : edgeB e st = true) (hs : st ≤ 6) : edgeIn (edgeWs e) = some e := by
  obtain ⟨h1, h2, _, _⟩ := edge_parts h
  obtain ⟨s1, s2⟩ := edge_small h hs
  show edgeIn (num e.a :: e.deed :: num e.z :: e.asks) = _
  simp only [edgeIn]
  rw [if_pos ⟨inS_mem.mpr h2, h1⟩, numIn_num s1, numIn_num s2]
/-! ### moves -/
theorem p_is_move : ∀ ds Q, T_is_move ds Q → t_is_move { nx := fun _ _ => Q .none, rt := fun d _ => Q d } (startD N_is_move.length ds) 0 := by
  rintro ds Q (⟨m, rfl, hb, h⟩ | ⟨d, hd, rfl, h⟩)
  · have three : ∀ (x : Str) (k : Int) (c : Bool), x = "come" ∨ x = "leave" ∨ x = "bell" → Q (.bool c) → c = wholeI k 0 11 → t_is_move { nx := fun _ _ => Q .none, rt := fun d _ => Q d } (startD N_is_move.length [.tuple [.str x, .int k]]) 0 := fun x k c hx hq hc => by
      refine ⟨_, rfl, _, rfl, true, rfl, _, rfl, _, rfl, _, ltD_ii _ _, false, rfl, _, rfl, _, rfl, _, rfl, true, rfl, ?_⟩
      refine ⟨_, rfl, _, atI_1 _, _, rfl, .int k, 0, 11, rfl, (fun x e => nomatch e), _, rfl, ?_⟩
      show (if (!(wholeI k 0 11)) = true then _ else _)
      rw [← hc]
      cases c with
      | false => exact hq
      | true =>
        refine ⟨_, rfl, _, atI_0 _, _, eqD_ss _ _, _, rfl, ?_⟩
        have hne : (x == ("edge" : Str)) = false := by rcases hx with rfl | rfl | rfl <;> decide
        rw [hne]
        refine ⟨_, rfl, _, 2, rfl, (fun x e => nomatch e), true, rfl, ?_⟩
        have hin : inS x MOVES3 = true := by rcases hx with rfl | rfl | rfl <;> decide
        refine ⟨_, rfl, _, atI_0 _, _, inD_tup0 x MOVES3, ?_⟩
        rw [hin]
        exact hq
    cases m with
    | come k => exact three _ k _ (.inl rfl) h rfl
    | leave k => exact three _ k _ (.inr (.inl rfl)) h rfl
    | bell k => exact three _ k _ (.inr (.inr rfl)) h rfl
    | edge k e =>
      refine ⟨_, rfl, _, rfl, true, rfl, _, rfl, _, rfl, _, ltD_ii _ _, false, rfl, _, rfl, _, rfl, _, rfl, true, rfl, ?_⟩
      refine ⟨_, rfl, _, atI_1 _, _, rfl, .int k, 0, 11, rfl, (fun x e => nomatch e), _, rfl, ?_⟩
      show (if (!(wholeI k 0 11)) = true then _ else _)
      have h' : Q (.bool (wholeI k 0 11 && edgeB e 6)) := h
      cases c : wholeI k 0 11 with
      | false =>
        rw [c] at h'
        exact h'
      | true =>
        rw [c] at h'
        refine ⟨_, rfl, _, atI_0 _, _, eqD_ss _ _, _, rfl, ?_⟩
        refine ⟨_, rfl, _, 3, rfl, (fun x e => nomatch e), true, rfl, ?_⟩
        exact ⟨_, rfl, _, atI_2 _, e, 6, rfl, hb k e rfl, h'⟩
  · simp only [oddMvs, List.mem_cons, List.not_mem_nil, or_false] at hd
    rcases hd with rfl | rfl | rfl | rfl | rfl | rfl | rfl
    · exact ⟨_, rfl, _, rfl, false, rfl, h⟩
    · exact ⟨_, rfl, _, rfl, true, rfl, _, rfl, _, rfl, _, ltD_ii _ _, false, rfl, _, rfl, _, rfl, _, rfl, true, rfl, _, rfl, _, atI_1 _, _, rfl, .int 12, 0, 11, rfl, (fun x e => nomatch e), false, rfl, h⟩
    · exact ⟨_, rfl, _, rfl, true, rfl, _, rfl, _, rfl, _, ltD_ii _ _, false, rfl, _, rfl, _, rfl, _, rfl, true, rfl, _, rfl, _, atI_1 _, _, rfl, .bool true, 0, 11, rfl, (fun x e => nomatch e), false, rfl, h⟩
    · refine ⟨_, rfl, _, rfl, true, rfl, _, rfl, _, rfl, _, ltD_ii _ _, false, rfl, _, rfl, _, rfl, _, rfl, true, rfl, _, rfl, _, atI_1 _, _, rfl, .int 0, 0, 11, rfl, (fun x e => nomatch e), true, rfl, ?_⟩
      refine ⟨_, rfl, _, atI_0 _, _, eqD_ss _ _, _, rfl, ?_⟩
      refine ⟨_, rfl, _, 3, rfl, (fun x e => nomatch e), true, rfl, ?_⟩
      have e : edgeB ⟨0, [], "go", 6⟩ 6 = false := by decide +kernel
      refine ⟨_, rfl, _, atI_2 _, ⟨0, [], "go", 6⟩, 6, rfl, Nat.zero_le _, ?_⟩
      rw [e]
      exact h
    · refine ⟨_, rfl, _, rfl, true, rfl, _, rfl, _, rfl, _, ltD_ii _ _, false, rfl, _, rfl, _, rfl, _, rfl, true, rfl, _, rfl, _, atI_1 _, _, rfl, .int 0, 0, 11, rfl, (fun x e => nomatch e), true, rfl, ?_⟩
      exact ⟨_, rfl, _, atI_0 _, _, eqD_ss _ _, _, rfl, _, rfl, _, 3, rfl, (fun x e => nomatch e), false, rfl, h⟩
    · refine ⟨_, rfl, _, rfl, true, rfl, _, rfl, _, rfl, _, ltD_ii _ _, false, rfl, _, rfl, _, rfl, _, rfl, true, rfl, _, rfl, _, atI_1 _, _, rfl, .int 0, 0, 11, rfl, (fun x e => nomatch e), true, rfl, ?_⟩
      exact ⟨_, rfl, _, atI_0 _, _, eqD_ss _ _, _, rfl, _, rfl, _, 2, rfl, (fun x e => nomatch e), false, rfl, h⟩
    · refine ⟨_, rfl, _, rfl, true, rfl, _, rfl, _, rfl, _, ltD_ii _ _, false, rfl, _, rfl, _, rfl, _, rfl, true, rfl, _, rfl, _, atI_1 _, _, rfl, .int 0, 0, 11, rfl, (fun x e => nomatch e), true, rfl, ?_⟩
      refine ⟨_, rfl, _, atI_0 _, _, eqD_ss _ _, _, rfl, _, rfl, _, 2, rfl, (fun x e => nomatch e), true, rfl, _, rfl, _, atI_0 _, _, inD_tup0 "ring" MOVES3, ?_⟩
      have e : inS "ring" MOVES3 = false := by decide +kernel
      rw [e]
      exact h
theorem mv_small {m : Mv} (h : MvS m) : (∀ w ∈ m.ws, okW w) ∧ m.ws.length ≤ 13 ∧ m.ws ≠ [] := by
  obtain ⟨h1, h2⟩ := h
  have k11 : ∀ k : Int, wholeI k 0 11 = true → small k := fun k hk => by
    have := whole_iff.mp hk
    exact ⟨by omega, by omega⟩
  have two : ∀ (x : Str) (k : Int), okWB x = true → wholeI k 0 11 = true → ∀ w ∈ [x, num k], okW w := fun x k hx hk w hw => by
    simp only [List.mem_cons, List.not_mem_nil, or_false] at hw
    rcases hw with rfl | rfl
    · exact okW_by hx
    · exact okW_num (k11 k hk)
  cases m with
  | come k => exact ⟨two "come" k (by decide +kernel) h1, by show 2 ≤ 13; decide, by simp [Mv.ws]⟩
  | leave k => exact ⟨two "leave" k (by decide +kernel) h1, by show 2 ≤ 13; decide, by simp [Mv.ws]⟩
  | bell k => exact ⟨two "bell" k (by decide +kernel) h1, by show 2 ≤ 13; decide, by simp [Mv.ws]⟩
  | edge k e =>
    have h1' : (wholeI k 0 11 && edgeB e 6) = true := h1
    simp only [Bool.and_eq_true] at h1'
    have hs := h2 k e rfl
    refine ⟨fun w hw => ?_, by simp [Mv.ws, edgeWs]; omega, by simp [Mv.ws]⟩
    simp only [Mv.ws, List.mem_cons] at hw
    rcases hw with rfl | rfl | hw
    · exact okW_by (by decide +kernel)
    · exact okW_num (k11 k h1'.1)
    · exact edgeWs_ok h1'.2 (by decide) w hw
theorem p_move_words : ∀ ds Q, T_move_words ds Q → t_move_words { nx := fun _ _ => Q .none, rt := fun d _ => Q d } (startD N_move_words.length ds) 0 := by
  rintro ds Q ⟨m, rfl, hok, hb, h⟩
  have k11 : ∀ k : Int, wholeI k 0 11 = true → small k := fun k hk => by
    have := whole_iff.mp hk
    exact ⟨by omega, by omega⟩
  have two : (2 : Nat) ≤ sizeLine := by rw [line_eq]; decide
  cases m with
  | come k =>
    refine ⟨_, rfl, _, atI_0 _, _, eqD_ss _ _, _, rfl, ?_⟩
    exact ⟨_, rfl, _, atI_0 _, _, rfl, _, atI_1 _, two, h [.str "come", .int k] (by simp [Mv.ws, strD_num (k11 k hok)]) rfl⟩
  | leave k =>
    refine ⟨_, rfl, _, atI_0 _, _, eqD_ss _ _, _, rfl, ?_⟩
    exact ⟨_, rfl, _, atI_0 _, _, rfl, _, atI_1 _, two, h [.str "leave", .int k] (by simp [Mv.ws, strD_num (k11 k hok)]) rfl⟩
  | bell k =>
    refine ⟨_, rfl, _, atI_0 _, _, eqD_ss _ _, _, rfl, ?_⟩
    exact ⟨_, rfl, _, atI_0 _, _, rfl, _, atI_1 _, two, h [.str "bell", .int k] (by simp [Mv.ws, strD_num (k11 k hok)]) rfl⟩
  | edge k e =>
    have h1' : (wholeI k 0 11 && edgeB e 6) = true := hok
    simp only [Bool.and_eq_true] at h1'
    have hs := hb k e rfl
    obtain ⟨s1, s2⟩ := edge_small h1'.2 (by decide)
    refine ⟨_, rfl, _, atI_0 _, _, eqD_ss _ _, _, rfl, ?_⟩
    refine ⟨_, rfl, _, atI_0 _, _, rfl, _, atI_1 _, _, rfl, _, atI_2 _, e, rfl, by omega, _, rfl, ?_, ?_⟩
    · rw [line_eq]; simp; omega
    · refine h _ ?_ ?_
      · simp [Mv.ws, edgeWs, strD_num (k11 k h1'.1), strD_num s1, strD_num s2, Function.comp_def]
      · simp [Mv.ws, edgeWs]
theorem sum_lines {zs : List Str} (h : ∀ z ∈ zs, z.length ≤ 200) (hl : zs.length ≤ 10000) : (zs.map (·.length)).sum + zs.length * ("\n" : Str).length ≤ 16777216 := by
  have h2 := sum_le h
  have h3 : ("\n" : Str).length = 1 := rfl
  rw [h3]
  have : zs.length * 200 ≤ 10000 * 200 := Nat.mul_le_mul_right _ hl
  omega
theorem p_weaving_text : ∀ ds Q, T_weaving_text ds Q → t_weaving_text { nx := fun _ _ => Q .none, rt := fun d _ => Q d } (startD N_weaving_text.length ds) 0 := by
  rintro ds Q ⟨ms, rfl, hl, hm, h⟩
  have hl' : ms.length ≤ 16777216 := by omega
  refine ⟨_, rfl, _, rfl, true, rfl, _, rfl, _, rfl, _, gtD_ii _ _, false, by simp; omega, ?_⟩
  refine ⟨noOwn_by rfl, _, rfl, _, rfl, by rw [line_eq, List.length_map]; exact hl', ?_⟩
  refine lc_map Mv.d (fun _ => .bool true) ms (fun m hmm => ⟨_, rfl, fun b Q q => ?_⟩) [] 0 _ ?_
  · have S := hm m hmm
    refine ⟨_, rfl, .inl ⟨m, rfl, fun k e he => Nat.le_trans (S.2 k e he).1 (by decide), ?_⟩⟩
    rw [S.1]
    exact q
  refine ⟨ms.map fun _ => true, by simp, _, rfl, ?_⟩
  have e : ((ms.map fun _ => true).all fun k => k) = true := by simp
  rw [e]
  refine ⟨"\n", rfl, noOwn_by rfl, _, rfl, _, rfl, by rw [line_eq, List.length_map]; exact hl', ?_⟩
  have lens : ∀ m ∈ ms, (sp m.ws).length ≤ 200 := fun m hmm => by
    obtain ⟨w1, w2, _⟩ := mv_small (hm m hmm)
    have := sp_len (zs := m.ws) (m := 8) fun z hz => (w1 z hz).1
    omega
  refine lc_map Mv.d (fun m => .str (sp m.ws)) ms (fun m hmm => ⟨_, rfl, fun b Q q => ?_⟩) [] 0 _ ?_
  · have S := hm m hmm
    obtain ⟨w1, w2, _⟩ := mv_small S
    exact ⟨_, rfl, m, rfl, S.1, fun k e he => Nat.le_trans (S.2 k e he).1 (by decide), fun ws h1 h2 => ⟨ws, m.ws, rfl, by omega, h1, fun z hz => Nat.le_trans (w1 z hz).1 (by decide), q⟩⟩
  · refine ⟨ms.map fun m : Mv => sp m.ws, by simp, sum_lines ?_ (by rw [List.length_map]; exact hl), h⟩
    intro z hz
    obtain ⟨m, hmm, rfl⟩ := List.mem_map.mp hz
    exact lens m hmm
end Wk
namespace Wk
open L2 RZ PyProof.Rows PySem.Spec PySem
theorem mv_asks {m : Mv} (S : MvS m) : ∀ k e, m = .edge k e → big e.asks := fun k e he => Nat.le_trans (S.2 k e he).1 (by decide)
theorem p_move_in : ∀ ds Q, T_move_in ds Q → t_move_in { nx := fun _ _ => Q .none, rt := fun d _ => Q d } (startD N_move_in.length ds) 0 := by
  rintro ds Q ⟨m, rfl, S, h⟩
  have k11 : ∀ k : Int, wholeI k 0 11 = true → small k := fun k hk => by
    have := whole_iff.mp hk
    exact ⟨by omega, by omega⟩
  have two : (2 : Nat) ≤ sizeLine := by rw [line_eq]; decide
  have three : (3 : Nat) ≤ sizeLine := by rw [line_eq]; decide
  obtain ⟨w1, w2, _⟩ := mv_small S
  have hok := S.1
  have short : ∀ (x : Str) (k : Int), x ≠ "edge" → m.ws = [x, num k] → small k → m.d = .tuple [.str x, .int k] → t_move_in { nx := fun _ _ => Q .none, rt := fun d _ => Q d } (startD N_move_in.length [.list (m.ws.map PyData.str)]) 0 := fun x k hx hw hs hd => by
    rw [hw]
    have l1 := w1 (num k) (by rw [hw]; simp)
    have hx' : (x == ("edge" : Str)) = false := beq_eq_false_iff_ne.mpr hx
    refine ⟨_, rfl, _, rfl, _, ltD_ii _ _, false, rfl, ?_⟩
    refine ⟨_, rfl, _, atI_0 _, _, rfl, _, atI_1 _, num k, rfl, Nat.le_trans l1.1 (by decide), ?_⟩
    rw [numIn_num hs]
    refine ⟨two, _, rfl, _, atI_0 _, _, eqD_ss _ _, _, rfl, ?_⟩
    rw [hx']
    refine ⟨_, rfl, _, rfl, _, gtD_ii _ _, false, rfl, ?_⟩
    refine ⟨_, rfl, .inl ⟨m, by rw [hd]; rfl, mv_asks S, true, by rw [hok], _, rfl, ?_⟩⟩
    rw [hd] at h
    exact h
  cases m with
  | come k => exact short "come" k (by decide) rfl (k11 k hok) rfl
  | leave k => exact short "leave" k (by decide) rfl (k11 k hok) rfl
  | bell k => exact short "bell" k (by decide) rfl (k11 k hok) rfl
  | edge k e =>
    have h1' : (wholeI k 0 11 && edgeB e 6) = true := hok
    simp only [Bool.and_eq_true] at h1'
    have hs := k11 k h1'.1
    have l1 := w1 (num k) (by simp [Mv.ws])
    have hwe := edgeWs_ok h1'.2 (by decide)
    have hl : (Mv.edge k e).ws.length = (edgeWs e).length + 2 := by simp [Mv.ws]
    refine ⟨_, rfl, _, rfl, _, ltD_ii _ _, false, by rw [List.length_map, hl]; simp; omega, ?_⟩
    refine ⟨_, rfl, _, atI_0 _, _, rfl, _, atI_1 _, num k, rfl, Nat.le_trans l1.1 (by decide), ?_⟩
    rw [numIn_num hs]
    refine ⟨two, _, rfl, _, atI_0 _, _, eqD_ss _ _, _, rfl, ?_⟩
    refine ⟨_, rfl, _, atI_0 _, _, rfl, _, atI_1 _, num k, rfl, Nat.le_trans l1.1 (by decide), _, rfl, _, rfl, _, rfl, edgeWs e, ?_, okW_ws hwe (by omega), ?_⟩
    · rw [cut_2]; simp [Mv.ws]
    rw [numIn_num hs, edgeIn_ws h1'.2 (by decide)]
    refine ⟨three, _, rfl, .inl ⟨.edge k e, rfl, mv_asks S, true, by rw [hok], _, rfl, h⟩⟩
theorem weav_lines {ms : List Mv} (hm : ∀ m ∈ ms, MvS m) (hne : ms ≠ []) : Txt.split (weavText ms) "\n" = ms.map fun m => sp m.ws :=
  split_nl (by simpa using hne) fun l hl => by
    obtain ⟨m, hmm, rfl⟩ := List.mem_map.mp hl
    exact line_free (mv_small (hm m hmm)).1
theorem weav_len {ms : List Mv} (hm : ∀ m ∈ ms, MvS m) : (weavText ms).length ≤ ms.length * 201 := by
  have h1 := join_len "\n" (ms.map fun m : Mv => sp m.ws)
  have h2 := sum_le (zs := ms.map fun m : Mv => sp m.ws) (m := 200) fun z hz => by
    obtain ⟨m, hmm, rfl⟩ := List.mem_map.mp hz
    obtain ⟨w1, w2, _⟩ := mv_small (hm m hmm)
    have := sp_len (zs := m.ws) (m := 8) fun z hz => (w1 z hz).1
    omega
  have h3 : ("\n" : Str).length = 1 := rfl
  rw [h3] at h1
  rw [List.length_map] at h1 h2
  unfold weavText
  omega
theorem weav_ne {ms : List Mv} (hm : ∀ m ∈ ms, MvS m) (hne : ms ≠ []) : weavText ms ≠ "" := fun e => by
  have h := weav_lines hm hne
  rw [e] at h
  have h0 : Txt.split ("" : Str) "\n" = [("" : Str)] := by decide +kernel
  rw [h0] at h
  cases ms with
  | nil => exact hne rfl
  | cons m ms =>
    simp only [List.map_cons, List.cons.injEq] at h; have w := mv_small (hm m (by simp))
    have := split_sp w.2.2 w.1
    rw [← h.1] at this
    have h1 : Txt.split ("" : Str) " " = [("" : Str)] := by decide +kernel
    rw [h1] at this
    cases m <;> simp [Mv.ws] at this
theorem p_read_weaving : ∀ ds Q, T_read_weaving ds Q → t_read_weaving { nx := fun _ _ => Q .none, rt := fun d _ => Q d } (startD N_read_weaving.length ds) 0 := by
  rintro ds Q ⟨ms, rfl, hl, hm, h⟩
  have zero : (0 : Nat) ≤ sizeLine := Nat.zero_le _
  have loop : ∀ (ls : List PyData), (ls = ms.map fun m : Mv => PyData.str (sp m.ws)) → forGo (.tup [.nm 2, .nm 3]) (sSeq (sSet 4 (fDat (dCall T_move_in (aCons (dList (nSplit (dVar 3) (dC (.str " ")))) aNil)))) (sSeq (sIf (dTest (d2 isND (dVar 4) (dC .none))) sNever sNext) (sApp 1 (dVar 4))))
      { nx := fun δ b => ∃ ds, δ[1]? = some (Sl.own ds) ∧ Q (.tuple ds), rt := fun d _ => Q d } (enumD 0 ls) [Sl.dat (.str (weavText ms)), Sl.own [], Sl.no, Sl.no, Sl.no] 0 := fun ls hls => by
    subst hls
    refine for_ix (fun j δ b => ∃ s2 s3 s4, δ = [Sl.dat (.str (weavText ms)), Sl.own ((ms.take j).map Mv.d), s2, s3, s4]) _ 0 _ _ ⟨_, _, _, rfl⟩ (fun j d δ b hj ⟨s2, s3, s4, hδ⟩ => ?_) fun δ b ⟨s2, s3, s4, hδ⟩ => ?_
    · subst hδ
      obtain ⟨e', he, rfl⟩ := enum_get hj
      obtain ⟨m, he2, rfl⟩ := by
        rw [List.getElem?_map] at he
        exact Option.map_eq_some_iff.mp he
      have hmm := List.mem_of_getElem? he2
      have S := hm m hmm
      obtain ⟨w1, w2, w3⟩ := mv_small S
      have hlen := sp_len (zs := m.ws) (m := 8) fun z hz => (w1 z hz).1
      refine ⟨_, rfl, fun N hN => ?_⟩
      have hsp := split_sp w3 w1
      refine ⟨_, rfl, sp m.ws, rfl, " ", rfl, by decide, by rw [line_eq]; omega, by rw [hsp, line_eq]; omega, m, by rw [hsp], S, ?_⟩
      have hd : isND m.d .none = some (.bool false) := by cases m <;> rfl
      refine ⟨_, rfl, _, hd, false, rfl, ?_⟩
      refine ⟨_, rfl, _, rfl, by rw [line_eq, List.length_map, List.length_take]; omega, hN _ _ ⟨Sl.dat (.int (j : Nat)), Sl.dat (.str (sp m.ws)), Sl.dat m.d, ?_⟩⟩
      have : (ms.take (0 + j + 1)).map Mv.d = (ms.take (0 + j)).map Mv.d ++ [m.d] := by
        rw [List.take_succ, Nat.zero_add, he2]; simp
      rw [this]; rfl
    · subst hδ
      refine ⟨_, rfl, ?_⟩
      have : ms.take (0 + (enumD 0 (ms.map fun m : Mv => PyData.str (sp m.ws))).length) = ms := by
        rw [enumD_len, List.length_map, Nat.zero_add, List.take_length]
      rw [this]
      exact h
  refine ⟨_, rfl, _, rfl, true, rfl, ?_⟩
  refine ⟨zero, ?_⟩
  refine ⟨_, rfl, _, neD_ss _ _, _, rfl, ?_⟩
  by_cases hne : ms = []
  · subst hne
    have e : (weavText [] == ("" : Str)) = true := by decide +kernel
    rw [e]
    exact ⟨zero, _, rfl, loop [] rfl⟩
  · have e : (weavText ms == ("" : Str)) = false := beq_eq_false_iff_ne.mpr (weav_ne hm hne)
    rw [e]
    have hl2 := weav_len hm
    have : ms.length * 201 ≤ 1000 * 201 := Nat.mul_le_mul_right _ hl
    refine ⟨_, rfl, weavText ms, rfl, "\n", rfl, by decide, by rw [line_eq]; omega, ?_, _, rfl, ?_⟩
    · rw [weav_lines hm hne, line_eq, List.length_map]; omega
    · rw [weav_lines hm hne]
      exact loop _ (by rw [List.map_map]; rfl)
end Wk
namespace Wk
open L2 RZ PyProof.Rows PySem.Spec PySem
theorem l_is_whole : ∀ ds Q, T_is_whole ds Q → ds.length = 3 := by
  intro ds Q h
  unfold T_is_whole at h
  grind
theorem ok_is_whole {P : Program} {w : World} {K : PySem.W.Frag} {mg : Str → Option Value} {base : Heap} (W : Wo P w K mg base) : Cal P w K mg base 1 "is_whole" (spD K T_is_whole) := by
  obtain ⟨fd, Fd⟩ := W.fun 0 31 (x := "is_whole")
  exact fnD Fd (W.glo 45) sc_is_whole l_is_whole (fun _ _ _ _ _ _ us hl => match us, hl with | [_, _, _], _ => rfl) (fun cdv A outer s H F E hr => b_is_whole W  cdv A outer s H F E hr) p_is_whole
theorem l_is_word : ∀ ds Q, T_is_word ds Q → ds.length = 1 := by
  intro ds Q h
  unfold T_is_word at h
  grind
theorem ok_is_word {P : Program} {w : World} {K : PySem.W.Frag} {mg : Str → Option Value} {base : Heap} (W : Wo P w K mg base) : Cal P w K mg base 1 "is_word" (spD K T_is_word) := by
  obtain ⟨fd, Fd⟩ := W.fun 1 32 (x := "is_word")
  exact fnD Fd (W.glo 46) sc_is_word l_is_word (fun _ _ _ _ _ _ us hl => match us, hl with | [_], _ => rfl) (fun cdv A outer s H F E hr => b_is_word W  cdv A outer s H F E hr) p_is_word
theorem l_is_tuple_of : ∀ ds Q, T_is_tuple_of ds Q → ds.length = 2 := by
  intro ds Q h
  unfold T_is_tuple_of at h
  grind
theorem ok_is_tuple_of {P : Program} {w : World} {K : PySem.W.Frag} {mg : Str → Option Value} {base : Heap} (W : Wo P w K mg base) : Cal P w K mg base 1 "is_tuple_of" (spD K T_is_tuple_of) := by
  obtain ⟨fd, Fd⟩ := W.fun 2 33 (x := "is_tuple_of")
  exact fnD Fd (W.glo 47) sc_is_tuple_of l_is_tuple_of (fun _ _ _ _ _ _ us hl => match us, hl with | [_, _], _ => rfl) (fun cdv A outer s H F E hr => b_is_tuple_of W  cdv A outer s H F E hr) p_is_tuple_of
theorem l_is_ascending : ∀ ds Q, T_is_ascending ds Q → ds.length = 1 := by
  intro ds Q h
  unfold T_is_ascending at h
  grind
theorem ok_is_ascending {P : Program} {w : World} {K : PySem.W.Frag} {mg : Str → Option Value} {base : Heap} (W : Wo P w K mg base) : Cal P w K mg base 1 "is_ascending" (spD K T_is_ascending) := by
  obtain ⟨fd, Fd⟩ := W.fun 3 34 (x := "is_ascending")
  exact fnD Fd (W.glo 48) sc_is_ascending l_is_ascending (fun _ _ _ _ _ _ us hl => match us, hl with | [_], _ => rfl) (fun cdv A outer s H F E hr => b_is_ascending W  cdv A outer s H F E hr) p_is_ascending
theorem l_is_stands : ∀ ds Q, T_is_stands ds Q → ds.length = 3 := by
  intro ds Q h
  unfold T_is_stands at h
  grind
theorem ok_is_stands {P : Program} {w : World} {K : PySem.W.Frag} {mg : Str → Option Value} {base : Heap} (W : Wo P w K mg base) : Cal P w K mg base 2 "is_stands" (spD K T_is_stands) := by
  obtain ⟨fd, Fd⟩ := W.fun 4 35 (x := "is_stands")
  exact fnD Fd (W.glo 49) sc_is_stands l_is_stands (fun _ _ _ _ _ _ us hl => match us, hl with | [_, _, _], _ => rfl) (fun cdv A outer s H F E hr => b_is_stands W ((ok_is_ascending W).mono (by decide)) ((ok_is_whole W).mono (by decide)) cdv A outer s H F E hr) p_is_stands
theorem l_is_asks : ∀ ds Q, T_is_asks ds Q → ds.length = 1 := by
  intro ds Q h
  unfold T_is_asks at h
  grind
theorem ok_is_asks {P : Program} {w : World} {K : PySem.W.Frag} {mg : Str → Option Value} {base : Heap} (W : Wo P w K mg base) : Cal P w K mg base 2 "is_asks" (spD K T_is_asks) := by
  obtain ⟨fd, Fd⟩ := W.fun 5 36 (x := "is_asks")
  exact fnD Fd (W.glo 50) sc_is_asks l_is_asks (fun _ _ _ _ _ _ us hl => match us, hl with | [_], _ => rfl) (fun cdv A outer s H F E hr => b_is_asks W ((ok_is_ascending W).mono (by decide)) cdv A outer s H F E hr) p_is_asks
theorem l_is_edge : ∀ ds Q, T_is_edge ds Q → ds.length = 2 := by
  intro ds Q h
  unfold T_is_edge at h
  grind
theorem ok_is_edge {P : Program} {w : World} {K : PySem.W.Frag} {mg : Str → Option Value} {base : Heap} (W : Wo P w K mg base) : Cal P w K mg base 3 "is_edge" (spD K T_is_edge) := by
  obtain ⟨fd, Fd⟩ := W.fun 6 37 (x := "is_edge")
  exact fnD Fd (W.glo 51) sc_is_edge l_is_edge (fun _ _ _ _ _ _ us hl => match us, hl with | [_, _], _ => rfl) (fun cdv A outer s H F E hr => b_is_edge W ((ok_is_asks W).mono (by decide)) ((ok_is_tuple_of W).mono (by decide)) ((ok_is_whole W).mono (by decide)) cdv A outer s H F E hr) p_is_edge
theorem l_need_edges : ∀ ds Q, T_need_edges ds Q → ds.length = 3 := by
  intro ds Q h
  unfold T_need_edges at h
  grind
theorem ok_need_edges {P : Program} {w : World} {K : PySem.W.Frag} {mg : Str → Option Value} {base : Heap} (W : Wo P w K mg base) : Cal P w K mg base 4 "need_edges" (spD K T_need_edges) := by
  obtain ⟨fd, Fd⟩ := W.fun 7 38 (x := "need_edges")
  exact fnD Fd (W.glo 52) sc_need_edges l_need_edges (fun _ _ _ _ _ _ us hl => match us, hl with | [_, _, _], _ => rfl) (fun cdv A outer s H F E hr => b_need_edges W ((ok_is_edge W).mono (by decide)) cdv A outer s H F E hr) p_need_edges
theorem l_is_below : ∀ ds Q, T_is_below ds Q → ds.length = 2 := by
  intro ds Q h
  unfold T_is_below at h
  grind
theorem ok_is_below {P : Program} {w : World} {K : PySem.W.Frag} {mg : Str → Option Value} {base : Heap} (W : Wo P w K mg base) : Cal P w K mg base 2 "is_below" (spD K T_is_below) := by
  obtain ⟨fd, Fd⟩ := W.fun 8 39 (x := "is_below")
  exact fnD Fd (W.glo 53) sc_is_below l_is_below (fun _ _ _ _ _ _ us hl => match us, hl with | [_, _], _ => rfl) (fun cdv A outer s H F E hr => b_is_below W ((ok_is_ascending W).mono (by decide)) cdv A outer s H F E hr) p_is_below
theorem l_need_kind : ∀ ds Q, T_need_kind ds Q → ds.length = 3 := by
  intro ds Q h
  unfold T_need_kind at h
  grind
theorem ok_need_kind {P : Program} {w : World} {K : PySem.W.Frag} {mg : Str → Option Value} {base : Heap} (W : Wo P w K mg base) : Cal P w K mg base 5 "need_kind" (spD K T_need_kind) := by
  obtain ⟨fd, Fd⟩ := W.fun 9 40 (x := "need_kind")
  exact fnD Fd (W.glo 54) sc_need_kind l_need_kind (fun _ _ _ _ _ _ us hl => match us, hl with | [_, _, _], _ => rfl) (fun cdv A outer s H F E hr => b_need_kind W ((ok_is_below W).mono (by decide)) ((ok_is_stands W).mono (by decide)) ((ok_is_whole W).mono (by decide)) ((ok_need_edges W).mono (by decide)) cdv A outer s H F E hr) p_need_kind
theorem l_is_pair : ∀ ds Q, T_is_pair ds Q → ds.length = 1 := by
  intro ds Q h
  unfold T_is_pair at h
  grind
theorem ok_is_pair {P : Program} {w : World} {K : PySem.W.Frag} {mg : Str → Option Value} {base : Heap} (W : Wo P w K mg base) : Cal P w K mg base 2 "is_pair" (spD K T_is_pair) := by
  obtain ⟨fd, Fd⟩ := W.fun 10 41 (x := "is_pair")
  exact fnD Fd (W.glo 55) sc_is_pair l_is_pair (fun _ _ _ _ _ _ us hl => match us, hl with | [_], _ => rfl) (fun cdv A outer s H F E hr => b_is_pair W ((ok_is_tuple_of W).mono (by decide)) ((ok_is_word W).mono (by decide)) cdv A outer s H F E hr) p_is_pair
theorem l_need_house : ∀ ds Q, T_need_house ds Q → ds.length = 1 := by
  intro ds Q h
  unfold T_need_house at h
  grind
theorem ok_need_house {P : Program} {w : World} {K : PySem.W.Frag} {mg : Str → Option Value} {base : Heap} (W : Wo P w K mg base) : Cal P w K mg base 6 "need_house" (spD K T_need_house) := by
  obtain ⟨fd, Fd⟩ := W.fun 11 42 (x := "need_house")
  exact fnD Fd (W.glo 56) sc_need_house l_need_house (fun _ _ _ _ _ _ us hl => match us, hl with | [_], _ => rfl) (fun cdv A outer s H F E hr => b_need_house W ((ok_is_pair W).mono (by decide)) ((ok_need_kind W).mono (by decide)) cdv A outer s H F E hr) p_need_house
theorem l_spaced : ∀ ds Q, T_spaced ds Q → ds.length = 1 := by
  intro ds Q h
  unfold T_spaced at h
  grind
theorem ok_spaced {P : Program} {w : World} {K : PySem.W.Frag} {mg : Str → Option Value} {base : Heap} (W : Wo P w K mg base) : Cal P w K mg base 1 "spaced" (spD K T_spaced) := by
  obtain ⟨fd, Fd⟩ := W.fun 12 58 (x := "spaced")
  exact fnD Fd (W.glo 57) sc_spaced l_spaced (fun _ _ _ _ _ _ us hl => match us, hl with | [_], _ => rfl) (fun cdv A outer s H F E hr => b_spaced W  cdv A outer s H F E hr) p_spaced
theorem l_edge_words : ∀ ds Q, T_edge_words ds Q → ds.length = 1 := by
  intro ds Q h
  unfold T_edge_words at h
  grind
theorem ok_edge_words {P : Program} {w : World} {K : PySem.W.Frag} {mg : Str → Option Value} {base : Heap} (W : Wo P w K mg base) : Cal P w K mg base 1 "edge_words" (spD K T_edge_words) := by
  obtain ⟨fd, Fd⟩ := W.fun 13 59 (x := "edge_words")
  exact fnD Fd (W.glo 58) sc_edge_words l_edge_words (fun _ _ _ _ _ _ us hl => match us, hl with | [_], _ => rfl) (fun cdv A outer s H F E hr => b_edge_words W  cdv A outer s H F E hr) p_edge_words
theorem l_kind_lines : ∀ ds Q, T_kind_lines ds Q → ds.length = 2 := by
  intro ds Q h
  unfold T_kind_lines at h
  grind
theorem ok_kind_lines {P : Program} {w : World} {K : PySem.W.Frag} {mg : Str → Option Value} {base : Heap} (W : Wo P w K mg base) : Cal P w K mg base 2 "kind_lines" (spD K T_kind_lines) := by
  obtain ⟨fd, Fd⟩ := W.fun 14 60 (x := "kind_lines")
  exact fnD Fd (W.glo 59) sc_kind_lines l_kind_lines (fun _ _ _ _ _ _ us hl => match us, hl with | [_, _], _ => rfl) (fun cdv A outer s H F E hr => b_kind_lines W ((ok_edge_words W).mono (by decide)) ((ok_spaced W).mono (by decide)) cdv A outer s H F E hr) p_kind_lines
theorem l_house_text : ∀ ds Q, T_house_text ds Q → ds.length = 1 := by
  intro ds Q h
  unfold T_house_text at h
  grind
theorem ok_house_text {P : Program} {w : World} {K : PySem.W.Frag} {mg : Str → Option Value} {base : Heap} (W : Wo P w K mg base) : Cal P w K mg base 7 "house_text" (spD K T_house_text) := by
  obtain ⟨fd, Fd⟩ := W.fun 15 61 (x := "house_text")
  exact fnD Fd (W.glo 60) sc_house_text l_house_text (fun _ _ _ _ _ _ us hl => match us, hl with | [_], _ => rfl) (fun cdv A outer s H F E hr => b_house_text W ((ok_kind_lines W).mono (by decide)) ((ok_need_house W).mono (by decide)) cdv A outer s H F E hr) p_house_text
theorem l_number_in : ∀ ds Q, T_number_in ds Q → ds.length = 1 := by
  intro ds Q h
  unfold T_number_in at h
  grind
theorem ok_number_in {P : Program} {w : World} {K : PySem.W.Frag} {mg : Str → Option Value} {base : Heap} (W : Wo P w K mg base) : Cal P w K mg base 1 "number_in" (spD K T_number_in) := by
  obtain ⟨fd, Fd⟩ := W.fun 16 62 (x := "number_in")
  exact fnD Fd (W.glo 61) sc_number_in l_number_in (fun _ _ _ _ _ _ us hl => match us, hl with | [_], _ => rfl) (fun cdv A outer s H F E hr => b_number_in W  cdv A outer s H F E hr) p_number_in
theorem l_edge_in : ∀ ds Q, T_edge_in ds Q → ds.length = 1 := by
  intro ds Q h
  unfold T_edge_in at h
  grind
theorem ok_edge_in {P : Program} {w : World} {K : PySem.W.Frag} {mg : Str → Option Value} {base : Heap} (W : Wo P w K mg base) : Cal P w K mg base 3 "edge_in" (spD K T_edge_in) := by
  obtain ⟨fd, Fd⟩ := W.fun 17 63 (x := "edge_in")
  exact fnD Fd (W.glo 62) sc_edge_in l_edge_in (fun _ _ _ _ _ _ us hl => match us, hl with | [_], _ => rfl) (fun cdv A outer s H F E hr => b_edge_in W ((ok_is_asks W).mono (by decide)) ((ok_number_in W).mono (by decide)) cdv A outer s H F E hr) p_edge_in
theorem l_numbers_in : ∀ ds Q, T_numbers_in ds Q → ds.length = 1 := by
  intro ds Q h
  unfold T_numbers_in at h
  grind
theorem ok_numbers_in {P : Program} {w : World} {K : PySem.W.Frag} {mg : Str → Option Value} {base : Heap} (W : Wo P w K mg base) : Cal P w K mg base 2 "numbers_in" (spD K T_numbers_in) := by
  obtain ⟨fd, Fd⟩ := W.fun 18 64 (x := "numbers_in")
  exact fnD Fd (W.glo 63) sc_numbers_in l_numbers_in (fun _ _ _ _ _ _ us hl => match us, hl with | [_], _ => rfl) (fun cdv A outer s H F E hr => b_numbers_in W ((ok_is_ascending W).mono (by decide)) ((ok_number_in W).mono (by decide)) cdv A outer s H F E hr) p_numbers_in
theorem l_names_in : ∀ ds Q, T_names_in ds Q → ds.length = 1 := by
  intro ds Q h
  unfold T_names_in at h
  grind
theorem ok_names_in {P : Program} {w : World} {K : PySem.W.Frag} {mg : Str → Option Value} {base : Heap} (W : Wo P w K mg base) : Cal P w K mg base 2 "names_in" (spD K T_names_in) := by
  obtain ⟨fd, Fd⟩ := W.fun 19 65 (x := "names_in")
  exact fnD Fd (W.glo 64) sc_names_in l_names_in (fun _ _ _ _ _ _ us hl => match us, hl with | [_], _ => rfl) (fun cdv A outer s H F E hr => b_names_in W ((ok_is_ascending W).mono (by decide)) ((ok_is_word W).mono (by decide)) cdv A outer s H F E hr) p_names_in
theorem l_line_in : ∀ ds Q, T_line_in ds Q → ds.length = 1 := by
  intro ds Q h
  unfold T_line_in at h
  grind
theorem ok_line_in {P : Program} {w : World} {K : PySem.W.Frag} {mg : Str → Option Value} {base : Heap} (W : Wo P w K mg base) : Cal P w K mg base 4 "line_in" (spD K T_line_in) := by
  obtain ⟨fd, Fd⟩ := W.fun 20 66 (x := "line_in")
  exact fnD Fd (W.glo 65) sc_line_in l_line_in (fun _ _ _ _ _ _ us hl => match us, hl with | [_], _ => rfl) (fun cdv A outer s H F E hr => b_line_in W ((ok_edge_in W).mono (by decide)) ((ok_names_in W).mono (by decide)) ((ok_numbers_in W).mono (by decide)) cdv A outer s H F E hr) p_line_in
theorem l_kind_in : ∀ ds Q, T_kind_in ds Q → ds.length = 1 := by
  intro ds Q h
  unfold T_kind_in at h
  grind
theorem ok_kind_in {P : Program} {w : World} {K : PySem.W.Frag} {mg : Str → Option Value} {base : Heap} (W : Wo P w K mg base) : Cal P w K mg base 2 "kind_in" (spD K T_kind_in) := by
  obtain ⟨fd, Fd⟩ := W.fun 21 67 (x := "kind_in")
  exact fnD Fd (W.glo 66) sc_kind_in l_kind_in (fun _ _ _ _ _ _ us hl => match us, hl with | [_], _ => rfl) (fun cdv A outer s H F E hr => b_kind_in W ((ok_is_word W).mono (by decide)) ((ok_number_in W).mono (by decide)) cdv A outer s H F E hr) p_kind_in
theorem l_goes_on : ∀ ds Q, T_goes_on ds Q → ds.length = 3 := by
  intro ds Q h
  unfold T_goes_on at h
  grind
theorem ok_goes_on {P : Program} {w : World} {K : PySem.W.Frag} {mg : Str → Option Value} {base : Heap} (W : Wo P w K mg base) : Cal P w K mg base 1 "goes_on" (spD K T_goes_on) := by
  obtain ⟨fd, Fd⟩ := W.fun 22 68 (x := "goes_on")
  exact fnD Fd (W.glo 67) sc_goes_on l_goes_on (fun _ _ _ _ _ _ us hl => match us, hl with | [_, _, _], _ => rfl) (fun cdv A outer s H F E hr => b_goes_on W  cdv A outer s H F E hr) p_goes_on
theorem l_item_of : ∀ ds Q, T_item_of ds Q → ds.length = 2 := by
  intro ds Q h
  unfold T_item_of at h
  grind
theorem ok_item_of {P : Program} {w : World} {K : PySem.W.Frag} {mg : Str → Option Value} {base : Heap} (W : Wo P w K mg base) : Cal P w K mg base 1 "item_of" (spD K T_item_of) := by
  obtain ⟨fd, Fd⟩ := W.fun 24 70 (x := "item_of")
  exact fnD Fd (W.glo 69) sc_item_of l_item_of (fun _ _ _ _ _ _ us hl => match us, hl with | [_, _], _ => rfl) (fun cdv A outer s H F E hr => b_item_of W  cdv A outer s H F E hr) p_item_of
theorem l_kind_of : ∀ ds Q, T_kind_of ds Q → ds.length = 2 := by
  intro ds Q h
  unfold T_kind_of at h
  grind
theorem ok_kind_of {P : Program} {w : World} {K : PySem.W.Frag} {mg : Str → Option Value} {base : Heap} (W : Wo P w K mg base) : Cal P w K mg base 2 "kind_of" (spD K T_kind_of) := by
  obtain ⟨fd, Fd⟩ := W.fun 25 71 (x := "kind_of")
  exact fnD Fd (W.glo 70) sc_kind_of l_kind_of (fun _ _ _ _ _ _ us hl => match us, hl with | [_, _], _ => rfl) (fun cdv A outer s H F E hr => b_kind_of W ((ok_item_of W).mono (by decide)) cdv A outer s H F E hr) p_kind_of
theorem l_is_move : ∀ ds Q, T_is_move ds Q → ds.length = 1 := by
  intro ds Q h
  unfold T_is_move at h
  grind
theorem ok_is_move {P : Program} {w : World} {K : PySem.W.Frag} {mg : Str → Option Value} {base : Heap} (W : Wo P w K mg base) : Cal P w K mg base 4 "is_move" (spD K T_is_move) := by
  obtain ⟨fd, Fd⟩ := W.fun 27 73 (x := "is_move")
  exact fnD Fd (W.glo 72) sc_is_move l_is_move (fun _ _ _ _ _ _ us hl => match us, hl with | [_], _ => rfl) (fun cdv A outer s H F E hr => b_is_move W ((ok_is_edge W).mono (by decide)) ((ok_is_tuple_of W).mono (by decide)) ((ok_is_whole W).mono (by decide)) cdv A outer s H F E hr) p_is_move
theorem l_move_words : ∀ ds Q, T_move_words ds Q → ds.length = 1 := by
  intro ds Q h
  unfold T_move_words at h
  grind
theorem ok_move_words {P : Program} {w : World} {K : PySem.W.Frag} {mg : Str → Option Value} {base : Heap} (W : Wo P w K mg base) : Cal P w K mg base 2 "move_words" (spD K T_move_words) := by
  obtain ⟨fd, Fd⟩ := W.fun 28 74 (x := "move_words")
  exact fnD Fd (W.glo 73) sc_move_words l_move_words (fun _ _ _ _ _ _ us hl => match us, hl with | [_], _ => rfl) (fun cdv A outer s H F E hr => b_move_words W ((ok_edge_words W).mono (by decide)) cdv A outer s H F E hr) p_move_words
theorem l_weaving_text : ∀ ds Q, T_weaving_text ds Q → ds.length = 1 := by
  intro ds Q h
  unfold T_weaving_text at h
  grind
theorem ok_weaving_text {P : Program} {w : World} {K : PySem.W.Frag} {mg : Str → Option Value} {base : Heap} (W : Wo P w K mg base) : Cal P w K mg base 5 "weaving_text" (spD K T_weaving_text) := by
  obtain ⟨fd, Fd⟩ := W.fun 29 75 (x := "weaving_text")
  exact fnD Fd (W.glo 74) sc_weaving_text l_weaving_text (fun _ _ _ _ _ _ us hl => match us, hl with | [_], _ => rfl) (fun cdv A outer s H F E hr => b_weaving_text W ((ok_is_move W).mono (by decide)) ((ok_move_words W).mono (by decide)) ((ok_spaced W).mono (by decide)) cdv A outer s H F E hr) p_weaving_text
theorem l_move_in : ∀ ds Q, T_move_in ds Q → ds.length = 1 := by
  intro ds Q h
  unfold T_move_in at h
  grind
theorem ok_move_in {P : Program} {w : World} {K : PySem.W.Frag} {mg : Str → Option Value} {base : Heap} (W : Wo P w K mg base) : Cal P w K mg base 5 "move_in" (spD K T_move_in) := by
  obtain ⟨fd, Fd⟩ := W.fun 30 76 (x := "move_in")
  exact fnD Fd (W.glo 75) sc_move_in l_move_in (fun _ _ _ _ _ _ us hl => match us, hl with | [_], _ => rfl) (fun cdv A outer s H F E hr => b_move_in W ((ok_edge_in W).mono (by decide)) ((ok_is_move W).mono (by decide)) ((ok_number_in W).mono (by decide)) cdv A outer s H F E hr) p_move_in
theorem l_read_weaving : ∀ ds Q, T_read_weaving ds Q → ds.length = 1 := by
  intro ds Q h
  unfold T_read_weaving at h
  grind
theorem ok_read_weaving {P : Program} {w : World} {K : PySem.W.Frag} {mg : Str → Option Value} {base : Heap} (W : Wo P w K mg base) : Cal P w K mg base 6 "read_weaving" (spD K T_read_weaving) := by
  obtain ⟨fd, Fd⟩ := W.fun 31 77 (x := "read_weaving")
  exact fnD Fd (W.glo 76) sc_read_weaving l_read_weaving (fun _ _ _ _ _ _ us hl => match us, hl with | [_], _ => rfl) (fun cdv A outer s H F E hr => b_read_weaving W ((ok_move_in W).mono (by decide)) cdv A outer s H F E hr) p_read_weaving
end Wk
namespace Wk
open L2 RZ PyProof.Rows PySem.Spec PySem
/-! _law_some -/
abbrev N_law_some : List Str := ["_law_m", "_law_items"]
theorem sc_law_some : FnScope N_law_some ["_law_m", "_law_items"] (defScope (top 82)) := ⟨rfl, rfl, rfl, by decide +kernel, rfl, by decide +kernel, by decide +kernel⟩
def t_law_some (F : Fm) : TSD := (sRet (d2 idxD (dVar 1) (dCallM (F := F) 0 T_law_draw (aCons (d1 lenD (dVar 1)) aNil))))
theorem b_law_some {P : Program} {w : World} {K : PySem.W.Frag} {mg : Str → Option Value} {base : Heap} (W : Wo P w K mg base) (c_law_draw : Cal P w K mg base 1 "_law_draw" (spM K T_law_draw))
    (cdv : Value) (A : Around) (outer : List Env) (s : Shared) (H : Hp) (F : Fm) (E : XK) (hr : Room 1 (A.deeper (envOfC "_law_some" (defScope (top 82)) s.heap.objs.size (He.ga K "_law_some") cdv))) :
    PSsD (cxOf (L2.CX P w) P w K mg base N_law_some "_law_some" (defScope (top 82)) (He.ga K "_law_some") cdv A outer s H E) F (defBody (top 82)) (t_law_some F) :=
  (ss_one (s_ret (d_ix (d_var 1) (d_callM 0 c_law_draw hr (a_cons (d_len rfl (W.free 1) (d_var 1)) a_nil)) (by intro _ _; rfl))))
/-! _law_asks -/
abbrev N_law_asks : List Str := ["_law_m", "_law_some_here"]
theorem sc_law_asks : FnScope N_law_asks ["_law_m"] (defScope (top 86)) := ⟨rfl, rfl, rfl, by decide +kernel, rfl, by decide +kernel, by decide +kernel⟩
def t_law_asks (F : Fm) : TSD := (sSeq (sSet 1 (fOwn (aLst (aCons (dTup aNil) (aCons (dTup aNil) (aCons (dTup (aCons (dC (.str "over")) aNil)) (aCons (dTup (aCons (dC (.str "over")) aNil)) (aCons (dTup (aCons (dC (.str "calm")) aNil)) (aCons (dTup (aCons (dC (.str "unheld")) aNil)) (aCons (dTup (aCons (dC (.str "held")) aNil)) (aCons (dTup (aCons (dC (.str "rung")) aNil)) (aCons (dTup (aCons (dC (.str "calm")) (aCons (dC (.str "over")) aNil))) aNil)))))))))))) (sRet (dCallM (F := F) 0 T_law_some (aCons (dList (nCat (lOwn 1) (aLst (aCons (dTup (aCons (dC (.str "held")) (aCons (dC (.str "over")) aNil))) (aCons (dTup (aCons (dC (.str "over")) (aCons (dC (.str "unheld")) aNil))) (aCons (dTup (aCons (dC (.str "over")) (aCons (dC (.str "rung")) aNil))) (aCons (dTup (aCons (dC (.str "held")) (aCons (dC (.str "rung")) aNil))) aNil))))))) aNil))))
theorem b_law_asks {P : Program} {w : World} {K : PySem.W.Frag} {mg : Str → Option Value} {base : Heap} (W : Wo P w K mg base) (c_law_some : Cal P w K mg base 2 "_law_some" (spM K T_law_some))
    (cdv : Value) (A : Around) (outer : List Env) (s : Shared) (H : Hp) (F : Fm) (E : XK) (hr : Room 2 (A.deeper (envOfC "_law_asks" (defScope (top 86)) s.heap.objs.size (He.ga K "_law_asks") cdv))) :
    PSsD (cxOf (L2.CX P w) P w K mg base N_law_asks "_law_asks" (defScope (top 86)) (He.ga K "_law_asks") cdv A outer s H E) F (defBody (top 86)) (t_law_asks F) :=
  (ss_cons (s_set 1 sc_law_asks.nd (PDN.f (n_lst (a_cons (d_tup a_nil) (a_cons (d_tup a_nil) (a_cons (d_tup (a_cons d_str a_nil)) (a_cons (d_tup (a_cons d_str a_nil)) (a_cons (d_tup (a_cons d_str a_nil)) (a_cons (d_tup (a_cons d_str a_nil)) (a_cons (d_tup (a_cons d_str a_nil)) (a_cons (d_tup (a_cons d_str a_nil)) (a_cons (d_tup (a_cons d_str (a_cons d_str a_nil))) a_nil)))))))))))) (ss_one (s_ret (d_callM 0 c_law_some hr (a_cons (PDN.d (n_cat (l_own 1) (PDN.l (n_lst (a_cons (d_tup (a_cons d_str (a_cons d_str a_nil))) (a_cons (d_tup (a_cons d_str (a_cons d_str a_nil))) (a_cons (d_tup (a_cons d_str (a_cons d_str a_nil))) (a_cons (d_tup (a_cons d_str (a_cons d_str a_nil))) a_nil)))))))) a_nil)))))
/-! _law_edge -/
abbrev N_law_edge : List Str := ["_law_m", "_law_begin_here", "_law_end"]
theorem sc_law_edge : FnScope N_law_edge ["_law_m", "_law_begin_here", "_law_end"] (defScope (top 87)) := ⟨rfl, rfl, rfl, by decide +kernel, rfl, by decide +kernel, by decide +kernel⟩
def t_law_edge (F : Fm) : TSD := (sRet (dTup (aCons (dVar 1) (aCons (dCallM (F := F) 0 T_law_asks aNil) (aCons (dCallM (F := F) 0 T_law_some (aCons (dList (aLst (aCons (dC (.str "go")) (aCons (dC (.str "go")) (aCons (dC (.str "hold")) (aCons (dC (.str "give")) (aCons (dC (.str "hush")) aNil))))))) aNil)) (aCons (dVar 2) aNil))))))
theorem b_law_edge {P : Program} {w : World} {K : PySem.W.Frag} {mg : Str → Option Value} {base : Heap} (W : Wo P w K mg base) (c_law_asks : Cal P w K mg base 3 "_law_asks" (spM K T_law_asks)) (c_law_some : Cal P w K mg base 3 "_law_some" (spM K T_law_some))
    (cdv : Value) (A : Around) (outer : List Env) (s : Shared) (H : Hp) (F : Fm) (E : XK) (hr : Room 3 (A.deeper (envOfC "_law_edge" (defScope (top 87)) s.heap.objs.size (He.ga K "_law_edge") cdv))) :
    PSsD (cxOf (L2.CX P w) P w K mg base N_law_edge "_law_edge" (defScope (top 87)) (He.ga K "_law_edge") cdv A outer s H E) F (defBody (top 87)) (t_law_edge F) :=
  (ss_one (s_ret (d_tup (a_cons (d_var 1) (a_cons (d_callM 0 c_law_asks hr a_nil) (a_cons (d_callM 0 c_law_some hr (a_cons (PDN.d (n_lst (a_cons d_str (a_cons d_str (a_cons d_str (a_cons d_str (a_cons d_str a_nil))))))) a_nil)) (a_cons (d_var 2) a_nil)))))))
/-! _law_house -/
abbrev N_law_house : List Str := ["_law_m", "_law_kinds", "_law_stands", "_law_most", "_law_names", "_law_found", "_law_name", "_law_below", "_law_at", "_law_low"]
theorem sc_law_house : FnScope N_law_house ["_law_m", "_law_kinds", "_law_stands", "_law_most"] (defScope (top 89)) := ⟨rfl, rfl, rfl, by decide +kernel, rfl, by decide +kernel, by decide +kernel⟩
def t_law_house (F : Fm) : TSD := (sSeq (sSet 4 (fDat (dList (nSortS (nLc (iL (dSl (dCallM (F := F) 0 T_law_order (aCons (dC (.int 4)) aNil)) oNo (oSome (d2 addD (dC (.int 1)) (dCallM (F := F) 0 T_law_draw (aCons (dVar 1) aNil)))))) (.nm 8) dYes (d2 idxD (dList (aLst (aCons (dC (.str "a")) (aCons (dC (.str "bus")) (aCons (dC (.str "go")) (aCons (dC (.str "up")) aNil)))))) (dVar 8)) [8]))))) (sSeq (sSet 5 (fOwn (aLst aNil))) (sSeq (sFor (iL (dVar 4)) (.nm 6) (sSeq (sSet 7 (fDat (dTupV (nLc (iL (dVar 4)) (.nm 9) (dTest (d2 gtD (dCallM (F := F) 0 T_law_draw (aCons (dC (.int 4)) aNil)) (dC (.int 0)))) (dVar 9) [9])))) (sApp 5 (dTup (aCons (dVar 6) (aCons (dTup (aCons (dCallM (F := F) 0 T_law_book (aCons (dVar 2) (aCons (dVar 3) aNil))) (aCons (dVar 7) aNil))) aNil)))))) (sRet (dTupV (lOwn 5))))))
theorem b_law_house {P : Program} {w : World} {K : PySem.W.Frag} {mg : Str → Option Value} {base : Heap} (W : Wo P w K mg base) (c_law_book : Cal P w K mg base 5 "_law_book" (spM K T_law_book)) (c_law_draw : Cal P w K mg base 5 "_law_draw" (spM K T_law_draw)) (c_law_order : Cal P w K mg base 5 "_law_order" (spM K T_law_order))
    (cdv : Value) (A : Around) (outer : List Env) (s : Shared) (H : Hp) (F : Fm) (E : XK) (hr : Room 5 (A.deeper (envOfC "_law_house" (defScope (top 89)) s.heap.objs.size (He.ga K "_law_house") cdv))) :
    PSsD (cxOf (L2.CX P w) P w K mg base N_law_house "_law_house" (defScope (top 89)) (He.ga K "_law_house") cdv A outer s H E) F (defBody (top 89)) (t_law_house F) :=
  (ss_cons (s_set 4 sc_law_house.nd (PD.f (PDN.d (n_sortS rfl (W.free 11) (PDN.v (n_lc [("_law_at", 8)] rfl sc_law_house.nd (i_lst (d_slice (d_callM 0 c_law_order hr (a_cons d_int a_nil)) o_none (o_some (d_add d_int (d_callM 0 c_law_draw hr (a_cons (d_var 1) a_nil)))))) (blkOk_by (N := N_law_house) (sc := defScope (top 89)) (by decide +kernel)) (by decide) (fun _ _ _ _ _ => (g_nm 8 sc_law_house.nd)) (fun _ _ _ _ _ => ts_nil) (fun _ _ _ _ _ => (d_ix (PDN.d (n_lst (a_cons d_str (a_cons d_str (a_cons d_str (a_cons d_str a_nil)))))) (d_var 8) (by intro _ _; rfl))))))))) (ss_cons (s_set 5 sc_law_house.nd (PDN.f (n_lst a_nil))) (ss_cons (s_for (passes_of rfl) rfl (i_lst (d_var 4)) (g_nm 6 sc_law_house.nd) (ss_cons (s_set 7 sc_law_house.nd (PD.f (d_tuple rfl (W.free 9) (PDN.v (n_lc [("_law_low", 9)] rfl sc_law_house.nd (i_lst (d_var 4)) (blkOk_by (N := N_law_house) (sc := defScope (top 89)) (by decide +kernel)) (by decide) (fun _ _ _ _ _ => (g_nm 9 sc_law_house.nd)) (fun _ _ _ _ _ => (ts_one (d_gtT (d_callM 0 c_law_draw hr (a_cons d_int a_nil)) d_int))) (fun _ _ _ _ _ => (d_var 9))))))) (ss_one (s_app 5 (d_tup (a_cons (d_var 6) (a_cons (d_tup (a_cons (d_callM 0 c_law_book hr (a_cons (d_var 2) (a_cons (d_var 3) a_nil))) (a_cons (d_var 7) a_nil))) a_nil))))))) (ss_one (s_ret (d_tuple rfl (W.free 9) (PDL.v (l_own 5))))))))
/-! _law_tree -/
abbrev N_law_tree : List Str := ["_law_m", "_law_house_here", "_law_most", "_law_belows_here", "_law_again", "_law_names", "_law_above", "_law_high"]
theorem sc_law_tree : FnScope N_law_tree ["_law_m", "_law_house_here", "_law_most"] (defScope (top 92)) := ⟨rfl, rfl, rfl, by decide +kernel, rfl, by decide +kernel, by decide +kernel⟩
def t_law_tree (F : Fm) (K : PySem.W.Frag) : TSD := (sSeq (sSet 3 (fDct K (kCall T_law_belows (aCons (dVar 1) aNil)))) (sSeq (sPar 5 6 (fOwn (aLst (aCons (d2 idxD (d2 idxD (dVar 1) (dCallM (F := F) 0 T_law_draw (aCons (d1 lenD (dVar 1)) aNil))) (dC (.int 0))) aNil))) (fOwn (aLst (aCons (dC .none) aNil)))) (sSeq (sFor (iR1 (dCallM (F := F) 0 T_law_draw (aCons (dVar 2) aNil))) (.nm 4) (sSeq (sSet 7 (fDat (dCallM (F := F) 0 T_law_draw (aCons (dLenV (lOwn 5)) aNil)))) (sIf (dTest (d2 neD (dKix (kVar K 3) (dIxV (lOwn 5) (dVar 7))) (dTup aNil))) (sSeq (sApp 5 (dCallM (F := F) 0 T_law_some (aCons (dKix (kVar K 3) (dIxV (lOwn 5) (dVar 7))) aNil))) (sApp 6 (dVar 7))) sNext))) (sRet (dTup (aCons (dTupV (lOwn 5)) (aCons (dTupV (lOwn 6)) aNil)))))))
theorem b_law_tree {P : Program} {w : World} {K : PySem.W.Frag} {mg : Str → Option Value} {base : Heap} (W : Wo P w K mg base) (c_law_belows : Cal P w K mg base 2 "_law_belows" (spK K T_law_belows)) (c_law_draw : Cal P w K mg base 2 "_law_draw" (spM K T_law_draw)) (c_law_some : Cal P w K mg base 2 "_law_some" (spM K T_law_some))
    (cdv : Value) (A : Around) (outer : List Env) (s : Shared) (H : Hp) (F : Fm) (E : XK) (hr : Room 2 (A.deeper (envOfC "_law_tree" (defScope (top 92)) s.heap.objs.size (He.ga K "_law_tree") cdv))) :
    PSsD (cxOf (L2.CX P w) P w K mg base N_law_tree "_law_tree" (defScope (top 92)) (He.ga K "_law_tree") cdv A outer s H E) F (defBody (top 92)) (t_law_tree F K) :=
  (ss_cons (s_set 3 sc_law_tree.nd (PDK.f (k_call c_law_belows hr (a_cons (d_var 1) a_nil)))) (ss_cons (s_par 5 6 rfl sc_law_tree.nd (PDN.f (n_lst (a_cons (d_ix (d_ix (d_var 1) (d_callM 0 c_law_draw hr (a_cons (d_len rfl (W.free 1) (d_var 1)) a_nil)) (by intro _ _; rfl)) d_int (by intro _ _; rfl)) a_nil))) (PDN.f (n_lst (a_cons d_non a_nil))) (by decide) (by rfl)) (ss_cons (s_for (passes_of rfl) rfl (i_range1 rfl (W.free 5) (d_callM 0 c_law_draw hr (a_cons (d_var 2) a_nil))) (g_nm 4 sc_law_tree.nd) (ss_cons (s_set 7 sc_law_tree.nd (PD.f (d_callM 0 c_law_draw hr (a_cons (d_lenV rfl (W.free 1) (PDL.v (l_own 5))) a_nil)))) (ss_one (s_if (d_neT hr.units (d_kix (units1 hr) (k_var 3) (d_ixV (PDL.v (l_own 5)) (d_var 7) (by intro _ _; rfl))) (d_tup a_nil)) (ss_cons (s_app 5 (d_callM 0 c_law_some hr (a_cons (d_kix (units1 hr) (k_var 3) (d_ixV (PDL.v (l_own 5)) (d_var 7) (by intro _ _; rfl))) a_nil))) (ss_one (s_app 6 (d_var 7)))) ss_nil)))) (ss_one (s_ret (d_tup (a_cons (d_tuple rfl (W.free 9) (PDL.v (l_own 5))) (a_cons (d_tuple rfl (W.free 9) (PDL.v (l_own 6))) a_nil))))))))
/-! _law_lot -/
abbrev N_law_lot : List Str := ["_law_tree_here", "_law_k", "_law_low"]
theorem sc_law_lot : FnScope N_law_lot ["_law_tree_here", "_law_k"] (defScope (top 93)) := ⟨rfl, rfl, rfl, by decide +kernel, rfl, by decide +kernel, by decide +kernel⟩
def t_law_lot : TSD := (sRet (dList (nLc (iR1 (d1 lenD (d2 idxD (dVar 0) (dC (.int 1))))) (.nm 2) (dTest (d2 eqD (d2 idxD (d2 idxD (dVar 0) (dC (.int 1))) (dVar 2)) (dVar 1))) (dVar 2) [2])))
theorem b_law_lot {P : Program} {w : World} {K : PySem.W.Frag} {mg : Str → Option Value} {base : Heap} (W : Wo P w K mg base) 
    (cdv : Value) (A : Around) (outer : List Env) (s : Shared) (H : Hp) (F : Fm) (E : XK) (hr : Room 0 (A.deeper (envOfC "_law_lot" (defScope (top 93)) s.heap.objs.size (He.ga K "_law_lot") cdv))) :
    PSsD (cxOf (L2.CX P w) P w K mg base N_law_lot "_law_lot" (defScope (top 93)) (He.ga K "_law_lot") cdv A outer s H E) F (defBody (top 93)) (t_law_lot) :=
  (ss_one (s_ret (PDN.d (n_lc [("_law_low", 2)] rfl sc_law_lot.nd (i_range1 rfl (W.free 5) (d_len rfl (W.free 1) (d_ix (d_var 0) d_int (by intro _ _; rfl)))) (blkOk_by (N := N_law_lot) (sc := defScope (top 93)) (by decide +kernel)) (by decide) (fun _ _ _ _ _ => (g_nm 2 sc_law_lot.nd)) (fun _ _ _ _ _ => (ts_one (d_eqT hr.units (d_ix (d_ix (d_var 0) d_int (by intro _ _; rfl)) (d_var 2) (by intro _ _; rfl)) (d_var 1)))) (fun _ _ _ _ _ => (d_var 2))))))
/-! _law_is_up -/
abbrev N_law_is_up : List Str := ["_law_house_here", "_law_tree_here", "_law_state", "_law_k"]
theorem sc_law_is_up : FnScope N_law_is_up ["_law_house_here", "_law_tree_here", "_law_state", "_law_k"] (defScope (top 94)) := ⟨rfl, rfl, rfl, by decide +kernel, rfl, by decide +kernel, by decide +kernel⟩
def t_law_is_up : TSD := (sRet (d2 inD (d2 idxD (d2 idxD (dVar 2) (dVar 3)) (dC (.int 0))) (d2 idxD (dKix (kCall T_law_books (aCons (dVar 0) aNil)) (d2 idxD (d2 idxD (dVar 1) (dC (.int 0))) (dVar 3))) (dC (.int 1)))))
theorem b_law_is_up {P : Program} {w : World} {K : PySem.W.Frag} {mg : Str → Option Value} {base : Heap} (W : Wo P w K mg base) (c_law_books : Cal P w K mg base 1 "_law_books" (spK K T_law_books))
    (cdv : Value) (A : Around) (outer : List Env) (s : Shared) (H : Hp) (F : Fm) (E : XK) (hr : Room 1 (A.deeper (envOfC "_law_is_up" (defScope (top 94)) s.heap.objs.size (He.ga K "_law_is_up") cdv))) :
    PSsD (cxOf (L2.CX P w) P w K mg base N_law_is_up "_law_is_up" (defScope (top 94)) (He.ga K "_law_is_up") cdv A outer s H E) F (defBody (top 94)) (t_law_is_up) :=
  (ss_one (s_ret (d_in (d_ix (d_ix (d_var 2) (d_var 3) (by intro _ _; rfl)) d_int (by intro _ _; rfl)) (d_ix (d_kix (units1 hr) (k_call c_law_books hr (a_cons (d_var 0) a_nil)) (d_ix (d_ix (d_var 1) d_int (by intro _ _; rfl)) (d_var 3) (by intro _ _; rfl))) d_int (by intro _ _; rfl)))))
/-! _law_is_held -/
abbrev N_law_is_held : List Str := ["_law_tree_here", "_law_state", "_law_k", "_law_low"]
theorem sc_law_is_held : FnScope N_law_is_held ["_law_tree_here", "_law_state", "_law_k"] (defScope (top 95)) := ⟨rfl, rfl, rfl, by decide +kernel, rfl, by decide +kernel, by decide +kernel⟩
def t_law_is_held : TSD := (sRet (dOrV (d2 gtD (d2 idxD (d2 idxD (dVar 1) (dVar 2)) (dC (.int 3))) (dC (.int 0))) (d2 neD (dList (nLc (iL (dCall T_law_lot (aCons (dVar 0) (aCons (dVar 2) aNil)))) (.nm 3) (dTest (d2 idxD (d2 idxD (dVar 1) (dVar 3)) (dC (.int 1)))) (dVar 3) [3])) (dList (aLst aNil)))))
theorem b_law_is_held {P : Program} {w : World} {K : PySem.W.Frag} {mg : Str → Option Value} {base : Heap} (W : Wo P w K mg base) (c_law_lot : Cal P w K mg base 1 "_law_lot" (spD K T_law_lot))
    (cdv : Value) (A : Around) (outer : List Env) (s : Shared) (H : Hp) (F : Fm) (E : XK) (hr : Room 1 (A.deeper (envOfC "_law_is_held" (defScope (top 95)) s.heap.objs.size (He.ga K "_law_is_held") cdv))) :
    PSsD (cxOf (L2.CX P w) P w K mg base N_law_is_held "_law_is_held" (defScope (top 95)) (He.ga K "_law_is_held") cdv A outer s H E) F (defBody (top 95)) (t_law_is_held) :=
  (ss_one (s_ret (d_orV (d_gt (d_ix (d_ix (d_var 1) (d_var 2) (by intro _ _; rfl)) d_int (by intro _ _; rfl)) d_int) (d_one (d_ne hr.units (PDN.d (n_lc [("_law_low", 3)] rfl sc_law_is_held.nd (i_lst (d_call c_law_lot hr (a_cons (d_var 0) (a_cons (d_var 2) a_nil)))) (blkOk_by (N := N_law_is_held) (sc := defScope (top 95)) (by decide +kernel)) (by decide) (fun _ _ _ _ _ => (g_nm 3 sc_law_is_held.nd)) (fun _ _ _ _ _ => (ts_one (d_val (d_ix (d_ix (d_var 1) (d_var 3) (by intro _ _; rfl)) d_int (by intro _ _; rfl))))) (fun _ _ _ _ _ => (d_var 3)))) (PDN.d (n_lst a_nil)))))))
/-! _law_is_so -/
abbrev N_law_is_so : List Str := ["_law_house_here", "_law_tree_here", "_law_state", "_law_k", "_law_ask", "_law_high", "_law_low"]
theorem sc_law_is_so : FnScope N_law_is_so ["_law_house_here", "_law_tree_here", "_law_state", "_law_k", "_law_ask"] (defScope (top 96)) := ⟨rfl, rfl, rfl, by decide +kernel, rfl, by decide +kernel, by decide +kernel⟩
def t_law_is_so : TSD := (sSeq (sIf (dTest (d2 eqD (dVar 4) (dC (.str "over")))) (sRet (dOrV (d2 eqD (dVar 3) (dC (.int 0))) (dCall T_law_is_up (aCons (dVar 0) (aCons (dVar 1) (aCons (dVar 2) (aCons (d2 idxD (d2 idxD (dVar 1) (dC (.int 1))) (dVar 3)) aNil))))))) sNext) (sSeq (sIf (dTest (d2 eqD (dVar 4) (dC (.str "rung")))) (sRet (d2 idxD (d2 idxD (dVar 2) (dVar 3)) (dC (.int 2)))) sNext) (sSeq (sIf (dTest (d2 eqD (dVar 4) (dC (.str "held")))) (sRet (dCall T_law_is_held (aCons (dVar 1) (aCons (dVar 2) (aCons (dVar 3) aNil))))) sNext) (sSeq (sSet 5 (fDat (dList (nLc (iL (dCall T_law_lot (aCons (dVar 1) (aCons (dVar 3) aNil)))) (.nm 6) (dTest (dCall T_law_is_up (aCons (dVar 0) (aCons (dVar 1) (aCons (dVar 2) (aCons (dVar 6) aNil)))))) (dVar 6) [6])))) (sRet (dAndV (dNotV (dCall T_law_is_held (aCons (dVar 1) (aCons (dVar 2) (aCons (dVar 3) aNil))))) (dOrV (d2 eqD (dVar 4) (dC (.str "unheld"))) (d2 eqD (dVar 5) (dList (aLst aNil))))))))))
theorem b_law_is_so {P : Program} {w : World} {K : PySem.W.Frag} {mg : Str → Option Value} {base : Heap} (W : Wo P w K mg base) (c_law_is_held : Cal P w K mg base 2 "_law_is_held" (spD K T_law_is_held)) (c_law_is_up : Cal P w K mg base 2 "_law_is_up" (spD K T_law_is_up)) (c_law_lot : Cal P w K mg base 2 "_law_lot" (spD K T_law_lot))
    (cdv : Value) (A : Around) (outer : List Env) (s : Shared) (H : Hp) (F : Fm) (E : XK) (hr : Room 2 (A.deeper (envOfC "_law_is_so" (defScope (top 96)) s.heap.objs.size (He.ga K "_law_is_so") cdv))) :
    PSsD (cxOf (L2.CX P w) P w K mg base N_law_is_so "_law_is_so" (defScope (top 96)) (He.ga K "_law_is_so") cdv A outer s H E) F (defBody (top 96)) (t_law_is_so) :=
  (ss_cons (s_if (d_eqT hr.units (d_var 4) d_str) (ss_one (s_ret (d_orV (d_eq hr.units (d_var 3) d_int) (d_one (d_call c_law_is_up hr (a_cons (d_var 0) (a_cons (d_var 1) (a_cons (d_var 2) (a_cons (d_ix (d_ix (d_var 1) d_int (by intro _ _; rfl)) (d_var 3) (by intro _ _; rfl)) a_nil))))))))) ss_nil) (ss_cons (s_if (d_eqT hr.units (d_var 4) d_str) (ss_one (s_ret (d_ix (d_ix (d_var 2) (d_var 3) (by intro _ _; rfl)) d_int (by intro _ _; rfl)))) ss_nil) (ss_cons (s_if (d_eqT hr.units (d_var 4) d_str) (ss_one (s_ret (d_call c_law_is_held hr (a_cons (d_var 1) (a_cons (d_var 2) (a_cons (d_var 3) a_nil)))))) ss_nil) (ss_cons (s_setLcD 5 [("_law_low", 6)] rfl sc_law_is_so.nd (i_lst (d_call c_law_lot hr (a_cons (d_var 1) (a_cons (d_var 3) a_nil)))) (blkOk_by (N := N_law_is_so) (sc := defScope (top 96)) (by decide +kernel)) (by decide) (fun _ _ _ _ _ => (g_nm 6 sc_law_is_so.nd)) (fun _ _ _ _ _ => (ts_one (d_val (d_call c_law_is_up hr (a_cons (d_var 0) (a_cons (d_var 1) (a_cons (d_var 2) (a_cons (d_var 6) a_nil)))))))) (fun _ _ _ _ _ => (d_var 6)) (by rfl)) (ss_one (s_ret (d_andV (d_notV (d_call c_law_is_held hr (a_cons (d_var 1) (a_cons (d_var 2) (a_cons (d_var 3) a_nil))))) (d_one (d_orV (d_eq hr.units (d_var 4) d_str) (d_one (d_eq hr.units (d_var 5) (PDN.d (n_lst a_nil)))))))))))))
/-! _law_may -/
abbrev N_law_may : List Str := ["_law_house_here", "_law_tree_here", "_law_state", "_law_k", "_law_edge_here", "_law_wrong", "_law_stand", "_law_holds", "_law_rung", "_law_many", "_law_ask"]
theorem sc_law_may : FnScope N_law_may ["_law_house_here", "_law_tree_here", "_law_state", "_law_k", "_law_edge_here"] (defScope (top 97)) := ⟨rfl, rfl, rfl, by decide +kernel, rfl, by decide +kernel, by decide +kernel⟩
def t_law_may : TSD := (sSeq (sAsg (d2 idxD (dVar 2) (dVar 3)) (.tup [(.nm 6), (.nm 7), (.nm 8), (.nm 9)])) (sSeq (sSet 5 (fOwn (nLc (iT (d2 idxD (dVar 4) (dC (.int 1)))) (.nm 10) (dNot (dTest (dCall T_law_is_so (aCons (dVar 0) (aCons (dVar 1) (aCons (dVar 2) (aCons (dVar 3) (aCons (dVar 10) aNil)))))))) (dVar 10) [10]))) (sSeq (sIf (dOr (dTest (d2 neD (d2 idxD (dVar 4) (dC (.int 0))) (dVar 6))) (dTest (dV2 neD (lOwn 5) (dList (aLst aNil))))) (sRet (dC (.bool false))) sNext) (sSeq (sIf (dTest (d2 eqD (d2 idxD (dVar 4) (dC (.int 2))) (dC (.str "hold")))) (sRet (dNotV (dVar 7))) sNext) (sRet (dIf (dTest (d2 eqD (d2 idxD (dVar 4) (dC (.int 2))) (dC (.str "give")))) (dVar 7) (dOrV (dVar 8) (d2 neD (d2 idxD (dVar 4) (dC (.int 2))) (dC (.str "hush"))))))))))
theorem b_law_may {P : Program} {w : World} {K : PySem.W.Frag} {mg : Str → Option Value} {base : Heap} (W : Wo P w K mg base) (c_law_is_so : Cal P w K mg base 3 "_law_is_so" (spD K T_law_is_so))
    (cdv : Value) (A : Around) (outer : List Env) (s : Shared) (H : Hp) (F : Fm) (E : XK) (hr : Room 3 (A.deeper (envOfC "_law_may" (defScope (top 97)) s.heap.objs.size (He.ga K "_law_may") cdv))) :
    PSsD (cxOf (L2.CX P w) P w K mg base N_law_may "_law_may" (defScope (top 97)) (He.ga K "_law_may") cdv A outer s H E) F (defBody (top 97)) (t_law_may) :=
  (ss_cons (s_asg (d_ix (d_var 2) (d_var 3) (by intro _ _; rfl)) (g_tup rfl (g_cons (g_nm 6 sc_law_may.nd) (g_cons (g_nm 7 sc_law_may.nd) (g_cons (g_nm 8 sc_law_may.nd) (g_cons (g_nm 9 sc_law_may.nd) g_nil)))))) (ss_cons (s_setLc 5 [("_law_ask", 10)] rfl sc_law_may.nd (i_tup (d_ix (d_var 4) d_int (by intro _ _; rfl))) (blkOk_by (N := N_law_may) (sc := defScope (top 97)) (by decide +kernel)) (by decide) (fun _ _ _ _ _ => (g_nm 10 sc_law_may.nd)) (fun _ _ _ _ _ => (ts_one (d_notT (d_val (d_call c_law_is_so hr (a_cons (d_var 0) (a_cons (d_var 1) (a_cons (d_var 2) (a_cons (d_var 3) (a_cons (d_var 10) a_nil)))))))))) (fun _ _ _ _ _ => (d_var 10)) (by rfl)) (ss_cons (s_if (PDW.t (d_orW (d_neT hr.units (d_ix (d_var 4) d_int (by intro _ _; rfl)) (d_var 6)) (d_or1 (d_neVT hr.units (PDL.v (l_own 5)) (PDN.d (n_lst a_nil)))))) (ss_one (s_ret d_bl)) ss_nil) (ss_cons (s_if (d_eqT hr.units (d_ix (d_var 4) d_int (by intro _ _; rfl)) d_str) (ss_one (s_ret (d_notV (d_var 7)))) ss_nil) (ss_one (s_ret (d_ifExp (d_eqT hr.units (d_ix (d_var 4) d_int (by intro _ _; rfl)) d_str) (d_var 7) (d_orV (d_var 8) (d_one (d_ne hr.units (d_ix (d_var 4) d_int (by intro _ _; rfl)) d_str))))))))))
/-! _law_moves -/
abbrev N_law_moves : List Str := ["_law_house_here", "_law_tree_here", "_law_state", "_law_found", "_law_k", "_law_edge_here"]
theorem sc_law_moves : FnScope N_law_moves ["_law_house_here", "_law_tree_here", "_law_state"] (defScope (top 98)) := ⟨rfl, rfl, rfl, by decide +kernel, rfl, by decide +kernel, by decide +kernel⟩
def t_law_moves : TSD := (sSeq (sSet 3 (fOwn (aLst aNil))) (sSeq (sFor (iR1 (d1 lenD (d2 idxD (dVar 1) (dC (.int 0))))) (.nm 4) (sFor (iT (d2 idxD (dKix (kCall T_law_books (aCons (dVar 0) aNil)) (d2 idxD (d2 idxD (dVar 1) (dC (.int 0))) (dVar 4))) (dC (.int 3)))) (.nm 5) (sIf (dTest (dCall T_law_may (aCons (dVar 0) (aCons (dVar 1) (aCons (dVar 2) (aCons (dVar 4) (aCons (dVar 5) aNil))))))) (sApp 3 (dTup (aCons (dC (.str "edge")) (aCons (dVar 4) (aCons (dVar 5) aNil))))) sNext))) (sRetO 3)))
theorem b_law_moves {P : Program} {w : World} {K : PySem.W.Frag} {mg : Str → Option Value} {base : Heap} (W : Wo P w K mg base) (c_law_books : Cal P w K mg base 4 "_law_books" (spK K T_law_books)) (c_law_may : Cal P w K mg base 4 "_law_may" (spD K T_law_may))
    (cdv : Value) (A : Around) (outer : List Env) (s : Shared) (H : Hp) (F : Fm) (E : XK) (hr : Room 4 (A.deeper (envOfC "_law_moves" (defScope (top 98)) s.heap.objs.size (He.ga K "_law_moves") cdv))) :
    PSsD (cxOf (L2.CX P w) P w K mg base N_law_moves "_law_moves" (defScope (top 98)) (He.ga K "_law_moves") cdv A outer s H E) F (defBody (top 98)) (t_law_moves) :=
  (ss_cons (s_set 3 sc_law_moves.nd (PDN.f (n_lst a_nil))) (ss_cons (s_for (passes_of rfl) rfl (i_range1 rfl (W.free 5) (d_len rfl (W.free 1) (d_ix (d_var 1) d_int (by intro _ _; rfl)))) (g_nm 4 sc_law_moves.nd) (ss_one (s_for (passes_of rfl) rfl (i_tup (d_ix (d_kix (units1 hr) (k_call c_law_books hr (a_cons (d_var 0) a_nil)) (d_ix (d_ix (d_var 1) d_int (by intro _ _; rfl)) (d_var 4) (by intro _ _; rfl))) d_int (by intro _ _; rfl))) (g_nm 5 sc_law_moves.nd) (ss_one (s_if (d_val (d_call c_law_may hr (a_cons (d_var 0) (a_cons (d_var 1) (a_cons (d_var 2) (a_cons (d_var 4) (a_cons (d_var 5) a_nil))))))) (ss_one (s_app 3 (d_tup (a_cons d_str (a_cons (d_var 4) (a_cons (d_var 5) a_nil)))))) ss_nil))))) (ss_one (s_retO 3))))
/-! _law_done -/
abbrev N_law_done : List Str := ["_law_house_here", "_law_tree_here", "_law_state", "_law_move", "_law_stand", "_law_holds", "_law_rung", "_law_many", "_law_own", "_law_deed"]
theorem sc_law_done : FnScope N_law_done ["_law_house_here", "_law_tree_here", "_law_state", "_law_move"] (defScope (top 99)) := ⟨rfl, rfl, rfl, by decide +kernel, rfl, by decide +kernel, by decide +kernel⟩
def t_law_done : TSD := (sSeq (sAsg (d2 idxD (dVar 2) (d2 idxD (dVar 3) (dC (.int 1)))) (.tup [(.nm 4), (.nm 5), (.nm 6), (.nm 7)])) (sSeq (sIf (dTest (d2 eqD (d2 idxD (dVar 3) (dC (.int 0))) (dC (.str "come")))) (sSet 8 (fDat (dTup (aCons (dVar 4) (aCons (dVar 5) (aCons (dVar 6) (aCons (d2 addD (dVar 7) (dC (.int 1))) aNil))))))) (sIf (dTest (d2 eqD (d2 idxD (dVar 3) (dC (.int 0))) (dC (.str "leave")))) (sSet 8 (fDat (dTup (aCons (dVar 4) (aCons (dVar 5) (aCons (dVar 6) (aCons (d2 subD (dVar 7) (dC (.int 1))) aNil))))))) (sIf (dTest (d2 eqD (d2 idxD (dVar 3) (dC (.int 0))) (dC (.str "bell")))) (sSet 8 (fDat (dTup (aCons (dVar 4) (aCons (dVar 5) (aCons (dOrV (dVar 6) (d2 ninD (dVar 4) (d2 idxD (dKix (kCall T_law_books (aCons (dVar 0) aNil)) (d2 idxD (d2 idxD (dVar 1) (dC (.int 0))) (d2 idxD (dVar 3) (dC (.int 1))))) (dC (.int 2))))) (aCons (dVar 7) aNil))))))) (sSeq (sSet 9 (fDat (d2 idxD (d2 idxD (dVar 3) (dC (.int 2))) (dC (.int 2))))) (sSet 8 (fDat (dTup (aCons (d2 idxD (d2 idxD (dVar 3) (dC (.int 2))) (dC (.int 3))) (aCons (dAndV (dOrV (dVar 5) (d2 eqD (dVar 9) (dC (.str "hold")))) (d2 neD (dVar 9) (dC (.str "give")))) (aCons (dAndV (dVar 6) (d2 neD (dVar 9) (dC (.str "hush")))) (aCons (dVar 7) aNil))))))))))) (sRet (d2 addD (d2 addD (dSl (dVar 2) oNo (oSome (d2 idxD (dVar 3) (dC (.int 1))))) (dTup (aCons (dVar 8) aNil))) (dSl (dVar 2) (oSome (d2 addD (d2 idxD (dVar 3) (dC (.int 1))) (dC (.int 1)))) oNo)))))
theorem b_law_done {P : Program} {w : World} {K : PySem.W.Frag} {mg : Str → Option Value} {base : Heap} (W : Wo P w K mg base) (c_law_books : Cal P w K mg base 1 "_law_books" (spK K T_law_books))
    (cdv : Value) (A : Around) (outer : List Env) (s : Shared) (H : Hp) (F : Fm) (E : XK) (hr : Room 1 (A.deeper (envOfC "_law_done" (defScope (top 99)) s.heap.objs.size (He.ga K "_law_done") cdv))) :
    PSsD (cxOf (L2.CX P w) P w K mg base N_law_done "_law_done" (defScope (top 99)) (He.ga K "_law_done") cdv A outer s H E) F (defBody (top 99)) (t_law_done) :=
  (ss_cons (s_asg (d_ix (d_var 2) (d_ix (d_var 3) d_int (by intro _ _; rfl)) (by intro _ _; rfl)) (g_tup rfl (g_cons (g_nm 4 sc_law_done.nd) (g_cons (g_nm 5 sc_law_done.nd) (g_cons (g_nm 6 sc_law_done.nd) (g_cons (g_nm 7 sc_law_done.nd) g_nil)))))) (ss_cons (s_if (d_eqT hr.units (d_ix (d_var 3) d_int (by intro _ _; rfl)) d_str) (ss_one (s_set 8 sc_law_done.nd (PD.f (d_tup (a_cons (d_var 4) (a_cons (d_var 5) (a_cons (d_var 6) (a_cons (d_add (d_var 7) d_int) a_nil)))))))) (ss_one (s_if (d_eqT hr.units (d_ix (d_var 3) d_int (by intro _ _; rfl)) d_str) (ss_one (s_set 8 sc_law_done.nd (PD.f (d_tup (a_cons (d_var 4) (a_cons (d_var 5) (a_cons (d_var 6) (a_cons (d_sub (d_var 7) d_int) a_nil)))))))) (ss_one (s_if (d_eqT hr.units (d_ix (d_var 3) d_int (by intro _ _; rfl)) d_str) (ss_one (s_set 8 sc_law_done.nd (PD.f (d_tup (a_cons (d_var 4) (a_cons (d_var 5) (a_cons (d_orV (d_var 6) (d_one (d_nin (d_var 4) (d_ix (d_kix (units1 hr) (k_call c_law_books hr (a_cons (d_var 0) a_nil)) (d_ix (d_ix (d_var 1) d_int (by intro _ _; rfl)) (d_ix (d_var 3) d_int (by intro _ _; rfl)) (by intro _ _; rfl))) d_int (by intro _ _; rfl))))) (a_cons (d_var 7) a_nil)))))))) (ss_cons (s_set 9 sc_law_done.nd (PD.f (d_ix (d_ix (d_var 3) d_int (by intro _ _; rfl)) d_int (by intro _ _; rfl)))) (ss_one (s_set 8 sc_law_done.nd (PD.f (d_tup (a_cons (d_ix (d_ix (d_var 3) d_int (by intro _ _; rfl)) d_int (by intro _ _; rfl)) (a_cons (d_andV (d_orV (d_var 5) (d_one (d_eq hr.units (d_var 9) d_str))) (d_one (d_ne hr.units (d_var 9) d_str))) (a_cons (d_andV (d_var 6) (d_one (d_ne hr.units (d_var 9) d_str))) (a_cons (d_var 7) a_nil)))))))))))))) (ss_one (s_ret (d_add (d_add (d_slice (d_var 2) o_none (o_some (d_ix (d_var 3) d_int (by intro _ _; rfl)))) (d_tup (a_cons (d_var 8) a_nil))) (d_slice (d_var 2) (o_some (d_add (d_ix (d_var 3) d_int (by intro _ _; rfl)) d_int)) o_none))))))
/-! _law_any -/
abbrev N_law_any : List Str := ["_law_m", "_law_house_here", "_law_tree_here", "_law_state", "_law_some_here", "_law_k"]
theorem sc_law_any : FnScope N_law_any ["_law_m", "_law_house_here", "_law_tree_here", "_law_state"] (defScope (top 100)) := ⟨rfl, rfl, rfl, by decide +kernel, rfl, by decide +kernel, by decide +kernel⟩
def t_law_any (F : Fm) : TSD := (sSeq (sPar 4 5 (fDat (dCall T_law_moves (aCons (dVar 1) (aCons (dVar 2) (aCons (dVar 3) aNil))))) (fDat (dCallM (F := F) 0 T_law_draw (aCons (d1 lenD (d2 idxD (dVar 2) (dC (.int 0)))) aNil)))) (sSeq (sIf (dAnd (dTest (d2 neD (dVar 4) (dList (aLst aNil)))) (dTest (d2 gtD (dCallM (F := F) 0 T_law_draw (aCons (dC (.int 4)) aNil)) (dC (.int 0))))) (sRet (dCallM (F := F) 0 T_law_some (aCons (dVar 4) aNil))) sNext) (sSeq (sIf (dAnd (dTest (d2 gtD (d2 idxD (d2 idxD (dVar 3) (dVar 5)) (dC (.int 3))) (dC (.int 0)))) (dTest (d2 eqD (dCallM (F := F) 0 T_law_draw (aCons (dC (.int 2)) aNil)) (dC (.int 0))))) (sRet (dTup (aCons (dC (.str "leave")) (aCons (dVar 5) aNil)))) sNext) (sRet (dTup (aCons (dCallM (F := F) 0 T_law_some (aCons (dList (aLst (aCons (dC (.str "come")) (aCons (dC (.str "bell")) aNil)))) aNil)) (aCons (dVar 5) aNil)))))))
theorem b_law_any {P : Program} {w : World} {K : PySem.W.Frag} {mg : Str → Option Value} {base : Heap} (W : Wo P w K mg base) (c_law_draw : Cal P w K mg base 5 "_law_draw" (spM K T_law_draw)) (c_law_moves : Cal P w K mg base 5 "_law_moves" (spD K T_law_moves)) (c_law_some : Cal P w K mg base 5 "_law_some" (spM K T_law_some))
    (cdv : Value) (A : Around) (outer : List Env) (s : Shared) (H : Hp) (F : Fm) (E : XK) (hr : Room 5 (A.deeper (envOfC "_law_any" (defScope (top 100)) s.heap.objs.size (He.ga K "_law_any") cdv))) :
    PSsD (cxOf (L2.CX P w) P w K mg base N_law_any "_law_any" (defScope (top 100)) (He.ga K "_law_any") cdv A outer s H E) F (defBody (top 100)) (t_law_any F) :=
  (ss_cons (s_par 4 5 rfl sc_law_any.nd (PD.f (d_call c_law_moves hr (a_cons (d_var 1) (a_cons (d_var 2) (a_cons (d_var 3) a_nil))))) (PD.f (d_callM 0 c_law_draw hr (a_cons (d_len rfl (W.free 1) (d_ix (d_var 2) d_int (by intro _ _; rfl))) a_nil))) (by decide) (by rfl)) (ss_cons (s_if (PDW.t (d_andW (d_neT hr.units (d_var 4) (PDN.d (n_lst a_nil))) (d_and1 (d_gtT (d_callM 0 c_law_draw hr (a_cons d_int a_nil)) d_int)))) (ss_one (s_ret (d_callM 0 c_law_some hr (a_cons (d_var 4) a_nil)))) ss_nil) (ss_cons (s_if (PDW.t (d_andW (d_gtT (d_ix (d_ix (d_var 3) (d_var 5) (by intro _ _; rfl)) d_int (by intro _ _; rfl)) d_int) (d_and1 (d_eqT hr.units (d_callM 0 c_law_draw hr (a_cons d_int a_nil)) d_int)))) (ss_one (s_ret (d_tup (a_cons d_str (a_cons (d_var 5) a_nil))))) ss_nil) (ss_one (s_ret (d_tup (a_cons (d_callM 0 c_law_some hr (a_cons (PDN.d (n_lst (a_cons d_str (a_cons d_str a_nil)))) a_nil)) (a_cons (d_var 5) a_nil))))))))
/-! _law_begin -/
abbrev N_law_begin : List Str := ["_law_tree_here"]
theorem sc_law_begin : FnScope N_law_begin ["_law_tree_here"] (defScope (top 101)) := ⟨rfl, rfl, rfl, by decide +kernel, rfl, by decide +kernel, by decide +kernel⟩
def t_law_begin : TSD := (sRet (d2 mulD (dTup (aCons (dTup (aCons (dC (.int 0)) (aCons (dC (.bool false)) (aCons (dC (.bool false)) (aCons (dC (.int 0)) aNil))))) aNil)) (d1 lenD (d2 idxD (dVar 0) (dC (.int 0))))))
theorem b_law_begin {P : Program} {w : World} {K : PySem.W.Frag} {mg : Str → Option Value} {base : Heap} (W : Wo P w K mg base) 
    (cdv : Value) (A : Around) (outer : List Env) (s : Shared) (H : Hp) (F : Fm) (E : XK) (hr : Room 0 (A.deeper (envOfC "_law_begin" (defScope (top 101)) s.heap.objs.size (He.ga K "_law_begin") cdv))) :
    PSsD (cxOf (L2.CX P w) P w K mg base N_law_begin "_law_begin" (defScope (top 101)) (He.ga K "_law_begin") cdv A outer s H E) F (defBody (top 101)) (t_law_begin) :=
  (ss_one (s_ret (d_mulT (d_tup (a_cons (d_tup (a_cons d_int (a_cons d_bl (a_cons d_bl (a_cons d_int a_nil))))) a_nil)) (d_len rfl (W.free 1) (d_ix (d_var 0) d_int (by intro _ _; rfl))))))
/-! _law_weaving -/
abbrev N_law_weaving : List Str := ["_law_m", "_law_house_here", "_law_tree_here", "_law_most", "_law_again", "_law_state", "_law_found"]
theorem sc_law_weaving : FnScope N_law_weaving ["_law_m", "_law_house_here", "_law_tree_here", "_law_most"] (defScope (top 102)) := ⟨rfl, rfl, rfl, by decide +kernel, rfl, by decide +kernel, by decide +kernel⟩
def t_law_weaving (F : Fm) : TSD := (sSeq (sPar 5 6 (fDat (dCall T_law_begin (aCons (dVar 2) aNil))) (fOwn (aLst aNil))) (sSeq (sFor (iR1 (dCallM (F := F) 0 T_law_draw (aCons (d2 addD (dVar 3) (dC (.int 1))) aNil))) (.nm 4) (sSeq (sApp 6 (dCallM (F := F) 0 T_law_any (aCons (dVar 1) (aCons (dVar 2) (aCons (dVar 5) aNil))))) (sSet 5 (fDat (dCall T_law_done (aCons (dVar 1) (aCons (dVar 2) (aCons (dVar 5) (aCons (dIxV (lOwn 6) (dC (.int (-1)))) aNil))))))))) (sRet (dTup (aCons (dTupV (lOwn 6)) (aCons (dVar 5) aNil))))))
theorem b_law_weaving {P : Program} {w : World} {K : PySem.W.Frag} {mg : Str → Option Value} {base : Heap} (W : Wo P w K mg base) (c_law_any : Cal P w K mg base 6 "_law_any" (spM K T_law_any)) (c_law_begin : Cal P w K mg base 6 "_law_begin" (spD K T_law_begin)) (c_law_done : Cal P w K mg base 6 "_law_done" (spD K T_law_done)) (c_law_draw : Cal P w K mg base 6 "_law_draw" (spM K T_law_draw))
    (cdv : Value) (A : Around) (outer : List Env) (s : Shared) (H : Hp) (F : Fm) (E : XK) (hr : Room 6 (A.deeper (envOfC "_law_weaving" (defScope (top 102)) s.heap.objs.size (He.ga K "_law_weaving") cdv))) :
    PSsD (cxOf (L2.CX P w) P w K mg base N_law_weaving "_law_weaving" (defScope (top 102)) (He.ga K "_law_weaving") cdv A outer s H E) F (defBody (top 102)) (t_law_weaving F) :=
  (ss_cons (s_par 5 6 rfl sc_law_weaving.nd (PD.f (d_call c_law_begin hr (a_cons (d_var 2) a_nil))) (PDN.f (n_lst a_nil)) (by decide) (by rfl)) (ss_cons (s_for (passes_of rfl) rfl (i_range1 rfl (W.free 5) (d_callM 0 c_law_draw hr (a_cons (d_add (d_var 3) d_int) a_nil))) (g_nm 4 sc_law_weaving.nd) (ss_cons (s_app 6 (d_callM 0 c_law_any hr (a_cons (d_var 1) (a_cons (d_var 2) (a_cons (d_var 5) a_nil))))) (ss_one (s_set 5 sc_law_weaving.nd (PD.f (d_call c_law_done hr (a_cons (d_var 1) (a_cons (d_var 2) (a_cons (d_var 5) (a_cons (d_ixV (PDL.v (l_own 6)) d_neg (by intro _ _; rfl)) a_nil)))))))))) (ss_one (s_ret (d_tup (a_cons (d_tuple rfl (W.free 9) (PDL.v (l_own 6))) (a_cons (d_var 5) a_nil)))))))
/-! _law_edge_text -/
abbrev N_law_edge_text : List Str := ["_law_edge_here"]
theorem sc_law_edge_text : FnScope N_law_edge_text ["_law_edge_here"] (defScope (top 103)) := ⟨rfl, rfl, rfl, by decide +kernel, rfl, by decide +kernel, by decide +kernel⟩
def t_law_edge_text : TSD := (sRet (dJoin (dC (.str " ")) (nCat (aLst (aCons (d1 strD (d2 idxD (dVar 0) (dC (.int 0)))) (aCons (d2 idxD (dVar 0) (dC (.int 2))) (aCons (d1 strD (d2 idxD (dVar 0) (dC (.int 3)))) aNil)))) (nSeq (d2 idxD (dVar 0) (dC (.int 1)))))))
theorem b_law_edge_text {P : Program} {w : World} {K : PySem.W.Frag} {mg : Str → Option Value} {base : Heap} (W : Wo P w K mg base) 
    (cdv : Value) (A : Around) (outer : List Env) (s : Shared) (H : Hp) (F : Fm) (E : XK) (hr : Room 0 (A.deeper (envOfC "_law_edge_text" (defScope (top 103)) s.heap.objs.size (He.ga K "_law_edge_text") cdv))) :
    PSsD (cxOf (L2.CX P w) P w K mg base N_law_edge_text "_law_edge_text" (defScope (top 103)) (He.ga K "_law_edge_text") cdv A outer s H E) F (defBody (top 103)) (t_law_edge_text) :=
  (ss_one (s_ret (d_join d_str (PDN.v (n_cat (PDN.l (n_lst (a_cons (d_strC rfl (W.free 6) (d_ix (d_var 0) d_int (by intro _ _; rfl))) (a_cons (d_ix (d_var 0) d_int (by intro _ _; rfl)) (a_cons (d_strC rfl (W.free 6) (d_ix (d_var 0) d_int (by intro _ _; rfl))) a_nil))))) (PDN.l (n_list rfl (W.free 10) (d_ix (d_var 0) d_int (by intro _ _; rfl)))))))))
/-! _law_house_text -/
abbrev N_law_house_text : List Str := ["_law_house_here", "_law_rows", "_law_name", "_law_kind", "_law_many", "_law_up", "_law_deaf", "_law_edges", "_law_word", "_law_some_here", "_law_edge_here", "_law_own"]
theorem sc_law_house_text : FnScope N_law_house_text ["_law_house_here"] (defScope (top 104)) := ⟨rfl, rfl, rfl, by decide +kernel, rfl, by decide +kernel, by decide +kernel⟩
def t_law_house_text : TSD := (sSeq (sSet 1 (fOwn (aLst aNil))) (sSeq (sFor (iT (dVar 0)) (.tup [(.nm 2), (.nm 3)]) (sSeq (sAsg (d2 idxD (dVar 3) (dC (.int 0))) (.tup [(.nm 4), (.nm 5), (.nm 6), (.nm 7)])) (sSeq (sApp 1 (d2 addD (d2 addD (d2 addD (dC (.str "kind ")) (dVar 2)) (dC (.str " "))) (d1 strD (dVar 4)))) (sSeq (sFor (iT (dTup (aCons (dTup (aCons (dC (.str "up")) (aCons (dVar 5) aNil))) (aCons (dTup (aCons (dC (.str "deaf")) (aCons (dVar 6) aNil))) aNil)))) (.tup [(.nm 8), (.nm 9)]) (sSet 1 (fOwn (nCat (lOwn 1) (nRep (aLst (aCons (dJoin (dC (.str " ")) (nCat (aLst (aCons (dVar 8) aNil)) (nLc (iT (dVar 9)) (.nm 11) dYes (d1 strD (dVar 11)) [11]))) aNil)) (d1 intD (d2 neD (dVar 9) (dTup aNil)))))))) (sSeq (sSet 1 (fOwn (nCat (lOwn 1) (nLc (iT (dVar 7)) (.nm 10) dYes (dCall T_law_edge_text (aCons (dVar 10) aNil)) [10])))) (sSet 1 (fOwn (nCat (lOwn 1) (nRep (aLst (aCons (d2 addD (dC (.str "below ")) (dJoinT (dC (.str " ")) (d2 idxD (dVar 3) (dC (.int 1))))) aNil)) (d1 intD (d2 neD (d2 idxD (dVar 3) (dC (.int 1))) (dTup aNil)))))))))))) (sRet (dJoin (dC (.str "\n")) (lOwn 1)))))
theorem b_law_house_text {P : Program} {w : World} {K : PySem.W.Frag} {mg : Str → Option Value} {base : Heap} (W : Wo P w K mg base) (c_law_edge_text : Cal P w K mg base 1 "_law_edge_text" (spD K T_law_edge_text))
    (cdv : Value) (A : Around) (outer : List Env) (s : Shared) (H : Hp) (F : Fm) (E : XK) (hr : Room 1 (A.deeper (envOfC "_law_house_text" (defScope (top 104)) s.heap.objs.size (He.ga K "_law_house_text") cdv))) :
    PSsD (cxOf (L2.CX P w) P w K mg base N_law_house_text "_law_house_text" (defScope (top 104)) (He.ga K "_law_house_text") cdv A outer s H E) F (defBody (top 104)) (t_law_house_text) :=
  (ss_cons (s_set 1 sc_law_house_text.nd (PDN.f (n_lst a_nil))) (ss_cons (s_for (passes_of rfl) rfl (i_tup (d_var 0)) (g_tup rfl (g_cons (g_nm 2 sc_law_house_text.nd) (g_cons (g_nm 3 sc_law_house_text.nd) g_nil))) (ss_cons (s_asg (d_ix (d_var 3) d_int (by intro _ _; rfl)) (g_tup rfl (g_cons (g_nm 4 sc_law_house_text.nd) (g_cons (g_nm 5 sc_law_house_text.nd) (g_cons (g_nm 6 sc_law_house_text.nd) (g_cons (g_nm 7 sc_law_house_text.nd) g_nil)))))) (ss_cons (s_app 1 (d_add (d_add (d_add d_str (d_var 2)) d_str) (d_strC rfl (W.free 6) (d_var 4)))) (ss_cons (s_for (passes_of rfl) rfl (i_tup (d_tup (a_cons (d_tup (a_cons d_str (a_cons (d_var 5) a_nil))) (a_cons (d_tup (a_cons d_str (a_cons (d_var 6) a_nil))) a_nil)))) (g_tup rfl (g_cons (g_nm 8 sc_law_house_text.nd) (g_cons (g_nm 9 sc_law_house_text.nd) g_nil))) (ss_one (s_set 1 sc_law_house_text.nd (PDN.f (n_cat (l_own 1) (PDN.l (n_rep (PDN.l (n_lst (a_cons (d_join d_str (PDN.v (n_cat (PDN.l (n_lst (a_cons (d_var 8) a_nil))) (PDN.l (n_lc [("_law_own", 11)] rfl sc_law_house_text.nd (i_tup (d_var 9)) (blkOk_by (N := N_law_house_text) (sc := defScope (top 104)) (by decide +kernel)) (by decide) (fun _ _ _ _ _ => (g_nm 11 sc_law_house_text.nd)) (fun _ _ _ _ _ => ts_nil) (fun _ _ _ _ _ => (d_strC rfl (W.free 6) (d_var 11)))))))) a_nil))) (d_intC rfl (W.free 7) (d_ne hr.units (d_var 9) (d_tup a_nil)))))))))) (ss_cons (s_set 1 sc_law_house_text.nd (PDN.f (n_cat (l_own 1) (PDN.l (n_lc [("_law_edge_here", 10)] rfl sc_law_house_text.nd (i_tup (d_var 7)) (blkOk_by (N := N_law_house_text) (sc := defScope (top 104)) (by decide +kernel)) (by decide) (fun _ _ _ _ _ => (g_nm 10 sc_law_house_text.nd)) (fun _ _ _ _ _ => ts_nil) (fun _ _ _ _ _ => (d_call c_law_edge_text hr (a_cons (d_var 10) a_nil)))))))) (ss_one (s_set 1 sc_law_house_text.nd (PDN.f (n_cat (l_own 1) (PDN.l (n_rep (PDN.l (n_lst (a_cons (d_add d_str (d_joinT d_str (d_ix (d_var 3) d_int (by intro _ _; rfl)))) a_nil))) (d_intC rfl (W.free 7) (d_ne hr.units (d_ix (d_var 3) d_int (by intro _ _; rfl)) (d_tup a_nil)))))))))))))) (ss_one (s_ret (d_join d_str (PDL.v (l_own 1)))))))
/-! _law_move_text -/
abbrev N_law_move_text : List Str := ["_law_move"]
theorem sc_law_move_text : FnScope N_law_move_text ["_law_move"] (defScope (top 105)) := ⟨rfl, rfl, rfl, by decide +kernel, rfl, by decide +kernel, by decide +kernel⟩
def t_law_move_text : TSD := (sRet (d2 addD (d2 addD (d2 addD (d2 idxD (dVar 0) (dC (.int 0))) (dC (.str " "))) (d1 strD (d2 idxD (dVar 0) (dC (.int 1))))) (dIf (dTest (d2 eqD (d2 idxD (dVar 0) (dC (.int 0))) (dC (.str "edge")))) (d2 addD (dC (.str " ")) (dCall T_law_edge_text (aCons (d2 idxD (dVar 0) (dC (.int 2))) aNil))) (dC (.str "")))))
theorem b_law_move_text {P : Program} {w : World} {K : PySem.W.Frag} {mg : Str → Option Value} {base : Heap} (W : Wo P w K mg base) (c_law_edge_text : Cal P w K mg base 1 "_law_edge_text" (spD K T_law_edge_text))
    (cdv : Value) (A : Around) (outer : List Env) (s : Shared) (H : Hp) (F : Fm) (E : XK) (hr : Room 1 (A.deeper (envOfC "_law_move_text" (defScope (top 105)) s.heap.objs.size (He.ga K "_law_move_text") cdv))) :
    PSsD (cxOf (L2.CX P w) P w K mg base N_law_move_text "_law_move_text" (defScope (top 105)) (He.ga K "_law_move_text") cdv A outer s H E) F (defBody (top 105)) (t_law_move_text) :=
  (ss_one (s_ret (d_add (d_add (d_add (d_ix (d_var 0) d_int (by intro _ _; rfl)) d_str) (d_strC rfl (W.free 6) (d_ix (d_var 0) d_int (by intro _ _; rfl)))) (d_ifExp (d_eqT hr.units (d_ix (d_var 0) d_int (by intro _ _; rfl)) d_str) (d_add d_str (d_call c_law_edge_text hr (a_cons (d_ix (d_var 0) d_int (by intro _ _; rfl)) a_nil))) d_str))))
end Wk
namespace Wk
open L2 RZ PyProof.Rows PySem.Spec PySem
abbrev EM (Q : PyData → Nat → Prop) : EndsD := { nx := fun _ b' => Q .none b', rt := Q }
theorem atI_int {α : Type} {xs : List α} {r : Int} (h0 : 0 ≤ r) (h1 : r < xs.length) : ∃ x ∈ xs, atI xs r = some x := by
  have hl : r.toNat < xs.length := by omega
  refine ⟨xs[r.toNat], List.getElem_mem hl, ?_⟩
  have := atI_nat' xs r.toNat
  rw [show ((r.toNat : Nat) : Int) = r by omega] at this
  rw [this]
  exact List.getElem?_eq_getElem hl
theorem p_law_some : ∀ (F : Fm) m ds b Q, F.m = some m → T_law_some ds b Q → t_law_some F (EM Q) (startM m N_law_some.length ds) b := by
  rintro F m ds b Q hm ⟨xs, hd, h1, h2, hb, h⟩
  rcases hd with rfl | rfl
  · refine ⟨_, rfl, ⟨m, hm, rfl⟩, _, rfl, _, rfl, xs.length, rfl, by omega, by omega, hb, fun r r0 r1 => ?_⟩
    obtain ⟨x, hx, e⟩ := atI_int r0 r1
    exact ⟨x, e, h x hx⟩
  · refine ⟨_, rfl, ⟨m, hm, rfl⟩, _, rfl, _, rfl, xs.length, rfl, by omega, by omega, hb, fun r r0 r1 => ?_⟩
    obtain ⟨x, hx, e⟩ := atI_int r0 r1
    exact ⟨x, e, h x hx⟩
theorem p_law_asks : ∀ (F : Fm) m ds b Q, F.m = some m → T_law_asks ds b Q → t_law_asks F (EM Q) (startM m N_law_asks.length ds) b := by
  rintro F m ds b Q hm ⟨rfl, hb, h⟩
  simp [t_law_asks, startM, startD, line_eq, hm]
  refine ⟨_, .inl rfl, by decide, by decide, hb, fun x hx => ?_⟩
  have key : ∀ x ∈ asksMenu.map strsD, Q x (b + 1) := fun x hx => by
    obtain ⟨zs, hz, rfl⟩ := List.mem_map.mp hx
    exact h zs hz
  exact key x hx
theorem p_law_edge : ∀ (F : Fm) m ds b Q, F.m = some m → T_law_edge ds b Q → t_law_edge F (EM Q) (startM m N_law_edge.length ds) b := by
  rintro F m ds b Q hm ⟨a, z, rfl, hb, h⟩
  have four : (4 : Nat) ≤ sizeLine := by rw [line_eq]; decide
  have five : (5 : Nat) ≤ sizeLine := by rw [line_eq]; decide
  refine ⟨_, rfl, ⟨m, hm, rfl⟩, rfl, by omega, fun zs hz => ?_⟩
  refine ⟨⟨m, hm, rfl⟩, five, _, .inl rfl, by show 1 ≤ 5; decide, by show 5 ≤ 1000000; decide, by omega, fun x hx => ?_⟩
  refine ⟨_, rfl, four, ?_⟩
  have : ∃ d ∈ deedMenu, x = .str d := by
    simp only [List.mem_cons, List.not_mem_nil, or_false] at hx; rcases hx with rfl | rfl | rfl | rfl | rfl
    · exact ⟨"go", by decide, rfl⟩
    · exact ⟨"go", by decide, rfl⟩
    · exact ⟨"hold", by decide, rfl⟩
    · exact ⟨"give", by decide, rfl⟩
    · exact ⟨"hush", by decide, rfl⟩
  obtain ⟨d, hd, rfl⟩ := this
  exact h zs hz d hd
end Wk
namespace Wk
open L2 RZ PyProof.Rows PySem.Spec PySem
theorem eq_opt (o : Option Int) (k : Int) : ∃ c, eqD (optI o) (.int k) = some (.bool c) := by
  cases o with
  | none => exact ⟨_, rfl⟩
  | some i => exact ⟨_, eqD_ii i k⟩
theorem two_ok : (2 : Nat) ≤ sizeLine := by rw [line_eq]; decide
theorem get_in {α : Type} {xs : List α} {k : Int} {n : Nat} (h0 : 0 ≤ k) (h1 : k < n) (hn : xs.length = n) : ∃ x ∈ xs, atI xs k = some x ∧ xs[k.toNat]? = some x := by
  have hl : k.toNat < xs.length := by omega
  refine ⟨xs[k.toNat], List.getElem_mem hl, ?_, List.getElem?_eq_getElem hl⟩
  have := atI_nat' xs k.toNat
  rw [show ((k.toNat : Nat) : Int) = k by omega] at this
  rw [this]
  exact List.getElem?_eq_getElem hl
theorem atI_map {α β : Type} (f : α → β) (xs : List α) (k : Int) : atI (xs.map f) k = (atI xs k).map f := by
  unfold atI
  rw [List.length_map]
  cases ixN xs.length k with
  | none => rfl
  | some j => simp
theorem p_law_lot : ∀ ds Q, T_law_lot ds Q → t_law_lot { nx := fun _ _ => Q .none, rt := fun d _ => Q d } (startD N_law_lot.length ds) 0 := by
  rintro ds Q ⟨h, t, k, rfl, ok, hq⟩
  have hl := ok.len
  have h12 := ok.hi
  refine ⟨noOwn_by rfl, _, rfl, _, atI_1 _, _, rfl, t.above.length, by rw [List.length_map], by omega, by omega, ?_⟩
  refine ⟨by simp [rangeD, line_eq]; omega, ?_⟩
  have key : ∀ i : Nat, i < t.above.length → ∃ c, eqD (optI (t.above.getD i none)) (.int k) = some (.bool c) := fun i _ => eq_opt _ _
  refine lc_filter (fun i : Nat => PyData.int (0 + (i : Int))) (fun i : Nat => PyData.int (i : Int)) (fun i => match eqD (optI (t.above.getD i none)) (.int k) with | some (.bool c) => c | _ => false) (List.range t.above.length) (fun i hi => ⟨_, rfl, fun b Q q => ?_, fun _ b Q q => ⟨_, rfl, by rw [Int.zero_add]; exact q⟩⟩) [] 0 _ ?_
  · have hi : i < t.above.length := List.mem_range.mp hi
    obtain ⟨c, hc⟩ := eq_opt (t.above.getD i none) k
    rw [hc] at q
    refine ⟨_, rfl, _, atI_1 _, _, rfl, optI (t.above.getD i none), ?_, _, rfl, _, hc, _, rfl, q⟩
    show atI (t.above.map optI) (0 + (i : Int)) = _
    rw [Int.zero_add, atI_nat', List.getElem?_map, List.getElem?_eq_getElem hi, List.getD_eq_getElem?_getD, List.getElem?_eq_getElem hi]
    rfl
  · rw [List.nil_append]
    have e : ∀ is : List Nat, (is.map fun i : Nat => PyData.int (i : Int)) = (is.map fun i : Nat => (i : Int)).map PyData.int := fun is => by simp
    rw [e]
    refine hq _ ?_ fun i hi => ?_
    · rw [List.length_map]
      refine Nat.le_trans (List.length_filter_le _ _) ?_
      rw [List.length_range]; omega
    · obtain ⟨j, hj, rfl⟩ := List.mem_map.mp hi
      have := List.mem_range.mp (List.mem_filter.mp hj).1
      exact ⟨by omega, by omega⟩
theorem look_of {β : Type} (f : Str × Kd → β) : ∀ {h : Ho} {z : Str}, z ∈ h.map (·.1) → ∃ p ∈ h, p.1 = z ∧ (h.map fun p => (p.1, f p)).lookup z = some (f p)
  | [], z, hz => by simp at hz
  | p :: h, z, hz => by
    by_cases e : z = p.1
    · exact ⟨p, by simp, e.symm, by simp [List.lookup_cons, e]⟩
    · have hz' : z ∈ h.map (·.1) := by
        rcases List.mem_map.mp hz with ⟨q, hq, rfl⟩
        rcases (List.mem_cons.mp hq) with rfl | hq
        · exact absurd rfl e
        · exact List.mem_map.mpr ⟨q, hq, rfl⟩
      obtain ⟨q, h1, h2, h3⟩ := look_of f hz'
      refine ⟨q, by simp [h1], h2, ?_⟩
      have hb : (z == p.1) = false := beq_eq_false_iff_ne.mpr e
      simp [List.lookup_cons, hb, h3]
theorem inD_ints (i : Int) (is : List Int) : ∃ c, inD (.int i) (intsD is) = some (.bool c) := by
  have fl : (is.map PyData.int).all flatD = true := by rw [List.all_map]; exact List.all_eq_true.mpr fun _ _ => rfl
  refine ⟨(is.map PyData.int).any fun y => PyData.eqv y (.int i), ?_⟩
  show (if flatD (.int i) = true ∧ (is.map PyData.int).all flatD = true then some (PyData.bool ((is.map PyData.int).any fun y => PyData.eqv y (.int i))) else none) = _
  rw [if_pos ⟨rfl, fl⟩]
theorem HoDr.nodup {h : Ho} (hd : HoDr h) : (h.map (·.1)).Nodup := by
  have hs := hd.ok.nameA
  have key : ∀ l : List Str, ascS l = true → ∀ x ∈ l.head?, (∀ y ∈ l.tail, x.cps.toList < y.cps.toList) ∧ l.Nodup := by
    intro l
    induction l with
    | nil => intro _ x hx; simp at hx
    | cons a l ih =>
      intro hl x hx
      simp at hx
      subst hx
      cases l with
      | nil => simp
      | cons b r =>
        simp only [ascS, asc, Bool.and_eq_true] at hl
        have hab : a.cps.toList < b.cps.toList := by simpa [ltS] using hl.1
        obtain ⟨h1, h2⟩ := ih hl.2 b (by simp)
        have all : ∀ y ∈ b :: r, a.cps.toList < y.cps.toList := fun y hy => by
          rcases (List.mem_cons.mp hy) with rfl | hy
          · exact hab
          · exact List.lt_trans hab (h1 y hy)
        refine ⟨all, List.nodup_cons.mpr ⟨fun hm => ?_, h2⟩⟩
        exact absurd (all a hm) (List.lt_irrefl _)
  cases hl : h.map (·.1) with
  | nil => simp
  | cons a l =>
    rw [hl] at hs
    exact (key _ hs a (by simp)).2
theorem bookCall {h : Ho} {t : Tr} {ss : List Sd} (S : Sit h t ss) {Q : List (Str × PyData) → Prop} (q : Q (h.map fun p => (p.1, p.2.book))) : T_law_books [hoD h] Q := ⟨h, rfl, S.hd.ok.hi, S.hd.nodup, q⟩
theorem Sit.name {h : Ho} {t : Tr} {ss : List Sd} (S : Sit h t ss) {k : Int} (hk : inT t k) : ∃ z, atI (t.names.map PyData.str) k = some (.str z) ∧ z ∈ h.map (·.1) := by
  obtain ⟨z, h1, h2, _⟩ := get_in (xs := t.names) hk.1 hk.2 rfl
  exact ⟨z, by rw [atI_map, h2]; rfl, S.tr.inH z h1⟩
theorem Sit.st {h : Ho} {t : Tr} {ss : List Sd} (S : Sit h t ss) {k : Int} (hk : inT t k) : ∃ s ∈ ss, atI (ss.map Sd.d) k = some s.d := by
  obtain ⟨s, h1, h2, _⟩ := get_in (xs := ss) hk.1 hk.2 S.sl
  exact ⟨s, h1, by rw [atI_map, h2]; rfl⟩
theorem p_law_is_up : ∀ ds Q, T_law_is_up ds Q → t_law_is_up { nx := fun _ _ => Q .none, rt := fun d _ => Q d } (startD N_law_is_up.length ds) 0 := by
  rintro ds Q ⟨h, t, ss, k, rfl, S, hk, hq⟩
  obtain ⟨s, _, hs⟩ := S.st hk
  obtain ⟨z, hz, hm⟩ := S.name hk
  obtain ⟨p, hp, _, hl⟩ := look_of (fun p => p.2.book) hm
  obtain ⟨c, hc⟩ := inD_ints s.stand p.2.up
  refine ⟨_, rfl, _, rfl, _, hs, _, atI_0 _, _, rfl, h, rfl, S.hd.ok.hi, S.hd.nodup, ?_⟩
  refine ⟨_, rfl, _, atI_0 _, _, rfl, _, hz, z, _, rfl, hl, _, atI_1 _, _, hc, hq c⟩
theorem p_law_is_held : ∀ ds Q, T_law_is_held ds Q → t_law_is_held { nx := fun _ _ => Q .none, rt := fun d _ => Q d } (startD N_law_is_held.length ds) 0 := by
  rintro ds Q ⟨h, t, ss, k, rfl, S, hk, hq⟩
  obtain ⟨s, _, hs⟩ := S.st hk
  refine ⟨_, rfl, _, rfl, _, hs, _, atI_3 _, _, gtD_ii _ _, _, rfl, ?_⟩
  cases decide (0 < s.many) with
  | true => exact hq true
  | false =>
    refine ⟨noOwn_by rfl, _, rfl, _, rfl, h, t, k, rfl, S.tr, fun is hl hi => ⟨_, rfl, by rw [line_eq, List.length_map]; omega, ?_⟩⟩
    have look : ∀ i : Int, i ∈ is → ∃ s, atI (ss.map Sd.d) i = some (Sd.d s) := fun i hm => by
      obtain ⟨s, _, e⟩ := S.st (k := i) ⟨(hi i hm).1, (hi i hm).2⟩
      exact ⟨s, e⟩
    refine lc_filter PyData.int PyData.int (fun i => match atI (ss.map Sd.d) i with | some (.tuple [_, .bool c, _, _]) => c | _ => false) is (fun i hm => ⟨_, rfl, fun b Q q => ?_, fun _ b Q q => ⟨_, rfl, q⟩⟩) [] 0 _ ?_
    · obtain ⟨s, hs⟩ := look i hm
      rw [hs] at q
      exact ⟨_, rfl, _, rfl, _, hs, _, atI_1 _, _, rfl, q⟩
    · rw [List.nil_append]
      exact ⟨Nat.zero_le _, _, ne_lst (lay_ints _), hq _⟩
end Wk
namespace Wk
open L2 RZ PyProof.Rows PySem.Spec PySem
/-- a comprehension whose test may answer either way -/
theorem lc_any {α : Type} (enc g : α → PyData) {T : Tg} {tt : TTD} {te : TD} {δ : List Sl} : ∀ (xs : List α), (∀ x ∈ xs, ∃ δ', T.put (enc x) δ = some δ' ∧ (∀ b Q, (∀ c, Q c b) → tt δ' b Q) ∧ (∀ b Q, Q (g x) b → te δ' b Q)) → ∀ acc b Q, (∀ ys : List α, ys.Sublist xs → Q (acc ++ ys.map g) b) → lcGo T tt te δ (xs.map enc) acc b Q
  | [], _, acc, b, Q, h => by simpa [lcGo] using h [] (List.Sublist.refl _)
  | x :: xs, hx, acc, b, Q, h => by
    obtain ⟨δ', h1, h2, h3⟩ := hx x (by simp)
    refine ⟨δ', h1, h2 b _ fun c => ?_⟩
    cases c with
    | true =>
      show (if true = true then (te δ' b fun z b3 => lcGo T tt te δ (xs.map enc) (acc ++ [z]) b3 Q) else _)
      rw [if_pos rfl]
      exact h3 b _ (lc_any enc g xs (fun y hy => hx y (by simp [hy])) (acc ++ [g x]) b Q fun ys hs => by simpa using h (x :: ys) (hs.cons₂ x))
    | false =>
      show (if false = true then (te δ' b fun z b3 => lcGo T tt te δ (xs.map enc) (acc ++ [z]) b3 Q) else _)
      rw [if_neg Bool.false_ne_true]; exact lc_any enc g xs (fun y hy => hx y (by simp [hy])) acc b Q fun ys hs => h ys (hs.cons x)
theorem p_law_is_so : ∀ ds Q, T_law_is_so ds Q → t_law_is_so { nx := fun _ _ => Q .none, rt := fun d _ => Q d } (startD N_law_is_so.length ds) 0 := by
  rintro ds Q ⟨h, t, ss, k, z, rfl, S, hk, hq⟩
  obtain ⟨s, _, hs⟩ := S.st hk
  refine ⟨_, rfl, _, eqD_ss _ _, _, rfl, ?_⟩
  cases c1 : z == ("over" : Str) with
  | true =>
    refine ⟨_, rfl, _, eqD_ii _ _, _, rfl, ?_⟩
    cases c2 : k == 0 with
    | true => exact hq true
    | false =>
      have k0 : k ≠ 0 := beq_eq_false_iff_ne.mp c2
      have hkl : k.toNat < t.above.length := by have := S.tr.len; obtain ⟨_, _⟩ := hk; omega
      obtain ⟨j, h1, h2, h3⟩ := S.tr.ab k.toNat (by obtain ⟨_, _⟩ := hk; omega) hkl
      have ha : atI (t.above.map optI) k = some (.int j) := by
        have := atI_nat' (t.above.map optI) k.toNat
        rw [show ((k.toNat : Nat) : Int) = k by obtain ⟨_, _⟩ := hk; omega] at this
        rw [this, List.getElem?_map, h1]; rfl
      refine ⟨_, rfl, _, rfl, _, rfl, _, rfl, _, atI_1 _, _, rfl, _, ha, h, t, ss, j, rfl, S, ⟨h2, ?_⟩, hq⟩
      have := S.tr.len; omega
  | false =>
    refine ⟨_, rfl, _, eqD_ss _ _, _, rfl, ?_⟩
    cases c3 : z == ("rung" : Str) with
    | true => exact ⟨_, rfl, _, rfl, _, hs, _, atI_2 _, hq _⟩
    | false =>
      refine ⟨_, rfl, _, eqD_ss _ _, _, rfl, ?_⟩
      cases c4 : z == ("held" : Str) with
      | true => exact ⟨_, rfl, _, rfl, _, rfl, h, t, ss, k, rfl, S, hk, hq⟩
      | false =>
        refine ⟨noOwn_by rfl, _, rfl, _, rfl, h, t, k, rfl, S.tr, fun is hl hi => ⟨_, rfl, by rw [line_eq, List.length_map]; omega, ?_⟩⟩
        refine lc_any PyData.int PyData.int is (fun i hm => ⟨_, rfl, fun b Q q => ?_, fun b Q q => ⟨_, rfl, q⟩⟩) [] 0 _ fun ys _ => ?_
        · exact ⟨_, rfl, _, rfl, _, rfl, _, rfl, h, t, ss, i, rfl, S, ⟨(hi i hm).1, (hi i hm).2⟩, fun c => ⟨c, rfl, q c⟩⟩
        · rw [List.nil_append]
          refine ⟨_, rfl, _, rfl, _, rfl, h, t, ss, k, rfl, S, hk, fun c => ⟨c, rfl, !c, rfl, ?_⟩⟩
          cases c with
          | true => exact hq false
          | false =>
            refine ⟨_, rfl, _, eqD_ss _ _, _, rfl, ?_⟩
            cases z == ("unheld" : Str) with
            | true => exact hq true
            | false => exact ⟨_, rfl, Nat.zero_le _, _, eq_lst (lay_ints _), hq _⟩
theorem lay_asks {zs : List Str} (h : ∀ z ∈ zs, z ∈ ASKS) : PyData.canLayAll0 (zs.map PyData.str) = true := lay_strs fun z hz => by
  have : ∀ z ∈ ASKS, (PyData.str z).canLay0 = true := by decide +kernel
  exact this z (h z hz)
theorem p_law_may : ∀ ds Q, T_law_may ds Q → t_law_may { nx := fun _ _ => Q .none, rt := fun d _ => Q d } (startD N_law_may.length ds) 0 := by
  rintro ds Q ⟨h, t, ss, k, e, rfl, S, hk, h8, hA, hq⟩
  obtain ⟨s, _, hs⟩ := S.st hk
  refine ⟨_, rfl, _, rfl, _, hs, _, rfl, ?_⟩
  refine ⟨noOwn_by rfl, _, rfl, _, atI_1 _, _, rfl, by rw [line_eq, List.length_map]; omega, ?_⟩
  refine lc_any PyData.str PyData.str e.asks (fun z hm => ⟨_, rfl, fun b Q q => ?_, fun b Q q => ⟨_, rfl, q⟩⟩) [] 0 _ fun ys hys => ?_
  · exact ⟨_, rfl, _, rfl, _, rfl, _, rfl, _, rfl, h, t, ss, k, z, rfl, S, hk, fun c => ⟨c, rfl, q (!c)⟩⟩
  rw [List.nil_append]
  refine ⟨_, rfl, _, atI_0 _, _, rfl, _, neD_ii _ _, _, rfl, ?_⟩
  cases !(e.a == s.stand) with
  | true => exact hq false
  | false =>
    refine ⟨_, rfl, Nat.zero_le _, _, ne_lst (lay_asks fun z hz => hA z (hys.subset hz)), _, rfl, ?_⟩
    cases !(ys.map PyData.str).isEmpty with
    | true => exact hq false
    | false =>
      refine ⟨_, rfl, _, atI_2 _, _, eqD_ss _ _, _, rfl, ?_⟩
      cases e.deed == ("hold" : Str) with
      | true => exact ⟨_, rfl, _, rfl, hq _⟩
      | false =>
        refine ⟨_, rfl, _, atI_2 _, _, eqD_ss _ _, _, rfl, ?_⟩
        cases e.deed == ("give" : Str) with
        | true => exact ⟨_, rfl, hq _⟩
        | false =>
          refine ⟨_, rfl, s.rung, rfl, ?_⟩
          cases s.rung with
          | true => exact hq true
          | false => exact ⟨_, rfl, _, atI_2 _, _, neD_ss _ _, hq _⟩
end Wk
namespace Wk
open L2 RZ PyProof.Rows PySem.Spec PySem
theorem menu_asks {zs : List Str} (h : zs ∈ asksMenu) : asksB zs = true ∧ zs.length ≤ 8 ∧ ∀ z ∈ zs, z ∈ ASKS ∧ z.length ≤ 8 := by
  have key : ∀ zs ∈ asksMenu, asksB zs = true ∧ zs.length ≤ 8 ∧ ∀ z ∈ zs, z ∈ ASKS ∧ z.length ≤ 8 := by decide +kernel
  exact key zs h
theorem menu_deed {d : Str} (h : d ∈ deedMenu) : d ∈ DEEDS ∧ d.length ≤ 8 := by
  have key : ∀ d ∈ deedMenu, d ∈ DEEDS ∧ d.length ≤ 8 := by decide +kernel
  exact key d h
theorem book_edge {k : Kd} (B : BookOk k) {e : Ed} (he : e ∈ k.edges) : edgeB e k.many = true ∧ edgeB e 6 = true ∧ e.asks.length ≤ 8 ∧ (∀ z ∈ e.asks, z ∈ ASKS ∧ z.length ≤ 8) ∧ e.deed.length ≤ 8 := by
  obtain ⟨h1, h2, h3, h4⟩ := B.edges e he
  obtain ⟨a1, a2, a3⟩ := menu_asks h1
  obtain ⟨d1, d2⟩ := menu_deed h2
  have hm := whole_iff.mp B.many
  have w3 := whole_iff.mp h3
  have w4 := whole_iff.mp h4
  have i := inS_mem.mpr d1
  refine ⟨?_, ?_, a2, a3, d2⟩
  · unfold edgeB
    rw [a1, i, h3, h4]; rfl
  · unfold edgeB
    rw [a1, i, whole_iff.mpr ⟨w3.1, by omega⟩, whole_iff.mpr ⟨w4.1, by omega⟩]; rfl
theorem p_law_moves : ∀ ds Q, T_law_moves ds Q → t_law_moves { nx := fun _ _ => Q .none, rt := fun d _ => Q d } (startD N_law_moves.length ds) 0 := by
  rintro ds Q ⟨h, t, ss, rfl, S, hq⟩
  have hl := S.tr.len
  have h12 := S.tr.hi
  refine ⟨Nat.zero_le _, ?_⟩
  refine ⟨_, rfl, _, atI_0 _, _, rfl, t.names.length, by simp, by omega, by omega, ?_⟩
  refine for_ix (fun j δ b => ∃ (ms : List Mv) (s4 s5 : Sl), δ = [Sl.dat (hoD h), Sl.dat t.d, Sl.dat (stD ss), Sl.own (ms.map Mv.d), s4, s5] ∧ (∀ m ∈ ms, MvDr t m) ∧ ms.length ≤ 13 * j) _ 0 _ _ ⟨[], _, _, rfl, by simp, by simp⟩ (fun j d δ b hj ⟨ms, s4, s5, hδ, hm, hms⟩ => ?_) fun δ b ⟨ms, s4, s5, hδ, hm, hms⟩ => ?_
  · subst hδ
    have hjl : j < t.names.length := by
      have := (List.getElem?_eq_some_iff.mp hj).1
      simpa [rangeD] using this
    have hd : d = .int (j : Nat) := by
      simp [rangeD, List.getElem?_range, hjl] at hj
      exact hj.symm
    subst hd
    have hk : inT t (j : Nat) := ⟨by omega, by omega⟩
    obtain ⟨z, hz, hzm⟩ := S.name hk
    obtain ⟨p, hp, _, hlk⟩ := look_of (fun p => p.2.book) hzm
    have B := (S.hd.book p hp).1
    refine ⟨_, rfl, fun N hN => ?_⟩
    refine ⟨_, rfl, h, rfl, S.hd.ok.hi, S.hd.nodup, ?_⟩
    refine ⟨_, rfl, _, atI_0 _, _, rfl, _, hz, z, _, rfl, hlk, _, atI_3 _, _, rfl, ?_⟩
    refine for_ix (fun i δ b => ∃ (ms : List Mv) (s5 : Sl), δ = [Sl.dat (hoD h), Sl.dat t.d, Sl.dat (stD ss), Sl.own (ms.map Mv.d), Sl.dat (.int (j : Nat)), s5] ∧ (∀ m ∈ ms, MvDr t m) ∧ ms.length ≤ 13 * (0 + j) + i) _ 0 _ _ ⟨ms, _, rfl, hm, by omega⟩ (fun i d δ b hi ⟨ms, s5, hδ, hm, hms⟩ => ?_) fun δ b ⟨ms, s5, hδ, hm, hms⟩ => ?_
    · subst hδ
      obtain ⟨e, he, rfl⟩ := by
        rw [List.getElem?_map] at hi
        exact Option.map_eq_some_iff.mp hi
      have hem := List.mem_of_getElem? he
      obtain ⟨b1, b2, b3, b4, b5⟩ := book_edge B hem
      have hil := (List.getElem?_eq_some_iff.mp he).1
      have h13 := B.edgesL
      refine ⟨_, rfl, fun N2 hN2 => ?_⟩
      refine ⟨_, rfl, _, rfl, _, rfl, _, rfl, _, rfl, h, t, ss, (j : Nat), e, rfl, S, hk, b3, fun z hz => (b4 z hz).1, fun c => ⟨c, rfl, ?_⟩⟩
      cases c with
      | false => exact hN2 _ _ ⟨ms, _, rfl, hm, by omega⟩
      | true =>
        refine ⟨_, rfl, _, rfl, _, rfl, by rw [line_eq]; show 3 ≤ 16777216; decide, by rw [line_eq, List.length_map]; omega, hN2 _ _ ⟨ms ++ [.edge (j : Nat) e], Sl.dat e.d, ?_, fun m hmm => ?_, ?_⟩⟩
        · show _ = [Sl.dat (hoD h), Sl.dat t.d, Sl.dat (stD ss), Sl.own ((ms ++ [Mv.edge (j : Nat) e]).map Mv.d), Sl.dat (.int (j : Nat)), Sl.dat e.d]
          rw [List.map_append]; rfl
        · rcases List.mem_append.mp hmm with hmm | hmm
          · exact hm m hmm
          · simp at hmm
            subst hmm
            refine ⟨⟨?_, fun k e' he' => ?_⟩, hk⟩
            · show (wholeI (j : Nat) 0 11 && edgeB e 6) = true
              rw [b2, whole_iff.mpr ⟨by omega, by omega⟩]; rfl
            · cases he'
              exact ⟨b3, fun z hz => (b4 z hz).2, b5⟩
        · (rw [List.length_append]; simp; omega)
    · subst hδ
      have h13 := B.edgesL
      rw [List.length_map] at hms
      exact hN _ _ ⟨ms, _, _, rfl, hm, by omega⟩
  · subst hδ
    simp [rangeD] at hms
    exact ⟨_, rfl, hq ms (by omega) hm⟩
theorem cut_to {α : Type} (xs : List α) (n : Nat) : cutP xs none (some (n : Int)) = xs.take n := by
  unfold cutP
  have h1 : HT.sIx xs.length xs.length (some (n : Int)) = min n xs.length := by
    simp [HT.sIx]; omega
  have h2 : HT.sIx xs.length 0 none = 0 := rfl
  rw [h1, h2]
  simp
theorem cut_map {α β : Type} (f : α → β) (xs : List α) (lo hi : Option Int) : cutP (xs.map f) lo hi = (cutP xs lo hi).map f := by
  unfold cutP
  rw [List.length_map, List.map_take, List.map_drop]
theorem p_law_done : ∀ ds Q, T_law_done ds Q → t_law_done { nx := fun _ _ => Q .none, rt := fun d _ => Q d } (startD N_law_done.length ds) 0 := by
  rintro ds Q ⟨h, t, ss, m, rfl, S, M, hq⟩
  have four : (4 : Nat) ≤ sizeLine := by rw [line_eq]; decide
  have one : (1 : Nat) ≤ sizeLine := by rw [line_eq]; decide
  have sl := S.sl
  have h12 := S.tr.hi
  -- the end, whatever the new record is
  have fin : ∀ (k : Int) (xs : List PyData) (s' : Sd) (σ4 σ5 σ6 σ7 σ9 : Sl), inT t k → m.d = .tuple xs → atI xs 1 = some (.int k) →
      sRet (d2 addD (d2 addD (dSl (dVar 2) oNo (oSome (d2 idxD (dVar 3) (dC (.int 1))))) (dTup (aCons (dVar 8) aNil))) (dSl (dVar 2) (oSome (d2 addD (d2 idxD (dVar 3) (dC (.int 1))) (dC (.int 1)))) oNo)) (EQ Q) [Sl.dat (hoD h), Sl.dat t.d, Sl.dat (stD ss), Sl.dat m.d, σ4, σ5, σ6, σ7, Sl.dat s'.d, σ9] 0 := fun k xs s' σ4 σ5 σ6 σ7 σ9 hk hx h1 => by
    have e1 : cutP (ss.map Sd.d) none (some k) = (ss.take k.toNat).map Sd.d := by
      rw [cut_map]
      have := cut_to ss k.toNat
      rw [show ((k.toNat : Nat) : Int) = k by obtain ⟨_, _⟩ := hk; omega] at this
      rw [this]
    have e2 : cutP (ss.map Sd.d) (some (k + 1)) none = (ss.drop (k.toNat + 1)).map Sd.d := by
      rw [cut_map]
      have := cut_from ss (k.toNat + 1)
      rw [show ((k.toNat + 1 : Nat) : Int) = k + 1 by obtain ⟨_, _⟩ := hk; omega] at this
      rw [this]
    rw [hx]
    refine ⟨_, rfl, _, rfl, _, h1, _, rfl, _, rfl, _, rfl, one, _, addD_tt _ _ ?_, _, rfl, _, rfl, _, h1, _, rfl, _, rfl, _, rfl, _, addD_tt _ _ ?_, ?_⟩
    · rw [e1, List.length_map, List.length_take]; show _ + 1 ≤ _; omega
    · rw [e1, e2, List.length_append, List.length_map, List.length_map, List.length_take, List.length_drop]; show _ + 1 + _ ≤ _; omega
    · rw [e1, e2]
      have : PyData.tuple ((ss.take k.toNat).map Sd.d ++ [s'.d] ++ (ss.drop (k.toNat + 1)).map Sd.d) = stD (ss.take k.toNat ++ [s'] ++ ss.drop (k.toNat + 1)) := by
        simp [stD]
      rw [this]
      refine hq _ ⟨S.hd, S.tr, ?_⟩
      have hkl : k.toNat < ss.length := by obtain ⟨_, _⟩ := hk; omega
      simp
      omega
  have nin : ∀ (i : Int) (is : List Int), ∃ c, ninD (.int i) (intsD is) = some (.bool c) := fun i is => by
    obtain ⟨c, hc⟩ := inD_ints i is
    exact ⟨!c, by unfold ninD; rw [hc]⟩
  cases m with
  | come k =>
    have hk : inT t k := M.k
    obtain ⟨s, _, hs⟩ := S.st hk
    refine ⟨_, rfl, _, rfl, _, atI_1 _, _, hs, _, rfl, ?_⟩
    refine ⟨_, rfl, _, atI_0 _, _, eqD_ss _ _, true, rfl, ?_⟩
    refine ⟨_, rfl, _, rfl, _, rfl, _, rfl, _, addD_ii _ _, four, ?_⟩
    exact fin k _ ⟨s.stand, s.holds, s.rung, s.many + 1⟩ _ _ _ _ _ hk rfl rfl
  | leave k =>
    have hk : inT t k := M.k
    obtain ⟨s, _, hs⟩ := S.st hk
    refine ⟨_, rfl, _, rfl, _, atI_1 _, _, hs, _, rfl, ?_⟩
    refine ⟨_, rfl, _, atI_0 _, _, eqD_ss _ _, false, rfl, ?_⟩
    refine ⟨_, rfl, _, atI_0 _, _, eqD_ss _ _, true, rfl, ?_⟩
    refine ⟨_, rfl, _, rfl, _, rfl, _, rfl, _, subD_ii _ _, four, ?_⟩
    exact fin k _ ⟨s.stand, s.holds, s.rung, s.many - 1⟩ _ _ _ _ _ hk rfl rfl
  | bell k =>
    have hk : inT t k := M.k
    obtain ⟨s, _, hs⟩ := S.st hk
    obtain ⟨z, hz, hzm⟩ := S.name hk
    obtain ⟨p, hp, _, hlk⟩ := look_of (fun p => p.2.book) hzm
    obtain ⟨c, hc⟩ := nin s.stand p.2.deaf
    refine ⟨_, rfl, _, rfl, _, atI_1 _, _, hs, _, rfl, ?_⟩
    refine ⟨_, rfl, _, atI_0 _, _, eqD_ss _ _, false, rfl, ?_⟩
    refine ⟨_, rfl, _, atI_0 _, _, eqD_ss _ _, false, rfl, ?_⟩
    refine ⟨_, rfl, _, atI_0 _, _, eqD_ss _ _, true, rfl, ?_⟩
    refine ⟨_, rfl, _, rfl, _, rfl, s.rung, rfl, ?_⟩
    cases hr : s.rung with
    | true => exact ⟨_, rfl, four, fin k _ ⟨s.stand, s.holds, true, s.many⟩ _ _ _ _ _ hk rfl rfl⟩
    | false =>
      refine ⟨_, rfl, _, rfl, h, rfl, S.hd.ok.hi, S.hd.nodup, ?_⟩
      refine ⟨_, rfl, _, atI_0 _, _, rfl, _, atI_1 _, _, hz, z, _, rfl, hlk, _, atI_2 _, _, hc, _, rfl, four, ?_⟩
      exact fin k _ ⟨s.stand, s.holds, c, s.many⟩ _ _ _ _ _ hk rfl rfl
  | edge k e =>
    have hk : inT t k := M.k
    obtain ⟨s, _, hs⟩ := S.st hk
    refine ⟨_, rfl, _, rfl, _, atI_1 _, _, hs, _, rfl, ?_⟩
    refine ⟨_, rfl, _, atI_0 _, _, eqD_ss _ _, false, rfl, ?_⟩
    refine ⟨_, rfl, _, atI_0 _, _, eqD_ss _ _, false, rfl, ?_⟩
    refine ⟨_, rfl, _, atI_0 _, _, eqD_ss _ _, false, rfl, ?_⟩
    refine ⟨_, rfl, _, atI_2 _, _, atI_2 _, ?_⟩
    refine ⟨_, rfl, _, atI_2 _, _, atI_3 _, ?_⟩
    have step : ∀ (x y : Bool) (w : PyData → Nat → Prop), (∀ c, w (.bool c) 0) → (∃ c, PyData.bool x = .bool c ∧ if c = true then w (.bool y) 0 else w (.bool false) 0) := fun x y w hw => ⟨x, rfl, by cases x <;> exact hw _⟩
    have go : ∀ b1 b2 : Bool, (sRet (d2 addD (d2 addD (dSl (dVar 2) oNo (oSome (d2 idxD (dVar 3) (dC (.int 1))))) (dTup (aCons (dVar 8) aNil))) (dSl (dVar 2) (oSome (d2 addD (d2 idxD (dVar 3) (dC (.int 1))) (dC (.int 1)))) oNo))) (EQ Q) [Sl.dat (hoD h), Sl.dat t.d, Sl.dat (stD ss), Sl.dat (Mv.edge k e).d, Sl.dat (.int s.stand), Sl.dat (.bool s.holds), Sl.dat (.bool s.rung), Sl.dat (.int s.many), Sl.dat (Sd.mk e.z b1 b2 s.many).d, Sl.dat (.str e.deed)] 0 := fun b1 b2 => fin k _ ⟨e.z, b1, b2, s.many⟩ _ _ _ _ _ hk rfl rfl
    have last : ∀ b1 : Bool, ∃ d, (some (Sl.dat (PyData.bool s.rung)) = some (Sl.dat d)) ∧ ∃ c, d = .bool c ∧ if c = true then (∃ d, (some (Sl.dat (PyData.str e.deed)) = some (Sl.dat d)) ∧ ∃ z, neD d (.str "hush") = some z ∧ ∃ d, (some (Sl.dat (PyData.int s.many)) = some (Sl.dat d)) ∧ (4 : Nat) ≤ sizeLine ∧ (sRet (d2 addD (d2 addD (dSl (dVar 2) oNo (oSome (d2 idxD (dVar 3) (dC (.int 1))))) (dTup (aCons (dVar 8) aNil))) (dSl (dVar 2) (oSome (d2 addD (d2 idxD (dVar 3) (dC (.int 1))) (dC (.int 1)))) oNo))) (EQ Q) [Sl.dat (hoD h), Sl.dat t.d, Sl.dat (stD ss), Sl.dat (Mv.edge k e).d, Sl.dat (.int s.stand), Sl.dat (.bool s.holds), Sl.dat (.bool s.rung), Sl.dat (.int s.many), Sl.dat (.tuple [.int e.z, .bool b1, z, d]), Sl.dat (.str e.deed)] 0)
        else (∃ d, (some (Sl.dat (PyData.int s.many)) = some (Sl.dat d)) ∧ (4 : Nat) ≤ sizeLine ∧ (sRet (d2 addD (d2 addD (dSl (dVar 2) oNo (oSome (d2 idxD (dVar 3) (dC (.int 1))))) (dTup (aCons (dVar 8) aNil))) (dSl (dVar 2) (oSome (d2 addD (d2 idxD (dVar 3) (dC (.int 1))) (dC (.int 1)))) oNo))) (EQ Q) [Sl.dat (hoD h), Sl.dat t.d, Sl.dat (stD ss), Sl.dat (Mv.edge k e).d, Sl.dat (.int s.stand), Sl.dat (.bool s.holds), Sl.dat (.bool s.rung), Sl.dat (.int s.many), Sl.dat (.tuple [.int e.z, .bool b1, .bool false, d]), Sl.dat (.str e.deed)] 0) := fun b1 => by
      refine ⟨_, rfl, s.rung, rfl, ?_⟩
      cases s.rung with
      | true => exact ⟨_, rfl, _, neD_ss _ _, _, rfl, four, go b1 _⟩
      | false => exact ⟨_, rfl, four, go b1 false⟩
    refine ⟨_, rfl, s.holds, rfl, ?_⟩
    cases hh : s.holds with
    | true =>
      rw [hh] at last
      refine ⟨true, rfl, _, rfl, _, neD_ss _ _, ?_⟩
      exact last _
    | false =>
      rw [hh] at last
      refine ⟨_, rfl, _, eqD_ss _ _, _, rfl, ?_⟩
      cases e.deed == ("hold" : Str) with
      | true => exact ⟨_, rfl, _, neD_ss _ _, last _⟩
      | false => exact last false
end Wk
namespace Wk
open L2 RZ PyProof.Rows PySem.Spec PySem
theorem ed_lay {e : Ed} {st : Int} (h : edgeB e st = true) : e.d.canLay0 = true := by
  obtain ⟨h1, h2, _, _⟩ := edge_parts h
  have hd : (PyData.str e.deed).canLay0 = true := by
    have : ∀ z ∈ DEEDS, (PyData.str z).canLay0 = true := by decide +kernel
    exact this _ h2
  have ha := lay_asks (asks_mem h1)
  show PyData.canLayAll0 [.int e.a, strsD e.asks, .str e.deed, .int e.z] = true
  simp only [PyData.canLayAll0, hd, Bool.and_true, Bool.true_and]
  show ((PyData.int e.a).canLay0 && ((strsD e.asks).canLay0 && (PyData.int e.z).canLay0)) = true
  simp only [PyData.canLay0, Bool.true_and, Bool.and_true, strsD]
  exact ha
theorem mv_lay {m : Mv} (h : MvS m) : m.d.canLay0 = true := by
  have kw : ∀ x : Str, x ∈ (["edge", "come", "leave", "bell"] : List Str) → (PyData.str x).canLay0 = true := by decide +kernel
  cases m with
  | edge k e =>
    have h1 : (wholeI k 0 11 && edgeB e 6) = true := h.1
    simp only [Bool.and_eq_true] at h1; show PyData.canLayAll0 [.str "edge", .int k, e.d] = true
    simp only [PyData.canLayAll0, kw "edge" (by simp), ed_lay h1.2, Bool.and_true, Bool.true_and]
    rfl
  | come k =>
    show PyData.canLayAll0 [.str "come", .int k] = true
    simp only [PyData.canLayAll0, kw "come" (by simp), Bool.and_true, Bool.true_and]
    rfl
  | leave k =>
    show PyData.canLayAll0 [.str "leave", .int k] = true
    simp only [PyData.canLayAll0, kw "leave" (by simp), Bool.and_true, Bool.true_and]
    rfl
  | bell k =>
    show PyData.canLayAll0 [.str "bell", .int k] = true
    simp only [PyData.canLayAll0, kw "bell" (by simp), Bool.and_true, Bool.true_and]
    rfl
theorem mv_of {t : Tr} {k : Int} (hk : inT t k) (h12 : t.names.length ≤ 12) : MvDr t (.come k) ∧ MvDr t (.leave k) ∧ MvDr t (.bell k) := by
  have w : wholeI k 0 11 = true := whole_iff.mpr ⟨hk.1, by have := hk.2; omega⟩
  exact ⟨⟨⟨w, fun _ _ e => nomatch e⟩, hk⟩, ⟨⟨w, fun _ _ e => nomatch e⟩, hk⟩, ⟨⟨w, fun _ _ e => nomatch e⟩, hk⟩⟩
theorem p_law_any : ∀ (F : Fm) m ds b Q, F.m = some m → T_law_any ds b Q → t_law_any F (EM Q) (startM m N_law_any.length ds) b := by
  rintro F m ds b Q hm ⟨h, t, ss, rfl, S, hb, hq⟩
  have h12 := S.tr.hi
  have h1 := S.tr.lo
  have mach : ∃ m', F.m = some m' ∧ some (Sl.raw (V.ref m)) = some (Sl.raw (V.ref m')) := ⟨m, hm, rfl⟩
  refine ⟨_, rfl, _, rfl, _, rfl, h, t, ss, rfl, S, fun ms hml hms => ?_⟩
  refine ⟨⟨m, hm, rfl⟩, _, rfl, _, atI_0 _, _, rfl, t.names.length, by simp, by omega, by omega, by omega, fun k k0 k1 => ?_⟩
  have hk : inT t k := ⟨k0, k1⟩
  obtain ⟨mc, mlv, mb⟩ := mv_of hk h12
  obtain ⟨s, _, hs⟩ := S.st hk
  have lay : PyData.canLayAll0 (ms.map Mv.d) = true := lay_all fun x hx => by
    obtain ⟨mm, hmm, rfl⟩ := List.mem_map.mp hx
    exact mv_lay (hms mm hmm).s
  -- the second half
  have rest : ∀ b', b' ≤ b + 5 → sSeq (sIf (dAnd (dTest (d2 gtD (d2 idxD (d2 idxD (dVar 3) (dVar 5)) (dC (.int 3))) (dC (.int 0)))) (dTest (d2 eqD (dCallM (F := F) 0 T_law_draw (aCons (dC (.int 2)) aNil)) (dC (.int 0))))) (sRet (dTup (aCons (dC (.str "leave")) (aCons (dVar 5) aNil)))) sNext) (sRet (dTup (aCons (dCallM (F := F) 0 T_law_some (aCons (dList (aLst (aCons (dC (.str "come")) (aCons (dC (.str "bell")) aNil)))) aNil)) (aCons (dVar 5) aNil))))
      (EM Q) [Sl.raw (.ref m), Sl.dat (hoD h), Sl.dat t.d, Sl.dat (stD ss), Sl.dat (.list (ms.map Mv.d)), Sl.dat (.int k)] b' := fun b' hb' => by
    have last : ∀ b2, b2 ≤ b + 6 → sRet (dTup (aCons (dCallM (F := F) 0 T_law_some (aCons (dList (aLst (aCons (dC (.str "come")) (aCons (dC (.str "bell")) aNil)))) aNil)) (aCons (dVar 5) aNil))) (EM Q) [Sl.raw (.ref m), Sl.dat (hoD h), Sl.dat t.d, Sl.dat (stD ss), Sl.dat (.list (ms.map Mv.d)), Sl.dat (.int k)] b2 := fun b2 hb2 => by
      refine ⟨⟨m, hm, rfl⟩, two_ok, _, .inl rfl, by show 1 ≤ 2; decide, by show 2 ≤ 1000000; decide, by omega, fun x hx => ⟨_, rfl, two_ok, ?_⟩⟩
      simp only [List.mem_cons, List.not_mem_nil, or_false] at hx; rcases hx with rfl | rfl
      · exact hq _ mc _ (by omega)
      · exact hq _ mb _ (by omega)
    refine ⟨_, rfl, _, rfl, _, hs, _, atI_3 _, _, gtD_ii _ _, _, rfl, ?_⟩
    cases decide (0 < s.many) with
    | false => exact last b' (by omega)
    | true =>
      refine ⟨⟨m, hm, rfl⟩, 2, rfl, by decide, by decide, by omega, fun r r0 r1 => ⟨_, eqD_ii _ _, _, rfl, ?_⟩⟩
      cases r == 0 with
      | true => exact ⟨_, rfl, two_ok, hq _ mlv _ (by omega)⟩
      | false => exact last _ (by omega)
  refine ⟨_, rfl, Nat.zero_le _, _, ne_lst lay, _, rfl, ?_⟩
  cases hne : (ms.map Mv.d).isEmpty with
  | true => exact rest _ (by omega)
  | false =>
    refine ⟨⟨m, hm, rfl⟩, 4, rfl, by decide, by decide, by omega, fun r r0 r1 => ⟨_, gtD_ii _ _, _, rfl, ?_⟩⟩
    cases decide (0 < r) with
    | false => exact rest _ (by omega)
    | true =>
      refine ⟨⟨m, hm, rfl⟩, _, rfl, _, .inl rfl, ?_, by rw [List.length_map]; omega, by omega, fun x hx => ?_⟩
      · cases hl : ms.map Mv.d with
        | nil => rw [hl] at hne; cases hne
        | cons a l => simp
      · obtain ⟨mm, hmm, rfl⟩ := List.mem_map.mp hx
        exact hq mm (hms mm hmm) _ (by omega)
theorem p_law_begin : ∀ ds Q, T_law_begin ds Q → t_law_begin { nx := fun _ _ => Q .none, rt := fun d _ => Q d } (startD N_law_begin.length ds) 0 := by
  rintro ds Q ⟨h, t, rfl, ok, hq⟩
  have h1 := ok.lo
  have h12 := ok.hi
  refine ⟨by rw [line_eq]; show 4 ≤ 16777216; decide, by rw [line_eq]; show 1 ≤ 16777216; decide, _, rfl, _, atI_0 _, _, rfl, _, ?_, hq⟩
  show (if 1 ≤ (1 : Nat) ∧ 1 ≤ (((t.names.map PyData.str).length : Nat) : Int) ∧ (1 : Nat) * (((t.names.map PyData.str).length : Nat) : Int).toNat ≤ 16777216 then some (PyData.tuple (List.replicate (((t.names.map PyData.str).length : Nat) : Int).toNat [PyData.tuple [.int 0, .bool false, .bool false, .int 0]]).flatten) else none) = _
  rw [if_pos ⟨by decide, by simp; omega, by simp; omega⟩]
  simp [stD, Sd.d]
theorem p_law_weaving : ∀ (F : Fm) m ds b Q, F.m = some m → T_law_weaving ds b Q → t_law_weaving F (EM Q) (startM m N_law_weaving.length ds) b := by
  rintro F m ds b Q hm ⟨h, t, rfl, hd, ok, hb, hq⟩
  refine ⟨_, rfl, h, t, rfl, ok, Nat.zero_le _, ?_⟩
  refine ⟨⟨m, hm, rfl⟩, _, rfl, _, addD_ii _ _, 16, rfl, by decide, by decide, by omega, fun r r0 r1 => ⟨r, rfl, by omega, by omega, ?_⟩⟩
  have S0 : Sit h t (List.replicate t.names.length ⟨0, false, false, 0⟩) := ⟨hd, ok, by simp⟩
  refine for_ix (fun j δ b' => ∃ (ms : List Mv) (ss : List Sd) (s4 : Sl), δ = [Sl.raw (.ref m), Sl.dat (hoD h), Sl.dat t.d, Sl.dat (.int 15), s4, Sl.dat (stD ss), Sl.own (ms.map Mv.d)] ∧ (∀ m ∈ ms, MvDr t m) ∧ ms.length = j ∧ Sit h t ss ∧ b' ≤ b + 1 + 10 * j) _ 0 _ _ ⟨[], _, _, rfl, by simp, rfl, S0, by omega⟩ (fun j d δ b' hj ⟨ms, ss, s4, hδ, hms, hl, S, hb'⟩ => ?_) fun δ b' ⟨ms, ss, s4, hδ, hms, hl, S, hb'⟩ => ?_
  · subst hδ
    have hjr : j < r.toNat := by
      have := (List.getElem?_eq_some_iff.mp hj).1
      simpa [rangeD] using this
    refine ⟨_, rfl, fun N hN => ?_⟩
    refine ⟨_, rfl, ⟨m, hm, rfl⟩, _, rfl, _, rfl, _, rfl, h, t, ss, rfl, S, by omega, fun mv hmv b2 hb2 => ⟨by rw [line_eq, List.length_map]; omega, ?_⟩⟩
    refine ⟨_, rfl, _, rfl, _, rfl, _, rfl, _, _, rfl, atI_m1 _ ▸ (by rw [List.getLast?_append]; rfl), h, t, ss, mv, rfl, S, hmv, fun ss' S' => hN _ _ ⟨ms ++ [mv], ss', Sl.dat d, ?_, fun x hx => ?_, ?_, S', by omega⟩⟩
    · show _ = [Sl.raw (V.ref m), Sl.dat (hoD h), Sl.dat t.d, Sl.dat (.int 15), Sl.dat d, Sl.dat (stD ss'), Sl.own ((ms ++ [mv]).map Mv.d)]
      rw [List.map_append]; rfl
    · rcases (List.mem_append.mp hx) with hx | hx
      · exact hms x hx
      · simp at hx
        subst hx
        exact hmv
    · rw [List.length_append, hl]; rfl
  · subst hδ
    simp [rangeD] at hl hb'
    exact ⟨_, rfl, _, rfl, two_ok, hq ms (by omega) hms ss b' (by omega)⟩
end Wk
namespace Wk
open L2 RZ PyProof.Rows PySem.Spec PySem
/-- a comprehension whose test draws -/
theorem lc_draw {α : Type} (enc g : α → PyData) {T : Tg} {tt : TTD} {te : TD} {δ : List Sl} : ∀ (xs : List α) (acc : List PyData) (b : Nat) (Q : List PyData → Nat → Prop), b + xs.length ≤ drawsMax → (∀ x ∈ xs, ∃ δ', T.put (enc x) δ = some δ' ∧ (∀ b Q, b < drawsMax → (∀ c, Q c (b + 1)) → tt δ' b Q) ∧ (∀ b Q, Q (g x) b → te δ' b Q)) →
    (∀ ys : List α, ys.Sublist xs → Q (acc ++ ys.map g) (b + xs.length)) → lcGo T tt te δ (xs.map enc) acc b Q
  | [], acc, b, Q, _, _, h => by simpa [lcGo] using h [] (List.Sublist.refl _)
  | x :: xs, acc, b, Q, hb, hx, h => by
    obtain ⟨δ', h1, h2, h3⟩ := hx x (by simp)
    simp only [List.length_cons] at hb h
    refine ⟨δ', h1, h2 b _ (by omega) fun c => ?_⟩
    cases c with
    | true =>
      show (if true = true then (te δ' (b + 1) fun z b3 => lcGo T tt te δ (xs.map enc) (acc ++ [z]) b3 Q) else _)
      rw [if_pos rfl]
      exact h3 _ _ (lc_draw enc g xs (acc ++ [g x]) (b + 1) Q (by omega) (fun y hy => hx y (by simp [hy])) fun ys hs => by
        have := h (x :: ys) (hs.cons₂ x)
        rw [show b + 1 + xs.length = b + (xs.length + 1) by omega]
        simpa using this)
    | false =>
      show (if false = true then (te δ' (b + 1) fun z b3 => lcGo T tt te δ (xs.map enc) (acc ++ [z]) b3 Q) else _)
      rw [if_neg Bool.false_ne_true]; exact lc_draw enc g xs acc (b + 1) Q (by omega) (fun y hy => hx y (by simp [hy])) fun ys hs => by
        rw [show b + 1 + xs.length = b + (xs.length + 1) by omega]
        exact h ys (hs.cons x)
theorem p_law_tree : ∀ (K : PySem.W.Frag) (F : Fm) m ds b Q, F.m = some m → T_law_tree ds b Q → t_law_tree F K (EM Q) (startM m N_law_tree.length ds) b := by
  rintro K F m ds b Q hm ⟨h, rfl, hd, hb, hq⟩
  have l1 := hd.ok.lo
  have l3 := hd.ok.hi
  refine ⟨_, rfl, h, rfl, l3, hd.nodup, ?_⟩
  refine ⟨_, rfl, ⟨m, hm, rfl⟩, _, rfl, _, rfl, h.length, by simp, by omega, by omega, by omega, fun r r0 r1 => ?_⟩
  obtain ⟨p, hp, hpx, _⟩ := get_in (xs := h) r0 r1 rfl
  refine ⟨_, (show atI (h.map itemD) r = some (itemD p) by rw [atI_map, hpx]; rfl), _, rfl, (by rw [line_eq]; show 1 ≤ 16777216; decide), (by rw [line_eq]; show 1 ≤ 16777216; decide), ?_⟩
  refine ⟨⟨m, hm, rfl⟩, _, rfl, 12, rfl, by decide, by decide, by omega, fun r2 r20 r21 => ⟨r2, rfl, by omega, by omega, ?_⟩⟩
  refine for_ix (fun j δ b' => ∃ (t : Tr) (s4 s7 : Sl), δ = [Sl.raw (.ref m), Sl.dat (hoD h), Sl.dat (.int 12), Sl.sta (DctP K (h.map fun p => (p.1, strsD p.2.below))), s4, Sl.own (t.names.map PyData.str), Sl.own (t.above.map optI), s7] ∧
    t.names.length = t.above.length ∧ 1 ≤ t.names.length ∧ t.names.length ≤ 1 + j ∧ (∀ z ∈ t.names, z ∈ h.map (·.1)) ∧ (∀ i : Nat, 1 ≤ i → i < t.above.length → ∃ k : Int, t.above[i]? = some (some k) ∧ 0 ≤ k ∧ k < t.above.length) ∧ b' ≤ b + 2 + 2 * j) _ 0 _ _
    ⟨⟨[p.1], [none]⟩, _, _, rfl, rfl, (by show 1 ≤ 1; decide), (by show 1 ≤ 1; decide), by simp; exact ⟨_, hp⟩, by intro i h1 h2; simp at h2; omega, by omega⟩ (fun j d δ b' hj ⟨t, s4, s7, hδ, t1, t2, t3, t4, t5, hb'⟩ => ?_) fun δ b' ⟨t, s4, s7, hδ, t1, t2, t3, t4, t5, hb'⟩ => ?_
  · subst hδ
    have hjr : j < r2.toNat := by
      have := (List.getElem?_eq_some_iff.mp hj).1
      simpa [rangeD] using this
    refine ⟨_, rfl, fun N hN => ?_⟩
    refine ⟨⟨m, hm, rfl⟩, _, rfl, t.names.length, by simp, by omega, by omega, by omega, fun k k0 k1 => ?_⟩
    obtain ⟨z, hz, hzx, _⟩ := get_in (xs := t.names) k0 k1 rfl
    obtain ⟨q, hq', hqn, hlk⟩ := look_of (fun p => strsD p.2.below) (t4 z hz)
    have hzx' : atI (t.names.map PyData.str) k = some (.str z) := by rw [atI_map, hzx]; rfl
    have hbel := (hd.book q hq').2.2.1
    have hlay : PyData.canLayAll0 (q.2.below.map PyData.str) = true := lay_strs fun y hy => by
      obtain ⟨q2, hq2, e⟩ := List.mem_map.mp (hbel y hy)
      rw [← e]
      exact word_lay (hd.ok.word q2 hq2)
    refine ⟨_, rfl, _, rfl, _, rfl, k, _, rfl, hzx', z, _, rfl, hlk, Nat.zero_le _, _, ne_tup hlay, _, rfl, ?_⟩
    cases hbe : (q.2.below.map PyData.str).isEmpty with
    | true => exact hN _ _ ⟨t, _, _, rfl, t1, t2, by omega, t4, t5, by omega⟩
    | false =>
      have ne : 1 ≤ q.2.below.length := by
        cases hl : q.2.below with
        | nil => rw [hl] at hbe; cases hbe
        | cons a l => simp
      have hle := (hd.book q hq').2.2.2
      refine ⟨_, rfl, ⟨m, hm, rfl⟩, _, rfl, _, rfl, _, rfl, k, _, rfl, hzx', z, _, rfl, hlk, _, .inr rfl, by rw [List.length_map]; omega, by rw [List.length_map]; omega, by omega, fun x hx => ⟨by rw [line_eq, List.length_map]; omega, ?_⟩⟩
      obtain ⟨y, hy, rfl⟩ := List.mem_map.mp hx; refine ⟨_, rfl, _, rfl, by rw [line_eq, List.length_map]; omega, hN _ _ ⟨⟨t.names ++ [y], t.above ++ [some k]⟩, Sl.dat d, Sl.dat (.int k), ?_, ?_, ?_, ?_, fun w hw => ?_, fun i i1 i2 => ?_, by omega⟩⟩
      · show _ = [Sl.raw (V.ref m), Sl.dat (hoD h), Sl.dat (.int 12), Sl.sta (DctP K (h.map fun p => (p.1, strsD p.2.below))), Sl.dat d, Sl.own ((t.names ++ [y]).map PyData.str), Sl.own ((t.above ++ [some k]).map optI), Sl.dat (.int k)]
        rw [List.map_append, List.map_append]; rfl
      · simp [t1]
      · simp
      · simp; omega
      · rcases List.mem_append.mp hw with hw | hw
        · exact t4 w hw
        · simp at hw
          subst hw
          exact hbel w hy
      · simp only [List.length_append, List.length_cons, List.length_nil] at i2 ⊢
        by_cases hi : i < t.above.length
        · obtain ⟨k2, a1, a2, a3⟩ := t5 i i1 hi
          exact ⟨k2, by rw [List.getElem?_append_left hi]; exact a1, a2, by omega⟩
        · have : i = t.above.length := by omega
          subst this
          exact ⟨k, by simp, k0, by omega⟩
  · subst hδ
    simp [rangeD] at t3 hb'
    exact ⟨_, rfl, _, rfl, two_ok, hq t ⟨t1, t2, by omega, t4, t5⟩ b' (by omega)⟩
end Wk
namespace Wk
open L2 RZ PyProof.Rows PySem.Spec PySem
def nm4 (i : Int) : Str := names4.getD i.toNat ""
theorem nm4_at {i : Int} (h0 : 0 ≤ i) (h1 : i < 4) : atI (names4.map PyData.str) i = some (.str (nm4 i)) ∧ nm4 i ∈ names4 := by
  have key : ∀ k : Fin 4, atI (names4.map PyData.str) ((k.val : Nat) : Int) = some (.str (nm4 ((k.val : Nat) : Int))) ∧ nm4 ((k.val : Nat) : Int) ∈ names4 := by
    intro k
    rcases k with ⟨k, hk⟩
    match k, hk with
    | 0, _ => exact ⟨rfl, (by decide : nm4 0 ∈ names4)⟩
    | 1, _ => exact ⟨rfl, (by decide : nm4 1 ∈ names4)⟩
    | 2, _ => exact ⟨rfl, (by decide : nm4 2 ∈ names4)⟩
    | 3, _ => exact ⟨rfl, (by decide : nm4 3 ∈ names4)⟩
  have := key ⟨i.toNat, by omega⟩
  simp only at this
  rwa [show ((i.toNat : Nat) : Int) = i by omega] at this
theorem nm4_inj {i j : Int} (hi : 0 ≤ i ∧ i < 4) (hj : 0 ≤ j ∧ j < 4) (e : nm4 i = nm4 j) : i = j := by
  have key : ∀ k l : Fin 4, nm4 ((k.val : Nat) : Int) = nm4 ((l.val : Nat) : Int) → k = l := by decide +kernel
  have := key ⟨i.toNat, by omega⟩ ⟨j.toNat, by omega⟩ (by
    simp only
    rw [show ((i.toNat : Nat) : Int) = i by omega, show ((j.toNat : Nat) : Int) = j by omega]
    exact e)
  have h2 := congrArg Fin.val this
  simp only at h2
  omega
theorem asc_names : ∀ {ys : List Str}, (∀ y ∈ ys, y ∈ names4) → ys.Nodup → sortedS ys = true → ascS ys = true
  | [], _, _, _ => rfl
  | [_], _, _, _ => rfl
  | x :: y :: r, hm, hn, hs => by
    have key : ∀ x ∈ names4, ∀ y ∈ names4, x ≠ y → (!ltCps y.cps.toList x.cps.toList) = true → ltS x y = true := by decide +kernel
    have h1 : (!ltCps y.cps.toList x.cps.toList && risingS y r) = true := hs
    rw [Bool.and_eq_true] at h1
    have hxy : x ≠ y := fun e => by
      rw [e] at hn
      simp at hn
    show (ltS x y && asc ltS (y :: r)) = true
    rw [key x (hm x (by simp)) y (hm y (by simp)) hxy h1.1, Bool.true_and]
    exact asc_names (fun z hz => hm z (by simp at hz ⊢; exact .inr hz)) (List.nodup_cons.mp hn).2 h1.2
theorem asc_sub : ∀ {ys zs : List Str}, ascS zs = true → ys.Sublist zs → ascS ys = true := by
  have head : ∀ {l : List Str} {a : Str}, ascS (a :: l) = true → ∀ y ∈ l, ltS a y = true := by
    intro l
    induction l with
    | nil => intro a _ y hy; cases hy
    | cons b r ih =>
      intro a h y hy
      have h' : (ltS a b && asc ltS (b :: r)) = true := h
      rw [Bool.and_eq_true] at h'
      rcases (List.mem_cons.mp hy) with rfl | hy
      · exact h'.1
      · have := ih h'.2 y hy
        have h1 : a.cps.toList < b.cps.toList := by simpa [ltS] using h'.1
        have h2 : b.cps.toList < y.cps.toList := by simpa [ltS] using this
        simpa [ltS] using List.lt_trans h1 h2
  have tail : ∀ {l : List Str} {a : Str}, ascS (a :: l) = true → ascS l = true := by
    intro l a h
    cases l with
    | nil => rfl
    | cons b r =>
      have h' : (ltS a b && asc ltS (b :: r)) = true := h
      rw [Bool.and_eq_true] at h'
      exact h'.2
  intro ys zs h s
  induction s with
  | slnil => rfl
  | cons a s ih => exact ih (tail h)
  | @cons_cons l1 l2 a s ih =>
    have h1 := ih (tail h)
    cases l1 with
    | nil => rfl
    | cons b r =>
      show (ltS a b && asc ltS (b :: r)) = true
      rw [head h b (s.subset (by simp)), Bool.true_and]
      exact h1
theorem p_law_house : ∀ (F : Fm) m ds b Q, F.m = some m → T_law_house ds b Q → t_law_house F (EM Q) (startM m N_law_house.length ds) b := by
  rintro F m ds b Q hm ⟨rfl, hb, hq⟩
  have four : (4 : Nat) ≤ sizeLine := by rw [line_eq]; decide
  refine ⟨noOwn_by rfl, ⟨m, hm, rfl⟩, 4, rfl, by decide, by omega, fun is his => ?_⟩
  refine ⟨⟨m, hm, rfl⟩, _, rfl, 3, rfl, by decide, by decide, by omega, fun r r0 r1 => ⟨_, addD_ii _ _, 1 + r, rfl, _, rfl, _, rfl, ?_⟩⟩
  have hlen : is.length = 4 := by rw [his.length_eq]; rfl
  have hrng : ∀ i ∈ is, 0 ≤ i ∧ i < 4 := fun i hi => by
    have := his.subset hi
    simp at this
    omega
  have hnd : is.Nodup := by
    rw [his.nodup_iff]
    decide
  have hn : (1 + r).toNat ≤ 3 ∧ 1 ≤ (1 + r).toNat := by omega
  have ec : cutP (is.map PyData.int) none (some (1 + r)) = (is.take (1 + r).toNat).map PyData.int := by
    rw [cut_map]
    have := cut_to is (1 + r).toNat
    rw [show (((1 + r).toNat : Nat) : Int) = 1 + r by omega] at this
    rw [this]
  rw [ec]
  refine ⟨by rw [line_eq, List.length_map, List.length_take]; omega, ?_⟩
  refine lc_map PyData.int (fun i => .str (nm4 i)) _ (fun i hi => ⟨_, rfl, fun b Q q => ⟨four, _, rfl, _, (nm4_at (hrng i (List.mem_of_mem_take hi)).1 (hrng i (List.mem_of_mem_take hi)).2).1, q⟩⟩) [] _ _ ?_
  rw [List.nil_append]
  refine ⟨(is.take (1 + r).toNat).map nm4, by rw [List.map_map]; rfl, by rw [List.length_map, List.length_take]; omega, fun ys hys hsort => ?_⟩
  have hyl : ys.length = (1 + r).toNat := by rw [hys.length_eq, List.length_map, List.length_take]; omega
  have hym : ∀ y ∈ ys, y ∈ names4 := fun y hy => by
    obtain ⟨i, hi, rfl⟩ := List.mem_map.mp (hys.subset hy)
    have := hrng i (List.mem_of_mem_take hi)
    exact (nm4_at this.1 this.2).2
  have hyn : ys.Nodup := by
    rw [hys.nodup_iff]
    refine List.pairwise_map.mpr ?_
    refine List.Pairwise.imp_of_mem ?_ (hnd.sublist (List.take_sublist _ _))
    intro i j hi hj hne e
    exact hne (nm4_inj (hrng i (List.mem_of_mem_take hi)) (hrng j (List.mem_of_mem_take hj)) e)
  have hasc := asc_names hym hyn hsort
  refine ⟨Nat.zero_le _, _, rfl, _, rfl, ?_⟩
  have word4 : ∀ z ∈ names4, isWord z = true := by decide +kernel
  refine for_ix (fun j δ b' => ∃ (h : Ho) (s6 s7 : Sl), δ = [Sl.raw (.ref m), Sl.dat (.int 3), Sl.dat (.int 6), Sl.dat (.int 8), Sl.dat (.list (ys.map PyData.str)), Sl.own (h.map itemD), s6, s7, Sl.no, Sl.no] ∧ h.map (·.1) = ys.take j ∧ (∀ p ∈ h, BookOk p.2 ∧ p.2.below.Sublist ys) ∧ b' ≤ b + 5 + 103 * j) _ 0 _ _
    ⟨[], _, _, rfl, rfl, by simp, by omega⟩ (fun j d δ b' hj ⟨h, s6, s7, hδ, h1, h2, hb'⟩ => ?_) fun δ b' ⟨h, s6, s7, hδ, h1, h2, hb'⟩ => ?_
  · subst hδ
    obtain ⟨y, hy, rfl⟩ := by
      rw [List.getElem?_map] at hj
      exact Option.map_eq_some_iff.mp hj
    have hjl := (List.getElem?_eq_some_iff.mp hy).1
    have hhl : h.length = j := by
      have := congrArg List.length h1
      rw [List.length_map, List.length_take] at this
      omega
    refine ⟨_, rfl, fun N hN => ?_⟩
    refine ⟨noOwn_by rfl, _, rfl, _, rfl, by rw [line_eq, List.length_map]; omega, ?_⟩
    refine lc_draw PyData.str PyData.str ys [] b' _ (by omega) (fun z hz => ⟨_, rfl, fun b Q hbb q => ⟨⟨m, hm, rfl⟩, 4, rfl, by decide, by decide, hbb, fun r _ _ => ⟨_, gtD_ii _ _, _, rfl, q _⟩⟩, fun b Q q => ⟨_, rfl, q⟩⟩) fun bs hbs => ?_
    rw [List.nil_append]
    refine ⟨_, rfl, _, rfl, ⟨m, hm, rfl⟩, _, rfl, _, rfl, rfl, by omega, fun k hk b2 hb2 => ?_⟩
    refine ⟨_, rfl, two_ok, two_ok, by rw [line_eq, List.length_map]; omega, hN _ _ ⟨h ++ [(y, { k with below := bs })], Sl.dat (.str y), Sl.dat (strsD bs), ?_, ?_, fun p hp => ?_, by omega⟩⟩
    · show _ = [Sl.raw (V.ref m), Sl.dat (.int 3), Sl.dat (.int 6), Sl.dat (.int 8), Sl.dat (.list (ys.map PyData.str)), Sl.own ((h ++ [(y, { k with below := bs })]).map itemD), Sl.dat (.str y), Sl.dat (strsD bs), Sl.no, Sl.no]
      rw [List.map_append]; rfl
    · rw [List.map_append, h1, List.take_add_one, Nat.zero_add, hy]
      simp
    · rcases (List.mem_append.mp hp) with hp | hp
      · exact h2 p hp
      · simp at hp
        subst hp
        exact ⟨⟨hk.many, hk.up, hk.upA, hk.deaf, hk.deafA, hk.edges, hk.edgesA, hk.edgesL⟩, hbs⟩
  · subst hδ
    rw [List.length_map, Nat.zero_add, List.take_length] at h1
    rw [List.length_map] at hb'
    have hhl : h.length = ys.length := by simpa using congrArg List.length h1
    refine ⟨_, rfl, hq h ⟨⟨by omega, by omega, fun p hp => ?_, by rw [h1]; exact hasc, fun p hp => ?_⟩, fun p hp => ?_⟩ b' (by omega)⟩
    · exact word4 p.1 (hym _ (by rw [← h1]; exact List.mem_map.mpr ⟨p, hp, rfl⟩))
    · obtain ⟨B, hbs⟩ := h2 p hp
      rw [h1]
      exact ⟨B.many, B.up, B.upA, B.deaf, B.deafA, fun e he => (book_edge B he).1, B.edgesA, by have := B.edgesL; omega, List.all_eq_true.mpr fun z hz => inS_mem.mpr (hbs.subset hz), asc_sub hasc hbs⟩
    · obtain ⟨B, hbs⟩ := h2 p hp
      refine ⟨B, hym _ (by rw [← h1]; exact List.mem_map.mpr ⟨p, hp, rfl⟩), fun z hz => by rw [h1]; exact hbs.subset hz, ?_⟩
      have := hbs.length_le
      omega
end Wk
namespace Wk
open L2 RZ PyProof.Rows PySem.Spec PySem
theorem sp_cons (x y : Str) (r : List Str) : sp (x :: y :: r) = x ++ " " ++ sp (y :: r) := by
  refine TL.ext_tl ?_
  rw [tl_sp, TL.tl_append, TL.tl_append, tl_sp]
  show TL.tl x ++ ([32] ++ TL.joinL [32] (TL.tl y :: r.map TL.tl)) = _
  have e : TL.tl (" " : Str) = [32] := by decide +kernel
  rw [e, List.append_assoc]; rfl
theorem sp_one (x : Str) : sp [x] = x := by
  refine TL.ext_tl ?_
  rw [tl_sp]; rfl
theorem app_assoc (x y z : Str) : x ++ y ++ z = x ++ (y ++ z) := by
  refine TL.ext_tl ?_
  simp only [TL.tl_append, List.append_assoc]
theorem str_app (s t : String) : (Str.ofString s ++ Str.ofString t : Str) = Str.ofString (s ++ t) := by
  refine TL.ext_tl ?_
  rw [TL.tl_append, TL.tl_ofString, TL.tl_ofString, TL.tl_ofString]
  simp
theorem p_law_edge_text : ∀ ds Q, T_law_edge_text ds Q → t_law_edge_text { nx := fun _ _ => Q .none, rt := fun d _ => Q d } (startD N_law_edge_text.length ds) 0 := by
  rintro ds Q ⟨e, rfl, h8, hz, hd, sa, sz, hq⟩
  have l3 : (3 : Nat) ≤ sizeLine := by rw [line_eq]; decide
  refine ⟨" ", rfl, _, rfl, _, atI_0 _, _, strD_num sa, _, rfl, _, atI_2 _, _, rfl, _, atI_3 _, _, strD_num sz, l3, ?_⟩
  refine ⟨_, rfl, _, atI_1 _, _, rfl, by rw [line_eq, List.length_map]; omega, by rw [line_eq, List.length_map]; show 3 + _ ≤ _; omega, ?_⟩
  obtain ⟨w1, w2⟩ := edgeWs_S ⟨sa, sz, h8, hz, hd⟩
  refine ⟨edgeWs e, by simp [edgeWs], ?_, hq⟩
  have h2 := sum_le w2
  have h3 : (" " : Str).length = 1 := rfl
  rw [h3]
  have : (edgeWs e).length * 8 ≤ 11 * 8 := Nat.mul_le_mul_right _ w1
  omega
theorem p_law_move_text : ∀ ds Q, T_law_move_text ds Q → t_law_move_text { nx := fun _ _ => Q .none, rt := fun d _ => Q d } (startD N_law_move_text.length ds) 0 := by
  rintro ds Q ⟨m, rfl, S, hq⟩
  have k11 : ∀ k : Int, wholeI k 0 11 = true → small k := fun k hk => by
    have := whole_iff.mp hk
    exact ⟨by omega, by omega⟩
  have short : ∀ (x : Str) (k : Int), (x = "come" ∨ x = "leave" ∨ x = "bell") → small k → Q (.str (sp [x, num k])) → t_law_move_text { nx := fun _ _ => Q .none, rt := fun d _ => Q d } (startD N_law_move_text.length [.tuple [.str x, .int k]]) 0 := fun x k hx hk q => by
    have hne : (x == ("edge" : Str)) = false := by rcases hx with rfl | rfl | rfl <;> decide
    have hl : x.length ≤ 8 := by rcases hx with rfl | rfl | rfl <;> decide
    have hn := num_len hk
    have h1 : (" " : Str).length = 1 := rfl
    have h0 : ("" : Str).length = 0 := rfl
    refine ⟨_, rfl, _, atI_0 _, _, addD_ss _ _ (by omega), _, rfl, _, atI_1 _, _, strD_num hk, _, addD_ss _ _ (by rw [len_app]; omega), ?_⟩
    refine ⟨_, rfl, _, atI_0 _, _, eqD_ss _ _, _, rfl, ?_⟩
    rw [hne]
    refine ⟨_, addD_ss _ _ (by rw [len_app, len_app]; omega), ?_⟩
    have e : x ++ " " ++ num k ++ "" = sp [x, num k] := by
      rw [sp_cons, sp_one]
      refine TL.ext_tl ?_
      simp only [TL.tl_append]
      have : TL.tl ("" : Str) = [] := by decide +kernel
      rw [this, List.append_nil]
    rw [e]
    exact q
  cases m with
  | come k => exact short "come" k (.inl rfl) (k11 k S.1) hq
  | leave k => exact short "leave" k (.inr (.inl rfl)) (k11 k S.1) hq
  | bell k => exact short "bell" k (.inr (.inr rfl)) (k11 k S.1) hq
  | edge k e =>
    have h1' : (wholeI k 0 11 && edgeB e 6) = true := S.1
    simp only [Bool.and_eq_true] at h1'
    obtain ⟨sa, sz⟩ := edge_small h1'.2 (by decide)
    have hs := S.2 k e rfl
    have hk := k11 k h1'.1
    have hn := num_len hk
    have h1 : (" " : Str).length = 1 := rfl
    have h4 : ("edge" : Str).length = 4 := rfl
    obtain ⟨w1, w2⟩ := edgeWs_S ⟨sa, sz, hs⟩
    have hl := sp_len (zs := edgeWs e) (m := 8) w2
    refine ⟨_, rfl, _, atI_0 _, _, addD_ss _ _ (by omega), _, rfl, _, atI_1 _, _, strD_num hk, _, addD_ss _ _ (by rw [len_app]; omega), ?_⟩
    refine ⟨_, rfl, _, atI_0 _, _, eqD_ss _ _, _, rfl, ?_⟩
    refine ⟨_, rfl, _, atI_2 _, e, rfl, hs.1, hs.2.1, hs.2.2, sa, sz, _, addD_ss _ _ (by omega), _, addD_ss _ _ (by rw [len_app, len_app, len_app]; omega), ?_⟩
    have e2 : ("edge" : Str) ++ " " ++ num k ++ (" " ++ sp (edgeWs e)) = sp (Mv.edge k e).ws := by
      show _ = sp ("edge" :: num k :: num e.a :: (e.deed :: num e.z :: e.asks))
      rw [sp_cons, sp_cons]
      simp only [app_assoc]
      rfl
    rw [e2]
    exact hq
end Wk
namespace Wk
open L2 RZ PyProof.Rows PySem.Spec PySem
def optLine (b : Bool) (z : Str) : List Str := if b = true then [z] else []
theorem rep_opt (b : Bool) (d : PyData) : (List.replicate (if b = true then (1 : Int) else 0).toNat [d]).flatten = (if b = true then [d] else []) := by
  cases b <;> simp
theorem kind_lines_opt (n : Str) (k : Kd) : kindLines n k = [sp ["kind", n, num k.many]] ++ optLine (!k.up.isEmpty) (sp ("up" :: k.up.map num)) ++ optLine (!k.deaf.isEmpty) (sp ("deaf" :: k.deaf.map num)) ++ k.edges.map (fun e => sp (edgeWs e)) ++ optLine (!k.below.isEmpty) (sp ("below" :: k.below)) := by
  unfold kindLines optLine
  cases k.up <;> cases k.deaf <;> cases k.below <;> simp
abbrev bodyU : TSD := sSet 1 (fOwn (nCat (lOwn 1) (nRep (aLst (aCons (dJoin (dC (.str " ")) (nCat (aLst (aCons (dVar 8) aNil)) (nLc (iT (dVar 9)) (.nm 11) dYes (d1 strD (dVar 11)) [11]))) aNil)) (d1 intD (d2 neD (dVar 9) (dTup aNil))))))
theorem step_u {D : EndsD} {s0 s2 s3 s4 s5 s6 s7 : Sl} {R : List Str} {w : Str} {is : List Int} {b : Nat} (hR : R.length ≤ 1000) (hw : w.length ≤ 8) (hl : is.length ≤ 8) (hs : ∀ i ∈ is, small i)
    (h : ∀ b, D.nx [s0, Sl.own ((R ++ optLine (!is.isEmpty) (sp (w :: is.map num))).map PyData.str), s2, s3, s4, s5, s6, s7, Sl.dat (.str w), Sl.dat (intsD is), Sl.no, Sl.no] b) :
    bodyU D [s0, Sl.own (R.map PyData.str), s2, s3, s4, s5, s6, s7, Sl.dat (.str w), Sl.dat (intsD is), Sl.no, Sl.no] b := by
  refine ⟨_, rfl, " ", rfl, _, rfl, (by rw [line_eq]; show 1 ≤ 16777216; decide), noOwn_by rfl, _, rfl, _, rfl, by rw [line_eq, List.length_map]; omega, ?_⟩
  refine lc_map PyData.int (fun i => .str (num i)) is (fun i hi => ⟨_, rfl, fun b Q q => ⟨_, rfl, _, strD_num (hs i hi), q⟩⟩) [] b _ ?_
  rw [List.nil_append]
  refine ⟨by rw [line_eq, List.length_map]; show 1 + _ ≤ _; omega, w :: is.map num, by simp, ?_, (by rw [line_eq]; show 1 ≤ 16777216; decide), ?_⟩
  · have h2 := sum_le (zs := w :: is.map num) (m := 8) fun z hz => by
      simp only [List.mem_cons, List.mem_map] at hz
      rcases hz with rfl | ⟨i, hi, rfl⟩
      · exact hw
      · exact Nat.le_trans (num_len (hs i hi)) (by decide)
    have h3 : (" " : Str).length = 1 := rfl
    rw [h3]
    simp only [List.length_cons, List.length_map] at h2 ⊢
    omega
  refine ⟨_, rfl, Nat.zero_le _, _, ne_tup (lay_ints is), _, rfl, (if (!(is.map PyData.int).isEmpty) = true then 1 else 0), rfl, by split <;> decide, by split <;> decide, ?_, ?_, ?_⟩
  · rw [line_eq]
    show 1 * _ ≤ _
    split <;> simp
  · rw [rep_opt, line_eq, List.length_map]
    split <;> simp <;> omega
  · rw [rep_opt]
    have e : R.map PyData.str ++ (if (!(is.map PyData.int).isEmpty) = true then [PyData.str (Txt.join " " (w :: is.map num))] else []) = (R ++ optLine (!is.isEmpty) (sp (w :: is.map num))).map PyData.str := by
      cases is <;> simp [optLine, sp]
    rw [e]
    exact h b
theorem p_law_house_text : ∀ ds Q, T_law_house_text ds Q → t_law_house_text { nx := fun _ _ => Q .none, rt := fun d _ => Q d } (startD N_law_house_text.length ds) 0 := by
  rintro ds Q ⟨h, rfl, ok, hb, hq⟩
  have l3 := ok.hi
  have one : (1 : Nat) ≤ sizeLine := by rw [line_eq]; decide
  obtain ⟨s1, s2⟩ := houseLines_S ok hb
  refine ⟨Nat.zero_le _, _, rfl, _, rfl, ?_⟩
  have hsub : ∀ j, (houseLines (h.take j)).length ≤ 84 := fun j => by
    have := sum_flat (h.take j) fun p hp => (lineLen (kdS_of ok hb (List.mem_of_mem_take hp))).1
    have h2 : (h.take j).length ≤ 3 := by rw [List.length_take]; omega
    have : (h.take j).length * 28 ≤ 3 * 28 := Nat.mul_le_mul_right _ h2
    omega
  refine for_ix (fun j δ b' => ∃ (s2 s3 s4 s5 s6 s7 s8 s9 : Sl), δ = [Sl.dat (hoD h), Sl.own ((houseLines (h.take j)).map PyData.str), s2, s3, s4, s5, s6, s7, s8, s9, Sl.no, Sl.no]) _ 0 _ _
    ⟨_, _, _, _, _, _, _, _, rfl⟩ (fun j d δ b' hj ⟨t2, t3, t4, t5, t6, t7, t8, t9, hδ⟩ => ?_) fun δ b' ⟨t2, t3, t4, t5, t6, t7, t8, t9, hδ⟩ => ?_
  · subst hδ
    obtain ⟨p, hp, rfl⟩ := by
      rw [List.getElem?_map] at hj
      exact Option.map_eq_some_iff.mp hj
    have hm := List.mem_of_getElem? hp
    have K := kdS_of ok hb hm
    have hl0 := hsub (0 + j)
    refine ⟨_, rfl, fun N hN => ?_⟩
    have hnum := num_len K.many
    have n8 := K.n
    have h1 : (" " : Str).length = 1 := rfl
    have h5 : ("kind " : Str).length = 5 := rfl
    refine ⟨_, rfl, _, atI_0 _, _, rfl, ?_⟩
    refine ⟨_, rfl, _, rfl, _, addD_ss _ _ (by omega), _, addD_ss _ _ (by rw [len_app]; omega), _, rfl, _, strD_num K.many, _, addD_ss _ _ (by rw [len_app, len_app]; omega), by rw [line_eq, List.length_map]; omega, ?_⟩
    have ek : ("kind " : Str) ++ p.1 ++ " " ++ num p.2.many = sp ["kind", p.1, num p.2.many] := by
      rw [sp_cons, sp_cons, sp_one]
      have : ("kind " : Str) = ("kind" : Str) ++ " " := by decide +kernel
      rw [this]
      simp only [app_assoc]
    rw [ek]
    refine ⟨_, rfl, two_ok, _, rfl, two_ok, two_ok, _, rfl, ?_⟩
    have r0 : ∀ (R : List Str) (z : Str), R.map PyData.str ++ [PyData.str z] = (R ++ [z]).map PyData.str := fun R z => by simp
    rw [r0]
    refine ⟨_, rfl, step_u (D := _) (R := houseLines (h.take (0 + j)) ++ [sp ["kind", p.1, num p.2.many]]) (w := "up") (is := p.2.up) (by rw [List.length_append]; show _ + 1 ≤ _; omega) (by decide) K.up.1 K.up.2 fun b2 => ?_⟩
    have o1 : ∀ b z, (optLine b z).length ≤ 1 := fun b z => by cases b <;> simp [optLine]
    have o2 := o1 (!p.2.up.isEmpty) (sp ("up" :: p.2.up.map num))
    have o3 := o1 (!p.2.deaf.isEmpty) (sp ("deaf" :: p.2.deaf.map num))
    refine ⟨_, rfl, step_u (D := _) (R := houseLines (h.take (0 + j)) ++ [sp ["kind", p.1, num p.2.many]] ++ optLine (!p.2.up.isEmpty) (sp ("up" :: p.2.up.map num))) (w := "deaf") (is := p.2.deaf) (by rw [List.length_append, List.length_append]; show _ + 1 + _ ≤ _; omega) (by decide) K.deaf.1 K.deaf.2 fun b3 => ?_⟩
    generalize hR : houseLines (h.take (0 + j)) ++ [sp ["kind", p.1, num p.2.many]] ++ optLine (!p.2.up.isEmpty) (sp ("up" :: p.2.up.map num)) ++ optLine (!p.2.deaf.isEmpty) (sp ("deaf" :: p.2.deaf.map num)) = R
    have hRl : R.length ≤ 90 := by
      rw [← hR]
      simp only [List.length_append, List.length_cons, List.length_nil]
      omega
    have he := K.edges
    refine ⟨_, rfl, noOwn_by rfl, _, rfl, _, rfl, by rw [line_eq, List.length_map]; omega, ?_⟩
    refine lc_map Ed.d (fun e => .str (sp (edgeWs e))) p.2.edges (fun e hem => ⟨_, rfl, fun b Q q => ?_⟩) [] b3 _ ?_
    · have hs := he.2 e hem
      exact ⟨_, rfl, e, rfl, hs.2.2.1, hs.2.2.2.1, hs.2.2.2.2, hs.1, hs.2.1, q⟩
    rw [List.nil_append]
    refine ⟨by rw [line_eq, List.length_map, List.length_map]; omega, ?_⟩
    have hbl := K.below
    have hsb := sp_len (zs := p.2.below) (m := 8) hbl.2
    have h6 : ("below " : Str).length = 6 := rfl
    refine ⟨_, rfl, " ", rfl, _, rfl, _, atI_1 _, ?_⟩
    refine ⟨p.2.below, rfl, ?_, _, addD_ss _ _ ?_, one, _, rfl, _, atI_1 _, Nat.zero_le _, _, ne_tup K.lay, _, rfl, (if (!(p.2.below.map PyData.str).isEmpty) = true then 1 else 0), rfl, by split <;> decide, by split <;> decide, ?_, ?_, ?_⟩
    · have h2 := sum_le hbl.2
      rw [h1]
      have : p.2.below.length * 8 ≤ 8 * 8 := Nat.mul_le_mul_right _ hbl.1
      omega
    · have : (Txt.join " " p.2.below).length ≤ p.2.below.length * 9 := hsb
      omega
    · rw [line_eq]
      show 1 * _ ≤ _
      split <;> simp
    · rw [rep_opt, line_eq, List.length_append, List.length_map, List.length_map]
      split <;> simp <;> omega
    · rw [rep_opt]
      refine hN _ _ ⟨Sl.dat (.str p.1), Sl.dat p.2.d, Sl.dat (.int p.2.many), Sl.dat (intsD p.2.up), Sl.dat (intsD p.2.deaf), Sl.dat (.tuple (p.2.edges.map Ed.d)), Sl.dat (.str "deaf"), Sl.dat (intsD p.2.deaf), ?_⟩
      have e9 : houseLines (h.take (0 + j + 1)) = R ++ p.2.edges.map (fun e => sp (edgeWs e)) ++ optLine (!p.2.below.isEmpty) (sp ("below" :: p.2.below)) := by
        rw [← hR, List.take_add_one, Nat.zero_add, hp]
        unfold houseLines
        rw [List.flatMap_append]
        simp [kind_lines_opt]
      rw [e9]
      have e10 : R.map PyData.str ++ p.2.edges.map (fun e => PyData.str (sp (edgeWs e))) ++ (if (!(p.2.below.map PyData.str).isEmpty) = true then [PyData.str (("below " : Str) ++ Txt.join " " p.2.below)] else []) = (R ++ p.2.edges.map (fun e => sp (edgeWs e)) ++ optLine (!p.2.below.isEmpty) (sp ("below" :: p.2.below))).map PyData.str := by
        cases hbe : p.2.below with
        | nil => simp [optLine]
        | cons z zs =>
          have : ("below " : Str) ++ Txt.join " " (z :: zs) = sp ("below" :: z :: zs) := by
            rw [sp_cons]
            have : ("below " : Str) = ("below" : Str) ++ " " := by decide +kernel
            rw [this]; rfl
          simp [optLine, this]
      rw [← e10]
      rfl
  · subst hδ
    rw [List.length_map, Nat.zero_add, List.take_length]
    refine ⟨"\n", rfl, _, rfl, houseLines h, rfl, ?_, hq⟩
    have h2 := sum_le s2
    have h3 : ("\n" : Str).length = 1 := rfl
    rw [h3]
    have : (houseLines h).length * 100 ≤ 84 * 100 := Nat.mul_le_mul_right _ s1
    omega
end Wk
namespace Wk
open L2 RZ PyProof.Rows PySem.Spec PySem
/-! ### blocks: lists in tuples in a list, and the last of them grows -/
theorem PT.some {X : Cx} {e : Expr} {ι : Type} {t : ι → TT} (h : ∀ i, PT X e (t i)) : PT X e (fun σ H Q => ∃ i, t i σ H Q) := ⟨fun pins s σ H Q I ⟨i, q⟩ => (h i).run pins s σ H Q I q⟩
theorem set_self {α : Type} {l : List α} {i : Nat} {a : α} (h : l[i]? = some a) : l.set i a = l := by
  apply List.ext_getElem?
  intro j
  rw [List.getElem?_set]
  by_cases e : i = j
  · subst e
    rw [if_pos rfl, if_pos (List.getElem?_eq_some_iff.mp h).1, h]
  · rw [if_neg e]
section
variable {K : PySem.W.Frag} {F : Fm} {Mu Mu' : Addr → Prop} {σ : L2.St} {H H' : Hp} {δ : List Sl} {b : Nat}
def free1 (δ : List Sl) : Prop := ∀ (i : Nat) ds, δ[i]? ≠ some (Sl.own ds)
theorem Rep.lessen (R : Rep K F Mu σ H δ b) (hn : free1 δ) (h0 : ∀ a, F.N0 a → Mu' a) (h1 : ∀ a, Mu' a → Mu a) : Rep K F Mu' σ H δ b := by
  have mu : ∀ a, Mu' a → Mu a ∨ H a = none := fun a z => .inl (h1 a z)
  refine ⟨R.len, R.ext, h0, fun a z => R.tr a (h1 a z), fun a z => R.new a (h1 a z), fun i s hs => ?_, R.own1, fun m hm => ⟨(R.mach m hm).1, (R.mach m hm).2.mu mu⟩⟩
  have := R.sl i s hs
  cases s with
  | no => trivial
  | raw w => exact this
  | dat d => obtain ⟨w, z1, z2⟩ := this; exact ⟨w, z1, z2.mu mu⟩
  | sta P => obtain ⟨w, z1, z2, z3⟩ := this; exact ⟨w, z1, z2, z2.mu _ _ _ _ z3 mu⟩
  | own ds => exact absurd hs (hn i ds)
theorem Rep.look (R : Rep K F Mu σ H δ b) (hn : free1 δ) : Rep K ⟨H, fun _ => False, none⟩ (fun _ => False) σ H δ b := by
  have mu : ∀ a, False → Mu a ∨ H a = none := fun _ z => z.elim
  refine ⟨R.len, fun a o _ z => z, fun a z => z.elim, fun a z => z.elim, fun a z => z.elim, fun i s hs => ?_, R.own1, fun m hm => nomatch hm⟩
  have := R.sl i s hs
  cases s with
  | no => trivial
  | raw w => exact this
  | dat d => obtain ⟨w, z1, z2⟩ := this; exact ⟨w, z1, z2.mu mu⟩
  | sta P => obtain ⟨w, z1, z2, z3⟩ := this; exact ⟨w, z1, z2, z2.mu _ _ _ _ z3 mu⟩
  | own ds => exact absurd hs (hn i ds)
theorem Rep.put (R : Rep K F Mu σ H δ b) (hn : free1 δ) (hm : F.m = none) {l : Addr} {o : HO} (ml : Mu l) (nl : ¬ F.N0 l) : Rep K F Mu σ (upd H l o) δ b := by
  have e : ExM Mu H (upd H l o) := ExM.at ml
  have h0 : F.H0 l = none := (R.new l ml).resolve_left nl
  refine ⟨R.len, fun a u n q => ?_, R.mu0, fun a z => ?_, R.new, fun i s hs => ?_, R.own1, fun m q => by rw [hm] at q; cases q⟩
  · rw [upd_ne (fun ea => by rw [ea, h0] at q; cases q)]
    exact R.ext a u n q
  · by_cases ea : a = l
    · subst ea; rw [upd_same]; simp
    · rw [upd_ne ea]; exact R.tr a z
  · have := R.sl i s hs
    cases s with
    | no => trivial
    | raw w => exact this
    | dat d => obtain ⟨w, z1, z2⟩ := this; exact ⟨w, z1, z2.exM e⟩
    | sta P => obtain ⟨w, z1, z2, z3⟩ := this; exact ⟨w, z1, z2, z2.ex _ _ _ _ z3 e⟩
    | own ds => exact absurd hs (hn i ds)
/-- the blocks' list at l -/
inductive BI (K : PySem.W.Frag) (N1 : Addr → Prop) (H1 : Hp) (Mu : Addr → Prop) (H : Hp) (l : Addr) : List Bk → Prop
  | emp : Mu = N1 → H l = some (.lst []) → BI K N1 H1 Mu H l []
  | got {bs : List Bk} {c : Bk} {q t : Addr} {vs rows : List V} : Mu = (fun a => N1 a ∨ a = q) → ¬ N1 q → H1 q = none → H l = some (.lst (vs ++ [.ref t])) → DqAll K Mu H vs (bs.map Bk.d) → H t = some (.tup [.str c.1, .int c.2.1, .ref q]) → ¬ Mu t →
      H q = some (.lst rows) → DqAll K Mu H rows (c.2.2.map Ln.d) → BI K N1 H1 Mu H l (bs ++ [c])
structure BSt (K : PySem.W.Frag) (F : Fm) (N1 : Addr → Prop) (H1 : Hp) (G : (Addr → Prop) → Hp → Prop) (l : Addr) (Mu : Addr → Prop) (σ : L2.St) (H : Hp) (δ : List Sl) (b : Nat) (bs : List Bk) : Prop where
  R : Rep K F Mu σ H δ b
  sl : δ[1]? = some (.raw (.ref l))
  no : free1 δ
  m0 : F.m = none
  n0 : ∀ a, F.N0 a → N1 a
  nl : N1 l
  nf : ¬ F.N0 l
  g : G Mu H
  x0 : ExM N1 H1 H
  bi : BI K N1 H1 Mu H l bs
  sub : ∀ a, N1 a → Mu a
variable {N1 : Addr → Prop} {H1 : Hp} {G : (Addr → Prop) → Hp → Prop} {l : Addr} {bs : List Bk} {J : It} {src : List PyData}
theorem ExM.keep (keep : ∀ a o, H a = some o → H' a = some o) : ExM Mu H H' := fun a o _ z => keep a o z
theorem BI.grow (h : BI K N1 H1 Mu H l bs) (keep : ∀ a o, H a = some o → H' a = some o) : BI K N1 H1 Mu H' l bs := by
  have e : ExM Mu H H' := ExM.keep keep
  cases h with
  | emp h1 h2 => exact .emp h1 (keep _ _ h2)
  | got h1 h2 h3 h4 h5 h6 h7 h8 h9 => exact .got h1 h2 h3 (keep _ _ h4) (h5.exM e) (keep _ _ h6) h7 (keep _ _ h8) (h9.exM e)
theorem BI.dat (h : BI K N1 H1 Mu H l bs) : Dq K (fun _ => False) H (.ref l) (.list (bs.map Bk.d)) := by
  have mu : ∀ a, False → Mu a ∨ H a = none := fun _ z => z.elim
  cases h with
  | emp h1 h2 => exact .lst (.of h2 id) .nil
  | got h1 h2 h3 h4 h5 h6 h7 h8 h9 =>
    rw [List.map_append]
    exact .lst (.of h4 id) ((h5.mu mu).append (.cons (.tup (.of h6 id) (.cons (.str _) (.cons (.int _) (.cons (.lst (.of h8 id) (h9.mu mu)) .nil)))) .nil))
theorem BSt.grow (wk : Wlk K J G src) (S : BSt K F N1 H1 G l Mu σ H δ b bs) (keep : ∀ a o, H a = some o → H' a = some o) : BSt K F N1 H1 G l Mu σ H' δ b bs :=
  ⟨S.R.grow keep, S.sl, S.no, S.m0, S.n0, S.nl, S.nf, wk.ex _ _ _ S.g (ExM.keep keep), S.x0.trans (ExM.keep keep), S.bi.grow keep, S.sub⟩
theorem BSt.ex (wk : Wlk K J G src) (S : BSt K F N1 H1 G l Mu σ H δ b bs) (e : ExB F Mu H H') : BSt K F N1 H1 G l Mu σ H' δ b bs :=
  S.grow wk fun a o z => e.1 a o (by rw [S.m0]; exact fun q => nomatch q) z
/-- other slots have changed -/
theorem BSt.slots {σ' : L2.St} {δ' : List Sl} (S : BSt K F N1 H1 G l Mu σ H δ b bs) (R : Rep K F Mu σ' H δ' b) (h1 : δ'[1]? = some (.raw (.ref l))) (h2 : free1 δ') : BSt K F N1 H1 G l Mu σ' H δ' b bs :=
  ⟨R, h1, h2, S.m0, S.n0, S.nl, S.nf, S.g, S.x0, S.bi, S.sub⟩
/-- all as data, for a look -/
theorem BSt.look (S : BSt K F N1 H1 G l Mu σ H δ b bs) : Rep K ⟨H, fun _ => False, none⟩ (fun _ => False) σ H (δ.set 1 (.dat (.list (bs.map Bk.d)))) b := by
  have h := (S.R.look S.no).set (i := 1) S.bi.dat
  rwa [set_self (show σ[1]? = some (some (.ref l)) from S.R.sl 1 _ S.sl)] at h
theorem BSt.lk (wk : Wlk K J G src) (S : BSt K F N1 H1 G l Mu σ H δ b bs) (e : ExB ⟨H, fun _ => False, none⟩ (fun _ => False) H H') : BSt K F N1 H1 G l Mu σ H' δ b bs :=
  S.grow wk fun a o z => e.1 a o (fun q => nomatch q) z
theorem BSt.lst (S : BSt K F N1 H1 G l Mu σ H δ b bs) : ∃ vs, H l = some (.lst vs) ∧ vs.length = bs.length := by
  have h := S.bi
  cases h with
  | emp h1 h2 => exact ⟨[], h2, rfl⟩
  | got h1 h2 h3 h4 h5 h6 h7 h8 h9 => exact ⟨_, h4, by simp [h5.length]⟩
theorem ExM.upd {N : Addr → Prop} {Ha Hb : Hp} (e : ExM N Ha Hb) {q : Addr} {o : HO} (h : Ha q = none) : ExM N Ha (upd Hb q o) := fun a u n z => by
  rw [upd_ne (ne_of_none z h)]; exact e a u n z
/-- a new block -/
theorem BSt.new (wk : Wlk K J G src) (S : BSt K F N1 H1 G l Mu σ H δ b bs) {q t : Addr} {vs : List V} {n : Str} {i : Int} (hq : H q = none) (ht : upd H q (.lst []) t = none) (hl : H l = some (.lst vs)) :
    BSt K F N1 H1 G l (fun a => N1 a ∨ a = q) σ (upd (upd (upd H q (.lst [])) t (.tup [.str n, .int i, .ref q])) l (.lst (vs ++ [.ref t]))) δ b (bs ++ [(n, i, [])]) := by
  have hlq : l ≠ q := ne_of_none hl hq
  have hqt : q ≠ t := fun e => by rw [← e, upd_same] at ht; cases ht
  have htn : H t = none := by rw [upd_ne (Ne.symm hqt)] at ht; exact ht
  have hlt : l ≠ t := ne_of_none hl htn
  have nq : ¬ N1 q := fun z => S.R.tr q (S.sub q z) hq
  have nt : ¬ (N1 t ∨ t = q) := fun z => z.elim (fun z => S.R.tr t (S.sub t z) htn) (fun z => hqt z.symm)
  have ml : (fun a => Mu a ∨ a = q) l := .inl (S.sub l S.nl)
  have R3 := ((S.R.more (o := .lst []) hq).fresh (o := .tup [.str n, .int i, .ref q]) ht).put (o := .lst (vs ++ [.ref t])) S.no S.m0 ml S.nf
  have mu : ∀ a, (N1 a ∨ a = q) → Mu a ∨ H a = none := fun a z => z.imp (S.sub a) fun z => by rw [z]; exact hq
  have e : ExM (fun a => N1 a ∨ a = q) H (upd (upd (upd H q (.lst [])) t (.tup [.str n, .int i, .ref q])) l (.lst (vs ++ [.ref t]))) := fun a o na z => by
    rw [upd_ne (fun ea => na (.inl (by rw [ea]; exact S.nl))), upd_ne (ne_of_none z htn), upd_ne (ne_of_none z hq)]; exact z
  have h1q : H1 q = none := by
    cases z : H1 q with
    | none => rfl
    | some o => rw [S.x0 q o nq z] at hq; cases hq
  refine ⟨R3.lessen S.no (fun a z => .inl (S.n0 a z)) (fun a z => z.imp (S.sub a) id), S.sl, S.no, S.m0, S.n0, S.nl, S.nf, wk.ex _ _ _ (wk.mu _ _ _ S.g mu) e, fun a o na z => ?_, ?_, fun a z => .inl z⟩
  · have z2 := S.x0 a o na z
    rw [upd_ne (fun ea => na (by rw [ea]; exact S.nl)), upd_ne (ne_of_none z2 htn), upd_ne (ne_of_none z2 hq)]; exact z2
  have old : DqAll K (fun a => N1 a ∨ a = q) (upd (upd (upd H q (.lst [])) t (.tup [.str n, .int i, .ref q])) l (.lst (vs ++ [.ref t]))) vs (bs.map Bk.d) := by
    have h := S.bi
    cases h with
    | emp h1 h2 => rw [hl] at h2; cases h2; exact .nil
    | got h1 h2 h3 h4 h5 h6 h7 h8 h9 =>
      rw [hl] at h4; cases h4
      rw [List.map_append]
      refine ((h5.mu mu).exM e).append (.cons (.tup (.of (e _ _ (fun z => ?_) h6) (fun z => ?_)) (.cons (.str _) (.cons (.int _) (.cons (.lst (.of (e _ _ (fun z => ?_) h8) (fun z => ?_)) ((h9.mu mu).exM e)) .nil)))) .nil)
      · exact z.elim (fun z => h7 (S.sub _ z)) (fun z => by rw [z, hq] at h6; cases h6)
      · exact z.elim (fun z => h7 (S.sub _ z)) (fun z => by rw [z, hq] at h6; cases h6)
      · exact z.elim h2 (fun z => by rw [z, hq] at h8; cases h8)
      · exact z.elim h2 (fun z => by rw [z, hq] at h8; cases h8)
  exact .got (c := (n, i, [])) rfl nq h1q upd_same old (by rw [upd_ne (Ne.symm hlt), upd_same]) nt (by rw [upd_ne (Ne.symm hlq), upd_ne hqt, upd_same]) .nil
/-- the last block's list -/
theorem BSt.last {c : Bk} (wk : Wlk K J G src) (S : BSt K F N1 H1 G l Mu σ H δ b (bs ++ [c])) : ∃ (q t : Addr) (vs rows : List V), H l = some (.lst (vs ++ [.ref t])) ∧ H t = some (.tup [.str c.1, .int c.2.1, .ref q]) ∧ H q = some (.lst rows) ∧ rows.length = c.2.2.length ∧ ¬ N1 q ∧ Mu q ∧
    ∀ (p : Addr) (y : Ln) (w : V), H p = none → Dq K Mu H w y.v → BSt K F N1 H1 G l Mu σ (upd (upd H p (.tup [.str y.sort, w])) q (.lst (rows ++ [.ref p]))) δ b (bs ++ [(c.1, c.2.1, c.2.2 ++ [y])]) := by
  have h := S.bi
  generalize e0 : bs ++ [c] = bs0 at h
  cases h with
  | emp h1 h2 => simp at e0
  | got h1 h2 h3 h4 h5 h6 h7 h8 h9 =>
    rename_i bs' c' q t vs rows
    obtain ⟨rfl, e2⟩ := List.append_inj' e0 rfl
    cases e2
    have mq : Mu q := by rw [h1]; exact .inr rfl
    refine ⟨q, t, vs, rows, h4, h6, h8, by rw [h9.length, List.length_map], h2, mq, fun p y w hp hw => ?_⟩
    have hpq : p ≠ q := fun z => by rw [z, h8] at hp; cases hp
    have npm : ¬ Mu p := fun z => S.R.tr p z hp
    have e : ExM Mu H (upd (upd H p (.tup [.str y.sort, w])) q (.lst (rows ++ [.ref p]))) := fun a o na z => by
      rw [upd_ne (fun ea => na (by rw [ea]; exact mq)), upd_ne (ne_of_none z hp)]; exact z
    have kp : ∀ a o, a ≠ q → H a = some o → upd (upd H p (.tup [.str y.sort, w])) q (.lst (rows ++ [.ref p])) a = some o := fun a o na z => by
      rw [upd_ne na, upd_ne (ne_of_none z hp)]; exact z
    refine ⟨(S.R.fresh hp).put S.no S.m0 mq (fun z => h2 (S.n0 q z)), S.sl, S.no, S.m0, S.n0, S.nl, S.nf, wk.ex _ _ _ S.g e, fun a o na z => ?_, ?_, S.sub⟩
    · rw [upd_ne (ne_of_none z h3), upd_ne (ne_of_none (S.x0 a o na z) hp)]
      exact S.x0 a o na z
    refine .got (c := (c.1, c.2.1, c.2.2 ++ [y])) h1 h2 h3 (kp _ _ (fun z => h2 (by rw [← z]; exact S.nl)) h4) (h5.exM e) (kp _ _ (fun z => h7 (by rw [z]; exact mq)) h6) h7 upd_same ?_
    rw [List.map_append]
    exact (h9.exM e).append (.cons (.tup (.of (by rw [upd_ne hpq, upd_same]) npm) (.cons (.str _) (.cons (hw.exM e) .nil))) .nil)
end
end Wk
namespace Wk
open L2 RZ PyProof.Rows PySem.Spec PySem
/-! the tests, plain -/
abbrev tt1 : TTD := (dAnd (dTest (d2 isNND (dVar 5) (dC .none))) (dOr (dTest (d2 eqD (dVar 1) (dList (aLst aNil)))) (dTest (d2 ltD (d2 idxD (d2 idxD (dVar 1) (dC (.int (-1)))) (dC (.int 0))) (d2 idxD (dVar 5) (dC (.int 0)))))))
abbrev tt2 : TTD := (dAnd (dTest (d2 isNND (dVar 6) (dC .none))) (dAnd (dTest (d2 neD (dVar 1) (dList (aLst aNil)))) (dTest (dCall T_goes_on (aCons (d2 idxD (d2 idxD (dVar 1) (dC (.int (-1)))) (dC (.int 2))) (aCons (dVar 6) (aCons (dVar 7) aNil)))))))
def nextB (k : Option (Str × Int)) (bs : List Bk) : Bool := match k with
  | none => false
  | some p => match bs.getLast? with
    | none => true
    | some c => ltS c.1 p.1
def lineB (o : Option Ln) (bs : List Bk) : Bool := match o, bs.getLast? with
  | some l, some c => goesOn c.2.2 l
  | _, _ => false
def lineX : Option Ln → PyData
  | none => .none
  | some l => .str l.sort
def lineY : Option Ln → PyData
  | none => .none
  | some l => l.v
theorem lineD_xy (o : Option Ln) : lineD o = .tuple [lineX o, lineY o] := by cases o <;> rfl
theorem layB_all {bs : List Bk} (h : layB bs) : PyData.canLayAll0 (bs.map Bk.d) = true := lay_all fun x hx => by
  obtain ⟨b, hb, rfl⟩ := List.mem_map.mp hx; obtain ⟨h1, h2⟩ := h b hb
  show PyData.canLayAll0 [.str b.1, .int b.2.1, .list (b.2.2.map Ln.d)] = true
  simp only [PyData.canLayAll0, h2, h1.1, Bool.and_true, Bool.true_and]
  rfl
theorem at_last (bs : List Bk) (c : Bk) : idxD (.list ((bs ++ [c]).map Bk.d)) (.int (-1)) = some c.d := by
  rw [idxD_list, atI_m1, List.getLast?_map, List.getLast?_concat]; rfl
theorem t1_go {δ : List Sl} {b : Nat} {bs : List Bk} {k : Option (Str × Int)} (h1 : δ[1]? = some (.dat (.list (bs.map Bk.d)))) (h5 : δ[5]? = some (.dat (optK k))) (hl : layB bs) : tt1 δ b (fun c b' => c = nextB k bs ∧ b' = b) := by
  refine ⟨_, h5, ?_⟩
  cases k with
  | none => exact ⟨.bool false, rfl, false, rfl, rfl, rfl⟩
  | some p =>
    refine ⟨.bool true, rfl, true, rfl, ?_⟩
    refine ⟨_, h1, by rw [line_eq]; exact Nat.zero_le _, _, eq_lst (layB_all hl), _, rfl, ?_⟩
    rcases List.eq_nil_or_concat bs with rfl | ⟨cs, c, rfl⟩
    · exact ⟨rfl, rfl⟩
    · rw [List.concat_eq_append] at *
      have ne : ((cs ++ [c]).map Bk.d).isEmpty = false := by simp
      rw [ne]
      refine ⟨_, h1, _, at_last cs c, _, rfl, _, h5, _, rfl, _, rfl, _, rfl, ?_, rfl⟩
      simp [nextB, ltS]
theorem t2_go {δ : List Sl} {b : Nat} {bs : List Bk} {o : Option Ln} (h1 : δ[1]? = some (.dat (.list (bs.map Bk.d)))) (h6 : δ[6]? = some (.dat (lineX o))) (h7 : δ[7]? = some (.dat (lineY o))) (hl : layB bs) : tt2 δ b (fun c b' => c = lineB o bs ∧ b' = b) := by
  refine ⟨_, h6, ?_⟩
  cases o with
  | none => exact ⟨.bool false, rfl, false, rfl, by simp [lineB], rfl⟩
  | some l =>
    refine ⟨.bool true, rfl, true, rfl, ?_⟩
    refine ⟨_, h1, by rw [line_eq]; exact Nat.zero_le _, _, ne_lst (layB_all hl), _, rfl, ?_⟩
    rcases List.eq_nil_or_concat bs with rfl | ⟨cs, c, rfl⟩
    · exact ⟨by simp [lineB], rfl⟩
    · rw [List.concat_eq_append] at *
      have ne : (!((cs ++ [c]).map Bk.d).isEmpty) = true := by simp
      rw [ne]
      refine ⟨_, h1, _, at_last cs c, _, rfl, _, h6, _, h7, c.2.2, l, rfl, (hl c (by simp)).1, _, rfl, ?_, rfl⟩
      simp [lineB]
/-- a step, by the tests -/
theorem step_go {bs bs' : List Bk} {ws : List Str} (h : stepB bs ws = some bs') :
    (nextB (kindIn ws) bs = true ∧ ∃ p, kindIn ws = some p ∧ bs' = bs ++ [(p.1, p.2, [])]) ∨
    (nextB (kindIn ws) bs = false ∧ lineB (lineIn ws) bs = true ∧ ∃ l cs c, lineIn ws = some l ∧ bs = cs ++ [c] ∧ bs' = cs ++ [(c.1, c.2.1, c.2.2 ++ [l])]) := by
  have line : stepB.stepL bs ws = some bs' → lineB (lineIn ws) bs = true ∧ ∃ l cs c, lineIn ws = some l ∧ bs = cs ++ [c] ∧ bs' = cs ++ [(c.1, c.2.1, c.2.2 ++ [l])] := fun h => by
    unfold stepB.stepL at h
    rcases List.eq_nil_or_concat bs with rfl | ⟨cs, c, rfl⟩
    · cases lineIn ws <;> simp at h
    · rw [List.concat_eq_append] at *
      cases hl : lineIn ws with
      | none => rw [hl] at h; simp at h
      | some l =>
        rw [hl] at h
        simp only [List.getLast?_concat, List.dropLast_concat] at h
        split at h
        · rename_i hg
          cases h
          exact ⟨by simp [lineB, hg], l, cs, c, rfl, rfl, rfl⟩
        · cases h
  unfold stepB at h
  cases hk : kindIn ws with
  | none =>
    rw [hk] at h
    exact .inr ⟨rfl, line h⟩
  | some p =>
    rw [hk] at h
    obtain ⟨n, k⟩ := p
    cases hg : bs.getLast? with
    | none =>
      simp only [hg, if_pos] at h
      cases h
      exact .inl ⟨by simp [nextB, hg], _, rfl, rfl⟩
    | some c =>
      simp only [hg] at h
      cases hc : ltS c.1 n with
      | true =>
        rw [hc, if_pos rfl] at h
        cases h
        exact .inl ⟨by simp [nextB, hg, hc], _, rfl, rfl⟩
      | false =>
        rw [hc, if_neg Bool.false_ne_true] at h
        exact .inr ⟨by simp [nextB, hg, hc], line h⟩
end Wk
namespace Wk
open L2 RZ PyProof.Rows PySem.Spec PySem
abbrev teW : TD := (dList (nSplit (dVar 3) (dC (.str " "))))
abbrev teK : TD := (dTup (aCons (dCall T_kind_in (aCons (dVar 4) aNil)) (aCons (dCall T_line_in (aCons (dVar 4) aNil)) aNil)))
abbrev tg2 : Tg := (.tup [(.nm 5), (.tup [(.nm 6), (.nm 7)])])
abbrev k5 (i : Int) : TD := (d2 idxD (dVar 5) (dC (.int i)))
abbrev srcB : TAD := (iEL (dList (nSplit (dVar 0) (dC (.str "\n")))))
def tBodyB (K : PySem.W.Frag) (F : Fm) : TS :=
  tSeq (tAsg (cE K F teW) (gName 4)) (tSeq (tAsg (cE K F teK) (cG K F tg2)) (tIfS (fun σ H Q => ∃ F', cT K F' tt1 σ H Q)
    (tDrop (tBM K "list" rAppend (tVar 1) (tCons (tTup (tCons (cE K F (k5 0)) (tCons (cE K F (k5 1)) (tCons (tLst tNil) tNil)))) tNil)))
    (tIfS (fun σ H Q => ∃ F', cT K F' tt2 σ H Q)
      (tDrop (tBM K "list" rAppend (tOp (rIx K) (tOp (rIx K) (tVar 1) (tUn (rU fun i => .int (-i)) (tC (.int 1)))) (tC (.int 2))) (tCons (tTup (tCons (cE K F (dVar 6)) (tCons (cE K F (dVar 7)) tNil))) tNil)))
      tNever)))
@[simp] def tBlk : TSD := fun D δ b => δ.length = 8 ∧ ∃ (x : Str) (bs : List Bk), δ[0]? = some (.dat (.str x)) ∧ δ[1]? = some (.own []) ∧ (∀ i, i ≠ 1 → ∀ ds, δ[i]? ≠ some (Sl.own ds)) ∧ x.length ≤ 1000000 ∧ (Txt.split x "\n").length ≤ 100000 ∧ RunB (Txt.split x "\n") [] bs ∧
  ∀ δ', δ'[1]? = some (.own (bs.map Bk.d)) → D.nx δ' b
theorem free1.set {δ : List Sl} (h : free1 δ) {i : Nat} {s : Sl} (hs : ∀ ds, s ≠ .own ds) : free1 (δ.set i s) := fun j ds e => by
  rw [List.getElem?_set] at e
  split at e
  · split at e
    · cases e; exact hs ds rfl
    · cases e
  · exact h j ds e
section
variable {K : PySem.W.Frag} {F : Fm} {N1 Mu : Addr → Prop} {σ : L2.St} {H H1 : Hp} {δ : List Sl} {b : Nat} {G : (Addr → Prop) → Hp → Prop} {l : Addr} {J : It} {src : List PyData} {bs : List Bk}
/-- one line's turn -/
theorem body_go (wk : Wlk K J G src) {x : Str} {bs' : List Bk} {D : Ends} (S : BSt K F N1 H1 G l Mu σ H δ b bs) (hlen : δ.length = 8) (h3 : δ[3]? = some (.dat (.str x))) (ho : lineOk x) (hl : layB bs) (hs : stepB bs (Txt.split x " ") = some bs') (hmany : bs.length < 16777216 ∧ ∀ c ∈ bs, c.2.2.length < 16777216)
    (hN : ∀ Mu' σ' H' δ', BSt K F N1 H1 G l Mu' σ' H' δ' b bs' → δ'.length = 8 → D.nx σ' H') : tBodyB K F D σ H := by
  obtain ⟨o1, o2, o3, o4⟩ := ho
  have two : (2 : Nat) ≤ sizeLine := by rw [line_eq]; decide
  refine cE.go (Q' := fun d b' => d = .list ((Txt.split x " ").map PyData.str) ∧ b' = b) S.R ?_ ?_
  · exact ⟨_, h3, x, rfl, " ", rfl, rfl, by rw [line_eq]; omega, by rw [line_eq]; exact Nat.le_trans o2.1 (by decide), rfl, rfl⟩
  rintro v H2 d b2 R2 e2 q2 ⟨rfl, rfl⟩
  have S2 := S.ex wk e2
  have S3 := S2.slots (S2.R.set (i := 4) q2) (by rw [List.getElem?_set_ne (by decide)]; exact S.sl) (S.no.set fun _ z => nomatch z)
  have l3 : (δ.set 4 (.dat (.list ((Txt.split x " ").map PyData.str)))).length = 8 := by simp [hlen]
  have h4 : (δ.set 4 (.dat (.list ((Txt.split x " ").map PyData.str))))[4]? = some (.dat (.list ((Txt.split x " ").map PyData.str))) := by
    rw [List.getElem?_set, if_pos rfl, if_pos (by omega)]
  generalize δ.set 4 (.dat (.list ((Txt.split x " ").map PyData.str))) = δ3 at S3 l3 h4
  show tAsg (cE K F teK) (cG K F tg2) _ _ H2
  refine cE.go (Q' := fun d b' => d = .tuple [optK (kindIn (Txt.split x " ")), lineD (lineIn (Txt.split x " "))] ∧ b' = b2) S3.R ?_ ?_
  · exact ⟨_, h4, Txt.split x " ", rfl, o2, ⟨_, h4, Txt.split x " ", rfl, o4, o2, o3, two, rfl, rfl⟩⟩
  rintro v3 H3 d3 b3 R3 e3 q3 ⟨rfl, rfl⟩
  have S4 := S3.ex wk e3
  refine ⟨Mu, δ3, b3, _, _, S4.R, q3, by rw [lineD_xy]; rfl, fun σ5 R5 _ => ?_⟩
  have S5 := S4.slots R5 (by simp only [List.getElem?_set_ne (show (7:Nat) ≠ 1 by decide), List.getElem?_set_ne (show (6:Nat) ≠ 1 by decide), List.getElem?_set_ne (show (5:Nat) ≠ 1 by decide)]; exact S4.sl) (((S4.no.set (by intro _ z; cases z)).set (by intro _ z; cases z)).set (by intro _ z; cases z))
  have l5 : (((δ3.set 5 (.dat (optK (kindIn (Txt.split x " "))))).set 6 (.dat (lineX (lineIn (Txt.split x " "))))).set 7 (.dat (lineY (lineIn (Txt.split x " "))))).length = 8 := by simp [l3]
  have g5 : (((δ3.set 5 (.dat (optK (kindIn (Txt.split x " "))))).set 6 (.dat (lineX (lineIn (Txt.split x " "))))).set 7 (.dat (lineY (lineIn (Txt.split x " ")))))[5]? = some (.dat (optK (kindIn (Txt.split x " ")))) := by simp [List.getElem?_set, l3]
  have g6 : (((δ3.set 5 (.dat (optK (kindIn (Txt.split x " "))))).set 6 (.dat (lineX (lineIn (Txt.split x " "))))).set 7 (.dat (lineY (lineIn (Txt.split x " ")))))[6]? = some (.dat (lineX (lineIn (Txt.split x " ")))) := by simp [List.getElem?_set, l3]
  have g7 : (((δ3.set 5 (.dat (optK (kindIn (Txt.split x " "))))).set 6 (.dat (lineX (lineIn (Txt.split x " "))))).set 7 (.dat (lineY (lineIn (Txt.split x " ")))))[7]? = some (.dat (lineY (lineIn (Txt.split x " ")))) := by simp [List.getElem?_set, l3]
  generalize (((δ3.set 5 (.dat (optK (kindIn (Txt.split x " "))))).set 6 (.dat (lineX (lineIn (Txt.split x " "))))).set 7 (.dat (lineY (lineIn (Txt.split x " "))))) = δ5 at S5 l5 g5 g6 g7
  have n1 : ∀ (d : PyData), (δ5.set 1 (.dat d))[1]? = some (.dat d) := fun d => by rw [List.getElem?_set, if_pos rfl, if_pos (by omega)]
  have nn : ∀ (d : PyData) (j : Nat), j ≠ 1 → (δ5.set 1 (.dat d))[j]? = δ5[j]? := fun d j hj => List.getElem?_set_ne (Ne.symm hj)
  refine ⟨⟨H3, fun _ => False, none⟩, cT.go S5.look (t1_go (n1 _) (by rw [nn _ 5 (by decide)]; exact g5) hl) ?_⟩
  rintro c H6 b6 _ e6 ⟨rfl, rfl⟩
  have S6 := S5.lk wk e6
  rcases step_go hs with ⟨hc, p, hk, rfl⟩ | ⟨hc, hlb, y, cs, c, hy, rfl, rfl⟩
  · rw [hc, if_pos rfl]
    refine ⟨_, S6.R.sl 1 _ S6.sl, ?_, ?_⟩
    · obtain ⟨vs, z, _⟩ := S6.lst
      exact .inl ⟨rfl, vs, .inl (.inl z)⟩
    rw [hk] at g5
    refine cE.go (Q' := fun d b' => d = .str p.1 ∧ b' = b6) S6.R ⟨_, g5, _, rfl, rfl, rfl⟩ ?_
    rintro v7 H7 d7 b7 R7 e7 q7 ⟨rfl, rfl⟩
    have S7 := S6.ex wk e7
    cases q7
    refine cE.go (Q' := fun d b' => d = .int p.2 ∧ b' = b7) S7.R ⟨_, g5, _, rfl, rfl, rfl⟩ ?_
    rintro v8 H8 d8 b8 R8 e8 q8 ⟨rfl, rfl⟩
    have S8 := S7.ex wk e8
    cases q8
    refine ⟨Nat.zero_le _, fun q hq => ⟨by rw [line_eq]; show (3 : Nat) ≤ _; decide, fun t ht => ?_⟩⟩
    obtain ⟨vs, hv, hvl⟩ := S8.lst
    have hq2 : l ≠ q := ne_of_none hv hq
    have ht2 : l ≠ t := ne_of_none (show upd H8 q (.lst []) l = some (.lst vs) by rw [upd_ne hq2]; exact hv) ht
    refine ⟨l, vs, .ref t, rfl, rfl, by rw [upd_ne ht2, upd_ne hq2]; exact hv, by rw [line_eq, hvl]; exact hmany.1, ?_⟩
    exact hN _ _ _ _ (S8.new wk hq ht hv) l5
  · rw [hc, if_neg Bool.false_ne_true]
    refine ⟨⟨H6, fun _ => False, none⟩, cT.go S6.look (t2_go (n1 _) (by rw [nn _ 6 (by decide)]; exact g6) (by rw [nn _ 7 (by decide)]; exact g7) hl) ?_⟩
    rintro c2 H7 b7 _ e7 ⟨rfl, rfl⟩
    have S7 := S6.lk wk e7
    rw [hlb, if_pos rfl]
    rw [hy] at g6 g7
    obtain ⟨q, t, vs, rows, z1, z2, z3, z4, z5, z6, _⟩ := S7.last wk
    refine ⟨_, S7.R.sl 1 _ S7.sl, ⟨1, rfl, .inl ⟨l, _, -1, .ref t, rfl, rfl, .inl (.inl z1), by rw [atI_m1, List.getLast?_concat], .inr (.inl ⟨t, _, 2, .ref q, rfl, rfl, .inl (.inl z2), rfl, .inl ⟨rfl, rows, .inl (.inl z3)⟩, ?_⟩)⟩⟩⟩
    refine cE.go (Q' := fun d b' => d = .str y.sort ∧ b' = b7) S7.R ⟨_, g6, rfl, rfl⟩ ?_
    rintro v8 H8 d8 b8 R8 e8 q8 ⟨rfl, rfl⟩
    have S8 := S7.ex wk e8
    cases q8
    refine cE.go (Q' := fun d b' => d = y.v ∧ b' = b8) S8.R ⟨_, g7, rfl, rfl⟩ ?_
    rintro v9 H9 d9 b9 R9 e9 q9 ⟨rfl, rfl⟩
    have S9 := S8.ex wk e9
    refine ⟨two, fun p hp => ?_⟩
    have kp : ∀ {Ha Hb : Hp}, ExB F Mu Ha Hb → ∀ a o, Ha a = some o → Hb a = some o := fun e a o z => e.1 a o (by rw [S.m0]; exact fun q => nomatch q) z
    have z1' := kp e9 _ _ (kp e8 _ _ z1)
    have z2' := kp e9 _ _ (kp e8 _ _ z2)
    have z3' := kp e9 _ _ (kp e8 _ _ z3)
    obtain ⟨q', t', vs', rows', y1, y2, y3, y4, y5, y6, fin⟩ := S9.last wk
    rw [z1'] at y1
    have : t = t' := by
      have := congrArg (fun o => match o with | some (HO.lst xs) => xs.getLast? | _ => none) y1
      simpa using this
    subst this
    rw [z2'] at y2
    cases y2
    rw [z3'] at y3
    cases y3
    refine ⟨q, rows, .ref p, rfl, rfl, by rw [upd_ne (ne_of_none z3' hp)]; exact z3', by rw [line_eq, z4]; exact hmany.2 c (by simp), ?_⟩
    exact hN _ _ _ _ (fin p y v9 hp q9) l5
end
end Wk
namespace Wk
open L2 RZ PyProof.Rows PySem.Spec PySem
section
variable {K : PySem.W.Frag} {F : Fm} {N1 Mu : Addr → Prop} {σ : L2.St} {H H1 : Hp} {δ : List Sl} {b : Nat} {G : (Addr → Prop) → Hp → Prop} {l : Addr} {J : It} {src : List PyData} {bs : List Bk}
theorem BI.own (h : BI K N1 H1 Mu H l bs) (m : ∀ a, N1 a → Mu a) : ∃ vs, H l = some (.lst vs) ∧ DqAll K N1 H vs (bs.map Bk.d) := by
  have mu : ∀ a, N1 a → Mu a ∨ H a = none := fun a z => .inl (m a z)
  cases h with
  | emp h1 h2 => exact ⟨_, h2, .nil⟩
  | got h1 h2 h3 h4 h5 h6 h7 h8 h9 =>
    rw [List.map_append]
    exact ⟨_, h4, (h5.mu mu).append (.cons (.tup (.of h6 fun z => h7 (m _ z)) (.cons (.str _) (.cons (.int _) (.cons (.lst (.of h8 h2) (h9.mu mu)) .nil)))) .nil)⟩
theorem stepB_len {bs bs' : List Bk} {ws : List Str} {n : Nat} (h : stepB bs ws = some bs') (h1 : bs.length ≤ n) (h2 : ∀ c ∈ bs, c.2.2.length ≤ n) : bs'.length ≤ n + 1 ∧ ∀ c ∈ bs', c.2.2.length ≤ n + 1 := by
  rcases step_go h with ⟨_, p, _, rfl⟩ | ⟨_, _, y, cs, c, _, rfl, rfl⟩
  · refine ⟨by simp; omega, fun c hc => ?_⟩
    rw [List.mem_append, List.mem_singleton] at hc
    rcases hc with hc | rfl
    · exact Nat.le_trans (h2 c hc) (by omega)
    · exact Nat.zero_le _
  · refine ⟨by simp at h1 ⊢; omega, fun c' hc => ?_⟩
    rw [List.mem_append, List.mem_singleton] at hc
    rcases hc with hc | rfl
    · exact Nat.le_trans (h2 c' (by simp [hc])) (by omega)
    · have := h2 c (by simp)
      simp only [List.length_append, List.length_cons, List.length_nil]
      omega
theorem blk_for (hm : F.m = none) {D : Ends} (h : cS K F tBlk D σ H) : tFor (cI K F srcB) (cG K F (.tup [(.nm 2), (.nm 3)])) (tBodyB K F) D σ H := by
  obtain ⟨Mu, δ, b, D', R, ⟨hlen, x, bs, h0, h1, hno, hx, hn, run, hk⟩, lf⟩ := h
  obtain ⟨l, vs0, e0, ml, nl, q1, q2⟩ := R.sl 1 _ h1
  have ev : vs0 = [] := by cases q2; rfl
  subst ev
  have R0 := R.fill (i := 1) (v := .ref l) (s := .raw (.ref l)) rfl
  rw [set_self e0] at R0
  have fr : free1 (δ.set 1 (.raw (.ref l))) := fun j ds z => by
    rw [List.getElem?_set] at z
    split at z
    · split at z <;> cases z
    · rename_i hj
      exact hno j (Ne.symm hj) ds z
  refine ⟨Mu, δ.set 1 (.raw (.ref l)), b, fun ds b' => ds = enumD 0 ((Txt.split x "\n").map PyData.str) ∧ b' = b, R0, ?_, ?_⟩
  · refine ⟨_, by rw [List.getElem?_set_ne (by decide)]; exact h0, x, rfl, "\n", rfl, rfl, by rw [line_eq]; omega, by rw [line_eq]; exact Nat.le_trans hn (by decide), _, rfl, rfl, rfl⟩
  rintro J H1 ds G b1 R1 e1 g1 wk ⟨rfl, rfl⟩
  have S0 : BSt K F Mu H1 G l Mu σ H1 (δ.set 1 (.raw (.ref l))) b1 [] := ⟨R1, by rw [List.getElem?_set, if_pos rfl, if_pos (by omega)], fr, hm, R.mu0, ml, nl, g1, ExM.refl H1, .emp rfl (e1.1 l _ (by rw [hm]; exact fun q => nomatch q) q1), fun _ z => z⟩
  generalize hls : Txt.split x "\n" = ls at *
  have hds : (enumD 0 (ls.map PyData.str)).length = ls.length := by rw [enumD_len, List.length_map]
  refine ⟨fun i m σ H => m = ls.length - i ∧ i ≤ ls.length ∧ ∃ Mu' δ' cs, BSt K F Mu H1 G l Mu' σ H δ' b1 cs ∧ δ'.length = 8 ∧ RunB (ls.drop i) cs bs ∧ cs.length ≤ i ∧ ∀ c ∈ cs, c.2.2.length ≤ i,
    ⟨_, rfl, Nat.zero_le _, Mu, _, [], S0, by simp [hlen], by simpa using run, Nat.le_refl _, fun c hc => by simp at hc⟩, ?_⟩
  rintro i m σ2 H2 ⟨em, hi, Mu2, δ2, cs, S2, l2, r2, c1, c2⟩
  by_cases hlt : i < ls.length
  · refine .inr ⟨wk.go _ _ _ S2.g (by rw [hds]; exact hlt), fun σ' H' => i + 1 ≤ ls.length ∧ ∃ Mu' δ' cs, BSt K F Mu H1 G l Mu' σ' H' δ' b1 cs ∧ δ'.length = 8 ∧ RunB (ls.drop (i + 1)) cs bs ∧ cs.length ≤ i + 1 ∧ ∀ c ∈ cs, c.2.2.length ≤ i + 1, fun σ' H' z => ⟨ls.length - (i + 1), by omega, rfl, z⟩, fun y H3 hy => ?_⟩
    obtain ⟨keep, d, hd, qx⟩ := wk.yld _ _ _ _ _ S2.g S2.R.tr (by rw [hds]; exact hlt) hy
    have hgl : ls[i]? = some ls[i] := List.getElem?_eq_getElem hlt
    rw [enumD_get _ 0 i (.str ls[i]) (by rw [List.getElem?_map, hgl]; rfl)] at hd
    cases hd
    rw [List.drop_eq_getElem_cons hlt] at r2
    cases r2 with
    | cons ho hl hs run' =>
      have S3 := S2.grow wk keep
      refine ⟨Mu2, δ2, b1, _, _, S3.R, qx, rfl, fun σ4 R4 _ => ?_⟩
      have S4 := S3.slots R4 (by simp only [List.getElem?_set_ne (show (3:Nat) ≠ 1 by decide), List.getElem?_set_ne (show (2:Nat) ≠ 1 by decide)]; exact S3.sl) ((S3.no.set (by intro _ z; cases z)).set (by intro _ z; cases z))
      refine body_go wk S4 (by simp [l2]) (by rw [List.getElem?_set, if_pos rfl, if_pos (by simp [l2])]) ho hl hs ⟨by omega, fun c hc => by have := c2 c hc; omega⟩ fun Mu' σ' H' δ' S' l' => ?_
      obtain ⟨k1, k2⟩ := stepB_len hs c1 c2
      exact ⟨hlt, Mu', δ', _, S', l', run', k1, k2⟩
  · have e : i = ls.length := by omega
    subst e
    rw [List.drop_length] at r2
    cases r2
    refine .inl ⟨by rw [← hds]; exact wk.stop _ _ S2.g, ?_⟩
    obtain ⟨vs, v1, v2⟩ := S2.bi.own S2.sub
    have R3 := (S2.R.lessen S2.no S2.n0 S2.sub).fill (i := 1) (v := .ref l) (s := .own (bs.map Bk.d)) ⟨⟨l, vs, rfl, ml, nl, v1, v2⟩, fun j es z => absurd z (S2.no j es)⟩
    rw [set_self (show σ2[1]? = some (some (.ref l)) from S2.R.sl 1 _ S2.sl)] at R3
    exact lf.nx _ _ _ _ _ R3 ⟨e1.2.trans S2.x0, fun _ z => .inl z, fun _ z => z⟩ (hk _ (by rw [List.getElem?_set, if_pos rfl, if_pos (by omega)]))
end
end Wk
namespace Wk
open L2 RZ PyProof.Rows PySem.Spec PySem
abbrev N_blocks_in : List Str := ["text", "blocks", "number", "line", "words", "kind", "sort", "found"]
theorem sc_blocks_in : FnScope N_blocks_in ["text"] (defScope (top 69)) := ⟨rfl, rfl, rfl, by decide +kernel, rfl, by decide +kernel, by decide +kernel⟩
def t_blocks_in : TSD := sSeq (sSet 1 (fOwn (aLst aNil))) (sSeq tBlk (sRetO 1))
/-- the loop -/
theorem s_blk {X : Cx} {F : Fm} {tg iter : Expr} {sts : List Stmt} {pos : Pos} (hm : F.m = none) (hp : PassesOwn (model X.prog X.w) X.A X.env X.xe) (hc : X.calm = true) (hi : PID X F tg iter srcB) (hg : PGD X F tg (.tup [(.nm 2), (.nm 3)])) (hb : PSs X sts (tBodyB X.K F))
    (hs : ∀ x, foldedSetIterable iter X.env x = pure x := by intro _; rfl) : PSD X F (.For tg iter sts [] pos) tBlk :=
  ⟨PS.weak (ps_for hp hc hi.pi hg.pg hb hs) fun D σ H h => blk_for hm h⟩
theorem b_blocks_in {P : Program} {w : World} {K : PySem.W.Frag} {mg : Str → Option Value} {base : Heap} (W : Wo P w K mg base) (c_goes_on : Cal P w K mg base 4 "goes_on" (spD K T_goes_on)) (c_kind_in : Cal P w K mg base 4 "kind_in" (spD K T_kind_in)) (c_line_in : Cal P w K mg base 4 "line_in" (spD K T_line_in))
    (cdv : Value) (A : Around) (outer : List Env) (s : Shared) (H : Hp) (F : Fm) (E : XK) (hr : Room 4 (A.deeper (envOfC "blocks_in" (defScope (top 69)) s.heap.objs.size (He.ga K "blocks_in") cdv))) (hm : F.m = none) :
    PSsD (cxOf (L2.CX P w) P w K mg base N_blocks_in "blocks_in" (defScope (top 69)) (He.ga K "blocks_in") cdv A outer s H E) F (defBody (top 69)) (t_blocks_in) :=
  (ss_cons (s_set 1 sc_blocks_in.nd (PDN.f (n_lst a_nil)))
  (ss_cons (s_blk hm (passes_of rfl) rfl (i_enumL rfl (W.free 4) (PDN.d (n_split (d_var 0) d_str))) (g_tup rfl (g_cons (g_nm 2 sc_blocks_in.nd) (g_cons (g_nm 3 sc_blocks_in.nd) g_nil)))
    (pss_cons (ps_set sc_blocks_in.nd (by rfl) (Or.inl rfl) (PD.pe (PDN.d (n_split (d_var 3) d_str))))
    (pss_cons (ps_asg (PD.pe (d_tup (a_cons (d_call c_kind_in hr (a_cons (d_var 4) a_nil)) (a_cons (d_call c_line_in hr (a_cons (d_var 4) a_nil)) a_nil)))) (PGD.pg (g_tup rfl (g_cons (g_nm 5 sc_blocks_in.nd) (g_cons (g_tup rfl (g_cons (g_nm 6 sc_blocks_in.nd) (g_cons (g_nm 7 sc_blocks_in.nd) g_nil))) g_nil)))))
    (pss_one (ps_if (PT.some fun F' => (PDT.pt (F := F') (PDW.t (d_andW (d_isntT (d_var 5) d_non) (d_and1 (PDW.t (d_orW (d_eqT hr.units (d_var 1) (PDN.d (n_lst a_nil))) (d_or1 (d_ltT hr.units (d_ix (d_ix (d_var 1) d_neg (by intro _ _; rfl)) d_int (by intro _ _; rfl)) (d_ix (d_var 5) d_int (by intro _ _; rfl)))))))))))
      (pss_one (ps_expr (pe_bm PySem.F.plainAttrs_list PySem.F.slot_list_append PySem.F.type_list_append mt_append (pe_var (i := 1) (by rfl) (Or.inl rfl)) (pa_cons (pe_tup (pa_cons (PD.pe (d_ix (d_var 5) d_int (by intro _ _; rfl))) (pa_cons (PD.pe (d_ix (d_var 5) d_int (by intro _ _; rfl))) (pa_cons (pe_lst pa_nil) pa_nil)))) pa_nil))))
      (pss_one (ps_if (PT.some fun F' => (PDT.pt (F := F') (PDW.t (d_andW (d_isntT (d_var 6) d_non) (d_andW (d_neT hr.units (d_var 1) (PDN.d (n_lst a_nil))) (d_and1 (d_val (d_call c_goes_on hr (a_cons (d_ix (d_ix (d_var 1) d_neg (by intro _ _; rfl)) d_int (by intro _ _; rfl)) (a_cons (d_var 6) (a_cons (d_var 7) a_nil)))))))))))
        (pss_one (ps_expr (pe_bm PySem.F.plainAttrs_list PySem.F.slot_list_append PySem.F.type_list_append mt_append (pe_ix ix_seq (pe_ix ix_seq (pe_var (i := 1) (by rfl) (Or.inl rfl)) (pe_un un_neg pe_int) (by intro _ _; rfl)) pe_int (by intro _ _; rfl)) (pa_cons (pe_tup (pa_cons (PD.pe (d_var 6)) (pa_cons (PD.pe (d_var 7)) pa_nil))) pa_nil))))
        (pss_one ps_never))))))))
  (ss_one (s_retO 1))))
end Wk
namespace Wk
open L2 RZ PyProof.Rows PySem.Spec PySem
section
variable {K : PySem.W.Frag} {P : Program} {w : World} {base : Heap} {mg : Str → Option Value}
/-- as fnD, for a body that is read where no machine is -/
theorem fnD0 {x : Str} {params : Arguments} {body : List Stmt} {scope : Scope} {fd : FuncData} {N ps : List Str} {k : Nat} {T : List PyData → (PyData → Prop) → Prop} {t : TSD} (F : FunD K x x params body scope [] [] (He.ga K x) fd) (hm : mg x = some (.ref (He.ga K x))) (S : FnScope N ps scope)
    (hT : ∀ ds Q, T ds Q → ds.length = ps.length)
    (hb : ∀ (kV doc pm : Value) (an : Option Addr) (cdv ct : Value) (us : List Value), us.length = ps.length → bindArgs (PySem.W.fnOf x x params body scope .none kV doc pm an cdv ct) ⟨us, []⟩ = pure (ps.zip us))
    (hbody : ∀ (cdv : Value) (A : Around) (outer : List Env) (s : Shared) (H : Hp) (Fr : Fm) (E : XK), Room k (A.deeper (envOfC x scope s.heap.objs.size (He.ga K x) cdv)) → Fr.m = none → PSsD (cxOf (L2.CX P w) P w K mg base N x scope (He.ga K x) cdv A outer s H E) Fr body t)
    (hp : ∀ ds Q, T ds Q → t { nx := fun _ _ => Q .none, rt := fun d _ => Q d } (startD N.length ds) 0) : Cal P w K mg base (k + 1) x (spD K T) := by
  refine ⟨hm, F.kp, fd, ps, F.ok S (fun vs H Q E z => ?_) (fun cdv A outer s H vs Q E hr z => ?_), F.bindsN hb⟩
  · obtain ⟨Mu, ds, Q', _, q, h, _⟩ := z
    rw [q.length]; exact hT ds Q' h
  · obtain ⟨Mu, ds, Q', tr, q, h, k'⟩ := z
    refine ⟨_, (hbody cdv A outer s H ⟨H, Mu, none⟩ E hr rfl).ps, Mu, _, 0, _, start_rep tr q, hp ds Q' h, ?_, fun _ _ _ _ _ _ _ z => z.elim, fun _ _ _ _ _ _ _ z => z.elim, ?_⟩
    · exact fun Mu' σ' H' δ' b' R _ z => k' _ _ _ (fun a o q => R.ext a o (fun e => nomatch e) q) .non z
    · exact fun v H' d b' e _ q z => k' _ _ _ (fun a o q => e a o (fun e => nomatch e) q) q z
theorem p_blocks_in : ∀ ds Q, T_blocks_in ds Q → t_blocks_in { nx := fun _ _ => Q .none, rt := fun d _ => Q d } (startD N_blocks_in.length ds) 0 := by
  rintro ds Q ⟨x, bs, rfl, hx, hn, run, h⟩
  refine ⟨by rw [line_eq]; exact Nat.zero_le _, rfl, x, bs, rfl, rfl, fun i hi ds => ?_, hx, hn, run, fun δ' hδ => ⟨_, hδ, h⟩⟩
  match i with
  | 0 => simp [startD]
  | 1 => exact absurd rfl hi
  | 2 => simp [startD]
  | 3 => simp [startD]
  | 4 => simp [startD]
  | 5 => simp [startD]
  | 6 => simp [startD]
  | 7 => simp [startD]
  | n + 8 => simp [startD]
theorem l_blocks_in : ∀ ds Q, T_blocks_in ds Q → ds.length = 1 := by
  rintro ds Q ⟨x, bs, rfl, _⟩; rfl
end
end Wk
namespace Wk
open L2 RZ PyProof.Rows PySem.Spec PySem
/-! ### a house's text, read again: the plain law -/
def lnsOf (k : Kd) : List Ln := (if k.up = [] then [] else [.up k.up]) ++ ((if k.deaf = [] then [] else [.deaf k.deaf]) ++ (k.edges.map Ln.edge ++ (if k.below = [] then [] else [.below k.below])))
def Ln.ws : Ln → List Str
  | .up is => "up" :: is.map num | .deaf is => "deaf" :: is.map num | .edge e => edgeWs e | .below zs => "below" :: zs
theorem kindLines_eq (n : Str) (k : Kd) : kindLines n k = sp ["kind", n, num k.many] :: (lnsOf k).map fun l => sp l.ws := by
  unfold kindLines lnsOf
  by_cases h1 : k.up = [] <;> by_cases h2 : k.deaf = [] <;> by_cases h3 : k.below = [] <;> simp [h1, h2, h3, Ln.ws, Function.comp_def]
def LnOk : Ln → Prop
  | .up is => is ≠ [] ∧ ascI is = true ∧ (∀ i ∈ is, small i) ∧ is.length ≤ 8
  | .deaf is => is ≠ [] ∧ ascI is = true ∧ (∀ i ∈ is, small i) ∧ is.length ≤ 8
  | .edge e => (∃ st : Int, st ≤ 6 ∧ edgeB e st = true) ∧ e.asks.length ≤ 8
  | .below zs => zs ≠ [] ∧ (∀ z ∈ zs, isWord z = true) ∧ ascS zs = true ∧ zs.length ≤ 8
theorem mapM_num : ∀ {is : List Int}, (∀ i ∈ is, small i) → (is.map num).mapM numIn = some is
  | [], _ => rfl
  | i :: is, h => by
    rw [List.map_cons, List.mapM_cons, numIn_num (h i (by simp)), mapM_num fun j hj => h j (by simp [hj])]
    rfl
theorem numbersIn_num {is : List Int} (h1 : is ≠ []) (h2 : ascI is = true) (h3 : ∀ i ∈ is, small i) : numbersIn (is.map num) = some is := by
  unfold numbersIn
  rw [if_neg (by simpa using h1), mapM_num h3]
  simp only
  rw [if_pos h2]
theorem edgeIn_no {w : Str} {r : List Str} (h : numIn w = none) : edgeIn (w :: r) = none := by
  match r with
  | [] => rfl
  | [_] => rfl
  | a :: b :: r =>
    unfold edgeIn
    simp only [h]
    split <;> rfl
theorem kindIn_no {w : Str} {r : List Str} (h : w ≠ "kind") : kindIn (w :: r) = none := by
  match r with
  | [] => rfl
  | [_] => rfl
  | [a, b] =>
    unfold kindIn
    simp only
    rw [if_neg fun z => h z.1]
  | _ :: _ :: _ :: _ => rfl
theorem lineIn_no {w : Str} {r : List Str} (h : numIn w = none) : lineIn (w :: r) = if w = "up" then (numbersIn r).map .up else if w = "deaf" then (numbersIn r).map .deaf else if w = "below" then (namesIn r).map .below else none := by
  unfold lineIn
  rw [edgeIn_no h]
theorem lay_two (x : Str) (d : PyData) (hx : (PyData.str x).canLay0 = true) (hd : d.canLay0 = true) : (PyData.tuple [.str x, d]).canLay0 = true := by
  show PyData.canLayAll0 [.str x, d] = true
  simp only [PyData.canLayAll0, hx, hd, Bool.and_true]
theorem ed_lay0 {e : Ed} {st : Int} (h : edgeB e st = true) : e.d.canLay0 = true := by
  obtain ⟨h1, h2, _, _⟩ := edge_parts h
  have hd : (PyData.str e.deed).canLay0 = true := by
    have : ∀ z ∈ DEEDS, (PyData.str z).canLay0 = true := by decide +kernel
    exact this _ h2
  have ha : PyData.canLayAll0 (e.asks.map PyData.str) = true := lay_strs fun z hz => by
    have : ∀ z ∈ ASKS, (PyData.str z).canLay0 = true := by decide +kernel
    exact this z (asks_mem h1 z hz)
  show PyData.canLayAll0 [.int e.a, strsD e.asks, .str e.deed, .int e.z] = true
  simp only [PyData.canLayAll0, hd, Bool.and_true, Bool.true_and]
  show ((PyData.int e.a).canLay0 && ((strsD e.asks).canLay0 && (PyData.int e.z).canLay0)) = true
  simp only [PyData.canLay0, Bool.true_and, Bool.and_true, strsD]
  exact ha
theorem ln_words {l : Ln} (h : LnOk l) : l.ws ≠ [] ∧ (∀ w ∈ l.ws, okW w) ∧ l.ws.length ≤ 20 ∧ kindIn l.ws = none ∧ lineIn l.ws = some l ∧ l.d.canLay0 = true := by
  have nums : ∀ (is : List Int) (x : Str), okW x → (∀ i ∈ is, small i) → ∀ w ∈ x :: is.map num, okW w := fun is x hx hs w hw => by
    rw [List.mem_cons] at hw
    rcases hw with rfl | hw
    · exact hx
    · obtain ⟨i, hi, rfl⟩ := List.mem_map.mp hw
      exact okW_num (hs i hi)
  cases l with
  | up is =>
    obtain ⟨h1, h2, h3, h4⟩ := h
    refine ⟨by simp [Ln.ws], nums is "up" (okW_by (by decide +kernel)) h3, by simp [Ln.ws]; omega, kindIn_no (by decide), ?_, lay_two "up" _ (by decide +kernel) (lay_ints is)⟩
    show lineIn ("up" :: is.map num) = _
    rw [lineIn_no (by decide +kernel), if_pos rfl, numbersIn_num h1 h2 h3]; rfl
  | deaf is =>
    obtain ⟨h1, h2, h3, h4⟩ := h
    refine ⟨by simp [Ln.ws], nums is "deaf" (okW_by (by decide +kernel)) h3, by simp [Ln.ws]; omega, kindIn_no (by decide), ?_, lay_two "deaf" _ (by decide +kernel) (lay_ints is)⟩
    show lineIn ("deaf" :: is.map num) = _
    rw [lineIn_no (by decide +kernel), if_neg (by decide), if_pos rfl, numbersIn_num h1 h2 h3]; rfl
  | edge e =>
    obtain ⟨⟨st, h1, h2⟩, h3⟩ := h
    refine ⟨by simp [Ln.ws, edgeWs], edgeWs_ok h2 h1, by simp [Ln.ws, edgeWs]; omega, ?_, ?_, lay_two "edges" _ (by decide +kernel) (ed_lay0 h2)⟩
    · refine kindIn_no fun z => ?_
      have := numIn_num (edge_small h2 h1).1
      rw [z] at this
      have k : numIn ("kind" : Str) = none := by decide +kernel
      rw [k] at this
      cases this
    · show lineIn (edgeWs e) = _
      unfold lineIn
      rw [edgeIn_ws h2 h1]
  | below zs =>
    obtain ⟨h1, h2, h3, h4⟩ := h
    refine ⟨by simp [Ln.ws], fun w hw => ?_, by simp [Ln.ws]; omega, kindIn_no (by decide), ?_, lay_two "below" _ (by decide +kernel) (lay_strs fun z hz => word_lay (h2 z hz))⟩
    · have hw : w ∈ ("below" : Str) :: zs := hw
      rw [List.mem_cons] at hw
      rcases hw with rfl | hw
      · exact okW_by (by decide +kernel)
      · exact okW_word (h2 w hw)
    · show lineIn ("below" :: zs) = _
      rw [lineIn_no (by decide +kernel), if_neg (by decide), if_neg (by decide), if_pos rfl]
      unfold namesIn
      rw [if_pos ⟨h1, List.all_eq_true.mpr h2, h3⟩]; rfl
/-! the order of lines -/
def okN (a : Option Ln) (l : Ln) : Bool := match a with
  | none => true
  | some a => decide (ordIx a < ordIx l) || (match a, l with
    | .edge e, .edge f => ltE e f
    | _, _ => false)
def chainN : Option Ln → List Ln → Bool
  | _, [] => true
  | a, l :: r => okN a l && chainN (some l) r
theorem okN_lt {a l : Ln} (h : ordIx a < ordIx l) : okN (some a) l = true := by
  unfold okN
  simp only
  rw [decide_eq_true h]; rfl
theorem goesOn_ok (ls : List Ln) (l : Ln) : goesOn ls l = okN ls.getLast? l := by
  unfold goesOn okN
  cases ls.getLast? <;> rfl
theorem chain_below (a : Option Ln) (zs : List Str) (h : ∀ x, a = some x → ordIx x < 3) : chainN a (if zs = [] then [] else [.below zs]) = true := by
  split
  · rfl
  · cases a with
    | none => rfl
    | some x =>
      show (okN (some x) (.below zs) && true) = true
      rw [okN_lt (h x rfl)]; rfl
theorem chain_edges (zs : List Str) : ∀ (es : List Ed) (a : Option Ln), asc ltE es = true → (∀ x, a = some x → ordIx x < 3) → (∀ x e, a = some x → es.head? = some e → okN (some x) (.edge e) = true) → chainN a (es.map Ln.edge ++ (if zs = [] then [] else [.below zs])) = true
  | [], a, _, h, _ => chain_below a zs h
  | e :: es, a, h1, h2, h3 => by
    rw [List.map_cons, List.cons_append]
    show (okN a (.edge e) && chainN (some (.edge e)) _) = true
    have k1 : okN a (.edge e) = true := by
      cases a with
      | none => rfl
      | some x => exact h3 x e rfl rfl
    rw [k1, Bool.true_and]
    have h1' : asc ltE es = true := by
      cases es with
      | nil => rfl
      | cons f r =>
        simp only [asc, Bool.and_eq_true] at h1
        exact h1.2
    refine chain_edges zs es _ h1' (fun x hx => by cases hx; exact (by decide : 2 < 3)) fun x f hx hf => ?_
    cases hx
    cases es with
    | nil => simp at hf
    | cons g r =>
      simp only [List.head?_cons, Option.some.injEq] at hf
      subst hf
      simp only [asc, Bool.and_eq_true] at h1
      unfold okN
      simp only
      rw [h1.1, Bool.or_true]
theorem chain_lns {k : Kd} (h : asc ltE k.edges = true) : chainN none (lnsOf k) = true := by
  unfold lnsOf
  have e : ∀ a : Option Ln, (∀ x, a = some x → ordIx x < 2) → chainN a (k.edges.map Ln.edge ++ (if k.below = [] then [] else [.below k.below])) = true := fun a ha =>
    chain_edges k.below k.edges a h (fun x hx => Nat.lt_succ_of_lt (ha x hx)) fun x e hx _ => okN_lt (ha x hx)
  have d : ∀ a : Option Ln, (∀ x, a = some x → ordIx x < 1) → chainN a ((if k.deaf = [] then [] else [.deaf k.deaf]) ++ (k.edges.map Ln.edge ++ (if k.below = [] then [] else [.below k.below]))) = true := fun a ha => by
    split
    · exact e a fun x hx => Nat.lt_succ_of_lt (ha x hx)
    · show (okN a (.deaf k.deaf) && chainN (some (.deaf k.deaf)) _) = true
      rw [Bool.and_eq_true]
      refine ⟨?_, e _ fun x hx => by cases hx; exact (by decide : 1 < 2)⟩
      cases a with
      | none => rfl
      | some x => exact okN_lt (ha x rfl)
  split
  · exact d none fun x hx => nomatch hx
  · show (okN none (.up k.up) && chainN (some (.up k.up)) _) = true
    exact d (some (.up k.up)) fun x hx => by cases hx; exact (by decide : 0 < 1)
/-! back -/
theorem upOf_tail (es : List Ed) (zs : List Str) : upOf (es.map Ln.edge ++ (if zs = [] then [] else [.below zs])) = [] := by
  induction es with
  | nil => simp only [List.map_nil, List.nil_append]; split <;> rfl
  | cons e es ih => exact ih
theorem deafOf_tail (es : List Ed) (zs : List Str) : deafOf (es.map Ln.edge ++ (if zs = [] then [] else [.below zs])) = [] := by
  induction es with
  | nil => simp only [List.map_nil, List.nil_append]; split <;> rfl
  | cons e es ih => exact ih
theorem belowOf_tail (es : List Ed) (zs : List Str) : belowOf (es.map Ln.edge ++ (if zs = [] then [] else [.below zs])) = zs := by
  induction es with
  | nil =>
    simp only [List.map_nil, List.nil_append]
    split
    · rename_i h; rw [h]; rfl
    · rfl
  | cons e es ih => exact ih
theorem edgesOf_tail (es : List Ed) (zs : List Str) : edgesOf (es.map Ln.edge ++ (if zs = [] then [] else [.below zs])) = es := by
  induction es with
  | nil => simp only [List.map_nil, List.nil_append]; split <;> rfl
  | cons e es ih =>
    exact congrArg (e :: ·) ih
theorem kindOf_lns (k : Kd) : kindOf k.many (lnsOf k) = k := by
  obtain ⟨many, up, deaf, edges, below⟩ := k
  unfold kindOf lnsOf
  simp only
  have h1 := upOf_tail edges below
  have h2 := deafOf_tail edges below
  have h3 := belowOf_tail edges below
  have h4 := edgesOf_tail edges below
  by_cases c1 : up = []
  · subst c1
    by_cases c2 : deaf = []
    · subst c2
      simp only [if_true, List.nil_append, h1, h2, h3, h4]
    · simp only [if_true, if_neg c2, List.nil_append]
      show Kd.mk many (upOf (edges.map Ln.edge ++ _)) deaf (edgesOf (edges.map Ln.edge ++ _)) (belowOf (edges.map Ln.edge ++ _)) = _
      rw [h1, h3, h4]
  · by_cases c2 : deaf = []
    · subst c2
      simp only [if_true, if_neg c1, List.nil_append]
      show Kd.mk many up (deafOf (edges.map Ln.edge ++ _)) (edgesOf (edges.map Ln.edge ++ _)) (belowOf (edges.map Ln.edge ++ _)) = _
      rw [h2, h3, h4]
    · simp only [if_neg c1, if_neg c2]
      show Kd.mk many up deaf (edgesOf (edges.map Ln.edge ++ _)) (belowOf (edges.map Ln.edge ++ _)) = _
      rw [h3, h4]
end Wk
namespace Wk
open L2 RZ PyProof.Rows PySem.Spec PySem
theorem deep_all {n : Nat} : ∀ {xs : List PyData}, (∀ x ∈ xs, x.depth ≤ n) → PyData.depthAll xs ≤ n
  | [], _ => Nat.zero_le _
  | x :: xs, h => by
    simp only [PyData.depthAll]
    exact Nat.max_le.mpr ⟨h x (by simp), deep_all fun y hy => h y (by simp [hy])⟩
theorem deep_flat {α : Type} {f : α → PyData} (hf : ∀ a, (f a).depth = 0) (xs : List α) : PyData.depthAll (xs.map f) ≤ 0 := deep_all fun x hx => by
  obtain ⟨a, _, rfl⟩ := List.mem_map.mp hx; rw [hf a]; exact Nat.le_refl _
theorem ln_deep (l : Ln) : l.d.depth ≤ 10 := by
  have s : ∀ zs : List Str, PyData.depthAll (zs.map PyData.str) ≤ 0 := deep_flat fun _ => rfl
  have i : ∀ is : List Int, PyData.depthAll (is.map PyData.int) ≤ 0 := deep_flat fun _ => rfl
  cases l with
  | up is => have := i is; simp only [Ln.d, Ln.v, intsD, PyData.depth, PyData.depthAll]; omega
  | deaf is => have := i is; simp only [Ln.d, Ln.v, intsD, PyData.depth, PyData.depthAll]; omega
  | below zs => have := s zs; simp only [Ln.d, Ln.v, strsD, PyData.depth, PyData.depthAll]; omega
  | edge e => have := s e.asks; simp only [Ln.d, Ln.v, Ed.d, strsD, PyData.depth, PyData.depthAll]; omega
theorem lns_lay {ls : List Ln} (h : ∀ l ∈ ls, LnOk l) : layOk (.list (ls.map Ln.d)) := by
  refine ⟨lay_all fun x hx => ?_, ?_⟩
  · obtain ⟨l, hl, rfl⟩ := List.mem_map.mp hx
    exact (ln_words (h l hl)).2.2.2.2.2
  · have : PyData.depthAll (ls.map Ln.d) ≤ 10 := deep_all fun x hx => by
      obtain ⟨l, _, rfl⟩ := List.mem_map.mp hx
      exact ln_deep l
    show PyData.depthAll (ls.map Ln.d) + 1 ≤ 60
    omega
theorem layB_add {bs : List Bk} {c : Bk} (h : layB bs) (h1 : layOk (.list (c.2.2.map Ln.d))) (h2 : (PyData.str c.1).canLay0 = true) : layB (bs ++ [c]) := fun b hb => by
  rw [List.mem_append, List.mem_singleton] at hb
  rcases hb with hb | rfl
  · exact h b hb
  · exact ⟨h1, h2⟩
theorem lineOk_sp {ws : List Str} (h0 : ws ≠ []) (h1 : ∀ w ∈ ws, okW w) (h2 : ws.length ≤ 20) : lineOk (sp ws) := by
  have e := split_sp h0 h1
  have l := sp_len (zs := ws) (m := 8) fun z hz => (h1 z hz).1
  unfold lineOk
  rw [e]
  exact ⟨by omega, okW_ws h1 (by omega), okW_lay h1, h0⟩
theorem run_lines {n : Str} {m : Int} {bs cs : List Bk} {tail : List Str} (hlay : layB bs) (hn : (PyData.str n).canLay0 = true) : ∀ (rest pre : List Ln), chainN pre.getLast? rest = true → (∀ l ∈ rest, LnOk l) → (∀ l ∈ pre, LnOk l) →
    RunB tail (bs ++ [(n, m, pre ++ rest)]) cs → RunB (rest.map (fun l => sp l.ws) ++ tail) (bs ++ [(n, m, pre)]) cs
  | [], pre, _, _, _, h => by simpa using h
  | l :: r, pre, hc, hr, hp, h => by
    obtain ⟨w1, w2, w3, w4, w5, w6⟩ := ln_words (hr l (by simp))
    have hc' : (okN pre.getLast? l && chainN (some l) r) = true := hc
    rw [Bool.and_eq_true] at hc'
    have st : stepB (bs ++ [(n, m, pre)]) (Txt.split (sp l.ws) " ") = some (bs ++ [(n, m, pre ++ [l])]) := by
      rw [split_sp w1 w2]
      unfold stepB
      rw [w4]
      show stepB.stepL _ _ = _
      unfold stepB.stepL
      rw [w5]
      simp only [List.getLast?_concat, List.dropLast_concat]
      rw [goesOn_ok, hc'.1, if_pos rfl]
    refine .cons (lineOk_sp w1 w2 w3) (layB_add hlay (lns_lay hp) hn) st ?_
    refine run_lines hlay hn r (pre ++ [l]) (by rw [List.getLast?_concat]; exact hc'.2) (fun x hx => hr x (by simp [hx])) (fun x hx => ?_) (by simpa using h)
    rw [List.mem_append, List.mem_singleton] at hx
    rcases hx with hx | rfl
    · exact hp x hx
    · exact hr x (by simp)
/-- what a kind's text is read from -/
structure KdR (k : Kd) : Prop where
  many : small k.many
  lns : ∀ l ∈ lnsOf k, LnOk l
  asc : asc ltE k.edges = true
def blk (p : Str × Kd) : Bk := (p.1, p.2.many, lnsOf p.2)
theorem run_house : ∀ (h : Ho) (bs : List Bk), (∀ p ∈ h, isWord p.1 = true ∧ KdR p.2) → asc ltS (h.map (·.1)) = true → (∀ p c, h.head? = some p → bs.getLast? = some c → ltS c.1 p.1 = true) → layB bs → RunB (houseLines h) bs (bs ++ h.map blk)
  | [], bs, _, _, _, _ => by simpa [houseLines] using RunB.nil bs
  | p :: h, bs, hk, ha, hl, lay => by
    obtain ⟨hw, hr⟩ := hk p (by simp)
    have okw : ∀ w ∈ (["kind", p.1, num p.2.many] : List Str), okW w := fun w hw' => by
      simp only [List.mem_cons, List.not_mem_nil, or_false] at hw'
      rcases hw' with rfl | rfl | rfl
      · exact okW_by (by decide +kernel)
      · exact okW_word hw
      · exact okW_num hr.many
    have e : houseLines (p :: h) = sp ["kind", p.1, num p.2.many] :: ((lnsOf p.2).map (fun l => sp l.ws) ++ houseLines h) := by
      unfold houseLines
      rw [List.flatMap_cons, kindLines_eq, List.cons_append]
    rw [e]
    have kin : kindIn ["kind", p.1, num p.2.many] = some (p.1, p.2.many) := by
      unfold kindIn
      simp only
      rw [if_pos ⟨trivial, hw⟩, numIn_num hr.many]; rfl
    refine .cons (bs' := bs ++ [(p.1, p.2.many, [])]) (lineOk_sp (List.cons_ne_nil _ _) okw (show (3 : Nat) ≤ 20 by decide)) lay ?_ ?_
    · rw [split_sp (List.cons_ne_nil _ _) okw]
      unfold stepB
      rw [kin]
      simp only
      cases hg : bs.getLast? with
      | none => rfl
      | some c =>
        exact if_pos (hl p c rfl hg)
    · refine run_lines lay (word_lay hw) (lnsOf p.2) [] (chain_lns hr.asc) hr.lns (fun l hl => by simp at hl) ?_
      rw [List.nil_append]
      have lay2 : layB (bs ++ [(p.1, p.2.many, lnsOf p.2)]) := layB_add lay (lns_lay hr.lns) (word_lay hw)
      have ha' : asc ltS (h.map (·.1)) = true := by
        cases h with
        | nil => rfl
        | cons q r =>
          simp only [List.map_cons, Wk.asc, Bool.and_eq_true] at ha
          exact ha.2
      have := run_house h (bs ++ [(p.1, p.2.many, lnsOf p.2)]) (fun q hq => hk q (by simp [hq])) ha' (fun q c hq hc => ?_) lay2
      · simpa [blk] using this
      · rw [List.getLast?_concat] at hc
        cases hc
        cases h with
        | nil => simp at hq
        | cons q' r =>
          simp only [List.head?_cons, Option.some.injEq] at hq
          subst hq
          simp only [List.map_cons, Wk.asc, Bool.and_eq_true] at ha
          exact ha.1
theorem kdR_of {h : Ho} (ok : HoOk h) (hb : HoBig h) {p : Str × Kd} (hp : p ∈ h) : KdR p.2 := by
  have k := ok.kind p hp
  have m := whole_iff.mp k.many
  obtain ⟨_, b1, b2, b3, b4, b5⟩ := hb p hp
  have sm : ∀ {is : List Int} {lo : Int}, 0 ≤ lo → (is.all fun i => wholeI i lo (p.2.many - 1)) = true → ∀ i ∈ is, small i := fun h0 hh i hi => by
    have := whole_iff.mp (List.all_eq_true.mp hh i hi)
    exact ⟨by omega, by omega⟩
  refine ⟨⟨by omega, by omega⟩, fun l hl => ?_, k.edgesA⟩
  unfold lnsOf at hl
  simp only [List.mem_append] at hl
  rcases hl with hl | hl | hl | hl
  · split at hl
    · simp at hl
    · rename_i hne
      simp only [List.mem_singleton] at hl
      subst hl
      exact ⟨hne, k.upA, sm (by decide) k.up, b1⟩
  · split at hl
    · simp at hl
    · rename_i hne
      simp only [List.mem_singleton] at hl
      subst hl
      exact ⟨hne, k.deafA, sm (by decide) k.deaf, b2⟩
  · obtain ⟨e, he, rfl⟩ := List.mem_map.mp hl
    exact ⟨⟨p.2.many, m.2, k.edges e he⟩, (b5 e he).1⟩
  · split at hl
    · simp at hl
    · rename_i hne
      simp only [List.mem_singleton] at hl
      subst hl
      refine ⟨hne, fun z hz => ?_, k.belowA, b3⟩
      have := inS_mem.mp (List.all_eq_true.mp k.below z hz)
      obtain ⟨q, hq, rfl⟩ := List.mem_map.mp this
      exact ok.word q hq
theorem lns_len (k : Kd) (h : k.edges.length ≤ 24) : (lnsOf k).length ≤ 27 := by
  unfold lnsOf
  simp only [List.length_append, List.length_map]
  split <;> split <;> split <;> simp <;> omega
theorem house_split {h : Ho} (ok : HoOk h) (hb : HoBig h) : Txt.split (houseText h) "\n" = houseLines h := by
  refine split_nl (fun e => ?_) fun l hl => ?_
  · have := ok.lo
    cases h with
    | nil => simp at this
    | cons p h =>
      unfold houseLines at e
      rw [List.flatMap_cons, kindLines_eq] at e
      simp at e
  · unfold houseLines at hl
    obtain ⟨p, hp, hl⟩ := List.mem_flatMap.mp hl
    rw [kindLines_eq, List.mem_cons] at hl
    have R := kdR_of ok hb hp
    rcases hl with rfl | hl
    · exact line_free fun w hw' => by
        simp only [List.mem_cons, List.not_mem_nil, or_false] at hw'
        rcases hw' with rfl | rfl | rfl
        · exact okW_by (by decide +kernel)
        · exact okW_word (ok.word p hp)
        · exact okW_num R.many
    · obtain ⟨x, hx, rfl⟩ := List.mem_map.mp hl
      exact line_free (ln_words (R.lns x hx)).2.1
theorem p_read_house : ∀ ds Q, T_read_house ds Q → t_read_house { nx := fun _ _ => Q .none, rt := fun d _ => Q d } (startD N_read_house.length ds) 0 := by
  rintro ds Q ⟨h, rfl, ok, hb, hq⟩
  obtain ⟨s1, s2⟩ := houseLines_S ok hb
  have two : (2 : Nat) ≤ sizeLine := by rw [line_eq]; decide
  have hlen : (houseText h).length ≤ 1000000 := by
    have h1 := join_len "\n" (houseLines h)
    have h2 := sum_le s2
    have h3 : ("\n" : Str).length = 1 := rfl
    rw [h3] at h1
    have : (houseLines h).length * 100 ≤ 84 * 100 := Nat.mul_le_mul_right _ s1
    unfold houseText
    omega
  have hs := house_split ok hb
  refine ⟨_, rfl, _, rfl, true, rfl, ?_⟩
  refine ⟨noOwn_by rfl, _, rfl, houseText h, h.map blk, rfl, hlen, by rw [hs]; omega, ?_, _, rfl, ?_⟩
  · rw [hs]
    have := run_house h [] (fun p hp => ⟨ok.word p hp, kdR_of ok hb hp⟩) ok.nameA (fun p c _ hc => by simp at hc) (fun b hb => by simp at hb)
    simpa using this
  have l2 := ok.hi
  refine ⟨by rw [line_eq, List.length_map, List.length_map]; omega, ?_⟩
  rw [List.map_map]
  refine lc_map (fun p : Str × Kd => (blk p).d) itemD h (fun p hp => ⟨_, rfl, fun b Q q => ?_⟩) [] 0 _ ?_
  · have R := kdR_of ok hb hp
    refine ⟨_, rfl, _, rfl, _, rfl, p.2.many, lnsOf p.2, rfl, ?_, lns_lay R.lns, ?_⟩
    · exact Nat.le_trans (lns_len p.2 (ok.kind p hp).edgesL) (by decide)
    · rw [kindOf_lns]
      exact ⟨two, q⟩
  · exact ⟨h, rfl, ok, hb, hq⟩
end Wk
/-! An own exception's __init__: super().__init__(text), then one field. -/
namespace Wk
open L2 PyProof.Rows PySem.Spec PySem
/-- what K must say of the class at C, its __init__ at f, __init__'s cell, code object -/
structure IniC (K : PySem.W.Frag) (P : Program) (C f cc cda : Addr) : Prop where
  T : OexC K C
  ini0 : PySem.W.findIn K (.ref C) "__init__" = some (some (.ref f))
  tf : PySem.W.typeIn K (.ref f) = some (.type "function")
  sup : PySem.W.ks_superIn K C C "__init__" = some (some (.builtin "ValueError.__init__"))
  ve : PySem.W.subIn K (.ref C) (.type "ValueError") = some true
  own : PySem.W.mroIn K C (.ref C) = some true
  any : PySem.W.nsIn K cStatics "thirdparty.any" = some none
  cell : ∃ cl cld csl, K.lookup cc = some ⟨cl, cld, .cell (some (.ref C)), csl⟩
  code : ∃ ccl cdd vs ccs file tf, K.lookup cda = some ⟨ccl, cdd, .fields vs, ccs⟩ ∧ vs[2]? = some (.str file tf) ∧ ((P.main.file : Str) == file) = true
  top : (P.main.scope.names.lookup ("super" : Str)).isSome = false
/-- its names -/
structure IniS (scope : Scope) (fld : Str) : Prop where
  kind : scope.kind = .function
  cor : scope.isCoroutine = false
  ger : scope.isGenerator = false
  ncell : ∀ x ∈ scope.names, x.2 ≠ .cell
  self : scope.names.lookup ("self" : Str) = some .local
  fl : scope.names.lookup fld = some .local
  sup : scope.names.lookup ("super" : Str) = some .globalImplicit
  cls : scope.names.lookup ("__class__" : Str) = some .free
  only : ∀ y, scope.names.lookup y = some .free → y = ("__class__" : Str)
  ne : ("self" : Str) ≠ fld
/-- the context in which its body runs -/
def cxIni (CX : CXT) (P : Program) (w : World) (K : PySem.W.Frag) (mg : Str → Option Value) (base : Heap) (fld q : Str) (scope : Scope) (f : Addr) (cd : Value) (cc : Addr) (A : Around) (outer : List Env) (s : Shared) (H : Hp) (E : XK) : Cx where
  prog := P
  w := w
  K := K
  mg := mg
  base := base
  A := A.deeper (PySem.W.ksEnv q scope s.heap.objs.size f cd cc)
  N := ["self", fld]
  s_0 := s
  H_0 := H
  env := PySem.W.ksEnv q scope s.heap.objs.size f cd cc
  outer := outer
  stack := PySem.W.ksEnv q scope s.heap.objs.size f cd cc :: outer
  ex := []
  calm := true
  fn := fun _ => false
  pn := []
  xe := fun e s' => wpAny (model P w) (A.deeper (PySem.W.ksEnv q scope s.heap.objs.size f cd cc)) (leaving (PySem.W.ksEnv q scope s.heap.objs.size f cd cc) e) (fun _ s'' => CX outer H s E e s'') (fun e' s'' => CX outer H s E e' s'') s'
section
variable {CX : CXT} {P : Program} {w : World} {K : PySem.W.Frag} {mg : Str → Option Value} {base : Heap} {fld q : Str} {scope : Scope} {C f cc cda : Addr} {A : Around} {outer : List Env} {s : Shared} {H : Hp} {E : XK}
theorem inv_ini (S : IniS scope fld) (hc : ∃ cl cld csl, K.lookup cc = some ⟨cl, cld, .cell (some (.ref C)), csl⟩) (hd : A.handled = none) (e0 : Env0 P w K mg base A outer s H) {ua uv : Value} {a v : V} (ra : RelV a ua) (rv : RelV v uv) {h₀ : Heap} {tk : Nat}
    (hns : h₀.Ns s.heap.objs.size (fun x => ((["self", fld] : List Str).zip [ua, uv]).reverse.lookup x)) (kp : ∀ b o, s.heap.get? b = some o → h₀.get? b = some o) :
    Inv (cxIni CX P w K mg base fld q scope f (.ref cda) cc A outer s H E) [] [some a, some v] H { s with heap := h₀, toks := tk } := by
  have nexA : ∀ b : Addr, b ∉ (cxIni CX P w K mg base fld q scope f (.ref cda) cc A outer s H E).ex := fun b z => absurd (show b ∈ ([] : List Addr) from z) (by simp)
  have one : ∀ {y : Str} {c : Addr}, ([(("__class__" : Str), cc)] : List (Str × Addr)).lookup y = some c → y = ("__class__" : Str) ∧ c = cc := fun {y c} z => by
    by_cases hy : y = ("__class__" : Str)
    · subst hy
      simp at z
      exact ⟨rfl, z.symm⟩
    · have e : (y == ("__class__" : Str)) = false := by simpa using hy
      simp [List.lookup, e] at z
  obtain ⟨cl, cld, csl, hcell⟩ := hc
  have hbase := e0.mod.kin _ _ hcell
  obtain ⟨hs, hH⟩ := e0.bs _ _ hbase
  refine ⟨⟨e0.mod, S.kind, rfl, rfl, Nat.le_refl _, fun y z c h1 h2 => (one h1).1.trans (one h2).1.symm, fun y hy => ?_, fun y c z _ => Bool.noConfusion (show false = true from z), fun _ => hd, Around.frames_deeper e0.frames, .inr ⟨rfl, rfl⟩, fun b z => absurd z (nexA b), e0.bs, e0.bsz, fun b _ _ => nexA b,
      fun b z => absurd z (nexA b), e0.funs, e0.frf⟩,
    rfl, e0.bare, Un.kept kp, ⟨_, hns, fun i y x h1 h2 h3 => ?_⟩, fun y c e => ?_, e0.hok.fresh (Nat.le_refl _), fun y c e => ?_, fun q hq => absurd (show q ∈ ([] : List (Addr × Obj)) ++ [] from hq) (by simp), e0.hok.kept kp, rfl⟩
  · have hy : scope.names.lookup y = some .cell ∨ scope.names.lookup y = some .free := hy; rcases hy with hy | hy
    · exact absurd rfl (S.ncell _ (PySem.mem_of_lookup hy))
    · refine ⟨cc, ?_⟩
      rw [S.only y hy]
      rfl
  · have hne : (fld == ("self" : Str)) = false := beq_eq_false_iff_ne.mpr (Ne.symm S.ne)
    have hne2 : (("self" : Str) == fld) = false := beq_eq_false_iff_ne.mpr S.ne
    match i with
    | 0 =>
      have e1 : ("self" : Str) = y := Option.some.inj h1
      have e2 : a = x := by simpa using h2
      subst e1 e2
      exact ⟨ua, ra, .inl ⟨S.self, by simp [List.lookup, hne2]⟩⟩
    | 1 =>
      have e1 : fld = y := Option.some.inj h1
      have e2 : v = x := by simpa using h2
      subst e1 e2
      exact ⟨uv, rv, .inl ⟨S.fl, by simp [List.lookup]⟩⟩
    | n + 2 => simp at h2
  · obtain ⟨_, rfl⟩ := one e
    exact ⟨_, _, kp _ _ hs, rfl⟩
  · obtain ⟨_, rfl⟩ := one e
    exact hH
end
end Wk
namespace Wk
open L2 PyProof.Rows PySem.Spec PySem
/-- what __init__ is asked of: the field is laid -/
def spIni (C : Addr) (fld : Str) : Sp := fun vs H Q _ => ∃ (a : Addr) (y : V), vs = [.ref a, y] ∧ H a = some (exo a C none) ∧ ∀ dx, H dx = none → dx ≠ a → Q .non (upd (upd H dx (exd dx [(fld, y)])) a (exo a C (some dx)))
section
variable {CX : CXT} {P : Program} {w : World} {K : PySem.W.Frag} {mg : Str → Option Value} {base : Heap} {fld qual : Str} {params : Arguments} {scope : Scope} {C f cc cda : Addr}
/-- the wrapper of ValueError.__init__ called -/
theorem mw_call {X : Cx} {pins : List (Addr × Obj)} {σ : L2.St} {H : Hp} {s : Shared} {a u : Addr} {A : Around} {us : List Value} {Q : Value → Shared → Prop} {E : Value → Shared → Prop} (T : OexC X.K C) (I : Inv X pins σ H s) (e : H a = some (exo a C none)) (hl : us.length ≤ sizeLine)
    (hu : s.heap.get? u = some (PySem.W.kxs_mw "ValueError.__init__" a)) (h : ∀ s', Inv X pins σ H s' → Q .none s') : wpAny (model X.prog X.w) A (call (.ref u) us) Q E s := by
  obtain ⟨nm, q, N, bs, bm, sn, sub, ab, col, dd, k0, k1, k2, k3, k5, hC, hbm⟩ := T.cls; obtain ⟨t1, ho⟩ := exo_at I.hok e
  have hC' := I.kIn _ _ hC
  have FB := PySem.F.excBase_ValueError
  obtain ⟨hp, g, d, t, os⟩ := s
  refine wpAny_call (codeAny_of_tree ?_); show wpAny _ A.in1 (callAny (.ref u) ⟨us, []⟩) _ _ _
  simp only [callAny]
  refine wpAny_bind (wpAny_load hu ?_); simp only [PySem.W.kxs_mw, show (Value.type "method-wrapper" == Value.type "method" || Value.type "method-wrapper" == Value.type "builtin_function_or_method" || Value.type "method-wrapper" == Value.type "method-wrapper") = true by decide, if_true]
  refine PySem.W.KFB.if_so (by decide) ?_; refine wpAny_bind (PySem.W.check_bound_init FB.toExcCallFacts hC' ho rfl ?_)
  refine wpAny_bind (wpAny_pure (wpAny_pure ?_)); refine ⟨PySem.plainId_quiet FB.init.plain _, codeAny_builtin FB.initEntry ?_⟩
  refine PySem.W.exc_init_tree (cls := .ref C) (t0 := t1) (dv := none) (c2 := .none) (c3 := .none) (b4 := .bool false) ho hl fun h' k hx _ => ?_
  have J := I.write (t' := t) (x := a) (e := a) (o := exo a C none) (by rw [e]; exact True.intro) (.inl rfl) k ⟨_, hx⟩ (exo_ok hx); have eu : upd H a (exo a C none) = H := by
    funext b
    by_cases hb : b = a
    · rw [hb, upd_same, e]
    · rw [upd_ne hb]
  rw [eu] at J
  exact h _ J
end
end Wk
namespace Wk
open L2 PyProof.Rows PySem.Spec PySem
section
variable {CX : CXT} {P : Program} {w : World} {K : PySem.W.Frag} {mg : Str → Option Value} {base : Heap} {fld qual : Str} {params : Arguments} {scope : Scope} {C f cc cda : Addr} {k : Nat} {dV kV doc pm ct oc : Value} {an od : Option Addr} {osl : Array (Option Value)}
theorem clsK {K : PySem.W.Frag} {C : Addr} (T : OexC K C) : ∃ cd oC, PySem.W.clsIn K C = some cd ∧ K.lookup C = some oC ∧ oC.data = .cls cd := by
  obtain ⟨nm, q, N, bs, bm, sn, sub, ab, col, dd, k0, k1, k2, k3, k5, hC, hbm⟩ := T.cls; refine ⟨_, _, ?_, hC, rfl⟩
  unfold PySem.W.clsIn
  rw [hC]
theorem boot_super : bootBuiltins "super" = some (.type "super") := by kernel_rfl
theorem ini_ok {ar : Arg} {p0 p1 p2 p3 p4 p5 p6 p7 p8 p9 : Pos} {j : Nat} {msg : Str} (S : IniS scope fld) (T : IniC K P C f cc cda)
    (lk : K.lookup f = some ⟨oc, od, .func (PySem.W.ksFn "__init__" qual params [.Expr (.Call (.Attribute (.Call (.Name "super" p0) [] [] p1) "__init__" p2) [.Constant (.str msg) j p3] [] p4) p5, .Assign [.Attribute (.Name "self" p6) fld p7] (.Name fld p8) p9] scope dV kV doc pm an (.ref cda) ct cc), osl⟩)
    (hcd : PySem.W.codeIn K (.ref cda) qual = true) (hp : (params.posonlyargs ++ params.args).head? = some ar) (har : ar.arg = ("self" : Str)) (hsup : mg "super" = none)
    (hd1 : (fld == ("__debug__" : Str)) = false) (hcd1 : (fld == ("__classdict__" : Str)) = false) (hno : PySem.W.findIn K (.ref C) fld = some none)
    {pl : Sem Bool} (he : ∀ env : Env, eval (.Call (.Attribute (.Call (.Name "super" p0) [] [] p1) "__init__" p2) [.Constant (.str msg) j p3] [] p4) env = (do
      let ov ← attributeBase (.Call (.Name "super" p0) [] [] p1) "__init__" env (eval (.Call (.Name "super" p0) [] [] p1) env)
      standAt p2.atName
      let (g, ar) ← holding [ov] (getMethod ov "__init__" pl)
      callWith p4 g ar (backTo p4 (starEach [.Constant (.str msg) j p3] env)) []))
    (hs1 : ∀ env : Env, swapsWith (.Call (.Attribute (.Call (.Name "super" p0) [] [] p1) "__init__" p2) [.Constant (.str msg) j p3] [] p4) none p5.line env = pure false := by intro _; rfl)
    (hs2 : ∀ env : Env, swapsWith (.Name fld p8) (some (.Attribute (.Name "self" p6) fld p7)) p9.line env = pure false := by intro _; rfl) :
    FnOk P w K mg base CX (k + 1) f (PySem.W.ksFn "__init__" qual params [.Expr (.Call (.Attribute (.Call (.Name "super" p0) [] [] p1) "__init__" p2) [.Constant (.str msg) j p3] [] p4) p5, .Assign [.Attribute (.Name "self" p6) fld p7] (.Name fld p8) p9] scope dV kV doc pm an (.ref cda) ct cc) ["self", fld] (spIni C fld) := by
  refine ⟨fun vs H Q E ⟨a, y, e, _⟩ => by rw [e]; rfl, fun A outer s H args us vs Q E hr e0 hb r hsp => ?_⟩
  obtain ⟨a, y, rfl, ha, hq⟩ := hsp
  cases r with
  | @cons _ ua _ us' ra r' =>
  cases r' with
  | @cons _ uy _ us'' ry r'' =>
  cases r''
  obtain rfl : ua = Value.ref a := ra
  have KX : K.In s.heap := e0.mod.kin.keeps fun b o e => (e0.bs b o e).1; have lim : s.heap.NoLimit := e0.mod.nolimit.keeps fun b o e => (e0.bs b o e).1
  refine PySem.ks_codeAny_call_defAt hr.depth (KX _ _ lk) rfl lim (PySem.W.codeRec_of KX hcd) rfl hb S.ncell (fun b hb' => ?_) (fun h₀ hns kp => ?_) S.cor S.ger S.kind
  · have hb2 : b ∈ [(("self" : Str), Value.ref a), (fld, uy)] := hb'
    simp only [List.mem_cons, List.not_mem_nil, or_false] at hb2
    rcases hb2 with rfl | rfl
    · exact S.self
    · exact S.fl
  have I : Inv (cxIni CX P w K mg base fld qual scope f (.ref cda) cc A outer s H E) [] [some (.ref a), some y] H { s with heap := h₀, toks := s.toks + ((["self", fld] : List Str).zip [Value.ref a, uy]).length } := inv_ini (C := C) S T.cell hr.hd e0 (show L2.RelV (.ref a) (.ref a) from rfl) ry hns kp
  generalize hs1' : ({ s with heap := h₀, toks := s.toks + ((["self", fld] : List Str).zip [Value.ref a, uy]).length } : Shared) = s1 at I ⊢
  have hh1 : s1.heap = h₀ := by rw [← hs1']
  obtain ⟨cd, oC, hcl, hCl, hdt⟩ := clsK T.T
  obtain ⟨cl, cld, csl, hcc⟩ := T.cell
  obtain ⟨ccl, cdd, cvs, ccs, file, tf, hco, hv2, hfile⟩ := T.code
  have fin : ∀ {σ' : L2.St} {H' : Hp} {v : V} {u : Value} {s' : Shared}, Inv (cxIni CX P w K mg base fld qual scope f (.ref cda) cc A outer s H E) [] σ' H' s' → L2.RelV v u → Q v H' → CE outer P w H s Q u s' :=
    fun {σ' H' v u s'} J rv q => ⟨v, H', J.os, J.bare, J.base, J.hok, rv, q⟩
  refine PySem.ks_wpAt_execs_cons (PySem.ks_wpAt_Expr_any (PySem.ks_wpAt_MethodCall (PySem.ks_wpAt_super_base S.sup S.cls (by decide) rfl (I.kIn _ _ lk) rfl hp rfl (I.kIn _ _ hco) rfl hv2 hfile T.top ?_) (he _)) I.quiet (hs1 _))
  obtain ⟨mb, hm1, hm2⟩ := I.mod.blt
  refine PySem.W.ks_loadName_global S.kind S.sup (Calls.loadGlobal_builtin (I.mod.glob.keeps I.bk) hsup (hm1.keeps I.bk) ((hm2 "super" (by decide)).trans boot_super) ⟨rfl, ?_⟩)
  refine wpAny_loadName_free S.kind S.cls rfl ⟨_, I.kIn _ _ hcc, rfl⟩ ?_
  rw [har]
  refine wpAny_loadName_local S.kind S.self (hh1 ▸ hns) (v := .ref a) (by simp [List.lookup, beq_eq_false_iff_ne.mpr S.ne]) ?_
  refine PySem.ks_wpAny_isType_cls (I.kIn _ _ hCl) hdt ⟨rfl, ?_⟩
  obtain ⟨t1, ho⟩ := exo_at I.hok ha
  have Lsub : PySem.W.Looks (model P w) s1.heap (isSubtype (.ref C) (.ref C)) true := PySem.W.looks_mroIn I.kIn T.own
  have hm : PySem.W.alongIn K "__init__" ((cd.mro.dropWhile (· != .ref C)).drop 1) = some (some (.builtin "ValueError.__init__")) := by
    have z := T.sup
    unfold PySem.W.ks_superIn at z
    rw [hcl] at z
    exact z
  have InA : PySem.W.InstAt s1.heap a { cls := .ref C, dict := none, data := .fields #[.ref t1, .none, .none, .none, .bool false, .none] } C none := ⟨ho, rfl, rfl, trivial⟩
  have hxC : a ≠ C := PySem.W.ks_ne I.kIn InA hcl
  obtain ⟨hp1, g1, d1, tk1, os1⟩ := s1; refine PySem.ks_wpAny_call_super (I.kIn _ _ hCl) hdt ho rfl (fun c z => nomatch z) Lsub fun h' e kk => ?_
  have I2 := I.kept (t' := tk1) (h' := h') kk
  have InA2 : PySem.W.InstAt h' a { cls := .ref C, dict := none, data := .fields #[.ref t1, .none, .none, .none, .bool false, .none] } C none := ⟨kk _ _ ho, rfl, rfl, trivial⟩
  refine PySem.W.kxs_getMethod PySem.W.kxs_ValueError e (PySem.W.looks_opaque I2.kIn T.any) (l₀ := cd.mro) (fun A Q E s k q => wpAny_bind ((PySem.W.looks_clsIn I2.kIn hcl) A _ E s k (wpAny_pure q))) rfl I2.kIn hm
    (InA2.type.andThen (PySem.W.looks_subIn I2.kIn T.ve)) hxC (by decide) ?_
  have hu : (h'.push (PySem.W.kxs_mw "ValueError.__init__" a)).get? h'.objs.size = some (PySem.W.kxs_mw "ValueError.__init__" a) := Heap.get?_push_size _ rfl
  have I3 := I2.kept (t' := tk1 + 1) (h' := h'.push (PySem.W.kxs_mw "ValueError.__init__" a)) fun b o z => Heap.get?_push_of_some _ z
  show wpAny _ _ (callWith p4 (.ref h'.objs.size) [] ((false, eval (.Constant (.str msg) j p3) (PySem.W.ksEnv qual scope s.heap.objs.size f (.ref cda) cc)) :: []) []) _ _ _
  refine PySem.W.kxs_callWith (i := "ValueError.__init__") (x := a) (by rfl) (PySem.Calls.evalArgs_plain (Calls.spliced_cons (Calls.Constant_str (Calls.spliced_nil ⟨hu, ?_⟩))))
  refine mw_call T.T (I3.tok _) ha (by show 1 ≤ sizeLine; rw [sizeLine_eq]; decide) hu fun s4 I4 => ?_
  let D : Ends := { nx := fun _ H' => Q .non H', rt := Q }
  have st : PSs (cxIni CX P w K mg base fld qual scope f (.ref cda) cc A outer s H E) [.Assign [.Attribute (.Name "self" p6) fld p7] (.Name fld p8) p9] (tOst K fld (tVar 0) (tVar 1)) :=
    pss_one (ps_ost (pe_var (i := 0) rfl (.inl S.self)) (pe_var (i := 1) rfl (.inl S.fl) hd1 hcd1) (hs2 _))
  refine wpAt_of_wpAny (wpAny_mono (st.run [] s4 [some (.ref a), some y] H D I4 ⟨y, rfl, .ref a, rfl, a, C, rfl, T.T, hno, .inl ⟨ha, fun dx h1 h2 => hq dx h1 h2⟩⟩) (fun fl s' hs => ?_) fun e s' hs => hs)
  cases fl with
  | ret u =>
    obtain ⟨v, σ', H', J, rv, q⟩ := hs; exact fin J rv q
  | next =>
    obtain ⟨σ', H', J, q⟩ := hs; exact fin (v := V.non) (u := Value.none) J rfl q
  | brk =>
    obtain ⟨_, _, _, q⟩ := hs
    exact False.elim q
  | cont =>
    obtain ⟨_, _, _, q⟩ := hs
    exact False.elim q
end
end Wk
namespace Wk
open L2 PyProof.Rows PySem.Spec PySem
/-- an exception class of the program, ready to be made -/
structure Exn (P : Program) (w : World) (K : PySem.W.Frag) (mg : Str → Option Value) (base : Heap) (x fld : Str) : Prop where
  at_ : mg x = some (.ref (He.ga K x))
  T : OexC K (He.ga K x)
  ini : ∃ fI fd, PySem.W.findIn K (.ref (He.ga K x)) "__init__" = some (some (.ref fI)) ∧ PySem.W.typeIn K (.ref fI) = some (.type "function") ∧ (∀ CX, FnOk P w K mg base CX 1 fI fd ["self", fld] (spIni (He.ga K x) fld)) ∧ Binds K fd ["self", fld] []
/-- what is raised: the class, its one field -/
def cR (K : PySem.W.Frag) (F : Fm) (C : Addr) (fld : Str) (t : TD) (W : WX) : TS := fun _ σ H => ∃ Mu δ b Q', Rep K F Mu σ H δ b ∧ t δ b Q' ∧ ∀ v d b' dd H', Rep K F Mu σ H' δ b' → ExB F Mu H H' → H' dd = some (.xd [(fld, v)]) → Dq K Mu H' v d → Q' d b' → W (.ref C) (some dd) σ H'
section
variable {X : Cx} {F : Fm} {x fld : Str} {e : Expr} {p pos pos2 : Pos} {ta : TD} {W : WX}
theorem del_upd3 {H : Hp} {a dx : Addr} {o1 o2 o3 : HO} {fs : List (Str × V)} {b : Addr} (h1 : b ≠ a) (h2 : b ≠ dx) : upd (L2.del (upd (upd (upd H a o1) dx o2) a o3) a) dx (.xd fs) b = H b := by
  rw [upd_ne h2, L2.del_ne h1, upd_ne h1, upd_ne h2, upd_ne h1]
theorem s_raise (hc : X.calm = true) (tk : Takes X W) (N : Exn X.prog X.w X.K X.mg X.base x fld) (hr : Room 2 X.A) (hg : Gl X x) (he : PD X F e ta) (hdb : (x == ("__debug__" : Str)) = false := by decide) (hs : starEach [e] X.env = (false, eval e X.env) :: starEach [] X.env := by rfl) :
    PS X (.Raise (some (.Call (.Name x p) [e] [] pos)) none pos2) (cR X.K F (He.ga X.K x) fld ta W) := by
  obtain ⟨fI, fd, i1, i2, i3, i4⟩ := N.ini
  have hx : Passes (L2.CX X.prog X.w) X (fun _ _ _ => False) := fun _ _ _ _ _ _ _ ⟨_, _, _, _, _, _, _, _, _, _, _, _, h⟩ => h.elim
  refine PS.weak (ps_raise hc tk (pmk_oex N.T i1 i2 (i3 (L2.CX X.prog X.w)) hr i4 (dvs := []) .nil hx hg N.at_ (pa_cons he.pe pa_nil hs) hdb hs rfl)) ?_
  rintro D σ H ⟨Mu, δ, b, Q', R, h, k⟩
  refine cE.go R h fun v H1 d b1 R1 e1 q1 h1 => ⟨show (1 : Nat) ≤ 1000 by decide, fun a ha => ⟨a, v, rfl, upd_same, fun dx h2 h3 => ⟨rfl, dx, [(fld, v)], upd_same, by rw [upd_ne h3, upd_same], ?_, ?_⟩⟩⟩
  · rw [upd_ne h3] at h2; exact h2
  · have hd1 : H1 dx = none := by rw [upd_ne h3] at h2; exact h2
    have keep : ∀ b o, H1 b = some o → upd (L2.del (upd (upd (upd H1 a (exo a (He.ga X.K x) none)) dx (exd dx [(fld, v)])) a (exo a (He.ga X.K x) (some dx))) a) dx (.xd [(fld, v)]) b = some o := fun b o z => by
      rw [del_upd3 (ne_of_none z ha) (ne_of_none z hd1)]
      exact z
    exact k v d b1 dx _ (R1.grow keep) (e1.trans (ExB.all keep)) upd_same (q1.ex (ExB.all (F := F) keep)) h1
end
/-- a def of data that raises -/
def spBad (K : PySem.W.Frag) (C : Addr) (fld : Str) (T : List PyData → PyData → Prop) : Sp := fun vs H _ E => ∃ (Mu : Addr → Prop) (ds : List PyData) (d : PyData), (∀ a, Mu a → H a ≠ none) ∧ DqAll K Mu H vs ds ∧ T ds d ∧
  ∀ v dd H', (∀ a o, H a = some o → H' a = some o) → H' dd = some (.xd [(fld, v)]) → Dq K Mu H' v d → E (.ref C) (some dd) H'
section
variable {K : PySem.W.Frag} {P : Program} {w : World} {base : Heap} {mg : Str → Option Value}
/-- the context takes what is raised -/
structure BadW (X : Cx) (F : Fm) (C : Addr) (fld : Str) (d : PyData) (E : XK) : Prop where
  tk : Takes X (fun cls d' _ H' => E cls d' H')
  ok : ∀ v dd H', (∀ a o, F.H0 a = some o → H' a = some o) → H' dd = some (.xd [(fld, v)]) → Dq X.K F.N0 H' v d → E (.ref C) (some dd) H'
  m0 : F.m = none
@[simp] def sBad (t : TD) (d : PyData) : TSD := fun _ δ b => t δ b fun d' _ => d' = d
@[simp] def dBad (T : List PyData → PyData → Prop) (t : TAD) (d : PyData) : TD := fun δ b _ => t δ b fun ds _ => T ds d
section
variable {X : Cx} {F : Fm} {x y fld : Str} {e : Expr} {es : List Expr} {p pos pos2 : Pos} {ta : TD} {tas : TAD} {d : PyData} {E : XK} {C : Addr} {k : Nat} {fd : FuncData} {ps : List Str} {T : List PyData → PyData → Prop}
theorem s_bad (hc : X.calm = true) (N : Exn X.prog X.w X.K X.mg X.base x fld) (B : BadW X F (He.ga X.K x) fld d E) (hr : Room 2 X.A) (hg : Gl X x) (he : PD X F e ta) (hdb : (x == ("__debug__" : Str)) = false := by decide) (hs : starEach [e] X.env = (false, eval e X.env) :: starEach [] X.env := by rfl) :
    PSD X F (.Raise (some (.Call (.Name x p) [e] [] pos)) none pos2) (sBad ta d) :=
  ⟨PS.weak (s_raise (W := fun cls d' _ H' => E cls d' H') hc B.tk N hr hg he hdb hs) fun D σ H ⟨Mu, δ, b, D', R, h, l⟩ => ⟨Mu, δ, b, _, R, h, fun v d' b' dd H' R' e' z q ed => by
    subst ed
    exact B.ok v dd H' (fun a o w => R'.ext a o (by rw [B.m0]; exact fun q => nomatch q) w) z (q.mu fun a w => .inl (R'.mu0 a w))⟩⟩
theorem d_bad (c : FnOk X.prog X.w X.K X.mg X.base (L2.CX X.prog X.w) k (He.ga X.K x) fd ps (spBad X.K C fld T)) (hbi : Binds X.K fd ps []) (at_ : X.mg x = some (.ref (He.ga X.K x))) (kp : PySem.W.keepIn X.K (.ref (He.ga X.K x)) = true) (B : BadW X F C fld d E) (hr : Room k X.A) (ha : PDA X F (e :: es) tas) (hg : Gl X x := by rfl) (hdb : (x == ("__debug__" : Str)) = false := by decide)
    (he : starEach (e :: es) X.env = (false, eval e X.env) :: starEach es X.env := by rfl) (hpl : (backTo pos (starEach es X.env)).any (·.1) = false := by rfl) : PD X F (.Call (.Name x p) (e :: es) [] pos) (dBad T tas d) := by
  refine ⟨PE.weak (pe_call c hr hg at_ kp hbi (dvs := []) .nil (E := E) (passes_call B.tk fun _ _ _ _ h => h) ha.pa hdb he hpl) ?_⟩
  rintro σ H Q ⟨Mu, δ, b, Q', R, h, k'⟩
  refine cA.go R h fun vs H1 ds b1 R1 e1 q1 h1 => ?_
  rw [List.append_nil]
  exact ⟨Mu, ds, d, R1.tr, q1, h1, fun v dd H' keep z q => B.ok v dd H' (fun a o w => keep a o (R1.ext a o (by rw [B.m0]; exact fun q => nomatch q) w)) z (q.mu fun a w => .inl (R1.mu0 a w))⟩
end
/-- such a def, by name -/
structure Bads (P : Program) (w : World) (K : PySem.W.Frag) (mg : Str → Option Value) (base : Heap) (k : Nat) (x : Str) (C : Addr) (fld : Str) (T : List PyData → PyData → Prop) : Prop where
  at_ : mg x = some (.ref (He.ga K x))
  kp : PySem.W.keepIn K (.ref (He.ga K x)) = true
  ok : ∃ fd ps, FnOk P w K mg base (L2.CX P w) k (He.ga K x) fd ps (spBad K C fld T) ∧ Binds K fd ps []
theorem fnBad {x fld : Str} {C : Addr} {params : Arguments} {body : List Stmt} {scope : Scope} {fd : FuncData} {N ps : List Str} {k : Nat} {T : List PyData → PyData → Prop} {t : PyData → TSD} (F : FunD K x x params body scope [] [] (He.ga K x) fd) (hm : mg x = some (.ref (He.ga K x))) (S : FnScope N ps scope)
    (hT : ∀ ds d, T ds d → ds.length = ps.length)
    (hb : ∀ (kV doc pm : Value) (an : Option Addr) (cdv ct : Value) (us : List Value), us.length = ps.length → bindArgs (PySem.W.fnOf x x params body scope .none kV doc pm an cdv ct) ⟨us, []⟩ = pure (ps.zip us))
    (hbody : ∀ (cdv : Value) (A : Around) (outer : List Env) (s : Shared) (H : Hp) (Fr : Fm) (E : XK) (d : PyData), Room k (A.deeper (envOfC x scope s.heap.objs.size (He.ga K x) cdv)) → BadW (cxOf (L2.CX P w) P w K mg base N x scope (He.ga K x) cdv A outer s H E) Fr C fld d E →
      PSsD (cxOf (L2.CX P w) P w K mg base N x scope (He.ga K x) cdv A outer s H E) Fr body (t d))
    (hp : ∀ ds d, T ds d → t d { nx := fun _ _ => False, rt := fun _ _ => False } (startD N.length ds) 0) : Bads P w K mg base (k + 1) x C fld T := by
  refine ⟨hm, F.kp, fd, ps, F.ok S (fun vs H Q E z => ?_) (fun cdv A outer s H vs Q E hr z => ?_), F.bindsN hb⟩
  · obtain ⟨Mu, ds, d, _, q, h, _⟩ := z
    rw [q.length]; exact hT ds d h
  · obtain ⟨Mu, ds, d, tr, q, h, k'⟩ := z
    refine ⟨_, (hbody cdv A outer s H ⟨H, Mu, none⟩ E d hr ⟨takes_of rfl rfl rfl rfl, fun v dd H' keep z q => k' v dd H' keep z q, rfl⟩).ps, Mu, _, 0, _, start_rep tr q, hp ds d h, ?_, fun _ _ _ _ _ _ _ z => z.elim, fun _ _ _ _ _ _ _ z => z.elim, ?_⟩
    · exact fun _ _ _ _ _ _ _ z => z.elim
    · exact fun _ _ _ _ _ _ _ z => z.elim
end
end Wk
namespace Wk
open L2 RZ PyProof.Rows PySem.Spec PySem
def TB_empty (ds : List PyData) (d : PyData) : Prop := ds = [.tuple []] ∧ d = .tuple []
/-- what is no weaving: the law's odd things, and what is too long -/
def oddW (o : PyData) : Prop := o = .none ∨ o = .int 5 ∨ o = .str "" ∨ (∃ l, o = .list l) ∨ (∃ m ∈ oddMvs, o = .tuple [m]) ∨ ∃ xs : List PyData, o = .tuple xs ∧ 10000 < xs.length
def TB_weaving_text (ds : List PyData) (d : PyData) : Prop := ds = [d] ∧ oddW d
def tb_need_house (d : PyData) : TSD := (sSeq (sIf (dOr (dNot (dTest (d1 (isiD "tuple") (dVar 0)))) (dNot (dTest (dChain leD leD (dC (.int 1)) (d1 lenD (dVar 0)) (dC (.int 3)))))) (sBad (dTup aNil) d) sNext) sNever)
def tb_weaving_text (d : PyData) : TSD := (sSeq (sIf (dOr (dNot (dTest (d1 (isiD "tuple") (dVar 0)))) (dOr (dTest (d2 gtD (d1 lenD (dVar 0)) (dC (.int 10000)))) (dNot (dTest (dAll (nLc (iT (dVar 0)) (.nm 1) dYes (dCall T_is_move (aCons (dVar 1) aNil)) [1])))))) (sBad (dVar 0) d) sNext) sNever)
theorem ss_stop {X : Cx} {F : Fm} {st : List Stmt} : PSsD X F st sNever := ⟨PSs.weak pss_never fun D σ H ⟨Mu, δ, b, D', R, h, l⟩ => h⟩
section
variable {K : PySem.W.Frag} {P : Program} {w : World} {base : Heap} {mg : Str → Option Value}
theorem bb_need_house (W : Wo P w K mg base) (N : Exn P w K mg base "BadHouse" "place") (cdv : Value) (A : Around) (outer : List Env) (s : Shared) (H : Hp) (F : Fm) (E : XK) (d : PyData) (hr : Room 5 (A.deeper (envOfC "need_house" (defScope (top 42)) s.heap.objs.size (He.ga K "need_house") cdv)))
    (B : BadW (cxOf (L2.CX P w) P w K mg base N_need_house "need_house" (defScope (top 42)) (He.ga K "need_house") cdv A outer s H E) F (He.ga K "BadHouse") "place" d E) :
    PSsD (cxOf (L2.CX P w) P w K mg base N_need_house "need_house" (defScope (top 42)) (He.ga K "need_house") cdv A outer s H E) F (defBody (top 42)) (tb_need_house d) :=
  (ss_cons (s_if (PDW.t (d_orW (d_notT (d_val (d_isi rfl (W.free 0) (d_var 0) rfl (W.free 9) boot_tuple (by decide)))) (d_or1 (d_notT (d_leleT d_int (d_len rfl (W.free 1) (d_var 0)) (d_gint rfl (W.int 15))))))) (ss_one (s_bad rfl N B (hr.mono (by decide)) rfl (d_tup a_nil))) ss_nil) ss_stop)
theorem bb_weaving_text (W : Wo P w K mg base) (N : Exn P w K mg base "BadRow" "value") (c_is_move : Cal P w K mg base 4 "is_move" (spD K T_is_move)) (cdv : Value) (A : Around) (outer : List Env) (s : Shared) (H : Hp) (F : Fm) (E : XK) (d : PyData) (hr : Room 4 (A.deeper (envOfC "weaving_text" (defScope (top 75)) s.heap.objs.size (He.ga K "weaving_text") cdv)))
    (B : BadW (cxOf (L2.CX P w) P w K mg base N_weaving_text "weaving_text" (defScope (top 75)) (He.ga K "weaving_text") cdv A outer s H E) F (He.ga K "BadRow") "value" d E) :
    PSsD (cxOf (L2.CX P w) P w K mg base N_weaving_text "weaving_text" (defScope (top 75)) (He.ga K "weaving_text") cdv A outer s H E) F (defBody (top 75)) (tb_weaving_text d) :=
  (ss_cons (s_if (PDW.t (d_orW (d_notT (d_val (d_isi rfl (W.free 0) (d_var 0) rfl (W.free 9) boot_tuple (by decide)))) (d_orW (d_gtT (d_len rfl (W.free 1) (d_var 0)) (d_gint rfl (W.int 20))) (d_or1 (d_notT (d_val (d_all rfl rfl (W.free 2) (PDN.v (n_lc [("move", 1)] rfl sc_weaving_text.nd (i_tup (d_var 0)) (blkOk_by (N := N_weaving_text) (sc := defScope (top 75)) (by decide +kernel)) (by decide) (fun _ _ _ _ _ => (g_nm 1 sc_weaving_text.nd)) (fun _ _ _ _ _ => ts_nil) (fun _ _ _ _ _ => (d_call c_is_move hr (a_cons (d_var 1) a_nil)))))))))))) (ss_one (s_bad rfl N B (hr.mono (by decide)) rfl (d_var 0))) ss_nil) ss_stop)
def tb_house_text (d : PyData) : TSD := (sRet (dJoin (dC (.str "\n")) (nLc2 (iT (dBad TB_empty (aCons (dVar 0) aNil) d)) (.tup [(.nm 2), (.nm 3)]) (iL (dCall T_kind_lines (aCons (dVar 2) (aCons (dVar 3) aNil)))) (.nm 1) (dVar 1) [2, 3, 1] [1])))
theorem bb_house_text (W : Wo P w K mg base) {fd : FuncData} {ps : List Str} (c : FnOk P w K mg base (L2.CX P w) 6 (He.ga K "need_house") fd ps (spBad K (He.ga K "BadHouse") "place" TB_empty)) (hbi : Binds K fd ps []) (at_ : mg "need_house" = some (.ref (He.ga K "need_house"))) (kp : PySem.W.keepIn K (.ref (He.ga K "need_house")) = true) (c_kind_lines : Cal P w K mg base 6 "kind_lines" (spD K T_kind_lines)) (cdv : Value) (A : Around) (outer : List Env) (s : Shared) (H : Hp) (F : Fm) (E : XK) (d : PyData) (hr : Room 6 (A.deeper (envOfC "house_text" (defScope (top 61)) s.heap.objs.size (He.ga K "house_text") cdv)))
    (B : BadW (cxOf (L2.CX P w) P w K mg base N_house_text "house_text" (defScope (top 61)) (He.ga K "house_text") cdv A outer s H E) F (He.ga K "BadHouse") "place" d E) :
    PSsD (cxOf (L2.CX P w) P w K mg base N_house_text "house_text" (defScope (top 61)) (He.ga K "house_text") cdv A outer s H E) F (defBody (top 61)) (tb_house_text d) :=
  (ss_one (s_ret (d_join d_str (PDN.v (n_lc2 [("name", 2), ("kind", 3), ("line", 1)] [1] rfl sc_house_text.nd (i_tup (d_bad c hbi at_ kp B hr (a_cons (d_var 0) a_nil))) (blkOk_by (N := N_house_text) (sc := defScope (top 61)) (by decide +kernel)) (by decide) (by decide) (by decide) (fun _ _ _ _ _ => (g_tup rfl (g_cons (g_nm 2 sc_house_text.nd) (g_cons (g_nm 3 sc_house_text.nd) g_nil)))) (fun _ _ _ _ _ => (i_lst (d_call c_kind_lines hr (a_cons (d_var 2) (a_cons (d_var 3) a_nil))))) (fun _ _ _ _ _ => (g_nm 1 sc_house_text.nd)) (fun _ _ _ _ _ => (d_var 1)))))))
theorem pb_need_house : ∀ ds d, TB_empty ds d → tb_need_house d { nx := fun _ _ => False, rt := fun _ _ => False } (startD N_need_house.length ds) 0 := by
  rintro ds d ⟨rfl, rfl⟩
  exact ⟨_, rfl, _, rfl, true, rfl, _, rfl, _, rfl, false, rfl, false, rfl, Nat.zero_le _, rfl⟩
theorem pb_house_text : ∀ ds d, TB_empty ds d → tb_house_text d { nx := fun _ _ => False, rt := fun _ _ => False } (startD N_house_text.length ds) 0 := by
  rintro ds d ⟨rfl, rfl⟩
  exact ⟨"\n", rfl, noOwn_by rfl, _, rfl, rfl, rfl⟩
theorem pb_weaving_text : ∀ ds d, TB_weaving_text ds d → tb_weaving_text d { nx := fun _ _ => False, rt := fun _ _ => False } (startD N_weaving_text.length ds) 0 := by
  rintro ds d ⟨rfl, h⟩
  rcases h with rfl | rfl | rfl | ⟨l, rfl⟩ | ⟨m, hm, rfl⟩ | ⟨xs, rfl, hx⟩
  · exact ⟨_, rfl, _, rfl, false, rfl, _, rfl, rfl⟩
  · exact ⟨_, rfl, _, rfl, false, rfl, _, rfl, rfl⟩
  · exact ⟨_, rfl, _, rfl, false, rfl, _, rfl, rfl⟩
  · exact ⟨_, rfl, _, rfl, false, rfl, _, rfl, rfl⟩
  · refine ⟨_, rfl, _, rfl, true, rfl, _, rfl, _, rfl, _, gtD_ii _ _, false, rfl, ?_⟩
    refine ⟨noOwn_by rfl, _, rfl, _, rfl, by rw [line_eq]; show (1 : Nat) ≤ _; decide, ?_⟩
    refine ⟨_, rfl, ?_⟩
    exact ⟨_, rfl, .inr ⟨m, hm, rfl, [false], rfl, _, rfl, _, rfl, rfl⟩⟩
  · refine ⟨_, rfl, _, rfl, true, rfl, _, rfl, _, rfl, _, gtD_ii _ _, true, ?_, _, rfl, rfl⟩
    have : decide ((10000 : Int) < (xs.length : Int)) = true := decide_eq_true (by omega)
    rw [this]
end
end Wk
namespace Wk
open L2 RZ PyProof.Rows PySem.Spec PySem
section
variable {K : PySem.W.Frag} {P : Program} {w : World} {base : Heap} {mg : Str → Option Value}
theorem ok_blocks_in (W : Wo P w K mg base) : Cal P w K mg base 5 "blocks_in" (spD K T_blocks_in) := by
  obtain ⟨fd, Fd⟩ := W.fun 23 69 (x := "blocks_in")
  exact fnD0 Fd (W.glo 68) sc_blocks_in l_blocks_in (fun _ _ _ _ _ _ us hl => match us, hl with | [_], _ => rfl) (fun cdv A outer s H F E hr hm => b_blocks_in W ((ok_goes_on W).mono (by decide)) ((ok_kind_in W).mono (by decide)) ((ok_line_in W).mono (by decide)) cdv A outer s H F E hr hm) p_blocks_in
theorem l_read_house : ∀ ds Q, T_read_house ds Q → ds.length = 1 := by
  rintro ds Q ⟨h, rfl, _⟩; rfl
theorem ok_read_house (W : Wo P w K mg base) : Cal P w K mg base 7 "read_house" (spD K T_read_house) := by
  obtain ⟨fd, Fd⟩ := W.fun 26 72 (x := "read_house")
  exact fnD Fd (W.glo 71) sc_read_house l_read_house (fun _ _ _ _ _ _ us hl => match us, hl with | [_], _ => rfl) (fun cdv A outer s H F E hr => b_read_house W ((ok_blocks_in W).mono (by decide)) ((ok_kind_of W).mono (by decide)) ((ok_need_house W).mono (by decide)) cdv A outer s H F E hr) p_read_house
theorem okb_need_house (W : Wo P w K mg base) (N : Exn P w K mg base "BadHouse" "place") : Bads P w K mg base 6 "need_house" (He.ga K "BadHouse") "place" TB_empty := by
  obtain ⟨fd, Fd⟩ := W.fun 11 42 (x := "need_house")
  exact fnBad Fd (W.glo 56) sc_need_house (fun ds d ⟨e, _⟩ => by rw [e]; rfl) (fun _ _ _ _ _ _ us hl => match us, hl with | [_], _ => rfl) (fun cdv A outer s H F E d hr B => bb_need_house W N cdv A outer s H F E d hr B) pb_need_house
theorem okb_house_text (W : Wo P w K mg base) (N : Exn P w K mg base "BadHouse" "place") : Bads P w K mg base 7 "house_text" (He.ga K "BadHouse") "place" TB_empty := by
  obtain ⟨fd, Fd⟩ := W.fun 15 61 (x := "house_text")
  obtain ⟨at_, kp, fd2, ps2, c, hbi⟩ := okb_need_house W N
  exact fnBad Fd (W.glo 60) sc_house_text (fun ds d ⟨e, _⟩ => by rw [e]; rfl) (fun _ _ _ _ _ _ us hl => match us, hl with | [_], _ => rfl) (fun cdv A outer s H F E d hr B => bb_house_text W c hbi at_ kp ((ok_kind_lines W).mono (by decide)) cdv A outer s H F E d hr B) pb_house_text
theorem okb_weaving_text (W : Wo P w K mg base) (N : Exn P w K mg base "BadRow" "value") : Bads P w K mg base 5 "weaving_text" (He.ga K "BadRow") "value" TB_weaving_text := by
  obtain ⟨fd, Fd⟩ := W.fun 29 75 (x := "weaving_text")
  exact fnBad Fd (W.glo 74) sc_weaving_text (fun ds d ⟨e, _⟩ => by rw [e]; rfl) (fun _ _ _ _ _ _ us hl => match us, hl with | [_], _ => rfl) (fun cdv A outer s H F E d hr B => bb_weaving_text W N ((ok_is_move W).mono (by decide)) cdv A outer s H F E d hr B) pb_weaving_text
end
end Wk
namespace Wk
open L2 RZ PyProof.Rows PySem.Spec PySem
/-! ### the machine of draws -/
abbrev mD (g : Addr) (s a : Int) : HO := .dK [(Sum.inr "great", .ref g), (Sum.inr "seed", .int s), (Sum.inr "at", .int a)]
structure Ms (K : PySem.W.Frag) (H0 : Hp) (Mu : Addr → Prop) (m : Addr) (gs : List Int) (s a : Int) (H : Hp) : Prop where
  d : ∃ g, H m = some (mD g s a) ∧ SqLM K Mu H g (gs.map V.int)
  keep : ∀ b o, b ≠ m → H0 b = some o → H b = some o
  tr : ∀ b, Mu b → H b ≠ none
  mm : Mu m
section
variable {K : PySem.W.Frag} {H0 H H' : Hp} {Mu : Addr → Prop} {m g : Addr} {gs : List Int} {s a : Int}
theorem Ms.grow (M : Ms K H0 Mu m gs s a H) (e : ∀ b o, H b = some o → H' b = some o) : Ms K H0 Mu m gs s a H' := by
  obtain ⟨⟨g, h1, h2⟩, h3, h4, h5⟩ := M
  exact ⟨⟨g, e _ _ h1, h2.exM fun b o _ z => e b o z⟩, fun b o n z => e b o (h3 b o n z), fun b z w => (by
    cases q : H b with
    | none => exact h4 b z q
    | some o =>
      rw [e b o q] at w
      cases w), h5⟩
theorem Ms.fresh (M : Ms K H0 Mu m gs s a H) {p : Addr} {o : HO} (h : H p = none) : Ms K H0 Mu m gs s a (upd H p o) := M.grow fun b u z => by rw [upd_ne (ne_of_none z h)]; exact z
theorem Ms.nmu (M : Ms K H0 Mu m gs s a H) {p : Addr} (h : H p = none) : ¬ Mu p := fun z => M.tr p z h
theorem Ms.put (M : Ms K H0 Mu m gs s a H) {gs' : List Int} {s' a' : Int} (h : SqLM K Mu H g (gs'.map V.int)) : Ms K H0 Mu m gs' s' a' (upd H m (mD g s' a')) :=
  ⟨⟨g, upd_same, h.exM (ExM.at M.mm)⟩, fun b o n z => by rw [upd_ne n]; exact M.keep b o n z, fun b z => by
    by_cases e : b = m
    · rw [e, upd_same]; simp
    · rw [upd_ne e]; exact M.tr b z, M.mm⟩
theorem get_great (e : H m = some (mD g s a)) : DGet H m (.str "great") (some (.ref g)) := DGet.k (k := Sum.inr "great") e
theorem get_seed (e : H m = some (mD g s a)) : DGet H m (.str "seed") (some (.int s)) := DGet.k (k := Sum.inr "seed") e
theorem get_at (e : H m = some (mD g s a)) : DGet H m (.str "at") (some (.int a)) := DGet.k (k := Sum.inr "at") e
theorem put_great {g' : Addr} (e : H m = some (mD g s a)) : DPut H m (.str "great") (.ref g') (upd H m (mD g' s a)) := DPut.k (k := Sum.inr "great") e (by rw [line_eq]; show (3 : Nat) < _; decide)
theorem put_at {i : Int} (e : H m = some (mD g s a)) : DPut H m (.str "at") (.int i) (upd H m (mD g s i)) := DPut.k (k := Sum.inr "at") e (by rw [line_eq]; show (3 : Nat) < _; decide)
theorem dq_ints (is : List Int) : DqAll K Mu H (is.map V.int) (is.map PyData.int) := by
  induction is with
  | nil => exact .nil
  | cons i is ih => exact .cons (.int i) ih
theorem dqall_ints {vs : List V} : ∀ {is : List Int}, DqAll K Mu H vs (is.map PyData.int) → vs = is.map V.int := by
  intro is
  induction is generalizing vs with
  | nil => intro h; cases h; rfl
  | cons i is ih =>
    intro h
    cases h with
    | cons h1 h2 => cases h1; rw [ih h2]; rfl
theorem ms_of {b : Nat} (h : MOk K Mu H m b) (tr : ∀ a, Mu a → H a ≠ none) (mm : Mu m) : ∃ gs s a, Ms K H Mu m gs s a H ∧ gs.length ≤ 63 ∧ (∀ x ∈ gs, 0 ≤ x) ∧ 0 ≤ s ∧ s < 2147483647 ∧ 0 ≤ a ∧ a ≤ b := by
  obtain ⟨g, gs, s, a, h1, ⟨vs, h2, h3⟩, h4⟩ := h
  rw [dqall_ints h3] at h2
  exact ⟨gs, s, a, ⟨⟨g, h1, h2⟩, fun _ _ _ z => z, tr, mm⟩, h4⟩
theorem Ms.ok {b : Nat} (M : Ms K H0 Mu m gs s a H) (h1 : gs.length ≤ 63) (h2 : ∀ x ∈ gs, 0 ≤ x) (h3 : 0 ≤ s ∧ s < 2147483647) (h4 : 0 ≤ a ∧ a ≤ b) : MOk K Mu H m b := by
  obtain ⟨g, e1, e2⟩ := M.d
  exact ⟨g, gs, s, a, e1, ⟨_, e2, dq_ints gs⟩, h1, h2, h3.1, h3.2, h4.1, h4.2⟩
/-- ints beside the empty list -/
theorem ne_none {p : Addr} {Q : VK} (h : SqL K H g (gs.map V.int)) (hp : H p = some (.lst [])) (q : Q (.bl (!gs.isEmpty)) H) : rNe2 K (.ref g) (.ref p) H Q := by
  refine .inr ⟨.list (gs.map PyData.int), .list [], .lst h (DqAll.dp (Mu := fun _ => False) _ _ (dq_ints gs)), .lst (.inl (.inl hp)) .nil, ⟨?_, rfl⟩, ?_, ?_⟩
  · exact lay_ints gs
  · simp [PyData.depth, PyData.depthAll]
  · have : PyData.eqv (.list (gs.map PyData.int)) (.list []) = gs.isEmpty := by cases gs <;> simp [PyData.eqv, PyData.eqvAll]
    rw [this]; exact q
theorem eq_zero {i j : Int} {Q : VK} (q : Q (.bl (i == j)) H) : rEq2 K (.int i) (.int j) H Q := .inl ⟨rfl, by rw [dec_int]; exact q⟩
end
end Wk
namespace Wk
open L2 RZ PyProof.Rows PySem.Spec PySem
abbrev tGr : TE := tDGet (tVar 0) (tC (.str "great"))
abbrev tcD (K : PySem.W.Frag) : TT := tAnd (tTest (tOp (rNe2 K) tGr (tLst tNil))) (tTest (tOp (rEq2 K) (tOp (rIx K) tGr (tC (.int 0))) (tC (.int 0))))
abbrev tCut (K : PySem.W.Frag) : TE := tSl (rSlL K) tGr (tPart (tC (.int 1))) tNoPart
abbrev tbD (K : PySem.W.Frag) : TS := sDPut (tVar 0) (tC (.str "great")) (tCut K)
section
variable {K : PySem.W.Frag} {H0 H : Hp} {Mu : Addr → Prop} {m g : Addr} {gs : List Int} {s a : Int} {σ : L2.St} {D : Ends}
theorem cut1 (x : Int) (r : List Int) : cutV ((x :: r).map V.int) (some 1) none = r.map V.int := by
  simp [cutV, HT.sIx, List.take_of_length_le]
theorem draw_while (h0 : σ[0]? = some (some (.ref m))) (M : Ms K H0 Mu m gs s a H) (hl : gs.length ≤ 63) (hp : ∀ x ∈ gs, 0 ≤ x) (k : ∀ gs1 H1, Ms K H0 Mu m gs1 s a H1 → gs1.length ≤ 63 → (∀ x ∈ gs1, 0 ≤ x) → D.nx σ H1) : tWhile (tcD K) (tbD K) D σ H := by
  refine ⟨fun n σ1 H1 => σ1 = σ ∧ ∃ gs1, Ms K H0 Mu m gs1 s a H1 ∧ gs1.length = n ∧ gs1.length ≤ 63 ∧ ∀ x ∈ gs1, 0 ≤ x, ⟨_, rfl, gs, M, rfl, hl, hp⟩, ?_⟩
  rintro n σ1 H1 ⟨rfl, gs1, M1, rfl, l1, p1⟩
  obtain ⟨g, e1, e2⟩ := M1.d
  refine ⟨.ref m, h0, m, .ref g, rfl, get_great e1, Nat.zero_le _, fun p hp => ne_none (gs := gs1) (e2.exM (ExM.new hp)).sq upd_same ⟨_, rfl, ?_⟩⟩
  have M2 := M1.fresh (o := .lst []) hp
  cases gs1 with
  | nil => exact k _ _ M2 l1 p1
  | cons x r =>
    have e1' : upd H1 p (.lst []) m = some (mD g s a) := by rw [upd_ne (ne_of_none e1 hp)]; exact e1
    have e2' := e2.exM (ExM.new (o := .lst []) hp)
    refine ⟨.ref m, h0, m, .ref g, rfl, get_great e1', .inl ⟨g, _, 0, .int x, rfl, rfl, e2'.sq, atI_0 _, eq_zero ⟨_, rfl, ?_⟩⟩⟩
    cases hx : (x == 0) with
    | false => exact k _ _ M2 l1 p1
    | true =>
      refine ⟨fun σ' H' => σ' = σ1 ∧ Ms K H0 Mu m r s a H', fun σ' H' ⟨e, M'⟩ => ⟨_, Nat.lt_succ_self _, e, r, M', rfl, Nat.le_trans (Nat.le_succ _) l1, fun y hy => p1 y (by simp [hy])⟩, ?_⟩
      refine ⟨.ref m, h0, m, .ref g, rfl, get_great e1', 1, rfl, g, _, rfl, e2'.sq, fun q hq => ?_⟩
      have M3 := M2.fresh (o := .lst (cutV (List.map V.int (x :: r)) (some 1) none)) hq
      refine ⟨.ref m, h0, m, _, rfl, put_great (by rw [upd_ne (ne_of_none e1' hq)]; exact e1'), rfl, M3.put (.of ?_ (M2.nmu hq))⟩
      rw [upd_same, cut1]
end
end Wk
namespace Wk
open L2 RZ PyProof.Rows PySem.Spec PySem
abbrev N_law_draw : List Str := ["_law_m", "_law_top", "_law_k", "_law_mixed", "_law_cell"]
theorem sc_law_draw : FnScope N_law_draw ["_law_m", "_law_top"] (defScope (top 80)) := ⟨rfl, rfl, rfl, by decide +kernel, rfl, by decide +kernel, by decide +kernel⟩
theorem ok_law_draw {P : Program} {w : World} {K : PySem.W.Frag} {mg : Str → Option Value} {base : Heap} (W : Wo P w K mg base) : Cal P w K mg base 1 "_law_draw" (spM K T_law_draw) := by
  obtain ⟨fd, Fd⟩ := W.fun 33 80 (x := "_law_draw")
  refine ⟨W.glo 78, Fd.kp, fd, ["_law_m", "_law_top"], Fd.ok sc_law_draw (fun vs H Q E z => ?_) (fun cdv A outer s H vs Q E hr z => ?_), Fd.bindsN (fun _ _ _ _ _ _ us hl => match us, hl with | [_, _], _ => rfl)⟩
  · obtain ⟨Mu, m, ws, ds, b, Q', rfl, _, _, _, q, ⟨top, rfl, _⟩, _⟩ := z
    simp [q.length]
  obtain ⟨Mu, m, ws, ds, b, Q', rfl, mm, tr, mk, q, ⟨top, rfl, t1, t2, hb, hQ⟩, k'⟩ := z
  have ew : ws = [.int top] := dqall_ints (is := [top]) q
  subst ew
  obtain ⟨gs, s0, a0, M, c1, c2, c3, c4, c5, c6⟩ := ms_of mk tr mm
  refine ⟨_, (pss_cons (ps_while (passes_of rfl) (PW.pt (pw_and (pt_cmpR (op_ne2 hr.units) (pe_dget (units1 hr) (pe_var (i := 0) rfl (Or.inl rfl)) pe_str (by intro _ _; rfl)) (pe_lst pa_nil) (by exact nomark _)) (pw_and1 (pt_cmpR (op_eq2 hr.units) (pe_ix ix_seq (pe_dget (units1 hr) (pe_var (i := 0) rfl (Or.inl rfl)) pe_str (by intro _ _; rfl)) pe_int (by intro _ _; rfl)) pe_int (by exact nomark _))))) (pss_one (ps_dput (units1 hr) (pe_var (i := 0) rfl (Or.inl rfl)) pe_str (pe_slice sl_list (pe_dget (units1 hr) (pe_var (i := 0) rfl (Or.inl rfl)) pe_str (by intro _ _; rfl)) (po_some pe_int) po_none) (by rfl)))) (pss_cons (ps_if (pt_cmpR (op_ne2 hr.units) (pe_dget (units1 hr) (pe_var (i := 0) rfl (Or.inl rfl)) pe_str (by intro _ _; rfl)) (pe_lst pa_nil) (by exact nomark _)) (pss_cons (ps_set sc_law_draw.nd (i := 4) rfl (Or.inl rfl) (pe_ix ix_seq (pe_dget (units1 hr) (pe_var (i := 0) rfl (Or.inl rfl)) pe_str (by intro _ _; rfl)) pe_int (by intro _ _; rfl))) (pss_cons (ps_dput (units1 hr) (pe_var (i := 0) rfl (Or.inl rfl)) pe_str (pe_op op_cat (pe_lst (pa_cons (pe_op op_fdiv (pe_var (i := 4) rfl (Or.inl rfl)) (pe_var (i := 1) rfl (Or.inl rfl))) pa_nil)) (pe_slice sl_list (pe_dget (units1 hr) (pe_var (i := 0) rfl (Or.inl rfl)) pe_str (by intro _ _; rfl)) (po_some pe_int) po_none)) (by rfl)) (pss_one (ps_ret (pe_op op_mod (pe_oneT call_int1 rfl (W.free 7) boot_int (pe_var (i := 4) rfl (Or.inl rfl))) (pe_var (i := 1) rfl (Or.inl rfl))))))) pss_nil) (pss_cons (ps_set sc_law_draw.nd (i := 2) rfl (Or.inl rfl) (pe_op op_add (pe_dget (units1 hr) (pe_var (i := 0) rfl (Or.inl rfl)) pe_str (by intro _ _; rfl)) pe_int)) (pss_cons (ps_dput (units1 hr) (pe_var (i := 0) rfl (Or.inl rfl)) pe_str (pe_var (i := 2) rfl (Or.inl rfl)) (by rfl)) (pss_cons (ps_set sc_law_draw.nd (i := 3) rfl (Or.inl rfl) (pe_op op_mod (pe_oneT call_int1 rfl (W.free 7) boot_int (pe_op op_mul (pe_op op_add (pe_op op_add (pe_dget (units1 hr) (pe_var (i := 0) rfl (Or.inl rfl)) pe_str (by intro _ _; rfl)) (pe_op op_mul pe_int (pe_var (i := 2) rfl (Or.inl rfl)))) (pe_op op_mul (pe_op op_mul pe_int (pe_var (i := 2) rfl (Or.inl rfl))) (pe_var (i := 2) rfl (Or.inl rfl)))) pe_int)) pe_int)) (pss_one (ps_ret (pe_op op_mod (pe_oneT call_int1 rfl (W.free 7) boot_int (pe_op op_fdiv (pe_op op_mod (pe_oneT call_int1 rfl (W.free 7) boot_int (pe_op op_add (pe_op op_mul (pe_var (i := 3) rfl (Or.inl rfl)) pe_int) (pe_op op_mul pe_int (pe_var (i := 2) rfl (Or.inl rfl))))) pe_int) pe_int)) (pe_var (i := 1) rfl (Or.inl rfl)))))))))), ?_⟩
  refine draw_while (K := K) (H0 := H) (Mu := Mu) (m := m) (gs := gs) (s := s0) (a := a0) rfl M c1 c2 fun gs1 H1 M1 l1 p1 => ?_
  obtain ⟨g, e1, e2⟩ := M1.d
  refine ⟨.ref m, rfl, m, .ref g, rfl, get_great e1, Nat.zero_le _, fun p hp => ne_none (gs := gs1) (e2.exM (ExM.new hp)).sq upd_same ⟨_, rfl, ?_⟩⟩
  have M2 := M1.fresh (o := .lst []) hp
  have h64 : (2 : Int) ^ 64 = 18446744073709551616 := by decide
  have hdm : drawsMax = 1000000 := rfl
  have htop : (0 : Int) < top := by omega
  have e1' : upd H1 p (.lst []) m = some (mD g s0 a0) := by rw [upd_ne (ne_of_none e1 hp)]; exact e1
  have e2' := e2.exM (ExM.new (o := .lst []) hp)
  have fin : ∀ {gs' : List Int} {a' : Int} {H' : Hp} {r : Int}, Ms K H Mu m gs' s0 a' H' → gs'.length ≤ 63 → (∀ x ∈ gs', 0 ≤ x) → 0 ≤ a' ∧ a' ≤ (b + 1 : Nat) → 0 ≤ r → r < top → Q (.int r) H' := fun M' h1 h2 h3 h4 h5 =>
    k' _ _ _ (b + 1) M'.keep (M'.ok h1 h2 ⟨c3, c4⟩ h3) (.int _) (hQ _ h4 h5)
  cases gs1 with
  | nil =>
    have cm : ∀ x : Int, 0 ≤ x → x ≤ 10000000 → -(2 ^ 64) < x ∧ x < 2 ^ 64 := fun x h1 h2 => ⟨by omega, by omega⟩
    have hk := cm (a0 + 1) (by omega) (by omega)
    refine ⟨.ref m, rfl, m, .int a0, rfl, get_at e1', a0, 1, rfl, rfl, ?_⟩
    refine ⟨.int (a0 + 1), rfl, .ref m, rfl, m, _, rfl, put_at e1', ?_⟩
    have M3 := M2.put (s' := s0) (a' := a0 + 1) e2'
    have e3 : upd (upd H1 p (.lst [])) m (mD g s0 (a0 + 1)) m = some (mD g s0 (a0 + 1)) := upd_same
    refine ⟨.ref m, rfl, m, .int s0, rfl, get_seed e3, .int (a0 + 1), rfl, 7919, a0 + 1, rfl, rfl, .inl ⟨by decide, by decide⟩, _, _, rfl, rfl, .int (a0 + 1), rfl, 104729, a0 + 1, rfl, rfl, .inl ⟨by decide, by decide⟩, .int (a0 + 1), rfl, _, a0 + 1, rfl, rfl, .inr hk, _, _, rfl, rfl,
      _, 69621, rfl, rfl, .inr ⟨by decide, by decide⟩, .inl ⟨_, rfl, _, 2147483629, rfl, rfl, show (0 : Int) < 2147483629 by decide, ?_⟩⟩
    refine ⟨_, rfl, _, 48271, rfl, rfl, .inr ⟨by decide, by decide⟩, .int (a0 + 1), rfl, 31, a0 + 1, rfl, rfl, .inl ⟨by decide, by decide⟩, _, _, rfl, rfl, .inl ⟨_, rfl, _, 2147483587, rfl, rfl, show (0 : Int) < 2147483587 by decide, _, 11, rfl, rfl, ⟨by decide, by decide⟩, .inl ⟨_, rfl, .int top, rfl, _, top, rfl, rfl, htop, ?_⟩⟩⟩
    exact fin M3 l1 p1 ⟨by omega, by omega⟩ (Int.emod_nonneg _ (by omega)) (Int.emod_lt_of_pos _ htop)
  | cons x r =>
    have hx : 0 ≤ x := p1 x (by simp)
    refine ⟨.ref m, rfl, m, .ref g, rfl, get_great e1', .inl ⟨g, _, 0, .int x, rfl, rfl, e2'.sq, atI_0 _, ?_⟩⟩
    refine ⟨.int x, rfl, .int top, rfl, x, top, rfl, rfl, ⟨htop, by omega⟩, by rw [line_eq]; show (1 : Nat) ≤ _; decide, fun p2 hp2 => ?_⟩
    have M3 := M2.fresh (o := .lst [.int (x / top)]) hp2
    have e3 : upd (upd H1 p (.lst [])) p2 (.lst [.int (x / top)]) m = some (mD g s0 a0) := by rw [upd_ne (ne_of_none e1' hp2)]; exact e1'
    have e4 := e2'.exM (ExM.new (o := .lst [.int (x / top)]) hp2)
    refine ⟨.ref m, rfl, m, .ref g, rfl, get_great e3, 1, rfl, g, _, rfl, e4.sq, fun p3 hp3 => ?_⟩
    have M4 := M3.fresh (o := .lst (cutV (List.map V.int (x :: r)) (some 1) none)) hp3
    have e5 : upd (upd (upd H1 p (.lst [])) p2 (.lst [.int (x / top)])) p3 (.lst (cutV (List.map V.int (x :: r)) (some 1) none)) m = some (mD g s0 a0) := by rw [upd_ne (ne_of_none e3 hp3)]; exact e3
    have l2 : r.length + 1 ≤ 63 := l1
    refine ⟨p2, p3, [.int (x / top)], r.map V.int, rfl, rfl, by rw [upd_ne (ne_of_none (show upd (upd H1 p (.lst [])) p2 (.lst [.int (x / top)]) p2 = some (.lst [.int (x / top)]) from upd_same) hp3), upd_same], by rw [upd_same, cut1], by rw [line_eq]; simp; omega, fun p4 hp4 => ?_⟩
    have M5 := M4.fresh (o := .lst ([V.int (x / top)] ++ r.map V.int)) hp4
    refine ⟨.ref m, rfl, m, _, rfl, put_great (by rw [upd_ne (ne_of_none e5 hp4)]; exact e5), ?_⟩
    have M6 := M5.put (g := p4) (gs' := x / top :: r) (s' := s0) (a' := a0) (.of upd_same (M4.nmu hp4))
    refine ⟨.int x, rfl, .inl ⟨x, rfl, .int top, rfl, x, top, rfl, rfl, htop, ?_⟩⟩
    refine fin M6 l1 (fun y hy => ?_) ⟨by omega, by omega⟩ (Int.emod_nonneg _ (by omega)) (Int.emod_lt_of_pos _ htop); rcases List.mem_cons.mp hy with rfl | hy
    · exact Int.ediv_nonneg hx (by omega)
    · exact p1 y (by simp [hy])
end Wk
namespace Wk
open L2 RZ PyProof.Rows PySem.Spec PySem
section
variable {X : Cx} {F : Fm} {a e c : Expr} {ta tb : TD} {tas tbs : TAD} {tc : TTD} {p pos apos cpos apos2 cpos2 : Pos}
/-- list(range(e)) -/
@[simp] def nRng (t : TD) : TAD := fun δ b Q => t δ b fun d b1 => ∃ n : Nat, d = .int n ∧ n ≤ 16777216 ∧ Q ((List.range n).map fun (i : Nat) => PyData.int i) b1
theorem dq_range {K : PySem.W.Frag} {Mu : Addr → Prop} {H : Hp} (f : Nat → V) (g : Nat → PyData) (h : ∀ i, Dq K Mu H (f i) (g i)) : ∀ l : List Nat, DqAll K Mu H (l.map f) (l.map g)
  | [] => .nil
  | i :: l => .cons (h i) (dq_range f g h l)
theorem n_rng (hc : X.calm = true) (hg : Gl X "list") (hm : X.mg "list" = none) (hg2 : Gl X "range") (hm2 : X.mg "range" = none) (ha : PD X F e ta) (na : starEach [.Call (.Name "range" p) [e] [] pos] X.env = (false, eval (.Call (.Name "range" p) [e] [] pos) X.env) :: starEach [] X.env := by rfl)
    (nb : starEach [e] X.env = (false, eval e X.env) :: starEach [] X.env := by rfl) : PDN X F (.Call (.Name "list" apos) [.Call (.Name "range" p) [e] [] pos] [] cpos) (nRng ta) :=
  ⟨PE.weak (pe_listRg hc hg hm (prg_1 hg2 hm2 ha.pe nb) na) fun σ H Q ⟨Mu, δ, b, Q', R, h, k⟩ => cE.go R h fun v H1 d b1 R1 e1 q1 ⟨n, ed, hn, h1⟩ => by
    subst ed
    cases q1
    have e0 : ((n : Int) - 0).toNat = n := by omega
    refine ⟨n, rfl, RgOk.of_le (by omega) (by omega) (by omega) (by omega), fun q hq => k q H1 (rgV 0 n) _ b1 R1 e1 hq ?_ ?_ h1⟩
    · rw [rgV_length, e0, sizeLine_eq]; exact hn
    · unfold rgV
      rw [e0]
      exact dq_range _ _ (fun i => by rw [Int.zero_add]; exact .int _) _⟩
/-- while c: body -/
@[simp] def sWhile (c : TTD) (body : TSD) : TSD := fun D δ b => ∃ W : Nat → List Sl → Nat → Prop, (∃ n, W n δ b) ∧ ∀ n δ b, W n δ b → c δ b fun k b1 => if k = true then ∃ N : List Sl → Nat → Prop, (∀ δ' b', N δ' b' → ∃ n', n' < n ∧ W n' δ' b') ∧ body { D with nx := N, ct := N, bk := D.nx } δ b1 else D.nx δ b1
theorem s_while {sts : List Stmt} {body : TSD} (hp : PassesOwn (model X.prog X.w) X.A X.env X.xe) (hc : PDT X F c tc) (hb : PSsD X F sts body) : PSD X F (.While c sts [] pos) (sWhile tc body) :=
  ⟨PS.weak (ps_while hp hc.pt hb.ps) fun D σ H ⟨Mu, δ, b, D', R, ⟨W, ⟨n0, w0⟩, turn⟩, l⟩ => by
    refine ⟨fun n σ1 H1 => ∃ Mu1 δ1 b1, Rep X.K F Mu1 σ1 H1 δ1 b1 ∧ ExS Mu H Mu1 H1 ∧ W n δ1 b1, ⟨n0, Mu, δ, b, R, ExS.refl H, w0⟩, ?_⟩
    rintro n σ1 H1 ⟨Mu1, δ1, b1, R1, x1, w1⟩
    refine cT.go R1 (turn n δ1 b1 w1) fun k H2 b2 R2 e2 h2 => ?_
    have l2 := l.step (x1.trans (ExS.ofB e2))
    cases k with
    | false =>
      rw [if_neg Bool.false_ne_true] at h2 ⊢
      exact l2.nx _ _ _ _ _ R2 (ExS.refl H2) h2
    | true =>
      rw [if_pos rfl] at h2 ⊢
      obtain ⟨N, hN, h3⟩ := h2
      refine ⟨fun σ' H' => ∃ Mu' δ' b', Rep X.K F Mu' σ' H' δ' b' ∧ ExS Mu1 H2 Mu' H' ∧ N δ' b', fun σ' H' ⟨Mu', δ', b', R', x', n'⟩ => ?_, Mu1, δ1, b2, _, R2, h3, ?_⟩
      · obtain ⟨n2, hn, w2⟩ := hN _ _ n'
        exact ⟨n2, hn, Mu', δ', b', R', (x1.trans (ExS.ofB e2)).trans x', w2⟩
      · exact ⟨fun Mu' σ' H' δ' b' R' x' z => ⟨Mu', δ', b', R', x', z⟩, fun Mu' σ' H' δ' b' R' x' z => l2.nx _ _ _ _ _ R' x' z, fun Mu' σ' H' δ' b' R' x' z => ⟨Mu', δ', b', R', x', z⟩, l2.rt⟩⟩
end
end Wk
namespace Wk
open L2 RZ PyProof.Rows PySem.Spec PySem
section
variable {X : Cx} {F : Fm} {e : Expr} {ta : TD} {p q pos apos cpos apos2 cpos2 : Pos}
theorem at_own {k n : Nat} (h : k < n) : seqIndex? (k : Int) n = some k := by
  unfold seqIndex?
  simp
  omega
/-- x.append(y.pop(e)) -/
@[simp] def sAppPop (i j : Nat) (t : TD) : TSD := fun D δ b => ∃ ds es, δ[i]? = some (Sl.own ds) ∧ δ[j]? = some (Sl.own es) ∧ t δ b fun d b1 => ∃ (k : Nat) (y : PyData), d = .int k ∧ es[k]? = some y ∧ es.length ≤ 1000000 ∧ ds.length < sizeLine ∧ D.nx ((δ.set j (.own (es.eraseIdx k))).set i (.own (ds ++ [y]))) b1
theorem DqAll.erase {K : PySem.W.Frag} {Mu : Addr → Prop} {H : Hp} : ∀ {vs : List V} {ds : List PyData} (k : Nat), DqAll K Mu H vs ds → DqAll K Mu H (vs.eraseIdx k) (ds.eraseIdx k)
  | _, [], k, h => by cases h; exact .nil
  | _, d :: ds, 0, h => by
    cases h with
    | cons _ h2 => exact h2
  | _, d :: ds, k + 1, h => by
    cases h with
    | cons h1 h2 => exact .cons h1 (DqAll.erase k h2)
theorem s_appPop (i j : Nat) {x y : Str} (hij : i ≠ j) (he : PD X F e ta) (hN : X.N[i]? = some x := by rfl) (hN2 : X.N[j]? = some y := by rfl) (hv : Vis X.env.scope x := by first | exact Or.inl rfl | exact Or.inr (Or.inl rfl) | exact Or.inr (Or.inr rfl)) (hv2 : Vis X.env.scope y := by first | exact Or.inl rfl | exact Or.inr (Or.inl rfl) | exact Or.inr (Or.inr rfl))
    (hd : (x == ("__debug__" : Str)) = false := by decide) (hcd : (x == ("__classdict__" : Str)) = false := by decide) (hd2 : (y == ("__debug__" : Str)) = false := by decide) (hcd2 : (y == ("__classdict__" : Str)) = false := by decide)
    (hbase : attributeBase (.Name x p) "append" X.env (eval (.Name x p) X.env) = eval (.Name x p) X.env := by rfl) (hbase2 : attributeBase (.Name y q) "pop" X.env (eval (.Name y q) X.env) = eval (.Name y q) X.env := by rfl)
    (hfew : ((backTo cpos (starEach [.Call (.Attribute (.Name y q) "pop" apos2) [e] [] cpos2] X.env)).all (fun x => !x.1) && (backToKw cpos (keywordEach [] X.env)).all (fun x => x.1.isSome) && decide (([.Call (.Attribute (.Name y q) "pop" apos2) [e] [] cpos2] : List Expr).length + ([] : List Keyword).length + (if ([] : List Keyword).isEmpty then 0 else 1) < 30)) = true := by rfl)
    (hfew2 : ((backTo cpos2 (starEach [e] X.env)).all (fun x => !x.1) && (backToKw cpos2 (keywordEach [] X.env)).all (fun x => x.1.isSome) && decide (([e]).length + ([] : List Keyword).length + (if ([] : List Keyword).isEmpty then 0 else 1) < 30)) = true := by rfl)
    (hline : (apos.endLine == cpos.line) = true := by rfl) (hline2 : (apos2.endLine == cpos2.line) = true := by rfl) (hs : starEach [.Call (.Attribute (.Name y q) "pop" apos2) [e] [] cpos2] X.env = (false, eval (.Call (.Attribute (.Name y q) "pop" apos2) [e] [] cpos2) X.env) :: starEach [] X.env := by rfl)
    (hs2 : starEach [e] X.env = (false, eval e X.env) :: starEach [] X.env := by rfl)
    (hsw : swapsWith (.Call (.Attribute (.Name x p) "append" apos) [.Call (.Attribute (.Name y q) "pop" apos2) [e] [] cpos2] [] cpos) none pos.line X.env = pure false := by rfl) :
    PSD X F (.Expr (.Call (.Attribute (.Name x p) "append" apos) [.Call (.Attribute (.Name y q) "pop" apos2) [e] [] cpos2] [] cpos) pos) (sAppPop i j ta) :=
  ⟨PS.weak (ps_expr (pe_bm PySem.F.plainAttrs_list PySem.F.slot_list_append PySem.F.type_list_append mt_append (pe_var hN hv hd hcd) (pa_cons (pe_bm PySem.F.plainAttrs_list PySem.F.slot_list_pop PySem.F.type_list_pop mt_popAt (pe_var hN2 hv2 hd2 hcd2) (pa_cons he.pe pa_nil hs2) hbase2 hfew2 hline2 hs2 rfl) pa_nil hs) hbase hfew hline hs rfl) hsw) fun D σ H ⟨Mu, δ, b, D', R, ⟨ds, es, h1, h2, h3⟩, l⟩ => by
    obtain ⟨lx, vx, ex, mx, nx, qx, _⟩ := R.sl i _ h1
    obtain ⟨ly, vy, ey, my, ny, qy, _⟩ := R.sl j _ h2
    refine ⟨_, ex, .inl ⟨rfl, vx, .inl (.inl qx)⟩, _, ey, .inl ⟨rfl, vy, .inl (.inl qy)⟩, cE.go R h3 fun v H1 d b1 R1 e1 q1 ⟨k, yd, ed, hk, hz, hz2, z⟩ => ?_⟩
    subst ed
    cases q1
    obtain ⟨lx', vx', ex', mx', nx', qx', dx'⟩ := R1.sl i _ h1
    rw [ex] at ex'; cases ex'
    obtain ⟨ly', vy', ey', my', ny', qy', dy'⟩ := R1.sl j _ h2
    rw [ey] at ey'; cases ey'
    obtain ⟨yv, w1, w2⟩ := dy'.get hk
    have hlt : k < vy'.length := (List.getElem?_eq_some_iff.mp w1).1
    have hzl : vy'.length ≤ 1000000 := by rw [dy'.length]; exact hz
    have hxy : lx ≠ ly := fun z => R1.own1 i j _ _ hij h1 h2 (by rw [ex, ey, z])
    obtain ⟨R2, x2⟩ := R1.own h2 ey my' ny' (dy'.erase k)
    have h1' : (δ.set j (.own (es.eraseIdx k)))[i]? = some (Sl.own ds) := by rw [List.getElem?_set_ne (Ne.symm hij)]; exact h1
    have eq2 : upd H1 ly (.lst (vy'.eraseIdx k)) lx = some (.lst vx') := by rw [upd_ne hxy]; exact qx'
    obtain ⟨R3, x3⟩ := R2.own h1' ex mx' nx' ((dx'.exM x2.1).append (.cons (w2.exM x2.1) .nil))
    refine ⟨ly, vy', k, k, yv, rfl, rfl, qy', by omega, by omega, at_own hlt, w1, lx, vx', yv, rfl, rfl, eq2, by rw [dx'.length]; exact hz2, l.nx _ _ _ _ _ R3 (((ExS.ofB e1).trans x2).trans x3) z⟩⟩
end
end Wk
namespace Wk
open L2 RZ PyProof.Rows PySem.Spec PySem
/-! _law_order -/
abbrev N_law_order : List Str := ["_law_m", "_law_many", "_law_rest", "_law_found"]
theorem sc_law_order : FnScope N_law_order ["_law_m", "_law_many"] (defScope (top 83)) := ⟨rfl, rfl, rfl, by decide +kernel, rfl, by decide +kernel, by decide +kernel⟩
def t_law_order (F : Fm) : TSD := (sSeq (sPar 2 3 (fOwn (nRng (dVar 1))) (fOwn (aLst aNil))) (sSeq (sWhile (dTest (dV2 neD (lOwn 2) (dList (aLst aNil)))) (sAppPop 3 2 (dCallM (F := F) 0 T_law_draw (aCons (dLenV (lOwn 2)) aNil)))) (sRetO 3)))
theorem b_law_order {P : Program} {w : World} {K : PySem.W.Frag} {mg : Str → Option Value} {base : Heap} (W : Wo P w K mg base) (c_law_draw : Cal P w K mg base 1 "_law_draw" (spM K T_law_draw))
    (cdv : Value) (A : Around) (outer : List Env) (s : Shared) (H : Hp) (F : Fm) (E : XK) (hr : Room 1 (A.deeper (envOfC "_law_order" (defScope (top 83)) s.heap.objs.size (He.ga K "_law_order") cdv))) :
    PSsD (cxOf (L2.CX P w) P w K mg base N_law_order "_law_order" (defScope (top 83)) (He.ga K "_law_order") cdv A outer s H E) F (defBody (top 83)) (t_law_order F) :=
  (ss_cons (s_par 2 3 rfl sc_law_order.nd (PDN.f (n_rng rfl rfl (W.free 10) rfl (W.free 5) (d_var 1))) (PDN.f (n_lst a_nil)) (by decide) (by rfl)) (ss_cons (s_while (passes_of rfl) (d_neVT hr.units (PDL.v (l_own 2)) (PDN.d (n_lst a_nil))) (ss_one (s_appPop 3 2 (by decide) (d_callM 0 c_law_draw hr (a_cons (d_lenV rfl (W.free 1) (PDL.v (l_own 2))) a_nil))))) (ss_one (s_retO 3))))
theorem perm_erase {α : Type} : ∀ {l : List α} {k : Nat} {x : α}, l[k]? = some x → (x :: l.eraseIdx k).Perm l
  | y :: l, 0, x, h => by simp at h; subst h; simp
  | y :: l, k + 1, x, h => by
    have := perm_erase (l := l) (k := k) (x := x) (by simpa using h)
    simp only [List.eraseIdx_cons_succ]
    exact (List.Perm.swap y x _).trans (this.cons y)
theorem erase_map {α β : Type} (f : α → β) : ∀ (l : List α) (k : Nat), (l.map f).eraseIdx k = (l.eraseIdx k).map f
  | [], _ => rfl
  | _ :: _, 0 => rfl
  | x :: l, k + 1 => by simp only [List.map_cons, List.eraseIdx_cons_succ, erase_map f l k]
theorem p_law_order : ∀ (Fr : Fm) m ds b Q, Fr.m = some m → T_law_order ds b Q → t_law_order Fr { nx := fun _ b' => Q .none b', rt := Q } (startM m N_law_order.length ds) b := by
  rintro Fr m ds b Q hm ⟨n, rfl, hn, hb, hQ⟩
  refine ⟨_, rfl, n, rfl, by omega, by rw [line_eq]; exact Nat.zero_le _, ?_⟩
  refine ⟨fun k δ b' => ∃ rest found : List Int, k = rest.length ∧ δ = [Sl.raw (.ref m), Sl.dat (.int n), Sl.own (rest.map PyData.int), Sl.own (found.map PyData.int)] ∧ (found ++ rest).Perm ((List.range n).map fun (i : Nat) => (i : Int)) ∧ b' + rest.length = b + n ∧ rest.length ≤ n,
    ⟨n, (List.range n).map fun (i : Nat) => (i : Int), [], by simp, by simp [startM, startD, Function.comp_def], by simp, by simp, by simp⟩, ?_⟩
  rintro k δ b' ⟨rest, found, rfl, rfl, hp, hb', hr⟩
  refine ⟨_, rfl, by rw [line_eq]; exact Nat.zero_le _, _, ne_lst (lay_ints rest), _, rfl, ?_⟩
  cases rest with
  | nil =>
    rw [List.append_nil] at hp
    refine ⟨_, rfl, ?_⟩
    have : b' = b + n := by simpa using hb'
    rw [this]
    exact hQ found hp
  | cons x r =>
    have hl : found.length + (r.length + 1) = n := by
      have := hp.length_eq
      simpa using this
    refine ⟨fun δ' b2 => ∃ rest' found' : List Int, rest'.length = r.length ∧ δ' = [Sl.raw (.ref m), Sl.dat (.int n), Sl.own (rest'.map PyData.int), Sl.own (found'.map PyData.int)] ∧ (found' ++ rest').Perm ((List.range n).map fun (i : Nat) => (i : Int)) ∧ b2 + rest'.length = b + n ∧ rest'.length ≤ n,
      fun δ' b2 ⟨rest', found', e1, e2, e3, e4, e5⟩ => ⟨_, by rw [e1]; exact Nat.lt_succ_self _, rest', found', rfl, e2, e3, e4, e5⟩, ?_⟩
    have hlen : ((x :: r).map PyData.int).length = r.length + 1 := by simp
    refine ⟨_, _, rfl, rfl, ⟨m, hm, rfl⟩, _, rfl, ((r.length + 1 : Nat) : Int), by rw [hlen], by omega, by omega, ?_, fun j j0 j1 => ?_⟩
    · have : b' + (r.length + 1) = b + n := hb'
      show b' < drawsMax
      omega
    · have hj : j.toNat < (x :: r).length := by simp; omega
      refine ⟨j.toNat, .int ((x :: r)[j.toNat]), by rw [Int.toNat_of_nonneg j0], by rw [List.getElem?_map, List.getElem?_eq_getElem hj]; rfl, by rw [hlen]; omega, by rw [line_eq, List.length_map]; omega, (x :: r).eraseIdx j.toNat, found ++ [(x :: r)[j.toNat]], ?_, ?_, ?_, ?_, ?_⟩
      · rw [List.length_eraseIdx_of_lt hj]; simp
      · rw [List.map_append, erase_map]; rfl
      · have := perm_erase (l := x :: r) (k := j.toNat) (x := (x :: r)[j.toNat]) (List.getElem?_eq_getElem hj)
        rw [List.append_assoc]
        exact (List.Perm.append_left found (by simpa using this)).trans hp
      · rw [List.length_eraseIdx_of_lt hj]
        have : b' + (r.length + 1) = b + n := hb'
        simp
        omega
      · rw [List.length_eraseIdx_of_lt hj]; simp at hr ⊢; omega
theorem l_law_order : ∀ ds b Q, T_law_order ds b Q → ds.length + 1 = 2 := by
  rintro ds b Q ⟨n, rfl, _⟩; rfl
theorem ok_law_order {P : Program} {w : World} {K : PySem.W.Frag} {mg : Str → Option Value} {base : Heap} (W : Wo P w K mg base) : Cal P w K mg base 2 "_law_order" (spM K T_law_order) := by
  obtain ⟨fd, Fd⟩ := W.fun 36 83 (x := "_law_order")
  exact fnM Fd (W.glo 81) sc_law_order (by simp) l_law_order (fun _ _ _ _ _ _ us hl => match us, hl with | [_, _], _ => rfl) (fun cdv A outer s H F E hr => b_law_order W ((ok_law_draw W).mono (by decide)) cdv A outer s H F E hr) p_law_order
end Wk
namespace Wk
open L2 RZ PyProof.Rows PySem.Spec PySem
theorem fnK {P : Program} {w : World} {K : PySem.W.Frag} {mg : Str → Option Value} {base : Heap} {x : Str} {params : Arguments} {body : List Stmt} {scope : Scope} {fd : FuncData} {N ps : List Str} {k : Nat} {T : List PyData → (List (Str × PyData) → Prop) → Prop} {t : TKD} (F : FunD K x x params body scope [] [] (He.ga K x) fd) (hm : mg x = some (.ref (He.ga K x))) (S : FnScope N ps scope)
    (hT : ∀ ds Q, T ds Q → ds.length = ps.length)
    (hb : ∀ (kV doc pm : Value) (an : Option Addr) (cdv ct : Value) (us : List Value), us.length = ps.length → bindArgs (PySem.W.fnOf x x params body scope .none kV doc pm an cdv ct) ⟨us, []⟩ = pure (ps.zip us))
    (hbody : ∀ (cdv : Value) (A : Around) (outer : List Env) (s : Shared) (H : Hp) (Fr : Fm) (E : XK), Room k (A.deeper (envOfC x scope s.heap.objs.size (He.ga K x) cdv)) → PSs (cxOf (L2.CX P w) P w K mg base N x scope (He.ga K x) cdv A outer s H E) body (tRet (cK K Fr t)))
    (hp : ∀ ds Q, T ds Q → t (startD N.length ds) 0 (fun es _ => Q es)) : Cal P w K mg base (k + 1) x (spK K T) := by
  refine ⟨hm, F.kp, fd, ps, F.ok S (fun vs H Q E z => ?_) (fun cdv A outer s H vs Q E hr z => ?_), F.bindsN hb⟩
  · obtain ⟨Mu, ds, Q', _, q, h, _⟩ := z
    rw [q.length]; exact hT ds Q' h
  · obtain ⟨Mu, ds, Q', tr, q, h, k'⟩ := z
    exact ⟨_, hbody cdv A outer s H ⟨H, Mu, none⟩ E hr, Mu, _, 0, _, start_rep tr q, hp ds Q' h, fun v H' es b' R' e' z hQ => k' v H' es (fun a o w => R'.ext a o (fun e => nomatch e) w) z hQ⟩
abbrev N_law_books : List Str := ["_law_house_here", "_law_name", "_law_kind"]
theorem sc_law_books : FnScope N_law_books ["_law_house_here"] (defScope (top 90)) := ⟨rfl, rfl, rfl, by decide +kernel, rfl, by decide +kernel, by decide +kernel⟩
def t_law_books : TKD := kDict (nLc (iT (dVar 0)) (.tup [(.nm 1), (.nm 2)]) dYes (dTup (aCons (dVar 1) (aCons (d2 idxD (dVar 2) (dC (.int 0))) aNil))) [1, 2])
theorem b_law_books {P : Program} {w : World} {K : PySem.W.Frag} {mg : Str → Option Value} {base : Heap} (W : Wo P w K mg base) (cdv : Value) (A : Around) (outer : List Env) (s : Shared) (H : Hp) (F : Fm) (E : XK) (hr : Room 0 (A.deeper (envOfC "_law_books" (defScope (top 90)) s.heap.objs.size (He.ga K "_law_books") cdv))) :
    PSs (cxOf (L2.CX P w) P w K mg base N_law_books "_law_books" (defScope (top 90)) (He.ga K "_law_books") cdv A outer s H E) (defBody (top 90)) (tRet (cK K F t_law_books)) :=
  pss_one (ps_ret (PDK.pe (k_dict rfl rfl (W.free 12) (PDN.v (n_lc [("_law_name", 1), ("_law_kind", 2)] rfl sc_law_books.nd (i_tup (d_var 0)) (blkOk_by (N := N_law_books) (sc := defScope (top 90)) (by decide +kernel)) (by decide) (fun _ _ _ _ _ => (g_tup rfl (g_cons (g_nm 1 sc_law_books.nd) (g_cons (g_nm 2 sc_law_books.nd) g_nil)))) (fun _ _ _ _ _ => ts_nil) (fun _ _ _ _ _ => (d_tup (a_cons (d_var 1) (a_cons (d_ix (d_var 2) d_int (by intro _ _; rfl)) a_nil)))))))))
theorem p_law_books : ∀ ds Q, T_law_books ds Q → t_law_books (startD N_law_books.length ds) 0 (fun es _ => Q es) := by
  rintro ds Q ⟨h, rfl, hl, nd, hQ⟩
  have two : (2 : Nat) ≤ sizeLine := by rw [line_eq]; decide
  refine ⟨noOwn_by rfl, _, rfl, _, rfl, by rw [line_eq, List.length_map]; omega, ?_⟩
  refine lc_map itemD (fun p => .tuple [.str p.1, p.2.book]) h (fun p hp => ⟨_, rfl, fun b Q q => ⟨_, rfl, _, rfl, _, atI_0 _, two, q⟩⟩) [] 0 _ ?_
  exact ⟨_, by rw [List.nil_append, List.map_map]; rfl, by rw [List.map_map]; exact nd, hQ⟩
theorem ok_law_books {P : Program} {w : World} {K : PySem.W.Frag} {mg : Str → Option Value} {base : Heap} (W : Wo P w K mg base) : Cal P w K mg base 1 "_law_books" (spK K T_law_books) := by
  obtain ⟨fd, Fd⟩ := W.fun 43 90 (x := "_law_books")
  exact fnK Fd (W.glo 88) sc_law_books (by rintro ds Q ⟨h, rfl, _⟩; rfl) (fun _ _ _ _ _ _ us hl => match us, hl with | [_], _ => rfl) (fun cdv A outer s H F E hr => b_law_books W cdv A outer s H F E hr) p_law_books
abbrev N_law_belows : List Str := ["_law_house_here", "_law_name", "_law_kind"]
theorem sc_law_belows : FnScope N_law_belows ["_law_house_here"] (defScope (top 91)) := ⟨rfl, rfl, rfl, by decide +kernel, rfl, by decide +kernel, by decide +kernel⟩
def t_law_belows : TKD := kDict (nLc (iT (dVar 0)) (.tup [(.nm 1), (.nm 2)]) dYes (dTup (aCons (dVar 1) (aCons (d2 idxD (dVar 2) (dC (.int 1))) aNil))) [1, 2])
theorem b_law_belows {P : Program} {w : World} {K : PySem.W.Frag} {mg : Str → Option Value} {base : Heap} (W : Wo P w K mg base) (cdv : Value) (A : Around) (outer : List Env) (s : Shared) (H : Hp) (F : Fm) (E : XK) (hr : Room 0 (A.deeper (envOfC "_law_belows" (defScope (top 91)) s.heap.objs.size (He.ga K "_law_belows") cdv))) :
    PSs (cxOf (L2.CX P w) P w K mg base N_law_belows "_law_belows" (defScope (top 91)) (He.ga K "_law_belows") cdv A outer s H E) (defBody (top 91)) (tRet (cK K F t_law_belows)) :=
  pss_one (ps_ret (PDK.pe (k_dict rfl rfl (W.free 12) (PDN.v (n_lc [("_law_name", 1), ("_law_kind", 2)] rfl sc_law_belows.nd (i_tup (d_var 0)) (blkOk_by (N := N_law_belows) (sc := defScope (top 91)) (by decide +kernel)) (by decide) (fun _ _ _ _ _ => (g_tup rfl (g_cons (g_nm 1 sc_law_belows.nd) (g_cons (g_nm 2 sc_law_belows.nd) g_nil)))) (fun _ _ _ _ _ => ts_nil) (fun _ _ _ _ _ => (d_tup (a_cons (d_var 1) (a_cons (d_ix (d_var 2) d_int (by intro _ _; rfl)) a_nil)))))))))
theorem p_law_belows : ∀ ds Q, T_law_belows ds Q → t_law_belows (startD N_law_belows.length ds) 0 (fun es _ => Q es) := by
  rintro ds Q ⟨h, rfl, hl, nd, hQ⟩
  have two : (2 : Nat) ≤ sizeLine := by rw [line_eq]; decide
  refine ⟨noOwn_by rfl, _, rfl, _, rfl, by rw [line_eq, List.length_map]; omega, ?_⟩
  refine lc_map itemD (fun p => .tuple [.str p.1, strsD p.2.below]) h (fun p hp => ⟨_, rfl, fun b Q q => ⟨_, rfl, _, rfl, _, atI_1 _, two, q⟩⟩) [] 0 _ ?_
  exact ⟨_, by rw [List.nil_append, List.map_map]; rfl, by rw [List.map_map]; exact nd, hQ⟩
theorem ok_law_belows {P : Program} {w : World} {K : PySem.W.Frag} {mg : Str → Option Value} {base : Heap} (W : Wo P w K mg base) : Cal P w K mg base 1 "_law_belows" (spK K T_law_belows) := by
  obtain ⟨fd, Fd⟩ := W.fun 44 91 (x := "_law_belows")
  exact fnK Fd (W.glo 89) sc_law_belows (by rintro ds Q ⟨h, rfl, _⟩; rfl) (fun _ _ _ _ _ _ us hl => match us, hl with | [_], _ => rfl) (fun cdv A outer s H F E hr => b_law_belows W cdv A outer s H F E hr) p_law_belows
end Wk
namespace Wk
open L2 RZ PyProof.Rows PySem.Spec PySem
/-! ### a dict whose keys are edges -/
def edKey (e : Ed) : NestedKey := .tup [.num e.a, .tup (e.asks.map NestedKey.text), .text e.deed, .num e.z]
theorem texts_inj : ∀ {xs ys : List Str}, xs.map NestedKey.text = ys.map NestedKey.text → xs = ys
  | [], [], _ => rfl
  | [], _ :: _, q => by simp at q
  | _ :: _, [], q => by simp at q
  | x :: xs, y :: ys, h => by
    simp only [List.map_cons, List.cons.injEq, NestedKey.text.injEq] at h
    rw [h.1, texts_inj h.2]
theorem edKey_inj {e f : Ed} (h : edKey e = edKey f) : e = f := by
  obtain ⟨a, b, c, d⟩ := e
  obtain ⟨a', b', c', d'⟩ := f
  simp only [edKey, NestedKey.tup.injEq, List.cons.injEq, NestedKey.num.injEq, NestedKey.text.injEq, and_true] at h
  obtain ⟨h1, h2, h3, h4⟩ := h
  rw [h1, texts_inj h2, h3, h4]
theorem texts_depth : ∀ xs : List Str, NestedKey.depthAll (xs.map NestedKey.text) = 0
  | [] => rfl
  | x :: xs => by simp [NestedKey.depthAll, NestedKey.depth, texts_depth xs]
theorem edKey_depth (e : Ed) : (edKey e).depth ≤ 8 := by
  simp [edKey, NestedKey.depth, NestedKey.depthAll, texts_depth]
section
variable {X : Cx} {pins : List (Addr × Obj)} {σ : L2.St} {H : Hp} {s : Shared} {K : PySem.W.Frag} {Mu : Addr → Prop}
theorem nested_texts {h : Heap} : ∀ {zs : List Str} {vs : List V} {us : List Value}, DqAll K Mu H vs (zs.map PyData.str) → Vals vs us → NestedAll h (zs.map NestedKey.text) us
  | [], _, _, q, r => by
    cases q
    cases r
    exact .nil
  | z :: zs, _, _, q, r => by
    cases q with
    | cons q1 q2 =>
      cases q1
      cases r with
      | cons r1 r2 =>
        obtain ⟨t, rfl⟩ := r1
        exact .cons (.text _ _) (nested_texts q2 r2)
theorem ed_nested (I : Inv X pins σ H s) {a : Addr} {e : Ed} (q : Dq X.K Mu H (.ref a) e.d) : NestedIs s.heap (edKey e) (.ref a) := by
  obtain ⟨a', xs, ea, hs, qs⟩ := q.tup_inv
  cases ea
  cases qs with
  | cons q1 qs =>
  cases qs with
  | cons q2 qs =>
  cases qs with
  | cons q3 qs =>
  cases qs with
  | cons q4 qs =>
  cases qs
  cases q1
  cases q3
  cases q4
  obtain ⟨c, ys, rfl, hc, qc⟩ := q2.tup_inv
  obtain ⟨its, rv, ⟨o, ho, hcl, n, hd⟩, hz⟩ := I.tuple hs.sq
  obtain ⟨its2, rv2, ⟨o2, ho2, hcl2, n2, hd2⟩, hz2⟩ := I.tuple hc.sq
  cases rv with
  | cons r1 rv =>
  cases rv with
  | cons r2 rv =>
  cases rv with
  | cons r3 rv =>
  cases rv with
  | cons r4 rv =>
  cases rv
  obtain ⟨t1, rfl⟩ := r1
  cases r2
  obtain ⟨t3, rfl⟩ := r3
  obtain ⟨t4, rfl⟩ := r4
  exact .tup ho hcl hd (.cons (.int _ _) (.cons (.tup ho2 hcl2 hd2 (nested_texts qc rv2)) (.cons (.text _ _) (.cons (.int _ _) .nil))))
end
/-- the entries: the edges, where their tuples stand; each holds True -/
abbrev entB (es : List (Ed × Addr)) : List (NestedKey × Addr × Value) := es.map fun p => (edKey p.1, p.2, .bool true)
def exD (P : Program) (w : World) (d : Addr) (es : List (Ed × Addr)) : HO := .ext fun h => (d == sysModules) = false ∧ ∃ o ts ep, h.get? d = some o ∧ o.ExactDict ∧ o.data = .dict ts ep ∧ ts.toList = (entB es).map (entryOfKey (nestedKind P w))
theorem exD_ok {P : Program} {w : World} {H : Hp} {h : Heap} {d : Addr} {es : List (Ed × Addr)} {o : Obj} {ts : Array DictEntry} {ep : Nat} (h1 : h.get? d = some o) (h2 : o.ExactDict) (h3 : o.data = .dict ts ep) (h4 : ts.toList = (entB es).map (entryOfKey (nestedKind P w))) (h5 : (d == sysModules) = false) : ObjOk P w H h d (exD P w d es) :=
  ⟨⟨h5, o, ts, ep, h1, h2, h3, h4⟩, ⟨o, h1⟩, fun g1 g2 ⟨z5, o', ts', ep', z1, z2, z3, z4⟩ k => ⟨z5, o', ts', ep', k _ z1, z2, z3, z4⟩⟩
theorem exD_at {P : Program} {w : World} {H : Hp} {h : Heap} {d : Addr} {es : List (Ed × Addr)} (hok : HOk P w H h) (he : H d = some (exD P w d es)) : (d == sysModules) = false ∧ ∃ o ts ep, h.get? d = some o ∧ o.ExactDict ∧ o.data = .dict ts ep ∧ ts.toList = (entB es).map (entryOfKey (nestedKind P w)) := by
  have x : ObjOk P w H h d (.ext fun h => (d == sysModules) = false ∧ ∃ o ts ep, h.get? d = some o ∧ o.ExactDict ∧ o.data = .dict ts ep ∧ ts.toList = (entB es).map (entryOfKey (nestedKind P w))) := hok d _ he
  exact x.1
/-- the keys stand, apart -/
structure EdKs (K : PySem.W.Frag) (Mu : Addr → Prop) (H : Hp) (es : List (Ed × Addr)) : Prop where
  d : ∀ p ∈ es, Dq K Mu H (.ref p.2) p.1.d
  nd : (es.map (·.1)).Nodup
theorem EdKs.exM {K : PySem.W.Frag} {Mu : Addr → Prop} {H H' : Hp} {es : List (Ed × Addr)} (h : EdKs K Mu H es) (e : ExM Mu H H') : EdKs K Mu H' es := ⟨fun p hp => (h.d p hp).exM e, h.nd⟩
theorem keys_nd {es : List (Ed × Addr)} (h : (es.map (·.1)).Nodup) : ((entB es).map (·.1)).Nodup := by
  have : (entB es).map (·.1) = (es.map (·.1)).map edKey := by simp [entB, Function.comp_def]
  rw [this]
  exact List.pairwise_map.mpr (h.imp fun hne z => hne (edKey_inj z))
def dictH {X : Cx} {pins : List (Addr × Obj)} {σ : L2.St} {H : Hp} {s : Shared} {Mu : Addr → Prop} {d : Addr} {es : List (Ed × Addr)} (I : Inv X pins σ H s) (he : H d = some (exD X.prog X.w d es)) (ks : EdKs X.K Mu H es) : s.heap.DictOfH (nestedKind X.prog X.w) d (entB es) := by
  obtain ⟨_, o, ts, ep, h1, h2, h3, h4⟩ := exD_at I.hok he
  refine ⟨o, ts, ep, h1, h2, h3, h4, fun x hx => ?_, keys_nd ks.nd⟩
  obtain ⟨p, hp, rfl⟩ := List.mem_map.mp hx
  exact ⟨ed_nested I (ks.d p hp), edKey_depth _⟩
def putE (es : List (Ed × Addr)) (e : Ed) (a : Addr) : List (Ed × Addr) := if (atKey (entB es) (edKey e)).isSome = true then es else es ++ [(e, a)]
theorem atE_iff (e : Ed) : ∀ es : List (Ed × Addr), (atKey (entB es) (edKey e)).isSome = true ↔ e ∈ es.map (·.1) := fun es => by
  induction es with
  | nil => simp [atKey]
  | cons p es ih =>
    by_cases h : p.1 = e
    · simp [atKey, entB, h]
    · have h2 : ¬ edKey p.1 = edKey e := fun z => h (edKey_inj z)
      have h3 : ¬ e = p.1 := fun z => h z.symm
      have : atKey (entB (p :: es)) (edKey e) = atKey (entB es) (edKey e) := by simp [atKey, entB, h2]
      rw [this, ih]
      simp [h3]
theorem putE_ent (es : List (Ed × Addr)) (e : Ed) (a : Addr) : storedH (entB es) (edKey e) a (.bool true) = entB (putE es e a) := by
  unfold storedH putE
  by_cases h : (atKey (entB es) (edKey e)).isSome = true
  · rw [if_pos h, if_pos h]
    have : ∀ x ∈ entB es, putAt (edKey e) (.bool true) x = x := fun x hx => by
      obtain ⟨p, _, rfl⟩ := List.mem_map.mp hx
      unfold putAt
      split <;> rfl
    exact (List.map_congr_left this).trans (List.map_id _)
  · rw [if_neg h, if_neg h]
    simp [entB]
theorem putE_len (es : List (Ed × Addr)) (e : Ed) (a : Addr) : (putE es e a).length ≤ es.length + 1 := by
  unfold putE
  split
  · omega
  · simp
theorem putE_mem {es : List (Ed × Addr)} {e : Ed} {a : Addr} {p : Ed × Addr} (h : p ∈ putE es e a) : p ∈ es ∨ p = (e, a) := by
  unfold putE at h
  split at h
  · exact .inl h
  · simpa using h
theorem EdKs.put {K : PySem.W.Frag} {Mu : Addr → Prop} {H : Hp} {es : List (Ed × Addr)} {e : Ed} {a : Addr} (h : EdKs K Mu H es) (q : Dq K Mu H (.ref a) e.d) : EdKs K Mu H (putE es e a) := by
  refine ⟨fun p hp => (putE_mem hp).elim (h.d p) (fun z => by rw [z]; exact q), ?_⟩
  unfold putE
  split
  · exact h.nd
  · rename_i hn
    have : e ∉ es.map (·.1) := fun z => hn ((atE_iff e es).mpr z)
    rw [List.map_append, List.nodup_append]; refine ⟨h.nd, by simp, fun x hx y hy => ?_⟩
    simp only [List.map_cons, List.map_nil, List.mem_singleton] at hy; rw [hy]
    exact fun z => this (by rw [← z]; exact hx)
/-! ### readings and rules -/
section
variable {X : Cx} {te td : TE} {tas : TAD} {F : Fm} {e : Expr} {p pos pos' : Pos}
def tEdNew (P : Program) (w : World) : TE := fun _ H Q => ∀ p, H p = none → Q (.ref p) (upd H p (exD P w p []))
theorem pe_edNew : PE X (.Dict [] [] pos) (tEdNew X.prog X.w) := ⟨fun pins s σ H Q I h =>
  wpAny_Dict_empty ⟨.ref s.heap.objs.size, _, I.laid (a := s.heap.objs.size) (o := exD X.prog X.w s.heap.objs.size []) (t' := s.toks) (fun _ _ q => Heap.get?_push_of_some _ q) (Nat.le_refl _) (exD_ok (ts := #[]) (ep := 0) (Heap.get?_push_size _ rfl) ⟨rfl, rfl, rfl⟩ rfl rfl (beq_eq_false_iff_ne.mpr (Ne.symm (Nat.ne_of_lt I.big)))), rfl, h _ (I.hok.fresh (Nat.le_refl _))⟩⟩
/-- d[an edge] = True -/
def sEdPut (K : PySem.W.Frag) (P : Program) (w : World) (td te : TE) : TS := fun D σ H => td σ H fun x H1 => te σ H1 fun y H2 => ∃ (Mu : Addr → Prop) (d a : Addr) (ed : Ed) (es : List (Ed × Addr)), x = .ref d ∧ y = .ref a ∧ Dq K Mu H2 (.ref a) ed.d ∧ H2 d = some (exD P w d es) ∧ EdKs K Mu H2 es ∧ es.length ≤ 1000 ∧
  D.nx σ (upd H2 d (exD P w d (putE es ed a)))
theorem ps_edPut {o i : Expr} {j : Nat} (hu : X.A.units + 64 < cLine) (ho : PE X o td) (hi : PE X i te) (hs : swapsWith (.Constant (.bool true) j p) (some (.Subscript o i pos')) pos.line X.env = pure false := by rfl) :
    PS X (.Assign [.Subscript o i pos'] (.Constant (.bool true) j p) pos) (sEdPut X.K X.prog X.w td te) := by
  refine ⟨fun pins s σ H D I h => ?_⟩; refine wpAny_Assign_Subscript (thn ((pe_bl (X := X)).run pins s σ H (fun v H' => v = .bl true ∧ H' = H) I ⟨rfl, rfl⟩) fun r s1 ⟨v, H0, I1, rv, e1, e2⟩ => ?_) hs
  subst e1
  rw [e2] at I1
  obtain rfl : r = Value.bool true := rv
  refine thn (ho.run pins s1 σ H _ I1 h) fun u s2 ⟨x, H1, I2, rx, q2⟩ => thn (hi.run pins s2 σ H1 _ I2 q2) fun iv s3 ⟨y, H2, I3, ry, Mu, d, a, ed, es, ex, ey, qa, hd, ks, hl, q3⟩ => ?_
  subst ex
  subst ey
  obtain rfl : u = Value.ref d := rx; obtain rfl : iv = Value.ref a := ry
  have hkey : (nestedKind X.prog X.w).is s3.heap (edKey ed) a := ⟨ed_nested I3 qa, edKey_depth _⟩
  refine wpAny_setItem_heap (xs := entB es) (knd := nestedKind X.prog X.w) (show X.A.in1.units + 8 < cLine by simp [Around.in1]; omega) hkey (dictH I3 hd ks) (fun h' hm' hsb => ?_) (hsz := by simp [entB, sizeLine_eq]; omega)
  rw [putE_ent] at hm'
  obtain ⟨o', ts', ep', z1, z2, z3, z4, _⟩ := hm'
  have J := I3.write (t' := s3.toks + (nestedKind X.prog X.w).draws (edKey ed)) (x := d) (e := d) (o := exD X.prog X.w d (putE es ed a)) (by rw [hd]; exact True.intro) (.inl rfl) (fun b u hb z => (hsb.2 b hb).trans z) ⟨_, z1⟩ (exD_ok z1 z2 z3 z4 (exD_at I3.hok hd).1)
  exact ⟨σ, _, J, q3⟩
end
end Wk
namespace Wk
open L2 RZ PyProof.Rows PySem.Spec PySem
abbrev refsE (es : List (Ed × Addr)) : List V := es.map fun p => V.ref p.2
def rListE (P : Program) (w : World) : List V → Hp → VK → Prop := fun xs H Q => ∃ (d : Addr) (es : List (Ed × Addr)), xs = [V.ref d] ∧ H d = some (exD P w d es) ∧ es.length ≤ 1000 ∧ ∀ p, H p = none → Q (.ref p) (upd H p (.lst (refsE es)))
theorem vals_refs0 : ∀ bs : List Addr, Vals (bs.map V.ref) (bs.map Value.ref)
  | [] => .nil
  | _ :: r => .cons rfl (vals_refs0 r)
theorem call_listE {X : Cx} (hc : X.calm = true) : CallR X (.type "list") (rListE X.prog X.w) := by
  intro pins s σ H xs us Q I r h; obtain ⟨d, es, rfl, hd, hl, q⟩ := h
  obtain ⟨u, rfl, rx⟩ := r.one
  cases rx
  obtain ⟨lo, o, ts, ep, ho, hx, hdt, he⟩ := exD_at I.hok hd
  have l1 : ts.size = es.length := by
    have := congrArg List.length he
    simpa [entB] using this
  refine PySem.W.kdl_call (kdl_raw lo hx hdt) (I.ok.hd hc) ho (by rw [l1, sizeLine_eq]; omega) fun h' tk acc' c' kp e it => ?_
  have ea : acc'.toList = (es.map (·.2)).map Value.ref := by
    have hlen : acc'.toList.length = es.length := by rw [Array.length_toList, it.1]; exact l1
    apply List.ext_getElem?
    intro j
    rw [List.map_map, List.getElem?_map]
    cases ej : acc'.toList[j]? with
    | none =>
      have h1 := List.getElem?_eq_none_iff.mp ej; rw [List.getElem?_eq_none (by omega)]
      all_goals rfl
    | some v =>
      obtain ⟨en, hen, hv⟩ := it.2 j v (by rw [← Array.getElem?_toList]; exact ej)
      have qe : ts[j]? = ((entB es)[j]?).map (entryOfKey (nestedKind X.prog X.w)) := entry_at he j
      rw [hen] at qe
      cases hb : es[j]? with
      | none =>
        have : (entB es)[j]? = none := by simp [entB, hb]
        rw [this] at qe; exact nomatch (show some en = none from qe)
      | some b =>
        have : (entB es)[j]? = some (edKey b.1, b.2, .bool true) := by simp [entB, hb]
        rw [this] at qe
        have e2 : en = entryOfKey (nestedKind X.prog X.w) (edKey b.1, b.2, .bool true) := Option.some.inj qe
        rw [hv, e2]
        all_goals rfl
  have rv : Vals (refsE es) acc'.toList := by
    rw [ea]
    have := vals_refs0 (es.map (·.2))
    rwa [List.map_map] at this
  have hz : (refsE es).length ≤ sizeLine := by rw [List.length_map, sizeLine_eq]; omega
  refine ⟨.ref s.heap.objs.size, _, I.laid (t' := tk) (o := .lst (refsE es)) kp (Nat.le_refl _) ?_, rfl, q _ (I.hok.fresh (Nat.le_refl _))⟩; exact ⟨hz, acc'.toList, c', rv, by rw [Array.toArray_toList]; exact e⟩
/-! sorted -/
abbrev leE : Ed × Addr → Ed × Addr → Bool := PySem.W.dataLe false fun p : Ed × Addr => p.1.d
def rSortE (K : PySem.W.Frag) : List V → Hp → VK → Prop := fun xs H Q => ∃ (Mu : Addr → Prop) (l : Addr) (es : List (Ed × Addr)), xs = [V.ref l] ∧ SqL K H l (refsE es) ∧ EdKs K Mu H es ∧ es.length ≤ 1000 ∧ ∀ p, H p = none → Q (.ref p) (upd H p (.lst (refsE (es.mergeSort leE))))
theorem ed_deep (e : Ed) : e.d.depth ≤ 2 := by
  have flat : ∀ zs : List Str, PyData.depthAll (zs.map PyData.str) = 0 := fun zs => by
    induction zs with
    | nil => rfl
    | cons z zs ih => simp [PyData.depthAll, PyData.depth, ih]
  simp [Ed.d, strsD, PyData.depth, PyData.depthAll, flat]
theorem each_of {R : Value → Ed × Addr → Prop} : ∀ {es : List (Ed × Addr)} {us : List Value}, Vals (refsE es) us → (∀ p ∈ es, R (.ref p.2) p) → PySem.W.EachIs R us es
  | [], _, r, _ => by cases r; exact .nil
  | p :: es, _, r, h => by
    cases r with
    | cons r1 r2 =>
      cases r1
      exact .cons (h p (by simp)) (each_of r2 fun q hq => h q (by simp [hq]))
theorem each_refs : ∀ {es : List (Ed × Addr)} {us : List Value}, PySem.W.EachIs (fun v (p : Ed × Addr) => v = .ref p.2) us es → Vals (refsE es) us
  | [], _, h => by cases h; exact .nil
  | p :: es, _, h => by
    cases h with
    | cons h1 h2 => subst h1; exact .cons rfl (each_refs h2)
theorem call_sortE {X : Cx} (hu : X.A.units + 64 < cLine) : CallR X (.builtin "sorted") (rSortE X.K) := by
  intro pins s σ H vs us Q I r h; obtain ⟨Mu, l, es, rfl, hs, ks, hl, q⟩ := h
  obtain ⟨its, rv, hlist, _⟩ := I.list hs
  rw [Vals.ref1 r]
  have e1 : PySem.W.EachIs (fun v (p : Ed × Addr) => v = .ref p.2) its es := each_of rv fun p _ => rfl
  have e2 : PySem.W.EachIs (fun v (p : Ed × Addr) => ∃ as, Reads s.heap v p.1.d as) its es := each_of rv fun p hp => by
    obtain ⟨as, ra⟩ := L2.Dp.reads I _ _ (.ref p.2) (ks.d p hp).dp (show L2.RelV (.ref p.2) (.ref p.2) from rfl)
    exact ⟨as, ra⟩
  refine PySem.W.sorted_data (enc := fun p : Ed × Addr => p.1.d) hlist.isList e1 e2 (PySem.W.AllAlike.of fun b b' => alike_ed b.1 b'.1) (PySem.W.Sortable.tuples fun b => ⟨_, _, rfl⟩) (by rw [sizeLine_eq]; omega) (fun b _ => by have := ed_deep b.1; omega) fun out ho eo => ?_
  obtain ⟨ep, he'⟩ := PyProof.Rows.sortedAll_at s.heap its out.toArray; have hlen : (refsE (es.mergeSort leE)).length ≤ sizeLine := by rw [List.length_map, List.length_mergeSort, sizeLine_eq]; omega
  refine ⟨.ref _, upd H (s.heap.objs.size + 1) (.lst (refsE (es.mergeSort leE))), I.laid (t' := s.toks) (fun _ _ => PyProof.Rows.sortedAll_old) (Nat.le_succ _) ⟨hlen, out, ep, each_refs eo, ?_⟩, rfl, q _ (I.hok.fresh (Nat.le_succ _))⟩
  simpa using he'
end Wk
namespace Wk
open L2 RZ PyProof.Rows PySem.Spec PySem
theorem strs_eqv : ∀ {xs ys : List Str}, PyData.eqvAll (xs.map PyData.str) (ys.map PyData.str) = true → xs = ys
  | [], [], _ => rfl
  | [], _ :: _, h => by simp [PyData.eqvAll] at h
  | _ :: _, [], h => by simp [PyData.eqvAll] at h
  | x :: xs, y :: ys, h => by
    simp only [List.map_cons, PyData.eqvAll, Bool.and_eq_true, PyData.eqv, decide_eq_true_eq, beq_iff_eq] at h
    rw [h.1, strs_eqv h.2]
theorem ed_eqv {e f : Ed} (h : PyData.eqv e.d f.d = true) : e = f := by
  obtain ⟨a, b, c, d⟩ := e
  obtain ⟨a', b', c', d'⟩ := f
  simp only [Ed.d, strsD, PyData.eqv, PyData.eqvAll, Bool.and_eq_true, decide_eq_true_eq, beq_iff_eq, and_true] at h
  obtain ⟨h1, h2, h3, h4⟩ := h
  rw [h1, strs_eqv h2, h3, h4]
theorem ltE_tot {e f : Ed} (h1 : ltE e f = false) (h2 : ltE f e = false) : e = f := by
  have ht : PySem.W.keyToks e.d = PySem.W.keyToks f.d := (PyProof.Rows.listOrd PyProof.Rows.itemOrd).total _ _ h1 h2
  have ha := alike_ed e f
  refine ed_eqv ?_
  cases hq : PyData.eqv e.d f.d with
  | true => rfl
  | false =>
    have key := (PySem.W.toks_eqv e.d f.d ha).2 hq [.inl 0] [.inl 1]
    rw [ht] at key
    rw [PySem.W.lex_pre] at key
    have k1 : PyProof.Rows.lexLt PyProof.Rows.itemOrd (PySem.W.keyToks f.d) (PySem.W.keyToks f.d) = false := PyProof.Rows.lex_irrefl _
    rw [k1] at key
    exact absurd key (by decide)
theorem leE_iff (p q : Ed × Addr) : leE p q = !ltE q.1 p.1 := rfl
theorem sort_pair (es : List (Ed × Addr)) : (es.mergeSort leE).Pairwise fun a b => leE a b = true := by
  have T := PySem.W.sortLe_total (PyProof.Rows.listOrd PyProof.Rows.itemOrd) false fun p : Ed × Addr => PySem.W.keyToks p.1.d
  exact List.pairwise_mergeSort (fun a b c => T.trans a b c) (fun a b => by rw [Bool.or_eq_true]; exact T.total a b) es
theorem asc_of : ∀ {es : List (Ed × Addr)}, es.Pairwise (fun a b => leE a b = true) → (es.map (·.1)).Nodup → asc ltE (es.map (·.1)) = true
  | [], _, _ => rfl
  | [_], _, _ => rfl
  | p :: q :: r, h, nd => by
    rw [List.pairwise_cons] at h
    simp only [List.map_cons, List.nodup_cons] at nd
    show (ltE p.1 q.1 && asc ltE (q.1 :: r.map (·.1))) = true
    have h1 := h.1 q (by simp)
    rw [leE_iff, Bool.not_eq_true'] at h1
    have h2 : ltE p.1 q.1 = true := by
      cases hl : ltE p.1 q.1 with
      | true => rfl
      | false => exact absurd (ltE_tot hl h1) (fun z => nd.1 (by rw [z]; simp))
    rw [h2, Bool.true_and]
    exact asc_of (es := q :: r) h.2 (by simpa using nd.2)
theorem sort_asc {es : List (Ed × Addr)} (nd : (es.map (·.1)).Nodup) : asc ltE ((es.mergeSort leE).map (·.1)) = true :=
  asc_of (sort_pair es) ((((List.mergeSort_perm es leE).map (·.1)).nodup_iff).mpr nd)
end Wk
namespace Wk
open L2 RZ PyProof.Rows PySem.Spec PySem
section
variable {K : PySem.W.Frag} {P : Program} {w : World} {F : Fm} {Mu : Addr → Prop} {σ σ' : L2.St} {H H' : Hp} {δ δ' : List Sl} {b b' : Nat} {d m : Addr} {es : List (Ed × Addr)}
theorem Rep.putX (R : Rep K F Mu σ H δ b) (hn : free1 δ) {o : HO} (ml : Mu d) (nl : ¬ F.N0 d) : Rep K F Mu σ (upd H d o) δ b := by
  have e : ExM Mu H (upd H d o) := ExM.at ml
  have h0 : F.H0 d = none := (R.new d ml).resolve_left nl
  refine ⟨R.len, fun a u n q => ?_, R.mu0, fun a z => ?_, R.new, fun i s hs => ?_, R.own1, fun m' q => ?_⟩
  · rw [upd_ne (fun ea => by rw [ea, h0] at q; cases q)]
    exact R.ext a u n q
  · by_cases ea : a = d
    · subst ea; rw [upd_same]; simp
    · rw [upd_ne ea]; exact R.tr a z
  · have := R.sl i s hs
    cases s with
    | no => trivial
    | raw w => exact this
    | dat d => obtain ⟨w, z1, z2⟩ := this; exact ⟨w, z1, z2.exM e⟩
    | sta P => obtain ⟨w, z1, z2, z3⟩ := this; exact ⟨w, z1, z2, z2.ex _ _ _ _ z3 e⟩
    | own ds => exact absurd hs (hn i ds)
  · obtain ⟨z1, z2⟩ := R.mach m' q
    have ne : m' ≠ d := fun em => nl (by rw [← em]; exact z1)
    exact ⟨z1, z2.exM e (upd_ne ne)⟩
/-- a dict of edges in hand, its name at slot j -/
structure EdSt (P : Program) (w : World) (K : PySem.W.Frag) (F : Fm) (j : Nat) (d : Addr) (Mu : Addr → Prop) (σ : L2.St) (H : Hp) (δ : List Sl) (b : Nat) (es : List (Ed × Addr)) : Prop where
  R : Rep K F Mu σ H δ b
  sl : δ[j]? = some (.raw (.ref d))
  no : free1 δ
  md : Mu d
  nd : ¬ F.N0 d
  d : H d = some (exD P w d es)
  ks : EdKs K Mu H es
theorem EdSt.nm {j : Nat} (S : EdSt P w K F j d Mu σ H δ b es) : F.m ≠ some d := fun z => S.nd (S.R.mach d z).1
theorem EdSt.ex {j : Nat} (S : EdSt P w K F j d Mu σ H δ b es) (R : Rep K F Mu σ H' δ b') (e : ExB F Mu H H') : EdSt P w K F j d Mu σ H' δ b' es :=
  ⟨R, S.sl, S.no, S.md, S.nd, e.1 d _ S.nm S.d, S.ks.exM e.2⟩
theorem EdSt.slots {j : Nat} (S : EdSt P w K F j d Mu σ H δ b es) (R : Rep K F Mu σ' H δ' b) (h1 : δ'[j]? = some (.raw (.ref d))) (h2 : free1 δ') : EdSt P w K F j d Mu σ' H δ' b es :=
  ⟨R, h1, h2, S.md, S.nd, S.d, S.ks⟩
theorem EdSt.put {j : Nat} (S : EdSt P w K F j d Mu σ H δ b es) {a : Addr} {e : Ed} (q : Dq K Mu H (.ref a) e.d) : EdSt P w K F j d Mu σ (upd H d (exD P w d (putE es e a))) δ b (putE es e a) :=
  ⟨S.R.putX S.no S.md S.nd, S.sl, S.no, S.md, S.nd, upd_same, (S.ks.put q).exM (ExM.at S.md)⟩
/-- for .. in ..: d[an edge] = True -/
theorem ed_for {j i : Nat} (hij : i ≠ j) {src : TAD} {tk : TD} {D : Ends} {Pe : Ed → Prop} {n c : Nat} (S : EdSt P w K F j d Mu σ H δ b es) (hl : es.length + n ≤ 1000) (hP : ∀ p ∈ es, Pe p.1)
    (hsrc : src δ b fun ds b1 => b1 ≤ b + 1 ∧ ∃ k : Nat, k ≤ n ∧ ds = rangeD 0 k ∧
      ∀ δ' (x : Nat) b2, x < k → (∀ y, y ≠ i → δ'[y]? = δ[y]?) → δ'[i]? = some (.dat (.int (x : Int))) → b2 ≤ b + 1 + c * n → tk δ' b2 fun dd b3 => b3 ≤ b2 + c ∧ ∃ e : Ed, dd = e.d ∧ Pe e)
    (hi : i < δ.length)
    (k : ∀ Mu' σ' H' δ' b' es', EdSt P w K F j d Mu' σ' H' δ' b' es' → es'.length ≤ es.length + n → (∀ p ∈ es', Pe p.1) → b' ≤ b + 1 + c * n → δ'.length = δ.length → (∀ y, y ≠ i → δ'[y]? = δ[y]?) → D.nx σ' H') :
    tFor (cI K F src) (cG K F (.nm i)) (sEdPut K P w (tVar j) (cE K F tk)) D σ H := by
  refine ⟨Mu, δ, b, _, S.R, hsrc, fun J H1 ds G b1 R1 e1 g1 wk ⟨hb1, kk, hkn, eds, turn⟩ => ?_⟩
  subst eds
  have S1 := S.ex R1 e1
  have hlen : (rangeD 0 kk).length = kk := by simp [rangeD]
  refine ⟨fun x mm σ2 H2 => mm = kk - x ∧ x ≤ kk ∧ ∃ δ2 b2 es2, EdSt P w K F j d Mu σ2 H2 δ2 b2 es2 ∧ G Mu H2 ∧ es2.length ≤ es.length + x ∧ (∀ p ∈ es2, Pe p.1) ∧ b2 ≤ b + 1 + c * x ∧ δ2.length = δ.length ∧ ∀ y, y ≠ i → δ2[y]? = δ[y]?,
    ⟨_, rfl, Nat.zero_le _, δ, b1, es, S1, g1, Nat.le_refl _, hP, by omega, rfl, fun _ _ => rfl⟩, ?_⟩
  rintro x mm σ2 H2 ⟨em, hx, δ2, b2, es2, S2, g2, l2, p2, bb, ll, yy⟩
  by_cases hlt : x < kk
  · refine .inr ⟨wk.go _ _ _ g2 (by rw [hlen]; exact hlt), fun σ' H' => x + 1 ≤ kk ∧ ∃ δ2 b2 es2, EdSt P w K F j d Mu σ' H' δ2 b2 es2 ∧ G Mu H' ∧ es2.length ≤ es.length + (x + 1) ∧ (∀ p ∈ es2, Pe p.1) ∧ b2 ≤ b + 1 + c * (x + 1) ∧ δ2.length = δ.length ∧ ∀ y, y ≠ i → δ2[y]? = δ[y]?,
      fun σ' H' z => ⟨kk - (x + 1), by omega, rfl, z⟩, fun v H3 hy => ?_⟩
    obtain ⟨keep, dd, hd, qx⟩ := wk.yld _ _ _ _ _ g2 S2.R.tr (by rw [hlen]; exact hlt) hy
    have ed : dd = .int (x : Int) := by
      simp [rangeD, hlt] at hd
      exact hd.symm
    subst ed
    have S3 := S2.ex (S2.R.grow keep) (ExB.all keep)
    refine ⟨Mu, δ2, b2, _, _, S3.R, qx, rfl, fun σ4 R4 _ => ?_⟩
    have S4 := S3.slots R4 (by rw [List.getElem?_set_ne hij]; exact S3.sl) (S3.no.set (by intro _ z; cases z))
    have cx : c * x ≤ c * n := Nat.mul_le_mul_left c (by omega)
    have hk := turn (δ2.set i (.dat (.int (x : Int)))) x b2 hlt (fun y hy => by rw [List.getElem?_set_ne (Ne.symm hy)]; exact yy y hy) (by rw [List.getElem?_set, if_pos rfl, if_pos (by omega)]) (by omega)
    refine ⟨_, S4.R.sl j _ S4.sl, cE.go S4.R hk fun y H5 dz b5 R5 e5 q5 ⟨hb5, e, ez, he⟩ => ?_⟩
    subst ez
    have S5 := S4.ex R5 e5
    obtain ⟨a, xs, rfl, _, _⟩ := q5.tup_inv
    refine ⟨Mu, d, a, e, es2, rfl, rfl, q5, S5.d, S5.ks, by omega, hlt, _, b5, _, S5.put q5, ?_, ?_, ?_, ?_, ?_, ?_⟩
    · exact wk.ex _ _ _ (wk.ex _ _ _ (wk.ex _ _ _ g2 (ExM.keep keep)) e5.2) (ExM.at S5.md)
    · have := putE_len es2 e a; omega
    · intro p hp
      rcases putE_mem hp with hp | rfl
      · exact p2 p hp
      · exact he
    · have : c * (x + 1) = c * x + c := Nat.mul_succ c x
      omega
    · simp [ll]
    · intro y hy
      rw [List.getElem?_set_ne (Ne.symm hy)]; exact yy y hy
  · have e : x = kk := by omega
    subst e
    have cx : c * x ≤ c * n := Nat.mul_le_mul_left c hkn
    refine .inl ⟨by have := wk.stop _ _ g2; rwa [hlen] at this, k Mu σ2 H2 δ2 b2 es2 S2 (by omega) p2 (by omega) ll yy⟩
end
end Wk
namespace Wk
open L2 RZ PyProof.Rows PySem.Spec PySem
abbrev N_law_book : List Str := ["_law_m", "_law_stands", "_law_most", "_law_here", "_law_again", "_law_up", "_law_deaf", "_law_many", "_law_edges", "_law_stand"]
theorem sc_law_book : FnScope N_law_book ["_law_m", "_law_stands", "_law_most"] (defScope (top 88)) := ⟨rfl, rfl, rfl, by decide +kernel, rfl, by decide +kernel, by decide +kernel⟩
theorem free_startM {m : Addr} {n : Nat} {ds : List PyData} : free1 (startM m n ds) := fun i es h => by
  have := List.mem_of_getElem? h
  simp [startM, startD] at this
theorem rt_go {K : PySem.W.Frag} {Fr : Fm} {Mu Mu1 : Addr → Prop} {σ : L2.St} {H H' : Hp} {δ : List Sl} {b : Nat} {m : Addr} (hF : Fr = ⟨H, Mu, some m⟩) (R : Rep K Fr Mu1 σ H' δ b) {v : V} {d : PyData} (q : Dq K Mu1 H' v d) : (∀ a o, a ≠ m → H a = some o → H' a = some o) ∧ MOk K Mu H' m b ∧ Dq K Mu H' v d := by
  subst hF
  exact ⟨fun a o n z => R.ext a o (fun e => n (Option.some.inj e).symm) z, (R.mach m rfl).2.mu fun a z => .inl (R.mu0 a z), q.mu fun a z => .inl (R.mu0 a z)⟩
theorem asc_range (lo : Int) : ∀ (n s : Nat), ascI ((List.range' s n).map fun i => lo + (i : Nat)) = true
  | 0, _ => rfl
  | 1, _ => rfl
  | n + 2, s => by
    have ih := asc_range lo (n + 1) (s + 1)
    simp only [List.range'_succ, List.map_cons, Nat.add_assoc] at ih ⊢
    show (ltI _ _ && ascI _) = true
    rw [Bool.and_eq_true]
    refine ⟨?_, ih⟩
    simp only [ltI, decide_eq_true_eq]
    omega
theorem ascI_sub : ∀ {ys zs : List Int}, ascI zs = true → ys.Sublist zs → ascI ys = true := by
  have pw : ∀ {zs : List Int}, ascI zs = true → zs.Pairwise (· < ·) := fun {zs} => by
    induction zs with
    | nil => intro _; exact .nil
    | cons z zs ih =>
      intro h
      cases zs with
      | nil => simp
      | cons y r =>
        have h' : (ltI z y && ascI (y :: r)) = true := h
        rw [Bool.and_eq_true] at h'
        have ih' := ih h'.2
        rw [List.pairwise_cons]
        have hzy : z < y := by simpa [ltI] using h'.1
        refine ⟨fun x hx => ?_, ih'⟩; rcases List.mem_cons.mp hx with rfl | hx
        · exact hzy
        · exact Int.lt_trans hzy ((List.pairwise_cons.mp ih').1 x hx)
  have wp : ∀ {ys : List Int}, ys.Pairwise (· < ·) → ascI ys = true := fun {ys} => by
    induction ys with
    | nil => intro _; rfl
    | cons y ys ih =>
      intro h
      rw [List.pairwise_cons] at h
      cases ys with
      | nil => rfl
      | cons x r =>
        show (ltI y x && ascI (x :: r)) = true
        rw [ih h.2, Bool.and_true]
        simpa [ltI] using h.1 x (by simp)
  intro ys zs h hs
  exact wp ((pw h).sublist hs)
end Wk
namespace Wk
open L2 RZ PyProof.Rows PySem.Spec PySem
/-- an edge as it is drawn for n stands -/
def drawnE (n : Nat) (e : Ed) : Prop := e.asks ∈ asksMenu ∧ e.deed ∈ deedMenu ∧ wholeI e.a 0 ((n : Int) - 1) = true ∧ wholeI e.z 0 ((n : Int) - 1) = true
theorem refs_dq {K : PySem.W.Frag} {Mu : Addr → Prop} {H : Hp} : ∀ {es : List (Ed × Addr)}, (∀ p ∈ es, Dq K Mu H (.ref p.2) p.1.d) → DqAll K Mu H (refsE es) ((es.map (·.1)).map Ed.d)
  | [], _ => .nil
  | p :: es, h => .cons (h p (by simp)) (refs_dq fun q hq => h q (by simp [hq]))
theorem range_asc (lo : Int) (n : Nat) : ascI ((List.range n).map fun (i : Nat) => lo + (i : Nat)) = true := by
  rw [List.range_eq_range']
  exact asc_range lo n 0
theorem ok_law_book {P : Program} {w : World} {K : PySem.W.Frag} {mg : Str → Option Value} {base : Heap} (W : Wo P w K mg base) (c_law_edge : Cal P w K mg base 4 "_law_edge" (spM K T_law_edge)) (c_law_draw : Cal P w K mg base 4 "_law_draw" (spM K T_law_draw)) : Cal P w K mg base 5 "_law_book" (spM K T_law_book) := by
  obtain ⟨fd, Fd⟩ := W.fun 41 88 (x := "_law_book")
  refine ⟨W.glo 86, Fd.kp, fd, ["_law_m", "_law_stands", "_law_most"], Fd.ok sc_law_book (fun vs H Q E z => ?_) (fun cdv A outer s H vs Q E hr z => ?_), Fd.bindsN (fun _ _ _ _ _ _ us hl => match us, hl with | [_, _, _], _ => rfl)⟩
  · obtain ⟨Mu, m, ws, ds, b, Q', rfl, _, _, _, q, ⟨rfl, _⟩, _⟩ := z
    simp [q.length]
  obtain ⟨Mu, m, ws, ds, b, Q', rfl, mm, tr, mk, q, ⟨rfl, hb, hQ⟩, k'⟩ := z
  have R0 : Rep K ⟨H, Mu, some m⟩ Mu (L2.start N_law_book (.ref m :: ws)) H (startM m N_law_book.length [.int 6, .int 8]) b := start_repM tr mm mk q (by simp)
  have hdm : drawsMax = 1000000 := rfl
  refine ⟨_, pss_cons (ps_par rfl sc_law_book.nd (i := 7) (j := 8) rfl rfl (by decide) rfl rfl (pa_cons (PD.pe (F := ⟨H, Mu, some m⟩) (d_add d_int (d_callM 0 c_law_draw hr (a_cons (d_var 1) a_nil)))) (pa_cons pe_edNew pa_nil)) (by rfl) (by rfl))
    (pss_cons (ps_for (passes_of rfl) rfl (PID.pi (F := ⟨H, Mu, some m⟩) (i_range1 rfl (W.free 5) (d_sub (d_var 7) d_int))) (PGD.pg (F := ⟨H, Mu, some m⟩) (g_nm 3 sc_law_book.nd)) (pss_one (ps_edPut hr.units (pe_var (i := 8) rfl (Or.inl rfl)) (PD.pe (F := ⟨H, Mu, some m⟩) (d_callM 0 c_law_edge hr (a_cons (d_var 3) (a_cons (d_add (d_var 3) d_int) a_nil)))))))
    (pss_cons (ps_for (passes_of rfl) rfl (PID.pi (F := ⟨H, Mu, some m⟩) (i_range1 rfl (W.free 5) (d_callM 0 c_law_draw hr (a_cons (d_add (d_var 2) d_int) a_nil)))) (PGD.pg (F := ⟨H, Mu, some m⟩) (g_nm 4 sc_law_book.nd)) (pss_one (ps_edPut hr.units (pe_var (i := 8) rfl (Or.inl rfl)) (PD.pe (F := ⟨H, Mu, some m⟩) (d_callM 0 c_law_edge hr (a_cons (d_callM 0 c_law_draw hr (a_cons (d_var 7) a_nil)) (a_cons (d_callM 0 c_law_draw hr (a_cons (d_var 7) a_nil)) a_nil)))))))
    (pss_cons (ps_set sc_law_book.nd (i := 5) rfl (Or.inl rfl) (PD.pe (F := ⟨H, Mu, some m⟩) (d_tuple rfl (W.free 9) (PDN.v (n_lc [("_law_stand", 9)] rfl sc_law_book.nd (i_range2 rfl (W.free 5) d_int (d_var 7)) (blkOk_by (N := N_law_book) (sc := defScope (top 88)) (by decide +kernel)) (by decide) (fun _ _ _ _ _ => (g_nm 9 sc_law_book.nd)) (fun _ _ _ _ _ => (ts_one (d_eqT hr.units (d_callM 0 c_law_draw hr (a_cons d_int a_nil)) d_int))) (fun _ _ _ _ _ => (d_var 9)))))))
    (pss_cons (ps_set sc_law_book.nd (i := 6) rfl (Or.inl rfl) (PD.pe (F := ⟨H, Mu, some m⟩) (d_tuple rfl (W.free 9) (PDN.v (n_lc [("_law_stand", 9)] rfl sc_law_book.nd (i_range1 rfl (W.free 5) (d_var 7)) (blkOk_by (N := N_law_book) (sc := defScope (top 88)) (by decide +kernel)) (by decide) (fun _ _ _ _ _ => (g_nm 9 sc_law_book.nd)) (fun _ _ _ _ _ => (ts_one (d_eqT hr.units (d_callM 0 c_law_draw hr (a_cons d_int a_nil)) d_int))) (fun _ _ _ _ _ => (d_var 9)))))))
    (pss_one (ps_ret (pe_tup (pa_cons (PD.pe (F := ⟨H, Mu, some m⟩) (d_var 7)) (pa_cons (PD.pe (F := ⟨H, Mu, some m⟩) (d_var 5)) (pa_cons (PD.pe (F := ⟨H, Mu, some m⟩) (d_var 6)) (pa_cons (pe_oneT call_tuple_of rfl (W.free 9) boot_tuple (pe_one1 (call_sortE hr.units) rfl (W.free 11) boot_sorted (pe_oneT (call_listE rfl) rfl (W.free 10) boot_list (pe_var (i := 8) rfl (Or.inl rfl))))) pa_nil)))))))))))  , ?_⟩
  have menu : ∀ (n : Nat) (x y : Int) (zs : List Str) (dd : Str), zs ∈ asksMenu → dd ∈ deedMenu → 0 ≤ x → x < n → 0 ≤ y → y < n → drawnE n (Ed.mk x zs dd y) := fun n x y zs dd h1 h2 a0 a1 b0 b1 => ⟨h1, h2, whole_iff.mpr ⟨a0, by show x ≤ (n : Int) - 1; omega⟩, whole_iff.mpr ⟨b0, by show y ≤ (n : Int) - 1; omega⟩⟩
  -- the number of stands
  refine cE.go (Q' := fun d b' => ∃ n : Nat, 1 ≤ n ∧ n ≤ 6 ∧ d = .int (n : Int) ∧ b' = b + 1) R0 ⟨⟨m, rfl, rfl⟩, _, rfl, 6, rfl, by decide, by decide, by omega, fun r r0 r1 => ⟨_, rfl, (1 + r).toNat, by omega, by omega, by congr 1; omega, rfl⟩⟩ ?_
  rintro v H1 d b1 R1 e1 q1 ⟨n, n1, n6, rfl, rfl⟩
  intro p hp
  refine ⟨v, .ref p, rfl, ?_⟩
  have R2 := ((R1.more (o := exD P w p []) hp).set (i := 7) (q1.mu (Mu' := fun a => Mu a ∨ a = p) (fun a z => z.imp id fun z => by rw [z]; exact hp) |>.exM (ExM.at (.inr rfl)))).fill (i := 8) (v := .ref p) (s := .raw (.ref p)) rfl
  have S0 : EdSt P w K ⟨H, Mu, some m⟩ 8 p (fun a => Mu a ∨ a = p) _ _ _ (b + 1) [] := ⟨R2, rfl, ((free_startM.set (by intro _ z; cases z)).set (by intro _ z; cases z)), .inr rfl, fun z => R1.tr p (R1.mu0 p z) hp, upd_same, ⟨fun q hq => by simp at hq, by simp⟩⟩
  have sub1 : ((n : Int) - 1).toNat = n - 1 := by omega
  -- the edges along
  refine ed_for (i := 3) (n := 5) (c := 2) (Pe := drawnE n) (by decide) S0 (by simp) (fun q hq => by simp at hq) ?_ (by simp [startM, startD]) ?_
  · refine ⟨_, rfl, _, rfl, _, rfl, by omega, by omega, by omega, n - 1, by omega, by rw [sub1], fun δ' x b2 hx hy h3 hb2 => ⟨⟨m, rfl, (hy 0 (by decide)).trans rfl⟩, _, h3, _, h3, _, rfl, _, _, rfl, by omega, fun zs hz dd hd => ⟨by omega, _, rfl, menu n _ _ zs dd hz hd (by omega) (by omega) (by omega) (by omega)⟩⟩⟩
  intro Mu2 σ2 H2 δ2 b2 es2 S2 l2 p2 bb2 ll2 yy2
  have l2' : es2.length ≤ 5 := by simpa using l2
  have a0 : δ2[0]? = some (.raw (.ref m)) := (yy2 0 (by decide)).trans rfl
  have a2 : δ2[2]? = some (.dat (.int 8)) := (yy2 2 (by decide)).trans rfl
  have a7 : δ2[7]? = some (.dat (.int (n : Int))) := (yy2 7 (by decide)).trans rfl
  have L2 : δ2.length = 10 := ll2.trans rfl
  -- .. and across
  refine ed_for (i := 4) (n := 8) (c := 4) (Pe := drawnE n) (by decide) S2 (by omega) p2 ?_ (by omega) ?_
  · refine ⟨⟨m, rfl, a0⟩, _, a2, _, rfl, 9, rfl, by decide, by decide, by omega, fun r r0 r1 => ⟨r, rfl, by omega, by omega, by omega, r.toNat, by omega, rfl, fun δ' x b3 hx hy h4 hb3 => ?_⟩⟩
    have c0 : δ'[0]? = some (.raw (.ref m)) := (hy 0 (by decide)).trans a0
    have c7 : δ'[7]? = some (.dat (.int (n : Int))) := (hy 7 (by decide)).trans a7
    exact ⟨⟨m, rfl, c0⟩, ⟨m, rfl, c0⟩, _, c7, (n : Int), rfl, by omega, by omega, by omega, fun x0 x1 x2 => ⟨⟨m, rfl, c0⟩, _, c7, (n : Int), rfl, by omega, by omega, by omega, fun y0 y1 y2 => ⟨x0, y0, rfl, by omega, fun zs hz dd hd => ⟨by omega, _, rfl, menu n _ _ zs dd hz hd x1 x2 y1 y2⟩⟩⟩⟩
  intro Mu3 σ3 H3 δ3 b3 es3 S3 l3 p3 bb3 ll3 yy3
  have b0 : δ3[0]? = some (.raw (.ref m)) := (yy3 0 (by decide)).trans a0
  have b7 : δ3[7]? = some (.dat (.int (n : Int))) := (yy3 7 (by decide)).trans a7
  have L3 : δ3.length = 10 := ll3.trans L2
  have bb3' : b3 ≤ b + 45 := by omega
  clear bb3
  have l3' : es3.length ≤ 13 := by omega
  -- what is up
  refine cE.go (Q' := fun d b' => ∃ us : List Int, d = intsD us ∧ us.Sublist ((List.range (n - 1)).map fun (i : Nat) => (1 : Int) + (i : Nat)) ∧ b' ≤ b3 + 5) S3.R ?_ ?_
  · refine ⟨fun i hi ds => S3.no i ds, _, b7, 1, n, rfl, rfl, ⟨by omega, by omega, by omega, by omega⟩, by rw [line_eq]; simp [rangeD]; omega, ?_⟩
    have : rangeD 1 ((n : Int) - 1).toNat = (List.range (n - 1)).map fun (i : Nat) => PyData.int ((1 : Int) + (i : Nat)) := by rw [sub1]; rfl
    rw [this]
    refine lc_draw (fun (i : Nat) => PyData.int ((1 : Int) + (i : Nat))) (fun (i : Nat) => PyData.int ((1 : Int) + (i : Nat))) (List.range (n - 1)) [] b3 _ (by simp; omega) (fun x _ => ⟨_, rfl, fun b' Q h1 h2 => ?_, fun b' Q h => ⟨_, by show ((δ3.set 9 .no).set 9 _)[9]? = _; rw [List.getElem?_set, if_pos rfl, if_pos (by simp; omega)], h⟩⟩) fun ys hs => ⟨ys.map fun (i : Nat) => (1 : Int) + (i : Nat), ?_, hs.map _, by simp; omega⟩
    · exact ⟨⟨m, rfl, by show ((δ3.set 9 .no).set 9 _)[0]? = _; rw [List.getElem?_set_ne (by decide), List.getElem?_set_ne (by decide)]; exact b0⟩, 2, rfl, by decide, by decide, h1, fun r _ _ => ⟨_, eqD_ii _ _, _, rfl, h2 _⟩⟩
    · rw [List.nil_append]; unfold intsD; rw [List.map_map]; rfl
  rintro v4 H4 d4 b4 R4 e4 q4 ⟨us, rfl, hus, hb4⟩
  have S4 := (S3.ex R4 e4).slots (R4.set (i := 5) q4) (by rw [List.getElem?_set_ne (by decide)]; exact S3.sl) (S3.no.set (by intro _ z; cases z))
  have f0 : (δ3.set 5 (.dat (intsD us)))[0]? = some (.raw (.ref m)) := by rw [List.getElem?_set_ne (by decide)]; exact b0
  have f7 : (δ3.set 5 (.dat (intsD us)))[7]? = some (.dat (.int (n : Int))) := by rw [List.getElem?_set_ne (by decide)]; exact b7
  have f5 : (δ3.set 5 (.dat (intsD us)))[5]? = some (.dat (intsD us)) := by rw [List.getElem?_set, if_pos rfl, if_pos (by omega)]
  have L4 : (δ3.set 5 (.dat (intsD us))).length = 10 := by simp [L3]
  generalize δ3.set 5 (.dat (intsD us)) = δ4 at S4 f0 f7 f5 L4
  -- what is deaf
  refine cE.go (Q' := fun d b' => ∃ us : List Int, d = intsD us ∧ us.Sublist ((List.range n).map fun (i : Nat) => (0 : Int) + (i : Nat)) ∧ b' ≤ b4 + 6) S4.R ?_ ?_
  · refine ⟨fun i hi ds => S4.no i ds, _, f7, n, rfl, by omega, by omega, by rw [line_eq]; simp [rangeD]; omega, ?_⟩
    have : rangeD 0 ((n : Int)).toNat = (List.range n).map fun (i : Nat) => PyData.int ((0 : Int) + (i : Nat)) := rfl
    rw [this]
    refine lc_draw (fun (i : Nat) => PyData.int ((0 : Int) + (i : Nat))) (fun (i : Nat) => PyData.int ((0 : Int) + (i : Nat))) (List.range n) [] b4 _ (by simp; omega) (fun x _ => ⟨_, rfl, fun b' Q h1 h2 => ?_, fun b' Q h => ⟨_, by show ((δ4.set 9 .no).set 9 _)[9]? = _; rw [List.getElem?_set, if_pos rfl, if_pos (by simp; omega)], h⟩⟩) fun ys hs => ⟨ys.map fun (i : Nat) => (0 : Int) + (i : Nat), ?_, hs.map _, by simp; omega⟩
    · exact ⟨⟨m, rfl, by show ((δ4.set 9 .no).set 9 _)[0]? = _; rw [List.getElem?_set_ne (by decide), List.getElem?_set_ne (by decide)]; exact f0⟩, 4, rfl, by decide, by decide, h1, fun r _ _ => ⟨_, eqD_ii _ _, _, rfl, h2 _⟩⟩
    · rw [List.nil_append]; unfold intsD; rw [List.map_map]; rfl
  rintro v5 H5 d5 b5 R5 e5 q5 ⟨vs, rfl, hvs, hb5⟩
  have S5 := (S4.ex R5 e5).slots (R5.set (i := 6) q5) (by rw [List.getElem?_set_ne (by decide)]; exact S4.sl) (S4.no.set (by intro _ z; cases z))
  have g7 : (δ4.set 6 (.dat (intsD vs)))[7]? = some (.dat (.int (n : Int))) := by rw [List.getElem?_set_ne (by decide)]; exact f7
  have g5 : (δ4.set 6 (.dat (intsD vs)))[5]? = some (.dat (intsD us)) := by rw [List.getElem?_set_ne (by decide)]; exact f5
  have g6 : (δ4.set 6 (.dat (intsD vs)))[6]? = some (.dat (intsD vs)) := by rw [List.getElem?_set, if_pos rfl, if_pos (by omega)]
  generalize δ4.set 6 (.dat (intsD vs)) = δ5 at S5 g7 g5 g6
  -- the end
  refine cE.go (Q' := fun d b' => d = .int (n : Int) ∧ b' = b5) S5.R ⟨_, g7, rfl, rfl⟩ ?_
  rintro w6 H6 d6 b6 R6 e6 q6 ⟨rfl, rfl⟩
  have S6 := S5.ex R6 e6
  refine cE.go (Q' := fun d b' => d = intsD us ∧ b' = b6) S6.R ⟨_, g5, rfl, rfl⟩ ?_
  rintro w7 H7 d7 b7 R7 e7 q7 ⟨rfl, rfl⟩
  have S7 := S6.ex R7 e7
  refine cE.go (Q' := fun d b' => d = intsD vs ∧ b' = b7) S7.R ⟨_, g6, rfl, rfl⟩ ?_
  rintro w8 H8 d8 b8 R8 e8 q8 ⟨rfl, rfl⟩
  have S8 := S7.ex R8 e8
  refine ⟨.ref p, S8.R.sl 8 _ S8.sl, p, es3, rfl, S8.d, by omega, fun l1 hl1 => ?_⟩
  have ks1 := S8.ks.exM (ExM.new (o := .lst (refsE es3)) hl1)
  refine ⟨Mu3, l1, es3, rfl, .inl (.inl upd_same), ks1, by omega, fun l2 hl2 => ?_⟩
  have ks2 := ks1.exM (ExM.new (o := .lst (refsE (es3.mergeSort leE))) hl2)
  refine ⟨l2, refsE (es3.mergeSort leE), rfl, .inl ⟨.inl (.inl upd_same), fun t ht => ?_⟩⟩
  have ks3 := ks2.exM (ExM.new (o := .tup (refsE (es3.mergeSort leE))) ht)
  have R9 := ((S8.R.fresh (o := .lst (refsE es3)) hl1).fresh (o := .lst (refsE (es3.mergeSort leE))) hl2).fresh (o := .tup (refsE (es3.mergeSort leE))) ht
  have x9 : ExB ⟨H, Mu, some m⟩ Mu3 H8 _ := ((ExB.new (F := ⟨H, Mu, some m⟩) (o := .lst (refsE es3)) hl1).trans (ExB.new (o := .lst (refsE (es3.mergeSort leE))) hl2)).trans (ExB.new (o := .tup (refsE (es3.mergeSort leE))) ht)
  have nt : ¬ Mu3 t := ((S8.R.fresh (o := .lst (refsE es3)) hl1).fresh (o := .lst (refsE (es3.mergeSort leE))) hl2).nmu ht
  refine ⟨by rw [line_eq]; show (4 : Nat) ≤ _; decide, fun t2 ht2 => ?_⟩
  have R10 := R9.fresh (o := .tup [w6, w7, w8, .ref t]) ht2
  have nt2 : ¬ Mu3 t2 := R9.nmu ht2
  have en := ExM.new (Mu := Mu3) (o := .tup [w6, w7, w8, .ref t]) ht2
  have srt : ∀ p ∈ es3.mergeSort leE, Dq K Mu3 _ (.ref p.2) p.1.d := fun p hp => ks3.d p (List.mem_mergeSort.mp hp)
  have qb : Dq K Mu3 _ (.ref t2) (Kd.mk (n : Int) us vs ((es3.mergeSort leE).map (·.1)) []).book := .tup (.of upd_same nt2) (.cons ((((q6.ex e7).ex e8).ex x9).exM en) (.cons (((q7.ex e8).ex x9).exM en) (.cons ((q8.ex x9).exM en) (.cons ((Dq.tup (.of upd_same nt) (refs_dq srt)).exM en) .nil))))
  obtain ⟨r1, r2, r3⟩ := rt_go rfl R10 qb
  refine k' _ _ _ _ r1 r2 r3 (hQ _ ?_ _ (by omega))
  have inR : ∀ (lo hi : Int) (k : Nat) (ys : List Int), (lo + (k : Int) ≤ hi + 1) → ys.Sublist ((List.range k).map fun (i : Nat) => lo + (i : Nat)) → (ys.all fun i => wholeI i lo hi) = true := fun lo hi k ys hk hs => by
    rw [List.all_eq_true]
    intro i hi'
    have := hs.subset hi'
    obtain ⟨x, hx, rfl⟩ := List.mem_map.mp this; have hx := List.mem_range.mp hx
    exact whole_iff.mpr ⟨by omega, by omega⟩
  refine ⟨whole_iff.mpr ⟨by show (1 : Int) ≤ (n : Int); omega, by show (n : Int) ≤ 6; omega⟩, inR 1 _ _ _ (by show (1 : Int) + ((n - 1 : Nat) : Int) ≤ (n : Int) - 1 + 1; omega) hus, ascI_sub (range_asc 1 _) hus, inR 0 _ _ _ (by show (0 : Int) + (n : Int) ≤ (n : Int) - 1 + 1; omega) hvs, ascI_sub (range_asc 0 _) hvs, fun e he => ?_, sort_asc S8.ks.nd, by show ((es3.mergeSort leE).map (·.1)).length ≤ 13; rw [List.length_map, List.length_mergeSort]; omega⟩
  obtain ⟨q, hq, rfl⟩ := List.mem_map.mp he
  exact p3 q (List.mem_mergeSort.mp hq)
end Wk
namespace Wk
open L2 RZ PyProof.Rows PySem.Spec PySem
theorem l_law_some : ∀ ds b Q, T_law_some ds b Q → ds.length + 1 = 2 := by
  intro ds b Q h
  unfold T_law_some at h
  grind (gen := 20) (ematch := 20)
theorem ok_law_some {P : Program} {w : World} {K : PySem.W.Frag} {mg : Str → Option Value} {base : Heap} (W : Wo P w K mg base) : Cal P w K mg base 2 "_law_some" (spM K T_law_some) := by
  obtain ⟨fd, Fd⟩ := W.fun 35 82 (x := "_law_some")
  exact fnM Fd (W.glo 80) sc_law_some (by simp) l_law_some (fun _ _ _ _ _ _ us hl => match us, hl with | [_, _], _ => rfl) (fun cdv A outer s H F E hr => b_law_some W ((ok_law_draw W).mono (by decide)) cdv A outer s H F E hr) p_law_some
theorem l_law_asks : ∀ ds b Q, T_law_asks ds b Q → ds.length + 1 = 1 := by
  intro ds b Q h
  unfold T_law_asks at h
  grind (gen := 20) (ematch := 20)
theorem ok_law_asks {P : Program} {w : World} {K : PySem.W.Frag} {mg : Str → Option Value} {base : Heap} (W : Wo P w K mg base) : Cal P w K mg base 3 "_law_asks" (spM K T_law_asks) := by
  obtain ⟨fd, Fd⟩ := W.fun 39 86 (x := "_law_asks")
  exact fnM Fd (W.glo 84) sc_law_asks (by simp) l_law_asks (fun _ _ _ _ _ _ us hl => match us, hl with | [_], _ => rfl) (fun cdv A outer s H F E hr => b_law_asks W ((ok_law_some W).mono (by decide)) cdv A outer s H F E hr) p_law_asks
theorem l_law_edge : ∀ ds b Q, T_law_edge ds b Q → ds.length + 1 = 3 := by
  intro ds b Q h
  unfold T_law_edge at h
  grind (gen := 20) (ematch := 20)
theorem ok_law_edge {P : Program} {w : World} {K : PySem.W.Frag} {mg : Str → Option Value} {base : Heap} (W : Wo P w K mg base) : Cal P w K mg base 4 "_law_edge" (spM K T_law_edge) := by
  obtain ⟨fd, Fd⟩ := W.fun 40 87 (x := "_law_edge")
  exact fnM Fd (W.glo 85) sc_law_edge (by simp) l_law_edge (fun _ _ _ _ _ _ us hl => match us, hl with | [_, _, _], _ => rfl) (fun cdv A outer s H F E hr => b_law_edge W ((ok_law_asks W).mono (by decide)) ((ok_law_some W).mono (by decide)) cdv A outer s H F E hr) p_law_edge
theorem l_law_house : ∀ ds b Q, T_law_house ds b Q → ds.length + 1 = 4 := by
  intro ds b Q h
  unfold T_law_house at h
  grind (gen := 20) (ematch := 20)
theorem ok_law_house {P : Program} {w : World} {K : PySem.W.Frag} {mg : Str → Option Value} {base : Heap} (W : Wo P w K mg base) : Cal P w K mg base 6 "_law_house" (spM K T_law_house) := by
  obtain ⟨fd, Fd⟩ := W.fun 42 89 (x := "_law_house")
  exact fnM Fd (W.glo 87) sc_law_house (by simp) l_law_house (fun _ _ _ _ _ _ us hl => match us, hl with | [_, _, _, _], _ => rfl) (fun cdv A outer s H F E hr => b_law_house W ((ok_law_book W ((ok_law_edge W).mono (by decide)) ((ok_law_draw W).mono (by decide))).mono (by decide)) ((ok_law_draw W).mono (by decide)) ((ok_law_order W).mono (by decide)) cdv A outer s H F E hr) p_law_house
theorem l_law_tree : ∀ ds b Q, T_law_tree ds b Q → ds.length + 1 = 3 := by
  intro ds b Q h
  unfold T_law_tree at h
  grind (gen := 20) (ematch := 20)
theorem ok_law_tree {P : Program} {w : World} {K : PySem.W.Frag} {mg : Str → Option Value} {base : Heap} (W : Wo P w K mg base) : Cal P w K mg base 3 "_law_tree" (spM K T_law_tree) := by
  obtain ⟨fd, Fd⟩ := W.fun 45 92 (x := "_law_tree")
  exact fnM Fd (W.glo 90) sc_law_tree (by simp) l_law_tree (fun _ _ _ _ _ _ us hl => match us, hl with | [_, _, _], _ => rfl) (fun cdv A outer s H F E hr => b_law_tree W ((ok_law_belows W).mono (by decide)) ((ok_law_draw W).mono (by decide)) ((ok_law_some W).mono (by decide)) cdv A outer s H F E hr) (p_law_tree K)
theorem l_law_lot : ∀ ds Q, T_law_lot ds Q → ds.length = 2 := by
  intro ds Q h
  unfold T_law_lot at h
  grind (gen := 20) (ematch := 20)
theorem ok_law_lot {P : Program} {w : World} {K : PySem.W.Frag} {mg : Str → Option Value} {base : Heap} (W : Wo P w K mg base) : Cal P w K mg base 1 "_law_lot" (spD K T_law_lot) := by
  obtain ⟨fd, Fd⟩ := W.fun 46 93 (x := "_law_lot")
  exact fnD Fd (W.glo 91) sc_law_lot l_law_lot (fun _ _ _ _ _ _ us hl => match us, hl with | [_, _], _ => rfl) (fun cdv A outer s H F E hr => b_law_lot W  cdv A outer s H F E hr) p_law_lot
theorem l_law_is_up : ∀ ds Q, T_law_is_up ds Q → ds.length = 4 := by
  intro ds Q h
  unfold T_law_is_up at h
  grind (gen := 20) (ematch := 20)
theorem ok_law_is_up {P : Program} {w : World} {K : PySem.W.Frag} {mg : Str → Option Value} {base : Heap} (W : Wo P w K mg base) : Cal P w K mg base 2 "_law_is_up" (spD K T_law_is_up) := by
  obtain ⟨fd, Fd⟩ := W.fun 47 94 (x := "_law_is_up")
  exact fnD Fd (W.glo 92) sc_law_is_up l_law_is_up (fun _ _ _ _ _ _ us hl => match us, hl with | [_, _, _, _], _ => rfl) (fun cdv A outer s H F E hr => b_law_is_up W ((ok_law_books W).mono (by decide)) cdv A outer s H F E hr) p_law_is_up
theorem l_law_is_held : ∀ ds Q, T_law_is_held ds Q → ds.length = 3 := by
  intro ds Q h
  unfold T_law_is_held at h
  grind (gen := 20) (ematch := 20)
theorem ok_law_is_held {P : Program} {w : World} {K : PySem.W.Frag} {mg : Str → Option Value} {base : Heap} (W : Wo P w K mg base) : Cal P w K mg base 2 "_law_is_held" (spD K T_law_is_held) := by
  obtain ⟨fd, Fd⟩ := W.fun 48 95 (x := "_law_is_held")
  exact fnD Fd (W.glo 93) sc_law_is_held l_law_is_held (fun _ _ _ _ _ _ us hl => match us, hl with | [_, _, _], _ => rfl) (fun cdv A outer s H F E hr => b_law_is_held W ((ok_law_lot W).mono (by decide)) cdv A outer s H F E hr) p_law_is_held
theorem l_law_is_so : ∀ ds Q, T_law_is_so ds Q → ds.length = 5 := by
  intro ds Q h
  unfold T_law_is_so at h
  grind (gen := 20) (ematch := 20)
theorem ok_law_is_so {P : Program} {w : World} {K : PySem.W.Frag} {mg : Str → Option Value} {base : Heap} (W : Wo P w K mg base) : Cal P w K mg base 3 "_law_is_so" (spD K T_law_is_so) := by
  obtain ⟨fd, Fd⟩ := W.fun 49 96 (x := "_law_is_so")
  exact fnD Fd (W.glo 94) sc_law_is_so l_law_is_so (fun _ _ _ _ _ _ us hl => match us, hl with | [_, _, _, _, _], _ => rfl) (fun cdv A outer s H F E hr => b_law_is_so W ((ok_law_is_held W).mono (by decide)) ((ok_law_is_up W).mono (by decide)) ((ok_law_lot W).mono (by decide)) cdv A outer s H F E hr) p_law_is_so
theorem l_law_may : ∀ ds Q, T_law_may ds Q → ds.length = 5 := by
  intro ds Q h
  unfold T_law_may at h
  grind (gen := 20) (ematch := 20)
theorem ok_law_may {P : Program} {w : World} {K : PySem.W.Frag} {mg : Str → Option Value} {base : Heap} (W : Wo P w K mg base) : Cal P w K mg base 4 "_law_may" (spD K T_law_may) := by
  obtain ⟨fd, Fd⟩ := W.fun 50 97 (x := "_law_may")
  exact fnD Fd (W.glo 95) sc_law_may l_law_may (fun _ _ _ _ _ _ us hl => match us, hl with | [_, _, _, _, _], _ => rfl) (fun cdv A outer s H F E hr => b_law_may W ((ok_law_is_so W).mono (by decide)) cdv A outer s H F E hr) p_law_may
theorem l_law_moves : ∀ ds Q, T_law_moves ds Q → ds.length = 3 := by
  intro ds Q h
  unfold T_law_moves at h
  grind (gen := 20) (ematch := 20)
theorem ok_law_moves {P : Program} {w : World} {K : PySem.W.Frag} {mg : Str → Option Value} {base : Heap} (W : Wo P w K mg base) : Cal P w K mg base 5 "_law_moves" (spD K T_law_moves) := by
  obtain ⟨fd, Fd⟩ := W.fun 51 98 (x := "_law_moves")
  exact fnD Fd (W.glo 96) sc_law_moves l_law_moves (fun _ _ _ _ _ _ us hl => match us, hl with | [_, _, _], _ => rfl) (fun cdv A outer s H F E hr => b_law_moves W ((ok_law_books W).mono (by decide)) ((ok_law_may W).mono (by decide)) cdv A outer s H F E hr) p_law_moves
theorem l_law_done : ∀ ds Q, T_law_done ds Q → ds.length = 4 := by
  intro ds Q h
  unfold T_law_done at h
  grind (gen := 20) (ematch := 20)
theorem ok_law_done {P : Program} {w : World} {K : PySem.W.Frag} {mg : Str → Option Value} {base : Heap} (W : Wo P w K mg base) : Cal P w K mg base 2 "_law_done" (spD K T_law_done) := by
  obtain ⟨fd, Fd⟩ := W.fun 52 99 (x := "_law_done")
  exact fnD Fd (W.glo 97) sc_law_done l_law_done (fun _ _ _ _ _ _ us hl => match us, hl with | [_, _, _, _], _ => rfl) (fun cdv A outer s H F E hr => b_law_done W ((ok_law_books W).mono (by decide)) cdv A outer s H F E hr) p_law_done
theorem l_law_any : ∀ ds b Q, T_law_any ds b Q → ds.length + 1 = 4 := by
  intro ds b Q h
  unfold T_law_any at h
  grind (gen := 20) (ematch := 20)
theorem ok_law_any {P : Program} {w : World} {K : PySem.W.Frag} {mg : Str → Option Value} {base : Heap} (W : Wo P w K mg base) : Cal P w K mg base 6 "_law_any" (spM K T_law_any) := by
  obtain ⟨fd, Fd⟩ := W.fun 53 100 (x := "_law_any")
  exact fnM Fd (W.glo 98) sc_law_any (by simp) l_law_any (fun _ _ _ _ _ _ us hl => match us, hl with | [_, _, _, _], _ => rfl) (fun cdv A outer s H F E hr => b_law_any W ((ok_law_draw W).mono (by decide)) ((ok_law_moves W).mono (by decide)) ((ok_law_some W).mono (by decide)) cdv A outer s H F E hr) p_law_any
theorem l_law_begin : ∀ ds Q, T_law_begin ds Q → ds.length = 1 := by
  intro ds Q h
  unfold T_law_begin at h
  grind (gen := 20) (ematch := 20)
theorem ok_law_begin {P : Program} {w : World} {K : PySem.W.Frag} {mg : Str → Option Value} {base : Heap} (W : Wo P w K mg base) : Cal P w K mg base 1 "_law_begin" (spD K T_law_begin) := by
  obtain ⟨fd, Fd⟩ := W.fun 54 101 (x := "_law_begin")
  exact fnD Fd (W.glo 99) sc_law_begin l_law_begin (fun _ _ _ _ _ _ us hl => match us, hl with | [_], _ => rfl) (fun cdv A outer s H F E hr => b_law_begin W  cdv A outer s H F E hr) p_law_begin
theorem l_law_weaving : ∀ ds b Q, T_law_weaving ds b Q → ds.length + 1 = 4 := by
  intro ds b Q h
  unfold T_law_weaving at h
  grind (gen := 20) (ematch := 20)
theorem ok_law_weaving {P : Program} {w : World} {K : PySem.W.Frag} {mg : Str → Option Value} {base : Heap} (W : Wo P w K mg base) : Cal P w K mg base 7 "_law_weaving" (spM K T_law_weaving) := by
  obtain ⟨fd, Fd⟩ := W.fun 55 102 (x := "_law_weaving")
  exact fnM Fd (W.glo 100) sc_law_weaving (by simp) l_law_weaving (fun _ _ _ _ _ _ us hl => match us, hl with | [_, _, _, _], _ => rfl) (fun cdv A outer s H F E hr => b_law_weaving W ((ok_law_any W).mono (by decide)) ((ok_law_begin W).mono (by decide)) ((ok_law_done W).mono (by decide)) ((ok_law_draw W).mono (by decide)) cdv A outer s H F E hr) p_law_weaving
theorem l_law_edge_text : ∀ ds Q, T_law_edge_text ds Q → ds.length = 1 := by
  intro ds Q h
  unfold T_law_edge_text at h
  grind (gen := 20) (ematch := 20)
theorem ok_law_edge_text {P : Program} {w : World} {K : PySem.W.Frag} {mg : Str → Option Value} {base : Heap} (W : Wo P w K mg base) : Cal P w K mg base 1 "_law_edge_text" (spD K T_law_edge_text) := by
  obtain ⟨fd, Fd⟩ := W.fun 56 103 (x := "_law_edge_text")
  exact fnD Fd (W.glo 101) sc_law_edge_text l_law_edge_text (fun _ _ _ _ _ _ us hl => match us, hl with | [_], _ => rfl) (fun cdv A outer s H F E hr => b_law_edge_text W  cdv A outer s H F E hr) p_law_edge_text
theorem l_law_house_text : ∀ ds Q, T_law_house_text ds Q → ds.length = 1 := by
  intro ds Q h
  unfold T_law_house_text at h
  grind (gen := 20) (ematch := 20)
theorem ok_law_house_text {P : Program} {w : World} {K : PySem.W.Frag} {mg : Str → Option Value} {base : Heap} (W : Wo P w K mg base) : Cal P w K mg base 2 "_law_house_text" (spD K T_law_house_text) := by
  obtain ⟨fd, Fd⟩ := W.fun 57 104 (x := "_law_house_text")
  exact fnD Fd (W.glo 102) sc_law_house_text l_law_house_text (fun _ _ _ _ _ _ us hl => match us, hl with | [_], _ => rfl) (fun cdv A outer s H F E hr => b_law_house_text W ((ok_law_edge_text W).mono (by decide)) cdv A outer s H F E hr) p_law_house_text
theorem l_law_move_text : ∀ ds Q, T_law_move_text ds Q → ds.length = 1 := by
  intro ds Q h
  unfold T_law_move_text at h
  grind (gen := 20) (ematch := 20)
theorem ok_law_move_text {P : Program} {w : World} {K : PySem.W.Frag} {mg : Str → Option Value} {base : Heap} (W : Wo P w K mg base) : Cal P w K mg base 2 "_law_move_text" (spD K T_law_move_text) := by
  obtain ⟨fd, Fd⟩ := W.fun 58 105 (x := "_law_move_text")
  exact fnD Fd (W.glo 103) sc_law_move_text l_law_move_text (fun _ _ _ _ _ _ us hl => match us, hl with | [_], _ => rfl) (fun cdv A outer s H F E hr => b_law_move_text W ((ok_law_edge_text W).mono (by decide)) cdv A outer s H F E hr) p_law_move_text
end Wk
namespace Wk
open L2 RZ PyProof.Rows PySem.Spec PySem
def smallM (i : Int) : Prop := -(2 ^ 64) < i ∧ i < 2 ^ 64
instance (i : Int) : Decidable (smallM i) := by unfold smallM; exact inferInstance
def mulI : PyData → PyData → Option PyData
  | .int i, .int j => if smallM i ∨ smallM j then some (.int (i * j)) else none
  | _, _ => none
def modI : PyData → PyData → Option PyData
  | .int i, .int j => if 0 < j then some (.int (i % j)) else none
  | _, _ => none
def powI : PyData → PyData → Option PyData
  | .int i, .int j => if 0 ≤ j ∧ j ≤ 1000000 ∧ i.natAbs < 2 ^ 64 then some (.int (i ^ j.toNat)) else none
  | _, _ => none
section
variable {K : PySem.W.Frag} {F : Fm}
theorem r_mulI : R2D K F (rI CMul fun i j => .int (i * j)) mulI := by
  intro Mu σ H δ b x y dx dy dz Q R hx hy hz k
  unfold mulI at hz
  split at hz
  · split at hz
    · rename_i h; cases hz; cases hx; cases hy
      exact ⟨_, _, rfl, rfl, h, k _ H R (ExB.refl H) (.int _)⟩
    · cases hz
  · cases hz
theorem r_modI : R2D K F (rI (fun _ j => 0 < j) fun i j => .int (i % j)) modI := by
  intro Mu σ H δ b x y dx dy dz Q R hx hy hz k
  unfold modI at hz
  split at hz
  · split at hz
    · rename_i h; cases hz; cases hx; cases hy
      exact ⟨_, _, rfl, rfl, h, k _ H R (ExB.refl H) (.int _)⟩
    · cases hz
  · cases hz
theorem r_powI : R2D K F (rI CPow fun i j => .int (i ^ j.toNat)) powI := by
  intro Mu σ H δ b x y dx dy dz Q R hx hy hz k
  unfold powI at hz
  split at hz
  · split at hz
    · rename_i h; cases hz; cases hx; cases hy
      exact ⟨_, _, rfl, rfl, h, k _ H R (ExB.refl H) (.int _)⟩
    · cases hz
  · cases hz
end
section
variable {X : Cx} {F : Fm} {a e : Expr} {ta tb : TD} {pos : Pos}
theorem d_mul (ha : PD X F a ta) (hb : PD X F e tb) : PD X F (.BinOp a .Mult e pos) (d2 mulI ta tb) := d_op op_mul r_mulI ha hb
theorem d_mod (ha : PD X F a ta) (hb : PD X F e tb) : PD X F (.BinOp a .Mod e pos) (d2 modI ta tb) := d_op op_mod r_modI ha hb
theorem d_pow (ha : PD X F a ta) (hb : PD X F e tb) : PD X F (.BinOp a .Pow e pos) (d2 powI ta tb) := d_op op_pow r_powI ha hb
end
end Wk
namespace Wk
open L2 RZ PyProof.Rows PySem.Spec PySem
abbrev N_law_begun : List Str := ["_law_script", "_law_total", "_law_k", "_law_cell"]
theorem sc_law_begun : FnScope N_law_begun ["_law_script"] (defScope (top 79)) := ⟨rfl, rfl, rfl, by decide +kernel, rfl, by decide +kernel, by decide +kernel⟩
/-- the machine is made of the script -/
def spBegun (K : PySem.W.Frag) : Sp := fun vs H Q _ => ∃ (a : Addr) (ns : List Int), vs = [.ref a] ∧ SqL K H a (ns.map V.int) ∧ ns.length ≤ 63 ∧ ∀ m H', H m = none → (∀ b o, H b = some o → H' b = some o) → MOk K (fun b => b = m) H' m 0 → Q (.ref m) H'
theorem mod_ok (i j : Int) (h : 0 < j) : modI (.int i) (.int j) = some (.int (i % j)) := by
  show (if 0 < j then some (PyData.int (i % j)) else none) = _
  rw [if_pos h]
theorem mul_ok (i j : Int) (h : smallM i ∨ smallM j) : mulI (.int i) (.int j) = some (.int (i * j)) := by
  show (if smallM i ∨ smallM j then some (PyData.int (i * j)) else none) = _
  rw [if_pos h]
abbrev tBegun1 : TSD := (sFor (iEL (dSl (dVar 0) oNo (oSome (dC (.int 63))))) (.tup [(.nm 2), (.nm 3)]) (sSet 1 (fDat (d2 modI (d1 intD (d2 mulI (d2 addD (d2 addD (d2 addD (dVar 1) (d2 modI (d1 intD (dVar 3)) (dC (.int 1000000007)))) (d2 mulI (dC (.int 31)) (dVar 2))) (dC (.int 7))) (dC (.int 48271)))) (dC (.int 2147483647))))))
theorem begun_for (ns : List Int) {D : EndsD} (h : ∀ t s2 s3, (∀ ds, s3 ≠ Sl.own ds) → 0 ≤ t → t < 2147483647 → D.nx [Sl.dat (.list (ns.map PyData.int)), Sl.dat (.int t), s2, s3] 0) : tBegun1 D [Sl.dat (.list (ns.map PyData.int)), Sl.dat (.int 17), .no, .no] 0 := by
  refine ⟨_, rfl, 63, rfl, _, rfl, _, rfl, ?_⟩
  have e : cutP (ns.map PyData.int) none (some 63) = (cutP ns none (some 63)).map PyData.int := by
    unfold cutP
    rw [List.length_map, List.map_take, List.map_drop]
  rw [e]
  have go : ∀ (xs : List Int) (k : Nat) (t : Int) (s2 s3 : Sl), (∀ ds, s3 ≠ Sl.own ds) → 0 ≤ t → t < 2147483647 → forGo (.tup [(.nm 2), (.nm 3)]) (sSet 1 (fDat (d2 modI (d1 intD (d2 mulI (d2 addD (d2 addD (d2 addD (dVar 1) (d2 modI (d1 intD (dVar 3)) (dC (.int 1000000007)))) (d2 mulI (dC (.int 31)) (dVar 2))) (dC (.int 7))) (dC (.int 48271)))) (dC (.int 2147483647))))) D (enumD k (xs.map PyData.int)) [Sl.dat (.list (ns.map PyData.int)), Sl.dat (.int t), s2, s3] 0 := by
    intro xs
    induction xs with
    | nil => intro k t s2 s3 hs h0 h1; exact h t s2 s3 hs h0 h1
    | cons x xs ih =>
      intro k t s2 s3 hs h0 h1
      refine ⟨_, rfl, _, rfl, _, rfl, _, rfl, _, mod_ok _ _ (by decide), _, rfl, _, rfl, _, mul_ok _ _ (.inl (by decide)), _, rfl, _, rfl, _, mul_ok _ _ (.inr (by decide)), _, rfl, _, mod_ok _ _ (by decide), ?_⟩
      exact ih (k + 1) _ _ _ (fun ds z => nomatch z) (Int.emod_nonneg _ (by decide)) (Int.emod_lt_of_pos _ (by decide))
  exact go _ 0 17 .no .no (fun ds z => nomatch z) (by decide) (by decide)
theorem ok_law_begun {P : Program} {w : World} {K : PySem.W.Frag} {mg : Str → Option Value} {base : Heap} (W : Wo P w K mg base) : Cal P w K mg base 1 "_law_begun" (spBegun K) := by
  obtain ⟨fd, Fd⟩ := W.fun 32 79 (x := "_law_begun")
  refine ⟨W.glo 77, Fd.kp, fd, ["_law_script"], Fd.ok sc_law_begun (fun vs H Q E z => ?_) (fun cdv A outer s H vs Q E hr z => ?_), Fd.bindsN (fun _ _ _ _ _ _ us hl => match us, hl with | [_], _ => rfl)⟩
  · obtain ⟨a, ns, rfl, _⟩ := z; rfl
  obtain ⟨a, ns, rfl, hs, hl, k'⟩ := z
  have R0 : Rep K ⟨H, fun _ => False, none⟩ (fun _ => False) (L2.start N_law_begun [.ref a]) H (startD N_law_begun.length [.list (ns.map PyData.int)]) 0 := start_rep (fun _ z => z.elim) (.cons (.lst (hs.elim (fun z => .inl ⟨z, id⟩) .inr) (dq_ints ns)) .nil)
  refine ⟨_, pss_cons (PSD.ps (F := ⟨H, fun _ => False, none⟩) (s_set 1 sc_law_begun.nd (PD.f d_int)))
    (pss_cons (PSD.ps (F := ⟨H, fun _ => False, none⟩) (s_for (passes_of rfl) rfl (i_enumL rfl (W.free 4) (d_slice (d_var 0) o_none (o_some d_int))) (g_tup rfl (g_cons (g_nm 2 sc_law_begun.nd) (g_cons (g_nm 3 sc_law_begun.nd) g_nil))) (ss_one (s_set 1 sc_law_begun.nd (PD.f (d_mod (d_intC rfl (W.free 7) (d_mul (d_add (d_add (d_add (d_var 1) (d_mod (d_intC rfl (W.free 7) (d_var 3)) d_int)) (d_mul d_int (d_var 2))) d_int) d_int)) d_int))))))
    (pss_one (ps_ret (pe_disp (pps_cons pe_str (PDN.pe (F := ⟨H, fun _ => False, none⟩) (n_lc [("_law_cell", 3)] rfl sc_law_begun.nd (i_lst (d_var 0)) (blkOk_by (N := N_law_begun) (sc := defScope (top 79)) (by decide +kernel)) (by decide) (fun _ _ _ _ _ => (g_nm 3 sc_law_begun.nd)) (fun _ _ _ _ _ => (ts_one (d_geT (d_var 3) (d_pow d_int d_int)))) (fun _ _ _ _ _ => (d_var 3))))
      (pps_cons pe_str (PD.pe (F := ⟨H, fun _ => False, none⟩) (d_var 1)) (pps_cons pe_str pe_int pps_nil))) rfl rfl (by simp) (by decide))))), ?_⟩
  let D2 : EndsD := { nx := fun δ _ => ∃ t s2 s3, (∀ ds, s3 ≠ Sl.own ds) ∧ 0 ≤ t ∧ t < 2147483647 ∧ δ = [Sl.dat (.list (ns.map PyData.int)), Sl.dat (.int t), s2, s3], rt := fun _ _ => False }
  refine ⟨_, _, 0, { nx := fun δ b => tBegun1 D2 δ b, rt := fun _ _ => False }, R0, begun_for ns fun t s2 s3 hs h0 h1 => ⟨t, s2, s3, hs, h0, h1, rfl⟩, ⟨fun Mu1 σ1 H1 δ1 b1 R1 x1 h1 => ?_, fun _ _ _ _ _ _ _ z => z.elim, fun _ _ _ _ _ _ _ z => z.elim, fun _ _ _ _ _ _ _ z => z.elim⟩⟩
  refine ⟨Mu1, δ1, b1, D2, R1, h1, ⟨fun Mu2 σ2 H2 δ2 b2 R2 x2 h2 => ?_, fun _ _ _ _ _ _ _ z => z.elim, fun _ _ _ _ _ _ _ z => z.elim, fun _ _ _ _ _ _ _ z => z.elim⟩⟩
  obtain ⟨t, s2, s3, hs3, t0, t1, rfl⟩ := h2
  intro p hp
  have R3 := R2.fresh (o := .dK []) hp
  have hpw : (10 : Int) ^ (18 : Int).toNat = 1000000000000000000 := by decide
  refine ⟨Mu2, _, b2, fun ds _ => ∃ gs : List Int, ds = gs.map PyData.int ∧ gs.length ≤ 63 ∧ ∀ x ∈ gs, 0 ≤ x, R3, ?_, ?_⟩
  · refine ⟨fun i hi ds z => by
      have hi : i = 3 := by simpa using hi
      subst hi
      exact hs3 ds (Option.some.inj z), _, rfl, _, rfl, by rw [line_eq, List.length_map]; omega, ?_⟩
    refine lc_filter PyData.int PyData.int (fun x : Int => decide ((10 : Int) ^ (18 : Int).toNat ≤ x)) ns (fun x _ => ⟨_, rfl, fun b Q h => ⟨_, rfl, _, rfl, _, rfl, _, rfl, h⟩, fun _ b Q h => ⟨_, rfl, h⟩⟩) [] b2 _ ⟨ns.filter fun x : Int => decide ((10 : Int) ^ (18 : Int).toNat ≤ x), by rw [List.nil_append], Nat.le_trans (List.length_filter_le _ _) hl, fun x hx => ?_⟩
    have := (List.mem_filter.mp hx).2
    rw [decide_eq_true_eq, hpw] at this
    omega
  rintro g H4 vs ds b4 R4 e4 hg hvs q4 ⟨gs, rfl, g1, g2⟩
  have R5 := R4.fresh (o := .lst vs) hg
  have p4 : H4 p = some (.dK []) := e4.1 p _ (fun z => nomatch z) upd_same
  have hgp : g ≠ p := fun z => by rw [z, p4] at hg; cases hg
  refine ⟨Mu2, _, b4, fun d _ => d = .int t, R5, ⟨_, rfl, rfl⟩, ?_⟩
  rintro v H5 d5 b5 R6 e6 q6 rfl
  cases q6
  have p5 : H5 p = some (.dK []) := e6.1 p _ (fun z => nomatch z) (by rw [upd_ne (Ne.symm hgp)]; exact p4)
  have g5 : H5 g = some (.lst vs) := e6.1 g _ (fun z => nomatch z) upd_same
  refine ⟨p5, [(Sum.inr "great", .ref g), (Sum.inr "seed", .int t), (Sum.inr "at", .int 0)], rfl, show (3 : Nat) ≤ 15 by decide, ?_⟩
  have em : mergeK [] [((Sum.inr "great" : Key), V.ref g), (Sum.inr "seed", .int t), (Sum.inr "at", .int 0)] = [((Sum.inr "great" : Key), V.ref g), (Sum.inr "seed", .int t), (Sum.inr "at", .int 0)] := mergeK_nodup [((Sum.inr "great" : Key), V.ref g), (Sum.inr "seed", .int t), (Sum.inr "at", .int 0)] [] (by show ([Sum.inr "great", Sum.inr "seed", Sum.inr "at"] : List Key).Nodup; decide)
  rw [em]
  have hp0 : H p = none := by
    cases z : H p with
    | none => rfl
    | some o => rw [R2.ext p o (fun z => nomatch z) z] at hp; cases hp
  refine k' p _ hp0 (fun b o z => ?_) ⟨g, gs, t, 0, upd_same, ⟨gs.map V.int, .of ?_ hgp, dq_ints gs⟩, g1, g2, t0, t1, Int.le_refl _, Int.le_refl _⟩
  · rw [upd_ne (fun e => by rw [e, hp0] at z; cases z)]
    exact R6.ext b o (fun z => nomatch z) z
  · rw [upd_ne hgp, g5, dqall_ints q4]
end Wk
namespace Wk
open L2 RZ PyProof.Rows PySem.Spec PySem
/-! ### repr, where nothing is being shown -/
def okR : PyData → Bool
  | .str z => decide ((reprText z).length ≤ sizeLine)
  | .list xs => (PyData.list xs).showable && !(PyData.list xs).hasDict && decide ((PyData.list xs).depth ≤ 60) && decide ((PyData.list xs).shown.length ≤ sizeLine)
  | .tuple xs => (PyData.tuple xs).showable && !(PyData.tuple xs).hasDict && decide ((PyData.tuple xs).depth ≤ 60) && decide ((PyData.tuple xs).shown.length ≤ sizeLine)
  | _ => false
def reprD (d : PyData) : Option PyData := if okR d = true then some (.str d.shown) else none
def rRepr (K : PySem.W.Frag) : List V → Hp → VK → Prop := fun xs H Q => ∃ v d, xs = [v] ∧ L2.Dp K H v d ∧ okR d = true ∧ Q (.str d.shown) H
theorem boot_repr0 : bootBuiltins "repr" = some (.builtin "repr") := by decide +kernel
theorem call_reprD {X : Cx} (hg : X.A.guards = some []) (hu : X.A.units + 64 < cLine) : CallR X (.builtin "repr") (rRepr X.K) := by
  intro pins s σ H xs us Q I r h; obtain ⟨v, d, rfl, hd, ho, q⟩ := h
  obtain ⟨u, rfl, rv⟩ := r.one
  obtain ⟨as, rd⟩ := L2.Dp.reads I d v u hd rv
  unfold okR at ho
  split at ho
  · cases hd
    obtain ⟨t, rfl⟩ := rv
    exact PySem.P.repr_of_str ⟨.str _, H, I.tok _, ⟨_, rfl⟩, q⟩ (of_decide_eq_true ho)
  · rename_i xs
    simp only [Bool.and_eq_true, Bool.not_eq_true', decide_eq_true_eq] at ho
    obtain ⟨⟨⟨h1, h2⟩, h3⟩, h4⟩ := ho
    cases hd with
    | lst _ _ =>
      cases rv
      exact PySem.repr_of_reads' rd h1 (PyData.noDict_hsm h2) hg (by omega) (fun _ _ e => e) (fun h' u tk hk => ⟨.str _, H, I.kept (t' := tk) hk, ⟨_, rfl⟩, q⟩) h4
  · rename_i xs
    simp only [Bool.and_eq_true, Bool.not_eq_true', decide_eq_true_eq] at ho
    obtain ⟨⟨⟨h1, h2⟩, h3⟩, h4⟩ := ho
    cases hd with
    | tup _ _ =>
      cases rv
      exact PySem.repr_of_reads' rd h1 (PyData.noDict_hsm h2) hg (by omega) (fun _ _ e => e) (fun h' u tk hk => ⟨.str _, H, I.kept (t' := tk) hk, ⟨_, rfl⟩, q⟩) h4
  · cases ho
theorem d_repr {X : Cx} {F : Fm} {a : Expr} {ta : TD} {p pos : Pos} (hg : Gl X "repr") (hm : X.mg "repr" = none) (hgu : X.A.guards = some []) (hu : X.A.units + 64 < cLine) (ha : PD X F a ta) (he : starEach [a] X.env = (false, eval a X.env) :: starEach [] X.env := by rfl) : PD X F (.Call (.Name "repr" p) [a] [] pos) (d1 reprD ta) :=
  ⟨PE.weak (pe_one1 (call_reprD hgu hu) hg hm boot_repr0 ha.pe (by decide) (by decide) he) fun σ H Q ⟨Mu, δ, b, Q', R, h, k⟩ =>
    cE.go R h fun v H1 d b1 R1 e1 q1 ⟨z, hz, h1⟩ => by
      unfold reprD at hz
      split at hz
      · rename_i ho
        cases hz
        exact ⟨v, d, rfl, q1.dp, ho, k _ H1 _ b1 R1 e1 (.str _) h1⟩
      · cases hz⟩
/-! ### a def that keeps its promise where nothing is being shown -/
structure FnOkG (P : Program) (w : World) (K : PySem.W.Frag) (mg : Str → Option Value) (base : Heap) (CX : CXT) (k : Nat) (f : Addr) (fd : FuncData) (ps : List Str) (sp : Sp) : Prop where
  len : ∀ ws H Q E, sp ws H Q E → ws.length = ps.length
  run : ∀ (A : Around) (outer : List Env) (s : Shared) (H : Hp) (args : Args) (us : List Value) (vs : List V) (Q : VK) (E : XK), A.guards = some [] → Room k A → Env0 P w K mg base A outer s H → BindsTo s fd args (ps.zip us) → Vals vs us → sp vs H Q E → codeAny (model P w) A (.call (.ref f) args) (CR CX outer P w H s Q E) s
theorem runG {X : Cx} {CX : CXT} {k : Nat} {f : Addr} {fd : FuncData} {ps : List Str} {sp : Sp} {E : XK} {pins : List (Addr × Obj)} {σ : L2.St} {H : Hp} {s : Shared} {Q : VK} {us : List Value} {vs : List V} (F : FnOkG X.prog X.w X.K X.mg X.base CX k f fd ps sp) (hgu : X.A.guards = some []) (hr : Room k X.A) (hb : Binds X.K fd ps []) (hx : Passes CX X E)
    (I : Inv X pins σ H s) (r : Vals vs us) (h : sp vs H Q E) : wpAny (model X.prog X.w) X.A (call (.ref f) us) (EP X pins σ Q) X.xe s := by
  have hl : (us ++ []).length = ps.length := by rw [List.append_nil, ← r.length]; exact F.len _ _ _ _ h
  have hbb := hb s us I.kIn hl
  rw [List.append_nil] at hbb
  refine wpAny_call (codeAny_mono (F.run X.A X.stack s H ⟨us, []⟩ us vs Q E hgu hr I.env0 hbb r h) fun r s' hq => ?_)
  cases r with
  | error er => exact hx pins σ H s er s' I hq
  | ok fl =>
    cases fl with
    | ret u => exact I.after hq
    | next => exact False.elim hq
    | brk => exact False.elim hq
    | cont => exact False.elim hq
structure CalG (P : Program) (w : World) (K : PySem.W.Frag) (mg : Str → Option Value) (base : Heap) (k : Nat) (x : Str) (sp : Sp) : Prop where
  at_ : mg x = some (.ref (He.ga K x))
  kp : PySem.W.keepIn K (.ref (He.ga K x)) = true
  ok : ∃ fd ps, FnOkG P w K mg base (L2.CX P w) k (He.ga K x) fd ps sp ∧ Binds K fd ps []
section
variable {X : Cx} {F : Fm} {e : Expr} {es : List Expr} {tas : TAD} {p pos : Pos} {k : Nat} {x : Str}
theorem d_callG {T : List PyData → (PyData → Prop) → Prop} (c : CalG X.prog X.w X.K X.mg X.base k x (spD X.K T)) (hgu : X.A.guards = some []) (hr : Room k X.A) (ha : PDA X F (e :: es) tas) (hg : Gl X x := by rfl) (hdb : (x == ("__debug__" : Str)) = false := by decide)
    (he : starEach (e :: es) X.env = (false, eval e X.env) :: starEach es X.env := by rfl) (hpl : (backTo pos (starEach es X.env)).any (·.1) = false := by rfl) : PD X F (.Call (.Name x p) (e :: es) [] pos) (dCall T tas) := by
  obtain ⟨fd, ps, h1, h2⟩ := c.ok
  refine ⟨⟨fun pins s σ H Q I h => ?_⟩⟩
  obtain ⟨Mu, δ, b, Q', R, h, k'⟩ := h
  refine wpAny_Call_Name_kw (ld_glob I hg c.at_ ?_ hdb)
  refine PySem.W.callWith_K (h₀ := X.base) I.ok.mod.kin c.kp (thn (ha.pa.run pos pins s σ H (fun vs H1 => spD X.K T vs H1 Q EF) I ?_) fun us s1 ⟨vs, H1, I1, r, q⟩ => ⟨I1.kIn, runG h1 hgu hr h2 (passF (P := X.prog) (w := X.w)) I1 r q⟩) he hpl
  exact cA.go R h fun vs H1 ds b1 R1 e1 q1 h1 => ⟨Mu, ds, fun d => Q' d b1, R1.tr, q1, h1, fun v H' d keep q hQ => k' v H' d b1 (R1.grow keep) (e1.trans (ExB.all keep)) q hQ⟩
end
/-! ### _law_like -/
def T_law_like : TSp := fun ds Q => ∃ d, ds = [d, d] ∧ okR d = true ∧ Q (.bool true)
abbrev N_law_like : List Str := ["_law_told_here", "_law_due"]
theorem sc_law_like : FnScope N_law_like ["_law_told_here", "_law_due"] (defScope (top 81)) := ⟨rfl, rfl, rfl, by decide +kernel, rfl, by decide +kernel, by decide +kernel⟩
def t_law_like : TSD := sRet (d2 eqD (d1 reprD (dVar 0)) (d1 reprD (dVar 1)))
theorem fnG {P : Program} {w : World} {K : PySem.W.Frag} {mg : Str → Option Value} {base : Heap} {x : Str} {params : Arguments} {body : List Stmt} {scope : Scope} {fd : FuncData} {N ps : List Str} {k : Nat} {T : List PyData → (PyData → Prop) → Prop} {t : TSD} (F : FunD K x x params body scope [] [] (He.ga K x) fd) (hm : mg x = some (.ref (He.ga K x))) (S : FnScope N ps scope)
    (hT : ∀ ds Q, T ds Q → ds.length = ps.length)
    (hb : ∀ (kV doc pm : Value) (an : Option Addr) (cdv ct : Value) (us : List Value), us.length = ps.length → bindArgs (PySem.W.fnOf x x params body scope .none kV doc pm an cdv ct) ⟨us, []⟩ = pure (ps.zip us))
    (hbody : ∀ (cdv : Value) (A : Around) (outer : List Env) (s : Shared) (H : Hp) (Fr : Fm) (E : XK), A.guards = some [] → Room k (A.deeper (envOfC x scope s.heap.objs.size (He.ga K x) cdv)) → PSsD (cxOf (L2.CX P w) P w K mg base N x scope (He.ga K x) cdv A outer s H E) Fr body t)
    (hp : ∀ ds Q, T ds Q → t { nx := fun _ _ => Q .none, rt := fun d _ => Q d } (startD N.length ds) 0) : CalG P w K mg base (k + 1) x (spD K T) := by
  have bd := F.bindsN hb
  obtain ⟨oc, od, dV, kV, doc, pm, an, cdv, ct, osl, efd, lk, hcd, _, _⟩ := F.ex
  refine ⟨hm, F.kp, fd, ps, ⟨fun vs H Q E z => ?_, fun A outer s H args us vs Q E hgu hr e0 hbt rv z => ?_⟩, bd⟩
  · obtain ⟨Mu, ds, Q', _, q, h, _⟩ := z
    rw [q.length]; exact hT ds Q' h
  · obtain ⟨Mu, ds, Q', tr, q, h, k'⟩ := z
    rw [efd] at lk hbt
    refine LamX.run_ofS (N := N) (ps := ps) (us := us) (vs := vs) lk hcd S hr e0 hbt rv (by rw [q.length]; exact hT ds Q' h) fun hr' => ⟨_, (hbody cdv A outer s H ⟨H, Mu, none⟩ E hgu hr').ps, Mu, _, 0, _, start_rep tr q, hp ds Q' h, ?_, fun _ _ _ _ _ _ _ z => z.elim, fun _ _ _ _ _ _ _ z => z.elim, ?_⟩
    · exact fun Mu' σ' H' δ' b' R _ z => k' _ _ _ (fun a o q => R.ext a o (fun e => nomatch e) q) .non z
    · exact fun v H' d b' e _ q z => k' _ _ _ (fun a o q => e a o (fun e => nomatch e) q) q z
theorem p_law_like : ∀ ds Q, T_law_like ds Q → t_law_like { nx := fun _ _ => Q .none, rt := fun d _ => Q d } (startD N_law_like.length ds) 0 := by
  rintro ds Q ⟨d, rfl, ho, h⟩
  have e : reprD d = some (.str d.shown) := if_pos ho
  refine ⟨_, rfl, _, e, _, rfl, _, e, _, eqD_ss _ _, ?_⟩
  rw [beq_self_eq_true]
  exact h
theorem l_law_like : ∀ ds Q, T_law_like ds Q → ds.length = 2 := by
  rintro ds Q ⟨d, rfl, _⟩; rfl
theorem ok_law_like {P : Program} {w : World} {K : PySem.W.Frag} {mg : Str → Option Value} {base : Heap} (W : Wo P w K mg base) (hrepr : mg "repr" = none) : CalG P w K mg base 1 "_law_like" (spD K T_law_like) := by
  obtain ⟨fd, Fd⟩ := W.fun 34 81 (x := "_law_like")
  exact fnG Fd (W.glo 79) sc_law_like l_law_like (fun _ _ _ _ _ _ us hl => match us, hl with | [_, _], _ => rfl) (fun cdv A outer s H F E hgu hr => (ss_one (s_ret (d_eq hr.units (d_repr rfl hrepr hgu hr.units (d_var 0)) (d_repr rfl hrepr hgu hr.units (d_var 1)))))) p_law_like
end Wk
namespace Wk
open L2 RZ PyProof.Rows PySem.Spec PySem
/-! ### an error that is held -/
/-- what K says of its class -/
structure ExcK (K : PySem.W.Frag) (C : Addr) (fld : Str) : Prop where
  cl : (PySem.W.clsIn K C).isSome = true
  gat : PySem.W.findIn K (.ref C) "__getattribute__" = some (some (.builtin "BaseException.__getattribute__"))
  gt : PySem.W.findIn K (.ref C) "__getattr__" = some none
  sub : PySem.W.subIn K (.ref C) (.type "BaseException") = some true
  cla : PySem.W.findIn K (.ref C) "__class__" = some (some (.builtin "object.__class__"))
  clg : PySem.W.specialIn K (.builtin "object.__class__") "__get__" = some (some (.builtin "getset_descriptor.__get__"))
  tk : PySem.W.takesIn K (.builtin "object.__class__") = some true
  ob : PySem.W.mroIn K C (.type "object") = some true
  dct : PySem.W.hasDictIn K C = true
  no : PySem.W.findIn K (.ref C) fld = some none
def exh (a C d : Addr) : HO := .ext fun h => ∃ (oe : Obj) (vs : Array Value), h.get? a = some oe ∧ oe.cls = .ref C ∧ oe.dict = some d ∧ oe.data = .fields vs
theorem exh_ok {P : Program} {w : World} {H : Hp} {h : Heap} {a C d : Addr} {oe : Obj} {vs : Array Value} (h1 : h.get? a = some oe) (h2 : oe.cls = .ref C) (h3 : oe.dict = some d) (h4 : oe.data = .fields vs) : ObjOk P w H h a (exh a C d) :=
  ⟨⟨oe, vs, h1, h2, h3, h4⟩, ⟨oe, h1⟩, fun g1 g2 ⟨o', vs', z1, z2, z3, z4⟩ k => ⟨o', vs', k _ z1, z2, z3, z4⟩⟩
theorem exh_at {P : Program} {w : World} {H : Hp} {h : Heap} {a C d : Addr} (hok : HOk P w H h) (he : H a = some (exh a C d)) : ∃ (oe : Obj) (vs : Array Value), h.get? a = some oe ∧ oe.cls = .ref C ∧ oe.dict = some d ∧ oe.data = .fields vs := by
  have x : ObjOk P w H h a (.ext fun h => ∃ (oe : Obj) (vs : Array Value), h.get? a = some oe ∧ oe.cls = .ref C ∧ oe.dict = some d ∧ oe.data = .fields vs) := hok a _ he
  exact x.1
def ErrP (K : PySem.W.Frag) (C : Addr) (fld : Str) (dv : PyData) : (Addr → Prop) → Hp → V → Prop := fun Mu H v => ∃ (a d : Addr) (u : V), v = .ref a ∧ ¬ Mu a ∧ H a = some (exh a C d) ∧ ¬ Mu d ∧ H d = some (.xd [(fld, u)]) ∧ Dq K Mu H u dv
theorem err_sta (K : PySem.W.Frag) (C : Addr) (fld : Str) (dv : PyData) : StaP (ErrP K C fld dv) :=
  ⟨fun Mu H H' v ⟨a, d, u, h1, h2, h3, h4, h5, h6⟩ e => ⟨a, d, u, h1, h2, e a _ h2 h3, h4, e d _ h4 h5, h6.exM e⟩,
   fun Mu Mu' H v ⟨a, d, u, h1, h2, h3, h4, h5, h6⟩ m => ⟨a, d, u, h1, fun z => (m a z).elim h2 (fun z => by rw [z] at h3; cases h3), h3, fun z => (m d z).elim h4 (fun z => by rw [z] at h5; cases h5), h5, h6.mu m⟩⟩
theorem err_inst {X : Cx} {pins : List (Addr × Obj)} {σ : L2.St} {H : Hp} {s : Shared} {a C d : Addr} {fs : List (Str × V)} (I : Inv X pins σ H s) (h1 : H a = some (exh a C d)) (h2 : H d = some (.xd fs)) :
    ∃ (oe od : Obj), PySem.W.InstAt s.heap a oe C (some od) ∧ ∀ f v, fs.lookup f = some v → ∃ u, PySem.W.lookIn f od = some (some u) ∧ RelV v u := by
  obtain ⟨oe, vs, e1, e2, e3, e4⟩ := exh_at I.hok h1
  have hx : ObjOk X.prog X.w H s.heap d (.xd fs) := I.hok d _ h2
  obtain ⟨mA, hns, hr⟩ := hx
  obtain ⟨od, ho, hl⟩ := lookIn_ns hns; refine ⟨oe, od, ⟨e1, e2, by unfold PySem.W.notCls; rw [e4] <;> rfl, by rw [e3]; exact ho⟩, fun f v hv => ?_⟩
  obtain ⟨u, hu, ru⟩ := RelO.some_of (v := v) (o := mA f) (by rw [← hv]; exact hr f)
  exact ⟨u, by rw [hl, hu], ru⟩
def rIsX (K : PySem.W.Frag) : List V → Hp → VK → Prop := fun xs H Q => ∃ (a C d D : Addr) (fs : List (Str × V)) (fld : Str) (b : Bool), xs = [.ref a, .ref D] ∧ H a = some (exh a C d) ∧ H d = some (.xd fs) ∧ ExcK K C fld ∧ PySem.W.kitOne K (.ref C) (.ref D) = some b ∧ Q (.bl b) H
theorem call_isX {X : Cx} : CallR X (.builtin "isinstance") (rIsX X.K) := by
  intro pins s σ H xs us Q I r h; obtain ⟨a, C, d, D, fs, fld, b, rfl, h1, h2, T, e, q⟩ := h
  cases r with
  | cons rx rr =>
    cases rr with
    | cons rt rr =>
      cases rr
      cases rx
      cases rt
      obtain ⟨oe, od, J, _⟩ := err_inst I h1 h2
      exact PySem.W.kia_one (PySem.W.kitx_exc (od := some od) T.cl T.gat T.gt T.sub T.cla T.clg T.tk T.ob) I.kIn J e (fun z => nomatch z) fun tk => ⟨.bl b, H, I.kept (t' := tk) fun _ _ z => z, rfl, q⟩
section
variable {X : Cx} {F : Fm} {x c : Str} {p p2 p3 pos : Pos} {f : Str}
@[simp] def dIsX (K : PySem.W.Frag) (i : Nat) (D : Addr) : TD := fun δ b Q => ∃ (C : Addr) (fld : Str) (dv : PyData) (bb : Bool), δ[i]? = some (.sta (ErrP K C fld dv)) ∧ ExcK K C fld ∧ PySem.W.kitOne K (.ref C) (.ref D) = some bb ∧ Q (.bool bb) b
theorem d_isx (i : Nat) (hg : Gl X "isinstance") (hm : X.mg "isinstance" = none) (hgc : Gl X c) (hmc : X.mg c = some (.ref (He.ga X.K c))) (hN : X.N[i]? = some x := by rfl) (hv : Vis X.env.scope x := by first | exact Or.inl rfl | exact Or.inr (Or.inl rfl) | exact Or.inr (Or.inr rfl)) (hd : (x == ("__debug__" : Str)) = false := by decide)
    (hcd : (x == ("__classdict__" : Str)) = false := by decide) (hdc : (c == ("__debug__" : Str)) = false := by decide) (he : starEach [.Name x p2, .Name c p3] X.env = (false, eval (.Name x p2) X.env) :: starEach [.Name c p3] X.env := by rfl) :
    PD X F (.Call (.Name "isinstance" p) [.Name x p2, .Name c p3] [] pos) (dIsX X.K i (He.ga X.K c)) :=
  ⟨PE.weak (pe_callB call_isX hg hm boot_isinstance (pa_cons (pe_var hN hv hd hcd) (pa_cons (pe_glob (v := .ref (He.ga X.K c)) hgc hmc rfl hdc) pa_nil rfl) he) (by decide) (by decide) he rfl) fun σ H Q ⟨Mu, δ, b, Q', R, ⟨C, fld, dv, bb, h1, T, h2, h3⟩, k⟩ => by
    obtain ⟨v, e, _, a, d, u, rfl, _, z1, _, z2, _⟩ := R.sl i _ h1
    exact ⟨_, e, a, C, d, _, _, fld, bb, rfl, z1, z2, T, h2, k _ H _ b R (ExB.refl H) (.bl bb) h3⟩⟩
@[simp] def dXf (K : PySem.W.Frag) (i : Nat) (f : Str) : TD := fun δ b Q => ∃ (C : Addr) (dv : PyData), δ[i]? = some (.sta (ErrP K C f dv)) ∧ ExcK K C f ∧ Q dv b
theorem d_xf (i : Nat) (hN : X.N[i]? = some x := by rfl) (hv : Vis X.env.scope x := by first | exact Or.inl rfl | exact Or.inr (Or.inl rfl) | exact Or.inr (Or.inr rfl)) (hd : (x == ("__debug__" : Str)) = false := by decide) (hcd : (x == ("__classdict__" : Str)) = false := by decide)
    (hb : attributeBase (.Name x p) f X.env (eval (.Name x p) X.env) = eval (.Name x p) X.env := by rfl) : PD X F (.Attribute (.Name x p) f pos) (dXf X.K i f) := by
  refine ⟨⟨fun pins s σ H Q I h => ?_⟩⟩
  obtain ⟨Mu, δ, b, Q', R, ⟨C, dv, h1, T, h3⟩, k⟩ := h
  obtain ⟨v, e, _, a, d, u, rfl, _, z1, _, z2, q⟩ := R.sl i _ h1
  refine attr_of hb (thn ((pe_var (X := X) (pos := p) hN hv hd hcd).run pins s σ H (fun v H' => v = .ref a ∧ H' = H) I ⟨_, e, rfl, rfl⟩) fun uu s1 hh => ?_)
  obtain ⟨x0, H1, I1, rx, ex, eH⟩ := hh
  subst ex
  subst eH
  obtain rfl : uu = Value.ref a := rx
  obtain ⟨oe, od, J, hl⟩ := err_inst I1 z1 z2
  obtain ⟨w', hw, rw'⟩ := hl f u (by simp)
  exact HandSPX.exc_get I1.kIn J T.gat T.gt T.sub (PySem.W.findObj_own T.dct T.no rfl hw) (handed_of rw') ⟨u, H1, I1.tok _, rw', k u H1 dv b R (ExB.refl H1) q h3⟩
end
end Wk
namespace Wk
open L2 RZ PyProof.Rows PySem.Spec PySem
/-! ### a list that is known to be a new one, and stays -/
def LstP (K : PySem.W.Frag) (ds : List PyData) : (Addr → Prop) → Hp → V → Prop := fun Mu H v => ∃ (l : Addr) (vs : List V), v = .ref l ∧ ¬ Mu l ∧ H l = some (.lst vs) ∧ DqAll K Mu H vs ds
theorem lst_sta (K : PySem.W.Frag) (ds : List PyData) : StaP (LstP K ds) :=
  ⟨fun Mu H H' v ⟨l, vs, h1, h2, h3, h4⟩ e => ⟨l, vs, h1, h2, e l _ h2 h3, h4.exM e⟩, fun Mu Mu' H v ⟨l, vs, h1, h2, h3, h4⟩ m => ⟨l, vs, h1, fun z => (m l z).elim h2 (fun z => by rw [z] at h3; cases h3), h3, h4.mu m⟩⟩
section
variable {X : Cx} {F : Fm} {e : Expr} {tas : TAD} {x : Str} {pos : Pos}
@[simp] def lSta (K : PySem.W.Frag) (i : Nat) : TAD := fun δ b Q => ∃ ds, δ[i]? = some (Sl.sta (LstP K ds)) ∧ Q ds b
theorem l_sta (i : Nat) (hN : X.N[i]? = some x := by rfl) (hv : Vis X.env.scope x := by first | exact Or.inl rfl | exact Or.inr (Or.inl rfl) | exact Or.inr (Or.inr rfl)) (hd : (x == ("__debug__" : Str)) = false := by decide)
    (hcd : (x == ("__classdict__" : Str)) = false := by decide) : PDL X F (.Name x pos) (lSta X.K i) :=
  ⟨PE.weak (pe_var hN hv hd hcd) fun σ H Q ⟨Mu, δ, b, Q', R, ⟨ds, h1, h2⟩, k⟩ => by
    obtain ⟨v, e, _, l, vs, rfl, z1, z2, z3⟩ := R.sl i _ h1
    exact ⟨_, e, k l H ds b R (ExB.refl H) (fun H2 b2 R2 e2 => ⟨vs, e2.2 l _ z1 z2, z3.ex e2⟩) h2⟩⟩
@[simp] def dLsta (K : PySem.W.Frag) (i : Nat) : TD := fun δ b Q => ∃ ds, δ[i]? = some (Sl.sta (LstP K ds)) ∧ Q (.list ds) b
theorem d_lsta (i : Nat) (hN : X.N[i]? = some x := by rfl) (hv : Vis X.env.scope x := by first | exact Or.inl rfl | exact Or.inr (Or.inl rfl) | exact Or.inr (Or.inr rfl)) (hd : (x == ("__debug__" : Str)) = false := by decide)
    (hcd : (x == ("__classdict__" : Str)) = false := by decide) : PD X F (.Name x pos) (dLsta X.K i) :=
  ⟨PE.weak (pe_var hN hv hd hcd) fun σ H Q ⟨Mu, δ, b, Q', R, ⟨ds, h1, h2⟩, k⟩ => by
    obtain ⟨v, e, _, l, vs, rfl, z1, z2, z3⟩ := R.sl i _ h1
    exact ⟨_, e, k _ H _ b R (ExB.refl H) (.lst (.of z2 z1) z3) h2⟩⟩
@[simp] def fLst (K : PySem.W.Frag) (t : TAD) : TFD := fun δ b Q => t δ b fun ds b1 => Q (.sta (LstP K ds)) b1
theorem PDN.fL (h : PDN X F e tas) : PDF X F e (fLst X.K tas) := ⟨PE.weak h.pe fun σ H Q ⟨Mu, δ, b, Q', R, h, k⟩ => ⟨Mu, δ, b, _, R, h, fun p H1 vs ds b1 R1 e1 hp hl q1 z =>
  k (.ref p) (upd H1 p (.lst vs)) (.sta (LstP X.K ds)) b1 Mu (R1.fresh hp) ((ExS.ofB e1).trans (ExS.ofB (F := F) (ExB.new hp))) ⟨fun a o n w => by rw [upd_ne (ne_of_none (e1.1 a o n w) hp)]; exact e1.1 a o n w, fun _ _ z => by cases z⟩ ⟨lst_sta _ _, p, vs, rfl, R1.nmu hp, upd_same, q1.exM (ExM.new hp)⟩ z⟩⟩
end
/-! ### _law_word_of -/
abbrev N_law_word_of : List Str := ["_law_error", "_law_rows", "_law_words", "_law_word", "_law_holds"]
theorem sc_law_word_of : FnScope N_law_word_of ["_law_error"] (defScope (top 84)) := ⟨rfl, rfl, rfl, by decide +kernel, rfl, by decide +kernel, by decide +kernel⟩
def t_law_word_of (K : PySem.W.Frag) : TSD := (sSeq (sSet 1 (fLst K (aLst (aCons (dTup (aCons (dC (.str "house")) (aCons (dIsX K 0 (He.ga K "BadHouse")) aNil))) (aCons (dTup (aCons (dC (.str "tree")) (aCons (dIsX K 0 (He.ga K "BadTree")) aNil))) aNil))))) (sSeq (sSet 1 (fLst K (nCat (lSta K 1) (aLst (aCons (dTup (aCons (dC (.str "move")) (aCons (dIsX K 0 (He.ga K "BadMove")) aNil))) (aCons (dTup (aCons (dC (.str "shape")) (aCons (dIsX K 0 (He.ga K "BadShape")) aNil))) aNil)))))) (sSeq (sSet 1 (fLst K (nCat (lSta K 1) (aLst (aCons (dTup (aCons (dC (.str "name")) (aCons (dIsX K 0 (He.ga K "BadName")) aNil))) (aCons (dTup (aCons (dC (.str "cut")) (aCons (dIsX K 0 (He.ga K "BadCut")) aNil))) aNil)))))) (sSeq (sSet 1 (fLst K (nCat (lSta K 1) (aLst (aCons (dTup (aCons (dC (.str "row")) (aCons (dIsX K 0 (He.ga K "BadRow")) aNil))) (aCons (dTup (aCons (dC (.str "order")) (aCons (dIsX K 0 (He.ga K "BadOrder")) aNil))) aNil)))))) (sSeq (sSet 1 (fLst K (nCat (lSta K 1) (aLst (aCons (dTup (aCons (dC (.str "number")) (aCons (dIsX K 0 (He.ga K "BadNumber")) aNil))) (aCons (dTup (aCons (dC (.str "text")) (aCons (dIsX K 0 (He.ga K "BadText")) aNil))) aNil)))))) (sSeq (sSet 1 (fLst K (nCat (lSta K 1) (aLst (aCons (dTup (aCons (dC (.str "great")) (aCons (dIsX K 0 (He.ga K "TooGreat")) aNil))) (aCons (dTup (aCons (dC (.str "left")) (aCons (dIsX K 0 (He.ga K "NothingLeft")) aNil))) aNil)))))) (sSeq (sSet 2 (fDat (dList (nLc (iL (dLsta K 1)) (.tup [(.nm 3), (.nm 4)]) (dTest (dVar 4)) (dVar 3) [3, 4])))) (sSeq (sIf (dTest (d2 neD (d1 lenD (dVar 2)) (dC (.int 1)))) (sRet (dTup (aCons (dC (.str "other")) aNil))) sNext) (sSeq (sIf (dTest (d2 inD (d2 idxD (dVar 2) (dC (.int 0))) (dTup (aCons (dC (.str "house")) (aCons (dC (.str "tree")) (aCons (dC (.str "move")) aNil)))))) (sRet (dTup (aCons (d2 idxD (dVar 2) (dC (.int 0))) (aCons (dXf K 0 "place") aNil)))) sNext) (sSeq (sIf (dTest (d2 eqD (d2 idxD (dVar 2) (dC (.int 0))) (dC (.str "text")))) (sRet (dTup (aCons (dC (.str "text")) (aCons (dXf K 0 "line") aNil)))) sNext) (sSeq (sIf (dTest (d2 eqD (d2 idxD (dVar 2) (dC (.int 0))) (dC (.str "great")))) (sRet (dTup (aCons (dC (.str "great")) (aCons (dXf K 0 "most") aNil)))) sNext) (sRet (dIf (dTest (d2 eqD (d2 idxD (dVar 2) (dC (.int 0))) (dC (.str "left")))) (dTup (aCons (dC (.str "left")) aNil)) (dTup (aCons (d2 idxD (dVar 2) (dC (.int 0))) (aCons (dXf K 0 "value") aNil))))))))))))))))
theorem b_law_word_of {P : Program} {w : World} {K : PySem.W.Frag} {mg : Str → Option Value} {base : Heap} (W : Wo P w K mg base)
    (cdv : Value) (A : Around) (outer : List Env) (s : Shared) (H : Hp) (F : Fm) (E : XK) (hr : Room 0 (A.deeper (envOfC "_law_word_of" (defScope (top 84)) s.heap.objs.size (He.ga K "_law_word_of") cdv))) :
    PSsD (cxOf (L2.CX P w) P w K mg base N_law_word_of "_law_word_of" (defScope (top 84)) (He.ga K "_law_word_of") cdv A outer s H E) F (defBody (top 84)) (t_law_word_of K) :=
  (ss_cons (s_set 1 sc_law_word_of.nd (PDN.fL (n_lst (a_cons (d_tup (a_cons d_str (a_cons (d_isx 0 rfl (W.free 0) rfl (W.glo 106)) a_nil))) (a_cons (d_tup (a_cons d_str (a_cons (d_isx 0 rfl (W.free 0) rfl (W.glo 107)) a_nil))) a_nil))))) (ss_cons (s_set 1 sc_law_word_of.nd (PDN.fL (n_cat (l_sta 1) (PDN.l (n_lst (a_cons (d_tup (a_cons d_str (a_cons (d_isx 0 rfl (W.free 0) rfl (W.glo 108)) a_nil))) (a_cons (d_tup (a_cons d_str (a_cons (d_isx 0 rfl (W.free 0) rfl (W.glo 109)) a_nil))) a_nil))))))) (ss_cons (s_set 1 sc_law_word_of.nd (PDN.fL (n_cat (l_sta 1) (PDN.l (n_lst (a_cons (d_tup (a_cons d_str (a_cons (d_isx 0 rfl (W.free 0) rfl (W.glo 110)) a_nil))) (a_cons (d_tup (a_cons d_str (a_cons (d_isx 0 rfl (W.free 0) rfl (W.glo 111)) a_nil))) a_nil))))))) (ss_cons (s_set 1 sc_law_word_of.nd (PDN.fL (n_cat (l_sta 1) (PDN.l (n_lst (a_cons (d_tup (a_cons d_str (a_cons (d_isx 0 rfl (W.free 0) rfl (W.glo 112)) a_nil))) (a_cons (d_tup (a_cons d_str (a_cons (d_isx 0 rfl (W.free 0) rfl (W.glo 113)) a_nil))) a_nil))))))) (ss_cons (s_set 1 sc_law_word_of.nd (PDN.fL (n_cat (l_sta 1) (PDN.l (n_lst (a_cons (d_tup (a_cons d_str (a_cons (d_isx 0 rfl (W.free 0) rfl (W.glo 114)) a_nil))) (a_cons (d_tup (a_cons d_str (a_cons (d_isx 0 rfl (W.free 0) rfl (W.glo 115)) a_nil))) a_nil))))))) (ss_cons (s_set 1 sc_law_word_of.nd (PDN.fL (n_cat (l_sta 1) (PDN.l (n_lst (a_cons (d_tup (a_cons d_str (a_cons (d_isx 0 rfl (W.free 0) rfl (W.glo 116)) a_nil))) (a_cons (d_tup (a_cons d_str (a_cons (d_isx 0 rfl (W.free 0) rfl (W.glo 117)) a_nil))) a_nil))))))) (ss_cons (s_setLcD 2 [("_law_word", 3), ("_law_holds", 4)] rfl sc_law_word_of.nd (i_lst (d_lsta 1)) (blkOk_by (N := N_law_word_of) (sc := defScope (top 84)) (by decide +kernel)) (by decide) (fun _ _ _ _ _ => (g_tup rfl (g_cons (g_nm 3 sc_law_word_of.nd) (g_cons (g_nm 4 sc_law_word_of.nd) g_nil)))) (fun _ _ _ _ _ => (ts_one (d_val (d_var 4)))) (fun _ _ _ _ _ => (d_var 3)) (by rfl)) (ss_cons (s_if (d_neT hr.units (d_len rfl (W.free 1) (d_var 2)) d_int) (ss_one (s_ret (d_tup (a_cons d_str a_nil)))) ss_nil) (ss_cons (s_if (d_inT (d_ix (d_var 2) d_int (by intro _ _; rfl)) (d_tup (a_cons d_str (a_cons d_str (a_cons d_str a_nil))))) (ss_one (s_ret (d_tup (a_cons (d_ix (d_var 2) d_int (by intro _ _; rfl)) (a_cons (d_xf 0) a_nil))))) ss_nil) (ss_cons (s_if (d_eqT hr.units (d_ix (d_var 2) d_int (by intro _ _; rfl)) d_str) (ss_one (s_ret (d_tup (a_cons d_str (a_cons (d_xf 0) a_nil))))) ss_nil) (ss_cons (s_if (d_eqT hr.units (d_ix (d_var 2) d_int (by intro _ _; rfl)) d_str) (ss_one (s_ret (d_tup (a_cons d_str (a_cons (d_xf 0) a_nil))))) ss_nil) (ss_one (s_ret (d_ifExp (d_eqT hr.units (d_ix (d_var 2) d_int (by intro _ _; rfl)) d_str) (d_tup (a_cons d_str a_nil)) (d_tup (a_cons (d_ix (d_var 2) d_int (by intro _ _; rfl)) (a_cons (d_xf 0) a_nil)))))))))))))))))
end Wk
namespace Wk
open L2 RZ PyProof.Rows PySem.Spec PySem
/-! ### _law_word_of: what it answers -/
/-- which of the twelve classes C is one of -/
structure WordK (K : PySem.W.Frag) (C : Addr) (g : Nat) : Prop where
  house : PySem.W.kitOne K (.ref C) (.ref (He.ga K "BadHouse")) = some (g == 0)
  tree : PySem.W.kitOne K (.ref C) (.ref (He.ga K "BadTree")) = some (g == 1)
  move : PySem.W.kitOne K (.ref C) (.ref (He.ga K "BadMove")) = some (g == 2)
  shape : PySem.W.kitOne K (.ref C) (.ref (He.ga K "BadShape")) = some (g == 3)
  name : PySem.W.kitOne K (.ref C) (.ref (He.ga K "BadName")) = some (g == 4)
  cut : PySem.W.kitOne K (.ref C) (.ref (He.ga K "BadCut")) = some (g == 5)
  row : PySem.W.kitOne K (.ref C) (.ref (He.ga K "BadRow")) = some (g == 6)
  order : PySem.W.kitOne K (.ref C) (.ref (He.ga K "BadOrder")) = some (g == 7)
  number : PySem.W.kitOne K (.ref C) (.ref (He.ga K "BadNumber")) = some (g == 8)
  text : PySem.W.kitOne K (.ref C) (.ref (He.ga K "BadText")) = some (g == 9)
  great : PySem.W.kitOne K (.ref C) (.ref (He.ga K "TooGreat")) = some (g == 10)
  left : PySem.W.kitOne K (.ref C) (.ref (He.ga K "NothingLeft")) = some (g == 11)
def T_word (K : PySem.W.Frag) (C : Addr) (fld : Str) (dv : PyData) (Q : PyData → Prop) : Prop := ExcK K C fld ∧ ∃ g w, WordK K C g ∧ ((g = 0 ∧ fld = "place" ∧ w = "house") ∨ (g = 6 ∧ fld = "value" ∧ w = "row")) ∧ Q (.tuple [.str w, dv])
theorem wl {s0 s1 s2 s3 s4 : Sl} {w : Str} {c : Bool} {ds acc : List PyData} {b : Nat} {Q : List PyData → Nat → Prop} (h : lcGo (.tup [(.nm 3), (.nm 4)]) (dTest (dVar 4)) (dVar 3) [s0, s1, s2, s3, s4] ds (if c = true then acc ++ [.str w] else acc) b Q) :
    lcGo (.tup [(.nm 3), (.nm 4)]) (dTest (dVar 4)) (dVar 3) [s0, s1, s2, s3, s4] (.tuple [.str w, .bool c] :: ds) acc b Q := by
  refine ⟨_, rfl, _, rfl, c, rfl, ?_⟩
  cases c
  · rw [if_neg (by decide)] at h ⊢
    exact h
  · rw [if_pos rfl] at h ⊢
    exact ⟨_, rfl, h⟩
theorem neD_11 : neD (.int 1) (.int 1) = some (.bool false) := by rfl
theorem p_law_word_of {K : PySem.W.Frag} {C : Addr} {fld : Str} {dv : PyData} {Q : PyData → Prop} (h : T_word K C fld dv Q) :
    t_law_word_of K { nx := fun _ _ => Q .none, rt := fun d _ => Q d } (.sta (ErrP K C fld dv) :: startD 4 []) 0 := by
  obtain ⟨T, g, w, k, h, q⟩ := h
  have le : ∀ n : Nat, n ≤ 24 → n ≤ sizeLine := fun n h => Nat.le_trans h (by rw [line_eq]; decide)
  have two : (2 : Nat) ≤ sizeLine := by rw [line_eq]; decide
  rcases h with ⟨rfl, rfl, rfl⟩ | ⟨rfl, rfl, rfl⟩
  · refine ⟨C, _, dv, true, rfl, T, k.house, two, C, _, dv, false, rfl, T, k.tree, two, two, ?_⟩
    refine ⟨_, rfl, C, _, dv, false, rfl, T, k.move, two, C, _, dv, false, rfl, T, k.shape, two, two, le _ (by show (_:Nat) ≤ 24; decide), ?_⟩
    refine ⟨_, rfl, C, _, dv, false, rfl, T, k.name, two, C, _, dv, false, rfl, T, k.cut, two, two, le _ (by show (_:Nat) ≤ 24; decide), ?_⟩
    refine ⟨_, rfl, C, _, dv, false, rfl, T, k.row, two, C, _, dv, false, rfl, T, k.order, two, two, le _ (by show (_:Nat) ≤ 24; decide), ?_⟩
    refine ⟨_, rfl, C, _, dv, false, rfl, T, k.number, two, C, _, dv, false, rfl, T, k.text, two, two, le _ (by show (_:Nat) ≤ 24; decide), ?_⟩
    refine ⟨_, rfl, C, _, dv, false, rfl, T, k.great, two, C, _, dv, false, rfl, T, k.left, two, two, le _ (by show (_:Nat) ≤ 24; decide), ?_⟩
    refine ⟨?_, _, rfl, _, rfl, le _ (by show (_:Nat) ≤ 24; decide), ?_⟩
    · intro i hi ds z; simp at hi; rcases hi with rfl | rfl <;> simp [startD] at z
    refine wl (wl (wl (wl (wl (wl (wl (wl (wl (wl (wl (wl ?_)))))))))))
    refine ⟨_, rfl, _, rfl, _, neD_11, _, rfl, ?_⟩
    rw [if_neg (by decide)]
    refine ⟨_, rfl, _, rfl, le 3 (by decide), _, inD_tup0 "house" ["house", "tree", "move"], _, rfl, ?_⟩
    rw [show inS "house" ["house", "tree", "move"] = true from by decide +kernel, if_pos rfl]
    exact ⟨_, rfl, _, rfl, C, dv, rfl, T, two, q⟩
  · refine ⟨C, _, dv, false, rfl, T, k.house, two, C, _, dv, false, rfl, T, k.tree, two, two, ?_⟩
    refine ⟨_, rfl, C, _, dv, false, rfl, T, k.move, two, C, _, dv, false, rfl, T, k.shape, two, two, le _ (by show (_:Nat) ≤ 24; decide), ?_⟩
    refine ⟨_, rfl, C, _, dv, false, rfl, T, k.name, two, C, _, dv, false, rfl, T, k.cut, two, two, le _ (by show (_:Nat) ≤ 24; decide), ?_⟩
    refine ⟨_, rfl, C, _, dv, true, rfl, T, k.row, two, C, _, dv, false, rfl, T, k.order, two, two, le _ (by show (_:Nat) ≤ 24; decide), ?_⟩
    refine ⟨_, rfl, C, _, dv, false, rfl, T, k.number, two, C, _, dv, false, rfl, T, k.text, two, two, le _ (by show (_:Nat) ≤ 24; decide), ?_⟩
    refine ⟨_, rfl, C, _, dv, false, rfl, T, k.great, two, C, _, dv, false, rfl, T, k.left, two, two, le _ (by show (_:Nat) ≤ 24; decide), ?_⟩
    refine ⟨?_, _, rfl, _, rfl, le _ (by show (_:Nat) ≤ 24; decide), ?_⟩
    · intro i hi ds z; simp at hi; rcases hi with rfl | rfl <;> simp [startD] at z
    refine wl (wl (wl (wl (wl (wl (wl (wl (wl (wl (wl (wl ?_)))))))))))
    refine ⟨_, rfl, _, rfl, _, neD_11, _, rfl, ?_⟩
    rw [if_neg (by decide)]
    refine ⟨_, rfl, _, rfl, le 3 (by decide), _, inD_tup0 "row" ["house", "tree", "move"], _, rfl, ?_⟩
    rw [show inS "row" ["house", "tree", "move"] = false from by decide +kernel, if_neg (by decide)]
    refine ⟨_, rfl, _, rfl, _, eqD_ss "row" "text", _, rfl, ?_⟩
    rw [if_neg (by decide +kernel)]; refine ⟨_, rfl, _, rfl, _, eqD_ss "row" "great", _, rfl, ?_⟩
    rw [if_neg (by decide +kernel)]; refine ⟨_, rfl, _, rfl, _, eqD_ss "row" "left", _, rfl, ?_⟩
    rw [if_neg (by decide +kernel)]; exact ⟨_, rfl, _, rfl, C, dv, rfl, T, two, q⟩
/-- asked of an error that is held -/
def spErr (K : PySem.W.Frag) : Sp := fun vs H Q _ => ∃ (Mu : Addr → Prop) (C : Addr) (fld : Str) (dv : PyData) (v : V) (Q' : PyData → Prop), vs = [v] ∧ (∀ a, Mu a → H a ≠ none) ∧ ErrP K C fld dv Mu H v ∧ T_word K C fld dv Q' ∧
  ∀ v H' d, (∀ a o, H a = some o → H' a = some o) → Dq K Mu H' v d → Q' d → Q v H'
theorem start_repE {K : PySem.W.Frag} {Mu : Addr → Prop} {H : Hp} {v : V} {n : Str} {N : List Str} {P : (Addr → Prop) → Hp → V → Prop} (tr : ∀ a, Mu a → H a ≠ none) (hP : StaP P) (q : P Mu H v) : Rep K ⟨H, Mu, none⟩ Mu (L2.start (n :: N) [v]) H (.sta P :: startD N.length []) 0 := by
  have R := start_rep (K := K) (Mu := Mu) (H := H) (vs := []) (ds := []) (N := N) tr .nil
  have e : L2.start (n :: N) [v] = some v :: L2.start N [] := by simp [L2.start]
  rw [e]
  refine ⟨by simp [R.len], fun a o _ z => z, fun a z => z, tr, fun a z => .inl z, fun i s hs => ?_, fun i j es es' hn h1 h2 => ?_, fun m' hm' => nomatch hm'⟩
  · cases i with
    | zero => simp at hs; subst hs; exact ⟨v, rfl, hP, q⟩
    | succ i =>
      have := R.sl i s (by simpa using hs)
      cases s with
      | no => trivial
      | _ => exact this
  · cases i with
    | zero => simp at h1
    | succ i =>
      cases j with
      | zero => simp at h2
      | succ j => simpa using R.own1 i j es es' (by omega) (by simpa using h1) (by simpa using h2)
theorem ok_law_word_of {P : Program} {w : World} {K : PySem.W.Frag} {mg : Str → Option Value} {base : Heap} (W : Wo P w K mg base) : Cal P w K mg base 1 "_law_word_of" (spErr K) := by
  obtain ⟨fd, Fd⟩ := W.fun 37 84 (x := "_law_word_of")
  refine ⟨W.glo 82, Fd.kp, fd, ["_law_error"], Fd.ok sc_law_word_of (fun vs H Q E z => ?_) (fun cdv A outer s H vs Q E hr z => ?_), Fd.bindsN fun _ _ _ _ _ _ us hl => match us, hl with | [_], _ => rfl⟩
  · obtain ⟨Mu, C, fld, dv, v, Q', rfl, _⟩ := z
    rfl
  · obtain ⟨Mu, C, fld, dv, v, Q', rfl, tr, q, h, k'⟩ := z
    refine ⟨_, (b_law_word_of W cdv A outer s H ⟨H, Mu, none⟩ E hr).ps, Mu, _, 0, _, start_repE tr (err_sta K C fld dv) q, p_law_word_of h, ?_, fun _ _ _ _ _ _ _ z => z.elim, fun _ _ _ _ _ _ _ z => z.elim, ?_⟩
    · exact fun Mu' σ' H' δ' b' R _ z => k' _ _ _ (fun a o q => R.ext a o (fun e => nomatch e) q) .non z
    · exact fun v H' d b' e _ q z => k' _ _ _ (fun a o q => e a o (fun e => nomatch e) q) q z
end Wk
namespace Wk
open L2 RZ PyProof.Rows PySem.Spec PySem
/-! ### an error is kept beyond its clause -/
theorem adopt {X : Cx} {pins : List (Addr × Obj)} {σ : L2.St} {H : Hp} {s : Shared} {a C d : Addr} {oe : Obj} {vs : Array Value} (I : Inv X pins σ H s) (n0 : X.s_0.heap.get? a = none) (np : ∀ p ∈ X.pn ++ pins, p.1 ≠ a) (nL : a ≠ X.env.locals) (na : H a = none)
    (h1 : s.heap.get? a = some oe) (h2 : oe.cls = .ref C) (h3 : oe.dict = some d) (h4 : oe.data = .fields vs) : Inv X pins σ (upd H a (exh a C d)) s := by
  have keepH : ∀ b o, H b = some o → upd H a (exh a C d) b = some o := fun b o z => by
    rw [upd_ne (fun e => by rw [e, na] at z; cases z)]; exact z
  refine ⟨I.ok, I.os, I.bare, ⟨I.base.keep, I.base.slot, fun b o e n hx => ?_, I.base.there, fun b xs z => keepH _ _ (I.base.tups b xs z), fun b o u z => keepH _ _ (I.base.frzs b o u z), fun b ps z => ?_⟩, I.loc, I.cell, ?_, fun x c e => ?_, fun p hp => ?_, ?_, I.len⟩
  · rw [upd_ne (fun z => by rw [z, n0] at e; cases e)]
    exact I.base.free b o e n hx
  · obtain ⟨more, q⟩ := I.base.tbls b ps z
    exact ⟨more, keepH _ _ q⟩
  · rw [upd_ne (Ne.symm nL)]; exact I.free
  · rw [upd_ne (fun z => ?_)]
    · exact I.freeC x c e
    · obtain ⟨w, o, k1, k2⟩ := I.cell x c e
      rw [z, h1] at k1
      cases k1
      simp_all
  · obtain ⟨e, n, k⟩ := I.pin p hp
    exact ⟨e, by rw [upd_ne (np p hp)]; exact n, k⟩
  · exact HOk.laidN I.hok (fun _ _ z => z) na (exh_ok h1 h2 h3 h4)
theorem fly_keeps {B : Heap} {l : List Env} {e : Addr} {Z : Obj → Prop} {h h' : Heap} (R : HandSPX.FlyingZ B l e Z h) (k : ∀ b o, h.get? b = some o → h'.get? b = some o) : HandSPX.FlyingZ B l e Z h' := by
  obtain ⟨f1, f2, f3, oe, vs, T, oT, ts, he, hz, hd, g1, hn, hne, hT, hdT, g3⟩ := R
  exact ⟨fun b o q => k b o (f1 b o q), f2, f3.of_keeps fun b o q _ => ⟨o, k b o q, rfl⟩, oe, vs, T, oT, ts, k _ _ he, hz, hd, g1, hn, hne, k _ _ hT, hdT, g3⟩
/-- what `except (x1, x2, x3) as n` wishes, where the error is kept: slot i is n's -/
def wKeep (K : PySem.W.Frag) (n : Nat) (cs : List Value) (i : Nat) (ts : Addr → TS) (D : Ends) : WX := fun cls d σ H => ∃ C dd, cls = .ref C ∧ d = some dd ∧ PySem.W.exmAny K cls cs = some true ∧
  ∀ a, H a = none → σ.length = n → ts a { nx := fun σ' H' => D.nx (σ'.set i none) (upd H' a (exh a C dd)), rt := fun _ _ => False, bk := fun _ _ => False, ct := fun _ _ => False } (σ.set i (some (.ref a))) H
section
variable {X : Cx} {x1 x2 x3 n : Str} {c1 c2 c3 : Value} {i : Nat} {body suite : List Stmt} {b₀ : Stmt} {p1 p2 p3 np pos pos' : Pos} {k : Nat} {tb : WX → TS} {ts : Addr → TS}
theorem ps_try_keep (hex0 : X.ex = []) (hs : X.stack = X.env :: X.outer) (hf : X.env.frame = some X.env.locals) (hN : X.N.Nodup) (hi : X.N[i]? = some n) (hln : X.env.kindOf n = some .local) (n1 : Names X x1 c1) (n2 : Names X x2 c2) (n3 : Names X x3 c3)
    (hb : ∀ (W : WX) (pn : List (Addr × Obj)) (xx : Value → Shared → Prop), Takes (X.tr pn xx) W → PassesOwn (model X.prog X.w) X.A X.env xx → PSs (X.tr pn xx) body (tb W))
    (hsu : ∀ (a : Addr) (oe : Obj) (pn : List (Addr × Obj)), (∃ vs, oe.data = .fields vs) → PSs (X.suite a ((a, oe) :: pn)) (b₀ :: suite) (ts a)) :
    PS X (.Try body [.ExceptHandler (some (.Tuple [.Name x1 p1, .Name x2 p2, .Name x3 p3] k np)) (some n) (b₀ :: suite) pos'] [] [] pos) (fun D σ H => tb (wKeep X.K X.N.length [c1, c2, c3] i ts D) D σ H) := by
  refine ⟨fun pins s σ H D I h => ?_⟩; have ok := I.ok
  have frE : X.A.frames = some (X.env :: X.outer) := by rw [ok.frames, hs]
  have locE : Loc X.env.scope n := .inl hln
  refine wpAny_Try_except ?_
  refine wpAny_mono ((hb (wKeep X.K X.N.length [c1, c2, c3] i ts D) (X.pn ++ pins) (fun e s₁ => wpAny (model X.prog X.w) X.A (noteFrame e X.env) (fun _ s₂ => wpAny (model X.prog X.w) X.A (setFlight e none) (fun _ s₃ =>
    wpAny (model X.prog X.w) X.A (handleBy e X.env [.ExceptHandler (some (.Tuple [.Name x1 p1, .Name x2 p2, .Name x3 p3] k np)) (some n) (b₀ :: suite) pos']) (SP X pins D) X.xe s₃) X.xe s₂) X.xe s₁) (fun u s' xx => ?_) PassesOwn.looking).run [] s σ H D (I.toTry _) h) (fun f s1 sp1 => ?_) (fun e s1 he => he)
  · obtain ⟨a, B, sI, pins', σ', H', cls, d, rfl, J', nb, up, sky, na, os, ag, C, dd, rfl, rfl, hx, hyes⟩ := xx
    have J : Inv X pins σ' H' sI := J'.ofTry ok; have sky' : Sky B (X.env :: X.outer) a (Zc (.ref C) (some dd)) X.env.locals s'.heap := by rw [← hs]; exact sky
    show wpAny (model X.prog X.w) X.A (noteFrame (.ref a) X.env) _ _ _; refine Sky.land Zc.steady frE hf sky' fun h3 y3 u3 => ?_
    have bn : B.get? a = none := y3.2.1
    have I3 : Inv X pins σ' H' { s' with heap := h3 } := J.landed nb y3.1 (up.trans u3) os ag
    obtain ⟨o3, v3, k3, z3, d3⟩ := y3.there
    have offFr : ∀ {h : Heap} {o : Obj} {vs : Array Value}, h.FunFrames B (X.env :: X.outer) → h.get? a = some o → o.data = .fields vs → a ∉ frs (X.env :: X.outer) := fun {h o vs} ff e dd hm => by
      obtain ⟨_, o', e', noF⟩ := ff.mem hm
      rw [e] at e'; cases e'
      exact noF _ dd
    have offA := offFr y3.2.2.1 k3 d3
    have neL : a ≠ X.env.locals := fun z => offA (List.mem_filterMap.mpr ⟨X.env, List.mem_cons_self, by rw [hf, z]⟩)
    have offF : a ∉ X.fs := fun hm => by
      obtain ⟨e, he, q⟩ := List.mem_filterMap.mp hm; exact offA (List.mem_filterMap.mpr ⟨e, List.mem_cons_of_mem _ he, q⟩)
    have fresh : sI.heap.get? a = none := by
      cases q : sI.heap.get? a with
      | none => rfl
      | some o =>
        have := nb a o q (by rw [hs]; exact offA)
        rw [bn] at this; cases this
    have new0 : X.s_0.heap.get? a = none := by
      cases q : X.s_0.heap.get? a with
      | none => rfl
      | some o =>
        obtain ⟨o', e'⟩ := J.base.there a o q (by rw [hex0]; simp)
        rw [fresh] at e'; cases e'
    have np' : ∀ p ∈ X.pn ++ pins, p.1 ≠ a := fun p hp z => by
      have := (J.pin p hp).1
      rw [z, fresh] at this; cases this
    have T3 := I3.suite k3 d3 na neL offF
    refine wpAny_handleBy_cons (codeAny_handlers_test ?_) (by intro q; cases q); have LT : PySem.W.Looks (model X.prog X.w) h3 (typeOf (.ref a)) (.ref C) := fun A Q E s k q => wpAny_typeOf_ref (k _ _ k3) (by rw [z3.1]; exact q)
    have test : ∀ {x : Str} {c : Value} {p : Pos}, Names X x c → ∀ {Q : Value → Shared → Prop} {E : Value → Shared → Prop}, Q c { s' with heap := h3 } → wpAny (model X.prog X.w) (X.A.mark (some (.ref a))) (eval (.Name x p) X.env) Q E { s' with heap := h3 } := fun {x c p} hc {Q E} q => by
      obtain ⟨glx, dbx, hm | ⟨hm, hv, nnx⟩⟩ := hc
      · exact ld_glob (X := X.suite a ((a, o3) :: (X.pn ++ pins))) T3 glx hm q dbx
      · exact ld_blt (X := X.suite a ((a, o3) :: (X.pn ++ pins))) T3 glx hm hv q nnx dbx
    refine wpAny_Tuple ?_
    refine wpAny_items_cons (test n1 ?_)
    refine wpAny_items_cons (test n2 ?_)
    refine wpAny_items_cons (test n3 ?_)
    refine wpAny_items_nil ⟨by size_fits, ?_⟩; have kp : ∀ q o, h3.get? q = some o → (h3.push { cls := .type "tuple", data := .seq [c1, c2, c3].toArray }).get? q = some o := fun _ _ z => Heap.get?_push_of_some _ z
    refine (PySem.W.exm_tup3 (M := model X.prog X.w) (I3.kIn.keeps kp) (LT.keeps kp) (Heap.get?_push_size h3 rfl) hx).here ?_
    have fl5 := fly_keeps y3 kp
    refine codeAny_handlers_suite_as ?_; refine HandSPX.lands_againZ fl5 fun h4 y4 u4 => ?_
    have I4 : Inv X pins σ' H' { s' with heap := h4 } := J.landed nb y4.1 (((up.trans u3).trans (Heap.UpToSlots.of_keeps kp)).trans u4) os ag
    obtain ⟨o4, v4, k4, z4, d4⟩ := y4.there
    have T4 := I4.suite k4 d4 na neL offF
    refine store_ok (X := X.suite a ((a, o4) :: (X.pn ++ pins))) (v := .ref a) T4 hN hi locE rfl (fun s5 T5 => ?_) (.inr hln)
    refine wpAny_mono ((hsu a o4 (X.pn ++ pins) ⟨_, d4⟩).run [] s5 _ H' _ T5 (hyes a na J.len)) (fun f s6 sp1 => ?_) (fun _ _ z => False.elim z)
    cases f with
    | next =>
      obtain ⟨σ6, H6, T6, r6⟩ := sp1
      obtain ⟨e6, na6, _⟩ := T6.pin (a, o4) (List.mem_append_left _ List.mem_cons_self)
      exact gone_ok (adopt (T6.unsuite ok) new0 np' neL na6 e6 z4.1 z4.2 d4) hN hi hln fun s7 J7 => ⟨_, _, J7, r6⟩
    | brk => obtain ⟨_, _, _, q⟩ := sp1; exact q.elim
    | cont => obtain ⟨_, _, _, q⟩ := sp1; exact q.elim
    | ret u => obtain ⟨_, _, _, _, _, q⟩ := sp1; exact q.elim
  · cases f with
    | next =>
      obtain ⟨σ', H', J', q⟩ := sp1; exact wpAny_execs_nil ⟨σ', H', J'.ofTry ok, q⟩
    | brk =>
      obtain ⟨σ', H', J', q⟩ := sp1; exact ⟨σ', H', J'.ofTry ok, q⟩
    | cont =>
      obtain ⟨σ', H', J', q⟩ := sp1; exact ⟨σ', H', J'.ofTry ok, q⟩
    | ret u =>
      obtain ⟨v, σ', H', J', r, q⟩ := sp1; exact ⟨v, σ', H', J'.ofTry ok, r, q⟩
end
end Wk
namespace Wk
open L2 RZ PyProof.Rows PySem.Spec PySem
/-! ### _law_told, of a call that raises -/
abbrev N_law_told : List Str := ["_law_call", "_law_found", "_law_error", "e"]
theorem sc_law_told : FnScope N_law_told ["_law_call"] (defScope (top 85)) := ⟨rfl, rfl, rfl, by decide +kernel, rfl, by decide +kernel, by decide +kernel⟩
def TTK (K : PySem.W.Frag) (cs : List Value) : (XK → Hp → VK → Prop) → Hp → VK → Prop := fun tl H Q => ∀ (Qn : VK) (H1 : Hp), (∀ b o, H b = some o → H1 b = some o) →
  tl (fun cls d H' => ∃ C dd, cls = .ref C ∧ d = some dd ∧ PySem.W.exmAny K cls cs = some true ∧ ∀ a, H' a = none → spErr K [.ref a] (upd H' a (exh a C dd)) Q EF) H1 Qn
theorem start_repR {K : PySem.W.Frag} {H : Hp} {f : Addr} {n : Str} {N : List Str} : Rep K ⟨H, fun _ => False, none⟩ (fun _ => False) (L2.start (n :: N) [.ref f]) H (.raw (.ref f) :: startD N.length []) 0 := by
  have R := start_rep (K := K) (Mu := fun _ => False) (H := H) (vs := []) (ds := []) (N := N) (fun _ z => z.elim) .nil
  have e : L2.start (n :: N) [.ref f] = some (.ref f) :: L2.start N [] := by simp [L2.start]
  rw [e]
  refine ⟨by simp [R.len], fun a o _ z => z, fun a z => z, fun _ z => z.elim, fun a z => .inl z, fun i s hs => ?_, fun i j es es' hn h1 h2 => ?_, fun m' hm' => nomatch hm'⟩
  · cases i with
    | zero => simp at hs; subst hs; rfl
    | succ i =>
      have := R.sl i s (by simpa using hs)
      cases s with
      | no => trivial
      | _ => exact this
  · cases i with
    | zero => simp at h1
    | succ i =>
      cases j with
      | zero => simp at h2
      | succ j => simpa using R.own1 i j es es' (by omega) (by simpa using h1) (by simpa using h2)
theorem told_gives {X : Cx} (W : Wo X.prog X.w X.K X.mg X.base) {g : Addr} {cdg : Value} {q : Str} (hr : ∀ s : Shared, Room 1 (X.A.deeper (envOfC "_law_told" (defScope (top 85)) s.heap.objs.size g cdg))) (n1 : X.mg "WakeError" = some (.ref (He.ga X.K "WakeError"))) (n2 : X.mg "TooGreat" = some (.ref (He.ga X.K "TooGreat"))) (n3 : X.mg "NothingLeft" = some (.ref (He.ga X.K "NothingLeft"))) :
    LamX.GivesTo X N_law_told "_law_told" (defScope (top 85)) g cdg (defBody (top 85)) "_law_call" q (TTK X.K (toldCs X.K)) := by
  intro f c' s H Q tl act hc h
  obtain ⟨fd, ps, w1, w2⟩ := (ok_law_word_of W).ok
  have nd : N_law_told.Nodup := by decide +kernel
  let Y : Cx := (cxOf C8.CX0 X.prog X.w X.K X.mg X.base N_law_told "_law_told" (defScope (top 85)) g cdg X.A X.stack s H C8.E0).nox
  have hc1 : Gl Y "WakeError" := rfl
  refine ⟨_, pss_cons (s_asg (X := Y) (F := ⟨H, fun _ => False, none⟩) (d_tup (a_cons d_non (a_cons d_non a_nil))) (g_tup rfl (g_cons (g_nm 1 nd) (g_cons (g_nm 2 nd) g_nil)))).ps (pss_cons (ps_try_keep (X := Y) (i := 3) (c1 := .ref (He.ga X.K "WakeError")) (c2 := .ref (He.ga X.K "TooGreat")) (c3 := .ref (He.ga X.K "NothingLeft"))
      (tb := fun W D σ H => ∃ Ech : XK, (∀ cls d σ' H', Ech cls d H' → W cls d σ' H') ∧ σ[0]? = some (some (.ref f)) ∧ H c' = some (LamX.CodeO c' q) ∧ tl Ech H fun v H' => D.nx (σ.set 1 (some v)) H')
      rfl rfl rfl nd rfl rfl ⟨rfl, rfl, .inl n1⟩ ⟨rfl, rfl, .inl n2⟩ ⟨rfl, rfl, .inl n3⟩ (fun W pn xe tk _ => ?_) (fun a oe pn _ => pss_one (ps_set (i := 2) nd rfl (.inl rfl) (pe_var (i := 3) rfl (.inl rfl)))))
    (pss_one (ps_ret (pe_ifExp (pt_cmpR op_isN (pe_var (i := 2) rfl (.inl rfl)) pe_non rfl) (pe_lst (pa_cons (pe_var (i := 1) rfl (.inl rfl)) pa_nil rfl))
      (pe_call w1 (hr s) (by rfl) (ok_law_word_of W).at_ (ok_law_word_of W).kp w2 (dvs := []) .nil (E := EF) passF (pa_cons (pe_var (i := 2) rfl (.inl rfl)) pa_nil rfl)))))), ?_⟩
  · refine ⟨fun pins s' σ H' D I h' => ?_⟩; obtain ⟨Ech, hW, h1, h2, h3⟩ := h'
    exact (pss_one (ps_set (X := Y.tr pn xe) (i := 1) nd rfl (.inl rfl) (act W pn xe Ech _ _ tk hW))).run pins s' σ H' D I ⟨h1, h2, h3⟩
  · refine ⟨fun _ => False, [.raw (.ref f), .no, .no, .no], 0, { nx := fun δ _ => δ = [.raw (.ref f), .dat .none, .dat .none, .no], rt := fun _ _ => False }, start_repR (n := "_law_call") (N := ["_law_found", "_law_error", "e"]) (f := f), ⟨by rw [line_eq]; decide, _, rfl, rfl⟩, ?_, fun _ _ _ _ _ _ _ z => z.elim, fun _ _ _ _ _ _ _ z => z.elim, fun _ _ _ _ _ _ _ z => z.elim⟩
    intro Mu' σ' H' δ' b' R _ eδ
    have eδ' : δ' = [.raw (.ref f), .dat .none, .dat .none, .no] := eδ
    subst eδ'
    have h0 := R.sl 0 _ rfl
    have hc2 := R.ext _ _ (fun z => nomatch z) hc
    refine ⟨fun cls d H' => ∃ C dd, cls = .ref C ∧ d = some dd ∧ PySem.W.exmAny X.K cls (toldCs X.K) = some true ∧ ∀ a, H' a = none → spErr X.K [.ref a] (upd H' a (exh a C dd)) Q EF, ?_, h0, hc2, ?_⟩
    · rintro cls d σ2 H2 ⟨C, dd, rfl, rfl, hx, k⟩
      refine ⟨C, dd, rfl, rfl, hx, fun a na hl => ?_⟩
      have hl4 : σ2.length = 4 := hl
      have e3 : (σ2.set 3 (some (V.ref a)))[3]? = some (some (V.ref a)) := List.getElem?_set_self (by omega)
      refine ⟨.ref a, e3, ?_⟩
      have e2 : (((σ2.set 3 (some (V.ref a))).set 2 (some (V.ref a))).set 3 none)[2]? = some (some (V.ref a)) := by
        rw [List.getElem?_set_ne (by decide), List.getElem?_set_self (by simp; omega)]
      refine ⟨.ref a, e2, rfl, ?_⟩
      refine ⟨false, rfl, ?_⟩
      exact ⟨.ref a, e2, k a na⟩
    · exact h _ _ fun b o z => R.ext b o (fun z => nomatch z) z
end Wk
namespace Wk
open L2 RZ PyProof.Rows PySem.Spec PySem LamX
/-! ### a lambda with one parameter that has a number as default; it captures nothing -/
/-- what the making leaves: the function at f, its default's tuple at t -/
structure MadeL (s : Shared) (H : Hp) (stack : List Env) (q y : Str) (z : Int) (params : Arguments) (body : Expr) (scope : Scope) (f t c' : Addr) (pm ctv dc : Value) : Prop where
  fn : s.heap.get? f = some (PySem.W.kdv_obj "<lambda>" q params (.expr body) scope [] (.ref t) dc pm c' ctv)
  tp : ∃ tk, s.heap.get? t = some (PySem.W.kdv_tup [.int z tk])
  fH : H f = none
  tH : H t = none
  fF : f ∉ frs stack
  tF : t ∉ frs stack
  co : H c' = some (CodeO c' q)
section
variable {s : Shared} {X : Cx} {σ : L2.St} {H : Hp} {pins : List (Addr × Obj)}
theorem notFr (I : Inv X pins σ H s) {s' : Shared} (J : Inv X pins σ H s') {f : Addr} (hf : s'.heap.objs.size ≤ f) : f ∉ frs X.stack := fun z => by
  rcases List.mem_cons.mp (J.stkSub _ z) with e | e
  · have := J.lt
    rw [← e] at this
    exact Nat.lt_irrefl _ (Nat.lt_of_lt_of_le this hf)
  · exact J.nofs hf e
theorem lam_makeD {T : List (Addr × Str)} {c P : Addr} {params : Arguments} {body : Expr} {scope : Scope} {y : Str} {z : Int} {j : Nat} {dp pos : Pos} {E : Value → Shared → Prop} {Q : Value → Shared → Prop} (I : Inv X pins σ H s) (TB : TabB X.base X.mg c P) (hcode : X.env.code = .ref c)
    (hm : (P, X.env.qual ++ "<lambda>") ∈ T) (hu : ∀ p ∈ T, p.1 = P → p.2 = X.env.qual ++ "<lambda>") (hT : Tabs T H) (hd : params.defaults = [.Constant (.int z) j dp]) (hk : params.kw_defaults = []) (hcl : closureFor scope X.env = pure [])
    (h : ∀ (f t c' : Addr) (pm ctv dc : Value) (H1 : Hp) (s' : Shared), Inv X pins σ H1 s' → ExtN H H1 → Tabs T H1 → MadeL s' H1 X.stack (X.env.qual ++ "<lambda>") y z params body scope f t c' pm ctv dc → Q (.ref f) s') : wpAny (model X.prog X.w) X.A (eval (.Lambda params body scope pos) X.env) Q E s := by
  refine PySem.W.kdv_lam (by rw [hd]; rfl) hk ?_
  rw [hd]
  refine PySem.W.kdv_all1 ?_
  refine thn ((pe_int (X := X) (i := z) (j := j) (pos := dp)).run pins s σ H (fun v H' => v = .int z ∧ H' = H) I ⟨rfl, rfl⟩) fun u s1 hh => ?_
  obtain ⟨v0, H0, I0, r0, e0, eH0⟩ := hh
  subst e0
  subst eH0
  obtain ⟨tk0, rfl⟩ := r0
  refine PySem.W.kdv_all0 ?_
  rw [makeFunction_eq]
  simp only [List.zip_nil_right, List.filterMap_nil, List.isEmpty_nil, if_true, pure_bind, List.isEmpty_cons, Bool.false_eq_true, if_false]
  refine wpAny_bind (wpAny_newTextTuple ?_); have tup0 : (s1.heap.push (PySem.W.kdv_tup [.int z tk0])).get? s1.heap.objs.size = some (PySem.W.kdv_tup [.int z tk0]) := Heap.get?_push_size _ rfl
  have I2 : Inv X pins σ H0 { s1 with heap := s1.heap.push (PySem.W.kdv_tup [.int z tk0]) } := I0.kept (t' := s1.toks) fun b o e => Heap.get?_push_of_some _ e
  have tNone : H0 s1.heap.objs.size = none := I0.hok.fresh (Nat.le_refl _)
  have tFr : s1.heap.objs.size ∉ frs X.stack := notFr I0 I0 (Nat.le_refl _)
  obtain ⟨ps, hP, ht, ha⟩ := hT _ hm; have hP' : (s1.heap.push (PySem.W.kdv_tup [.int z tk0])).get? P = some { cls := .none, data := .fields ps } := I2.hok P _ hP
  have bP := TB.bm.keeps I2.bk
  cases am : codeAmong pos ps.toList with
  | some cv =>
    obtain ⟨c', rfl, hco⟩ := ha pos cv am
    refine PySem.W.kdv_makeTailHit (mg := X.mg) (c := c) (P := P) (ps := ps) hcl I.ok.glob (I.mod.glob.keeps I2.bk) hcode (TB.code.keeps I2.bk) hP' ht am bP fun ctv doc h' tk hx hsz => ?_
    have I3 : Inv X pins σ H0 { s1 with heap := h'.push (PySem.W.kdv_obj "<lambda>" (X.env.qual ++ "<lambda>") params (.expr body) scope [] (.ref s1.heap.objs.size) doc ((X.mg "__name__").getD .none) c' ctv), toks := tk } := I2.kept fun b o e => Heap.get?_push_of_some _ (hx b o e)
    exact h h'.objs.size s1.heap.objs.size c' _ ctv doc H0 _ I3 (ExtN.refl H0) hT ⟨Heap.get?_push_size _ rfl, ⟨tk0, Heap.get?_push_of_some _ (hx _ _ tup0)⟩, I2.hok.fresh hsz, tNone, notFr I2 I2 hsz, tFr, hco⟩
  | none =>
    refine PySem.W.kdv_makeTail (mg := X.mg) (c := c) (P := P) (ps := ps) hcl I.ok.glob (I.mod.glob.keeps I2.bk) hcode (TB.code.keeps I2.bk) hP' ht am TB.gP bP fun c' ctv doc h' tk hx hge hlt hrec htb => ?_
    obtain ⟨c2, oc, vs, t, e2, hoc, hd2, hv⟩ := hrec
    cases e2
    have nC : H0 c' = none := I2.hok.fresh hge
    have n1 : P ≠ c' := ne_of_none hP nC
    have J := inv_table (t' := tk) (more := #[rawInt pos.line, rawInt pos.col, .ref c']) (h' := h'.push (PySem.W.kdv_obj "<lambda>" (X.env.qual ++ "<lambda>") params (.expr body) scope [] (.ref s1.heap.objs.size) doc ((X.mg "__name__").getD .none) c' ctv)) I2 hP
      (fun b o hb e => Heap.get?_push_of_some _ (hx b o hb e)) (Heap.get?_push_of_some _ htb) hge ⟨oc, vs, t, Heap.get?_push_of_some _ hoc, hd2, hv⟩
    have grow : ExtN H0 (upd (upd H0 P (.tbl (ps ++ #[rawInt pos.line, rawInt pos.col, .ref c']))) c' (CodeO c' (X.env.qual ++ "<lambda>"))) := by
      intro b o e n
      have w1 : b ≠ c' := ne_of_none e nC
      have w2 : b ≠ P := fun z => n ps (by rw [z, hP] at e; exact (Option.some.inj e).symm)
      rw [upd_ne w1, upd_ne w2, e]
    have sz2 : (s1.heap.push (PySem.W.kdv_tup [.int z tk0])).objs.size ≤ h'.objs.size := Nat.le_trans hge (Nat.le_of_lt hlt)
    have tC : s1.heap.objs.size ≠ c' := by
      have hge' : (s1.heap.push (PySem.W.kdv_tup [.int z tk0])).objs.size ≤ c' := hge
      rw [Heap.size_push] at hge'
      exact Nat.ne_of_lt hge'
    have tP : s1.heap.objs.size ≠ P := fun w => by rw [w, hP] at tNone; cases tNone
    refine h h'.objs.size s1.heap.objs.size c' _ ctv doc _ _ J grow (fun p hp => ?_) ⟨Heap.get?_push_size _ rfl, ⟨tk0, Heap.get?_push_of_some _ (hx _ _ tP tup0)⟩, ?_, ?_, notFr I2 I2 sz2, tFr, upd_same⟩
    · by_cases hb : p.1 = P
      · have listE : (ps ++ #[rawInt pos.line, rawInt pos.col, .ref c']).toList = ps.toList ++ [rawInt pos.line, rawInt pos.col, .ref c'] := by simp
        rw [hu p hp hb, hb]
        refine ⟨_, by rw [upd_ne n1, upd_same], listE ▸ PySem.TriplesOk_snoc _ _ _ _ ht, fun p' cv hcv => ?_⟩
        rw [listE] at hcv
        rcases among_app _ ht hcv with w | w
        · obtain ⟨c0, k1, k2⟩ := ha p' cv w
          exact ⟨c0, k1, grow _ _ k2 codeO_ne⟩
        · exact ⟨c', w, upd_same⟩
      · obtain ⟨qs, a1, a2, a3⟩ := hT p hp
        refine ⟨qs, ?_, a2, fun p' cv hcv => ?_⟩
        · rw [upd_ne (ne_of_none a1 nC), upd_ne hb]
          exact a1
        · obtain ⟨c0, k1, k2⟩ := a3 p' cv hcv
          exact ⟨c0, k1, grow _ _ k2 codeO_ne⟩
    · have m1 : h'.objs.size ≠ c' := Nat.ne_of_gt hlt
      have m2 : h'.objs.size ≠ P := fun w => by
        have lt := Heap.lt_size hP'
        have sz2' : (s1.heap.push (PySem.W.kdv_tup [.int z tk0])).objs.size ≤ h'.objs.size := sz2
        rw [← w] at lt
        exact Nat.lt_irrefl _ (Nat.lt_of_lt_of_le lt sz2')
      rw [upd_ne m1, upd_ne m2]
      exact I2.hok.fresh sz2
    · rw [upd_ne tC, upd_ne tP]
      exact tNone
end
end Wk
namespace Wk
open L2 RZ PyProof.Rows PySem.Spec PySem LamX
section
variable {s : Shared} {X : Cx} {σ : L2.St} {H : Hp} {pins : List (Addr × Obj)}
/-- the def that got the lambda calls it -/
theorem act_D {CXg : CXT} {Eg : XK} {Ng : List Str} {qg q y : Str} {z : Int} {sg : Scope} {g f t c' : Addr} {cdg pm ctv dc : Value} {params : Arguments} {body : Expr} {scope : Scope} {k i : Nat} {a : Str} {pn : List (Addr × Obj)} {xe : Value → Shared → Prop} {W : WX} {E : XK} {tb : TE} {p1 p2 : Pos}
    (I : Inv X pins σ H s) (M : MadeL s H X.stack q y z params body scope f t c' pm ctv dc) (S : FnScope [y] [y] scope)
    (hbind : ∃ kk : Option (Array Value) → Sem (List (Str × Value)), bindArgs (PySem.W.kdv_fn "<lambda>" q params (.expr body) scope [] (.ref t) dc pm (.ref c') ctv) ⟨[], []⟩ = seqItems? (.ref t) >>= kk ∧ ∀ v, kk (some #[v]) = pure [(y, v)]) (tk : Takes ((cxOf CXg X.prog X.w X.K X.mg X.base Ng qg sg g cdg X.A X.stack s H Eg).tr pn xe) W) (hW : ∀ cls d σ' H', E cls d H' → W cls d σ' H') (hr : Room (k + 1) (X.A.deeper (envOfC qg sg s.heap.objs.size g cdg)))
    (hbody : ∀ (A : Around) (outer : List Env) (s : Shared) (H : Hp), Room k (A.deeper (envOfC q scope s.heap.objs.size f (.ref c'))) → PE (cxOf (L2.CX X.prog X.w) X.prog X.w X.K X.mg X.base [y] q scope f (.ref c') A outer s H E) body tb) (hN : Ng[i]? = some a) (hv : Vis sg a) (hd : (a == ("__debug__" : Str)) = false := by decide) (hcd : (a == ("__classdict__" : Str)) = false := by decide) : PE ((cxOf CXg X.prog X.w X.K X.mg X.base Ng qg sg g cdg X.A X.stack s H Eg).tr pn xe) (.Call (.Name a p1) [] [] p2)
      (fun σZ HZ Q => σZ[i]? = some (some (.ref f)) ∧ HZ c' = some (CodeO c' q) ∧ tb (L2.start [y] [.int z]) HZ Q) := by
  constructor
  rintro pinsZ sZ σZ HZ Q IZ ⟨hs, hc, htb⟩
  refine wpAny_Call_Name_kw (thn ((pe_var (pos := p1) (i := i) hN hv hd hcd).run pinsZ sZ σZ HZ (fun v H1 => v = .ref f ∧ H1 = HZ) IZ ⟨.ref f, hs, rfl, rfl⟩) ?_)
  rintro u s1 ⟨v, H1, J, r1, rfl, rfl⟩
  obtain rfl : u = Value.ref f := r1; have nex : ∀ b : Addr, b ∉ (([] : List Addr)) := fun b w => nomatch w
  have atF := J.base.keep f _ M.fn M.fH M.fF (nex f)
  obtain ⟨tk0, tp⟩ := M.tp
  have atT := J.base.keep t _ tp M.tH M.tF (nex t)
  obtain ⟨⟨oc, cs, ct, o1, o2, o3⟩, _, _⟩ := J.hok c' _ hc
  refine PySem.W.callWith_F0 ⟨_, _, _, _, atF⟩ ?_
  have ps : Passes (L2.CX X.prog X.w) ((cxOf CXg X.prog X.w X.K X.mg X.base Ng qg sg g cdg X.A X.stack s H Eg).tr pn xe) E := passes_call tk hW
  have e0 := J.env0
  obtain ⟨kk, b1, b2⟩ := hbind
  have bto : BindsTo s1 (PySem.W.kdv_fn "<lambda>" q params (.expr body) scope [] (.ref t) dc pm (.ref c') ctv) ⟨[], []⟩ ([y].zip [Value.int z tk0]) := BindsTo.of_defaults (n := 0) (items := #[Value.int z tk0]) rfl atT rfl b1 (b2 _)
  have rc : codeAny (model X.prog X.w) (X.A.deeper (envOfC qg sg s.heap.objs.size g cdg)) (.call (.ref f) ⟨[], []⟩) (CR (L2.CX X.prog X.w) (envOfC qg sg s.heap.objs.size g cdg :: X.stack) X.prog X.w H1 s1 Q E) s1 := by
    refine PySem.W.kla_callFunE hr.depth atF rfl S.co S.gen rfl ⟨c', oc, cs, ct, rfl, o1, o2, o3⟩ (bto _ _ _ _ ?_)
    refine wpAny_newFunctionEnv_cells S.kind (fun x hx => ?_) fun env he s2 x => ?_
    · obtain rfl : x = (y, Value.int z tk0) := by simpa using hx
      rcases S.par y (by simp) with w | w
      · exact .inl w
      · exact .inr ⟨w, PySem.W.cellsFrom_some _ _ _ (.inl w)⟩
    subst he
    refine ⟨J.nolimit.keeps x.toInCall.keep, PySem.W.kla_codeExpr ?_⟩
    have I2 := inv_start (CX := L2.CX X.prog X.w) (E := E) (f := f) (cd := .ref c') (qual := q) S hr.hd e0 (vs := [.int z]) (us := [Value.int z tk0]) rfl (.cons ⟨tk0, rfl⟩ .nil) x
    refine wpAny_mono ((hbody _ _ s1 H1 (hr.deeper _)).run [] s2 _ H1 Q I2 htb) (fun v s' hq => ?_) fun e s' hq => hq
    obtain ⟨w', H', J', rv, qq⟩ := hq
    exact ⟨w', H', J'.os, J'.bare, J'.base, J'.hok, rv, qq⟩
  refine wpAny_call (codeAny_mono rc fun r s' hq => ?_); cases r with
  | error e => exact ps pinsZ σZ H1 s1 e s' J hq
  | ok fl =>
    cases fl with
    | ret u => exact J.after hq
    | next => exact hq.elim
    | brk => exact hq.elim
    | cont => exact hq.elim
/-- x(lambda y=z: body) -/
theorem pe_lamcallD {T : List (Addr × Str)} {TT : (XK → Hp → VK → Prop) → Hp → VK → Prop} {x a y : Str} {z : Int} {j : Nat} {dp : Pos} {g c P : Addr} {k : Nat} {pg : Arguments} {bg : List Stmt} {sg : Scope} {dV kV doc pm cdv ct oc : Value} {an od : Option Addr} {osl : Array (Option Value)} {Ng : List Str} {params : Arguments} {body : Expr} {scope : Scope} {t : XK → TE} {p lpos pos : Pos} (hg : Gl X x) (hm : X.mg x = some (.ref g)) (hk : PySem.W.keepIn X.K (.ref g) = true) (lk : X.K.lookup g = some ⟨oc, od, .func (PySem.W.fnOf x x pg bg sg dV kV doc pm an cdv ct), osl⟩) (hcg : PySem.W.codeIn X.K cdv x = true) (hb : L2.Binds X.K (PySem.W.fnOf x x pg bg sg dV kV doc pm an cdv ct) [a] []) (Sg : FnScope Ng [a] sg) (hNg : Ng[0]? = some a) (hva : Vis sg a) (hG : GivesTo X Ng x sg g cdv bg a (X.env.qual ++ "<lambda>") TT)
    (TB : TabB X.base X.mg c P) (hcode : X.env.code = .ref c) (hmT : (P, X.env.qual ++ "<lambda>") ∈ T) (hu : ∀ p ∈ T, p.1 = P → p.2 = X.env.qual ++ "<lambda>") (hr : Room (k + 2) X.A) (S : FnScope [y] [y] scope) (hd0 : params.defaults = [.Constant (.int z) j dp]) (hk0 : params.kw_defaults = []) (hcl : closureFor scope X.env = pure [])
    (hbind : ∀ (q : Str) (t : Addr) (dc pm cv ctv : Value), ∃ kk : Option (Array Value) → Sem (List (Str × Value)), bindArgs (PySem.W.kdv_fn "<lambda>" q params (.expr body) scope [] (.ref t) dc pm cv ctv) ⟨[], []⟩ = seqItems? (.ref t) >>= kk ∧ ∀ v, kk (some #[v]) = pure [(y, v)])
    (hbody : ∀ (A : Around) (outer : List Env) (s : Shared) (H : Hp) (E : XK) (f c' : Addr), Room k (A.deeper (envOfC (X.env.qual ++ "<lambda>") scope s.heap.objs.size f (.ref c'))) → PE (cxOf (L2.CX X.prog X.w) X.prog X.w X.K X.mg X.base [y] (X.env.qual ++ "<lambda>") scope f (.ref c') A outer s H E) body (t E)) (hdb : (x == ("__debug__" : Str)) = false := by decide) (hd : (a == ("__debug__" : Str)) = false := by decide) (hcd : (a == ("__classdict__" : Str)) = false := by decide) :
    PE X (.Call (.Name x p) [.Lambda params body scope lpos] [] pos) (fun _ H Q => Tabs T H ∧ ∀ H1, ExtN H H1 → Tabs T H1 → TT (fun E H' Q' => t E (L2.start [y] [.int z]) H' Q') H1 Q) := by
  constructor
  rintro pins s σ H Q I ⟨hT, h⟩
  refine wpAny_Call_Name_kw (ld_glob I hg hm ?_ hdb); refine PySem.W.callWith_K (h₀ := X.base) I.ok.mod.kin hk ?_ (by rfl) (by rfl)
  show wpAny _ _ (spliced ((false, eval (.Lambda params body scope lpos) X.env) :: backTo pos (starEach [] X.env))) _ _ s; refine Calls.spliced_cons (lam_makeD (y := y) I TB hcode hmT hu hT hd0 hk0 hcl ?_)
  intro f t' c' pm' ctv dc H1 s' I1 eN T1 M
  refine Calls.spliced_nil ⟨I1.kIn, ?_⟩; have rc : codeAny (model X.prog X.w) X.A (.call (.ref g) ⟨[.ref f], []⟩) (CR C8.CX0 X.stack X.prog X.w H1 s' Q C8.E0) s' := by
    refine run_ofS (N := Ng) (ps := [a]) (us := [.ref f]) (vs := [.ref f]) lk hcg Sg hr I1.env0 (hb s' [.ref f] I1.kIn rfl) (.cons rfl .nil) rfl fun hr' => ?_; obtain ⟨t2, h2, q2⟩ := hG f c' s' H1 Q (fun E H' Q' => t E (L2.start [y] [.int z]) H' Q') (fun W pn xe E p1 p2 tk hW => act_D (i := 0) I1 M S (hbind _ _ _ _ _ _) tk hW hr' (fun A outer s H hr2 => hbody A outer s H E f c' hr2) hNg hva hd hcd) M.co (h H1 eN T1)
    exact ⟨t2, h2.nox, q2⟩
  refine wpAny_call (codeAny_mono rc fun r s2 hq => ?_); cases r with
  | error er => exact (show False from hq).elim
  | ok fl =>
    cases fl with
    | ret u => exact I1.after hq
    | next => exact hq.elim
    | brk => exact hq.elim
    | cont => exact hq.elim
end
end Wk
namespace Wk
open L2 RZ PyProof.Rows PySem.Spec PySem
/-! ### how long a shown thing is -/
def lowS (z : Str) : Prop := ∀ c ∈ TL.tl z, c < 127
theorem low_join {y : Str} {zs : List Str} (hy : lowS y) (h : ∀ z ∈ zs, lowS z) : lowS (Txt.join y zs) := fun c hc => by
  rw [TL.join_eq, TL.tl_join] at hc
  rcases mem_joinL hc with hc | ⟨p, hp, hc⟩
  · exact hy c hc
  · obtain ⟨z, hz, rfl⟩ := List.mem_map.mp hp
    exact h z hz c hc
theorem okW_low {z : Str} (h : okW z) : lowS z := fun c hc => (h.2 c hc).2
theorem low_sp {ws : List Str} (h : ∀ w ∈ ws, okW w) : lowS (sp ws) := low_join (by unfold lowS; decide +kernel) fun z hz => okW_low (h z hz)
theorem low_repr {z : Str} (h : lowS z) : (reprText z).length ≤ 10 * z.length + 2 := StrLaws.reprText_len z fun c hc => Nat.lt_trans (h c hc) (by decide)
theorem okR_str {z : Str} (h : lowS z) (hl : z.length ≤ 1000000) : okR (.str z) = true := by
  have := low_repr h
  unfold okR
  rw [decide_eq_true_eq, line_eq]
  omega
theorem piled_le : ∀ {ts : List Str} {n : Nat}, (∀ t ∈ ts, t.length ≤ n) → piled ts ≤ ts.length * (n + 2)
  | [], _, _ => by simp [piled]
  | t :: r, n, h => by
    have h1 := h t (by simp)
    have ih := piled_le (ts := r) (n := n) fun x hx => h x (by simp [hx])
    simp only [piled, List.map_cons, List.sum_cons, List.length_cons, Nat.add_mul] at ih ⊢
    omega
theorem from_le : ∀ (ts : List Str) (k : Nat) (acc : Str), (textFrom k acc ts).length ≤ acc.length + piled ts
  | [], k, acc => by simp [textFrom, piled]
  | t :: r, k, acc => by
    have ih := from_le r (k + 1) (acc ++ (if k > 0 then ", " else "" : String) ++ t)
    have el : (acc ++ (if k > 0 then ", " else "" : String) ++ t).length ≤ acc.length + 2 + t.length := by
      rw [strLen_append, strLen_append]; split
      · exact Nat.le_refl _
      · exact Nat.add_le_add_right (Nat.add_le_add_left (Nat.zero_le 2) _) _
    have e2 : textFrom k acc (t :: r) = textFrom (k + 1) (acc ++ (if k > 0 then ", " else "" : String) ++ t) r := rfl
    rw [e2]
    simp only [piled, List.map_cons, List.sum_cons] at ih ⊢
    omega
theorem lst_le {ts : List Str} {n : Nat} (h : ∀ t ∈ ts, t.length ≤ n) : (listText ts).length ≤ ts.length * (n + 2) + 4 := by
  have h1 := from_le ts 0 "["
  have h2 := piled_le h
  have e : (listText ts).length = (textFrom 0 "[" ts).length + 1 := by
    show (textFrom 0 "[" ts ++ "]").length = _; rw [strLen_append]
    rfl
  have e2 : (("[" : String) : Str).length = 1 := rfl
  rw [e2] at h1
  omega
theorem tup_le {ts : List Str} {n : Nat} (h : ∀ t ∈ ts, t.length ≤ n) : (tupleText ts).length ≤ ts.length * (n + 2) + 4 := by
  have h2 := piled_le h
  have h3 : (Str.join ", " ts).length ≤ piled ts := by
    cases ts with
    | nil => exact Nat.zero_le _
    | cons t r => have := join_length_add (t :: r) (by simp); omega
  have e : (tupleText ts).length = 1 + (Str.join ", " ts).length + (if ts.length == 1 then 2 else 1) := by
    unfold tupleText
    rw [strLen_append, strLen_append]; split <;> rfl
  rw [e]
  split <;> omega
/-- d can be shown, in at most n signs; it is k deep -/
structure Vol (n k : Nat) (d : PyData) : Prop where
  sh : d.showable = true
  nd : d.hasDict = false
  dp : d.depth ≤ k
  ln : d.shown.length ≤ n
theorem Vol.mono {n n' k k' : Nat} {d : PyData} (v : Vol n k d) (h : n ≤ n') (h' : k ≤ k') : Vol n' k' d := ⟨v.sh, v.nd, Nat.le_trans v.dp h', Nat.le_trans v.ln h⟩
theorem vol_all {n k : Nat} : ∀ {xs : List PyData}, (∀ x ∈ xs, Vol n k x) → PyData.showableAll xs = true ∧ PyData.hasDictAll xs = false ∧ PyData.depthAll xs ≤ k ∧ (∀ t ∈ PyData.shownAll xs, t.length ≤ n) ∧ (PyData.shownAll xs).length = xs.length
  | [], _ => ⟨rfl, rfl, Nat.zero_le _, fun t ht => by simp [PyData.shownAll] at ht, rfl⟩
  | x :: xs, h => by
    obtain ⟨a1, a2, a3, a4, a5⟩ := vol_all (xs := xs) fun y hy => h y (by simp [hy])
    have v := h x (by simp)
    refine ⟨by simp only [PyData.showableAll, v.sh, a1, Bool.and_self], by simp only [PyData.hasDictAll, v.nd, a2, Bool.or_self], Nat.max_le.mpr ⟨v.dp, a3⟩, fun t ht => ?_, by simp [PyData.shownAll, a5]⟩
    simp only [PyData.shownAll, List.mem_cons] at ht
    rcases ht with rfl | ht
    · exact v.ln
    · exact a4 t ht
theorem Vol.tup {n k m : Nat} {xs : List PyData} (h : ∀ x ∈ xs, Vol n k x) (hl : xs.length ≤ m) : Vol (m * (n + 2) + 4) (k + 1) (.tuple xs) := by
  obtain ⟨a1, a2, a3, a4, a5⟩ := vol_all h
  refine ⟨a1, a2, Nat.succ_le_succ a3, ?_⟩
  have h1 := tup_le a4
  have h2 : xs.length * (n + 2) ≤ m * (n + 2) := Nat.mul_le_mul_right _ hl
  rw [a5] at h1
  show (tupleText (PyData.shownAll xs)).length ≤ _
  omega
theorem Vol.lst {n k m : Nat} {xs : List PyData} (h : ∀ x ∈ xs, Vol n k x) (hl : xs.length ≤ m) : Vol (m * (n + 2) + 4) (k + 1) (.list xs) := by
  obtain ⟨a1, a2, a3, a4, a5⟩ := vol_all h
  refine ⟨a1, a2, Nat.succ_le_succ a3, ?_⟩
  have h1 := lst_le a4
  have h2 : xs.length * (n + 2) ≤ m * (n + 2) := Nat.mul_le_mul_right _ hl
  rw [a5] at h1
  show (listText (PyData.shownAll xs)).length ≤ _
  omega
theorem Vol.str {z : Str} (h : okW z) : Vol 90 0 (.str z) := ⟨rfl, rfl, Nat.le_refl _, by
  have h1 := low_repr (okW_low h)
  have h2 := h.1
  show (reprText z).length ≤ 90
  omega⟩
theorem small_ten : ((List.range 100).all fun i => decide ((toString (i : Int) : Str).length ≤ 90) && decide (((i : Int)).natAbs.log2 < 1920)) = true := by decide +kernel
theorem Vol.int {i : Int} (h : small i) : Vol 90 0 (.int i) := by
  obtain ⟨n, rfl⟩ := Int.eq_ofNat_of_zero_le h.1
  have hn : n < 100 := by have := h.2; omega
  have := List.all_eq_true.mp small_ten n (List.mem_range.mpr hn)
  rw [Bool.and_eq_true, decide_eq_true_eq, decide_eq_true_eq] at this
  exact ⟨decide_eq_true this.2, rfl, Nat.le_refl _, this.1⟩
theorem Vol.ok_t {n k : Nat} {xs : List PyData} (v : Vol n k (.tuple xs)) (h1 : n ≤ 16777216) (h2 : k ≤ 60) : okR (.tuple xs) = true := by
  have e1 := v.sh
  have e2 := v.nd
  simp only [okR, Bool.and_eq_true, Bool.not_eq_true', decide_eq_true_eq, line_eq]
  exact ⟨⟨⟨e1, e2⟩, Nat.le_trans v.dp h2⟩, Nat.le_trans v.ln h1⟩
theorem Vol.ok_l {n k : Nat} {xs : List PyData} (v : Vol n k (.list xs)) (h1 : n ≤ 16777216) (h2 : k ≤ 60) : okR (.list xs) = true := by
  have e1 := v.sh
  have e2 := v.nd
  simp only [okR, Bool.and_eq_true, Bool.not_eq_true', decide_eq_true_eq, line_eq]
  exact ⟨⟨⟨e1, e2⟩, Nat.le_trans v.dp h2⟩, Nat.le_trans v.ln h1⟩
end Wk
namespace Wk
open L2 RZ PyProof.Rows PySem.Spec PySem LamX
/-! ### the law's body: frames that begin anew -/
def pureS : Sl → Bool
  | .no => true | .dat _ => true | .raw _ => true | _ => false
def dropS : Sl → Sl
  | .own _ => .no | .sta _ => .no | s => s
/-- the machine at m, the tables T; the slots hold data -/
structure Lw (K : PySem.W.Frag) (T : List (Addr × Str)) (m : Addr) (σ : L2.St) (H : Hp) (δ : List Sl) (b : Nat) : Prop where
  rep : Rep K ⟨H, fun a => a = m, some m⟩ (fun a => a = m) σ H δ b
  pur : ∀ s ∈ δ, pureS s = true
  tabs : Tabs T H
section
variable {K : PySem.W.Frag} {T : List (Addr × Str)} {m : Addr} {σ : L2.St} {H H' : Hp} {δ : List Sl} {b : Nat} {F : Fm} {Mu : Addr → Prop}
theorem mach_at {b0 : Nat} {N : Addr → Prop} (h : MOk K N H m b0) : ∃ l, H m = some (.dK l) := by
  obtain ⟨g, gs, s, a, h1, _⟩ := h
  exact ⟨_, h1⟩
theorem tabs_off {H0 : Hp} (h : Tabs T H0) (hm : ∃ l, H0 m = some (.dK l)) (e : ∀ a o, a ≠ m → H0 a = some o → H a = some o) : Tabs T H := fun p hp => by
  obtain ⟨l, hl⟩ := hm
  obtain ⟨ps, h1, h2, h3⟩ := h p hp
  refine ⟨ps, e _ _ (fun z => by rw [z, hl] at h1; cases h1) h1, h2, fun pos cv hc => ?_⟩
  obtain ⟨c, k1, k2⟩ := h3 pos cv hc
  refine ⟨c, k1, e _ _ (fun z => ?_) k2⟩
  rw [z, hl] at k2
  unfold CodeO at k2
  cases k2
theorem Rep.anew (R : Rep K F Mu σ H δ b) (hm : F.m = some m) (hp : ∀ s ∈ δ, pureS s = true) : Rep K ⟨H, fun a => a = m, some m⟩ (fun a => a = m) σ H δ b := by
  obtain ⟨n0, mk⟩ := R.mach m hm
  have mm := R.mu0 m n0
  have mu : ∀ a, a = m → Mu a ∨ H a = none := fun a z => .inl (by rw [z]; exact mm)
  refine ⟨R.len, fun _ _ _ z => z, fun _ z => z, fun a z => by rw [z]; exact R.tr m mm, fun _ z => .inl z, fun i s hs => ?_, fun i j es es' hn h1 _ => ?_, fun m' hm' => by cases hm'; exact ⟨rfl, mk.mu mu⟩⟩
  · have h0 := R.sl i s hs
    have h1 := hp s (List.mem_of_getElem? hs)
    cases s with
    | no => trivial
    | raw v => exact h0
    | dat d => obtain ⟨v, z1, z2⟩ := h0; exact ⟨v, z1, z2.mu mu⟩
    | own ds => cases h1
    | sta P => cases h1
  · have := hp _ (List.mem_of_getElem? h1)
    cases this
theorem Rep.drop (R : Rep K F Mu σ H δ b) : Rep K F Mu σ H (δ.map dropS) b := by
  refine ⟨by simp [R.len], R.ext, R.mu0, R.tr, R.new, fun i s hs => ?_, fun i j es es' hn h1 _ => ?_, R.mach⟩
  · rw [List.getElem?_map] at hs
    obtain ⟨s0, z, rfl⟩ := Option.map_eq_some_iff.mp hs
    have h0 := R.sl i s0 z
    cases s0 with
    | own ds => trivial
    | sta P => trivial
    | no => trivial
    | raw v => exact h0
    | dat d => exact h0
  · rw [List.getElem?_map] at h1
    obtain ⟨s0, z, z2⟩ := Option.map_eq_some_iff.mp h1
    cases s0 <;> cases z2
theorem drop_pure (δ : List Sl) : ∀ s ∈ δ.map dropS, pureS s = true := fun s hs => by
  obtain ⟨t, _, rfl⟩ := List.mem_map.mp hs
  cases t <;> rfl
/-- the state begins anew -/
theorem Rep.lw (R : Rep K F Mu σ H δ b) (hm : F.m = some m) (T0 : Tabs T F.H0) (m0 : ∃ l, F.H0 m = some (.dK l)) : Lw K T m σ H (δ.map dropS) b :=
  ⟨R.drop.anew hm (drop_pure δ), drop_pure δ, tabs_off T0 m0 fun a o n z => R.ext a o (fun e => n (by rw [hm] at e; exact (Option.some.inj e).symm)) z⟩
theorem Lw.mk0 (L : Lw K T m σ H δ b) : ∃ l, H m = some (.dK l) := mach_at (L.rep.mach m rfl).2
theorem dq_ext (e : ExtN H H') {v : V} {d : PyData} (q : Dq K Mu H v d) : Dq K Mu H' v d := by
  refine Dq.map (fun a xs z => ?_) (fun a xs z => ?_) d v q
  · rcases z with ⟨z | ⟨o, z⟩, n⟩ | z
    · exact .inl ⟨.inl (e a _ z fun ps w => nomatch w), n⟩
    · exact .inl ⟨.inr ⟨o, e a _ z fun ps w => nomatch w⟩, n⟩
    · exact .inr z
  · rcases z with ⟨z | ⟨o, z⟩, n⟩ | z
    · exact .inl ⟨.inl (e a _ z fun ps w => nomatch w), n⟩
    · exact .inl ⟨.inr ⟨o, e a _ z fun ps w => nomatch w⟩, n⟩
    · exact .inr z
theorem dqs_ext (e : ExtN H H') {v : List V} {d : List PyData} (q : DqAll K Mu H v d) : DqAll K Mu H' v d := by
  refine DqAll.map (fun a xs z => ?_) (fun a xs z => ?_) d v q
  · rcases z with ⟨z | ⟨o, z⟩, n⟩ | z
    · exact .inl ⟨.inl (e a _ z fun ps w => nomatch w), n⟩
    · exact .inl ⟨.inr ⟨o, e a _ z fun ps w => nomatch w⟩, n⟩
    · exact .inr z
  · rcases z with ⟨z | ⟨o, z⟩, n⟩ | z
    · exact .inl ⟨.inl (e a _ z fun ps w => nomatch w), n⟩
    · exact .inl ⟨.inr ⟨o, e a _ z fun ps w => nomatch w⟩, n⟩
    · exact .inr z
/-- all but the tables has stayed -/
theorem Lw.ext (L : Lw K T m σ H δ b) (e : ExtN H H') (T' : Tabs T H') : Lw K T m σ H' δ b := by
  obtain ⟨R, hp, _⟩ := L
  obtain ⟨_, g, gs, s, a, h1, ⟨vs, h2, h3⟩, h4⟩ := R.mach m rfl
  have h1' := e m _ h1 fun ps w => nomatch w
  have h2' : SqLM K (fun a => a = m) H' g vs := by
    rcases h2 with ⟨z | ⟨o, z⟩, n⟩ | z
    · exact .inl ⟨.inl (e _ _ z fun ps w => nomatch w), n⟩
    · exact .inl ⟨.inr ⟨o, e _ _ z fun ps w => nomatch w⟩, n⟩
    · exact .inr z
  refine ⟨⟨R.len, fun _ _ _ z => z, fun _ z => z, fun a z => by rw [z, h1']; simp, fun _ z => .inl z, fun i s hs => ?_, fun i j es es' hn h1 _ => ?_, fun m' hm' => by cases hm'; exact ⟨rfl, g, gs, s, a, h1', ⟨vs, h2', dqs_ext e h3⟩, h4⟩⟩, hp, T'⟩
  · have h0 := R.sl i s hs
    have hh := hp s (List.mem_of_getElem? hs)
    cases s with
    | no => trivial
    | raw v => exact h0
    | dat d => obtain ⟨v, z1, z2⟩ := h0; exact ⟨v, z1, dq_ext e z2⟩
    | own ds => cases hh
    | sta P => cases hh
  · have := hp _ (List.mem_of_getElem? h1)
    cases this
theorem Lw.set (L : Lw K T m σ H δ b) {i : Nat} {v : V} {d : PyData} (q : Dq K (fun a => a = m) H v d) : Lw K T m (σ.set i (some v)) H (δ.set i (.dat d)) b :=
  ⟨L.rep.set q, fun s hs => by
    rcases List.mem_or_eq_of_mem_set hs with hs | rfl
    · exact L.pur s hs
    · rfl, L.tabs⟩
end
/-- statements over data, in some frame -/
def cSE (K : PySem.W.Frag) (t : Fm → TSD) : TS := fun D σ H => ∃ F, cS K F (t F) D σ H
section
variable {X : Cx} {st : Stmt} {sts : List Stmt} {t : Fm → TSD}
theorem psE (h : ∀ F, PSD X F st (t F)) : PS X st (cSE X.K t) := ⟨fun pins s σ H D I ⟨F, q⟩ => (h F).ps.run pins s σ H D I q⟩
theorem pssE (h : ∀ F, PSsD X F sts (t F)) : PSs X sts (cSE X.K t) := ⟨fun pins s σ H D I ⟨F, q⟩ => (h F).ps.run pins s σ H D I q⟩
end
section
variable {K : PySem.W.Frag} {T : List (Addr × Str)} {m : Addr} {σ : L2.St} {H H' : Hp} {δ : List Sl} {b : Nat} {F : Fm} {Mu : Addr → Prop} {t : Fm → TSD} {D : Ends} {N : List Sl → Nat → Prop}
/-- a statement, in the frame that stands -/
theorem goR (R : Rep K F Mu σ H δ b) (h : t F { nx := N, rt := fun _ _ => False } δ b) (k : ∀ Mu' σ' H' δ' b', Rep K F Mu' σ' H' δ' b' → N δ' b' → D.nx σ' H') : cSE K t D σ H :=
  ⟨F, Mu, δ, b, _, R, h, ⟨fun Mu' σ' H' δ' b' R' _ z => k Mu' σ' H' δ' b' R' z, fun _ _ _ _ _ _ _ z => z.elim, fun _ _ _ _ _ _ _ z => z.elim, fun _ _ _ _ _ _ _ z => z.elim⟩⟩
/-- .. that returns -/
theorem goRet {R' : PyData → Nat → Prop} (R : Rep K F Mu σ H δ b) (h : t F { nx := fun _ _ => False, rt := R' } δ b) (k : ∀ v H' d b', Dq K F.N0 H' v d → R' d b' → D.rt v H') : cSE K t D σ H :=
  ⟨F, Mu, δ, b, _, R, h, ⟨fun _ _ _ _ _ _ _ z => z.elim, fun _ _ _ _ _ _ _ z => z.elim, fun _ _ _ _ _ _ _ z => z.elim, fun v H' d b' _ _ q z => k v H' d b' q z⟩⟩
/-- .. that returns or goes on -/
theorem goB {R' : PyData → Nat → Prop} (R : Rep K F Mu σ H δ b) (h : t F { nx := N, rt := R' } δ b) (k : ∀ Mu' σ' H' δ' b', Rep K F Mu' σ' H' δ' b' → N δ' b' → D.nx σ' H') (k2 : ∀ v H' d b', Dq K F.N0 H' v d → R' d b' → D.rt v H') : cSE K t D σ H :=
  ⟨F, Mu, δ, b, _, R, h, ⟨fun Mu' σ' H' δ' b' R' _ z => k Mu' σ' H' δ' b' R' z, fun _ _ _ _ _ _ _ z => z.elim, fun _ _ _ _ _ _ _ z => z.elim, fun v H' d b' _ _ q z => k2 v H' d b' q z⟩⟩
end
end Wk
namespace Wk
open L2 RZ PyProof.Rows PySem.Spec PySem LamX
/-! ### law -/
abbrev N_law : List Str := ["_law_script", "_law_m", "_law_turn", "_law_edges", "_law_house_here", "_law_due", "_law_long", "_law_text", "_law_tree_here", "_law_weaving_here", "_law_some_here", "_law_odd", "_law_found", "_law_move"]
theorem sc_law : FnScope N_law ["_law_script"] (defScope (top 106)) := ⟨rfl, rfl, rfl, by decide +kernel, rfl, by decide +kernel, by decide +kernel⟩
def u_f0 (F : Fm) : TSD := (sSet 4 (fDat (dCallM (F := F) 1 T_law_house (aCons (dC (.int 3)) (aCons (dC (.int 6)) (aCons (dC (.int 8)) aNil))))))
def u_f1 (F : Fm) : TSD := (sSet 7 (fDat (dCall T_law_house_text (aCons (dVar 4) aNil))))
def u_f2 (F : Fm) : TSD := (sIf (dOr (dNot (dTest (dCall T_law_like (aCons (dCall T_house_text (aCons (dVar 4) aNil)) (aCons (dVar 7) aNil))))) (dNot (dTest (dCall T_law_like (aCons (dCall T_read_house (aCons (dVar 7) aNil)) (aCons (dVar 4) aNil)))))) (sRet (dC (.bool false))) sNext)
def u_f3 (F : Fm) : TSD := (sSet 8 (fDat (dCallM (F := F) 1 T_law_tree (aCons (dVar 4) (aCons (dC (.int 12)) aNil)))))
def u_f4 (F : Fm) : TSD := (sSet 9 (fDat (d2 idxD (dCallM (F := F) 1 T_law_weaving (aCons (dVar 4) (aCons (dVar 8) (aCons (dC (.int 15)) aNil)))) (dC (.int 0)))))
def u_f5 (F : Fm) : TSD := (sSet 7 (fDat (dJoin (dC (.str "\n")) (nLc (iT (dVar 9)) (.nm 13) dYes (dCall T_law_move_text (aCons (dVar 13) aNil)) [13]))))
def u_f6 (F : Fm) : TSD := (sIf (dOr (dNot (dTest (dCall T_law_like (aCons (dCall T_weaving_text (aCons (dVar 9) aNil)) (aCons (dVar 7) aNil))))) (dNot (dTest (dCall T_law_like (aCons (dCall T_read_weaving (aCons (dVar 7) aNil)) (aCons (dVar 9) aNil)))))) (sRet (dC (.bool false))) sNext)
def u_f7 (F : Fm) : TSD := (sSet 10 (fOwn (aLst (aCons (dC .none) (aCons (dC (.int 5)) (aCons (dC (.str "")) (aCons (dList (nSeq (dVar 9))) (aCons (dTup (aCons (dC .none) aNil)) (aCons (dTup (aCons (dTup (aCons (dC (.str "bell")) (aCons (dC (.int 12)) aNil))) aNil)) (aCons (dTup (aCons (dTup (aCons (dC (.str "come")) (aCons (dC (.bool true)) aNil))) aNil)) aNil))))))))))
def u_f8 (F : Fm) : TSD := (sApp 10 (dTup (aCons (dTup (aCons (dC (.str "edge")) (aCons (dC (.int 0)) (aCons (dTup (aCons (dC (.int 0)) (aCons (dTup aNil) (aCons (dC (.str "go")) (aCons (dC (.int 6)) aNil))))) aNil)))) aNil)))
def u_f9 (F : Fm) : TSD := (sSet 11 (fDat (dCallM (F := F) 1 T_law_some (aCons (dList (nCat (lOwn 10) (aLst (aCons (dTup (aCons (dTup (aCons (dC (.str "edge")) (aCons (dC (.int 0)) aNil))) aNil)) (aCons (dTup (aCons (dTup (aCons (dC (.str "bell")) (aCons (dC (.int 0)) (aCons (dC (.int 0)) aNil)))) aNil)) (aCons (dTup (aCons (dTup (aCons (dC (.str "ring")) (aCons (dC (.int 0)) aNil))) aNil)) aNil)))))) aNil))))
def u_f11 (F : Fm) : TSD := (sIf (dNot (dTest (dCall T_law_like (aCons (dVar 12) (aCons (dList (aLst (aCons (dTup (aCons (dC (.str "row")) (aCons (dVar 11) aNil))) (aCons (dTup (aCons (dC (.str "house")) (aCons (dTup aNil) aNil))) aNil)))) aNil))))) (sRet (dC (.bool false))) sNext)
def u_s2 (F : Fm) : TSD := (sSet 3 (fDat (dTup (aCons (dTup (aCons (dC (.int 0)) (aCons (dTup (aCons (dC (.str "held")) (aCons (dC (.str "over")) aNil))) (aCons (dC (.str "hold")) (aCons (dC (.int 1)) aNil))))) (aCons (dTup (aCons (dC (.int 1)) (aCons (dTup aNil) (aCons (dC (.str "give")) (aCons (dC (.int 0)) aNil))))) aNil)))))
def u_s3 (F : Fm) : TSD := (sSet 4 (fDat (dTup (aCons (dTup (aCons (dC (.str "kind")) (aCons (dTup (aCons (dTup (aCons (dC (.int 2)) (aCons (dTup (aCons (dC (.int 1)) aNil)) (aCons (dTup (aCons (dC (.int 0)) (aCons (dC (.int 1)) aNil))) (aCons (dVar 3) aNil))))) (aCons (dTup (aCons (dC (.str "kind")) (aCons (dC (.str "up")) aNil))) aNil))) aNil))) (aCons (dTup (aCons (dC (.str "up")) (aCons (dTup (aCons (dTup (aCons (dC (.int 1)) (aCons (dTup aNil) (aCons (dTup aNil) (aCons (dTup aNil) aNil))))) (aCons (dTup aNil) aNil))) aNil))) aNil)))))
def u_s4 (F : Fm) : TSD := (sSet 5 (fDat (dC (.str "kind kind 2\nup 1\ndeaf 0 1\n0 hold 1 held over\n1 give 0\nbelow kind up\nkind up 1"))))
def u_s5 (F : Fm) : TSD := (sIf (dOr (dTest (d2 neD (dCall T_house_text (aCons (dVar 4) aNil)) (dVar 5))) (dOr (dTest (d2 neD (dCall T_read_house (aCons (dVar 5) aNil)) (dVar 4))) (dTest (d2 neD (dCall T_read_weaving (aCons (dC (.str "")) aNil)) (dTup aNil))))) (sRet (dC (.bool false))) sNext)
def u_s6 (F : Fm) : TSD := (sSet 6 (fDat (d2 mulD (dTup (aCons (dTup (aCons (dC (.str "bell")) (aCons (dC (.int 0)) aNil))) aNil)) (dIf (dTest (d2 ltD (d1 lenD (dVar 0)) (dC (.int 1)))) (dC (.int 10001)) (dC (.int 1))))))
def u_s7 (F : Fm) : TSD := (sIf (dTest (d2 neD (d1 lenD (dCall T_weaving_text (aCons (dSl (dVar 6) oNo (oSome (dC (.int 10000)))) aNil))) (d2 subD (d2 mulI (dC (.int 7)) (d1 lenD (dSl (dVar 6) oNo (oSome (dC (.int 10000)))))) (dC (.int 1))))) (sRet (dC (.bool false))) sNext)
def forBody (b : List Stmt) : List Stmt := match b.getD 1 (.Pass ⟨0, 0, 0, 0⟩) with
  | .For _ _ sts _ _ => sts
  | _ => []
abbrev cxLaw (P : Program) (w : World) (K : PySem.W.Frag) (mg : Str → Option Value) (base : Heap) (cdv : Value) (A : Around) (outer : List Env) (s : Shared) (H : Hp) (E : XK) : Cx := cxOf (L2.CX P w) P w K mg base N_law "law" (defScope (top 106)) (He.ga K "law") cdv A outer s H E
section
variable {P : Program} {w : World} {K : PySem.W.Frag} {mg : Str → Option Value} {base : Heap} (W : Wo P w K mg base) (c_law_house : Cal P w K mg base 9 "_law_house" (spM K T_law_house)) (c_law_house_text : Cal P w K mg base 9 "_law_house_text" (spD K T_law_house_text)) (c_house_text : Cal P w K mg base 9 "house_text" (spD K T_house_text)) (c_read_house : Cal P w K mg base 9 "read_house" (spD K T_read_house)) (c_law_tree : Cal P w K mg base 9 "_law_tree" (spM K T_law_tree)) (c_law_weaving : Cal P w K mg base 9 "_law_weaving" (spM K T_law_weaving)) (c_law_move_text : Cal P w K mg base 9 "_law_move_text" (spD K T_law_move_text)) (c_weaving_text : Cal P w K mg base 9 "weaving_text" (spD K T_weaving_text)) (c_read_weaving : Cal P w K mg base 9 "read_weaving" (spD K T_read_weaving)) (c_law_some : Cal P w K mg base 9 "_law_some" (spM K T_law_some)) (c_law_like : CalG P w K mg base 9 "_law_like" (spD K T_law_like))
  (cdv : Value) (A : Around) (outer : List Env) (s : Shared) (H : Hp) (E : XK) (hgu : A.guards = some []) (hr : Room 9 (A.deeper (envOfC "law" (defScope (top 106)) s.heap.objs.size (He.ga K "law") cdv)))
include c_law_house hr in
theorem v_f0 (F : Fm) : PSD (cxLaw P w K mg base cdv A outer s H E) F ((forBody (defBody (top 106))).getD 0 (.Pass ⟨0, 0, 0, 0⟩)) (u_f0 F) :=
  (s_set 4 sc_law.nd (PD.f (d_callM 1 c_law_house hr (a_cons d_int (a_cons d_int (a_cons d_int a_nil))))))
include c_law_house_text hr in
theorem v_f1 (F : Fm) : PSD (cxLaw P w K mg base cdv A outer s H E) F ((forBody (defBody (top 106))).getD 1 (.Pass ⟨0, 0, 0, 0⟩)) (u_f1 F) :=
  (s_set 7 sc_law.nd (PD.f (d_call c_law_house_text hr (a_cons (d_var 4) a_nil))))
include c_house_text c_law_like c_read_house hgu hr in
theorem v_f2 (F : Fm) : PSD (cxLaw P w K mg base cdv A outer s H E) F ((forBody (defBody (top 106))).getD 2 (.Pass ⟨0, 0, 0, 0⟩)) (u_f2 F) :=
  (s_if (PDW.t (d_orW (d_notT (d_val (d_callG c_law_like hgu hr (a_cons (d_call c_house_text hr (a_cons (d_var 4) a_nil)) (a_cons (d_var 7) a_nil))))) (d_or1 (d_notT (d_val (d_callG c_law_like hgu hr (a_cons (d_call c_read_house hr (a_cons (d_var 7) a_nil)) (a_cons (d_var 4) a_nil)))))))) (ss_one (s_ret d_bl)) ss_nil)
include c_law_tree hr in
theorem v_f3 (F : Fm) : PSD (cxLaw P w K mg base cdv A outer s H E) F ((forBody (defBody (top 106))).getD 3 (.Pass ⟨0, 0, 0, 0⟩)) (u_f3 F) :=
  (s_set 8 sc_law.nd (PD.f (d_callM 1 c_law_tree hr (a_cons (d_var 4) (a_cons d_int a_nil)))))
include c_law_weaving hr in
theorem v_f4 (F : Fm) : PSD (cxLaw P w K mg base cdv A outer s H E) F ((forBody (defBody (top 106))).getD 4 (.Pass ⟨0, 0, 0, 0⟩)) (u_f4 F) :=
  (s_set 9 sc_law.nd (PD.f (d_ix (d_callM 1 c_law_weaving hr (a_cons (d_var 4) (a_cons (d_var 8) (a_cons d_int a_nil)))) d_int (by intro _ _; rfl))))
include c_law_move_text hr in
theorem v_f5 (F : Fm) : PSD (cxLaw P w K mg base cdv A outer s H E) F ((forBody (defBody (top 106))).getD 5 (.Pass ⟨0, 0, 0, 0⟩)) (u_f5 F) :=
  (s_set 7 sc_law.nd (PD.f (d_join d_str (PDN.v (n_lc [("_law_move", 13)] rfl sc_law.nd (i_tup (d_var 9)) (blkOk_by (N := N_law) (sc := defScope (top 106)) (by decide +kernel)) (by decide) (fun _ _ _ _ _ => (g_nm 13 sc_law.nd)) (fun _ _ _ _ _ => ts_nil) (fun _ _ _ _ _ => (d_call c_law_move_text hr (a_cons (d_var 13) a_nil))))))))
include c_law_like c_read_weaving c_weaving_text hgu hr in
theorem v_f6 (F : Fm) : PSD (cxLaw P w K mg base cdv A outer s H E) F ((forBody (defBody (top 106))).getD 6 (.Pass ⟨0, 0, 0, 0⟩)) (u_f6 F) :=
  (s_if (PDW.t (d_orW (d_notT (d_val (d_callG c_law_like hgu hr (a_cons (d_call c_weaving_text hr (a_cons (d_var 9) a_nil)) (a_cons (d_var 7) a_nil))))) (d_or1 (d_notT (d_val (d_callG c_law_like hgu hr (a_cons (d_call c_read_weaving hr (a_cons (d_var 7) a_nil)) (a_cons (d_var 9) a_nil)))))))) (ss_one (s_ret d_bl)) ss_nil)
include W in
theorem v_f7 (F : Fm) : PSD (cxLaw P w K mg base cdv A outer s H E) F ((forBody (defBody (top 106))).getD 7 (.Pass ⟨0, 0, 0, 0⟩)) (u_f7 F) :=
  (s_set 10 sc_law.nd (PDN.f (n_lst (a_cons d_non (a_cons d_int (a_cons d_str (a_cons (PDN.d (n_list rfl (W.free 10) (d_var 9))) (a_cons (d_tup (a_cons d_non a_nil)) (a_cons (d_tup (a_cons (d_tup (a_cons d_str (a_cons d_int a_nil))) a_nil)) (a_cons (d_tup (a_cons (d_tup (a_cons d_str (a_cons d_bl a_nil))) a_nil)) a_nil))))))))))
theorem v_f8 (F : Fm) : PSD (cxLaw P w K mg base cdv A outer s H E) F ((forBody (defBody (top 106))).getD 8 (.Pass ⟨0, 0, 0, 0⟩)) (u_f8 F) :=
  (s_app 10 (d_tup (a_cons (d_tup (a_cons d_str (a_cons d_int (a_cons (d_tup (a_cons d_int (a_cons (d_tup a_nil) (a_cons d_str (a_cons d_int a_nil))))) a_nil)))) a_nil)))
include c_law_some hr in
theorem v_f9 (F : Fm) : PSD (cxLaw P w K mg base cdv A outer s H E) F ((forBody (defBody (top 106))).getD 9 (.Pass ⟨0, 0, 0, 0⟩)) (u_f9 F) :=
  (s_set 11 sc_law.nd (PD.f (d_callM 1 c_law_some hr (a_cons (PDN.d (n_cat (l_own 10) (PDN.l (n_lst (a_cons (d_tup (a_cons (d_tup (a_cons d_str (a_cons d_int a_nil))) a_nil)) (a_cons (d_tup (a_cons (d_tup (a_cons d_str (a_cons d_int (a_cons d_int a_nil)))) a_nil)) (a_cons (d_tup (a_cons (d_tup (a_cons d_str (a_cons d_int a_nil))) a_nil)) a_nil))))))) a_nil))))
include c_law_like hgu hr in
theorem v_f11 (F : Fm) : PSD (cxLaw P w K mg base cdv A outer s H E) F ((forBody (defBody (top 106))).getD 11 (.Pass ⟨0, 0, 0, 0⟩)) (u_f11 F) :=
  (s_if (d_notT (d_val (d_callG c_law_like hgu hr (a_cons (d_var 12) (a_cons (PDN.d (n_lst (a_cons (d_tup (a_cons d_str (a_cons (d_var 11) a_nil))) (a_cons (d_tup (a_cons d_str (a_cons (d_tup a_nil) a_nil))) a_nil)))) a_nil))))) (ss_one (s_ret d_bl)) ss_nil)
theorem v_s2 (F : Fm) : PSD (cxLaw P w K mg base cdv A outer s H E) F ((defBody (top 106)).getD 2 (.Pass ⟨0, 0, 0, 0⟩)) (u_s2 F) :=
  (s_set 3 sc_law.nd (PD.f (d_tup (a_cons (d_tup (a_cons d_int (a_cons (d_tup (a_cons d_str (a_cons d_str a_nil))) (a_cons d_str (a_cons d_int a_nil))))) (a_cons (d_tup (a_cons d_int (a_cons (d_tup a_nil) (a_cons d_str (a_cons d_int a_nil))))) a_nil)))))
theorem v_s3 (F : Fm) : PSD (cxLaw P w K mg base cdv A outer s H E) F ((defBody (top 106)).getD 3 (.Pass ⟨0, 0, 0, 0⟩)) (u_s3 F) :=
  (s_set 4 sc_law.nd (PD.f (d_tup (a_cons (d_tup (a_cons d_str (a_cons (d_tup (a_cons (d_tup (a_cons d_int (a_cons (d_tup (a_cons d_int a_nil)) (a_cons (d_tup (a_cons d_int (a_cons d_int a_nil))) (a_cons (d_var 3) a_nil))))) (a_cons (d_tup (a_cons d_str (a_cons d_str a_nil))) a_nil))) a_nil))) (a_cons (d_tup (a_cons d_str (a_cons (d_tup (a_cons (d_tup (a_cons d_int (a_cons (d_tup a_nil) (a_cons (d_tup a_nil) (a_cons (d_tup a_nil) a_nil))))) (a_cons (d_tup a_nil) a_nil))) a_nil))) a_nil)))))
theorem v_s4 (F : Fm) : PSD (cxLaw P w K mg base cdv A outer s H E) F ((defBody (top 106)).getD 4 (.Pass ⟨0, 0, 0, 0⟩)) (u_s4 F) :=
  (s_set 5 sc_law.nd (PD.f d_str))
include c_house_text c_read_house c_read_weaving hr in
theorem v_s5 (F : Fm) : PSD (cxLaw P w K mg base cdv A outer s H E) F ((defBody (top 106)).getD 5 (.Pass ⟨0, 0, 0, 0⟩)) (u_s5 F) :=
  (s_if (PDW.t (d_orW (d_neT hr.units (d_call c_house_text hr (a_cons (d_var 4) a_nil)) (d_var 5)) (d_orW (d_neT hr.units (d_call c_read_house hr (a_cons (d_var 5) a_nil)) (d_var 4)) (d_or1 (d_neT hr.units (d_call c_read_weaving hr (a_cons d_str a_nil)) (d_tup a_nil)))))) (ss_one (s_ret d_bl)) ss_nil)
include W hr in
theorem v_s6 (F : Fm) : PSD (cxLaw P w K mg base cdv A outer s H E) F ((defBody (top 106)).getD 6 (.Pass ⟨0, 0, 0, 0⟩)) (u_s6 F) :=
  (s_set 6 sc_law.nd (PD.f (d_mulT (d_tup (a_cons (d_tup (a_cons d_str (a_cons d_int a_nil))) a_nil)) (d_ifExp (d_ltT hr.units (d_len rfl (W.free 1) (d_var 0)) d_int) d_int d_int))))
include W c_weaving_text hr in
theorem v_s7 (F : Fm) : PSD (cxLaw P w K mg base cdv A outer s H E) F ((defBody (top 106)).getD 7 (.Pass ⟨0, 0, 0, 0⟩)) (u_s7 F) :=
  (s_if (d_neT hr.units (d_len rfl (W.free 1) (d_call c_weaving_text hr (a_cons (d_slice (d_var 6) o_none (o_some d_int)) a_nil))) (d_sub (d_mul d_int (d_len rfl (W.free 1) (d_slice (d_var 6) o_none (o_some d_int)))) d_int)) (ss_one (s_ret d_bl)) ss_nil)
end
end Wk
namespace Wk
open L2 RZ PyProof.Rows PySem.Spec PySem LamX
/-! ### law, whole -/
theorem CalG.mono {P : Program} {w : World} {K : PySem.W.Frag} {mg : Str → Option Value} {base : Heap} {j k : Nat} {x : Str} {sp : Sp} (c : CalG P w K mg base j x sp) (h : j ≤ k) : CalG P w K mg base k x sp :=
  ⟨c.at_, c.kp, let ⟨fd, ps, h1, h2⟩ := c.ok; ⟨fd, ps, ⟨h1.len, fun A outer s H args us vs Q E g r => h1.run A outer s H args us vs Q E g (r.mono h)⟩, h2⟩⟩
def lamQ : Str := ("law" : Str) ++ ".<locals>." ++ "<lambda>"
def lawT (p : Addr) : List (Addr × Str) := [(p, lamQ)]
def rLamW (K : PySem.W.Frag) (p : Addr) (i : Nat) : TE := tLam (lawT p) (TTK K (toldCs K)) fun E => tCall (spBad K (He.ga K "BadRow") "value" TB_weaving_text) [] E (tCons (tVar i) tNil)
def rLamH (K : PySem.W.Frag) (p : Addr) : TE := fun _ H Q => Tabs (lawT p) H ∧ ∀ H1, ExtN H H1 → Tabs (lawT p) H1 → TTK K (toldCs K) (fun E H' Q' => tCall (spBad K (He.ga K "BadHouse") "place" TB_empty) [] E (tCons (tTup tNil) tNil) (L2.start ["_law_y"] [.int 0]) H' Q') H1 Q
def tTold (K : PySem.W.Frag) (p : Addr) : TS := tAsg (tLst (tCons (rLamW K p 11) (tCons (rLamH K p) tNil))) (gName 12)
def peE {X : Cx} {e : Expr} {t : Fm → TD} (h : ∀ F, PD X F e (t F)) : PE X e (fun σ H Q => ∃ F, cE X.K F (t F) σ H Q) := ⟨fun pins s σ H Q I ⟨F, q⟩ => (h F).pe.run pins s σ H Q I q⟩
def tTurn (K : PySem.W.Frag) (p : Addr) : TS := tSeq (cSE K u_f0) (tSeq (cSE K u_f1) (tSeq (cSE K u_f2) (tSeq (cSE K u_f3) (tSeq (cSE K u_f4) (tSeq (cSE K u_f5) (tSeq (cSE K u_f6) (tSeq (cSE K u_f7) (tSeq (cSE K u_f8) (tSeq (cSE K u_f9) (tSeq (tTold K p) (cSE K u_f11)))))))))))
def tEnd (K : PySem.W.Frag) (p : Addr) : TS := tRet (tOrV (fun σ H Q => ∃ F, cE K F (d2 eqD (d1 lenD (dVar 6)) (dC (.int 1))) σ H Q) (tOp (rEq2 K) (rLamW K p 6) (tTup (tCons (tC (.str "row")) (tCons (tVar 6) tNil)))))
def tLaw (K : PySem.W.Frag) (p : Addr) : TS := tSeq (tAsg (tCall (spBegun K) [] EF (tCons (tVar 0) tNil)) (gName 1)) (tSeq (tFor (iRng1 (tCons (tC (.int 3)) tNil)) (gName 2) (tTurn K p))
  (tSeq (cSE K u_s2) (tSeq (cSE K u_s3) (tSeq (cSE K u_s4) (tSeq (cSE K u_s5) (tSeq (cSE K u_s6) (tSeq (cSE K u_s7) (tEnd K p))))))))
section
variable {K : PySem.W.Frag} {P : Program} {w : World} {base : Heap} {mg : Str → Option Value}
theorem pe_lamW (W : Wo P w K mg base) (N : Exn P w K mg base "BadRow" "value") {c p : Addr} {A : Around} {outer : List Env} {s : Shared} {H : Hp} {E : XK} (hr : Room 9 (A.deeper (envOfC "law" (defScope (top 106)) s.heap.objs.size (He.ga K "law") (.ref c)))) (TB : TabB base mg c p) {i : Nat} {y : Str} {p1 p2 p3 p4 lpos pos : Pos} {params : Arguments} {scope : Scope}
    (hN : N_law[i]? = some y) (hL : lamSB (defScope (top 106)) scope = true) (hgl : scope.names.lookup ("weaving_text" : Str) = some .globalImplicit) (hv : scope.names.lookup y = some .free) (hd : params = ⟨[], [], none, [], [], none, []⟩) (h1 : (y == ("__debug__" : Str)) = false) (h2 : (y == ("__classdict__" : Str)) = false) :
    PE (cxLaw P w K mg base (.ref c) A outer s H E) (.Call (.Name "_law_told" p1) [.Lambda params (.Call (.Name "weaving_text" p2) [.Name y p3] [] p4) scope lpos] [] pos) (rLamW K p i) := by
  subst hd
  obtain ⟨fd, Fd⟩ := W.fun 38 85 (x := "_law_told")
  have hb := Fd.bindsN (ps := ["_law_call"]) fun _ _ _ _ _ _ us hl => match us, hl with | [_], _ => rfl
  obtain ⟨oc, od, dV, kV, doc, pm, an, cdv, ct, osl, efd, lk, hcd, _, _⟩ := Fd.ex
  rw [efd] at hb lk
  obtain ⟨at_, kp, fd2, ps2, c2, hbi⟩ := okb_weaving_text W N
  refine pe_lamcall (k := 7) (P := p) (c := c) rfl (W.glo 83) Fd.kp lk hcd hb sc_law_told rfl (.inl rfl) (told_gives W (fun s => (hr.deeper _).mono (by decide)) (W.glo 105) (W.glo 116) (W.glo 117)) TB rfl (List.mem_singleton.mpr rfl) (fun q hq _ => by rw [List.mem_singleton.mp hq]; rfl) hr (lamS_by hL) rfl (fun _ _ _ _ _ => rfl) fun A outer s H E f c' hr2 => ?_
  exact pe_call c2 (hr2.mono (by decide)) hgl at_ kp hbi (dvs := []) .nil (E := E) (passes_call (takes_of rfl rfl rfl rfl) fun _ _ _ _ h => h) (pa_cons (pe_var (i := i) hN (.inr (.inr hv)) h1 h2) pa_nil)
theorem pe_lamH (W : Wo P w K mg base) (N : Exn P w K mg base "BadHouse" "place") {c p : Addr} {A : Around} {outer : List Env} {s : Shared} {H : Hp} {E : XK} (hr : Room 9 (A.deeper (envOfC "law" (defScope (top 106)) s.heap.objs.size (He.ga K "law") (.ref c)))) (TB : TabB base mg c p) {j k : Nat} {p1 p2 p3 p4 ap dp lpos pos : Pos} {scope : Scope}
    (S : FnScope ["_law_y"] ["_law_y"] scope) (hcl : closureFor scope (cxLaw P w K mg base (.ref c) A outer s H E).env = pure []) (hgl : scope.names.lookup ("house_text" : Str) = some .globalImplicit) :
    PE (cxLaw P w K mg base (.ref c) A outer s H E) (.Call (.Name "_law_told" p1) [.Lambda ⟨[], [{ arg := "_law_y", annotation := none, pos := ap }], none, [], [], none, [.Constant (.int 0) j dp]⟩ (.Call (.Name "house_text" p2) [.Tuple [] k p3] [] p4) scope lpos] [] pos) (rLamH K p) := by
  obtain ⟨fd, Fd⟩ := W.fun 38 85 (x := "_law_told")
  have hb := Fd.bindsN (ps := ["_law_call"]) fun _ _ _ _ _ _ us hl => match us, hl with | [_], _ => rfl
  obtain ⟨oc, od, dV, kV, doc, pm, an, cdv, ct, osl, efd, lk, hcd, _, _⟩ := Fd.ex
  rw [efd] at hb lk
  obtain ⟨at_, kp, fd2, ps2, c2, hbi⟩ := okb_house_text W N
  refine pe_lamcallD (k := 7) (P := p) (c := c) (z := 0) (j := j) (dp := dp) (y := "_law_y") rfl (W.glo 83) Fd.kp lk hcd hb sc_law_told rfl (.inl rfl) (told_gives W (fun s => (hr.deeper _).mono (by decide)) (W.glo 105) (W.glo 116) (W.glo 117)) TB rfl (List.mem_singleton.mpr rfl) (fun q hq _ => by rw [List.mem_singleton.mp hq]; rfl) hr S rfl rfl hcl (fun _ _ _ _ _ _ => ⟨_, rfl, fun _ => rfl⟩) fun A outer s H E f c' hr2 => ?_
  exact pe_call c2 hr2 hgl at_ kp hbi (dvs := []) .nil (E := E) (passes_call (takes_of rfl rfl rfl rfl) fun _ _ _ _ h => h) (pa_cons (pe_tup pa_nil) pa_nil)
end
end Wk
namespace Wk
open L2 RZ PyProof.Rows PySem.Spec PySem LamX
theorem b_law {P : Program} {w : World} {K : PySem.W.Frag} {mg : Str → Option Value} {base : Heap} (W : Wo P w K mg base) (N1 : Exn P w K mg base "BadRow" "value") (N2 : Exn P w K mg base "BadHouse" "place") {c p : Addr} (TB : TabB base mg c p)
    (A : Around) (outer : List Env) (s : Shared) (H : Hp) (E : XK) (hgu : A.guards = some []) (hr : Room 9 (A.deeper (envOfC "law" (defScope (top 106)) s.heap.objs.size (He.ga K "law") (.ref c)))) :
    PSs (cxLaw P w K mg base (.ref c) A outer s H E) (defBody (top 106)) (tLaw K p) := by
  obtain ⟨at0, kp0, fd0, ps0, f0, b0⟩ := (ok_law_begun W).mono (show 1 ≤ 9 by decide)
  have turn : PSs (cxLaw P w K mg base (.ref c) A outer s H E) (forBody (defBody (top 106))) (tTurn K p) :=
    (pss_cons (psE fun F => v_f0 ((ok_law_house W).mono (by decide)) (.ref c) A outer s H E hr F) (pss_cons (psE fun F => v_f1 ((ok_law_house_text W).mono (by decide)) (.ref c) A outer s H E hr F) (pss_cons (psE fun F => v_f2 ((ok_house_text W).mono (by decide)) ((ok_read_house W).mono (by decide)) ((ok_law_like W (W.free 13)).mono (by decide)) (.ref c) A outer s H E hgu hr F) (pss_cons (psE fun F => v_f3 ((ok_law_tree W).mono (by decide)) (.ref c) A outer s H E hr F) (pss_cons (psE fun F => v_f4 ((ok_law_weaving W).mono (by decide)) (.ref c) A outer s H E hr F) (pss_cons (psE fun F => v_f5 ((ok_law_move_text W).mono (by decide)) (.ref c) A outer s H E hr F) (pss_cons (psE fun F => v_f6 ((ok_weaving_text W).mono (by decide)) ((ok_read_weaving W).mono (by decide)) ((ok_law_like W (W.free 13)).mono (by decide)) (.ref c) A outer s H E hgu hr F) (pss_cons (psE fun F => v_f7 W (.ref c) A outer s H E F) (pss_cons (psE fun F => v_f8 (.ref c) A outer s H E F) (pss_cons (psE fun F => v_f9 ((ok_law_some W).mono (by decide)) (.ref c) A outer s H E hr F) (pss_cons (ps_set (i := 12) sc_law.nd rfl (.inl rfl) (pe_lst (pa_cons (pe_lamW W N1 hr TB (i := 11) (y := "_law_odd") rfl (by decide +kernel) rfl rfl rfl rfl rfl) (pa_cons (pe_lamH W N2 hr TB ⟨rfl, rfl, rfl, by decide +kernel, rfl, by decide +kernel, by decide +kernel⟩ rfl rfl) pa_nil)))) (pss_one (psE fun F => v_f11 ((ok_law_like W (W.free 13)).mono (by decide)) (.ref c) A outer s H E hgu hr F)))))))))))))
  exact pss_cons (ps_set (i := 1) sc_law.nd rfl (.inl rfl) (pe_call f0 hr (by rfl) at0 kp0 b0 (dvs := []) .nil (E := EF) passF (pa_cons (pe_var (i := 0) rfl (.inl rfl)) pa_nil)))
    (pss_cons (ps_for (passes_of rfl) rfl (pi_range1 rfl (W.free 5) (pa_cons pe_int pa_nil)) (pg_name (i := 2) sc_law.nd rfl (.inl rfl)) turn)
    (pss_cons (psE fun F => v_s2 (.ref c) A outer s H E F) (pss_cons (psE fun F => v_s3 (.ref c) A outer s H E F) (pss_cons (psE fun F => v_s4 (.ref c) A outer s H E F) (pss_cons (psE fun F => v_s5 ((ok_house_text W).mono (by decide)) ((ok_read_house W).mono (by decide)) ((ok_read_weaving W).mono (by decide)) (.ref c) A outer s H E hr F) (pss_cons (psE fun F => v_s6 W (.ref c) A outer s H E hr F) (pss_cons (psE fun F => v_s7 W ((ok_weaving_text W).mono (by decide)) (.ref c) A outer s H E hr F) (pss_one (ps_ret (pe_or (peE fun F => (d_eq hr.units (d_len rfl (W.free 1) (d_var 6)) d_int)) (pe_one (pe_cmpR (op_eq2 hr.units) (pe_lamW W N1 hr TB (i := 6) (y := "_law_long") rfl (by decide +kernel) rfl rfl rfl rfl rfl) (pe_tup (pa_cons pe_str (pa_cons (pe_var (i := 6) rfl (.inr (.inl rfl))) pa_nil))) (nomark _)))))))))))))
end Wk
namespace Wk
open L2 RZ PyProof.Rows PySem.Spec PySem
/-! ### what the law's body leans on, in plain -/
theorem asc_bound : ∀ {is : List Int} {lo hi : Int}, ascI is = true → (is.all fun i => wholeI i lo hi) = true → (is.length : Int) ≤ hi - lo + 1 ∨ is = []
  | [], _, _, _, _ => .inr rfl
  | [x], lo, hi, _, h => .inl (by
    have := whole_iff.mp (List.all_eq_true.mp h x (by simp))
    simp only [List.length_cons, List.length_nil]; omega)
  | x :: y :: r, lo, hi, ha, h => .inl (by
    unfold ascI asc at ha
    rw [Bool.and_eq_true] at ha
    have hx := whole_iff.mp (List.all_eq_true.mp h x (by simp))
    have hxy : x < y := of_decide_eq_true ha.1
    have up : ∀ {l : List Int}, ascI (y :: l) = true → ∀ z ∈ l, y < z := by
      intro l
      induction l generalizing y with
      | nil => intro _ z hz; cases hz
      | cons w l ih =>
        intro hc z hz
        unfold ascI asc at hc
        rw [Bool.and_eq_true] at hc
        have hyw : y < w := of_decide_eq_true hc.1; rcases List.mem_cons.mp hz with rfl | hz
        · exact hyw
        · cases l with
          | nil => cases hz
          | cons v l => exact Int.lt_trans hyw (by
              have key : ∀ {a : Int} {l : List Int}, ascI (a :: l) = true → ∀ z ∈ l, a < z := by
                intro a l
                induction l generalizing a with
                | nil => intro _ z hz; cases hz
                | cons b l ih2 =>
                  intro hc z hz
                  unfold ascI asc at hc
                  rw [Bool.and_eq_true] at hc; rcases List.mem_cons.mp hz with rfl | hz
                  · exact of_decide_eq_true hc.1
                  · exact Int.lt_trans (of_decide_eq_true hc.1) (ih2 hc.2 z hz)
              exact key hc.2 z hz)
    have hall : ((y :: r).all fun i => wholeI i (lo + 1) hi) = true := List.all_eq_true.mpr fun z hz => by
      have hz' := whole_iff.mp (List.all_eq_true.mp h z (by simp at hz ⊢; exact .inr hz))
      refine whole_iff.mpr ⟨?_, hz'.2⟩; rcases List.mem_cons.mp hz with rfl | hz
      · omega
      · have := up ha.2 z hz
        omega
    rcases asc_bound ha.2 hall with q | q
    · simp only [List.length_cons] at q ⊢
      omega
    · cases q)
theorem asc_len {is : List Int} {lo hi : Int} (h1 : ascI is = true) (h2 : (is.all fun i => wholeI i lo hi) = true) (h : hi - lo ≤ 5) : is.length ≤ 8 := by
  rcases asc_bound h1 h2 with q | q
  · omega
  · rw [q]; simp
theorem names4_len : ∀ z ∈ names4, z.length ≤ 8 := by decide +kernel
theorem big_of {h : Ho} (d : HoDr h) : HoBig h := fun p hp => by
  obtain ⟨B, n, bl, bl3⟩ := d.book p hp
  have m := whole_iff.mp B.many
  refine ⟨names4_len _ n, asc_len B.upA B.up (by omega), asc_len B.deafA B.deaf (by omega), by omega, fun z hz => ?_, fun e he => ?_⟩
  · obtain ⟨q, hq, rfl⟩ := List.mem_map.mp (bl z hz)
    exact names4_len _ (d.book q hq).2.1
  · obtain ⟨_, _, a, b, c⟩ := book_edge B he
    exact ⟨a, fun z hz => (b z hz).2, c⟩
/-! shown -/
theorem vol_ints {is : List Int} (h : ∀ i ∈ is, small i) (hl : is.length ≤ 8) : Vol 800 1 (intsD is) :=
  (Vol.tup (n := 90) (k := 0) (m := 8) (fun x hx => by
    obtain ⟨i, hi, rfl⟩ := List.mem_map.mp hx
    exact Vol.int (h i hi)) (by rw [List.length_map]; exact hl)).mono (by decide) (by decide)
theorem vol_strs {zs : List Str} (h : ∀ z ∈ zs, okW z) (hl : zs.length ≤ 8) : Vol 800 1 (strsD zs) :=
  (Vol.tup (n := 90) (k := 0) (m := 8) (fun x hx => by
    obtain ⟨i, hi, rfl⟩ := List.mem_map.mp hx
    exact Vol.str (h i hi)) (by rw [List.length_map]; exact hl)).mono (by decide) (by decide)
theorem vol_four {n k : Nat} {a b c d : PyData} (ha : Vol n k a) (hb : Vol n k b) (hc : Vol n k c) (hd : Vol n k d) : Vol (4 * (n + 2) + 4) (k + 1) (.tuple [a, b, c, d]) :=
  Vol.tup (fun x hx => by
    simp only [List.mem_cons, List.not_mem_nil, or_false] at hx; rcases hx with rfl | rfl | rfl | rfl <;> assumption) (Nat.le_refl _)
theorem vol_two {n k : Nat} {a b : PyData} (ha : Vol n k a) (hb : Vol n k b) : Vol (2 * (n + 2) + 4) (k + 1) (.tuple [a, b]) :=
  Vol.tup (fun x hx => by
    simp only [List.mem_cons, List.not_mem_nil, or_false] at hx; rcases hx with rfl | rfl <;> assumption) (Nat.le_refl _)
theorem vol_ed {e : Ed} {st : Int} (h : edgeB e st = true) (hs : st ≤ 6) (hl : e.asks.length ≤ 8) : Vol 4000 2 e.d := by
  obtain ⟨h1, h2, _, _⟩ := edge_parts h
  obtain ⟨s1, s2⟩ := edge_small h hs
  exact (vol_four ((Vol.int s1).mono (by decide) (by decide)) (vol_strs (fun z hz => okW_ask (asks_mem h1 z hz)) hl) ((Vol.str (okW_deed h2)).mono (by decide) (by decide)) ((Vol.int s2).mono (by decide) (by decide))).mono (by decide) (by decide)
theorem vol_kd {h : Ho} (d : HoDr h) {p : Str × Kd} (hp : p ∈ h) : Vol 830000 5 p.2.d := by
  have hb := big_of d p hp
  obtain ⟨_, l1, l2, l3, l4, l5⟩ := hb
  have k := d.ok.kind p hp
  have m := whole_iff.mp k.many
  have sm : ∀ {is : List Int} {lo : Int}, 0 ≤ lo → (is.all fun i => wholeI i lo (p.2.many - 1)) = true → ∀ i ∈ is, small i := fun h0 hh i hi => by
    have := whole_iff.mp (List.all_eq_true.mp hh i hi)
    exact ⟨by omega, by omega⟩
  have es : Vol 100000 3 (.tuple (p.2.edges.map Ed.d)) := (Vol.tup (n := 4000) (k := 2) (m := 24) (fun x hx => by
    obtain ⟨e, he, rfl⟩ := List.mem_map.mp hx
    exact vol_ed (k.edges e he) m.2 (l5 e he).1) (by rw [List.length_map]; exact k.edgesL)).mono (by decide) (by decide)
  have bk : Vol 410000 4 p.2.book := (vol_four ((Vol.int ⟨by omega, by omega⟩).mono (by decide) (by decide)) ((vol_ints (sm (by decide) k.up) l1).mono (by decide) (by decide)) ((vol_ints (sm (by decide) k.deaf) l2).mono (by decide) (by decide)) es).mono (by decide) (by decide)
  have bl : Vol 800 1 (strsD p.2.below) := vol_strs (fun z hz => by
    have := inS_mem.mp (List.all_eq_true.mp k.below z hz)
    obtain ⟨q, hq, rfl⟩ := List.mem_map.mp this
    exact okW_word (d.ok.word q hq)) l3
  exact (vol_two bk (bl.mono (n' := 410000) (k' := 4) (by decide) (by decide))).mono (by decide) (by decide)
theorem vol_ho {h : Ho} (d : HoDr h) : Vol 5200000 7 (hoD h) :=
  (Vol.tup (n := 1700000) (k := 6) (m := 3) (fun x hx => by
    obtain ⟨p, hp, rfl⟩ := List.mem_map.mp hx
    exact (vol_two ((Vol.str (okW_word (d.ok.word p hp))).mono (n' := 830000) (k' := 5) (by decide) (by decide)) (vol_kd d hp)).mono (by decide) (by decide)) (by rw [List.length_map]; exact d.ok.hi)).mono (by decide) (by decide)
theorem okR_ho {h : Ho} (d : HoDr h) : okR (hoD h) = true := (vol_ho d).ok_t (by decide) (by decide)
theorem low_house {h : Ho} (d : HoDr h) : lowS (houseText h) := low_join (by unfold lowS; decide +kernel) fun l hl => by
  have hb := big_of d
  unfold houseLines at hl
  obtain ⟨p, hp, hl⟩ := List.mem_flatMap.mp hl
  rw [kindLines_eq, List.mem_cons] at hl
  have R := kdR_of d.ok hb hp
  rcases hl with rfl | hl
  · refine low_sp fun w hw => ?_
    simp only [List.mem_cons, List.not_mem_nil, or_false] at hw
    rcases hw with rfl | rfl | rfl
    · exact okW_by (by decide +kernel)
    · exact okW_word (d.ok.word p hp)
    · exact okW_num R.many
  · obtain ⟨x, hx, rfl⟩ := List.mem_map.mp hl
    exact low_sp (ln_words (R.lns x hx)).2.1
theorem house_len {h : Ho} (d : HoDr h) : (houseText h).length ≤ 1000000 := by
  obtain ⟨s1, s2⟩ := houseLines_S d.ok (big_of d)
  have h1 := join_len "\n" (houseLines h)
  have h2 := sum_le s2
  have h3 : ("\n" : Str).length = 1 := rfl
  rw [h3] at h1
  have : (houseLines h).length * 100 ≤ 84 * 100 := Nat.mul_le_mul_right _ s1
  unfold houseText
  omega
theorem okR_house {h : Ho} (d : HoDr h) : okR (.str (houseText h)) = true := okR_str (low_house d) (house_len d)
/-! weavings -/
theorem vol_mv {m : Mv} (h : MvS m) : Vol 13000 3 m.d := by
  obtain ⟨h1, h2⟩ := h
  have s12 : ∀ k : Int, wholeI k 0 11 = true → Vol 90 0 (.int k) := fun k hk => by
    have := whole_iff.mp hk
    exact Vol.int ⟨by omega, by omega⟩
  have wd : ∀ z : Str, okWB z = true → Vol 90 0 (.str z) := fun z hz => Vol.str (okW_by hz)
  have two : ∀ (z : Str) (k : Int), okWB z = true → wholeI k 0 11 = true → Vol 13000 3 (.tuple [.str z, .int k]) := fun z k hz hk => (vol_two (wd z hz) (s12 k hk)).mono (by decide) (by decide)
  cases m with
  | edge k e =>
    have hk : (wholeI k 0 11 && edgeB e 6) = true := h1
    rw [Bool.and_eq_true] at hk
    have ve := vol_ed hk.2 (by decide) (h2 k e rfl).1
    exact (Vol.tup (n := 4000) (k := 2) (m := 3) (xs := [.str "edge", .int k, e.d]) (fun x hx => by
      simp only [List.mem_cons, List.not_mem_nil, or_false] at hx; rcases hx with rfl | rfl | rfl
      · exact (wd _ (by decide +kernel)).mono (by decide) (by decide)
      · exact (s12 k hk.1).mono (by decide) (by decide)
      · exact ve) (Nat.le_refl 3)).mono (by decide) (by decide)
  | come k => exact two "come" k (by decide +kernel) h1
  | leave k => exact two "leave" k (by decide +kernel) h1
  | bell k => exact two "bell" k (by decide +kernel) h1
theorem vol_mvs {ms : List Mv} (h : ∀ m ∈ ms, MvS m) (hl : ms.length ≤ 15) : Vol 200000 4 (mvsD ms) ∧ Vol 200000 4 (.list (ms.map Mv.d)) := by
  have hx : ∀ x ∈ ms.map Mv.d, Vol 13000 3 x := fun x hx => by
    obtain ⟨m, hm, rfl⟩ := List.mem_map.mp hx
    exact vol_mv (h m hm)
  exact ⟨(Vol.tup hx (m := 15) (by rw [List.length_map]; exact hl)).mono (by decide) (by decide), (Vol.lst hx (m := 15) (by rw [List.length_map]; exact hl)).mono (by decide) (by decide)⟩
theorem okR_mvs {ms : List Mv} (h : ∀ m ∈ ms, MvS m) (hl : ms.length ≤ 15) : okR (mvsD ms) = true := (vol_mvs h hl).1.ok_t (by decide) (by decide)
theorem mv_line {m : Mv} (h : MvS m) : (sp m.ws).length ≤ 117 ∧ lowS (sp m.ws) := by
  obtain ⟨w1, w2, w3⟩ := mv_small h
  have h1 := sp_len (zs := m.ws) (m := 8) fun z hz => (w1 z hz).1
  exact ⟨by omega, low_sp w1⟩
theorem weav_sum {ms : List Mv} (h : ∀ m ∈ ms, MvS m) : (weavText ms).length ≤ ms.length * 118 ∧ ((ms.map fun m => sp m.ws).map (·.length)).sum ≤ ms.length * 117 := by
  have hx : ∀ z ∈ ms.map fun m => sp m.ws, z.length ≤ 117 := fun z hz => by
    obtain ⟨m, hm, rfl⟩ := List.mem_map.mp hz
    exact (mv_line (h m hm)).1
  have h1 := join_len "\n" (ms.map fun m => sp m.ws)
  have h2 := sum_le hx
  have h3 : ("\n" : Str).length = 1 := rfl
  rw [h3, List.length_map] at h1
  rw [List.length_map] at h2
  unfold weavText
  exact ⟨by omega, h2⟩
theorem okR_weav {ms : List Mv} (h : ∀ m ∈ ms, MvS m) (hl : ms.length ≤ 15) : okR (.str (weavText ms)) = true :=
  okR_str (low_join (by unfold lowS; decide +kernel) fun l hl => by
    obtain ⟨m, hm, rfl⟩ := List.mem_map.mp hl
    exact (mv_line (h m hm)).2) (by have := (weav_sum h).1; omega)
end Wk
namespace Wk
open L2 RZ PyProof.Rows PySem.Spec PySem LamX
/-! ### one turn of the law's loop -/
def oddMenu (ms : List Mv) : List PyData := [.none, .int 5, .str "", .list (ms.map Mv.d), .tuple [.none], .tuple [.tuple [.str "bell", .int 12]], .tuple [.tuple [.str "come", .bool true]], .tuple [.tuple [.str "edge", .int 0, .tuple [.int 0, .tuple [], .str "go", .int 6]]],
  .tuple [.tuple [.str "edge", .int 0]], .tuple [.tuple [.str "bell", .int 0, .int 0]], .tuple [.tuple [.str "ring", .int 0]]]
theorem Vol.dec {n k : Nat} {d : PyData} (h : (d.showable && (!d.hasDict && (decide (d.depth ≤ k) && decide (d.shown.length ≤ n)))) = true) : Vol n k d := by
  simp only [Bool.and_eq_true, Bool.not_eq_true', decide_eq_true_eq] at h
  exact ⟨h.1, h.2.1, h.2.2.1, h.2.2.2⟩
theorem odd_ok {ms : List Mv} (hm : ∀ m ∈ ms, MvS m) (hl : ms.length ≤ 15) : ∀ x ∈ oddMenu ms, oddW x ∧ Vol 200000 5 x := by
  have key : ∀ x ∈ oddMvs, x ≠ .none → Vol 1000 3 x := by
    intro x hx hn
    simp only [oddMvs, List.mem_cons, List.not_mem_nil, or_false] at hx
    rcases hx with rfl | rfl | rfl | rfl | rfl | rfl | rfl
    · exact absurd rfl hn
    all_goals exact Vol.dec (by decide +kernel)
  have one : ∀ x ∈ oddMvs, x ≠ .none → oddW (.tuple [x]) ∧ Vol 200000 5 (.tuple [x]) := fun x hx hn => ⟨.inr (.inr (.inr (.inr (.inl ⟨x, hx, rfl⟩)))), (Vol.tup (n := 1000) (k := 3) (m := 1) (xs := [x]) (fun y hy => by rw [List.mem_singleton.mp hy]; exact key x hx hn) (Nat.le_refl 1)).mono (by decide) (by decide)⟩
  intro x hx
  simp only [oddMenu, List.mem_cons, List.not_mem_nil, or_false] at hx
  rcases hx with rfl | rfl | rfl | rfl | rfl | rfl | rfl | rfl | rfl | rfl | rfl
  · exact ⟨.inl rfl, Vol.dec (by decide +kernel)⟩
  · exact ⟨.inr (.inl rfl), Vol.dec (by decide +kernel)⟩
  · exact ⟨.inr (.inr (.inl rfl)), Vol.dec (by decide +kernel)⟩
  · exact ⟨.inr (.inr (.inr (.inl ⟨_, rfl⟩))), ((vol_mvs hm hl).2).mono (by decide) (by decide)⟩
  · exact ⟨.inr (.inr (.inr (.inr (.inl ⟨.none, by simp [oddMvs], rfl⟩)))), Vol.dec (by decide +kernel)⟩
  all_goals exact one _ (by simp [oddMvs, Ed.d, strsD]) (by simp)
theorem okR_found {x : PyData} (v : Vol 200000 5 x) : okR (.list [.tuple [.str "row", x], .tuple [.str "house", .tuple []]]) = true := by
  have h1 : Vol 410000 6 (.tuple [.str "row", x]) := (vol_two ((Vol.str (okW_by (by decide +kernel))).mono (n' := 200000) (k' := 5) (by decide) (by decide)) v).mono (by decide) (by decide)
  have h2 : Vol 410000 6 (.tuple [.str "house", .tuple []]) := Vol.dec (by decide +kernel)
  exact (Vol.lst (n := 410000) (k := 6) (m := 2) (xs := [.tuple [.str "row", x], .tuple [.str "house", .tuple []]]) (fun y hy => by
    simp only [List.mem_cons, List.not_mem_nil, or_false] at hy
    rcases hy with rfl | rfl
    · exact h1
    · exact h2) (Nat.le_refl 2)).ok_l (by decide) (by decide)
/-- what K says of the two errors -/
structure TwoK (K : PySem.W.Frag) : Prop where
  eh : ExcK K (He.ga K "BadHouse") "place"
  er : ExcK K (He.ga K "BadRow") "value"
  wh : WordK K (He.ga K "BadHouse") 0
  wr : WordK K (He.ga K "BadRow") 6
  ah : PySem.W.exmAny K (.ref (He.ga K "BadHouse")) (toldCs K) = some true
  ar : PySem.W.exmAny K (.ref (He.ga K "BadRow")) (toldCs K) = some true
theorem told_bad {K : PySem.W.Frag} {C : Addr} {fld : Str} {w : String} {g : Nat} (eK : ExcK K C fld) (wK : WordK K C g) (aK : PySem.W.exmAny K (.ref C) (toldCs K) = some true) (hg : (g = 0 ∧ fld = "place" ∧ w = "house") ∨ (g = 6 ∧ fld = "value" ∧ w = "row")) {T : List PyData → PyData → Prop} {d : PyData} {v : V} {H H1 : Hp} {Qn Q : VK} (hT : T [d] d)
    (hx : ∀ b o, H b = some o → H1 b = some o) (q : Dq K (fun _ => False) H v d) (k : ∀ v' H', (∀ b o, H b = some o → H' b = some o) → Dq K (fun _ => False) H' v' (.tuple [.str w, d]) → Q v' H') :
    spBad K C fld T [v] H1 Qn (fun cls d H' => ∃ C dd, cls = .ref C ∧ d = some dd ∧ PySem.W.exmAny K cls (toldCs K) = some true ∧ ∀ a, H' a = none → spErr K [.ref a] (upd H' a (exh a C dd)) Q EF) := by
  have q1 : Dq K (fun _ => False) H1 v d := q.exM fun a o _ z => hx a o z
  refine ⟨fun _ => False, [d], d, fun _ z => z.elim, .cons q1 .nil, hT, fun y dd H' keep hdd qy => ⟨C, dd, rfl, rfl, aK, fun a na => ?_⟩⟩
  have up : ∀ b o, H' b = some o → upd H' a (exh a C dd) b = some o := fun b o z => by rw [upd_ne (ne_of_none z na)]; exact z
  refine ⟨fun _ => False, C, fld, d, .ref a, fun z => z = .tuple [.str w, d], rfl, fun _ z => z.elim, ⟨a, dd, y, rfl, id, upd_same, id, up _ _ hdd, qy.exM fun b o _ z => up b o z⟩, ⟨eK, g, w, wK, hg, rfl⟩, fun v' H2 d' keep2 qv ed => ?_⟩
  subst ed
  exact k v' H2 (fun b o z => keep2 b o (up b o (keep b o (hx b o z)))) qv
/-- the two tellings -/
theorem told_ok {K : PySem.W.Frag} (k2 : TwoK K) {p m : Addr} {σ : L2.St} {H : Hp} {δ : List Sl} {b i : Nat} {x : PyData} (L : Lw K (lawT p) m σ H δ b) (hx : δ[i]? = some (.dat x)) (ho : oddW x) {Q : VK}
    (k : ∀ v H', ExtN H H' → Tabs (lawT p) H' → Dq K (fun a => a = m) H' v (.tuple [.str "row", x]) → Q v H') : rLamW K p i σ H Q := by
  refine ⟨L.tabs, fun H1 e1 T1 Qn H2 keep => ?_⟩
  obtain ⟨v, hv, qv⟩ := L.rep.dat hx
  have qf : Dq K (fun _ => False) H v x := qv.mu fun _ z => z.elim
  refine ⟨v, hv, ?_⟩
  refine told_bad (Qn := Qn) k2.er k2.wr k2.ar (.inr ⟨rfl, rfl, rfl⟩) (show TB_weaving_text [x] x from ⟨rfl, ho⟩) keep (dq_ext e1 qf) fun v' H' keep' q' => ?_
  have T' : Tabs (lawT p) H' := T1.ext keep'
  have e' : ExtN H H' := e1.trans (ExtN.of keep')
  refine k v' H' e' T' ?_
  have md := e' m _ L.mk0.choose_spec fun ps w => nomatch w
  refine Dq.map (fun a xs z => ?_) (fun a xs z => ?_) _ _ q'
  · rcases z with ⟨z, _⟩ | z
    · exact .inl ⟨z, fun ea => by
        rw [ea] at z
        rcases z with z | ⟨o, z⟩ <;> rw [md] at z <;> cases z⟩
    · exact .inr z
  · rcases z with ⟨z, _⟩ | z
    · exact .inl ⟨z, fun ea => by
        rw [ea] at z
        rcases z with z | ⟨o, z⟩ <;> rw [md] at z <;> cases z⟩
    · exact .inr z
theorem told_okH {K : PySem.W.Frag} (k2 : TwoK K) {p m : Addr} {σ σ2 : L2.St} {H : Hp} {δ : List Sl} {b : Nat} (L : Lw K (lawT p) m σ H δ b) {Q : VK}
    (k : ∀ v H', ExtN H H' → Tabs (lawT p) H' → Dq K (fun a => a = m) H' v (.tuple [.str "house", .tuple []]) → Q v H') : rLamH K p σ2 H Q := by
  refine ⟨L.tabs, fun H1 e1 T1 Qn H2 keep => ?_⟩
  refine ⟨Nat.zero_le _, fun t ht => ?_⟩
  have keep2 : ∀ b o, H1 b = some o → upd H2 t (.tup []) b = some o := fun b o z => by rw [upd_ne (ne_of_none (keep b o z) ht)]; exact keep b o z
  have qt : Dq K (fun _ => False) (upd H2 t (.tup [])) (.ref t) (.tuple []) := .tup (.of upd_same id) .nil
  refine told_bad (H := upd H2 t (.tup [])) (Qn := Qn) k2.eh k2.wh k2.ah (.inl ⟨rfl, rfl, rfl⟩) (show TB_empty [.tuple []] (.tuple []) from ⟨rfl, rfl⟩) (fun _ _ z => z) qt fun v' H' keep' q' => ?_
  have T' : Tabs (lawT p) H' := T1.ext fun b o z => keep' b o (keep2 b o z)
  have e' : ExtN H H' := e1.trans (ExtN.of fun b o z => keep' b o (keep2 b o z))
  refine k v' H' e' T' ?_
  have md := e' m _ L.mk0.choose_spec fun ps w => nomatch w
  refine Dq.map (fun a xs z => ?_) (fun a xs z => ?_) _ _ q'
  · rcases z with ⟨z, _⟩ | z
    · exact .inl ⟨z, fun ea => by
        rw [ea] at z
        rcases z with z | ⟨o, z⟩ <;> rw [md] at z <;> cases z⟩
    · exact .inr z
  · rcases z with ⟨z, _⟩ | z
    · exact .inl ⟨z, fun ea => by
        rw [ea] at z
        rcases z with z | ⟨o, z⟩ <;> rw [md] at z <;> cases z⟩
    · exact .inr z
end Wk
namespace Wk
open L2 RZ PyProof.Rows PySem.Spec PySem LamX
theorem if_no {p : Prop} [Decidable p] {x y : Prop} (h : ¬ p) (q : y) : if p then x else y := by rw [if_neg h]; exact q
section
variable {L0 : PyData} {m : Addr} {s2 s3 s4 s5 s6 s7 s8 s9 s10 s11 s12 s13 : Sl} {F : Fm} {b : Nat} {h : Ho} {t : Tr} {ms : List Mv}
theorem w_f0 (hm : F.m = some m) (hb : b + 3000 ≤ drawsMax) : u_f0 F { nx := fun δ' b' => ∃ h, HoDr h ∧ b' ≤ b + 1000 ∧ δ' = ([.dat L0, .raw (.ref m), s2, s3, .dat (hoD h), s5, s6, s7, s8, s9, s10, s11, s12, s13] : List Sl), rt := fun _ _ => False } ([.dat L0, .raw (.ref m), s2, s3, s4, s5, s6, s7, s8, s9, s10, s11, s12, s13] : List Sl) b :=
  ⟨⟨m, hm, rfl⟩, rfl, by omega, fun h hd b' hb' => ⟨h, hd, hb', rfl⟩⟩
theorem w_f1 (hd : HoDr h) : u_f1 F { nx := fun δ' b' => b' = b ∧ δ' = ([.dat L0, .raw (.ref m), s2, s3, .dat (hoD h), s5, s6, .dat (.str (houseText h)), s8, s9, s10, s11, s12, s13] : List Sl), rt := fun _ _ => False } ([.dat L0, .raw (.ref m), s2, s3, .dat (hoD h), s5, s6, s7, s8, s9, s10, s11, s12, s13] : List Sl) b :=
  ⟨_, rfl, h, rfl, hd.ok, big_of hd, rfl, rfl⟩
theorem w_f2 (hd : HoDr h) : u_f2 F { nx := fun δ' b' => b' = b ∧ δ' = ([.dat L0, .raw (.ref m), s2, s3, .dat (hoD h), s5, s6, .dat (.str (houseText h)), s8, s9, s10, s11, s12, s13] : List Sl), rt := fun _ _ => False } ([.dat L0, .raw (.ref m), s2, s3, .dat (hoD h), s5, s6, .dat (.str (houseText h)), s8, s9, s10, s11, s12, s13] : List Sl) b := by
  refine ⟨_, rfl, h, rfl, hd.ok, big_of hd, _, rfl, _, rfl, okR_house hd, true, rfl, ?_⟩
  refine if_no (by decide) ?_
  refine ⟨_, rfl, h, rfl, hd.ok, big_of hd, _, rfl, _, rfl, okR_ho hd, true, rfl, ?_⟩
  refine if_no (by decide) ?_
  exact ⟨rfl, rfl⟩
theorem w_f3 (hm : F.m = some m) (hd : HoDr h) (hb : b + 2000 ≤ drawsMax) : u_f3 F { nx := fun δ' b' => ∃ t, TrOk h t ∧ b' ≤ b + 100 ∧ δ' = ([.dat L0, .raw (.ref m), s2, s3, .dat (hoD h), s5, s6, s7, .dat t.d, s9, s10, s11, s12, s13] : List Sl), rt := fun _ _ => False } ([.dat L0, .raw (.ref m), s2, s3, .dat (hoD h), s5, s6, s7, s8, s9, s10, s11, s12, s13] : List Sl) b :=
  ⟨⟨m, hm, rfl⟩, _, rfl, h, rfl, hd, by omega, fun t ht b' hb' => ⟨t, ht, hb', rfl⟩⟩
theorem w_f4 (hm : F.m = some m) (hd : HoDr h) (ht : TrOk h t) (hb : b + 1500 ≤ drawsMax) : u_f4 F { nx := fun δ' b' => ∃ ms : List Mv, ms.length ≤ 15 ∧ (∀ x ∈ ms, MvS x) ∧ b' ≤ b + 500 ∧ δ' = ([.dat L0, .raw (.ref m), s2, s3, .dat (hoD h), s5, s6, s7, .dat t.d, .dat (mvsD ms), s10, s11, s12, s13] : List Sl), rt := fun _ _ => False } ([.dat L0, .raw (.ref m), s2, s3, .dat (hoD h), s5, s6, s7, .dat t.d, s9, s10, s11, s12, s13] : List Sl) b :=
  ⟨⟨m, hm, rfl⟩, _, rfl, _, rfl, h, t, rfl, hd, ht, by omega, fun ms hl hm ss b' hb' => ⟨_, rfl, ms, hl, fun x hx => (hm x hx).s, hb', rfl⟩⟩
theorem w_f5 (hp : noOwn [13] ([.dat L0, .raw (.ref m), s2, s3, s4, s5, s6, s7, s8, .dat (mvsD ms), s10, s11, s12, s13] : List Sl)) (hl : ms.length ≤ 15) (hm : ∀ x ∈ ms, MvS x) : u_f5 F { nx := fun δ' b' => b' = b ∧ δ' = ([.dat L0, .raw (.ref m), s2, s3, s4, s5, s6, .dat (.str (weavText ms)), s8, .dat (mvsD ms), s10, s11, s12, s13] : List Sl), rt := fun _ _ => False } ([.dat L0, .raw (.ref m), s2, s3, s4, s5, s6, s7, s8, .dat (mvsD ms), s10, s11, s12, s13] : List Sl) b := by
  refine ⟨_, rfl, hp, _, rfl, _, rfl, by rw [line_eq, List.length_map]; omega, ?_⟩
  refine lc_map Mv.d (fun x => .str (sp x.ws)) ms (fun x hx => ⟨_, rfl, fun b Q q => ⟨_, rfl, x, rfl, hm x hx, q⟩⟩) [] b _ ?_
  have h2 := (weav_sum hm).2
  have h3 : ("\n" : Str).length = 1 := rfl
  refine ⟨ms.map fun x => sp x.ws, by rw [List.nil_append, List.map_map]; rfl, ?_, rfl, rfl⟩
  rw [h3, List.length_map]
  omega
theorem w_f6 (hl : ms.length ≤ 15) (hm : ∀ x ∈ ms, MvS x) : u_f6 F { nx := fun δ' b' => b' = b ∧ δ' = ([.dat L0, .raw (.ref m), s2, s3, s4, s5, s6, .dat (.str (weavText ms)), s8, .dat (mvsD ms), s10, s11, s12, s13] : List Sl), rt := fun _ _ => False } ([.dat L0, .raw (.ref m), s2, s3, s4, s5, s6, .dat (.str (weavText ms)), s8, .dat (mvsD ms), s10, s11, s12, s13] : List Sl) b := by
  refine ⟨_, rfl, ms, rfl, by omega, hm, _, rfl, _, rfl, okR_weav hm hl, true, rfl, ?_⟩
  refine if_no (by decide) ?_
  refine ⟨_, rfl, ms, rfl, by omega, hm, _, rfl, _, rfl, okR_mvs hm hl, true, rfl, ?_⟩
  refine if_no (by decide) ?_
  exact ⟨rfl, rfl⟩
theorem w_f7 (hl : ms.length ≤ 15) : u_f7 F { nx := fun δ' b' => b' = b ∧ δ' = ([.dat L0, .raw (.ref m), s2, s3, s4, s5, s6, s7, s8, .dat (mvsD ms), .own ((oddMenu ms).take 7), s11, s12, s13] : List Sl), rt := fun _ _ => False } ([.dat L0, .raw (.ref m), s2, s3, s4, s5, s6, s7, s8, .dat (mvsD ms), s10, s11, s12, s13] : List Sl) b := by
  have le : ∀ n : Nat, n ≤ 24 → n ≤ sizeLine := fun n h => Nat.le_trans h (by rw [line_eq]; decide)
  refine ⟨_, rfl, _, rfl, le _ (by rw [List.length_map]; omega), le 1 (by decide), le 2 (by decide), le 1 (by decide), le 2 (by decide), le 1 (by decide), le 7 (by decide), rfl, rfl⟩
theorem w_f8 (hl : ms.length ≤ 15) : u_f8 F { nx := fun δ' b' => b' = b ∧ δ' = ([.dat L0, .raw (.ref m), s2, s3, s4, s5, s6, s7, s8, .dat (mvsD ms), .own ((oddMenu ms).take 8), s11, s12, s13] : List Sl), rt := fun _ _ => False } ([.dat L0, .raw (.ref m), s2, s3, s4, s5, s6, s7, s8, .dat (mvsD ms), .own ((oddMenu ms).take 7), s11, s12, s13] : List Sl) b := by
  have le : ∀ n : Nat, n ≤ 24 → n ≤ sizeLine := fun n h => Nat.le_trans h (by rw [line_eq]; decide)
  exact ⟨_, rfl, le 0 (by decide), le 4 (by decide), le 3 (by decide), le 1 (by decide), Nat.lt_of_lt_of_le (show (7 : Nat) < 24 by decide) (by rw [line_eq]; decide), rfl, rfl⟩
theorem w_f9 (hm : F.m = some m) (hb : b < drawsMax) : u_f9 F { nx := fun δ' b' => ∃ x ∈ oddMenu ms, b' = b + 1 ∧ δ' = ([.dat L0, .raw (.ref m), s2, s3, s4, s5, s6, s7, s8, .dat (mvsD ms), .own ((oddMenu ms).take 8), .dat x, s12, s13] : List Sl), rt := fun _ _ => False } ([.dat L0, .raw (.ref m), s2, s3, s4, s5, s6, s7, s8, .dat (mvsD ms), .own ((oddMenu ms).take 8), s11, s12, s13] : List Sl) b := by
  have le : ∀ n : Nat, n ≤ 24 → n ≤ sizeLine := fun n h => Nat.le_trans h (by rw [line_eq]; decide)
  exact ⟨⟨m, hm, rfl⟩, _, rfl, le 2 (by decide), le 1 (by decide), le 3 (by decide), le 1 (by decide), le 2 (by decide), le 1 (by decide), le 3 (by decide), le 11 (by decide), oddMenu ms, .inl rfl, by show (1 : Nat) ≤ 11; decide, by show (11 : Nat) ≤ _; decide, hb, fun x hx => ⟨x, hx, rfl, rfl⟩⟩
theorem w_f11 {x : PyData} (v : Vol 200000 5 x) : u_f11 F { nx := fun δ' b' => b' = b ∧ δ' = ([.dat L0, .raw (.ref m), s2, s3, s4, s5, s6, s7, s8, s9, s10, .dat x, .dat (.list [.tuple [.str "row", x], .tuple [.str "house", .tuple []]]), s13] : List Sl), rt := fun _ _ => False } ([.dat L0, .raw (.ref m), s2, s3, s4, s5, s6, s7, s8, s9, s10, .dat x, .dat (.list [.tuple [.str "row", x], .tuple [.str "house", .tuple []]]), s13] : List Sl) b := by
  have le : ∀ n : Nat, n ≤ 24 → n ≤ sizeLine := fun n h => Nat.le_trans h (by rw [line_eq]; decide)
  refine ⟨_, rfl, _, rfl, le 2 (by decide), le 0 (by decide), le 2 (by decide), le 2 (by decide), _, rfl, okR_found v, true, rfl, ?_⟩
  refine if_no (by decide) ?_
  exact ⟨rfl, rfl⟩
end
end Wk
namespace Wk
open L2 RZ PyProof.Rows PySem.Spec PySem LamX
theorem dq_m {K : PySem.W.Frag} {m : Addr} {H : Hp} {pp : Addr} {xs : List V} {ds : List PyData} (hm : ∃ l, H m = some (.dK l)) (hp : H pp = none) (q : DqAll K (fun a => a = m) H xs ds) : Dq K (fun a => a = m) (upd H pp (.lst xs)) (.ref pp) (.list ds) := by
  refine .lst (.of upd_same fun e => ?_) (q.exM (ExM.new hp))
  obtain ⟨l, hl⟩ := hm
  rw [e, hl] at hp
  cases hp
theorem turn_ok {K : PySem.W.Frag} (k2 : TwoK K) {p m : Addr} {σ : L2.St} {H : Hp} {b : Nat} {L0 : PyData} {s2 s3 s4 s5 s6 s7 s8 s9 s10 s11 s12 s13 : Sl} (L : Lw K (lawT p) m σ H ([.dat L0, .raw (.ref m), s2, s3, s4, s5, s6, s7, s8, s9, s10, s11, s12, s13] : List Sl) b) (hb : b + 3000 ≤ drawsMax) {D : Ends}
    (k : ∀ σ' H' b' t2 t3 t4 t5 t6 t7 t8 t9 t10 t11 t12 t13, Lw K (lawT p) m σ' H' ([.dat L0, .raw (.ref m), t2, t3, t4, t5, t6, t7, t8, t9, t10, t11, t12, t13] : List Sl) b' → b' ≤ b + 3000 → D.nx σ' H') : tTurn K p D σ H := by
  have p13 : ∀ ds, s13 ≠ Sl.own ds := fun ds e => by
    have := L.pur s13 (by simp)
    rw [e] at this
    cases this
  refine goR L.rep (w_f0 rfl hb) ?_
  rintro Mu1 σ1 H1 δ1 b1 R1 ⟨h, hd, hb1, rfl⟩
  refine goR R1 (w_f1 hd) ?_
  rintro Mu2 σ2 H2 δ2 b2 R2 ⟨rfl, rfl⟩
  refine goR R2 (w_f2 hd) ?_
  rintro Mu3 σ3 H3 δ3 b3 R3 ⟨rfl, rfl⟩
  refine goR R3 (w_f3 rfl hd (by omega)) ?_
  rintro Mu4 σ4 H4 δ4 b4 R4 ⟨t, ht, hb4, rfl⟩
  refine goR R4 (w_f4 rfl hd ht (by omega)) ?_
  rintro Mu5 σ5 H5 δ5 b5 R5 ⟨ms, hl, hm, hb5, rfl⟩
  refine goR R5 (w_f5 (fun i hi ds e => ?_) hl hm) ?_
  · rw [List.mem_singleton.mp hi] at e
    exact p13 ds (Option.some.inj e)
  rintro Mu6 σ6 H6 δ6 b6 R6 ⟨rfl, rfl⟩
  refine goR R6 (w_f6 hl hm) ?_
  rintro Mu7 σ7 H7 δ7 b7 R7 ⟨rfl, rfl⟩
  refine goR R7 (w_f7 hl) ?_
  rintro Mu8 σ8 H8 δ8 b8 R8 ⟨rfl, rfl⟩
  refine goR R8 (w_f8 hl) ?_
  rintro Mu9 σ9 H9 δ9 b9 R9 ⟨rfl, rfl⟩
  refine goR R9 (w_f9 rfl (by omega)) ?_
  rintro Mu10 σ10 H10 δ10 b10 R10 ⟨x, hx, rfl, rfl⟩
  obtain ⟨ow, vx⟩ := odd_ok hm hl x hx
  have L1 := R10.lw rfl L.tabs L.mk0
  show rLamW K p 11 σ10 H10 _
  refine told_ok k2 L1 (i := 11) rfl ow fun v1 H11 e1 T1 q1 => ?_
  have L2 := L1.ext e1 T1
  show rLamH K p σ10 H11 _
  refine told_okH k2 L2 fun v2 H12 e2 T2 q2 => ?_
  have L3 := L2.ext e2 T2
  refine ⟨by rw [line_eq]; show (2 : Nat) ≤ _; decide, fun pp hp => ?_⟩
  have L4 := L3.ext (ExtN.of fun a o z => by rw [upd_ne (ne_of_none z hp)]; exact z) (T2.ext (H' := upd H12 pp (.lst [v1, v2])) fun a o z => by rw [upd_ne (ne_of_none z hp)]; exact z)
  have L5 := L4.set (i := 12) (dq_m L3.mk0 hp (.cons (dq_ext e2 q1) (.cons q2 .nil)))
  refine goR L5.rep (w_f11 vx) ?_
  rintro Mu13 σ13 H13 δ13 b13 R13 ⟨rfl, rfl⟩
  exact k _ _ _ _ _ _ _ _ _ _ _ _ _ _ _ (R13.lw rfl L5.tabs L5.mk0) (by omega)
/-! ### behind the loop -/
mutual
theorem eqv_self : ∀ d : PyData, d.canLay0 = true → PyData.eqv d d = true
  | .none, _ => rfl
  | .bool b, _ => (by simp [PyData.eqv])
  | .int i, _ => (by simp [PyData.eqv])
  | .str x, _ => (by simp [PyData.eqv])
  | .list xs, h => eqv_selfs xs h
  | .tuple xs, h => eqv_selfs xs h
  | .dict _, h => by cases h
theorem eqv_selfs : ∀ ds : List PyData, PyData.canLayAll0 ds = true → PyData.eqvAll ds ds = true
  | [], _ => rfl
  | d :: ds, h => by
    have h' : (d.canLay0 && PyData.canLayAll0 ds) = true := h
    rw [Bool.and_eq_true] at h'
    simp only [PyData.eqvAll, eqv_self d h'.1, eqv_selfs ds h'.2, Bool.and_self]
end
def h0 : Ho := [("kind", ⟨2, [1], [0, 1], [⟨0, ["held", "over"], "hold", 1⟩, ⟨1, [], "give", 0⟩], ["kind", "up"]⟩), ("up", ⟨1, [], [], [], []⟩)]
def due0 : Str := "kind kind 2\nup 1\ndeaf 0 1\n0 hold 1 held over\n1 give 0\nbelow kind up\nkind up 1"
theorem h0_text : houseText h0 = due0 := by decide +kernel
theorem h0_ok : HoOk h0 := by
  refine ⟨by decide, by decide, by decide +kernel, by decide +kernel, fun p hp => ?_⟩
  simp only [h0, List.mem_cons, List.not_mem_nil, or_false] at hp
  rcases hp with rfl | rfl
  · exact ⟨by decide +kernel, by decide +kernel, by decide +kernel, by decide +kernel, by decide +kernel, by decide +kernel, by decide +kernel, by decide, by decide +kernel, by decide +kernel⟩
  · exact ⟨by decide +kernel, by decide +kernel, by decide +kernel, by decide +kernel, by decide +kernel, by decide +kernel, by decide +kernel, by decide, by decide +kernel, by decide +kernel⟩
theorem h0_big : HoBig h0 := by
  intro p hp
  simp only [h0, List.mem_cons, List.not_mem_nil, or_false] at hp
  rcases hp with rfl | rfl
  · exact ⟨by decide, by decide, by decide, by decide, by decide, by decide⟩
  · exact ⟨by decide, by decide, by decide, by decide, by decide, by decide⟩
def bells (n : Nat) : List Mv := List.replicate n (.bell 0)
theorem bell_w : (sp (Mv.bell 0).ws).length = 6 := by decide +kernel
theorem bells_len : ∀ n : Nat, 1 ≤ n → (weavText (bells n)).length + 1 = 7 * n
  | 1, _ => by decide +kernel
  | n + 2, _ => by
    have ih := bells_len (n + 1) (by omega)
    have e : weavText (bells (n + 2)) = sp (Mv.bell 0).ws ++ "\n" ++ weavText (bells (n + 1)) := by
      unfold weavText bells
      rw [List.replicate_succ, List.replicate_succ]
      simp only [List.map_cons]
      refine TL.ext_tl ?_
      rw [TL.tl_append, TL.tl_append, TL.join_eq, TL.tl_join, TL.join_eq, TL.tl_join]
      simp only [List.map_cons, TL.joinL, List.append_assoc]
    rw [e, len_app, len_app, bell_w]
    have : ("\n" : Str).length = 1 := rfl
    omega
theorem bells_mv (n : Nat) : ∀ x ∈ bells n, MvS x := fun x hx => by
  rw [(List.mem_replicate.mp hx).2]
  exact ⟨by decide +kernel, fun k e z => by cases z⟩
end Wk
namespace Wk
open L2 RZ PyProof.Rows PySem.Spec PySem LamX
def edges0 : PyData := .tuple [.tuple [.int 0, .tuple [.str "held", .str "over"], .str "hold", .int 1], .tuple [.int 1, .tuple [], .str "give", .int 0]]
def longN (ns : List Int) : Nat := if ns = [] then 10001 else 1
section
variable {ns : List Int} {m : Addr} {s2 s3 s4 s5 s6 s7 s8 s9 s10 s11 s12 s13 : Sl} {F : Fm} {b : Nat}
theorem w_s2 : u_s2 F { nx := fun δ' b' => δ' = ([.dat (.list (ns.map PyData.int)), .raw (.ref m), s2, .dat edges0, s4, s5, s6, s7, s8, s9, s10, s11, s12, s13] : List Sl), rt := fun _ _ => False } ([.dat (.list (ns.map PyData.int)), .raw (.ref m), s2, s3, s4, s5, s6, s7, s8, s9, s10, s11, s12, s13] : List Sl) b := by
  have le : ∀ n : Nat, n ≤ 24 → n ≤ sizeLine := fun n h => Nat.le_trans h (by rw [line_eq]; decide)
  exact ⟨le 2 (by decide), le 4 (by decide), le 0 (by decide), le 4 (by decide), le 2 (by decide), rfl⟩
theorem w_s3 : u_s3 F { nx := fun δ' b' => δ' = ([.dat (.list (ns.map PyData.int)), .raw (.ref m), s2, .dat edges0, .dat (hoD h0), s5, s6, s7, s8, s9, s10, s11, s12, s13] : List Sl), rt := fun _ _ => False } ([.dat (.list (ns.map PyData.int)), .raw (.ref m), s2, .dat edges0, s4, s5, s6, s7, s8, s9, s10, s11, s12, s13] : List Sl) b := by
  have le : ∀ n : Nat, n ≤ 24 → n ≤ sizeLine := fun n h => Nat.le_trans h (by rw [line_eq]; decide)
  exact ⟨le 1 (by decide), le 2 (by decide), _, rfl, le 4 (by decide), le 2 (by decide), le 2 (by decide), le 2 (by decide), le 0 (by decide), le 0 (by decide), le 0 (by decide), le 4 (by decide), le 0 (by decide), le 2 (by decide), le 2 (by decide), le 2 (by decide), rfl⟩
theorem w_s4 : u_s4 F { nx := fun δ' b' => δ' = ([.dat (.list (ns.map PyData.int)), .raw (.ref m), s2, s3, .dat (hoD h0), .dat (.str due0), s6, s7, s8, s9, s10, s11, s12, s13] : List Sl), rt := fun _ _ => False } ([.dat (.list (ns.map PyData.int)), .raw (.ref m), s2, s3, .dat (hoD h0), s5, s6, s7, s8, s9, s10, s11, s12, s13] : List Sl) b := rfl
theorem ne_due : neD (.str (houseText h0)) (.str due0) = some (.bool false) := by
  rw [neD_ss, h0_text]
  simp
theorem ne_self {d : PyData} (h1 : eqOk d d = true) (h2 : PyData.eqv d d = true) : neD d d = some (.bool false) := by
  unfold neD
  rw [if_pos h1, h2]
  rfl
theorem ne_h0 : neD (hoD h0) (hoD h0) = some (.bool false) := ne_self (by decide +kernel) (by decide +kernel)
theorem ne_nil : neD (mvsD []) (.tuple []) = some (.bool false) := ne_self (by decide +kernel) (by decide +kernel)
theorem no_weav : weavText [] = ("" : Str) := by decide +kernel
theorem w_s5 : u_s5 F { nx := fun δ' b' => δ' = ([.dat (.list (ns.map PyData.int)), .raw (.ref m), s2, s3, .dat (hoD h0), .dat (.str due0), s6, s7, s8, s9, s10, s11, s12, s13] : List Sl), rt := fun _ _ => False } ([.dat (.list (ns.map PyData.int)), .raw (.ref m), s2, s3, .dat (hoD h0), .dat (.str due0), s6, s7, s8, s9, s10, s11, s12, s13] : List Sl) b := by
  refine ⟨_, rfl, h0, rfl, h0_ok, h0_big, _, rfl, _, ne_due, false, rfl, ?_⟩
  refine if_no (by decide) ?_
  refine ⟨_, rfl, h0, by rw [h0_text], h0_ok, h0_big, _, rfl, _, ne_h0, false, rfl, ?_⟩
  refine if_no (by decide) ?_
  refine ⟨[], by rw [no_weav], Nat.zero_le _, fun x hx => (by cases hx), Nat.zero_le _, _, ne_nil, false, rfl, ?_⟩
  exact if_no (by decide) rfl
theorem bells_d (n : Nat) : (List.replicate n [PyData.tuple [.str "bell", .int 0]]).flatten = (bells n).map Mv.d := by
  unfold bells
  rw [List.map_replicate]
  induction n with
  | zero => rfl
  | succ n ih => rw [List.replicate_succ, List.flatten_cons, ih, List.replicate_succ]; rfl
theorem mul_t {ds : List PyData} {k : Int} (h : 1 ≤ ds.length ∧ 1 ≤ k ∧ ds.length * k.toNat ≤ 16777216) : mulD (.tuple ds) (.int k) = some (.tuple (List.replicate k.toNat ds).flatten) := by
  unfold mulD
  exact if_pos h
theorem w_s6 : u_s6 F { nx := fun δ' b' => δ' = ([.dat (.list (ns.map PyData.int)), .raw (.ref m), s2, s3, s4, s5, .dat (mvsD (bells (longN ns))), s7, s8, s9, s10, s11, s12, s13] : List Sl), rt := fun _ _ => False } ([.dat (.list (ns.map PyData.int)), .raw (.ref m), s2, s3, s4, s5, s6, s7, s8, s9, s10, s11, s12, s13] : List Sl) b := by
  have le : ∀ n : Nat, n ≤ 24 → n ≤ sizeLine := fun n h => Nat.le_trans h (by rw [line_eq]; decide)
  refine ⟨le 2 (by decide), le 1 (by decide), _, rfl, _, rfl, _, rfl, _, rfl, ?_⟩
  cases ns with
  | nil =>
    show if decide ((([] : List PyData).length : Int) < 1) = true then _ else _
    rw [if_pos (by decide)]
    refine ⟨mvsD (bells 10001), ?_, rfl⟩
    have e : mvsD (bells 10001) = .tuple (List.replicate (10001 : Int).toNat [PyData.tuple [.str "bell", .int 0]]).flatten := by
      rw [show (10001 : Int).toNat = 10001 from rfl, bells_d]
      rfl
    rw [e]
    exact mul_t ⟨Nat.le_refl 1, by decide, by decide⟩
  | cons n ns =>
    have hf : decide ((((n :: ns).map PyData.int).length : Int) < 1) = false := decide_eq_false (by simp; omega)
    show if decide ((((n :: ns).map PyData.int).length : Int) < 1) = true then _ else _
    rw [hf, if_neg (by decide)]
    refine ⟨mvsD (bells 1), ?_, rfl⟩
    have e : mvsD (bells 1) = .tuple (List.replicate (1 : Int).toNat [PyData.tuple [.str "bell", .int 0]]).flatten := rfl
    rw [e]
    exact mul_t ⟨Nat.le_refl 1, by decide, by decide⟩
end
end Wk
namespace Wk
open L2 RZ PyProof.Rows PySem.Spec PySem LamX
theorem long_ok (ns : List Int) : 1 ≤ longN ns ∧ longN ns ≤ 10001 := by
  unfold longN
  split <;> exact ⟨by decide, by decide⟩
theorem long_cut (n : Nat) : cutP ((bells n).map Mv.d) none (some 10000) = (bells (min 10000 n)).map Mv.d := by
  have h := cut_to ((bells n).map Mv.d) 10000
  rw [show ((10000 : Nat) : Int) = 10000 from rfl] at h
  rw [h, ← List.map_take]
  unfold bells
  rw [List.take_replicate]
section
variable {ns : List Int} {m : Addr} {s2 s3 s4 s5 s6 s7 s8 s9 s10 s11 s12 s13 : Sl} {F : Fm} {b : Nat}
theorem w_s7 : u_s7 F { nx := fun δ' b' => δ' = ([.dat (.list (ns.map PyData.int)), .raw (.ref m), s2, s3, s4, s5, .dat (mvsD (bells (longN ns))), s7, s8, s9, s10, s11, s12, s13] : List Sl), rt := fun _ _ => False } ([.dat (.list (ns.map PyData.int)), .raw (.ref m), s2, s3, s4, s5, .dat (mvsD (bells (longN ns))), s7, s8, s9, s10, s11, s12, s13] : List Sl) b := by
  obtain ⟨l1, l2⟩ := long_ok ns
  have hk : 1 ≤ min 10000 (longN ns) ∧ min 10000 (longN ns) ≤ 10000 := by omega
  have cut := long_cut (longN ns)
  have hlen := bells_len _ hk.1
  have hcl : (cutP ((bells (longN ns)).map Mv.d) none (some 10000)).length = min 10000 (longN ns) := by
    rw [cut, List.length_map]
    exact List.length_replicate
  refine ⟨_, rfl, 10000, rfl, _, rfl, bells (min 10000 (longN ns)), by rw [cut]; rfl, ?_, bells_mv _, _, lenD_str _ (by omega), ?_⟩
  · unfold bells
    rw [List.length_replicate]
    exact hk.2
  refine ⟨_, rfl, 10000, rfl, _, rfl, _, rfl, _, mul_ok _ _ (.inl (by decide)), _, rfl, _, neD_ii _ _, _, rfl, ?_⟩
  rw [hcl]
  have e : ((((weavText (bells (min 10000 (longN ns)))).length : Int) == 7 * ((min 10000 (longN ns) : Nat) : Int) - 1)) = true := by
    rw [beq_iff_eq]
    omega
  rw [e]
  exact if_no (by decide) rfl
end
theorem lay_bells (n : Nat) : (mvsD (bells n)).canLay0 = true := lay_all fun x hx => by
  obtain ⟨y, hy, rfl⟩ := List.mem_map.mp hx; exact mv_lay (bells_mv n y hy)
theorem deep_bells (n : Nat) : (mvsD (bells n)).depth ≤ 2 := by
  have : PyData.depthAll ((bells n).map Mv.d) ≤ 1 := deep_all fun x hx => by
    obtain ⟨y, hy, rfl⟩ := List.mem_map.mp hx; rw [(List.mem_replicate.mp hy).2]
    decide +kernel
  exact Nat.succ_le_succ this
theorem row_dp {K : PySem.W.Frag} {H : Hp} {pp : Addr} {v : V} {d : PyData} (h : H pp = some (.tup [.str "row", v])) (q : L2.Dp K H v d) : L2.Dp K H (.ref pp) (.tuple [.str "row", d]) := .tup (.inl (.inl h)) (.cons (.str _) (.cons q .nil))
theorem end_ok {K : PySem.W.Frag} (k2 : TwoK K) {p m : Addr} {σ : L2.St} {H : Hp} {b : Nat} {ns : List Int} {s2 s3 s4 s5 s6 s7 s8 s9 s10 s11 s12 s13 : Sl} (L : Lw K (lawT p) m σ H ([.dat (.list (ns.map PyData.int)), .raw (.ref m), s2, s3, s4, s5, .dat (mvsD (bells (longN ns))), s7, s8, s9, s10, s11, s12, s13] : List Sl) b) {D : Ends} (k : ∀ H', D.rt (.bl true) H') : tEnd K p D σ H := by
  refine ⟨_, _, _, b, fun d _ => d = .bool (((longN ns : Nat) : Int) == 1), L.rep, ⟨_, rfl, _, rfl, _, eqD_ii _ _, ?_⟩, fun v H1 d b1 R1 e1 q1 hd => ?_⟩
  · rw [List.length_map]
    unfold bells
    rw [List.length_replicate]
  subst hd
  refine ⟨_, q1.bl_inv, ?_⟩
  by_cases hn : ns = []
  · have hl : longN ns = 10001 := if_pos hn
    rw [hl]
    rw [if_neg (by decide)]
    have L1 := R1.lw rfl L.tabs L.mk0
    show rLamW K p 6 σ H1 _
    refine told_ok k2 L1 (i := 6) (x := mvsD (bells (longN ns))) rfl (.inr (.inr (.inr (.inr (.inr ⟨_, rfl, ?_⟩))))) fun v1 H2 e2 T2 q2 => ?_
    · rw [List.length_map, hl]
      unfold bells
      rw [List.length_replicate]
      decide
    have L2 := L1.ext e2 T2
    obtain ⟨v6, h6, q6⟩ := L2.rep.dat (i := 6) (d := mvsD (bells (longN ns))) rfl
    refine ⟨v6, h6, by rw [line_eq]; show (2 : Nat) ≤ _; decide, fun pp hp => ?_⟩
    have ex : ExM (fun a => a = m) H2 (upd H2 pp (.tup [.str "row", v6])) := ExM.new hp
    have lay : (PyData.tuple [.str "row", mvsD (bells (longN ns))]).canLay0 = true := lay_two "row" _ (by decide +kernel) (lay_bells _)
    have dep : (PyData.tuple [.str "row", mvsD (bells (longN ns))]).depth ≤ 64 := by
      have := deep_bells (longN ns)
      have h1 : PyData.depthAll [.str "row", mvsD (bells (longN ns))] ≤ 2 := deep_all fun x hx => by
        simp only [List.mem_cons, List.not_mem_nil, or_false] at hx; rcases hx with rfl | rfl
        · exact Nat.zero_le _
        · exact this
      show PyData.depthAll _ + 1 ≤ 64
      omega
    refine .inr ⟨_, _, (q2.exM ex).dp, row_dp upd_same (q6.exM ex).dp, ⟨lay, lay⟩, by omega, ?_⟩
    rw [eqv_self _ lay]
    exact k _
  · have hl : longN ns = 1 := if_neg hn
    rw [hl]
    rw [if_pos (by decide)]
    exact k _
/-- what the law is asked -/
def spLaw (K : PySem.W.Frag) (p : Addr) : Sp := fun vs H Q _ => ∃ (a : Addr) (ns : List Int), vs = [.ref a] ∧ SqL K H a (ns.map V.int) ∧ ns.length ≤ 63 ∧ H p = some (.tbl #[]) ∧ ∀ H', Q (.bl true) H'
theorem pure_law {K : PySem.W.Frag} (k2 : TwoK K) {p : Addr} {vs : List V} {H : Hp} {Q : VK} {E : XK} (h : spLaw K p vs H Q E) : tLaw K p { nx := fun _ H' => Q .non H', rt := Q } (L2.start N_law vs) H := by
  obtain ⟨a, ns, rfl, hs, hl, hp, hQ⟩ := h
  refine ⟨_, rfl, a, ns, rfl, hs, hl, fun m H1 hm keep mk => ?_⟩
  have T1 : Tabs (lawT p) H1 := fun q hq => by
    rw [List.mem_singleton.mp hq]
    exact TabS.nil (keep _ _ hp)
  have L0 : Lw K (lawT p) m ((L2.start N_law [.ref a]).set 1 (some (.ref m))) H1 [.dat (.list (ns.map PyData.int)), .raw (.ref m), .no, .no, .no, .no, .no, .no, .no, .no, .no, .no, .no, .no] 0 := by
    refine ⟨⟨rfl, fun _ _ _ z => z, fun _ z => z, fun b z => by obtain ⟨_, w⟩ := mach_at mk; rw [z, w]; simp, fun _ z => .inl z, fun i s hs2 => ?_, fun i j es es' hn h1 _ => ?_, fun m' hm' => by cases hm'; exact ⟨rfl, mk⟩⟩, fun s hs2 => ?_, T1⟩
    · match i with
      | 0 =>
        cases hs2
        refine ⟨.ref a, rfl, .lst ?_ (dq_ints ns)⟩
        rcases hs with z | z
        · refine .inl ⟨z.elim (fun z => .inl (keep _ _ z)) (fun ⟨o, z⟩ => .inr ⟨o, keep _ _ z⟩), fun e => ?_⟩
          rw [e] at z
          rcases z with z | ⟨o, z⟩ <;> rw [hm] at z <;> cases z
        · exact .inr z
      | 1 => cases hs2; rfl
      | 2 => cases hs2; trivial
      | 3 => cases hs2; trivial
      | 4 => cases hs2; trivial
      | 5 => cases hs2; trivial
      | 6 => cases hs2; trivial
      | 7 => cases hs2; trivial
      | 8 => cases hs2; trivial
      | 9 => cases hs2; trivial
      | 10 => cases hs2; trivial
      | 11 => cases hs2; trivial
      | 12 => cases hs2; trivial
      | 13 => cases hs2; trivial
      | n + 14 => simp at hs2
    · have : pureS (Sl.own es) = true := by
        have h2 := List.mem_of_getElem? h1
        simp at h2
      cases this
    · simp at hs2
      rcases hs2 with rfl | rfl | rfl <;> rfl
  refine ⟨3, rfl, by decide, by decide, fun i n σ H => n + i = 3 ∧ ∃ b s2 s3 s4 s5 s6 s7 s8 s9 s10 s11 s12 s13, Lw K (lawT p) m σ H ([.dat (.list (ns.map PyData.int)), .raw (.ref m), s2, s3, s4, s5, s6, s7, s8, s9, s10, s11, s12, s13] : List Sl) b ∧ b ≤ i * 3000, ⟨3, rfl, 0, .no, .no, .no, .no, .no, .no, .no, .no, .no, .no, .no, .no, L0, Nat.le_refl _⟩, ?_⟩
  rintro i n σ H2 ⟨hi, b, s2, s3, s4, s5, s6, s7, s8, s9, s10, s11, s12, s13, L, hb⟩
  by_cases h3 : i < 3
  · refine .inr ⟨h3, fun σ' H' => (n - 1) + (i + 1) = 3 ∧ ∃ b s2 s3 s4 s5 s6 s7 s8 s9 s10 s11 s12 s13, Lw K (lawT p) m σ' H' ([.dat (.list (ns.map PyData.int)), .raw (.ref m), s2, s3, s4, s5, s6, s7, s8, s9, s10, s11, s12, s13] : List Sl) b ∧ b ≤ (i + 1) * 3000, fun σ' H' z => ⟨n - 1, by omega, z⟩, ?_⟩
    rintro x H3 ⟨rfl, rfl⟩
    have L' := L.set (i := 2) (v := .int ((0 : Int) + (i : Int))) (d := .int ((0 : Int) + (i : Int))) (.int _)
    refine turn_ok k2 L' (by have : drawsMax = 1000000 := rfl; omega) fun σ' H' b' t2 t3 t4 t5 t6 t7 t8 t9 t10 t11 t12 t13 L2 hb' => ⟨by omega, b', t2, t3, t4, t5, t6, t7, t8, t9, t10, t11, t12, t13, L2, by omega⟩
  · refine .inl ⟨Nat.le_of_not_lt h3, ?_⟩
    refine goR L.rep w_s2 ?_
    rintro Mu1 σ1 H4 δ1 b1 R1 rfl
    refine goR R1 w_s3 ?_
    rintro Mu2 σ2 H5 δ2 b2 R2 rfl
    refine goR R2 w_s4 ?_
    rintro Mu3 σ3 H6 δ3 b3 R3 rfl
    refine goR R3 w_s5 ?_
    rintro Mu4 σ4 H7 δ4 b4 R4 rfl
    refine goR R4 w_s6 ?_
    rintro Mu5 σ5 H8 δ5 b5 R5 rfl
    refine goR R5 w_s7 ?_
    rintro Mu6 σ6 H9 δ6 b6 R6 rfl
    exact end_ok (s6 := .no) k2 (R6.lw rfl L.tabs L.mk0) hQ
end Wk
namespace Wk
open L2 RZ PyProof.Rows PySem.Spec PySem LamX
/-! ### from the head's facts -/
theorem all_at {l : List Bool} (h : (l.all fun b => b) = true) (i : Nat) {b : Bool} (hi : l[i]? = some b := by rfl) : b = true := List.all_eq_true.mp h b (List.mem_of_getElem? hi)
section
variable {h : Heap} {K : PySem.W.Frag} {mg : Str → Option Value}
theorem says_d (c : obsW K = valW) : He.SaysD FA FN K := congrArg (fun z : AlW => z.1) c
theorem says_m (c : obsW K = valW) : moreB K = true := congrArg (fun z : AlW => z.2.1) c
theorem says_i (c : obsW K = valW) : iniObs K "BadHouse" = iniVal "BadHouse.__init__" 2 := congrArg (fun z : AlW => z.2.2.1) c
theorem says_j (c : obsW K = valW) : iniObs K "BadRow" = iniVal "BadRow.__init__" 8 := congrArg (fun z : AlW => z.2.2.2) c
theorem more_parts (c : moreB K = true) : ((TUPS.all fun q => He.tupB K q.1 (q.2.map He.Dv.str) && tupN K q.1) = true ∧ lawB K = true) ∧ (exL prgW.main.file K "BadHouse" "place" "BadHouse.__init__" 0).all (fun b => b) = true ∧ (exL prgW.main.file K "BadRow" "value" "BadRow.__init__" 6).all (fun b => b) = true := by
  unfold moreB at c
  simp only [Bool.and_eq_true] at c
  exact ⟨⟨c.1, c.2.1⟩, c.2.2⟩
theorem wo_of {P : Program} {w : World} {base : Heap} (KX : K.In h) (G : h.Ns mainGlobals mg) (c : obsW K = valW) : Wo P w K mg base := by
  have t := (more_parts (says_m c)).1.1
  refine ⟨⟨h, KX, G⟩, fun f hf => ?_, fun q hq => ?_, fun q hq => ?_, fun d hd => ?_⟩
  · obtain ⟨i, hi⟩ := List.getElem?_of_mem hf
    exact (says_d c).fact i hi
  · have := List.all_eq_true.mp t q hq
    exact (Bool.and_eq_true_iff.mp this).1
  · have := List.all_eq_true.mp t q hq
    exact (Bool.and_eq_true_iff.mp this).2
  · obtain ⟨i, hi⟩ := List.getElem?_of_mem hd
    exact (says_d c).def_ i hi
theorem oexB_ok {C : Addr} (c : oexB K C = true) : ∃ nm q N bs bm sn sub ab col dd k0 k1 k2 k3 k5, K.lookup C = some (excClassObj nm q C N bs bm true sn sub ab col dd k0 k1 k2 k3 k5 "ValueError.__new__") ∧ HandSPX.refsVE bm = true := by
  unfold oexB at c
  cases e : K.lookup C with
  | none => rw [e] at c; cases c
  | some o =>
    rw [e] at c
    obtain ⟨oc, od, dt, osl⟩ := o
    simp only at c
    split at c
    · rename_i t cd k0 k1 k2 k3 n k5 hs
      simp only [Bool.and_eq_true, beq_iff_eq, Bool.not_eq_true'] at c
      obtain ⟨rfl, rfl, hdel, hd, hm⟩ := c
      split at hm
      · rename_i D bm hmro
        simp only [Bool.and_eq_true, beq_iff_eq] at hm
        obtain ⟨rfl, hr⟩ := hm
        obtain ⟨nm, bs, mro, ns, qn, hdd, sn, sub, ab, col, del⟩ := cd
        simp only at hmro hdel hd
        subst hmro hdel hd
        obtain ⟨l⟩ := osl
        simp only at hs
        subst hs
        exact ⟨nm, qn, ns, bs, bm, sn, sub, ab, col, od, k0, k1, k2, k3, k5, rfl, hr⟩
      · cases hm
    · cases c
theorem cellB_ok {cc C : Addr} (c : cellB K cc C = true) : ∃ cl cld csl, K.lookup cc = some ⟨cl, cld, .cell (some (.ref C)), csl⟩ := by
  unfold cellB at c
  cases e : K.lookup cc with
  | none => rw [e] at c; cases c
  | some o =>
    rw [e] at c
    obtain ⟨oc, od, dt, osl⟩ := o
    simp only at c
    split at c
    · rename_i D
      rw [beq_iff_eq] at c
      subst c
      exact ⟨oc, od, osl, rfl⟩
    · cases c
theorem fileB_ok {z : Str} {cda : Addr} (c : fileB z K cda = true) : ∃ ccl cdd vs ccs file tf, K.lookup cda = some ⟨ccl, cdd, .fields vs, ccs⟩ ∧ vs[2]? = some (.str file tf) ∧ (z == file) = true := by
  unfold fileB at c
  cases e : K.lookup cda with
  | none => rw [e] at c; cases c
  | some o =>
    rw [e] at c
    obtain ⟨oc, od, dt, osl⟩ := o
    simp only at c
    split at c
    · rename_i vs
      split at c
      · rename_i f tf hv
        exact ⟨oc, od, vs, osl, f, tf, rfl, hv, c⟩
      · cases c
    · cases c
/-- the __init__'s function -/
theorem fdI_at {x : Str} {fd : FuncData} (e : fdI K x = some fd) : ∃ oc od osl, K.lookup (fI K x) = some ⟨oc, od, .func fd, osl⟩ := by
  unfold fdI at e
  cases q : K.lookup (fI K x) with
  | none => (rw [q] at e; cases e)
  | some o =>
    rw [q] at e
    obtain ⟨oc, od, dt, osl⟩ := o
    simp only at e
    split at e
    · cases e
      exact ⟨oc, od, osl, rfl⟩
    · cases e
theorem ini_fn {x q : Str} {prm : Arguments} {bd : List Stmt} {sc : Scope} (c : iniObs K x = (some (("__init__" : Str), q, prm, FuncBody.stmts bd, sc, mainGlobals, (["__class__"] : List Str), Value.none, builtinsNs) : IniV)) (hc : codeF K x q = true) :
    ∃ kV doc pm an ct oc od osl, K.lookup (fI K x) = some ⟨oc, od, .func (PySem.W.ksFn "__init__" q prm bd sc .none kV doc pm an (.ref (cdI K x)) ct (ccI K x)), osl⟩ ∧ PySem.W.codeIn K (.ref (cdI K x)) q = true := by
  unfold iniObs at c
  cases e : fdI K x with
  | none => rw [e] at c; cases c
  | some fd =>
    obtain ⟨oc, od, osl, lk⟩ := fdI_at e
    rw [e] at c
    have hc2 : PySem.W.codeIn K fd.code q = true := by
      unfold codeF at hc
      rw [e] at hc
      exact hc
    have e1 : cdI K x = (match fd.code with | .ref c => c | _ => 0) := by
      unfold cdI
      rw [e] <;> rfl
    have e2 : ccI K x = (match fd.closure with | [(_, c)] => c | _ => 0) := by
      unfold ccI
      rw [e] <;> rfl
    obtain ⟨n1, n2, n3, n4, n5, n6, n7, n8, n9, n10, n11, n12, n13, n14, n15⟩ := fd; simp only [Option.some.injEq, Prod.mk.injEq] at c
    obtain ⟨g1, g2, g3, g4, g5, g6, g7, g8, g9⟩ := c
    subst g1 g2 g3 g4 g5 g6 g8 g9
    simp only at e1 e2 hc2
    cases n13 with
    | ref cda =>
      simp only at e1
      obtain ⟨⟨y, cc⟩, r, rfl⟩ : ∃ p r, n7 = p :: r := by
        cases n7 with
        | nil => cases g7
        | cons p r => exact ⟨p, r, rfl⟩
      simp only [List.map_cons, List.cons.injEq, List.map_eq_nil_iff] at g7
      obtain ⟨rfl, rfl⟩ := g7
      simp only at e2
      subst e1 e2
      exact ⟨n9, n10, n11, n12, n14, oc, od, osl, lk, hc2⟩
    | _ => cases hc2
end
end Wk
namespace Wk
open L2 RZ PyProof.Rows PySem.Spec PySem LamX
section
variable {h : Heap} {K : PySem.W.Frag} {mg : Str → Option Value}
theorem oexC_of {z : Str} {x fld q : Str} {g : Nat} (l : ((exL z K x fld q g).all fun b => b) = true) : OexC K (He.ga K x) :=
  ⟨oexB_ok (all_at l 0), He.eqO_ok (all_at l 1), of_decide_eq_true (all_at l 2), of_decide_eq_true (all_at l 3), all_at l 4⟩
theorem iniC_of {x fld q : Str} {g : Nat} (l : ((exL prgW.main.file K x fld q g).all fun b => b) = true) : IniC K prgW (He.ga K x) (fI K x) (ccI K x) (cdI K x) :=
  ⟨oexC_of l, He.eqO_ok (all_at l 5), of_decide_eq_true (all_at l 6), He.eqO_ok (all_at l 7), of_decide_eq_true (all_at l 8), of_decide_eq_true (all_at l 9), He.eqO_ok (all_at l 10), cellB_ok (all_at l 11), fileB_ok (all_at l 12), by decide +kernel⟩
theorem excK_of {z : Str} {x fld q : Str} {g : Nat} (l : ((exL z K x fld q g).all fun b => b) = true) : ExcK K (He.ga K x) fld :=
  ⟨all_at l 15, He.eqO_ok (all_at l 16), He.eqO_ok (all_at l 17), of_decide_eq_true (all_at l 2), He.eqO_ok (all_at l 18), He.eqO_ok (all_at l 19), of_decide_eq_true (all_at l 20), of_decide_eq_true (all_at l 21), all_at l 22, He.eqO_ok (all_at l 13)⟩
theorem wordK_of {z : Str} {x fld q : Str} {g : Nat} (l : ((exL z K x fld q g).all fun b => b) = true) : WordK K (He.ga K x) g :=
  ⟨of_decide_eq_true (all_at l 24), of_decide_eq_true (all_at l 25), of_decide_eq_true (all_at l 26), of_decide_eq_true (all_at l 27), of_decide_eq_true (all_at l 28), of_decide_eq_true (all_at l 29), of_decide_eq_true (all_at l 30), of_decide_eq_true (all_at l 31), of_decide_eq_true (all_at l 32), of_decide_eq_true (all_at l 33), of_decide_eq_true (all_at l 34), of_decide_eq_true (all_at l 35)⟩
theorem twoK_of (c : obsW K = valW) : TwoK K := by
  obtain ⟨_, l1, l2⟩ := more_parts (says_m c)
  exact ⟨excK_of l1, excK_of l2, wordK_of l1, wordK_of l2, of_decide_eq_true (all_at l1 23), of_decide_eq_true (all_at l2 23)⟩
theorem iniS_h : IniS (defScope (clsIni 2)) "place" := ⟨rfl, rfl, rfl, by decide +kernel, rfl, rfl, rfl, rfl, fun y hy => by
  have key : ∀ q ∈ (defScope (clsIni 2)).names, q.2 = .free → q.1 = ("__class__" : Str) := by decide +kernel
  exact key _ (PySem.mem_of_lookup hy) rfl, by decide +kernel⟩
theorem iniS_r : IniS (defScope (clsIni 8)) "value" := ⟨rfl, rfl, rfl, by decide +kernel, rfl, rfl, rfl, rfl, fun y hy => by
  have key : ∀ q ∈ (defScope (clsIni 8)).names, q.2 = .free → q.1 = ("__class__" : Str) := by decide +kernel
  exact key _ (PySem.mem_of_lookup hy) rfl, by decide +kernel⟩
theorem exn_h {w : World} {base : Heap} (W : Wo prgW w K mg base) (c : obsW K = valW) : Exn prgW w K mg base "BadHouse" "place" := by
  have l := (more_parts (says_m c)).2.1
  obtain ⟨kV, doc, pm, an, ct, oc, od, osl, lk, hcd⟩ := ini_fn (q := "BadHouse.__init__") (says_i c) (all_at l 14)
  have T := iniC_of l
  refine ⟨W.glo 106, T.T, _, _, T.ini0, T.tf, fun CX => ini_ok iniS_h T lk hcd rfl rfl (W.free 14) (by decide) (by decide) (He.eqO_ok (all_at l 13)) (fun _ => rfl), Binds.all fun us hl => ?_⟩
  match us, hl with
  | [_, _], _ => rfl
theorem exn_r {w : World} {base : Heap} (W : Wo prgW w K mg base) (c : obsW K = valW) : Exn prgW w K mg base "BadRow" "value" := by
  have l := (more_parts (says_m c)).2.2
  obtain ⟨kV, doc, pm, an, ct, oc, od, osl, lk, hcd⟩ := ini_fn (q := "BadRow.__init__") (says_j c) (all_at l 14)
  have T := iniC_of l
  refine ⟨W.glo 112, T.T, _, _, T.ini0, T.tf, fun CX => ini_ok iniS_r T lk hcd rfl rfl (W.free 14) (by decide) (by decide) (He.eqO_ok (all_at l 13)) (fun _ => rfl), Binds.all fun us hl => ?_⟩
  match us, hl with
  | [_, _], _ => rfl
/-- the law's def keeps its promise -/
theorem law_code {fd : FuncData} {c p : Addr} (hg : PySem.W.nsIn K mainGlobals "law" = some (some (.ref (He.ga K "law")))) {oc : Value} {od : Option Addr} {osl : Array (Option Value)} (lk : K.lookup (He.ga K "law") = some ⟨oc, od, .func fd, osl⟩) (ht : PySem.W.tabIn K "law" = some (c, p)) : fd.code = .ref c := by
  unfold PySem.W.tabIn at ht
  rw [hg] at ht
  simp only [lk] at ht
  cases e : fd.code with
  | ref c2 =>
    rw [e] at ht
    simp only at ht
    split at ht
    · split at ht
      · cases ht
        rfl
      · cases ht
    · cases ht
  | _ => rw [e] at ht; cases ht
theorem ok_law {w : World} {base : Heap} (W : Wo prgW w K mg base) (c : obsW K = valW) {cd p : Addr} (TB : TabB base mg cd p) (ht : PySem.W.tabIn K "law" = some (cd, p)) {fd : FuncData} (Fd : FunD K "law" "law" (defArgs (top 106)) (defBody (top 106)) (defScope (top 106)) [] [] (He.ga K "law") fd) :
    FnOkG prgW w K mg base (L2.CX prgW w) 10 (He.ga K "law") fd ["_law_script"] (spLaw K p) := by
  have hg : PySem.W.nsIn K mainGlobals "law" = some (some (.ref (He.ga K "law"))) := He.eqO_ok (W.fact (.glo "law") (List.mem_of_getElem? (i := 104) rfl))
  obtain ⟨oc, od, dV, kV, doc, pm, an, cdv, ct, osl, efd, lk, hcd, _, _⟩ := Fd.ex
  have hc := law_code hg lk ht
  rw [efd] at hc
  obtain rfl : cdv = .ref cd := hc
  have hlen : ∀ (vs : List V) (H : Hp) (Q : VK) (E : XK), spLaw K p vs H Q E → vs.length = ["_law_script"].length := by
    rintro vs H Q E ⟨a, ns, rfl, _⟩
    rfl
  refine ⟨hlen, fun A outer s H args us vs Q E hgu hr e0 hbt rv z => ?_⟩
  rw [efd] at lk hbt
  exact run_ofS (N := N_law) (ps := ["_law_script"]) (us := us) (vs := vs) lk hcd sc_law hr e0 hbt rv (hlen vs H Q E z) fun hr' => ⟨_, b_law W (exn_r W c) (exn_h W c) TB A outer s H E hgu hr', pure_law (twoK_of c) z⟩
end
end Wk
namespace Wk
open L2 RZ PyProof.Rows PySem.Spec PySem LamX
/-! ### the call of the law from outside: one table, its def kept where nothing is being shown -/
/-- what is tracked at the call: the table, the script -/
def hp0 (K : PySem.W.Frag) (p a : Addr) (os : Obj) (xs : List V) : Hp := fun b => if b = p then some (.tbl #[]) else if b = a ∧ K.lookup a = none then some (.frz os (.lst xs)) else none
section
variable {K : PySem.W.Frag} {p a : Addr} {os : Obj} {xs : List V}
theorem hp0_p : hp0 K p a os xs p = some (.tbl #[]) := if_pos rfl
theorem hp0_inv {b : Addr} {u : HO} (e : hp0 K p a os xs b = some u) : (b = p ∧ u = .tbl #[]) ∨ (b ≠ p ∧ b = a ∧ K.lookup a = none ∧ u = .frz os (.lst xs)) := by
  unfold hp0 at e
  by_cases h1 : b = p
  · rw [if_pos h1] at e
    exact .inl ⟨h1, (Option.some.inj e).symm⟩
  · rw [if_neg h1] at e
    by_cases h2 : b = a ∧ K.lookup a = none
    · rw [if_pos h2] at e
      exact .inr ⟨h1, h2.1, h2.2, (Option.some.inj e).symm⟩
    · rw [if_neg h2] at e
      cases e
theorem hp0_off {b : Addr} (h1 : b ≠ p) (h2 : b = a → K.lookup a ≠ none) : hp0 K p a os xs b = none := by
  unfold hp0
  rw [if_neg h1, if_neg fun z => h2 z.1 z.2]
end
theorem law_go {P : Program} {w : World} {K : PySem.W.Frag} {mg mb : Str → Option Value} {CX : CXT} {k : Nat} {fa a c p : Addr} {fd : FuncData} {x : Str} {sp : Sp} {s : Shared} {vs : List Value} {ns : List Int} (KX : K.In s.heap) (G : s.heap.Ns mainGlobals mg) (B : s.heap.Ns builtinsNs mb) (B2 : ∀ x : Str, x ≠ "__name__" → mb x = bootBuiltins x)
    (lim : s.heap.NoLimit) (hg : s.gens = #[]) (hp : s.heap.get? p = some { cls := .none, data := .fields #[] }) (np : K.lookup p = none) (C : PySem.W.CodeHd s.heap c p)
    (bm : ∃ (bm : Addr) (ob : Obj), mg "__builtins__" = some (.ref bm) ∧ bm ≠ builtinsNs ∧ s.heap.get? bm = some ob ∧ ob.cls = .type "module" ∧ ob.dict = some builtinsNs ∧ ob.data = .plain)
    (ha : s.heap.get? a = some { cls := .type "list", data := .seq vs.toArray }) (hi : IntsAre vs ns) (hl : ns.length ≤ sizeLine) (hr : Room k callerA)
    (F : ∀ base : Heap, K.In base → base.Ns mainGlobals mg → TabB base mg c p → FnOkG P w K mg base CX k fa fd [x] sp) (hb : ∀ (s : Shared) (u : Value), BindsTo s fd ⟨[u], []⟩ [(x, u)])
    (hsp : ∀ H : Hp, H p = some (.tbl #[]) → SqL K H a (ns.map V.int) → sp [.ref a] H (fun v _ => v = .bl true) EF) (hCX : ∀ H e s', CX [] H s EF e s' → False) :
    codeAny (model P w) callerA (.call (.ref fa) ⟨[.ref a], []⟩) (fun r s' => r = .ok (.ret (.bool true)) ∧ OldK s.heap s'.heap ∧ s'.os = s.os ∧ AllBare s'.gens) s := by
  have rv := vals_ints hi
  have ap : a ≠ p := fun z => by
    rw [z, hp] at ha
    have w := congrArg Obj.data (Option.some.inj ha)
    cases w
  let H : Hp := hp0 K p a { cls := .type "list", data := .seq vs.toArray } (ns.map V.int)
  have off : ∀ {b : Addr} {o : Obj}, s.heap.get? b = some o → (∀ xs n, o.data ≠ .seq xs n) → o.data ≠ .fields #[] → H b = none := fun {b o} e h1 h2 => by
    refine hp0_off (fun z => ?_) fun z => ?_
    · rw [z, hp] at e
      cases e
      exact absurd rfl h2
    · rw [z, ha] at e
      cases e
      exact absurd rfl (h1 _ _)
  have keep : ∀ {b : Addr} {o : Obj}, s.heap.get? b = some o → H b = none → (hidT s.heap H).get? b = some o := fun e n => hidT_get e n
  have nsOff : ∀ {b : Addr} {m : Str → Option Value}, s.heap.Ns b m → (hidT s.heap H).Ns b m := fun {b m} ⟨o, es, ep, e, d, r⟩ => ⟨o, es, ep, keep e (off e (fun xs n z => by rw [d] at z; cases z) fun z => by rw [d] at z; cases z), d, r⟩
  have KB : K.In (hidT s.heap H) := fun b o e => keep (KX b o e) (hp0_off (fun z => by rw [z, np] at e; cases e) fun z => by rw [← z, e]; simp)
  have Mo : L2.Mod K mg (hidT s.heap H) := by
    obtain ⟨mc, l1, l2⟩ := lim
    exact ⟨KB, nsOff G, ⟨mb, nsOff B, B2⟩, ⟨mc, nsOff l1, l2⟩⟩
  have gP : mainGlobals ≠ p := fun z => by
    obtain ⟨o, es, ep, e, d, _⟩ := G
    rw [z, hp] at e
    cases e
    cases d
  have TB : TabB (hidT s.heap H) mg c p := by
    refine ⟨?_, ?_, gP⟩
    · obtain ⟨o, us, file, tf, flags, tg, inF, text, tt, e, r1, r2, r3, rest⟩ := C
      refine ⟨o, us, file, tf, flags, tg, inF, text, tt, keep e (off e (fun xs n z => by rw [r2] at z; cases z) fun z => ?_), r1, r2, r3, rest⟩
      rw [r2] at z
      cases z
      simp at r3
    · obtain ⟨bq, ob, b1, b2, b3, b4, b5, b6⟩ := bm
      refine ⟨bq, ob, b1, b2, fun z => ?_, fun z => ?_, keep b3 (off b3 (fun xs n z => by rw [b6] at z; cases z) fun z => by rw [b6] at z; cases z), b4, b5, b6⟩
      · obtain ⟨o, es, ep, e, d, _⟩ := G
        rw [z, e] at b3
        cases b3
        rw [d] at b6
        cases b6
      · rw [z, hp] at b3
        cases b3
        cases b6
  have hok : HOk P w H s.heap := fun b u e => by
    rcases hp0_inv e with ⟨rfl, rfl⟩ | ⟨_, rfl, _, rfl⟩
    · exact hp
    · exact ⟨ha, by rw [List.length_map]; exact hl, vs, _, rv, ha⟩
  have sq : SqL K H a (ns.map V.int) := by
    cases q : K.lookup a with
    | none => exact .inl (.inr ⟨_, by show hp0 K p a _ _ a = _; unfold hp0; rw [if_neg ap, if_pos ⟨rfl, q⟩]⟩)
    | some o =>
      have e := KX a o q
      rw [ha] at e
      cases e
      exact .inr ⟨_, vs.toArray, _, q, rfl, rfl, rfl, by rw [List.size_toArray, hi.length]; exact hl, by simpa using rv⟩
  have e0 : Env0 P w K mg (hidT s.heap H) callerA [] s H := ⟨rfl, Mo, fun b o e => of_hidT e, Nat.le_of_eq (hidT_size _ _), trivial, fun b z => (by cases z), hok, .of_eq hg⟩
  refine codeAny_mono ((F _ KB (nsOff G) TB).run callerA [] s H ⟨[.ref a], []⟩ [.ref a] [.ref a] _ _ rfl hr e0 (hb s (.ref a)) (.cons rfl .nil) (hsp H hp0_p sq)) fun r s' z => ?_
  cases r with
  | error e => exact (hCX H e s' z).elim
  | ok fl =>
    cases fl with
    | next => exact z.elim
    | brk => exact z.elim
    | cont => exact z.elim
    | ret u =>
      obtain ⟨v, H', z1, z2, un, hok', r', rfl⟩ := z
      obtain rfl : u = Value.bool true := r'; have same : ∀ b o, b ≠ p → s.heap.get? b = some o → s'.heap.get? b = some o := fun b o nb e => by
        cases q : H b with
        | none => exact un.keep b o e q (fun z => by cases z) (fun z => by cases z)
        | some u =>
          rcases hp0_inv q with ⟨y, _⟩ | ⟨_, y, _, rfl⟩
          · exact absurd y nb
          · obtain ⟨e1, _⟩ := hok' b _ (un.frzs b _ _ q)
            rw [y, ha] at e
            cases e
            exact e1
      obtain ⟨more, y⟩ := un.tbls p #[] hp0_p
      have grown : s'.heap.get? p = some { cls := .none, data := .fields (#[] ++ more) } := hok' p _ y
      refine ⟨rfl, ⟨fun b o e => ?_, fun b o e => ?_⟩, z1, z2⟩
      · by_cases q : b = p
        · rw [q] at e ⊢
          rw [hp] at e
          cases e
          exact .inr (.inl ⟨(C.tab hp).isCodeTable, rfl, #[], more, rfl, grown⟩)
        · exact .inl (same b o q e)
      · by_cases q : b = p
        · rw [q]
          exact ⟨_, grown⟩
        · exact ⟨o, same b o q e⟩
end Wk
set_option maxHeartbeats 0
namespace Wk
open L2 RZ PyProof.Rows PySem.Spec PySem LamX
theorem lawB_ok {K : PySem.W.Frag} (c : lawB K = true) : ∃ cd p, PySem.W.tabIn K "law" = some (cd, p) ∧ PySem.W.codeHdIn K cd p = true ∧ K.lookup p = none := by
  unfold lawB at c
  cases e : PySem.W.tabIn K "law" with
  | none => rw [e] at c; cases c
  | some q =>
    obtain ⟨cd, p⟩ := q
    rw [e] at c
    simp only [Bool.and_eq_true, Option.isNone_iff_eq_none] at c
    exact ⟨cd, p, rfl, c.1, c.2⟩
theorem room_law : Room 10 callerA := ⟨rfl, by decide +kernel, by decide +kernel⟩
end Wk
open PyProof.Rows PySem.Calls PySem.W PySem
theorem PySem.Challenge.cw_wakebook_k60_whole_texts_of_houses_holds : PySem.Challenge.rw_wakebook_k60_whole_texts_of_houses.Holds := by
  w_on; o_law
  refine HandSHeadRun.head_any (r := Wk.rowW) (q := view Wk.rowW.prog [106]) (H := Wk.hkW) (ob := Wk.obW) (M := 6000) (loose := Wk.LO) (d := HandSHeadRun.topDef Wk.rowW.prog 106) (kwd := []) Wk.obW_eq
    (by kernel_rfl) (fun s => by kernel_rfl) Wk.runW (by kernel_rfl) (by kernel_rfl) (by kernel_rfl) (by rfl) (by first | assumption | decide +kernel) (by decide +kernel) ⟨rfl, rfl, rfl, rfl, rfl, by decide +kernel⟩ ?hw ?hc
  case hw => w_witness2
  case hc =>
    refine Att.attach_callB (l := PySem.Challenge.rw_wakebook_k60_whole_texts_of_houses) (n := 63) rfl (by kernel_rfl) ?_
    intro w s₀ s₁ mg mb fa o pm cdx doc a vs ns G Y ho hd hcd hmg0 hobj hints hlen hbits hg
    obtain ⟨K, KX, c⟩ := Y
    have W : ∀ base : Heap, Wk.Wo Wk.prgW w K mg base := fun base => Wk.wo_of KX G.T.g c
    have e : (HandSHeadRun.topDef Wk.rowW.prog 106).name = ("law" : PySem.Str) := by kernel_rfl
    have atLaw : mg ("law" : PySem.Str) = some (.ref fa) := by
      rw [← e]
      exact hmg0
    have hfa : fa = He.ga K "law" := by
      have z := (W s₁.heap).glo 104 (x := "law")
      rw [atLaw] at z
      cases z
      rfl
    subst hfa
    obtain ⟨cd, p, ht, hC, np⟩ := Wk.lawB_ok (Wk.more_parts (Wk.says_m c)).1.2
    obtain ⟨C, hp⟩ := tab_of (d := HandSHeadRun.topDef Wk.rowW.prog 106) G.T KX (by kernel_rfl) ht
    obtain ⟨fd, Fd⟩ := (W s₁.heap).fun 59 106 (x := "law")
    exact Wk.law_go (P := Wk.prgW) (CX := L2.CX Wk.prgW w) KX G.T.g G.T.b G.T.builtins G.T.nolimit hg hp np C G.T.bmain hobj hints (Nat.le_trans hlen (by rw [Wk.line_eq]; decide)) Wk.room_law
      (fun base KB GB TB => Wk.ok_law (W base) c TB ht Fd) (fun s u => L2.FunD.bindsA (ps := ["_law_script"]) Fd (fun _ _ _ _ _ _ us hl => match us, hl with | [_], _ => rfl) s [u] rfl)
      (fun H hH hS => ⟨a, ns, rfl, hS, hlen, hH, fun _ => rfl⟩) fun _ _ _ ⟨_, _, _, _, _, _, _, _, _, _, _, _, z⟩ => z.elim

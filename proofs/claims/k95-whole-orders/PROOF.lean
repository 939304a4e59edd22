import PyProof.Rows.All
import Wide.All
import OpenK.AllK
import Wide.FinOn
import HandS.ForMost
import HandS.HeadHook2
import HandS.Head2
import HandS.HeadEnd
import HandS.Flow
import HandS.TupAny
import HandS.IsInst
import HandS.Star
import HandS.Property
import HandS.Style
import HandS.RaiseMore
import HandS.More
import HandS.DictComp
import HandS.Defaults
import HandS.Conv
import HandS.SlotsOwn
import HandS.ClsMeth
import HandS.Set
import HandS.SetFor
import HandS.Zip
import KE.GoesMore
import PySem.Challenge.RW_deepcuts_k95_whole_orders_that_keep_most
set_option Elab.async false
set_option linter.all false
set_option maxRecDepth 100000
set_option maxHeartbeats 0
/-! The text. -/
namespace DL
open PySem PySem.Spec PyProof.Rows L2
def top (i : Nat) : Stmt := PySem.Challenge.pw_deepcuts_k95_whole_orders_that_keep_most.main.body.getD i (.Pass ⟨0, 0, 0, 0⟩)
def clsBody : Stmt → List Stmt | .ClassDef _ _ _ b .. => b | _ => []
def mem (i k : Nat) : Stmt := (clsBody (top i)).getD k (.Pass ⟨0, 0, 0, 0⟩)
end DL
/-! The head: what is looked at behind the top; the runs. Lists printed by gen4.py. -/
namespace DL
section
open PySem PySem.Spec PyProof.Rows L2
def glA (x : Str) (K : PySem.W.Frag) : Addr := He.ga K x
def meA (x m : Str) (K : PySem.W.Frag) : Addr := He.ma K (He.ga K x) m
def recA (K : PySem.W.Frag) (p : Addr) (T : String) : Addr := match PySem.W.recIn K p T with
  | some (.ref g :: _) => g
  | _ => 0
def prA (x m : Str) (K : PySem.W.Frag) : Addr := recA K (meA x m K) "property"
def clA (K : PySem.W.Frag) (C : Addr) (m : Str) : Addr := match PySem.W.findCls K (.ref C) (.type "type") m with
  | some (.get _ (.ref p) _ _) => p
  | _ => 0
def stA (x m : Str) (K : PySem.W.Frag) : Addr := recA K (clA K (He.ga K x) m) "staticmethod"
def itA (K : PySem.W.Frag) (T : Addr) (i : Nat) : Addr := match K.lookup T with
  | some ⟨_, _, .seq its _, _⟩ => (match its.toList[i]? with
    | some (.ref a) => a
    | _ => 0)
  | _ => 0
/-- the first default of a class's __init__ -/
def dfA (x : Str) (K : PySem.W.Frag) : Addr := match K.lookup (meA x "__init__" K) with
  | some ⟨_, _, .func fd, _⟩ => (match fd.defaults with
    | .ref T => itA K T 0
    | _ => 0)
  | _ => 0
def isB (o : Option Bool) (b : Bool) : Bool := decide (o = some b)
def recB (K : PySem.W.Frag) (p : Addr) (T : String) : Bool := match PySem.W.recIn K p T with
  | some (.ref _ :: _) => true
  | _ => false
def okP (x m : Str) (K : PySem.W.Frag) : Bool := He.eqO (PySem.W.findIn K (.ref (He.ga K x)) m) (some (some (.ref (meA x m K)))) && (He.eqO (PySem.W.specialIn K (.ref (meA x m K)) "__get__") (some (some (.builtin "property.__get__"))) && (isB (PySem.W.takesIn K (.ref (meA x m K))) true && recB K (meA x m K) "property"))
def clB (K : PySem.W.Frag) (C : Addr) (m : Str) : Bool := match PySem.W.findCls K (.ref C) (.type "type") m with
  | some (.get (.builtin b) (.ref _) .none (.ref D)) => decide (b = "staticmethod.__get__") && decide (D = C)
  | _ => false
def okS0 (x m : Str) (K : PySem.W.Frag) : Bool := clB K (He.ga K x) m && (recB K (clA K (He.ga K x) m) "staticmethod" && (PySem.W.readsIn K (He.ga K x) (.type "type") && He.eqO (PySem.W.specialIn K (.ref (He.ga K x)) "__getattribute__") (some (some (.builtin "type.__getattribute__")))))
def okO (x m : Str) (K : PySem.W.Frag) : Bool := He.eqO (PySem.W.findIn K (.ref (He.ga K x)) m) (some (some (.ref (meA x m K)))) && (PySem.W.isFn K (.ref (meA x m K)) && PySem.W.selfFirst K (He.ga K x))
def tyB (x : Str) (K : PySem.W.Frag) : Bool := He.eqO (PySem.W.findIn K (.ref (He.ga K x)) "__class__") (some (some (.builtin "object.__class__"))) && isB (PySem.W.mroIn K (He.ga K x) (.type "object")) true
def okK (K : PySem.W.Frag) : Bool := tyB "Labels" K && (tyB "Pipeline" K && (He.eqO (PySem.W.specialIn K (.builtin "object.__class__") "__get__") (some (some (.builtin "getset_descriptor.__get__"))) && (isB (PySem.W.takesIn K (.builtin "object.__class__")) true &&
  (isB (PySem.W.kitAny K (.ref (He.ga K "Labels")) [.type "list", .type "tuple"]) false && (isB (PySem.W.kitOne K (.ref (He.ga K "Pipeline")) (.ref (He.ga K "Pipeline"))) true && isB (PySem.W.kitOne K (.ref (He.ga K "Pipeline")) (.ref (He.ga K "Step"))) false)))))
def tuB (K : PySem.W.Frag) (a : Addr) (vs : List L2.V) : Bool := match K.lookup a with
  | some ⟨.type T, _, .seq its _, _⟩ => decide (T = "tuple") && (decide (its.size ≤ sizeLine) && He.relAll vs its.toList)
  | _ => false
def okE (x : Str) (K : PySem.W.Frag) : Bool := tuB K (dfA x K) []
def okTab (x : Str) (b : Bool) (_u : Value) (K : PySem.W.Frag) : Bool := tuB K (He.ga K x) [.ref (itA K (He.ga K x) 0), .ref (itA K (He.ga K x) 1)] && (tuB K (itA K (He.ga K x) 0) [] && tuB K (itA K (He.ga K x) 1) [.bl b, .non])
def okTab0 (x : Str) (K : PySem.W.Frag) : Bool := tuB K (He.ga K x) [.ref (itA K (He.ga K x) 0), .ref (itA K (He.ga K x) 1)] && (tuB K (itA K (He.ga K x) 0) [] && tuB K (itA K (He.ga K x) 1) [.bl false, .int 0])
abbrev FV : Type := Str × Str × Arguments × FuncBody × Scope × Addr × List (Str × Addr) × Addr
def fnA (K : PySem.W.Frag) (a : Addr) : Option FuncData := match K.lookup a with
  | some ⟨_, _, .func f, _⟩ => some f
  | _ => none
def fvOf (f : FuncData) : FV := (f.name, f.qualname, f.params, f.body, f.scope, f.globals, f.closure, f.builtins)
structure DG where
  at_ : PySem.W.Frag → Addr
  name : Str
  qual : Str
  st : Stmt
  dv : List He.Dv
def DG.look (d : DG) (K : PySem.W.Frag) : Option FV := (fnA K (d.at_ K)).map fvOf
def DG.want (d : DG) : FV := (d.name, d.qual, defArgs d.st, .stmts (defBody d.st), defScope d.st, mainGlobals, [], builtinsNs)
def DG.ok (d : DG) (K : PySem.W.Frag) : Bool := PySem.W.keepIn K (.ref (d.at_ K)) && (match fnA K (d.at_ K) with
  | some f => PySem.W.codeIn K f.code d.qual && He.dflB K f.defaults (d.dv.map (He.Dv.v K))
  | none => false)
def Fs : List (PySem.W.Frag → Bool) := [
  (He.Fa.glo "tupled").ok,
  (He.Fa.glo "set_of").ok,
  (He.Fa.glo "number_in").ok,
  (He.Fa.glo "is_name").ok,
  (He.Fa.glo "names_in").ok,
  (He.Fa.glo "Labels").ok,
  (He.Fa.mkr "Labels").ok,
  okS0 "Labels" "of",
  okP "Labels" "names",
  (He.Fa.cls "Labels").ok,
  okP "Labels" "rest",
  (He.Fa.glo "is_step").ok,
  (He.Fa.glo "what_in").ok,
  (He.Fa.glo "Step").ok,
  (He.Fa.mkr "Step").ok,
  okS0 "Step" "of",
  okP "Step" "kind",
  (He.Fa.cls "Step").ok,
  okP "Step" "what",
  (He.Fa.glo "lesser").ok,
  (He.Fa.glo "is_most").ok,
  (He.Fa.glo "entry_in").ok,
  (He.Fa.glo "final_in").ok,
  (He.Fa.glo "room_in").ok,
  (He.Fa.glo "form_with").ok,
  (He.Fa.glo "names_told").ok,
  (He.Fa.glo "height_in").ok,
  (He.Fa.glo "form_of_step").ok,
  (He.Fa.glo "entry_behind").ok,
  (He.Fa.glo "form_behind").ok,
  (He.Fa.glo "rooms_gone").ok,
  (He.Fa.glo "labels_gone").ok,
  (He.Fa.glo "plain_steps").ok,
  (He.Fa.glo "side").ok,
  (He.Fa.glo "told_in").ok,
  (He.Fa.glo "pairs_of").ok,
  (He.Fa.glo "is_within").ok,
  (He.Fa.glo "form_of_steps").ok,
  okE "Pipeline",
  (He.Fa.glo "Pipeline").ok,
  (He.Fa.mkr "Pipeline").ok,
  okS0 "Pipeline" "of",
  okP "Pipeline" "steps",
  (He.Fa.cls "Pipeline").ok,
  okP "Pipeline" "form",
  okP "Pipeline" "plain",
  (He.Fa.meth "Pipeline" "within").ok,
  okO "Pipeline" "__rshift__",
  okO "Pipeline" "__eq__",
  (He.Fa.glo "in_row").ok,
  (He.Fa.glo "renames").ok,
  (He.Fa.glo "check_names").ok,
  (He.Fa.glo "orders").ok,
  (He.Fa.glo "all_ways").ok,
  (He.Fa.glo "unlike_ways").ok,
  (He.Fa.glo "most_order").ok,
  (He.Fa.glo "least_order").ok,
  (He.Fa.glo "_law_same").ok,
  (He.Fa.glo "_law_step_so").ok,
  (He.Fa.glo "_law_host").ok,
  (He.Fa.glo "_law_lot_says").ok,
  (He.Fa.glo "_law_is_in").ok,
  (He.Fa.glo "_law_fates").ok,
  (He.Fa.glo "_law_under").ok,
  (He.Fa.glo "_law_lot_of").ok,
  (He.Fa.glo "_law_plainly").ok,
  (He.Fa.glo "_law_orders").ok,
  (He.Fa.glo "_law_row").ok,
  (He.Fa.glo "_law_outcomes").ok,
  (He.Fa.glo "_law_by_hand_right").ok,
  (He.Fa.free "len").ok,
  (He.Fa.free "tuple").ok,
  (He.Fa.free "list").ok,
  (He.Fa.free "sorted").ok,
  (He.Fa.free "set").ok,
  (He.Fa.free "all").ok,
  (He.Fa.free "any").ok,
  (He.Fa.free "min").ok,
  (He.Fa.free "int").ok,
  (He.Fa.free "str").ok,
  (He.Fa.free "dict").ok,
  (He.Fa.free "abs").ok,
  (He.Fa.free "bool").ok,
  (He.Fa.free "isinstance").ok,
  (He.Fa.free "enumerate").ok,
  (He.Fa.free "range").ok,
  (He.Fa.free "zip").ok,
  okK,
  (He.Fa.str "LETTERS" "abcdefghijklmnopqrstuvwxyz").ok,
  (He.Fa.int "LONGEST" 8).ok,
  (He.Fa.str "NOTHING_labels" "-").ok,
  (He.Fa.str "ALL" "*").ok,
  (He.Fa.str "BUT" "* - ").ok,
  (He.Fa.str "DROP" "drop").ok,
  (He.Fa.str "UNWRAP" "unwrap").ok,
  (He.Fa.str "CUT" "cut").ok,
  (He.Fa.str "RENAME" "rename").ok,
  (He.Fa.str "BETWEEN" "; ").ok,
  (He.Fa.glo "START").ok,
  okTab "START" true .none,
  (He.Fa.glo "NOTHING_rooms").ok,
  okTab0 "NOTHING_rooms",
  (He.Fa.noat "Labels" "own_names").ok,
  (He.Fa.noat "Labels" "own_rest").ok,
  (He.Fa.noat "Step" "own_kind").ok,
  (He.Fa.noat "Step" "own_what").ok,
  (He.Fa.noat "Pipeline" "own_steps").ok,
  (He.Fa.noat "Pipeline" "own_form").ok,
  (He.Fa.glo "_law_box").ok,
  (He.Fa.glo "_law_take").ok,
  (He.Fa.glo "_law_cells").ok,
  (He.Fa.glo "_law_of").ok,
  (He.Fa.glo "_law_lot").ok,
  (He.Fa.glo "_law_stride").ok,
  (He.Fa.glo "_law_plain_line").ok,
  (He.Fa.glo "_law_right").ok,
  (He.Fa.glo "law").ok]
def Dn : List DG := [
  ⟨glA "tupled", "tupled", "tupled", top 2, []⟩,
  ⟨glA "set_of", "set_of", "set_of", top 3, []⟩,
  ⟨glA "number_in", "number_in", "number_in", top 4, []⟩,
  ⟨glA "is_name", "is_name", "is_name", top 16, []⟩,
  ⟨glA "names_in", "names_in", "names_in", top 17, []⟩,
  ⟨meA "Labels" "__init__", "__init__", "Labels.__init__", mem 18 0, [.adr (dfA "Labels"), .bl false]⟩,
  ⟨stA "Labels" "of", "of", "Labels.of", mem 18 1, []⟩,
  ⟨prA "Labels" "names", "names", "Labels.names", mem 18 2, []⟩,
  ⟨prA "Labels" "rest", "rest", "Labels.rest", mem 18 3, []⟩,
  ⟨glA "is_step", "is_step", "is_step", top 32, []⟩,
  ⟨glA "what_in", "what_in", "what_in", top 34, []⟩,
  ⟨meA "Step" "__init__", "__init__", "Step.__init__", mem 35 0, []⟩,
  ⟨stA "Step" "of", "of", "Step.of", mem 35 1, []⟩,
  ⟨prA "Step" "kind", "kind", "Step.kind", mem 35 2, []⟩,
  ⟨prA "Step" "what", "what", "Step.what", mem 35 3, []⟩,
  ⟨glA "lesser", "lesser", "lesser", top 39, []⟩,
  ⟨glA "is_most", "is_most", "is_most", top 40, []⟩,
  ⟨glA "entry_in", "entry_in", "entry_in", top 41, []⟩,
  ⟨glA "final_in", "final_in", "final_in", top 42, []⟩,
  ⟨glA "room_in", "room_in", "room_in", top 43, []⟩,
  ⟨glA "form_with", "form_with", "form_with", top 44, []⟩,
  ⟨glA "names_told", "names_told", "names_told", top 45, []⟩,
  ⟨glA "height_in", "height_in", "height_in", top 46, []⟩,
  ⟨glA "form_of_step", "form_of_step", "form_of_step", top 49, []⟩,
  ⟨glA "entry_behind", "entry_behind", "entry_behind", top 50, []⟩,
  ⟨glA "form_behind", "form_behind", "form_behind", top 51, []⟩,
  ⟨glA "rooms_gone", "rooms_gone", "rooms_gone", top 53, []⟩,
  ⟨glA "labels_gone", "labels_gone", "labels_gone", top 54, []⟩,
  ⟨glA "plain_steps", "plain_steps", "plain_steps", top 55, []⟩,
  ⟨glA "side", "side", "side", top 58, []⟩,
  ⟨glA "told_in", "told_in", "told_in", top 59, []⟩,
  ⟨glA "pairs_of", "pairs_of", "pairs_of", top 61, []⟩,
  ⟨glA "is_within", "is_within", "is_within", top 63, []⟩,
  ⟨glA "form_of_steps", "form_of_steps", "form_of_steps", top 68, []⟩,
  ⟨meA "Pipeline" "__init__", "__init__", "Pipeline.__init__", mem 69 0, [.adr (dfA "Pipeline")]⟩,
  ⟨stA "Pipeline" "of", "of", "Pipeline.of", mem 69 1, []⟩,
  ⟨prA "Pipeline" "steps", "steps", "Pipeline.steps", mem 69 2, []⟩,
  ⟨prA "Pipeline" "form", "form", "Pipeline.form", mem 69 4, []⟩,
  ⟨prA "Pipeline" "plain", "plain", "Pipeline.plain", mem 69 7, []⟩,
  ⟨meA "Pipeline" "within", "within", "Pipeline.within", mem 69 8, []⟩,
  ⟨meA "Pipeline" "__rshift__", "__rshift__", "Pipeline.__rshift__", mem 69 16, []⟩,
  ⟨meA "Pipeline" "__eq__", "__eq__", "Pipeline.__eq__", mem 69 20, []⟩,
  ⟨glA "in_row", "in_row", "in_row", top 71, []⟩,
  ⟨glA "renames", "renames", "renames", top 72, []⟩,
  ⟨glA "check_names", "check_names", "check_names", top 73, []⟩,
  ⟨glA "orders", "orders", "orders", top 74, []⟩,
  ⟨glA "all_ways", "all_ways", "all_ways", top 75, []⟩,
  ⟨glA "unlike_ways", "unlike_ways", "unlike_ways", top 76, []⟩,
  ⟨glA "most_order", "most_order", "most_order", top 77, []⟩,
  ⟨glA "least_order", "least_order", "least_order", top 78, []⟩,
  ⟨glA "_law_same", "_law_same", "_law_same", top 84, []⟩,
  ⟨glA "_law_step_so", "_law_step_so", "_law_step_so", top 88, []⟩,
  ⟨glA "_law_host", "_law_host", "_law_host", top 89, []⟩,
  ⟨glA "_law_lot_says", "_law_lot_says", "_law_lot_says", top 90, []⟩,
  ⟨glA "_law_is_in", "_law_is_in", "_law_is_in", top 91, []⟩,
  ⟨glA "_law_fates", "_law_fates", "_law_fates", top 92, []⟩,
  ⟨glA "_law_under", "_law_under", "_law_under", top 93, []⟩,
  ⟨glA "_law_lot_of", "_law_lot_of", "_law_lot_of", top 94, []⟩,
  ⟨glA "_law_plainly", "_law_plainly", "_law_plainly", top 95, []⟩,
  ⟨glA "_law_orders", "_law_orders", "_law_orders", top 96, []⟩,
  ⟨glA "_law_row", "_law_row", "_law_row", top 97, []⟩,
  ⟨glA "_law_outcomes", "_law_outcomes", "_law_outcomes", top 98, []⟩,
  ⟨glA "_law_by_hand_right", "_law_by_hand_right", "_law_by_hand_right", top 99, []⟩,
  ⟨glA "_law_box", "_law_box", "_law_box", top 80, []⟩,
  ⟨glA "_law_take", "_law_take", "_law_take", top 81, []⟩,
  ⟨glA "_law_cells", "_law_cells", "_law_cells", top 82, []⟩,
  ⟨glA "_law_of", "_law_of", "_law_of", top 83, []⟩,
  ⟨glA "_law_lot", "_law_lot", "_law_lot", top 85, []⟩,
  ⟨glA "_law_stride", "_law_stride", "_law_stride", top 86, []⟩,
  ⟨glA "_law_plain_line", "_law_plain_line", "_law_plain_line", top 87, []⟩,
  ⟨glA "_law_right", "_law_right", "_law_right", top 100, []⟩,
  ⟨glA "law", "law", "law", top 101, []⟩]
abbrev Al : Type := Bool × List (Option FV)
def obsK (K : PySem.W.Frag) : Al := (Fs.all (fun f => f K) && Dn.all fun d => d.ok K, Dn.map fun d => d.look K)
def valK : Al := (true, Dn.map fun d => some d.want)
end
section
open PySem PySem.W PySem.Calls PyProof.Rows
abbrev Rw : OpenRow := OpenLaw.row PySem.Challenge.rw_deepcuts_k95_whole_orders_that_keep_most
abbrev Qv : Program := view Rw.prog [101]
/-! what the module's names reach in five steps: a def's code and defaults, a class's members, a member's def, a tuple's items -/
def rf (o : Obj) : List Addr := match o.data with
  | .seq its _ => its.toList.flatMap He.refV
  | .dict es _ => es.toList.flatMap fun z => He.refV z.val
  | .func f => He.refV f.code ++ He.refV f.defaults
  | .cls z => [z.ns]
  | .fields z => z.toList.flatMap He.refV
  | _ => []
def nxt (g : Addr → Option Obj) (as : List Addr) : List Addr := as.flatMap fun a => match g a with
  | some o => rf o
  | none => []
def lvs (g : Addr → Option Obj) : Nat → List Addr → List Addr
  | 0, as => as
  | n + 1, as => as ++ lvs g n (nxt g as)
def obG (g : Addr → Option Obj) : Al := obsK (He.frG g (cStatics :: lvs g 5 [mainGlobals]))
def hookK : Hook where
  α := Al
  obs := fun t => obG t.heap.get?
  val := fun _ => valK
  says := fun _ hp => ∃ Kf : Frag, Kf.In hp ∧ obsK Kf = valK
  of := fun _ _ z => ⟨_, He.frG_in, z⟩
  keeps := fun _ _ _ ⟨Kf, h1, h2⟩ kk => ⟨Kf, Frag.In.keeps h1 kk, h2⟩
def obT (t : SharedT) : Al := obG (HandSHeadRun.getT t)
theorem obT_eq (t : SharedT) : obT t = hookK.obs t.abs := congrArg obG (funext (HandSHeadRun.getT_eq t))
def lo0 : List PySem.Str := ["_wall", "tupled", "set_of", "number_in", "NoPlace", "BadText", "BadStep", "Renaming", "LETTERS", "LONGEST", "NOTHING_labels", "ALL", "BUT", "is_name", "names_in"]
def lo1 : List PySem.Str := ["Labels", "nodes_of", "trees_of", "text_of", "rows_in", "Forest", "with_names", "DROP", "UNWRAP", "CUT", "RENAME", "PAIR", "is_step", "pairs_in", "what_in"]
def lo2 : List PySem.Str := ["Step", "START", "NOTHING_rooms", "lesser", "is_most", "entry_in", "final_in", "room_in", "form_with", "names_told", "height_in", "depth_in", "left_in", "form_of_step", "entry_behind"]
def lo3 : List PySem.Str := ["form_behind", "power_of", "rooms_gone", "labels_gone", "plain_steps", "greater", "side", "told_in", "form_of", "pairs_of", "made_of", "is_within", "greatest_within", "least_around", "BETWEEN"]
def lo4 : List PySem.Str := ["form_of_steps", "Pipeline", "in_row", "renames", "check_names", "orders", "all_ways", "unlike_ways", "most_order", "least_order", "_law_box", "_law_take", "_law_cells", "_law_of", "_law_same"]
def lo5 : List PySem.Str := ["_law_lot", "_law_stride", "_law_plain_line", "_law_step_so", "_law_host", "_law_lot_says", "_law_is_in", "_law_fates", "_law_under", "_law_lot_of", "_law_plainly", "_law_orders", "_law_row", "_law_outcomes", "_law_by_hand_right", "_law_right"]
def lo : List PySem.Str := lo0 ++ lo1 ++ lo2 ++ lo3 ++ lo4 ++ lo5
theorem run_a (w : World) (os : OsState) : (HandSHeadRun.endF (HandSHeadRun.stepQ (HandSHeadRun.denQ HandSHeadRun.tabQ) Rw.prog w) 20000 Rw.prog w os).map (fun t => (HandSHeadRun.looksF Rw.prog (boot_heap w.params) t.abs, HandSHeadRun.seenQ Qv lo (importedModules Rw.prog.main.body) (fun z => xlAt Qv [] z && recOk Rw.toRowW.records z) t.abs)) = some (true, openGood Qv lo) := by
  kernel_rfl
theorem run_b (w : World) (os : OsState) : (HandSHeadRun.endF (HandSHeadRun.stepQ (HandSHeadRun.denQ HandSHeadRun.tabQ) Rw.prog w) 20000 Rw.prog w os).map obT = some valK := by
  kernel_rfl
theorem both_map {α β γ δ : Type} {o : Option α} {f1 : α → β} {f2 : α → γ} {f3 : α → δ} {x : β} {y : γ} {z : δ} (h1 : o.map (fun s => (f1 s, f2 s)) = some (x, y)) (h2 : o.map f3 = some z) : o.map (fun s => (f1 s, f2 s, f3 s)) = some (x, y, z) := by
  cases o with
  | none => cases h2
  | some s =>
    have e1 : (f1 s, f2 s) = (x, y) := Option.some.inj h1
    have e2 : f3 s = z := Option.some.inj h2
    have e3 : f1 s = x := congrArg Prod.fst e1
    have e4 : f2 s = y := congrArg Prod.snd e1
    show some (f1 s, f2 s, f3 s) = _
    rw [e2, e3, e4]
theorem run_top (w : World) : HandSHeadRun.RunEq Rw Qv hookK obT 20000 lo w := fun os => both_map (run_a w os) (run_b w os)
end
end DL
/-! Layer D: plain data over the abstract heap. -/
namespace DL
open PySem L2
inductive D where
  | non | bl (b : Bool) | int (i : Int) | str (x : Str)
  | tup (ds : List D) | lst (ds : List D) | dic (ks : List Str) (ds : List D) | obj (c : Nat) (ds : List D)
  deriving Inhabited
/-- the fields of the three classes: 0 Labels, 1 Step, 2 Pipeline -/
def fns : Nat → List Str
  | 0 => ["own_names", "own_rest"]
  | 1 => ["own_kind", "own_what"]
  | _ => ["own_steps", "own_form"]
def LIM : Nat := 100000
theorem lim_line {n : Nat} (h : n ≤ LIM) : n ≤ sizeLine := Nat.le_trans h (by decide)
theorem lim_lt {n : Nat} (h : n ≤ LIM) : n < sizeLine := Nat.lt_of_le_of_lt h (by decide)
def zipK (ks : List Str) (vs : List V) : List (Key × V) := List.zipWith (fun k v => (Sum.inr k, v)) ks vs
/-- G' holds what G holds -/
def Ex (G G' : Hp) : Prop := ∀ a o, G a = some o → G' a = some o
/-- H holds what G holds, dicts maybe locked -/
def Le (G H : Hp) : Prop := ∀ a o, G a = some o → H a = some o ∨ ∃ ob kvs, o = .dK kvs ∧ H a = some (.frz ob o)
theorem Ex.refl (G : Hp) : Ex G G := fun _ _ e => e
theorem Ex.trans {G G1 G2 : Hp} (a : Ex G G1) (b : Ex G1 G2) : Ex G G2 := fun x o e => b x o (a x o e)
theorem Ex.le {G H : Hp} (e : Ex G H) : Le G H := fun a o h => .inl (e a o h)
theorem Le.refl (G : Hp) : Le G G := (Ex.refl G).le
theorem Ex.nn {G H : Hp} (e : Ex G H) {p : Addr} (h : H p = none) : G p = none := by
  cases q : G p with
  | none => rfl
  | some o => rw [e p o q] at h; cases h
theorem Le.nn {G H : Hp} (e : Le G H) {p : Addr} (h : H p = none) : G p = none := by
  cases q : G p with
  | none => rfl
  | some o =>
    rcases e p o q with z | ⟨ob, kvs, _, z⟩
    · rw [z] at h; cases h
    · rw [z] at h; cases h
theorem Ex.new {H : Hp} {p : Addr} {o : HO} (h : H p = none) : Ex H (upd H p o) := fun a u e => by
  rw [upd_ne (ne_of_none e h)]
  exact e
theorem Ex.le_trans {G G1 H : Hp} (a : Ex G G1) (b : Le G1 H) : Le G H := fun x o e => b x o (a x o e)
theorem Le.ex_trans {G H H1 : Hp} (a : Le G H) (b : Ex H H1) : Le G H1 := fun x o e => by
  rcases a x o e with z | ⟨ob, kvs, q, z⟩
  · exact .inl (b _ _ z)
  · exact .inr ⟨ob, kvs, q, b _ _ z⟩
theorem Le.lst {G H : Hp} (e : Le G H) {a : Addr} {xs : List V} (h : G a = some (.lst xs)) : H a = some (.lst xs) := by
  rcases e a _ h with z | ⟨ob, kvs, q, z⟩
  · exact z
  · cases q
theorem Le.ins {G H : Hp} (e : Le G H) {a C dx : Addr} {fs : List (Str × V)} (h : G a = some (.ins C dx fs)) : H a = some (.ins C dx fs) := by
  rcases e a _ h with z | ⟨ob, kvs, q, z⟩
  · exact z
  · cases q
theorem Le.rdK {G H : Hp} (e : Le G H) {a : Addr} {kvs : List (Key × V)} (h : G a = some (.dK kvs)) : Rd H a (.dK kvs) := by
  rcases e a _ h with z | ⟨ob, _, q, z⟩
  · exact .inl z
  · exact .inr ⟨ob, z⟩
theorem Le.tup {G H : Hp} (e : Le G H) {K : PySem.W.Frag} {a : Addr} {xs : List V} (h : SqT K G a xs) : SqT K H a xs := by
  rcases h with (h | ⟨o, h⟩) | h
  · rcases e a _ h with z | ⟨ob, kvs, q, z⟩
    · exact .inl (.inl z)
    · cases q
  · rcases e a _ h with z | ⟨ob, kvs, q, z⟩
    · exact .inl (.inr ⟨o, z⟩)
    · cases q
  · exact .inr h
theorem Ex.tup {G H : Hp} (e : Ex G H) {K : PySem.W.Frag} {a : Addr} {xs : List V} (h : SqT K G a xs) : SqT K H a xs := e.le.tup h
/-! ### what a value stands for -/
section
variable (K : PySem.W.Frag) (ca : Nat → Addr) (G : Hp)
mutual
inductive Rep : V → D → Prop
  | non : Rep .non .non
  | bl (b : Bool) : Rep (.bl b) (.bl b)
  | int (i : Int) : Rep (.int i) (.int i)
  | str (x : Str) : Rep (.str x) (.str x)
  | tup {a : Addr} {vs : List V} {ds : List D} : SqT K G a vs → ds.length ≤ LIM → Reps vs ds → Rep (.ref a) (.tup ds)
  | lst {a : Addr} {vs : List V} {ds : List D} : G a = some (.lst vs) → ds.length ≤ LIM → Reps vs ds → Rep (.ref a) (.lst ds)
  | dic {a : Addr} {ks : List Str} {vs : List V} {ds : List D} : G a = some (.dK (zipK ks vs)) → ks.length = ds.length → ks.length ≤ LIM → ks.Nodup → Reps vs ds → Rep (.ref a) (.dic ks ds)
  | obj {a dx : Addr} {c : Nat} {vs : List V} {ds : List D} : G a = some (.ins (ca c) dx (List.zip (fns c) vs)) → ds.length = 2 → Reps vs ds → Rep (.ref a) (.obj c ds)
inductive Reps : List V → List D → Prop
  | nil : Reps [] []
  | cons {v : V} {vs : List V} {d : D} {ds : List D} : Rep v d → Reps vs ds → Reps (v :: vs) (d :: ds)
end
end
section
variable {K : PySem.W.Frag} {ca : Nat → Addr} {G G' H H' G1 H1 : Hp}
mutual
theorem Rep.mono (e : Ex G G') : ∀ {v : V} {d : D}, Rep K ca G v d → Rep K ca G' v d
  | _, _, .non => .non
  | _, _, .bl b => .bl b
  | _, _, .int i => .int i
  | _, _, .str x => .str x
  | _, _, .tup h l r => .tup (e.tup h) l (Reps.mono e r)
  | _, _, .lst h l r => .lst (e _ _ h) l (Reps.mono e r)
  | _, _, .dic h l m n r => .dic (e _ _ h) l m n (Reps.mono e r)
  | _, _, .obj h l r => .obj (e _ _ h) l (Reps.mono e r)
theorem Reps.mono (e : Ex G G') : ∀ {vs : List V} {ds : List D}, Reps K ca G vs ds → Reps K ca G' vs ds
  | _, _, .nil => .nil
  | _, _, .cons r t => .cons (Rep.mono e r) (Reps.mono e t)
end
theorem Reps.length : ∀ {vs : List V} {ds : List D}, Reps K ca G vs ds → vs.length = ds.length
  | _, _, .nil => rfl
  | _, _, .cons _ t => by simp [Reps.length t]
theorem Reps.app : ∀ {vs ws : List V} {ds es : List D}, Reps K ca G vs ds → Reps K ca G ws es → Reps K ca G (vs ++ ws) (ds ++ es)
  | _, _, _, _, .nil, s => s
  | _, _, _, _, .cons r t, s => .cons r (Reps.app t s)
theorem Reps.get : ∀ {vs : List V} {ds : List D} {i : Nat} {d : D}, Reps K ca G vs ds → ds[i]? = some d → ∃ v, vs[i]? = some v ∧ Rep K ca G v d
  | _, _, _, _, .nil, e => by simp at e
  | _, _, 0, _, .cons r _, e => by simp at e; subst e; exact ⟨_, rfl, r⟩
  | _, _, i + 1, d, .cons _ t, e => by
    obtain ⟨v, h1, h2⟩ := Reps.get (i := i) (d := d) t (by simpa using e)
    exact ⟨v, by simpa using h1, h2⟩
theorem Reps.getV : ∀ {vs : List V} {ds : List D} {i : Nat} {v : V}, Reps K ca G vs ds → vs[i]? = some v → ∃ d, ds[i]? = some d ∧ Rep K ca G v d
  | _, _, _, _, .nil, e => by simp at e
  | _, _, 0, _, .cons r _, e => by simp at e; subst e; exact ⟨_, rfl, r⟩
  | _, _, i + 1, v, .cons _ t, e => by
    obtain ⟨d, h1, h2⟩ := Reps.getV (i := i) (v := v) t (by simpa using e)
    exact ⟨d, by simpa using h1, h2⟩
theorem Reps.take : ∀ {vs : List V} {ds : List D} (n : Nat), Reps K ca G vs ds → Reps K ca G (vs.take n) (ds.take n)
  | _, _, 0, _ => .nil
  | _, _, _ + 1, .nil => .nil
  | _, _, n + 1, .cons r t => .cons r (Reps.take n t)
theorem Reps.drop : ∀ {vs : List V} {ds : List D} (n : Nat), Reps K ca G vs ds → Reps K ca G (vs.drop n) (ds.drop n)
  | _, _, 0, r => r
  | _, _, _ + 1, .nil => .nil
  | _, _, n + 1, .cons _ t => Reps.drop n t
theorem Reps.reverse {vs : List V} {ds : List D} (r : Reps K ca G vs ds) : Reps K ca G vs.reverse ds.reverse := by
  induction vs generalizing ds with
  | nil => cases r; exact .nil
  | cons v vs ih =>
    cases r with
    | cons r t =>
      rw [List.reverse_cons, List.reverse_cons]
      exact (ih t).app (.cons r .nil)
theorem Rep.tupI {v : V} {ds : List D} (r : Rep K ca G v (.tup ds)) : ∃ a vs, v = .ref a ∧ SqT K G a vs ∧ ds.length ≤ LIM ∧ Reps K ca G vs ds := by
  cases r with
  | tup h l r => exact ⟨_, _, rfl, h, l, r⟩
theorem Rep.lstI {v : V} {ds : List D} (r : Rep K ca G v (.lst ds)) : ∃ a vs, v = .ref a ∧ G a = some (.lst vs) ∧ ds.length ≤ LIM ∧ Reps K ca G vs ds := by
  cases r with
  | lst h l r => exact ⟨_, _, rfl, h, l, r⟩
theorem Rep.dicI {v : V} {ks : List Str} {ds : List D} (r : Rep K ca G v (.dic ks ds)) : ∃ a vs, v = .ref a ∧ G a = some (.dK (zipK ks vs)) ∧ ks.length = ds.length ∧ ks.length ≤ LIM ∧ ks.Nodup ∧ Reps K ca G vs ds := by
  cases r with
  | dic h l m n r => exact ⟨_, _, rfl, h, l, m, n, r⟩
theorem Rep.objI {v : V} {c : Nat} {ds : List D} (r : Rep K ca G v (.obj c ds)) : ∃ a dx vs, v = .ref a ∧ G a = some (.ins (ca c) dx (List.zip (fns c) vs)) ∧ ds.length = 2 ∧ Reps K ca G vs ds := by
  cases r with
  | obj h l r => exact ⟨_, _, _, rfl, h, l, r⟩
theorem Rep.nonI {v : V} (r : Rep K ca G v .non) : v = .non := by cases r; rfl
theorem Rep.blI {v : V} {b : Bool} (r : Rep K ca G v (.bl b)) : v = .bl b := by cases r; rfl
theorem Rep.intI {v : V} {i : Int} (r : Rep K ca G v (.int i)) : v = .int i := by cases r; rfl
theorem Rep.strI {v : V} {x : Str} (r : Rep K ca G v (.str x)) : v = .str x := by cases r; rfl
/-- (G, H) has grown to (G', H') -/
structure Gr (G H G' H' : Hp) : Prop where
  g : Ex G G'
  le : Le G' H'
  h : Ex H H'
  nw : ∀ a o, G' a = some o → G a = some o ∨ H a = none
theorem Gr.refl (e : Le G H) : Gr G H G H := ⟨Ex.refl _, e, Ex.refl _, fun _ _ z => .inl z⟩
theorem Gr.trans {G2 H2 : Hp} (a : Gr G H G1 H1) (b : Gr G1 H1 G2 H2) : Gr G H G2 H2 := ⟨a.g.trans b.g, b.le, a.h.trans b.h, fun x o e => by
  rcases b.nw x o e with z | z
  · exact a.nw x o z
  · exact .inr (a.h.nn z)⟩
/-- a new object, of which the data speak -/
theorem Gr.new {p : Addr} {o : HO} (e : Le G H) (h : H p = none) : Gr G H (upd G p o) (upd H p o) := ⟨Ex.new (e.nn h), fun a u z => by
    by_cases q : a = p
    · subst q; rw [upd_same] at z; cases z; exact .inl upd_same
    · rw [upd_ne q] at z ⊢; exact e a u z, Ex.new h, fun a u z => by
    by_cases q : a = p
    · subst q; exact .inr h
    · rw [upd_ne q] at z; exact .inl z⟩
/-- a new object, of which the data do not speak -/
theorem Gr.newH {p : Addr} {o : HO} (e : Le G H) (h : H p = none) : Gr G H G (upd H p o) := ⟨Ex.refl _, e.ex_trans (Ex.new h), Ex.new h, fun a u z => .inl z⟩
end
/-! ### slots -/
abbrev Rho := List (Option D)
structure Sg (K : PySem.W.Frag) (ca : Nat → Addr) (G H : Hp) (σ : L2.St) (ρ : Rho) : Prop where
  le : Le G H
  len : ρ.length = σ.length
  at_ : ∀ (i : Nat) (d : D), ρ[i]? = some (some d) → ∃ v, σ[i]? = some (some v) ∧ Rep K ca G v d
theorem Sg.gr {K : PySem.W.Frag} {ca : Nat → Addr} {G H G' H' : Hp} {σ : L2.St} {ρ : Rho} (s : Sg K ca G H σ ρ) (g : Gr G H G' H') : Sg K ca G' H' σ ρ :=
  ⟨g.le, s.len, fun i d e => let ⟨v, a, b⟩ := s.at_ i d e; ⟨v, a, b.mono g.g⟩⟩
/-- THE READING of an expression: f gives its value -/
def tD (K : PySem.W.Frag) (ca : Nat → Addr) (f : Rho → Option D) : TE := fun σ H Q =>
  ∃ G ρ d, Sg K ca G H σ ρ ∧ f ρ = some d ∧ ∀ v H' G', Gr G H G' H' → Rep K ca G' v d → Q v H'
def tDT (K : PySem.W.Frag) (ca : Nat → Addr) (f : Rho → Option Bool) : TT := fun σ H Q =>
  ∃ G ρ c, Sg K ca G H σ ρ ∧ f ρ = some c ∧ ∀ H' G', Gr G H G' H' → Q c H'
def tDA (K : PySem.W.Frag) (ca : Nat → Addr) (f : Rho → Option (List D)) : TA := fun σ H Q =>
  ∃ G ρ ds, Sg K ca G H σ ρ ∧ f ρ = some ds ∧ ∀ vs H' G', Gr G H G' H' → Reps K ca G' vs ds → Q vs H'
/-- the same, the data told ahead: over any state that they meet -/
theorem tD.go {K : PySem.W.Frag} {ca : Nat → Addr} {f : Rho → Option D} {σ : L2.St} {G H : Hp} {ρ : Rho} {d : D} {Q : VK} (s : Sg K ca G H σ ρ) (e : f ρ = some d)
    (k : ∀ v H' G', Gr G H G' H' → Rep K ca G' v d → Q v H') : tD K ca f σ H Q := ⟨G, ρ, d, s, e, k⟩
theorem PE.imp {X : Cx} {e : Expr} {t t' : TE} (h : PE X e t) (k : ∀ σ H Q, t' σ H Q → t σ H Q) : PE X e t' := ⟨fun pins s σ H Q I w => h.run pins s σ H Q I (k σ H Q w)⟩
theorem PT.imp {X : Cx} {e : Expr} {t t' : TT} (h : PT X e t) (k : ∀ σ H Q, t' σ H Q → t σ H Q) : PT X e t' := ⟨fun pins s σ H Q I w => h.run pins s σ H Q I (k σ H Q w)⟩
theorem PW.imp {X : Cx} {e : Expr} {t t' : TT} (h : PW X e t) (k : ∀ σ H Q, t' σ H Q → t σ H Q) : PW X e t' := ⟨fun wh pins s σ H Q I w => h.run wh pins s σ H Q I (k σ H Q w)⟩
theorem PA.imp {X : Cx} {es : List Expr} {t t' : TA} (h : PA X es t) (k : ∀ σ H Q, t' σ H Q → t σ H Q) : PA X es t' := ⟨fun pos pins s σ H Q I w => h.run pos pins s σ H Q I (k σ H Q w)⟩
theorem PS.imp {X : Cx} {st : Stmt} {t t' : TS} (h : PS X st t) (k : ∀ D σ H, t' D σ H → t D σ H) : PS X st t' := ⟨fun pins s σ H D I w => h.run pins s σ H D I (k D σ H w)⟩
theorem PSs.imp {X : Cx} {st : List Stmt} {t t' : TS} (h : PSs X st t) (k : ∀ D σ H, t' D σ H → t D σ H) : PSs X st t' := ⟨fun pins s σ H D I w => h.run pins s σ H D I (k D σ H w)⟩
theorem PI.imp {X : Cx} {tg iter : Expr} {t t' : TI} (h : PI X tg iter t) (k : ∀ σ H R, t' σ H R → t σ H R) : PI X tg iter t' := ⟨fun pins s σ H R I w => h.run pins s σ H R I (k σ H R w)⟩
theorem PG.imp {X : Cx} {tg : Expr} {t t' : TG} (h : PG X tg t) (k : ∀ v σ H Q, t' v σ H Q → t v σ H Q) : PG X tg t' := ⟨fun pins s σ H v u Q I r w => h.run pins s σ H v u Q I r (k v σ H Q w)⟩
end DL
/-! Layer D: expressions. -/
namespace DL
open PySem L2
/-! ### the semantic words -/
def lim (ds : List D) (d : D) : Option D := if ds.length ≤ LIM then some d else none
def x_var (i : Nat) : Rho → Option D := fun ρ => match ρ[i]? with | some o => o | none => none
def x_c (d : D) : Rho → Option D := fun _ => some d
def x_un (g : D → Option D) (f : Rho → Option D) : Rho → Option D := fun ρ => (f ρ).bind g
def x_bin (g : D → D → Option D) (f1 f2 : Rho → Option D) : Rho → Option D := fun ρ => (f1 ρ).bind fun x => (f2 ρ).bind fun y => g x y
def a_nil : Rho → Option (List D) := fun _ => some []
def a_cons (f : Rho → Option D) (r : Rho → Option (List D)) : Rho → Option (List D) := fun ρ => (f ρ).bind fun x => (r ρ).bind fun xs => some (x :: xs)
def itemsOf : D → Option (List D)
  | .tup ds => some ds
  | .lst ds => some ds
  | _ => none
def a_star (f : Rho → Option D) (r : Rho → Option (List D)) : Rho → Option (List D) := fun ρ => ((f ρ).bind itemsOf).bind fun x => (r ρ).bind fun xs => some (x ++ xs)
def x_tup (r : Rho → Option (List D)) : Rho → Option D := fun ρ => (r ρ).bind fun ds => lim ds (.tup ds)
def x_lst (r : Rho → Option (List D)) : Rho → Option D := fun ρ => (r ρ).bind fun ds => lim ds (.lst ds)
def x_call (F : List D → Option D) (r : Rho → Option (List D)) : Rho → Option D := fun ρ => (r ρ).bind F
def asB : D → Option Bool
  | .bl b => some b
  | _ => none
def truB : D → Option Bool
  | .non => some false
  | .bl b => some b
  | .int i => some (i != 0)
  | .tup ds => some (!ds.isEmpty)
  | .lst ds => some (!ds.isEmpty)
  | _ => none
def t_val (f : Rho → Option D) : Rho → Option Bool := fun ρ => (f ρ).bind asB
def t_tru (f : Rho → Option D) : Rho → Option Bool := fun ρ => (f ρ).bind truB
def t_and (s t : Rho → Option Bool) : Rho → Option Bool := fun ρ => (s ρ).bind fun b => if b = true then t ρ else some false
def t_or (s t : Rho → Option Bool) : Rho → Option Bool := fun ρ => (s ρ).bind fun b => if b = true then some true else t ρ
def t_not (s : Rho → Option Bool) : Rho → Option Bool := fun ρ => (s ρ).bind fun b => some (!b)
def x_if (t : Rho → Option Bool) (f1 f2 : Rho → Option D) : Rho → Option D := fun ρ => (t ρ).bind fun b => if b = true then f1 ρ else f2 ρ
def x_and (f1 f2 : Rho → Option D) : Rho → Option D := fun ρ => (t_val f1 ρ).bind fun b => if b = true then f2 ρ else some (.bl false)
def x_or (f1 f2 : Rho → Option D) : Rho → Option D := fun ρ => (t_val f1 ρ).bind fun b => if b = true then some (.bl true) else f2 ρ
def x_orT (f1 f2 : Rho → Option D) : Rho → Option D := fun ρ => (f1 ρ).bind fun x => (truB x).bind fun b => if b = true then some x else f2 ρ
def x_not (f : Rho → Option D) : Rho → Option D := fun ρ => (t_val f ρ).bind fun b => some (.bl (!b))
mutual
def py : D → PyData
  | .non => .none
  | .bl b => .bool b
  | .int i => .int i
  | .str x => .str x
  | .tup ds => .tuple (pys ds)
  | .lst ds => .list (pys ds)
  | .dic _ _ => .dict []
  | .obj _ _ => .dict []
def pys : List D → List PyData
  | [] => []
  | d :: ds => py d :: pys ds
end
def dEq (x y : D) : Option D := if (SeqAt.shaped (py x) && SeqAt.shaped (py y)) = true then some (.bl (PyData.eqv (py x) (py y))) else none
def dNe (x y : D) : Option D := if (SeqAt.shaped (py x) && SeqAt.shaped (py y)) = true then some (.bl (!PyData.eqv (py x) (py y))) else none
def dLt : D → D → Option D | .int i, .int j => some (.bl (decide (i < j))) | _, _ => none
def dLe : D → D → Option D | .int i, .int j => some (.bl (decide (i ≤ j))) | _, _ => none
def dGt : D → D → Option D | .int i, .int j => some (.bl (decide (j < i))) | _, _ => none
def dGe : D → D → Option D | .int i, .int j => some (.bl (decide (j ≤ i))) | _, _ => none
def isNon : D → Bool | .non => true | _ => false
def dIsN (x _y : D) : Option D := some (.bl (isNon x))
def dIsNot (x _y : D) : Option D := some (.bl (!isNon x))
def flatD : D → Bool | .non => true | .bl _ => true | .int _ => true | .str _ => true | _ => false
def toV : D → V | .non => .non | .bl b => .bl b | .int i => .int i | .str x => .str x | _ => .non
def inD (x : D) (xs : List D) : Bool := xs.any fun y => eqV (toV y) (toV x)
def dIn (x y : D) : Option D := (itemsOf y).bind fun ys => if (flatD x && ys.all flatD) = true then some (.bl (inD x ys)) else none
def dNotIn (x y : D) : Option D := (itemsOf y).bind fun ys => if (flatD x && ys.all flatD) = true then some (.bl (!inD x ys)) else none
def dAdd : D → D → Option D
  | .int i, .int j => some (.int (i + j))
  | .str a, .str b => if a.length + b.length ≤ LIM then some (.str (a ++ b)) else none
  | .lst a, .lst b => if a.length + b.length ≤ LIM then some (.lst (a ++ b)) else none
  | .tup a, .tup b => if a.length + b.length ≤ LIM then some (.tup (a ++ b)) else none
  | _, _ => none
def dSub : D → D → Option D | .int i, .int j => some (.int (i - j)) | _, _ => none
def dMulL : D → D → Option D
  | .lst a, .int k => if 0 ≤ k ∧ k ≤ 1 ∧ a.length ≤ LIM then some (.lst (List.replicate k.toNat a).flatten) else none
  | _, _ => none
def dIx : D → D → Option D
  | .tup ds, .int i => atI ds i
  | .lst ds, .int i => atI ds i
  | _, _ => none
section
variable {X : Cx} {ca : Nat → Addr} {a b c e : Expr} {es : List Expr} {pos : Pos} {f f1 f2 f3 : Rho → Option D} {r : Rho → Option (List D)} {s t : Rho → Option Bool}
theorem d_var {i : Nat} {x : Str} (hN : X.N[i]? = some x := by rfl) (hv : Vis X.env.scope x := by first | exact Or.inl rfl | exact Or.inr (Or.inl rfl) | exact Or.inr (Or.inr rfl)) (hd : (x == ("__debug__" : Str)) = false := by decide)
    (hcd : (x == ("__classdict__" : Str)) = false := by decide) : PE X (.Name x pos) (tD X.K ca (x_var i)) :=
  PE.imp (pe_var hN hv hd hcd) fun σ H Q ⟨G, ρ, d, S, e, k⟩ => by
    have e1 : ρ[i]? = some (some d) := by
      unfold x_var at e
      cases q : ρ[i]? with
      | none => rw [q] at e; cases e
      | some o => rw [q] at e; simp only at e; rw [e]
    obtain ⟨v, h1, h2⟩ := S.at_ i d e1
    exact ⟨v, h1, k v H G (Gr.refl S.le) h2⟩
theorem d_const {v : V} {d : D} (h : PE X e (tC v)) (hr : ∀ G, Rep X.K ca G v d) : PE X e (tD X.K ca (x_c d)) :=
  PE.imp h fun σ H Q ⟨G, ρ, d', S, e, k⟩ => by
    cases e
    exact k v H G (Gr.refl S.le) (hr G)
theorem d_int {i : Int} {j} : PE X (.Constant (.int i) j pos) (tD X.K ca (x_c (.int i))) := d_const pe_int fun _ => .int i
theorem d_bl {i : Bool} {j} : PE X (.Constant (.bool i) j pos) (tD X.K ca (x_c (.bl i))) := d_const pe_bl fun _ => .bl i
theorem d_non {j} : PE X (.Constant .none j pos) (tD X.K ca (x_c .non)) := d_const pe_non fun _ => .non
theorem d_str {x : Str} {j} : PE X (.Constant (.str x) j pos) (tD X.K ca (x_c (.str x))) := d_const pe_str fun _ => .str x
/-- a global of the written part -/
theorem d_glob {x : Str} {v : V} {u : Value} {d : D} (hg : Gl X x) (hm : X.mg x = some u) (hr : RelV v u) (hd : ∀ G, Rep X.K ca G v d) (hdb : (x == ("__debug__" : Str)) = false := by decide) : PE X (.Name x pos) (tD X.K ca (x_c d)) :=
  d_const (pe_glob hg hm hr hdb) hd
/-! ### arguments, displays -/
theorem da_nil : PA X [] (tDA X.K ca a_nil) := PA.imp pa_nil fun σ H Q ⟨G, ρ, ds, S, e, k⟩ => by
  cases e
  exact k [] H G (Gr.refl S.le) .nil
theorem da_cons (ha : PE X e (tD X.K ca f)) (hr : PA X es (tDA X.K ca r)) (hs : starEach (e :: es) X.env = (false, eval e X.env) :: starEach es X.env := by rfl) : PA X (e :: es) (tDA X.K ca (a_cons f r)) :=
  PA.imp (pa_cons ha hr hs) fun σ H Q ⟨G, ρ, ds, S, e, k⟩ => by
    unfold a_cons at e
    cases e1 : f ρ with
    | none => rw [e1] at e; cases e
    | some x =>
      rw [e1] at e
      cases e2 : r ρ with
      | none => rw [Option.bind_some, e2] at e; cases e
      | some xs =>
        rw [Option.bind_some, e2, Option.bind_some] at e
        cases e
        exact ⟨G, ρ, x, S, e1, fun v H1 G1 g1 r1 => ⟨G1, ρ, xs, S.gr g1, e2, fun vs H2 G2 g2 r2 => k (v :: vs) H2 G2 (g1.trans g2) (.cons (r1.mono g2.g) r2)⟩⟩
theorem da_star {p : Pos} (ha : PE X e (tD X.K ca f)) (hr : PA X es (tDA X.K ca r)) (hs : starEach (.Starred e p :: es) X.env = (true, eval e X.env) :: starEach es X.env := by rfl) : PA X (.Starred e p :: es) (tDA X.K ca (a_star f r)) :=
  PA.imp (StX.pa_star ha hr hs) fun σ H Q ⟨G, ρ, ds, S, e, k⟩ => by
    unfold a_star at e
    cases e1 : f ρ with
    | none => rw [e1] at e; cases e
    | some x =>
      rw [e1] at e
      cases e0 : itemsOf x with
      | none => rw [Option.bind_some, e0] at e; cases e
      | some zs =>
      cases e2 : r ρ with
      | none => rw [Option.bind_some, e0, e2] at e; cases e
      | some xs =>
        rw [Option.bind_some, e0, e2, Option.bind_some, Option.bind_some] at e
        cases e
        refine ⟨G, ρ, x, S, e1, fun v H1 G1 g1 r1 => ?_⟩
        have go : ∀ (p : Addr) (vs : List V), v = .ref p → (SqT X.K H1 p vs ∨ SqL X.K H1 p vs) → Reps X.K ca G1 vs zs → ∃ p xs_1, v = V.ref p ∧ (SqT X.K H1 p xs_1 ∨ SqL X.K H1 p xs_1) ∧ tDA X.K ca r σ H1 fun ys H2 => Q (xs_1 ++ ys) H2 :=
          fun p vs ev hq rv => ⟨p, vs, ev, hq, G1, ρ, xs, S.gr g1, e2, fun ws H2 G2 g2 r2 => k _ H2 G2 (g1.trans g2) ((rv.mono g2.g).app r2)⟩
        cases x with
        | tup ds =>
          cases e0
          obtain ⟨p, vs, ev, hq, _, rv⟩ := r1.tupI
          exact go p vs ev (.inl (g1.le.tup hq)) rv
        | lst ds =>
          cases e0
          obtain ⟨p, vs, ev, hq, _, rv⟩ := r1.lstI
          exact go p vs ev (.inr (SqL.of (g1.le.lst hq))) rv
        | _ => cases e0
theorem lim_some {ds : List D} {d d' : D} (h : lim ds d = some d') : d' = d ∧ ds.length ≤ LIM := by
  unfold lim at h
  split at h
  · cases h; exact ⟨rfl, by assumption⟩
  · cases h
theorem d_tup {k : Nat} (h : PA X es (tDA X.K ca r)) : PE X (.Tuple es k pos) (tD X.K ca (x_tup r)) :=
  PE.imp (pe_tup h) fun σ H Q ⟨G, ρ, d, S, e, k⟩ => by
    unfold x_tup at e
    cases e1 : r ρ with
    | none => rw [e1] at e; cases e
    | some ds =>
      rw [e1] at e
      obtain ⟨rfl, hl⟩ := lim_some e
      refine ⟨G, ρ, ds, S, e1, fun vs H1 G1 g1 r1 => ⟨lim_line (by rw [r1.length]; exact hl), fun p hp => ?_⟩⟩
      have g2 := Gr.new (o := .tup vs) g1.le hp
      exact k _ _ _ (g1.trans g2) (.tup (SqT.of upd_same) hl (r1.mono g2.g))
theorem d_lst (h : PA X es (tDA X.K ca r)) : PE X (.List es pos) (tD X.K ca (x_lst r)) :=
  PE.imp (pe_lst h) fun σ H Q ⟨G, ρ, d, S, e, k⟩ => by
    unfold x_lst at e
    cases e1 : r ρ with
    | none => rw [e1] at e; cases e
    | some ds =>
      rw [e1] at e
      obtain ⟨rfl, hl⟩ := lim_some e
      refine ⟨G, ρ, ds, S, e1, fun vs H1 G1 g1 r1 => ⟨lim_line (by rw [r1.length]; exact hl), fun p hp => ?_⟩⟩
      have g2 := Gr.new (o := .lst vs) g1.le hp
      exact k _ _ _ (g1.trans g2) (.lst upd_same hl (r1.mono g2.g))
/-! ### operators by values -/
/-- what a two-place rule does to data -/
def BinR (K : PySem.W.Frag) (ca : Nat → Addr) (rr : R2) (g : D → D → Option D) : Prop :=
  ∀ G H x y d1 d2 d (Q : VK), Le G H → Rep K ca G x d1 → Rep K ca G y d2 → g d1 d2 = some d → (∀ v H' G', Gr G H G' H' → Rep K ca G' v d → Q v H') → rr x y H Q
theorem bin2 {rr : R2} {g : D → D → Option D} (hr : BinR X.K ca rr g) : ∀ σ H Q, tD X.K ca (x_bin g f1 f2) σ H Q → tOp rr (tD X.K ca f1) (tD X.K ca f2) σ H Q := fun σ H Q ⟨G, ρ, d, S, e, k⟩ => by
  unfold x_bin at e
  cases e1 : f1 ρ with
  | none => rw [e1] at e; cases e
  | some x =>
    rw [e1, Option.bind_some] at e
    cases e2 : f2 ρ with
    | none => rw [e2] at e; cases e
    | some y =>
      rw [e2, Option.bind_some] at e
      exact ⟨G, ρ, x, S, e1, fun v H1 G1 g1 r1 => ⟨G1, ρ, y, S.gr g1, e2, fun u H2 G2 g2 r2 => hr G2 H2 v u x y d Q g2.le (r1.mono g2.g) r2 e fun v H' G' g3 r3 => k v H' G' ((g1.trans g2).trans g3) r3⟩⟩
theorem d_bin {op : Operator} {rr : R2} {g : D → D → Option D} (ho : OpR X (binaryOp op) rr) (hr : BinR X.K ca rr g) (ha : PE X a (tD X.K ca f1)) (hb : PE X b (tD X.K ca f2)) : PE X (.BinOp a op b pos) (tD X.K ca (x_bin g f1 f2)) :=
  PE.imp (pe_op ho ha hb) (bin2 hr)
theorem d_cmp {op : CmpOp} {rr : R2} {g : D → D → Option D} (ho : OpR X (compareOp op) rr) (hr : BinR X.K ca rr g) (ha : PE X a (tD X.K ca f1)) (hb : PE X b (tD X.K ca f2)) (hm : behindInMarks op b = false) : PE X (.Compare a [op] [b] pos) (tD X.K ca (x_bin g f1 f2)) :=
  PE.imp (pe_cmpR ho ha hb hm) (bin2 hr)
theorem test_of {te : TE} {σ : L2.St} {H : Hp} {Q : Bool → Hp → Prop} (hh : ∀ Q, tD X.K ca f σ H Q → te σ H Q) (h : tDT X.K ca (t_val f) σ H Q) : te σ H fun x H' => ∃ k, x = .bl k ∧ Q k H' := by
  obtain ⟨G, ρ, c, S, e, k⟩ := h
  unfold t_val at e
  cases e1 : f ρ with
  | none => rw [e1] at e; cases e
  | some d =>
    rw [e1, Option.bind_some] at e
    cases d with
    | bl b' =>
      cases e
      exact hh _ ⟨G, ρ, .bl c, S, e1, fun v H' G' g r => ⟨c, r.blI, k H' G' g⟩⟩
    | _ => cases e
theorem d_cmpT {op : CmpOp} {rr : R2} {g : D → D → Option D} (ho : OpR X (compareOp op) rr) (hr : BinR X.K ca rr g) (ha : PE X a (tD X.K ca f1)) (hb : PE X b (tD X.K ca f2)) (hm : behindInMarks op b = false) : PT X (.Compare a [op] [b] pos) (tDT X.K ca (t_val (x_bin g f1 f2))) :=
  PT.imp (pt_cmpR ho ha hb hm) fun σ H Q h => test_of (fun Q => bin2 hr σ H Q) h
theorem d_test (h : PE X e (tD X.K ca f)) (he : ∀ whole, isTrue e X.env whole = (do let v ← whole; standAt e.pos; holding [v] (truthy v)) := by intro _; rfl) : PT X e (tDT X.K ca (t_val f)) :=
  PT.imp (pt_val h he) fun σ H Q h => test_of (fun _ z => z) h
theorem d_tru (h : PE X e (tD X.K ca f)) (he : ∀ whole, isTrue e X.env whole = (do let v ← whole; standAt e.pos; holding [v] (truthy v)) := by intro _; rfl) : PT X e (tDT X.K ca (t_tru f)) :=
  PT.imp (pt_truth h he) fun σ H Q ⟨G, ρ, c, S, e, k⟩ => by
    unfold t_tru at e
    cases e1 : f ρ with
    | none => rw [e1] at e; cases e
    | some d =>
      rw [e1, Option.bind_some] at e
      refine ⟨G, ρ, d, S, e1, fun v H' G' g r => ⟨c, ?_, k H' G' g⟩⟩
      cases d with
      | non => cases e; cases r; rfl
      | bl b => cases e; cases r; rfl
      | int i => cases e; cases r; rfl
      | tup ds =>
        cases e
        obtain ⟨p, vs, rfl, hq, _, rv⟩ := r.tupI
        exact .inr (.inl ⟨vs, g.le.tup hq, by cases rv <;> rfl⟩)
      | lst ds =>
        cases e
        obtain ⟨p, vs, rfl, hq, _, rv⟩ := r.lstI
        exact .inl ⟨vs, SqL.of (g.le.lst hq), by cases rv <;> rfl⟩
      | _ => cases e
/-! ### and, or, not, if -/
theorem dw_and1 (ha : PT X a (tDT X.K ca s)) : PW X (.BoolOp .And [a] pos) (tDT X.K ca s) := pw_and1 ha
theorem dw_or1 (ha : PT X a (tDT X.K ca s)) : PW X (.BoolOp .Or [a] pos) (tDT X.K ca s) := pw_or1 ha
theorem dw_and {rest : List Expr} (ha : PT X a (tDT X.K ca s)) (hb : PW X (.BoolOp .And (b :: rest) pos) (tDT X.K ca t)) : PW X (.BoolOp .And (a :: b :: rest) pos) (tDT X.K ca (t_and s t)) :=
  PW.imp (pw_and ha hb) fun σ H Q ⟨G, ρ, c, S, e, k⟩ => by
    unfold t_and at e
    cases e1 : s ρ with
    | none => rw [e1] at e; cases e
    | some d =>
      rw [e1, Option.bind_some] at e
      refine ⟨G, ρ, d, S, e1, fun H' G' g => ?_⟩
      cases d with
      | true =>
        rw [if_pos rfl] at e ⊢
        exact ⟨G', ρ, c, S.gr g, e, fun H2 G2 g2 => k H2 G2 (g.trans g2)⟩
      | false =>
        rw [if_neg Bool.false_ne_true] at e ⊢
        cases e
        exact k H' G' g
theorem dw_or {rest : List Expr} (ha : PT X a (tDT X.K ca s)) (hb : PW X (.BoolOp .Or (b :: rest) pos) (tDT X.K ca t)) : PW X (.BoolOp .Or (a :: b :: rest) pos) (tDT X.K ca (t_or s t)) :=
  PW.imp (pw_or ha hb) fun σ H Q ⟨G, ρ, c, S, e, k⟩ => by
    unfold t_or at e
    cases e1 : s ρ with
    | none => rw [e1] at e; cases e
    | some d =>
      rw [e1, Option.bind_some] at e
      refine ⟨G, ρ, d, S, e1, fun H' G' g => ?_⟩
      cases d with
      | true =>
        rw [if_pos rfl] at e ⊢
        cases e
        exact k H' G' g
      | false =>
        rw [if_neg Bool.false_ne_true] at e ⊢
        exact ⟨G', ρ, c, S.gr g, e, fun H2 G2 g2 => k H2 G2 (g.trans g2)⟩
theorem dt_not (ha : PT X a (tDT X.K ca s)) : PT X (.UnaryOp .Not a pos) (tDT X.K ca (t_not s)) :=
  PT.imp (pt_not ha) fun σ H Q ⟨G, ρ, c, S, e, k⟩ => by
    unfold t_not at e
    cases e1 : s ρ with
    | none => rw [e1] at e; cases e
    | some d =>
      rw [e1, Option.bind_some] at e
      cases e
      exact ⟨G, ρ, d, S, e1, fun H' G' g => k H' G' g⟩
theorem d_ifx (hc : PT X c (tDT X.K ca s)) (ha : PE X a (tD X.K ca f1)) (hb : PE X b (tD X.K ca f2)) : PE X (.IfExp c a b pos) (tD X.K ca (x_if s f1 f2)) :=
  PE.imp (pe_ifExp hc ha hb) fun σ H Q ⟨G, ρ, d, S, e, k⟩ => by
    unfold x_if at e
    cases e1 : s ρ with
    | none => rw [e1] at e; cases e
    | some c =>
      rw [e1, Option.bind_some] at e
      refine ⟨G, ρ, c, S, e1, fun H' G' g => ?_⟩
      cases c with
      | true =>
        rw [if_pos rfl] at e ⊢
        exact ⟨G', ρ, d, S.gr g, e, fun v H2 G2 g2 r2 => k v H2 G2 (g.trans g2) r2⟩
      | false =>
        rw [if_neg Bool.false_ne_true] at e ⊢
        exact ⟨G', ρ, d, S.gr g, e, fun v H2 G2 g2 r2 => k v H2 G2 (g.trans g2) r2⟩
theorem tval_some {ρ : Rho} {b : Bool} (h : t_val f ρ = some b) : f ρ = some (.bl b) := by
  unfold t_val at h
  cases e1 : f ρ with
  | none => rw [e1] at h; cases h
  | some d =>
    rw [e1, Option.bind_some] at h
    cases d with
    | bl c => cases h; rfl
    | _ => cases h
theorem d_one {op} (h : PE X a (tD X.K ca f)) : PE X (.BoolOp op [a] pos) (tD X.K ca f) := pe_one h
theorem d_and {rest : List Expr} (ha : PE X a (tD X.K ca f1)) (hb : PE X (.BoolOp .And (b :: rest) pos) (tD X.K ca f2)) : PE X (.BoolOp .And (a :: b :: rest) pos) (tD X.K ca (x_and f1 f2)) :=
  PE.imp (pe_and ha hb) fun σ H Q ⟨G, ρ, d, S, e, k⟩ => by
    unfold x_and at e
    cases e1 : t_val f1 ρ with
    | none => rw [e1] at e; cases e
    | some c =>
      rw [e1, Option.bind_some] at e
      refine ⟨G, ρ, .bl c, S, tval_some e1, fun v H' G' g r => ⟨c, r.blI, ?_⟩⟩
      cases c with
      | true =>
        rw [if_pos rfl] at e ⊢
        exact ⟨G', ρ, d, S.gr g, e, fun v H2 G2 g2 r2 => k v H2 G2 (g.trans g2) r2⟩
      | false =>
        rw [if_neg Bool.false_ne_true] at e ⊢
        cases e
        exact k _ H' G' g (.bl false)
theorem d_or {rest : List Expr} (ha : PE X a (tD X.K ca f1)) (hb : PE X (.BoolOp .Or (b :: rest) pos) (tD X.K ca f2)) : PE X (.BoolOp .Or (a :: b :: rest) pos) (tD X.K ca (x_or f1 f2)) :=
  PE.imp (pe_or ha hb) fun σ H Q ⟨G, ρ, d, S, e, k⟩ => by
    unfold x_or at e
    cases e1 : t_val f1 ρ with
    | none => rw [e1] at e; cases e
    | some c =>
      rw [e1, Option.bind_some] at e
      refine ⟨G, ρ, .bl c, S, tval_some e1, fun v H' G' g r => ⟨c, r.blI, ?_⟩⟩
      cases c with
      | true =>
        rw [if_pos rfl] at e ⊢
        cases e
        exact k _ H' G' g (.bl true)
      | false =>
        rw [if_neg Bool.false_ne_true] at e ⊢
        exact ⟨G', ρ, d, S.gr g, e, fun v H2 G2 g2 r2 => k v H2 G2 (g.trans g2) r2⟩
theorem tru_of {G H : Hp} {x : V} {d : D} {b : Bool} (le : Le G H) (r : Rep X.K ca G x d) (e : truB d = some b) : TruV X.K x H b := by
  cases d with
  | non => cases e; cases r; rfl
  | bl b => cases e; cases r; rfl
  | int i => cases e; cases r; rfl
  | tup ds =>
    cases e
    obtain ⟨p, vs, rfl, hq, _, rv⟩ := r.tupI
    exact .inr (.inl ⟨vs, le.tup hq, by cases rv <;> rfl⟩)
  | lst ds =>
    cases e
    obtain ⟨p, vs, rfl, hq, _, rv⟩ := r.lstI
    exact .inl ⟨vs, SqL.of (le.lst hq), by cases rv <;> rfl⟩
  | _ => cases e
theorem d_orT {rest : List Expr} (ha : PE X a (tD X.K ca f1)) (hb : PE X (.BoolOp .Or (b :: rest) pos) (tD X.K ca f2)) : PE X (.BoolOp .Or (a :: b :: rest) pos) (tD X.K ca (x_orT f1 f2)) :=
  PE.imp (pe_orT ha hb) fun σ H Q ⟨G, ρ, d, S, e, k⟩ => by
    unfold x_orT at e
    cases e1 : f1 ρ with
    | none => rw [e1] at e; cases e
    | some x =>
      rw [e1, Option.bind_some] at e
      cases e2 : truB x with
      | none => rw [e2] at e; cases e
      | some c =>
        rw [e2, Option.bind_some] at e
        refine ⟨G, ρ, x, S, e1, fun v H' G' g r => ⟨c, tru_of g.le r e2, ?_⟩⟩
        cases c with
        | true =>
          rw [if_pos rfl] at e ⊢
          cases e
          exact k _ H' G' g r
        | false =>
          rw [if_neg Bool.false_ne_true] at e ⊢
          exact ⟨G', ρ, d, S.gr g, e, fun v H2 G2 g2 r2 => k v H2 G2 (g.trans g2) r2⟩
theorem d_not (ha : PE X a (tD X.K ca f)) : PE X (.UnaryOp .Not a pos) (tD X.K ca (x_not f)) :=
  PE.imp (pe_not ha) fun σ H Q ⟨G, ρ, d, S, e, k⟩ => by
    unfold x_not at e
    cases e1 : t_val f ρ with
    | none => rw [e1] at e; cases e
    | some c =>
      rw [e1, Option.bind_some] at e
      cases e
      exact ⟨G, ρ, .bl c, S, tval_some e1, fun v H' G' g r => ⟨c, r.blI, k _ H' G' g (.bl _)⟩⟩
end
/-! ### the operators -/
section
variable {K : PySem.W.Frag} {ca : Nat → Addr}
theorem flat_rep {G : Hp} {v : V} {d : D} (r : Rep K ca G v d) (h : flatD d = true) : v = toV d ∧ flatV v = true := by
  cases r <;> first | exact ⟨rfl, rfl⟩ | cases h
theorem flat_reps {G : Hp} : ∀ {vs : List V} {ds : List D}, Reps K ca G vs ds → ds.all flatD = true → vs = ds.map toV ∧ vs.all flatV = true
  | _, _, .nil, _ => ⟨rfl, rfl⟩
  | _, _, .cons r t, h => by
    rw [List.all_cons, Bool.and_eq_true] at h
    obtain ⟨a, b⟩ := flat_rep r h.1
    obtain ⟨c, d⟩ := flat_reps t h.2
    rw [List.map_cons, ← a, ← c, List.all_cons, b, d]
    exact ⟨rfl, rfl⟩
mutual
theorem dp_of {G H : Hp} (le : Le G H) : ∀ {d : D} {v : V}, Rep K ca G v d → (py d).canLay0 = true → Dp K H v (py d)
  | _, _, .non, _ => .non
  | _, _, .bl b, _ => .bl b
  | _, _, .int b, _ => .int b
  | _, _, .str b, _ => .str b
  | _, _, .tup h _ r, c => .tup (le.tup h) (dps_of le r c)
  | _, _, .lst h _ r, c => .lst (SqL.of (le.lst h)) (dps_of le r c)
  | _, _, .dic _ _ _ _ _, c => by cases c
  | _, _, .obj _ _ _, c => by cases c
theorem dps_of {G H : Hp} (le : Le G H) : ∀ {ds : List D} {vs : List V}, Reps K ca G vs ds → PyData.canLayAll0 (pys ds) = true → DpAll K H vs (pys ds)
  | _, _, .nil, _ => .nil
  | _, _, .cons r t, c => by
    have h : ((py _).canLay0 && PyData.canLayAll0 (pys _)) = true := c
    rw [Bool.and_eq_true] at h
    exact .cons (dp_of le r h.1) (dps_of le t h.2)
end
theorem br_eq : BinR K ca (rEqD K) dEq := fun G H x y d1 d2 d Q le r1 r2 e k => by
  unfold dEq at e
  split at e
  · rename_i h
    rw [Bool.and_eq_true] at h
    cases e
    exact ⟨_, _, dp_of le r1 (SeqAt.canLay_of_shaped h.1), dp_of le r2 (SeqAt.canLay_of_shaped h.2), h.1, h.2, k _ H G (Gr.refl le) (.bl _)⟩
  · cases e
theorem br_ne : BinR K ca (rNeD K) dNe := fun G H x y d1 d2 d Q le r1 r2 e k => by
  unfold dNe at e
  split at e
  · rename_i h
    rw [Bool.and_eq_true] at h
    cases e
    exact ⟨_, _, dp_of le r1 (SeqAt.canLay_of_shaped h.1), dp_of le r2 (SeqAt.canLay_of_shaped h.2), h.1, h.2, k _ H G (Gr.refl le) (.bl _)⟩
  · cases e
theorem br_ints {p : Int → Int → V} {q : Int → Int → D} {g : D → D → Option D} (hg : ∀ d1 d2 d, g d1 d2 = some d → ∃ i j, d1 = .int i ∧ d2 = .int j ∧ d = q i j) (hp : ∀ i j G, Rep K ca G (p i j) (q i j)) : BinR K ca (rI0 p) g :=
  fun G H x y d1 d2 d Q le r1 r2 e k => by
    obtain ⟨i, j, rfl, rfl, rfl⟩ := hg _ _ _ e
    exact ⟨i, j, r1.intI, r2.intI, k _ H G (Gr.refl le) (hp i j G)⟩
theorem br_lt : BinR K ca (rI0 fun i j => .bl (decide (i < j))) dLt := br_ints (q := fun i j => .bl (decide (i < j))) (fun d1 d2 d e => by cases d1 <;> cases d2 <;> cases e; exact ⟨_, _, rfl, rfl, rfl⟩) fun _ _ _ => .bl _
theorem br_le : BinR K ca (rI0 fun i j => .bl (decide (i ≤ j))) dLe := br_ints (q := fun i j => .bl (decide (i ≤ j))) (fun d1 d2 d e => by cases d1 <;> cases d2 <;> cases e; exact ⟨_, _, rfl, rfl, rfl⟩) fun _ _ _ => .bl _
theorem br_gt : BinR K ca (rI0 fun i j => .bl (decide (j < i))) dGt := br_ints (q := fun i j => .bl (decide (j < i))) (fun d1 d2 d e => by cases d1 <;> cases d2 <;> cases e; exact ⟨_, _, rfl, rfl, rfl⟩) fun _ _ _ => .bl _
theorem br_ge : BinR K ca (rI0 fun i j => .bl (decide (j ≤ i))) dGe := br_ints (q := fun i j => .bl (decide (j ≤ i))) (fun d1 d2 d e => by cases d1 <;> cases d2 <;> cases e; exact ⟨_, _, rfl, rfl, rfl⟩) fun _ _ _ => .bl _
theorem br_sub : BinR K ca (rI0 fun i j => .int (i - j)) dSub := br_ints (q := fun i j => .int (i - j)) (fun d1 d2 d e => by cases d1 <;> cases d2 <;> cases e; exact ⟨_, _, rfl, rfl, rfl⟩) fun _ _ _ => .int _
theorem isNon_dec {G : Hp} {v : V} {d : D} (r : Rep K ca G v d) : decide (v = .non) = isNon d := by cases r <;> rfl
def dIsN' : D → D → Option D | x, .non => some (.bl (isNon x)) | _, _ => none
def dIsNot' : D → D → Option D | x, .non => some (.bl (!isNon x)) | _, _ => none
theorem br_isN : BinR K ca (fun x y H Q => y = .non ∧ Q (.bl (decide (x = .non))) H) dIsN' := fun G H x y d1 d2 d Q le r1 r2 e k => by
  cases d2 <;> cases e
  exact ⟨r2.nonI, by rw [isNon_dec r1]; exact k _ H G (Gr.refl le) (.bl _)⟩
theorem br_isNot : BinR K ca (fun x y H Q => y = .non ∧ Q (.bl (!decide (x = .non))) H) dIsNot' := fun G H x y d1 d2 d Q le r1 r2 e k => by
  cases d2 <;> cases e
  exact ⟨r2.nonI, by rw [isNon_dec r1]; exact k _ H G (Gr.refl le) (.bl _)⟩
theorem items_rep {G H : Hp} {v : V} {d : D} {ds : List D} (le : Le G H) (r : Rep K ca G v d) (e : itemsOf d = some ds) : ∃ a vs, v = .ref a ∧ (SqL K H a vs ∨ SqT K H a vs) ∧ Reps K ca G vs ds := by
  cases d with
  | tup es => cases e; obtain ⟨p, vs, rfl, hq, _, rv⟩ := r.tupI; exact ⟨p, vs, rfl, .inr (le.tup hq), rv⟩
  | lst es => cases e; obtain ⟨p, vs, rfl, hq, _, rv⟩ := r.lstI; exact ⟨p, vs, rfl, .inl (SqL.of (le.lst hq)), rv⟩
  | _ => cases e
theorem inD_inV (x : D) (ds : List D) : inV (toV x) (ds.map toV) = inD x ds := by unfold inV inD; rw [List.any_map]; rfl
theorem br_in : BinR K ca (rIn K false) dIn := fun G H x y d1 d2 d Q le r1 r2 e k => by
  unfold dIn at e
  cases e0 : itemsOf d2 with
  | none => rw [e0] at e; cases e
  | some ys =>
    rw [e0, Option.bind_some] at e
    split at e
    · rename_i h
      rw [Bool.and_eq_true] at h
      cases e
      obtain ⟨a, vs, rfl, hq, rv⟩ := items_rep le r2 e0
      obtain ⟨h1, h2⟩ := flat_rep r1 h.1
      obtain ⟨h3, h4⟩ := flat_reps rv h.2
      refine ⟨a, vs, rfl, hq, h2, h4, ?_⟩
      rw [h1, h3, inD_inV]
      exact k _ H G (Gr.refl le) (.bl _)
    · cases e
theorem br_notIn : BinR K ca (rIn K true) dNotIn := fun G H x y d1 d2 d Q le r1 r2 e k => by
  unfold dNotIn at e
  cases e0 : itemsOf d2 with
  | none => rw [e0] at e; cases e
  | some ys =>
    rw [e0, Option.bind_some] at e
    split at e
    · rename_i h
      rw [Bool.and_eq_true] at h
      cases e
      obtain ⟨a, vs, rfl, hq, rv⟩ := items_rep le r2 e0
      obtain ⟨h1, h2⟩ := flat_rep r1 h.1
      obtain ⟨h3, h4⟩ := flat_reps rv h.2
      refine ⟨a, vs, rfl, hq, h2, h4, ?_⟩
      rw [h1, h3, inD_inV]
      exact k _ H G (Gr.refl le) (.bl _)
    · cases e
def rAddS : R2 := fun x y H Q => ∃ i j, x = .str i ∧ y = .str j ∧ i.length + j.length ≤ sizeLine ∧ Q (.str (i ++ j)) H
def rAddD (K : PySem.W.Frag) : R2 := fun x y H Q => ((rI0 fun i j => .int (i + j)) x y H Q ∨ rAddS x y H Q) ∨ (rCat x y H Q ∨ rCatA K x y H Q)
theorem br_add : BinR K ca (rAddD K) dAdd := fun G H x y d1 d2 d Q le r1 r2 e k => by
  cases d1 with
  | int i => cases d2 <;> cases e; exact .inl (.inl ⟨i, _, r1.intI, r2.intI, k _ H G (Gr.refl le) (.int _)⟩)
  | str a =>
    cases d2 with
    | str b =>
      have e1 : (if a.length + b.length ≤ LIM then some (D.str (a ++ b)) else none) = some d := e
      by_cases hl : a.length + b.length ≤ LIM
      · rw [if_pos hl] at e1; cases e1; exact .inl (.inr ⟨a, b, r1.strI, r2.strI, lim_line hl, k _ H G (Gr.refl le) (.str _)⟩)
      · rw [if_neg hl] at e1; cases e1
    | _ => cases e
  | lst a =>
    cases d2 with
    | lst b =>
      have e1 : (if a.length + b.length ≤ LIM then some (D.lst (a ++ b)) else none) = some d := e
      by_cases hl : a.length + b.length ≤ LIM
      · rw [if_pos hl] at e1
        cases e1
        obtain ⟨p, vs, rfl, hq, _, rv⟩ := r1.lstI
        obtain ⟨q, ws, rfl, hw, _, rw_⟩ := r2.lstI
        refine .inr (.inl ⟨p, q, vs, ws, rfl, rfl, le.lst hq, le.lst hw, lim_line (by rw [rv.length, rw_.length]; exact hl), fun n hn => ?_⟩)
        have g := Gr.new (o := .lst (vs ++ ws)) le hn
        exact k _ _ _ g (.lst upd_same (by rw [List.length_append]; exact hl) ((rv.app rw_).mono g.g))
      · rw [if_neg hl] at e1; cases e1
    | _ => cases e
  | tup a =>
    cases d2 with
    | tup b =>
      have e1 : (if a.length + b.length ≤ LIM then some (D.tup (a ++ b)) else none) = some d := e
      by_cases hl : a.length + b.length ≤ LIM
      · rw [if_pos hl] at e1
        cases e1
        obtain ⟨p, vs, rfl, hq, l1, rv⟩ := r1.tupI
        obtain ⟨q, ws, rfl, hw, l2, rw_⟩ := r2.tupI
        refine .inr (.inr ⟨p, q, vs, ws, rfl, rfl, le.tup hq, le.tup hw, lim_line (by rw [rv.length, rw_.length]; exact hl), fun e => ?_, fun _ e => ?_, fun _ _ n hn => ?_⟩)
        · subst e
          cases rv
          exact k _ H G (Gr.refl le) (.tup hw l2 rw_)
        · subst e
          cases rw_
          exact k _ H G (Gr.refl le) (by rw [List.append_nil]; exact .tup hq l1 rv)
        · have g := Gr.new (o := .tup (vs ++ ws)) le hn
          exact k _ _ _ g (.tup (SqT.of upd_same) (by rw [List.length_append]; exact hl) ((rv.app rw_).mono g.g))
      · rw [if_neg hl] at e1; cases e1
    | _ => cases e
  | _ => cases d2 <;> cases e
theorem op_addD {X : Cx} : OpR X (binaryOp .Add) (rAddD X.K) := (op_add.or op_add_str).or (op_cat.or op_catA)
end
section
variable {X : Cx} {ca : Nat → Addr} {a b c e : Expr} {es : List Expr} {pos : Pos} {f f1 f2 f3 : Rho → Option D}
theorem d_add (ha : PE X a (tD X.K ca f1)) (hb : PE X b (tD X.K ca f2)) : PE X (.BinOp a .Add b pos) (tD X.K ca (x_bin dAdd f1 f2)) := d_bin op_addD br_add ha hb
theorem d_sub (ha : PE X a (tD X.K ca f1)) (hb : PE X b (tD X.K ca f2)) : PE X (.BinOp a .Sub b pos) (tD X.K ca (x_bin dSub f1 f2)) := d_bin op_sub br_sub ha hb
theorem d_eq (hu : X.A.units + 64 < cLine) (ha : PE X a (tD X.K ca f1)) (hb : PE X b (tD X.K ca f2)) : PE X (.Compare a [.Eq] [b] pos) (tD X.K ca (x_bin dEq f1 f2)) := d_cmp (op_eqD hu) br_eq ha hb (nomark _)
theorem d_eqT (hu : X.A.units + 64 < cLine) (ha : PE X a (tD X.K ca f1)) (hb : PE X b (tD X.K ca f2)) : PT X (.Compare a [.Eq] [b] pos) (tDT X.K ca (t_val (x_bin dEq f1 f2))) := d_cmpT (op_eqD hu) br_eq ha hb (nomark _)
theorem d_ne (hu : X.A.units + 64 < cLine) (ha : PE X a (tD X.K ca f1)) (hb : PE X b (tD X.K ca f2)) : PE X (.Compare a [.NotEq] [b] pos) (tD X.K ca (x_bin dNe f1 f2)) := d_cmp (op_neD hu) br_ne ha hb (nomark _)
theorem d_neT (hu : X.A.units + 64 < cLine) (ha : PE X a (tD X.K ca f1)) (hb : PE X b (tD X.K ca f2)) : PT X (.Compare a [.NotEq] [b] pos) (tDT X.K ca (t_val (x_bin dNe f1 f2))) := d_cmpT (op_neD hu) br_ne ha hb (nomark _)
theorem d_lt (ha : PE X a (tD X.K ca f1)) (hb : PE X b (tD X.K ca f2)) : PE X (.Compare a [.Lt] [b] pos) (tD X.K ca (x_bin dLt f1 f2)) := d_cmp op_lt br_lt ha hb (nomark _)
theorem d_ltT (ha : PE X a (tD X.K ca f1)) (hb : PE X b (tD X.K ca f2)) : PT X (.Compare a [.Lt] [b] pos) (tDT X.K ca (t_val (x_bin dLt f1 f2))) := d_cmpT op_lt br_lt ha hb (nomark _)
theorem d_le (ha : PE X a (tD X.K ca f1)) (hb : PE X b (tD X.K ca f2)) : PE X (.Compare a [.LtE] [b] pos) (tD X.K ca (x_bin dLe f1 f2)) := d_cmp op_le br_le ha hb (nomark _)
theorem d_leT (ha : PE X a (tD X.K ca f1)) (hb : PE X b (tD X.K ca f2)) : PT X (.Compare a [.LtE] [b] pos) (tDT X.K ca (t_val (x_bin dLe f1 f2))) := d_cmpT op_le br_le ha hb (nomark _)
theorem d_gt (ha : PE X a (tD X.K ca f1)) (hb : PE X b (tD X.K ca f2)) : PE X (.Compare a [.Gt] [b] pos) (tD X.K ca (x_bin dGt f1 f2)) := d_cmp op_gt br_gt ha hb (nomark _)
theorem d_gtT (ha : PE X a (tD X.K ca f1)) (hb : PE X b (tD X.K ca f2)) : PT X (.Compare a [.Gt] [b] pos) (tDT X.K ca (t_val (x_bin dGt f1 f2))) := d_cmpT op_gt br_gt ha hb (nomark _)
theorem d_ge (ha : PE X a (tD X.K ca f1)) (hb : PE X b (tD X.K ca f2)) : PE X (.Compare a [.GtE] [b] pos) (tD X.K ca (x_bin dGe f1 f2)) := d_cmp op_ge br_ge ha hb (nomark _)
theorem d_geT (ha : PE X a (tD X.K ca f1)) (hb : PE X b (tD X.K ca f2)) : PT X (.Compare a [.GtE] [b] pos) (tDT X.K ca (t_val (x_bin dGe f1 f2))) := d_cmpT op_ge br_ge ha hb (nomark _)
theorem d_isN (ha : PE X a (tD X.K ca f1)) (hb : PE X b (tD X.K ca f2)) : PE X (.Compare a [.Is] [b] pos) (tD X.K ca (x_bin dIsN' f1 f2)) := d_cmp op_isN br_isN ha hb (nomark _)
theorem d_isNT (ha : PE X a (tD X.K ca f1)) (hb : PE X b (tD X.K ca f2)) : PT X (.Compare a [.Is] [b] pos) (tDT X.K ca (t_val (x_bin dIsN' f1 f2))) := d_cmpT op_isN br_isN ha hb (nomark _)
theorem d_isNot (ha : PE X a (tD X.K ca f1)) (hb : PE X b (tD X.K ca f2)) : PE X (.Compare a [.IsNot] [b] pos) (tD X.K ca (x_bin dIsNot' f1 f2)) := d_cmp op_notN br_isNot ha hb (nomark _)
theorem d_isNotT (ha : PE X a (tD X.K ca f1)) (hb : PE X b (tD X.K ca f2)) : PT X (.Compare a [.IsNot] [b] pos) (tDT X.K ca (t_val (x_bin dIsNot' f1 f2))) := d_cmpT op_notN br_isNot ha hb (nomark _)
theorem d_in (ha : PE X a (tD X.K ca f1)) (hb : PE X b (tD X.K ca f2)) (hm : behindInMarks .In b = false := by rfl) : PE X (.Compare a [.In] [b] pos) (tD X.K ca (x_bin dIn f1 f2)) := d_cmp op_in_seq br_in ha hb hm
theorem d_inT (ha : PE X a (tD X.K ca f1)) (hb : PE X b (tD X.K ca f2)) (hm : behindInMarks .In b = false := by rfl) : PT X (.Compare a [.In] [b] pos) (tDT X.K ca (t_val (x_bin dIn f1 f2))) := d_cmpT op_in_seq br_in ha hb hm
theorem d_notIn (ha : PE X a (tD X.K ca f1)) (hb : PE X b (tD X.K ca f2)) (hm : behindInMarks .NotIn b = false := by rfl) : PE X (.Compare a [.NotIn] [b] pos) (tD X.K ca (x_bin dNotIn f1 f2)) := d_cmp op_notIn_seq br_notIn ha hb hm
theorem d_notInT (ha : PE X a (tD X.K ca f1)) (hb : PE X b (tD X.K ca f2)) (hm : behindInMarks .NotIn b = false := by rfl) : PT X (.Compare a [.NotIn] [b] pos) (tDT X.K ca (t_val (x_bin dNotIn f1 f2))) := d_cmpT op_notIn_seq br_notIn ha hb hm
end
end DL
/-! Layer D: subscripts, built-ins, calls. -/
namespace DL
open PySem L2
/-! ### sorting texts, numbers -/
def leS (x y : Str) : Bool := !(PySem.Spec.ltCps y.cps.toList x.cps.toList)
def insS (x : Str) : List Str → List Str
  | [] => [x]
  | y :: r => if leS x y = true then x :: y :: r else y :: insS x r
def sortS : List Str → List Str
  | [] => []
  | x :: r => insS x (sortS r)
def insI (x : Int) : List Int → List Int
  | [] => [x]
  | y :: r => if x ≤ y then x :: y :: r else y :: insI x r
def sortI : List Int → List Int
  | [] => []
  | x :: r => insI x (sortI r)
def strsOf : List D → Option (List Str)
  | [] => some []
  | .str x :: r => (strsOf r).bind fun xs => some (x :: xs)
  | _ :: _ => none
def intsOf : List D → Option (List Int)
  | [] => some []
  | .int x :: r => (intsOf r).bind fun xs => some (x :: xs)
  | _ :: _ => none
def blsOf : List D → Option (List Bool)
  | [] => some []
  | .bl x :: r => (blsOf r).bind fun xs => some (x :: xs)
  | _ :: _ => none
/-! ### the words -/
def dLook (k : Str) : List Str → List D → Option D
  | k' :: ks, d :: ds => if k' = k then some d else dLook k ks ds
  | _, _ => none
/-- a subscript: list, tuple, dict -/
def dSub1 : D → D → Option D
  | .tup ds, .int i => atI ds i
  | .lst ds, .int i => atI ds i
  | .dic ks ds, .str x => dLook x ks ds
  | _, _ => none
def cutD (ds : List D) (lo hi : Option Int) : List D := (ds.drop (HT.sIx ds.length 0 lo)).take (HT.sIx ds.length ds.length hi - HT.sIx ds.length 0 lo)
def dCut (lo hi : Option Int) : D → Option D
  | .tup ds => some (.tup (cutD ds lo hi))
  | .lst ds => some (.lst (cutD ds lo hi))
  | _ => none
def o_none : Rho → Option (Option Int) := fun _ => some none
def o_some (f : Rho → Option D) : Rho → Option (Option Int) := fun ρ => match f ρ with | some (.int i) => some (some i) | _ => none
def x_cut (f : Rho → Option D) (lo hi : Rho → Option (Option Int)) : Rho → Option D := fun ρ => (f ρ).bind fun x => (lo ρ).bind fun l => (hi ρ).bind fun h => dCut l h x
def dRev : D → Option D | .lst ds => some (.lst ds.reverse) | _ => none
def dLen1 : D → Option D
  | .tup ds => some (.int ds.length)
  | .lst ds => some (.int ds.length)
  | .str x => if x.length ≤ LIM then some (.int x.length) else none
  | _ => none
def b_len : List D → Option D | [x] => dLen1 x | _ => none
def b_tuple : List D → Option D | [.tup ds] => some (.tup ds) | [.lst ds] => some (.tup ds) | _ => none
def b_list : List D → Option D | [.tup ds] => some (.lst ds) | [.lst ds] => some (.lst ds) | _ => none
def b_all : List D → Option D | [.lst ds] => (blsOf ds).bind fun bs => some (.bl (bs.all id)) | _ => none
def b_any : List D → Option D | [.lst ds] => (blsOf ds).bind fun bs => some (.bl (bs.any id)) | _ => none
def b_min : List D → Option D | [.int i, .int j] => some (.int (if j < i then j else i)) | _ => none
def b_int : List D → Option D | [.int i] => some (.int i) | [.bl k] => some (.int (if k then 1 else 0)) | _ => none
def b_str : List D → Option D | [.str x] => some (.str x) | [.int i] => if i.natAbs.log2 < 1920 then some (.str (toString i)) else none | _ => none
def b_sorted : List D → Option D
  | [.lst ds] => match strsOf ds with
    | some xs => if xs.length < 64 then some (.lst ((sortS xs).map .str)) else none
    | none => (intsOf ds).bind fun ns => if ns.length < 64 then some (.lst ((sortI ns).map .int)) else none
  | _ => none
def dProp (c : Nat) (F : List D → Option D) : D → Option D
  | .obj c' ds => if c' = c then F [.obj c' ds] else none
  | _ => none
def dFld (c i : Nat) : D → Option D
  | .obj c' ds => if c' = c then ds[i]? else none
  | _ => none
def x_meth (c : Nat) (F : List D → Option D) (f : Rho → Option D) (r : Rho → Option (List D)) : Rho → Option D := fun ρ => (f ρ).bind fun x => match x with
  | .obj c' ds => if c' = c then (r ρ).bind fun xs => F (.obj c' ds :: xs) else none
  | _ => none
section
variable {X : Cx} {ca : Nat → Addr} {a b c e : Expr} {es : List Expr} {pos : Pos} {f f1 f2 f3 : Rho → Option D} {r : Rho → Option (List D)} {s t : Rho → Option Bool}
theorem PE.or {t t' : TE} (h : PE X e t) (h' : PE X e t') : PE X e (fun σ H Q => t σ H Q ∨ t' σ H Q) := ⟨fun pins s σ H Q I w => w.elim (h.run pins s σ H Q I) (h'.run pins s σ H Q I)⟩
theorem Reps.atI {G : Hp} {vs : List V} {ds : List D} {i : Int} {d : D} (r : Reps X.K ca G vs ds) (h : L2.atI ds i = some d) : ∃ v, L2.atI vs i = some v ∧ Rep X.K ca G v d := by
  unfold L2.atI at h ⊢
  rw [r.length]
  cases q : ixN ds.length i with
  | none => rw [q] at h; cases h
  | some j =>
    rw [q] at h
    obtain ⟨v, h1, h2⟩ := r.get (i := j) (d := d) h
    exact ⟨v, h1, h2⟩
theorem look_rep {G : Hp} {k : Str} {d : D} : ∀ {ks : List Str} {vs : List V} {ds : List D}, ks.length = ds.length → Reps X.K ca G vs ds → dLook k ks ds = some d → ∃ v, valV (zipK ks vs) (Sum.inr k) = some v ∧ Rep X.K ca G v d
  | [], _, [], _, .nil, h => by cases h
  | k' :: ks, v :: vs, d' :: ds, l, .cons r t, h => by
    have h' : (if k' = k then some d' else dLook k ks ds) = some d := h
    by_cases q : k' = k
    · rw [if_pos q] at h'
      cases h'
      exact ⟨v, by show valV ((Sum.inr k', v) :: zipK ks vs) (Sum.inr k) = some v; rw [valV_pos (by rw [q])], r⟩
    · rw [if_neg q] at h'
      obtain ⟨w, h1, h2⟩ := look_rep (ks := ks) (vs := vs) (ds := ds) (by simpa using l) t h'
      exact ⟨w, by show valV ((Sum.inr k', v) :: zipK ks vs) (Sum.inr k) = some w; rw [valV_neg (by intro z; exact q (Sum.inr.inj z))]; exact h1, h2⟩
  | _ :: _, _, [], l, .nil, _ => by cases l
  | [], _, _ :: _, l, _, _ => by cases l
def rIxA (K : PySem.W.Frag) : R2 := fun x y H Q => rIxL K x y H Q ∨ rIxT K x y H Q
theorem d_ix (hu : X.A.units + 1 < cLine) (ha : PE X a (tD X.K ca f1)) (hb : PE X b (tD X.K ca f2)) (hs : PlainIx b := by exact fun _ _ => rfl) : PE X (.Subscript a b pos) (tD X.K ca (x_bin dSub1 f1 f2)) :=
  PE.imp (PE.or (pe_ix (ix_list.or ix_tup) ha hb hs) (pe_dget hu ha hb hs)) fun σ H Q ⟨G, ρ, d, S, e, k⟩ => by
    unfold x_bin at e
    cases e1 : f1 ρ with
    | none => rw [e1] at e; cases e
    | some x =>
      rw [e1, Option.bind_some] at e
      cases e2 : f2 ρ with
      | none => rw [e2] at e; cases e
      | some y =>
        rw [e2, Option.bind_some] at e
        have two : ∀ {R : V → V → Hp → Prop}, (∀ v u H2 G2, Gr G H G2 H2 → Rep X.K ca G2 v x → Rep X.K ca G2 u y → R v u H2) → tD X.K ca f1 σ H fun v H1 => tD X.K ca f2 σ H1 fun u H2 => R v u H2 := fun hR =>
          ⟨G, ρ, x, S, e1, fun v H1 G1 g1 r1 => ⟨G1, ρ, y, S.gr g1, e2, fun u H2 G2 g2 r2 => hR v u H2 G2 (g1.trans g2) (r1.mono g2.g) r2⟩⟩
        cases x with
        | tup ds =>
          cases y <;> first
            | (cases e; done)
            | (refine .inl (two fun v u H2 G2 g r1 r2 => ?_)
               obtain ⟨p, vs, rfl, hq, _, rv⟩ := r1.tupI
               obtain ⟨w, h1, h2⟩ := rv.atI e
               exact .inr ⟨p, vs, _, w, rfl, r2.intI, g.le.tup hq, h1, k w H2 G2 g h2⟩)
        | lst ds =>
          cases y <;> first
            | (cases e; done)
            | (refine .inl (two fun v u H2 G2 g r1 r2 => ?_)
               obtain ⟨p, vs, rfl, hq, _, rv⟩ := r1.lstI
               obtain ⟨w, h1, h2⟩ := rv.atI e
               exact .inl ⟨p, vs, _, w, rfl, r2.intI, SqL.of (g.le.lst hq), h1, k w H2 G2 g h2⟩)
        | dic ks ds =>
          cases y <;> first
            | (cases e; done)
            | (refine .inr (two fun v u H2 G2 g r1 r2 => ?_)
               obtain ⟨p, vs, rfl, hq, hl, _, _, rv⟩ := r1.dicI
               obtain ⟨w, h1, h2⟩ := look_rep hl rv e
               exact ⟨p, w, rfl, .inl ⟨_, Sum.inr _, g.le.rdK hq, r2.strI, h1.symm⟩, k w H2 G2 g h2⟩)
        | _ => cases y <;> cases e
/-! ### slices -/
theorem Reps.cut {G : Hp} {vs : List V} {ds : List D} (r : Reps X.K ca G vs ds) (lo hi : Option Int) : Reps X.K ca G (cutV vs lo hi) (cutD ds lo hi) := by
  unfold cutV cutD
  rw [r.length]
  exact (r.drop _).take _
theorem cutD_len (ds : List D) (lo hi : Option Int) : (cutD ds lo hi).length ≤ ds.length := by
  unfold cutD
  rw [List.length_take, List.length_drop]
  omega
theorem cutD_all {ds : List D} {lo hi : Option Int} (h : HT.sIx ds.length 0 lo = 0 ∧ HT.sIx ds.length ds.length hi = ds.length) : cutD ds lo hi = ds := by
  unfold cutD
  rw [h.1, h.2]
  simp
def tDO (K : PySem.W.Frag) (ca : Nat → Addr) (f : Rho → Option (Option Int)) : TO := fun σ H Q => ∃ G ρ o, Sg K ca G H σ ρ ∧ f ρ = some o ∧ ∀ H' G', Gr G H G' H' → Q o H'
theorem PO.imp {o : Option Expr} {t t' : TO} (h : PO X o t) (k : ∀ σ H Q, t' σ H Q → t σ H Q) : PO X o t' := ⟨fun pins s σ H Q I w => h.run pins s σ H Q I (k σ H Q w)⟩
theorem do_none : PO X none (tDO X.K ca o_none) := PO.imp po_none fun σ H Q ⟨G, ρ, o, S, e, k⟩ => by
  cases e
  exact k H G (Gr.refl S.le)
theorem do_some (h : PE X e (tD X.K ca f)) : PO X (some e) (tDO X.K ca (o_some f)) := PO.imp (po_some h) fun σ H Q ⟨G, ρ, o, S, e, k⟩ => by
  unfold o_some at e
  split at e
  · rename_i i e1
    cases e
    exact ⟨G, ρ, .int i, S, e1, fun v H' G' g r => ⟨i, r.intI, k H' G' g⟩⟩
  · cases e
theorem d_cut {lo hi : Option Expr} {p2 : Pos} {l h : Rho → Option (Option Int)} (he : PE X e (tD X.K ca f)) (hl : PO X lo (tDO X.K ca l)) (hh : PO X hi (tDO X.K ca h)) : PE X (.Subscript e (.Slice lo hi none p2) pos) (tD X.K ca (x_cut f l h)) :=
  PE.imp (pe_slice (sl_list.or sl_tupA) he hl hh) fun σ H Q ⟨G, ρ, d, S, e, k⟩ => by
    unfold x_cut at e
    cases e1 : f ρ with
    | none => rw [e1] at e; cases e
    | some x =>
    cases e2 : l ρ with
    | none => rw [e1, Option.bind_some, e2] at e; cases e
    | some o1 =>
    cases e3 : h ρ with
    | none => rw [e1, Option.bind_some, e2, Option.bind_some, e3] at e; cases e
    | some o2 =>
    rw [e1, Option.bind_some, e2, Option.bind_some, e3, Option.bind_some] at e
    refine ⟨G, ρ, x, S, e1, fun v H1 G1 g1 r1 => ⟨G1, ρ, o1, S.gr g1, e2, fun H2 G2 g2 => ⟨G2, ρ, o2, S.gr (g1.trans g2), e3, fun H3 G3 g3 => ?_⟩⟩⟩
    have r3 := r1.mono (g2.trans g3).g
    have g := (g1.trans g2).trans g3
    cases x with
    | lst ds =>
      cases e
      obtain ⟨p, vs, rfl, hq, hl, rv⟩ := r3.lstI
      refine .inl ⟨p, vs, rfl, SqL.of (g3.le.lst hq), fun q hq' => ?_⟩
      have g4 := Gr.new (o := .lst (cutV vs o1 o2)) g3.le hq'
      exact k _ _ _ (g.trans g4) (.lst upd_same (Nat.le_trans (cutD_len _ _ _) hl) ((rv.cut o1 o2).mono g4.g))
    | tup ds =>
      cases e
      obtain ⟨p, vs, rfl, hq, hl, rv⟩ := r3.tupI
      have el := rv.length
      refine .inr ⟨p, vs, rfl, g3.le.tup hq, fun z => ?_, fun z q hq' => ?_⟩
      · rw [el] at z
        exact k _ _ _ g (by rw [cutD_all z]; exact .tup hq hl rv)
      · have g4 := Gr.new (o := .tup (cutV vs o1 o2)) g3.le hq'
        exact k _ _ _ (g.trans g4) (.tup (SqT.of upd_same) (Nat.le_trans (cutD_len _ _ _) hl) ((rv.cut o1 o2).mono g4.g))
    | _ => cases e
/-! ### built-ins by values -/
def CalR (K : PySem.W.Frag) (ca : Nat → Addr) (rr : List V → Hp → VK → Prop) (g : List D → Option D) : Prop :=
  ∀ G H vs ds d (Q : VK), Le G H → Reps K ca G vs ds → g ds = some d → (∀ v H' G', Gr G H G' H' → Rep K ca G' v d → Q v H') → rr vs H Q
theorem call1 {rr : List V → Hp → VK → Prop} {g : List D → Option D} (hr : CalR X.K ca rr g) : ∀ σ H Q, tD X.K ca (x_call g r) σ H Q → tCB rr (tDA X.K ca r) σ H Q := fun σ H Q ⟨G, ρ, d, S, e, k⟩ => by
  unfold x_call at e
  cases e1 : r ρ with
  | none => rw [e1] at e; cases e
  | some ds =>
    rw [e1, Option.bind_some] at e
    exact ⟨G, ρ, ds, S, e1, fun vs H1 G1 g1 r1 => hr G1 H1 vs ds d Q g1.le r1 e fun v H' G' g2 r2 => k v H' G' (g1.trans g2) r2⟩
theorem d_callB {x : Str} {p : Pos} {id : String} {rr : List V → Hp → VK → Prop} {g : List D → Option D} (hc : CallR X (.builtin id) rr) (hr : CalR X.K ca rr g) (hg : Gl X x) (hm : X.mg x = none) (hv : bootBuiltins x = some (.builtin id)) (ha : PA X (e :: es) (tDA X.K ca r))
    (hn : x ≠ "__name__" := by decide) (hdb : (x == ("__debug__" : Str)) = false := by decide)
    (he : starEach (e :: es) X.env = (false, eval e X.env) :: starEach es X.env := by rfl) (hpl : (backTo pos (starEach es X.env)).any (·.1) = false := by rfl) : PE X (.Call (.Name x p) (e :: es) [] pos) (tD X.K ca (x_call g r)) :=
  PE.imp (pe_callB hc hg hm hv ha hn hdb he hpl) (call1 hr)
theorem d_callTy {x : Str} {p : Pos} {T : String} {rr : List V → Hp → VK → Prop} {g : List D → Option D} (hc : CallR X (.type T) rr) (hr : CalR X.K ca rr g) (hg : Gl X x) (hm : X.mg x = none) (hv : bootBuiltins x = some (.type T)) (ha : PA X (e :: es) (tDA X.K ca r))
    (hn : x ≠ "__name__" := by decide) (hdb : (x == ("__debug__" : Str)) = false := by decide)
    (he : starEach (e :: es) X.env = (false, eval e X.env) :: starEach es X.env := by rfl) (hpl : (backTo pos (starEach es X.env)).any (·.1) = false := by rfl) : PE X (.Call (.Name x p) (e :: es) [] pos) (tD X.K ca (x_call g r)) :=
  PE.imp (pe_callTy hc hg hm hv ha hn hdb he hpl) (call1 hr)
end
end DL
namespace DL
open PySem L2
theorem leS_iff (x y : Str) : leS x y = true ↔ x.cps.toList ≤ y.cps.toList := by
  unfold leS
  rw [PyProof.Rows.ltCps_eq]
  simp [List.not_lt]
theorem str_ext {x y : Str} (h : x.cps.toList = y.cps.toList) : x = y := by
  obtain ⟨a⟩ := x
  obtain ⟨b⟩ := y
  have e : a = b := by cases a; cases b; simpa using h
  rw [e]
theorem leS_anti {x y : Str} (h : leS x y = true) (k : leS y x = true) : x = y := str_ext (List.le_antisymm ((leS_iff _ _).mp h) ((leS_iff _ _).mp k))
theorem leS_trans {x y z : Str} (h : leS x y = true) (k : leS y z = true) : leS x z = true := (leS_iff _ _).mpr (List.le_trans ((leS_iff _ _).mp h) ((leS_iff _ _).mp k))
theorem leS_total (x y : Str) : leS x y = true ∨ leS y x = true := by
  rw [leS_iff, leS_iff]
  exact List.le_total _ _
theorem leS_refl (x : Str) : leS x x = true := (leS_total x x).elim id id
section
variable {α : Type} {le : α → α → Prop}
theorem sorted_one (anti : ∀ a b, le a b → le b a → a = b) : ∀ {l m : List α}, l.Perm m → l.Pairwise le → m.Pairwise le → l = m
  | [], m, p, _, _ => by rw [p.symm.eq_nil]
  | a :: l, [], p, _, _ => by cases p.eq_nil
  | a :: l, b :: m, p, h1, h2 => by
    have e : a = b := by
      rcases List.mem_cons.mp (p.mem_iff.mp List.mem_cons_self) with e | ha
      · exact e
      · rcases List.mem_cons.mp (p.mem_iff.mpr (List.mem_cons_self (a := b) (l := m))) with e | hb
        · exact e.symm
        · exact anti a b ((List.pairwise_cons.mp h1).1 b hb) ((List.pairwise_cons.mp h2).1 a ha)
    subst e
    rw [sorted_one anti (List.Perm.cons_inv p) (List.pairwise_cons.mp h1).2 (List.pairwise_cons.mp h2).2]
end
theorem insS_perm (x : Str) : ∀ l, (insS x l).Perm (x :: l)
  | [] => .refl _
  | y :: r => by
    unfold insS
    split
    · exact .refl _
    · exact ((insS_perm x r).cons y).trans (List.Perm.swap x y r)
theorem sortS_perm : ∀ l, (sortS l).Perm l
  | [] => .refl _
  | x :: r => by unfold sortS; exact (insS_perm x _).trans ((sortS_perm r).cons x)
theorem insS_sorted (x : Str) : ∀ l, l.Pairwise (fun a b => leS a b = true) → (insS x l).Pairwise (fun a b => leS a b = true)
  | [], _ => by simp [insS]
  | y :: r, h => by
    unfold insS
    obtain ⟨h1, h2⟩ := List.pairwise_cons.mp h
    split
    · rename_i q
      refine List.pairwise_cons.mpr ⟨fun z hz => ?_, h⟩
      rcases List.mem_cons.mp hz with rfl | hz
      · exact q
      · exact leS_trans q (h1 z hz)
    · rename_i q
      refine List.pairwise_cons.mpr ⟨fun z hz => ?_, insS_sorted x r h2⟩
      rcases List.mem_cons.mp ((insS_perm x r).mem_iff.mp hz) with rfl | hz
      · exact (leS_total _ y).resolve_left q
      · exact h1 z hz
theorem sortS_sorted : ∀ l, (sortS l).Pairwise (fun a b => leS a b = true)
  | [] => .nil
  | x :: r => by unfold sortS; exact insS_sorted x _ (sortS_sorted r)
theorem risingS_pw : ∀ (p : Str) (l : List Str), PyProof.Rows.risingS p l = true → (p :: l).Pairwise (fun a b => leS a b = true)
  | p, [], _ => by simp
  | p, x :: r, h => by
    unfold PyProof.Rows.risingS at h
    rw [Bool.and_eq_true] at h
    have ih := risingS_pw x r h.2
    have hx : leS p x = true := h.1
    refine List.pairwise_cons.mpr ⟨fun z hz => ?_, ih⟩
    rcases List.mem_cons.mp hz with rfl | hz
    · exact hx
    · exact leS_trans hx ((List.pairwise_cons.mp ih).1 z hz)
theorem sortedS_pw {l : List Str} (h : PyProof.Rows.sortedS l = true) : l.Pairwise (fun a b => leS a b = true) := by
  cases l with
  | nil => exact .nil
  | cons x r => exact risingS_pw x r h
theorem sortS_one {ys xs : List Str} (p : ys.Perm xs) (h : PyProof.Rows.sortedS ys = true) : ys = sortS xs :=
  sorted_one (fun _ _ => leS_anti) (p.trans (sortS_perm xs).symm) (sortedS_pw h) (sortS_sorted xs)
theorem sortS_uniq {ys xs : List Str} (p : ys.Perm xs) (h : ys.Pairwise (fun a b => leS a b = true)) : ys = sortS xs :=
  sorted_one (fun _ _ => leS_anti) (p.trans (sortS_perm xs).symm) h (sortS_sorted xs)
theorem insI_perm (x : Int) : ∀ l, (insI x l).Perm (x :: l)
  | [] => .refl _
  | y :: r => by
    unfold insI
    split
    · exact .refl _
    · exact ((insI_perm x r).cons y).trans (List.Perm.swap x y r)
theorem sortI_perm : ∀ l, (sortI l).Perm l
  | [] => .refl _
  | x :: r => by unfold sortI; exact (insI_perm x _).trans ((sortI_perm r).cons x)
theorem insI_sorted (x : Int) : ∀ l, l.Pairwise (· ≤ ·) → (insI x l).Pairwise (· ≤ ·)
  | [], _ => by simp [insI]
  | y :: r, h => by
    unfold insI
    obtain ⟨h1, h2⟩ := List.pairwise_cons.mp h
    split
    · rename_i q
      refine List.pairwise_cons.mpr ⟨fun z hz => ?_, h⟩
      rcases List.mem_cons.mp hz with rfl | hz
      · exact q
      · exact Int.le_trans q (h1 z hz)
    · rename_i q
      refine List.pairwise_cons.mpr ⟨fun z hz => ?_, insI_sorted x r h2⟩
      rcases List.mem_cons.mp ((insI_perm x r).mem_iff.mp hz) with rfl | hz
      · omega
      · exact h1 z hz
theorem sortI_sorted : ∀ l, (sortI l).Pairwise (· ≤ ·)
  | [] => .nil
  | x :: r => by unfold sortI; exact insI_sorted x _ (sortI_sorted r)
theorem sortI_one {ys xs : List Int} (p : ys.Perm xs) (h : ys.Pairwise (· ≤ ·)) : ys = sortI xs :=
  sorted_one (fun _ _ => Int.le_antisymm) (p.trans (sortI_perm xs).symm) h (sortI_sorted xs)
end DL
/-! Layer D: built-ins, calls of defs, classes. -/
namespace DL
open PySem L2
section
variable {X : Cx} {K : PySem.W.Frag} {ca : Nat → Addr}
theorem strs_rep {G : Hp} : ∀ {ds : List D} {vs : List V} {xs : List Str}, Reps K ca G vs ds → strsOf ds = some xs → vs = xs.map V.str ∧ ds = xs.map D.str
  | [], _, xs, .nil, h => by cases h; exact ⟨rfl, rfl⟩
  | d :: ds, _, xs, .cons r t, h => by
    cases d with
    | str x =>
      have h' : (strsOf ds).bind (fun xs => some (x :: xs)) = some xs := h
      cases q : strsOf ds with
      | none => rw [q] at h'; cases h'
      | some ys =>
        rw [q, Option.bind_some] at h'
        cases h'
        obtain ⟨a, b⟩ := strs_rep t q
        rw [a, r.strI, List.map_cons, List.map_cons, ← b]
        exact ⟨rfl, rfl⟩
    | _ => cases h
theorem ints_rep {G : Hp} : ∀ {ds : List D} {vs : List V} {xs : List Int}, Reps K ca G vs ds → intsOf ds = some xs → vs = xs.map V.int ∧ ds = xs.map D.int
  | [], _, xs, .nil, h => by cases h; exact ⟨rfl, rfl⟩
  | d :: ds, _, xs, .cons r t, h => by
    cases d with
    | int x =>
      have h' : (intsOf ds).bind (fun xs => some (x :: xs)) = some xs := h
      cases q : intsOf ds with
      | none => rw [q] at h'; cases h'
      | some ys =>
        rw [q, Option.bind_some] at h'
        cases h'
        obtain ⟨a, b⟩ := ints_rep t q
        rw [a, r.intI, List.map_cons, List.map_cons, ← b]
        exact ⟨rfl, rfl⟩
    | _ => cases h
theorem bls_rep {G : Hp} : ∀ {ds : List D} {vs : List V} {xs : List Bool}, Reps K ca G vs ds → blsOf ds = some xs → vs = xs.map V.bl
  | [], _, xs, .nil, h => by cases h; rfl
  | d :: ds, _, xs, .cons r t, h => by
    cases d with
    | bl x =>
      have h' : (blsOf ds).bind (fun xs => some (x :: xs)) = some xs := h
      cases q : blsOf ds with
      | none => rw [q] at h'; cases h'
      | some ys =>
        rw [q, Option.bind_some] at h'
        cases h'
        rw [bls_rep t q, r.blI, List.map_cons]
    | _ => cases h
theorem reps_strs (G : Hp) : ∀ xs : List Str, Reps K ca G (xs.map V.str) (xs.map D.str)
  | [] => .nil
  | x :: r => .cons (.str x) (reps_strs G r)
theorem reps_ints (G : Hp) : ∀ xs : List Int, Reps K ca G (xs.map V.int) (xs.map D.int)
  | [] => .nil
  | x :: r => .cons (.int x) (reps_ints G r)
theorem reps1 {G : Hp} {vs : List V} {d : D} (r : Reps K ca G vs [d]) : ∃ v, vs = [v] ∧ Rep K ca G v d := by
  cases r with
  | cons r t => cases t; exact ⟨_, rfl, r⟩
theorem reps2 {G : Hp} {vs : List V} {d e : D} (r : Reps K ca G vs [d, e]) : ∃ v w, vs = [v, w] ∧ Rep K ca G v d ∧ Rep K ca G w e := by
  cases r with
  | cons r t =>
    obtain ⟨w, rfl, r2⟩ := reps1 t
    exact ⟨_, w, rfl, r, r2⟩
def rLenA (K : PySem.W.Frag) : List V → Hp → VK → Prop := fun xs H Q => (∃ p ys, xs = [.ref p] ∧ (SqL K H p ys ∨ SqT K H p ys) ∧ Q (.int ys.length) H) ∨ ∃ z, xs = [.str z] ∧ z.length ≤ sizeLine ∧ Q (.int z.length) H
theorem cl_len : CallR X (.builtin "len") (rLenA X.K) := call_len_seq.or call_len_str
theorem cr_len : CalR K ca (rLenA K) b_len := fun G H vs ds d Q le rs e k => by
  match ds, e with
  | [x], e =>
    obtain ⟨v, rfl, r⟩ := reps1 rs
    cases x with
    | tup es =>
      cases e
      obtain ⟨p, vs, rfl, hq, _, rv⟩ := r.tupI
      exact .inl ⟨p, vs, rfl, .inr (le.tup hq), by rw [rv.length]; exact k _ H G (Gr.refl le) (.int _)⟩
    | lst es =>
      cases e
      obtain ⟨p, vs, rfl, hq, _, rv⟩ := r.lstI
      exact .inl ⟨p, vs, rfl, .inl (SqL.of (le.lst hq)), by rw [rv.length]; exact k _ H G (Gr.refl le) (.int _)⟩
    | str z =>
      have e' : (if z.length ≤ LIM then some (D.int z.length) else none) = some d := e
      by_cases hl : z.length ≤ LIM
      · rw [if_pos hl] at e'
        cases e'
        exact .inr ⟨z, by rw [r.strI], lim_line hl, k _ H G (Gr.refl le) (.int _)⟩
      · rw [if_neg hl] at e'; cases e'
    | _ => cases e
theorem cr_tuple : CalR K ca (fun xs H Q => ∃ p ys, xs = [.ref p] ∧ ((SqL K H p ys ∧ ∀ l, H l = none → Q (.ref l) (upd H l (.tup ys))) ∨ (SqT K H p ys ∧ Q (.ref p) H))) b_tuple := fun G H vs ds d Q le rs e k => by
  match ds, e with
  | [.tup es], e =>
    obtain ⟨v, rfl, r⟩ := reps1 rs
    cases e
    obtain ⟨p, vs, rfl, hq, hl, rv⟩ := r.tupI
    exact ⟨p, vs, rfl, .inr ⟨le.tup hq, k _ H G (Gr.refl le) (.tup hq hl rv)⟩⟩
  | [.lst es], e =>
    obtain ⟨v, rfl, r⟩ := reps1 rs
    cases e
    obtain ⟨p, vs, rfl, hq, hl, rv⟩ := r.lstI
    refine ⟨p, vs, rfl, .inl ⟨SqL.of (le.lst hq), fun q hq' => ?_⟩⟩
    have g := Gr.new (o := .tup vs) le hq'
    exact k _ _ _ g (.tup (SqT.of upd_same) hl (rv.mono g.g))
theorem cr_list : CalR K ca (fun xs H Q => ∃ p ys, xs = [.ref p] ∧ (SqL K H p ys ∨ SqT K H p ys) ∧ ∀ l, H l = none → Q (.ref l) (upd H l (.lst ys))) b_list := fun G H vs ds d Q le rs e k => by
  match ds, e with
  | [.tup es], e =>
    obtain ⟨v, rfl, r⟩ := reps1 rs
    cases e
    obtain ⟨p, vs, rfl, hq, hl, rv⟩ := r.tupI
    refine ⟨p, vs, rfl, .inr (le.tup hq), fun q hq' => ?_⟩
    have g := Gr.new (o := .lst vs) le hq'
    exact k _ _ _ g (.lst upd_same hl (rv.mono g.g))
  | [.lst es], e =>
    obtain ⟨v, rfl, r⟩ := reps1 rs
    cases e
    obtain ⟨p, vs, rfl, hq, hl, rv⟩ := r.lstI
    refine ⟨p, vs, rfl, .inl (SqL.of (le.lst hq)), fun q hq' => ?_⟩
    have g := Gr.new (o := .lst vs) le hq'
    exact k _ _ _ g (.lst upd_same hl (rv.mono g.g))
theorem cr_allD : CalR K ca (rAll K) b_all := fun G H vs ds d Q le rs e k => by
  match ds, e with
  | [.lst es], e =>
    obtain ⟨v, rfl, r⟩ := reps1 rs
    obtain ⟨p, vs, rfl, hq, hl, rv⟩ := r.lstI
    have e' : (blsOf es).bind (fun bs => some (D.bl (bs.all id))) = some d := e
    cases q : blsOf es with
    | none => rw [q] at e'; cases e'
    | some bs =>
      rw [q, Option.bind_some] at e'
      cases e'
      exact ⟨p, bs, rfl, by rw [← bls_rep rv q]; exact SqL.of (le.lst hq), k _ H G (Gr.refl le) (.bl _)⟩
theorem cr_anyD : CalR K ca (rAny K) b_any := fun G H vs ds d Q le rs e k => by
  match ds, e with
  | [.lst es], e =>
    obtain ⟨v, rfl, r⟩ := reps1 rs
    obtain ⟨p, vs, rfl, hq, hl, rv⟩ := r.lstI
    have e' : (blsOf es).bind (fun bs => some (D.bl (bs.any id))) = some d := e
    cases q : blsOf es with
    | none => rw [q] at e'; cases e'
    | some bs =>
      rw [q, Option.bind_some] at e'
      cases e'
      exact ⟨p, bs, rfl, by rw [← bls_rep rv q]; exact SqL.of (le.lst hq), k _ H G (Gr.refl le) (.bl _)⟩
theorem cr_min2 : CalR K ca (fun xs H Q => ∃ i j, xs = [.int i, .int j] ∧ Q (.int (if j < i then j else i)) H) b_min := fun G H vs ds d Q le rs e k => by
  match ds, e with
  | [.int i, .int j], e =>
    obtain ⟨v, w, rfl, r1, r2⟩ := reps2 rs
    cases e
    exact ⟨i, j, by rw [r1.intI, r2.intI], k _ H G (Gr.refl le) (.int _)⟩
theorem cr_int : CalR K ca (fun xs H Q => (∃ i, xs = [.int i] ∧ Q (.int i) H) ∨ ∃ k, xs = [.bl k] ∧ Q (.int (if k then 1 else 0)) H) b_int := fun G H vs ds d Q le rs e k => by
  match ds, e with
  | [.int i], e =>
    obtain ⟨v, rfl, r⟩ := reps1 rs
    cases e
    exact .inl ⟨i, by rw [r.intI], k _ H G (Gr.refl le) (.int _)⟩
  | [.bl i], e =>
    obtain ⟨v, rfl, r⟩ := reps1 rs
    cases e
    exact .inr ⟨i, by rw [r.blI], k _ H G (Gr.refl le) (.int _)⟩
def rStrA : List V → Hp → VK → Prop := fun xs H Q => (∃ a, xs = [.str a] ∧ Q (.str a) H) ∨ ∃ i, xs = [.int i] ∧ i.natAbs.log2 < 1920 ∧ Q (.str (toString i)) H
theorem cr_str : CalR K ca rStrA b_str := fun G H vs ds d Q le rs e k => by
  match ds, e with
  | [.str x], e =>
    obtain ⟨v, rfl, r⟩ := reps1 rs
    cases e
    exact .inl ⟨x, by rw [r.strI], k _ H G (Gr.refl le) (.str _)⟩
  | [.int i], e =>
    obtain ⟨v, rfl, r⟩ := reps1 rs
    have e' : (if i.natAbs.log2 < 1920 then some (D.str (toString i)) else none) = some d := e
    by_cases hl : i.natAbs.log2 < 1920
    · rw [if_pos hl] at e'
      cases e'
      exact .inr ⟨i, by rw [r.intI], hl, k _ H G (Gr.refl le) (.str _)⟩
    · rw [if_neg hl] at e'; cases e'
def rSortedA (K : PySem.W.Frag) : List V → Hp → VK → Prop := fun xs H Q => rSortedS K xs H Q ∨ rSorted K xs H Q
theorem cl_sorted : CallR X (.builtin "sorted") (rSortedA X.K) := cr_sortedS.or cr_sorted
theorem cr_sortedD : CalR K ca (rSortedA K) b_sorted := fun G H vs ds d Q le rs e k => by
  match ds, e with
  | [.lst es], e =>
    obtain ⟨v, rfl, r⟩ := reps1 rs
    obtain ⟨p, vs, rfl, hq, hl, rv⟩ := r.lstI
    unfold b_sorted at e
    dsimp only at e
    cases q : strsOf es with
    | some xs =>
      rw [q] at e
      dsimp only at e
      by_cases h64 : xs.length < 64
      · rw [if_pos h64] at e
        cases e
        refine .inl ⟨p, xs, rfl, by rw [← (strs_rep rv q).1]; exact SqL.of (le.lst hq), h64, fun ys n pm so hn => ?_⟩
        have ey := sortS_one pm so
        rw [ey]
        have g := Gr.new (o := .lst ((sortS xs).map V.str)) le hn
        exact k _ _ _ g (.lst upd_same (by rw [List.length_map, (sortS_perm xs).length_eq]; exact Nat.le_trans (Nat.le_of_lt h64) (by decide)) (reps_strs _ _))
      · rw [if_neg h64] at e; cases e
    | none =>
      rw [q] at e
      dsimp only at e
      cases q2 : intsOf es with
      | none => rw [q2] at e; cases e
      | some ns =>
        rw [q2, Option.bind_some] at e
        by_cases h64 : ns.length < 64
        · rw [if_pos h64] at e
          cases e
          refine .inr ⟨p, ns, rfl, by rw [← (ints_rep rv q2).1]; exact SqL.of (le.lst hq), h64, fun ys n pm so hn => ?_⟩
          have ey := sortI_one pm so
          rw [ey]
          have g := Gr.new (o := .lst ((sortI ns).map V.int)) le hn
          exact k _ _ _ g (.lst upd_same (by rw [List.length_map, (sortI_perm ns).length_eq]; exact Nat.le_trans (Nat.le_of_lt h64) (by decide)) (reps_ints _ _))
        · rw [if_neg h64] at e; cases e
end
section
variable {X : Cx} {ca : Nat → Addr} {a b c e : Expr} {es : List Expr} {p pos : Pos} {f f1 f2 f3 : Rho → Option D} {r : Rho → Option (List D)} {s t : Rho → Option Bool}
theorem d_len (hg : Gl X "len") (hm : X.mg "len" = none) (ha : PA X [e] (tDA X.K ca r)) (he : starEach [e] X.env = (false, eval e X.env) :: starEach [] X.env := by rfl) : PE X (.Call (.Name "len" p) [e] [] pos) (tD X.K ca (x_call b_len r)) := d_callB cl_len cr_len hg hm PySem.boot_len ha (by decide) (by decide) he rfl
theorem d_tuple (hg : Gl X "tuple") (hm : X.mg "tuple" = none) (ha : PA X [e] (tDA X.K ca r)) (he : starEach [e] X.env = (false, eval e X.env) :: starEach [] X.env := by rfl) : PE X (.Call (.Name "tuple" p) [e] [] pos) (tD X.K ca (x_call b_tuple r)) := d_callTy call_tuple_of cr_tuple hg hm (by decide +kernel) ha (by decide) (by decide) he rfl
theorem d_list (hg : Gl X "list") (hm : X.mg "list" = none) (ha : PA X [e] (tDA X.K ca r)) (he : starEach [e] X.env = (false, eval e X.env) :: starEach [] X.env := by rfl) : PE X (.Call (.Name "list" p) [e] [] pos) (tD X.K ca (x_call b_list r)) := d_callTy call_list_of cr_list hg hm (by decide +kernel) ha (by decide) (by decide) he rfl
theorem d_all (hc : X.calm = true) (hg : Gl X "all") (hm : X.mg "all" = none) (ha : PA X [e] (tDA X.K ca r)) (he : starEach [e] X.env = (false, eval e X.env) :: starEach [] X.env := by rfl) : PE X (.Call (.Name "all" p) [e] [] pos) (tD X.K ca (x_call b_all r)) := d_callB (cr_all hc) cr_allD hg hm (by decide +kernel) ha (by decide) (by decide) he rfl
theorem d_any (hc : X.calm = true) (hg : Gl X "any") (hm : X.mg "any" = none) (ha : PA X [e] (tDA X.K ca r)) (he : starEach [e] X.env = (false, eval e X.env) :: starEach [] X.env := by rfl) : PE X (.Call (.Name "any" p) [e] [] pos) (tD X.K ca (x_call b_any r)) := d_callB (cr_any hc) cr_anyD hg hm (by decide +kernel) ha (by decide) (by decide) he rfl
theorem d_min (hc : X.calm = true) (hg : Gl X "min") (hm : X.mg "min" = none) (ha : PA X [e, b] (tDA X.K ca r)) (he : starEach [e, b] X.env = (false, eval e X.env) :: starEach [b] X.env := by rfl) (hpl : (backTo pos (starEach [b] X.env)).any (·.1) = false := by rfl) : PE X (.Call (.Name "min" p) [e, b] [] pos) (tD X.K ca (x_call b_min r)) := d_callB (call_min2 hc) cr_min2 hg hm (by decide +kernel) ha (by decide) (by decide) he hpl
theorem d_intc (hg : Gl X "int") (hm : X.mg "int" = none) (ha : PA X [e] (tDA X.K ca r)) (he : starEach [e] X.env = (false, eval e X.env) :: starEach [] X.env := by rfl) : PE X (.Call (.Name "int" p) [e] [] pos) (tD X.K ca (x_call b_int r)) := d_callTy call_int1 cr_int hg hm (by decide +kernel) ha (by decide) (by decide) he rfl
theorem d_strc (hg : Gl X "str") (hm : X.mg "str" = none) (ha : PA X [e] (tDA X.K ca r)) (he : starEach [e] X.env = (false, eval e X.env) :: starEach [] X.env := by rfl) : PE X (.Call (.Name "str" p) [e] [] pos) (tD X.K ca (x_call b_str r)) := d_callTy (CallR.or SkE.call_str_str call_str_int) cr_str hg hm (by decide +kernel) ha (by decide) (by decide) he rfl
theorem d_sorted (hg : Gl X "sorted") (hm : X.mg "sorted" = none) (ha : PA X [e] (tDA X.K ca r)) (he : starEach [e] X.env = (false, eval e X.env) :: starEach [] X.env := by rfl) : PE X (.Call (.Name "sorted" p) [e] [] pos) (tD X.K ca (x_call b_sorted r)) := d_callB cl_sorted cr_sortedD hg hm (by decide +kernel) ha (by decide) (by decide) he rfl
/-- xs[::-1] -/
theorem d_rev {k : Nat} {p1 p2 p3 : Pos} (he : PE X e (tD X.K ca f)) : PE X (.Subscript e (.Slice none none (some (.UnaryOp .USub (.Constant (.int 1) k p1) p2)) p3) pos) (tD X.K ca (x_un dRev f)) :=
  PE.imp (pe_revL he) fun σ H Q ⟨G, ρ, d, S, e, kk⟩ => by
    unfold x_un at e
    cases e1 : f ρ with
    | none => rw [e1] at e; cases e
    | some x =>
      rw [e1, Option.bind_some] at e
      cases x with
      | lst ds =>
        cases e
        refine ⟨G, ρ, .lst ds, S, e1, fun v H1 G1 g1 r1 => ?_⟩
        obtain ⟨p, vs, rfl, hq, hl, rv⟩ := r1.lstI
        refine ⟨p, vs, rfl, SqL.of (g1.le.lst hq), fun q hq' => ?_⟩
        have g := Gr.new (o := .lst vs.reverse) g1.le hq'
        exact kk _ _ _ (g1.trans g) (.lst upd_same (by rw [List.length_reverse]; exact hl) (rv.reverse.mono g.g))
      | _ => cases e
/-! ### defs -/
/-- THE PROMISE of a def: F gives its value -/
def spD (K : PySem.W.Frag) (ca : Nat → Addr) (F : List D → Option D) : Sp := fun vs H Q _ =>
  ∃ G ds d, Le G H ∧ Reps K ca G vs ds ∧ F ds = some d ∧ ∀ v H' G', Gr G H G' H' → Rep K ca G' v d → Q v H'
/-- of an __init__ -/
def spI (K : PySem.W.Frag) (ca : Nat → Addr) (c : Nat) (F : List D → Option D) : Sp := fun vs H Q _ =>
  ∃ G ds d x dx ws, vs = V.ref x :: ws ∧ H x = some (.ins (ca c) dx []) ∧ G x = none ∧ Le G H ∧ Reps K ca G ws ds ∧ F ds = some d ∧
    ∀ H' G', Ex G G' → Le G' H' → (∀ b o, b ≠ x → H b = some o → H' b = some o) → (∀ b o, G' b = some o → G b = some o ∨ b = x ∨ H b = none) → Rep K ca G' (.ref x) d → Q .non H'
theorem go_sp {F : List D → Option D} {dvs : List V} {dds : List D} {E : XK} (hd : ∀ G, Reps X.K ca G dvs dds) : ∀ σ H Q, tD X.K ca (x_call (fun ds => F (ds ++ dds)) r) σ H Q → tCall (spD X.K ca F) dvs E (tDA X.K ca r) σ H Q := fun σ H Q ⟨G, ρ, d, S, e, k⟩ => by
  unfold x_call at e
  cases e1 : r ρ with
  | none => rw [e1] at e; cases e
  | some ds =>
    rw [e1, Option.bind_some] at e
    exact ⟨G, ρ, ds, S, e1, fun vs H1 G1 g1 r1 => ⟨G1, ds ++ dds, d, g1.le, r1.app (hd _), e, fun v H' G' g2 r2 => k v H' G' (g1.trans g2) r2⟩⟩
theorem nilD {F : List D → Option D} {σ : L2.St} {H : Hp} {Q : VK} (h : tD X.K ca (x_call F r) σ H Q) : tD X.K ca (x_call (fun ds => F (ds ++ [])) r) σ H Q := by
  have e : (fun ds => F (ds ++ [])) = F := funext fun ds => by rw [List.append_nil]
  rw [e]
  exact h
section
variable {CX : CXT} {k n : Nat} {fa C : Addr} {fd : FuncData} {ps : List Str} {x m : Str} {dvs : List V} {dds : List D} {ds : List Value} {F : List D → Option D} {apos : Pos} {o : Expr}
/-- f(e, ..) -/
theorem d_call (FO : FnOk X.prog X.w X.K X.mg X.base CX0 k fa fd ps (spD X.K ca F)) (hr : Room n X.A) (hk : k ≤ n) (hg : Gl X x) (hm : X.mg x = some (.ref fa)) (kp : PySem.W.keepIn X.K (.ref fa) = true) (hb : Binds X.K fd ps [])
    (ha : PA X (e :: es) (tDA X.K ca r)) (hdb : (x == ("__debug__" : Str)) = false := by decide) (he : starEach (e :: es) X.env = (false, eval e X.env) :: starEach es X.env := by rfl) (hpl : (backTo pos (starEach es X.env)).any (·.1) = false := by rfl) :
    PE X (.Call (.Name x p) (e :: es) [] pos) (tD X.K ca (x_call F r)) :=
  PE.imp (pe_call FO (hr.mono hk) hg hm kp hb .nil pass0 ha hdb he hpl) fun σ H Q h => go_sp (E := E0) (fun _ => .nil) σ H Q (nilD h)
/-- C(e, ..), the defaults told -/
theorem go_mk {F : List D → Option D} {c : Nat} {E : XK} (hC : ca c = C) (hd : ∀ G, Reps X.K ca G dvs dds) : ∀ σ H Q, tD X.K ca (x_call (fun ds => F (ds ++ dds)) r) σ H Q → tMake C (spI X.K ca c F) dvs E (tDA X.K ca r) σ H Q := fun σ H Q ⟨G, ρ, d, S, e, k⟩ => by
  unfold x_call at e
  cases e1 : r ρ with
  | none => rw [e1] at e; cases e
  | some ds =>
    rw [e1, Option.bind_some] at e
    refine ⟨G, ρ, ds, S, e1, fun vs H1 G1 g1 r1 => ?_⟩
    intro x dx nx ndx nex
    have gx : G1 x = none := g1.le.nn nx
    have exH : Ex H1 (upd (upd H1 dx (.own x)) x (.ins C dx [])) := fun b o z => by
      rw [upd_ne (ne_of_none z nx), upd_ne (ne_of_none z ndx)]
      exact z
    refine ⟨G1, ds ++ dds, d, x, dx, vs ++ dvs, rfl, by rw [upd_same, hC], gx, g1.le.ex_trans exH, r1.app (hd _), e, fun H' G' g2 le2 h2 nw r2 => ⟨rfl, ?_⟩⟩
    refine k _ H' G' (g1.trans ⟨g2, le2, fun b o z => h2 b o (ne_of_none z nx) (exH b o z), fun b o z => ?_⟩) r2
    rcases nw b o z with q | q | q
    · exact .inl q
    · rw [q]; exact .inr nx
    · refine .inr ?_
      cases w : H1 b with
      | none => rfl
      | some u => rw [exH b u w] at q; cases q
theorem d_make {c : Nat} {f1 : Addr} (hC : ca c = C) (M : Mk X.K C f1) (FO : FnOk X.prog X.w X.K X.mg X.base CX0 k f1 fd ps (spI X.K ca c F)) (hr : Room n X.A) (hk : k + 1 ≤ n) (hg : Gl X x) (hm : X.mg x = some (.ref C)) (hb : Binds X.K fd ps ds) (hv : Vals dvs ds) (hd : ∀ G, Reps X.K ca G dvs dds)
    (ha : PA X (e :: es) (tDA X.K ca r)) (hdb : (x == ("__debug__" : Str)) = false := by decide) (he : starEach (e :: es) X.env = (false, eval e X.env) :: starEach es X.env := by rfl) (hpl : (backTo pos (starEach es X.env)).any (·.1) = false := by rfl) :
    PE X (.Call (.Name x p) (e :: es) [] pos) (tD X.K ca (x_call (fun ds => F (ds ++ dds)) r)) :=
  PE.imp (pe_make M FO (hr.mono hk) hg hm hb hv pass0 ha hdb he hpl) fun σ H Q h => go_mk (E := E0) hC hd σ H Q h
theorem d_make0 {c : Nat} {f1 : Addr} (hC : ca c = C) (M : Mk X.K C f1) (FO : FnOk X.prog X.w X.K X.mg X.base CX0 k f1 fd ps (spI X.K ca c F)) (hr : Room n X.A) (hk : k + 1 ≤ n) (hg : Gl X x) (hm : X.mg x = some (.ref C)) (hb : Binds X.K fd ps ds) (hv : Vals dvs ds) (hd : ∀ G, Reps X.K ca G dvs dds)
    (hdb : (x == ("__debug__" : Str)) = false := by decide) : PE X (.Call (.Name x p) [] [] pos) (tD X.K ca (x_call (fun ds => F (ds ++ dds)) a_nil)) :=
  PE.imp (pe_make0 M FO (hr.mono hk) hg hm hb hv pass0 hdb) fun σ H Q h => by
    obtain ⟨G, ρ, d, S, e, k⟩ := h
    have h2 := go_mk (X := X) (E := E0) (r := a_nil) (F := F) (C := C) hC hd σ H Q ⟨G, ρ, d, S, e, k⟩
    obtain ⟨G1, ρ1, ds1, S1, e1, k1⟩ := h2
    cases e1
    exact k1 [] H G1 (Gr.refl S1.le) .nil
/-- o.m(e, ..), o an instance of the class c -/
theorem d_meth {c : Nat} {pl : Sem Bool} {g : Addr} (hC : ca c = C) (he : PE X o (tD X.K ca f)) (cl : Cls X.K C) (hm : Meth X.K C m g) (FO : FnOk X.prog X.w X.K X.mg X.base CX0 k g fd ps (spD X.K ca F)) (hr : Room n X.A) (hk : k ≤ n) (hb : Binds X.K fd ps [])
    (hno : ∀ vs : List V, (List.zip (fns c) vs).lookup m = none) (ha : PA X (e :: es) (tDA X.K ca r))
    (hst : starEach (e :: es) X.env = (false, eval e X.env) :: starEach es X.env := by rfl) (hpl : (backTo pos (starEach es X.env)).any (·.1) = false := by rfl)
    (ht : eval (.Call (.Attribute o m apos) (e :: es) [] pos) X.env = (do
      let ov ← eval o X.env
      standAt apos.atName
      let (f, first) ← holding [ov] (getMethod ov m pl)
      callWith pos f first (backTo pos (starEach (e :: es) X.env)) (backToKw pos (keywordEach [] X.env))) := by rfl) :
    PE X (.Call (.Attribute o m apos) (e :: es) [] pos) (tD X.K ca (x_meth c F f r)) :=
  PE.imp (pe_meth he cl hm FO (hr.mono hk) hb .nil pass0 ha hst hpl ht) fun σ H Q ⟨G, ρ, d, S, e, k⟩ => by
    unfold x_meth at e
    cases e1 : f ρ with
    | none => rw [e1] at e; cases e
    | some x =>
      rw [e1, Option.bind_some] at e
      cases x with
      | obj c' ds0 =>
        dsimp only at e
        by_cases q : c' = c
        · subst q
          rw [if_pos rfl] at e
          cases e2 : r ρ with
          | none => rw [e2] at e; cases e
          | some ds =>
            rw [e2, Option.bind_some] at e
            refine ⟨G, ρ, _, S, e1, fun v H1 G1 g1 r1 => ?_⟩
            obtain ⟨a, dx, vs, rfl, ea, _, _⟩ := r1.objI
            refine ⟨a, dx, _, rfl, by rw [← hC]; exact g1.le.ins ea, hno vs, G1, ρ, ds, S.gr g1, e2, fun ws H2 G2 g2 r2 => ?_⟩
            show spD X.K ca F (V.ref a :: (ws ++ [])) H2 Q E0
            rw [List.append_nil]
            exact ⟨G2, _, d, g2.le, .cons (r1.mono g2.g) r2, e, fun v H' G' g3 r3 => k v H' G' ((g1.trans g2).trans g3) r3⟩
        · rw [if_neg q] at e; cases e
      | _ => cases e
/-- o.f, a property -/
theorem d_prop {c : Nat} {pr g : Addr} {fn : Str} (hC : ca c = C) (he : PE X o (tD X.K ca f)) (cl : Cls X.K C) (hp : PropOf X.K C fn pr g) (FO : FnOk X.prog X.w X.K X.mg X.base CX0 k g fd ps (spD X.K ca F)) (hr : Room n X.A) (hk : k + 1 ≤ n) (hb : Binds X.K fd ps [])
    (hab : attributeBase o fn X.env (eval o X.env) = eval o X.env := by rfl) : PE X (.Attribute o fn pos) (tD X.K ca (x_un (dProp c F) f)) :=
  PE.imp (pe_prop he cl hp FO (hr.mono hk) hb .nil pass0 hab) fun σ H Q ⟨G, ρ, d, S, e, k⟩ => by
    unfold x_un at e
    cases e1 : f ρ with
    | none => rw [e1] at e; cases e
    | some x =>
      rw [e1, Option.bind_some] at e
      cases x with
      | obj c' ds0 =>
        unfold dProp at e
        dsimp only at e
        by_cases q : c' = c
        · subst q
          rw [if_pos rfl] at e
          refine ⟨G, ρ, _, S, e1, fun v H1 G1 g1 r1 => ?_⟩
          obtain ⟨a, dx, vs, rfl, ea, _, _⟩ := r1.objI
          exact ⟨a, dx, _, rfl, by rw [← hC]; exact g1.le.ins ea, G1, _, d, g1.le, .cons r1 .nil, e, fun v H' G' g3 r3 => k v H' G' (g1.trans g3) r3⟩
        · rw [if_neg q] at e; cases e
      | _ => cases e
/-- o.f, a field -/
theorem d_fld {c i : Nat} {fn : Str} (hC : ca c = C) (cl : Cls X.K C) (nt : NoAttr X.K C fn) (hf : ∀ v0 v1 v : V, [v0, v1][i]? = some v → (List.zip (fns c) [v0, v1]).lookup fn = some v) (he : PE X o (tD X.K ca f))
    (hab : attributeBase o fn X.env (eval o X.env) = eval o X.env := by rfl) : PE X (.Attribute o fn pos) (tD X.K ca (x_un (dFld c i) f)) :=
  PE.imp (pe_fld he hab) fun σ H Q ⟨G, ρ, d, S, e, k⟩ => by
    unfold x_un at e
    cases e1 : f ρ with
    | none => rw [e1] at e; cases e
    | some x =>
      rw [e1, Option.bind_some] at e
      cases x with
      | obj c' ds0 =>
        unfold dFld at e
        dsimp only at e
        by_cases q : c' = c
        · subst q
          rw [if_pos rfl] at e
          refine ⟨G, ρ, _, S, e1, fun v H1 G1 g1 r1 => ?_⟩
          obtain ⟨a, dx, vs, rfl, ea, h2, rv⟩ := r1.objI
          obtain ⟨w, hw, rw_⟩ := rv.get e
          have hl : vs.length = 2 := by rw [rv.length]; exact h2
          match vs, hl with
          | [v0, v1], _ =>
            exact ⟨a, C, dx, _, w, rfl, by rw [← hC]; exact g1.le.ins ea, cl, nt, hf v0 v1 w hw, k w H1 G1 g1 rw_⟩
        · rw [if_neg q] at e; cases e
      | _ => cases e
end
end
end DL
/-! Layer D: targets, what is walked, comprehensions. -/
namespace DL
open PySem L2
/-! ### stores to slots -/
inductive Ups (K : PySem.W.Frag) (ca : Nat → Addr) (G : Hp) : List (Nat × V) → List (Nat × D) → Prop
  | nil : Ups K ca G [] []
  | cons {i : Nat} {v : V} {d : D} {ws : List (Nat × V)} {us : List (Nat × D)} : Rep K ca G v d → Ups K ca G ws us → Ups K ca G ((i, v) :: ws) ((i, d) :: us)
def setV (σ : L2.St) : List (Nat × V) → L2.St
  | [] => σ
  | w :: ws => setV (σ.set w.1 (some w.2)) ws
def setR (ρ : Rho) : List (Nat × D) → Rho
  | [] => ρ
  | w :: ws => setR (ρ.set w.1 (some w.2)) ws
def wipeR (ρ : Rho) : List Nat → Rho
  | [] => ρ
  | v :: vs => (wipeR ρ vs).set v none
abbrev Tgt := D → Option (List (Nat × D))
abbrev Tgts := List D → Option (List (Nat × D))
def tG (K : PySem.W.Frag) (ca : Nat → Addr) (g : Tgt) : TG := fun v σ H Q => ∃ G d us, Le G H ∧ Rep K ca G v d ∧ g d = some us ∧ ∀ ws, Ups K ca G ws us → Q (setV σ ws) H
def tGs (K : PySem.W.Frag) (ca : Nat → Addr) (g : Tgts) : TGs := fun vs σ H Q => ∃ G ds us, Le G H ∧ Reps K ca G vs ds ∧ g ds = some us ∧ ∀ ws, Ups K ca G ws us → Q (setV σ ws) H
def g_name (i : Nat) : Tgt := fun d => some [(i, d)]
def g_nil : Tgts := fun ds => match ds with | [] => some [] | _ => none
def g_cons (g : Tgt) (r : Tgts) : Tgts := fun ds => match ds with | d :: ds => (g d).bind fun us => (r ds).bind fun vs => some (us ++ vs) | [] => none
def g_tup (n : Nat) (r : Tgts) : Tgt := fun d => match d with | .tup ds => if ds.length = n then r ds else none | _ => none
section
variable {K : PySem.W.Frag} {ca : Nat → Addr} {G G' H H' : Hp} {σ : L2.St} {ρ : Rho}
theorem Ups.mono (e : Ex G G') : ∀ {ws : List (Nat × V)} {us : List (Nat × D)}, Ups K ca G ws us → Ups K ca G' ws us
  | _, _, .nil => .nil
  | _, _, .cons r t => .cons (r.mono e) (Ups.mono e t)
theorem Ups.app : ∀ {ws zs : List (Nat × V)} {us ys : List (Nat × D)}, Ups K ca G ws us → Ups K ca G zs ys → Ups K ca G (ws ++ zs) (us ++ ys)
  | _, _, _, _, .nil, s => s
  | _, _, _, _, .cons r t, s => .cons r (Ups.app t s)
theorem setV_app : ∀ (ws zs : List (Nat × V)) (σ : L2.St), setV σ (ws ++ zs) = setV (setV σ ws) zs
  | [], _, _ => rfl
  | w :: ws, zs, σ => setV_app ws zs _
theorem Sg.set {i : Nat} {v : V} {d : D} (s : Sg K ca G H σ ρ) (r : Rep K ca G v d) : Sg K ca G H (σ.set i (some v)) (ρ.set i (some d)) := by
  refine ⟨s.le, by rw [List.length_set, List.length_set]; exact s.len, fun j x e => ?_⟩
  by_cases h : i = j
  · subst h
    have hi : i < ρ.length := by
      have := (List.getElem?_eq_some_iff.mp e).1
      rwa [List.length_set] at this
    rw [List.getElem?_set_self hi] at e
    cases e
    exact ⟨v, by rw [List.getElem?_set_self (by rw [← s.len]; exact hi)], r⟩
  · rw [List.getElem?_set_ne h] at e
    obtain ⟨w, h1, h2⟩ := s.at_ j x e
    exact ⟨w, by rw [List.getElem?_set_ne h]; exact h1, h2⟩
theorem Sg.ups {ws : List (Nat × V)} {us : List (Nat × D)} {σ : L2.St} {ρ : Rho} (s : Sg K ca G H σ ρ) (u : Ups K ca G ws us) : Sg K ca G H (setV σ ws) (setR ρ us) := by
  induction u generalizing σ ρ with
  | nil => exact s
  | cons r t ih => exact ih (s.set r)
theorem Sg.unset {i : Nat} (s : Sg K ca G H σ ρ) : Sg K ca G H (σ.set i none) (ρ.set i none) := by
  refine ⟨s.le, by rw [List.length_set, List.length_set]; exact s.len, fun j x e => ?_⟩
  by_cases h : i = j
  · subst h
    have hi : i < ρ.length := by
      have := (List.getElem?_eq_some_iff.mp e).1
      rwa [List.length_set] at this
    rw [List.getElem?_set_self hi] at e
    cases e
  · rw [List.getElem?_set_ne h] at e
    obtain ⟨w, h1, h2⟩ := s.at_ j x e
    exact ⟨w, by rw [List.getElem?_set_ne h]; exact h1, h2⟩
theorem Sg.wipe (s : Sg K ca G H σ ρ) : ∀ vs : List Nat, Sg K ca G H (L2.wipe σ vs) (wipeR ρ vs)
  | [] => s
  | _ :: vs => (Sg.wipe s vs).unset
theorem set_set_comm {α : Type} (l : List α) {i j : Nat} (a b : α) (h : i ≠ j) : (l.set i a).set j b = (l.set j b).set i a := List.set_comm a b h
/-- the block's own slots, stored to, are wiped all the same -/
theorem wipe_set {σ : L2.St} {i : Nat} {x : Option V} : ∀ {vs : List Nat}, i ∈ vs → L2.wipe (σ.set i x) vs = L2.wipe σ vs
  | v :: vs, h => by
    have key : ∀ (us : List Nat), i ∉ us → L2.wipe (σ.set i x) us = (L2.wipe σ us).set i x := by
      intro us
      induction us with
      | nil => intro _; rfl
      | cons u us ih =>
        intro hu
        simp only [List.mem_cons, not_or] at hu
        show (L2.wipe (σ.set i x) us).set u none = ((L2.wipe σ us).set u none).set i x
        rw [ih hu.2, set_set_comm _ _ _ hu.1]
    by_cases hm : i ∈ vs
    · show (L2.wipe (σ.set i x) vs).set v none = (L2.wipe σ vs).set v none
      rw [wipe_set hm]
    · have e : i = v := (List.mem_cons.mp h).resolve_right hm
      subst e
      show (L2.wipe (σ.set i x) vs).set i none = (L2.wipe σ vs).set i none
      rw [key vs hm, List.set_set]
theorem wipe_setV : ∀ {ws : List (Nat × V)} {us : List (Nat × D)} {σ : L2.St} {vs : List Nat}, Ups K ca G ws us → (us.all fun u => vs.contains u.1) = true → L2.wipe (setV σ ws) vs = L2.wipe σ vs
  | _, _, _, _, .nil, _ => rfl
  | _, _, σ, vs, .cons (i := i) r t, h => by
    rw [List.all_cons, Bool.and_eq_true] at h
    have hm : i ∈ vs := by simpa using h.1
    exact (wipe_setV t h.2).trans (wipe_set hm)
theorem wipe_wipe {σ : L2.St} : ∀ (vs : List Nat), L2.wipe (L2.wipe σ vs) vs = L2.wipe σ vs := by
  intro vs
  have key : ∀ (us vs : List Nat), (∀ u ∈ us, u ∈ vs) → ∀ σ : L2.St, L2.wipe (L2.wipe σ us) vs = L2.wipe σ vs := by
    intro us
    induction us with
    | nil => intro vs _ σ; rfl
    | cons u us ih =>
      intro vs h σ
      show L2.wipe ((L2.wipe σ us).set u none) vs = L2.wipe σ vs
      rw [wipe_set (h u List.mem_cons_self), ih vs (fun x hx => h x (List.mem_cons_of_mem _ hx))]
  exact key vs vs (fun _ h => h) σ
end
section
variable {X : Cx} {ca : Nat → Addr} {pos : Pos}
theorem dg_name {i : Nat} {x : Str} (hN : X.N.Nodup) (hi : X.N[i]? = some x := by rfl) (hx : Loc X.env.scope x := by first | exact Or.inl rfl | exact Or.inr rfl) (hf : X.fn x = true ∨ X.env.scope.names.lookup x = some .local := by first | exact .inl rfl | exact .inr rfl) : PG X (.Name x pos) (tG X.K ca (g_name i)) :=
  PG.imp (pg_name hN hi hx hf) fun v σ H Q ⟨G, d, us, le, r, e, k⟩ => by
    cases e
    exact k [(i, v)] (.cons r .nil)
theorem PGs.imp {es : List Expr} {t t' : TGs} (h : PGs X es t) (k : ∀ vs σ H Q, t' vs σ H Q → t vs σ H Q) : PGs X es t' := ⟨fun pins s σ H vs us Q I r w => h.run pins s σ H vs us Q I r (k vs σ H Q w)⟩
theorem dg_nil : PGs X [] (tGs X.K ca g_nil) := PGs.imp pgs_nil fun vs σ H Q ⟨G, ds, us, le, r, e, k⟩ => by
  cases r with
  | nil => cases e; exact ⟨rfl, k [] .nil⟩
  | cons r t => cases e
theorem dg_cons {e : Expr} {es : List Expr} {g : Tgt} {t : Tgts} (h1 : PG X e (tG X.K ca g)) (h2 : PGs X es (tGs X.K ca t)) (hs : (assignEach (e :: es) X.env).map (·.2) = assign e X.env :: (assignEach es X.env).map (·.2) := by rfl) : PGs X (e :: es) (tGs X.K ca (g_cons g t)) :=
  PGs.imp (pgs_cons h1 h2 hs) fun vs σ H Q ⟨G, ds, us, le, r, e, k⟩ => by
    cases r with
    | nil => cases e
    | @cons v vs d ds r1 r2 =>
      have e' : (g d).bind (fun us => (t ds).bind fun vs => some (us ++ vs)) = some us := e
      cases q1 : g d with
      | none => rw [q1] at e'; cases e'
      | some u1 =>
        rw [q1, Option.bind_some] at e'
        cases q2 : t ds with
        | none => rw [q2] at e'; cases e'
        | some u2 =>
          rw [q2, Option.bind_some] at e'
          cases e'
          refine ⟨v, vs, rfl, G, d, u1, le, r1, q1, fun ws hw => ⟨G, ds, u2, le, r2, q2, fun zs hz => ?_⟩⟩
          rw [← setV_app]
          exact k _ (hw.app hz)
theorem dg_tup {es : List Expr} {kk n : Nat} {t : Tgts} (hc : X.calm = true) (h : PGs X es (tGs X.K ca t)) (hn : (assignEach es X.env).length = n := by rfl) (hst : (assignEach es X.env).findIdx? (·.1) = none := by rfl) : PG X (.Tuple es kk pos) (tG X.K ca (g_tup n t)) :=
  PG.imp (pg_tup hc h hn hst) fun v σ H Q ⟨G, d, us, le, r, e, k⟩ => by
    cases d with
    | tup ds =>
      have e' : (if ds.length = n then t ds else none) = some us := e
      by_cases hl : ds.length = n
      · rw [if_pos hl] at e'
        obtain ⟨a, vs, rfl, hq, _, rv⟩ := r.tupI
        exact ⟨a, vs, rfl, le.tup hq, by rw [rv.length]; exact hl, G, ds, us, le, rv, e', k⟩
      · rw [if_neg hl] at e'; cases e'
    | _ => cases e
end
/-! ### what is walked -/
def Fz (H1 H2 : Hp) : Prop := ∀ a ob u, H1 a = some (.frz ob u) → H2 a = some (.frz ob u)
theorem Ex.fz {H1 H2 : Hp} (e : Ex H1 H2) : Fz H1 H2 := fun a ob u h => e a _ h
def Wk (K : PySem.W.Frag) (ca : Nat → Addr) (G1 H1 : Hp) (J : It) (xs : List D) : Prop :=
  ∀ G2 H2, Ex G1 G2 → Le G2 H2 → Fz H1 H2 → ∀ i, (∀ d, xs[i]? = some d → J.go i H2 ∧ ∀ x H', J.yld i H2 x H' → ∃ G', Gr G2 H2 G' H' ∧ Rep K ca G' x d) ∧ (xs.length ≤ i → J.stop i H2)
def tI (K : PySem.W.Frag) (ca : Nat → Addr) (g : Rho → Option (List D)) : TI := fun σ H R => ∃ G ρ xs, Sg K ca G H σ ρ ∧ g ρ = some xs ∧ xs.length ≤ LIM ∧ ∀ J H1 G1, Gr G H G1 H1 → Wk K ca G1 H1 J xs → R J H1
def i_seq (f : Rho → Option D) : Rho → Option (List D) := fun ρ => (f ρ).bind itemsOf
def rangeD (j : Int) : Option (List D) := if 0 ≤ j ∧ j ≤ 1000 then some ((List.range j.toNat).map fun i => .int (i : Nat)) else none
def i_range (f : Rho → Option D) : Rho → Option (List D) := fun ρ => match f ρ with | some (.int j) => rangeD j | _ => none
def enumD (ds : List D) : List D := ds.zipIdx.map fun p => .tup [.int (p.2 : Nat), p.1]
def i_enum (f : Rho → Option D) : Rho → Option (List D) := fun ρ => ((f ρ).bind itemsOf).bind fun ds => some (enumD ds)
section
variable {X : Cx} {ca : Nat → Addr} {tg e : Expr} {es : List Expr} {f : Rho → Option D} {p pos : Pos}
theorem PI.or {t t' : TI} (h : PI X tg e t) (h' : PI X tg e t') : PI X tg e (fun σ H Q => t σ H Q ∨ t' σ H Q) := ⟨fun pins s σ H Q I w => w.elim (h.run pins s σ H Q I) (h'.run pins s σ H Q I)⟩
theorem wk_list {K : PySem.W.Frag} {G1 H1 : Hp} {a : Addr} {vs : List V} {ds : List D} (hq : G1 a = some (.lst vs)) (rv : Reps K ca G1 vs ds) : Wk K ca G1 H1 (Itl K a) ds := fun G2 H2 e le fz i => by
  have hh : H2 a = some (.lst vs) := le.lst (e _ _ hq)
  refine ⟨fun d hd => ?_, fun hl => ⟨vs, SqL.of hh, by rw [rv.length]; exact hl⟩⟩
  obtain ⟨v, hv, rr⟩ := rv.get hd
  refine ⟨⟨vs, v, SqL.of hh, hv⟩, fun x H' y => ?_⟩
  obtain ⟨rfl, y⟩ := y
  have := y vs (SqL.of hh)
  rw [hv] at this
  cases this
  exact ⟨G2, Gr.refl le, rr.mono e⟩
theorem wk_tup {K : PySem.W.Frag} {G1 H1 : Hp} {a : Addr} {vs : List V} {ds : List D} (hq : SqT K G1 a vs) (rv : Reps K ca G1 vs ds) : Wk K ca G1 H1 (Itt K a) ds := fun G2 H2 e le fz i => by
  have hh : SqT K H2 a vs := le.tup (e.tup hq)
  refine ⟨fun d hd => ?_, fun hl => ⟨vs, hh, by rw [rv.length]; exact hl⟩⟩
  obtain ⟨v, hv, rr⟩ := rv.get hd
  refine ⟨⟨vs, v, hh, hv⟩, fun x H' y => ?_⟩
  obtain ⟨rfl, y⟩ := y
  have := y vs hh
  rw [hv] at this
  cases this
  exact ⟨G2, Gr.refl le, rr.mono e⟩
theorem di_seq (h : PE X e (tD X.K ca f)) : PI X tg e (tI X.K ca (i_seq f)) :=
  PI.imp (PI.or (pi_list h) (pi_tup h)) fun σ H R ⟨G, ρ, xs, S, e, hl, k⟩ => by
    unfold i_seq at e
    cases e1 : f ρ with
    | none => rw [e1] at e; cases e
    | some d =>
      rw [e1, Option.bind_some] at e
      cases d with
      | lst ds =>
        cases e
        refine .inl ⟨G, ρ, _, S, e1, fun v H1 G1 g r => ?_⟩
        obtain ⟨a, vs, rfl, hq, _, rv⟩ := r.lstI
        exact ⟨a, rfl, ⟨vs, SqL.of (g.le.lst hq)⟩, k _ _ _ g (wk_list hq rv)⟩
      | tup ds =>
        cases e
        refine .inr ⟨G, ρ, _, S, e1, fun v H1 G1 g r => ?_⟩
        obtain ⟨a, vs, rfl, hq, _, rv⟩ := r.tupI
        exact ⟨a, rfl, ⟨vs, g.le.tup hq⟩, k _ _ _ g (wk_tup hq rv)⟩
      | _ => cases e
theorem di_range (hg : Gl X "range") (hm : X.mg "range" = none) (h : PE X e (tD X.K ca f)) (hs : starEach [e] X.env = [(false, eval e X.env)] := by rfl) : PI X tg (.Call (.Name "range" p) [e] [] pos) (tI X.K ca (i_range f)) :=
  PI.imp (pi_range1 hg hm (da_cons h da_nil hs) hs) fun σ H R ⟨G, ρ, xs, S, e, hl, k⟩ => by
    unfold i_range at e
    split at e
    · rename_i j e1
      unfold rangeD at e
      by_cases hj : 0 ≤ j ∧ j ≤ 1000
      · rw [if_pos hj] at e
        cases e
        refine ⟨G, ρ, [.int j], S, by unfold a_cons a_nil; rw [e1]; rfl, fun vs H1 G1 g r => ?_⟩
        obtain ⟨v, rfl, rv⟩ := reps1 r
        refine ⟨j, by rw [rv.intI], by omega, by omega, k _ _ _ g fun G2 H2 e2 le fz i => ⟨fun d hd => ?_, fun hl => ?_⟩⟩
        · rw [List.getElem?_map] at hd
          cases q : (List.range j.toNat)[i]? with
          | none => rw [q] at hd; cases hd
          | some m =>
            rw [q] at hd
            have hm : i < j.toNat ∧ m = i := by
              obtain ⟨h1, h2⟩ := List.getElem?_eq_some_iff.mp q
              rw [List.length_range] at h1
              rw [List.getElem_range] at h2
              exact ⟨h1, h2.symm⟩
            obtain ⟨h1, rfl⟩ := hm
            have ed : D.int ((m : Nat) : Int) = d := Option.some.inj hd
            subst ed
            refine ⟨h1, fun x H' y => ?_⟩
            obtain ⟨rfl, rfl⟩ := y
            exact ⟨G2, Gr.refl le, by rw [Int.zero_add]; exact .int _⟩
        · rw [List.length_map, List.length_range] at hl
          exact hl
      · rw [if_neg hj] at e; cases e
    · cases e
theorem enumD_get {ds : List D} {i : Nat} {d : D} (h : (enumD ds)[i]? = some d) : ∃ x, ds[i]? = some x ∧ d = .tup [.int (i : Nat), x] := by
  unfold enumD at h
  rw [List.getElem?_map, List.getElem?_zipIdx] at h
  cases q : ds[i]? with
  | none => rw [q] at h; cases h
  | some x => rw [q] at h; cases h; exact ⟨x, rfl, by simp⟩
theorem enumD_len (ds : List D) : (enumD ds).length = ds.length := by unfold enumD; simp
/-- enumerate of a list -/
theorem wk_enumL {K : PySem.W.Frag} {G1 H1 : Hp} {a : Addr} {vs : List V} {ds : List D} (hq : G1 a = some (.lst vs)) (rv : Reps K ca G1 vs ds) : Wk K ca G1 H1 (Ite K a) (enumD ds) := fun G2 H2 e le fz i => by
  have hh : H2 a = some (.lst vs) := le.lst (e _ _ hq)
  refine ⟨fun d hd => ?_, fun hl => ⟨vs, SqL.of hh, by rw [rv.length]; rw [enumD_len] at hl; exact hl⟩⟩
  obtain ⟨x, hx, rfl⟩ := enumD_get hd
  obtain ⟨v, hv, rr⟩ := rv.get hx
  refine ⟨⟨vs, v, SqL.of hh, hv⟩, fun z H' y => ?_⟩
  obtain ⟨T, w, rfl, hT, rfl, y⟩ := y
  have := y vs (SqL.of hh)
  rw [hv] at this
  cases this
  have g := Gr.new (o := .tup [.int (i : Nat), v]) le hT
  exact ⟨_, g, .tup (SqT.of upd_same) (show 2 ≤ LIM by decide) (.cons (.int _) (.cons ((rr.mono e).mono g.g) .nil))⟩
end
/-! ### list comprehensions -/
def lcTurn (ρ : Rho) (own : List Nat) (g : Tgt) (t : Rho → Option Bool) (f : Rho → Option D) (d : D) : Option (Option D) :=
  (g d).bind fun us => if (us.all fun u => own.contains u.1) = true then (t (setR (wipeR ρ own) us)).bind fun b => if b = true then (f (setR (wipeR ρ own) us)).bind fun y => some (some y) else some none else none
def lcGo (turn : D → Option (Option D)) : List D → Option (List D)
  | [] => some []
  | x :: xs => (turn x).bind fun r => (lcGo turn xs).bind fun ys => some (match r with | some y => y :: ys | none => ys)
def x_lc (it : Rho → Option (List D)) (own : List Nat) (g : Tgt) (t : Rho → Option Bool) (f : Rho → Option D) : Rho → Option D := fun ρ =>
  (it ρ).bind fun xs => if xs.length ≤ LIM then (lcGo (lcTurn ρ own g t f) xs).bind fun ys => some (.lst ys) else none
def t_yes : Rho → Option Bool := fun _ => some true
theorem lcGo_len {turn : D → Option (Option D)} : ∀ {xs ys : List D}, lcGo turn xs = some ys → ys.length ≤ xs.length
  | [], ys, h => by cases h; exact Nat.le_refl _
  | x :: xs, ys, h => by
    have h' : (turn x).bind (fun r => (lcGo turn xs).bind fun ys => some (match r with | some y => y :: ys | none => ys)) = some ys := h
    cases q : turn x with
    | none => rw [q] at h'; cases h'
    | some r =>
      rw [q, Option.bind_some] at h'
      cases q2 : lcGo turn xs with
      | none => rw [q2] at h'; cases h'
      | some zs =>
        rw [q2, Option.bind_some] at h'
        have ih := lcGo_len q2
        cases r with
        | none => cases h'; simp; omega
        | some y => cases h'; simp; omega
theorem lcGo_cons {turn : D → Option (Option D)} {x : D} {xs ys : List D} (h : lcGo turn (x :: xs) = some ys) : ∃ r zs, turn x = some r ∧ lcGo turn xs = some zs ∧ ys = (match r with | some y => y :: zs | none => zs) := by
  have h' : (turn x).bind (fun r => (lcGo turn xs).bind fun ys => some (match r with | some y => y :: ys | none => ys)) = some ys := h
  cases q : turn x with
  | none => rw [q] at h'; cases h'
  | some r =>
    rw [q, Option.bind_some] at h'
    cases q2 : lcGo turn xs with
    | none => rw [q2] at h'; cases h'
    | some zs =>
      rw [q2, Option.bind_some] at h'
      exact ⟨r, zs, rfl, rfl, (Option.some.inj h').symm⟩
theorem lcTurn_some {ρ : Rho} {own : List Nat} {g : Tgt} {t : Rho → Option Bool} {f : Rho → Option D} {d : D} {r : Option D} (h : lcTurn ρ own g t f d = some r) :
    ∃ us b, g d = some us ∧ (us.all fun u => own.contains u.1) = true ∧ t (setR (wipeR ρ own) us) = some b ∧ ((b = true ∧ ∃ y, f (setR (wipeR ρ own) us) = some y ∧ r = some y) ∨ (b = false ∧ r = none)) := by
  unfold lcTurn at h
  cases q : g d with
  | none => rw [q] at h; cases h
  | some us =>
    rw [q, Option.bind_some] at h
    by_cases ha : (us.all fun u => own.contains u.1) = true
    · rw [if_pos ha] at h
      cases q2 : t (setR (wipeR ρ own) us) with
      | none => rw [q2] at h; cases h
      | some b =>
        rw [q2, Option.bind_some] at h
        refine ⟨us, b, rfl, ha, q2, ?_⟩
        cases b with
        | true =>
          rw [if_pos rfl] at h
          cases q3 : f (setR (wipeR ρ own) us) with
          | none => rw [q3] at h; cases h
          | some y =>
            rw [q3, Option.bind_some] at h
            exact .inl ⟨rfl, y, rfl, (Option.some.inj h).symm⟩
        | false =>
          rw [if_neg Bool.false_ne_true] at h
          exact .inr ⟨rfl, (Option.some.inj h).symm⟩
    · rw [if_neg ha] at h; cases h
/-- the state between two turns of a comprehension whose new object is at p -/
structure Mid (G1 H1 : Hp) (p : Addr) (Gc H : Hp) : Prop where
  g : Ex G1 Gc
  no : Gc p = none
  le : Le Gc H
  h : Ex H1 H
  nw : ∀ a o, Gc a = some o → G1 a = some o ∨ H1 a = none
theorem Mid.gr {G1 H1 : Hp} {p : Addr} {Gc H G' H' : Hp} (m : Mid G1 H1 p Gc H) (hp : H p ≠ none) (g : Gr Gc H G' H') : Mid G1 H1 p G' H' :=
  ⟨m.g.trans g.g, by
    cases q : G' p with
    | none => rfl
    | some o =>
      rcases g.nw p o q with z | z
      · rw [m.no] at z; cases z
      · exact absurd z hp, g.le, m.h.trans g.h, fun a o z => by
    rcases g.nw a o z with q | q
    · exact m.nw a o q
    · exact .inr (m.h.nn q)⟩
theorem Mid.put {G1 H1 : Hp} {p : Addr} {Gc H : Hp} {o : HO} (m : Mid G1 H1 p Gc H) (h1 : H1 p = none) : Mid G1 H1 p Gc (upd H p o) :=
  ⟨m.g, m.no, fun a u z => by
    rw [upd_ne (ne_of_none z m.no)]
    exact m.le a u z, fun a u z => by
    rw [upd_ne (ne_of_none z h1)]
    exact m.h a u z, m.nw⟩
theorem Mid.start {G1 H1 : Hp} {p : Addr} {o : HO} (le : Le G1 H1) (h1 : H1 p = none) : Mid G1 H1 p G1 (upd H1 p o) := by
  have m : Mid G1 H1 p G1 H1 := ⟨Ex.refl _, le.nn h1, le, Ex.refl _, fun _ _ z => .inl z⟩
  exact m.put h1
theorem Mid.fin {G1 H1 : Hp} {p : Addr} {Gc H : Hp} {o : HO} (m : Mid G1 H1 p Gc H) (h1 : H1 p = none) (hp : H p = some o) : Gr G1 H1 (upd Gc p o) H :=
  ⟨fun a u z => by
    rw [upd_ne (ne_of_none z (m.g.nn m.no))]
    exact m.g a u z, fun a u z => by
    by_cases q : a = p
    · subst q; rw [upd_same] at z; cases z; exact .inl hp
    · rw [upd_ne q] at z; exact m.le a u z, m.h, fun a u z => by
    by_cases q : a = p
    · subst q; exact .inr h1
    · rw [upd_ne q] at z; exact m.nw a u z⟩
section
variable {K : PySem.W.Frag} {ca : Nat → Addr} {G1 H1 : Hp} {σ : L2.St} {ρ : Rho} {J : It} {xs ys : List D} {own : List Nat} {g : Tgt} {t : Rho → Option Bool} {f : Rho → Option D} {Q : VK}
theorem lc_go (S : Sg K ca G1 H1 σ ρ) (wk : Wk K ca G1 H1 J xs) (hl : xs.length ≤ LIM) (e : lcGo (lcTurn ρ own g t f) xs = some ys) (k : ∀ v H' G', Gr G1 H1 G' H' → Rep K ca G' v (.lst ys) → Q v H') :
    ∀ p, H1 p = none → ∃ W : Nat → Nat → Hp → Prop, (∃ m, W 0 m (upd H1 p (.lst []))) ∧ ∀ i m H, W i m H →
      (J.stop i H ∧ Q (.ref p) H) ∨ (J.go i H ∧ ∃ Nx : Hp → Prop, (∀ H', Nx H' → ∃ m', m' < m ∧ W (i + 1) m' H') ∧ ∀ x H', J.yld i H x H' → tG K ca g x (L2.wipe σ own) H' fun σ2 H2 => L2.wipe σ2 own = L2.wipe σ own ∧ tDT K ca t σ2 H2 fun b H3 =>
        if b = true then tD K ca f σ2 H3 fun y H4 => ∃ acc, H4 p = some (.lst acc) ∧ acc.length < sizeLine ∧ Nx (upd H4 p (.lst (acc ++ [y]))) else Nx H3) := by
  intro p hp
  let Iv : Nat → Hp → Prop := fun i H => ∃ Gc vs acc rest, Mid G1 H1 p Gc H ∧ H p = some (.lst vs) ∧ Reps K ca Gc vs acc ∧ lcGo (lcTurn ρ own g t f) (xs.drop i) = some rest ∧ acc ++ rest = ys
  refine ⟨fun i m H => m = xs.length - i ∧ i ≤ xs.length ∧ Iv i H, ⟨xs.length, rfl, Nat.zero_le _, G1, [], [], ys, Mid.start S.le hp, upd_same, .nil, e, rfl⟩, ?_⟩
  rintro i m H ⟨rfl, hi, Gc, vs, acc, rest, md, hv, rv, er, ey⟩
  obtain ⟨w1, w2⟩ := wk Gc H md.g md.le md.h.fz i
  have hys := lcGo_len e
  by_cases hlt : i < xs.length
  · right
    have hx : xs[i]? = some xs[i] := List.getElem?_eq_getElem hlt
    obtain ⟨go, yl⟩ := w1 _ hx
    refine ⟨go, Iv (i + 1), fun H' h' => ⟨xs.length - (i + 1), by omega, rfl, hlt, h'⟩, fun x H' y => ?_⟩
    obtain ⟨G', gr, rx⟩ := yl x H' y
    have m1 := md.gr (by rw [hv]; intro z; cases z) gr
    have hv1 : H' p = some (.lst vs) := gr.h _ _ hv
    rw [List.drop_eq_getElem_cons hlt] at er
    obtain ⟨r, zs, er1, er2, er3⟩ := lcGo_cons er
    obtain ⟨us, b, e1, e2, e3, e4⟩ := lcTurn_some er1
    refine ⟨G', _, us, m1.le, rx, e1, fun ws hw => ?_⟩
    have S' : Sg K ca G' H' σ ρ := ⟨m1.le, S.len, fun j d z => let ⟨v, a, b⟩ := S.at_ j d z; ⟨v, a, b.mono m1.g⟩⟩
    have S2 : Sg K ca G' H' (setV (L2.wipe σ own) ws) (setR (wipeR ρ own) us) := (S'.wipe own).ups hw
    refine ⟨(wipe_setV hw e2).trans (wipe_wipe own), G', _, b, S2, e3, fun H3 G3 g3 => ?_⟩
    have m3 := m1.gr (by rw [hv1]; intro z; cases z) g3
    have hv3 : H3 p = some (.lst vs) := g3.h _ _ hv1
    rcases e4 with ⟨rfl, y, ef, rfl⟩ | ⟨rfl, rfl⟩
    · refine iteT ?_
      refine ⟨G3, _, y, S2.gr g3, ef, fun v H4 G4 g4 r4 => ?_⟩
      have m4 := m3.gr (by rw [hv3]; intro z; cases z) g4
      have hv4 : H4 p = some (.lst vs) := g4.h _ _ hv3
      dsimp only at er3
      have ela : acc.length ≤ ys.length := by rw [← ey, List.length_append]; omega
      refine ⟨vs, hv4, lim_lt (by rw [rv.length]; omega), G4, _, acc ++ [y], zs, m4.put hp, upd_same, (((rv.mono gr.g).mono g3.g).mono g4.g).app (.cons r4 .nil), er2, ?_⟩
      rw [← ey, er3, List.append_assoc]
      rfl
    · refine iteF ?_
      dsimp only at er3
      exact ⟨G3, vs, acc, zs, m3, hv3, ((rv.mono gr.g).mono g3.g), er2, by rw [← ey, er3]⟩
  · left
    have ei : i = xs.length := by omega
    subst ei
    rw [List.drop_length] at er
    cases er
    rw [List.append_nil] at ey
    subst ey
    refine ⟨w2 (Nat.le_refl _), k _ H (upd Gc p (.lst vs)) (md.fin hp hv) ?_⟩
    refine .lst upd_same (by omega) (rv.mono ?_)
    intro a u z
    rw [upd_ne (ne_of_none z md.no)]
    exact z
end
section
variable {X : Cx} {ca : Nat → Addr} {elt tg iter : Expr} {ifs : List Expr} {scope : Scope} {own : List (Str × Nat)} {pos : Pos} {it : Rho → Option (List D)} {g : Tgt} {t : Rho → Option Bool} {f : Rho → Option D}
theorem dts_nil : PTs X [] (tDT X.K ca t_yes) := ⟨fun pins s σ H Q I h => pts_nil.run pins s σ H Q I (by
  obtain ⟨G, ρ, c, S, e, k⟩ := h
  cases e
  exact k H G (Gr.refl S.le))⟩
theorem dts_one {c : Expr} (h : PT X c (tDT X.K ca t)) : PTs X [c] (tDT X.K ca t) := pts_one h
theorem lc_of {σ : L2.St} {H : Hp} {Q : VK} {own : List Nat} (h : tD X.K ca (x_lc it own g t f) σ H Q) : tLc (tI X.K ca it) (tG X.K ca g) (tDT X.K ca t) (tD X.K ca f) own σ H Q := by
  obtain ⟨G, ρ, d, S, e, k⟩ := h
  unfold x_lc at e
  cases e1 : it ρ with
  | none => rw [e1] at e; cases e
  | some xs =>
    rw [e1, Option.bind_some] at e
    by_cases hl : xs.length ≤ LIM
    · rw [if_pos hl] at e
      cases e2 : lcGo (lcTurn ρ own g t f) xs with
      | none => rw [e2] at e; cases e
      | some ys =>
        rw [e2, Option.bind_some] at e
        cases e
        exact ⟨G, ρ, xs, S, e1, hl, fun J H1 G1 gr wk => lc_go (S.gr gr) wk hl e2 fun v H' G' g2 r => k v H' G' (gr.trans g2) r⟩
    · rw [if_neg hl] at e; cases e
theorem d_lc (hc : X.calm = true) (hN : X.N.Nodup) (hi : PI X tg iter (tI X.K ca it)) (ok : BlkOk X.N X.env.scope scope own)
    (hg : ∀ (s : Shared) (H : Hp) (C : Addr) (cl : List (Str × Addr)) (fp : List Addr), PG (X.blk s H scope (compEnvC scope cl C X.env) fp) tg (tG X.K ca g)) (ht : ∀ (s : Shared) (H : Hp) (C : Addr) (cl : List (Str × Addr)) (fp : List Addr), PTs (X.blk s H scope (compEnvC scope cl C X.env) fp) ifs (tDT X.K ca t))
    (he : ∀ (s : Shared) (H : Hp) (C : Addr) (cl : List (Str × Addr)) (fp : List Addr), PE (X.blk s H scope (compEnvC scope cl C X.env) fp) elt (tD X.K ca f)) (hs : ∀ x, foldedSetIterable iter X.env x = pure x := by intro _; rfl) :
    PE X (.ListComp elt [⟨tg, iter, ifs, 0⟩] scope pos) (tD X.K ca (x_lc it (own.map (·.2)) g t f)) :=
  PE.imp (pe_lc hc hN hi ok hg ht he hs) fun σ H Q h => lc_of h
end
end DL
/-! Layer D: statements. -/
namespace DL
open PySem L2
/-- a slot: empty, plain data, a list or a dict that this body alone holds (and may change) -/
inductive Sl where
  | un | d (x : D) | ol (xs : List D) | od (ks : List Str) (ds : List D)
  deriving Inhabited
abbrev RhoS := List Sl
def maskS : Sl → Option D | .d x => some x | _ => none
def peekS : Sl → Option D | .d x => some x | .ol xs => some (.lst xs) | .od ks ds => some (.dic ks ds) | .un => none
def mask (ρ : RhoS) : Rho := ρ.map maskS
def peek (ρ : RhoS) : Rho := ρ.map peekS
def isOwn : Sl → Prop | .ol _ => True | .od _ _ => True | _ => False
def setS (ρ : RhoS) : List (Nat × D) → RhoS
  | [] => ρ
  | w :: ws => setS (ρ.set w.1 (.d w.2)) ws
inductive Out where
  | nx (ρ : RhoS) | rt (d : D)
abbrev SF := RhoS → Option Out
def OwnRep (K : PySem.W.Frag) (ca : Nat → Addr) (G : Hp) : HO → Sl → Prop
  | .lst vs, .ol xs => xs.length ≤ LIM ∧ Reps K ca G vs xs
  | .dK kvs, .od ks ds => ∃ vs, kvs = zipK ks vs ∧ ks.length = ds.length ∧ ks.length ≤ LIM ∧ ks.Nodup ∧ Reps K ca G vs ds
  | _, _ => False
structure SgS (K : PySem.W.Frag) (ca : Nat → Addr) (G0 H0 G H : Hp) (σ : L2.St) (ρ : RhoS) : Prop where
  g0 : Ex G0 G
  h0 : Ex H0 H
  le : Le G H
  nw : ∀ a o, G a = some o → G0 a = some o ∨ H0 a = none
  len : ρ.length = σ.length
  at_ : ∀ (i : Nat) (d : D), ρ[i]? = some (.d d) → ∃ v, σ[i]? = some (some v) ∧ Rep K ca G v d
  own : ∃ pa : Nat → Addr, (∀ i s, ρ[i]? = some s → isOwn s → σ[i]? = some (some (.ref (pa i))) ∧ H0 (pa i) = none ∧ G (pa i) = none ∧ ∃ o, H (pa i) = some o ∧ OwnRep K ca G o s) ∧
    ∀ i j s t, ρ[i]? = some s → isOwn s → ρ[j]? = some t → isOwn t → pa i = pa j → i = j
section
variable {K : PySem.W.Frag} {ca : Nat → Addr} {G0 H0 G H G' H' : Hp} {σ : L2.St} {ρ : RhoS}
theorem OwnRep.mono (e : Ex G G') : ∀ {o : HO} {s : Sl}, OwnRep K ca G o s → OwnRep K ca G' o s := fun {o s} h => by
  cases o <;> cases s <;> first | exact h.elim | exact ⟨h.1, h.2.mono e⟩ | (obtain ⟨vs, a, b, c, n, r⟩ := h; exact ⟨vs, a, b, c, n, r.mono e⟩)
theorem Gr.keep {p : Addr} {o : HO} (g : Gr G H G' H') (h : G p = none) (e : H p = some o) : G' p = none := by
  cases q : G' p with
  | none => rfl
  | some u =>
    rcases g.nw p u q with z | z
    · rw [h] at z; cases z
    · rw [e] at z; cases z
theorem SgS.gr (s : SgS K ca G0 H0 G H σ ρ) (g : Gr G H G' H') : SgS K ca G0 H0 G' H' σ ρ where
  g0 := s.g0.trans g.g
  h0 := s.h0.trans g.h
  le := g.le
  nw := fun a o z => by
    rcases g.nw a o z with q | q
    · exact s.nw a o q
    · exact .inr (s.h0.nn q)
  len := s.len
  at_ := fun i d e => let ⟨v, a, b⟩ := s.at_ i d e; ⟨v, a, b.mono g.g⟩
  own := by
    obtain ⟨pa, h1, h2⟩ := s.own
    refine ⟨pa, fun i t e ho => ?_, h2⟩
    obtain ⟨a, b, c, o, d, r⟩ := h1 i t e ho
    exact ⟨a, b, g.keep c d, o, g.h _ _ d, r.mono g.g⟩
theorem SgS.mask (s : SgS K ca G0 H0 G H σ ρ) : Sg K ca G H σ (mask ρ) := ⟨s.le, by unfold DL.mask; rw [List.length_map]; exact s.len, fun i d e => by
  unfold DL.mask at e
  rw [List.getElem?_map] at e
  cases q : ρ[i]? with
  | none => rw [q] at e; cases e
  | some t =>
    rw [q] at e
    cases t with
    | d x => cases e; exact s.at_ i _ q
    | _ => cases e⟩
theorem SgS.toGr (s : SgS K ca G0 H0 G H σ ρ) : Gr G0 H0 G H := ⟨s.g0, s.le, s.h0, s.nw⟩
/-- while an expression is evaluated, what is owned may be read as data -/
theorem SgS.peek (s : SgS K ca G0 H0 G H σ ρ) : ∃ Gp, Ex G Gp ∧ (∀ a o, Gp a = some o → G a = some o ∨ H0 a = none) ∧ Sg K ca Gp H σ (peek ρ) := by
  classical
  obtain ⟨pa, h1, h2⟩ := id s.own
  let P : Addr → Prop := fun a => ∃ i t, ρ[i]? = some t ∧ isOwn t ∧ a = pa i
  let Gp : Hp := fun a => if P a then H a else G a
  have gno : ∀ a, P a → G a = none := fun a ⟨i, t, e, ho, q⟩ => by rw [q]; exact (h1 i t e ho).2.2.1
  have ex : Ex G Gp := fun a o z => by
    show (if P a then H a else G a) = some o
    rw [if_neg (fun p => by rw [gno a p] at z; cases z)]
    exact z
  refine ⟨Gp, ex, fun a o z => ?_, ⟨fun a o z => ?_, by unfold DL.peek; rw [List.length_map]; exact s.len, fun i d e => ?_⟩⟩
  · have z' : (if P a then H a else G a) = some o := z
    by_cases p : P a
    · obtain ⟨i, t, e, ho, q⟩ := p
      rw [q]
      exact .inr (h1 i t e ho).2.1
    · rw [if_neg p] at z'; exact .inl z'
  · have z' : (if P a then H a else G a) = some o := z
    by_cases p : P a
    · rw [if_pos p] at z'; exact .inl z'
    · rw [if_neg p] at z'; exact s.le a o z'
  · unfold DL.peek at e
    rw [List.getElem?_map] at e
    cases q : ρ[i]? with
    | none => rw [q] at e; cases e
    | some t =>
      rw [q] at e
      have pp : isOwn t → P (pa i) := fun ho => ⟨i, t, q, ho, rfl⟩
      cases t with
      | un => cases e
      | d x =>
        cases e
        obtain ⟨v, a, b⟩ := s.at_ i _ q
        exact ⟨v, a, b.mono ex⟩
      | ol xs =>
        cases e
        obtain ⟨a, b, c, o, e1, r⟩ := h1 i _ q trivial
        cases o <;> first | exact r.elim | skip
        exact ⟨_, a, .lst (show (if P (pa i) then H (pa i) else G (pa i)) = _ by rw [if_pos (pp trivial)]; exact e1) r.1 (r.2.mono ex)⟩
      | od ks ds =>
        cases e
        obtain ⟨a, b, c, o, e1, r⟩ := h1 i _ q trivial
        cases o <;> first | exact r.elim | skip
        obtain ⟨vs, rfl, r1, r2, r3, r4⟩ := r
        exact ⟨_, a, .dic (show (if P (pa i) then H (pa i) else G (pa i)) = _ by rw [if_pos (pp trivial)]; exact e1) r1 r2 r3 (r4.mono ex)⟩
/-- the heap alone has grown -/
theorem SgS.hgr (s : SgS K ca G0 H0 G H σ ρ) (h : Ex H H') : SgS K ca G0 H0 G H' σ ρ where
  g0 := s.g0
  h0 := s.h0.trans h
  le := s.le.ex_trans h
  nw := s.nw
  len := s.len
  at_ := s.at_
  own := by
    obtain ⟨pa, h1, h2⟩ := s.own
    refine ⟨pa, fun i t e ho => ?_, h2⟩
    obtain ⟨a, b, c, o, d, r⟩ := h1 i t e ho
    exact ⟨a, b, c, o, h _ _ d, r⟩
theorem set_get {α : Type} {l : List α} {i j : Nat} {a b : α} (h : (l.set i a)[j]? = some b) : (i = j ∧ b = a ∧ i < l.length) ∨ (i ≠ j ∧ l[j]? = some b) := by
  by_cases q : i = j
  · subst q
    have hi : i < l.length := by
      have := (List.getElem?_eq_some_iff.mp h).1
      rwa [List.length_set] at this
    rw [List.getElem?_set_self hi] at h
    exact .inl ⟨rfl, (Option.some.inj h).symm, hi⟩
  · rw [List.getElem?_set_ne q] at h
    exact .inr ⟨q, h⟩
theorem SgS.set {i : Nat} {v : V} {d : D} (s : SgS K ca G0 H0 G H σ ρ) (r : Rep K ca G v d) : SgS K ca G0 H0 G H (σ.set i (some v)) (ρ.set i (.d d)) where
  g0 := s.g0
  h0 := s.h0
  le := s.le
  nw := s.nw
  len := by rw [List.length_set, List.length_set]; exact s.len
  at_ := fun j x e => by
    rcases set_get e with ⟨rfl, h, hi⟩ | ⟨hn, e⟩
    · cases h
      exact ⟨v, by rw [List.getElem?_set_self (by rw [← s.len]; exact hi)], r⟩
    · obtain ⟨w, a, b⟩ := s.at_ j x e
      exact ⟨w, by rw [List.getElem?_set_ne hn]; exact a, b⟩
  own := by
    obtain ⟨pa, h1, h2⟩ := s.own
    refine ⟨pa, fun j t e ho => ?_, fun j k t u e1 o1 e2 o2 q => ?_⟩
    · rcases set_get e with ⟨rfl, rfl, hi⟩ | ⟨hn, e⟩
      · exact ho.elim
      · obtain ⟨a, b⟩ := h1 j t e ho
        exact ⟨by rw [List.getElem?_set_ne hn]; exact a, b⟩
    · rcases set_get e1 with ⟨rfl, rfl, _⟩ | ⟨n1, e1⟩
      · exact o1.elim
      · rcases set_get e2 with ⟨rfl, rfl, _⟩ | ⟨n2, e2⟩
        · exact o2.elim
        · exact h2 j k t u e1 o1 e2 o2 q
theorem SgS.ups {ws : List (Nat × V)} {us : List (Nat × D)} {σ : L2.St} {ρ : RhoS} (s : SgS K ca G0 H0 G H σ ρ) (u : Ups K ca G ws us) : SgS K ca G0 H0 G H (setV σ ws) (setS ρ us) := by
  induction u generalizing σ ρ with
  | nil => exact s
  | cons r t ih => exact ih (s.set r)
/-- a new object that this body alone holds -/
theorem SgS.newOwn {i : Nat} {p : Addr} {o : HO} {t : Sl} (s : SgS K ca G0 H0 G H σ ρ) (hp : H p = none) (ho : isOwn t) (r : OwnRep K ca G o t) : SgS K ca G0 H0 G (upd H p o) (σ.set i (some (.ref p))) (ρ.set i t) where
  g0 := s.g0
  h0 := s.h0.trans (Ex.new hp)
  le := s.le.ex_trans (Ex.new hp)
  nw := s.nw
  len := by rw [List.length_set, List.length_set]; exact s.len
  at_ := fun j x e => by
    rcases set_get e with ⟨rfl, h, hi⟩ | ⟨hn, e⟩
    · subst h; exact ho.elim
    · obtain ⟨w, a, b⟩ := s.at_ j x e
      exact ⟨w, by rw [List.getElem?_set_ne hn]; exact a, b⟩
  own := by
    obtain ⟨pa, h1, h2⟩ := s.own
    have old : ∀ j u, ρ[j]? = some u → isOwn u → pa j ≠ p := fun j u e ou q => by
      obtain ⟨_, _, _, o', e', _⟩ := h1 j u e ou
      rw [q, hp] at e'; cases e'
    refine ⟨fun j => if j = i then p else pa j, fun j u e ou => ?_, fun j k u w e1 o1 e2 o2 q => ?_⟩
    · rcases set_get e with ⟨rfl, rfl, hi⟩ | ⟨hn, e⟩
      · dsimp only
        rw [if_pos rfl]
        exact ⟨by rw [List.getElem?_set_self (by rw [← s.len]; exact hi)], s.h0.nn hp, s.le.nn hp, o, upd_same, r⟩
      · obtain ⟨a, b, c, o', e', r'⟩ := h1 j u e ou
        dsimp only
        rw [if_neg (Ne.symm hn)]
        exact ⟨by rw [List.getElem?_set_ne hn]; exact a, b, c, o', by rw [upd_ne (old j u e ou)]; exact e', r'⟩
    · dsimp only at q
      rcases set_get e1 with ⟨a1, b1, _⟩ | ⟨n1, f1⟩
      · rcases set_get e2 with ⟨a2, b2, _⟩ | ⟨n2, f2⟩
        · exact a1.symm.trans a2
        · rw [if_pos a1.symm, if_neg (Ne.symm n2)] at q
          exact absurd q.symm (old k w f2 o2)
      · rcases set_get e2 with ⟨a2, b2, _⟩ | ⟨n2, f2⟩
        · rw [if_pos a2.symm, if_neg (Ne.symm n1)] at q
          exact absurd q (old j u f1 o1)
        · rw [if_neg (Ne.symm n1), if_neg (Ne.symm n2)] at q
          exact h2 j k u w f1 o1 f2 o2 q
/-- an owned object is changed -/
theorem SgS.put {i : Nat} {p : Addr} {o' : HO} {t t' : Sl} (s : SgS K ca G0 H0 G H σ ρ) (e : ρ[i]? = some t) (ht : isOwn t) (hp : σ[i]? = some (some (.ref p))) (ho : isOwn t') (r : OwnRep K ca G o' t') (nd : ∀ ob kvs, o' ≠ .frz ob kvs) : SgS K ca G0 H0 G (upd H p o') σ (ρ.set i t') where
  g0 := s.g0
  h0 := by
    obtain ⟨pa, h1, h2⟩ := s.own
    obtain ⟨a, b, _⟩ := h1 i t e ht
    rw [a] at hp
    cases hp
    exact fun x u z => by rw [upd_ne (ne_of_none z b)]; exact s.h0 x u z
  le := by
    obtain ⟨pa, h1, h2⟩ := s.own
    obtain ⟨a, b, c, _⟩ := h1 i t e ht
    rw [a] at hp
    cases hp
    exact fun x u z => by rw [upd_ne (ne_of_none z c)]; exact s.le x u z
  nw := s.nw
  len := by rw [List.length_set]; exact s.len
  at_ := fun j x z => by
    rcases set_get z with ⟨rfl, h, hi⟩ | ⟨hn, z⟩
    · subst h; exact ho.elim
    · exact s.at_ j x z
  own := by
    obtain ⟨pa, h1, h2⟩ := s.own
    have q0 := h1 i t e ht
    have ep : pa i = p := by
      have z := q0.1
      rw [hp] at z
      cases z
      rfl
    refine ⟨pa, fun j u z ou => ?_, fun j k u w e1 o1 e2 o2 q => ?_⟩
    · rcases set_get z with ⟨rfl, rfl, hi⟩ | ⟨hn, z⟩
      · exact ⟨q0.1, q0.2.1, q0.2.2.1, o', by rw [ep]; exact upd_same, r⟩
      · obtain ⟨a, b, c, o2, e2, r2⟩ := h1 j u z ou
        refine ⟨a, b, c, o2, ?_, r2⟩
        rw [upd_ne]
        · exact e2
        · intro x
          exact hn (h2 i j t u e ht z ou (ep.trans x.symm))
    · have back : ∀ {j u}, (ρ.set i t')[j]? = some u → isOwn u → ∃ u', ρ[j]? = some u' ∧ isOwn u' := fun {j u} z ou => by
        rcases set_get z with ⟨rfl, rfl, hi⟩ | ⟨hn, z⟩
        · exact ⟨t, e, ht⟩
        · exact ⟨u, z, ou⟩
      obtain ⟨u1, a1, b1⟩ := back e1 o1
      obtain ⟨u2, a2, b2⟩ := back e2 o2
      exact h2 j k u1 u2 a1 b1 a2 b2 q
theorem SgS.ownAt {i : Nat} {t : Sl} (s : SgS K ca G0 H0 G H σ ρ) (e : ρ[i]? = some t) (ht : isOwn t) : ∃ p o, σ[i]? = some (some (.ref p)) ∧ H p = some o ∧ OwnRep K ca G o t := by
  obtain ⟨pa, h1, h2⟩ := s.own
  obtain ⟨a, b, c, o, d, r⟩ := h1 i t e ht
  exact ⟨_, o, a, d, r⟩
/-- what is owned becomes data -/
theorem SgS.frz {i : Nat} {t : Sl} {d : D} (s : SgS K ca G0 H0 G H σ ρ) (e : ρ[i]? = some t) (ht : isOwn t) (hd : peekS t = some d) : ∃ G', SgS K ca G0 H0 G' H σ (ρ.set i (.d d)) := by
  obtain ⟨pa, h1, h2⟩ := s.own
  obtain ⟨a, b, c, o, d1, r⟩ := h1 i t e ht
  have hH : H (pa i) ≠ none := by rw [d1]; intro z; cases z
  have ex : Ex G (upd G (pa i) o) := Ex.new c
  refine ⟨upd G (pa i) o, ⟨s.g0.trans ex, s.h0, fun x u z => ?_, fun x u z => ?_, by rw [List.length_set]; exact s.len, fun j x z => ?_, pa, fun j u z ou => ?_, fun j k u w e1 o1 e2 o2 q => ?_⟩⟩
  · by_cases q : x = pa i
    · subst q; rw [upd_same] at z; cases z; exact .inl d1
    · rw [upd_ne q] at z; exact s.le x u z
  · by_cases q : x = pa i
    · subst q; exact .inr b
    · rw [upd_ne q] at z; exact s.nw x u z
  · rcases set_get z with ⟨rfl, h, hi⟩ | ⟨hn, z⟩
    · cases h
      refine ⟨_, a, ?_⟩
      cases t with
      | ol xs =>
        cases hd
        cases o <;> first | exact r.elim | skip
        exact .lst upd_same r.1 (r.2.mono ex)
      | od ks ds =>
        cases hd
        cases o <;> first | exact r.elim | skip
        obtain ⟨vs, rfl, r1, r2, r3, r4⟩ := r
        exact .dic upd_same r1 r2 r3 (r4.mono ex)
      | _ => exact ht.elim
    · obtain ⟨w, x1, x2⟩ := s.at_ j x z
      exact ⟨w, x1, x2.mono ex⟩
  · rcases set_get z with ⟨rfl, rfl, hi⟩ | ⟨hn, z⟩
    · exact ou.elim
    · obtain ⟨a', b', c', o', d', r'⟩ := h1 j u z ou
      refine ⟨a', b', ?_, o', d', r'.mono ex⟩
      rw [upd_ne]
      · exact c'
      · intro x
        exact hn (h2 i j t u e ht z ou x.symm)
  · rcases set_get e1 with ⟨rfl, rfl, _⟩ | ⟨n1, e1⟩
    · exact o1.elim
    · rcases set_get e2 with ⟨rfl, rfl, _⟩ | ⟨n2, e2⟩
      · exact o2.elim
      · exact h2 j k u w e1 o1 e2 o2 q
/-- what is owned is left out of the base for a loop -/
theorem SgS.rebase (s : SgS K ca G0 H0 G H σ ρ) : ∃ H1, (∀ a o, H0 a = some o → H1 a = some o) ∧ Fz H H1 ∧ SgS K ca G H1 G H σ ρ := by
  classical
  obtain ⟨pa, h1, h2⟩ := id s.own
  let P : Addr → Prop := fun a => ∃ i t, ρ[i]? = some t ∧ isOwn t ∧ a = pa i
  let H1 : Hp := fun a => if P a then none else H a
  refine ⟨H1, fun a o z => ?_, fun a ob u z => ?_, ⟨Ex.refl _, fun a o z => ?_, s.le, fun a o z => .inl z, s.len, s.at_, pa, fun i t e ho => ?_, h2⟩⟩
  · show (if P a then none else H a) = some o
    rw [if_neg]
    · exact s.h0 a o z
    · rintro ⟨i, t, e, ho, rfl⟩
      rw [(h1 i t e ho).2.1] at z; cases z
  · show (if P a then none else H a) = some (.frz ob u)
    rw [if_neg]
    · exact z
    · rintro ⟨i, t, e, ho, rfl⟩
      obtain ⟨_, _, _, o, d, r⟩ := h1 i t e ho
      rw [z] at d
      cases d
      cases t <;> exact r.elim
  · have z' : (if P a then none else H a) = some o := z
    by_cases p : P a
    · rw [if_pos p] at z'; cases z'
    · rw [if_neg p] at z'; exact z'
  · obtain ⟨a, b, c, o, d, r⟩ := h1 i t e ho
    exact ⟨a, if_pos ⟨i, t, e, ho, rfl⟩, c, o, d, r⟩
theorem SgS.back {H1 : Hp} {σ' : L2.St} {ρ' : RhoS} (s : SgS K ca G0 H0 G H σ ρ) (hb : ∀ a o, H0 a = some o → H1 a = some o) (t : SgS K ca G H1 G' H' σ' ρ') : SgS K ca G0 H0 G' H' σ' ρ' where
  g0 := s.g0.trans t.g0
  h0 := Ex.trans hb t.h0
  le := t.le
  nw := fun a o z => by
    rcases t.nw a o z with q | q
    · exact s.nw a o q
    · exact .inr (Ex.nn hb q)
  len := t.len
  at_ := t.at_
  own := by
    obtain ⟨pa, h1, h2⟩ := t.own
    refine ⟨pa, fun i u e ou => ?_, h2⟩
    obtain ⟨a, b, c⟩ := h1 i u e ou
    exact ⟨a, Ex.nn hb b, c⟩
end
/-! ### the reading of a statement -/
def endO (K : PySem.W.Frag) (ca : Nat → Addr) (G0 H0 : Hp) (D : Ends) : Out → Prop
  | .nx ρ' => ∀ σ' H' G', SgS K ca G0 H0 G' H' σ' ρ' → D.nx σ' H'
  | .rt d => ∀ v H' G', Gr G0 H0 G' H' → Rep K ca G' v d → D.rt v H'
def tS (K : PySem.W.Frag) (ca : Nat → Addr) (F : SF) : TS := fun D σ H => ∃ G0 H0 G ρ o, SgS K ca G0 H0 G H σ ρ ∧ F ρ = some o ∧ endO K ca G0 H0 D o
def s_nil : SF := fun ρ => some (.nx ρ)
def s_seq (F1 F2 : SF) : SF := fun ρ => (F1 ρ).bind fun o => match o with | .nx ρ' => F2 ρ' | .rt d => some (.rt d)
def s_set (g : Tgt) (f : Rho → Option D) : SF := fun ρ => (f (mask ρ)).bind fun d => (g d).bind fun us => some (.nx (setS ρ us))
def s_setP (i : Nat) (f : Rho → Option D) : SF := fun ρ => (f (peek ρ)).bind fun d => if flatD d = true then some (.nx (ρ.set i (.d d))) else none
def s_ret (f : Rho → Option D) : SF := fun ρ => (f (peek ρ)).bind fun d => some (.rt d)
def s_if (t : Rho → Option Bool) (F1 F2 : SF) : SF := fun ρ => (t (peek ρ)).bind fun b => if b = true then F1 ρ else F2 ρ
def forGo (g : Tgt) (F : SF) : List D → SF
  | [], ρ => some (.nx ρ)
  | x :: xs, ρ => (g x).bind fun us => (F (setS ρ us)).bind fun o => match o with | .nx ρ' => forGo g F xs ρ' | .rt d => some (.rt d)
def s_for (it : Rho → Option (List D)) (g : Tgt) (F : SF) : SF := fun ρ => (it (mask ρ)).bind fun xs => if xs.length ≤ LIM then forGo g F xs ρ else none
def s_newL (i : Nat) : SF := fun ρ => some (.nx (ρ.set i (.ol [])))
def s_app (i : Nat) (f : Rho → Option D) : SF := fun ρ => match ρ[i]? with
  | some (.ol xs) => (f (mask ρ)).bind fun d => if xs.length < LIM then some (.nx (ρ.set i (.ol (xs ++ [d])))) else none
  | _ => none
def s_appP (i : Nat) (f : Rho → Option D) : SF := fun ρ => match ρ[i]? with
  | some (.ol xs) => (f (peek ρ)).bind fun d => if xs.length < LIM ∧ flatD d = true then some (.nx (ρ.set i (.ol (xs ++ [d])))) else none
  | _ => none
def s_ext (i : Nat) (f : Rho → Option D) : SF := fun ρ => match ρ[i]? with
  | some (.ol xs) => (f (mask ρ)).bind fun d => match d with
    | .lst ys => if xs.length + ys.length ≤ LIM then some (.nx (ρ.set i (.ol (xs ++ ys)))) else none
    | _ => none
  | _ => none
def s_frz (i : Nat) : SF := fun ρ => match ρ[i]? with
  | some (.ol xs) => some (.nx (ρ.set i (.d (.lst xs))))
  | some (.od ks ds) => some (.nx (ρ.set i (.d (.dic ks ds))))
  | _ => none
def s_never : SF := fun _ => none
section
variable {X : Cx} {ca : Nat → Addr} {st : Stmt} {rest : List Stmt} {e tg : Expr} {pos : Pos} {F F1 F2 : SF} {f f1 f2 f3 : Rho → Option D} {g : Tgt} {t : Rho → Option Bool}
theorem scal_rep {K : PySem.W.Frag} {G G' : Hp} {v : V} {d : D} (r : Rep K ca G v d) (h : flatD d = true) : Rep K ca G' v d := by
  cases r <;> first | exact .non | exact .bl _ | exact .int _ | exact .str _ | cases h
theorem dss_nil : PSs X [] (tS X.K ca s_nil) := PSs.imp pss_nil fun D σ H ⟨G0, H0, G, ρ, o, S, e, k⟩ => by
  cases e
  exact k σ H G S
theorem dss_cons (h1 : PS X st (tS X.K ca F1)) (h2 : PSs X rest (tS X.K ca F2)) : PSs X (st :: rest) (tS X.K ca (s_seq F1 F2)) :=
  PSs.imp (pss_cons h1 h2) fun D σ H ⟨G0, H0, G, ρ, o, S, e, k⟩ => by
    unfold s_seq at e
    cases e1 : F1 ρ with
    | none => rw [e1] at e; cases e
    | some o1 =>
      rw [e1, Option.bind_some] at e
      refine ⟨G0, H0, G, ρ, o1, S, e1, ?_⟩
      cases o1 with
      | nx ρ' => exact fun σ' H' G' S' => ⟨G0, H0, G', ρ', o, S', e, k⟩
      | rt d => cases e; exact k
/-- a word between statements: what is owned becomes data -/
theorem dss_frz {i : Nat} (h : PSs X rest (tS X.K ca F)) : PSs X rest (tS X.K ca (s_seq (s_frz i) F)) := PSs.imp h fun D σ H ⟨G0, H0, G, ρ, o, S, e, k⟩ => by
  unfold s_seq s_frz at e
  cases q : ρ[i]? with
  | none => rw [q] at e; cases e
  | some t =>
    rw [q] at e
    cases t with
    | ol xs =>
      obtain ⟨G', S'⟩ := S.frz q trivial rfl
      exact ⟨G0, H0, G', _, o, S', e, k⟩
    | od ks ds =>
      obtain ⟨G', S'⟩ := S.frz q trivial rfl
      exact ⟨G0, H0, G', _, o, S', e, k⟩
    | _ => cases e
theorem ds_never : PS X st (tS X.K ca s_never) := PS.imp ps_never fun D σ H ⟨G0, H0, G, ρ, o, S, e, k⟩ => by cases e
theorem dss_never : PSs X rest (tS X.K ca s_never) := PSs.imp pss_never fun D σ H ⟨G0, H0, G, ρ, o, S, e, k⟩ => by cases e
theorem go_set {D : Ends} {σ : L2.St} {H : Hp} (h : tS X.K ca (s_set g f) D σ H) : tAsg (tD X.K ca f) (tG X.K ca g) D σ H := by
  obtain ⟨G0, H0, G, ρ, o, S, e, k⟩ := h
  unfold s_set at e
  cases e1 : f (mask ρ) with
  | none => rw [e1] at e; cases e
  | some d =>
    rw [e1, Option.bind_some] at e
    cases e2 : g d with
    | none => rw [e2] at e; cases e
    | some us =>
      rw [e2, Option.bind_some] at e
      cases e
      exact ⟨G, mask ρ, d, S.mask, e1, fun v H1 G1 g1 r1 => ⟨G1, d, us, g1.le, r1, e2, fun ws hw => k _ _ _ ((S.gr g1).ups hw)⟩⟩
theorem ds_asg (he : PE X e (tD X.K ca f)) (hg : PG X tg (tG X.K ca g)) (hs : swapsWithSole [tg] e pos.line X.env = pure false := by rfl) (hw : swappedStores [tg] e X.env = pure none := by rfl)
    (h1 : (assignEach [tg] X.env).map (·.2) = [assign tg X.env] := by rfl) : PS X (.Assign [tg] e pos) (tS X.K ca (s_set g f)) := PS.imp (ps_asg he hg hs hw h1) fun D σ H h => go_set h
theorem go_name {D : Ends} {σ : L2.St} {H : Hp} {i : Nat} (h : tS X.K ca (s_set (g_name i) f) D σ H) : tAsg (tD X.K ca f) (gName i) D σ H := by
  obtain ⟨G, ρ, d, S, e, k⟩ := go_set h
  exact ⟨G, ρ, d, S, e, fun v H1 G1 g1 r1 => by
    obtain ⟨G2, d2, us, le, r2, e2, k2⟩ := k v H1 G1 g1 r1
    cases e2
    exact k2 [(i, v)] (.cons r2 .nil)⟩
theorem ds_set {i : Nat} {x : Str} {pos' : Pos} (hN : X.N.Nodup) (he : PE X e (tD X.K ca f)) (hi : X.N[i]? = some x := by rfl) (hx : Loc X.env.scope x := by first | exact Or.inl rfl | exact Or.inr rfl) (hs : swapsWith e (some (.Name x pos')) pos.line X.env = pure false := by rfl)
    (hf : X.fn x = true ∨ X.env.scope.names.lookup x = some .local := by first | exact .inl rfl | exact .inr rfl) : PS X (.Assign [.Name x pos'] e pos) (tS X.K ca (s_set (g_name i) f)) := PS.imp (ps_set hN hi hx he hs hf) fun D σ H h => go_name h
/-- y = [..] on one line, y a plain local -/
theorem ds_setLc {i : Nat} {y : Str} {py : Pos} {elt iter : Expr} {ifs : List Expr} {scope : Scope} {own : List (Str × Nat)} {lpos spos : Pos} {it : Rho → Option (List D)} (hc : X.calm = true) (hN : X.N.Nodup) (hy : X.N[i]? = some y) (hyl : X.env.scope.names.lookup y = some .local)
    (hsw : swapsWith (.ListComp elt [⟨tg, iter, ifs, 0⟩] scope lpos) (some (.Name y py)) spos.line X.env = pure true) (hi : PI X tg iter (tI X.K ca it)) (ok : BlkOk X.N X.env.scope scope own)
    (hg : ∀ (s : Shared) (H : Hp) (C : Addr) (cl : List (Str × Addr)) (fp : List Addr), PG (X.blk s H scope (compEnvC scope cl C X.env) fp) tg (tG X.K ca g)) (ht : ∀ (s : Shared) (H : Hp) (C : Addr) (cl : List (Str × Addr)) (fp : List Addr), PTs (X.blk s H scope (compEnvC scope cl C X.env) fp) ifs (tDT X.K ca t))
    (he : ∀ (s : Shared) (H : Hp) (C : Addr) (cl : List (Str × Addr)) (fp : List Addr), PE (X.blk s H scope (compEnvC scope cl C X.env) fp) elt (tD X.K ca f)) (hs : ∀ x, foldedSetIterable iter X.env x = pure x := by intro _; rfl) :
    PS X (.Assign [.Name y py] (.ListComp elt [⟨tg, iter, ifs, 0⟩] scope lpos) spos) (tS X.K ca (s_set (g_name i) (x_lc it (own.map (·.2)) g t f))) :=
  PS.imp (ps_setLc hc hN hy hyl hsw hi ok hg ht he hs) fun D σ H h => by
    have h2 := go_name h
    exact lc_of h2
theorem peekD {K : PySem.W.Frag} {σ : L2.St} {H : Hp} {G0 H0 G : Hp} {ρ : RhoS} {d : D} {Q : VK} (S : SgS K ca G0 H0 G H σ ρ) (e : f (peek ρ) = some d) (hf : flatD d = true) (k : ∀ v H', SgS K ca G0 H0 G H' σ ρ → Rep K ca G v d → Ex H H' → Q v H') : tD K ca f σ H Q := by
  obtain ⟨Gp, _, _, Sp⟩ := S.peek
  exact ⟨Gp, peek ρ, d, Sp, e, fun v H' G' g r => k v H' (S.hgr g.h) (scal_rep r hf) g.h⟩
theorem ds_setP {i : Nat} {x : Str} {pos' : Pos} (hN : X.N.Nodup) (he : PE X e (tD X.K ca f)) (hi : X.N[i]? = some x := by rfl) (hx : Loc X.env.scope x := by first | exact Or.inl rfl | exact Or.inr rfl) (hs : swapsWith e (some (.Name x pos')) pos.line X.env = pure false := by rfl)
    (hf : X.fn x = true ∨ X.env.scope.names.lookup x = some .local := by first | exact .inl rfl | exact .inr rfl) : PS X (.Assign [.Name x pos'] e pos) (tS X.K ca (s_setP i f)) := PS.imp (ps_set hN hi hx he hs hf) fun D σ H ⟨G0, H0, G, ρ, o, S, e, k⟩ => by
  unfold s_setP at e
  cases e1 : f (peek ρ) with
  | none => rw [e1] at e; cases e
  | some d =>
    rw [e1, Option.bind_some] at e
    by_cases hf : flatD d = true
    · rw [if_pos hf] at e
      cases e
      exact peekD S e1 hf fun v H' S' r _ => k _ _ _ (S'.set r)
    · rw [if_neg hf] at e; cases e
theorem ds_ret (he : PE X e (tD X.K ca f)) : PS X (.Return (some e) pos) (tS X.K ca (s_ret f)) := PS.imp (ps_ret he) fun D σ H ⟨G0, H0, G, ρ, o, S, e, k⟩ => by
  unfold s_ret at e
  cases e1 : f (peek ρ) with
  | none => rw [e1] at e; cases e
  | some d =>
    rw [e1, Option.bind_some] at e
    cases e
    obtain ⟨Gp, ex, nw, Sp⟩ := S.peek
    exact ⟨Gp, peek ρ, d, Sp, e1, fun v H' G' g r => k v H' G' ⟨(S.g0.trans ex).trans g.g, g.le, S.h0.trans g.h, fun a o z => by
      rcases g.nw a o z with q | q
      · rcases nw a o q with q2 | q2
        · exact S.nw a o q2
        · exact .inr q2
      · exact .inr (S.h0.nn q)⟩ r⟩
theorem ds_if {c : Expr} {a b : List Stmt} (hc : PT X c (tDT X.K ca t)) (ha : PSs X a (tS X.K ca F1)) (hb : PSs X b (tS X.K ca F2)) : PS X (.If c a b pos) (tS X.K ca (s_if t F1 F2)) := PS.imp (ps_if hc ha hb) fun D σ H ⟨G0, H0, G, ρ, o, S, e, k⟩ => by
  unfold s_if at e
  cases e1 : t (peek ρ) with
  | none => rw [e1] at e; cases e
  | some c =>
    rw [e1, Option.bind_some] at e
    obtain ⟨Gp, ex, nw, Sp⟩ := S.peek
    refine ⟨Gp, peek ρ, c, Sp, e1, fun H' G' g => ?_⟩
    cases c with
    | true =>
      rw [if_pos rfl] at e
      exact iteT ⟨G0, H0, G, ρ, o, S.hgr g.h, e, k⟩
    | false =>
      rw [if_neg Bool.false_ne_true] at e
      exact iteF ⟨G0, H0, G, ρ, o, S.hgr g.h, e, k⟩
theorem forGo_cons {x : D} {xs : List D} {ρ : RhoS} {o : Out} (h : forGo g F (x :: xs) ρ = some o) : ∃ us o1, g x = some us ∧ F (setS ρ us) = some o1 ∧ ((∃ ρ', o1 = .nx ρ' ∧ forGo g F xs ρ' = some o) ∨ (∃ d, o1 = .rt d ∧ o = .rt d)) := by
  unfold forGo at h
  cases q : g x with
  | none => rw [q] at h; cases h
  | some us =>
    rw [q, Option.bind_some] at h
    cases q2 : F (setS ρ us) with
    | none => rw [q2] at h; cases h
    | some o1 =>
      rw [q2, Option.bind_some] at h
      refine ⟨us, o1, rfl, q2, ?_⟩
      cases o1 with
      | nx ρ' => exact .inl ⟨ρ', rfl, h⟩
      | rt d => exact .inr ⟨d, rfl, (Option.some.inj h).symm⟩
theorem ds_for {iter : Expr} {body : List Stmt} {it : Rho → Option (List D)} (hp : PassesOwn (model X.prog X.w) X.A X.env X.xe) (hc : X.calm = true) (hi : PI X tg iter (tI X.K ca it)) (hg : PG X tg (tG X.K ca g)) (hb : PSs X body (tS X.K ca F))
    (hs : ∀ x, foldedSetIterable iter X.env x = pure x := by intro _; rfl) : PS X (.For tg iter body [] pos) (tS X.K ca (s_for it g F)) := PS.imp (ps_for hp hc hi hg hb hs) fun D σ H ⟨G0, H0, G, ρ, o, S, e, k⟩ => by
  unfold s_for at e
  cases e1 : it (mask ρ) with
  | none => rw [e1] at e; cases e
  | some xs =>
    rw [e1, Option.bind_some] at e
    by_cases hl : xs.length ≤ LIM
    · rw [if_pos hl] at e
      refine ⟨G, mask ρ, xs, S.mask, e1, hl, fun J H1 G1 g1 wk => ?_⟩
      have S1 := S.gr g1
      obtain ⟨Hb, hb0, fzb, Sb⟩ := S1.rebase
      let Iv : Nat → L2.St → Hp → Prop := fun i σ H => ∃ Gx ρx, SgS X.K ca G1 Hb Gx H σ ρx ∧ forGo g F (xs.drop i) ρx = some o
      refine ⟨fun i m σ H => m = xs.length - i ∧ i ≤ xs.length ∧ Iv i σ H, ⟨xs.length, rfl, Nat.zero_le _, G1, ρ, Sb, e⟩, ?_⟩
      rintro i m σ2 H2 ⟨rfl, hi, Gx, ρx, Sx, ex⟩
      have fz : Fz H1 H2 := fun a ob u z => Sx.h0 a _ (fzb a ob u z)
      obtain ⟨w1, w2⟩ := wk Gx H2 Sx.g0 Sx.le fz i
      by_cases hlt : i < xs.length
      · right
        have hx : xs[i]? = some xs[i] := List.getElem?_eq_getElem hlt
        obtain ⟨go, yl⟩ := w1 _ hx
        refine ⟨go, Iv (i + 1), fun σ' H' h' => ⟨xs.length - (i + 1), by omega, rfl, hlt, h'⟩, fun x H' y => ?_⟩
        obtain ⟨G', gr, rx⟩ := yl x H' y
        rw [List.drop_eq_getElem_cons hlt] at ex
        obtain ⟨us, o1, eg, eF, er⟩ := forGo_cons ex
        refine ⟨G', _, us, gr.le, rx, eg, fun ws hw => ?_⟩
        refine ⟨G1, Hb, G', setS ρx us, o1, (Sx.gr gr).ups hw, eF, ?_⟩
        rcases er with ⟨ρ', rfl, er⟩ | ⟨d, rfl, er⟩
        · exact fun σ' H'' G'' S'' => ⟨G'', ρ', S'', er⟩
        · subst er
          refine fun v H'' G'' g2 r2 => k v H'' G'' ⟨S1.g0.trans g2.g, g2.le, Ex.trans hb0 g2.h, fun a o z => ?_⟩ r2
          rcases g2.nw a o z with q | q
          · exact S1.nw a o q
          · exact .inr (Ex.nn hb0 q)
      · left
        have ei : i = xs.length := by omega
        subst ei
        rw [List.drop_length] at ex
        have ex' : some (Out.nx ρx) = some o := ex
        cases ex'
        exact ⟨w2 (Nat.le_refl _), k _ _ _ (S1.back hb0 Sx)⟩
    · rw [if_neg hl] at e; cases e
end
end DL
/-! Layer D: lists and dicts that a body holds; the def's end. -/
namespace DL
open PySem L2
def s_new2 (i j : Nat) (a b : Sl) : SF := fun ρ => some (.nx ((ρ.set i a).set j b))
/-- d[k] = v in a dict held: the keys, the values -/
def putKs (k : Str) (ks : List Str) : List Str := if k ∈ ks then ks else ks ++ [k]
def putVs (k : Str) (d : D) : List Str → List D → List D
  | k' :: ks, e :: es => if k' = k then d :: es else e :: putVs k d ks es
  | _, _ => [d]
def s_dput (i : Nat) (fk fv : Rho → Option D) : SF := fun ρ => match ρ[i]? with
  | some (.od ks ds) => (fv (peek ρ)).bind fun v => (fk (peek ρ)).bind fun k => match k with
    | .str x => if ks.length < LIM ∧ flatD v = true then some (.nx (ρ.set i (.od (putKs x ks) (putVs x v ks ds)))) else none
    | _ => none
  | _ => none
section
variable {X : Cx} {ca : Nat → Addr} {st : Stmt} {rest : List Stmt} {e tg : Expr} {pos : Pos} {F F1 F2 : SF} {f f1 f2 f3 : Rho → Option D} {g : Tgt} {t : Rho → Option Bool}
theorem ds_newL {i : Nat} {x : Str} {pos' p2 : Pos} (hN : X.N.Nodup) (hi : X.N[i]? = some x := by rfl) (hx : Loc X.env.scope x := by first | exact Or.inl rfl | exact Or.inr rfl)
    (hs : swapsWith (.List [] p2) (some (.Name x pos')) pos.line X.env = pure false := by rfl)
    (hf : X.fn x = true ∨ X.env.scope.names.lookup x = some .local := by first | exact .inl rfl | exact .inr rfl) : PS X (.Assign [.Name x pos'] (.List [] p2) pos) (tS X.K ca (s_newL i)) := PS.imp (ps_set hN hi hx (pe_lst pa_nil) hs hf) fun D σ H ⟨G0, H0, G, ρ, o, S, e, k⟩ => by
  cases e
  exact ⟨Nat.zero_le _, fun p hp => k _ _ G (S.newOwn (o := .lst []) (t := .ol []) hp trivial ⟨Nat.zero_le _, .nil⟩)⟩
theorem app_core {σ : L2.St} {H : Hp} {G0 H0 G : Hp} {ρ : RhoS} {i : Nat} {xs : List D} {d : D} {De : Ends} (S : SgS X.K ca G0 H0 G H σ ρ) (hi : ρ[i]? = some (.ol xs)) (hl : xs.length < LIM)
    (ev : ∀ Q : VK, (∀ v H' G', SgS X.K ca G0 H0 G' H' σ ρ → Rep X.K ca G' v d → Ex H H' → Q v H') → tD X.K ca f σ H Q) (k : ∀ σ' H' G', SgS X.K ca G0 H0 G' H' σ' (ρ.set i (.ol (xs ++ [d]))) → De.nx σ' H') :
    tDrop (tBM X.K "list" rAppend (tVar i) (tCons (tD X.K ca f) tNil)) De σ H := by
  obtain ⟨p, o, hp, ho, r⟩ := S.ownAt hi trivial
  cases o <;> first | exact r.elim | skip
  rename_i vs
  refine ⟨.ref p, hp, .inl ⟨rfl, vs, SqL.of ho⟩, ev _ fun v H' G' S' r' e => ?_⟩
  obtain ⟨p', o', hp', ho', r2⟩ := S'.ownAt hi trivial
  rw [hp] at hp'
  cases hp'
  have ho2 := e _ _ ho
  rw [ho2] at ho'
  cases ho'
  exact ⟨p, vs, v, rfl, rfl, ho2, lim_lt (by rw [r2.2.length]; omega), k _ _ _ (S'.put hi trivial hp trivial ⟨by rw [List.length_append]; exact hl, r2.2.app (.cons r' .nil)⟩ (fun ob kvs z => by cases z))⟩
theorem ds_app {i : Nat} {x : Str} {apos p1 p2 : Pos} (ho : PE X (.Name x p1) (tVar i)) (he : PE X e (tD X.K ca f)) (hs : starEach [e] X.env = (false, eval e X.env) :: starEach [] X.env := by rfl)
    (hb : PE X (.Call (.Attribute (.Name x p1) "append" apos) [e] [] p2) (tBM X.K "list" rAppend (tVar i) (tCons (tD X.K ca f) tNil)))
    (hsw : swapsWith (.Call (.Attribute (.Name x p1) "append" apos) [e] [] p2) none pos.line X.env = pure false := by rfl) :
    PS X (.Expr (.Call (.Attribute (.Name x p1) "append" apos) [e] [] p2) pos) (tS X.K ca (s_app i f)) := PS.imp (ps_expr hb hsw) fun D σ H ⟨G0, H0, G, ρ, o, S, e, k⟩ => by
  unfold s_app at e
  cases q : ρ[i]? with
  | none => rw [q] at e; cases e
  | some t =>
    rw [q] at e
    cases t with
    | ol xs =>
      dsimp only at e
      cases e1 : f (mask ρ) with
      | none => rw [e1] at e; cases e
      | some d =>
        rw [e1, Option.bind_some] at e
        by_cases hl : xs.length < LIM
        · rw [if_pos hl] at e
          cases e
          exact app_core S q hl (fun Q h => ⟨G, mask ρ, d, S.mask, e1, fun v H' G' g r => h v H' G' (S.gr g) r g.h⟩) k
        · rw [if_neg hl] at e; cases e
    | _ => cases e
theorem ds_appP {i : Nat} {x : Str} {apos p1 p2 : Pos} 
    (hb : PE X (.Call (.Attribute (.Name x p1) "append" apos) [e] [] p2) (tBM X.K "list" rAppend (tVar i) (tCons (tD X.K ca f) tNil)))
    (hsw : swapsWith (.Call (.Attribute (.Name x p1) "append" apos) [e] [] p2) none pos.line X.env = pure false := by rfl) :
    PS X (.Expr (.Call (.Attribute (.Name x p1) "append" apos) [e] [] p2) pos) (tS X.K ca (s_appP i f)) := PS.imp (ps_expr hb hsw) fun D σ H ⟨G0, H0, G, ρ, o, S, e, k⟩ => by
  unfold s_appP at e
  cases q : ρ[i]? with
  | none => rw [q] at e; cases e
  | some t =>
    rw [q] at e
    cases t with
    | ol xs =>
      dsimp only at e
      cases e1 : f (peek ρ) with
      | none => rw [e1] at e; cases e
      | some d =>
        rw [e1, Option.bind_some] at e
        by_cases hl : xs.length < LIM ∧ flatD d = true
        · rw [if_pos hl] at e
          cases e
          exact app_core S q hl.1 (fun Q h => peekD S e1 hl.2 fun v H' S' r ex => h v H' G S' r ex) k
        · rw [if_neg hl] at e; cases e
    | _ => cases e
theorem ds_ext {i : Nat} {x : Str} {apos p1 p2 : Pos}
    (hb : PE X (.Call (.Attribute (.Name x p1) "extend" apos) [e] [] p2) (tBM X.K "list" rExtend (tVar i) (tCons (tD X.K ca f) tNil)))
    (hsw : swapsWith (.Call (.Attribute (.Name x p1) "extend" apos) [e] [] p2) none pos.line X.env = pure false := by rfl) :
    PS X (.Expr (.Call (.Attribute (.Name x p1) "extend" apos) [e] [] p2) pos) (tS X.K ca (s_ext i f)) := PS.imp (ps_expr hb hsw) fun D σ H ⟨G0, H0, G, ρ, o, S, e, k⟩ => by
  unfold s_ext at e
  cases q : ρ[i]? with
  | none => rw [q] at e; cases e
  | some t =>
    rw [q] at e
    cases t with
    | ol xs =>
      dsimp only at e
      cases e1 : f (mask ρ) with
      | none => rw [e1] at e; cases e
      | some d =>
        rw [e1, Option.bind_some] at e
        cases d with
        | lst ys =>
          dsimp only at e
          by_cases hl : xs.length + ys.length ≤ LIM
          · rw [if_pos hl] at e
            cases e
            obtain ⟨p, o, hp, ho, r⟩ := S.ownAt q trivial
            cases o <;> first | exact r.elim | skip
            rename_i vs
            refine ⟨.ref p, hp, .inl ⟨rfl, vs, SqL.of ho⟩, G, mask ρ, _, S.mask, e1, fun v H' G' g r' => ?_⟩
            obtain ⟨b, ws, rfl, hb, _, rw_⟩ := r'.lstI
            refine ⟨p, b, vs, ws, rfl, rfl, g.h _ _ ho, g.le.lst hb, lim_line (by rw [r.2.length, rw_.length]; exact hl), k _ _ _ ((S.gr g).put q trivial hp trivial ⟨by rw [List.length_append]; exact hl, (r.2.mono g.g).app rw_⟩ (fun ob kvs z => by cases z))⟩
          · rw [if_neg hl] at e; cases e
        | _ => cases e
    | _ => cases e
/-- a, b = e1, e2, plain local names -/
theorem ds_par {i j : Nat} {x y : Str} {a b : Expr} {px py pt : Pos} {kt k2 pt2} (hc : X.calm = true) (hN : X.N.Nodup) (hij : i ≠ j) (ha : PE X a (tD X.K ca f1)) (hb : PE X b (tD X.K ca f2)) (hi : X.N[i]? = some x := by rfl) (hj : X.N[j]? = some y := by rfl)
    (hx : X.env.scope.names.lookup x = some .local := by rfl) (hy : X.env.scope.names.lookup y = some .local := by rfl)
    (hw : swappedStores [.Tuple [.Name x px, .Name y py] kt pt] (.Tuple [a, b] k2 pt2) X.env = pure (some [x, y]) := by rfl)
    (hs : swapsWithSole [.Tuple [.Name x px, .Name y py] kt pt] (.Tuple [a, b] k2 pt2) pos.line X.env = pure false := by rfl)
    (h1 : starEach [a, b] X.env = (false, eval a X.env) :: starEach [b] X.env := by rfl) (h2 : starEach [b] X.env = (false, eval b X.env) :: starEach [] X.env := by rfl) :
    PS X (.Assign [.Tuple [.Name x px, .Name y py] kt pt] (.Tuple [a, b] k2 pt2) pos) (tS X.K ca (s_set (g_tup 2 (g_cons (g_name i) (g_cons (g_name j) g_nil))) (x_tup (a_cons f1 (a_cons f2 a_nil))))) :=
  PS.imp (ps_par hc hN hi hj hij hx hy (da_cons ha (da_cons hb da_nil h2) h1) hw hs) fun D σ H ⟨G0, H0, G, ρ, o, S, e, k⟩ => by
    unfold s_set x_tup at e
    cases e1 : a_cons f1 (a_cons f2 a_nil) (mask ρ) with
    | none => rw [e1] at e; cases e
    | some ds =>
      rw [e1, Option.bind_some] at e
      cases q : lim ds (.tup ds) with
      | none => rw [q] at e; cases e
      | some d' =>
        rw [q, Option.bind_some] at e
        obtain ⟨rfl, hl⟩ := lim_some q
        refine ⟨G, mask ρ, ds, S.mask, e1, fun vs H1 G1 g1 r1 => ?_⟩
        match ds, r1, e with
        | [d1, d2], r1, e =>
          obtain ⟨v, w, rfl, ra, rb⟩ := reps2 r1
          have e' : some (Out.nx (setS ρ ([(i, d1)] ++ ([(j, d2)] ++ [])))) = some o := e
          cases e'
          exact ⟨v, w, rfl, k _ _ _ ((S.gr g1).ups (.cons ra (.cons rb .nil)))⟩
/-- a, b = [], [], plain local names -/
theorem ds_newLL {i j : Nat} {x y : Str} {px py pt p1 p2 : Pos} {kt k2 pt2} (hc : X.calm = true) (hN : X.N.Nodup) (hij : i ≠ j) (hi : X.N[i]? = some x := by rfl) (hj : X.N[j]? = some y := by rfl)
    (hx : X.env.scope.names.lookup x = some .local := by rfl) (hy : X.env.scope.names.lookup y = some .local := by rfl)
    (hw : swappedStores [.Tuple [.Name x px, .Name y py] kt pt] (.Tuple [.List [] p1, .List [] p2] k2 pt2) X.env = pure (some [x, y]) := by rfl)
    (hs : swapsWithSole [.Tuple [.Name x px, .Name y py] kt pt] (.Tuple [.List [] p1, .List [] p2] k2 pt2) pos.line X.env = pure false := by rfl) :
    PS X (.Assign [.Tuple [.Name x px, .Name y py] kt pt] (.Tuple [.List [] p1, .List [] p2] k2 pt2) pos) (tS X.K ca (s_new2 i j (.ol []) (.ol []))) :=
  PS.imp (ps_par hc hN hi hj hij hx hy (pa_cons (pe_lst pa_nil) (pa_cons (pe_lst pa_nil) pa_nil)) hw hs) fun D σ H ⟨G0, H0, G, ρ, o, S, e, k⟩ => by
    cases e
    exact ⟨Nat.zero_le _, fun p hp => ⟨Nat.zero_le _, fun q hq => ⟨_, _, rfl, k _ _ _ ((S.newOwn (o := .lst []) (t := .ol []) hp trivial ⟨Nat.zero_le _, .nil⟩).newOwn (o := .lst []) (t := .ol []) hq trivial ⟨Nat.zero_le _, .nil⟩)⟩⟩⟩
/-- a, b = [], [], captured names -/
theorem ds_newLLc {i j : Nat} {x y : Str} {px py pt p1 p2 : Pos} {kt k2 pt2} (hc : X.calm = true) (hN : X.N.Nodup) (hi : X.N[i]? = some x := by rfl) (hj : X.N[j]? = some y := by rfl)
    (hx : Loc X.env.scope x := by first | exact Or.inl rfl | exact Or.inr rfl) (hy : Loc X.env.scope y := by first | exact Or.inl rfl | exact Or.inr rfl)
    (fx : X.fn x = true ∨ X.env.scope.names.lookup x = some .local := by first | exact .inl rfl | exact .inr rfl) (fy : X.fn y = true ∨ X.env.scope.names.lookup y = some .local := by first | exact .inl rfl | exact .inr rfl)
    (hs : swapsWithSole [.Tuple [.Name x px, .Name y py] kt pt] (.Tuple [.List [] p1, .List [] p2] k2 pt2) pos.line X.env = pure false := by rfl) (hw : swappedStores [.Tuple [.Name x px, .Name y py] kt pt] (.Tuple [.List [] p1, .List [] p2] k2 pt2) X.env = pure none := by rfl)
    (h1 : (assignEach [.Tuple [.Name x px, .Name y py] kt pt] X.env).map (·.2) = [assign (.Tuple [.Name x px, .Name y py] kt pt) X.env] := by rfl) :
    PS X (.Assign [.Tuple [.Name x px, .Name y py] kt pt] (.Tuple [.List [] p1, .List [] p2] k2 pt2) pos) (tS X.K ca (s_new2 i j (.ol []) (.ol []))) :=
  PS.imp (ps_asg (pe_tup (pa_cons (pe_lst pa_nil) (pa_cons (pe_lst pa_nil) pa_nil))) (pg_tup (n := 2) hc (pgs_cons (pg_name hN hi hx fx) (pgs_cons (pg_name hN hj hy fy) pgs_nil))) hs hw h1) fun D σ H ⟨G0, H0, G, ρ, o, S, e, k⟩ => by
    cases e
    exact ⟨Nat.zero_le _, fun p hp => ⟨Nat.zero_le _, fun q hq => ⟨show 2 ≤ sizeLine by decide, fun r hr => ⟨r, _, rfl, SqT.of upd_same, rfl, _, _, rfl, _, _, rfl, rfl, k _ _ _ (((S.newOwn (o := .lst []) (t := .ol []) hp trivial ⟨Nat.zero_le _, .nil⟩).newOwn (o := .lst []) (t := .ol []) hq trivial ⟨Nat.zero_le _, .nil⟩).hgr (Ex.new hr))⟩⟩⟩⟩
/-- a, b = {}, {}, captured names -/
theorem ds_newDDc {i j : Nat} {x y : Str} {px py pt p1 p2 : Pos} {kt k2 pt2} (hc : X.calm = true) (hN : X.N.Nodup) (hi : X.N[i]? = some x := by rfl) (hj : X.N[j]? = some y := by rfl)
    (hx : Loc X.env.scope x := by first | exact Or.inl rfl | exact Or.inr rfl) (hy : Loc X.env.scope y := by first | exact Or.inl rfl | exact Or.inr rfl)
    (fx : X.fn x = true ∨ X.env.scope.names.lookup x = some .local := by first | exact .inl rfl | exact .inr rfl) (fy : X.fn y = true ∨ X.env.scope.names.lookup y = some .local := by first | exact .inl rfl | exact .inr rfl)
    (hs : swapsWithSole [.Tuple [.Name x px, .Name y py] kt pt] (.Tuple [.Dict [] [] p1, .Dict [] [] p2] k2 pt2) pos.line X.env = pure false := by rfl) (hw : swappedStores [.Tuple [.Name x px, .Name y py] kt pt] (.Tuple [.Dict [] [] p1, .Dict [] [] p2] k2 pt2) X.env = pure none := by rfl)
    (h1 : (assignEach [.Tuple [.Name x px, .Name y py] kt pt] X.env).map (·.2) = [assign (.Tuple [.Name x px, .Name y py] kt pt) X.env] := by rfl) :
    PS X (.Assign [.Tuple [.Name x px, .Name y py] kt pt] (.Tuple [.Dict [] [] p1, .Dict [] [] p2] k2 pt2) pos) (tS X.K ca (s_new2 i j (.od [] []) (.od [] []))) :=
  PS.imp (ps_asg (pe_tup (pa_cons pe_dnewK (pa_cons pe_dnewK pa_nil))) (pg_tup (n := 2) hc (pgs_cons (pg_name hN hi hx fx) (pgs_cons (pg_name hN hj hy fy) pgs_nil))) hs hw h1) fun D σ H ⟨G0, H0, G, ρ, o, S, e, k⟩ => by
    cases e
    have ow : ∀ G, OwnRep X.K ca G (.dK []) (.od [] []) := fun G => ⟨[], rfl, rfl, Nat.zero_le _, .nil, .nil⟩
    exact fun p hp => fun q hq => ⟨show 2 ≤ sizeLine by decide, fun r hr => ⟨r, _, rfl, SqT.of upd_same, rfl, _, _, rfl, _, _, rfl, rfl, k _ _ _ (((S.newOwn (o := .dK []) (t := .od [] []) hp trivial (ow _)).newOwn (o := .dK []) (t := .od [] []) hq trivial (ow _)).hgr (Ex.new hr))⟩⟩
/-! ### d[k] = v -/
theorem putK_zip (k : Str) (v : V) : ∀ (ks : List Str) (vs : List V), ks.length = vs.length → k ∉ ks → putK (zipK ks vs) (Sum.inr k) v = zipK (ks ++ [k]) (vs ++ [v]) := fun ks vs hl hk => by
  have h : valV (zipK ks vs) (Sum.inr k) = none := by
    clear v
    induction ks generalizing vs with
    | nil => rfl
    | cons x xs ih =>
      cases vs with
      | nil => cases hl
      | cons y ys =>
        simp only [List.mem_cons, not_or] at hk
        show valV ((Sum.inr x, y) :: zipK xs ys) (Sum.inr k) = none
        rw [valV_neg (fun z => hk.1 (Sum.inr.inj z).symm)]
        exact ih ys (by simpa using hl) hk.2
  rw [putK_new v h]
  unfold zipK
  rw [List.zipWith_append hl]
  rfl
theorem putK_cons_same {k : Str} {v y : V} {r : List (Key × V)} (h : ∀ p ∈ r, p.1 ≠ Sum.inr k) : putK ((Sum.inr k, y) :: r) (Sum.inr k) v = (Sum.inr k, v) :: r := by
  unfold putK
  have e1 : (((Sum.inr k : Key), y) :: r).any (fun kv => decide (kv.1 = Sum.inr k)) = true := by simp
  simp only [e1, if_true, List.map_cons]
  congr 1
  refine (List.map_congr_left fun p hp => ?_).trans (List.map_id _)
  rw [if_neg (h p hp)]
  rfl
end
end DL
/-! Layer D: stores to a dict that is held; a def's end. -/
namespace DL
open PySem PySem.Spec PyProof.Rows L2
theorem putK_other {k k' : Str} {v y : V} {r : List (Key × V)} (h : k' ≠ k) : putK ((Sum.inr k', y) :: r) (Sum.inr k) v = (Sum.inr k', y) :: putK r (Sum.inr k) v := by
  have hk : ¬ (Sum.inr k' : Key) = Sum.inr k := fun z => h (Sum.inr.inj z)
  unfold putK
  rw [List.any_cons, decide_eq_false hk, Bool.false_or]
  split
  · rw [List.map_cons, if_neg hk]
  · rfl
theorem keys_zipK {ks : List Str} : ∀ {vs : List V}, ∀ p ∈ zipK ks vs, ∃ k ∈ ks, p.1 = Sum.inr k := by
  induction ks with
  | nil => intro vs p hp; cases hp
  | cons k ks ih =>
    intro vs p hp
    cases vs with
    | nil => cases hp
    | cons v vs =>
      rcases List.mem_cons.mp (show p ∈ (Sum.inr k, v) :: zipK ks vs from hp) with rfl | hp
      · exact ⟨k, List.mem_cons_self, rfl⟩
      · obtain ⟨k', a, b⟩ := ih p hp
        exact ⟨k', List.mem_cons_of_mem _ a, b⟩
theorem put_rep {K : PySem.W.Frag} {ca : Nat → Addr} {G : Hp} {k : Str} {v : V} {d : D} (r : Rep K ca G v d) : ∀ {ks : List Str} {vs : List V} {ds : List D}, ks.length = ds.length → ks.Nodup → Reps K ca G vs ds →
    ∃ vs', putK (zipK ks vs) (Sum.inr k) v = zipK (putKs k ks) vs' ∧ Reps K ca G vs' (putVs k d ks ds) ∧ (putKs k ks).length = (putVs k d ks ds).length ∧ (putKs k ks).Nodup
  | [], _, [], _, _, .nil => ⟨[v], rfl, .cons r .nil, rfl, by simp [putKs]⟩
  | _ :: _, _, [], h, _, _ => by cases h
  | k' :: ks, v' :: vs, d' :: ds, hl, nd, .cons r1 t => by
    have nd' := List.nodup_cons.mp nd
    by_cases q : k' = k
    · subst q
      refine ⟨v :: vs, ?_, ?_, ?_, ?_⟩
      · show putK ((Sum.inr k', v') :: zipK ks vs) (Sum.inr k') v = _
        rw [putK_cons_same (fun p hp z => by
          obtain ⟨x, hx, e⟩ := keys_zipK p hp
          rw [e] at z
          cases z
          exact nd'.1 hx)]
        unfold putKs
        rw [if_pos List.mem_cons_self]
        rfl
      · unfold putVs
        rw [if_pos rfl]
        exact .cons r t
      · unfold putVs putKs
        rw [if_pos rfl, if_pos List.mem_cons_self]
        simpa using hl
      · unfold putKs
        rw [if_pos List.mem_cons_self]
        exact nd
    · obtain ⟨ws, h1, h2, h3, h4⟩ := put_rep r (ks := ks) (vs := vs) (ds := ds) (by simpa using hl) nd'.2 t
      have ek : putKs k (k' :: ks) = k' :: putKs k ks := by
        unfold putKs
        by_cases m : k ∈ ks
        · rw [if_pos m, if_pos (List.mem_cons_of_mem _ m)]
        · rw [if_neg m, if_neg (by simp only [List.mem_cons, not_or]; exact ⟨fun z => q z.symm, m⟩)]
          rfl
      have ev : putVs k d (k' :: ks) (d' :: ds) = d' :: putVs k d ks ds := by
        show (if k' = k then d :: ds else d' :: putVs k d ks ds) = _
        rw [if_neg q]
      refine ⟨v' :: ws, ?_, ?_, ?_, ?_⟩
      · show putK ((Sum.inr k', v') :: zipK ks vs) (Sum.inr k) v = _
        rw [putK_other q, h1, ek]
        rfl
      · rw [ev]; exact .cons r1 h2
      · rw [ek, ev, List.length_cons, List.length_cons, h3]
      · rw [ek]
        refine List.nodup_cons.mpr ⟨?_, h4⟩
        unfold putKs
        split
        · exact nd'.1
        · rw [List.mem_append, List.mem_singleton]
          exact fun z => z.elim nd'.1 q
theorem putKs_len (k : Str) (ks : List Str) : (putKs k ks).length ≤ ks.length + 1 := by
  unfold putKs
  split
  · exact Nat.le_succ _
  · rw [List.length_append]; exact Nat.le_refl _
theorem zipK_len (ks : List Str) (vs : List V) : (zipK ks vs).length ≤ ks.length := by
  unfold zipK
  rw [List.length_zipWith]
  exact Nat.min_le_left _ _
section
variable {X : Cx} {ca : Nat → Addr} {st : Stmt} {e b o : Expr} {pos : Pos} {f f1 f2 f3 fk fv : Rho → Option D}
/-- the change of the dict in slot i -/
theorem dput_step {σ : L2.St} {H : Hp} {G0 H0 G : Hp} {ρ : RhoS} {i : Nat} {ks : List Str} {ds : List D} {p : Addr} {y v : V} {x : Str} {d : D} (S : SgS X.K ca G0 H0 G H σ ρ) (hi : ρ[i]? = some (.od ks ds)) (hp : σ[i]? = some (some (.ref p))) (hl : ks.length < LIM)
    (hy : y = .str x) (r : Rep X.K ca G v d) : ∃ H4, DPut H p y v H4 ∧ SgS X.K ca G0 H0 G H4 σ (ρ.set i (.od (putKs x ks) (putVs x d ks ds))) := by
  obtain ⟨q, o, hq, ho, rr⟩ := S.ownAt hi trivial
  rw [hp] at hq
  cases hq
  cases o <;> first | exact rr.elim | skip
  obtain ⟨vs, rfl, l1, l2, nd, rv⟩ := rr
  obtain ⟨ws, h1, h2, h3, h4⟩ := put_rep (k := x) r l1 nd rv
  subst hy
  refine ⟨_, .inl ⟨_, Sum.inr x, ho, rfl, lim_lt (Nat.le_trans (zipK_len _ _) l2), rfl⟩, ?_⟩
  rw [h1]
  exact S.put hi trivial hp trivial ⟨ws, rfl, h3, Nat.le_trans (putKs_len _ _) hl, h4, h2⟩ (fun _ _ z => by cases z)
/-- d[k] = e -/
theorem ds_dput {i : Nat} {x : Str} {p1 p2 : Pos} (hu : X.A.units + 1 < cLine) (ho : PE X (.Name x p1) (tVar i)) (hk : PE X b (tD X.K ca fk)) (hv : PE X e (tD X.K ca fv)) (hs : swapsWith e (some (.Subscript (.Name x p1) b p2)) pos.line X.env = pure false := by rfl) :
    PS X (.Assign [.Subscript (.Name x p1) b p2] e pos) (tS X.K ca (s_dput i fk fv)) := PS.imp (ps_dput hu ho hk hv hs) fun D σ H ⟨G0, H0, G, ρ, o, S, e, k⟩ => by
  unfold s_dput at e
  cases q : ρ[i]? with
  | none => rw [q] at e; cases e
  | some t =>
    rw [q] at e
    cases t with
    | od ks ds =>
      dsimp only at e
      cases e1 : fv (peek ρ) with
      | none => rw [e1] at e; cases e
      | some v =>
        rw [e1, Option.bind_some] at e
        cases e2 : fk (peek ρ) with
        | none => rw [e2] at e; cases e
        | some kx =>
          rw [e2, Option.bind_some] at e
          cases kx with
          | str x =>
            dsimp only at e
            by_cases hl : ks.length < LIM ∧ flatD v = true
            · rw [if_pos hl] at e
              cases e
              refine peekD S e1 hl.2 fun w H' S' r _ => ?_
              obtain ⟨p, o, hp, hq, _⟩ := S'.ownAt q trivial
              refine ⟨.ref p, hp, peekD S' e2 rfl fun y H2 S2 r2 _ => ?_⟩
              obtain ⟨H4, dp, S4⟩ := dput_step S2 q hp hl.1 r2.strI r
              exact ⟨p, H4, rfl, dp, k _ _ _ S4⟩
            · rw [if_neg hl] at e; cases e
          | _ => cases e
    | _ => cases e
def rSetD : V → V → V → Hp → (Hp → Prop) → Prop := fun o i v H Q => ∃ a H4, o = .ref a ∧ DPut H a i v H4 ∧ Q H4
theorem set_dict (hu : X.A.units + 1 < cLine) : PSet X rSetD := by
  intro pins s σ H o i v ov iv u Q I ro ri rv h
  obtain ⟨a, H4, rfl, dp, q⟩ := h
  cases ro
  exact d_setItem hu I dp ri rv fun s' I' => ⟨H4, I', q⟩
/-- a[k], b[l] = e1, e2 -/
def s_dput2 (i j : Nat) (k1 k2 f1 f2 : Rho → Option D) : SF := fun ρ => (a_cons f1 (a_cons f2 a_nil) (peek ρ)).bind fun ds => match ds with
  | [v, w] => if flatD v = true ∧ flatD w = true then
      (match s_dput i k1 (x_c v) ρ with
      | some (.nx ρ1) => s_dput j k2 (x_c w) ρ1
      | _ => none) else none
  | _ => none
theorem dput_some {i : Nat} {ρ : RhoS} {o : Out} (h : s_dput i fk fv ρ = some o) : ∃ ks ds v x, ρ[i]? = some (.od ks ds) ∧ fv (peek ρ) = some v ∧ fk (peek ρ) = some (.str x) ∧ ks.length < LIM ∧ flatD v = true ∧ o = .nx (ρ.set i (.od (putKs x ks) (putVs x v ks ds))) := by
  unfold s_dput at h
  cases q : ρ[i]? with
  | none => rw [q] at h; cases h
  | some t =>
    rw [q] at h
    cases t with
    | od ks ds =>
      dsimp only at h
      cases e1 : fv (peek ρ) with
      | none => rw [e1] at h; cases h
      | some v =>
        rw [e1, Option.bind_some] at h
        cases e2 : fk (peek ρ) with
        | none => rw [e2] at h; cases h
        | some kx =>
          rw [e2, Option.bind_some] at h
          cases kx with
          | str x =>
            dsimp only at h
            by_cases hl : ks.length < LIM ∧ flatD v = true
            · rw [if_pos hl] at h
              exact ⟨ks, ds, v, x, rfl, rfl, rfl, hl.1, hl.2, (Option.some.inj h).symm⟩
            · rw [if_neg hl] at h; cases h
          | _ => cases h
    | _ => cases h
theorem ds_dput2 {i j : Nat} {x y : Str} {a c b1 b2 : Expr} {p1 p2 p3 p4 pt : Pos} {kt k2' : Nat} {pt2 : Pos} {k1 k2 : Rho → Option D} (hu : X.A.units + 1 < cLine) (hc : X.calm = true) (ho1 : PE X (.Name x p1) (tVar i)) (ho2 : PE X (.Name y p3) (tVar j)) (hk1 : PE X b1 (tD X.K ca k1)) (hk2 : PE X b2 (tD X.K ca k2))
    (ha : PE X a (tD X.K ca f1)) (hb : PE X c (tD X.K ca f2))
    (g1 : ∀ v, assign (.Subscript (.Name x p1) b1 p2) X.env v = (do
      let ov ← holding [v] (eval (.Name x p1) X.env)
      let iv ← holding [v, ov] (eval b1 X.env)
      standAt p2
      holding [v, ov, iv] (setItem ov iv v)
      release [v, ov, iv] []) := by intro _; rfl)
    (g2 : ∀ v, assign (.Subscript (.Name y p3) b2 p4) X.env v = (do
      let ov ← holding [v] (eval (.Name y p3) X.env)
      let iv ← holding [v, ov] (eval b2 X.env)
      standAt p4
      holding [v, ov, iv] (setItem ov iv v)
      release [v, ov, iv] []) := by intro _; rfl)
    (s1 : starEach [a, c] X.env = (false, eval a X.env) :: starEach [c] X.env := by rfl) (s2 : starEach [c] X.env = (false, eval c X.env) :: starEach [] X.env := by rfl)
    (hs : swapsWithSole [.Tuple [.Subscript (.Name x p1) b1 p2, .Subscript (.Name y p3) b2 p4] kt pt] (.Tuple [a, c] k2' pt2) pos.line X.env = pure false := by rfl) (hw : swappedStores [.Tuple [.Subscript (.Name x p1) b1 p2, .Subscript (.Name y p3) b2 p4] kt pt] (.Tuple [a, c] k2' pt2) X.env = pure none := by rfl)
    (h1 : (assignEach [.Tuple [.Subscript (.Name x p1) b1 p2, .Subscript (.Name y p3) b2 p4] kt pt] X.env).map (·.2) = [assign (.Tuple [.Subscript (.Name x p1) b1 p2, .Subscript (.Name y p3) b2 p4] kt pt) X.env] := by rfl)
    (h2 : (assignEach [.Subscript (.Name x p1) b1 p2, .Subscript (.Name y p3) b2 p4] X.env).map (·.2) = assign (.Subscript (.Name x p1) b1 p2) X.env :: (assignEach [.Subscript (.Name y p3) b2 p4] X.env).map (·.2) := by rfl)
    (h3 : (assignEach [.Subscript (.Name y p3) b2 p4] X.env).map (·.2) = assign (.Subscript (.Name y p3) b2 p4) X.env :: (assignEach [] X.env).map (·.2) := by rfl)
    (h4 : (assignEach [.Subscript (.Name x p1) b1 p2, .Subscript (.Name y p3) b2 p4] X.env).length = 2 := by rfl) (h5 : (assignEach [.Subscript (.Name x p1) b1 p2, .Subscript (.Name y p3) b2 p4] X.env).findIdx? (·.1) = none := by rfl) :
    PS X (.Assign [.Tuple [.Subscript (.Name x p1) b1 p2, .Subscript (.Name y p3) b2 p4] kt pt] (.Tuple [a, c] k2' pt2) pos) (tS X.K ca (s_dput2 i j k1 k2 f1 f2)) :=
  PS.imp (ps_asg (pe_tup (da_cons ha (da_cons hb da_nil s2) s1)) (pg_tup (n := 2) hc (pgs_cons (pg_sub ho1 hk1 (set_dict hu) g1) (pgs_cons (pg_sub ho2 hk2 (set_dict hu) g2) pgs_nil h3) h2) h4 h5) hs hw h1) fun D σ H ⟨G0, H0, G, ρ, o, S, e, k⟩ => by
    unfold s_dput2 at e
    cases e1 : a_cons f1 (a_cons f2 a_nil) (peek ρ) with
    | none => rw [e1] at e; cases e
    | some ds =>
      rw [e1, Option.bind_some] at e
      match ds, e1, e with
      | [v, w], e1, e =>
        dsimp only at e
        by_cases hf : flatD v = true ∧ flatD w = true
        · rw [if_pos hf] at e
          cases q : s_dput i k1 (x_c v) ρ with
          | none => rw [q] at e; cases e
          | some o1 =>
            rw [q] at e
            cases o1 with
            | rt d => cases e
            | nx ρ1 =>
              dsimp only at e
              obtain ⟨ks, es, v', x1, hi, ev, ek, hl, _, er⟩ := dput_some q
              cases ev
              cases er
              obtain ⟨ls, es2, w', y1, hj, ew, el, hl2, _, er2⟩ := dput_some e
              cases ew
              subst er2
              obtain ⟨Gp, _, _, Sp⟩ := S.peek
              refine ⟨Gp, peek ρ, [v, w], Sp, e1, fun vs H' G' g r => ⟨lim_line (by rw [r.length]; show 2 ≤ LIM; decide), fun T hT => ?_⟩⟩
              obtain ⟨va, wa, rfl, ra, rb⟩ := reps2 r
              have S1 := (S.hgr g.h).hgr (Ex.new (o := .tup [va, wa]) hT)
              refine ⟨T, _, rfl, SqT.of upd_same, rfl, va, _, rfl, ?_⟩
              obtain ⟨p, o, hp, _, _⟩ := S1.ownAt hi trivial
              refine ⟨.ref p, hp, peekD S1 ek rfl fun y2 H2 S2 r2 _ => ?_⟩
              obtain ⟨H4, dp, S4⟩ := dput_step S2 hi hp hl r2.strI (scal_rep ra hf.1)
              refine ⟨p, H4, rfl, dp, wa, _, rfl, ?_⟩
              obtain ⟨p', o', hp', _, _⟩ := S4.ownAt hj trivial
              refine ⟨.ref p', hp', peekD S4 el rfl fun y3 H5 S5 r5 _ => ?_⟩
              obtain ⟨H6, dp6, S6⟩ := dput_step S5 hj hp' hl2 r5.strI (scal_rep rb hf.2)
              exact ⟨p', H6, rfl, dp6, rfl, k _ _ _ S6⟩
        · rw [if_neg hf] at e; cases e
end
/-! ### a def's body -/
def runD (n N : Nat) (F : SF) : List D → Option D := fun ds => if ds.length = n then (F (ds.map Sl.d ++ List.replicate (N - n) Sl.un)).bind fun o => match o with | .rt d => some d | .nx _ => some .non else none
section
variable {P : Program} {w : World} {K : PySem.W.Frag} {mg : Str → Option Value} {base : Heap} {ca : Nat → Addr}
theorem start_Sg {G H : Hp} {N : List Str} {vs : List V} {ds : List D} (le : Le G H) (r : Reps K ca G vs ds) (hN : ds.length ≤ N.length) : SgS K ca G H G H (L2.start N vs) (ds.map Sl.d ++ List.replicate (N.length - ds.length) Sl.un) := by
  have get : ∀ (i : Nat) (s : Sl), (ds.map Sl.d ++ List.replicate (N.length - ds.length) Sl.un)[i]? = some s → (∃ d, ds[i]? = some d ∧ s = Sl.d d) ∨ s = Sl.un := fun i s e => by
    by_cases hi : i < ds.length
    · rw [List.getElem?_append_left (by simpa using hi), List.getElem?_map] at e
      cases q : ds[i]? with
      | none => rw [q] at e; cases e
      | some d => rw [q] at e; exact .inl ⟨d, rfl, (Option.some.inj e).symm⟩
    · rw [List.getElem?_append_right (by simp; omega)] at e
      exact .inr (List.eq_of_mem_replicate (List.mem_of_getElem? e))
  refine ⟨Ex.refl _, Ex.refl _, le, fun a o z => .inl z, by simp [L2.start, r.length], fun i d e => ?_, fun _ => 0, fun i s e ho => ?_, fun i j s t e1 o1 _ _ _ => ?_⟩
  · rcases get i _ e with ⟨d', h1, h2⟩ | h
    · cases h2
      obtain ⟨v, hv, rv⟩ := r.get h1
      refine ⟨v, ?_, rv⟩
      unfold L2.start
      rw [List.getElem?_append_left (by rw [List.length_map, r.length]; exact (List.getElem?_eq_some_iff.mp h1).1), List.getElem?_map, hv]
      rfl
    · cases h
  · rcases get i _ e with ⟨d', _, h2⟩ | h
    · subst h2; exact ho.elim
    · subst h; exact ho.elim
  · rcases get i _ e1 with ⟨d', _, h2⟩ | h
    · subst h2; exact o1.elim
    · subst h; exact o1.elim
/-- A DEF keeps its promise by its body's reading -/
theorem okD {x qual : Str} {A : Arguments} {B : List Stmt} {S0 : Scope} {dvs : List V} {kws : List (Str × V)} {f : Addr} {fd : FuncData} {N ps : List Str} {k : Nat} {F : SF} (FD : FunD K x qual A B S0 dvs kws f fd) (S : FnScope N ps S0) (hn : ps.length ≤ N.length)
    (hb : ∀ (cdv : Value) (A : Around) (outer : List Env) (s : Shared) (H : Hp) (E : XK), Room k (A.deeper (envOfC qual S0 s.heap.objs.size f cdv)) →
      PSs (cxOf CX0 P w K mg base N qual S0 f cdv A outer s H E).nox B (tS K ca F)) : FnOk P w K mg base CX0 (k + 1) f fd ps (spD K ca (runD ps.length N.length F)) := by
  have ln : ∀ {ds : List D} {d : D}, runD ps.length N.length F ds = some d → ds.length = ps.length := fun {ds d} h => by
    unfold runD at h
    by_cases q : ds.length = ps.length
    · exact q
    · rw [if_neg q] at h; cases h
  refine FD.ok S (fun vs H Q E h => ?_) (fun cdv A outer s H vs Q E hr h => ?_)
  · obtain ⟨G, ds, d, _, r, e, _⟩ := h
    rw [r.length]
    exact ln e
  · obtain ⟨G, ds, d, le, r, e, kk⟩ := h
    have hl := ln e
    refine ⟨_, (hb cdv A outer s H E hr).nox, ?_⟩
    unfold runD at e
    rw [if_pos hl] at e
    rw [← hl] at e
    cases q : F (ds.map Sl.d ++ List.replicate (N.length - ds.length) Sl.un) with
    | none => rw [q] at e; cases e
    | some o =>
      rw [q, Option.bind_some] at e
      refine ⟨G, H, G, _, o, start_Sg le r (by omega), q, ?_⟩
      cases o with
      | rt d' =>
        cases e
        exact fun v H' G' g r' => kk v H' G' g r'
      | nx ρ' =>
        cases e
        exact fun σ' H' G' S' => kk .non H' G' S'.toGr .non
end
end DL
/-! Layer D: what the top has written, in short. -/
namespace DL
open PySem PySem.Spec PyProof.Rows L2
/-- the built-ins are not hidden -/
structure Bn (mg : Str → Option Value) : Prop where
  len : mg "len" = none
  tuple : mg "tuple" = none
  list : mg "list" = none
  sorted : mg "sorted" = none
  set : mg "set" = none
  all : mg "all" = none
  any : mg "any" = none
  min : mg "min" = none
  int : mg "int" = none
  str : mg "str" = none
  dict : mg "dict" = none
  abs : mg "abs" = none
  bool : mg "bool" = none
  isinstance : mg "isinstance" = none
  enumerate : mg "enumerate" = none
  range : mg "range" = none
  zip : mg "zip" = none
/-- a def that keeps its promise, under its global name -/
structure Cl (P : Program) (w : World) (K : PySem.W.Frag) (mg : Str → Option Value) (base : Heap) (ca : Nat → Addr) (x : Str) (ps : List Str) (k : Nat) (F : List D → Option D) : Prop where
  ex : ∃ fa fd, FnOk P w K mg base CX0 k fa fd ps (spD K ca F) ∧ mg x = some (.ref fa) ∧ PySem.W.keepIn K (.ref fa) = true ∧ Binds K fd ps []
/-- a def of the text as it stands behind the top -/
structure Df (K : PySem.W.Frag) (mg : Str → Option Value) (x : Str) (st : Stmt) (ps : List Str) : Prop where
  ex : ∃ fa fd, FunD K x x (defArgs st) (defBody st) (defScope st) [] [] fa fd ∧ mg x = some (.ref fa) ∧ Binds K fd ps []
section
variable {P : Program} {w : World} {K : PySem.W.Frag} {mg : Str → Option Value} {base : Heap} {ca : Nat → Addr}
theorem Cl.mk' {x : Str} {st : Stmt} {N ps : List Str} {k : Nat} {F : SF} (d : Df K mg x st ps) (S : FnScope N ps (defScope st)) (hn : ps.length ≤ N.length)
    (hb : ∀ (f : Addr) (cdv : Value) (A : Around) (outer : List Env) (s : Shared) (H : Hp) (E : XK), Room k (A.deeper (envOfC x (defScope st) s.heap.objs.size f cdv)) →
      PSs (cxOf CX0 P w K mg base N x (defScope st) f cdv A outer s H E).nox (defBody st) (tS K ca F)) : Cl P w K mg base ca x ps (k + 1) (runD ps.length N.length F) := by
  obtain ⟨fa, fd, FD, hm, hb'⟩ := d.ex
  exact ⟨fa, fd, okD FD S hn (hb fa), hm, FD.kp, hb'⟩
end
section
variable {X : Cx} {ca : Nat → Addr} {e : Expr} {es : List Expr} {p pos : Pos} {r : Rho → Option (List D)}
theorem d_callC {k n : Nat} {ps : List Str} {x : Str} {F : List D → Option D} (c : Cl X.prog X.w X.K X.mg X.base ca x ps k F) (hr : Room n X.A) (hk : k ≤ n) (ha : PA X (e :: es) (tDA X.K ca r)) (hg : Gl X x := by rfl) (hdb : (x == ("__debug__" : Str)) = false := by decide)
    (he : starEach (e :: es) X.env = (false, eval e X.env) :: starEach es X.env := by rfl) (hpl : (backTo pos (starEach es X.env)).any (·.1) = false := by rfl) : PE X (.Call (.Name x p) (e :: es) [] pos) (tD X.K ca (x_call F r)) := by
  obtain ⟨fa, fd, FO, hm, kp, hb⟩ := c.ex
  exact d_call FO hr hk hg hm kp hb ha hdb he hpl
end
end DL
/-! Layer D: more rules. -/
namespace DL
open PySem PySem.Spec PyProof.Rows L2
def dChain (b1 : Option D) (k : Option D) : Option D := b1.bind fun z => (asB z).bind fun b => if b = true then k else some (.bl false)
def x_chain (g g' : D → D → Option D) (f1 f2 f3 : Rho → Option D) : Rho → Option D := fun ρ => (f1 ρ).bind fun x => (f2 ρ).bind fun y => dChain (g x y) ((f3 ρ).bind fun z => g' y z)
def dLeB : D → D → Option D | .bl a, .bl b => some (.bl (!a || b)) | _, _ => none
def dInS : D → D → Option D
  | .str a, .str b => match a.cps.toList with
    | [c] => some (.bl (decide (c ∈ b.cps.toList)))
    | _ => none
  | _, _ => none
def dOwn (c : Nat) (F : List D → Option D) : D → D → Option D
  | .obj c1 ds, .obj c2 es => if c1 = c ∧ c2 = c then F [.obj c1 ds, .obj c2 es] else none
  | _, _ => none
def dTupRange : D → Option D | .int j => (rangeD j).bind fun xs => some (.tup xs) | _ => none
def dSplit : D → D → Option D
  | .str a, .str b => if (b.length == 0) = false ∧ a.length + 2 ≤ LIM ∧ (Txt.split a b).length ≤ LIM then some (.lst ((Txt.split a b).map .str)) else none
  | _, _ => none
def dStartswith : D → D → Option D | .str a, .str b => some (.bl (Txt.startswith a b)) | _, _ => none
def dJoin : D → D → Option D
  | .str a, y => (itemsOf y).bind fun ds => (strsOf ds).bind fun ys => if (ys.map (·.length)).sum + ys.length * a.length ≤ LIM then some (.str (Txt.join a ys)) else none
  | _, _ => none
def dCutS (lo hi : Option Int) : D → Option D | .str z => if z.length ≤ LIM then some (.str (cutS z lo hi)) else none | _ => none
def x_cutS (f : Rho → Option D) (lo hi : Rho → Option (Option Int)) : Rho → Option D := fun ρ => (f ρ).bind fun x => (lo ρ).bind fun l => (hi ρ).bind fun h => dCutS l h x
def dSortKeys : D → Option D | .dic ks _ => if ks.length < 64 then some (.lst ((sortS ks).map .str)) else none | _ => none
def i_zip (r : Rho → Option (List D)) : Rho → Option (List D) := fun ρ => match r ρ with | some [.lst a, .lst b] => some (List.zipWith (fun x y => .tup [x, y]) a b) | _ => none
section
variable {X : Cx} {ca : Nat → Addr} {a b c e o : Expr} {es : List Expr} {p pos apos : Pos} {f f1 f2 f3 : Rho → Option D} {r : Rho → Option (List D)} {s t : Rho → Option Bool}
theorem d_gstr {x : Str} {z : Str} (h : ∃ t, X.mg x = some (.str z t)) (hg : Gl X x := by rfl) (hdb : (x == ("__debug__" : Str)) = false := by decide) : PE X (.Name x pos) (tD X.K ca (x_c (.str z))) := by
  obtain ⟨t, h⟩ := h
  exact d_glob (v := .str z) hg h ⟨t, rfl⟩ (fun _ => .str z) hdb
theorem d_gint {x : Str} {z : Int} (h : ∃ t, X.mg x = some (.int z t)) (hg : Gl X x := by rfl) (hdb : (x == ("__debug__" : Str)) = false := by decide) : PE X (.Name x pos) (tD X.K ca (x_c (.int z))) := by
  obtain ⟨t, h⟩ := h
  exact d_glob (v := .int z) hg h ⟨t, rfl⟩ (fun _ => .int z) hdb
theorem d_gval {x : Str} {d : D} (h : ∃ a, X.mg x = some (.ref a) ∧ ∀ G, Rep X.K ca G (.ref a) d) (hg : Gl X x := by rfl) (hdb : (x == ("__debug__" : Str)) = false := by decide) : PE X (.Name x pos) (tD X.K ca (x_c d)) := by
  obtain ⟨a, h, hr⟩ := h
  exact d_glob (v := .ref a) hg h rfl hr hdb
theorem br_mulL {K : PySem.W.Frag} : BinR K ca rRep dMulL := fun G H x y d1 d2 d Q le r1 r2 e k => by
  cases d1 <;> cases d2 <;> first | (cases e; done) | skip
  rename_i xs j
  have e' : (if 0 ≤ j ∧ j ≤ 1 ∧ xs.length ≤ LIM then some (D.lst (List.replicate j.toNat xs).flatten) else none) = some d := e
  by_cases h : 0 ≤ j ∧ j ≤ 1 ∧ xs.length ≤ LIM
  · rw [if_pos h] at e'
    cases e'
    obtain ⟨p, vs, rfl, hq, hl, rv⟩ := r1.lstI
    have hj : j = 0 ∨ j = 1 := by omega
    have h1 : vs.length * j.toNat ≤ LIM := by
      rw [rv.length]
      rcases hj with rfl | rfl
      · simp
      · simpa using h.2.2
    refine ⟨p, j, vs, rfl, r2.intI, le.lst hq, by omega, by omega, lim_line h1, fun n hn => ?_⟩
    have g := Gr.new (o := .lst (List.replicate j.toNat vs).flatten) le hn
    rcases hj with rfl | rfl
    · exact k _ _ _ g (.lst upd_same (Nat.zero_le _) .nil)
    · refine k _ _ _ g (.lst upd_same ?_ ?_)
      · simpa using hl
      · have e1 : (List.replicate (1 : Int).toNat vs).flatten = vs := by simp
        have e2 : (List.replicate (1 : Int).toNat xs).flatten = xs := by simp
        rw [e2]
        rw [e1] at g ⊢
        exact rv.mono g.g
  · rw [if_neg h] at e'; cases e'
theorem d_mulL (ha : PE X a (tD X.K ca f1)) (hb : PE X b (tD X.K ca f2)) : PE X (.BinOp a .Mult b pos) (tD X.K ca (x_bin dMulL f1 f2)) := d_bin op_rep br_mulL ha hb
/-! ### a < b <= c -/
theorem go_chain {σ : L2.St} {H : Hp} {Q : VK} (h : tD X.K ca (x_chain dLt dLe f1 f2 f3) σ H Q) : tChain (rI0 fun i j => .bl (decide (i < j))) (rI0 fun i j => .bl (decide (i ≤ j))) (tD X.K ca f1) (tD X.K ca f2) (tD X.K ca f3) σ H Q := by
  obtain ⟨G, ρ, d, S, e, k⟩ := h
  unfold x_chain at e
  cases e1 : f1 ρ with
  | none => rw [e1] at e; cases e
  | some x =>
  cases e2 : f2 ρ with
  | none => rw [e1, Option.bind_some, e2] at e; cases e
  | some y =>
  rw [e1, Option.bind_some, e2, Option.bind_some] at e
  unfold dChain at e
  cases e3 : dLt x y with
  | none => rw [e3] at e; cases e
  | some z =>
  rw [e3, Option.bind_some] at e
  cases e4 : asB z with
  | none => rw [e4] at e; cases e
  | some b =>
  rw [e4, Option.bind_some] at e
  refine ⟨G, ρ, x, S, e1, fun v H1 G1 g1 r1 => ⟨G1, ρ, y, S.gr g1, e2, fun u H2 G2 g2 r2 => ?_⟩⟩
  refine br_lt G2 H2 v u x y z _ g2.le (r1.mono g2.g) r2 e3 fun w H3 G3 g3 r3 => ?_
  have ez : z = .bl b := by cases z <;> cases e4; rfl
  subst ez
  refine ⟨b, r3.blI, ?_⟩
  cases b with
  | true =>
    rw [if_pos rfl] at e
    rw [if_pos rfl]
    cases e5 : f3 ρ with
    | none => rw [e5] at e; cases e
    | some w3 =>
      rw [e5, Option.bind_some] at e
      exact ⟨G3, ρ, w3, S.gr ((g1.trans g2).trans g3), e5, fun v4 H4 G4 g4 r4 => br_le G4 H4 u v4 y w3 d Q g4.le ((r2.mono g3.g).mono g4.g) r4 e fun v5 H5 G5 g5 r5 => k v5 H5 G5 ((((g1.trans g2).trans g3).trans g4).trans g5) r5⟩
  | false =>
    rw [if_neg Bool.false_ne_true] at e
    rw [if_neg Bool.false_ne_true]
    cases e
    exact k _ _ _ ((g1.trans g2).trans g3) (.bl false)
theorem d_chainLtLe (ha : PE X a (tD X.K ca f1)) (hb : PE X b (tD X.K ca f2)) (hc : PE X c (tD X.K ca f3)) (hm : lastMarks [.Lt, .LtE] [b, c] = false := by with_unfolding_all rfl) : PE X (.Compare a [.Lt, .LtE] [b, c] pos) (tD X.K ca (x_chain dLt dLe f1 f2 f3)) :=
  PE.imp (pe_chain op_lt op_le ha hb hc hm) fun σ H Q h => go_chain h
theorem d_chainLtLeT (ha : PE X a (tD X.K ca f1)) (hb : PE X b (tD X.K ca f2)) (hc : PE X c (tD X.K ca f3)) (hm : lastMarks [.Lt, .LtE] [b, c] = false := by with_unfolding_all rfl) : PT X (.Compare a [.Lt, .LtE] [b, c] pos) (tDT X.K ca (t_val (x_chain dLt dLe f1 f2 f3))) :=
  PT.imp (pt_chain op_lt op_le ha hb hc hm) fun σ H Q h => test_of (fun Q => go_chain) h
/-! ### bool <= bool -/
theorem le_bool {M : Program} {w : World} {A : Around} {E : Value → Shared → Prop} {s : Shared} {a b : Bool} {Q : Value → Shared → Prop} (h : Q (.bool (!a || b)) s) : wpAny (model M w) A (compareOp .LtE (.bool a) (.bool b)) Q E s :=
  compareOp_gives (op := .LtE) (PySem.typeIs_bool s a) (PySem.typeIs_bool s b) F.slot_bool_le F.entry_int_le (F.args_int_le_2 _ _) (show Gives (Builtin.«int.__le__» ⟨[.bool a, .bool b], []⟩) (.val (.bool (!a || b))) by cases a <;> cases b <;> exact .of_eq rfl) (fun x => nomatch x) h
theorem op_leB : OpR X (compareOp .LtE) (fun x y H Q => ∃ a b, x = .bl a ∧ y = .bl b ∧ Q (.bl (!a || b)) H) := by
  intro pins s σ H x y v u Q I rx ry h
  obtain ⟨a, b, rfl, rfl, q⟩ := h
  cases rx
  cases ry
  exact le_bool ⟨.bl _, H, I, rfl, q⟩
theorem br_leB {K : PySem.W.Frag} : BinR K ca (fun x y H Q => ∃ a b, x = .bl a ∧ y = .bl b ∧ Q (.bl (!a || b)) H) dLeB := fun G H x y d1 d2 d Q le r1 r2 e k => by
  cases d1 <;> cases d2 <;> cases e
  exact ⟨_, _, r1.blI, r2.blI, k _ H G (Gr.refl le) (.bl _)⟩
theorem d_leB (ha : PE X a (tD X.K ca f1)) (hb : PE X b (tD X.K ca f2)) : PE X (.Compare a [.LtE] [b] pos) (tD X.K ca (x_bin dLeB f1 f2)) := d_cmp op_leB br_leB ha hb (nomark _)
theorem d_leBT (ha : PE X a (tD X.K ca f1)) (hb : PE X b (tD X.K ca f2)) : PT X (.Compare a [.LtE] [b] pos) (tDT X.K ca (t_val (x_bin dLeB f1 f2))) := d_cmpT op_leB br_leB ha hb (nomark _)
theorem br_inS {K : PySem.W.Frag} : BinR K ca (fun x y H Q => ∃ (c : Nat) (z : Str), x = .str ⟨#[c]⟩ ∧ y = .str z ∧ Q (.bl (decide (c ∈ z.cps.toList))) H) dInS := fun G H x y d1 d2 d Q le r1 r2 e k => by
  cases d1 <;> cases d2 <;> first | (cases e; done) | skip
  rename_i u z
  unfold dInS at e
  dsimp only at e
  split at e
  · rename_i c hc
    cases e
    refine ⟨c, z, ?_, r2.strI, k _ H G (Gr.refl le) (.bl _)⟩
    rw [r1.strI]
    exact congrArg V.str (str_ext (by rw [hc]))
  · cases e
theorem d_inS (ha : PE X a (tD X.K ca f1)) (hb : PE X b (tD X.K ca f2)) (hm : behindInMarks .In b = false := by rfl) : PE X (.Compare a [.In] [b] pos) (tD X.K ca (x_bin dInS f1 f2)) := d_cmp op_in_sign br_inS ha hb hm
theorem d_inST (ha : PE X a (tD X.K ca f1)) (hb : PE X b (tD X.K ca f2)) (hm : behindInMarks .In b = false := by rfl) : PT X (.Compare a [.In] [b] pos) (tDT X.K ca (t_val (x_bin dInS f1 f2))) := d_cmpT op_in_sign br_inS ha hb hm
/-! ### tuple(range(n)); texts -/
theorem d_tupRange (hm : X.mg "tuple" = none) (hm2 : X.mg "range" = none) (h : PE X e (tD X.K ca f)) {p2 pos2 : Pos} (hc : X.calm = true := by rfl) (hg : Gl X "tuple" := by rfl) (hg2 : Gl X "range" := by rfl) (na : starEach [e] X.env = (false, eval e X.env) :: starEach [] X.env := by rfl)
    (nb : starEach [.Call (.Name "range" p2) [e] [] pos2] X.env = (false, eval (.Call (.Name "range" p2) [e] [] pos2) X.env) :: starEach [] X.env := by rfl) : PE X (.Call (.Name "tuple" p) [.Call (.Name "range" p2) [e] [] pos2] [] pos) (tD X.K ca (x_un dTupRange f)) :=
  PE.imp (pe_tupRg hc hg hm (prg_1 hg2 hm2 h na) nb) fun σ H Q ⟨G, ρ, d, S, e, k⟩ => by
    unfold x_un at e
    cases e1 : f ρ with
    | none => rw [e1] at e; cases e
    | some x =>
      rw [e1, Option.bind_some] at e
      cases x with
      | int j =>
        have e' : (rangeD j).bind (fun xs => some (D.tup xs)) = some d := e
        unfold rangeD at e'
        by_cases hj : 0 ≤ j ∧ j ≤ 1000
        · rw [if_pos hj] at e'
          cases e'
          refine ⟨G, ρ, _, S, e1, fun v H1 G1 g1 r1 => ⟨j, r1.intI, RgOk.of_le (by omega) (by omega) (by omega) (by omega), fun q hq => ?_⟩⟩
          have g := Gr.new (o := .tup (rgV 0 j)) g1.le hq
          refine k _ _ _ (g1.trans g) (.tup (SqT.of upd_same) ?_ ?_)
          · rw [List.length_map, List.length_range]
            exact Nat.le_trans (show j.toNat ≤ 1000 by omega) (by decide)
          · have key : ∀ (Gx : Hp) (l : List Nat), Reps X.K ca Gx (l.map fun i => V.int (0 + (i : Nat))) (l.map fun i => D.int (i : Nat)) := by
              intro Gx l
              induction l with
              | nil => exact .nil
              | cons x l ih =>
                refine .cons ?_ ih
                show Rep X.K ca Gx (V.int (0 + (x : Nat))) (D.int (x : Nat))
                rw [Int.zero_add]
                exact .int _
            have z := key (upd G1 q (.tup (rgV 0 j))) (List.range j.toNat)
            have ez : (List.range j.toNat).map (fun i => V.int (0 + (i : Nat))) = rgV 0 j := by unfold rgV; rw [Int.sub_zero]
            rw [ez] at z
            exact z
        · rw [if_neg hj] at e'; cases e'
      | _ => cases e
theorem bin1 {rr : V → V → Hp → VK → Prop} {g : D → D → Option D} {rm : V → List V → Hp → VK → Prop} (hr : BinR X.K ca rr g) (hg : ∀ x y d, g x y = some d → ∃ z, x = .str z) (hrm : ∀ x y H Q, rr x y H Q → rm x [y] H Q) : ∀ σ H Q, tD X.K ca (x_bin g f1 f2) σ H Q → tM1 rm (tD X.K ca f1) (tD X.K ca f2) σ H Q := fun σ H Q ⟨G, ρ, d, S, e, k⟩ => by
  unfold x_bin at e
  cases e1 : f1 ρ with
  | none => rw [e1] at e; cases e
  | some x =>
    rw [e1, Option.bind_some] at e
    cases e2 : f2 ρ with
    | none => rw [e2] at e; cases e
    | some y =>
      rw [e2, Option.bind_some] at e
      obtain ⟨z, rfl⟩ := hg x y d e
      exact ⟨G, ρ, _, S, e1, fun v H1 G1 g1 r1 => ⟨⟨z, r1.strI⟩, G1, ρ, y, S.gr g1, e2, fun u H2 G2 g2 r2 => hrm _ _ _ _ (hr G2 H2 v u _ y d Q g2.le (r1.mono g2.g) r2 e fun v H' G' g3 r3 => k v H' G' ((g1.trans g2).trans g3) r3)⟩⟩
theorem d_split (ha : PE X o (tD X.K ca f1)) (hb : PE X e (tD X.K ca f2)) (hs : starEach [e] X.env = [(false, eval e X.env)] := by rfl) (hbase : attributeBase o "split" X.env (eval o X.env) = eval o X.env := by rfl) (hline : (apos.endLine == pos.line) = true := by rfl) :
    PE X (.Call (.Attribute o "split" apos) [e] [] pos) (tD X.K ca (x_bin dSplit f1 f2)) :=
  PE.imp (pe_split ha hb hs hbase hline) (bin1 (rr := fun x y H Q => ∃ a b, x = .str a ∧ y = .str b ∧ (b.length == 0) = false ∧ a.length + 2 ≤ sizeLine ∧ rNewStrs (Txt.split a b) H Q) (fun G H x y d1 d2 d Q le r1 r2 e k => by
    cases d1 <;> cases d2 <;> first | (cases e; done) | skip
    rename_i u z
    have e' : (if (z.length == 0) = false ∧ u.length + 2 ≤ LIM ∧ (Txt.split u z).length ≤ LIM then some (D.lst ((Txt.split u z).map .str)) else none) = some d := e
    split at e'
    · rename_i h
      cases e'
      refine ⟨u, z, r1.strI, r2.strI, h.1, lim_line h.2.1, fun p hp => ?_⟩
      have g := Gr.new (o := .lst ((Txt.split u z).map V.str)) le hp
      exact k _ _ _ g (.lst upd_same (by rw [List.length_map]; exact h.2.2) (reps_strs _ _))
    · cases e') (fun x y d e => by cases x <;> cases y <;> first | exact ⟨_, rfl⟩ | cases e) (fun x y H Q h => by
    obtain ⟨a, b, h1, h2, h3, h4, h5⟩ := h
    exact ⟨a, b, h1, by rw [h2], h3, h4, h5⟩))
theorem d_startswith (ha : PE X o (tD X.K ca f1)) (hb : PE X e (tD X.K ca f2)) (hs : starEach [e] X.env = [(false, eval e X.env)] := by rfl) (hbase : attributeBase o "startswith" X.env (eval o X.env) = eval o X.env := by rfl) (hline : (apos.endLine == pos.line) = true := by rfl) :
    PE X (.Call (.Attribute o "startswith" apos) [e] [] pos) (tD X.K ca (x_bin dStartswith f1 f2)) :=
  PE.imp (pe_m1 F.slot_str_startswith F.type_str_startswith mt_startswith ha hb hs hbase hline) (bin1 (rr := fun x y H Q => ∃ a b, x = .str a ∧ y = .str b ∧ Q (.bl (Txt.startswith a b)) H) (fun G H x y d1 d2 d Q le r1 r2 e k => by
    cases d1 <;> cases d2 <;> first | (cases e; done) | skip
    cases e
    exact ⟨_, _, r1.strI, r2.strI, k _ H G (Gr.refl le) (.bl _)⟩) (fun x y d e => by cases x <;> cases y <;> first | exact ⟨_, rfl⟩ | cases e) (fun x y H Q h => by
    obtain ⟨a, b, h1, h2, h3⟩ := h
    exact ⟨a, b, h1, by rw [h2], h3⟩))
theorem d_join (ha : PE X o (tD X.K ca f1)) (hb : PE X e (tD X.K ca f2)) (hs : starEach [e] X.env = [(false, eval e X.env)] := by rfl) (hbase : attributeBase o "join" X.env (eval o X.env) = eval o X.env := by rfl) (hline : (apos.endLine == pos.line) = true := by rfl) :
    PE X (.Call (.Attribute o "join" apos) [e] [] pos) (tD X.K ca (x_bin dJoin f1 f2)) :=
  PE.imp (pe_join ha hb hs hbase hline) (bin1 (rr := fun x y H Q => ∃ a p, ∃ ys : List Str, x = .str a ∧ y = .ref p ∧ (SqL X.K H p (ys.map V.str) ∨ SqT X.K H p (ys.map V.str)) ∧ (ys.map (·.length)).sum + ys.length * a.length ≤ 16777216 ∧ Q (.str (Txt.join a ys)) H) (fun G H x y d1 d2 d Q le r1 r2 e k => by
    cases d1 with
    | str u =>
      have e' : ((itemsOf d2).bind fun ds => (strsOf ds).bind fun ys => if (ys.map (·.length)).sum + ys.length * u.length ≤ LIM then some (D.str (Txt.join u ys)) else none) = some d := e
      cases q : itemsOf d2 with
      | none => rw [q] at e'; cases e'
      | some ds =>
        rw [q, Option.bind_some] at e'
        cases q2 : strsOf ds with
        | none => rw [q2] at e'; cases e'
        | some ys =>
          rw [q2, Option.bind_some] at e'
          split at e'
          · rename_i h
            cases e'
            obtain ⟨n, vs, rfl, hq, rv⟩ := items_rep le r2 q
            rw [(strs_rep rv q2).1] at hq
            exact ⟨u, n, ys, r1.strI, rfl, hq, Nat.le_trans h (by decide), k _ H G (Gr.refl le) (.str _)⟩
          · cases e'
    | _ => cases e) (fun x y d e => by cases x <;> first | exact ⟨_, rfl⟩ | cases e) (fun x y H Q h => by
    obtain ⟨a, p, ys, h1, h2, h3, h4, h5⟩ := h
    exact ⟨a, p, ys, h1, by rw [h2], h3, h4, h5⟩))
theorem d_cutS {lo hi : Option Expr} {p2 : Pos} {l h : Rho → Option (Option Int)} (he : PE X e (tD X.K ca f)) (hl : PO X lo (tDO X.K ca l)) (hh : PO X hi (tDO X.K ca h)) : PE X (.Subscript e (.Slice lo hi none p2) pos) (tD X.K ca (x_cutS f l h)) :=
  PE.imp (pe_slice sl_str he hl hh) fun σ H Q ⟨G, ρ, d, S, e, k⟩ => by
    unfold x_cutS at e
    cases e1 : f ρ with
    | none => rw [e1] at e; cases e
    | some x =>
    cases e2 : l ρ with
    | none => rw [e1, Option.bind_some, e2] at e; cases e
    | some o1 =>
    cases e3 : h ρ with
    | none => rw [e1, Option.bind_some, e2, Option.bind_some, e3] at e; cases e
    | some o2 =>
    rw [e1, Option.bind_some, e2, Option.bind_some, e3, Option.bind_some] at e
    refine ⟨G, ρ, x, S, e1, fun v H1 G1 g1 r1 => ⟨G1, ρ, o1, S.gr g1, e2, fun H2 G2 g2 => ⟨G2, ρ, o2, S.gr (g1.trans g2), e3, fun H3 G3 g3 => ?_⟩⟩⟩
    cases x with
    | str z =>
      have e' : (if z.length ≤ LIM then some (D.str (cutS z o1 o2)) else none) = some d := e
      split at e'
      · rename_i hz
        cases e'
        exact ⟨z, r1.strI, lim_line hz, k _ _ _ ((g1.trans g2).trans g3) (.str _)⟩
      · cases e'
    | _ => cases e
theorem d_sortKeys (hc : X.calm = true) (hm : X.mg "sorted" = none) (h : PE X e (tD X.K ca f)) (hg : Gl X "sorted" := by rfl) (he : starEach [e] X.env = (false, eval e X.env) :: starEach [] X.env := by rfl) : PE X (.Call (.Name "sorted" p) [e] [] pos) (tD X.K ca (x_un dSortKeys f)) :=
  PE.imp (pe_callB (call_sortedD hc) hg hm (by decide +kernel) (da_cons h da_nil he) (by decide) (by decide) he rfl) fun σ H Q ⟨G, ρ, d, S, e, k⟩ => by
    unfold x_un at e
    cases e1 : f ρ with
    | none => rw [e1] at e; cases e
    | some x =>
      rw [e1, Option.bind_some] at e
      cases x with
      | dic ks ds =>
        have e' : (if ks.length < 64 then some (D.lst ((sortS ks).map .str)) else none) = some d := e
        split at e'
        · rename_i h64
          cases e'
          refine ⟨G, ρ, [.dic ks ds], S, by unfold a_cons a_nil; rw [e1]; rfl, fun vs H1 G1 g1 r1 => ?_⟩
          obtain ⟨v, rfl, rv⟩ := reps1 r1
          obtain ⟨a, vs, rfl, hq, hl, l2, nd, rr⟩ := rv.dicI
          refine ⟨a, _, ks, rfl, g1.le.rdK hq, ?_, h64, fun ys q pm so hn => ?_⟩
          · have hv : ks.length = vs.length := by rw [rr.length]; exact hl
            clear hq rv r1 e e1 rr hl l2 nd h64 k
            induction ks generalizing vs with
            | nil => rfl
            | cons x ks ih =>
              cases vs with
              | nil => cases hv
              | cons y vs =>
                show Sum.inr x :: (zipK ks vs).map (·.1) = Sum.inr x :: ks.map Sum.inr
                rw [ih vs (by simpa using hv)]
          · have ey := sortS_one pm so
            rw [ey]
            have g := Gr.new (o := .lst ((sortS ks).map V.str)) g1.le hn
            exact k _ _ _ (g1.trans g) (.lst upd_same (by rw [List.length_map, (sortS_perm ks).length_eq]; exact l2) (reps_strs _ _))
        · cases e'
      | _ => cases e
end
end DL
/-! Layer D: own classes, isinstance. -/
namespace DL
open PySem PySem.Spec PyProof.Rows L2
/-- a property of the class c -/
structure Pp (P : Program) (w : World) (K : PySem.W.Frag) (mg : Str → Option Value) (base : Heap) (ca : Nat → Addr) (c : Nat) (fn : Str) (k : Nat) (F : List D → Option D) : Prop where
  ex : ∃ pr g fd ps, Cls K (ca c) ∧ PropOf K (ca c) fn pr g ∧ FnOk P w K mg base CX0 k g fd ps (spD K ca F) ∧ Binds K fd ps []
/-- a method of the class c -/
structure Me (P : Program) (w : World) (K : PySem.W.Frag) (mg : Str → Option Value) (base : Heap) (ca : Nat → Addr) (c : Nat) (m : Str) (k : Nat) (F : List D → Option D) : Prop where
  ex : ∃ g fd ps, Cls K (ca c) ∧ Meth K (ca c) m g ∧ FnOk P w K mg base CX0 k g fd ps (spD K ca F) ∧ Binds K fd ps [] ∧ ∀ vs : List V, (List.zip (fns c) vs).lookup m = none
/-- the making of an instance of the class c, dds the defaults that fill up -/
structure Mkr (P : Program) (w : World) (K : PySem.W.Frag) (mg : Str → Option Value) (base : Heap) (ca : Nat → Addr) (c : Nat) (x : Str) (k : Nat) (F : List D → Option D) (dds : List D) : Prop where
  ex : ∃ f1 fd ps dvs ds, mg x = some (.ref (ca c)) ∧ Mk K (ca c) f1 ∧ FnOk P w K mg base CX0 k f1 fd ps (spI K ca c F) ∧ Binds K fd ps ds ∧ Vals dvs ds ∧ ∀ G, Reps K ca G dvs dds
/-- C.m, a staticmethod -/
structure SMet (K : PySem.W.Frag) (C : Addr) (m : Str) (p g : Addr) : Prop where
  at_ : PySem.W.findCls K (.ref C) (.type "type") m = some (.get (.builtin "staticmethod.__get__") (.ref p) .none (.ref C))
  rc : ∃ rest, PySem.W.recIn K p "staticmethod" = some (.ref g :: rest)
  cr : ClX.CRead K C (.type "type")
  kp : PySem.W.keepIn K (.ref g) = true
structure Sm (P : Program) (w : World) (K : PySem.W.Frag) (mg : Str → Option Value) (base : Heap) (ca : Nat → Addr) (x m : Str) (k : Nat) (F : List D → Option D) : Prop where
  ex : ∃ C p g fd ps, mg x = some (.ref C) ∧ SMet K C m p g ∧ FnOk P w K mg base CX0 k g fd ps (spD K ca F) ∧ Binds K fd ps []
/-- an own operator -/
structure Oo (P : Program) (w : World) (K : PySem.W.Frag) (mg : Str → Option Value) (base : Heap) (ca : Nat → Addr) (c : Nat) (m : Str) (k : Nat) (F : List D → Option D) : Prop where
  ex : ∃ g fd ps, FnOk P w K mg base CX0 k g fd ps (spD K ca F) ∧ Binds K fd ps [] ∧ PySem.W.findIn K (.ref (ca c)) m = some (some (.ref g)) ∧ PySem.W.isFn K (.ref g) = true ∧ PySem.W.selfFirst K (ca c) = true
section
variable {X : Cx} {ca : Nat → Addr} {a b e o : Expr} {es : List Expr} {p pos apos : Pos} {f f1 f2 : Rho → Option D} {r : Rho → Option (List D)} {k n c : Nat} {F : List D → Option D} {dds : List D} {x m fn : Str}
theorem d_propC (h : Pp X.prog X.w X.K X.mg X.base ca c fn k F) (hr : Room n X.A) (hk : k + 1 ≤ n) (he : PE X o (tD X.K ca f)) (hab : attributeBase o fn X.env (eval o X.env) = eval o X.env := by rfl) : PE X (.Attribute o fn pos) (tD X.K ca (x_un (dProp c F) f)) := by
  obtain ⟨pr, g, fd, ps, cl, hp, FO, hb⟩ := h.ex
  exact d_prop rfl he cl hp FO hr hk hb hab
theorem d_methC {pl : Sem Bool} (h : Me X.prog X.w X.K X.mg X.base ca c m k F) (hr : Room n X.A) (hk : k ≤ n) (he : PE X o (tD X.K ca f)) (ha : PA X (e :: es) (tDA X.K ca r))
    (hst : starEach (e :: es) X.env = (false, eval e X.env) :: starEach es X.env := by rfl) (hpl : (backTo pos (starEach es X.env)).any (·.1) = false := by rfl)
    (ht : eval (.Call (.Attribute o m apos) (e :: es) [] pos) X.env = (do
      let ov ← eval o X.env
      standAt apos.atName
      let (f, first) ← holding [ov] (getMethod ov m pl)
      callWith pos f first (backTo pos (starEach (e :: es) X.env)) (backToKw pos (keywordEach [] X.env))) := by rfl) : PE X (.Call (.Attribute o m apos) (e :: es) [] pos) (tD X.K ca (x_meth c F f r)) := by
  obtain ⟨g, fd, ps, cl, hm, FO, hb, hno⟩ := h.ex
  exact d_meth rfl he cl hm FO hr hk hb hno ha hst hpl ht
theorem d_makeC (h : Mkr X.prog X.w X.K X.mg X.base ca c x k F dds) (hr : Room n X.A) (hk : k + 1 ≤ n) (ha : PA X (e :: es) (tDA X.K ca r)) (hg : Gl X x := by rfl) (hdb : (x == ("__debug__" : Str)) = false := by decide) (he : starEach (e :: es) X.env = (false, eval e X.env) :: starEach es X.env := by rfl) (hpl : (backTo pos (starEach es X.env)).any (·.1) = false := by rfl) :
    PE X (.Call (.Name x p) (e :: es) [] pos) (tD X.K ca (x_call (fun ds => F (ds ++ dds)) r)) := by
  obtain ⟨f1, fd, ps, dvs, ds, hm, M, FO, hb, hv, hd⟩ := h.ex
  exact d_make rfl M FO hr hk hg hm hb hv hd ha hdb he hpl
theorem d_makeC0 (h : Mkr X.prog X.w X.K X.mg X.base ca c x k F dds) (hr : Room n X.A) (hk : k + 1 ≤ n) (hg : Gl X x := by rfl) (hdb : (x == ("__debug__" : Str)) = false := by decide) :
    PE X (.Call (.Name x p) [] [] pos) (tD X.K ca (x_call (fun ds => F (ds ++ dds)) a_nil)) := by
  obtain ⟨f1, fd, ps, dvs, ds, hm, M, FO, hb, hv, hd⟩ := h.ex
  exact d_make0 rfl M FO hr hk hg hm hb hv hd hdb
/-- x.m(e, ..), x a class, m its staticmethod -/
theorem d_static {pl : Sem Bool} {p1 : Pos} (h : Sm X.prog X.w X.K X.mg X.base ca x m k F) (hr : Room n X.A) (hk : k ≤ n) (ha : PA X (e :: es) (tDA X.K ca r)) (hg : Gl X x := by rfl) (hdb : (x == ("__debug__" : Str)) = false := by decide)
    (hst : starEach (e :: es) X.env = (false, eval e X.env) :: starEach es X.env := by rfl) (hpl : (backTo pos (starEach es X.env)).any (·.1) = false := by rfl)
    (ht : eval (.Call (.Attribute (.Name x p1) m apos) (e :: es) [] pos) X.env = (do
      let ov ← eval (.Name x p1) X.env
      standAt apos.atName
      let (f, first) ← holding [ov] (getMethod ov m pl)
      callWith pos f first (backTo pos (starEach (e :: es) X.env)) (backToKw pos (keywordEach [] X.env))) := by rfl) : PE X (.Call (.Attribute (.Name x p1) m apos) (e :: es) [] pos) (tD X.K ca (x_call F r)) := by
  obtain ⟨C, pp, g, fd, ps, hm, S, FO, hb⟩ := h.ex
  have core : PE X (.Call (.Attribute (.Name x p1) m apos) (e :: es) [] pos) (tCall (spD X.K ca F) [] E0 (tDA X.K ca r)) := by
    refine ⟨fun pins s σ H Q I h => ?_⟩
    refine PySem.W.methodCall_KW (pl := pl) (ld_glob I hg hm ?_ hdb) ht
    obtain ⟨rest, hrec⟩ := S.rc
    refine PySem.W.method_cls I.kIn S.cr.ga ?_
    refine PySem.W.cls_bind I.kIn S.cr.rd S.at_ (wpAny_call (PySem.W.sm_get (s := { s with toks := s.toks + 1 }) I.kIn hrec (PySem.W.handed_on (handed_of (v := .ref g) rfl) ?_)))
    have I1 := I.tok (s.toks + 1)
    refine PySem.W.callWith_K (first := []) (h₀ := X.base) I.ok.mod.kin S.kp (thn (ha.run pos pins _ σ H _ I1 h) fun us s2 ⟨vs, H2, I2, rv, q2⟩ => ⟨I2.kIn, ?_⟩) hst hpl
    exact run_fn (us := us) FO (hr.mono hk) hb .nil pass0 I2 rv q2
  exact PE.imp core fun σ H Q h => go_sp (E := E0) (fun _ => .nil) σ H Q (nilD h)
/-! ### own operators -/
def rOwn (C : Addr) (sp : Sp) : R2 := fun x y H Q => ∃ a dx fs b dy gs, x = .ref a ∧ y = .ref b ∧ H a = some (.ins C dx fs) ∧ H b = some (.ins C dy gs) ∧ sp [x, y] H Q E0
theorem own_call {C g : Addr} {fd : FuncData} {ps : List Str} {sp : Sp} (FO : FnOk X.prog X.w X.K X.mg X.base CX0 k g fd ps sp) (hr : Room k X.A) (hb : Binds X.K fd ps []) {pins : List (Addr × Obj)} {σ : L2.St} {H : Hp} {s : Shared} {Q : VK} {x y : V} {v u : Value} (I : Inv X pins σ H s) (rx : RelV x v) (ry : RelV y u) (h : sp [x, y] H Q E0) :
    wpAny (model X.prog X.w) X.A (call (.ref g) [v, u]) (PySem.W.CmpBack (EP X pins σ Q)) X.xe s :=
  thn (run_fn (us := [v, u]) (vs := [x, y]) FO hr hb .nil pass0 I (.cons rx (.cons ry .nil)) (by simpa using h)) fun v s' ⟨z, H', I', r, q⟩ => SlX.cmpback r ⟨z, H', I', r, q⟩
theorem op_own {op : Operator} {C g : Addr} {fd : FuncData} {ps : List Str} {sp : Sp} (FO : FnOk X.prog X.w X.K X.mg X.base CX0 k g fd ps sp) (hr : Room k X.A) (hb : Binds X.K fd ps []) (hs : PySem.W.findIn X.K (.ref C) (PySem.dunder op.info.2) = some (some (.ref g))) (hf : PySem.W.isFn X.K (.ref g) = true) (hc : PySem.W.selfFirst X.K C = true) :
    OpR X (binaryOp op) (rOwn C sp) := by
  intro pins s σ H x y v u Q I rx ry h
  obtain ⟨a, dx, fs, b, dy, gs, rfl, rfl, ha, hb2, h⟩ := h
  cases rx
  cases ry
  obtain ⟨m, Fr⟩ := I.fr
  obtain ⟨mA, O, _⟩ := ins_get I.hok ha
  obtain ⟨od, J, _⟩ := O.look
  obtain ⟨mB, O2, _⟩ := ins_get I.hok hb2
  obtain ⟨od2, J2, _⟩ := O2.look
  exact PySem.W.binop_K Fr I.ok.mod.kin J J2.type hc hs hf (own_call (C := C) (x := .ref a) (y := .ref b) FO hr hb I rfl rfl h)
theorem op_ownEq {C g : Addr} {fd : FuncData} {ps : List Str} {sp : Sp} (FO : FnOk X.prog X.w X.K X.mg X.base CX0 k g fd ps sp) (hr : Room k X.A) (hb : Binds X.K fd ps []) (hs : PySem.W.findIn X.K (.ref C) "__eq__" = some (some (.ref g))) (hf : PySem.W.isFn X.K (.ref g) = true) :
    OpR X (compareOp .Eq) (rOwn C sp) := by
  intro pins s σ H x y v u Q I rx ry h
  obtain ⟨a, dx, fs, b, dy, gs, rfl, rfl, ha, hb2, h⟩ := h
  cases rx
  cases ry
  obtain ⟨m, Fr⟩ := I.fr
  obtain ⟨mA, O, _⟩ := ins_get I.hok ha
  obtain ⟨od, J, _⟩ := O.look
  obtain ⟨mB, O2, _⟩ := ins_get I.hok hb2
  obtain ⟨od2, J2, _⟩ := O2.look
  exact PySem.W.cmp_ofEq (PySem.W.cmp_K hr.units0 Fr I.ok.mod.kin J J2.type (by unfold PySem.W.notFirst; simp) hs hf (own_call (C := C) (x := .ref a) (y := .ref b) FO hr hb I rfl rfl h))
theorem br_own {K : PySem.W.Frag} {C : Addr} (hC : ca c = C) : BinR K ca (rOwn C (spD K ca F)) (dOwn c F) := fun G H x y d1 d2 d Q le r1 r2 e kk => by
  cases d1 <;> cases d2 <;> first | (cases e; done) | skip
  rename_i c1 ds c2 es
  have e' : (if c1 = c ∧ c2 = c then F [.obj c1 ds, .obj c2 es] else none) = some d := e
  by_cases h : c1 = c ∧ c2 = c
  · rw [if_pos h] at e'
    obtain ⟨rfl, rfl⟩ := h
    obtain ⟨a, dx, vs, rfl, ha, _, _⟩ := id r1.objI
    obtain ⟨b, dy, ws, rfl, hb, _, _⟩ := id r2.objI
    exact ⟨a, dx, _, b, dy, _, rfl, rfl, by rw [← hC]; exact le.ins ha, by rw [← hC]; exact le.ins hb, G, _, d, le, .cons r1 (.cons r2 .nil), e', kk⟩
  · rw [if_neg h] at e'; cases e'
theorem d_own {op : Operator} (h : Oo X.prog X.w X.K X.mg X.base ca c (PySem.dunder op.info.2) k F) (hr : Room n X.A) (hk : k ≤ n) (ha : PE X a (tD X.K ca f1)) (hb : PE X b (tD X.K ca f2)) : PE X (.BinOp a op b pos) (tD X.K ca (x_bin (dOwn c F) f1 f2)) := by
  obtain ⟨g, fd, ps, FO, hbi, hs, hf, hc⟩ := h.ex
  exact d_bin (op_own FO (hr.mono hk) hbi hs hf hc) (br_own rfl) ha hb
theorem d_eqOwn (h : Oo X.prog X.w X.K X.mg X.base ca c "__eq__" k F) (hr : Room n X.A) (hk : k ≤ n) (ha : PE X a (tD X.K ca f1)) (hb : PE X b (tD X.K ca f2)) : PE X (.Compare a [.Eq] [b] pos) (tD X.K ca (x_bin (dOwn c F) f1 f2)) := by
  obtain ⟨g, fd, ps, FO, hbi, hs, hf, hc⟩ := h.ex
  exact d_cmp (op_ownEq FO (hr.mono hk) hbi hs hf) (br_own rfl) ha hb (nomark _)
end
/-! ### isinstance -/
structure TyO (K : PySem.W.Frag) (C : Addr) : Prop where
  cl : Cls K C
  ha : PySem.W.findIn K (.ref C) "__class__" = some (some (.builtin "object.__class__"))
  hn : PySem.W.specialIn K (.builtin "object.__class__") "__get__" = some (some (.builtin "getset_descriptor.__get__"))
  htk : PySem.W.takesIn K (.builtin "object.__class__") = some true
  hm : PySem.W.mroIn K C (.type "object") = some true
structure IsiF (K : PySem.W.Frag) (mg : Str → Option Value) (ca : Nat → Addr) : Prop where
  o0 : TyO K (ca 0)
  o2 : TyO K (ca 2)
  lt0 : PySem.W.kitAny K (.ref (ca 0)) [.type "list", .type "tuple"] = some false
  pp : PySem.W.kitOne K (.ref (ca 2)) (.ref (ca 2)) = some true
  ps : PySem.W.kitOne K (.ref (ca 2)) (.ref (ca 1)) = some false
  gP : mg "Pipeline" = some (.ref (ca 2))
  gS : mg "Step" = some (.ref (ca 1))
  isi : mg "isinstance" = none
  list : mg "list" = none
  tuple : mg "tuple" = none
  str : mg "str" = none
  bool : mg "bool" = none
  int : mg "int" = none
def dIsStr : D → Option D | .str _ => some (.bl true) | .non => some (.bl false) | .bl _ => some (.bl false) | .int _ => some (.bl false) | .tup _ => some (.bl false) | .lst _ => some (.bl false) | _ => none
def dIsL : D → Option D | .lst _ => some (.bl true) | .non => some (.bl false) | .bl _ => some (.bl false) | .int _ => some (.bl false) | .tup _ => some (.bl false) | .str _ => some (.bl false) | _ => none
def dIsT : D → Option D | .tup _ => some (.bl true) | .non => some (.bl false) | .bl _ => some (.bl false) | .int _ => some (.bl false) | .lst _ => some (.bl false) | .str _ => some (.bl false) | _ => none
def dIsB : D → Option D | .bl _ => some (.bl true) | .non => some (.bl false) | .tup _ => some (.bl false) | .int _ => some (.bl false) | .lst _ => some (.bl false) | .str _ => some (.bl false) | _ => none
def dIsI : D → Option D | .int _ => some (.bl true) | .bl _ => some (.bl true) | .non => some (.bl false) | .tup _ => some (.bl false) | .lst _ => some (.bl false) | .str _ => some (.bl false) | _ => none
def dIsLT : D → Option D | .tup _ => some (.bl true) | .lst _ => some (.bl true) | .non => some (.bl false) | .bl _ => some (.bl false) | .int _ => some (.bl false) | .str _ => some (.bl false) | .obj 0 _ => some (.bl false) | _ => none
def dIsBS : D → Option D | .bl _ => some (.bl true) | .str _ => some (.bl true) | .non => some (.bl false) | .int _ => some (.bl false) | .tup _ => some (.bl false) | .lst _ => some (.bl false) | _ => none
def dIsP : D → Option D | .obj 2 _ => some (.bl true) | _ => none
def dIsS : D → Option D | .obj 2 _ => some (.bl false) | _ => none
section
variable {X : Cx} {ca : Nat → Addr} {e : Expr} {p p1 p2 p3 pos : Pos} {f : Rho → Option D}
theorem rep_ty {K : PySem.W.Frag} {G H : Hp} {v : V} {d : D} (le : Le G H) (r : Rep K ca G v d) : match d with
    | .non => TyX K H v (.type "NoneType") | .bl _ => TyX K H v (.type "bool") | .int _ => TyX K H v (.type "int") | .str _ => TyX K H v (.type "str") | .tup _ => TyX K H v (.type "tuple") | .lst _ => TyX K H v (.type "list") | _ => True := by
  cases r with
  | non => exact .base .non
  | bl b => exact .base (.bl b)
  | int b => exact .base (.int b)
  | str b => exact .base (.str b)
  | tup h _ _ =>
    rcases le.tup h with (h | ⟨o, h⟩) | ⟨o, its, n, hk, hc, _⟩
    · exact .base (.tup h)
    · exact .fTuple h
    · exact .kTuple hk hc
  | lst h _ _ => exact .base (.lst (le.lst h))
  | dic _ _ _ _ _ => trivial
  | obj _ _ _ => trivial
/-- isinstance(e, T), T a built-in class -/
theorem isi_one {T : String} {x : Str} {g : D → Option D} (hm : X.mg "isinstance" = none) (hT : X.mg x = none) (hx : bootBuiltins x = some (.type T)) (hn : x ≠ "__name__") (hd : (x == ("__debug__" : Str)) = false)
    (hg : ∀ G H v d d', Le G H → Rep X.K ca G v d → g d = some d' → ∃ t b, TyX X.K H v t ∧ PySem.W.kitOne X.K t (.type T) = some b ∧ d' = .bl b) (h : PE X e (tD X.K ca f)) (gi : Gl X "isinstance") (gx : Gl X x)
    (h1 : starEach [e, .Name x p1] X.env = (false, eval e X.env) :: starEach [.Name x p1] X.env) (h2 : starEach [.Name x p1] X.env = (false, eval (.Name x p1) X.env) :: starEach [] X.env) (hpl : (backTo pos (starEach [.Name x p1] X.env)).any (·.1) = false) :
    PE X (.Call (.Name "isinstance" p) [e, .Name x p1] [] pos) (tD X.K ca (x_un g f)) :=
  PE.imp (pe_callB call_isi gi hm (by decide +kernel) (pa_cons h (pa_cons (pe_bltn gx hT hx (v := .ty T) rfl hn hd) pa_nil h2) h1) (by decide) (by decide) h1 hpl) fun σ H Q ⟨G, ρ, d, S, e, k⟩ => by
    unfold x_un at e
    cases e1 : f ρ with
    | none => rw [e1] at e; cases e
    | some x =>
      rw [e1, Option.bind_some] at e
      refine ⟨G, ρ, x, S, e1, fun v H1 G1 g1 r1 => ?_⟩
      obtain ⟨t, b, ty, kt, rfl⟩ := hg G1 H1 v x d g1.le r1 e
      exact ⟨v, .ty T, t, .type T, b, rfl, .ty T, ty, kt, k _ _ _ g1 (.bl b)⟩
theorem d_isStr (B : IsiF X.K X.mg ca) (h : PE X e (tD X.K ca f)) (gi : Gl X "isinstance" := by rfl) (gx : Gl X "str" := by rfl)
    (h1 : starEach [e, .Name "str" p1] X.env = (false, eval e X.env) :: starEach [.Name "str" p1] X.env := by rfl) (h2 : starEach [.Name "str" p1] X.env = (false, eval (.Name "str" p1) X.env) :: starEach [] X.env := by rfl) (hpl : (backTo pos (starEach [.Name "str" p1] X.env)).any (·.1) = false := by rfl) :
    PE X (.Call (.Name "isinstance" p) [e, .Name "str" p1] [] pos) (tD X.K ca (x_un dIsStr f)) :=
  isi_one (T := "str") B.isi B.str (by decide +kernel) (by decide) (by decide) (fun G H v d d' le r q => by
    have z := rep_ty le r
    cases d <;> first | (cases q; done) | (cases q; exact ⟨_, _, z, kit_ty (by decide +kernel), rfl⟩)) h gi gx h1 h2 hpl
theorem d_isL (B : IsiF X.K X.mg ca) (h : PE X e (tD X.K ca f)) (gi : Gl X "isinstance" := by rfl) (gx : Gl X "list" := by rfl)
    (h1 : starEach [e, .Name "list" p1] X.env = (false, eval e X.env) :: starEach [.Name "list" p1] X.env := by rfl) (h2 : starEach [.Name "list" p1] X.env = (false, eval (.Name "list" p1) X.env) :: starEach [] X.env := by rfl) (hpl : (backTo pos (starEach [.Name "list" p1] X.env)).any (·.1) = false := by rfl) :
    PE X (.Call (.Name "isinstance" p) [e, .Name "list" p1] [] pos) (tD X.K ca (x_un dIsL f)) :=
  isi_one (T := "list") B.isi B.list (by decide +kernel) (by decide) (by decide) (fun G H v d d' le r q => by
    have z := rep_ty le r
    cases d <;> first | (cases q; done) | (cases q; exact ⟨_, _, z, kit_ty (by decide +kernel), rfl⟩)) h gi gx h1 h2 hpl
theorem d_isT (B : IsiF X.K X.mg ca) (h : PE X e (tD X.K ca f)) (gi : Gl X "isinstance" := by rfl) (gx : Gl X "tuple" := by rfl)
    (h1 : starEach [e, .Name "tuple" p1] X.env = (false, eval e X.env) :: starEach [.Name "tuple" p1] X.env := by rfl) (h2 : starEach [.Name "tuple" p1] X.env = (false, eval (.Name "tuple" p1) X.env) :: starEach [] X.env := by rfl) (hpl : (backTo pos (starEach [.Name "tuple" p1] X.env)).any (·.1) = false := by rfl) :
    PE X (.Call (.Name "isinstance" p) [e, .Name "tuple" p1] [] pos) (tD X.K ca (x_un dIsT f)) :=
  isi_one (T := "tuple") B.isi B.tuple (by decide +kernel) (by decide) (by decide) (fun G H v d d' le r q => by
    have z := rep_ty le r
    cases d <;> first | (cases q; done) | (cases q; exact ⟨_, _, z, kit_ty (by decide +kernel), rfl⟩)) h gi gx h1 h2 hpl
theorem d_isB (B : IsiF X.K X.mg ca) (h : PE X e (tD X.K ca f)) (gi : Gl X "isinstance" := by rfl) (gx : Gl X "bool" := by rfl)
    (h1 : starEach [e, .Name "bool" p1] X.env = (false, eval e X.env) :: starEach [.Name "bool" p1] X.env := by rfl) (h2 : starEach [.Name "bool" p1] X.env = (false, eval (.Name "bool" p1) X.env) :: starEach [] X.env := by rfl) (hpl : (backTo pos (starEach [.Name "bool" p1] X.env)).any (·.1) = false := by rfl) :
    PE X (.Call (.Name "isinstance" p) [e, .Name "bool" p1] [] pos) (tD X.K ca (x_un dIsB f)) :=
  isi_one (T := "bool") B.isi B.bool (by decide +kernel) (by decide) (by decide) (fun G H v d d' le r q => by
    have z := rep_ty le r
    cases d <;> first | (cases q; done) | (cases q; exact ⟨_, _, z, kit_ty (by decide +kernel), rfl⟩)) h gi gx h1 h2 hpl
theorem d_isI (B : IsiF X.K X.mg ca) (h : PE X e (tD X.K ca f)) (gi : Gl X "isinstance" := by rfl) (gx : Gl X "int" := by rfl)
    (h1 : starEach [e, .Name "int" p1] X.env = (false, eval e X.env) :: starEach [.Name "int" p1] X.env := by rfl) (h2 : starEach [.Name "int" p1] X.env = (false, eval (.Name "int" p1) X.env) :: starEach [] X.env := by rfl) (hpl : (backTo pos (starEach [.Name "int" p1] X.env)).any (·.1) = false := by rfl) :
    PE X (.Call (.Name "isinstance" p) [e, .Name "int" p1] [] pos) (tD X.K ca (x_un dIsI f)) :=
  isi_one (T := "int") B.isi B.int (by decide +kernel) (by decide) (by decide) (fun G H v d d' le r q => by
    have z := rep_ty le r
    cases d <;> first | (cases q; done) | (cases q; exact ⟨_, _, z, kit_ty (by decide +kernel), rfl⟩)) h gi gx h1 h2 hpl
/-- isinstance(e, C), an own class -/
theorem isi_own {x : Str} {C : Addr} {g : D → Option D} (hm : X.mg "isinstance" = none) (hx : X.mg x = some (.ref C)) (hd : (x == ("__debug__" : Str)) = false)
    (hg : ∀ G H v d d', Le G H → Rep X.K ca G v d → g d = some d' → ∃ t b, TyX X.K H v t ∧ PySem.W.kitOne X.K t (.ref C) = some b ∧ d' = .bl b) (h : PE X e (tD X.K ca f)) (gi : Gl X "isinstance") (gx : Gl X x)
    (h1 : starEach [e, .Name x p1] X.env = (false, eval e X.env) :: starEach [.Name x p1] X.env) (h2 : starEach [.Name x p1] X.env = (false, eval (.Name x p1) X.env) :: starEach [] X.env) (hpl : (backTo pos (starEach [.Name x p1] X.env)).any (·.1) = false) :
    PE X (.Call (.Name "isinstance" p) [e, .Name x p1] [] pos) (tD X.K ca (x_un g f)) :=
  PE.imp (pe_callB call_isi gi hm (by decide +kernel) (pa_cons h (pa_cons (pe_glob gx hx (v := .ref C) rfl hd) pa_nil h2) h1) (by decide) (by decide) h1 hpl) fun σ H Q ⟨G, ρ, d, S, e, k⟩ => by
    unfold x_un at e
    cases e1 : f ρ with
    | none => rw [e1] at e; cases e
    | some x =>
      rw [e1, Option.bind_some] at e
      refine ⟨G, ρ, x, S, e1, fun v H1 G1 g1 r1 => ?_⟩
      obtain ⟨t, b, ty, kt, rfl⟩ := hg G1 H1 v x d g1.le r1 e
      exact ⟨v, .ref C, t, .ref C, b, rfl, .own C, ty, kt, k _ _ _ g1 (.bl b)⟩
theorem TyO.of {K : PySem.W.Frag} {C : Addr} (T : TyO K C) {H : Hp} {a dx : Addr} {fs : List (Str × V)} (h : H a = some (.ins C dx fs)) : TyX K H (.ref a) (.ref C) := .base (.ins h T.cl T.ha T.hn T.htk T.hm)
theorem d_isP (B : IsiF X.K X.mg ca) (h : PE X e (tD X.K ca f)) (gi : Gl X "isinstance" := by rfl) (gx : Gl X "Pipeline" := by rfl)
    (h1 : starEach [e, .Name "Pipeline" p1] X.env = (false, eval e X.env) :: starEach [.Name "Pipeline" p1] X.env := by rfl) (h2 : starEach [.Name "Pipeline" p1] X.env = (false, eval (.Name "Pipeline" p1) X.env) :: starEach [] X.env := by rfl) (hpl : (backTo pos (starEach [.Name "Pipeline" p1] X.env)).any (·.1) = false := by rfl) :
    PE X (.Call (.Name "isinstance" p) [e, .Name "Pipeline" p1] [] pos) (tD X.K ca (x_un dIsP f)) :=
  isi_own B.isi B.gP (by decide) (fun G H v d d' le r q => by
    cases d <;> first | (cases q; done) | skip
    rename_i c ds
    match c, q with
    | 2, q =>
      cases q
      obtain ⟨a, dx, vs, rfl, ha, _, _⟩ := r.objI
      exact ⟨_, _, B.o2.of (le.ins ha), B.pp, rfl⟩) h gi gx h1 h2 hpl
theorem d_isS (B : IsiF X.K X.mg ca) (h : PE X e (tD X.K ca f)) (gi : Gl X "isinstance" := by rfl) (gx : Gl X "Step" := by rfl)
    (h1 : starEach [e, .Name "Step" p1] X.env = (false, eval e X.env) :: starEach [.Name "Step" p1] X.env := by rfl) (h2 : starEach [.Name "Step" p1] X.env = (false, eval (.Name "Step" p1) X.env) :: starEach [] X.env := by rfl) (hpl : (backTo pos (starEach [.Name "Step" p1] X.env)).any (·.1) = false := by rfl) :
    PE X (.Call (.Name "isinstance" p) [e, .Name "Step" p1] [] pos) (tD X.K ca (x_un dIsS f)) :=
  isi_own B.isi B.gS (by decide) (fun G H v d d' le r q => by
    cases d <;> first | (cases q; done) | skip
    rename_i c ds
    match c, q with
    | 2, q =>
      cases q
      obtain ⟨a, dx, vs, rfl, ha, _, _⟩ := r.objI
      exact ⟨_, _, B.o2.of (le.ins ha), B.ps, rfl⟩) h gi gx h1 h2 hpl
/-- isinstance(e, (T1, T2)) -/
theorem isi_two {T1 T2 : String} {x y : Str} {k : Nat} {g : D → Option D} (hm : X.mg "isinstance" = none) (hT1 : X.mg x = none) (hT2 : X.mg y = none) (hx : bootBuiltins x = some (.type T1)) (hy : bootBuiltins y = some (.type T2)) (hn : x ≠ "__name__") (hd : (x == ("__debug__" : Str)) = false) (hn2 : y ≠ "__name__") (hd2 : (y == ("__debug__" : Str)) = false)
    (hg : ∀ G H v d d', Le G H → Rep X.K ca G v d → g d = some d' → ∃ t b, TyX X.K H v t ∧ PySem.W.kitAny X.K t [.type T1, .type T2] = some b ∧ d' = .bl b) (h : PE X e (tD X.K ca f)) (gi : Gl X "isinstance") (gx : Gl X x) (gy : Gl X y)
    (h1 : starEach [e, .Tuple [.Name x p1, .Name y p2] k p3] X.env = (false, eval e X.env) :: starEach [.Tuple [.Name x p1, .Name y p2] k p3] X.env) (h2 : starEach [.Tuple [.Name x p1, .Name y p2] k p3] X.env = (false, eval (.Tuple [.Name x p1, .Name y p2] k p3) X.env) :: starEach [] X.env)
    (h3 : starEach [.Name x p1, .Name y p2] X.env = (false, eval (.Name x p1) X.env) :: starEach [.Name y p2] X.env) (h4 : starEach [.Name y p2] X.env = (false, eval (.Name y p2) X.env) :: starEach [] X.env)
    (hpl : (backTo pos (starEach [.Tuple [.Name x p1, .Name y p2] k p3] X.env)).any (·.1) = false) :
    PE X (.Call (.Name "isinstance" p) [e, .Tuple [.Name x p1, .Name y p2] k p3] [] pos) (tD X.K ca (x_un g f)) :=
  PE.imp (pe_callB call_isiT gi hm (by decide +kernel) (pa_cons h (pa_cons (pe_tup (pa_cons (pe_bltn gx hT1 hx (v := .ty T1) rfl hn hd) (pa_cons (pe_bltn gy hT2 hy (v := .ty T2) rfl hn2 hd2) pa_nil h4) h3)) pa_nil h2) h1) (by decide) (by decide) h1 hpl) fun σ H Q ⟨G, ρ, d, S, e, k⟩ => by
    unfold x_un at e
    cases e1 : f ρ with
    | none => rw [e1] at e; cases e
    | some x =>
      rw [e1, Option.bind_some] at e
      refine ⟨G, ρ, x, S, e1, fun v H1 G1 g1 r1 => ⟨show 2 ≤ sizeLine by decide, fun q hq => ?_⟩⟩
      have g2 := Gr.newH (o := .tup [.ty T1, .ty T2]) g1.le hq
      obtain ⟨t, b, ty, kt, rfl⟩ := hg G1 _ v x d g2.le r1 e
      exact ⟨v, q, _, t, [.type T1, .type T2], b, rfl, upd_same, .cons (.ty T1) (.cons (.ty T2) .nil), ty, kt, k _ _ _ (g1.trans g2) (.bl b)⟩
theorem kit_two {K : PySem.W.Frag} {t : Value} {a b : Value} {r1 r2 : Bool} (h1 : PySem.W.kitOne K t a = some r1) (h2 : PySem.W.kitOne K t b = some r2) : PySem.W.kitAny K t [a, b] = some (r1 || r2) := by
  unfold PySem.W.kitAny
  rw [h1]
  cases r1 with
  | true => rfl
  | false =>
    dsimp only
    unfold PySem.W.kitAny
    rw [h2]
    cases r2 <;> rfl
theorem d_isLT {k : Nat} (B : IsiF X.K X.mg ca) (h : PE X e (tD X.K ca f)) (gi : Gl X "isinstance" := by rfl) (gx : Gl X "list" := by rfl) (gy : Gl X "tuple" := by rfl)
    (h1 : starEach [e, .Tuple [.Name "list" p1, .Name "tuple" p2] k p3] X.env = (false, eval e X.env) :: starEach [.Tuple [.Name "list" p1, .Name "tuple" p2] k p3] X.env := by rfl) (h2 : starEach [.Tuple [.Name "list" p1, .Name "tuple" p2] k p3] X.env = (false, eval (.Tuple [.Name "list" p1, .Name "tuple" p2] k p3) X.env) :: starEach [] X.env := by rfl)
    (h3 : starEach [.Name "list" p1, .Name "tuple" p2] X.env = (false, eval (.Name "list" p1) X.env) :: starEach [.Name "tuple" p2] X.env := by rfl) (h4 : starEach [.Name "tuple" p2] X.env = (false, eval (.Name "tuple" p2) X.env) :: starEach [] X.env := by rfl)
    (hpl : (backTo pos (starEach [.Tuple [.Name "list" p1, .Name "tuple" p2] k p3] X.env)).any (·.1) = false := by rfl) :
    PE X (.Call (.Name "isinstance" p) [e, .Tuple [.Name "list" p1, .Name "tuple" p2] k p3] [] pos) (tD X.K ca (x_un dIsLT f)) :=
  isi_two (T1 := "list") (T2 := "tuple") B.isi B.list B.tuple (by decide +kernel) (by decide +kernel) (by decide) (by decide) (by decide) (by decide) (fun G H v d d' le r q => by
    have z := rep_ty le r
    cases d <;> first
      | (cases q; done)
      | (cases q; exact ⟨_, _, z, kit_two (r1 := false) (r2 := false) (kit_ty (by decide +kernel)) (kit_ty (by decide +kernel)), rfl⟩)
      | (cases q; exact ⟨_, _, z, kit_two (r1 := true) (r2 := false) (kit_ty (by decide +kernel)) (kit_ty (by decide +kernel)), rfl⟩)
      | (cases q; exact ⟨_, _, z, kit_two (r1 := false) (r2 := true) (kit_ty (by decide +kernel)) (kit_ty (by decide +kernel)), rfl⟩)
      | (rename_i c ds
         match c, q with
         | 0, q =>
           cases q
           obtain ⟨a, dx, vs, rfl, ha, _, _⟩ := r.objI
           exact ⟨_, _, B.o0.of (le.ins ha), B.lt0, rfl⟩)) h gi gx gy h1 h2 h3 h4 hpl
theorem d_isBS {k : Nat} (B : IsiF X.K X.mg ca) (h : PE X e (tD X.K ca f)) (gi : Gl X "isinstance" := by rfl) (gx : Gl X "bool" := by rfl) (gy : Gl X "str" := by rfl)
    (h1 : starEach [e, .Tuple [.Name "bool" p1, .Name "str" p2] k p3] X.env = (false, eval e X.env) :: starEach [.Tuple [.Name "bool" p1, .Name "str" p2] k p3] X.env := by rfl) (h2 : starEach [.Tuple [.Name "bool" p1, .Name "str" p2] k p3] X.env = (false, eval (.Tuple [.Name "bool" p1, .Name "str" p2] k p3) X.env) :: starEach [] X.env := by rfl)
    (h3 : starEach [.Name "bool" p1, .Name "str" p2] X.env = (false, eval (.Name "bool" p1) X.env) :: starEach [.Name "str" p2] X.env := by rfl) (h4 : starEach [.Name "str" p2] X.env = (false, eval (.Name "str" p2) X.env) :: starEach [] X.env := by rfl)
    (hpl : (backTo pos (starEach [.Tuple [.Name "bool" p1, .Name "str" p2] k p3] X.env)).any (·.1) = false := by rfl) :
    PE X (.Call (.Name "isinstance" p) [e, .Tuple [.Name "bool" p1, .Name "str" p2] k p3] [] pos) (tD X.K ca (x_un dIsBS f)) :=
  isi_two (T1 := "bool") (T2 := "str") B.isi B.bool B.str (by decide +kernel) (by decide +kernel) (by decide) (by decide) (by decide) (by decide) (fun G H v d d' le r q => by
    have z := rep_ty le r
    cases d <;> first
      | (cases q; done)
      | (cases q; exact ⟨_, _, z, kit_two (r1 := false) (r2 := false) (kit_ty (by decide +kernel)) (kit_ty (by decide +kernel)), rfl⟩)
      | (cases q; exact ⟨_, _, z, kit_two (r1 := true) (r2 := false) (kit_ty (by decide +kernel)) (kit_ty (by decide +kernel)), rfl⟩)
      | (cases q; exact ⟨_, _, z, kit_two (r1 := false) (r2 := true) (kit_ty (by decide +kernel)) (kit_ty (by decide +kernel)), rfl⟩)) h gi gx gy h1 h2 h3 h4 hpl
end
end DL
/-! Layer D: sorted(set(things)), things texts or ints. -/
namespace DL
open PySem PySem.Spec PyProof.Rows L2
/-- a key out of a value, for a kind of keys -/
structure KF {P : Program} {w : World} {T : Type} [DecidableEq T] (kd : PySem.KeyKind P w T) (key : Value → T) : Prop where
  out : ∀ k v, kd.is k v = true → key v = k
  scan : ∀ k v, kd.is k v = true → v.scannable = true
def SetG {P : Program} {w : World} {T : Type} [DecidableEq T] (kd : PySem.KeyKind P w T) (key : Value → T) (h : Heap) (a : Addr) (ks : List T) : Prop :=
  ∃ ob els ep tb, h.get? a = some ob ∧ ob.ExactSet ∧ ob.data = .set els ep tb ∧ ElemsOf kd els.toList ∧ (els.toList.map fun e => key e.2).Perm ks ∧ ks.Nodup ∧
    els.size < scanBound ∧ tb.fits els.size = true ∧ Ris tb.place.toList ∧ (w.params.followText "set-order" = true ∨ tb.led = true)
def addK {T : Type} [DecidableEq T] (ks : List T) (k : T) : List T := if k ∈ ks then ks else k :: ks
def nubG {T : Type} [DecidableEq T] (xs : List T) : List T := xs.foldl addK []
abbrev set0 (w : World) : Obj := { cls := .type "set", dict := none, data := .set #[] 0 (.fresh 0 0 (!w.params.followText "set-order")) }
section
variable {T : Type} [DecidableEq T]
theorem addK_mem {ks : List T} {k j : T} : j ∈ addK ks k ↔ j ∈ ks ∨ j = k := by
  unfold addK
  split
  · rename_i h
    exact ⟨.inl, fun z => z.elim id fun e => e ▸ h⟩
  · rw [List.mem_cons]; exact Or.comm
theorem addK_nodup {ks : List T} {k : T} (h : ks.Nodup) : (addK ks k).Nodup := by
  unfold addK
  split
  · exact h
  · rename_i q; exact List.nodup_cons.mpr ⟨q, h⟩
theorem addK_len {ks : List T} {k : T} : (addK ks k).length ≤ ks.length + 1 := by
  unfold addK
  split
  · exact Nat.le_succ _
  · exact Nat.le_refl _
theorem nubG_take {xs : List T} {i : Nat} {k : T} (h : xs[i]? = some k) : nubG (xs.take (i + 1)) = addK (nubG (xs.take i)) k := by
  unfold nubG
  rw [List.take_add_one, h]
  show (xs.take i ++ [k]).foldl addK [] = _
  rw [List.foldl_append] <;> rfl
theorem foldl_len : ∀ (xs ks : List T), (xs.foldl addK ks).length ≤ ks.length + xs.length
  | [], ks => by simp
  | x :: xs, ks => by
    have a := foldl_len xs (addK ks x)
    have b := addK_len (ks := ks) (k := x)
    rw [List.foldl_cons, List.length_cons]
    omega
theorem nubG_len (xs : List T) : (nubG xs).length ≤ xs.length := by
  have := foldl_len xs []
  simpa [nubG] using this
theorem foldl_mem : ∀ (xs ks : List T) (j : T), j ∈ xs.foldl addK ks ↔ j ∈ ks ∨ j ∈ xs
  | [], ks, j => by simp
  | x :: xs, ks, j => by
    rw [List.foldl_cons, foldl_mem xs, addK_mem, List.mem_cons, or_assoc]
theorem nubG_mem (xs : List T) (j : T) : j ∈ nubG xs ↔ j ∈ xs := by
  have := foldl_mem xs [] j
  simpa [nubG] using this
theorem foldl_nodup : ∀ (xs ks : List T), ks.Nodup → (xs.foldl addK ks).Nodup
  | [], ks, h => h
  | x :: xs, ks, h => by rw [List.foldl_cons]; exact foldl_nodup xs _ (addK_nodup h)
theorem nubG_nodup (xs : List T) : (nubG xs).Nodup := foldl_nodup xs [] List.nodup_nil
end
section
variable {P : Program} {w : World} {A : Around} {E : Value → Shared → Prop} {s : Shared} {T : Type} [DecidableEq T] {kd : PySem.KeyKind P w T} {key : Value → T} {a : Addr} {ks : List T}
theorem SetG.at {h h' : Heap} (G : SetG kd key h a ks) (k : ∀ o, h.get? a = some o → h'.get? a = some o) : SetG kd key h' a ks := by
  obtain ⟨ob, els, ep, tb, g, r⟩ := G
  exact ⟨ob, els, ep, tb, k ob g, r⟩
theorem setG_new {h : Heap} (ho : h.get? a = some (set0 w)) : SetG kd key h a ([] : List T) :=
  ⟨_, #[], 0, _, ho, ⟨rfl, rfl, rfl⟩, rfl, (fun e he => by simp at he), .refl _, List.nodup_nil, (by decide), (by rfl), List.Pairwise.nil, by
    show _ ∨ (!w.params.followText "set-order") = true
    cases w.params.followText "set-order"
    · exact .inr rfl
    · exact .inl rfl⟩
theorem elems_key (F : KF kd key) {l : List (Int × Value)} (h : ElemsOf kd l) (k : T) : (∃ e ∈ l, kd.is k e.2 = true) ↔ k ∈ l.map fun e => key e.2 := by
  rw [List.mem_map]
  constructor
  · rintro ⟨e, he, q⟩; exact ⟨e, he, F.out k _ q⟩
  · rintro ⟨e, he, q⟩
    obtain ⟨⟨j, hj, _⟩, _⟩ := h e he
    have := F.out j _ hj
    rw [q] at this
    exact ⟨e, he, this ▸ hj⟩
theorem setG_tail {g : Bool → Sem Unit} (hg : ∀ (b : Bool) (s₁ : Shared) (Q' : Unit → Shared → Prop), Q' () s₁ → wpAny (model P w) A (g b) Q' E s₁)
    {ob : Obj} {els : Array (Int × Value)} {ep : Nat} {tb : SetTable} (ho : s.heap.get? a = some ob) (hx : ob.ExactSet) (hd : ob.data = .set els ep tb)
    {els1 : Array (Int × Value)} {tb2 : SetTable} {ks' : List T} (he : ElemsOf kd els1.toList) (hp : (els1.toList.map fun e => key e.2).Perm ks') (hn : ks'.Nodup)
    (hb : els1.size < scanBound) (hf : tb2.fits els1.size = true) (hr : Ris tb2.place.toList) (hl : w.params.followText "set-order" = true ∨ tb2.led = true) {wd : Bool} {R : Option Bool → Shared → Prop}
    (hR : ∀ h', Heap.SameBut a s.heap h' → SetG kd key h' a ks' → R (some true) { s with heap := h' }) :
    wpAny (model P w) A (do
        storeSet a els1 tb2
        if (!wd && tb2.tooFull) = true then do
            g (relayAll tb2 els1 (SetTable.grown els1.size)).2.2
            storeSet a (relayAll tb2 els1 (SetTable.grown els1.size)).1 (relayAll tb2 els1 (SetTable.grown els1.size)).2.1
            pure (some true)
          else pure (some true)) R E s := by
  refine wpAny_bind (wpAny_storeSet_of ho hd ?_ (fits_of_scanBound hb))
  have h1 := store_at (es' := els1) (t' := tb2) ho hd
  have b1 := Heap.SameBut.update s.heap a (Obj.putSet els1 tb2)
  split
  · have p1 := relayAll_perm tb2 els1 (SetTable.grown els1.size)
    have f1 := relayAll_fits tb2 els1 (SetTable.grown els1.size)
    have r1 := relayAll_ris tb2 els1 (SetTable.grown els1.size)
    have l1 := relayAll_led tb2 els1 (SetTable.grown els1.size)
    generalize relayAll tb2 els1 (SetTable.grown els1.size) = Y at p1 f1 r1 l1 ⊢
    obtain ⟨els2, tb3, gw⟩ := Y
    dsimp only at p1 f1 r1 l1 ⊢
    have z1 : els2.size = els1.size := by rw [← Array.length_toList, p1.length_eq, Array.length_toList]
    have z2 : els2.size < scanBound := by rw [z1]; exact hb
    refine wpAny_bind (hg _ _ _ (wpAny_bind (wpAny_storeSet_of h1 rfl ?_ (fits_of_scanBound z2))))
    have h2 := store_at (es' := els2) (t' := tb3) h1 rfl
    refine wpAny_pure (hR _ (b1.trans (Heap.SameBut.update _ a _)) ?_)
    exact ⟨_, els2, _, tb3, h2, hx, rfl, he.perm p1, (p1.map _).trans hp, hn, z2, f1, r1, hl.imp id fun z => by rw [l1]; exact z⟩
  · exact wpAny_pure (hR _ b1 ⟨_, els1, _, tb2, h1, hx, rfl, he, hp, hn, hb, hf, hr, hl⟩)
theorem setG_add (F : KF kd key) {k : T} {x : Value} {Q : Bool → Shared → Prop} (hk : kd.is k x = true) (G : SetG kd key s.heap a ks) (room : ks.length + 1 < scanBound)
    (hQ : ∀ (b : Bool) h', Heap.SameBut a s.heap h' → SetG kd key h' a (addK ks k) → Q b { s with heap := h' }) : wpAny (model P w) A (setAddHashed a x (kd.hash k)) Q E s := by
  obtain ⟨ob, els, ep, tb, ho, hx, hd, he, hp, hn, hb, hf, hr, hl⟩ := G
  have sc := F.scan k x hk
  unfold setAddHashed setAddHashedIn
  refine wpAny_holding (wpAny_bind (wpAny_setState_of ho hd hf ?_))
  dsimp only
  rw [byScan_of sc hb he]
  simp only [↓reduceIte]
  unfold setAddByScan
  refine wpAny_bind (wpAny_bind (wpAny_rule (wpAny_bind (wpAny_setScan_of hk ho hd hf he ?_))))
  cases q : List.findIdx? (fun e => kd.is k e.2) els.toList with
  | some j =>
    dsimp only
    obtain ⟨j1, j2, _⟩ := List.findIdx?_eq_some_iff_getElem.mp q
    have hin : k ∈ ks := hp.mem_iff.mp ((elems_key F he k).mp ⟨els.toList[j], List.getElem_mem j1, j2⟩)
    refine wpAny_pure (wpAny_pure (hQ _ s.heap (Heap.SameBut.refl a s.heap) ?_))
    unfold addK
    rw [if_pos hin]
    exact ⟨ob, els, ep, tb, ho, hx, hd, he, hp, hn, hb, hf, hr, hl⟩
  | none =>
    dsimp only
    have hno : k ∉ ks := fun z => by
      obtain ⟨e, e1, e2⟩ := (elems_key F he k).mpr (hp.mem_iff.mpr z)
      have c := List.findIdx?_eq_none_iff.mp q e e1
      rw [e2] at c
      cases c
    have hgw : ∀ (b : Bool) {s₁ : Shared} {Q' : Unit → Shared → Prop}, Q' () s₁ → wpAny (model P w) A (match b with | true => rule "set.scan.the-table-gave-way" | false => pure ()) Q' E s₁ :=
      fun b s₁ Q' z => by cases b <;> first | exact wpAny_pure z | exact wpAny_rule z
    have p1 := layNew_perm tb els (kd.hash k) x
    have f1 := layNew_fits tb els (kd.hash k) x
    have r1 := layNew_ris tb els (kd.hash k) x hr
    have l1 := layNew_led tb els (kd.hash k) x
    generalize layNew tb els (kd.hash k) x = Y at p1 f1 r1 l1 ⊢
    obtain ⟨els1, tb1, wd, gw⟩ := Y
    dsimp only at p1 f1 r1 l1 ⊢
    rw [Array.toList_push] at p1
    have e1 : ElemsOf kd els1.toList := (he.push hk sc).perm p1
    have p2 : (els1.toList.map fun e => key e.2).Perm (k :: ks) := by
      refine (p1.map _).trans ?_
      rw [List.map_append]
      refine (List.perm_append_singleton _ _).trans ?_
      show (key x :: _).Perm _
      rw [F.out k x hk]
      exact hp.cons k
    have n1 : (k :: ks).Nodup := List.nodup_cons.mpr ⟨hno, hn⟩
    have zl : els1.size = ks.length + 1 := by
      have := p2.length_eq
      rw [List.length_map, Array.length_toList] at this
      simpa using this
    have b1 : els1.size < scanBound := by rw [zl]; exact room
    have ld : w.params.followText "set-order" = true ∨ tb1.led = true := hl.imp id fun z => by rw [l1]; exact z
    have fin : ∀ h', Heap.SameBut a s.heap h' → SetG kd key h' a (k :: ks) → Q true { s with heap := h' } := fun h' sb r => hQ true h' sb (by unfold addK; rw [if_neg hno]; exact r)
    refine wpAny_bind (hgw _ ?_)
    split
    · refine wpAny_bind ?_
      rw [hashByValue_scannable 8 sc]
      refine wpAny_pure (setG_tail ?_ ho hx hd e1 p2 n1 b1 ?_ ?_ ?_ ?_)
      · intro b s₁ Q' z; cases b <;> first | exact wpAny_pure z | exact wpAny_rule z
      · first | (split <;> first | exact f1 | exact SetTable.fits_plain_off f1) | exact f1
      · first | (split <;> exact r1) | exact r1
      · first | (split <;> exact ld) | exact ld
      · intro h' sb r; dsimp only; exact wpAny_pure (fin h' sb r)
    · refine wpAny_bind (wpAny_pure ?_)
      simp only [↓reduceIte]
      refine setG_tail ?_ ho hx hd e1 p2 n1 b1 f1 r1 ld ?_
      · intro b s₁ Q' z; cases b <;> first | exact wpAny_pure z | exact wpAny_rule z
      · intro h' sb r; dsimp only; exact wpAny_pure (fin h' sb r)
theorem setG_loop (F : KF kd key) {I : Addr} {fp wr : List Addr} {Gn : Array GenState → Array GenState → Prop} {n : Nat} {Pv : Nat → Value → Prop} {St : Nat → Shared → Prop} {R : Result → Shared → Prop}
    (W : WalksS P w A.in1 I fp wr Gn n Pv St) (S : Addr) (hSf : S ∉ fp) (xs : List T) (hn : n = xs.length) (hb : xs.length + 1 < scanBound) (hval : ∀ i v, Pv i v → ∃ k, xs[i]? = some k ∧ kd.is k v = true) :
    ∀ (m i : Nat) (s : Shared), n - i = m → i ≤ n → St i s → SetG kd key s.heap S (nubG (xs.take i)) →
      (∀ s', Moved (S :: wr) Gn s s' → SetG kd key s'.heap S (nubG xs) → R (.ok (.ret .none)) s') →
      codeAny (model P w) A (.builtin "set.update.loop" ⟨[.ref S, .ref I], []⟩) R s := by
  have hw : S ∉ wr := fun h => hSf (W.sub _ h)
  have sub : ∀ b ∈ wr, b ∈ S :: wr := fun b hb => List.mem_cons_of_mem _ hb
  intro m
  induction m with
  | zero =>
    intro i s hm hi st G hR
    have e : i = n := by omega
    subst e
    refine codeAny_builtin PyProof.Rows.F.entry_set_update_loop ?_
    rw [Around.under_plainId PyProof.Rows.F.plain_set_update_loop _]
    show wpAny _ A.in1 (pyNext (.ref I) >>= _) _ _ s
    refine wpAny_bind (W.done s _ _ st fun s' mv => ?_)
    show wpAny _ A.in1 (ret Value.none) _ _ s'
    rw [List.take_of_length_le (by omega)] at G
    exact wpAny_pure (hR s' (mv.mono sub) (G.at fun o e => mv.heap S o hw e))
  | succ m ih =>
    intro i s hm hi st G hR
    have lt : i < n := by omega
    refine codeAny_builtin PyProof.Rows.F.entry_set_update_loop ?_
    rw [Around.under_plainId PyProof.Rows.F.plain_set_update_loop _]
    show wpAny _ A.in1 (pyNext (.ref I) >>= _) _ _ s
    refine wpAny_bind (W.item i s _ _ lt st fun v s' pv st' mv => ?_)
    obtain ⟨z, hz, hv⟩ := hval i v pv
    have G' : SetG kd key s'.heap S (nubG (xs.take i)) := G.at fun o e => mv.heap S o hw e
    show wpAny _ A.in1 (holding [v] (setAdd S v) >>= _) _ _ s'
    refine wpAny_bind (wpAny_holding ?_)
    unfold setAdd
    refine wpAny_holding (wpAny_bind (kd.pyHash (k := z) hv ?_))
    have ln := nubG_len (xs.take i)
    have l2 : (xs.take i).length ≤ xs.length := by rw [List.length_take]; omega
    refine setG_add (s := { s' with toks := s'.toks + 1 }) F hv G' (by omega) fun bb h' sb G2 => ?_
    rw [← nubG_take hz] at G2
    refine wpAny_pure ⟨plainId_quiet PyProof.Rows.F.plain_set_update_loop _, ih (i + 1) _ (by omega) lt (W.frame _ s' _ _ st' (Nat.le_succ _) fun b hb o e => ?_) G2 fun s'' mv2 G3 => ?_⟩
    · rw [sb.2 b (fun h : b = S => hSf (by rw [← h]; exact hb))]; exact e
    · refine hR s'' (Moved.trans W.gtrans ((mv.mono sub).then_heap (Nat.le_succ _) fun b o hb e => ?_) mv2) G3
      rw [sb.2 b (fun h : b = S => hb (by rw [h]; exact List.mem_cons_self))]; exact e
theorem new_set0 (a : Value) {Q₁ : Value → Shared → Prop} (h : Q₁ (.ref s.heap.objs.size) { s with heap := s.heap.push (set0 w) }) :
    codeAny (model P w) A (.call (.builtin "set.__new__") ⟨[.type "set", a], []⟩) (wants Q₁ E) s :=
  code_set_led1 a h
theorem set_of_list (F : KF kd key) {l : Addr} {its : Array Value} (xs : List T) {Q : Value → Shared → Prop} (hh : A.handled = none) (hl : s.heap.IsList l its) (hz : its.size = xs.length) (hv : ∀ (i : Nat) (v : Value), its[i]? = some v → ∃ k, xs[i]? = some k ∧ kd.is k v = true) (hb : xs.length + 1 < scanBound)
    (h : ∀ (h' : Heap) (tk : Nat), SetG kd key h' s.heap.objs.size (nubG xs) → (∀ b o, s.heap.get? b = some o → h'.get? b = some o) → Q (.ref s.heap.objs.size) { s with heap := h', toks := tk }) :
    wpAny (model P w) A (call (.type "set") [.ref l]) Q E s := by
  obtain ⟨cc, tl, hmro⟩ := PySem.F.called_set.mro; have hmade := PySem.F.called_set.made; have hsub := PySem.F.called_set.sub
  refine wpAny_call (codeAny_of_tree ?_); show wpAny _ _ (callAny (.type "set") _) _ _ _
  refine wpAny_pure ⟨Code.quiet_builtin _ (by decide +kernel), codeAny_builtin PySem.F.entry_type_call ?_⟩; rw [Around.under_plain (weight_type_call_type "set" [.ref l] []) rfl]
  have h1 := PySem.F.called_set.notType; have h2 := PySem.F.called_set.canCreate; have hct := PySem.F.typeCall_set_1 (.ref l)
  repeat (any_goals (first | assumption | wp_step))
  refine codeAny_mono (new_set0 (.ref l) (E := E) (Q₁ := fun obj s₁ => obj = .ref s.heap.objs.size ∧ s₁ = { s with heap := s.heap.push (set0 w) }) ⟨rfl, rfl⟩) fun r s₁ hr => ?_
  cases r with
  | error e => exact hr
  | ok fl =>
    cases fl with
    | ret obj =>
      obtain ⟨rfl, rfl⟩ := hr
      have hS : (s.heap.push (set0 w)).get? s.heap.objs.size = some (set0 w) := Heap.get?_push_size _ rfl
      have hT : Shared.TypeIs { s with heap := s.heap.push (set0 w) } (.ref s.heap.objs.size) "set" := ⟨_, hS, rfl⟩
      have hli := PySem.F.called_set.init.lookup; have hbi := PySem.F.called_set.init.bind (.ref s.heap.objs.size)
      repeat (any_goals (first | assumption | wp_step))
      refine codeAny_mono (codeAny_call_builtin (R := wants (fun r s₂ => r = .none ∧ ∃ h' tk, s₂ = { s with heap := h', toks := tk } ∧ SetG kd key h' s.heap.objs.size (nubG xs) ∧
          (∀ b o, s.heap.get? b = some o → h'.get? b = some o)) E) PySem.F.called_set.init.plain PySem.F.entry_set_init (check_set_init_1 hT ?_)) fun r₂ s₂ hr₂ => ?_
      · obtain ⟨ol, hol, hcl, nl, hdl⟩ := hl
        obtain ⟨oc, od, oe, os⟩ := ol
        simp only at hcl hdl
        subst hcl; subst hdl
        have hol' : (s.heap.push (set0 w)).get? l = some { cls := .type "list", dict := od, data := .seq its nl, slots := os } := Heap.get?_push_of_some _ hol
        have hsls := PySem.F.sub_list_set; have hslf := PySem.F.sub_list_frozenset; have hne : (Value.type "list" == Value.type "dict") = false := by decide
        have hl1 : (s.heap.push (set0 w)).IsList l its := ⟨_, hol', rfl, nl, rfl⟩
        unfold Builtin.«set.__init__» noKeywords Builtin.Frozenset.updateFrom
        generalize hPI : pyIter = PI
        wp_walk
        subst hPI
        refine wpAny_pyIter_list hl1 (wpAny_bind (wpAny_runValue ?_))
        have lS : l < s.heap.objs.size := Heap.lt_size hol
        have hh3 : A.in1.in1.in1.handled = none := by simp [hh]
        have zS : (s.heap.push (set0 w)).objs.size = s.heap.objs.size + 1 := Heap.size_push ..
        have nI : l ≠ (s.heap.push (set0 w)).objs.size := by rw [zS]; exact Nat.ne_of_lt (Nat.lt_succ_of_lt lS)
        have hSf : s.heap.objs.size ∉ [(s.heap.push (set0 w)).objs.size, l] := by
          rw [zS]; simp only [List.mem_cons, List.mem_singleton, List.not_mem_nil, or_false, not_or]
          exact ⟨Nat.ne_of_lt (Nat.lt_succ_self _), Nat.ne_of_gt lS⟩
        refine setG_loop F ((Walks.list hh3 _ l nI its).toS) s.heap.objs.size hSf xs hz hb hv (its.size - 0) 0 _ (by omega) (Nat.zero_le _) ⟨⟨_, Heap.get?_push_size _ rfl, rfl, rfl⟩, (hl1.push _)⟩ (setG_new (Heap.get?_push_of_some _ hS)) fun s' hm hS' => ?_
        obtain ⟨h', g2, d', tk', os'⟩ := s'
        have eg : g2 = s.gens := hm.gens
        have ed : d' = s.drawn := hm.drawn
        have eo : os' = s.os := hm.os
        subst eg; subst ed; subst eo
        show wpAny _ _ _ _ _ _
        refine wpAny_pure ?_
        show wpAny _ _ (ret Value.none) _ _ _
        refine wpAny_pure ⟨rfl, h', tk', rfl, hS', fun b o e => ?_⟩
        have hb0 : b < s.heap.objs.size := Heap.lt_size e
        have hb2 : b ≠ (s.heap.push (set0 w)).objs.size := by rw [zS]; exact Nat.ne_of_lt (Nat.lt_succ_of_lt hb0)
        exact hm.heap b o (by simp only [List.mem_cons, List.mem_singleton, List.not_mem_nil, or_false, not_or]; exact ⟨Nat.ne_of_lt hb0, hb2⟩) (Heap.get?_push_of_some _ (Heap.get?_push_of_some _ e))
      · cases r₂ with
        | error e => exact hr₂
        | ok fl₂ =>
          cases fl₂ with
          | ret r =>
            obtain ⟨rfl, h', tk, rfl, hS', hk'⟩ := hr₂
            repeat (any_goals (first | assumption | wp_step))
            exact h _ _ hS' hk'
          | _ => exact hr₂.elim
    | _ => exact hr.elim
theorem set_of_tuple (F : KF kd key) {l : Addr} {its : Array Value} (xs : List T) {Q : Value → Shared → Prop} (hh : A.handled = none) (hl : s.heap.IsTuple l its) (hz : its.size = xs.length) (hv : ∀ (i : Nat) (v : Value), its[i]? = some v → ∃ k, xs[i]? = some k ∧ kd.is k v = true) (hb : xs.length + 1 < scanBound)
    (h : ∀ (h' : Heap) (tk : Nat), SetG kd key h' s.heap.objs.size (nubG xs) → (∀ b o, s.heap.get? b = some o → h'.get? b = some o) → Q (.ref s.heap.objs.size) { s with heap := h', toks := tk }) :
    wpAny (model P w) A (call (.type "set") [.ref l]) Q E s := by
  obtain ⟨cc, tl, hmro⟩ := PySem.F.called_set.mro; have hmade := PySem.F.called_set.made; have hsub := PySem.F.called_set.sub
  refine wpAny_call (codeAny_of_tree ?_); show wpAny _ _ (callAny (.type "set") _) _ _ _
  refine wpAny_pure ⟨Code.quiet_builtin _ (by decide +kernel), codeAny_builtin PySem.F.entry_type_call ?_⟩; rw [Around.under_plain (weight_type_call_type "set" [.ref l] []) rfl]
  have h1 := PySem.F.called_set.notType; have h2 := PySem.F.called_set.canCreate; have hct := PySem.F.typeCall_set_1 (.ref l)
  repeat (any_goals (first | assumption | wp_step))
  refine codeAny_mono (new_set0 (.ref l) (E := E) (Q₁ := fun obj s₁ => obj = .ref s.heap.objs.size ∧ s₁ = { s with heap := s.heap.push (set0 w) }) ⟨rfl, rfl⟩) fun r s₁ hr => ?_
  cases r with
  | error e => exact hr
  | ok fl =>
    cases fl with
    | ret obj =>
      obtain ⟨rfl, rfl⟩ := hr
      have hS : (s.heap.push (set0 w)).get? s.heap.objs.size = some (set0 w) := Heap.get?_push_size _ rfl
      have hT : Shared.TypeIs { s with heap := s.heap.push (set0 w) } (.ref s.heap.objs.size) "set" := ⟨_, hS, rfl⟩
      have hli := PySem.F.called_set.init.lookup; have hbi := PySem.F.called_set.init.bind (.ref s.heap.objs.size)
      repeat (any_goals (first | assumption | wp_step))
      refine codeAny_mono (codeAny_call_builtin (R := wants (fun r s₂ => r = .none ∧ ∃ h' tk, s₂ = { s with heap := h', toks := tk } ∧ SetG kd key h' s.heap.objs.size (nubG xs) ∧
          (∀ b o, s.heap.get? b = some o → h'.get? b = some o)) E) PySem.F.called_set.init.plain PySem.F.entry_set_init (check_set_init_1 hT ?_)) fun r₂ s₂ hr₂ => ?_
      · obtain ⟨ol, hol, hcl, nl, hdl⟩ := hl
        obtain ⟨oc, od, oe, os⟩ := ol
        simp only at hcl hdl
        subst hcl; subst hdl
        have hol' : (s.heap.push (set0 w)).get? l = some { cls := .type "tuple", dict := od, data := .seq its nl, slots := os } := Heap.get?_push_of_some _ hol
        have hsls := PySem.F.sub_tuple_set; have hslf := PySem.F.sub_tuple_frozenset; have hne : (Value.type "tuple" == Value.type "dict") = false := by decide
        have hl1 : (s.heap.push (set0 w)).IsTuple l its := ⟨_, hol', rfl, nl, rfl⟩
        unfold Builtin.«set.__init__» noKeywords Builtin.Frozenset.updateFrom
        generalize hPI : pyIter = PI
        wp_walk
        subst hPI
        refine wpAny_pyIter_tuple hl1 (wpAny_bind (wpAny_runValue ?_))
        have lS : l < s.heap.objs.size := Heap.lt_size hol
        have hh3 : A.in1.in1.in1.handled = none := by simp [hh]
        have zS : (s.heap.push (set0 w)).objs.size = s.heap.objs.size + 1 := Heap.size_push ..
        have nI : l ≠ (s.heap.push (set0 w)).objs.size := by rw [zS]; exact Nat.ne_of_lt (Nat.lt_succ_of_lt lS)
        have hSf : s.heap.objs.size ∉ [(s.heap.push (set0 w)).objs.size, l] := by
          rw [zS]; simp only [List.mem_cons, List.mem_singleton, List.not_mem_nil, or_false, not_or]
          exact ⟨Nat.ne_of_lt (Nat.lt_succ_self _), Nat.ne_of_gt lS⟩
        refine setG_loop F ((Walks.tuple hh3 _ l nI its).toS) s.heap.objs.size hSf xs hz hb hv (its.size - 0) 0 _ (by omega) (Nat.zero_le _) ⟨⟨_, Heap.get?_push_size _ rfl, rfl, rfl⟩, (hl1.push _)⟩ (setG_new (Heap.get?_push_of_some _ hS)) fun s' hm hS' => ?_
        obtain ⟨h', g2, d', tk', os'⟩ := s'
        have eg : g2 = s.gens := hm.gens
        have ed : d' = s.drawn := hm.drawn
        have eo : os' = s.os := hm.os
        subst eg; subst ed; subst eo
        show wpAny _ _ _ _ _ _
        refine wpAny_pure ?_
        show wpAny _ _ (ret Value.none) _ _ _
        refine wpAny_pure ⟨rfl, h', tk', rfl, hS', fun b o e => ?_⟩
        have hb0 : b < s.heap.objs.size := Heap.lt_size e
        have hb2 : b ≠ (s.heap.push (set0 w)).objs.size := by rw [zS]; exact Nat.ne_of_lt (Nat.lt_succ_of_lt hb0)
        exact hm.heap b o (by simp only [List.mem_cons, List.mem_singleton, List.not_mem_nil, or_false, not_or]; exact ⟨Nat.ne_of_lt hb0, hb2⟩) (Heap.get?_push_of_some _ (Heap.get?_push_of_some _ e))
      · cases r₂ with
        | error e => exact hr₂
        | ok fl₂ =>
          cases fl₂ with
          | ret r =>
            obtain ⟨rfl, h', tk, rfl, hS', hk'⟩ := hr₂
            repeat (any_goals (first | assumption | wp_step))
            exact h _ _ hS' hk'
          | _ => exact hr₂.elim
    | _ => exact hr.elim
end
/-! ### sorted -/
def keyS (v : Value) : Str := match v with | .str x _ => x | _ => Str.empty
def keyI (v : Value) : Int := match v with | .int x _ => x | _ => 0
theorem kf_str {P : Program} {w : World} : KF (PySem.strKind P w) keyS where
  out := fun k v h => by obtain ⟨t, rfl⟩ := Value.isStrOf_shape h; rfl
  scan := fun k v h => by obtain ⟨t, rfl⟩ := Value.isStrOf_shape h; rfl
theorem int_shape {P : Program} {w : World} {k : Int} {v : Value} (h : (intKind P w).is k v = true) : ∃ t, v = .int k t := by
  cases v <;> first
    | (rename_i x t
       have e : x = k := beq_iff_eq.mp h
       exact ⟨t, by rw [e]⟩)
    | cases h
theorem kf_int {P : Program} {w : World} : KF (intKind P w) keyI where
  out := fun k v h => by obtain ⟨t, rfl⟩ := int_shape h; rfl
  scan := fun k v h => by obtain ⟨t, rfl⟩ := int_shape h; rfl
theorem strs_key : ∀ (l : List Value), (∀ v ∈ l, ∃ x t, v = Value.str x t) → StrsAre l (l.map keyS)
  | [], _ => .nil
  | v :: l, h => by
    obtain ⟨x, t, rfl⟩ := h v List.mem_cons_self
    exact .cons x t (strs_key l fun u hu => h u (List.mem_cons_of_mem _ hu))
theorem ints_key : ∀ (l : List Value), (∀ v ∈ l, ∃ x t, v = Value.int x t) → IntsAre l (l.map keyI)
  | [], _ => .nil
  | v :: l, h => by
    obtain ⟨x, t, rfl⟩ := h v List.mem_cons_self
    exact .cons x t (ints_key l fun u hu => h u (List.mem_cons_of_mem _ hu))
section
variable {X : Cx} {pins : List (Addr × Obj)} {s : Shared} {σ : L2.St} {H : Hp} {Q : VK} {a : Addr}
theorem sortset_strs {ks : List Str} (hc : X.calm = true) (I : Inv X pins σ H s) (G : SetG (PySem.strKind X.prog X.w) keyS s.heap a ks) (h64 : ks.length < 64) (q : ∀ p, H p = none → Q (.ref p) (upd H p (.lst ((sortS ks).map V.str)))) :
    wpAny (model X.prog X.w) X.A (call (.builtin "sorted") [.ref a]) (EP X pins σ Q) X.xe s := by
  obtain ⟨ob, els, ep, tb, ho, hx, hd, he, hp, hn, hb, hf, hr, hl⟩ := G
  refine Calls.call_function_entry PyProof.Rows.kind_sorted PyProof.Rows.plain_sorted PyProof.Rows.entry_sorted (PyProof.Rows.args_sorted1 _) ?_
  unfold Builtin.«sorted»
  refine wpAny_bind (m := checkCount "sorted" 1 1 _) (wpAny_pure (wpAny_bind (collect_set (A := X.A.in1) (I.ok.hd hc) ⟨ob, ho, hx.1, hd⟩ hf hb hr hl fun s1 vs k1 z1 g1 o1 pm => ?_)))
  have hS : StrsAre vs (vs.map keyS) := strs_key vs fun v hv => by
    obtain ⟨e, q1, q2⟩ := List.mem_map.mp (pm.mem_iff.mp hv)
    obtain ⟨⟨k, q3, _⟩, _⟩ := he e q1
    obtain ⟨t, q4⟩ := Value.isStrOf_shape q3
    exact ⟨k, t, by rw [← q2]; exact q4⟩
  have pk : (vs.map keyS).Perm ks := by
    have z := pm.map keyS
    rw [List.map_map] at z
    exact z.trans hp
  have hvl : vs.length = ks.length := by
    have z := pk.length_eq
    rw [List.length_map] at z
    exact z
  have I1 : Inv X pins σ H s1 := by
    have z := I.call' (s' := s1) (ch := []) o1 (Un.kept k1) (I.hok.kept k1) (by rw [g1]; exact I.bare) (fun _ z => nomatch z)
    exact z
  refine wpAny_bind (wpAny_newList ?_ (by rw [hvl, sizeLine_eq]; omega))
  have hoL : (s1.heap.push (seqObj "list" vs.toArray 0)).get? s1.heap.objs.size = some (seqObj "list" vs.toArray 0) := Heap.get?_push_size _ rfl
  refine wpAny_bind (wpAny_holding (wpAny_call_entry PyProof.Rows.slot_list_sort ⟨_, hoL, rfl⟩ PyProof.Rows.entry_list_sort
    (list_sort_treeK strKind_oneLt (s := { s1 with heap := s1.heap.push (seqObj "list" vs.toArray 0) }) hoL hS.keysOf (fun v₁ v₂ rest e => keyKind_strs (by rw [← e]; exact hS)) (by rw [hvl]; exact h64) fun st' hp' hs => ⟨_, rfl, ?_⟩) (PyProof.Rows.args_list_sort _)))
  obtain ⟨ys, g3, g4, g5⟩ := sorted_out_str hS hp' hs
  obtain ⟨e', he'⟩ := PyProof.Rows.sortedHeap_at (vs := vs) (out := (arrOf st').map (·.2)) hoL
  have ey : ys = sortS ks := sortS_one (g4.trans pk) g5
  subst ey
  have hlen : ((sortS ks).map V.str).length ≤ sizeLine := by
    rw [List.length_map, (sortS_perm ks).length_eq, sizeLine_eq]; omega
  refine wpAny_pure ⟨_, rfl, .ref s1.heap.objs.size, upd H s1.heap.objs.size (.lst ((sortS ks).map V.str)), I1.laid (t' := s1.toks) (fun b u e => ?_) (Nat.le_refl _)
    (show ObjOk X.prog X.w _ _ _ (.lst ((sortS ks).map V.str)) from ⟨hlen, ((arrOf st').map (·.2)).toList, e', vals_of_strs g3, by rw [Array.toArray_toList]; exact he'⟩), rfl, q _ (I1.hok.fresh (Nat.le_refl _))⟩
  have lb : b < s1.heap.objs.size := Heap.lt_size e
  rw [PyProof.Rows.sortedHeap_old (Nat.ne_of_lt lb) (by rw [size_push']; exact Nat.lt_succ_of_lt lb)]
  exact Heap.get?_push_of_some _ e
theorem sortset_ints {ks : List Int} (hc : X.calm = true) (I : Inv X pins σ H s) (G : SetG (intKind X.prog X.w) keyI s.heap a ks) (h64 : ks.length < 64) (q : ∀ p, H p = none → Q (.ref p) (upd H p (.lst ((sortI ks).map V.int)))) :
    wpAny (model X.prog X.w) X.A (call (.builtin "sorted") [.ref a]) (EP X pins σ Q) X.xe s := by
  obtain ⟨ob, els, ep, tb, ho, hx, hd, he, hp, hn, hb, hf, hr, hl⟩ := G
  refine Calls.call_function_entry PyProof.Rows.kind_sorted PyProof.Rows.plain_sorted PyProof.Rows.entry_sorted (PyProof.Rows.args_sorted1 _) ?_
  unfold Builtin.«sorted»
  refine wpAny_bind (m := checkCount "sorted" 1 1 _) (wpAny_pure (wpAny_bind (collect_set (A := X.A.in1) (I.ok.hd hc) ⟨ob, ho, hx.1, hd⟩ hf hb hr hl fun s1 vs k1 z1 g1 o1 pm => ?_)))
  have hS : IntsAre vs (vs.map keyI) := ints_key vs fun v hv => by
    obtain ⟨e, q1, q2⟩ := List.mem_map.mp (pm.mem_iff.mp hv)
    obtain ⟨⟨k, q3, _⟩, _⟩ := he e q1
    obtain ⟨t, q4⟩ := int_shape q3
    exact ⟨k, t, by rw [← q2]; exact q4⟩
  have pk : (vs.map keyI).Perm ks := by
    have z := pm.map keyI
    rw [List.map_map] at z
    exact z.trans hp
  have hvl : vs.length = ks.length := by
    have z := pk.length_eq
    rw [List.length_map] at z
    exact z
  have I1 : Inv X pins σ H s1 := by
    have z := I.call' (s' := s1) (ch := []) o1 (Un.kept k1) (I.hok.kept k1) (by rw [g1]; exact I.bare) (fun _ z => nomatch z)
    exact z
  refine wpAny_bind (wpAny_newList ?_ (by rw [hvl, sizeLine_eq]; omega))
  have hoL : (s1.heap.push (seqObj "list" vs.toArray 0)).get? s1.heap.objs.size = some (seqObj "list" vs.toArray 0) := Heap.get?_push_size _ rfl
  refine wpAny_bind (wpAny_holding (wpAny_call_entry PyProof.Rows.slot_list_sort ⟨_, hoL, rfl⟩ PyProof.Rows.entry_list_sort
    (PyProof.Rows.list_sort_tree (s := { s1 with heap := s1.heap.push (seqObj "list" vs.toArray 0) }) hoL hS (by rw [hvl]; exact h64) fun out ys g3 g4 g5 => ⟨_, rfl, ?_⟩) (PyProof.Rows.args_list_sort _)))
  obtain ⟨e', he'⟩ := PyProof.Rows.sortedHeap_at (vs := vs) (out := out) hoL
  have ey : ys = sortI ks := sortI_one (g4.trans pk) g5
  subst ey
  have hlen : ((sortI ks).map V.int).length ≤ sizeLine := by
    rw [List.length_map, (sortI_perm ks).length_eq, sizeLine_eq]; omega
  refine wpAny_pure ⟨_, rfl, .ref s1.heap.objs.size, upd H s1.heap.objs.size (.lst ((sortI ks).map V.int)), I1.laid (t' := s1.toks) (fun b u e => ?_) (Nat.le_refl _)
    (show ObjOk X.prog X.w _ _ _ (.lst ((sortI ks).map V.int)) from ⟨hlen, out.toList, e', vals_of_ints g3, by rw [Array.toArray_toList]; exact he'⟩), rfl, q _ (I1.hok.fresh (Nat.le_refl _))⟩
  have lb : b < s1.heap.objs.size := Heap.lt_size e
  rw [PyProof.Rows.sortedHeap_old (Nat.ne_of_lt lb) (by rw [size_push']; exact Nat.lt_succ_of_lt lb)]
  exact Heap.get?_push_of_some _ e
end
/-! ### the rule -/
theorem vals_kS {P : Program} {w : World} : ∀ (xs : List Str) (us : List Value), Vals (xs.map V.str) us → us.length = xs.length ∧ ∀ (i : Nat) (v : Value), us[i]? = some v → ∃ k, xs[i]? = some k ∧ (PySem.strKind P w).is k v = true
  | [], _, .nil => ⟨rfl, fun i v h => by cases i <;> cases h⟩
  | x :: xs, _, .cons r rs => by
    obtain ⟨a, b⟩ := vals_kS (P := P) (w := w) xs _ rs
    obtain ⟨t, rfl⟩ := r
    refine ⟨by simp [a], fun i v h => ?_⟩
    cases i with
    | zero => cases h; exact ⟨x, rfl, strKind_is _ _ _ _⟩
    | succ i => exact b i v h
theorem vals_kI {P : Program} {w : World} : ∀ (xs : List Int) (us : List Value), Vals (xs.map V.int) us → us.length = xs.length ∧ ∀ (i : Nat) (v : Value), us[i]? = some v → ∃ k, xs[i]? = some k ∧ (intKind P w).is k v = true
  | [], _, .nil => ⟨rfl, fun i v h => by cases i <;> cases h⟩
  | x :: xs, _, .cons r rs => by
    obtain ⟨a, b⟩ := vals_kI (P := P) (w := w) xs _ rs
    obtain ⟨t, rfl⟩ := r
    refine ⟨by simp [a], fun i v h => ?_⟩
    cases i with
    | zero => cases h; exact ⟨x, rfl, intKind_is _ _ _ _⟩
    | succ i => exact b i v h
def sortSetL (ds : List D) : Option D := match strsOf ds with
  | some xs => if xs.length < 64 then some (.lst ((sortS (nubG xs)).map .str)) else none
  | none => (intsOf ds).bind fun xs => if xs.length < 64 then some (.lst ((sortI (nubG xs)).map .int)) else none
def dSortSet (d : D) : Option D := (itemsOf d).bind sortSetL
section
variable {X : Cx} {ca : Nat → Addr} {e : Expr} {p p2 pos pos2 : Pos} {f : Rho → Option D}
theorem d_sortSet (hc : X.calm = true) (hm : X.mg "sorted" = none) (hm2 : X.mg "set" = none) (h : PE X e (tD X.K ca f)) (hg : Gl X "sorted" := by rfl) (hg2 : Gl X "set" := by rfl) (na : starEach [e] X.env = (false, eval e X.env) :: starEach [] X.env := by rfl)
    (nb : starEach [.Call (.Name "set" p2) [e] [] pos2] X.env = (false, eval (.Call (.Name "set" p2) [e] [] pos2) X.env) :: starEach [] X.env := by rfl) : PE X (.Call (.Name "sorted" p) [.Call (.Name "set" p2) [e] [] pos2] [] pos) (tD X.K ca (x_un dSortSet f)) := by
  refine ⟨fun pins s σ H Q I ⟨G, ρ, d, S, e, k⟩ => ?_⟩
  unfold x_un at e
  cases e1 : f ρ with
  | none => rw [e1] at e; cases e
  | some x =>
  rw [e1, Option.bind_some] at e
  unfold dSortSet at e
  cases e2 : itemsOf x with
  | none => rw [e2] at e; cases e
  | some ds =>
  rw [e2, Option.bind_some] at e
  have bs : bootBuiltins (Str.ofString "sorted") = some (.builtin "sorted") := by decide +kernel
  have bt : bootBuiltins (Str.ofString "set") = some (.type "set") := by decide +kernel
  refine Call_ (ld_blt I hg hm bs (PyProof.Rows.callWith_builtin1 (args_cons (Call_ (ld_blt I hg2 hm2 bt (PyProof.Rows.callWith_type1 (args_cons (thn (h.run pins s σ H (fun v H1 => ∃ G1, Gr G H G1 H1 ∧ Rep X.K ca G1 v x) I ⟨G, ρ, x, S, e1, fun v H1 G1 g1 r1 => ⟨G1, g1, r1⟩⟩) fun u s1 hu => args_nil ?_) na) na))) nb) nb))
  obtain ⟨v, H1, I1, rv, G1, g1, r1⟩ := hu
  obtain ⟨n, vs, rfl, hq, rs⟩ := items_rep g1.le r1 e2
  obtain rfl : u = .ref n := rv
  unfold sortSetL at e
  have hd := I1.ok.hd hc
  cases e3 : strsOf ds with
  | some xs =>
    rw [e3] at e
    dsimp only at e
    split at e
    · rename_i h64
      cases e
      obtain ⟨ev, _⟩ := strs_rep rs e3
      subst ev
      have fin : ∀ (h' : Heap) (tk : Nat), SetG (PySem.strKind X.prog X.w) keyS h' s1.heap.objs.size (nubG xs) → (∀ b o, s1.heap.get? b = some o → h'.get? b = some o) →
          wpAny (model X.prog X.w) X.A (call (.builtin "sorted") [.ref s1.heap.objs.size]) (EP X pins σ Q) X.xe { s1 with heap := h', toks := tk } := fun h' tk SG kk =>
        sortset_strs hc (I1.kept kk) SG (Nat.lt_of_le_of_lt (nubG_len xs) h64) fun p hp => by
          have g := Gr.new (o := .lst ((sortS (nubG xs)).map V.str)) g1.le hp
          exact k _ _ _ (g1.trans g) (.lst upd_same (by rw [List.length_map, (sortS_perm _).length_eq]; exact Nat.le_trans (nubG_len xs) (Nat.le_trans (Nat.le_of_lt h64) (by decide))) (reps_strs _ _))
      rcases hq with hq | hq
      · obtain ⟨its, rv, pl, hz⟩ := I1.list hq
        obtain ⟨z1, z2⟩ := vals_kS (P := X.prog) (w := X.w) xs its rv
        exact set_of_list kf_str xs hd pl.isList (by rw [List.size_toArray]; exact z1) (fun i v hv => z2 i v (by simpa using hv)) (by unfold scanBound; omega) fun h' tk SG kk => args_nil (fin h' tk SG kk)
      · obtain ⟨its, rv, pl, hz⟩ := I1.tuple hq
        obtain ⟨z1, z2⟩ := vals_kS (P := X.prog) (w := X.w) xs its rv
        exact set_of_tuple kf_str xs hd pl (by rw [List.size_toArray]; exact z1) (fun i v hv => z2 i v (by simpa using hv)) (by unfold scanBound; omega) fun h' tk SG kk => args_nil (fin h' tk SG kk)
    · cases e
  | none =>
    rw [e3] at e
    dsimp only at e
    cases e4 : intsOf ds with
    | none => rw [e4] at e; cases e
    | some xs =>
    rw [e4, Option.bind_some] at e
    split at e
    · rename_i h64
      cases e
      obtain ⟨ev, _⟩ := ints_rep rs e4
      subst ev
      have fin : ∀ (h' : Heap) (tk : Nat), SetG (intKind X.prog X.w) keyI h' s1.heap.objs.size (nubG xs) → (∀ b o, s1.heap.get? b = some o → h'.get? b = some o) →
          wpAny (model X.prog X.w) X.A (call (.builtin "sorted") [.ref s1.heap.objs.size]) (EP X pins σ Q) X.xe { s1 with heap := h', toks := tk } := fun h' tk SG kk =>
        sortset_ints hc (I1.kept kk) SG (Nat.lt_of_le_of_lt (nubG_len xs) h64) fun p hp => by
          have g := Gr.new (o := .lst ((sortI (nubG xs)).map V.int)) g1.le hp
          exact k _ _ _ (g1.trans g) (.lst upd_same (by rw [List.length_map, (sortI_perm _).length_eq]; exact Nat.le_trans (nubG_len xs) (Nat.le_trans (Nat.le_of_lt h64) (by decide))) (reps_ints _ _))
      rcases hq with hq | hq
      · obtain ⟨its, rv, pl, hz⟩ := I1.list hq
        obtain ⟨z1, z2⟩ := vals_kI (P := X.prog) (w := X.w) xs its rv
        exact set_of_list kf_int xs hd pl.isList (by rw [List.size_toArray]; exact z1) (fun i v hv => z2 i v (by simpa using hv)) (by unfold scanBound; omega) fun h' tk SG kk => args_nil (fin h' tk SG kk)
      · obtain ⟨its, rv, pl, hz⟩ := I1.tuple hq
        obtain ⟨z1, z2⟩ := vals_kI (P := X.prog) (w := X.w) xs its rv
        exact set_of_tuple kf_int xs hd pl (by rw [List.size_toArray]; exact z1) (fun i v hv => z2 i v (by simpa using hv)) (by unfold scanBound; omega) fun h' tk SG kk => args_nil (fin h' tk SG kk)
    · cases e
end
end DL
/-! Layer D: enumerate, zip; texts walked. -/
namespace DL
open PySem PySem.Spec PyProof.Rows L2
theorem new_enum1 {v : Value} {ob : Obj} {Hh : Heap → Prop} (B : Begins v ob Hh) :
    Meets (Builtin.«enumerate.__new__» ⟨[.type "enumerate", v], []⟩) (fun _ R s => Hh s.heap ∧
      R (.ok (.ret (.ref (s.heap.push ob).objs.size))) { s with heap := (s.heap.push ob).push { cls := .type "enumerate", data := .fields #[.none, .bool false, .ref s.heap.objs.size, rawInt 0, .none, .none] } }) :=
  .of_wp fun prog w A R s h => by
    obtain ⟨hp, g, d, tk, os⟩ := s
    obtain ⟨h1, h⟩ := h
    have hsub := sub_enumerate
    have it : ∀ {A' : Around} {E : Value → Shared → Prop} {Q : Value → Shared → Prop}, Q (.ref hp.objs.size) ⟨hp.push ob, g, d, tk, os⟩ → wpAny (model prog w) A' (pyIter v) Q E ⟨hp, g, d, tk, os⟩ :=
      fun q => B.iter prog w _ _ ⟨hp, g, d, tk, os⟩ _ h1 q
    wp_walk using it
    refine wpAny_stack_any fun st => wpAny_pure ?_
    split
    · rename_i c _ _ _ _ _
      cases (c == Value.type "enumerate")
      · (wp_walk using it); exact ⟨_, rfl, h⟩
      · (wp_walk using it); exact ⟨_, rfl, h⟩
    · (wp_walk using it); exact ⟨_, rfl, h⟩
section
variable {prog : Program} {w : World} {A : Around} {E : Value → Shared → Prop} {s : Shared}
theorem call_enum1 {v : Value} {ob : Obj} {Hh : Heap → Prop} {Q : Value → Shared → Prop} (B : Begins v ob Hh) (h1 : Hh s.heap)
    (h : ∀ h', IsEnum h' (s.heap.objs.size + 1) s.heap.objs.size 0 .none → h'.get? s.heap.objs.size = some ob → h'.objs.size = s.heap.objs.size + 2 → (∀ b o, s.heap.get? b = some o → h'.get? b = some o) → Q (.ref (s.heap.objs.size + 1)) { s with heap := h' }) :
    wpAny (model prog w) A (call (.type "enumerate") [v]) Q E s := by
  refine callType_new PySem.F.called_enumerate (by decide) (PySem.F.typeCall_enumerate_1 _) (PySem.F.newCall_enumerate_1 _) (fun obj => PySem.F.args_object_init_2 obj _) PySem.F.entry_enumerate_new (new_enum1 B) ⟨h1, ?_⟩
  have z : (s.heap.push ob).objs.size = s.heap.objs.size + 1 := Heap.size_push ..
  show _ ∧ _
  rw [z]
  have he : IsEnum ((s.heap.push ob).push { cls := .type "enumerate", data := .fields #[.none, .bool false, .ref s.heap.objs.size, rawInt 0, .none, .none] }) (s.heap.objs.size + 1) s.heap.objs.size 0 .none := by
    have q := Heap.get?_push_size (s.heap.push ob) (o := { cls := .type "enumerate", data := .fields #[.none, .bool false, .ref s.heap.objs.size, rawInt 0, .none, .none] }) rfl
    rw [z] at q
    exact q
  exact ⟨⟨_, he, rfl⟩, h _ he (Heap.get?_push_of_some _ (Heap.get?_push_size _ B.free)) (by rw [Heap.size_push, z]) fun b o x => Heap.get?_push_of_some _ (Heap.get?_push_of_some _ x)⟩
end
/-- the tuple at a, each item in a new pair -/
def IteT (K : PySem.W.Frag) (a : Addr) : It :=
  ⟨fun i H => ∃ (xs : List V) (x : V), SqT K H a xs ∧ xs[i]? = some x, fun i H v H' => ∃ T x, v = .ref T ∧ H T = none ∧ H' = upd H T (.tup [.int (i : Nat), x]) ∧ ∀ xs, SqT K H a xs → xs[i]? = some x, fun i H => ∃ xs : List V, SqT K H a xs ∧ xs.length ≤ i⟩
theorem tup_inj {X : Cx} {pins : List (Addr × Obj)} {σ : L2.St} {H : Hp} {s : Shared} {a : Addr} {xs ys : List V} (I : Inv X pins σ H s) (h1 : SqT X.K H a xs) (h2 : SqT X.K H a ys) : xs = ys := by
  obtain ⟨i1, r1, ⟨o1, g1, c1, n1, d1⟩, _⟩ := I.tuple h1
  obtain ⟨i2, r2, ⟨o2, g2, c2, n2, d2⟩, _⟩ := I.tuple h2
  rw [g1] at g2
  cases g2
  rw [d1] at d2
  cases d2
  exact Vals.inj r1 r2
theorem turn_enumT {P : Program} {w : World} {K : PySem.W.Frag} {elts : List Expr} {kk : Nat} {tpos : Pos} (a e it : Addr) :
    Turn P w K (.Tuple elts kk tpos) (IteT K a) [e, it] e (fun i h => (∃ old, IsEnum h e it ((i : Nat) : Int) old) ∧ h.IsTupleIter it a i ∧ a ≠ it ∧ e ≠ a ∧ e ≠ it) where
  mem := by simp
  obj := fun i h st b hb => by
    obtain ⟨⟨old, he⟩, ⟨o, ho, hc, hd⟩, _⟩ := st
    have e' : b = e ∨ b = it := by simpa using hb
    rcases e' with z | z
    · rw [z]; exact ⟨_, he, fun v q => nomatch q⟩
    · rw [z]; exact ⟨o, ho, fun v q => by rw [hd] at q; cases q⟩
  keep := fun i h h' st k => let ⟨⟨old, he⟩, hi, hn⟩ := st; ⟨⟨old, k e (by simp) _ he⟩, hi.at fun o q => k it (by simp) o q, hn⟩
  item := by
    intro X hP hw hK hc i pins s σ H E I hf st hg
    subst hP hw hK
    obtain ⟨⟨old, he⟩, hit, n1, n2, n3⟩ := st
    obtain ⟨xs, x, hq, hx⟩ := hg
    obtain ⟨its, rv, pt, hz⟩ := I.tuple hq
    obtain ⟨u, hu, ru⟩ := rv.get hx
    have hi : i < its.toArray.size := by rw [List.size_toArray]; exact (List.getElem?_eq_some_iff.mp hu).1
    have lE : e < s.heap.objs.size := Heap.lt_size he
    have lI : it < s.heap.objs.size := by obtain ⟨_, q, _⟩ := hit; exact Heap.lt_size q
    have Dr : Draws X.prog X.w X.A.in1 it [it, a] its.toArray.size (fun i v => its.toArray[i]? = some v) (fun i h => h.IsTupleIter it a i ∧ h.IsTuple a its.toArray) := Draws.tuple (A := X.A.in1) (I.ok.hd hc) it a n1 its.toArray
    refine wpAny_pyNext_enum_itemD Dr he ⟨hit, pt⟩ hi n3 (by simp [n2, n3]) fun y h' tk hy ho hst hT hsz hk => ?_
    have ey : y = u := by
      have q : its.toArray[i]? = some u := by simpa using hu
      exact Option.some.inj (hy.symm.trans q)
    subst ey
    refine ⟨_, rfl, wpAny_letOwnedTupleGo_enum (s := { s with heap := h', toks := tk + 1 }) ho fun h'' he' sb => ?_⟩
    have hT2 : h''.get? s.heap.objs.size = some { cls := .type "tuple", data := .seq #[.int i tk, y] } := (sb.2 _ (Nat.ne_of_gt lE)).trans hT
    have new : ObjOk X.prog X.w (upd H s.heap.objs.size (.tup [.int (i : Nat), x])) h'' s.heap.objs.size (.tup [.int (i : Nat), x]) :=
      ⟨by show 2 ≤ sizeLine; decide, [.int i tk, y], .cons ⟨_, rfl⟩ (.cons ru .nil), ⟨_, hT2, rfl, _, rfl⟩⟩
    have I1 : Inv X pins σ (upd H s.heap.objs.size (.tup [.int (i : Nat), x])) { s with heap := h'', toks := tk + 1 } :=
      I.turnedNew (ch := [e, it]) (fun b ob hb q => (sb.2 b (fun z => hb (by simp [z]))).trans (hk b ob (fun z => hb (by simp [z])) (fun z => hb (by simp [z])) q)) hf (Nat.le_refl _) new
    refine ⟨.ref s.heap.objs.size, _, I1, rfl, ⟨_, x, rfl, I.hok.fresh (Nat.le_refl _), rfl, fun ys hy => by rw [tup_inj I hy hq]; exact hx⟩, ⟨⟨y, ?_⟩, hst.1.at fun o q => (sb.2 it (Ne.symm n3)).trans q, n1, n2, n3⟩, fun b hb => ?_⟩
    · have e1 : ((i + 1 : Nat) : Int) = (i : Int) + 1 := by omega
      rw [e1]; exact he'
    · have hb' : b < s.heap.objs.size := by
        have e' : b = e ∨ b = it := by simpa using hb
        rcases e' with z | z
        · rw [z]; exact lE
        · rw [z]; exact lI
      rw [upd_ne (Nat.ne_of_lt hb')]
      exact (hf b hb).1
  done := by
    intro X hP hw hK hc i pins s σ H E I hf st hg
    subst hP hw hK
    obtain ⟨⟨old, he⟩, hit, n1, n2, n3⟩ := st
    obtain ⟨xs, hq, hx⟩ := hg
    obtain ⟨its, rv, pt, hz⟩ := I.tuple hq
    obtain ⟨f0, f1, f2, f3, f4, f5⟩ := hf it (by simp)
    have hl := rv.length
    have hT : s.TypeIs (.ref e) "enumerate" := ⟨_, he, rfl⟩
    have hno : its.toArray[i]? = none := by simp; omega
    unfold pyNext
    refine wpAny_bind (wpAny_attempt (wpAny_callSpecial?_slot (name := Str.ofString "__next__") hT PySem.F.slot_enumerate_next (wpAny_call_entry PySem.F.slot_enumerate_next hT PySem.F.entry_enumerate_next ?_ (PySem.F.args_enumerate_next_1 _))))
    show wpAny _ _ (field (.ref e) 2 >>= _) _ _ _
    refine wpAny_bind (wpAny_field he rfl (x := .ref it) rfl (wpAny_bind (wpAny_nextOf_tuple_end (I.ok.hd hc) hit pt hno fun h' x eb hx' => ?_)))
    obtain ⟨o, ho, hcl⟩ := hx'
    exact wpAny_bind (wpAny_isInstance (T := "StopIteration") (b := true) ⟨o, ho, hcl⟩ isSubtype_stop (wpAny_pure ⟨rfl, I.turned (t' := s.toks) (fun b o hb q => eb b o hb q) f0 f1 f3 f4 f5⟩))
  self := fun A i s Q E st h => let ⟨⟨_, he⟩, _⟩ := st; wpAny_pyIter_enum he h
def iEnumT (K : PySem.W.Frag) (ta : TA) : TI := fun σ H R => ta σ H fun vs H1 => ∃ a xs, vs = [.ref a] ∧ SqT K H1 a xs ∧ R (IteT K a) H1
theorem pi_enumT {X : Cx} {e : Expr} {ta : TA} {p pos tpos : Pos} {elts : List Expr} {kk : Nat} (hg : Gl X "enumerate") (hm : X.mg "enumerate" = none) (ha : PA X [e] ta) (hs : starEach [e] X.env = [(false, eval e X.env)] := by rfl) :
    PI X (.Tuple elts kk tpos) (.Call (.Name "enumerate" p) [e] [] pos) (iEnumT X.K ta) := by
  refine ⟨fun pins s σ H R I h => Call_ (ld_blt I hg hm boot_enumerate (PyProof.Rows.callWith_type1 (thn (ha.run pos pins s σ H _ I h) fun us s1 hu => ?_) hs rfl))⟩
  obtain ⟨vs, H1, I1, r1, a, xs, ex, hq, q⟩ := hu
  subst ex
  cases r1 with
  | cons r rr =>
    cases rr
    cases r
    obtain ⟨its, rv, pt, hz⟩ := I1.tuple hq
    have la : a < s1.heap.objs.size := by obtain ⟨o, g, _⟩ := id pt; exact Heap.lt_size g
    refine call_enum1 (begins_tuple a its.toArray) pt fun h' he hit hsz hk => wpAny_pyIter_enum he ?_
    have I2 : Inv X pins σ H1 { s1 with heap := h' } := I1.kept (t' := s1.toks) hk
    refine ⟨s1.heap.objs.size + 1, [s1.heap.objs.size + 1, s1.heap.objs.size], _, _, H1, rfl, I2, turn_enumT a (s1.heap.objs.size + 1) s1.heap.objs.size, ⟨⟨.none, he⟩, ⟨_, hit, rfl, rfl⟩, Nat.ne_of_lt la, Nat.ne_of_gt (Nat.lt_succ_of_lt la), Nat.succ_ne_self _⟩, fun b hb => ?_, q⟩
    have e' : b = s1.heap.objs.size + 1 ∨ b = s1.heap.objs.size := by simpa using hb
    have hle : s1.heap.objs.size ≤ b := by
      rcases e' with z | z <;> rw [z]
      · exact Nat.le_add_right _ _
      · exact Nat.le_refl _
    exact I1.fpOk hle (I1.hok.fresh hle)
theorem wk_enumT {K : PySem.W.Frag} {ca : Nat → Addr} {G1 H1 : Hp} {a : Addr} {vs : List V} {ds : List D} (hq : SqT K G1 a vs) (rv : Reps K ca G1 vs ds) : Wk K ca G1 H1 (IteT K a) (enumD ds) := fun G2 H2 e le fz i => by
  have hh : SqT K H2 a vs := le.tup (e.tup hq)
  refine ⟨fun d hd => ?_, fun hl => ⟨vs, hh, by rw [rv.length]; rw [enumD_len] at hl; exact hl⟩⟩
  obtain ⟨x, hx, rfl⟩ := enumD_get hd
  obtain ⟨v, hv, rr⟩ := rv.get hx
  refine ⟨⟨vs, v, hh, hv⟩, fun z H' y => ?_⟩
  obtain ⟨T, w, rfl, hT, rfl, y⟩ := y
  have := y vs hh
  rw [hv] at this
  cases this
  have g := Gr.new (o := .tup [.int (i : Nat), v]) le hT
  exact ⟨_, g, .tup (SqT.of upd_same) (show 2 ≤ LIM by decide) (.cons (.int _) (.cons ((rr.mono e).mono g.g) .nil))⟩
section
variable {X : Cx} {ca : Nat → Addr} {e e2 : Expr} {p pos tpos : Pos} {elts : List Expr} {kk : Nat} {f f2 : Rho → Option D}
theorem di_enum (hg : Gl X "enumerate") (hm : X.mg "enumerate" = none) (h : PE X e (tD X.K ca f)) (hs : starEach [e] X.env = [(false, eval e X.env)] := by rfl) : PI X (.Tuple elts kk tpos) (.Call (.Name "enumerate" p) [e] [] pos) (tI X.K ca (i_enum f)) :=
  PI.imp (PI.or (pi_enum hg hm (da_cons h da_nil hs) hs) (pi_enumT hg hm (da_cons h da_nil hs) hs)) fun σ H R ⟨G, ρ, xs, S, e, hl, k⟩ => by
    unfold i_enum at e
    cases e1 : f ρ with
    | none => rw [e1] at e; cases e
    | some d =>
      rw [e1, Option.bind_some] at e
      cases d with
      | lst ds =>
        cases e
        refine .inl ⟨G, ρ, [.lst ds], S, by unfold a_cons a_nil; rw [e1]; rfl, fun vs H1 G1 g r => ?_⟩
        obtain ⟨v, rfl, rv⟩ := reps1 r
        obtain ⟨a, vs, rfl, hq, _, rv⟩ := rv.lstI
        exact ⟨a, vs, rfl, SqL.of (g.le.lst hq), k _ _ _ g (wk_enumL hq rv)⟩
      | tup ds =>
        cases e
        refine .inr ⟨G, ρ, [.tup ds], S, by unfold a_cons a_nil; rw [e1]; rfl, fun vs H1 G1 g r => ?_⟩
        obtain ⟨v, rfl, rv⟩ := reps1 r
        obtain ⟨a, vs, rfl, hq, _, rv⟩ := rv.tupI
        exact ⟨a, vs, rfl, g.le.tup hq, k _ _ _ g (wk_enumT hq rv)⟩
      | _ => cases e
/-! ### zip -/
theorem zw_get {ds es : List D} {i : Nat} {d : D} (h : (List.zipWith (fun x y => D.tup [x, y]) ds es)[i]? = some d) : ∃ x y, ds[i]? = some x ∧ es[i]? = some y ∧ d = .tup [x, y] := by
  rw [List.getElem?_zipWith] at h
  cases h1 : ds[i]? with
  | none => rw [h1] at h; cases h
  | some x =>
    cases h2 : es[i]? with
    | none => rw [h1, h2] at h; cases h
    | some y => rw [h1, h2] at h; cases h; exact ⟨x, y, rfl, rfl, rfl⟩
def i_zipA (r : Rho → Option (List D)) : Rho → Option (List D) := fun ρ => match r ρ with
  | some [.lst a, .lst b] => some (List.zipWith (fun x y => .tup [x, y]) a b)
  | some [.tup a, .tup b] => some (List.zipWith (fun x y => .tup [x, y]) a b)
  | _ => none
theorem di_zip {r : Rho → Option (List D)} (hg : Gl X "zip") (hm : X.mg "zip" = none) (h : PA X [e, e2] (tDA X.K ca r)) (hs : starEach [e, e2] X.env = (false, eval e X.env) :: starEach [e2] X.env := by rfl) (hpl : (backTo pos (starEach [e2] X.env)).any (·.1) = false := by rfl) :
    PI X (.Tuple elts kk tpos) (.Call (.Name "zip" p) [e, e2] [] pos) (tI X.K ca (i_zipA r)) :=
  PI.imp (RZ.pi_zipA hg hm h hs hpl) fun σ H R ⟨G, ρ, xs, S, e, hl, k⟩ => by
    unfold i_zipA at e
    split at e
    · rename_i a b e1
      cases e
      refine ⟨G, ρ, _, S, e1, fun vs H1 G1 g r => ?_⟩
      obtain ⟨v, w, rfl, r1, r2⟩ := reps2 r
      obtain ⟨x, vs, rfl, hq, _, rv⟩ := r1.lstI
      obtain ⟨y, ws, rfl, hw, _, rw_⟩ := r2.lstI
      refine ⟨x, y, vs, ws, rfl, .inl ⟨SqL.of (g.le.lst hq), SqL.of (g.le.lst hw), k _ _ _ g fun G2 H2 e le fz i => ?_⟩⟩
      have q1 : H2 x = some (.lst vs) := le.lst (e _ _ hq)
      have q2 : H2 y = some (.lst ws) := le.lst (e _ _ hw)
      refine ⟨fun d hd => ?_, fun hl => ⟨vs, ws, SqL.of q1, SqL.of q2, ?_⟩⟩
      · obtain ⟨c1, c2, h1, h2, rfl⟩ := zw_get hd
        obtain ⟨u1, hu1, ru1⟩ := rv.get h1
        obtain ⟨u2, hu2, ru2⟩ := rw_.get h2
        refine ⟨⟨vs, ws, u1, u2, SqL.of q1, SqL.of q2, hu1, hu2⟩, fun z H' yy => ?_⟩
        obtain ⟨T, z1, z2, rfl, hT, rfl, y1, y2⟩ := yy
        have a1 := y1 vs (SqL.of q1)
        have a2 := y2 ws (SqL.of q2)
        rw [hu1] at a1
        rw [hu2] at a2
        cases a1
        cases a2
        have gg := Gr.new (o := .tup [u1, u2]) le hT
        exact ⟨_, gg, .tup (SqT.of upd_same) (show 2 ≤ LIM by decide) (.cons ((ru1.mono e).mono gg.g) (.cons ((ru2.mono e).mono gg.g) .nil))⟩
      · rw [rv.length, rw_.length]
        rw [List.length_zipWith] at hl
        omega
    · rename_i a b e1
      cases e
      refine ⟨G, ρ, _, S, e1, fun vs H1 G1 g r => ?_⟩
      obtain ⟨v, w, rfl, r1, r2⟩ := reps2 r
      obtain ⟨x, vs, rfl, hq, _, rv⟩ := r1.tupI
      obtain ⟨y, ws, rfl, hw, _, rw_⟩ := r2.tupI
      refine ⟨x, y, vs, ws, rfl, .inr ⟨g.le.tup hq, g.le.tup hw, k _ _ _ g fun G2 H2 e le fz i => ?_⟩⟩
      have q1 : SqT X.K H2 x vs := le.tup (e.tup hq)
      have q2 : SqT X.K H2 y ws := le.tup (e.tup hw)
      refine ⟨fun d hd => ?_, fun hl => ⟨vs, ws, q1, q2, ?_⟩⟩
      · obtain ⟨c1, c2, h1, h2, rfl⟩ := zw_get hd
        obtain ⟨u1, hu1, ru1⟩ := rv.get h1
        obtain ⟨u2, hu2, ru2⟩ := rw_.get h2
        refine ⟨⟨vs, ws, u1, u2, q1, q2, hu1, hu2⟩, fun z H' yy => ?_⟩
        obtain ⟨T, z1, z2, rfl, hT, rfl, y1, y2⟩ := yy
        have a1 := y1 vs q1
        have a2 := y2 ws q2
        rw [hu1] at a1
        rw [hu2] at a2
        cases a1
        cases a2
        have gg := Gr.new (o := .tup [u1, u2]) le hT
        exact ⟨_, gg, .tup (SqT.of upd_same) (show 2 ≤ LIM by decide) (.cons ((ru1.mono e).mono gg.g) (.cons ((ru2.mono e).mono gg.g) .nil))⟩
      · rw [rv.length, rw_.length]
        rw [List.length_zipWith] at hl
        omega
    · cases e
/-! ### a text, sign by sign -/
def i_str (f : Rho → Option D) : Rho → Option (List D) := fun ρ => match f ρ with | some (.str x) => some (x.cps.toList.map fun c => .str ⟨#[c]⟩) | _ => none
theorem di_str {tg : Expr} (h : PE X e (tD X.K ca f)) : PI X tg e (tI X.K ca (i_str f)) :=
  PI.imp (pi_str h) fun σ H R ⟨G, ρ, xs, S, e, hl, k⟩ => by
    unfold i_str at e
    split at e
    · rename_i x e1
      cases e
      refine ⟨G, ρ, _, S, e1, fun v H1 G1 g r => ⟨x, r.strI, k _ _ _ g fun G2 H2 e le fz i => ⟨fun d hd => ?_, fun hl => ?_⟩⟩⟩
      · rw [List.getElem?_map] at hd
        cases q : x.cps.toList[i]? with
        | none => rw [q] at hd; cases hd
        | some c =>
          rw [q] at hd
          cases hd
          have q' : x.cps[i]? = some c := by rw [← Array.getElem?_toList]; exact q
          refine ⟨(Array.getElem?_eq_some_iff.mp q').1, fun z H' yy => ?_⟩
          obtain ⟨rfl, c', hc', rfl⟩ := yy
          rw [q'] at hc'
          cases hc'
          exact ⟨G2, Gr.refl le, .str _⟩
      · rw [List.length_map, Array.length_toList] at hl
        exact hl
    · cases e
/-! ### what is never reached -/
def x_none : Rho → Option D := fun _ => none
def t_none : Rho → Option Bool := fun _ => none
theorem d_none : PE X e (tD X.K ca x_none) := ⟨fun _ _ _ _ _ _ ⟨_, _, _, _, e, _⟩ => by cases e⟩
theorem dt_none : PT X e (tDT X.K ca t_none) := ⟨fun _ _ _ _ _ _ ⟨_, _, _, _, e, _⟩ => by cases e⟩
end
end DL
/-! Layer D: dicts walked (locked meanwhile), made by comprehension, made from pairs. -/
namespace DL
open PySem PySem.Spec PyProof.Rows L2
def Lk (H : Hp) (σ : L2.St) (i : Nat) : Prop := ∃ a ob u, σ[i]? = some (some (.ref a)) ∧ H a = some (.frz ob u)
def pickD (vals : Bool) (ks : List Str) (ds : List D) : List D := if vals = true then ds else ks.map .str
def tIK (K : PySem.W.Frag) (ca : Nat → Addr) (i : Nat) (vals : Bool) : TI := fun σ H R => ∃ G ρ ks ds, Sg K ca G H σ ρ ∧ ρ[i]? = some (some (.dic ks ds)) ∧ Lk H σ i ∧ ∀ J H1 G1, Gr G H G1 H1 → Wk K ca G1 H1 J (pickD vals ks ds) → R J H1
def i_dic (i : Nat) (vals : Bool) : Rho → Option (List D) := fun ρ => match ρ[i]? with | some (some (.dic ks ds)) => some (pickD vals ks ds) | _ => none
section
variable {K : PySem.W.Frag} {ca : Nat → Addr} {G H G' H' G1 H1 : Hp} {σ : L2.St} {ρ : Rho} {a : Addr} {ks : List Str} {vs : List V} {ds : List D}
theorem zipK_get {i : Nat} {k : Str} {v : V} (h1 : ks[i]? = some k) (h2 : vs[i]? = some v) : (zipK ks vs)[i]? = some (Sum.inr k, v) := by
  unfold zipK
  rw [List.getElem?_zipWith, h1, h2]
theorem zipK_leq (h : ks.length = vs.length) : (zipK ks vs).length = ks.length := by
  unfold zipK
  rw [List.length_zipWith, h, Nat.min_self]
theorem wk_keys {ob : Obj} (hq : G1 a = some (.dK (zipK ks vs))) (hf : H1 a = some (.frz ob (.dK (zipK ks vs)))) (hl : ks.length = vs.length) : Wk K ca G1 H1 (Itk a ob (zipK ks vs)) (ks.map .str) := fun G2 H2 e le fz i => by
  have h2 := fz a ob _ hf
  refine ⟨fun d hd => ?_, fun h => ⟨h2, by rw [zipK_leq hl]; rw [List.length_map] at h; exact h⟩⟩
  rw [List.getElem?_map] at hd
  cases q : ks[i]? with
  | none => rw [q] at hd; cases hd
  | some k =>
    rw [q] at hd
    cases hd
    have hi : i < ks.length := (List.getElem?_eq_some_iff.mp q).1
    have q2 : vs[i]? = some vs[i] := List.getElem?_eq_getElem (by omega)
    refine ⟨⟨h2, by rw [zipK_leq hl]; exact hi⟩, fun x H' y => ?_⟩
    obtain ⟨rfl, k', v, hk, rfl⟩ := y
    rw [zipK_get q q2] at hk
    cases hk
    exact ⟨G2, Gr.refl le, .str k⟩
theorem wk_vals {ob : Obj} (hq : G1 a = some (.dK (zipK ks vs))) (hf : H1 a = some (.frz ob (.dK (zipK ks vs)))) (hl : ks.length = vs.length) (rv : Reps K ca G1 vs ds) : Wk K ca G1 H1 (Itd a ob (zipK ks vs)) ds := fun G2 H2 e le fz i => by
  have h2 := fz a ob _ hf
  refine ⟨fun d hd => ?_, fun h => ⟨h2, by rw [zipK_leq hl, hl, rv.length]; exact h⟩⟩
  obtain ⟨v, hv, rr⟩ := rv.get hd
  have hi : i < vs.length := (List.getElem?_eq_some_iff.mp hv).1
  have q : ks[i]? = some ks[i] := List.getElem?_eq_getElem (by omega)
  refine ⟨⟨h2, by rw [zipK_leq hl]; omega⟩, fun x H' y => ?_⟩
  obtain ⟨rfl, k', hk⟩ := y
  rw [zipK_get q hv] at hk
  cases hk
  exact ⟨G2, Gr.refl le, rr.mono e⟩
theorem Sg.dicAt (S : Sg K ca G H σ ρ) {i : Nat} (e : ρ[i]? = some (some (.dic ks ds))) : ∃ a vs, σ[i]? = some (some (.ref a)) ∧ G a = some (.dK (zipK ks vs)) ∧ ks.length = ds.length ∧ ks.length ≤ LIM ∧ Reps K ca G vs ds ∧ (H a = some (.dK (zipK ks vs)) ∨ ∃ ob, H a = some (.frz ob (.dK (zipK ks vs)))) := by
  obtain ⟨v, hv, r⟩ := S.at_ i _ e
  obtain ⟨a, vs, rfl, hq, l1, l2, nd, rv⟩ := r.dicI
  refine ⟨a, vs, hv, hq, l1, l2, rv, ?_⟩
  rcases S.le a _ hq with z | ⟨ob, kvs, _, z⟩
  · exact .inl z
  · exact .inr ⟨ob, z⟩
theorem Le.lock {kvs : List (Key × V)} {od : Obj} (le : Le G H) (hG : G a = some (.dK kvs)) : Le G (upd H a (.frz od (.dK kvs))) := fun x o z => by
  by_cases q : x = a
  · subst q
    rw [hG] at z
    cases z
    exact .inr ⟨od, kvs, rfl, upd_same⟩
  · rw [upd_ne q]; exact le x o z
theorem Le.unlock {kvs : List (Key × V)} (le : Le G H) (hG : G a = some (.dK kvs)) : Le G (upd H a (.dK kvs)) := fun x o z => by
  by_cases q : x = a
  · subst q
    rw [hG] at z
    cases z
    exact .inl upd_same
  · rw [upd_ne q]; exact le x o z
theorem Gr.unlock {kvs : List (Key × V)} {od : Obj} (hG : G a = some (.dK kvs)) (hH : H a = some (.dK kvs)) (g : Gr G (upd H a (.frz od (.dK kvs))) G' H') : H' a = some (.frz od (.dK kvs)) ∧ Gr G H G' (upd H' a (.dK kvs)) :=
  ⟨g.h _ _ upd_same, g.g, g.le.unlock (g.g _ _ hG), fun x o z => by
    by_cases q : x = a
    · subst q
      rw [hH] at z
      cases z
      exact upd_same
    · rw [upd_ne q]
      exact g.h x o (by rw [upd_ne q]; exact z), fun x o z => by
    rcases g.nw x o z with w | w
    · exact .inl w
    · by_cases q : x = a
      · subst q
        rw [upd_same] at w
        cases w
      · rw [upd_ne q] at w
        exact .inr w⟩
theorem Sg.lock {kvs : List (Key × V)} {od : Obj} (S : Sg K ca G H σ ρ) (hG : G a = some (.dK kvs)) : Sg K ca G (upd H a (.frz od (.dK kvs))) σ ρ := ⟨S.le.lock hG, S.len, S.at_⟩
end
section
variable {X : Cx} {ca : Nat → Addr} {elt tg iter e kx vx : Expr} {ifs : List Expr} {scope : Scope} {own : List (Str × Nat)} {p pos apos cpos : Pos} {it : Rho → Option (List D)} {g : Tgt} {t : Rho → Option Bool} {f fk fv : Rho → Option D} {i : Nat} {vals : Bool} {x : Str}
theorem go_dic {σ : L2.St} {H : Hp} {R : It → Hp → Prop} (mk : Addr → Obj → List (Key × V) → It) (mkw : ∀ {G1 H1 : Hp} {a : Addr} {ks : List Str} {vs : List V} {ds : List D} {ob : Obj}, G1 a = some (.dK (zipK ks vs)) → H1 a = some (.frz ob (.dK (zipK ks vs))) → ks.length = vs.length → Reps X.K ca G1 vs ds → Wk X.K ca G1 H1 (mk a ob (zipK ks vs)) (pickD vals ks ds))
    (h : tIK X.K ca i vals σ H R) : ∃ v, σ[i]? = some (some v) ∧ ∃ d o kvs, v = .ref d ∧ H d = some (.frz o (.dK kvs)) ∧ R (mk d o kvs) H := by
  obtain ⟨G, ρ, ks, ds, S, hr, ⟨a, ob, u, hs, hH⟩, k⟩ := h
  obtain ⟨a', vs, hv, hq, l1, l2, rv, hh⟩ := S.dicAt hr
  rw [hs] at hv
  cases hv
  have e : u = .dK (zipK ks vs) := by
    rcases hh with z | ⟨ob', z⟩
    · rw [hH] at z; cases z
    · rw [hH] at z; cases z; rfl
  subst e
  exact ⟨_, hs, a, ob, _, rfl, hH, k _ H G (Gr.refl S.le) (mkw hq hH (by rw [rv.length]; exact l1) rv)⟩
theorem di_keys (he : PE X e (tVar i)) : PI X tg e (tIK X.K ca i false) := PI.imp (pi_keys he) fun σ H R h => by
  obtain ⟨v, hv, d, o, kvs, ev, hd, q⟩ := go_dic (vals := false) Itk (fun a b c r => wk_keys a b c) h
  exact ⟨v, hv, d, o, ev, .inl ⟨kvs, hd, q⟩⟩
theorem di_vals (he : PE X e (tVar i)) (hbase : attributeBase e "values" X.env (eval e X.env) = eval e X.env := by rfl) (hline : (apos.endLine == cpos.line) = true := by rfl) : PI X tg (.Call (.Attribute e "values" apos) [] [] cpos) (tIK X.K ca i true) := PI.imp (pi_values he hbase hline) fun σ H R h => by
  obtain ⟨v, hv, d, o, kvs, ev, hd, q⟩ := go_dic (vals := true) Itd (fun a b c r => wk_vals a b c r) h
  exact ⟨v, hv, d, o, kvs, ev, hd, q⟩
theorem dic_some {ρ : Rho} {xs : List D} (e : i_dic i vals ρ = some xs) : ∃ ks ds, ρ[i]? = some (some (.dic ks ds)) ∧ xs = pickD vals ks ds := by
  unfold i_dic at e
  split at e
  · rename_i ks ds h
    exact ⟨ks, ds, h, (Option.some.inj e).symm⟩
  · cases e
theorem lcK_core {σ : L2.St} {H : Hp} {Q : VK} {G : Hp} {ρ : Rho} {own : List Nat} {ks : List Str} {ds ys : List D} (S : Sg X.K ca G H σ ρ) (hr : ρ[i]? = some (some (.dic ks ds))) (L : Lk H σ i) (hl : (pickD vals ks ds).length ≤ LIM) (e : lcGo (lcTurn ρ own g t f) (pickD vals ks ds) = some ys)
    (k : ∀ v H' G', Gr G H G' H' → Rep X.K ca G' v (.lst ys) → Q v H') : tLc (tIK X.K ca i vals) (tG X.K ca g) (tDT X.K ca t) (tD X.K ca f) own σ H Q :=
  ⟨G, ρ, ks, ds, S, hr, L, fun J H1 G1 gr wk => lc_go (S.gr gr) wk hl e fun v H' G' g2 r => k v H' G' (gr.trans g2) r⟩
/-- a list comprehension over the dict in slot i -/
theorem d_lcK (hc : X.calm = true) (hN : X.N.Nodup) (hi : PI X tg iter (tIK X.K ca i vals)) (ok : BlkOk X.N X.env.scope scope own)
    (hg : ∀ (s : Shared) (H : Hp) (C : Addr) (cl : List (Str × Addr)) (fp : List Addr), PG (X.blk s H scope (compEnvC scope cl C X.env) fp) tg (tG X.K ca g)) (ht : ∀ (s : Shared) (H : Hp) (C : Addr) (cl : List (Str × Addr)) (fp : List Addr), PTs (X.blk s H scope (compEnvC scope cl C X.env) fp) ifs (tDT X.K ca t))
    (he : ∀ (s : Shared) (H : Hp) (C : Addr) (cl : List (Str × Addr)) (fp : List Addr), PE (X.blk s H scope (compEnvC scope cl C X.env) fp) elt (tD X.K ca f)) (hs : ∀ x, foldedSetIterable iter X.env x = pure x := by intro _; rfl) :
    PE X (.ListComp elt [⟨tg, iter, ifs, 0⟩] scope pos) (tD X.K ca (x_lc (i_dic i vals) (own.map (·.2)) g t f)) :=
  PE.imp (PE.or (pe_lock (pe_lc hc hN hi ok hg ht he hs)) (pe_lc hc hN hi ok hg ht he hs)) fun σ H Q ⟨G, ρ, d, S, e, k⟩ => by
    unfold x_lc at e
    cases e1 : i_dic i vals ρ with
    | none => rw [e1] at e; cases e
    | some xs =>
      rw [e1, Option.bind_some] at e
      by_cases hl : xs.length ≤ LIM
      · rw [if_pos hl] at e
        cases e2 : lcGo (lcTurn ρ (own.map (·.2)) g t f) xs with
        | none => rw [e2] at e; cases e
        | some ys =>
          rw [e2, Option.bind_some] at e
          cases e
          obtain ⟨ks, ds, hr, rfl⟩ := dic_some e1
          obtain ⟨a, vs, hv, hq, l1, l2, rv, hh⟩ := S.dicAt hr
          rcases hh with z | ⟨ob, z⟩
          · refine .inl ⟨a, _, z, trivial, fun od => lcK_core (S.lock hq) hr ⟨a, od, _, hv, upd_same⟩ hl e2 fun v H' G' g r => ?_⟩
            obtain ⟨g1, g2⟩ := Gr.unlock hq z g
            exact ⟨g1, k v _ G' g2 r⟩
          · exact .inr (lcK_core S hr ⟨a, ob, _, hv, z⟩ hl e2 k)
      · rw [if_neg hl] at e; cases e
/-! ### {k: v for ..} -/
def dcTurn (ρ : Rho) (own : List Nat) (g : Tgt) (fk fv : Rho → Option D) (d : D) : Option (Str × D) :=
  (g d).bind fun us => if (us.all fun u => own.contains u.1) = true then (fk (setR (wipeR ρ own) us)).bind fun k => (fv (setR (wipeR ρ own) us)).bind fun v => match k with | .str s => some (s, v) | _ => none else none
def dcGo (turn : D → Option (Str × D)) : List D → List Str → List D → Option (List Str × List D)
  | [], ks, ds => some (ks, ds)
  | x :: xs, ks, ds => (turn x).bind fun r => dcGo turn xs (putKs r.1 ks) (putVs r.1 r.2 ks ds)
def x_dc (it : Rho → Option (List D)) (own : List Nat) (g : Tgt) (fk fv : Rho → Option D) : Rho → Option D := fun ρ =>
  (it ρ).bind fun xs => if xs.length ≤ LIM then (dcGo (dcTurn ρ own g fk fv) xs [] []).bind fun r => some (.dic r.1 r.2) else none
theorem dcTurn_some {ρ : Rho} {own : List Nat} {d : D} {r : Str × D} (h : dcTurn ρ own g fk fv d = some r) :
    ∃ us, g d = some us ∧ (us.all fun u => own.contains u.1) = true ∧ fk (setR (wipeR ρ own) us) = some (.str r.1) ∧ fv (setR (wipeR ρ own) us) = some r.2 := by
  unfold dcTurn at h
  cases q : g d with
  | none => rw [q] at h; cases h
  | some us =>
    rw [q, Option.bind_some] at h
    by_cases ha : (us.all fun u => own.contains u.1) = true
    · rw [if_pos ha] at h
      cases q2 : fk (setR (wipeR ρ own) us) with
      | none => rw [q2] at h; cases h
      | some k =>
        rw [q2, Option.bind_some] at h
        cases q3 : fv (setR (wipeR ρ own) us) with
        | none => rw [q3] at h; cases h
        | some v =>
          rw [q3, Option.bind_some] at h
          cases k <;> cases h
          exact ⟨us, rfl, ha, q2, q3⟩
    · rw [if_neg ha] at h; cases h
theorem dcGo_cons {turn : D → Option (Str × D)} {x : D} {xs : List D} {ks : List Str} {ds : List D} {z : List Str × List D} (h : dcGo turn (x :: xs) ks ds = some z) : ∃ r, turn x = some r ∧ dcGo turn xs (putKs r.1 ks) (putVs r.1 r.2 ks ds) = some z := by
  unfold dcGo at h
  cases q : turn x with
  | none => rw [q] at h; cases h
  | some r => rw [q, Option.bind_some] at h; exact ⟨r, rfl, h⟩
theorem putVs_len (k : Str) (d : D) : ∀ (ks : List Str) (ds : List D), ks.length = ds.length → (putVs k d ks ds).length = (putKs k ks).length
  | [], [], _ => rfl
  | [], _ :: _, h => by cases h
  | _ :: _, [], h => by cases h
  | k' :: ks, d' :: ds, h => by
    have ih := putVs_len k d ks ds (by simpa using h)
    unfold putVs
    by_cases q : k' = k
    · subst q
      unfold putKs
      rw [if_pos rfl, if_pos List.mem_cons_self]
      simpa using h.symm
    · rw [if_neg q, List.length_cons, ih]
      unfold putKs
      by_cases m : k ∈ ks
      · rw [if_pos m, if_pos (List.mem_cons_of_mem _ m)]; rfl
      · rw [if_neg m, if_neg (by simp only [List.mem_cons, not_or]; exact ⟨fun z => q z.symm, m⟩)]; simp
theorem dc_go {K : PySem.W.Frag} {G1 H1 : Hp} {σ : L2.St} {ρ : Rho} {J : It} {xs : List D} {own : List Nat} {rk : List Str} {rd : List D} {Q : VK} (S : Sg K ca G1 H1 σ ρ) (wk : Wk K ca G1 H1 J xs) (hl : xs.length ≤ LIM) (e : dcGo (dcTurn ρ own g fk fv) xs [] [] = some (rk, rd)) (k : ∀ v H' G', Gr G1 H1 G' H' → Rep K ca G' v (.dic rk rd) → Q v H') :
    ∀ p, H1 p = none → ∃ W : Nat → Nat → Hp → Prop, (∃ m, W 0 m (upd H1 p (.dK []))) ∧ ∀ i m H, W i m H →
      (J.stop i H ∧ Q (.ref p) H) ∨ (J.go i H ∧ ∃ Nx : Hp → Prop, (∀ H', Nx H' → ∃ m', m' < m ∧ W (i + 1) m' H') ∧ ∀ x H', J.yld i H x H' → tG K ca g x (L2.wipe σ own) H' fun σ2 H2 => L2.wipe σ2 own = L2.wipe σ own ∧ tDT K ca t_yes σ2 H2 fun b H3 =>
        if b = true then tD K ca fk σ2 H3 fun y H4 => tD K ca fv σ2 H4 fun z H5 => ∃ kvs k, y = kV k ∧ H5 p = some (.dK kvs) ∧ kvs.length < sizeLine ∧ Nx (upd H5 p (.dK (putK kvs k z))) else Nx H3) := by
  intro p hp
  let Iv : Nat → Hp → Prop := fun i H => ∃ Gc ks vs ds, Mid G1 H1 p Gc H ∧ H p = some (.dK (zipK ks vs)) ∧ ks.length = ds.length ∧ ks.length ≤ i ∧ ks.Nodup ∧ Reps K ca Gc vs ds ∧ dcGo (dcTurn ρ own g fk fv) (xs.drop i) ks ds = some (rk, rd)
  refine ⟨fun i m H => m = xs.length - i ∧ i ≤ xs.length ∧ Iv i H, ⟨xs.length, rfl, Nat.zero_le _, G1, [], [], [], Mid.start S.le hp, upd_same, rfl, Nat.le_refl _, List.nodup_nil, .nil, e⟩, ?_⟩
  rintro i m H ⟨rfl, hi, Gc, ks, vs, ds, md, hv, hkl, hki, hkn, rv, er⟩
  obtain ⟨w1, w2⟩ := wk Gc H md.g md.le md.h.fz i
  by_cases hlt : i < xs.length
  · right
    have hx : xs[i]? = some xs[i] := List.getElem?_eq_getElem hlt
    obtain ⟨go, yl⟩ := w1 _ hx
    refine ⟨go, Iv (i + 1), fun H' h' => ⟨xs.length - (i + 1), by omega, rfl, hlt, h'⟩, fun x H' y => ?_⟩
    obtain ⟨G', gr, rx⟩ := yl x H' y
    have m1 := md.gr (by rw [hv]; intro z; cases z) gr
    have hv1 := gr.h _ _ hv
    rw [List.drop_eq_getElem_cons hlt] at er
    obtain ⟨r, er1, er2⟩ := dcGo_cons er
    obtain ⟨us, e1, e2, e3, e4⟩ := dcTurn_some er1
    refine ⟨G', _, us, m1.le, rx, e1, fun ws hw => ?_⟩
    have S' : Sg K ca G' H' σ ρ := ⟨m1.le, S.len, fun j d z => let ⟨v, a, b⟩ := S.at_ j d z; ⟨v, a, b.mono m1.g⟩⟩
    have S2 : Sg K ca G' H' (setV (L2.wipe σ own) ws) (setR (wipeR ρ own) us) := (S'.wipe own).ups hw
    refine ⟨(wipe_setV hw e2).trans (wipe_wipe own), G', _, true, S2, rfl, fun H3 G3 g3 => iteT ?_⟩
    have m3 := m1.gr (by rw [hv1]; intro z; cases z) g3
    have hv3 := g3.h _ _ hv1
    refine ⟨G3, _, _, S2.gr g3, e3, fun y4 H4 G4 g4 r4 => ⟨G4, _, _, (S2.gr g3).gr g4, e4, fun y5 H5 G5 g5 r5 => ?_⟩⟩
    have m4 := m3.gr (by rw [hv3]; intro z; cases z) g4
    have hv4 := g4.h _ _ hv3
    have m5 := m4.gr (by rw [hv4]; intro z; cases z) g5
    have hv5 := g5.h _ _ hv4
    have rv5 := (((rv.mono gr.g).mono g3.g).mono g4.g).mono g5.g
    obtain ⟨ws5, p1, p2, p3, p4⟩ := put_rep (k := r.1) r5 hkl hkn rv5
    refine ⟨_, Sum.inr r.1, r4.strI, hv5, lim_lt (Nat.le_trans (zipK_len _ _) (by omega)), G5, putKs r.1 ks, ws5, putVs r.1 r.2 ks ds, m5.put hp, ?_, p3, ?_, p4, p2, er2⟩
    · rw [p1]; exact upd_same
    · have := putKs_len r.1 ks; omega
  · left
    have ei : i = xs.length := by omega
    subst ei
    rw [List.drop_length] at er
    cases er
    refine ⟨w2 (Nat.le_refl _), k _ H _ (md.fin hp hv) ?_⟩
    refine .dic upd_same hkl (by omega) hkn (rv.mono ?_)
    intro a u z
    rw [upd_ne (ne_of_none z md.no)]
    exact z
theorem d_dc (hc : X.calm = true) (hN : X.N.Nodup) (hi : PI X tg iter (tI X.K ca it)) (ok : BlkOk X.N X.env.scope scope own)
    (hg : ∀ (s : Shared) (H : Hp) (C : Addr) (cl : List (Str × Addr)) (fp : List Addr), PG (X.blk s H scope (compEnvC scope cl C X.env) fp) tg (tG X.K ca g))
    (hk : ∀ (s : Shared) (H : Hp) (C : Addr) (cl : List (Str × Addr)) (fp : List Addr), PE (X.blk s H scope (compEnvC scope cl C X.env) fp) kx (tD X.K ca fk))
    (he : ∀ (s : Shared) (H : Hp) (C : Addr) (cl : List (Str × Addr)) (fp : List Addr), PE (X.blk s H scope (compEnvC scope cl C X.env) fp) vx (tD X.K ca fv)) (hs : ∀ x, foldedSetIterable iter X.env x = pure x := by intro _; rfl) :
    PE X (.DictComp kx vx [⟨tg, iter, [], 0⟩] scope pos) (tD X.K ca (x_dc it (own.map (·.2)) g fk fv)) :=
  PE.imp (pe_dc hc hN hi ok hg (fun _ _ _ _ _ => dts_nil) hk he hs) fun σ H Q ⟨G, ρ, d, S, e, k⟩ => by
    unfold x_dc at e
    cases e1 : it ρ with
    | none => rw [e1] at e; cases e
    | some xs =>
      rw [e1, Option.bind_some] at e
      by_cases hl : xs.length ≤ LIM
      · rw [if_pos hl] at e
        cases e2 : dcGo (dcTurn ρ (own.map (·.2)) g fk fv) xs [] [] with
        | none => rw [e2] at e; cases e
        | some r =>
          rw [e2, Option.bind_some] at e
          cases e
          exact ⟨G, ρ, xs, S, e1, hl, fun J H1 G1 gr wk => dc_go (S.gr gr) wk hl e2 fun v H' G' g2 r => k v H' G' (gr.trans g2) r⟩
      · rw [if_neg hl] at e; cases e
/-! ### dict(pairs) -/
def pairD : D → Option (Str × D) | .tup [.str k, v] => some (k, v) | _ => none
def mergeD : List D → List Str → List D → Option D
  | [], ks, ds => some (.dic ks ds)
  | x :: xs, ks, ds => (pairD x).bind fun r => mergeD xs (putKs r.1 ks) (putVs r.1 r.2 ks ds)
def dDictP : D → Option D | .lst xs => if xs.length ≤ LIM then mergeD xs [] [] else none | _ => none
theorem merge_rep {K : PySem.W.Frag} {G : Hp} : ∀ {xs : List D} {us : List V} {ks : List Str} {vs : List V} {ds : List D} {d : D}, Reps K ca G us xs → mergeD xs ks ds = some d → ks.length = ds.length → ks.Nodup → Reps K ca G vs ds →
    ∃ ps kvs ks' vs' ds', us = ps.map V.ref ∧ Paired (fun p kv => SqT K G p [kV kv.1, kv.2]) ps kvs ∧ d = .dic ks' ds' ∧ mergeK (zipK ks vs) kvs = zipK ks' vs' ∧ ks'.length = ds'.length ∧ ks'.Nodup ∧ Reps K ca G vs' ds' ∧ ks'.length ≤ ks.length + xs.length
  | [], _, ks, vs, ds, d, .nil, e, hl, hn, rv => by cases e; exact ⟨[], [], ks, vs, ds, rfl, .nil, rfl, rfl, hl, hn, rv, Nat.le_refl _⟩
  | x :: xs, _, ks, vs, ds, d, .cons r t, e, hl, hn, rv => by
    have e' : (pairD x).bind (fun r => mergeD xs (putKs r.1 ks) (putVs r.1 r.2 ks ds)) = some d := e
    cases q : pairD x with
    | none => rw [q] at e'; cases e'
    | some z =>
      rw [q, Option.bind_some] at e'
      obtain ⟨k, v⟩ := z
      have ex : x = .tup [.str k, v] := by
        unfold pairD at q
        split at q
        · cases q; rfl
        · cases q
      subst ex
      obtain ⟨p, ws, rfl, hq, _, rw_⟩ := r.tupI
      obtain ⟨a, b, rfl, ra, rb⟩ := reps2 rw_
      have ea := ra.strI
      subst ea
      obtain ⟨ws5, p1, p2, p3, p4⟩ := put_rep (k := k) rb hl hn rv
      obtain ⟨ps, kvs, ks', vs', ds', h1, h2, h3, h4, h5, h6, h7, h8⟩ := merge_rep t e' p3 p4 p2
      refine ⟨p :: ps, (Sum.inr k, b) :: kvs, ks', vs', ds', by rw [h1]; rfl, .cons hq h2, h3, ?_, h5, h6, h7, ?_⟩
      · show mergeK (putK (zipK ks vs) (Sum.inr k) b) kvs = _
        rw [p1]; exact h4
      · have := putKs_len k ks
        rw [List.length_cons]
        dsimp only at h8
        omega
theorem Paired.imp {α β : Type} {F F' : α → β → Prop} (h : ∀ a b, F a b → F' a b) : ∀ {l : List α} {m : List β}, Paired F l m → Paired F' l m
  | _, _, .nil => .nil
  | _, _, .cons a t => .cons (h _ _ a) (Paired.imp h t)
theorem d_dictP (hc : X.calm = true) (hg : Gl X "dict") (hm : X.mg "dict" = none) (h : PE X e (tD X.K ca f)) (he : starEach [e] X.env = (false, eval e X.env) :: starEach [] X.env := by rfl) : PE X (.Call (.Name "dict" p) [e] [] pos) (tD X.K ca (x_un dDictP f)) :=
  PE.imp (pe_callTy (call_dictP hc) hg hm (by decide +kernel) (da_cons h da_nil he) (by decide) (by decide) he rfl) fun σ H Q ⟨G, ρ, d, S, e, k⟩ => by
    unfold x_un at e
    cases e1 : f ρ with
    | none => rw [e1] at e; cases e
    | some y =>
      rw [e1, Option.bind_some] at e
      cases y with
      | lst xs =>
        have e' : (if xs.length ≤ LIM then mergeD xs [] [] else none) = some d := e
        by_cases hl : xs.length ≤ LIM
        · rw [if_pos hl] at e'
          refine ⟨G, ρ, [.lst xs], S, by unfold a_cons a_nil; rw [e1]; rfl, fun vs H1 G1 g r => ?_⟩
          obtain ⟨v, rfl, rv⟩ := reps1 r
          obtain ⟨a, us, rfl, hq, _, ru⟩ := rv.lstI
          obtain ⟨ps, kvs, ks', vs', ds', h1, h2, h3, h4, h5, h6, h7, h8⟩ := merge_rep (ks := []) (vs := []) (ds := []) ru e' rfl List.nodup_nil .nil
          subst h1
          subst h3
          refine ⟨a, ps, kvs, rfl, SqL.of (g.le.lst hq), Paired.imp (fun p kv z => g.le.tup z) h2, fun n hn => ?_⟩
          have g2 := Gr.new (o := .dK (zipK ks' vs')) g.le hn
          have h4' : mergeK [] kvs = zipK ks' vs' := h4
          rw [h4']
          exact k _ _ _ (g.trans g2) (.dic upd_same h5 (by simpa using Nat.le_trans h8 (by simpa using hl)) h6 (h7.mono g2.g))
        · rw [if_neg hl] at e'; cases e'
      | _ => cases e
end
end DL
/-! Layer D: loops over a dict, loops over what is read from what is held. -/
namespace DL
open PySem PySem.Spec PyProof.Rows L2
def endF (K : PySem.W.Frag) (ca : Nat → Addr) (G0 H0 G1 H1 : Hp) (De : Ends) : Out → Prop
  | .nx ρ' => ∀ σ' H' G', SgS K ca G0 H0 G' H' σ' ρ' → Fz H1 H' → Ex G1 G' → De.nx σ' H'
  | .rt d => ∀ v H' G', Gr G0 H0 G' H' → Fz H1 H' → Ex G1 G' → Rep K ca G' v d → De.rt v H'
section
variable {K : PySem.W.Frag} {ca : Nat → Addr} {G0 H0 G H G1 H1 : Hp} {σ : L2.St} {ρ : RhoS} {De : Ends} {g : Tgt} {F : SF} {xs : List D} {o : Out} {J : It} {i : Nat}
theorem for_core (S1 : SgS K ca G0 H0 G1 H1 σ ρ) (wk : Wk K ca G1 H1 J xs) (e : forGo g F xs ρ = some o) (k : endF K ca G0 H0 G1 H1 De o) :
    ∃ W : Nat → Nat → L2.St → Hp → Prop, (∃ m, W 0 m σ H1) ∧ ∀ i m σ H, W i m σ H →
      (J.stop i H ∧ De.nx σ H) ∨ (J.go i H ∧ ∃ N : L2.St → Hp → Prop, (∀ σ' H', N σ' H' → ∃ m', m' < m ∧ W (i + 1) m' σ' H') ∧ ∀ x H', J.yld i H x H' → tG K ca g x σ H' fun σ2 H2 => tS K ca F { De with nx := N, ct := N, bk := De.nx } σ2 H2) := by
  obtain ⟨Hb, hb0, fzb, Sb⟩ := S1.rebase
  let Iv : Nat → L2.St → Hp → Prop := fun i σ H => ∃ Gx ρx, SgS K ca G1 Hb Gx H σ ρx ∧ forGo g F (xs.drop i) ρx = some o
  refine ⟨fun i m σ H => m = xs.length - i ∧ i ≤ xs.length ∧ Iv i σ H, ⟨xs.length, rfl, Nat.zero_le _, G1, ρ, Sb, e⟩, ?_⟩
  rintro i m σ2 H2 ⟨rfl, hi, Gx, ρx, Sx, ex⟩
  have fz : Fz H1 H2 := fun a ob u z => Sx.h0 a _ (fzb a ob u z)
  obtain ⟨w1, w2⟩ := wk Gx H2 Sx.g0 Sx.le fz i
  by_cases hlt : i < xs.length
  · right
    have hx : xs[i]? = some xs[i] := List.getElem?_eq_getElem hlt
    obtain ⟨go, yl⟩ := w1 _ hx
    refine ⟨go, Iv (i + 1), fun σ' H' h' => ⟨xs.length - (i + 1), by omega, rfl, hlt, h'⟩, fun x H' y => ?_⟩
    obtain ⟨G', gr, rx⟩ := yl x H' y
    rw [List.drop_eq_getElem_cons hlt] at ex
    obtain ⟨us, o1, eg, eF, er⟩ := forGo_cons ex
    refine ⟨G', _, us, gr.le, rx, eg, fun ws hw => ⟨G1, Hb, G', setS ρx us, o1, (Sx.gr gr).ups hw, eF, ?_⟩⟩
    rcases er with ⟨ρ', rfl, er⟩ | ⟨d, rfl, er⟩
    · exact fun σ' H'' G'' S'' => ⟨G'', ρ', S'', er⟩
    · subst er
      refine fun v H'' G'' g2 r2 => k v H'' G'' ⟨S1.g0.trans g2.g, g2.le, Ex.trans hb0 g2.h, fun a o z => ?_⟩ (fun a ob u z => g2.h a _ (fzb a ob u z)) g2.g r2
      rcases g2.nw a o z with q | q
      · exact S1.nw a o q
      · exact .inr (Ex.nn hb0 q)
  · left
    have ei : i = xs.length := by omega
    subst ei
    rw [List.drop_length] at ex
    have ex' : some (Out.nx ρx) = some o := ex
    cases ex'
    exact ⟨w2 (Nat.le_refl _), k _ _ _ (S1.back hb0 Sx) fz Sx.g0⟩
/-! ### a dict locked -/
def lockH (H0 : Hp) (a : Addr) (w : HO) : Hp := fun x => if x = a then (match H0 a with | none => none | some _ => some w) else H0 x
theorem lockH_ne {a x : Addr} {w : HO} (h : x ≠ a) : lockH H0 a w x = H0 x := if_neg h
theorem lockH_none {a x : Addr} {w : HO} : lockH H0 a w x = none ↔ H0 x = none := by
  unfold lockH
  by_cases q : x = a
  · subst q
    rw [if_pos rfl]
    cases H0 x <;> simp
  · rw [if_neg q]
theorem SgS.dicAt {ks : List Str} {ds : List D} (S : SgS K ca G0 H0 G H σ ρ) (e : ρ[i]? = some (.d (.dic ks ds))) : ∃ a vs, σ[i]? = some (some (.ref a)) ∧ G a = some (.dK (zipK ks vs)) ∧ ks.length = ds.length ∧ ks.length ≤ LIM ∧ (H a = some (.dK (zipK ks vs)) ∨ ∃ ob, H a = some (.frz ob (.dK (zipK ks vs)))) := by
  obtain ⟨a, vs, h1, h2, h3, h4, _, h6⟩ := S.mask.dicAt (i := i) (ks := ks) (ds := ds) (by unfold DL.mask; rw [List.getElem?_map, e]; rfl)
  exact ⟨a, vs, h1, h2, h3, h4, h6⟩
theorem SgS.lock {a : Addr} {kvs : List (Key × V)} {od : Obj} (S : SgS K ca G0 H0 G H σ ρ) (hG : G a = some (.dK kvs)) (hH : H a = some (.dK kvs)) : SgS K ca G0 (lockH H0 a (.frz od (.dK kvs))) G (upd H a (.frz od (.dK kvs))) σ ρ where
  g0 := S.g0
  h0 := fun x u z => by
    by_cases q : x = a
    · subst q
      rw [upd_same]
      unfold lockH at z
      rw [if_pos rfl] at z
      cases h : H0 x with
      | none => rw [h] at z; cases z
      | some w => rw [h] at z; exact z
    · rw [upd_ne q]
      rw [lockH_ne q] at z
      exact S.h0 x u z
  le := S.le.lock hG
  nw := fun x u z => by
    rcases S.nw x u z with w | w
    · exact .inl w
    · exact .inr (lockH_none.mpr w)
  len := S.len
  at_ := S.at_
  own := by
    obtain ⟨pa, h1, h2⟩ := S.own
    refine ⟨pa, fun j t e ho => ?_, h2⟩
    obtain ⟨p1, p2, p3, o, p4, p5⟩ := h1 j t e ho
    have ne : pa j ≠ a := fun z => by rw [z, hG] at p3; cases p3
    exact ⟨p1, lockH_none.mpr p2, p3, o, by rw [upd_ne ne]; exact p4, p5⟩
theorem SgS.unlock {a : Addr} {kvs : List (Key × V)} {od : Obj} (hH : ∀ u, H0 a = some u → u = .dK kvs) (hG : G a = some (.dK kvs)) (hf : H a = some (.frz od (.dK kvs))) (S : SgS K ca G0 (lockH H0 a (.frz od (.dK kvs))) G H σ ρ) : SgS K ca G0 H0 G (upd H a (.dK kvs)) σ ρ where
  g0 := S.g0
  h0 := fun x u z => by
    by_cases q : x = a
    · subst q
      rw [upd_same, hH u z]
    · rw [upd_ne q]
      exact S.h0 x u (by rw [lockH_ne q]; exact z)
  le := S.le.unlock hG
  nw := fun x u z => by
    rcases S.nw x u z with w | w
    · exact .inl w
    · exact .inr (lockH_none.mp w)
  len := S.len
  at_ := S.at_
  own := by
    obtain ⟨pa, h1, h2⟩ := S.own
    refine ⟨pa, fun j t e ho => ?_, h2⟩
    obtain ⟨p1, p2, p3, o, p4, p5⟩ := h1 j t e ho
    have ne : pa j ≠ a := fun z => by rw [z, hG] at p3; cases p3
    exact ⟨p1, lockH_none.mp p2, p3, o, by rw [upd_ne ne]; exact p4, p5⟩
theorem Gr.unlockB {a : Addr} {kvs : List (Key × V)} {od : Obj} {G' H' : Hp} (hH : ∀ u, H0 a = some u → u = .dK kvs) (hG : ∀ u, G' a = some u → u = .dK kvs) (g : Gr G0 (lockH H0 a (.frz od (.dK kvs))) G' H') : Gr G0 H0 G' (upd H' a (.dK kvs)) :=
  ⟨g.g, fun x o z => by
    by_cases q : x = a
    · subst q
      rw [hG o z]
      exact .inl upd_same
    · rw [upd_ne q]; exact g.le x o z, fun x u z => by
    by_cases q : x = a
    · subst q
      rw [upd_same, hH u z]
    · rw [upd_ne q]
      exact g.h x u (by rw [lockH_ne q]; exact z), fun x u z => by
    rcases g.nw x u z with w | w
    · exact .inl w
    · exact .inr (lockH_none.mp w)⟩
end
def s_forK (i : Nat) (vals : Bool) (g : Tgt) (F : SF) : SF := fun ρ => match ρ[i]? with
  | some (.d (.dic ks ds)) => forGo g F (pickD vals ks ds) ρ
  | _ => none
section
variable {X : Cx} {ca : Nat → Addr} {tg iter e : Expr} {p pos : Pos} {body : List Stmt} {g : Tgt} {F : SF} {i : Nat} {vals : Bool} {f : Rho → Option D}
theorem forK_core {σ : L2.St} {H : Hp} {De : Ends} {G0 H0 G : Hp} {ρ : RhoS} {ks : List Str} {ds : List D} {o : Out} (S : SgS X.K ca G0 H0 G H σ ρ) (hr : ρ[i]? = some (.d (.dic ks ds))) (L : Lk H σ i) (e : forGo g F (pickD vals ks ds) ρ = some o)
    (k : ∀ H1 G1, Gr G H G1 H1 → endF X.K ca G0 H0 G1 H1 De o) : tFor (tIK X.K ca i vals) (tG X.K ca g) (tS X.K ca F) De σ H :=
  ⟨G, mask ρ, ks, ds, S.mask, by unfold DL.mask; rw [List.getElem?_map, hr]; rfl, L, fun J H1 G1 gr wk => for_core (S.gr gr) wk e (k H1 G1 gr)⟩
/-- for x in d, d the dict in slot i -/
theorem ds_forK (hp : PassesOwn (model X.prog X.w) X.A X.env X.xe) (hc : X.calm = true) (hi : PI X tg iter (tIK X.K ca i vals)) (hg : PG X tg (tG X.K ca g)) (hb : PSs X body (tS X.K ca F))
    (hs : ∀ x, foldedSetIterable iter X.env x = pure x := by intro _; rfl) : PS X (.For tg iter body [] pos) (tS X.K ca (s_forK i vals g F)) := by
  have P := ps_for (pos := pos) hp hc hi hg hb hs
  refine ⟨fun pins s σ H De I h => ?_⟩
  obtain ⟨G0, H0, G, ρ, o, S, e, k⟩ := h
  unfold s_forK at e
  split at e
  · rename_i ks ds hr
    obtain ⟨a, vs, hv, hq, l1, l2, hh⟩ := S.dicAt hr
    rcases hh with z | ⟨ob, z⟩
    · refine (ps_lock P).run pins s σ H De I ⟨a, _, z, trivial, fun od => ?_⟩
      have h0 : ∀ u, H0 a = some u → u = .dK (zipK ks vs) := fun u w => by
        have := S.h0 a u w
        rw [z] at this
        exact (Option.some.inj this).symm
      refine forK_core (S.lock hq z) hr ⟨a, od, _, hv, upd_same⟩ e fun H1 G1 gr => ?_
      have hf1 : H1 a = some (.frz od (.dK (zipK ks vs))) := gr.h _ _ upd_same
      cases o with
      | nx ρ' =>
        intro σ' H' G' S' fz ex
        have hf := fz a od _ hf1
        exact ⟨hf, k σ' _ G' (S'.unlock h0 (ex _ _ (gr.g _ _ hq)) hf)⟩
      | rt d =>
        intro v H' G' g fz ex r
        have hf := fz a od _ hf1
        have hG := ex _ _ (gr.g _ _ hq)
        exact ⟨hf, k v _ G' (g.unlockB h0 fun u w => by rw [hG] at w; exact (Option.some.inj w).symm) r⟩
    · refine P.run pins s σ H De I (forK_core S hr ⟨a, ob, _, hv, z⟩ e fun H1 G1 gr => ?_)
      cases o with
      | nx ρ' => exact fun σ' H' G' S' fz _ => k σ' H' G' S'
      | rt d => exact fun v H' G' g fz _ r => k v H' G' g r
  · cases e
/-- for x in e, e a list of scalars read from what is held (no list is held) -/
def s_forP (f : Rho → Option D) (g : Tgt) (F : SF) : SF := fun ρ => if (ρ.all fun s => match s with | .ol _ => false | _ => true) = true then
  (f (peek ρ)).bind fun d => match d with | .lst xs => if xs.all flatD = true then forGo g F xs ρ else none | _ => none else none
theorem flatR_reps {K : PySem.W.Frag} {G G' : Hp} : ∀ {vs : List V} {xs : List D}, Reps K ca G vs xs → xs.all flatD = true → Reps K ca G' vs xs
  | _, _, .nil, _ => .nil
  | _, _, .cons r t, h => by
    rw [List.all_cons, Bool.and_eq_true] at h
    exact .cons (scal_rep r h.1) (flatR_reps t h.2)
theorem ds_forP (hp : PassesOwn (model X.prog X.w) X.A X.env X.xe) (hc : X.calm = true) (he : PE X iter (tD X.K ca f)) (hg : PG X tg (tG X.K ca g)) (hb : PSs X body (tS X.K ca F))
    (hs : ∀ x, foldedSetIterable iter X.env x = pure x := by intro _; rfl) : PS X (.For tg iter body [] pos) (tS X.K ca (s_forP f g F)) := PS.imp (ps_for hp hc (pi_list he) hg hb hs) fun D σ H ⟨G0, H0, G, ρ, o, S, e, k⟩ => by
  unfold s_forP at e
  split at e
  · rename_i hno
    cases e1 : f (peek ρ) with
    | none => rw [e1] at e; cases e
    | some d =>
      rw [e1, Option.bind_some] at e
      cases d with
      | lst xs =>
        dsimp only at e
        split at e
        · rename_i hfl
          obtain ⟨Gp, ex, nw, Sp⟩ := S.peek
          refine ⟨Gp, peek ρ, _, Sp, e1, fun v H1 G1' g1 r1 => ?_⟩
          obtain ⟨a, vs, rfl, hq, hl, rv⟩ := r1.lstI
          have S1 := S.hgr g1.h
          have hH1 := g1.le.lst hq
          have hno' : ∀ i t, ρ[i]? = some t → isOwn t → ∀ p : Addr, σ[i]? = some (some (V.ref p)) → p ≠ a := fun i t ht ho p hp2 z => by
            subst z
            obtain ⟨q, o2, h1, h2, h3⟩ := S1.ownAt ht ho
            rw [hp2] at h1
            cases h1
            rw [hH1] at h2
            cases h2
            have := List.all_eq_true.mp hno t (List.mem_of_getElem? ht)
            cases t <;> first | exact h3.elim | cases this
          obtain ⟨G2, S2, hq2⟩ : ∃ G2, SgS X.K ca G0 H0 G2 H1 σ ρ ∧ G2 a = some (.lst vs) := by
            cases hG : G a with
            | some u =>
              refine ⟨G, S1, ?_⟩
              have z := g1.g _ _ (ex _ _ hG)
              rw [hq] at z
              rw [hG, ← z]
            | none =>
              refine ⟨upd G a (.lst vs), ⟨S1.g0.trans (Ex.new hG), S1.h0, fun x u z => ?_, fun x u z => ?_, S1.len, fun j x z => ?_, ?_⟩, upd_same⟩
              · by_cases q : x = a
                · subst q; rw [upd_same] at z; cases z; exact .inl hH1
                · rw [upd_ne q] at z; exact S1.le x u z
              · by_cases q : x = a
                · subst q
                  have e2 : u = .lst vs := by rw [upd_same] at z; exact (Option.some.inj z).symm
                  subst e2
                  rcases g1.nw x _ hq with w | w
                  · rcases nw x _ w with w2 | w2
                    · rw [hG] at w2; cases w2
                    · exact .inr w2
                  · exact .inr (S.h0.nn w)
                · rw [upd_ne q] at z; exact S1.nw x u z
              · obtain ⟨w, w1, w2⟩ := S1.at_ j x z
                exact ⟨w, w1, w2.mono (Ex.new hG)⟩
              · obtain ⟨pa, h1, h2⟩ := S1.own
                refine ⟨pa, fun j t z ho => ?_, h2⟩
                obtain ⟨p1, p2, p3, o2, p4, p5⟩ := h1 j t z ho
                exact ⟨p1, p2, by rw [upd_ne (hno' j t z ho _ p1)]; exact p3, o2, p4, p5.mono (Ex.new hG)⟩
          refine ⟨a, rfl, ⟨vs, SqL.of hH1⟩, for_core S2 (wk_list hq2 (flatR_reps rv hfl)) e ?_⟩
          cases o with
          | nx ρ' => exact fun σ' H' G' S' _ _ => k σ' H' G' S'
          | rt d => exact fun v H' G' g _ _ r => k v H' G' g r
        · cases e
      | _ => cases e
  · cases e
end
end DL
/-! Layer D: append and extend in one piece; text[i], int(text); calls by keyword; attributes stored. -/
namespace DL
open PySem PySem.Spec PyProof.Rows L2
section
variable {X : Cx} {ca : Nat → Addr} {a b e o : Expr} {p pos p1 p2 apos : Pos} {f f1 f2 : Rho → Option D} {i : Nat} {x : Str}
theorem ds_appM (ho : PE X (.Name x p1) (tVar i)) (he : PE X e (tD X.K ca f)) (hs : starEach [e] X.env = (false, eval e X.env) :: starEach [] X.env := by rfl)
    (hbase : attributeBase (.Name x p1) "append" X.env (eval (.Name x p1) X.env) = eval (.Name x p1) X.env := by rfl)
    (hfew : ((backTo p2 (starEach [e] X.env)).all (fun x => !x.1) && (backToKw p2 (keywordEach [] X.env)).all (fun x => x.1.isSome) && decide ([e].length + ([] : List Keyword).length + (if ([] : List Keyword).isEmpty then 0 else 1) < 30)) = true := by rfl)
    (hline : (apos.endLine == p2.line) = true := by rfl) (hplain : (backTo p2 (starEach [] X.env)).any (·.1) = false := by rfl)
    (hsw : swapsWith (.Call (.Attribute (.Name x p1) "append" apos) [e] [] p2) none pos.line X.env = pure false := by rfl) :
    PS X (.Expr (.Call (.Attribute (.Name x p1) "append" apos) [e] [] p2) pos) (tS X.K ca (s_app i f)) :=
  ds_app ho he hs (pe_bm PySem.F.plainAttrs_list PySem.F.slot_list_append PySem.F.type_list_append mt_append ho (pa_cons he pa_nil hs) hbase hfew hline hs hplain) hsw
theorem ds_appPM (ho : PE X (.Name x p1) (tVar i)) (he : PE X e (tD X.K ca f)) (hs : starEach [e] X.env = (false, eval e X.env) :: starEach [] X.env := by rfl)
    (hbase : attributeBase (.Name x p1) "append" X.env (eval (.Name x p1) X.env) = eval (.Name x p1) X.env := by rfl)
    (hfew : ((backTo p2 (starEach [e] X.env)).all (fun x => !x.1) && (backToKw p2 (keywordEach [] X.env)).all (fun x => x.1.isSome) && decide ([e].length + ([] : List Keyword).length + (if ([] : List Keyword).isEmpty then 0 else 1) < 30)) = true := by rfl)
    (hline : (apos.endLine == p2.line) = true := by rfl) (hplain : (backTo p2 (starEach [] X.env)).any (·.1) = false := by rfl)
    (hsw : swapsWith (.Call (.Attribute (.Name x p1) "append" apos) [e] [] p2) none pos.line X.env = pure false := by rfl) :
    PS X (.Expr (.Call (.Attribute (.Name x p1) "append" apos) [e] [] p2) pos) (tS X.K ca (s_appP i f)) :=
  ds_appP (pe_bm PySem.F.plainAttrs_list PySem.F.slot_list_append PySem.F.type_list_append mt_append ho (pa_cons he pa_nil hs) hbase hfew hline hs hplain) hsw
theorem ds_extM (ho : PE X (.Name x p1) (tVar i)) (he : PE X e (tD X.K ca f)) (hs : starEach [e] X.env = (false, eval e X.env) :: starEach [] X.env := by rfl)
    (hbase : attributeBase (.Name x p1) "extend" X.env (eval (.Name x p1) X.env) = eval (.Name x p1) X.env := by rfl)
    (hfew : ((backTo p2 (starEach [e] X.env)).all (fun x => !x.1) && (backToKw p2 (keywordEach [] X.env)).all (fun x => x.1.isSome) && decide ([e].length + ([] : List Keyword).length + (if ([] : List Keyword).isEmpty then 0 else 1) < 30)) = true := by rfl)
    (hline : (apos.endLine == p2.line) = true := by rfl) (hplain : (backTo p2 (starEach [] X.env)).any (·.1) = false := by rfl)
    (hsw : swapsWith (.Call (.Attribute (.Name x p1) "extend" apos) [e] [] p2) none pos.line X.env = pure false := by rfl) :
    PS X (.Expr (.Call (.Attribute (.Name x p1) "extend" apos) [e] [] p2) pos) (tS X.K ca (s_ext i f)) :=
  ds_ext (pe_bm PySem.F.plainAttrs_list PySem.F.slot_list_extend PySem.F.type_list_extend mt_extend ho (pa_cons he pa_nil hs) hbase hfew hline hs hplain) hsw
/-! ### text[i], int(text) -/
def dSubS : D → D → Option D | .str z, .int i => if z.length ≤ LIM then (atI z.cps.toList i).bind fun c => some (.str ⟨#[c]⟩) else none | _, _ => none
theorem d_ixS (ha : PE X a (tD X.K ca f1)) (hb : PE X b (tD X.K ca f2)) (hs : PlainIx b := by intro _ _; rfl) : PE X (.Subscript a b pos) (tD X.K ca (x_bin dSubS f1 f2)) :=
  PE.imp (pe_ix ix_str ha hb hs) fun σ H Q ⟨G, ρ, d, S, e, k⟩ => by
    unfold x_bin at e
    cases e1 : f1 ρ with
    | none => rw [e1] at e; cases e
    | some x =>
      rw [e1, Option.bind_some] at e
      cases e2 : f2 ρ with
      | none => rw [e2] at e; cases e
      | some y =>
        rw [e2, Option.bind_some] at e
        refine ⟨G, ρ, x, S, e1, fun v H1 G1 g1 r1 => ⟨G1, ρ, y, S.gr g1, e2, fun u H2 G2 g2 r2 => ?_⟩⟩
        cases x <;> cases y <;> first | (cases e; done) | skip
        rename_i z i
        have e' : (if z.length ≤ LIM then (atI z.cps.toList i).bind fun c => some (D.str ⟨#[c]⟩) else none) = some d := e
        split at e'
        · rename_i hl
          cases e3 : atI z.cps.toList i with
          | none => rw [e3] at e'; cases e'
          | some c =>
            rw [e3, Option.bind_some] at e'
            cases e'
            exact ⟨z, i, c, r1.strI, r2.intI, lim_line hl, e3, k _ _ _ (g1.trans g2) (.str _)⟩
        · cases e'
def dIntS : D → Option D | .str z => if z.length ≤ 640 then (PySem.intText? z).bind fun n => some (.int n) else none | _ => none
theorem d_intS (hg : Gl X "int") (hm : X.mg "int" = none) (h : PE X e (tD X.K ca f)) (he : starEach [e] X.env = (false, eval e X.env) :: starEach [] X.env := by rfl) : PE X (.Call (.Name "int" p) [e] [] pos) (tD X.K ca (x_un dIntS f)) :=
  PE.imp (pe_callTy call_int_str hg hm (by decide +kernel) (da_cons h da_nil he) (by decide) (by decide) he rfl) fun σ H Q ⟨G, ρ, d, S, e, k⟩ => by
    unfold x_un at e
    cases e1 : f ρ with
    | none => rw [e1] at e; cases e
    | some y =>
      rw [e1, Option.bind_some] at e
      cases y with
      | str z =>
        have e' : (if z.length ≤ 640 then (PySem.intText? z).bind fun n => some (D.int n) else none) = some d := e
        split at e'
        · rename_i hl
          cases e2 : PySem.intText? z with
          | none => rw [e2] at e'; cases e'
          | some n =>
            rw [e2, Option.bind_some] at e'
            cases e'
            refine ⟨G, ρ, [.str z], S, by unfold a_cons a_nil; rw [e1]; rfl, fun vs H1 G1 g r => ?_⟩
            obtain ⟨v, rfl, rv⟩ := reps1 r
            exact ⟨z, n, by rw [rv.strI], e2, hl, k _ _ _ g (.int n)⟩
        · cases e'
      | _ => cases e
end
/-! ### f(k = e), f of one parameter -/
structure Dk (K : PySem.W.Frag) (mg : Str → Option Value) (x : Str) (st : Stmt) (ps : List Str) : Prop where
  ex : ∃ fa fd, FunD K x x (defArgs st) (defBody st) (defScope st) [] [] fa fd ∧ mg x = some (.ref fa) ∧ Binds K fd ps [] ∧ KBn K fd ps 0 ps (fun _ ws => ws) (fun _ zs => zs)
structure Ck (P : Program) (w : World) (K : PySem.W.Frag) (mg : Str → Option Value) (base : Heap) (ca : Nat → Addr) (x : Str) (ps : List Str) (k : Nat) (F : List D → Option D) : Prop where
  ex : ∃ fa fd, FnOk P w K mg base CX0 k fa fd ps (spD K ca F) ∧ mg x = some (.ref fa) ∧ PySem.W.keepIn K (.ref fa) = true ∧ Binds K fd ps [] ∧ KBn K fd ps 0 ps (fun _ ws => ws) (fun _ zs => zs)
section
variable {P : Program} {w : World} {K : PySem.W.Frag} {mg : Str → Option Value} {base : Heap} {ca : Nat → Addr}
theorem Ck.mk' {x : Str} {st : Stmt} {N ps : List Str} {k : Nat} {F : SF} (d : Dk K mg x st ps) (S : FnScope N ps (defScope st)) (hn : ps.length ≤ N.length)
    (hb : ∀ (f : Addr) (cdv : Value) (A : Around) (outer : List Env) (s : Shared) (H : Hp) (E : XK), Room k (A.deeper (envOfC x (defScope st) s.heap.objs.size f cdv)) →
      PSs (cxOf CX0 P w K mg base N x (defScope st) f cdv A outer s H E).nox (defBody st) (tS K ca F)) : Ck P w K mg base ca x ps (k + 1) (runD ps.length N.length F) := by
  obtain ⟨fa, fd, FD, hm, hb', hk⟩ := d.ex
  exact ⟨fa, fd, okD FD S hn (hb fa), hm, FD.kp, hb', hk⟩
theorem Ck.cl {x : Str} {ps : List Str} {k : Nat} {F : List D → Option D} (c : Ck P w K mg base ca x ps k F) : Cl P w K mg base ca x ps k F := by
  obtain ⟨fa, fd, a, b, c, d, _⟩ := c.ex
  exact ⟨fa, fd, a, b, c, d⟩
end
section
variable {X : Cx} {ca : Nat → Addr} {e : Expr} {p pos kp : Pos} {f : Rho → Option D} {x k1 : Str} {k n : Nat} {F : List D → Option D} {nm : Option Str}
theorem d_callKw {ps : List Str} (c : Ck X.prog X.w X.K X.mg X.base ca x ps k F) (hr : Room n X.A) (hk : k ≤ n) (h : PE X e (tD X.K ca f)) (hp : ps.length = 1) (hks : (backToKw pos (keywordEach [⟨nm, e, kp⟩] X.env)).filterMap (·.1) = ps := by rfl) (hg : Gl X x := by rfl) (hdb : (x == ("__debug__" : Str)) = false := by decide)
    (hall : (backToKw pos (keywordEach [⟨nm, e, kp⟩] X.env)).all (·.1.isSome) = true := by rfl) (hpl : ((backTo pos (starEach [] X.env)).any (·.1) || (backToKw pos (keywordEach [⟨nm, e, kp⟩] X.env)).any (·.1.isNone)) = false := by rfl) :
    PE X (.Call (.Name x p) [] [⟨nm, e, kp⟩] pos) (tD X.K ca (x_call F (a_cons f a_nil))) := by
  obtain ⟨fa, fd, FO, hm, kk, _, hb⟩ := c.ex
  refine ⟨fun pins s σ H Q I hQ => ?_⟩
  obtain ⟨G, ρ, d, S, ed, kd⟩ := hQ
  unfold x_call a_cons a_nil at ed
  cases e1 : f ρ with
  | none => rw [e1] at ed; cases ed
  | some y =>
    rw [e1] at ed
    have ed' : F [y] = some d := ed
    refine wpAny_Call_Name_kw (ld_glob I hg hm ?_ hdb)
    refine PySem.W.callWith_KW0 (h₀ := X.base) I.ok.mod.kin kk hall (thn ((pk_cons (nm := nm) (kpos := kp) h pk_nil).run pos pins s σ H (fun zs H1 => ∃ v G1, zs = [v] ∧ Gr G H G1 H1 ∧ Rep X.K ca G1 v y) I ⟨G, ρ, y, S, e1, fun v H1 G1 g r => ⟨v, G1, rfl, g, r⟩⟩) fun ws s2 ⟨zs, H2, I2, rz, v, G1, ez, g, r⟩ => ⟨I2.kIn, ?_⟩) hpl
    rw [hks]
    subst ez
    have hl : ws.length = ps.length := by rw [← rz.length]; exact hp.symm
    refine wpAny_call (codeAny_mono (FO.run X.A X.stack s2 H2 ⟨[], ps.zip ws⟩ ws [v] Q E0 (hr.mono hk) I2.env0 (hb.to s2 [] ws I2.kIn rfl hl) rz ⟨G1, [y], d, g.le, .cons r .nil, ed', fun u H' G' g2 r2 => kd u H' G' (g.trans g2) r2⟩) fun r s' hq => ?_)
    cases r with
    | error e => exact pass0 pins σ H2 s2 e s' I2 hq
    | ok fl =>
      cases fl with
      | ret u => exact I2.after hq
      | next => exact False.elim hq
      | brk => exact False.elim hq
      | cont => exact False.elim hq
end
end DL
/-! Layer D: the bodies of __init__: self (slot 0) is being made; its fields come in their order. -/
namespace DL
open PySem PySem.Spec PyProof.Rows L2
/-- (G, H) has grown to (G', H'), but for the object x -/
structure Gx (x : Addr) (G H G' H' : Hp) : Prop where
  g : Ex G G'
  le : Le G' H'
  h : ∀ b o, b ≠ x → H b = some o → H' b = some o
  nw : ∀ a o, G' a = some o → G a = some o ∨ H a = none
  no : G' x = none
theorem Gx.refl {x : Addr} {G H : Hp} (le : Le G H) (no : G x = none) : Gx x G H G H := ⟨Ex.refl _, le, fun _ _ _ z => z, fun _ _ z => .inl z, no⟩
theorem Gx.gr {x : Addr} {G H G1 H1 G' H' : Hp} (a : Gx x G H G1 H1) (hx : H1 x ≠ none) (b : Gr G1 H1 G' H') : Gx x G H G' H' :=
  ⟨a.g.trans b.g, b.le, fun q o n z => b.h q o (a.h q o n z), (fun q o z => by
    rcases b.nw q o z with w | w
    · exact a.nw q o w
    · refine .inr ?_
      by_cases n : q = x
      · subst n; exact absurd w hx
      · cases hq : H q with
        | none => rfl
        | some u => rw [a.h q u n hq] at w; cases w), (by
    cases q : G' x with
    | none => rfl
    | some o =>
      rcases b.nw x o q with w | w
      · rw [a.no] at w; cases w
      · exact absurd w hx)⟩
theorem Gx.put {x : Addr} {G H G1 H1 : Hp} {w : HO} (a : Gx x G H G1 H1) : Gx x G H G1 (upd H1 x w) :=
  ⟨a.g, fun q o z => by
    have n : q ≠ x := fun e => by rw [e, a.no] at z; cases z
    rw [upd_ne n]
    exact a.le q o z, fun q o n z => by rw [upd_ne n]; exact a.h q o n z, a.nw, a.no⟩
def tN (K : PySem.W.Frag) (ca : Nat → Addr) (c : Nat) (F : Rho → List D → Option (List D)) : TS := fun De σ H => ∃ G ρ x dx vs fs r, Sg K ca G H σ ρ ∧ σ[0]? = some (some (.ref x)) ∧ G x = none ∧ H x = some (.ins (ca c) dx (List.zip (fns c) vs)) ∧ Reps K ca G vs fs ∧ F ρ fs = some r ∧
  ∀ σ' H' G' ws, Gx x G H G' H' → H' x = some (.ins (ca c) dx (List.zip (fns c) ws)) → Reps K ca G' ws r → De.nx σ' H'
section
variable {X : Cx} {ca : Nat → Addr} {c : Nat} {F : Rho → List D → Option (List D)} {rest : List Stmt} {e e2 cd : Expr} {pos p1 p2 p3 pt pt2 : Pos} {f f2 : Rho → Option D} {t : Rho → Option Bool} {y : Str}
theorem n_nil : PSs X [] (tN X.K ca c fun _ fs => some fs) := PSs.imp pss_nil fun De σ H ⟨G, ρ, x, dx, vs, fs, r, S, hs, hG, hx, rv, e, k⟩ => by
  cases e
  exact k σ H G vs (Gx.refl S.le hG) hx rv
def n_set (i : Nat) (f : Rho → Option D) (F : Rho → List D → Option (List D)) : Rho → List D → Option (List D) := fun ρ fs => if i = 0 then none else (f ρ).bind fun d => F (ρ.set i (some d)) fs
theorem Sg.set1 {K : PySem.W.Frag} {G H : Hp} {σ : L2.St} {ρ : Rho} {i : Nat} {v : V} {d : D} (S : Sg K ca G H σ ρ) (r : Rep K ca G v d) : Sg K ca G H (σ.set i (some v)) (ρ.set i (some d)) :=
  ⟨S.le, by rw [List.length_set, List.length_set]; exact S.len, fun j z e => by
    rcases set_get e with ⟨rfl, h, hi⟩ | ⟨hn, e⟩
    · cases h
      exact ⟨v, by rw [List.getElem?_set_self (by rw [← S.len]; exact hi)], r⟩
    · obtain ⟨w, a, b⟩ := S.at_ j z e
      exact ⟨w, by rw [List.getElem?_set_ne hn]; exact a, b⟩⟩
theorem ns_set {i : Nat} (hN : X.N.Nodup) (he : PE X e (tD X.K ca f)) (hr : PSs X rest (tN X.K ca c F)) (hi : X.N[i]? = some y := by rfl) (hx : Loc X.env.scope y := by first | exact Or.inl rfl | exact Or.inr rfl) (hs : swapsWith e (some (.Name y p1)) pos.line X.env = pure false := by rfl)
    (hf : X.fn y = true ∨ X.env.scope.names.lookup y = some .local := by first | exact .inl rfl | exact .inr rfl) : PSs X (.Assign [.Name y p1] e pos :: rest) (tN X.K ca c (n_set i f F)) :=
  PSs.imp (pss_cons (ps_set hN hi hx he hs hf) hr) fun De σ H ⟨G, ρ, x, dx, vs, fs, r, S, hs, hG, hx, rv, e, k⟩ => by
    unfold n_set at e
    split at e
    · cases e
    · rename_i hne
      cases e1 : f ρ with
      | none => rw [e1] at e; cases e
      | some d =>
        rw [e1, Option.bind_some] at e
        refine ⟨G, ρ, d, S, e1, fun v H1 G1 g1 r1 => ?_⟩
        have hx1 := g1.h _ _ hx
        have gx : Gx x G H G1 H1 := (Gx.refl S.le hG).gr (by rw [hx]; exact fun z => by cases z) g1
        exact ⟨G1, _, x, dx, vs, fs, r, (S.gr g1).set1 r1, by rw [List.getElem?_set_ne hne]; exact hs, gx.no, hx1, rv.mono g1.g, e, fun σ' H' G' ws g2 h2 r2 => k σ' H' G' ws ⟨g1.g.trans g2.g, g2.le, fun q o n z => g2.h q o n (g1.h q o z), fun q o z => by
          rcases g2.nw q o z with w | w
          · exact gx.nw q o w
          · exact .inr (g1.h.nn w), g2.no⟩ h2 r2⟩
def n_if (t : Rho → Option Bool) (F : Rho → List D → Option (List D)) : Rho → List D → Option (List D) := fun ρ fs => (t ρ).bind fun b => if b = true then none else F ρ fs
theorem ns_if {body : List Stmt} (hc : PT X cd (tDT X.K ca t)) (hr : PSs X rest (tN X.K ca c F)) : PSs X (.If cd body [] pos :: rest) (tN X.K ca c (n_if t F)) :=
  PSs.imp (pss_cons (ps_if hc pss_never pss_nil) hr) fun De σ H ⟨G, ρ, x, dx, vs, fs, r, S, hs, hG, hx, rv, e, k⟩ => by
    unfold n_if at e
    cases e1 : t ρ with
    | none => rw [e1] at e; cases e
    | some b =>
      rw [e1, Option.bind_some] at e
      cases b with
      | true => rw [if_pos rfl] at e; cases e
      | false =>
        rw [if_neg Bool.false_ne_true] at e
        refine ⟨G, ρ, false, S, e1, fun H1 G1 g1 => iteF ?_⟩
        have hx1 := g1.h _ _ hx
        have gx : Gx x G H G1 H1 := (Gx.refl S.le hG).gr (by rw [hx]; exact fun z => by cases z) g1
        exact ⟨G1, _, x, dx, vs, fs, r, S.gr g1, hs, gx.no, hx1, rv.mono g1.g, e, fun σ' H' G' ws g2 h2 r2 => k σ' H' G' ws ⟨g1.g.trans g2.g, g2.le, fun q o n z => g2.h q o n (g1.h q o z), fun q o z => by
          rcases g2.nw q o z with w | w
          · exact gx.nw q o w
          · exact .inr (g1.h.nn w), g2.no⟩ h2 r2⟩
/-- self.f = e, the next field -/
def n_fld (k : Nat) (f : Rho → Option D) (F : Rho → List D → Option (List D)) : Rho → List D → Option (List D) := fun ρ fs => if fs.length = k then (f ρ).bind fun d => F ρ (fs ++ [d]) else none
theorem zip_put {c : Nat} {fn : Str} : ∀ {vs : List V} {k : Nat} (v : V), vs.length = k → (fns c)[k]? = some fn → putF fn v (List.zip (fns c) vs) = List.zip (fns c) (vs ++ [v]) := fun {vs k} v hl hk => by
  have h2 : (fns c).length = 2 := by match c with | 0 => rfl | 1 => rfl | _ + 2 => rfl
  match c, vs, k, hl, hk with
  | 0, [], _, rfl, hk => cases hk; rfl
  | 0, [a], _, rfl, hk => cases hk; rfl
  | 1, [], _, rfl, hk => cases hk; rfl
  | 1, [a], _, rfl, hk => cases hk; rfl
  | _ + 2, [], _, rfl, hk => cases hk; rfl
  | _ + 2, [a], _, rfl, hk => cases hk; rfl
  | 0, a :: b :: r, _, rfl, hk => cases hk
  | 1, a :: b :: r, _, rfl, hk => cases hk
  | _ + 2, a :: b :: r, _, rfl, hk => cases hk
theorem ns_fld {k : Nat} {fn : Str} (cl : Cls X.K (ca c)) (nt : NoAttr X.K (ca c) fn) (hk : (fns c)[k]? = some fn) (ho : PE X (.Name y p1) (tVar 0)) (he : PE X e (tD X.K ca f)) (hr : PSs X rest (tN X.K ca c F))
    (hs : swapsWith e (some (.Attribute (.Name y p1) fn p2)) pos.line X.env = pure false := by rfl) : PSs X (.Assign [.Attribute (.Name y p1) fn p2] e pos :: rest) (tN X.K ca c (n_fld k f F)) :=
  PSs.imp (pss_cons (ps_fld ho he hs) hr) fun De σ H ⟨G, ρ, x, dx, vs, fs, r, S, hs, hG, hx, rv, e, kk⟩ => by
    unfold n_fld at e
    split at e
    · rename_i hl
      cases e1 : f ρ with
      | none => rw [e1] at e; cases e
      | some d =>
        rw [e1, Option.bind_some] at e
        refine ⟨G, ρ, d, S, e1, fun v H1 G1 g1 r1 => ?_⟩
        have hx1 := g1.h _ _ hx
        have gx : Gx x G H G1 H1 := (Gx.refl S.le hG).gr (by rw [hx]; exact fun z => by cases z) g1
        have gy := gx.put (w := .ins (ca c) dx (List.zip (fns c) (vs ++ [v])))
        have lv : vs.length = k := by rw [rv.length]; exact hl
        have lz : (List.zip (fns c) vs).length < 1000 := by
          rw [List.length_zip]
          have h2 : (fns c).length = 2 := by match c with | 0 => rfl | 1 => rfl | _ + 2 => rfl
          omega
        refine ⟨_, hs, x, ca c, dx, _, rfl, hx1, cl, nt, lz, ?_⟩
        rw [zip_put v lv hk]
        exact ⟨G1, ρ, x, dx, vs ++ [v], fs ++ [d], r, ⟨gy.le, S.len, (S.gr g1).at_⟩, hs, gy.no, upd_same, (rv.mono g1.g).app (.cons r1 .nil), e, fun σ' H' G' ws g2 h2 r2 => kk σ' H' G' ws ⟨gy.g.trans g2.g, g2.le, fun q o n z => g2.h q o n (gy.h q o n z), fun q o z => by
          rcases g2.nw q o z with w | w
          · exact gy.nw q o w
          · refine .inr ?_
            by_cases n : q = x
            · subst n; rw [upd_same] at w; cases w
            · rw [upd_ne n] at w; exact g1.h.nn w, g2.no⟩ h2 r2⟩
    · cases e
/-- self.f = g(self.f0), f0 the first field -/
def n_fldC (g : List D → Option D) (F : Rho → List D → Option (List D)) : Rho → List D → Option (List D) := fun ρ fs => match fs with | [d] => (g [d]).bind fun d2 => F ρ [d, d2] | _ => none
theorem ns_fldC {fn fn0 x2 : Str} {g : List D → Option D} {ps : List Str} {k n : Nat} (cl : Cls X.K (ca c)) (nt0 : NoAttr X.K (ca c) fn0) (nt : NoAttr X.K (ca c) fn) (h0 : (fns c)[0]? = some fn0) (h1 : (fns c)[1]? = some fn) (ho : PE X (.Name y p1) (tVar 0)) (ho2 : PE X (.Name y p3) (tVar 0))
    (C : Cl X.prog X.w X.K X.mg X.base ca x2 ps k g) (hr : Room n X.A) (hk : k ≤ n) (hrest : PSs X rest (tN X.K ca c F)) (hg : Gl X x2 := by rfl) (hdb : (x2 == ("__debug__" : Str)) = false := by decide) {q1 q2 q3 : Pos}
    (hb : attributeBase (.Name y p3) fn0 X.env (eval (.Name y p3) X.env) = eval (.Name y p3) X.env := by rfl) (hst : starEach [.Attribute (.Name y p3) fn0 q1] X.env = (false, eval (.Attribute (.Name y p3) fn0 q1) X.env) :: starEach [] X.env := by rfl)
    (hs : swapsWith (.Call (.Name x2 q2) [.Attribute (.Name y p3) fn0 q1] [] q3) (some (.Attribute (.Name y p1) fn p2)) pos.line X.env = pure false := by rfl) :
    PSs X (.Assign [.Attribute (.Name y p1) fn p2] (.Call (.Name x2 q2) [.Attribute (.Name y p3) fn0 q1] [] q3) pos :: rest) (tN X.K ca c (n_fldC g F)) := by
  obtain ⟨fa, fd, FO, hm, kp, hbi⟩ := C.ex
  refine PSs.imp (pss_cons (ps_fld ho (pe_call FO (hr.mono hk) hg hm kp hbi .nil pass0 (pa_cons (pe_fld ho2 hb) pa_nil hst) hdb hst rfl) hs) hrest) fun De σ H ⟨G, ρ, x, dx, vs, fs, r, S, hs, hG, hx, rv, e, kk⟩ => ?_
  unfold n_fldC at e
  split at e
  · rename_i d
    cases e1 : g [d] with
    | none => rw [e1] at e; cases e
    | some d2 =>
      rw [e1, Option.bind_some] at e
      obtain ⟨v, rfl, r1⟩ := reps1 rv
      have lk : (List.zip (fns c) [v]).lookup fn0 = some v := by
        match c, h0 with
        | 0, h0 => cases h0; rfl
        | 1, h0 => cases h0; rfl
        | _ + 2, h0 => cases h0; rfl
      refine ⟨_, hs, x, ca c, dx, _, v, rfl, hx, cl, nt0, lk, G, [d], d2, S.le, .cons r1 .nil, e1, fun u H1 G1 g1 r2 => ?_⟩
      have hx1 := g1.h _ _ hx
      have gx : Gx x G H G1 H1 := (Gx.refl S.le hG).gr (by rw [hx]; exact fun z => by cases z) g1
      have gy := gx.put (w := .ins (ca c) dx (List.zip (fns c) ([v] ++ [u])))
      refine ⟨_, hs, x, ca c, dx, _, rfl, hx1, cl, nt, ?_, ?_⟩
      · rw [List.length_zip]
        exact Nat.lt_of_le_of_lt (Nat.min_le_right _ _) (show 1 < 1000 by decide)
      · rw [zip_put u rfl h1]
        exact ⟨G1, ρ, x, dx, [v] ++ [u], [d, d2], r, ⟨gy.le, S.len, (S.gr g1).at_⟩, hs, gy.no, upd_same, .cons (r1.mono g1.g) (.cons r2 .nil), e, fun σ' H' G' ws g2 h2 r2 => kk σ' H' G' ws ⟨gy.g.trans g2.g, g2.le, fun q o n z => g2.h q o n (gy.h q o n z), fun q o z => by
          rcases g2.nw q o z with w | w
          · exact gy.nw q o w
          · refine .inr ?_
            by_cases n : q = x
            · subst n; rw [upd_same] at w; cases w
            · rw [upd_ne n] at w; exact g1.h.nn w, g2.no⟩ h2 r2⟩
  · cases e
def gAttr (K : PySem.W.Frag) (to : TE) (fn : Str) : TG := fun v σ H Q => to σ H fun x H1 => ∃ a C dx fs, x = .ref a ∧ H1 a = some (.ins C dx fs) ∧ Cls K C ∧ NoAttr K C fn ∧ fs.length < 1000 ∧ Q σ (upd H1 a (.ins C dx (putF fn v fs)))
theorem pg_attr {o : Expr} {to : TE} {fn : Str} (ho : PE X o to) : PG X (.Attribute o fn pos) (gAttr X.K to fn) := by
  refine ⟨fun pins s σ H v u Q I r h => PySem.W.kas_attr (thn (ho.run pins s σ H _ I h) fun ov s1 hq => ?_)⟩
  obtain ⟨x, H1, I1, rx, a, C, dx, fs, rfl, ea, cl, nt, l, q⟩ := hq
  obtain rfl : ov = Value.ref a := rx
  exact setattr_ok I1 ea cl nt l r fun s3 I3 => ⟨σ, _, I3, q⟩
/-- self.f, self.g = (e1, e2) -/
def n_two (f f2 : Rho → Option D) (F : Rho → List D → Option (List D)) : Rho → List D → Option (List D) := fun ρ fs => match fs with | [] => (f ρ).bind fun d => (f2 ρ).bind fun d2 => F ρ [d, d2] | _ => none
theorem ns_two {fn fn0 : Str} {kt k2 : Nat} {q1 q2 : Pos} (hc : X.calm = true) (cl : Cls X.K (ca c)) (nt0 : NoAttr X.K (ca c) fn0) (nt : NoAttr X.K (ca c) fn) (h0 : (fns c)[0]? = some fn0) (h1 : (fns c)[1]? = some fn) (ho : PE X (.Name y p1) (tVar 0)) (ho2 : PE X (.Name y p2) (tVar 0)) (ha : PE X e (tD X.K ca f)) (hb : PE X e2 (tD X.K ca f2)) (hr : PSs X rest (tN X.K ca c F))
    (s1 : starEach [e, e2] X.env = (false, eval e X.env) :: starEach [e2] X.env := by rfl) (s2 : starEach [e2] X.env = (false, eval e2 X.env) :: starEach [] X.env := by rfl)
    (hs : swapsWithSole [.Tuple [.Attribute (.Name y p1) fn0 q1, .Attribute (.Name y p2) fn q2] kt pt] (.Tuple [e, e2] k2 pt2) pos.line X.env = pure false := by rfl) (hw : swappedStores [.Tuple [.Attribute (.Name y p1) fn0 q1, .Attribute (.Name y p2) fn q2] kt pt] (.Tuple [e, e2] k2 pt2) X.env = pure none := by rfl)
    (g1 : (assignEach [.Tuple [.Attribute (.Name y p1) fn0 q1, .Attribute (.Name y p2) fn q2] kt pt] X.env).map (·.2) = [assign (.Tuple [.Attribute (.Name y p1) fn0 q1, .Attribute (.Name y p2) fn q2] kt pt) X.env] := by rfl)
    (g2 : (assignEach [.Attribute (.Name y p1) fn0 q1, .Attribute (.Name y p2) fn q2] X.env).map (·.2) = assign (.Attribute (.Name y p1) fn0 q1) X.env :: (assignEach [.Attribute (.Name y p2) fn q2] X.env).map (·.2) := by rfl)
    (g3 : (assignEach [.Attribute (.Name y p2) fn q2] X.env).map (·.2) = assign (.Attribute (.Name y p2) fn q2) X.env :: (assignEach [] X.env).map (·.2) := by rfl)
    (g4 : (assignEach [.Attribute (.Name y p1) fn0 q1, .Attribute (.Name y p2) fn q2] X.env).length = 2 := by rfl) (g5 : (assignEach [.Attribute (.Name y p1) fn0 q1, .Attribute (.Name y p2) fn q2] X.env).findIdx? (·.1) = none := by rfl) :
    PSs X (.Assign [.Tuple [.Attribute (.Name y p1) fn0 q1, .Attribute (.Name y p2) fn q2] kt pt] (.Tuple [e, e2] k2 pt2) pos :: rest) (tN X.K ca c (n_two f f2 F)) :=
  PSs.imp (pss_cons (ps_asg (pe_tup (da_cons ha (da_cons hb da_nil s2) s1)) (pg_tup (n := 2) hc (pgs_cons (pg_attr ho) (pgs_cons (pg_attr ho2) pgs_nil g3) g2) g4 g5) hs hw g1) hr) fun De σ H ⟨G, ρ, x, dx, vs, fs, r, S, hs, hG, hx, rv, e, kk⟩ => by
    unfold n_two at e
    split at e
    · cases e1 : f ρ with
      | none => rw [e1] at e; cases e
      | some d =>
      cases e2 : f2 ρ with
      | none => rw [e1, Option.bind_some, e2] at e; cases e
      | some d2 =>
      rw [e1, Option.bind_some, e2, Option.bind_some] at e
      cases rv
      refine ⟨G, ρ, [d, d2], S, by unfold a_cons a_nil; rw [e1, e2]; rfl, fun us H1 G1 g1 rs => ?_⟩
      obtain ⟨v, w, rfl, r1, r2⟩ := reps2 rs
      refine ⟨show 2 ≤ sizeLine by decide, fun T hT => ⟨T, _, rfl, SqT.of upd_same, rfl, v, _, rfl, ?_⟩⟩
      have hx1 := g1.h _ _ hx
      have gT := g1.trans (Gr.newH (o := .tup [v, w]) g1.le hT)
      have hx2 := gT.h _ _ hx
      have gx : Gx x G H G1 (upd H1 T (.tup [v, w])) := (Gx.refl S.le hG).gr (by rw [hx]; exact fun z => by cases z) gT
      refine ⟨_, hs, x, ca c, dx, _, rfl, hx2, cl, nt0, ?_, ?_⟩
      · rw [List.length_zip]
        exact Nat.lt_of_le_of_lt (Nat.min_le_right _ _) (show 0 < 1000 by decide)
      refine ⟨w, _, rfl, _, hs, x, ca c, dx, _, rfl, upd_same, cl, nt, ?_, rfl, ?_⟩
      · rw [zip_put v rfl h0, List.length_zip]
        exact Nat.lt_of_le_of_lt (Nat.min_le_right _ _) (show 1 < 1000 by decide)
      rw [zip_put v rfl h0, zip_put w rfl h1]
      have gy := (gx.put (w := .ins (ca c) dx (List.zip (fns c) ([] ++ [v])))).put (w := .ins (ca c) dx (List.zip (fns c) ([] ++ [v] ++ [w])))
      exact ⟨G1, ρ, x, dx, [] ++ [v] ++ [w], [d, d2], r, ⟨gy.le, S.len, (S.gr g1).at_⟩, hs, gy.no, upd_same, .cons r1 (.cons r2 .nil), e, fun σ' H' G' ws g2 h2 r2 => kk σ' H' G' ws ⟨gy.g.trans g2.g, g2.le, fun q o n z => g2.h q o n (gy.h q o n z), fun q o z => by
          rcases g2.nw q o z with w | w
          · exact gy.nw q o w
          · refine .inr ?_
            by_cases n : q = x
            · subst n; rw [upd_same] at w; cases w
            · rw [upd_ne n, upd_ne n] at w; exact gT.h.nn w, g2.no⟩ h2 r2⟩
    · cases e
end
/-! ### the end of an __init__ -/
def runI (c n N : Nat) (F : Rho → List D → Option (List D)) : List D → Option D := fun ds => if ds.length + 1 = n then (F (none :: (ds.map some ++ List.replicate (N - n) none)) []).bind fun r => if r.length = 2 then some (.obj c r) else none else none
theorem okI {P : Program} {w : World} {K : PySem.W.Frag} {mg : Str → Option Value} {base : Heap} {ca : Nat → Addr} {c : Nat} {x qual : Str} {A : Arguments} {B : List Stmt} {S0 : Scope} {dvs : List V} {kws : List (Str × V)} {f : Addr} {fd : FuncData} {N ps : List Str} {k : Nat} {F : Rho → List D → Option (List D)} (FD : FunD K x qual A B S0 dvs kws f fd) (S : FnScope N ps S0) (hn : ps.length ≤ N.length)
    (hb : ∀ (cdv : Value) (A : Around) (outer : List Env) (s : Shared) (H : Hp) (E : XK), Room k (A.deeper (envOfC qual S0 s.heap.objs.size f cdv)) →
      PSs (cxOf CX0 P w K mg base N qual S0 f cdv A outer s H E).nox B (tN K ca c F)) : FnOk P w K mg base CX0 (k + 1) f fd ps (spI K ca c (runI c ps.length N.length F)) := by
  have ln : ∀ {ds : List D} {d : D}, runI c ps.length N.length F ds = some d → ds.length + 1 = ps.length := fun {ds d} h => by
    unfold runI at h
    by_cases q : ds.length + 1 = ps.length
    · exact q
    · rw [if_neg q] at h; cases h
  refine FD.ok S (fun vs H Q E h => ?_) (fun cdv A outer s H vs Q E hr h => ?_)
  · obtain ⟨G, ds, d, y, dx, ws, rfl, _, _, _, r, e, _⟩ := h
    rw [List.length_cons, r.length]
    exact ln e
  · obtain ⟨G, ds, d, y, dx, ws, rfl, hx, hG, le, r, e, kk⟩ := h
    have hl := ln e
    refine ⟨_, (hb cdv A outer s H E hr).nox, ?_⟩
    unfold runI at e
    rw [if_pos hl] at e
    cases q : F (none :: (ds.map some ++ List.replicate (N.length - ps.length) none)) [] with
    | none => rw [q] at e; cases e
    | some rr =>
      rw [q, Option.bind_some] at e
      split at e
      · rename_i h2
        cases e
        refine ⟨G, _, y, dx, [], [], rr, ⟨le, ?_, fun i d e => ?_⟩, rfl, hG, by rw [hx, List.zip_nil_right], .nil, q, fun σ' H' G' us g hx' ru => ?_⟩
        · simp [L2.start, r.length]; omega
        · cases i with
          | zero => cases e
          | succ i =>
            have e' : (ds.map some ++ List.replicate (N.length - ps.length) none)[i]? = some (some d) := by simpa using e
            by_cases hi : i < ds.length
            · rw [List.getElem?_append_left (by simpa using hi), List.getElem?_map] at e'
              cases q2 : ds[i]? with
              | none => rw [q2] at e'; cases e'
              | some d2 =>
                rw [q2] at e'
                cases e'
                obtain ⟨v, hv, rv⟩ := r.get q2
                refine ⟨v, ?_, rv⟩
                unfold L2.start
                rw [List.getElem?_append_left (by rw [List.length_map, List.length_cons, r.length]; omega), List.getElem?_map, List.getElem?_cons_succ, hv]
                rfl
            · rw [List.getElem?_append_right (by simpa using hi)] at e'
              exact absurd (List.eq_of_mem_replicate (List.mem_of_getElem? e')) (by simp)
        · have gg : Ex G' (upd G' y (.ins (ca c) dx (List.zip (fns c) us))) := Ex.new g.no
          refine kk H' (upd G' y (.ins (ca c) dx (List.zip (fns c) us))) (g.g.trans gg) (fun a o z => ?_) g.h (fun a o z => ?_) (.obj upd_same h2 (ru.mono gg))
          · by_cases n : a = y
            · subst n; rw [upd_same] at z; cases z; exact .inl hx'
            · rw [upd_ne n] at z; exact g.le a o z
          · by_cases n : a = y
            · exact .inr (.inl n)
            · rw [upd_ne n] at z
              rcases g.nw a o z with w | w
              · exact .inl w
              · exact .inr (.inr w)
      · cases e
end DL
/-! Layer D: members of classes as the text has them; more statements. -/
namespace DL
open PySem PySem.Spec PyProof.Rows L2
section
variable (K : PySem.W.Frag) (mg : Str → Option Value) (ca : Nat → Addr) (c : Nat) (x fn qual : Str) (st : Stmt) (ps : List Str)
structure Pd : Prop where
  ex : ∃ pr g fd, Cls K (ca c) ∧ PropOf K (ca c) fn pr g ∧ FunD K fn qual (defArgs st) (defBody st) (defScope st) [] [] g fd ∧ Binds K fd ps []
structure Md : Prop where
  ex : ∃ g fd, Cls K (ca c) ∧ Meth K (ca c) fn g ∧ FunD K fn qual (defArgs st) (defBody st) (defScope st) [] [] g fd ∧ Binds K fd ps []
structure Sd : Prop where
  ex : ∃ C p g fd, mg x = some (.ref C) ∧ SMet K C fn p g ∧ FunD K fn qual (defArgs st) (defBody st) (defScope st) [] [] g fd ∧ Binds K fd ps []
structure Od : Prop where
  ex : ∃ g fd, FunD K fn qual (defArgs st) (defBody st) (defScope st) [] [] g fd ∧ Binds K fd ps [] ∧ PySem.W.findIn K (.ref (ca c)) fn = some (some (.ref g)) ∧ PySem.W.isFn K (.ref g) = true ∧ PySem.W.selfFirst K (ca c) = true
structure Nd (ddss : List (List D)) : Prop where
  ex : ∃ f1 fd dvs, mg x = some (.ref (ca c)) ∧ Mk K (ca c) f1 ∧ FunD K "__init__" qual (defArgs st) (defBody st) (defScope st) dvs [] f1 fd ∧ ∀ dds ∈ ddss, ∃ dv ds, Binds K fd ps ds ∧ Vals dv ds ∧ ∀ G, Reps K ca G dv dds
end
section
variable {P : Program} {w : World} {K : PySem.W.Frag} {mg : Str → Option Value} {base : Heap} {ca : Nat → Addr} {c k : Nat} {x fn qual : Str} {st : Stmt} {N ps : List Str} {F : SF}
theorem Pp.mk' (d : Pd K ca c fn qual st ps) (S : FnScope N ps (defScope st)) (hn : ps.length ≤ N.length)
    (hb : ∀ (f : Addr) (cdv : Value) (A : Around) (outer : List Env) (s : Shared) (H : Hp) (E : XK), Room k (A.deeper (envOfC qual (defScope st) s.heap.objs.size f cdv)) →
      PSs (cxOf CX0 P w K mg base N qual (defScope st) f cdv A outer s H E).nox (defBody st) (tS K ca F)) : Pp P w K mg base ca c fn (k + 1) (runD ps.length N.length F) := by
  obtain ⟨pr, g, fd, a, b, FD, hb'⟩ := d.ex
  exact ⟨pr, g, fd, ps, a, b, okD FD S hn (hb g), hb'⟩
theorem Me.mk' (d : Md K ca c fn qual st ps) (S : FnScope N ps (defScope st)) (hn : ps.length ≤ N.length) (hno : ∀ vs : List V, (List.zip (fns c) vs).lookup fn = none)
    (hb : ∀ (f : Addr) (cdv : Value) (A : Around) (outer : List Env) (s : Shared) (H : Hp) (E : XK), Room k (A.deeper (envOfC qual (defScope st) s.heap.objs.size f cdv)) →
      PSs (cxOf CX0 P w K mg base N qual (defScope st) f cdv A outer s H E).nox (defBody st) (tS K ca F)) : Me P w K mg base ca c fn (k + 1) (runD ps.length N.length F) := by
  obtain ⟨g, fd, a, b, FD, hb'⟩ := d.ex
  exact ⟨g, fd, ps, a, b, okD FD S hn (hb g), hb', hno⟩
theorem Sm.mk' (d : Sd K mg x fn qual st ps) (S : FnScope N ps (defScope st)) (hn : ps.length ≤ N.length)
    (hb : ∀ (f : Addr) (cdv : Value) (A : Around) (outer : List Env) (s : Shared) (H : Hp) (E : XK), Room k (A.deeper (envOfC qual (defScope st) s.heap.objs.size f cdv)) →
      PSs (cxOf CX0 P w K mg base N qual (defScope st) f cdv A outer s H E).nox (defBody st) (tS K ca F)) : Sm P w K mg base ca x fn (k + 1) (runD ps.length N.length F) := by
  obtain ⟨C, p, g, fd, a, b, FD, hb'⟩ := d.ex
  exact ⟨C, p, g, fd, ps, a, b, okD FD S hn (hb g), hb'⟩
theorem Oo.mk' (d : Od K ca c fn qual st ps) (S : FnScope N ps (defScope st)) (hn : ps.length ≤ N.length)
    (hb : ∀ (f : Addr) (cdv : Value) (A : Around) (outer : List Env) (s : Shared) (H : Hp) (E : XK), Room k (A.deeper (envOfC qual (defScope st) s.heap.objs.size f cdv)) →
      PSs (cxOf CX0 P w K mg base N qual (defScope st) f cdv A outer s H E).nox (defBody st) (tS K ca F)) : Oo P w K mg base ca c fn (k + 1) (runD ps.length N.length F) := by
  obtain ⟨g, fd, FD, hb', q⟩ := d.ex
  exact ⟨g, fd, ps, okD FD S hn (hb g), hb', q⟩
theorem Mkr.mk' {ddss : List (List D)} {F : Rho → List D → Option (List D)} (d : Nd K mg ca c x qual st ps ddss) (S : FnScope N ps (defScope st)) (hn : ps.length ≤ N.length)
    (hb : ∀ (f : Addr) (cdv : Value) (A : Around) (outer : List Env) (s : Shared) (H : Hp) (E : XK), Room k (A.deeper (envOfC qual (defScope st) s.heap.objs.size f cdv)) →
      PSs (cxOf CX0 P w K mg base N qual (defScope st) f cdv A outer s H E).nox (defBody st) (tN K ca c F)) : ∀ dds ∈ ddss, Mkr P w K mg base ca c x (k + 1) (runI c ps.length N.length F) dds := by
  obtain ⟨f1, fd, dvs, a, b, FD, h⟩ := d.ex
  intro dds hd
  obtain ⟨dv, ds, h1, h2, h3⟩ := h dds hd
  exact ⟨f1, fd, ps, dv, ds, a, b, okI FD S hn (hb f1), h1, h2, h3⟩
end
/-! ### more statements -/
def s_expr (f : Rho → Option D) : SF := fun ρ => (f (mask ρ)).bind fun _ => some (.nx ρ)
def s_addO (i : Nat) (f1 f2 : Rho → Option D) : SF := fun ρ => (f1 (peek ρ)).bind fun d1 => (f2 (peek ρ)).bind fun d2 => match d1, d2 with
  | .lst xs, .lst ys => if (xs ++ ys).all flatD = true ∧ (xs ++ ys).length ≤ LIM then some (.nx (ρ.set i (.ol (xs ++ ys)))) else none
  | _, _ => none
section
variable {X : Cx} {ca : Nat → Addr} {e a b : Expr} {pos p2 : Pos} {f f1 f2 : Rho → Option D}
theorem ds_expr (he : PE X e (tD X.K ca f)) (hsw : swapsWith e none pos.line X.env = pure false := by rfl) : PS X (.Expr e pos) (tS X.K ca (s_expr f)) := PS.imp (ps_expr he hsw) fun D σ H ⟨G0, H0, G, ρ, o, S, e, k⟩ => by
  unfold s_expr at e
  cases e1 : f (mask ρ) with
  | none => rw [e1] at e; cases e
  | some d =>
    rw [e1, Option.bind_some] at e
    cases e
    exact ⟨G, mask ρ, d, S.mask, e1, fun v H' G' g r => k _ _ _ (S.gr g)⟩
/-- x = a + b, lists of scalars: the new list is held by this body alone -/
theorem ds_addO {i : Nat} {x : Str} {pos' : Pos} (hN : X.N.Nodup) (ha : PE X a (tD X.K ca f1)) (hb : PE X b (tD X.K ca f2)) (hi : X.N[i]? = some x := by rfl) (hx : Loc X.env.scope x := by first | exact Or.inl rfl | exact Or.inr rfl) (hs : swapsWith (.BinOp a .Add b p2) (some (.Name x pos')) pos.line X.env = pure false := by rfl)
    (hf : X.fn x = true ∨ X.env.scope.names.lookup x = some .local := by first | exact .inl rfl | exact .inr rfl) : PS X (.Assign [.Name x pos'] (.BinOp a .Add b p2) pos) (tS X.K ca (s_addO i f1 f2)) := PS.imp (ps_set hN hi hx (pe_op op_cat ha hb) hs hf) fun D σ H ⟨G0, H0, G, ρ, o, S, e, k⟩ => by
  unfold s_addO at e
  cases e1 : f1 (peek ρ) with
  | none => rw [e1] at e; cases e
  | some d1 =>
  cases e2 : f2 (peek ρ) with
  | none => rw [e1, Option.bind_some, e2] at e; cases e
  | some d2 =>
  rw [e1, Option.bind_some, e2, Option.bind_some] at e
  cases d1 <;> first | (cases e; done) | skip
  cases d2 <;> first | (cases e; done) | skip
  rename_i xs ys
  dsimp only at e
  split at e
  · rename_i hl
    cases e
    obtain ⟨Gp, _, _, Sp⟩ := S.peek
    refine ⟨Gp, peek ρ, _, Sp, e1, fun v H1 G1 g1 r1 => ⟨G1, peek ρ, _, Sp.gr g1, e2, fun u H2 G2 g2 r2 => ?_⟩⟩
    obtain ⟨p, vs, rfl, hq, _, rv⟩ := (r1.mono g2.g).lstI
    obtain ⟨q, ws, rfl, hw, _, rw_⟩ := r2.lstI
    rw [List.all_append, Bool.and_eq_true] at hl
    refine ⟨p, q, vs, ws, rfl, rfl, g2.le.lst hq, g2.le.lst hw, lim_line (by rw [rv.length, rw_.length, ← List.length_append]; exact hl.2), fun n hn => ?_⟩
    have S2 := S.hgr (g1.h.trans g2.h)
    exact k _ _ G (S2.newOwn (i := i) (o := .lst (vs ++ ws)) (t := .ol (xs ++ ys)) hn trivial ⟨hl.2, (flatR_reps rv hl.1.1).app (flatR_reps rw_ hl.1.2)⟩)
  · cases e
end
end DL
namespace DL
open PySem PySem.Spec PyProof.Rows L2
theorem hu_of {n : Nat} {A : Around} (hr : Room n A) : A.units + 1 < cLine := by
  have := hr.units
  omega
end DL
namespace DL
open PySem PySem.Spec PyProof.Rows L2
theorem d_tupRg {X : Cx} {ca : Nat → Addr} {e : Expr} {p pos p2 pos2 : Pos} {f : Rho → Option D} (hm : X.mg "tuple" = none) (hm2 : X.mg "range" = none) (h : PE X e (tD X.K ca f)) (hc : X.calm = true := by rfl) (hg : Gl X "tuple" := by rfl) (hg2 : Gl X "range" := by rfl) (na : starEach [e] X.env = (false, eval e X.env) :: starEach [] X.env := by rfl)
    (nb : starEach [.Call (.Name "range" p2) [e] [] pos2] X.env = (false, eval (.Call (.Name "range" p2) [e] [] pos2) X.env) :: starEach [] X.env := by rfl) : PE X (.Call (.Name "tuple" p) [.Call (.Name "range" p2) [e] [] pos2] [] pos) (tD X.K ca (x_un dTupRange f)) :=
  d_tupRange hm hm2 h hc hg hg2 na nb
end DL
namespace DL
open PySem PySem.Spec PyProof.Rows L2
/-- y = [.. for .. in d], y a plain local, d the dict in slot j -/
theorem ds_setLcK {X : Cx} {ca : Nat → Addr} {i j : Nat} {vals : Bool} {y : Str} {py : Pos} {tg elt iter : Expr} {ifs : List Expr} {scope : Scope} {own : List (Str × Nat)} {lpos spos : Pos} {g : Tgt} {t : Rho → Option Bool} {f : Rho → Option D} (hc : X.calm = true) (hN : X.N.Nodup) (hy : X.N[i]? = some y) (hyl : X.env.scope.names.lookup y = some .local)
    (hsw : swapsWith (.ListComp elt [⟨tg, iter, ifs, 0⟩] scope lpos) (some (.Name y py)) spos.line X.env = pure true) (hi : PI X tg iter (tIK X.K ca j vals)) (ok : BlkOk X.N X.env.scope scope own)
    (hg : ∀ (s : Shared) (H : Hp) (C : Addr) (cl : List (Str × Addr)) (fp : List Addr), PG (X.blk s H scope (compEnvC scope cl C X.env) fp) tg (tG X.K ca g)) (ht : ∀ (s : Shared) (H : Hp) (C : Addr) (cl : List (Str × Addr)) (fp : List Addr), PTs (X.blk s H scope (compEnvC scope cl C X.env) fp) ifs (tDT X.K ca t))
    (he : ∀ (s : Shared) (H : Hp) (C : Addr) (cl : List (Str × Addr)) (fp : List Addr), PE (X.blk s H scope (compEnvC scope cl C X.env) fp) elt (tD X.K ca f)) (hs : ∀ x, foldedSetIterable iter X.env x = pure x := by intro _; rfl) :
    PS X (.Assign [.Name y py] (.ListComp elt [⟨tg, iter, ifs, 0⟩] scope lpos) spos) (tS X.K ca (s_set (g_name i) (x_lc (i_dic j vals) (own.map (·.2)) g t f))) := by
  have P := ps_setLc hc hN hy hyl hsw hi ok hg ht he hs
  refine ⟨fun pins s σ H De I h => ?_⟩
  obtain ⟨G0, H0, G, ρ, o, S, e, k⟩ := h
  unfold s_set x_lc at e
  cases e1 : i_dic j vals (mask ρ) with
  | none => rw [e1] at e; cases e
  | some xs =>
    rw [e1, Option.bind_some] at e
    by_cases hl : xs.length ≤ LIM
    · rw [if_pos hl] at e
      cases e2 : lcGo (lcTurn (mask ρ) (own.map (·.2)) g t f) xs with
      | none => rw [e2] at e; cases e
      | some ys =>
        rw [e2, Option.bind_some, Option.bind_some] at e
        cases e
        obtain ⟨ks, ds, hr, rfl⟩ := dic_some e1
        obtain ⟨a, vs, hv, hq, l1, l2, rv, hh⟩ := S.mask.dicAt hr
        rcases hh with z | ⟨ob, z⟩
        · refine (ps_lock P).run pins s σ H De I ⟨a, _, z, trivial, fun od => lcK_core (S.mask.lock hq) hr ⟨a, od, _, hv, upd_same⟩ hl e2 fun v H' G' g r => ?_⟩
          obtain ⟨g1, g2⟩ := Gr.unlock hq z g
          exact ⟨g1, k _ _ G' ((S.gr g2).set r)⟩
        · exact P.run pins s σ H De I (lcK_core S.mask hr ⟨a, ob, _, hv, z⟩ hl e2 fun v H' G' g r => k _ _ G' ((S.gr g).set r))
    · rw [if_neg hl] at e; cases e
end DL
namespace DL
open PySem PySem.Spec PyProof.Rows L2
/-- len of a dict -/
def dLenDic : D → Option D | .dic ks _ => some (.int (ks.length : Nat)) | _ => none
theorem cl_lenD {X : Cx} : CallR X (.builtin "len") (fun xs H Q => ∃ a kvs, xs = [V.ref a] ∧ Rd H a (.dK kvs) ∧ Q (.int kvs.length) H) := by
  intro pins s σ H xs us Q I r h
  obtain ⟨a, kvs, rfl, ha, q⟩ := h
  obtain ⟨u, rfl, ru⟩ := vals1 r
  cases ru
  exact L2.d_len I ha fun t s' I' => ⟨.int kvs.length, H, I', ⟨t, rfl⟩, q⟩
theorem d_lenDic {X : Cx} {ca : Nat → Addr} {e : Expr} {p pos : Pos} {f : Rho → Option D} (hm : X.mg "len" = none) (h : PE X e (tD X.K ca f)) (hg : Gl X "len" := by rfl) (he : starEach [e] X.env = (false, eval e X.env) :: starEach [] X.env := by rfl) : PE X (.Call (.Name "len" p) [e] [] pos) (tD X.K ca (x_un dLenDic f)) :=
  PE.imp (pe_callB cl_lenD hg hm PySem.boot_len (da_cons h da_nil he) (by decide) (by decide) he rfl) fun σ H Q ⟨G, ρ, d, S, e, k⟩ => by
    unfold x_un at e
    cases e1 : f ρ with
    | none => rw [e1] at e; cases e
    | some x =>
      rw [e1, Option.bind_some] at e
      cases x with
      | dic ks ds =>
        cases e
        refine ⟨G, ρ, [.dic ks ds], S, by unfold a_cons a_nil; rw [e1]; rfl, fun vs H1 G1 g r => ?_⟩
        obtain ⟨v, rfl, rv⟩ := reps1 r
        obtain ⟨a, vs, rfl, hq, hl, _, _, rr⟩ := rv.dicI
        refine ⟨a, _, rfl, g.le.rdK hq, ?_⟩
        rw [zipK_leq (by rw [rr.length]; exact hl)]
        exact k _ _ _ g (.int _)
      | _ => cases e
end DL
/-! What the top has written. Printed by gen2.py. -/
namespace DL
open PySem PySem.Spec PyProof.Rows L2
def D_START : D := .tup [.tup [], .tup [.bl true, .non]]
def D_NOTHING_rooms : D := .tup [.tup [], .tup [.bl false, .int 0]]
structure Ev (P : Program) (w : World) (K : PySem.W.Frag) (mg : Str → Option Value) (base : Heap) (ca : Nat → Addr) : Prop where
  B : Bn mg
  isi : IsiF K mg ca
  g_LETTERS : ∃ t, mg "LETTERS" = some (.str "abcdefghijklmnopqrstuvwxyz" t)
  g_LONGEST : ∃ t, mg "LONGEST" = some (.int 8 t)
  g_NOTHING_labels : ∃ t, mg "NOTHING_labels" = some (.str "-" t)
  g_ALL : ∃ t, mg "ALL" = some (.str "*" t)
  g_BUT : ∃ t, mg "BUT" = some (.str "* - " t)
  g_DROP : ∃ t, mg "DROP" = some (.str "drop" t)
  g_UNWRAP : ∃ t, mg "UNWRAP" = some (.str "unwrap" t)
  g_CUT : ∃ t, mg "CUT" = some (.str "cut" t)
  g_RENAME : ∃ t, mg "RENAME" = some (.str "rename" t)
  g_BETWEEN : ∃ t, mg "BETWEEN" = some (.str "; " t)
  g_START : ∃ a, mg "START" = some (.ref a) ∧ ∀ G, Rep K ca G (.ref a) D_START
  g_NOTHING_rooms : ∃ a, mg "NOTHING_rooms" = some (.ref a) ∧ ∀ G, Rep K ca G (.ref a) D_NOTHING_rooms
  k0 : Cls K (ca 0)
  k1 : Cls K (ca 1)
  k2 : Cls K (ca 2)
  n_own_names : NoAttr K (ca 0) "own_names"
  n_own_rest : NoAttr K (ca 0) "own_rest"
  n_own_kind : NoAttr K (ca 1) "own_kind"
  n_own_what : NoAttr K (ca 1) "own_what"
  n_own_steps : NoAttr K (ca 2) "own_steps"
  n_own_form : NoAttr K (ca 2) "own_form"
  d_tupled : Df K mg "tupled" (top 2) ["thing"]
  d_set_of : Df K mg "set_of" (top 3) ["things"]
  d_number_in : Df K mg "number_in" (top 4) ["text"]
  d_is_name : Df K mg "is_name" (top 16) ["thing"]
  d_names_in : Df K mg "names_in" (top 17) ["text"]
  d_Labels_init : Nd K mg ca 0 "Labels" "Labels.__init__" (mem 18 0) ["self", "names", "rest"] [[.bl false], []]
  d_Labels_of : Sd K mg "Labels" "of" "Labels.of" (mem 18 1) ["text"]
  d_Labels_names : Pd K ca 0 "names" "Labels.names" (mem 18 2) ["self"]
  d_Labels_rest : Pd K ca 0 "rest" "Labels.rest" (mem 18 3) ["self"]
  d_is_step : Df K mg "is_step" (top 32) ["kind", "what"]
  d_what_in : Df K mg "what_in" (top 34) ["kind", "text"]
  d_Step_init : Nd K mg ca 1 "Step" "Step.__init__" (mem 35 0) ["self", "kind", "what"] [[]]
  d_Step_of : Sd K mg "Step" "of" "Step.of" (mem 35 1) ["text"]
  d_Step_kind : Pd K ca 1 "kind" "Step.kind" (mem 35 2) ["self"]
  d_Step_what : Pd K ca 1 "what" "Step.what" (mem 35 3) ["self"]
  d_lesser : Df K mg "lesser" (top 39) ["one", "other"]
  d_is_most : Df K mg "is_most" (top 40) ["room", "most"]
  d_entry_in : Df K mg "entry_in" (top 41) ["form", "name"]
  d_final_in : Df K mg "final_in" (top 42) ["form", "name"]
  d_room_in : Df K mg "room_in" (top 43) ["form", "name"]
  d_form_with : Df K mg "form_with" (top 44) ["table", "rest"]
  d_names_told : Df K mg "names_told" (top 45) ["form"]
  d_height_in : Df K mg "height_in" (top 46) ["form"]
  d_form_of_step : Df K mg "form_of_step" (top 49) ["step"]
  d_entry_behind : Df K mg "entry_behind" (top 50) ["one", "other", "name"]
  d_form_behind : Df K mg "form_behind" (top 51) ["one", "other"]
  d_rooms_gone : Df K mg "rooms_gone" (top 53) ["form"]
  d_labels_gone : Df K mg "labels_gone" (top 54) ["form", "room"]
  d_plain_steps : Df K mg "plain_steps" (top 55) ["form"]
  d_side : Df K mg "side" (top 58) ["form", "name"]
  d_told_in : Df K mg "told_in" (top 59) ["one", "other"]
  d_pairs_of : Df K mg "pairs_of" (top 61) ["one", "other"]
  d_is_within : Df K mg "is_within" (top 63) ["one", "other"]
  d_form_of_steps : Df K mg "form_of_steps" (top 68) ["steps"]
  d_Pipeline_init : Nd K mg ca 2 "Pipeline" "Pipeline.__init__" (mem 69 0) ["self", "steps"] [[.tup []], []]
  d_Pipeline_of : Sd K mg "Pipeline" "of" "Pipeline.of" (mem 69 1) ["text"]
  d_Pipeline_steps : Pd K ca 2 "steps" "Pipeline.steps" (mem 69 2) ["self"]
  d_Pipeline_form : Pd K ca 2 "form" "Pipeline.form" (mem 69 4) ["self"]
  d_Pipeline_plain : Pd K ca 2 "plain" "Pipeline.plain" (mem 69 7) ["self"]
  d_Pipeline_within : Md K ca 2 "within" "Pipeline.within" (mem 69 8) ["self", "q"]
  d_Pipeline_rshift : Od K ca 2 "__rshift__" "Pipeline.__rshift__" (mem 69 16) ["self", "other"]
  d_Pipeline_eq : Od K ca 2 "__eq__" "Pipeline.__eq__" (mem 69 20) ["self", "other"]
  d_in_row : Df K mg "in_row" (top 71) ["filters", "order"]
  d_renames : Df K mg "renames" (top 72) ["pipeline"]
  d_check_names : Df K mg "check_names" (top 73) ["filters"]
  d_orders : Df K mg "orders" (top 74) ["numbers"]
  d_all_ways : Df K mg "all_ways" (top 75) ["filters"]
  d_unlike_ways : Df K mg "unlike_ways" (top 76) ["filters"]
  d_most_order : Dk K mg "most_order" (top 77) ["filters"]
  d_least_order : Dk K mg "least_order" (top 78) ["filters"]
  d_w_same : Df K mg "_law_same" (top 84) ["_law_got", "_law_goal"]
  d_w_step_so : Df K mg "_law_step_so" (top 88) ["_law_stride_here"]
  d_w_host : Df K mg "_law_host" (top 89) ["_law_line"]
  d_w_lot_says : Df K mg "_law_lot_says" (top 90) ["_law_lot_here"]
  d_w_is_in : Df K mg "_law_is_in" (top 91) ["_law_tag", "_law_lot_here"]
  d_w_fates : Df K mg "_law_fates" (top 92) ["_law_line"]
  d_w_under : Df K mg "_law_under" (top 93) ["_law_mine", "_law_its"]
  d_w_lot_of : Df K mg "_law_lot_of" (top 94) ["_law_tags_so"]
  d_w_plainly : Df K mg "_law_plainly" (top 95) ["_law_line"]
  d_w_orders : Df K mg "_law_orders" (top 96) ["_law_numbers_so"]
  d_w_row : Df K mg "_law_row" (top 97) ["_law_lines", "_law_order_so"]
  d_w_outcomes : Df K mg "_law_outcomes" (top 98) ["_law_lines"]
  d_w_by_hand_right : Df K mg "_law_by_hand_right" (top 99) []
theorem fld_own_names : ∀ v0 v1 v : V, [v0, v1][0]? = some v → (List.zip (fns 0) [v0, v1]).lookup ("own_names" : Str) = some v := fun v0 v1 v h => by cases h; rfl
theorem fld_own_rest : ∀ v0 v1 v : V, [v0, v1][1]? = some v → (List.zip (fns 0) [v0, v1]).lookup ("own_rest" : Str) = some v := fun v0 v1 v h => by cases h; rfl
theorem fld_own_kind : ∀ v0 v1 v : V, [v0, v1][0]? = some v → (List.zip (fns 1) [v0, v1]).lookup ("own_kind" : Str) = some v := fun v0 v1 v h => by cases h; rfl
theorem fld_own_what : ∀ v0 v1 v : V, [v0, v1][1]? = some v → (List.zip (fns 1) [v0, v1]).lookup ("own_what" : Str) = some v := fun v0 v1 v h => by cases h; rfl
theorem fld_own_steps : ∀ v0 v1 v : V, [v0, v1][0]? = some v → (List.zip (fns 2) [v0, v1]).lookup ("own_steps" : Str) = some v := fun v0 v1 v h => by cases h; rfl
theorem fld_own_form : ∀ v0 v1 v : V, [v0, v1][1]? = some v → (List.zip (fns 2) [v0, v1]).lookup ("own_form" : Str) = some v := fun v0 v1 v h => by cases h; rfl
end DL
/-! Layer U: defs that draw from the urn. The urn's list stands outside the data; what is drawn is not told. -/
namespace DL
open PySem PySem.Spec PyProof.Rows L2
def cut (u : Addr) (H : Hp) : Hp := fun a => if a = u then none else H a
def LIMU : Nat := 1000000
def Ur (H : Hp) (u : Addr) (m : Nat) : Prop := ∃ a b c : Int, H u = some (.lst [.int a, .int b, .int c]) ∧ 0 ≤ c ∧ c ≤ m
section
variable {K : PySem.W.Frag} {ca : Nat → Addr} {G H G' H' G1 H1 : Hp} {u a : Addr} {m n : Nat} {σ : L2.St} {ρ : Rho}
theorem cut_u : cut u H u = none := if_pos rfl
theorem cut_ne (h : a ≠ u) : cut u H a = H a := if_neg h
theorem cut_ex : Ex (cut u H) H := fun x o e => by
  by_cases h : x = u
  · rw [h, cut_u] at e; cases e
  · rwa [cut_ne h] at e
theorem Le.uncut (e : Le G (cut u H)) : Le G H := e.ex_trans cut_ex
theorem Sg.uncut (s : Sg K ca G (cut u H) σ ρ) : Sg K ca G H σ ρ := ⟨s.le.uncut, s.len, s.at_⟩
theorem Ur.mono (h : Ur H u m) (hm : m ≤ n) : Ur H u n := by
  obtain ⟨a, b, c, e, h1, h2⟩ := h
  exact ⟨a, b, c, e, h1, by omega⟩
theorem Ur.ne (h : Ur H u m) : H u ≠ none := by
  obtain ⟨a, b, c, e, _⟩ := h
  rw [e]; intro z; cases z
theorem Ur.ex (h : Ur H u m) (e : Ex H H') : Ur H' u m := by
  obtain ⟨a, b, c, h0, h1, h2⟩ := h
  exact ⟨a, b, c, e _ _ h0, h1, h2⟩
theorem Gr.cutU (g : Gr G H G' H') (le : Le G (cut u H)) (hu : H u ≠ none) : Gr G (cut u H) G' (cut u H') := by
  have gu : G' u = none := by
    cases q : G' u with
    | none => rfl
    | some o =>
      rcases g.nw u o q with z | z
      · rw [le.nn cut_u] at z; cases z
      · exact absurd z hu
  refine ⟨g.g, fun x o z => ?_, fun x o z => ?_, fun x o z => ?_⟩
  · have hx : x ≠ u := by rintro rfl; rw [gu] at z; cases z
    rw [cut_ne hx]
    exact g.le x o z
  · have hx : x ≠ u := by rintro rfl; rw [cut_u] at z; cases z
    rw [cut_ne hx] at z ⊢
    exact g.h x o z
  · rcases g.nw x o z with q | q
    · exact .inl q
    · refine .inr ?_
      by_cases hx : x = u
      · rw [hx]; exact cut_u
      · rw [cut_ne hx]; exact q
theorem cut_put {o : HO} : cut u (upd H u o) = cut u H := funext fun x => by
  by_cases hx : x = u
  · rw [hx, cut_u, cut_u]
  · rw [cut_ne hx, cut_ne hx, upd_ne hx]
/-- the old ones, but the urn -/
theorem Gr.keepU (g : Gr G (cut u H) G' (cut u H')) {o : HO} (h : a ≠ u) (e : H a = some o) : H' a = some o := by
  have := g.h a o (by rw [cut_ne h]; exact e)
  rwa [cut_ne h] at this
end
/-! ### readings -/
abbrev WpD := Rho → (D → Prop) → Prop
def tU (K : PySem.W.Frag) (ca : Nat → Addr) (w : Nat) (f : WpD) : TE := fun σ H Q =>
  ∃ G u m ρ P, Sg K ca G (cut u H) σ ρ ∧ Ur H u m ∧ σ[0]? = some (some (.ref u)) ∧ m + w ≤ LIMU ∧ f ρ P ∧ ∀ d v H' G', P d → Gr G (cut u H) G' (cut u H') → Ur H' u (m + w) → Rep K ca G' v d → Q v H'
def tUT (K : PySem.W.Frag) (ca : Nat → Addr) (w : Nat) (f : Rho → (Bool → Prop) → Prop) : TT := fun σ H Q =>
  ∃ G u m ρ P, Sg K ca G (cut u H) σ ρ ∧ Ur H u m ∧ σ[0]? = some (some (.ref u)) ∧ m + w ≤ LIMU ∧ f ρ P ∧ ∀ b H' G', P b → Gr G (cut u H) G' (cut u H') → Ur H' u (m + w) → Q b H'
def tUI (K : PySem.W.Frag) (ca : Nat → Addr) (w : Nat) (f : Rho → (List D → Prop) → Prop) : TI := fun σ H R =>
  ∃ G u m ρ P, Sg K ca G (cut u H) σ ρ ∧ Ur H u m ∧ σ[0]? = some (some (.ref u)) ∧ m + w ≤ LIMU ∧ f ρ P ∧ ∀ xs J H1 G1, P xs → Gr G (cut u H) G1 (cut u H1) → Ur H1 u (m + w) → Wk K ca G1 H1 J xs → R J H1
abbrev WpS := Rho → (Rho → Prop) → (D → Prop) → Prop
def tUS (K : PySem.W.Frag) (ca : Nat → Addr) (w : Nat) (F : WpS) : TS := fun D σ H =>
  ∃ G u m ρ N R, Sg K ca G (cut u H) σ ρ ∧ Ur H u m ∧ σ[0]? = some (some (.ref u)) ∧ m + w ≤ LIMU ∧ F ρ N R ∧
    (∀ ρ' σ' H' G', N ρ' → Gr G (cut u H) G' (cut u H') → Sg K ca G' (cut u H') σ' ρ' → Ur H' u (m + w) → σ'[0]? = some (some (.ref u)) → D.nx σ' H') ∧
    ∀ d v H' G', R d → Gr G (cut u H) G' (cut u H') → Ur H' u (m + w) → Rep K ca G' v d → D.rt v H'
def spU (K : PySem.W.Frag) (ca : Nat → Addr) (w : Nat) (A : List D → (D → Prop) → Prop) : Sp := fun vs H Q _ =>
  ∃ G u ws ds m P, vs = .ref u :: ws ∧ Le G (cut u H) ∧ Ur H u m ∧ m + w ≤ LIMU ∧ Reps K ca G ws ds ∧ A ds P ∧ ∀ d v H' G', P d → Gr G (cut u H) G' (cut u H') → Ur H' u (m + w) → Rep K ca G' v d → Q v H'
/-- a def that draws -/
structure Cu (P : Program) (w : World) (K : PySem.W.Frag) (mg : Str → Option Value) (base : Heap) (ca : Nat → Addr) (x : Str) (ps : List Str) (k n : Nat) (A : List D → (D → Prop) → Prop) : Prop where
  ex : ∃ fa fd, FnOk P w K mg base CX0 k fa fd ps (spU K ca n A) ∧ mg x = some (.ref fa) ∧ PySem.W.keepIn K (.ref fa) = true ∧ Binds K fd ps []
section
variable {X : Cx} {ca : Nat → Addr} {a b c e : Expr} {es : List Expr} {p pos : Pos} {f f1 f2 : Rho → Option D} {fu : WpD} {r : Rho → Option (List D)} {w w1 w2 k n : Nat} {x : Str} {ps : List Str} {A : List D → (D → Prop) → Prop} {rr : R2} {g : D → D → Option D}
theorem u_pure {te : TE} (h : ∀ σ H Q, tD X.K ca f σ H Q → te σ H Q) {σ : L2.St} {H : Hp} {Q : VK} (hq : tU X.K ca 0 (fun ρ P => ∃ d, f ρ = some d ∧ P d) σ H Q) : te σ H Q := by
  obtain ⟨G, u, m, ρ, P, S, U, hu, hm, ⟨d, e, hp⟩, k⟩ := hq
  exact h σ H Q ⟨G, ρ, d, S.uncut, e, fun v H' G' g r => k d v H' G' hp (g.cutU S.le U.ne) (U.ex g.h) r⟩
theorem tU_pure {w : Nat} {σ : L2.St} {H : Hp} {Q : VK} (hq : tU X.K ca w (fun ρ P => ∃ d, f ρ = some d ∧ P d) σ H Q) : tD X.K ca f σ H Q := by
  obtain ⟨G, u, m, ρ, P, S, U, hu, hm, ⟨d, e, hp⟩, k⟩ := hq
  exact ⟨G, ρ, d, S.uncut, e, fun v H' G' g r => k d v H' G' hp (g.cutU S.le U.ne) ((U.ex g.h).mono (Nat.le_add_right _ _)) r⟩
/-- f(urn, ..) -/
theorem u_call {x0 : Str} {p0 : Pos} (C : Cu X.prog X.w X.K X.mg X.base ca x ps k w A) (hr : Room n X.A) (hk : k ≤ n) (h0 : PE X (.Name x0 p0) (tVar 0)) (ha : PA X es (tDA X.K ca r)) (hg : Gl X x := by rfl) (hdb : (x == ("__debug__" : Str)) = false := by decide)
    (hs : starEach (.Name x0 p0 :: es) X.env = (false, eval (.Name x0 p0) X.env) :: starEach es X.env := by rfl) (hpl : (backTo pos (starEach es X.env)).any (·.1) = false := by rfl) :
    PE X (.Call (.Name x p) (.Name x0 p0 :: es) [] pos) (tU X.K ca w (fun ρ P => ∃ ds, r ρ = some ds ∧ A ds P)) := by
  obtain ⟨fa, fd, FO, hm, kp, hb⟩ := C.ex
  refine PE.imp (pe_call FO (hr.mono hk) hg hm kp hb .nil pass0 (pa_cons h0 ha hs) hdb hs hpl) fun σ H Q hq => ?_
  obtain ⟨G, u, m, ρ, P, S, U, hu, hm, ⟨ds, e, hA⟩, k⟩ := hq
  refine ⟨.ref u, hu, G, ρ, ds, S.uncut, e, fun ws H1 G1 g r => ?_⟩
  have gc := g.cutU S.le U.ne
  exact ⟨G1, u, ws, ds, m, P, by rw [List.append_nil], gc.le, U.ex g.h, hm, r, hA, fun d v H' G' hp g2 U2 r2 => k d v H' G' hp (gc.trans g2) U2 r2⟩
/-- x op U, x plain -/
theorem u_R (hr : BinR X.K ca rr g) : ∀ σ H Q, tU X.K ca w (fun ρ P => ∃ x, f1 ρ = some x ∧ fu ρ fun y => ∃ d, g x y = some d ∧ P d) σ H Q → tOp rr (tD X.K ca f1) (tU X.K ca w fu) σ H Q := fun σ H Q hq => by
  obtain ⟨G, u, m, ρ, P, S, U, hu, hm, ⟨x, e, hf⟩, k⟩ := hq
  refine ⟨G, ρ, x, S.uncut, e, fun v H1 G1 g1 r1 => ?_⟩
  have gc := g1.cutU S.le U.ne
  refine ⟨G1, u, m, ρ, _, S.gr gc, U.ex g1.h, hu, hm, hf, fun y v2 H2 G2 hy g2 U2 r2 => ?_⟩
  obtain ⟨d, e2, hp⟩ := hy
  exact hr G2 H2 v v2 x y d Q g2.le.uncut (r1.mono g2.g) r2 e2 fun z H3 G3 g3 r3 => k d z H3 G3 hp ((gc.trans g2).trans (g3.cutU g2.le U2.ne)) (U2.ex g3.h) r3
/-- U op y, y plain -/
theorem u_L (hr : BinR X.K ca rr g) : ∀ σ H Q, tU X.K ca w (fun ρ P => fu ρ fun x => ∃ y, f2 ρ = some y ∧ ∃ d, g x y = some d ∧ P d) σ H Q → tOp rr (tU X.K ca w fu) (tD X.K ca f2) σ H Q := fun σ H Q hq => by
  obtain ⟨G, u, m, ρ, P, S, U, hu, hm, hf, k⟩ := hq
  refine ⟨G, u, m, ρ, _, S, U, hu, hm, hf, fun x v H1 G1 hx g1 U1 r1 => ?_⟩
  obtain ⟨y, e, d, e2, hp⟩ := hx
  refine ⟨G1, ρ, y, (S.gr g1).uncut, e, fun v2 H2 G2 g2 r2 => ?_⟩
  exact hr G2 H2 v v2 x y d Q g2.le (r1.mono g2.g) r2 e2 fun z H3 G3 g3 r3 => k d z H3 G3 hp (g1.trans ((g2.trans g3).cutU g1.le U1.ne)) ((U1.ex g2.h).ex g3.h) r3
theorem u_add (ha : PE X a (tD X.K ca f1)) (hb : PE X b (tU X.K ca w fu)) : PE X (.BinOp a .Add b pos) (tU X.K ca w (fun ρ P => ∃ x, f1 ρ = some x ∧ fu ρ fun y => ∃ d, dAdd x y = some d ∧ P d)) :=
  PE.imp (pe_op op_addD ha hb) (u_R br_add)
theorem u_eq (hu : X.A.units + 64 < cLine) (ha : PE X a (tU X.K ca w fu)) (hb : PE X b (tD X.K ca f2)) : PE X (.Compare a [.Eq] [b] pos) (tU X.K ca w (fun ρ P => fu ρ fun x => ∃ y, f2 ρ = some y ∧ ∃ d, dEq x y = some d ∧ P d)) :=
  PE.imp (pe_cmpR (op_eqD hu) ha hb (nomark _)) (u_L br_eq)
theorem u_eqT (hu : X.A.units + 64 < cLine) (ha : PE X a (tU X.K ca w fu)) (hb : PE X b (tD X.K ca f2)) : PT X (.Compare a [.Eq] [b] pos) (tUT X.K ca w (fun ρ P => fu ρ fun x => ∃ y, f2 ρ = some y ∧ ∃ c, dEq x y = some (.bl c) ∧ P c)) :=
  PT.imp (pt_cmpR (op_eqD hu) ha hb (nomark _)) fun σ H Q hq => by
    obtain ⟨G, u, m, ρ, P, S, U, hu, hm, hf, k⟩ := hq
    refine u_L br_eq σ H _ ⟨G, u, m, ρ, fun d => ∃ c, d = .bl c ∧ P c, S, U, hu, hm, ?_, fun d v H' G' hd g U' r => ?_⟩
    · have : (fun x => ∃ y, f2 ρ = some y ∧ ∃ d, dEq x y = some d ∧ ∃ c, d = .bl c ∧ P c) = fun x => ∃ y, f2 ρ = some y ∧ ∃ c, dEq x y = some (.bl c) ∧ P c := funext fun x => propext ⟨fun ⟨y, e, d, e2, c, e3, h⟩ => ⟨y, e, c, by rw [e2, e3], h⟩, fun ⟨y, e, c, e2, h⟩ => ⟨y, e, _, e2, c, rfl, h⟩⟩
      show fu ρ (fun x => ∃ y, f2 ρ = some y ∧ ∃ d, dEq x y = some d ∧ ∃ c, d = .bl c ∧ P c)
      rw [this]
      exact hf
    · obtain ⟨c, rfl, hp⟩ := hd
      exact ⟨c, r.blI, k c H' G' hp g U'⟩
def dIxL : D → D → Option D | .lst ds, .int i => atI ds i | _, _ => none
theorem br_ixL {K : PySem.W.Frag} : BinR K ca (rIxL K) dIxL := fun G H x y d1 d2 d Q le r1 r2 e k => by
  cases d1 <;> first | (cases e; done) | skip
  cases d2 <;> first | (cases e; done) | skip
  rename_i ds i
  have e' : atI ds i = some d := e
  obtain ⟨a, vs, rfl, hq, _, rv⟩ := r1.lstI
  have hx : ∃ v, L2.atI vs i = some v ∧ Rep K ca G v d := by
    unfold L2.atI at e' ⊢
    rw [rv.length]
    cases q : ixN ds.length i with
    | none => rw [q] at e'; cases e'
    | some j =>
      rw [q, Option.bind_some] at e'
      exact rv.get e'
  obtain ⟨v, hv, rr⟩ := hx
  exact ⟨a, vs, i, v, rfl, r2.intI, SqL.of (le.lst hq), hv, k v H G (Gr.refl le) rr⟩
theorem u_ixL (ha : PE X a (tD X.K ca f1)) (hb : PE X b (tU X.K ca w fu)) (hs : PlainIx b := by exact fun _ _ => rfl) : PE X (.Subscript a b pos) (tU X.K ca w (fun ρ P => ∃ x, f1 ρ = some x ∧ fu ρ fun y => ∃ d, dIxL x y = some d ∧ P d)) :=
  PE.imp (pe_ix ix_list ha hb hs) (u_R br_ixL)
/-- (x, U) -/
theorem u_tup2 {kk : Nat} (ha : PE X a (tD X.K ca f1)) (hb : PE X b (tU X.K ca w fu)) (h1 : starEach [a, b] X.env = (false, eval a X.env) :: starEach [b] X.env := by rfl) (h2 : starEach [b] X.env = (false, eval b X.env) :: starEach [] X.env := by rfl) :
    PE X (.Tuple [a, b] kk pos) (tU X.K ca w (fun ρ P => ∃ x, f1 ρ = some x ∧ fu ρ fun y => P (.tup [x, y]))) :=
  PE.imp (pe_tup (pa_cons ha (pa_cons hb pa_nil h2) h1)) fun σ H Q hq => by
    obtain ⟨G, u, m, ρ, P, S, U, hu, hm, ⟨x, e, hf⟩, k⟩ := hq
    refine ⟨G, ρ, x, S.uncut, e, fun v H1 G1 g1 r1 => ?_⟩
    have gc := g1.cutU S.le U.ne
    refine ⟨G1, u, m, ρ, _, S.gr gc, U.ex g1.h, hu, hm, hf, fun y v2 H2 G2 hy g2 U2 r2 => ⟨show 2 ≤ sizeLine by decide, fun q hq => ?_⟩⟩
    have g3 := Gr.new (o := .tup [v, v2]) g2.le.uncut hq
    exact k _ _ _ _ hy ((gc.trans g2).trans (g3.cutU g2.le U2.ne)) (U2.ex g3.h) (.tup (SqT.of upd_same) (show 2 ≤ LIM by decide) (.cons ((r1.mono g2.g).mono g3.g) (.cons (r2.mono g3.g) .nil)))
/-- tuple(U), U a list -/
theorem u_tuple (hm : X.mg "tuple" = none) (ha : PE X a (tU X.K ca w fu)) (hg : Gl X "tuple" := by rfl) (he : starEach [a] X.env = (false, eval a X.env) :: starEach [] X.env := by rfl) :
    PE X (.Call (.Name "tuple" p) [a] [] pos) (tU X.K ca w (fun ρ P => fu ρ fun x => ∃ ds, x = .lst ds ∧ P (.tup ds))) :=
  PE.imp (pe_callTy call_tuple_of hg hm (by decide +kernel) (pa_cons ha pa_nil he) (by decide) (by decide) he rfl) fun σ H Q hq => by
    obtain ⟨G, u, m, ρ, P, S, U, hu, hm, hf, k⟩ := hq
    refine ⟨G, u, m, ρ, _, S, U, hu, hm, hf, fun x v H1 G1 hx g1 U1 r1 => ?_⟩
    obtain ⟨ds, rfl, hp⟩ := hx
    obtain ⟨q, vs, rfl, hq, hl, rv⟩ := r1.lstI
    refine ⟨q, vs, rfl, .inl ⟨SqL.of (g1.le.uncut.lst hq), fun l hl' => ?_⟩⟩
    have g3 := Gr.new (o := .tup vs) g1.le.uncut hl'
    exact k _ _ _ _ hp (g1.trans (g3.cutU g1.le U1.ne)) (U1.ex g3.h) (.tup (SqT.of upd_same) hl (rv.mono g3.g))
end
end DL
/-! Layer U: comprehensions, statements, a def's end. -/
namespace DL
open PySem PySem.Spec PyProof.Rows L2
section
variable {X : Cx} {ca : Nat → Addr} {a b c e tg iter : Expr} {es : List Expr} {p pos : Pos} {f f1 f2 : Rho → Option D} {fu : WpD} {r : Rho → Option (List D)} {w w1 w2 k n : Nat} {x : Str}
/-! ### what is walked -/
theorem ui_pure {it : Rho → Option (List D)} (h : PI X tg iter (tI X.K ca it)) : PI X tg iter (tUI X.K ca 0 (fun ρ P => ∃ xs, it ρ = some xs ∧ xs.length ≤ LIM ∧ P xs)) :=
  PI.imp h fun σ H R ⟨G, u, m, ρ, P, S, U, hu, hm, ⟨xs, e, hl, hp⟩, k⟩ => ⟨G, ρ, xs, S.uncut, e, hl, fun J H1 G1 g wk => k xs J H1 G1 hp (g.cutU S.le U.ne) (U.ex g.h) wk⟩
theorem wk_range {K : PySem.W.Frag} {G1 H1 : Hp} (j : Nat) : Wk K ca G1 H1 (Itr 0 j) ((List.range j).map fun i => D.int (i : Nat)) := fun G2 H2 e2 le fz i => by
  refine ⟨fun d hd => ?_, fun hl => ?_⟩
  · rw [List.getElem?_map] at hd
    cases q : (List.range j)[i]? with
    | none => rw [q] at hd; cases hd
    | some m =>
      rw [q] at hd
      have hm : i < j ∧ m = i := by
        obtain ⟨h1, h2⟩ := List.getElem?_eq_some_iff.mp q
        rw [List.length_range] at h1
        rw [List.getElem_range] at h2
        exact ⟨h1, h2.symm⟩
      obtain ⟨h1, rfl⟩ := hm
      have ed : D.int ((m : Nat) : Int) = d := Option.some.inj hd
      subst ed
      refine ⟨h1, fun x H' y => ?_⟩
      obtain ⟨rfl, rfl⟩ := y
      exact ⟨G2, Gr.refl le, by rw [Int.zero_add]; exact .int _⟩
  · rw [List.length_map, List.length_range] at hl
    exact hl
theorem ui_range (hm : X.mg "range" = none) (h : PE X e (tU X.K ca w fu)) (hg : Gl X "range" := by rfl) (he : starEach [e] X.env = [(false, eval e X.env)] := by rfl) :
    PI X tg (.Call (.Name "range" p) [e] [] pos) (tUI X.K ca w (fun ρ P => fu ρ fun d => ∃ j : Nat, d = .int (j : Nat) ∧ j ≤ 1000 ∧ P ((List.range j).map fun i => .int (i : Nat)))) :=
  PI.imp (pi_range1 hg hm (pa_cons h pa_nil he) he) fun σ H R hq => by
    obtain ⟨G, u, m, ρ, P, S, U, hu, hm, hf, k⟩ := hq
    refine ⟨G, u, m, ρ, _, S, U, hu, hm, hf, fun d v H1 G1 hd g1 U1 r1 => ?_⟩
    obtain ⟨j, rfl, hj, hp⟩ := hd
    exact ⟨j, by rw [r1.intI], by omega, by omega, k _ _ _ _ hp g1 U1 (wk_range j)⟩
/-! ### comprehensions -/
abbrev WpT := Rho → (Bool → Prop) → Prop
def turnU (ρ : Rho) (own : List Nat) (g : Tgt) (t : WpT) (f : WpD) (d : D) (R : Option D → Prop) : Prop :=
  ∃ us, g d = some us ∧ (us.all fun u => own.contains u.1) = true ∧ t (setR (wipeR ρ own) us) fun b => if b = true then f (setR (wipeR ρ own) us) fun y => R (some y) else R none
def lcU (turn : D → (Option D → Prop) → Prop) : List D → (List D → Prop) → Prop
  | [], P => P []
  | x :: xs, P => turn x fun o => lcU turn xs fun ys => P (match o with | some y => y :: ys | none => ys)
theorem ut_pure {c : Expr} {t : Rho → Option Bool} (h : PT X c (tDT X.K ca t)) : PT X c (tUT X.K ca 0 (fun ρ P => ∃ b, t ρ = some b ∧ P b)) :=
  PT.imp h fun σ H Q ⟨G, u, m, ρ, P, S, U, hu, hm, ⟨b, e, hp⟩, k⟩ => ⟨G, ρ, b, S.uncut, e, fun H' G' g => k b H' G' hp (g.cutU S.le U.ne) (U.ex g.h)⟩
theorem uts_nil : PTs X [] (tUT X.K ca 0 (fun _ P => P true)) := ⟨fun pins s σ H Q I h => pts_nil.run pins s σ H Q I (by
  obtain ⟨G, u, m, ρ, P, S, U, hu, hm, hp, k⟩ := h
  exact k true H G hp (Gr.refl S.le) U)⟩
theorem uts_one {c : Expr} {t : WpT} (h : PT X c (tUT X.K ca w t)) : PTs X [c] (tUT X.K ca w t) := pts_one h
theorem wipe_get0 {σ : L2.St} {own : List Nat} {v : V} (h : σ[0]? = some (some v)) (ho : own.contains 0 = false) : (L2.wipe σ own)[0]? = some (some v) := by
  induction own with
  | nil => exact h
  | cons i own ih =>
    rw [List.contains_cons, Bool.or_eq_false_iff] at ho
    show ((L2.wipe σ own).set i none)[0]? = _
    rw [List.getElem?_set_ne]
    · exact ih ho.2
    · rintro rfl
      have := ho.1
      simp at this
theorem setV_get0 {K : PySem.W.Frag} {G : Hp} {own : List Nat} {v : V} {ws : List (Nat × V)} {us : List (Nat × D)} (ho : own.contains 0 = false) (h : Ups K ca G ws us) : ∀ {σ : L2.St}, (us.all fun u => own.contains u.1) = true → σ[0]? = some (some v) → (setV σ ws)[0]? = some (some v) := by
  induction h with
  | nil => exact fun _ h => h
  | @cons i z d ws us r t ih =>
    intro σ hu h
    rw [List.all_cons, Bool.and_eq_true] at hu
    refine ih (σ := σ.set i (some z)) hu.2 ?_
    rw [List.getElem?_set_ne]
    · exact h
    · rintro rfl
      rw [ho] at hu
      exact Bool.noConfusion hu.1
theorem lc_goU {K : PySem.W.Frag} {G1 H1 : Hp} {u : Addr} {m : Nat} {σ : L2.St} {ρ : Rho} {J : It} {xs : List D} {own : List Nat} {g : Tgt} {t : WpT} {f : WpD} {Q : VK} {P : List D → Prop} (S : Sg K ca G1 (cut u H1) σ ρ) (U : Ur H1 u m) (hu : σ[0]? = some (some (.ref u))) (ho : own.contains 0 = false) (wk : Wk K ca G1 H1 J xs) (hl : xs.length ≤ n) (hn : n ≤ LIM) (hm : m + n * (w1 + w2) ≤ LIMU)
    (e : lcU (turnU ρ own g t f) xs P) (k : ∀ ys v H' G', P ys → Gr G1 (cut u H1) G' (cut u H') → Ur H' u (m + n * (w1 + w2)) → Rep K ca G' v (.lst ys) → Q v H') :
    ∀ p, H1 p = none → ∃ W : Nat → Nat → Hp → Prop, (∃ m, W 0 m (upd H1 p (.lst []))) ∧ ∀ i m H, W i m H →
      (J.stop i H ∧ Q (.ref p) H) ∨ (J.go i H ∧ ∃ Nx : Hp → Prop, (∀ H', Nx H' → ∃ m', m' < m ∧ W (i + 1) m' H') ∧ ∀ x H', J.yld i H x H' → tG K ca g x (L2.wipe σ own) H' fun σ2 H2 => L2.wipe σ2 own = L2.wipe σ own ∧ tUT K ca w1 t σ2 H2 fun b H3 =>
        if b = true then tU K ca w2 f σ2 H3 fun y H4 => ∃ acc, H4 p = some (.lst acc) ∧ acc.length < sizeLine ∧ Nx (upd H4 p (.lst (acc ++ [y]))) else Nx H3) := by
  intro p hp
  have pu : p ≠ u := by rintro rfl; exact U.ne hp
  have hpc : cut u H1 p = none := by rw [cut_ne pu]; exact hp
  let Iv : Nat → Hp → Prop := fun i H => ∃ Gc vs acc, Mid G1 (cut u H1) p Gc (cut u H) ∧ Ur H u (m + i * (w1 + w2)) ∧ H p = some (.lst vs) ∧ Reps K ca Gc vs acc ∧ acc.length ≤ i ∧ lcU (turnU ρ own g t f) (xs.drop i) (fun ys => P (acc ++ ys))
  have cu : cut u (upd H1 p (.lst [])) = upd (cut u H1) p (.lst []) := funext fun x => by
    by_cases h1 : x = p
    · rw [h1, cut_ne pu, upd_same, upd_same]
    · by_cases h2 : x = u
      · rw [h2, cut_u, upd_ne (Ne.symm pu), cut_u]
      · rw [cut_ne h2, upd_ne h1, upd_ne h1, cut_ne h2]
  refine ⟨fun i mm H => mm = xs.length - i ∧ i ≤ xs.length ∧ Iv i H, ⟨xs.length, rfl, Nat.zero_le _, G1, [], [], by rw [cu]; exact Mid.start S.le hpc, ?_, upd_same, .nil, Nat.le_refl _, e⟩, ?_⟩
  · obtain ⟨a, b, c, h0, h1, h2⟩ := U
    exact ⟨a, b, c, by rw [upd_ne (Ne.symm pu)]; exact h0, h1, by omega⟩
  rintro i mm H ⟨rfl, hi, Gc, vs, acc, md, Ui, hv, rv, hacc, er⟩
  have fz : Fz H1 H := fun a ob z h => by
    have hau : a ≠ u := by
      rintro rfl
      obtain ⟨_, _, _, h0, _⟩ := U
      rw [h0] at h; cases h
    have := md.h a _ (by rw [cut_ne hau]; exact h)
    rwa [cut_ne hau] at this
  obtain ⟨w1', w2'⟩ := wk Gc H md.g md.le.uncut fz i
  by_cases hlt : i < xs.length
  · right
    have hx : xs[i]? = some xs[i] := List.getElem?_eq_getElem hlt
    obtain ⟨go, yl⟩ := w1' _ hx
    refine ⟨go, Iv (i + 1), fun H' h' => ⟨xs.length - (i + 1), by omega, rfl, hlt, h'⟩, fun x H' y => ?_⟩
    obtain ⟨G', gr0, rx⟩ := yl x H' y
    have gr := gr0.cutU md.le Ui.ne
    have cp : ∀ {H : Hp} {o : HO}, H p = some o → cut u H p ≠ none := fun h z => by rw [cut_ne pu, h] at z; cases z
    have m1 := md.gr (cp hv) gr
    have hv1 : H' p = some (.lst vs) := gr0.h _ _ hv
    rw [List.drop_eq_getElem_cons hlt] at er
    obtain ⟨us, e1, e2, e3⟩ := er
    refine ⟨G', _, us, m1.le.uncut, rx, e1, fun ws hw => ?_⟩
    have S' : Sg K ca G' (cut u H') σ ρ := ⟨m1.le, S.len, fun j d z => let ⟨v, a, b⟩ := S.at_ j d z; ⟨v, a, b.mono m1.g⟩⟩
    have S2 : Sg K ca G' (cut u H') (setV (L2.wipe σ own) ws) (setR (wipeR ρ own) us) := (S'.wipe own).ups hw
    have hu2 := setV_get0 (own := own) ho hw e2 (wipe_get0 hu ho)
    have hmul : (i + 1) * (w1 + w2) ≤ n * (w1 + w2) := Nat.mul_le_mul_right _ (by omega)
    have hsu : (i + 1) * (w1 + w2) = i * (w1 + w2) + (w1 + w2) := Nat.succ_mul _ _
    refine ⟨(wipe_setV hw e2).trans (wipe_wipe own), G', u, m + i * (w1 + w2), _, _, S2, Ui.ex gr0.h, hu2, by omega, e3, fun b H3 G3 hb g3 U3 => ?_⟩
    have m3 := m1.gr (cp hv1) g3
    have hv3 : H3 p = some (.lst vs) := g3.keepU pu hv1
    cases b with
    | true =>
      refine iteT ?_
      rw [if_pos rfl] at hb
      refine ⟨G3, u, m + i * (w1 + w2) + w1, _, _, S2.gr g3, U3, hu2, by omega, hb, fun d v H4 G4 hd g4 U4 r4 => ?_⟩
      have m4 := m3.gr (cp hv3) g4
      have hv4 : H4 p = some (.lst vs) := g4.keepU pu hv3
      have cu4 : cut u (upd H4 p (.lst (vs ++ [v]))) = upd (cut u H4) p (.lst (vs ++ [v])) := funext fun x => by
        by_cases h1 : x = p
        · rw [h1, cut_ne pu, upd_same, upd_same]
        · by_cases h2 : x = u
          · rw [h2, cut_u, upd_ne (Ne.symm pu), cut_u]
          · rw [cut_ne h2, upd_ne h1, upd_ne h1, cut_ne h2]
      refine ⟨vs, hv4, lim_lt (by rw [rv.length]; omega), G4, _, acc ++ [d], by rw [cu4]; exact m4.put hpc, ?_, upd_same, (((rv.mono gr.g).mono g3.g).mono g4.g).app (.cons r4 .nil), by rw [List.length_append]; exact Nat.succ_le_succ hacc, ?_⟩
      · obtain ⟨a, b, c, h0, h1, h2⟩ := U4
        exact ⟨a, b, c, by rw [upd_ne (Ne.symm pu)]; exact h0, h1, by omega⟩
      · have : (fun ys => P (acc ++ [d] ++ ys)) = fun ys => P (acc ++ d :: ys) := funext fun ys => by rw [List.append_assoc]; rfl
        rw [this]
        exact hd
    | false =>
      refine iteF ?_
      rw [if_neg Bool.false_ne_true] at hb
      exact ⟨G3, vs, acc, m3, U3.mono (by omega), hv3, ((rv.mono gr.g).mono g3.g), by omega, hb⟩
  · left
    have ei : i = xs.length := by omega
    subst ei
    rw [List.drop_length] at er
    have er' : P (acc ++ []) := er
    rw [List.append_nil] at er'
    have hpH : cut u H p = some (.lst vs) := by rw [cut_ne pu]; exact hv
    refine ⟨w2' (Nat.le_refl _), k acc _ H (upd Gc p (.lst vs)) er' (md.fin hpc hpH) (Ui.mono (Nat.add_le_add_left (Nat.mul_le_mul_right _ hl) _)) ?_⟩
    refine .lst upd_same (by omega) (rv.mono ?_)
    intro a u z
    rw [upd_ne (ne_of_none z md.no)]
    exact z
/-- [elt for tg in iter if ..], at most n turns -/
def wpLc (n : Nat) (it : Rho → (List D → Prop) → Prop) (own : List Nat) (g : Tgt) (t : WpT) (f : WpD) : WpD := fun ρ P => it ρ fun xs => xs.length ≤ n ∧ lcU (turnU ρ own g t f) xs fun ys => P (.lst ys)
theorem lc_ofU {it : Rho → (List D → Prop) → Prop} {own : List Nat} {g : Tgt} {t : WpT} {f : WpD} {σ : L2.St} {H : Hp} {Q : VK} (ho : own.contains 0 = false) (hn : n ≤ LIM) (h : tU X.K ca (w + n * (w1 + w2)) (wpLc n it own g t f) σ H Q) :
    tLc (tUI X.K ca w it) (tG X.K ca g) (tUT X.K ca w1 t) (tU X.K ca w2 f) own σ H Q := by
  obtain ⟨G, u, m, ρ, P, S, U, hu, hm, hf, k⟩ := h
  refine ⟨G, u, m, ρ, _, S, U, hu, by omega, hf, fun xs J H1 G1 hx g1 U1 wk => ?_⟩
  exact lc_goU (S.gr g1) U1 hu ho wk hx.1 hn (by omega) hx.2 fun ys v H' G' hp g2 U2 r => k _ v H' G' hp (g1.trans g2) (by rw [← Nat.add_assoc]; exact U2) r
theorem u_lc {elt : Expr} {ifs : List Expr} {scope : Scope} {own : List (Str × Nat)} {it : Rho → (List D → Prop) → Prop} {g : Tgt} {t : WpT} {f : WpD} (n : Nat) (ho : (own.map (·.2)).contains 0 = false) (hn : n ≤ LIM) (hc : X.calm = true) (hN : X.N.Nodup) (hi : PI X tg iter (tUI X.K ca w it)) (ok : BlkOk X.N X.env.scope scope own)
    (hg : ∀ (s : Shared) (H : Hp) (C : Addr) (cl : List (Str × Addr)) (fp : List Addr), PG (X.blk s H scope (compEnvC scope cl C X.env) fp) tg (tG X.K ca g)) (ht : ∀ (s : Shared) (H : Hp) (C : Addr) (cl : List (Str × Addr)) (fp : List Addr), PTs (X.blk s H scope (compEnvC scope cl C X.env) fp) ifs (tUT X.K ca w1 t))
    (he : ∀ (s : Shared) (H : Hp) (C : Addr) (cl : List (Str × Addr)) (fp : List Addr), PE (X.blk s H scope (compEnvC scope cl C X.env) fp) elt (tU X.K ca w2 f)) (hs : ∀ x, foldedSetIterable iter X.env x = pure x := by intro _; rfl) :
    PE X (.ListComp elt [⟨tg, iter, ifs, 0⟩] scope pos) (tU X.K ca (w + n * (w1 + w2)) (wpLc n it (own.map (·.2)) g t f)) :=
  PE.imp (pe_lc hc hN hi ok hg ht he hs) fun σ H Q h => lc_ofU ho hn h
/-! ### statements -/
theorem us_asg {te : TE} {i : Nat} (hi0 : i ≠ 0) (h : ∀ σ H Q, tU X.K ca w fu σ H Q → te σ H Q) : ∀ D σ H, tUS X.K ca w (fun ρ N R => fu ρ fun d => N (ρ.set i (some d))) D σ H → tAsg te (gName i) D σ H := fun D σ H hq => by
  obtain ⟨G, u, m, ρ, N, R, S, U, hu, hm, hf, k1, k2⟩ := hq
  refine h σ H _ ⟨G, u, m, ρ, _, S, U, hu, hm, hf, fun d v H' G' hd g U' r => ?_⟩
  exact k1 _ _ H' G' hd g ((S.gr g).set r) U' (by rw [List.getElem?_set_ne hi0]; exact hu)
theorem us_set {i : Nat} {pos' : Pos} (hN : X.N.Nodup) (hi0 : i ≠ 0) (he : PE X e (tU X.K ca w fu)) (hi : X.N[i]? = some x := by rfl) (hx : Loc X.env.scope x := by first | exact Or.inl rfl | exact Or.inr rfl) (hs : swapsWith e (some (.Name x pos')) pos.line X.env = pure false := by rfl)
    (hf : X.fn x = true ∨ X.env.scope.names.lookup x = some .local := by first | exact .inl rfl | exact .inr rfl) : PS X (.Assign [.Name x pos'] e pos) (tUS X.K ca w (fun ρ N R => fu ρ fun d => N (ρ.set i (some d)))) :=
  PS.imp (ps_set hN hi hx he hs hf) (us_asg hi0 fun _ _ _ h => h)
theorem us_setD {i : Nat} {pos' : Pos} (hN : X.N.Nodup) (hi0 : i ≠ 0) (he : PE X e (tD X.K ca f)) (hi : X.N[i]? = some x := by rfl) (hx : Loc X.env.scope x := by first | exact Or.inl rfl | exact Or.inr rfl) (hs : swapsWith e (some (.Name x pos')) pos.line X.env = pure false := by rfl)
    (hf : X.fn x = true ∨ X.env.scope.names.lookup x = some .local := by first | exact .inl rfl | exact .inr rfl) : PS X (.Assign [.Name x pos'] e pos) (tUS X.K ca 0 (fun ρ N R => ∃ d, f ρ = some d ∧ N (ρ.set i (some d)))) :=
  PS.imp (ps_set hN hi hx he hs hf) (us_asg (fu := fun ρ P => ∃ d, f ρ = some d ∧ P d) hi0 fun _ _ _ h => u_pure (fun _ _ _ z => z) h)
theorem us_setLc {i : Nat} {y : Str} {py : Pos} {elt : Expr} {ifs : List Expr} {scope : Scope} {own : List (Str × Nat)} {lpos spos : Pos} {it : Rho → (List D → Prop) → Prop} {g : Tgt} {t : WpT} {f : WpD} (n : Nat) (hi0 : i ≠ 0) (ho : (own.map (·.2)).contains 0 = false) (hn : n ≤ LIM) (hc : X.calm = true) (hN : X.N.Nodup) (hy : X.N[i]? = some y) (hyl : X.env.scope.names.lookup y = some .local)
    (hsw : swapsWith (.ListComp elt [⟨tg, iter, ifs, 0⟩] scope lpos) (some (.Name y py)) spos.line X.env = pure true) (hi : PI X tg iter (tUI X.K ca w it)) (ok : BlkOk X.N X.env.scope scope own)
    (hg : ∀ (s : Shared) (H : Hp) (C : Addr) (cl : List (Str × Addr)) (fp : List Addr), PG (X.blk s H scope (compEnvC scope cl C X.env) fp) tg (tG X.K ca g)) (ht : ∀ (s : Shared) (H : Hp) (C : Addr) (cl : List (Str × Addr)) (fp : List Addr), PTs (X.blk s H scope (compEnvC scope cl C X.env) fp) ifs (tUT X.K ca w1 t))
    (he : ∀ (s : Shared) (H : Hp) (C : Addr) (cl : List (Str × Addr)) (fp : List Addr), PE (X.blk s H scope (compEnvC scope cl C X.env) fp) elt (tU X.K ca w2 f)) (hs : ∀ x, foldedSetIterable iter X.env x = pure x := by intro _; rfl) :
    PS X (.Assign [.Name y py] (.ListComp elt [⟨tg, iter, ifs, 0⟩] scope lpos) spos) (tUS X.K ca (w + n * (w1 + w2)) (fun ρ N R => wpLc n it (own.map (·.2)) g t f ρ fun d => N (ρ.set i (some d)))) :=
  PS.imp (ps_setLc hc hN hy hyl hsw hi ok hg ht he hs) (us_asg hi0 fun _ _ _ h => lc_ofU ho hn h)
theorem us_ret (he : PE X e (tU X.K ca w fu)) : PS X (.Return (some e) pos) (tUS X.K ca w (fun ρ _ R => fu ρ R)) := PS.imp (ps_ret he) fun D σ H hq => by
  obtain ⟨G, u, m, ρ, N, R, S, U, hu, hm, hf, k1, k2⟩ := hq
  exact ⟨G, u, m, ρ, _, S, U, hu, hm, hf, fun d v H' G' hd g U' r => k2 d v H' G' hd g U' r⟩
theorem us_if {c : Expr} {a b : List Stmt} {t : Rho → Option Bool} {F1 F2 : WpS} (hc : PT X c (tDT X.K ca t)) (ha : PSs X a (tUS X.K ca w F1)) (hb : PSs X b (tUS X.K ca w F2)) : PS X (.If c a b pos) (tUS X.K ca w (fun ρ N R => ∃ z, t ρ = some z ∧ if z = true then F1 ρ N R else F2 ρ N R)) := PS.imp (ps_if hc ha hb) fun D σ H hq => by
  obtain ⟨G, u, m, ρ, N, R, S, U, hu, hm, ⟨z, e, hf⟩, k1, k2⟩ := hq
  refine ⟨G, ρ, z, S.uncut, e, fun H' G' g => ?_⟩
  have gc := g.cutU S.le U.ne
  cases z with
  | true =>
    rw [if_pos rfl] at hf
    exact iteT ⟨G', u, m, ρ, N, R, S.gr gc, U.ex g.h, hu, hm, hf, fun ρ' σ' H2 G2 h g2 S2 U2 h2 => k1 ρ' σ' H2 G2 h (gc.trans g2) S2 U2 h2, fun d v H2 G2 h g2 U2 r => k2 d v H2 G2 h (gc.trans g2) U2 r⟩
  | false =>
    rw [if_neg Bool.false_ne_true] at hf
    exact iteF ⟨G', u, m, ρ, N, R, S.gr gc, U.ex g.h, hu, hm, hf, fun ρ' σ' H2 G2 h g2 S2 U2 h2 => k1 ρ' σ' H2 G2 h (gc.trans g2) S2 U2 h2, fun d v H2 G2 h g2 U2 r => k2 d v H2 G2 h (gc.trans g2) U2 r⟩
theorem uss_nil : PSs X [] (tUS X.K ca 0 (fun ρ N _ => N ρ)) := PSs.imp pss_nil fun D σ H hq => by
  obtain ⟨G, u, m, ρ, N, R, S, U, hu, hm, hf, k1, k2⟩ := hq
  exact k1 ρ σ H G hf (Gr.refl S.le) S U hu
theorem uss_never {st : List Stmt} : PSs X st (tUS X.K ca w (fun _ _ _ => False)) := PSs.imp pss_never fun D σ H hq => by
  obtain ⟨G, u, m, ρ, N, R, S, U, hu, hm, hf, k1, k2⟩ := hq
  exact hf.elim
theorem uss_cons {st : Stmt} {rest : List Stmt} {F1 F2 : WpS} (h1 : PS X st (tUS X.K ca w1 F1)) (h2 : PSs X rest (tUS X.K ca w2 F2)) : PSs X (st :: rest) (tUS X.K ca (w1 + w2) (fun ρ N R => F1 ρ (fun ρ' => F2 ρ' N R) R)) :=
  PSs.imp (pss_cons h1 h2) fun D σ H hq => by
    obtain ⟨G, u, m, ρ, N, R, S, U, hu, hm, hf, k1, k2⟩ := hq
    refine ⟨G, u, m, ρ, _, R, S, U, hu, by omega, hf, fun ρ' σ' H' G' h g S' U' h0 => ?_, fun d v H' G' h g U' r => k2 d v H' G' h g (U'.mono (by omega)) r⟩
    exact ⟨G', u, m + w1, ρ', N, R, S', U', h0, by omega, h, fun ρ2 σ2 H2 G2 h2 g2 S2 U2 h3 => k1 ρ2 σ2 H2 G2 h2 (g.trans g2) S2 (U2.mono (by omega)) h3, fun d v H2 G2 h2 g2 U2 r => k2 d v H2 G2 h2 (g.trans g2) (U2.mono (by omega)) r⟩
theorem uss_le {st : List Stmt} {F : WpS} (h : PSs X st (tUS X.K ca w1 F)) (hw : w1 ≤ w2) : PSs X st (tUS X.K ca w2 F) := PSs.imp h fun D σ H hq => by
  obtain ⟨G, u, m, ρ, N, R, S, U, hu, hm, hf, k1, k2⟩ := hq
  exact ⟨G, u, m, ρ, N, R, S, U, hu, by omega, hf, fun ρ' σ' H' G' h g S' U' h0 => k1 ρ' σ' H' G' h g S' (U'.mono (by omega)) h0, fun d v H' G' h g U' r => k2 d v H' G' h g (U'.mono (by omega)) r⟩
end
/-! ### a def's body -/
def runU (n N : Nat) (F : WpS) : List D → (D → Prop) → Prop := fun ds P => ds.length + 1 = n ∧ F (none :: (ds.map some ++ List.replicate (N - n) none)) (fun _ => False) P
section
variable {P : Program} {w : World} {K : PySem.W.Frag} {mg : Str → Option Value} {base : Heap} {ca : Nat → Addr}
theorem start_U {G H : Hp} {N : List Str} {u : Addr} {ws : List V} {ds : List D} (le : Le G H) (r : Reps K ca G ws ds) (hN : ds.length + 1 ≤ N.length) : Sg K ca G H (L2.start N (.ref u :: ws)) (none :: (ds.map some ++ List.replicate (N.length - (ds.length + 1)) none)) := by
  refine ⟨le, by simp [L2.start, r.length], fun i d e => ?_⟩
  cases i with
  | zero => cases e
  | succ i =>
    rw [List.getElem?_cons_succ] at e
    by_cases hi : i < ds.length
    · rw [List.getElem?_append_left (by simpa using hi), List.getElem?_map] at e
      cases q : ds[i]? with
      | none => rw [q] at e; cases e
      | some d' =>
        rw [q] at e
        cases e
        obtain ⟨v, hv, rv⟩ := r.get q
        refine ⟨v, ?_, rv⟩
        unfold L2.start
        rw [List.map_cons, List.cons_append, List.getElem?_cons_succ, List.getElem?_append_left (by rw [List.length_map, r.length]; exact hi), List.getElem?_map, hv]
        rfl
    · rw [List.getElem?_append_right (by simp; omega)] at e
      have := List.eq_of_mem_replicate (List.mem_of_getElem? e)
      cases this
theorem Cu.mk' {x : Str} {st : Stmt} {N ps : List Str} {k n : Nat} {F : WpS} (d : Df K mg x st ps) (S : FnScope N ps (defScope st)) (hn : ps.length ≤ N.length)
    (hb : ∀ (f : Addr) (cdv : Value) (A : Around) (outer : List Env) (s : Shared) (H : Hp) (E : XK), Room k (A.deeper (envOfC x (defScope st) s.heap.objs.size f cdv)) →
      PSs (cxOf CX0 P w K mg base N x (defScope st) f cdv A outer s H E).nox (defBody st) (tUS K ca n F)) : Cu P w K mg base ca x ps (k + 1) n (runU ps.length N.length F) := by
  obtain ⟨fa, fd, FD, hm, hb'⟩ := d.ex
  refine ⟨fa, fd, FD.ok S (fun vs H Q E h => ?_) (fun cdv A outer s H vs Q E hr h => ?_), hm, FD.kp, hb'⟩
  · obtain ⟨G, u, ws, ds, m, Pp, rfl, _, _, _, r, ⟨hl, _⟩, _⟩ := h
    rw [List.length_cons, r.length]
    exact hl
  · obtain ⟨G, u, ws, ds, m, Pp, rfl, le, U, hm, r, ⟨hl, hF⟩, k⟩ := h
    refine ⟨_, (hb fa cdv A outer s H E hr).nox, ?_⟩
    rw [← hl] at hF
    exact ⟨G, u, m, _, fun _ => False, Pp, start_U le r (by omega), U, rfl, hm, hF, fun _ _ _ _ h => h.elim, fun d v H' G' h g U' r' => k d v H' G' h g U' r'⟩
theorem Cu.imp {x : Str} {ps : List Str} {k n : Nat} {A B : List D → (D → Prop) → Prop} (c : Cu P w K mg base ca x ps k n A) (h : ∀ ds P, B ds P → A ds P) : Cu P w K mg base ca x ps k n B := by
  obtain ⟨fa, fd, FO, r⟩ := c.ex
  refine ⟨fa, fd, ?_, r⟩
  exact FnOk.imp FO fun vs H Q E ⟨G, u, ws, ds, m, Pp, a, b, c, d, e, f, g⟩ => ⟨G, u, ws, ds, m, Pp, a, b, c, d, e, h _ _ f, g⟩
end
end DL
/-! _law_take, by hand. -/
namespace DL
open PySem PySem.Spec PyProof.Rows L2
structure Ev2 (K : PySem.W.Frag) (mg : Str → Option Value) : Prop where
  d_box : Df K mg "_law_box" (top 80) ["_law_script", "_law_k"]
  d_take : Df K mg "_law_take" (top 81) ["_law_urn", "_law_low_so"]
  d_cells : Df K mg "_law_cells" (top 82) ["_law_script", "_law_top"]
  d_of : Df K mg "_law_of" (top 83) ["_law_urn", "_law_some_so"]
  d_lot : Df K mg "_law_lot" (top 85) ["_law_urn"]
  d_stride : Df K mg "_law_stride" (top 86) ["_law_urn", "_law_sorts_so"]
  d_line : Df K mg "_law_plain_line" (top 87) ["_law_urn", "_law_most_so"]
  d_right : Df K mg "_law_right" (top 100) ["_law_urn"]
  d_law : Df K mg "law" (top 101) ["_law_script"]
section
variable {P : Program} {w : World} {K : PySem.W.Frag} {mg : Str → Option Value} {base : Heap} {ca : Nat → Addr}
def A_take : List D → (D → Prop) → Prop := fun ds P => ∃ low : Int, ds = [.int low] ∧ 0 < low ∧ low < 1000000 ∧ ∀ i, 0 ≤ i → i < low → P (.int i)
theorem sc_take : FnScope ["_law_urn", "_law_low_so", "_law_drawn", "_law_once", "_law_far", "_law_twice"] ["_law_urn", "_law_low_so"] (defScope (top 81)) := ⟨rfl, rfl, rfl, by decide +kernel, rfl, by decide +kernel, by decide +kernel⟩
theorem rd_ix {σ : L2.St} {H : Hp} {Q : VK} {u : Addr} {xs : List V} {j : Int} {v : V} (hu : σ[0]? = some (some (.ref u))) (hH : H u = some (.lst xs)) (hj : atI xs j = some v) (q : Q v H) : tOp (rIxL K) (tVar 0) (tC (.int j)) σ H Q := ⟨_, hu, u, xs, j, v, rfl, rfl, SqL.of hH, hj, q⟩
theorem c_take (V1 : Ev P w K mg base ca) (V2 : Ev2 K mg) : Cu P w K mg base ca "_law_take" ["_law_urn", "_law_low_so"] 1 1 A_take := by
  obtain ⟨fa, fd, FD, hm, hb'⟩ := V2.d_take.ex
  refine ⟨fa, fd, FD.ok sc_take (fun vs H Q E h => ?_) (fun cdv A outer s H vs Q E hr h => ?_), hm, FD.kp, hb'⟩
  · obtain ⟨G, u, ws, ds, m, Pp, rfl, _, _, _, r, ⟨low, rfl, _⟩, _⟩ := h
    obtain ⟨v, rfl, _⟩ := reps1 r
    rfl
  · obtain ⟨G, u, ws, ds, m, Pp, rfl, le, U, hm', r, ⟨low, rfl, l0, l1, hP⟩, k⟩ := h
    obtain ⟨v, rfl, rv⟩ := reps1 r
    have ev := rv.intI
    subst ev
    have nd := sc_take.nd
    obtain ⟨a, b, c, hH, c0, c1⟩ := U
    have fin : ∀ (i : Int) (H' : Hp) (xs : List L2.V), 0 ≤ i → i < low → H' = upd H u (.lst xs) → Ur H' u (m + 1) → Q (.int i) H' := fun i H' xs h1 h2 e U' => by
      subst e
      exact k (.int i) _ _ G (hP i h1 h2) (by rw [cut_put]; exact Gr.refl le) U' (.int i)
    refine ⟨_, PSs.nox (pss_cons (ps_if (pt_cmpR op_gt (pe_ix ix_list (pv 0) pe_int (fun _ _ => rfl)) pe_int (nomark _))
          (pss_cons (ps_set (i := 2) nd rfl (.inl rfl) (pe_op op_mod (pe_callTy call_int1 (by rfl) V1.B.int (by decide +kernel) (pa_cons (pe_ix ix_list (pv 0) pe_int (fun _ _ => rfl)) pa_nil)) (pv 1)))
          (pss_cons (ps_asg (pe_op op_fdiv (pe_ix ix_list (pv 0) pe_int (fun _ _ => rfl)) (pv 1)) (pg_sub (pv 0) pe_int set_list))
          (pss_cons (ps_ret (pv 2)) pss_nil))) pss_nil)
        (pss_cons (ps_asg (pe_op op_add (pe_ix ix_list (pv 0) pe_int (fun _ _ => rfl)) pe_int) (pg_sub (pv 0) pe_int set_list))
        (pss_cons (ps_set (i := 3) nd rfl (.inl rfl) (pe_op op_mod (pe_callTy call_int1 (by rfl) V1.B.int (by decide +kernel) (pa_cons (pe_op op_mul (pe_op op_add (pe_ix ix_list (pv 0) pe_int (fun _ _ => rfl)) (pe_op op_mul pe_int (pe_ix ix_list (pv 0) pe_int (fun _ _ => rfl)))) (pe_op op_add pe_int (pe_ix ix_list (pv 0) pe_int (fun _ _ => rfl)))) pa_nil)) pe_int))
        (pss_cons (ps_set (i := 4) nd rfl (.inl rfl) (pe_op op_add (pe_op op_mod (pe_callTy call_int1 (by rfl) V1.B.int (by decide +kernel) (pa_cons (pv 3) pa_nil)) pe_int) pe_int))
        (pss_cons (ps_set (i := 5) nd rfl (.inl rfl) (pe_op op_mod (pe_callTy call_int1 (by rfl) V1.B.int (by decide +kernel) (pa_cons (pe_op op_mul (pe_op op_add (pe_op op_add (pv 3) (pe_ix ix_list (pv 0) pe_int (fun _ _ => rfl))) (pe_op op_fdiv (pe_ix ix_list (pv 0) pe_int (fun _ _ => rfl)) pe_int)) (pv 4)) pa_nil)) pe_int))
        (pss_cons (ps_ret (pe_op op_mod (pe_callTy call_int1 (by rfl) V1.B.int (by decide +kernel) (pa_cons (pe_op op_fdiv (pe_op op_mod (pe_callTy call_int1 (by rfl) V1.B.int (by decide +kernel) (pa_cons (pe_op op_add (pe_op op_mul (pv 5) pe_int) (pv 3)) pa_nil)) pe_int) pe_int) pa_nil)) (pv 1))) pss_nil)))))), ?_⟩
    · refine rd_ix (xs := [.int a, .int b, .int c]) (j := 0) (v := .int a) rfl hH rfl ⟨a, 0, rfl, rfl, _, rfl, ?_⟩
      by_cases ha : (0 : Int) < a
      · rw [decide_eq_true ha]
        refine iteT ?_
        refine rd_ix (xs := [.int a, .int b, .int c]) (j := 0) (v := .int a) rfl hH rfl (.inl ⟨a, rfl, ?_⟩)
        refine ⟨.int low, rfl, a, low, rfl, rfl, l0, ?_⟩
        refine rd_ix (xs := [.int a, .int b, .int c]) (j := 0) (v := .int a) rfl hH rfl ⟨.int low, rfl, a, low, rfl, rfl, ⟨l0, by omega⟩, ?_⟩
        refine ⟨.ref u, rfl, u, [.int a, .int b, .int c], 0, 0, rfl, rfl, hH, rfl, ?_⟩
        refine ⟨.int (a % low), rfl, ?_⟩
        exact fin _ _ _ (Int.emod_nonneg _ (by omega)) (Int.emod_lt_of_pos _ l0) rfl ⟨_, b, c, upd_same, c0, by omega⟩
      · rw [decide_eq_false ha]
        refine iteF ?_
        refine rd_ix (xs := [.int a, .int b, .int c]) (j := 2) (v := .int c) rfl hH rfl ⟨c, 1, rfl, rfl, ?_⟩
        refine ⟨.ref u, rfl, u, [.int a, .int b, .int c], 2, 2, rfl, rfl, hH, rfl, ?_⟩
        have hm2 : m < 1000000 := by unfold LIMU at hm'; omega
        have h1 : upd H u (.lst ([.int a, .int b, .int c].set 2 (.int (c + 1)))) u = some (.lst [.int a, .int b, .int (c + 1)]) := upd_same
        generalize hH1 : upd H u (.lst ([.int a, .int b, .int c].set 2 (.int (c + 1)))) = H1 at h1 ⊢
        have fin1 : ∀ i : Int, 0 ≤ i → i < low → Q (.int i) H1 := fun i h2 h3 => fin i H1 _ h2 h3 hH1.symm ⟨a, b, c + 1, h1, by omega, by omega⟩
        refine rd_ix (xs := [.int a, .int b, .int (c + 1)]) (j := 1) (v := .int b) rfl h1 rfl ?_
        refine rd_ix (xs := [.int a, .int b, .int (c + 1)]) (j := 2) (v := .int (c + 1)) rfl h1 rfl ⟨48271, c + 1, rfl, rfl, .inl ⟨by decide, by decide⟩, b, 48271 * (c + 1), rfl, rfl, ?_⟩
        refine rd_ix (xs := [.int a, .int b, .int (c + 1)]) (j := 2) (v := .int (c + 1)) rfl h1 rfl ⟨39373, c + 1, rfl, rfl, _, _, rfl, rfl, .inr ⟨by omega, by omega⟩, .inl ⟨_, rfl, ?_⟩⟩
        refine ⟨_, 2147483647, rfl, rfl, (show (0 : Int) < 2147483647 by decide), ?_⟩
        dsimp only
        generalize ((b + 48271 * (c + 1)) * (39373 + (c + 1))) % 2147483647 = o
        refine ⟨.int o, rfl, .inl ⟨o, rfl, o, 40009, rfl, rfl, (show (0 : Int) < 40009 by decide), o % 40009, 7, rfl, rfl, ?_⟩⟩
        have f0 : 0 ≤ o % 40009 := Int.emod_nonneg _ (by decide)
        have f1 : o % 40009 < 40009 := Int.emod_lt_of_pos _ (by decide)
        dsimp only
        generalize o % 40009 = f at f0 f1 ⊢
        refine ⟨.int o, rfl, rd_ix (xs := [.int a, .int b, .int (c + 1)]) (j := 2) (v := .int (c + 1)) rfl h1 rfl ⟨o, c + 1, rfl, rfl, ?_⟩⟩
        refine rd_ix (xs := [.int a, .int b, .int (c + 1)]) (j := 1) (v := .int b) rfl h1 rfl ⟨b, 1000003, rfl, rfl, ⟨by decide, by decide⟩, _, _, rfl, rfl, .int (f + 7), rfl, _, f + 7, rfl, rfl, .inr ⟨by omega, by omega⟩, .inl ⟨_, rfl, _, 2147483629, rfl, rfl, (show (0 : Int) < 2147483629 by decide), ?_⟩⟩
        dsimp only
        generalize (o + (c + 1) + b / 1000003) * (f + 7) % 2147483629 = t
        refine ⟨.int t, rfl, t, 48271, rfl, rfl, .inr ⟨by decide, by decide⟩, .int o, rfl, _, o, rfl, rfl, .inl ⟨_, rfl, _, 2147483587, rfl, rfl, (show (0 : Int) < 2147483587 by decide), _, 64, rfl, rfl, ⟨by decide, by decide⟩, .inl ⟨_, rfl, ?_⟩⟩⟩
        exact ⟨.int low, rfl, _, low, rfl, rfl, l0, fin1 _ (Int.emod_nonneg _ (by omega)) (Int.emod_lt_of_pos _ l0)⟩
end
end DL
/-! Walks. Printed by gen2.py. -/
namespace DL
open PySem PySem.Spec PyProof.Rows L2
variable {P : Program} {w : World} {K : PySem.W.Frag} {mg : Str → Option Value} {base : Heap} {ca : Nat → Addr}
theorem sc_tupled : FnScope ["thing", "part"] ["thing"] (defScope (top 2)) := ⟨rfl, rfl, rfl, by decide +kernel, rfl, by decide +kernel, by decide +kernel⟩
def F_tupled : SF :=
  s_seq (s_ret (x_if (t_val (x_un dIsLT (x_var 0))) (x_none) (x_var 0)))
          (s_nil)
def R_tupled : List D → Option D := runD 1 2 F_tupled
theorem c_tupled (V : Ev P w K mg base ca) : Cl P w K mg base ca "tupled" ["thing"] 1 R_tupled :=
  Cl.mk' (N := ["thing", "part"]) V.d_tupled sc_tupled (by decide) (fun f cdv A outer s H E hr => by
    have nd : (["thing", "part"] : List Str).Nodup := sc_tupled.nd
    exact dss_cons (ds_ret (d_ifx (d_test (d_isLT V.isi (d_var (i := 0)))) (d_none) (d_var (i := 0))))
          (dss_nil))
theorem sc_set_of : FnScope ["things"] ["things"] (defScope (top 3)) := ⟨rfl, rfl, rfl, by decide +kernel, rfl, by decide +kernel, by decide +kernel⟩
def F_set_of : SF :=
  s_seq (s_ret (x_call b_tuple (a_cons (x_un dSortSet (x_var 0)) a_nil)))
          (s_nil)
def R_set_of : List D → Option D := runD 1 1 F_set_of
theorem c_set_of (V : Ev P w K mg base ca) : Cl P w K mg base ca "set_of" ["things"] 1 R_set_of :=
  Cl.mk' (N := ["things"]) V.d_set_of sc_set_of (by decide) (fun f cdv A outer s H E hr => by
    have nd : (["things"] : List Str).Nodup := sc_set_of.nd
    exact dss_cons (ds_ret (d_tuple rfl V.B.tuple (da_cons (d_sortSet rfl V.B.sorted V.B.set (d_var (i := 0))) da_nil)))
          (dss_nil))
theorem sc_number_in : FnScope ["text", "sign"] ["text"] (defScope (top 4)) := ⟨rfl, rfl, rfl, by decide +kernel, rfl, by decide +kernel, by decide +kernel⟩
def F_number_in : SF :=
  s_seq (s_if (t_or (t_val (x_bin dEq (x_var 0) (x_c (.str "")))) (t_not (t_val (x_call b_all (a_cons (x_lc (i_str (x_var 0)) [1] (g_name 1) t_yes (x_bin dInS (x_var 1) (x_c (.str "0123456789")))) a_nil))))) (s_seq (s_ret (x_c .non))
          (s_nil)) (s_nil))
          (s_seq (s_ret (x_if (t_and (t_val (x_bin dEq (x_bin dSubS (x_var 0) (x_c (.int 0))) (x_c (.str "0")))) (t_val (x_bin dNe (x_var 0) (x_c (.str "0"))))) (x_c .non) (x_un dIntS (x_var 0))))
          (s_nil))
def R_number_in : List D → Option D := runD 1 2 F_number_in
theorem c_number_in (V : Ev P w K mg base ca) : Cl P w K mg base ca "number_in" ["text"] 1 R_number_in :=
  Cl.mk' (N := ["text", "sign"]) V.d_number_in sc_number_in (by decide) (fun f cdv A outer s H E hr => by
    have nd : (["text", "sign"] : List Str).Nodup := sc_number_in.nd
    exact dss_cons (ds_if (PW.pt (dw_or (d_eqT hr.units (d_var (i := 0)) (d_str)) (dw_or1 (dt_not (d_test (d_all rfl rfl V.B.all (da_cons (d_lc (own := [("sign", 1)]) rfl nd (di_str (d_var (i := 0))) (blkOk_by (by kernel_rfl)) (fun _ _ _ _ _ => (dg_name (i := 1) nd)) (fun _ _ _ _ _ => dts_nil) (fun _ _ _ _ _ => (d_inS (d_var (i := 1)) (d_str)))) da_nil))))))) (dss_cons (ds_ret (d_non))
          (dss_nil)) (dss_nil))
          (dss_cons (ds_ret (d_ifx (PW.pt (dw_and (d_eqT hr.units (d_ixS (d_var (i := 0)) (d_int)) (d_str)) (dw_and1 (d_neT hr.units (d_var (i := 0)) (d_str))))) (d_non) (d_intS rfl V.B.int (d_var (i := 0)))))
          (dss_nil)))
theorem sc_is_name : FnScope ["thing", "sign"] ["thing"] (defScope (top 16)) := ⟨rfl, rfl, rfl, by decide +kernel, rfl, by decide +kernel, by decide +kernel⟩
def F_is_name : SF :=
  s_seq (s_if (t_or (t_not (t_val (x_un dIsStr (x_var 0)))) (t_not (t_val (x_chain dLt dLe (x_c (.int 0)) (x_call b_len (a_cons (x_var 0) a_nil)) (x_c (.int 8)))))) (s_seq (s_ret (x_c (.bl false)))
          (s_nil)) (s_nil))
          (s_seq (s_ret (x_call b_all (a_cons (x_lc (i_str (x_var 0)) [1] (g_name 1) t_yes (x_bin dInS (x_var 1) (x_c (.str "abcdefghijklmnopqrstuvwxyz")))) a_nil)))
          (s_nil))
def R_is_name : List D → Option D := runD 1 2 F_is_name
theorem c_is_name (V : Ev P w K mg base ca) : Cl P w K mg base ca "is_name" ["thing"] 1 R_is_name :=
  Cl.mk' (N := ["thing", "sign"]) V.d_is_name sc_is_name (by decide) (fun f cdv A outer s H E hr => by
    have nd : (["thing", "sign"] : List Str).Nodup := sc_is_name.nd
    exact dss_cons (ds_if (PW.pt (dw_or (dt_not (d_test (d_isStr V.isi (d_var (i := 0))))) (dw_or1 (dt_not (d_chainLtLeT (d_int) (d_len rfl V.B.len (da_cons (d_var (i := 0)) da_nil)) (d_gint V.g_LONGEST)))))) (dss_cons (ds_ret (d_bl))
          (dss_nil)) (dss_nil))
          (dss_cons (ds_ret (d_all rfl rfl V.B.all (da_cons (d_lc (own := [("sign", 1)]) rfl nd (di_str (d_var (i := 0))) (blkOk_by (by kernel_rfl)) (fun _ _ _ _ _ => (dg_name (i := 1) nd)) (fun _ _ _ _ _ => dts_nil) (fun _ _ _ _ _ => (d_inS (d_var (i := 1)) (d_gstr V.g_LETTERS)))) da_nil)))
          (dss_nil)))
theorem sc_names_in : FnScope ["text", "found", "name"] ["text"] (defScope (top 17)) := ⟨rfl, rfl, rfl, by decide +kernel, rfl, by decide +kernel, by decide +kernel⟩
def F_names_in : SF :=
  s_seq (s_set (g_name 1) (x_bin dSplit (x_var 0) (x_c (.str " "))))
          (s_seq (s_if (t_or (t_not (t_val (x_call b_all (a_cons (x_lc (i_seq (x_var 1)) [2] (g_name 2) t_yes (x_call R_is_name (a_cons (x_var 2) a_nil))) a_nil)))) (t_val (x_bin dNe (x_var 1) (x_un dSortSet (x_var 1))))) (s_seq (s_ret (x_c .non))
          (s_nil)) (s_nil))
          (s_seq (s_ret (x_call b_tuple (a_cons (x_var 1) a_nil)))
          (s_nil)))
def R_names_in : List D → Option D := runD 1 3 F_names_in
theorem c_names_in (V : Ev P w K mg base ca) : Cl P w K mg base ca "names_in" ["text"] 2 R_names_in :=
  Cl.mk' (N := ["text", "found", "name"]) V.d_names_in sc_names_in (by decide) (fun f cdv A outer s H E hr => by
    have nd : (["text", "found", "name"] : List Str).Nodup := sc_names_in.nd
    exact dss_cons (ds_set nd (d_split (d_var (i := 0)) (d_str)))
          (dss_cons (ds_if (PW.pt (dw_or (dt_not (d_test (d_all rfl rfl V.B.all (da_cons (d_lc (own := [("name", 2)]) rfl nd (di_seq (d_var (i := 1))) (blkOk_by (by kernel_rfl)) (fun _ _ _ _ _ => (dg_name (i := 2) nd)) (fun _ _ _ _ _ => dts_nil) (fun _ _ _ _ _ => (d_callC (c_is_name V) hr (by decide) (da_cons (d_var (i := 2)) da_nil)))) da_nil)))) (dw_or1 (d_neT hr.units (d_var (i := 1)) (d_sortSet rfl V.B.sorted V.B.set (d_var (i := 1))))))) (dss_cons (ds_ret (d_non))
          (dss_nil)) (dss_nil))
          (dss_cons (ds_ret (d_tuple rfl V.B.tuple (da_cons (d_var (i := 1)) da_nil)))
          (dss_nil))))
theorem sc_Labels_init : FnScope ["self", "names", "rest"] ["self", "names", "rest"] (defScope (mem 18 0)) := ⟨rfl, rfl, rfl, by decide +kernel, rfl, by decide +kernel, by decide +kernel⟩
def F_Labels_init : Rho → List D → Option (List D) :=
  (n_two (x_call R_set_of (a_cons (x_var 1) a_nil)) (x_var 2) (fun _ fs => some fs))
def R_Labels_init : List D → Option D := runI 0 3 3 F_Labels_init
theorem m_Labels_init (V : Ev P w K mg base ca) : ∀ dds ∈ [([.bl false] : List D), ([] : List D)], Mkr P w K mg base ca 0 "Labels" 2 R_Labels_init dds :=
  Mkr.mk' (N := ["self", "names", "rest"]) V.d_Labels_init sc_Labels_init (by decide) (fun f cdv A outer s H E hr => by
    have nd : (["self", "names", "rest"] : List Str).Nodup := sc_Labels_init.nd
    exact (ns_two rfl V.k0 V.n_own_names V.n_own_rest rfl rfl (pe_var (i := 0) rfl (by first | exact Or.inl rfl | exact Or.inr (Or.inl rfl) | exact Or.inr (Or.inr rfl))) (pe_var (i := 0) rfl (by first | exact Or.inl rfl | exact Or.inr (Or.inl rfl) | exact Or.inr (Or.inr rfl))) (d_callC (c_set_of V) hr (by decide) (da_cons (d_var (i := 1)) da_nil)) (d_var (i := 2)) n_nil))
theorem m_Labels1 (V : Ev P w K mg base ca) : Mkr P w K mg base ca 0 "Labels" 2 R_Labels_init [.bl false] := m_Labels_init V _ List.mem_cons_self
theorem m_Labels2 (V : Ev P w K mg base ca) : Mkr P w K mg base ca 0 "Labels" 2 R_Labels_init [] := m_Labels_init V _ (List.mem_cons_of_mem _ List.mem_cons_self)
theorem sc_Labels_of : FnScope ["text", "rest", "found"] ["text"] (defScope (mem 18 1)) := ⟨rfl, rfl, rfl, by decide +kernel, rfl, by decide +kernel, by decide +kernel⟩
def F_Labels_of : SF :=
  s_seq (s_if (t_val (x_bin dIn (x_var 0) (x_tup (a_cons (x_c (.str "-")) (a_cons (x_c (.str "*")) a_nil))))) (s_seq (s_ret (x_call (fun ds => R_Labels_init (ds ++ [])) (a_cons (x_tup a_nil) (a_cons (x_bin dEq (x_var 0) (x_c (.str "*"))) a_nil))))
          (s_nil)) (s_nil))
          (s_seq (s_set (g_name 1) (x_bin dStartswith (x_var 0) (x_c (.str "* - "))))
          (s_seq (s_set (g_name 2) (x_call R_names_in (a_cons (x_if (t_val (x_var 1)) (x_cutS (x_var 0) (o_some (x_call b_len (a_cons (x_c (.str "* - ")) a_nil))) o_none) (x_var 0)) a_nil)))
          (s_seq (s_if (t_val (x_bin dIsN' (x_var 2) (x_c .non))) (s_seq (s_never)
          (s_nil)) (s_nil))
          (s_seq (s_ret (x_call (fun ds => R_Labels_init (ds ++ [])) (a_cons (x_var 2) (a_cons (x_var 1) a_nil))))
          (s_nil)))))
def R_Labels_of : List D → Option D := runD 1 3 F_Labels_of
theorem c_Labels_of (V : Ev P w K mg base ca) : Sm P w K mg base ca "Labels" "of" 4 R_Labels_of :=
  Sm.mk' (N := ["text", "rest", "found"]) V.d_Labels_of sc_Labels_of (by decide) (fun f cdv A outer s H E hr => by
    have nd : (["text", "rest", "found"] : List Str).Nodup := sc_Labels_of.nd
    exact dss_cons (ds_if (d_inT (d_var (i := 0)) (d_tup (da_cons (d_gstr V.g_NOTHING_labels) (da_cons (d_gstr V.g_ALL) da_nil)))) (dss_cons (ds_ret (d_makeC (m_Labels2 V) hr (by decide) (da_cons (d_tup da_nil) (da_cons (d_eq hr.units (d_var (i := 0)) (d_gstr V.g_ALL)) da_nil))))
          (dss_nil)) (dss_nil))
          (dss_cons (ds_set nd (d_startswith (d_var (i := 0)) (d_gstr V.g_BUT)))
          (dss_cons (ds_set nd (d_callC (c_names_in V) hr (by decide) (da_cons (d_ifx (d_test (d_var (i := 1))) (d_cutS (d_var (i := 0)) (do_some (d_len rfl V.B.len (da_cons (d_gstr V.g_BUT) da_nil))) do_none) (d_var (i := 0))) da_nil)))
          (dss_cons (ds_if (d_isNT (d_var (i := 2)) (d_non)) (dss_cons (ds_never)
          (dss_nil)) (dss_nil))
          (dss_cons (ds_ret (d_makeC (m_Labels2 V) hr (by decide) (da_cons (d_var (i := 2)) (da_cons (d_var (i := 1)) da_nil))))
          (dss_nil))))))
theorem sc_Labels_names : FnScope ["self"] ["self"] (defScope (mem 18 2)) := ⟨rfl, rfl, rfl, by decide +kernel, rfl, by decide +kernel, by decide +kernel⟩
def F_Labels_names : SF :=
  s_seq (s_ret (x_un (dFld 0 0) (x_var 0)))
          (s_nil)
def R_Labels_names : List D → Option D := runD 1 1 F_Labels_names
theorem c_Labels_names (V : Ev P w K mg base ca) : Pp P w K mg base ca 0 "names" 1 R_Labels_names :=
  Pp.mk' (N := ["self"]) V.d_Labels_names sc_Labels_names (by decide) (fun f cdv A outer s H E hr => by
    have nd : (["self"] : List Str).Nodup := sc_Labels_names.nd
    exact dss_cons (ds_ret (d_fld (c := 0) (i := 0) rfl V.k0 V.n_own_names fld_own_names (d_var (i := 0))))
          (dss_nil))
theorem sc_Labels_rest : FnScope ["self"] ["self"] (defScope (mem 18 3)) := ⟨rfl, rfl, rfl, by decide +kernel, rfl, by decide +kernel, by decide +kernel⟩
def F_Labels_rest : SF :=
  s_seq (s_ret (x_un (dFld 0 1) (x_var 0)))
          (s_nil)
def R_Labels_rest : List D → Option D := runD 1 1 F_Labels_rest
theorem c_Labels_rest (V : Ev P w K mg base ca) : Pp P w K mg base ca 0 "rest" 1 R_Labels_rest :=
  Pp.mk' (N := ["self"]) V.d_Labels_rest sc_Labels_rest (by decide) (fun f cdv A outer s H E hr => by
    have nd : (["self"] : List Str).Nodup := sc_Labels_rest.nd
    exact dss_cons (ds_ret (d_fld (c := 0) (i := 1) rfl V.k0 V.n_own_rest fld_own_rest (d_var (i := 0))))
          (dss_nil))
theorem sc_is_step : FnScope ["kind", "what", "pair"] ["kind", "what"] (defScope (top 32)) := ⟨rfl, rfl, rfl, by decide +kernel, rfl, by decide +kernel, by decide +kernel⟩
def F_is_step : SF :=
  s_seq (s_if (t_val (x_bin dEq (x_var 0) (x_c (.str "cut")))) (s_seq (s_ret (x_bin dGe (x_var 1) (x_c (.int 1))))
          (s_nil)) (s_nil))
          (s_seq (s_if (t_val (x_bin dEq (x_var 0) (x_c (.str "rename")))) (s_never) (s_nil))
          (s_seq (s_ret (x_bin dIn (x_var 0) (x_tup (a_cons (x_c (.str "drop")) (a_cons (x_c (.str "unwrap")) a_nil)))))
          (s_nil)))
def R_is_step : List D → Option D := runD 2 3 F_is_step
theorem c_is_step (V : Ev P w K mg base ca) : Cl P w K mg base ca "is_step" ["kind", "what"] 1 R_is_step :=
  Cl.mk' (N := ["kind", "what", "pair"]) V.d_is_step sc_is_step (by decide) (fun f cdv A outer s H E hr => by
    have nd : (["kind", "what", "pair"] : List Str).Nodup := sc_is_step.nd
    exact dss_cons (ds_if (d_eqT hr.units (d_var (i := 0)) (d_gstr V.g_CUT)) (dss_cons (ds_ret (d_ge (d_var (i := 1)) (d_int)))
          (dss_nil)) (dss_nil))
          (dss_cons (ds_if (d_eqT hr.units (d_var (i := 0)) (d_gstr V.g_RENAME)) (dss_never) (dss_nil))
          (dss_cons (ds_ret (d_in (d_var (i := 0)) (d_tup (da_cons (d_gstr V.g_DROP) (da_cons (d_gstr V.g_UNWRAP) da_nil)))))
          (dss_nil))))
theorem sc_what_in : FnScope ["kind", "text"] ["kind", "text"] (defScope (top 34)) := ⟨rfl, rfl, rfl, by decide +kernel, rfl, by decide +kernel, by decide +kernel⟩
def F_what_in : SF :=
  s_seq (s_if (t_val (x_bin dEq (x_var 0) (x_c (.str "cut")))) (s_seq (s_ret (x_call R_number_in (a_cons (x_var 1) a_nil)))
          (s_nil)) (s_nil))
          (s_seq (s_if (t_val (x_bin dEq (x_var 0) (x_c (.str "rename")))) (s_never) (s_nil))
          (s_seq (s_ret (x_call R_Labels_of (a_cons (x_var 1) a_nil)))
          (s_nil)))
def R_what_in : List D → Option D := runD 2 2 F_what_in
theorem c_what_in (V : Ev P w K mg base ca) : Cl P w K mg base ca "what_in" ["kind", "text"] 5 R_what_in :=
  Cl.mk' (N := ["kind", "text"]) V.d_what_in sc_what_in (by decide) (fun f cdv A outer s H E hr => by
    have nd : (["kind", "text"] : List Str).Nodup := sc_what_in.nd
    exact dss_cons (ds_if (d_eqT hr.units (d_var (i := 0)) (d_gstr V.g_CUT)) (dss_cons (ds_ret (d_callC (c_number_in V) hr (by decide) (da_cons (d_var (i := 1)) da_nil)))
          (dss_nil)) (dss_nil))
          (dss_cons (ds_if (d_eqT hr.units (d_var (i := 0)) (d_gstr V.g_RENAME)) (dss_never) (dss_nil))
          (dss_cons (ds_ret (d_static (c_Labels_of V) hr (by decide) (da_cons (d_var (i := 1)) da_nil)))
          (dss_nil))))
theorem sc_Step_init : FnScope ["self", "kind", "what", "told", "pair"] ["self", "kind", "what"] (defScope (mem 35 0)) := ⟨rfl, rfl, rfl, by decide +kernel, rfl, by decide +kernel, by decide +kernel⟩
def F_Step_init : Rho → List D → Option (List D) :=
  (n_set 3 (x_call R_tupled (a_cons (x_var 2) a_nil)) (n_if (t_not (t_val (x_call R_is_step (a_cons (x_var 1) (a_cons (x_var 3) a_nil))))) (n_if (t_val (x_bin dEq (x_var 1) (x_c (.str "rename")))) (n_two (x_var 1) (x_var 3) (fun _ fs => some fs)))))
def R_Step_init : List D → Option D := runI 1 3 5 F_Step_init
theorem m_Step_init (V : Ev P w K mg base ca) : ∀ dds ∈ [([] : List D)], Mkr P w K mg base ca 1 "Step" 2 R_Step_init dds :=
  Mkr.mk' (N := ["self", "kind", "what", "told", "pair"]) V.d_Step_init sc_Step_init (by decide) (fun f cdv A outer s H E hr => by
    have nd : (["self", "kind", "what", "told", "pair"] : List Str).Nodup := sc_Step_init.nd
    exact (ns_set nd (d_callC (c_tupled V) hr (by decide) (da_cons (d_var (i := 2)) da_nil)) (ns_if (dt_not (d_test (d_callC (c_is_step V) hr (by decide) (da_cons (d_var (i := 1)) (da_cons (d_var (i := 3)) da_nil))))) (ns_if (d_eqT hr.units (d_var (i := 1)) (d_gstr V.g_RENAME)) (ns_two rfl V.k1 V.n_own_kind V.n_own_what rfl rfl (pe_var (i := 0) rfl (by first | exact Or.inl rfl | exact Or.inr (Or.inl rfl) | exact Or.inr (Or.inr rfl))) (pe_var (i := 0) rfl (by first | exact Or.inl rfl | exact Or.inr (Or.inl rfl) | exact Or.inr (Or.inr rfl))) (d_var (i := 1)) (d_var (i := 3)) n_nil)))))
theorem m_Step2 (V : Ev P w K mg base ca) : Mkr P w K mg base ca 1 "Step" 2 R_Step_init [] := m_Step_init V _ List.mem_cons_self
theorem sc_Step_of : FnScope ["text", "kind", "what"] ["text"] (defScope (mem 35 1)) := ⟨rfl, rfl, rfl, by decide +kernel, rfl, by decide +kernel, by decide +kernel⟩
def F_Step_of : SF :=
  s_seq (s_set (g_name 1) (x_bin dSub1 (x_bin dSplit (x_var 0) (x_c (.str " "))) (x_c (.int 0))))
          (s_seq (s_if (t_or (t_val (x_bin dNotIn (x_var 1) (x_tup (a_cons (x_c (.str "drop")) (a_cons (x_c (.str "unwrap")) (a_cons (x_c (.str "cut")) (a_cons (x_c (.str "rename")) a_nil))))))) (t_val (x_bin dEq (x_var 0) (x_var 1)))) (s_seq (s_never)
          (s_nil)) (s_nil))
          (s_seq (s_set (g_name 2) (x_call R_what_in (a_cons (x_var 1) (a_cons (x_cutS (x_var 0) (o_some (x_bin dAdd (x_call b_len (a_cons (x_var 1) a_nil)) (x_c (.int 1)))) o_none) a_nil))))
          (s_seq (s_if (t_or (t_val (x_bin dIsN' (x_var 2) (x_c .non))) (t_not (t_val (x_call R_is_step (a_cons (x_var 1) (a_cons (x_var 2) a_nil)))))) (s_seq (s_never)
          (s_nil)) (s_nil))
          (s_seq (s_ret (x_call (fun ds => R_Step_init (ds ++ [])) (a_cons (x_var 1) (a_cons (x_var 2) a_nil))))
          (s_nil)))))
def R_Step_of : List D → Option D := runD 1 3 F_Step_of
theorem c_Step_of (V : Ev P w K mg base ca) : Sm P w K mg base ca "Step" "of" 6 R_Step_of :=
  Sm.mk' (N := ["text", "kind", "what"]) V.d_Step_of sc_Step_of (by decide) (fun f cdv A outer s H E hr => by
    have nd : (["text", "kind", "what"] : List Str).Nodup := sc_Step_of.nd
    exact dss_cons (ds_set nd (d_ix (hu_of hr) (d_split (d_var (i := 0)) (d_str)) (d_int)))
          (dss_cons (ds_if (PW.pt (dw_or (d_notInT (d_var (i := 1)) (d_tup (da_cons (d_gstr V.g_DROP) (da_cons (d_gstr V.g_UNWRAP) (da_cons (d_gstr V.g_CUT) (da_cons (d_gstr V.g_RENAME) da_nil)))))) (dw_or1 (d_eqT hr.units (d_var (i := 0)) (d_var (i := 1)))))) (dss_cons (ds_never)
          (dss_nil)) (dss_nil))
          (dss_cons (ds_set nd (d_callC (c_what_in V) hr (by decide) (da_cons (d_var (i := 1)) (da_cons (d_cutS (d_var (i := 0)) (do_some (d_add (d_len rfl V.B.len (da_cons (d_var (i := 1)) da_nil)) (d_int))) do_none) da_nil))))
          (dss_cons (ds_if (PW.pt (dw_or (d_isNT (d_var (i := 2)) (d_non)) (dw_or1 (dt_not (d_test (d_callC (c_is_step V) hr (by decide) (da_cons (d_var (i := 1)) (da_cons (d_var (i := 2)) da_nil)))))))) (dss_cons (ds_never)
          (dss_nil)) (dss_nil))
          (dss_cons (ds_ret (d_makeC (m_Step2 V) hr (by decide) (da_cons (d_var (i := 1)) (da_cons (d_var (i := 2)) da_nil))))
          (dss_nil))))))
theorem sc_Step_kind : FnScope ["self"] ["self"] (defScope (mem 35 2)) := ⟨rfl, rfl, rfl, by decide +kernel, rfl, by decide +kernel, by decide +kernel⟩
def F_Step_kind : SF :=
  s_seq (s_ret (x_un (dFld 1 0) (x_var 0)))
          (s_nil)
def R_Step_kind : List D → Option D := runD 1 1 F_Step_kind
theorem c_Step_kind (V : Ev P w K mg base ca) : Pp P w K mg base ca 1 "kind" 1 R_Step_kind :=
  Pp.mk' (N := ["self"]) V.d_Step_kind sc_Step_kind (by decide) (fun f cdv A outer s H E hr => by
    have nd : (["self"] : List Str).Nodup := sc_Step_kind.nd
    exact dss_cons (ds_ret (d_fld (c := 1) (i := 0) rfl V.k1 V.n_own_kind fld_own_kind (d_var (i := 0))))
          (dss_nil))
theorem sc_Step_what : FnScope ["self"] ["self"] (defScope (mem 35 3)) := ⟨rfl, rfl, rfl, by decide +kernel, rfl, by decide +kernel, by decide +kernel⟩
def F_Step_what : SF :=
  s_seq (s_ret (x_un (dFld 1 1) (x_var 0)))
          (s_nil)
def R_Step_what : List D → Option D := runD 1 1 F_Step_what
theorem c_Step_what (V : Ev P w K mg base ca) : Pp P w K mg base ca 1 "what" 1 R_Step_what :=
  Pp.mk' (N := ["self"]) V.d_Step_what sc_Step_what (by decide) (fun f cdv A outer s H E hr => by
    have nd : (["self"] : List Str).Nodup := sc_Step_what.nd
    exact dss_cons (ds_ret (d_fld (c := 1) (i := 1) rfl V.k1 V.n_own_what fld_own_what (d_var (i := 0))))
          (dss_nil))
end DL
/-! Walks. Printed by gen2.py. -/
namespace DL
open PySem PySem.Spec PyProof.Rows L2
variable {P : Program} {w : World} {K : PySem.W.Frag} {mg : Str → Option Value} {base : Heap} {ca : Nat → Addr}
theorem sc_lesser : FnScope ["one", "other"] ["one", "other"] (defScope (top 39)) := ⟨rfl, rfl, rfl, by decide +kernel, rfl, by decide +kernel, by decide +kernel⟩
def F_lesser : SF :=
  s_seq (s_if (t_or (t_val (x_bin dIsN' (x_var 0) (x_c .non))) (t_val (x_bin dIsN' (x_var 1) (x_c .non)))) (s_seq (s_ret (x_if (t_val (x_bin dIsN' (x_var 0) (x_c .non))) (x_var 1) (x_var 0)))
          (s_nil)) (s_nil))
          (s_seq (s_ret (x_call b_min (a_cons (x_var 0) (a_cons (x_var 1) a_nil))))
          (s_nil))
def R_lesser : List D → Option D := runD 2 2 F_lesser
theorem c_lesser (V : Ev P w K mg base ca) : Cl P w K mg base ca "lesser" ["one", "other"] 1 R_lesser :=
  Cl.mk' (N := ["one", "other"]) V.d_lesser sc_lesser (by decide) (fun f cdv A outer s H E hr => by
    have nd : (["one", "other"] : List Str).Nodup := sc_lesser.nd
    exact dss_cons (ds_if (PW.pt (dw_or (d_isNT (d_var (i := 0)) (d_non)) (dw_or1 (d_isNT (d_var (i := 1)) (d_non))))) (dss_cons (ds_ret (d_ifx (d_isNT (d_var (i := 0)) (d_non)) (d_var (i := 1)) (d_var (i := 0))))
          (dss_nil)) (dss_nil))
          (dss_cons (ds_ret (d_min rfl rfl V.B.min (da_cons (d_var (i := 0)) (da_cons (d_var (i := 1)) da_nil))))
          (dss_nil)))
theorem sc_is_most : FnScope ["room", "most"] ["room", "most"] (defScope (top 40)) := ⟨rfl, rfl, rfl, by decide +kernel, rfl, by decide +kernel, by decide +kernel⟩
def F_is_most : SF :=
  s_seq (s_ret (x_or (x_bin dIsN' (x_var 1) (x_c .non)) (x_and (x_bin dIsNot' (x_var 0) (x_c .non)) (x_bin dLe (x_var 0) (x_var 1)))))
          (s_nil)
def R_is_most : List D → Option D := runD 2 2 F_is_most
theorem c_is_most (V : Ev P w K mg base ca) : Cl P w K mg base ca "is_most" ["room", "most"] 1 R_is_most :=
  Cl.mk' (N := ["room", "most"]) V.d_is_most sc_is_most (by decide) (fun f cdv A outer s H E hr => by
    have nd : (["room", "most"] : List Str).Nodup := sc_is_most.nd
    exact dss_cons (ds_ret (d_or (d_isN (d_var (i := 1)) (d_non)) (d_one (d_and (d_isNot (d_var (i := 0)) (d_non)) (d_one (d_le (d_var (i := 0)) (d_var (i := 1))))))))
          (dss_nil))
theorem sc_entry_in : FnScope ["form", "name", "own", "final", "room", "left"] ["form", "name"] (defScope (top 41)) := ⟨rfl, rfl, rfl, by decide +kernel, rfl, by decide +kernel, by decide +kernel⟩
def F_entry_in : SF :=
  s_seq (s_for (i_seq (x_bin dSub1 (x_var 0) (x_c (.int 0)))) (g_tup 3 (g_cons (g_name 2) (g_cons (g_name 3) (g_cons (g_name 4) g_nil)))) (s_seq (s_if (t_val (x_bin dEq (x_var 2) (x_var 1))) (s_seq (s_ret (x_tup (a_cons (x_var 3) (a_cons (x_var 4) a_nil))))
          (s_nil)) (s_nil))
          (s_nil)))
          (s_seq (s_set (g_tup 2 (g_cons (g_name 5) (g_cons (g_name 4) g_nil))) (x_bin dSub1 (x_var 0) (x_c (.int 1))))
          (s_seq (s_ret (x_tup (a_cons (x_if (t_val (x_var 5)) (x_var 1) (x_c .non)) (a_cons (x_var 4) a_nil))))
          (s_nil)))
def R_entry_in : List D → Option D := runD 2 6 F_entry_in
theorem c_entry_in (V : Ev P w K mg base ca) : Cl P w K mg base ca "entry_in" ["form", "name"] 1 R_entry_in :=
  Cl.mk' (N := ["form", "name", "own", "final", "room", "left"]) V.d_entry_in sc_entry_in (by decide) (fun f cdv A outer s H E hr => by
    have nd : (["form", "name", "own", "final", "room", "left"] : List Str).Nodup := sc_entry_in.nd
    exact dss_cons (ds_for PassesOwn.never rfl (di_seq (d_ix (hu_of hr) (d_var (i := 0)) (d_int))) (dg_tup rfl (dg_cons (dg_name (i := 2) nd) (dg_cons (dg_name (i := 3) nd) (dg_cons (dg_name (i := 4) nd) dg_nil)))) (dss_cons (ds_if (d_eqT hr.units (d_var (i := 2)) (d_var (i := 1))) (dss_cons (ds_ret (d_tup (da_cons (d_var (i := 3)) (da_cons (d_var (i := 4)) da_nil))))
          (dss_nil)) (dss_nil))
          (dss_nil)))
          (dss_cons (ds_asg (d_ix (hu_of hr) (d_var (i := 0)) (d_int)) (dg_tup rfl (dg_cons (dg_name (i := 5) nd) (dg_cons (dg_name (i := 4) nd) dg_nil))))
          (dss_cons (ds_ret (d_tup (da_cons (d_ifx (d_test (d_var (i := 5))) (d_var (i := 1)) (d_non)) (da_cons (d_var (i := 4)) da_nil))))
          (dss_nil))))
theorem sc_final_in : FnScope ["form", "name"] ["form", "name"] (defScope (top 42)) := ⟨rfl, rfl, rfl, by decide +kernel, rfl, by decide +kernel, by decide +kernel⟩
def F_final_in : SF :=
  s_seq (s_ret (x_bin dSub1 (x_call R_entry_in (a_cons (x_var 0) (a_cons (x_var 1) a_nil))) (x_c (.int 0))))
          (s_nil)
def R_final_in : List D → Option D := runD 2 2 F_final_in
theorem c_final_in (V : Ev P w K mg base ca) : Cl P w K mg base ca "final_in" ["form", "name"] 2 R_final_in :=
  Cl.mk' (N := ["form", "name"]) V.d_final_in sc_final_in (by decide) (fun f cdv A outer s H E hr => by
    have nd : (["form", "name"] : List Str).Nodup := sc_final_in.nd
    exact dss_cons (ds_ret (d_ix (hu_of hr) (d_callC (c_entry_in V) hr (by decide) (da_cons (d_var (i := 0)) (da_cons (d_var (i := 1)) da_nil))) (d_int)))
          (dss_nil))
theorem sc_room_in : FnScope ["form", "name"] ["form", "name"] (defScope (top 43)) := ⟨rfl, rfl, rfl, by decide +kernel, rfl, by decide +kernel, by decide +kernel⟩
def F_room_in : SF :=
  s_seq (s_ret (x_bin dSub1 (x_call R_entry_in (a_cons (x_var 0) (a_cons (x_var 1) a_nil))) (x_c (.int 1))))
          (s_nil)
def R_room_in : List D → Option D := runD 2 2 F_room_in
theorem c_room_in (V : Ev P w K mg base ca) : Cl P w K mg base ca "room_in" ["form", "name"] 2 R_room_in :=
  Cl.mk' (N := ["form", "name"]) V.d_room_in sc_room_in (by decide) (fun f cdv A outer s H E hr => by
    have nd : (["form", "name"] : List Str).Nodup := sc_room_in.nd
    exact dss_cons (ds_ret (d_ix (hu_of hr) (d_callC (c_entry_in V) hr (by decide) (da_cons (d_var (i := 0)) (da_cons (d_var (i := 1)) da_nil))) (d_int)))
          (dss_nil))
theorem sc_form_with : FnScope ["table", "rest", "left", "room", "rows", "final", "own", "name"] ["table", "rest"] (defScope (top 44)) := ⟨rfl, rfl, rfl, by decide +kernel, rfl, by decide +kernel, by decide +kernel⟩
def F_form_with : SF :=
  s_seq (s_set (g_tup 2 (g_cons (g_name 2) (g_cons (g_name 3) g_nil))) (x_var 1))
          (s_seq (s_if (t_and (t_not (t_val (x_var 2))) (t_val (x_call b_all (a_cons (x_lc (i_dic 0 true) [5, 6] (g_tup 2 (g_cons (g_name 5) (g_cons (g_name 6) g_nil))) t_yes (x_bin dIsN' (x_var 5) (x_c .non))) a_nil)))) (s_seq (s_ret (x_c D_NOTHING_rooms))
          (s_nil)) (s_nil))
          (s_seq (s_set (g_name 4) (x_lc (i_seq (x_un dSortKeys (x_var 0))) [7] (g_name 7) (t_val (x_bin dNe (x_bin dSub1 (x_var 0) (x_var 7)) (x_tup (a_cons (x_if (t_val (x_var 2)) (x_var 7) (x_c .non)) (a_cons (x_var 3) a_nil))))) (x_var 7)))
          (s_seq (s_ret (x_tup (a_cons (x_call b_tuple (a_cons (x_lc (i_seq (x_var 4)) [7] (g_name 7) t_yes (x_tup (a_cons (x_var 7) (a_star (x_bin dSub1 (x_var 0) (x_var 7)) a_nil)))) a_nil)) (a_cons (x_var 1) a_nil))))
          (s_nil))))
def R_form_with : List D → Option D := runD 2 8 F_form_with
theorem c_form_with (V : Ev P w K mg base ca) : Cl P w K mg base ca "form_with" ["table", "rest"] 1 R_form_with :=
  Cl.mk' (N := ["table", "rest", "left", "room", "rows", "final", "own", "name"]) V.d_form_with sc_form_with (by decide) (fun f cdv A outer s H E hr => by
    have nd : (["table", "rest", "left", "room", "rows", "final", "own", "name"] : List Str).Nodup := sc_form_with.nd
    exact dss_cons (ds_asg (d_var (i := 1)) (dg_tup rfl (dg_cons (dg_name (i := 2) nd) (dg_cons (dg_name (i := 3) nd) dg_nil))))
          (dss_cons (ds_if (PW.pt (dw_and (dt_not (d_test (d_var (i := 2)))) (dw_and1 (d_test (d_all rfl rfl V.B.all (da_cons (d_lcK (own := [("final", 5), ("own", 6)]) rfl nd (di_vals (pe_var (i := 0) rfl (by first | exact Or.inl rfl | exact Or.inr (Or.inl rfl) | exact Or.inr (Or.inr rfl)))) (blkOk_by (by kernel_rfl)) (fun _ _ _ _ _ => (dg_tup rfl (dg_cons (dg_name (i := 5) nd) (dg_cons (dg_name (i := 6) nd) dg_nil)))) (fun _ _ _ _ _ => dts_nil) (fun _ _ _ _ _ => (d_isN (d_var (i := 5)) (d_non)))) da_nil)))))) (dss_cons (ds_ret (d_gval V.g_NOTHING_rooms))
          (dss_nil)) (dss_nil))
          (dss_cons (ds_setLc (i := 4) (own := [("name", 7)]) rfl nd rfl rfl (sw_true rfl rfl rfl (by decide +kernel)) (di_seq (d_sortKeys rfl V.B.sorted (d_var (i := 0)))) (blkOk_by (by kernel_rfl)) (fun _ _ _ _ _ => (dg_name (i := 7) nd)) (fun _ _ _ _ _ => dts_one (d_neT hr.units (d_ix (hu_of hr) (d_var (i := 0)) (d_var (i := 7))) (d_tup (da_cons (d_ifx (d_test (d_var (i := 2))) (d_var (i := 7)) (d_non)) (da_cons (d_var (i := 3)) da_nil))))) (fun _ _ _ _ _ => (d_var (i := 7))))
          (dss_cons (ds_ret (d_tup (da_cons (d_tuple rfl V.B.tuple (da_cons (d_lc (own := [("name", 7)]) rfl nd (di_seq (d_var (i := 4))) (blkOk_by (by kernel_rfl)) (fun _ _ _ _ _ => (dg_name (i := 7) nd)) (fun _ _ _ _ _ => dts_nil) (fun _ _ _ _ _ => (d_tup (da_cons (d_var (i := 7)) (da_star (d_ix (hu_of hr) (d_var (i := 0)) (d_var (i := 7))) da_nil))))) da_nil)) (da_cons (d_var (i := 1)) da_nil))))
          (dss_nil)))))
theorem sc_names_told : FnScope ["form", "name", "final", "room"] ["form"] (defScope (top 45)) := ⟨rfl, rfl, rfl, by decide +kernel, rfl, by decide +kernel, by decide +kernel⟩
def F_names_told : SF :=
  s_seq (s_ret (x_bin dAdd (x_lc (i_seq (x_bin dSub1 (x_var 0) (x_c (.int 0)))) [1, 2, 3] (g_tup 3 (g_cons (g_name 1) (g_cons (g_name 2) (g_cons (g_name 3) g_nil)))) t_yes (x_var 1)) (x_lc (i_seq (x_bin dSub1 (x_var 0) (x_c (.int 0)))) [1, 2, 3] (g_tup 3 (g_cons (g_name 1) (g_cons (g_name 2) (g_cons (g_name 3) g_nil)))) (t_val (x_bin dIsNot' (x_var 2) (x_c .non))) (x_var 2))))
          (s_nil)
def R_names_told : List D → Option D := runD 1 4 F_names_told
theorem c_names_told (V : Ev P w K mg base ca) : Cl P w K mg base ca "names_told" ["form"] 1 R_names_told :=
  Cl.mk' (N := ["form", "name", "final", "room"]) V.d_names_told sc_names_told (by decide) (fun f cdv A outer s H E hr => by
    have nd : (["form", "name", "final", "room"] : List Str).Nodup := sc_names_told.nd
    exact dss_cons (ds_ret (d_add (d_lc (own := [("name", 1), ("final", 2), ("room", 3)]) rfl nd (di_seq (d_ix (hu_of hr) (d_var (i := 0)) (d_int))) (blkOk_by (by kernel_rfl)) (fun _ _ _ _ _ => (dg_tup rfl (dg_cons (dg_name (i := 1) nd) (dg_cons (dg_name (i := 2) nd) (dg_cons (dg_name (i := 3) nd) dg_nil))))) (fun _ _ _ _ _ => dts_nil) (fun _ _ _ _ _ => (d_var (i := 1)))) (d_lc (own := [("name", 1), ("final", 2), ("room", 3)]) rfl nd (di_seq (d_ix (hu_of hr) (d_var (i := 0)) (d_int))) (blkOk_by (by kernel_rfl)) (fun _ _ _ _ _ => (dg_tup rfl (dg_cons (dg_name (i := 1) nd) (dg_cons (dg_name (i := 2) nd) (dg_cons (dg_name (i := 3) nd) dg_nil))))) (fun _ _ _ _ _ => dts_one (d_isNotT (d_var (i := 2)) (d_non))) (fun _ _ _ _ _ => (d_var (i := 2))))))
          (dss_nil))
theorem sc_height_in : FnScope ["form", "left", "room", "rooms", "name", "final", "own"] ["form"] (defScope (top 46)) := ⟨rfl, rfl, rfl, by decide +kernel, rfl, by decide +kernel, by decide +kernel⟩
def F_height_in : SF :=
  s_seq (s_set (g_tup 2 (g_cons (g_name 1) (g_cons (g_name 2) g_nil))) (x_bin dSub1 (x_var 0) (x_c (.int 1))))
          (s_seq (s_if (t_val (x_var 1)) (s_seq (s_ret (x_var 2))
          (s_nil)) (s_nil))
          (s_seq (s_set (g_name 3) (x_lc (i_seq (x_bin dSub1 (x_var 0) (x_c (.int 0)))) [4, 5, 6] (g_tup 3 (g_cons (g_name 4) (g_cons (g_name 5) (g_cons (g_name 6) g_nil)))) (t_val (x_bin dIsNot' (x_var 5) (x_c .non))) (x_var 6)))
          (s_seq (s_ret (x_if (t_val (x_bin dGt (x_call b_len (a_cons (x_var 3) a_nil)) (x_c (.int 0)))) (x_bin dSub1 (x_var 3) (x_c (.int 0))) (x_c (.int 0))))
          (s_nil))))
def R_height_in : List D → Option D := runD 1 7 F_height_in
theorem c_height_in (V : Ev P w K mg base ca) : Cl P w K mg base ca "height_in" ["form"] 1 R_height_in :=
  Cl.mk' (N := ["form", "left", "room", "rooms", "name", "final", "own"]) V.d_height_in sc_height_in (by decide) (fun f cdv A outer s H E hr => by
    have nd : (["form", "left", "room", "rooms", "name", "final", "own"] : List Str).Nodup := sc_height_in.nd
    exact dss_cons (ds_asg (d_ix (hu_of hr) (d_var (i := 0)) (d_int)) (dg_tup rfl (dg_cons (dg_name (i := 1) nd) (dg_cons (dg_name (i := 2) nd) dg_nil))))
          (dss_cons (ds_if (d_test (d_var (i := 1))) (dss_cons (ds_ret (d_var (i := 2)))
          (dss_nil)) (dss_nil))
          (dss_cons (ds_setLc (i := 3) (own := [("name", 4), ("final", 5), ("own", 6)]) rfl nd rfl rfl (sw_true rfl rfl rfl (by decide +kernel)) (di_seq (d_ix (hu_of hr) (d_var (i := 0)) (d_int))) (blkOk_by (by kernel_rfl)) (fun _ _ _ _ _ => (dg_tup rfl (dg_cons (dg_name (i := 4) nd) (dg_cons (dg_name (i := 5) nd) (dg_cons (dg_name (i := 6) nd) dg_nil))))) (fun _ _ _ _ _ => dts_one (d_isNotT (d_var (i := 5)) (d_non))) (fun _ _ _ _ _ => (d_var (i := 6))))
          (dss_cons (ds_ret (d_ifx (d_gtT (d_len rfl V.B.len (da_cons (d_var (i := 3)) da_nil)) (d_int)) (d_ix (hu_of hr) (d_var (i := 3)) (d_int)) (d_int)))
          (dss_nil)))))
theorem sc_form_of_step : FnScope ["step", "room", "name", "final"] ["step"] (defScope (top 49)) := ⟨rfl, rfl, rfl, by decide +kernel, rfl, by decide +kernel, by decide +kernel⟩
def F_form_of_step : SF :=
  s_seq (s_if (t_val (x_bin dEq (x_un (dProp 1 R_Step_kind) (x_var 0)) (x_c (.str "cut")))) (s_seq (s_ret (x_tup (a_cons (x_tup a_nil) (a_cons (x_tup (a_cons (x_c (.bl true)) (a_cons (x_bin dSub (x_un (dProp 1 R_Step_what) (x_var 0)) (x_c (.int 1))) a_nil))) a_nil))))
          (s_nil)) (s_nil))
          (s_seq (s_if (t_val (x_bin dEq (x_un (dProp 1 R_Step_kind) (x_var 0)) (x_c (.str "rename")))) (s_never) (s_nil))
          (s_seq (s_set (g_name 1) (x_if (t_val (x_bin dEq (x_un (dProp 1 R_Step_kind) (x_var 0)) (x_c (.str "drop")))) (x_c (.int 0)) (x_c .non)))
          (s_seq (s_if (t_val (x_un (dProp 0 R_Labels_rest) (x_un (dProp 1 R_Step_what) (x_var 0)))) (s_seq (s_ret (x_call R_form_with (a_cons (x_dc (i_seq (x_un (dProp 0 R_Labels_names) (x_un (dProp 1 R_Step_what) (x_var 0)))) [2] (g_name 2) (x_var 2) (x_tup (a_cons (x_var 2) (a_cons (x_c .non) a_nil)))) (a_cons (x_tup (a_cons (x_c (.bl false)) (a_cons (x_var 1) a_nil))) a_nil))))
          (s_nil)) (s_nil))
          (s_seq (s_ret (x_call R_form_with (a_cons (x_dc (i_seq (x_un (dProp 0 R_Labels_names) (x_un (dProp 1 R_Step_what) (x_var 0)))) [2] (g_name 2) (x_var 2) (x_tup (a_cons (x_c .non) (a_cons (x_var 1) a_nil)))) (a_cons (x_tup (a_cons (x_c (.bl true)) (a_cons (x_c .non) a_nil))) a_nil))))
          (s_nil)))))
def R_form_of_step : List D → Option D := runD 1 4 F_form_of_step
theorem c_form_of_step (V : Ev P w K mg base ca) : Cl P w K mg base ca "form_of_step" ["step"] 3 R_form_of_step :=
  Cl.mk' (N := ["step", "room", "name", "final"]) V.d_form_of_step sc_form_of_step (by decide) (fun f cdv A outer s H E hr => by
    have nd : (["step", "room", "name", "final"] : List Str).Nodup := sc_form_of_step.nd
    exact dss_cons (ds_if (d_eqT hr.units (d_propC (c_Step_kind V) hr (by decide) (d_var (i := 0))) (d_str)) (dss_cons (ds_ret (d_tup (da_cons (d_tup da_nil) (da_cons (d_tup (da_cons (d_bl) (da_cons (d_sub (d_propC (c_Step_what V) hr (by decide) (d_var (i := 0))) (d_int)) da_nil))) da_nil))))
          (dss_nil)) (dss_nil))
          (dss_cons (ds_if (d_eqT hr.units (d_propC (c_Step_kind V) hr (by decide) (d_var (i := 0))) (d_str)) (dss_never) (dss_nil))
          (dss_cons (ds_set nd (d_ifx (d_eqT hr.units (d_propC (c_Step_kind V) hr (by decide) (d_var (i := 0))) (d_str)) (d_int) (d_non)))
          (dss_cons (ds_if (d_test (d_propC (c_Labels_rest V) hr (by decide) (d_propC (c_Step_what V) hr (by decide) (d_var (i := 0))))) (dss_cons (ds_ret (d_callC (c_form_with V) hr (by decide) (da_cons (d_dc (own := [("name", 2)]) rfl nd (di_seq (d_propC (c_Labels_names V) hr (by decide) (d_propC (c_Step_what V) hr (by decide) (d_var (i := 0))))) (blkOk_by (by kernel_rfl)) (fun _ _ _ _ _ => (dg_name (i := 2) nd)) (fun _ _ _ _ _ => (d_var (i := 2))) (fun _ _ _ _ _ => (d_tup (da_cons (d_var (i := 2)) (da_cons (d_non) da_nil))))) (da_cons (d_tup (da_cons (d_bl) (da_cons (d_var (i := 1)) da_nil))) da_nil))))
          (dss_nil)) (dss_nil))
          (dss_cons (ds_ret (d_callC (c_form_with V) hr (by decide) (da_cons (d_dc (own := [("name", 2)]) rfl nd (di_seq (d_propC (c_Labels_names V) hr (by decide) (d_propC (c_Step_what V) hr (by decide) (d_var (i := 0))))) (blkOk_by (by kernel_rfl)) (fun _ _ _ _ _ => (dg_name (i := 2) nd)) (fun _ _ _ _ _ => (d_var (i := 2))) (fun _ _ _ _ _ => (d_tup (da_cons (d_non) (da_cons (d_var (i := 1)) da_nil))))) (da_cons (d_tup (da_cons (d_bl) (da_cons (d_non) da_nil))) da_nil))))
          (dss_nil))))))
theorem sc_entry_behind : FnScope ["one", "other", "name", "final", "room", "later", "more"] ["one", "other", "name"] (defScope (top 50)) := ⟨rfl, rfl, rfl, by decide +kernel, rfl, by decide +kernel, by decide +kernel⟩
def F_entry_behind : SF :=
  s_seq (s_set (g_tup 2 (g_cons (g_name 3) (g_cons (g_name 4) g_nil))) (x_call R_entry_in (a_cons (x_var 0) (a_cons (x_var 2) a_nil))))
          (s_seq (s_if (t_val (x_bin dIsN' (x_var 3) (x_c .non))) (s_seq (s_ret (x_tup (a_cons (x_c .non) (a_cons (x_var 4) a_nil))))
          (s_nil)) (s_nil))
          (s_seq (s_set (g_tup 2 (g_cons (g_name 5) (g_cons (g_name 6) g_nil))) (x_call R_entry_in (a_cons (x_var 1) (a_cons (x_var 3) a_nil))))
          (s_seq (s_ret (x_tup (a_cons (x_var 5) (a_cons (x_call R_lesser (a_cons (x_call R_height_in (a_cons (x_var 0) a_nil)) (a_cons (x_var 6) a_nil))) a_nil))))
          (s_nil))))
def R_entry_behind : List D → Option D := runD 3 7 F_entry_behind
theorem c_entry_behind (V : Ev P w K mg base ca) : Cl P w K mg base ca "entry_behind" ["one", "other", "name"] 2 R_entry_behind :=
  Cl.mk' (N := ["one", "other", "name", "final", "room", "later", "more"]) V.d_entry_behind sc_entry_behind (by decide) (fun f cdv A outer s H E hr => by
    have nd : (["one", "other", "name", "final", "room", "later", "more"] : List Str).Nodup := sc_entry_behind.nd
    exact dss_cons (ds_asg (d_callC (c_entry_in V) hr (by decide) (da_cons (d_var (i := 0)) (da_cons (d_var (i := 2)) da_nil))) (dg_tup rfl (dg_cons (dg_name (i := 3) nd) (dg_cons (dg_name (i := 4) nd) dg_nil))))
          (dss_cons (ds_if (d_isNT (d_var (i := 3)) (d_non)) (dss_cons (ds_ret (d_tup (da_cons (d_non) (da_cons (d_var (i := 4)) da_nil))))
          (dss_nil)) (dss_nil))
          (dss_cons (ds_asg (d_callC (c_entry_in V) hr (by decide) (da_cons (d_var (i := 1)) (da_cons (d_var (i := 3)) da_nil))) (dg_tup rfl (dg_cons (dg_name (i := 5) nd) (dg_cons (dg_name (i := 6) nd) dg_nil))))
          (dss_cons (ds_ret (d_tup (da_cons (d_var (i := 5)) (da_cons (d_callC (c_lesser V) hr (by decide) (da_cons (d_callC (c_height_in V) hr (by decide) (da_cons (d_var (i := 0)) da_nil)) (da_cons (d_var (i := 6)) da_nil))) da_nil))))
          (dss_nil)))))
theorem sc_form_behind : FnScope ["one", "other", "names", "left", "room", "rest", "name"] ["one", "other"] (defScope (top 51)) := ⟨rfl, rfl, rfl, by decide +kernel, rfl, by decide +kernel, by decide +kernel⟩
def F_form_behind : SF :=
  s_seq (s_set (g_name 2) (x_bin dAdd (x_call R_names_told (a_cons (x_var 0) a_nil)) (x_call R_names_told (a_cons (x_var 1) a_nil))))
          (s_seq (s_set (g_tup 2 (g_cons (g_name 3) (g_cons (g_name 4) g_nil))) (x_bin dSub1 (x_var 0) (x_c (.int 1))))
          (s_seq (s_set (g_name 5) (x_if (t_val (x_var 3)) (x_tup (a_cons (x_bin dSub1 (x_bin dSub1 (x_var 1) (x_c (.int 1))) (x_c (.int 0))) (a_cons (x_call R_lesser (a_cons (x_var 4) (a_cons (x_bin dSub1 (x_bin dSub1 (x_var 1) (x_c (.int 1))) (x_c (.int 1))) a_nil))) a_nil))) (x_bin dSub1 (x_var 0) (x_c (.int 1)))))
          (s_seq (s_ret (x_call R_form_with (a_cons (x_dc (i_seq (x_var 2)) [6] (g_name 6) (x_var 6) (x_call R_entry_behind (a_cons (x_var 0) (a_cons (x_var 1) (a_cons (x_var 6) a_nil))))) (a_cons (x_var 5) a_nil))))
          (s_nil))))
def R_form_behind : List D → Option D := runD 2 7 F_form_behind
theorem c_form_behind (V : Ev P w K mg base ca) : Cl P w K mg base ca "form_behind" ["one", "other"] 3 R_form_behind :=
  Cl.mk' (N := ["one", "other", "names", "left", "room", "rest", "name"]) V.d_form_behind sc_form_behind (by decide) (fun f cdv A outer s H E hr => by
    have nd : (["one", "other", "names", "left", "room", "rest", "name"] : List Str).Nodup := sc_form_behind.nd
    exact dss_cons (ds_set nd (d_add (d_callC (c_names_told V) hr (by decide) (da_cons (d_var (i := 0)) da_nil)) (d_callC (c_names_told V) hr (by decide) (da_cons (d_var (i := 1)) da_nil))))
          (dss_cons (ds_asg (d_ix (hu_of hr) (d_var (i := 0)) (d_int)) (dg_tup rfl (dg_cons (dg_name (i := 3) nd) (dg_cons (dg_name (i := 4) nd) dg_nil))))
          (dss_cons (ds_set nd (d_ifx (d_test (d_var (i := 3))) (d_tup (da_cons (d_ix (hu_of hr) (d_ix (hu_of hr) (d_var (i := 1)) (d_int)) (d_int)) (da_cons (d_callC (c_lesser V) hr (by decide) (da_cons (d_var (i := 4)) (da_cons (d_ix (hu_of hr) (d_ix (hu_of hr) (d_var (i := 1)) (d_int)) (d_int)) da_nil))) da_nil))) (d_ix (hu_of hr) (d_var (i := 0)) (d_int))))
          (dss_cons (ds_ret (d_callC (c_form_with V) hr (by decide) (da_cons (d_dc (own := [("name", 6)]) rfl nd (di_seq (d_var (i := 2))) (blkOk_by (by kernel_rfl)) (fun _ _ _ _ _ => (dg_name (i := 6) nd)) (fun _ _ _ _ _ => (d_var (i := 6))) (fun _ _ _ _ _ => (d_callC (c_entry_behind V) hr (by decide) (da_cons (d_var (i := 0)) (da_cons (d_var (i := 1)) (da_cons (d_var (i := 6)) da_nil)))))) (da_cons (d_var (i := 5)) da_nil))))
          (dss_nil)))))
theorem sc_rooms_gone : FnScope ["form", "rooms", "name", "final", "room"] ["form"] (defScope (top 53)) := ⟨rfl, rfl, rfl, by decide +kernel, rfl, by decide +kernel, by decide +kernel⟩
def F_rooms_gone : SF :=
  s_seq (s_set (g_name 1) (x_lc (i_seq (x_bin dSub1 (x_var 0) (x_c (.int 0)))) [2, 3, 4] (g_tup 3 (g_cons (g_name 2) (g_cons (g_name 3) (g_cons (g_name 4) g_nil)))) (t_val (x_bin dIsN' (x_var 3) (x_c .non))) (x_var 4)))
          (s_seq (s_ret (x_if (t_val (x_bin dSub1 (x_bin dSub1 (x_var 0) (x_c (.int 1))) (x_c (.int 0)))) (x_var 1) (x_lst (a_star (x_var 1) (a_cons (x_bin dSub1 (x_bin dSub1 (x_var 0) (x_c (.int 1))) (x_c (.int 1))) a_nil)))))
          (s_nil))
def R_rooms_gone : List D → Option D := runD 1 5 F_rooms_gone
theorem c_rooms_gone (V : Ev P w K mg base ca) : Cl P w K mg base ca "rooms_gone" ["form"] 1 R_rooms_gone :=
  Cl.mk' (N := ["form", "rooms", "name", "final", "room"]) V.d_rooms_gone sc_rooms_gone (by decide) (fun f cdv A outer s H E hr => by
    have nd : (["form", "rooms", "name", "final", "room"] : List Str).Nodup := sc_rooms_gone.nd
    exact dss_cons (ds_setLc (i := 1) (own := [("name", 2), ("final", 3), ("room", 4)]) rfl nd rfl rfl (sw_true rfl rfl rfl (by decide +kernel)) (di_seq (d_ix (hu_of hr) (d_var (i := 0)) (d_int))) (blkOk_by (by kernel_rfl)) (fun _ _ _ _ _ => (dg_tup rfl (dg_cons (dg_name (i := 2) nd) (dg_cons (dg_name (i := 3) nd) (dg_cons (dg_name (i := 4) nd) dg_nil))))) (fun _ _ _ _ _ => dts_one (d_isNT (d_var (i := 3)) (d_non))) (fun _ _ _ _ _ => (d_var (i := 4))))
          (dss_cons (ds_ret (d_ifx (d_test (d_ix (hu_of hr) (d_ix (hu_of hr) (d_var (i := 0)) (d_int)) (d_int))) (d_var (i := 1)) (d_lst (da_star (d_var (i := 1)) (da_cons (d_ix (hu_of hr) (d_ix (hu_of hr) (d_var (i := 0)) (d_int)) (d_int)) da_nil)))))
          (dss_nil)))
theorem sc_labels_gone : FnScope ["form", "room", "left", "own", "name", "final", "much"] ["form", "room"] (defScope (top 54)) := ⟨rfl, rfl, rfl, by decide +kernel, rfl, by decide +kernel, by decide +kernel⟩
def F_labels_gone : SF :=
  s_seq (s_set (g_tup 2 (g_cons (g_name 2) (g_cons (g_name 3) g_nil))) (x_bin dSub1 (x_var 0) (x_c (.int 1))))
          (s_seq (s_if (t_and (t_not (t_val (x_var 2))) (t_val (x_bin dEq (x_var 3) (x_var 1)))) (s_seq (s_ret (x_call (fun ds => R_Labels_init (ds ++ [])) (a_cons (x_lc (i_seq (x_bin dSub1 (x_var 0) (x_c (.int 0)))) [4, 5, 6] (g_tup 3 (g_cons (g_name 4) (g_cons (g_name 5) (g_cons (g_name 6) g_nil)))) t_yes (x_var 4)) (a_cons (x_c (.bl true)) a_nil))))
          (s_nil)) (s_nil))
          (s_seq (s_ret (x_call (fun ds => R_Labels_init (ds ++ [.bl false])) (a_cons (x_lc (i_seq (x_bin dSub1 (x_var 0) (x_c (.int 0)))) [4, 5, 6] (g_tup 3 (g_cons (g_name 4) (g_cons (g_name 5) (g_cons (g_name 6) g_nil)))) (t_and (t_val (x_bin dIsN' (x_var 5) (x_c .non))) (t_val (x_bin dEq (x_var 6) (x_var 1)))) (x_var 4)) a_nil)))
          (s_nil)))
def R_labels_gone : List D → Option D := runD 2 7 F_labels_gone
theorem c_labels_gone (V : Ev P w K mg base ca) : Cl P w K mg base ca "labels_gone" ["form", "room"] 4 R_labels_gone :=
  Cl.mk' (N := ["form", "room", "left", "own", "name", "final", "much"]) V.d_labels_gone sc_labels_gone (by decide) (fun f cdv A outer s H E hr => by
    have nd : (["form", "room", "left", "own", "name", "final", "much"] : List Str).Nodup := sc_labels_gone.nd
    exact dss_cons (ds_asg (d_ix (hu_of hr) (d_var (i := 0)) (d_int)) (dg_tup rfl (dg_cons (dg_name (i := 2) nd) (dg_cons (dg_name (i := 3) nd) dg_nil))))
          (dss_cons (ds_if (PW.pt (dw_and (dt_not (d_test (d_var (i := 2)))) (dw_and1 (d_eqT hr.units (d_var (i := 3)) (d_var (i := 1)))))) (dss_cons (ds_ret (d_makeC (m_Labels2 V) hr (by decide) (da_cons (d_lc (own := [("name", 4), ("final", 5), ("much", 6)]) rfl nd (di_seq (d_ix (hu_of hr) (d_var (i := 0)) (d_int))) (blkOk_by (by kernel_rfl)) (fun _ _ _ _ _ => (dg_tup rfl (dg_cons (dg_name (i := 4) nd) (dg_cons (dg_name (i := 5) nd) (dg_cons (dg_name (i := 6) nd) dg_nil))))) (fun _ _ _ _ _ => dts_nil) (fun _ _ _ _ _ => (d_var (i := 4)))) (da_cons (d_bl) da_nil))))
          (dss_nil)) (dss_nil))
          (dss_cons (ds_ret (d_makeC (m_Labels1 V) hr (by decide) (da_cons (d_lc (own := [("name", 4), ("final", 5), ("much", 6)]) rfl nd (di_seq (d_ix (hu_of hr) (d_var (i := 0)) (d_int))) (blkOk_by (by kernel_rfl)) (fun _ _ _ _ _ => (dg_tup rfl (dg_cons (dg_name (i := 4) nd) (dg_cons (dg_name (i := 5) nd) (dg_cons (dg_name (i := 6) nd) dg_nil))))) (fun _ _ _ _ _ => dts_one (PW.pt (dw_and (d_isNT (d_var (i := 5)) (d_non)) (dw_and1 (d_eqT hr.units (d_var (i := 6)) (d_var (i := 1))))))) (fun _ _ _ _ _ => (d_var (i := 4)))) da_nil)))
          (dss_nil))))
theorem sc_plain_steps : FnScope ["form", "gone", "height", "found", "room", "table", "own", "name", "final"] ["form"] (defScope (top 55)) := ⟨rfl, rfl, rfl, by decide +kernel, rfl, by decide +kernel, by decide +kernel⟩
def F_plain_steps : SF :=
  s_seq (s_if (t_val (x_bin dEq (x_var 0) (x_c D_NOTHING_rooms))) (s_seq (s_ret (x_tup (a_cons (x_call (fun ds => R_Step_init (ds ++ [])) (a_cons (x_c (.str "drop")) (a_cons (x_call (fun ds => R_Labels_init (ds ++ [])) (a_cons (x_tup a_nil) (a_cons (x_c (.bl true)) a_nil))) a_nil))) a_nil)))
          (s_nil)) (s_nil))
          (s_seq (s_set (g_tup 2 (g_cons (g_name 1) (g_cons (g_name 2) g_nil))) (x_tup (a_cons (x_call R_rooms_gone (a_cons (x_var 0) a_nil)) (a_cons (x_call R_height_in (a_cons (x_var 0) a_nil)) a_nil))))
          (s_seq (s_newL 3)
          (s_seq (s_if (t_val (x_bin dIn (x_c (.int 0)) (x_var 1))) (s_seq (s_app 3 (x_call (fun ds => R_Step_init (ds ++ [])) (a_cons (x_c (.str "drop")) (a_cons (x_call R_labels_gone (a_cons (x_var 0) (a_cons (x_c (.int 0)) a_nil))) a_nil))))
          (s_nil)) (s_nil))
          (s_seq (s_if (t_val (x_bin dIn (x_c .non) (x_var 1))) (s_seq (s_app 3 (x_call (fun ds => R_Step_init (ds ++ [])) (a_cons (x_c (.str "unwrap")) (a_cons (x_call R_labels_gone (a_cons (x_var 0) (a_cons (x_c .non) a_nil))) a_nil))))
          (s_nil)) (s_nil))
          (s_seq (s_for (i_seq (x_un dRev (x_un dSortSet (x_lc (i_seq (x_var 1)) [6] (g_name 6) (t_and (t_val (x_bin dIsNot' (x_var 6) (x_c .non))) (t_val (x_bin dGt (x_var 6) (x_c (.int 0))))) (x_var 6))))) (g_name 4) (s_seq (s_ext 3 (x_lst (a_cons (x_call (fun ds => R_Step_init (ds ++ [])) (a_cons (x_c (.str "cut")) (a_cons (x_bin dAdd (x_var 4) (x_c (.int 1))) a_nil))) (a_cons (x_call (fun ds => R_Step_init (ds ++ [])) (a_cons (x_c (.str "unwrap")) (a_cons (x_call R_labels_gone (a_cons (x_var 0) (a_cons (x_var 4) a_nil))) a_nil))) a_nil))))
          (s_nil)))
          (s_seq (s_if (t_and (t_val (x_bin dIsNot' (x_var 2) (x_c .non))) (t_or (t_val (x_bin dEq (x_var 2) (x_c (.int 0)))) (t_val (x_bin dNotIn (x_var 2) (x_var 1))))) (s_seq (s_app 3 (x_call (fun ds => R_Step_init (ds ++ [])) (a_cons (x_c (.str "cut")) (a_cons (x_bin dAdd (x_var 2) (x_c (.int 1))) a_nil))))
          (s_nil)) (s_nil))
          (s_seq (s_set (g_name 5) (x_lc (i_seq (x_bin dSub1 (x_var 0) (x_c (.int 0)))) [7, 8, 4] (g_tup 3 (g_cons (g_name 7) (g_cons (g_name 8) (g_cons (g_name 4) g_nil)))) (t_and (t_val (x_bin dIsNot' (x_var 8) (x_c .non))) (t_val (x_bin dNe (x_var 8) (x_var 7)))) (x_tup (a_cons (x_var 7) (a_cons (x_var 8) a_nil)))))
          (s_seq (s_ret (x_if (t_val (x_bin dGt (x_call b_len (a_cons (x_var 5) a_nil)) (x_c (.int 0)))) (x_none) (x_call b_tuple (a_cons (x_var 3) a_nil))))
          (s_nil)))))))))
def R_plain_steps : List D → Option D := runD 1 9 F_plain_steps
theorem c_plain_steps (V : Ev P w K mg base ca) : Cl P w K mg base ca "plain_steps" ["form"] 5 R_plain_steps :=
  Cl.mk' (N := ["form", "gone", "height", "found", "room", "table", "own", "name", "final"]) V.d_plain_steps sc_plain_steps (by decide) (fun f cdv A outer s H E hr => by
    have nd : (["form", "gone", "height", "found", "room", "table", "own", "name", "final"] : List Str).Nodup := sc_plain_steps.nd
    exact dss_cons (ds_if (d_eqT hr.units (d_var (i := 0)) (d_gval V.g_NOTHING_rooms)) (dss_cons (ds_ret (d_tup (da_cons (d_makeC (m_Step2 V) hr (by decide) (da_cons (d_str) (da_cons (d_makeC (m_Labels2 V) hr (by decide) (da_cons (d_tup da_nil) (da_cons (d_bl) da_nil))) da_nil))) da_nil)))
          (dss_nil)) (dss_nil))
          (dss_cons (ds_par rfl nd (by decide) (d_callC (c_rooms_gone V) hr (by decide) (da_cons (d_var (i := 0)) da_nil)) (d_callC (c_height_in V) hr (by decide) (da_cons (d_var (i := 0)) da_nil)))
          (dss_cons (ds_newL nd)
          (dss_cons (ds_if (d_inT (d_int) (d_var (i := 1))) (dss_cons (ds_appM (pe_var (i := 3) rfl (by first | exact Or.inl rfl | exact Or.inr (Or.inl rfl) | exact Or.inr (Or.inr rfl))) (d_makeC (m_Step2 V) hr (by decide) (da_cons (d_str) (da_cons (d_callC (c_labels_gone V) hr (by decide) (da_cons (d_var (i := 0)) (da_cons (d_int) da_nil))) da_nil))))
          (dss_nil)) (dss_nil))
          (dss_cons (ds_if (d_inT (d_non) (d_var (i := 1))) (dss_cons (ds_appM (pe_var (i := 3) rfl (by first | exact Or.inl rfl | exact Or.inr (Or.inl rfl) | exact Or.inr (Or.inr rfl))) (d_makeC (m_Step2 V) hr (by decide) (da_cons (d_str) (da_cons (d_callC (c_labels_gone V) hr (by decide) (da_cons (d_var (i := 0)) (da_cons (d_non) da_nil))) da_nil))))
          (dss_nil)) (dss_nil))
          (dss_cons (ds_for PassesOwn.never rfl (di_seq (d_rev (d_sortSet rfl V.B.sorted V.B.set (d_lc (own := [("own", 6)]) rfl nd (di_seq (d_var (i := 1))) (blkOk_by (by kernel_rfl)) (fun _ _ _ _ _ => (dg_name (i := 6) nd)) (fun _ _ _ _ _ => dts_one (PW.pt (dw_and (d_isNotT (d_var (i := 6)) (d_non)) (dw_and1 (d_gtT (d_var (i := 6)) (d_int)))))) (fun _ _ _ _ _ => (d_var (i := 6))))))) (dg_name (i := 4) nd) (dss_cons (ds_extM (pe_var (i := 3) rfl (by first | exact Or.inl rfl | exact Or.inr (Or.inl rfl) | exact Or.inr (Or.inr rfl))) (d_lst (da_cons (d_makeC (m_Step2 V) hr (by decide) (da_cons (d_str) (da_cons (d_add (d_var (i := 4)) (d_int)) da_nil))) (da_cons (d_makeC (m_Step2 V) hr (by decide) (da_cons (d_str) (da_cons (d_callC (c_labels_gone V) hr (by decide) (da_cons (d_var (i := 0)) (da_cons (d_var (i := 4)) da_nil))) da_nil))) da_nil))))
          (dss_nil)))
          (dss_cons (ds_if (PW.pt (dw_and (d_isNotT (d_var (i := 2)) (d_non)) (dw_and1 (PW.pt (dw_or (d_eqT hr.units (d_var (i := 2)) (d_int)) (dw_or1 (d_notInT (d_var (i := 2)) (d_var (i := 1))))))))) (dss_cons (ds_appM (pe_var (i := 3) rfl (by first | exact Or.inl rfl | exact Or.inr (Or.inl rfl) | exact Or.inr (Or.inr rfl))) (d_makeC (m_Step2 V) hr (by decide) (da_cons (d_str) (da_cons (d_add (d_var (i := 2)) (d_int)) da_nil))))
          (dss_nil)) (dss_nil))
          (dss_cons (ds_setLc (i := 5) (own := [("name", 7), ("final", 8), ("room", 4)]) rfl nd rfl rfl (sw_true rfl rfl rfl (by decide +kernel)) (di_seq (d_ix (hu_of hr) (d_var (i := 0)) (d_int))) (blkOk_by (by kernel_rfl)) (fun _ _ _ _ _ => (dg_tup rfl (dg_cons (dg_name (i := 7) nd) (dg_cons (dg_name (i := 8) nd) (dg_cons (dg_name (i := 4) nd) dg_nil))))) (fun _ _ _ _ _ => dts_one (PW.pt (dw_and (d_isNotT (d_var (i := 8)) (d_non)) (dw_and1 (d_neT hr.units (d_var (i := 8)) (d_var (i := 7))))))) (fun _ _ _ _ _ => (d_tup (da_cons (d_var (i := 7)) (da_cons (d_var (i := 8)) da_nil)))))
          (dss_cons (ds_ret (d_ifx (d_gtT (d_len rfl V.B.len (da_cons (d_var (i := 5)) da_nil)) (d_int)) (d_none) (d_tuple rfl V.B.tuple (da_cons (d_var (i := 3)) da_nil))))
          (dss_nil))))))))))
theorem sc_side : FnScope ["form", "name"] ["form", "name"] (defScope (top 58)) := ⟨rfl, rfl, rfl, by decide +kernel, rfl, by decide +kernel, by decide +kernel⟩
def F_side : SF :=
  s_seq (s_ret (x_tup (a_cons (x_bin dIsNot' (x_call R_final_in (a_cons (x_var 0) (a_cons (x_var 1) a_nil))) (x_c .non)) (a_cons (x_call R_room_in (a_cons (x_var 0) (a_cons (x_var 1) a_nil))) a_nil))))
          (s_nil)
def R_side : List D → Option D := runD 2 2 F_side
theorem c_side (V : Ev P w K mg base ca) : Cl P w K mg base ca "side" ["form", "name"] 3 R_side :=
  Cl.mk' (N := ["form", "name"]) V.d_side sc_side (by decide) (fun f cdv A outer s H E hr => by
    have nd : (["form", "name"] : List Str).Nodup := sc_side.nd
    exact dss_cons (ds_ret (d_tup (da_cons (d_isNot (d_callC (c_final_in V) hr (by decide) (da_cons (d_var (i := 0)) (da_cons (d_var (i := 1)) da_nil))) (d_non)) (da_cons (d_callC (c_room_in V) hr (by decide) (da_cons (d_var (i := 0)) (da_cons (d_var (i := 1)) da_nil))) da_nil))))
          (dss_nil))
theorem sc_told_in : FnScope ["one", "other", "entry"] ["one", "other"] (defScope (top 59)) := ⟨rfl, rfl, rfl, by decide +kernel, rfl, by decide +kernel, by decide +kernel⟩
def F_told_in : SF :=
  s_seq (s_ret (x_un dSortSet (x_lc (i_seq (x_bin dAdd (x_bin dSub1 (x_var 0) (x_c (.int 0))) (x_bin dSub1 (x_var 1) (x_c (.int 0))))) [2] (g_name 2) t_yes (x_bin dSub1 (x_var 2) (x_c (.int 0))))))
          (s_nil)
def R_told_in : List D → Option D := runD 2 3 F_told_in
theorem c_told_in (V : Ev P w K mg base ca) : Cl P w K mg base ca "told_in" ["one", "other"] 1 R_told_in :=
  Cl.mk' (N := ["one", "other", "entry"]) V.d_told_in sc_told_in (by decide) (fun f cdv A outer s H E hr => by
    have nd : (["one", "other", "entry"] : List Str).Nodup := sc_told_in.nd
    exact dss_cons (ds_ret (d_sortSet rfl V.B.sorted V.B.set (d_lc (own := [("entry", 2)]) rfl nd (di_seq (d_add (d_ix (hu_of hr) (d_var (i := 0)) (d_int)) (d_ix (hu_of hr) (d_var (i := 1)) (d_int)))) (blkOk_by (by kernel_rfl)) (fun _ _ _ _ _ => (dg_name (i := 2) nd)) (fun _ _ _ _ _ => dts_nil) (fun _ _ _ _ _ => (d_ix (hu_of hr) (d_var (i := 2)) (d_int))))))
          (dss_nil))
theorem sc_pairs_of : FnScope ["one", "other", "found", "name"] ["one", "other"] (defScope (top 61)) := ⟨rfl, rfl, rfl, by decide +kernel, rfl, by decide +kernel, by decide +kernel⟩
def F_pairs_of : SF :=
  s_seq (s_set (g_name 2) (x_lc (i_seq (x_call R_told_in (a_cons (x_var 0) (a_cons (x_var 1) a_nil)))) [3] (g_name 3) t_yes (x_tup (a_cons (x_call R_side (a_cons (x_var 0) (a_cons (x_var 3) a_nil))) (a_cons (x_call R_side (a_cons (x_var 1) (a_cons (x_var 3) a_nil))) a_nil)))))
          (s_seq (s_ret (x_lst (a_star (x_var 2) (a_cons (x_tup (a_cons (x_bin dSub1 (x_var 0) (x_c (.int 1))) (a_cons (x_bin dSub1 (x_var 1) (x_c (.int 1))) a_nil))) a_nil))))
          (s_nil))
def R_pairs_of : List D → Option D := runD 2 4 F_pairs_of
theorem c_pairs_of (V : Ev P w K mg base ca) : Cl P w K mg base ca "pairs_of" ["one", "other"] 4 R_pairs_of :=
  Cl.mk' (N := ["one", "other", "found", "name"]) V.d_pairs_of sc_pairs_of (by decide) (fun f cdv A outer s H E hr => by
    have nd : (["one", "other", "found", "name"] : List Str).Nodup := sc_pairs_of.nd
    exact dss_cons (ds_setLc (i := 2) (own := [("name", 3)]) rfl nd rfl rfl (sw_true rfl rfl rfl (by decide +kernel)) (di_seq (d_callC (c_told_in V) hr (by decide) (da_cons (d_var (i := 0)) (da_cons (d_var (i := 1)) da_nil)))) (blkOk_by (by kernel_rfl)) (fun _ _ _ _ _ => (dg_name (i := 3) nd)) (fun _ _ _ _ _ => dts_nil) (fun _ _ _ _ _ => (d_tup (da_cons (d_callC (c_side V) hr (by decide) (da_cons (d_var (i := 0)) (da_cons (d_var (i := 3)) da_nil))) (da_cons (d_callC (c_side V) hr (by decide) (da_cons (d_var (i := 1)) (da_cons (d_var (i := 3)) da_nil))) da_nil)))))
          (dss_cons (ds_ret (d_lst (da_star (d_var (i := 2)) (da_cons (d_tup (da_cons (d_ix (hu_of hr) (d_var (i := 0)) (d_int)) (da_cons (d_ix (hu_of hr) (d_var (i := 1)) (d_int)) da_nil))) da_nil))))
          (dss_nil)))
theorem sc_is_within : FnScope ["one", "other", "near", "far"] ["one", "other"] (defScope (top 63)) := ⟨rfl, rfl, rfl, by decide +kernel, rfl, by decide +kernel, by decide +kernel⟩
def F_is_within : SF :=
  s_seq (s_ret (x_call b_all (a_cons (x_lc (i_seq (x_call R_pairs_of (a_cons (x_var 0) (a_cons (x_var 1) a_nil)))) [2, 3] (g_tup 2 (g_cons (g_name 2) (g_cons (g_name 3) g_nil))) t_yes (x_and (x_bin dLeB (x_bin dSub1 (x_var 2) (x_c (.int 0))) (x_bin dSub1 (x_var 3) (x_c (.int 0)))) (x_call R_is_most (a_cons (x_bin dSub1 (x_var 2) (x_c (.int 1))) (a_cons (x_bin dSub1 (x_var 3) (x_c (.int 1))) a_nil))))) a_nil)))
          (s_nil)
def R_is_within : List D → Option D := runD 2 4 F_is_within
theorem c_is_within (V : Ev P w K mg base ca) : Cl P w K mg base ca "is_within" ["one", "other"] 5 R_is_within :=
  Cl.mk' (N := ["one", "other", "near", "far"]) V.d_is_within sc_is_within (by decide) (fun f cdv A outer s H E hr => by
    have nd : (["one", "other", "near", "far"] : List Str).Nodup := sc_is_within.nd
    exact dss_cons (ds_ret (d_all rfl rfl V.B.all (da_cons (d_lc (own := [("near", 2), ("far", 3)]) rfl nd (di_seq (d_callC (c_pairs_of V) hr (by decide) (da_cons (d_var (i := 0)) (da_cons (d_var (i := 1)) da_nil)))) (blkOk_by (by kernel_rfl)) (fun _ _ _ _ _ => (dg_tup rfl (dg_cons (dg_name (i := 2) nd) (dg_cons (dg_name (i := 3) nd) dg_nil)))) (fun _ _ _ _ _ => dts_nil) (fun _ _ _ _ _ => (d_and (d_leB (d_ix (hu_of hr) (d_var (i := 2)) (d_int)) (d_ix (hu_of hr) (d_var (i := 3)) (d_int))) (d_one (d_callC (c_is_most V) hr (by decide) (da_cons (d_ix (hu_of hr) (d_var (i := 2)) (d_int)) (da_cons (d_ix (hu_of hr) (d_var (i := 3)) (d_int)) da_nil))))))) da_nil)))
          (dss_nil))
end DL
/-! Walks. Printed by gen2.py. -/
namespace DL
open PySem PySem.Spec PyProof.Rows L2
variable {P : Program} {w : World} {K : PySem.W.Frag} {mg : Str → Option Value} {base : Heap} {ca : Nat → Addr}
theorem sc_form_of_steps : FnScope ["steps", "found", "step"] ["steps"] (defScope (top 68)) := ⟨rfl, rfl, rfl, by decide +kernel, rfl, by decide +kernel, by decide +kernel⟩
def F_form_of_steps : SF :=
  s_seq (s_set (g_name 1) (x_c D_START))
          (s_seq (s_for (i_seq (x_var 0)) (g_name 2) (s_seq (s_set (g_name 1) (x_call R_form_behind (a_cons (x_var 1) (a_cons (x_call R_form_of_step (a_cons (x_var 2) a_nil)) a_nil))))
          (s_nil)))
          (s_seq (s_ret (x_var 1))
          (s_nil)))
def R_form_of_steps : List D → Option D := runD 1 3 F_form_of_steps
theorem c_form_of_steps (V : Ev P w K mg base ca) : Cl P w K mg base ca "form_of_steps" ["steps"] 4 R_form_of_steps :=
  Cl.mk' (N := ["steps", "found", "step"]) V.d_form_of_steps sc_form_of_steps (by decide) (fun f cdv A outer s H E hr => by
    have nd : (["steps", "found", "step"] : List Str).Nodup := sc_form_of_steps.nd
    exact dss_cons (ds_set nd (d_gval V.g_START))
          (dss_cons (ds_for PassesOwn.never rfl (di_seq (d_var (i := 0))) (dg_name (i := 2) nd) (dss_cons (ds_set nd (d_callC (c_form_behind V) hr (by decide) (da_cons (d_var (i := 1)) (da_cons (d_callC (c_form_of_step V) hr (by decide) (da_cons (d_var (i := 2)) da_nil)) da_nil))))
          (dss_nil)))
          (dss_cons (ds_ret (d_var (i := 1)))
          (dss_nil))))
theorem sc_Pipeline_init : FnScope ["self", "steps"] ["self", "steps"] (defScope (mem 69 0)) := ⟨rfl, rfl, rfl, by decide +kernel, rfl, by decide +kernel, by decide +kernel⟩
def F_Pipeline_init : Rho → List D → Option (List D) :=
  (n_fld 0 (x_call b_tuple (a_cons (x_var 1) a_nil)) (n_fldC R_form_of_steps (fun _ fs => some fs)))
def R_Pipeline_init : List D → Option D := runI 2 2 2 F_Pipeline_init
theorem m_Pipeline_init (V : Ev P w K mg base ca) : ∀ dds ∈ [([.tup []] : List D), ([] : List D)], Mkr P w K mg base ca 2 "Pipeline" 5 R_Pipeline_init dds :=
  Mkr.mk' (N := ["self", "steps"]) V.d_Pipeline_init sc_Pipeline_init (by decide) (fun f cdv A outer s H E hr => by
    have nd : (["self", "steps"] : List Str).Nodup := sc_Pipeline_init.nd
    exact (ns_fld V.k2 V.n_own_steps rfl (pe_var (i := 0) rfl (by first | exact Or.inl rfl | exact Or.inr (Or.inl rfl) | exact Or.inr (Or.inr rfl))) (d_tuple rfl V.B.tuple (da_cons (d_var (i := 1)) da_nil)) (ns_fldC V.k2 V.n_own_steps V.n_own_form rfl rfl (pe_var (i := 0) rfl (by first | exact Or.inl rfl | exact Or.inr (Or.inl rfl) | exact Or.inr (Or.inr rfl))) (pe_var (i := 0) rfl (by first | exact Or.inl rfl | exact Or.inr (Or.inl rfl) | exact Or.inr (Or.inr rfl))) (c_form_of_steps V) hr (by decide) n_nil)))
theorem m_Pipeline0 (V : Ev P w K mg base ca) : Mkr P w K mg base ca 2 "Pipeline" 5 R_Pipeline_init [.tup []] := m_Pipeline_init V _ List.mem_cons_self
theorem m_Pipeline1 (V : Ev P w K mg base ca) : Mkr P w K mg base ca 2 "Pipeline" 5 R_Pipeline_init [] := m_Pipeline_init V _ (List.mem_cons_of_mem _ List.mem_cons_self)
theorem sc_Pipeline_of : FnScope ["text", "part"] ["text"] (defScope (mem 69 1)) := ⟨rfl, rfl, rfl, by decide +kernel, rfl, by decide +kernel, by decide +kernel⟩
def F_Pipeline_of : SF :=
  s_seq (s_if (t_val (x_bin dEq (x_var 0) (x_c (.str "-")))) (s_seq (s_ret (x_call (fun ds => R_Pipeline_init (ds ++ [.tup []])) a_nil))
          (s_nil)) (s_nil))
          (s_seq (s_ret (x_call (fun ds => R_Pipeline_init (ds ++ [])) (a_cons (x_lc (i_seq (x_bin dSplit (x_var 0) (x_c (.str "; ")))) [1] (g_name 1) t_yes (x_call R_Step_of (a_cons (x_var 1) a_nil))) a_nil)))
          (s_nil))
def R_Pipeline_of : List D → Option D := runD 1 2 F_Pipeline_of
theorem c_Pipeline_of (V : Ev P w K mg base ca) : Sm P w K mg base ca "Pipeline" "of" 7 R_Pipeline_of :=
  Sm.mk' (N := ["text", "part"]) V.d_Pipeline_of sc_Pipeline_of (by decide) (fun f cdv A outer s H E hr => by
    have nd : (["text", "part"] : List Str).Nodup := sc_Pipeline_of.nd
    exact dss_cons (ds_if (d_eqT hr.units (d_var (i := 0)) (d_gstr V.g_NOTHING_labels)) (dss_cons (ds_ret (d_makeC0 (m_Pipeline0 V) hr (by decide)))
          (dss_nil)) (dss_nil))
          (dss_cons (ds_ret (d_makeC (m_Pipeline1 V) hr (by decide) (da_cons (d_lc (own := [("part", 1)]) rfl nd (di_seq (d_split (d_var (i := 0)) (d_gstr V.g_BETWEEN))) (blkOk_by (by kernel_rfl)) (fun _ _ _ _ _ => (dg_name (i := 1) nd)) (fun _ _ _ _ _ => dts_nil) (fun _ _ _ _ _ => (d_static (c_Step_of V) hr (by decide) (da_cons (d_var (i := 1)) da_nil)))) da_nil)))
          (dss_nil)))
theorem sc_Pipeline_steps : FnScope ["self"] ["self"] (defScope (mem 69 2)) := ⟨rfl, rfl, rfl, by decide +kernel, rfl, by decide +kernel, by decide +kernel⟩
def F_Pipeline_steps : SF :=
  s_seq (s_ret (x_un (dFld 2 0) (x_var 0)))
          (s_nil)
def R_Pipeline_steps : List D → Option D := runD 1 1 F_Pipeline_steps
theorem c_Pipeline_steps (V : Ev P w K mg base ca) : Pp P w K mg base ca 2 "steps" 1 R_Pipeline_steps :=
  Pp.mk' (N := ["self"]) V.d_Pipeline_steps sc_Pipeline_steps (by decide) (fun f cdv A outer s H E hr => by
    have nd : (["self"] : List Str).Nodup := sc_Pipeline_steps.nd
    exact dss_cons (ds_ret (d_fld (c := 2) (i := 0) rfl V.k2 V.n_own_steps fld_own_steps (d_var (i := 0))))
          (dss_nil))
theorem sc_Pipeline_form : FnScope ["self"] ["self"] (defScope (mem 69 4)) := ⟨rfl, rfl, rfl, by decide +kernel, rfl, by decide +kernel, by decide +kernel⟩
def F_Pipeline_form : SF :=
  s_seq (s_ret (x_un (dFld 2 1) (x_var 0)))
          (s_nil)
def R_Pipeline_form : List D → Option D := runD 1 1 F_Pipeline_form
theorem c_Pipeline_form (V : Ev P w K mg base ca) : Pp P w K mg base ca 2 "form" 1 R_Pipeline_form :=
  Pp.mk' (N := ["self"]) V.d_Pipeline_form sc_Pipeline_form (by decide) (fun f cdv A outer s H E hr => by
    have nd : (["self"] : List Str).Nodup := sc_Pipeline_form.nd
    exact dss_cons (ds_ret (d_fld (c := 2) (i := 1) rfl V.k2 V.n_own_form fld_own_form (d_var (i := 0))))
          (dss_nil))
theorem sc_Pipeline_plain : FnScope ["self"] ["self"] (defScope (mem 69 7)) := ⟨rfl, rfl, rfl, by decide +kernel, rfl, by decide +kernel, by decide +kernel⟩
def F_Pipeline_plain : SF :=
  s_seq (s_ret (x_call (fun ds => R_Pipeline_init (ds ++ [])) (a_cons (x_call R_plain_steps (a_cons (x_un (dFld 2 1) (x_var 0)) a_nil)) a_nil)))
          (s_nil)
def R_Pipeline_plain : List D → Option D := runD 1 1 F_Pipeline_plain
theorem c_Pipeline_plain (V : Ev P w K mg base ca) : Pp P w K mg base ca 2 "plain" 7 R_Pipeline_plain :=
  Pp.mk' (N := ["self"]) V.d_Pipeline_plain sc_Pipeline_plain (by decide) (fun f cdv A outer s H E hr => by
    have nd : (["self"] : List Str).Nodup := sc_Pipeline_plain.nd
    exact dss_cons (ds_ret (d_makeC (m_Pipeline1 V) hr (by decide) (da_cons (d_callC (c_plain_steps V) hr (by decide) (da_cons (d_fld (c := 2) (i := 1) rfl V.k2 V.n_own_form fld_own_form (d_var (i := 0))) da_nil)) da_nil)))
          (dss_nil))
theorem sc_Pipeline_within : FnScope ["self", "q"] ["self", "q"] (defScope (mem 69 8)) := ⟨rfl, rfl, rfl, by decide +kernel, rfl, by decide +kernel, by decide +kernel⟩
def F_Pipeline_within : SF :=
  s_seq (s_ret (x_call R_is_within (a_cons (x_un (dFld 2 1) (x_var 0)) (a_cons (x_un (dProp 2 R_Pipeline_form) (x_var 1)) a_nil))))
          (s_nil)
def R_Pipeline_within : List D → Option D := runD 2 2 F_Pipeline_within
theorem c_Pipeline_within (V : Ev P w K mg base ca) : Me P w K mg base ca 2 "within" 6 R_Pipeline_within :=
  Me.mk' (N := ["self", "q"]) V.d_Pipeline_within sc_Pipeline_within (by decide) (by intro vs; match vs with | [] => rfl | [_] => rfl | _ :: _ :: _ => rfl) (fun f cdv A outer s H E hr => by
    have nd : (["self", "q"] : List Str).Nodup := sc_Pipeline_within.nd
    exact dss_cons (ds_ret (d_callC (c_is_within V) hr (by decide) (da_cons (d_fld (c := 2) (i := 1) rfl V.k2 V.n_own_form fld_own_form (d_var (i := 0))) (da_cons (d_propC (c_Pipeline_form V) hr (by decide) (d_var (i := 1))) da_nil))))
          (dss_nil))
theorem sc_Pipeline_rshift : FnScope ["self", "other"] ["self", "other"] (defScope (mem 69 16)) := ⟨rfl, rfl, rfl, by decide +kernel, rfl, by decide +kernel, by decide +kernel⟩
def F_Pipeline_rshift : SF :=
  s_seq (s_if (t_val (x_un dIsS (x_var 1))) (s_never) (s_nil))
          (s_seq (s_if (t_not (t_val (x_un dIsP (x_var 1)))) (s_never) (s_nil))
          (s_seq (s_ret (x_call (fun ds => R_Pipeline_init (ds ++ [])) (a_cons (x_bin dAdd (x_un (dFld 2 0) (x_var 0)) (x_un (dProp 2 R_Pipeline_steps) (x_var 1))) a_nil)))
          (s_nil)))
def R_Pipeline_rshift : List D → Option D := runD 2 2 F_Pipeline_rshift
theorem c_Pipeline_rshift (V : Ev P w K mg base ca) : Oo P w K mg base ca 2 "__rshift__" 7 R_Pipeline_rshift :=
  Oo.mk' (N := ["self", "other"]) V.d_Pipeline_rshift sc_Pipeline_rshift (by decide) (fun f cdv A outer s H E hr => by
    have nd : (["self", "other"] : List Str).Nodup := sc_Pipeline_rshift.nd
    exact dss_cons (ds_if (d_test (d_isS V.isi (d_var (i := 1)))) (dss_never) (dss_nil))
          (dss_cons (ds_if (dt_not (d_test (d_isP V.isi (d_var (i := 1))))) (dss_never) (dss_nil))
          (dss_cons (ds_ret (d_makeC (m_Pipeline1 V) hr (by decide) (da_cons (d_add (d_fld (c := 2) (i := 0) rfl V.k2 V.n_own_steps fld_own_steps (d_var (i := 0))) (d_propC (c_Pipeline_steps V) hr (by decide) (d_var (i := 1)))) da_nil)))
          (dss_nil))))
theorem sc_Pipeline_eq : FnScope ["self", "other"] ["self", "other"] (defScope (mem 69 20)) := ⟨rfl, rfl, rfl, by decide +kernel, rfl, by decide +kernel, by decide +kernel⟩
def F_Pipeline_eq : SF :=
  s_seq (s_ret (x_and (x_un dIsP (x_var 1)) (x_bin dEq (x_un (dFld 2 1) (x_var 0)) (x_un (dProp 2 R_Pipeline_form) (x_var 1)))))
          (s_nil)
def R_Pipeline_eq : List D → Option D := runD 2 2 F_Pipeline_eq
theorem c_Pipeline_eq (V : Ev P w K mg base ca) : Oo P w K mg base ca 2 "__eq__" 3 R_Pipeline_eq :=
  Oo.mk' (N := ["self", "other"]) V.d_Pipeline_eq sc_Pipeline_eq (by decide) (fun f cdv A outer s H E hr => by
    have nd : (["self", "other"] : List Str).Nodup := sc_Pipeline_eq.nd
    exact dss_cons (ds_ret (d_and (d_isP V.isi (d_var (i := 1))) (d_one (d_eq hr.units (d_fld (c := 2) (i := 1) rfl V.k2 V.n_own_form fld_own_form (d_var (i := 0))) (d_propC (c_Pipeline_form V) hr (by decide) (d_var (i := 1)))))))
          (dss_nil))
theorem sc_in_row : FnScope ["filters", "order", "found", "number"] ["filters", "order"] (defScope (top 71)) := ⟨rfl, rfl, rfl, by decide +kernel, rfl, by decide +kernel, by decide +kernel⟩
def F_in_row : SF :=
  s_seq (s_set (g_name 2) (x_call (fun ds => R_Pipeline_init (ds ++ [.tup []])) a_nil))
          (s_seq (s_for (i_seq (x_var 1)) (g_name 3) (s_seq (s_set (g_name 2) (x_bin (dOwn 2 R_Pipeline_rshift) (x_var 2) (x_bin dSub1 (x_var 0) (x_var 3))))
          (s_nil)))
          (s_seq (s_ret (x_un (dProp 2 R_Pipeline_plain) (x_var 2)))
          (s_nil)))
def R_in_row : List D → Option D := runD 2 4 F_in_row
theorem c_in_row (V : Ev P w K mg base ca) : Cl P w K mg base ca "in_row" ["filters", "order"] 9 R_in_row :=
  Cl.mk' (N := ["filters", "order", "found", "number"]) V.d_in_row sc_in_row (by decide) (fun f cdv A outer s H E hr => by
    have nd : (["filters", "order", "found", "number"] : List Str).Nodup := sc_in_row.nd
    exact dss_cons (ds_set nd (d_makeC0 (m_Pipeline0 V) hr (by decide)))
          (dss_cons (ds_for PassesOwn.never rfl (di_seq (d_var (i := 1))) (dg_name (i := 3) nd) (dss_cons (ds_set nd (d_own (c_Pipeline_rshift V) hr (by decide) (d_var (i := 2)) (d_ix (hu_of hr) (d_var (i := 0)) (d_var (i := 3)))))
          (dss_nil)))
          (dss_cons (ds_ret (d_propC (c_Pipeline_plain V) hr (by decide) (d_var (i := 2))))
          (dss_nil))))
theorem sc_renames : FnScope ["pipeline", "name", "final", "room"] ["pipeline"] (defScope (top 72)) := ⟨rfl, rfl, rfl, by decide +kernel, rfl, by decide +kernel, by decide +kernel⟩
def F_renames : SF :=
  s_seq (s_ret (x_call b_any (a_cons (x_lc (i_seq (x_bin dSub1 (x_un (dProp 2 R_Pipeline_form) (x_var 0)) (x_c (.int 0)))) [1, 2, 3] (g_tup 3 (g_cons (g_name 1) (g_cons (g_name 2) (g_cons (g_name 3) g_nil)))) t_yes (x_and (x_bin dIsNot' (x_var 2) (x_c .non)) (x_bin dNe (x_var 2) (x_var 1)))) a_nil)))
          (s_nil)
def R_renames : List D → Option D := runD 1 4 F_renames
theorem c_renames (V : Ev P w K mg base ca) : Cl P w K mg base ca "renames" ["pipeline"] 3 R_renames :=
  Cl.mk' (N := ["pipeline", "name", "final", "room"]) V.d_renames sc_renames (by decide) (fun f cdv A outer s H E hr => by
    have nd : (["pipeline", "name", "final", "room"] : List Str).Nodup := sc_renames.nd
    exact dss_cons (ds_ret (d_any rfl rfl V.B.any (da_cons (d_lc (own := [("name", 1), ("final", 2), ("room", 3)]) rfl nd (di_seq (d_ix (hu_of hr) (d_propC (c_Pipeline_form V) hr (by decide) (d_var (i := 0))) (d_int))) (blkOk_by (by kernel_rfl)) (fun _ _ _ _ _ => (dg_tup rfl (dg_cons (dg_name (i := 1) nd) (dg_cons (dg_name (i := 2) nd) (dg_cons (dg_name (i := 3) nd) dg_nil))))) (fun _ _ _ _ _ => dts_nil) (fun _ _ _ _ _ => (d_and (d_isNot (d_var (i := 2)) (d_non)) (d_one (d_ne hr.units (d_var (i := 2)) (d_var (i := 1))))))) da_nil)))
          (dss_nil))
theorem sc_check_names : FnScope ["filters", "place", "pipeline"] ["filters"] (defScope (top 73)) := ⟨rfl, rfl, rfl, by decide +kernel, rfl, by decide +kernel, by decide +kernel⟩
def F_check_names : SF :=
  s_seq (s_for (i_enum (x_var 0)) (g_tup 2 (g_cons (g_name 1) (g_cons (g_name 2) g_nil))) (s_seq (s_if (t_val (x_call R_renames (a_cons (x_var 2) a_nil))) (s_seq (s_never)
          (s_nil)) (s_nil))
          (s_nil)))
          (s_nil)
def R_check_names : List D → Option D := runD 1 3 F_check_names
theorem c_check_names (V : Ev P w K mg base ca) : Cl P w K mg base ca "check_names" ["filters"] 4 R_check_names :=
  Cl.mk' (N := ["filters", "place", "pipeline"]) V.d_check_names sc_check_names (by decide) (fun f cdv A outer s H E hr => by
    have nd : (["filters", "place", "pipeline"] : List Str).Nodup := sc_check_names.nd
    exact dss_cons (ds_for PassesOwn.never rfl (di_enum rfl V.B.enumerate (d_var (i := 0))) (dg_tup rfl (dg_cons (dg_name (i := 1) nd) (dg_cons (dg_name (i := 2) nd) dg_nil))) (dss_cons (ds_if (d_test (d_callC (c_renames V) hr (by decide) (da_cons (d_var (i := 2)) da_nil))) (dss_cons (ds_never)
          (dss_nil)) (dss_nil))
          (dss_nil)))
          (dss_nil))
theorem sc_orders : FnScope ["numbers", "found", "place", "number", "rest"] ["numbers"] (defScope (top 74)) := ⟨rfl, rfl, rfl, by decide +kernel, rfl, by decide +kernel, by decide +kernel⟩
def F_orders (rec : List D → Option D) : SF :=
  s_seq (s_if (t_val (x_bin dEq (x_call b_len (a_cons (x_var 0) a_nil)) (x_c (.int 0)))) (s_seq (s_ret (x_lst (a_cons (x_tup a_nil) a_nil)))
          (s_nil)) (s_nil))
          (s_seq (s_newL 1)
          (s_seq (s_for (i_enum (x_var 0)) (g_tup 2 (g_cons (g_name 2) (g_cons (g_name 3) g_nil))) (s_seq (s_ext 1 (x_lc (i_seq (x_call rec (a_cons (x_bin dAdd (x_cut (x_var 0) o_none (o_some (x_var 2))) (x_cut (x_var 0) (o_some (x_bin dAdd (x_var 2) (x_c (.int 1)))) o_none)) a_nil))) [4] (g_name 4) t_yes (x_tup (a_cons (x_var 3) (a_star (x_var 4) a_nil)))))
          (s_nil)))
          (s_seq (s_ret (x_var 1))
          (s_nil))))
def R_orders : Nat → List D → Option D
  | 0 => runD 1 5 s_never
  | n + 1 => runD 1 5 (F_orders (R_orders n))
theorem c_orders (V : Ev P w K mg base ca) : ∀ n, Cl P w K mg base ca "orders" ["numbers"] (1 + n) (R_orders n)
  | 0 => Cl.mk' (N := ["numbers", "found", "place", "number", "rest"]) V.d_orders sc_orders (by decide) fun f cdv A outer s H E hr => dss_never
  | n + 1 => by
    have ih := c_orders V n
    exact Cl.mk' (N := ["numbers", "found", "place", "number", "rest"]) V.d_orders sc_orders (by decide) (fun f cdv A outer s H E hr => by
      have nd : (["numbers", "found", "place", "number", "rest"] : List Str).Nodup := sc_orders.nd
      exact dss_cons (ds_if (d_eqT hr.units (d_len rfl V.B.len (da_cons (d_var (i := 0)) da_nil)) (d_int)) (dss_cons (ds_ret (d_lst (da_cons (d_tup da_nil) da_nil)))
            (dss_nil)) (dss_nil))
            (dss_cons (ds_newL nd)
            (dss_cons (ds_for PassesOwn.never rfl (di_enum rfl V.B.enumerate (d_var (i := 0))) (dg_tup rfl (dg_cons (dg_name (i := 2) nd) (dg_cons (dg_name (i := 3) nd) dg_nil))) (dss_cons (ds_extM (pe_var (i := 1) rfl (by first | exact Or.inl rfl | exact Or.inr (Or.inl rfl) | exact Or.inr (Or.inr rfl))) (d_lc (own := [("rest", 4)]) rfl nd (di_seq (d_callC ih hr (Nat.le_refl _) (da_cons (d_add (d_cut (d_var (i := 0)) do_none (do_some (d_var (i := 2)))) (d_cut (d_var (i := 0)) (do_some (d_add (d_var (i := 2)) (d_int))) do_none)) da_nil))) (blkOk_by (by kernel_rfl)) (fun _ _ _ _ _ => (dg_name (i := 4) nd)) (fun _ _ _ _ _ => dts_nil) (fun _ _ _ _ _ => (d_tup (da_cons (d_var (i := 3)) (da_star (d_var (i := 4)) da_nil))))))
            (dss_nil)))
            (dss_cons (ds_ret (d_var (i := 1)))
            (dss_nil)))))
theorem sc_all_ways : FnScope ["filters", "order"] ["filters"] (defScope (top 75)) := ⟨rfl, rfl, rfl, by decide +kernel, rfl, by decide +kernel, by decide +kernel⟩
def F_all_ways : SF :=
  s_seq (s_expr (x_call R_check_names (a_cons (x_var 0) a_nil)))
          (s_seq (s_ret (x_lc (i_seq (x_call (R_orders 6) (a_cons (x_un dTupRange (x_call b_len (a_cons (x_var 0) a_nil))) a_nil))) [1] (g_name 1) t_yes (x_tup (a_cons (x_var 1) (a_cons (x_call R_in_row (a_cons (x_var 0) (a_cons (x_var 1) a_nil))) a_nil)))))
          (s_nil))
def R_all_ways : List D → Option D := runD 1 2 F_all_ways
theorem c_all_ways (V : Ev P w K mg base ca) : Cl P w K mg base ca "all_ways" ["filters"] 10 R_all_ways :=
  Cl.mk' (N := ["filters", "order"]) V.d_all_ways sc_all_ways (by decide) (fun f cdv A outer s H E hr => by
    have nd : (["filters", "order"] : List Str).Nodup := sc_all_ways.nd
    exact dss_cons (ds_expr (d_callC (c_check_names V) hr (by decide) (da_cons (d_var (i := 0)) da_nil)))
          (dss_cons (ds_ret (d_lc (own := [("order", 1)]) rfl nd (di_seq (d_callC (c_orders V 6) hr (by decide) (da_cons (d_tupRg V.B.tuple V.B.range (d_len rfl V.B.len (da_cons (d_var (i := 0)) da_nil))) da_nil))) (blkOk_by (by kernel_rfl)) (fun _ _ _ _ _ => (dg_name (i := 1) nd)) (fun _ _ _ _ _ => dts_nil) (fun _ _ _ _ _ => (d_tup (da_cons (d_var (i := 1)) (da_cons (d_callC (c_in_row V) hr (by decide) (da_cons (d_var (i := 0)) (da_cons (d_var (i := 1)) da_nil))) da_nil))))))
          (dss_nil)))
theorem sc_unlike_ways : FnScope ["filters", "found", "order", "pipeline", "least", "other"] ["filters"] (defScope (top 76)) := ⟨rfl, rfl, rfl, by decide +kernel, rfl, by decide +kernel, by decide +kernel⟩
def F_unlike_ways : SF :=
  s_seq (s_newL 1)
          (s_seq (s_for (i_seq (x_call R_all_ways (a_cons (x_var 0) a_nil))) (g_tup 2 (g_cons (g_name 2) (g_cons (g_name 3) g_nil))) (s_seq (s_if (t_not (t_val (x_call b_any (a_cons (x_lc (i_seq (x_var 1)) [4, 5] (g_tup 2 (g_cons (g_name 4) (g_cons (g_name 5) g_nil))) t_yes (x_bin (dOwn 2 R_Pipeline_eq) (x_var 3) (x_var 5))) a_nil)))) (s_seq (s_app 1 (x_tup (a_cons (x_var 2) (a_cons (x_var 3) a_nil))))
          (s_nil)) (s_nil))
          (s_nil)))
          (s_seq (s_ret (x_var 1))
          (s_nil)))
def R_unlike_ways : List D → Option D := runD 1 6 F_unlike_ways
theorem c_unlike_ways (V : Ev P w K mg base ca) : Cl P w K mg base ca "unlike_ways" ["filters"] 11 R_unlike_ways :=
  Cl.mk' (N := ["filters", "found", "order", "pipeline", "least", "other"]) V.d_unlike_ways sc_unlike_ways (by decide) (fun f cdv A outer s H E hr => by
    have nd : (["filters", "found", "order", "pipeline", "least", "other"] : List Str).Nodup := sc_unlike_ways.nd
    exact dss_cons (ds_newL nd)
          (dss_cons (ds_for PassesOwn.never rfl (di_seq (d_callC (c_all_ways V) hr (by decide) (da_cons (d_var (i := 0)) da_nil))) (dg_tup rfl (dg_cons (dg_name (i := 2) nd) (dg_cons (dg_name (i := 3) nd) dg_nil))) (dss_cons (ds_if (dt_not (d_test (d_any rfl rfl V.B.any (da_cons (d_lc (own := [("least", 4), ("other", 5)]) rfl nd (di_seq (d_var (i := 1))) (blkOk_by (by kernel_rfl)) (fun _ _ _ _ _ => (dg_tup rfl (dg_cons (dg_name (i := 4) nd) (dg_cons (dg_name (i := 5) nd) dg_nil)))) (fun _ _ _ _ _ => dts_nil) (fun _ _ _ _ _ => (d_eqOwn (c_Pipeline_eq V) hr (by decide) (d_var (i := 3)) (d_var (i := 5))))) da_nil)))) (dss_cons (ds_appM (pe_var (i := 1) rfl (by first | exact Or.inl rfl | exact Or.inr (Or.inl rfl) | exact Or.inr (Or.inr rfl))) (d_tup (da_cons (d_var (i := 2)) (da_cons (d_var (i := 3)) da_nil))))
          (dss_nil)) (dss_nil))
          (dss_nil)))
          (dss_cons (ds_ret (d_var (i := 1)))
          (dss_nil))))
theorem sc_most_order : FnScope ["filters", "found", "best", "order", "pipeline", "least", "other"] ["filters"] (defScope (top 77)) := ⟨rfl, rfl, rfl, by decide +kernel, rfl, by decide +kernel, by decide +kernel⟩
def F_most_order : SF :=
  s_seq (s_set (g_name 1) (x_call R_unlike_ways (a_cons (x_var 0) a_nil)))
          (s_seq (s_set (g_name 2) (x_lc (i_seq (x_var 1)) [3, 4] (g_tup 2 (g_cons (g_name 3) (g_cons (g_name 4) g_nil))) (t_val (x_call b_all (a_cons (x_lc (i_seq (x_var 1)) [5, 6] (g_tup 2 (g_cons (g_name 5) (g_cons (g_name 6) g_nil))) t_yes (x_meth 2 R_Pipeline_within (x_var 6) (a_cons (x_var 4) a_nil))) a_nil))) (x_var 3)))
          (s_seq (s_ret (x_if (t_val (x_bin dGt (x_call b_len (a_cons (x_var 2) a_nil)) (x_c (.int 0)))) (x_bin dSub1 (x_var 2) (x_c (.int 0))) (x_c .non)))
          (s_nil)))
def R_most_order : List D → Option D := runD 1 7 F_most_order
theorem k_most_order (V : Ev P w K mg base ca) : Ck P w K mg base ca "most_order" ["filters"] 12 R_most_order :=
  Ck.mk' (N := ["filters", "found", "best", "order", "pipeline", "least", "other"]) V.d_most_order sc_most_order (by decide) (fun f cdv A outer s H E hr => by
    have nd : (["filters", "found", "best", "order", "pipeline", "least", "other"] : List Str).Nodup := sc_most_order.nd
    exact dss_cons (ds_set nd (d_callC (c_unlike_ways V) hr (by decide) (da_cons (d_var (i := 0)) da_nil)))
          (dss_cons (ds_setLc (i := 2) (own := [("order", 3), ("pipeline", 4)]) rfl nd rfl rfl (sw_true rfl rfl rfl (by decide +kernel)) (di_seq (d_var (i := 1))) (blkOk_by (by kernel_rfl)) (fun _ _ _ _ _ => (dg_tup rfl (dg_cons (dg_name (i := 3) nd) (dg_cons (dg_name (i := 4) nd) dg_nil)))) (fun _ _ _ _ _ => dts_one (d_test (d_all rfl rfl V.B.all (da_cons (d_lc (own := [("least", 5), ("other", 6)]) rfl nd (di_seq (d_var (i := 1))) (blkOk_by (by kernel_rfl)) (fun _ _ _ _ _ => (dg_tup rfl (dg_cons (dg_name (i := 5) nd) (dg_cons (dg_name (i := 6) nd) dg_nil)))) (fun _ _ _ _ _ => dts_nil) (fun _ _ _ _ _ => (d_methC (c_Pipeline_within V) hr (by decide) (d_var (i := 6)) (da_cons (d_var (i := 4)) da_nil)))) da_nil)))) (fun _ _ _ _ _ => (d_var (i := 3))))
          (dss_cons (ds_ret (d_ifx (d_gtT (d_len rfl V.B.len (da_cons (d_var (i := 2)) da_nil)) (d_int)) (d_ix (hu_of hr) (d_var (i := 2)) (d_int)) (d_non)))
          (dss_nil))))
theorem c_most_order (V : Ev P w K mg base ca) : Cl P w K mg base ca "most_order" ["filters"] 12 R_most_order := (k_most_order V).cl
theorem sc_least_order : FnScope ["filters", "found", "best", "order", "pipeline", "least", "other"] ["filters"] (defScope (top 78)) := ⟨rfl, rfl, rfl, by decide +kernel, rfl, by decide +kernel, by decide +kernel⟩
def F_least_order : SF :=
  s_seq (s_set (g_name 1) (x_call R_unlike_ways (a_cons (x_var 0) a_nil)))
          (s_seq (s_set (g_name 2) (x_lc (i_seq (x_var 1)) [3, 4] (g_tup 2 (g_cons (g_name 3) (g_cons (g_name 4) g_nil))) (t_val (x_call b_all (a_cons (x_lc (i_seq (x_var 1)) [5, 6] (g_tup 2 (g_cons (g_name 5) (g_cons (g_name 6) g_nil))) t_yes (x_meth 2 R_Pipeline_within (x_var 4) (a_cons (x_var 6) a_nil))) a_nil))) (x_var 3)))
          (s_seq (s_ret (x_if (t_val (x_bin dGt (x_call b_len (a_cons (x_var 2) a_nil)) (x_c (.int 0)))) (x_bin dSub1 (x_var 2) (x_c (.int 0))) (x_c .non)))
          (s_nil)))
def R_least_order : List D → Option D := runD 1 7 F_least_order
theorem k_least_order (V : Ev P w K mg base ca) : Ck P w K mg base ca "least_order" ["filters"] 12 R_least_order :=
  Ck.mk' (N := ["filters", "found", "best", "order", "pipeline", "least", "other"]) V.d_least_order sc_least_order (by decide) (fun f cdv A outer s H E hr => by
    have nd : (["filters", "found", "best", "order", "pipeline", "least", "other"] : List Str).Nodup := sc_least_order.nd
    exact dss_cons (ds_set nd (d_callC (c_unlike_ways V) hr (by decide) (da_cons (d_var (i := 0)) da_nil)))
          (dss_cons (ds_setLc (i := 2) (own := [("order", 3), ("pipeline", 4)]) rfl nd rfl rfl (sw_true rfl rfl rfl (by decide +kernel)) (di_seq (d_var (i := 1))) (blkOk_by (by kernel_rfl)) (fun _ _ _ _ _ => (dg_tup rfl (dg_cons (dg_name (i := 3) nd) (dg_cons (dg_name (i := 4) nd) dg_nil)))) (fun _ _ _ _ _ => dts_one (d_test (d_all rfl rfl V.B.all (da_cons (d_lc (own := [("least", 5), ("other", 6)]) rfl nd (di_seq (d_var (i := 1))) (blkOk_by (by kernel_rfl)) (fun _ _ _ _ _ => (dg_tup rfl (dg_cons (dg_name (i := 5) nd) (dg_cons (dg_name (i := 6) nd) dg_nil)))) (fun _ _ _ _ _ => dts_nil) (fun _ _ _ _ _ => (d_methC (c_Pipeline_within V) hr (by decide) (d_var (i := 4)) (da_cons (d_var (i := 6)) da_nil)))) da_nil)))) (fun _ _ _ _ _ => (d_var (i := 3))))
          (dss_cons (ds_ret (d_ifx (d_gtT (d_len rfl V.B.len (da_cons (d_var (i := 2)) da_nil)) (d_int)) (d_ix (hu_of hr) (d_var (i := 2)) (d_int)) (d_non)))
          (dss_nil))))
theorem c_least_order (V : Ev P w K mg base ca) : Cl P w K mg base ca "least_order" ["filters"] 12 R_least_order := (k_least_order V).cl
end DL
/-! Walks. Printed by gen2.py. -/
namespace DL
open PySem PySem.Spec PyProof.Rows L2
variable {P : Program} {w : World} {K : PySem.W.Frag} {mg : Str → Option Value} {base : Heap} {ca : Nat → Addr}
theorem sc_w_same : FnScope ["_law_got", "_law_goal", "_law_mine_so", "_law_own"] ["_law_got", "_law_goal"] (defScope (top 84)) := ⟨rfl, rfl, rfl, by decide +kernel, rfl, by decide +kernel, by decide +kernel⟩
def F_w_same (rec : List D → Option D) : SF :=
  s_seq (s_if (t_val (x_un dIsLT (x_var 1))) (s_seq (s_if (t_or (t_val (x_bin dNe (x_un dIsL (x_var 0)) (x_un dIsL (x_var 1)))) (t_val (x_bin dNe (x_un dIsT (x_var 0)) (x_un dIsT (x_var 1))))) (s_seq (s_ret (x_c (.bl false)))
          (s_nil)) (s_nil))
          (s_seq (s_ret (x_and (x_bin dEq (x_call b_len (a_cons (x_var 0) a_nil)) (x_call b_len (a_cons (x_var 1) a_nil))) (x_call b_all (a_cons (x_lc (i_zipA (a_cons (x_var 0) (a_cons (x_var 1) a_nil))) [2, 3] (g_tup 2 (g_cons (g_name 2) (g_cons (g_name 3) g_nil))) t_yes (x_call rec (a_cons (x_var 2) (a_cons (x_var 3) a_nil)))) a_nil))))
          (s_nil))) (s_nil))
          (s_seq (s_if (t_or (t_val (x_bin dIsN' (x_var 1) (x_c .non))) (t_val (x_un dIsBS (x_var 1)))) (s_seq (s_ret (x_and (x_bin dEq (x_var 0) (x_var 1)) (x_and (x_bin dEq (x_un dIsB (x_var 0)) (x_un dIsB (x_var 1))) (x_bin dEq (x_bin dIsN' (x_var 0) (x_c .non)) (x_bin dIsN' (x_var 1) (x_c .non))))))
          (s_nil)) (s_nil))
          (s_seq (s_ret (x_and (x_un dIsI (x_var 0)) (x_and (x_not (x_un dIsB (x_var 0))) (x_bin dEq (x_var 0) (x_var 1)))))
          (s_nil)))
def R_w_same : Nat → List D → Option D
  | 0 => runD 2 4 s_never
  | n + 1 => runD 2 4 (F_w_same (R_w_same n))
theorem c_w_same (V : Ev P w K mg base ca) : ∀ n, Cl P w K mg base ca "_law_same" ["_law_got", "_law_goal"] (1 + n) (R_w_same n)
  | 0 => Cl.mk' (N := ["_law_got", "_law_goal", "_law_mine_so", "_law_own"]) V.d_w_same sc_w_same (by decide) fun f cdv A outer s H E hr => dss_never
  | n + 1 => by
    have ih := c_w_same V n
    exact Cl.mk' (N := ["_law_got", "_law_goal", "_law_mine_so", "_law_own"]) V.d_w_same sc_w_same (by decide) (fun f cdv A outer s H E hr => by
      have nd : (["_law_got", "_law_goal", "_law_mine_so", "_law_own"] : List Str).Nodup := sc_w_same.nd
      exact dss_cons (ds_if (d_test (d_isLT V.isi (d_var (i := 1)))) (dss_cons (ds_if (PW.pt (dw_or (d_neT hr.units (d_isL V.isi (d_var (i := 0))) (d_isL V.isi (d_var (i := 1)))) (dw_or1 (d_neT hr.units (d_isT V.isi (d_var (i := 0))) (d_isT V.isi (d_var (i := 1))))))) (dss_cons (ds_ret (d_bl))
            (dss_nil)) (dss_nil))
            (dss_cons (ds_ret (d_and (d_eq hr.units (d_len rfl V.B.len (da_cons (d_var (i := 0)) da_nil)) (d_len rfl V.B.len (da_cons (d_var (i := 1)) da_nil))) (d_one (d_all rfl rfl V.B.all (da_cons (d_lc (own := [("_law_mine_so", 2), ("_law_own", 3)]) rfl nd (di_zip rfl V.B.zip (da_cons (d_var (i := 0)) (da_cons (d_var (i := 1)) da_nil))) (blkOk_by (by kernel_rfl)) (fun _ _ _ _ _ => (dg_tup rfl (dg_cons (dg_name (i := 2) nd) (dg_cons (dg_name (i := 3) nd) dg_nil)))) (fun _ _ _ _ _ => dts_nil) (fun _ _ _ _ _ => (d_callC ih hr (Nat.le_refl _) (da_cons (d_var (i := 2)) (da_cons (d_var (i := 3)) da_nil))))) da_nil)))))
            (dss_nil))) (dss_nil))
            (dss_cons (ds_if (PW.pt (dw_or (d_isNT (d_var (i := 1)) (d_non)) (dw_or1 (d_test (d_isBS V.isi (d_var (i := 1))))))) (dss_cons (ds_ret (d_and (d_eq hr.units (d_var (i := 0)) (d_var (i := 1))) (d_and (d_eq hr.units (d_isB V.isi (d_var (i := 0))) (d_isB V.isi (d_var (i := 1)))) (d_one (d_eq hr.units (d_isN (d_var (i := 0)) (d_non)) (d_isN (d_var (i := 1)) (d_non)))))))
            (dss_nil)) (dss_nil))
            (dss_cons (ds_ret (d_and (d_isI V.isi (d_var (i := 0))) (d_and (d_not (d_isB V.isi (d_var (i := 0)))) (d_one (d_eq hr.units (d_var (i := 0)) (d_var (i := 1)))))))
            (dss_nil))))
theorem sc_w_step_so : FnScope ["_law_stride_here", "_law_sort_so", "_law_what_so"] ["_law_stride_here"] (defScope (top 88)) := ⟨rfl, rfl, rfl, by decide +kernel, rfl, by decide +kernel, by decide +kernel⟩
def F_w_step_so : SF :=
  s_seq (s_set (g_tup 2 (g_cons (g_name 1) (g_cons (g_name 2) g_nil))) (x_var 0))
          (s_seq (s_ret (x_call (fun ds => R_Step_init (ds ++ [])) (a_cons (x_var 1) (a_cons (x_if (t_val (x_bin dIn (x_var 1) (x_tup (a_cons (x_c (.str "drop")) (a_cons (x_c (.str "unwrap")) a_nil))))) (x_call (fun ds => R_Labels_init (ds ++ [])) (a_cons (x_bin dSub1 (x_var 2) (x_c (.int 0))) (a_cons (x_bin dSub1 (x_var 2) (x_c (.int 1))) a_nil))) (x_var 2)) a_nil))))
          (s_nil))
def R_w_step_so : List D → Option D := runD 1 3 F_w_step_so
theorem c_w_step_so (V : Ev P w K mg base ca) : Cl P w K mg base ca "_law_step_so" ["_law_stride_here"] 4 R_w_step_so :=
  Cl.mk' (N := ["_law_stride_here", "_law_sort_so", "_law_what_so"]) V.d_w_step_so sc_w_step_so (by decide) (fun f cdv A outer s H E hr => by
    have nd : (["_law_stride_here", "_law_sort_so", "_law_what_so"] : List Str).Nodup := sc_w_step_so.nd
    exact dss_cons (ds_asg (d_var (i := 0)) (dg_tup rfl (dg_cons (dg_name (i := 1) nd) (dg_cons (dg_name (i := 2) nd) dg_nil))))
          (dss_cons (ds_ret (d_makeC (m_Step2 V) hr (by decide) (da_cons (d_var (i := 1)) (da_cons (d_ifx (d_inT (d_var (i := 1)) (d_tup (da_cons (d_str) (da_cons (d_str) da_nil)))) (d_makeC (m_Labels2 V) hr (by decide) (da_cons (d_ix (hu_of hr) (d_var (i := 2)) (d_int)) (da_cons (d_ix (hu_of hr) (d_var (i := 2)) (d_int)) da_nil))) (d_var (i := 2))) da_nil))))
          (dss_nil)))
theorem sc_w_host : FnScope ["_law_line", "_law_stride_here"] ["_law_line"] (defScope (top 89)) := ⟨rfl, rfl, rfl, by decide +kernel, rfl, by decide +kernel, by decide +kernel⟩
def F_w_host : SF :=
  s_seq (s_ret (x_call (fun ds => R_Pipeline_init (ds ++ [])) (a_cons (x_lc (i_seq (x_var 0)) [1] (g_name 1) t_yes (x_call R_w_step_so (a_cons (x_var 1) a_nil))) a_nil)))
          (s_nil)
def R_w_host : List D → Option D := runD 1 2 F_w_host
theorem c_w_host (V : Ev P w K mg base ca) : Cl P w K mg base ca "_law_host" ["_law_line"] 7 R_w_host :=
  Cl.mk' (N := ["_law_line", "_law_stride_here"]) V.d_w_host sc_w_host (by decide) (fun f cdv A outer s H E hr => by
    have nd : (["_law_line", "_law_stride_here"] : List Str).Nodup := sc_w_host.nd
    exact dss_cons (ds_ret (d_makeC (m_Pipeline1 V) hr (by decide) (da_cons (d_lc (own := [("_law_stride_here", 1)]) rfl nd (di_seq (d_var (i := 0))) (blkOk_by (by kernel_rfl)) (fun _ _ _ _ _ => (dg_name (i := 1) nd)) (fun _ _ _ _ _ => dts_nil) (fun _ _ _ _ _ => (d_callC (c_w_step_so V) hr (by decide) (da_cons (d_var (i := 1)) da_nil)))) da_nil)))
          (dss_nil))
theorem sc_w_lot_says : FnScope ["_law_lot_here", "_law_whole", "_law_own"] ["_law_lot_here"] (defScope (top 90)) := ⟨rfl, rfl, rfl, by decide +kernel, rfl, by decide +kernel, by decide +kernel⟩
def F_w_lot_says : SF :=
  s_seq (s_set (g_name 1) (x_bin dJoin (x_c (.str " ")) (x_call b_sorted (a_cons (x_lc (i_seq (x_bin dSub1 (x_var 0) (x_c (.int 0)))) [2] (g_name 2) t_yes (x_call b_str (a_cons (x_var 2) a_nil))) a_nil))))
          (s_seq (s_if (t_val (x_bin dSub1 (x_var 0) (x_c (.int 1)))) (s_seq (s_ret (x_if (t_val (x_bin dNe (x_var 1) (x_c (.str "")))) (x_bin dAdd (x_c (.str "* - ")) (x_var 1)) (x_c (.str "*"))))
          (s_nil)) (s_nil))
          (s_seq (s_ret (x_if (t_val (x_bin dNe (x_var 1) (x_c (.str "")))) (x_var 1) (x_c (.str "-"))))
          (s_nil)))
def R_w_lot_says : List D → Option D := runD 1 3 F_w_lot_says
theorem c_w_lot_says (V : Ev P w K mg base ca) : Cl P w K mg base ca "_law_lot_says" ["_law_lot_here"] 1 R_w_lot_says :=
  Cl.mk' (N := ["_law_lot_here", "_law_whole", "_law_own"]) V.d_w_lot_says sc_w_lot_says (by decide) (fun f cdv A outer s H E hr => by
    have nd : (["_law_lot_here", "_law_whole", "_law_own"] : List Str).Nodup := sc_w_lot_says.nd
    exact dss_cons (ds_set nd (d_join (d_str) (d_sorted rfl V.B.sorted (da_cons (d_lc (own := [("_law_own", 2)]) rfl nd (di_seq (d_ix (hu_of hr) (d_var (i := 0)) (d_int))) (blkOk_by (by kernel_rfl)) (fun _ _ _ _ _ => (dg_name (i := 2) nd)) (fun _ _ _ _ _ => dts_nil) (fun _ _ _ _ _ => (d_strc rfl V.B.str (da_cons (d_var (i := 2)) da_nil)))) da_nil))))
          (dss_cons (ds_if (d_test (d_ix (hu_of hr) (d_var (i := 0)) (d_int))) (dss_cons (ds_ret (d_ifx (d_neT hr.units (d_var (i := 1)) (d_str)) (d_add (d_str) (d_var (i := 1))) (d_str)))
          (dss_nil)) (dss_nil))
          (dss_cons (ds_ret (d_ifx (d_neT hr.units (d_var (i := 1)) (d_str)) (d_var (i := 1)) (d_str)))
          (dss_nil))))
theorem sc_w_is_in : FnScope ["_law_tag", "_law_lot_here"] ["_law_tag", "_law_lot_here"] (defScope (top 91)) := ⟨rfl, rfl, rfl, by decide +kernel, rfl, by decide +kernel, by decide +kernel⟩
def F_w_is_in : SF :=
  s_seq (s_ret (x_bin dNe (x_bin dIn (x_var 0) (x_bin dSub1 (x_var 1) (x_c (.int 0)))) (x_bin dSub1 (x_var 1) (x_c (.int 1)))))
          (s_nil)
def R_w_is_in : List D → Option D := runD 2 2 F_w_is_in
theorem c_w_is_in (V : Ev P w K mg base ca) : Cl P w K mg base ca "_law_is_in" ["_law_tag", "_law_lot_here"] 1 R_w_is_in :=
  Cl.mk' (N := ["_law_tag", "_law_lot_here"]) V.d_w_is_in sc_w_is_in (by decide) (fun f cdv A outer s H E hr => by
    have nd : (["_law_tag", "_law_lot_here"] : List Str).Nodup := sc_w_is_in.nd
    exact dss_cons (ds_ret (d_ne hr.units (d_in (d_var (i := 0)) (d_ix (hu_of hr) (d_var (i := 1)) (d_int))) (d_ix (hu_of hr) (d_var (i := 1)) (d_int))))
          (dss_nil))
theorem sc_w_fates : FnScope ["_law_line", "_law_here", "_law_room_so", "_law_own", "_law_sort_so", "_law_what_so", "_law_tag"] ["_law_line"] (defScope (top 92)) := ⟨rfl, rfl, rfl, by decide +kernel, rfl, by decide +kernel, by decide +kernel⟩
def F_w_fates : SF :=
  s_seq (s_new2 1 2 (.od [] []) (.od [] []))
          (s_seq (s_for (i_seq (x_lst (a_cons (x_c (.str "a")) (a_cons (x_c (.str "b")) (a_cons (x_c (.str "c")) (a_cons (x_c (.str "p")) (a_cons (x_c (.str "x")) (a_cons (x_c (.str "zz")) a_nil)))))))) (g_name 3) (s_seq (s_dput2 1 2 (x_var 3) (x_var 3) (x_var 3) (x_c .non))
          (s_nil)))
          (s_seq (s_for (i_seq (x_var 0)) (g_tup 2 (g_cons (g_name 4) (g_cons (g_name 5) g_nil))) (s_seq (s_forP (x_lc (i_dic 1 false) [6] (g_name 6) (t_val (x_bin dIsNot' (x_bin dSub1 (x_var 1) (x_var 6)) (x_c .non))) (x_var 6)) (g_name 3) (s_seq (s_if (t_and (t_val (x_bin dEq (x_var 4) (x_c (.str "cut")))) (t_or (t_val (x_bin dIsN' (x_bin dSub1 (x_var 2) (x_var 3)) (x_c .non))) (t_val (x_bin dLe (x_var 5) (x_bin dSub1 (x_var 2) (x_var 3)))))) (s_seq (s_dput 2 (x_var 3) (x_bin dSub (x_var 5) (x_c (.int 1))))
          (s_nil)) (s_seq (s_if (t_val (x_bin dEq (x_var 4) (x_c (.str "rename")))) (s_never) (s_seq (s_if (t_and (t_val (x_bin dIn (x_var 4) (x_tup (a_cons (x_c (.str "drop")) (a_cons (x_c (.str "unwrap")) a_nil))))) (t_val (x_call R_w_is_in (a_cons (x_bin dSub1 (x_var 1) (x_var 3)) (a_cons (x_var 5) a_nil))))) (s_seq (s_dput 1 (x_var 3) (x_c .non))
          (s_seq (s_dput 2 (x_var 3) (x_if (t_val (x_bin dEq (x_var 4) (x_c (.str "drop")))) (x_c (.int 0)) (x_bin dSub1 (x_var 2) (x_var 3))))
          (s_nil))) (s_nil))
          (s_nil)))
          (s_nil)))
          (s_nil)))
          (s_nil)))
          (s_seq (s_if (t_val (x_call b_all (a_cons (x_lc (i_dic 1 false) [3] (g_name 3) t_yes (x_bin dIsN' (x_bin dSub1 (x_var 1) (x_var 3)) (x_c .non))) a_nil))) (s_seq (s_ret (x_un dDictP (x_lc (i_dic 1 false) [3] (g_name 3) t_yes (x_tup (a_cons (x_var 3) (a_cons (x_tup (a_cons (x_c .non) (a_cons (x_c (.int 0)) a_nil))) a_nil))))))
          (s_nil)) (s_nil))
          (s_seq (s_ret (x_un dDictP (x_lc (i_dic 1 false) [3] (g_name 3) t_yes (x_tup (a_cons (x_var 3) (a_cons (x_tup (a_cons (x_bin dSub1 (x_var 1) (x_var 3)) (a_cons (x_bin dSub1 (x_var 2) (x_var 3)) a_nil))) a_nil))))))
          (s_nil)))))
def R_w_fates : List D → Option D := runD 1 7 F_w_fates
theorem c_w_fates (V : Ev P w K mg base ca) : Cl P w K mg base ca "_law_fates" ["_law_line"] 2 R_w_fates :=
  Cl.mk' (N := ["_law_line", "_law_here", "_law_room_so", "_law_own", "_law_sort_so", "_law_what_so", "_law_tag"]) V.d_w_fates sc_w_fates (by decide) (fun f cdv A outer s H E hr => by
    have nd : (["_law_line", "_law_here", "_law_room_so", "_law_own", "_law_sort_so", "_law_what_so", "_law_tag"] : List Str).Nodup := sc_w_fates.nd
    exact dss_cons (ds_newDDc rfl nd)
          (dss_cons (ds_for PassesOwn.never rfl (di_seq (d_lst (da_cons (d_str) (da_cons (d_str) (da_cons (d_str) (da_cons (d_str) (da_cons (d_str) (da_cons (d_str) da_nil)))))))) (dg_name (i := 3) nd) (dss_cons (ds_dput2 (hu_of hr) rfl (pe_var (i := 1) rfl (by first | exact Or.inl rfl | exact Or.inr (Or.inl rfl) | exact Or.inr (Or.inr rfl))) (pe_var (i := 2) rfl (by first | exact Or.inl rfl | exact Or.inr (Or.inl rfl) | exact Or.inr (Or.inr rfl))) (d_var (i := 3)) (d_var (i := 3)) (d_var (i := 3)) (d_non))
          (dss_nil)))
          (dss_cons (ds_for PassesOwn.never rfl (di_seq (d_var (i := 0))) (dg_tup rfl (dg_cons (dg_name (i := 4) nd) (dg_cons (dg_name (i := 5) nd) dg_nil))) (dss_cons (ds_forP PassesOwn.never rfl (d_lcK (own := [("_law_tag", 6)]) rfl nd (di_keys (pe_var (i := 1) rfl (by first | exact Or.inl rfl | exact Or.inr (Or.inl rfl) | exact Or.inr (Or.inr rfl)))) (blkOk_by (by kernel_rfl)) (fun _ _ _ _ _ => (dg_name (i := 6) nd)) (fun _ _ _ _ _ => dts_one (d_isNotT (d_ix (hu_of hr) (d_var (i := 1)) (d_var (i := 6))) (d_non))) (fun _ _ _ _ _ => (d_var (i := 6)))) (dg_name (i := 3) nd) (dss_cons (ds_if (PW.pt (dw_and (d_eqT hr.units (d_var (i := 4)) (d_str)) (dw_and1 (PW.pt (dw_or (d_isNT (d_ix (hu_of hr) (d_var (i := 2)) (d_var (i := 3))) (d_non)) (dw_or1 (d_leT (d_var (i := 5)) (d_ix (hu_of hr) (d_var (i := 2)) (d_var (i := 3)))))))))) (dss_cons (ds_dput (hu_of hr) (pe_var (i := 2) rfl (by first | exact Or.inl rfl | exact Or.inr (Or.inl rfl) | exact Or.inr (Or.inr rfl))) (d_var (i := 3)) (d_sub (d_var (i := 5)) (d_int)))
          (dss_nil)) (dss_cons (ds_if (d_eqT hr.units (d_var (i := 4)) (d_str)) (dss_never) (dss_cons (ds_if (PW.pt (dw_and (d_inT (d_var (i := 4)) (d_tup (da_cons (d_str) (da_cons (d_str) da_nil)))) (dw_and1 (d_test (d_callC (c_w_is_in V) hr (by decide) (da_cons (d_ix (hu_of hr) (d_var (i := 1)) (d_var (i := 3))) (da_cons (d_var (i := 5)) da_nil))))))) (dss_cons (ds_dput (hu_of hr) (pe_var (i := 1) rfl (by first | exact Or.inl rfl | exact Or.inr (Or.inl rfl) | exact Or.inr (Or.inr rfl))) (d_var (i := 3)) (d_non))
          (dss_cons (ds_dput (hu_of hr) (pe_var (i := 2) rfl (by first | exact Or.inl rfl | exact Or.inr (Or.inl rfl) | exact Or.inr (Or.inr rfl))) (d_var (i := 3)) (d_ifx (d_eqT hr.units (d_var (i := 4)) (d_str)) (d_int) (d_ix (hu_of hr) (d_var (i := 2)) (d_var (i := 3)))))
          (dss_nil))) (dss_nil))
          (dss_nil)))
          (dss_nil)))
          (dss_nil)))
          (dss_nil)))
          (dss_cons (ds_if (d_test (d_all rfl rfl V.B.all (da_cons (d_lcK (own := [("_law_own", 3)]) rfl nd (di_keys (pe_var (i := 1) rfl (by first | exact Or.inl rfl | exact Or.inr (Or.inl rfl) | exact Or.inr (Or.inr rfl)))) (blkOk_by (by kernel_rfl)) (fun _ _ _ _ _ => (dg_name (i := 3) nd)) (fun _ _ _ _ _ => dts_nil) (fun _ _ _ _ _ => (d_isN (d_ix (hu_of hr) (d_var (i := 1)) (d_var (i := 3))) (d_non)))) da_nil))) (dss_cons (ds_ret (d_dictP rfl rfl V.B.dict (d_lcK (own := [("_law_own", 3)]) rfl nd (di_keys (pe_var (i := 1) rfl (by first | exact Or.inl rfl | exact Or.inr (Or.inl rfl) | exact Or.inr (Or.inr rfl)))) (blkOk_by (by kernel_rfl)) (fun _ _ _ _ _ => (dg_name (i := 3) nd)) (fun _ _ _ _ _ => dts_nil) (fun _ _ _ _ _ => (d_tup (da_cons (d_var (i := 3)) (da_cons (d_tup (da_cons (d_non) (da_cons (d_int) da_nil))) da_nil)))))))
          (dss_nil)) (dss_nil))
          (dss_cons (ds_ret (d_dictP rfl rfl V.B.dict (d_lcK (own := [("_law_own", 3)]) rfl nd (di_keys (pe_var (i := 1) rfl (by first | exact Or.inl rfl | exact Or.inr (Or.inl rfl) | exact Or.inr (Or.inr rfl)))) (blkOk_by (by kernel_rfl)) (fun _ _ _ _ _ => (dg_name (i := 3) nd)) (fun _ _ _ _ _ => dts_nil) (fun _ _ _ _ _ => (d_tup (da_cons (d_var (i := 3)) (da_cons (d_tup (da_cons (d_ix (hu_of hr) (d_var (i := 1)) (d_var (i := 3))) (da_cons (d_ix (hu_of hr) (d_var (i := 2)) (d_var (i := 3))) da_nil))) da_nil)))))))
          (dss_nil))))))
theorem sc_w_under : FnScope ["_law_mine", "_law_its", "_law_one_so", "_law_two_so", "_law_tag", "_law_far", "_law_room_so", "_law_near", "_law_most_so", "_law_own"] ["_law_mine", "_law_its"] (defScope (top 93)) := ⟨rfl, rfl, rfl, by decide +kernel, rfl, by decide +kernel, by decide +kernel⟩
def F_w_under : SF :=
  s_seq (s_set (g_tup 2 (g_cons (g_name 2) (g_cons (g_name 3) g_nil))) (x_tup (a_cons (x_call R_w_fates (a_cons (x_var 0) a_nil)) (a_cons (x_call R_w_fates (a_cons (x_var 1) a_nil)) a_nil))))
          (s_seq (s_if (t_val (x_call b_all (a_cons (x_lc (i_dic 2 true) [9] (g_name 9) t_yes (x_bin dIsN' (x_bin dSub1 (x_var 9) (x_c (.int 0))) (x_c .non))) a_nil))) (s_seq (s_ret (x_c (.bl true)))
          (s_nil)) (s_nil))
          (s_seq (s_forK 2 false (g_name 4) (s_seq (s_set (g_tup 2 (g_cons (g_tup 2 (g_cons (g_name 5) (g_cons (g_name 6) g_nil))) (g_cons (g_tup 2 (g_cons (g_name 7) (g_cons (g_name 8) g_nil))) g_nil))) (x_tup (a_cons (x_bin dSub1 (x_var 2) (x_var 4)) (a_cons (x_bin dSub1 (x_var 3) (x_var 4)) a_nil))))
          (s_seq (s_if (t_or (t_and (t_val (x_bin dIsNot' (x_var 5) (x_c .non))) (t_val (x_bin dIsN' (x_var 7) (x_c .non)))) (t_and (t_val (x_bin dIsNot' (x_var 8) (x_c .non))) (t_or (t_val (x_bin dIsN' (x_var 6) (x_c .non))) (t_val (x_bin dGt (x_var 6) (x_var 8)))))) (s_seq (s_ret (x_c (.bl false)))
          (s_nil)) (s_nil))
          (s_nil))))
          (s_seq (s_ret (x_c (.bl true)))
          (s_nil))))
def R_w_under : List D → Option D := runD 2 10 F_w_under
theorem c_w_under (V : Ev P w K mg base ca) : Cl P w K mg base ca "_law_under" ["_law_mine", "_law_its"] 3 R_w_under :=
  Cl.mk' (N := ["_law_mine", "_law_its", "_law_one_so", "_law_two_so", "_law_tag", "_law_far", "_law_room_so", "_law_near", "_law_most_so", "_law_own"]) V.d_w_under sc_w_under (by decide) (fun f cdv A outer s H E hr => by
    have nd : (["_law_mine", "_law_its", "_law_one_so", "_law_two_so", "_law_tag", "_law_far", "_law_room_so", "_law_near", "_law_most_so", "_law_own"] : List Str).Nodup := sc_w_under.nd
    exact dss_cons (ds_par rfl nd (by decide) (d_callC (c_w_fates V) hr (by decide) (da_cons (d_var (i := 0)) da_nil)) (d_callC (c_w_fates V) hr (by decide) (da_cons (d_var (i := 1)) da_nil)))
          (dss_cons (ds_if (d_test (d_all rfl rfl V.B.all (da_cons (d_lcK (own := [("_law_own", 9)]) rfl nd (di_vals (pe_var (i := 2) rfl (by first | exact Or.inl rfl | exact Or.inr (Or.inl rfl) | exact Or.inr (Or.inr rfl)))) (blkOk_by (by kernel_rfl)) (fun _ _ _ _ _ => (dg_name (i := 9) nd)) (fun _ _ _ _ _ => dts_nil) (fun _ _ _ _ _ => (d_isN (d_ix (hu_of hr) (d_var (i := 9)) (d_int)) (d_non)))) da_nil))) (dss_cons (ds_ret (d_bl))
          (dss_nil)) (dss_nil))
          (dss_cons (ds_forK PassesOwn.never rfl (di_keys (pe_var (i := 2) rfl (by first | exact Or.inl rfl | exact Or.inr (Or.inl rfl) | exact Or.inr (Or.inr rfl)))) (dg_name (i := 4) nd) (dss_cons (ds_asg (d_tup (da_cons (d_ix (hu_of hr) (d_var (i := 2)) (d_var (i := 4))) (da_cons (d_ix (hu_of hr) (d_var (i := 3)) (d_var (i := 4))) da_nil))) (dg_tup rfl (dg_cons (dg_tup rfl (dg_cons (dg_name (i := 5) nd) (dg_cons (dg_name (i := 6) nd) dg_nil))) (dg_cons (dg_tup rfl (dg_cons (dg_name (i := 7) nd) (dg_cons (dg_name (i := 8) nd) dg_nil))) dg_nil))))
          (dss_cons (ds_if (PW.pt (dw_or (PW.pt (dw_and (d_isNotT (d_var (i := 5)) (d_non)) (dw_and1 (d_isNT (d_var (i := 7)) (d_non))))) (dw_or1 (PW.pt (dw_and (d_isNotT (d_var (i := 8)) (d_non)) (dw_and1 (PW.pt (dw_or (d_isNT (d_var (i := 6)) (d_non)) (dw_or1 (d_gtT (d_var (i := 6)) (d_var (i := 8)))))))))))) (dss_cons (ds_ret (d_bl))
          (dss_nil)) (dss_nil))
          (dss_nil))))
          (dss_cons (ds_ret (d_bl))
          (dss_nil)))))
theorem sc_w_lot_of : FnScope ["_law_tags_so", "_law_own"] ["_law_tags_so"] (defScope (top 94)) := ⟨rfl, rfl, rfl, by decide +kernel, rfl, by decide +kernel, by decide +kernel⟩
def F_w_lot_of : SF :=
  s_seq (s_if (t_val (x_bin dNotIn (x_c (.str "zz")) (x_var 0))) (s_seq (s_ret (x_call R_w_lot_says (a_cons (x_tup (a_cons (x_call b_tuple (a_cons (x_var 0) a_nil)) (a_cons (x_c (.bl false)) a_nil))) a_nil)))
          (s_nil)) (s_nil))
          (s_seq (s_ret (x_call R_w_lot_says (a_cons (x_tup (a_cons (x_call b_tuple (a_cons (x_lc (i_seq (x_lst (a_cons (x_c (.str "a")) (a_cons (x_c (.str "b")) (a_cons (x_c (.str "c")) (a_cons (x_c (.str "p")) (a_cons (x_c (.str "x")) a_nil))))))) [1] (g_name 1) (t_val (x_bin dNotIn (x_var 1) (x_var 0))) (x_var 1)) a_nil)) (a_cons (x_c (.bl true)) a_nil))) a_nil)))
          (s_nil))
def R_w_lot_of : List D → Option D := runD 1 2 F_w_lot_of
theorem c_w_lot_of (V : Ev P w K mg base ca) : Cl P w K mg base ca "_law_lot_of" ["_law_tags_so"] 2 R_w_lot_of :=
  Cl.mk' (N := ["_law_tags_so", "_law_own"]) V.d_w_lot_of sc_w_lot_of (by decide) (fun f cdv A outer s H E hr => by
    have nd : (["_law_tags_so", "_law_own"] : List Str).Nodup := sc_w_lot_of.nd
    exact dss_cons (ds_if (d_notInT (d_str) (d_var (i := 0))) (dss_cons (ds_ret (d_callC (c_w_lot_says V) hr (by decide) (da_cons (d_tup (da_cons (d_tuple rfl V.B.tuple (da_cons (d_var (i := 0)) da_nil)) (da_cons (d_bl) da_nil))) da_nil)))
          (dss_nil)) (dss_nil))
          (dss_cons (ds_ret (d_callC (c_w_lot_says V) hr (by decide) (da_cons (d_tup (da_cons (d_tuple rfl V.B.tuple (da_cons (d_lc (own := [("_law_own", 1)]) rfl nd (di_seq (d_lst (da_cons (d_str) (da_cons (d_str) (da_cons (d_str) (da_cons (d_str) (da_cons (d_str) da_nil))))))) (blkOk_by (by kernel_rfl)) (fun _ _ _ _ _ => (dg_name (i := 1) nd)) (fun _ _ _ _ _ => dts_one (d_notInT (d_var (i := 1)) (d_var (i := 0)))) (fun _ _ _ _ _ => (d_var (i := 1)))) da_nil)) (da_cons (d_bl) da_nil))) da_nil)))
          (dss_nil)))
theorem sc_w_plainly : FnScope ["_law_line", "_law_fates_so", "_law_found", "_law_tail", "_law_gone_so", "_law_deep_so", "_law_word_so", "_law_far", "_law_some_so", "_law_numbers_so", "_law_new_so", "_law_own", "_law_k"] ["_law_line"] (defScope (top 95)) := ⟨rfl, rfl, rfl, by decide +kernel, rfl, by decide +kernel, by decide +kernel⟩
def F_w_plainly : SF :=
  s_seq (s_set (g_tup 3 (g_cons (g_name 1) (g_cons (g_name 2) (g_cons (g_name 3) g_nil)))) (x_tup (a_cons (x_call R_w_fates (a_cons (x_var 0) a_nil)) (a_cons (x_lst a_nil) (a_cons (x_c .non) a_nil)))))
          (s_seq (s_set (g_name 4) (x_lc (i_dic 1 false) [11] (g_name 11) (t_val (x_bin dIsN' (x_bin dSub1 (x_bin dSub1 (x_var 1) (x_var 11)) (x_c (.int 0))) (x_c .non))) (x_var 11)))
          (s_seq (s_if (t_val (x_bin dEq (x_call b_len (a_cons (x_var 4) a_nil)) (x_un dLenDic (x_var 1)))) (s_seq (s_ret (x_c (.str "drop *")))
          (s_nil)) (s_nil))
          (s_seq (s_set (g_name 5) (x_bin dSub1 (x_lc (i_dic 1 false) [11] (g_name 11) (t_val (x_bin dNotIn (x_var 11) (x_var 4))) (x_bin dSub1 (x_bin dSub1 (x_var 1) (x_var 11)) (x_c (.int 1)))) (x_c (.int 0))))
          (s_seq (s_for (i_seq (x_tup (a_cons (x_tup (a_cons (x_c (.str "drop ")) (a_cons (x_c (.int 0)) a_nil))) (a_cons (x_tup (a_cons (x_c (.str "unwrap ")) (a_cons (x_c .non) a_nil))) a_nil)))) (g_tup 2 (g_cons (g_name 6) (g_cons (g_name 7) g_nil))) (s_seq (s_set (g_name 8) (x_lc (i_seq (x_var 4)) [11] (g_name 11) (t_val (x_bin dEq (x_bin dSub1 (x_bin dSub1 (x_var 1) (x_var 11)) (x_c (.int 1))) (x_var 7))) (x_var 11)))
          (s_seq (s_addO 2 (x_var 2) (x_bin dMulL (x_lst (a_cons (x_bin dAdd (x_var 6) (x_call R_w_lot_of (a_cons (x_var 8) a_nil))) a_nil)) (x_call b_int (a_cons (x_bin dNe (x_var 8) (x_lst a_nil)) a_nil))))
          (s_nil))))
          (s_seq (s_set (g_name 9) (x_un dRev (x_call b_sorted (a_cons (x_lc (i_seq (x_var 4)) [11] (g_name 11) t_yes (x_call b_int (a_cons (x_orT (x_bin dSub1 (x_bin dSub1 (x_var 1) (x_var 11)) (x_c (.int 1))) (x_c (.int 0))) a_nil))) a_nil))))
          (s_seq (s_for (i_seq (x_lc (i_enum (x_var 9)) [12, 11] (g_tup 2 (g_cons (g_name 12) (g_cons (g_name 11) g_nil))) (t_and (t_val (x_bin dGt (x_var 11) (x_c (.int 0)))) (t_val (x_bin dNotIn (x_var 11) (x_cut (x_var 9) o_none (o_some (x_var 12)))))) (x_var 11))) (g_name 7) (s_seq (s_set (g_name 8) (x_lc (i_seq (x_var 4)) [11] (g_name 11) (t_val (x_bin dEq (x_bin dSub1 (x_bin dSub1 (x_var 1) (x_var 11)) (x_c (.int 1))) (x_var 7))) (x_var 11)))
          (s_seq (s_addO 2 (x_var 2) (x_lst (a_cons (x_bin dAdd (x_c (.str "cut ")) (x_call b_str (a_cons (x_bin dAdd (x_var 7) (x_c (.int 1))) a_nil))) (a_cons (x_bin dAdd (x_c (.str "unwrap ")) (x_call R_w_lot_of (a_cons (x_var 8) a_nil))) a_nil))))
          (s_seq (s_set (g_name 3) (x_var 7))
          (s_nil)))))
          (s_seq (s_if (t_and (t_val (x_bin dIsNot' (x_var 5) (x_c .non))) (t_val (x_bin dNe (x_var 5) (x_var 3)))) (s_seq (s_app 2 (x_bin dAdd (x_c (.str "cut ")) (x_call b_str (a_cons (x_bin dAdd (x_var 5) (x_c (.int 1))) a_nil))))
          (s_nil)) (s_nil))
          (s_seq (s_set (g_name 10) (x_lc (i_dic 1 false) [11] (g_name 11) (t_and (t_val (x_bin dNotIn (x_var 11) (x_var 4))) (t_val (x_bin dNe (x_bin dSub1 (x_bin dSub1 (x_var 1) (x_var 11)) (x_c (.int 0))) (x_var 11)))) (x_var 11)))
          (s_seq (s_set (g_name 10) (x_lc (i_seq (x_var 10)) [11] (g_name 11) t_yes (x_bin dAdd (x_bin dAdd (x_var 11) (x_c (.str "="))) (x_bin dSub1 (x_bin dSub1 (x_var 1) (x_var 11)) (x_c (.int 0))))))
          (s_seq (s_addO 2 (x_var 2) (x_bin dMulL (x_lst (a_cons (x_bin dAdd (x_c (.str "rename ")) (x_bin dJoin (x_c (.str " ")) (x_call b_sorted (a_cons (x_lc (i_seq (x_var 10)) [11] (g_name 11) t_yes (x_call b_str (a_cons (x_var 11) a_nil))) a_nil)))) a_nil)) (x_call b_int (a_cons (x_bin dNe (x_var 10) (x_lst a_nil)) a_nil))))
          (s_seq (s_ret (x_if (t_val (x_bin dNe (x_var 2) (x_lst a_nil))) (x_bin dJoin (x_c (.str "; ")) (x_var 2)) (x_c (.str "-"))))
          (s_nil))))))))))))
def R_w_plainly : List D → Option D := runD 1 13 F_w_plainly
theorem c_w_plainly (V : Ev P w K mg base ca) : Cl P w K mg base ca "_law_plainly" ["_law_line"] 3 R_w_plainly :=
  Cl.mk' (N := ["_law_line", "_law_fates_so", "_law_found", "_law_tail", "_law_gone_so", "_law_deep_so", "_law_word_so", "_law_far", "_law_some_so", "_law_numbers_so", "_law_new_so", "_law_own", "_law_k"]) V.d_w_plainly sc_w_plainly (by decide) (fun f cdv A outer s H E hr => by
    have nd : (["_law_line", "_law_fates_so", "_law_found", "_law_tail", "_law_gone_so", "_law_deep_so", "_law_word_so", "_law_far", "_law_some_so", "_law_numbers_so", "_law_new_so", "_law_own", "_law_k"] : List Str).Nodup := sc_w_plainly.nd
    exact dss_cons (ds_asg (d_tup (da_cons (d_callC (c_w_fates V) hr (by decide) (da_cons (d_var (i := 0)) da_nil)) (da_cons (d_lst da_nil) (da_cons (d_non) da_nil)))) (dg_tup rfl (dg_cons (dg_name (i := 1) nd) (dg_cons (dg_name (i := 2) nd) (dg_cons (dg_name (i := 3) nd) dg_nil)))))
          (dss_cons (ds_set nd (d_lcK (own := [("_law_own", 11)]) rfl nd (di_keys (pe_var (i := 1) rfl (by first | exact Or.inl rfl | exact Or.inr (Or.inl rfl) | exact Or.inr (Or.inr rfl)))) (blkOk_by (by kernel_rfl)) (fun _ _ _ _ _ => (dg_name (i := 11) nd)) (fun _ _ _ _ _ => dts_one (d_isNT (d_ix (hu_of hr) (d_ix (hu_of hr) (d_var (i := 1)) (d_var (i := 11))) (d_int)) (d_non))) (fun _ _ _ _ _ => (d_var (i := 11)))))
          (dss_cons (ds_if (d_eqT hr.units (d_len rfl V.B.len (da_cons (d_var (i := 4)) da_nil)) (d_lenDic V.B.len (d_var (i := 1)))) (dss_cons (ds_ret (d_str))
          (dss_nil)) (dss_nil))
          (dss_cons (ds_set nd (d_ix (hu_of hr) (d_lcK (own := [("_law_own", 11)]) rfl nd (di_keys (pe_var (i := 1) rfl (by first | exact Or.inl rfl | exact Or.inr (Or.inl rfl) | exact Or.inr (Or.inr rfl)))) (blkOk_by (by kernel_rfl)) (fun _ _ _ _ _ => (dg_name (i := 11) nd)) (fun _ _ _ _ _ => dts_one (d_notInT (d_var (i := 11)) (d_var (i := 4)))) (fun _ _ _ _ _ => (d_ix (hu_of hr) (d_ix (hu_of hr) (d_var (i := 1)) (d_var (i := 11))) (d_int)))) (d_int)))
          (dss_cons (ds_for PassesOwn.never rfl (di_seq (d_tup (da_cons (d_tup (da_cons (d_str) (da_cons (d_int) da_nil))) (da_cons (d_tup (da_cons (d_str) (da_cons (d_non) da_nil))) da_nil)))) (dg_tup rfl (dg_cons (dg_name (i := 6) nd) (dg_cons (dg_name (i := 7) nd) dg_nil))) (dss_cons (ds_setLc (i := 8) (own := [("_law_own", 11)]) rfl nd rfl rfl (sw_true rfl rfl rfl (by decide +kernel)) (di_seq (d_var (i := 4))) (blkOk_by (by kernel_rfl)) (fun _ _ _ _ _ => (dg_name (i := 11) nd)) (fun _ _ _ _ _ => dts_one (d_eqT hr.units (d_ix (hu_of hr) (d_ix (hu_of hr) (d_var (i := 1)) (d_var (i := 11))) (d_int)) (d_var (i := 7)))) (fun _ _ _ _ _ => (d_var (i := 11))))
          (dss_cons (ds_addO nd (d_var (i := 2)) (d_mulL (d_lst (da_cons (d_add (d_var (i := 6)) (d_callC (c_w_lot_of V) hr (by decide) (da_cons (d_var (i := 8)) da_nil))) da_nil)) (d_intc rfl V.B.int (da_cons (d_ne hr.units (d_var (i := 8)) (d_lst da_nil)) da_nil))))
          (dss_nil))))
          (dss_cons (ds_set nd (d_rev (d_sorted rfl V.B.sorted (da_cons (d_lc (own := [("_law_own", 11)]) rfl nd (di_seq (d_var (i := 4))) (blkOk_by (by kernel_rfl)) (fun _ _ _ _ _ => (dg_name (i := 11) nd)) (fun _ _ _ _ _ => dts_nil) (fun _ _ _ _ _ => (d_intc rfl V.B.int (da_cons (d_orT (d_ix (hu_of hr) (d_ix (hu_of hr) (d_var (i := 1)) (d_var (i := 11))) (d_int)) (d_one (d_int))) da_nil)))) da_nil))))
          (dss_cons (ds_for PassesOwn.never rfl (di_seq (d_lc (own := [("_law_k", 12), ("_law_own", 11)]) rfl nd (di_enum rfl V.B.enumerate (d_var (i := 9))) (blkOk_by (by kernel_rfl)) (fun _ _ _ _ _ => (dg_tup rfl (dg_cons (dg_name (i := 12) nd) (dg_cons (dg_name (i := 11) nd) dg_nil)))) (fun _ _ _ _ _ => dts_one (PW.pt (dw_and (d_gtT (d_var (i := 11)) (d_int)) (dw_and1 (d_notInT (d_var (i := 11)) (d_cut (d_var (i := 9)) do_none (do_some (d_var (i := 12))))))))) (fun _ _ _ _ _ => (d_var (i := 11))))) (dg_name (i := 7) nd) (dss_cons (ds_setLc (i := 8) (own := [("_law_own", 11)]) rfl nd rfl rfl (sw_true rfl rfl rfl (by decide +kernel)) (di_seq (d_var (i := 4))) (blkOk_by (by kernel_rfl)) (fun _ _ _ _ _ => (dg_name (i := 11) nd)) (fun _ _ _ _ _ => dts_one (d_eqT hr.units (d_ix (hu_of hr) (d_ix (hu_of hr) (d_var (i := 1)) (d_var (i := 11))) (d_int)) (d_var (i := 7)))) (fun _ _ _ _ _ => (d_var (i := 11))))
          (dss_cons (ds_addO nd (d_var (i := 2)) (d_lst (da_cons (d_add (d_str) (d_strc rfl V.B.str (da_cons (d_add (d_var (i := 7)) (d_int)) da_nil))) (da_cons (d_add (d_str) (d_callC (c_w_lot_of V) hr (by decide) (da_cons (d_var (i := 8)) da_nil))) da_nil))))
          (dss_cons (ds_set nd (d_var (i := 7)))
          (dss_nil)))))
          (dss_cons (ds_if (PW.pt (dw_and (d_isNotT (d_var (i := 5)) (d_non)) (dw_and1 (d_neT hr.units (d_var (i := 5)) (d_var (i := 3)))))) (dss_cons (ds_appM (pe_var (i := 2) rfl (by first | exact Or.inl rfl | exact Or.inr (Or.inl rfl) | exact Or.inr (Or.inr rfl))) (d_add (d_str) (d_strc rfl V.B.str (da_cons (d_add (d_var (i := 5)) (d_int)) da_nil))))
          (dss_nil)) (dss_nil))
          (dss_cons (ds_setLcK (i := 10) (own := [("_law_own", 11)]) rfl nd rfl rfl (sw_true rfl rfl rfl (by decide +kernel)) (di_keys (pe_var (i := 1) rfl (by first | exact Or.inl rfl | exact Or.inr (Or.inl rfl) | exact Or.inr (Or.inr rfl)))) (blkOk_by (by kernel_rfl)) (fun _ _ _ _ _ => (dg_name (i := 11) nd)) (fun _ _ _ _ _ => dts_one (PW.pt (dw_and (d_notInT (d_var (i := 11)) (d_var (i := 4))) (dw_and1 (d_neT hr.units (d_ix (hu_of hr) (d_ix (hu_of hr) (d_var (i := 1)) (d_var (i := 11))) (d_int)) (d_var (i := 11))))))) (fun _ _ _ _ _ => (d_var (i := 11))))
          (dss_cons (ds_setLc (i := 10) (own := [("_law_own", 11)]) rfl nd rfl rfl (sw_true rfl rfl rfl (by decide +kernel)) (di_seq (d_var (i := 10))) (blkOk_by (by kernel_rfl)) (fun _ _ _ _ _ => (dg_name (i := 11) nd)) (fun _ _ _ _ _ => dts_nil) (fun _ _ _ _ _ => (d_add (d_add (d_var (i := 11)) (d_str)) (d_ix (hu_of hr) (d_ix (hu_of hr) (d_var (i := 1)) (d_var (i := 11))) (d_int)))))
          (dss_cons (ds_addO nd (d_var (i := 2)) (d_mulL (d_lst (da_cons (d_add (d_str) (d_join (d_str) (d_sorted rfl V.B.sorted (da_cons (d_lc (own := [("_law_own", 11)]) rfl nd (di_seq (d_var (i := 10))) (blkOk_by (by kernel_rfl)) (fun _ _ _ _ _ => (dg_name (i := 11) nd)) (fun _ _ _ _ _ => dts_nil) (fun _ _ _ _ _ => (d_strc rfl V.B.str (da_cons (d_var (i := 11)) da_nil)))) da_nil)))) da_nil)) (d_intc rfl V.B.int (da_cons (d_ne hr.units (d_var (i := 10)) (d_lst da_nil)) da_nil))))
          (dss_cons (ds_ret (d_ifx (d_neT hr.units (d_var (i := 2)) (d_lst da_nil)) (d_join (d_str) (d_var (i := 2))) (d_str)))
          (dss_nil)))))))))))))
theorem sc_w_orders : FnScope ["_law_numbers_so", "_law_found", "_law_own", "_law_near", "_law_far"] ["_law_numbers_so"] (defScope (top 96)) := ⟨rfl, rfl, rfl, by decide +kernel, rfl, by decide +kernel, by decide +kernel⟩
def F_w_orders (rec : List D → Option D) : SF :=
  s_seq (s_if (t_val (x_bin dEq (x_var 0) (x_tup a_nil))) (s_seq (s_ret (x_lst (a_cons (x_tup a_nil) a_nil)))
          (s_nil)) (s_nil))
          (s_seq (s_set (g_name 1) (x_lst a_nil))
          (s_seq (s_for (i_seq (x_var 0)) (g_name 2) (s_seq (s_set (g_name 1) (x_bin dAdd (x_var 1) (x_lc (i_seq (x_call rec (a_cons (x_call b_tuple (a_cons (x_lc (i_seq (x_var 0)) [3] (g_name 3) (t_val (x_bin dNe (x_var 3) (x_var 2))) (x_var 3)) a_nil)) a_nil))) [4] (g_name 4) t_yes (x_bin dAdd (x_tup (a_cons (x_var 2) a_nil)) (x_var 4)))))
          (s_nil)))
          (s_seq (s_ret (x_var 1))
          (s_nil))))
def R_w_orders : Nat → List D → Option D
  | 0 => runD 1 5 s_never
  | n + 1 => runD 1 5 (F_w_orders (R_w_orders n))
theorem c_w_orders (V : Ev P w K mg base ca) : ∀ n, Cl P w K mg base ca "_law_orders" ["_law_numbers_so"] (1 + n) (R_w_orders n)
  | 0 => Cl.mk' (N := ["_law_numbers_so", "_law_found", "_law_own", "_law_near", "_law_far"]) V.d_w_orders sc_w_orders (by decide) fun f cdv A outer s H E hr => dss_never
  | n + 1 => by
    have ih := c_w_orders V n
    exact Cl.mk' (N := ["_law_numbers_so", "_law_found", "_law_own", "_law_near", "_law_far"]) V.d_w_orders sc_w_orders (by decide) (fun f cdv A outer s H E hr => by
      have nd : (["_law_numbers_so", "_law_found", "_law_own", "_law_near", "_law_far"] : List Str).Nodup := sc_w_orders.nd
      exact dss_cons (ds_if (d_eqT hr.units (d_var (i := 0)) (d_tup da_nil)) (dss_cons (ds_ret (d_lst (da_cons (d_tup da_nil) da_nil)))
            (dss_nil)) (dss_nil))
            (dss_cons (ds_set nd (d_lst da_nil))
            (dss_cons (ds_for PassesOwn.never rfl (di_seq (d_var (i := 0))) (dg_name (i := 2) nd) (dss_cons (ds_set nd (d_add (d_var (i := 1)) (d_lc (own := [("_law_far", 4)]) rfl nd (di_seq (d_callC ih hr (Nat.le_refl _) (da_cons (d_tuple rfl V.B.tuple (da_cons (d_lc (own := [("_law_near", 3)]) rfl nd (di_seq (d_var (i := 0))) (blkOk_by (by kernel_rfl)) (fun _ _ _ _ _ => (dg_name (i := 3) nd)) (fun _ _ _ _ _ => dts_one (d_neT hr.units (d_var (i := 3)) (d_var (i := 2)))) (fun _ _ _ _ _ => (d_var (i := 3)))) da_nil)) da_nil))) (blkOk_by (by kernel_rfl)) (fun _ _ _ _ _ => (dg_name (i := 4) nd)) (fun _ _ _ _ _ => dts_nil) (fun _ _ _ _ _ => (d_add (d_tup (da_cons (d_var (i := 2)) da_nil)) (d_var (i := 4)))))))
            (dss_nil)))
            (dss_cons (ds_ret (d_var (i := 1)))
            (dss_nil)))))
theorem sc_w_row : FnScope ["_law_lines", "_law_order_so", "_law_found", "_law_own"] ["_law_lines", "_law_order_so"] (defScope (top 97)) := ⟨rfl, rfl, rfl, by decide +kernel, rfl, by decide +kernel, by decide +kernel⟩
def F_w_row : SF :=
  s_seq (s_set (g_name 2) (x_tup a_nil))
          (s_seq (s_for (i_seq (x_var 1)) (g_name 3) (s_seq (s_set (g_name 2) (x_bin dAdd (x_var 2) (x_bin dSub1 (x_var 0) (x_var 3))))
          (s_nil)))
          (s_seq (s_ret (x_var 2))
          (s_nil)))
def R_w_row : List D → Option D := runD 2 4 F_w_row
theorem c_w_row (V : Ev P w K mg base ca) : Cl P w K mg base ca "_law_row" ["_law_lines", "_law_order_so"] 1 R_w_row :=
  Cl.mk' (N := ["_law_lines", "_law_order_so", "_law_found", "_law_own"]) V.d_w_row sc_w_row (by decide) (fun f cdv A outer s H E hr => by
    have nd : (["_law_lines", "_law_order_so", "_law_found", "_law_own"] : List Str).Nodup := sc_w_row.nd
    exact dss_cons (ds_set nd (d_tup da_nil))
          (dss_cons (ds_for PassesOwn.never rfl (di_seq (d_var (i := 1))) (dg_name (i := 3) nd) (dss_cons (ds_set nd (d_add (d_var (i := 2)) (d_ix (hu_of hr) (d_var (i := 0)) (d_var (i := 3)))))
          (dss_nil)))
          (dss_cons (ds_ret (d_var (i := 2)))
          (dss_nil))))
theorem sc_w_outcomes : FnScope ["_law_lines", "_law_found", "_law_seen", "_law_order_so", "_law_say_so"] ["_law_lines"] (defScope (top 98)) := ⟨rfl, rfl, rfl, by decide +kernel, rfl, by decide +kernel, by decide +kernel⟩
def F_w_outcomes : SF :=
  s_seq (s_new2 1 2 (.ol []) (.ol []))
          (s_seq (s_for (i_seq (x_call (R_w_orders 6) (a_cons (x_un dTupRange (x_call b_len (a_cons (x_var 0) a_nil))) a_nil))) (g_name 3) (s_seq (s_set (g_name 4) (x_call R_w_plainly (a_cons (x_call R_w_row (a_cons (x_var 0) (a_cons (x_var 3) a_nil))) a_nil)))
          (s_seq (s_if (t_val (x_bin dNotIn (x_var 4) (x_var 2))) (s_seq (s_app 2 (x_var 4))
          (s_seq (s_app 1 (x_tup (a_cons (x_var 3) (a_cons (x_var 4) a_nil))))
          (s_nil))) (s_nil))
          (s_nil))))
          (s_seq (s_ret (x_var 1))
          (s_nil)))
def R_w_outcomes : List D → Option D := runD 1 5 F_w_outcomes
theorem c_w_outcomes (V : Ev P w K mg base ca) : Cl P w K mg base ca "_law_outcomes" ["_law_lines"] 8 R_w_outcomes :=
  Cl.mk' (N := ["_law_lines", "_law_found", "_law_seen", "_law_order_so", "_law_say_so"]) V.d_w_outcomes sc_w_outcomes (by decide) (fun f cdv A outer s H E hr => by
    have nd : (["_law_lines", "_law_found", "_law_seen", "_law_order_so", "_law_say_so"] : List Str).Nodup := sc_w_outcomes.nd
    exact dss_cons (ds_newLL rfl nd (by decide))
          (dss_cons (ds_for PassesOwn.never rfl (di_seq (d_callC (c_w_orders V 6) hr (by decide) (da_cons (d_tupRg V.B.tuple V.B.range (d_len rfl V.B.len (da_cons (d_var (i := 0)) da_nil))) da_nil))) (dg_name (i := 3) nd) (dss_cons (ds_set nd (d_callC (c_w_plainly V) hr (by decide) (da_cons (d_callC (c_w_row V) hr (by decide) (da_cons (d_var (i := 0)) (da_cons (d_var (i := 3)) da_nil))) da_nil)))
          (dss_cons (ds_if (d_notInT (d_var (i := 4)) (d_var (i := 2))) (dss_cons (ds_appM (pe_var (i := 2) rfl (by first | exact Or.inl rfl | exact Or.inr (Or.inl rfl) | exact Or.inr (Or.inr rfl))) (d_var (i := 4)))
          (dss_cons (ds_appM (pe_var (i := 1) rfl (by first | exact Or.inl rfl | exact Or.inr (Or.inl rfl) | exact Or.inr (Or.inr rfl))) (d_tup (da_cons (d_var (i := 3)) (da_cons (d_var (i := 4)) da_nil))))
          (dss_nil))) (dss_nil))
          (dss_nil))))
          (dss_cons (ds_ret (d_var (i := 1)))
          (dss_nil))))
theorem sc_w_by_hand_right : FnScope ["_law_sets_so", "_law_got", "_law_texts_so", "_law_some", "_law_goal", "_law_own"] [] (defScope (top 99)) := ⟨rfl, rfl, rfl, by decide +kernel, rfl, by decide +kernel, by decide +kernel⟩
def F_w_by_hand_right : SF :=
  s_seq (s_set (g_name 0) (x_lst (a_cons (x_tup (a_cons (x_c (.str "cut 2")) (a_cons (x_c (.str "unwrap span")) (a_cons (x_c (.str "drop script")) a_nil)))) a_nil)))
          (s_seq (s_set (g_name 0) (x_bin dAdd (x_var 0) (x_lst (a_cons (x_tup (a_cons (x_c (.str "drop script")) (a_cons (x_c (.str "unwrap script")) (a_cons (x_c (.str "cut 2")) a_nil)))) (a_cons (x_tup (a_cons (x_c (.str "cut 2")) a_nil)) a_nil)))))
          (s_seq (s_set (g_name 0) (x_bin dAdd (x_var 0) (x_lst (a_cons (x_tup (a_cons (x_c (.str "cut 3; unwrap a")) (a_cons (x_c (.str "cut 2; unwrap b")) (a_cons (x_c (.str "cut 1")) a_nil)))) a_nil))))
          (s_seq (s_set (g_name 0) (x_bin dAdd (x_var 0) (x_lst (a_cons (x_tup (a_cons (x_c (.str "cut 3; unwrap a")) (a_cons (x_c (.str "cut 2; unwrap b")) a_nil))) a_nil))))
          (s_seq (s_set (g_name 0) (x_bin dAdd (x_var 0) (x_lst (a_cons (x_tup (a_cons (x_c (.str "drop a; unwrap b")) (a_cons (x_c (.str "drop b; unwrap a")) a_nil))) (a_cons (x_tup (a_cons (x_c (.str "unwrap a")) (a_cons (x_c (.str "drop a")) (a_cons (x_c (.str "drop *")) a_nil)))) a_nil)))))
          (s_seq (s_set (g_name 0) (x_bin dAdd (x_var 0) (x_lst (a_cons (x_tup (a_cons (x_c (.str "cut 1")) (a_cons (x_c (.str "-")) a_nil))) a_nil))))
          (s_seq (s_set (g_name 1) (x_lst a_nil))
          (s_seq (s_for (i_seq (x_var 0)) (g_name 2) (s_seq (s_set (g_name 3) (x_lc (i_seq (x_var 2)) [5] (g_name 5) t_yes (x_call R_Pipeline_of (a_cons (x_var 5) a_nil))))
          (s_seq (s_set (g_name 1) (x_bin dAdd (x_var 1) (x_lst (a_cons (x_call R_most_order (a_cons (x_var 3) a_nil)) (a_cons (x_call R_least_order (a_cons (x_call b_tuple (a_cons (x_var 3) a_nil)) a_nil)) a_nil)))))
          (s_nil))))
          (s_seq (s_set (g_name 4) (x_lst (a_cons (x_tup (a_cons (x_c (.int 1)) (a_cons (x_c (.int 0)) (a_cons (x_c (.int 2)) a_nil)))) (a_cons (x_tup (a_cons (x_c (.int 0)) (a_cons (x_c (.int 1)) (a_cons (x_c (.int 2)) a_nil)))) (a_cons (x_tup (a_cons (x_c (.int 1)) (a_cons (x_c (.int 0)) (a_cons (x_c (.int 2)) a_nil)))) (a_cons (x_tup (a_cons (x_c (.int 0)) (a_cons (x_c (.int 1)) (a_cons (x_c (.int 2)) a_nil)))) (a_cons (x_tup (a_cons (x_c (.int 0)) a_nil)) (a_cons (x_tup (a_cons (x_c (.int 0)) a_nil)) a_nil))))))))
          (s_seq (s_set (g_name 4) (x_bin dAdd (x_var 4) (x_lst (a_cons (x_tup (a_cons (x_c (.int 0)) (a_cons (x_c (.int 1)) (a_cons (x_c (.int 2)) a_nil)))) (a_cons (x_tup (a_cons (x_c (.int 2)) (a_cons (x_c (.int 0)) (a_cons (x_c (.int 1)) a_nil)))) (a_cons (x_tup (a_cons (x_c (.int 0)) (a_cons (x_c (.int 1)) a_nil))) (a_cons (x_tup (a_cons (x_c (.int 1)) (a_cons (x_c (.int 0)) a_nil))) (a_cons (x_c .non) (a_cons (x_c .non) (a_cons (x_tup (a_cons (x_c (.int 0)) (a_cons (x_c (.int 1)) (a_cons (x_c (.int 2)) a_nil)))) (a_cons (x_tup (a_cons (x_c (.int 0)) (a_cons (x_c (.int 1)) (a_cons (x_c (.int 2)) a_nil)))) (a_cons (x_tup (a_cons (x_c (.int 0)) (a_cons (x_c (.int 1)) a_nil))) a_nil))))))))))))
          (s_seq (s_set (g_name 4) (x_bin dAdd (x_var 4) (x_lst (a_cons (x_tup (a_cons (x_c (.int 0)) (a_cons (x_c (.int 1)) a_nil))) a_nil))))
          (s_seq (s_ret (x_call (R_w_same 4) (a_cons (x_bin dAdd (x_var 1) (x_lst (a_cons (x_call R_most_order (a_cons (x_lst (a_cons (x_call (fun ds => R_Pipeline_init (ds ++ [.tup []])) a_nil) a_nil)) a_nil)) a_nil))) (a_cons (x_bin dAdd (x_var 4) (x_lst (a_cons (x_tup (a_cons (x_c (.int 0)) a_nil)) a_nil))) a_nil))))
          (s_nil))))))))))))
def R_w_by_hand_right : List D → Option D := runD 0 6 F_w_by_hand_right
theorem c_w_by_hand_right (V : Ev P w K mg base ca) : Cl P w K mg base ca "_law_by_hand_right" [] 13 R_w_by_hand_right :=
  Cl.mk' (N := ["_law_sets_so", "_law_got", "_law_texts_so", "_law_some", "_law_goal", "_law_own"]) V.d_w_by_hand_right sc_w_by_hand_right (by decide) (fun f cdv A outer s H E hr => by
    have nd : (["_law_sets_so", "_law_got", "_law_texts_so", "_law_some", "_law_goal", "_law_own"] : List Str).Nodup := sc_w_by_hand_right.nd
    exact dss_cons (ds_set nd (d_lst (da_cons (d_tup (da_cons (d_str) (da_cons (d_str) (da_cons (d_str) da_nil)))) da_nil)))
          (dss_cons (ds_set nd (d_add (d_var (i := 0)) (d_lst (da_cons (d_tup (da_cons (d_str) (da_cons (d_str) (da_cons (d_str) da_nil)))) (da_cons (d_tup (da_cons (d_str) da_nil)) da_nil)))))
          (dss_cons (ds_set nd (d_add (d_var (i := 0)) (d_lst (da_cons (d_tup (da_cons (d_str) (da_cons (d_str) (da_cons (d_str) da_nil)))) da_nil))))
          (dss_cons (ds_set nd (d_add (d_var (i := 0)) (d_lst (da_cons (d_tup (da_cons (d_str) (da_cons (d_str) da_nil))) da_nil))))
          (dss_cons (ds_set nd (d_add (d_var (i := 0)) (d_lst (da_cons (d_tup (da_cons (d_str) (da_cons (d_str) da_nil))) (da_cons (d_tup (da_cons (d_str) (da_cons (d_str) (da_cons (d_str) da_nil)))) da_nil)))))
          (dss_cons (ds_set nd (d_add (d_var (i := 0)) (d_lst (da_cons (d_tup (da_cons (d_str) (da_cons (d_str) da_nil))) da_nil))))
          (dss_cons (ds_set nd (d_lst da_nil))
          (dss_cons (ds_for PassesOwn.never rfl (di_seq (d_var (i := 0))) (dg_name (i := 2) nd) (dss_cons (ds_setLc (i := 3) (own := [("_law_own", 5)]) rfl nd rfl rfl (sw_true rfl rfl rfl (by decide +kernel)) (di_seq (d_var (i := 2))) (blkOk_by (by kernel_rfl)) (fun _ _ _ _ _ => (dg_name (i := 5) nd)) (fun _ _ _ _ _ => dts_nil) (fun _ _ _ _ _ => (d_static (c_Pipeline_of V) hr (by decide) (da_cons (d_var (i := 5)) da_nil))))
          (dss_cons (ds_set nd (d_add (d_var (i := 1)) (d_lst (da_cons (d_callC (c_most_order V) hr (by decide) (da_cons (d_var (i := 3)) da_nil)) (da_cons (d_callKw (k_least_order V) hr (by decide) (d_tuple rfl V.B.tuple (da_cons (d_var (i := 3)) da_nil)) rfl) da_nil)))))
          (dss_nil))))
          (dss_cons (ds_set nd (d_lst (da_cons (d_tup (da_cons (d_int) (da_cons (d_int) (da_cons (d_int) da_nil)))) (da_cons (d_tup (da_cons (d_int) (da_cons (d_int) (da_cons (d_int) da_nil)))) (da_cons (d_tup (da_cons (d_int) (da_cons (d_int) (da_cons (d_int) da_nil)))) (da_cons (d_tup (da_cons (d_int) (da_cons (d_int) (da_cons (d_int) da_nil)))) (da_cons (d_tup (da_cons (d_int) da_nil)) (da_cons (d_tup (da_cons (d_int) da_nil)) da_nil))))))))
          (dss_cons (ds_set nd (d_add (d_var (i := 4)) (d_lst (da_cons (d_tup (da_cons (d_int) (da_cons (d_int) (da_cons (d_int) da_nil)))) (da_cons (d_tup (da_cons (d_int) (da_cons (d_int) (da_cons (d_int) da_nil)))) (da_cons (d_tup (da_cons (d_int) (da_cons (d_int) da_nil))) (da_cons (d_tup (da_cons (d_int) (da_cons (d_int) da_nil))) (da_cons (d_non) (da_cons (d_non) (da_cons (d_tup (da_cons (d_int) (da_cons (d_int) (da_cons (d_int) da_nil)))) (da_cons (d_tup (da_cons (d_int) (da_cons (d_int) (da_cons (d_int) da_nil)))) (da_cons (d_tup (da_cons (d_int) (da_cons (d_int) da_nil))) da_nil))))))))))))
          (dss_cons (ds_set nd (d_add (d_var (i := 4)) (d_lst (da_cons (d_tup (da_cons (d_int) (da_cons (d_int) da_nil))) da_nil))))
          (dss_cons (ds_ret (d_callC (c_w_same V 4) hr (by decide) (da_cons (d_add (d_var (i := 1)) (d_lst (da_cons (d_callKw (k_most_order V) hr (by decide) (d_lst (da_cons (d_makeC0 (m_Pipeline0 V) hr (by decide)) da_nil)) rfl) da_nil))) (da_cons (d_add (d_var (i := 4)) (d_lst (da_cons (d_tup (da_cons (d_int) da_nil)) da_nil))) da_nil))))
          (dss_nil)))))))))))))
end DL
/-! Equal data, decided. -/
namespace DL
open PySem PySem.Spec PyProof.Rows L2
mutual
def beqD : D → D → Bool
  | .non, .non => true
  | .bl a, .bl b => a == b
  | .int a, .int b => a == b
  | .str a, .str b => a == b
  | .tup a, .tup b => beqDs a b
  | .lst a, .lst b => beqDs a b
  | .dic k a, .dic l b => k == l && beqDs a b
  | .obj c a, .obj d b => c == d && beqDs a b
  | _, _ => false
def beqDs : List D → List D → Bool
  | [], [] => true
  | a :: as, b :: bs => beqD a b && beqDs as bs
  | _, _ => false
end
mutual
theorem beqD_eq : ∀ (a b : D), beqD a b = true → a = b
  | .non, b, h => by cases b <;> first | rfl | cases h
  | .bl x, b, h => by
    cases b <;> first | (cases h; done) | skip
    rw [show x = _ from by simpa [beqD] using h]
  | .int x, b, h => by
    cases b <;> first | (cases h; done) | skip
    rw [show x = _ from by simpa [beqD] using h]
  | .str x, b, h => by
    cases b <;> first | (cases h; done) | skip
    rw [show x = _ from by simpa [beqD] using h]
  | .tup x, b, h => by
    cases b <;> first | (cases h; done) | skip
    rw [beqDs_eq x _ (by simpa [beqD] using h)]
  | .lst x, b, h => by
    cases b <;> first | (cases h; done) | skip
    rw [beqDs_eq x _ (by simpa [beqD] using h)]
  | .dic k x, b, h => by
    cases b <;> first | (cases h; done) | skip
    rename_i l y
    have h' : k = l ∧ beqDs x y = true := by simpa [beqD] using h
    rw [h'.1, beqDs_eq x y h'.2]
  | .obj k x, b, h => by
    cases b <;> first | (cases h; done) | skip
    rename_i l y
    have h' : k = l ∧ beqDs x y = true := by simpa [beqD] using h
    rw [h'.1, beqDs_eq x y h'.2]
theorem beqDs_eq : ∀ (a b : List D), beqDs a b = true → a = b
  | [], b, h => by cases b <;> first | rfl | cases h
  | x :: xs, b, h => by
    cases b with
    | nil => cases h
    | cons y ys =>
      have h' : beqD x y = true ∧ beqDs xs ys = true := by simpa [beqDs] using h
      rw [beqD_eq x y h'.1, beqDs_eq xs ys h'.2]
end
abbrev Fa := Bool × Option Nat
def LBL : List Str := ["a", "b", "c", "p"]
def dR : Option Nat → D | none => .non | some k => .int (k : Nat)
def ent (n : Str) (f : Fa) : D := .tup [.str n, if f.1 = true then .str n else .non, dR f.2]
def can (g : List Fa) (r : Fa) : D := .tup [.tup ((LBL.zip g).filterMap fun p => if p.2 = r then none else some (ent p.1 p.2)), .tup [.bl r.1, dR r.2]]
def chkPlain (g : List Fa) (r : Fa) : Bool := match R_plain_steps [can g r] with
  | some s => match R_form_of_steps [s] with | some f => beqD f (can g r) | none => false
  | none => false
def goneRooms : Option Nat → List (Option Nat)
  | none => [none, some 0]
  | some 0 => [none, some 0, some 1, some 2, some 3]
  | some 1 => [none, some 0, some 1, some 2, some 3]
  | some 2 => [none, some 0, some 2, some 3]
  | some 3 => [none, some 0, some 3]
  | _ => []
def fasOf (h : Option Nat) : List Fa := (true, h) :: (goneRooms h).map fun r => (false, r)
def allOK (h : Option Nat) (r a b : Fa) : Bool := (fasOf h).all fun c => (fasOf h).all fun p => chkPlain [a, b, c, p] r
end DL
/-! Evaluating the words. -/
namespace DL
open PySem PySem.Spec PyProof.Rows L2
section
variable {ρ : Rho} {σ : RhoS} {f f1 f2 : Rho → Option D} {r : Rho → Option (List D)} {t s : Rho → Option Bool} {F F1 F2 : SF} {o : Out} {d d1 d2 : D} {ds : List D}
theorem run_rt {n N : Nat} (h : F (ds.map Sl.d ++ List.replicate (N - n) Sl.un) = some (.rt d)) (hl : ds.length = n := by rfl) : runD n N F ds = some d := by
  unfold runD
  rw [if_pos hl, h]
  rfl
theorem run_nx {n N : Nat} {σ' : RhoS} (h : F (ds.map Sl.d ++ List.replicate (N - n) Sl.un) = some (.nx σ')) (hl : ds.length = n := by rfl) : runD n N F ds = some .non := by
  unfold runD
  rw [if_pos hl, h]
  rfl
theorem q_seq {σ' : RhoS} (h1 : F1 σ = some (.nx σ')) (h2 : F2 σ' = some o) : s_seq F1 F2 σ = some o := by
  unfold s_seq
  rw [h1]
  exact h2
theorem q_seqR (h1 : F1 σ = some (.rt d)) : s_seq F1 F2 σ = some (.rt d) := by
  unfold s_seq
  rw [h1]
  rfl
theorem q_set {g : Tgt} {us : List (Nat × D)} (h1 : f (mask σ) = some d) (h2 : g d = some us) (h3 : F (setS σ us) = some o) : s_seq (s_set g f) F σ = some o := by
  unfold s_seq s_set
  rw [h1, Option.bind_some, h2]
  exact h3
theorem q_ret (h1 : f (peek σ) = some d) : s_seq (s_ret f) F σ = some (.rt d) := by
  unfold s_seq s_ret
  rw [h1]
  rfl
theorem q_ifT (h : t (peek σ) = some true) (h1 : F1 σ = some (.rt d)) : s_seq (s_if t F1 F2) F σ = some (.rt d) := by
  unfold s_seq s_if
  rw [h, Option.bind_some, if_pos rfl, h1]
  rfl
theorem q_ifF (h : t (peek σ) = some false) (h1 : F σ = some o) : s_seq (s_if t F1 s_nil) F σ = some o := by
  unfold s_seq s_if
  rw [h, Option.bind_some, if_neg Bool.false_ne_true]
  exact h1
theorem q_if {b : Bool} {σ' : RhoS} (h : t (peek σ) = some b) (h1 : (if b = true then F1 σ else F2 σ) = some (.nx σ')) (h2 : F σ' = some o) : s_seq (s_if t F1 F2) F σ = some o := by
  unfold s_seq s_if
  rw [h, Option.bind_some, h1]
  exact h2
theorem q_for {it : Rho → Option (List D)} {g : Tgt} {xs : List D} {σ' : RhoS} (h : it (mask σ) = some xs) (hl : xs.length ≤ LIM) (h1 : forGo g F1 xs σ = some (.nx σ')) (h2 : F σ' = some o) : s_seq (s_for it g F1) F σ = some o := by
  unfold s_seq s_for
  rw [h, Option.bind_some, if_pos hl, h1]
  exact h2
theorem q_forR {it : Rho → Option (List D)} {g : Tgt} {xs : List D} (h : it (mask σ) = some xs) (hl : xs.length ≤ LIM) (h1 : forGo g F1 xs σ = some (.rt d)) : s_seq (s_for it g F1) F σ = some (.rt d) := by
  unfold s_seq s_for
  rw [h, Option.bind_some, if_pos hl, h1]
  rfl
theorem f_nil {g : Tgt} : forGo g F [] σ = some (.nx σ) := rfl
theorem f_cons {g : Tgt} {x : D} {xs : List D} {us : List (Nat × D)} {σ' : RhoS} (h1 : g x = some us) (h2 : F (setS σ us) = some (.nx σ')) (h3 : forGo g F xs σ' = some o) : forGo g F (x :: xs) σ = some o := by
  unfold forGo
  rw [h1, Option.bind_some, h2]
  exact h3
theorem f_consR {g : Tgt} {x : D} {xs : List D} {us : List (Nat × D)} (h1 : g x = some us) (h2 : F (setS σ us) = some (.rt d)) : forGo g F (x :: xs) σ = some (.rt d) := by
  unfold forGo
  rw [h1, Option.bind_some, h2]
  rfl
theorem e_un {g : D → Option D} (h : f ρ = some d) (h2 : g d = some d1) : x_un g f ρ = some d1 := by unfold x_un; rw [h]; exact h2
theorem e_bin {g : D → D → Option D} {e : D} (h1 : f1 ρ = some d1) (h2 : f2 ρ = some d2) (h : g d1 d2 = some e) : x_bin g f1 f2 ρ = some e := by unfold x_bin; rw [h1, Option.bind_some, h2]; exact h
theorem e_call {g : List D → Option D} (h : r ρ = some ds) (h2 : g ds = some d) : x_call g r ρ = some d := by unfold x_call; rw [h]; exact h2
theorem e_cons (h : f ρ = some d) (h2 : r ρ = some ds) : a_cons f r ρ = some (d :: ds) := by unfold a_cons; rw [h, Option.bind_some, h2]; rfl
theorem e_star {es : List D} (h : f ρ = some d) (hi : itemsOf d = some es) (h2 : r ρ = some ds) : a_star f r ρ = some (es ++ ds) := by unfold a_star; rw [h, Option.bind_some, hi, Option.bind_some, h2]; rfl
theorem e_nil : a_nil ρ = some [] := rfl
theorem e_tup (h : r ρ = some ds) (hl : ds.length ≤ LIM) : x_tup r ρ = some (.tup ds) := by unfold x_tup lim; rw [h, Option.bind_some, if_pos hl]
theorem e_lst (h : r ρ = some ds) (hl : ds.length ≤ LIM) : x_lst r ρ = some (.lst ds) := by unfold x_lst lim; rw [h, Option.bind_some, if_pos hl]
theorem e_val {b : Bool} (h : f ρ = some (.bl b)) : t_val f ρ = some b := by unfold t_val; rw [h]; rfl
theorem e_and {a b : Bool} (h1 : s ρ = some a) (h2 : a = true → t ρ = some b) : t_and s t ρ = some (a && b) := by
  unfold t_and
  rw [h1, Option.bind_some]
  cases a with
  | true => rw [if_pos rfl, h2 rfl]; rfl
  | false => rfl
theorem e_or {a b : Bool} (h1 : s ρ = some a) (h2 : a = false → t ρ = some b) : t_or s t ρ = some (a || b) := by
  unfold t_or
  rw [h1, Option.bind_some]
  cases a with
  | true => rfl
  | false => rw [if_neg Bool.false_ne_true, h2 rfl]; rfl
theorem e_not {a : Bool} (h1 : s ρ = some a) : t_not s ρ = some (!a) := by unfold t_not; rw [h1]; rfl
theorem e_if {b : Bool} (h : t ρ = some b) (h1 : b = true → f1 ρ = some d) (h2 : b = false → f2 ρ = some d) : x_if t f1 f2 ρ = some d := by
  unfold x_if
  rw [h, Option.bind_some]
  cases b with
  | true => rw [if_pos rfl]; exact h1 rfl
  | false => rw [if_neg Bool.false_ne_true]; exact h2 rfl
theorem e_xand {a : Bool} (h1 : f1 ρ = some (.bl a)) (h2 : a = true → f2 ρ = some (.bl d1b)) : x_and f1 f2 ρ = some (.bl (a && d1b)) := by
  unfold x_and
  rw [e_val h1, Option.bind_some]
  cases a with
  | true => rw [if_pos rfl, h2 rfl]; rfl
  | false => rfl
theorem e_xor {a b : Bool} (h1 : f1 ρ = some (.bl a)) (h2 : a = false → f2 ρ = some (.bl b)) : x_or f1 f2 ρ = some (.bl (a || b)) := by
  unfold x_or
  rw [e_val h1, Option.bind_some]
  cases a with
  | true => rfl
  | false => rw [if_neg Bool.false_ne_true, h2 rfl]; rfl
theorem e_xnot {a : Bool} (h : f ρ = some (.bl a)) : x_not f ρ = some (.bl (!a)) := by unfold x_not; rw [e_val h]; rfl
theorem lcGo_ok {α : Type} {turn : D → Option (Option D)} {φ : α → D} {ψ : α → Option D} : ∀ {l : List α}, (∀ a ∈ l, turn (φ a) = some (ψ a)) → lcGo turn (l.map φ) = some (l.filterMap ψ)
  | [], _ => rfl
  | a :: l, h => by
    show (turn (φ a)).bind _ = _
    rw [h a List.mem_cons_self, Option.bind_some, lcGo_ok (fun b hb => h b (List.mem_cons_of_mem _ hb)), Option.bind_some, List.filterMap_cons]
    cases ψ a <;> rfl
theorem e_lc {α : Type} {it : Rho → Option (List D)} {own : List Nat} {g : Tgt} {l : List α} (φ : α → D) (ψ : α → Option D) (hi : it ρ = some (l.map φ)) (h : ∀ a ∈ l, lcTurn ρ own g t f (φ a) = some (ψ a)) (hl : l.length ≤ LIM) : x_lc it own g t f ρ = some (.lst (l.filterMap ψ)) := by
  unfold x_lc
  rw [hi, Option.bind_some, if_pos (by rw [List.length_map]; exact hl), lcGo_ok h]
  rfl
/-- every turn gives one -/
theorem e_lcM {α : Type} {it : Rho → Option (List D)} {own : List Nat} {g : Tgt} {l : List α} (φ : α → D) (ψ : α → D) (hi : it ρ = some (l.map φ)) (h : ∀ a ∈ l, lcTurn ρ own g t f (φ a) = some (some (ψ a))) (hl : l.length ≤ LIM) : x_lc it own g t f ρ = some (.lst (l.map ψ)) := by
  rw [e_lc φ (fun a => some (ψ a)) hi h hl]
  congr 2
  induction l with
  | nil => rfl
  | cons a l ih => rw [List.filterMap_cons, List.map_cons, ← List.filterMap_eq_map]; rfl
theorem e_turn {own : List Nat} {g : Tgt} {us : List (Nat × D)} {b : Bool} {y : Option D} (hg : g d = some us) (hu : (us.all fun u => own.contains u.1) = true) (ht : t (setR (wipeR ρ own) us) = some b) (hT : b = true → ∃ z, f (setR (wipeR ρ own) us) = some z ∧ y = some z) (hF : b = false → y = none) : lcTurn ρ own g t f d = some y := by
  unfold lcTurn
  rw [hg, Option.bind_some, if_pos hu, ht, Option.bind_some]
  cases b with
  | true => obtain ⟨z, h1, h2⟩ := hT rfl; rw [if_pos rfl, h1, h2]; rfl
  | false => rw [if_neg Bool.false_ne_true, hF rfl]
theorem e_turn1 {own : List Nat} {g : Tgt} {us : List (Nat × D)} {z : D} (hg : g d = some us) (hu : (us.all fun u => own.contains u.1) = true) (hf : f (setR (wipeR ρ own) us) = some z) : lcTurn ρ own g t_yes f d = some (some z) := e_turn hg hu rfl (fun _ => ⟨z, hf, rfl⟩) (fun h => by cases h)
end
end DL
/-! What the defs about rooms compute. -/
namespace DL
open PySem PySem.Spec PyProof.Rows L2
def fin (n : Str) (b : Bool) : D := if b = true then .str n else .non
def pr (n : Str) (f : Fa) : D := .tup [fin n f.1, dR f.2]
def entP (p : Str × Fa) : D := .tup [.str p.1, fin p.1 p.2.1, dR p.2.2]
def restD (r : Fa) : D := .tup [.bl r.1, dR r.2]
def encF (t : List (Str × Fa)) (r : Fa) : D := .tup [.tup (t.map entP), restD r]
def look : List (Str × Fa) → Fa → Str → Fa
  | [], r, _ => r
  | p :: t, r, n => if p.1 = n then p.2 else look t r n
/-! equal data -/
def okS (n : Str) : Prop := PyData.strOk n = true
theorem shaped_str {n : Str} (h : okS n) : SeqAt.shaped (py (.str n)) = true := by
  unfold SeqAt.shaped
  show (PyData.strOk n && true) = true
  rw [h]
  rfl
theorem shaped_pr {n : Str} (h : okS n) (f : Fa) : SeqAt.shaped (py (pr n f)) = true := by
  obtain ⟨a, b⟩ := f
  have h' : PyData.strOk n = true := h
  cases a with
  | false => cases b <;> rfl
  | true =>
    cases b
    · show ((PyData.strOk n && (true && true)) && true) = true
      rw [h']; rfl
    · show ((PyData.strOk n && (true && true)) && true) = true
      rw [h']; rfl
theorem eq_str {a b : Str} (ha : okS a) (hb : okS b) : dEq (.str a) (.str b) = some (.bl (a == b)) := by
  unfold dEq
  rw [shaped_str ha, shaped_str hb, Bool.and_self, if_pos rfl]
  rfl
theorem eqv_pr {n : Str} (f g : Fa) : PyData.eqv (py (pr n f)) (py (pr n g)) = decide (f = g) := by
  obtain ⟨a, b⟩ := f
  obtain ⟨c, d⟩ := g
  have hs : (n == n) = true := beq_self_eq_true n
  have ki : ∀ (x y : Option Nat), PyData.eqv (py (dR x)) (py (dR y)) = decide (x = y) := fun x y => by
    cases x <;> cases y
    · rfl
    · rfl
    · rfl
    · rename_i u v
      show ((u : Int) == (v : Int)) = decide (some u = some v)
      by_cases e : u = v
      · subst e; simp
      · rw [decide_eq_false (fun z => e (Option.some.inj z))]
        exact beq_eq_false_iff_ne.mpr (by omega)
  show (PyData.eqv (py (fin n a)) (py (fin n c)) && (PyData.eqv (py (dR b)) (py (dR d)) && true)) = _
  rw [ki]
  cases a <;> cases c
  · show (true && (decide (b = d) && true)) = _
    simp
  · show (false && (decide (b = d) && true)) = _
    simp
  · show (false && (decide (b = d) && true)) = _
    simp
  · show ((n == n) && (decide (b = d) && true)) = _
    rw [hs]; simp
theorem ne_pr {n : Str} (h : okS n) (f g : Fa) : dNe (pr n f) (pr n g) = some (.bl (!decide (f = g))) := by
  unfold dNe
  rw [shaped_pr h, shaped_pr h, Bool.and_self, if_pos rfl, eqv_pr]
def okT (t : List (Str × Fa)) : Prop := ∀ p ∈ t, okS p.1
theorem dIsN_fin (n : Str) (b : Bool) : dIsN' (fin n b) .non = some (.bl (!b)) := by cases b <;> rfl
theorem dIsNot_fin (n : Str) (b : Bool) : dIsNot' (fin n b) .non = some (.bl b) := by cases b <;> rfl
theorem m_entry_in (t : List (Str × Fa)) (r : Fa) (n : Str) (hl : t.length ≤ LIM) (ht : okT t) (hn : okS n) : R_entry_in [encF t r, .str n] = some (pr n (look t r n)) := by
  have key : ∀ (t' : List (Str × Fa)) (_ : okT t') (fm a b c : Sl) (d : Sl),
      (∃ f, look t' r n = f ∧ forGo (g_tup 3 (g_cons (g_name 2) (g_cons (g_name 3) (g_cons (g_name 4) g_nil)))) (s_seq (s_if (t_val (x_bin dEq (x_var 2) (x_var 1))) (s_seq (s_ret (x_tup (a_cons (x_var 3) (a_cons (x_var 4) a_nil)))) s_nil) s_nil) s_nil) (t'.map entP) [fm, .d (.str n), a, b, c, d] = some (.rt (pr n f))) ∨
      (look t' r n = r ∧ ∃ a' b' c', forGo (g_tup 3 (g_cons (g_name 2) (g_cons (g_name 3) (g_cons (g_name 4) g_nil)))) (s_seq (s_if (t_val (x_bin dEq (x_var 2) (x_var 1))) (s_seq (s_ret (x_tup (a_cons (x_var 3) (a_cons (x_var 4) a_nil)))) s_nil) s_nil) s_nil) (t'.map entP) [fm, .d (.str n), a, b, c, d] = some (.nx [fm, .d (.str n), a', b', c', d])) := by
    intro t'
    induction t' with
    | nil => intro _ fm a b c d; exact .inr ⟨rfl, a, b, c, rfl⟩
    | cons p t' ih =>
      intro hk fm a b c d
      have hp := hk p List.mem_cons_self
      have hk' : okT t' := fun q hq => hk q (List.mem_cons_of_mem _ hq)
      by_cases h : p.1 = n
      · refine .inl ⟨p.2, by unfold look; rw [if_pos h], ?_⟩
        rw [List.map_cons]
        refine f_consR (us := [(2, .str p.1), (3, fin p.1 p.2.1), (4, dR p.2.2)]) rfl (q_ifT ?_ (q_ret ?_))
        · exact e_val (e_bin (d1 := .str p.1) (d2 := .str n) rfl rfl (by rw [eq_str hp hn, h, beq_self_eq_true]))
        · rw [← h]; exact e_tup (e_cons rfl (e_cons rfl e_nil)) (show 2 ≤ LIM by decide)
      · rcases ih hk' fm (.d (.str p.1)) (.d (fin p.1 p.2.1)) (.d (dR p.2.2)) d with ⟨f, h1, h2⟩ | ⟨h1, a', b', c', h2⟩
        · refine .inl ⟨f, by unfold look; rw [if_neg h]; exact h1, ?_⟩
          rw [List.map_cons]
          exact f_cons (us := [(2, .str p.1), (3, fin p.1 p.2.1), (4, dR p.2.2)]) rfl (q_ifF (e_val (e_bin (d1 := .str p.1) (d2 := .str n) rfl rfl (by rw [eq_str hp hn, beq_eq_false_iff_ne.mpr h]))) rfl) h2
        · refine .inr ⟨by unfold look; rw [if_neg h]; exact h1, a', b', c', ?_⟩
          rw [List.map_cons]
          exact f_cons (us := [(2, .str p.1), (3, fin p.1 p.2.1), (4, dR p.2.2)]) rfl (q_ifF (e_val (e_bin (d1 := .str p.1) (d2 := .str n) rfl rfl (by rw [eq_str hp hn, beq_eq_false_iff_ne.mpr h]))) rfl) h2
  have hx : (i_seq (x_bin dSub1 (x_var 0) (x_c (.int 0)))) (mask [.d (encF t r), .d (.str n), .un, .un, .un, .un]) = some (t.map entP) := rfl
  rcases key t ht (.d (encF t r)) .un .un .un .un with ⟨f, h1, h2⟩ | ⟨h1, a', b', c', h2⟩
  · rw [h1]
    exact run_rt (q_forR hx (by rw [List.length_map]; exact hl) h2)
  · rw [h1]
    refine run_rt (q_for hx (by rw [List.length_map]; exact hl) h2 (q_set (d := restD r) (us := [(5, .bl r.1), (4, dR r.2)]) rfl rfl (q_ret ?_)))
    refine e_tup (e_cons (e_if (e_val (b := r.1) rfl) (fun h => ?_) fun h => ?_) (e_cons rfl e_nil)) (show 2 ≤ LIM by decide)
    · show some (D.str n) = _
      unfold fin; rw [if_pos h]
    · show some D.non = _
      unfold fin; rw [h]; rfl
theorem m_final_in (t : List (Str × Fa)) (r : Fa) (n : Str) (hl : t.length ≤ LIM) (ht : okT t) (hn : okS n) : R_final_in [encF t r, .str n] = some (fin n (look t r n).1) :=
  run_rt (q_ret (e_bin (e_call rfl (m_entry_in t r n hl ht hn)) rfl rfl))
theorem m_room_in (t : List (Str × Fa)) (r : Fa) (n : Str) (hl : t.length ≤ LIM) (ht : okT t) (hn : okS n) : R_room_in [encF t r, .str n] = some (dR (look t r n).2) :=
  run_rt (q_ret (e_bin (e_call rfl (m_entry_in t r n hl ht hn)) rfl rfl))
def mn : Option Nat → Option Nat → Option Nat
  | none, b => b
  | a, none => a
  | some a, some b => some (if b < a then b else a)
theorem m_lesser (a b : Option Nat) : R_lesser [dR a, dR b] = some (dR (mn a b)) := by
  cases a with
  | none => cases b <;> rfl
  | some a =>
    cases b with
    | none => rfl
    | some b =>
      refine run_rt (q_ifF rfl (q_ret ?_))
      refine e_call (ds := [.int a, .int b]) rfl ?_
      show some (D.int (if (b : Int) < (a : Int) then (b : Int) else (a : Int))) = some (D.int ((if b < a then b else a : Nat) : Int))
      by_cases h : b < a
      · rw [if_pos h, if_pos (by omega)]
      · rw [if_neg h, if_neg (by omega)]
def leR : Option Nat → Option Nat → Bool
  | _, none => true
  | none, some _ => false
  | some a, some b => decide (a ≤ b)
theorem m_is_most (a b : Option Nat) : R_is_most [dR a, dR b] = some (.bl (leR a b)) := by
  cases a with
  | none => cases b <;> rfl
  | some a =>
    cases b with
    | none => rfl
    | some b =>
      refine run_rt (q_ret ?_)
      show some (D.bl (decide ((a : Int) ≤ (b : Int)))) = some (D.bl (decide (a ≤ b)))
      by_cases h : a ≤ b
      · rw [decide_eq_true h, decide_eq_true (by omega)]
      · rw [decide_eq_false h, decide_eq_false (by omega)]
def alive (t : List (Str × Fa)) : List (Str × Fa) := t.filter fun p => p.2.1
theorem items_map {α β : Type} (φ : α → β) (l : List α) : l.map φ = l.map φ := rfl
theorem lc_fin {t : List (Str × Fa)} {ρ : Rho} {it : Rho → Option (List D)} {i j k : Nat} {f : Rho → Option D} (ψ : Str × Fa → D) (hi : it ρ = some (t.map entP))
    (ht : ∀ p : Str × Fa, (t_val (x_bin dIsNot' (x_var j) (x_c .non))) (setR (wipeR ρ [i, j, k]) [(i, .str p.1), (j, fin p.1 p.2.1), (k, dR p.2.2)]) = some p.2.1)
    (hf : ∀ p : Str × Fa, p.2.1 = true → f (setR (wipeR ρ [i, j, k]) [(i, .str p.1), (j, fin p.1 p.2.1), (k, dR p.2.2)]) = some (ψ p)) (hl : t.length ≤ LIM) :
    x_lc it [i, j, k] (g_tup 3 (g_cons (g_name i) (g_cons (g_name j) (g_cons (g_name k) g_nil)))) (t_val (x_bin dIsNot' (x_var j) (x_c .non))) f ρ = some (.lst ((alive t).map ψ)) := by
  rw [e_lc entP (fun p => if p.2.1 = true then some (ψ p) else none) hi (fun p _ => e_turn rfl (by simp) (ht p) (fun h => ⟨ψ p, hf p h, if_pos h⟩) (fun h => by rw [h]; rfl)) hl]
  congr 2
  unfold alive
  clear hl hi
  induction t with
  | nil => rfl
  | cons p t ih =>
    rw [List.filterMap_cons, List.filter_cons]
    cases h : p.2.1 with
    | true => rw [if_pos rfl, if_pos rfl, List.map_cons, ← ih]
    | false => rw [if_neg Bool.false_ne_true, if_neg Bool.false_ne_true]; exact ih
def told (t : List (Str × Fa)) : List Str := t.map (·.1) ++ (alive t).map (·.1)
theorem alive_len (t : List (Str × Fa)) : (alive t).length ≤ t.length := List.length_filter_le _ _
theorem m_names_told (t : List (Str × Fa)) (r : Fa) (hl : t.length ≤ 1000) : R_names_told [encF t r] = some (.lst ((told t).map .str)) := by
  have hl' : t.length ≤ LIM := Nat.le_trans hl (by decide)
  refine run_rt (q_ret (e_bin (d1 := .lst (t.map fun p => .str p.1)) (d2 := .lst ((alive t).map fun p => .str p.1)) ?_ ?_ ?_))
  · exact e_lcM entP (fun p => .str p.1) rfl (fun p _ => e_turn1 (us := [(1, .str p.1), (2, fin p.1 p.2.1), (3, dR p.2.2)]) rfl rfl rfl) hl'
  · refine lc_fin (fun p => .str p.1) rfl (fun p => ?_) (fun p h => ?_) hl'
    · exact e_val (e_bin (d1 := fin p.1 p.2.1) rfl rfl (dIsNot_fin _ _))
    · show some (fin p.1 p.2.1) = _
      unfold fin; rw [if_pos h]
  · show (if (t.map fun p => D.str p.1).length + ((alive t).map fun p => D.str p.1).length ≤ LIM then some (D.lst ((t.map fun p => D.str p.1) ++ ((alive t).map fun p => D.str p.1))) else none) = _
    rw [if_pos (by rw [List.length_map, List.length_map]; have := alive_len t; exact Nat.le_trans (show t.length + (alive t).length ≤ 2000 by omega) (by decide))]
    unfold told
    rw [List.map_append, List.map_map, List.map_map]
    rfl
def hgt (t : List (Str × Fa)) (r : Fa) : Option Nat := if r.1 = true then r.2 else match alive t with | [] => some 0 | p :: _ => p.2.2
theorem m_height_in (t : List (Str × Fa)) (r : Fa) (hl : t.length ≤ LIM) : R_height_in [encF t r] = some (dR (hgt t r)) := by
  unfold hgt
  refine run_rt (q_set (d := restD r) (us := [(1, .bl r.1), (2, dR r.2)]) rfl rfl ?_)
  cases h : r.1 with
  | true =>
    rw [if_pos rfl]
    exact q_ifT (e_val rfl) (q_ret rfl)
  | false =>
    rw [if_neg Bool.false_ne_true]
    refine q_ifF (e_val rfl) (q_set (d := .lst ((alive t).map fun p => dR p.2.2)) (us := [(3, .lst ((alive t).map fun p => dR p.2.2))]) ?_ rfl (q_ret ?_))
    · refine lc_fin (fun p => dR p.2.2) rfl (fun p => ?_) (fun p h => rfl) hl
      exact e_val (e_bin (d1 := fin p.1 p.2.1) rfl rfl (dIsNot_fin _ _))
    · cases ha : alive t with
      | nil => rfl
      | cons p l =>
        refine e_if (b := true) (e_val (e_bin (d1 := .int ((p :: l).map fun p => dR p.2.2).length) rfl rfl ?_)) (fun _ => e_bin (d1 := .lst ((p :: l).map fun p => dR p.2.2)) rfl rfl (atI_nat (j := 0) rfl)) (fun h => by cases h)
        show some (D.bl (decide ((0 : Int) < (((p :: l).map fun p => dR p.2.2).length : Int)))) = _
        rw [decide_eq_true]
        rw [List.length_map, List.length_cons]
        omega
end DL
/-! form_with, form_behind. -/
namespace DL
open PySem PySem.Spec PyProof.Rows L2
def tabD (ks : List Str) (f : Str → Fa) : D := .dic ks (ks.map fun n => pr n (f n))
theorem look_dic {ks : List Str} (φ : Str → D) {n : Str} (h : n ∈ ks) : dLook n ks (ks.map φ) = some (φ n) := by
  induction ks with
  | nil => cases h
  | cons k ks ih =>
    rw [List.map_cons]
    unfold dLook
    by_cases e : k = n
    · rw [if_pos e, e]
    · rw [if_neg e]
      exact ih (by rcases List.mem_cons.mp h with z | z; exact absurd z.symm e; exact z)
theorem bls_map {α : Type} (φ : α → Bool) : ∀ l : List α, blsOf (l.map fun a => D.bl (φ a)) = some (l.map φ)
  | [] => rfl
  | a :: l => by
    show (blsOf (l.map fun a => D.bl (φ a))).bind (fun xs => some (φ a :: xs)) = _
    rw [bls_map φ l]
    rfl
theorem all_map {α : Type} (φ : α → Bool) (l : List α) : b_all [.lst (l.map fun a => D.bl (φ a))] = some (.bl (l.all φ)) := by
  show (blsOf (l.map fun a => D.bl (φ a))).bind _ = _
  rw [bls_map]
  show some (D.bl ((l.map φ).all id)) = _
  rw [List.all_map]
  rfl
theorem any_map {α : Type} (φ : α → Bool) (l : List α) : b_any [.lst (l.map fun a => D.bl (φ a))] = some (.bl (l.any φ)) := by
  show (blsOf (l.map fun a => D.bl (φ a))).bind _ = _
  rw [bls_map]
  show some (D.bl ((l.map φ).any id)) = _
  rw [List.any_map]
  rfl
theorem fm_filter {α β : Type} (p : α → Bool) (φ : α → β) (l : List α) : l.filterMap (fun a => if p a = true then some (φ a) else none) = (l.filter p).map φ := by
  induction l with
  | nil => rfl
  | cons a l ih =>
    rw [List.filterMap_cons, List.filter_cons]
    cases h : p a with
    | true => rw [if_pos rfl, if_pos rfl, List.map_cons, ih]
    | false => rw [if_neg Bool.false_ne_true, if_neg Bool.false_ne_true]; exact ih
/-- a comprehension with a test -/
theorem e_lcF {α : Type} {ρ : Rho} {it : Rho → Option (List D)} {own : List Nat} {g : Tgt} {t : Rho → Option Bool} {f : Rho → Option D} {l : List α} (φ : α → D) (p : α → Bool) (ψ : α → D) (us : α → List (Nat × D)) (hi : it ρ = some (l.map φ)) (hg : ∀ a ∈ l, g (φ a) = some (us a)) (hu : ∀ a ∈ l, ((us a).all fun u => own.contains u.1) = true)
    (ht : ∀ a ∈ l, t (setR (wipeR ρ own) (us a)) = some (p a)) (hf : ∀ a ∈ l, p a = true → f (setR (wipeR ρ own) (us a)) = some (ψ a)) (hl : l.length ≤ LIM) : x_lc it own g t f ρ = some (.lst ((l.filter p).map ψ)) := by
  rw [e_lc φ (fun a => if p a = true then some (ψ a) else none) hi (fun a ha => e_turn (hg a ha) (hu a ha) (ht a ha) (fun h => ⟨ψ a, hf a ha h, if_pos h⟩) (fun h => by rw [h]; rfl)) hl, fm_filter]
def fwT (ks : List Str) (f : Str → Fa) (r : Fa) : List (Str × Fa) := ((sortS ks).filter fun n => !decide (f n = r)).map fun n => (n, f n)
theorem m_form_with (ks : List Str) (f : Str → Fa) (r : Fa) (hl : ks.length < 64) (hk : ∀ n ∈ ks, okS n) : R_form_with [tabD ks f, restD r] = some (if (!r.1 && ks.all fun n => !(f n).1) = true then encF [] (false, some 0) else encF (fwT ks f r) r) := by
  have hl' : ks.length ≤ LIM := Nat.le_trans (Nat.le_of_lt hl) (by decide)
  have hs : (sortS ks).length ≤ LIM := by rw [(sortS_perm ks).length_eq]; exact hl'
  have tst : ∀ (a b c d : Sl), (t_and (t_not (t_val (x_var 2))) (t_val (x_call b_all (a_cons (x_lc (i_dic 0 true) [5, 6] (g_tup 2 (g_cons (g_name 5) (g_cons (g_name 6) g_nil))) t_yes (x_bin dIsN' (x_var 5) (x_c .non))) a_nil)))) (peek [.d (tabD ks f), .d (restD r), .d (.bl r.1), .d (dR r.2), a, b, c, d]) = some (!r.1 && ks.all fun n => !(f n).1) := fun a b c d => by
    refine e_and (e_not (e_val rfl)) fun _ => e_val (e_call (ds := [.lst (ks.map fun n => D.bl (!(f n).1))]) (e_cons ?_ e_nil) (all_map _ _))
    refine e_lcM (l := ks) (fun n => pr n (f n)) (fun n => .bl (!(f n).1)) rfl (fun n hn => e_turn1 (us := [(5, fin n (f n).1), (6, dR (f n).2)]) rfl rfl ?_) hl'
    exact e_bin (d1 := fin n (f n).1) rfl rfl (dIsN_fin _ _)
  refine run_rt (q_set (d := restD r) (us := [(2, .bl r.1), (3, dR r.2)]) rfl rfl ?_)
  cases hb : (!r.1 && ks.all fun n => !(f n).1) with
  | true =>
    rw [if_pos rfl]
    exact q_ifT ((tst .un .un .un .un).trans (by rw [hb])) (q_ret rfl)
  | false =>
    rw [if_neg Bool.false_ne_true]
    refine q_ifF ((tst .un .un .un .un).trans (by rw [hb])) (q_set (d := .lst (((sortS ks).filter fun n => !decide (f n = r)).map .str)) (us := [(4, .lst (((sortS ks).filter fun n => !decide (f n = r)).map .str))]) ?_ rfl (q_ret ?_))
    · refine e_lcF (l := sortS ks) (fun n => .str n) (fun n => !decide (f n = r)) .str (fun n => [(7, .str n)]) ?_ (fun _ _ => rfl) (fun _ _ => rfl) (fun n hn => ?_) (fun _ _ _ => rfl) hs
      · show (i_seq (x_un dSortKeys (x_var 0))) _ = _
        unfold i_seq
        rw [e_un (d := tabD ks f) (d1 := .lst ((sortS ks).map .str)) rfl (by show (if ks.length < 64 then _ else _) = _; rw [if_pos hl])]
        rfl
      · have hm : n ∈ ks := (sortS_perm ks).mem_iff.mp hn
        refine e_val (e_bin (d1 := pr n (f n)) (d2 := pr n r) ?_ ?_ (ne_pr (hk n hm) _ _))
        · exact e_bin (d1 := tabD ks f) (d2 := .str n) rfl rfl (look_dic _ hm)
        · refine e_tup (e_cons (e_if (e_val (b := r.1) rfl) (fun h => ?_) fun h => ?_) (e_cons (d := dR r.2) rfl e_nil)) (show 2 ≤ LIM by decide)
          · show some (D.str n) = _; unfold fin; rw [if_pos h]
          · show some D.non = _; unfold fin; rw [h]; rfl
    · refine e_tup (ds := [.tup ((fwT ks f r).map entP), restD r]) (e_cons (e_call (ds := [.lst ((fwT ks f r).map entP)]) (e_cons ?_ e_nil) rfl) (e_cons rfl e_nil)) (show 2 ≤ LIM by decide)
      have hfl : ((sortS ks).filter fun n => !decide (f n = r)).length ≤ LIM := Nat.le_trans (List.length_filter_le _ _) hs
      have e := e_lcM (t := t_yes) (ρ := peek [.d (tabD ks f), .d (restD r), .d (.bl r.1), .d (dR r.2), .d (.lst (((sortS ks).filter fun n => !decide (f n = r)).map .str)), .un, .un, .un]) (it := i_seq (x_var 4)) (own := [7]) (g := g_name 7) (f := x_tup (a_cons (x_var 7) (a_star (x_bin dSub1 (x_var 0) (x_var 7)) a_nil))) (l := (sortS ks).filter fun n => !decide (f n = r)) (fun n => .str n) (fun n => entP (n, f n)) rfl (fun n hn => ?_) hfl
      · refine Eq.trans ?_ (e.trans ?_)
        · rfl
        · unfold fwT; rw [List.map_map]; rfl
      · have hm : n ∈ ks := (sortS_perm ks).mem_iff.mp (List.mem_filter.mp hn).1
        refine e_turn1 (us := [(7, .str n)]) rfl rfl (e_tup (e_cons (d := .str n) rfl (e_star (d := pr n (f n)) (e_bin (d1 := tabD ks f) (d2 := .str n) rfl rfl (look_dic _ hm)) rfl e_nil)) (show 3 ≤ LIM by decide))
/-! dict comprehensions over names -/
def keysOf (l : List Str) : List Str := l.foldl (fun ks n => putKs n ks) []
theorem putVs_map (n : Str) (φ : Str → D) : ∀ ks : List Str, putVs n (φ n) ks (ks.map φ) = (putKs n ks).map φ
  | [] => rfl
  | k :: ks => by
    have ih := putVs_map n φ ks
    rw [List.map_cons]
    unfold putVs
    by_cases e : k = n
    · subst e
      unfold putKs
      rw [if_pos rfl, if_pos List.mem_cons_self]
      rfl
    · rw [if_neg e, ih]
      unfold putKs
      by_cases m : n ∈ ks
      · rw [if_pos m, if_pos (List.mem_cons_of_mem _ m)]; rfl
      · rw [if_neg m, if_neg (by simp only [List.mem_cons, not_or]; exact ⟨fun z => e z.symm, m⟩)]; rfl
theorem dcGo_ok {turn : D → Option (Str × D)} {φ : Str → D} : ∀ {l ks : List Str}, (∀ n ∈ l, turn (.str n) = some (n, φ n)) → dcGo turn (l.map .str) ks (ks.map φ) = some (l.foldl (fun ks n => putKs n ks) ks, (l.foldl (fun ks n => putKs n ks) ks).map φ)
  | [], ks, _ => rfl
  | n :: l, ks, h => by
    show (turn (.str n)).bind _ = _
    rw [h n List.mem_cons_self, Option.bind_some, putVs_map]
    exact dcGo_ok fun m hm => h m (List.mem_cons_of_mem _ hm)
theorem e_dc {ρ : Rho} {it : Rho → Option (List D)} {own : List Nat} {g : Tgt} {fk fv : Rho → Option D} {l : List Str} (φ : Str → D) (us : Str → List (Nat × D)) (hi : it ρ = some (l.map .str)) (hg : ∀ n ∈ l, g (.str n) = some (us n)) (hu : ∀ n ∈ l, ((us n).all fun u => own.contains u.1) = true)
    (hk : ∀ n ∈ l, fk (setR (wipeR ρ own) (us n)) = some (.str n)) (hv : ∀ n ∈ l, fv (setR (wipeR ρ own) (us n)) = some (φ n)) (hl : l.length ≤ LIM) : x_dc it own g fk fv ρ = some (.dic (keysOf l) ((keysOf l).map φ)) := by
  unfold x_dc
  rw [hi, Option.bind_some, if_pos (by rw [List.length_map]; exact hl)]
  rw [show dcGo (dcTurn ρ own g fk fv) (l.map .str) [] [] = some (keysOf l, (keysOf l).map φ) from dcGo_ok (ks := []) fun n hn => by
    unfold dcTurn
    rw [hg n hn, Option.bind_some, if_pos (hu n hn), hk n hn, Option.bind_some, hv n hn]
    rfl]
  rfl
theorem keysOf_fold : ∀ (l ks : List Str) (n : Str), n ∈ l.foldl (fun ks n => putKs n ks) ks ↔ n ∈ ks ∨ n ∈ l
  | [], ks, n => by simp
  | m :: l, ks, n => by
    rw [List.foldl_cons, keysOf_fold l]
    have : n ∈ putKs m ks ↔ n ∈ ks ∨ n = m := by
      unfold putKs
      split
      · rename_i h
        exact ⟨.inl, fun z => z.elim id fun e => e ▸ h⟩
      · rw [List.mem_append, List.mem_singleton]
    rw [this, List.mem_cons, or_assoc]
theorem keysOf_mem (l : List Str) (n : Str) : n ∈ keysOf l ↔ n ∈ l := by
  have := keysOf_fold l [] n
  simpa [keysOf] using this
theorem keysOf_nd (l : List Str) : (keysOf l).Nodup := by
  have : ∀ (l ks : List Str), ks.Nodup → (l.foldl (fun ks n => putKs n ks) ks).Nodup := fun l => by
    induction l with
    | nil => exact fun ks h => h
    | cons m l ih =>
      intro ks h
      rw [List.foldl_cons]
      refine ih _ ?_
      unfold putKs
      split
      · exact h
      · rename_i hm
        rw [List.nodup_append]
        exact ⟨h, by simp, fun a ha b hb => by rw [List.mem_singleton] at hb; subst hb; exact fun e => hm (e ▸ ha)⟩
  exact this l [] List.nodup_nil
def behF (t1 : List (Str × Fa)) (r1 : Fa) (t2 : List (Str × Fa)) (r2 : Fa) (n : Str) : Fa := if (look t1 r1 n).1 = true then ((look t2 r2 n).1, mn (hgt t1 r1) (look t2 r2 n).2) else (false, (look t1 r1 n).2)
theorem m_entry_behind (t1 t2 : List (Str × Fa)) (r1 r2 : Fa) (n : Str) (h1 : t1.length ≤ LIM) (h2 : t2.length ≤ LIM) (k1 : okT t1) (k2 : okT t2) (hn : okS n) : R_entry_behind [encF t1 r1, encF t2 r2, .str n] = some (pr n (behF t1 r1 t2 r2 n)) := by
  unfold behF
  refine run_rt (q_set (d := pr n (look t1 r1 n)) (us := [(3, fin n (look t1 r1 n).1), (4, dR (look t1 r1 n).2)]) (e_call rfl (m_entry_in t1 r1 n h1 k1 hn)) rfl ?_)
  cases h : (look t1 r1 n).1 with
  | false =>
    rw [if_neg Bool.false_ne_true]
    refine q_ifT (e_val rfl) (q_ret ?_)
    exact e_tup (e_cons rfl (e_cons rfl e_nil)) (show 2 ≤ LIM by decide)
  | true =>
    rw [if_pos rfl]
    refine q_ifF (e_val rfl) (q_set (d := pr n (look t2 r2 n)) (us := [(5, fin n (look t2 r2 n).1), (6, dR (look t2 r2 n).2)]) (e_call (ds := [encF t2 r2, .str n]) rfl (m_entry_in t2 r2 n h2 k2 hn)) rfl (q_ret ?_))
    exact e_tup (ds := [fin n (look t2 r2 n).1, dR (mn (hgt t1 r1) (look t2 r2 n).2)]) (e_cons rfl (e_cons (e_call (ds := [dR (hgt t1 r1), dR (look t2 r2 n).2]) (e_cons (e_call rfl (m_height_in t1 r1 h1)) (e_cons rfl e_nil)) (m_lesser _ _)) e_nil)) (show 2 ≤ LIM by decide)
def behR (r1 r2 : Fa) : Fa := if r1.1 = true then (r2.1, mn r1.2 r2.2) else r1
theorem m_form_behind (t1 t2 : List (Str × Fa)) (r1 r2 : Fa) (h1 : t1.length ≤ 10) (h2 : t2.length ≤ 10) (k1 : okT t1) (k2 : okT t2) (hks : (keysOf (told t1 ++ told t2)).length < 64) :
    R_form_behind [encF t1 r1, encF t2 r2] = some (if (!(behR r1 r2).1 && (keysOf (told t1 ++ told t2)).all fun n => !(behF t1 r1 t2 r2 n).1) = true then encF [] (false, some 0) else encF (fwT (keysOf (told t1 ++ told t2)) (behF t1 r1 t2 r2) (behR r1 r2)) (behR r1 r2)) := by
  have a1 := alive_len t1
  have a2 := alive_len t2
  have l1 : (told t1).length ≤ 20 := by unfold told; rw [List.length_append, List.length_map, List.length_map]; omega
  have l2 : (told t2).length ≤ 20 := by unfold told; rw [List.length_append, List.length_map, List.length_map]; omega
  have b1 : t1.length ≤ LIM := Nat.le_trans h1 (by decide)
  have b2 : t2.length ≤ LIM := Nat.le_trans h2 (by decide)
  have okTold : ∀ t, okT t → ∀ n ∈ told t, okS n := fun t k n hn => by
    unfold told alive at hn
    rcases List.mem_append.mp hn with z | z
    · obtain ⟨p, hp, rfl⟩ := List.mem_map.mp z; exact k p hp
    · obtain ⟨p, hp, rfl⟩ := List.mem_map.mp z; exact k p (List.mem_filter.mp hp).1
  have okA : ∀ n ∈ told t1 ++ told t2, okS n := fun n hn => by
    rcases List.mem_append.mp hn with z | z
    · exact okTold t1 k1 n z
    · exact okTold t2 k2 n z
  refine run_rt (q_set (d := .lst ((told t1 ++ told t2).map .str)) (us := [(2, .lst ((told t1 ++ told t2).map .str))]) ?_ rfl (q_set (d := restD r1) (us := [(3, .bl r1.1), (4, dR r1.2)]) rfl rfl (q_set (d := restD (behR r1 r2)) (us := [(5, restD (behR r1 r2))]) ?_ rfl (q_ret ?_))))
  · refine e_bin (d1 := .lst ((told t1).map .str)) (d2 := .lst ((told t2).map .str)) (e_call rfl (m_names_told t1 r1 (by omega))) (e_call (ds := [encF t2 r2]) rfl (m_names_told t2 r2 (by omega))) ?_
    show (if ((told t1).map D.str).length + ((told t2).map D.str).length ≤ LIM then some (D.lst ((told t1).map D.str ++ (told t2).map D.str)) else none) = _
    rw [if_pos (by rw [List.length_map, List.length_map]; exact Nat.le_trans (show _ ≤ 40 by omega) (by decide)), List.map_append]
  · unfold behR
    refine e_if (e_val (b := r1.1) rfl) (fun h => ?_) fun h => ?_
    · rw [if_pos h]
      exact e_tup (ds := [.bl r2.1, dR (mn r1.2 r2.2)]) (e_cons rfl (e_cons (e_call (ds := [dR r1.2, dR r2.2]) rfl (m_lesser _ _)) e_nil)) (show 2 ≤ LIM by decide)
    · rw [if_neg (by rw [h]; exact Bool.false_ne_true)]
      rfl
  · refine e_call (ds := [tabD (keysOf (told t1 ++ told t2)) (behF t1 r1 t2 r2), restD (behR r1 r2)]) (e_cons ?_ (e_cons rfl e_nil)) (m_form_with _ _ _ hks fun n hn => okA n ((keysOf_mem _ n).mp hn))
    refine e_dc (l := told t1 ++ told t2) (fun n => pr n (behF t1 r1 t2 r2 n)) (fun n => [(6, .str n)]) rfl (fun _ _ => rfl) (fun _ _ => rfl) (fun _ _ => rfl) (fun n hn => ?_) (by rw [List.length_append]; exact Nat.le_trans (show _ ≤ 40 by omega) (by decide))
    exact e_call (ds := [encF t1 r1, encF t2 r2, .str n]) rfl (m_entry_behind t1 t2 r1 r2 n b1 b2 k1 k2 (okA n hn))
end DL
/-! Forms of vectors of fates; a form behind a form; forms of steps. -/
namespace DL
open PySem PySem.Spec PyProof.Rows L2
abbrev Vc := (Str → Fa) × Fa
def canT (v : Vc) : List (Str × Fa) := (LBL.filter fun n => !decide (v.1 n = v.2)).map fun n => (n, v.1 n)
def canV (v : Vc) : D := encF (canT v) v.2
def allG (v : Vc) : Bool := !v.2.1 && LBL.all fun n => !(v.1 n).1
def goneV : Vc := (fun _ => (false, some 0), (false, some 0))
def nrm (v : Vc) : Vc := if allG v = true then goneV else v
def cmpF (a b : Fa) : Fa := if a.1 = true then (b.1, mn a.2 b.2) else a
def cmpV (v u : Vc) : Vc := (fun n => cmpF (v.1 n) (u.1 n), cmpF v.2 u.2)
def Hg (v : Vc) (h : Option Nat) : Prop := (∀ n ∈ LBL, (v.1 n).1 = true → (v.1 n).2 = h) ∧ (v.2.1 = true → v.2.2 = h)
theorem look_go (g : Str → Fa) (r : Fa) (p : Str → Bool) (n : Str) : ∀ l : List Str, look ((l.filter p).map fun n => (n, g n)) r n = if n ∈ l ∧ p n = true then g n else r
  | [] => by simp [look]
  | m :: l => by
    have ih := look_go g r p n l
    rw [List.filter_cons]
    cases h : p m with
    | true =>
      rw [if_pos rfl, List.map_cons]
      unfold look
      by_cases e : m = n
      · rw [if_pos e]
        subst e
        rw [if_pos ⟨List.mem_cons_self, h⟩]
      · rw [if_neg e, ih]
        have : (n ∈ m :: l) ↔ n ∈ l := by
          rw [List.mem_cons]
          exact ⟨fun z => z.elim (fun z => absurd z.symm e) id, .inr⟩
        simp only [this]
    | false =>
      rw [if_neg Bool.false_ne_true, ih]
      by_cases e : n = m
      · subst e
        rw [if_neg (fun z => by rw [h] at z; exact Bool.false_ne_true z.2), if_neg (fun z => by rw [h] at z; exact Bool.false_ne_true z.2)]
      · have : (n ∈ m :: l) ↔ n ∈ l := by
          rw [List.mem_cons]
          exact ⟨fun z => z.elim (fun z => absurd z e) id, .inr⟩
        simp only [this]
theorem look_can (v : Vc) {n : Str} (hn : n ∈ LBL) : look (canT v) v.2 n = v.1 n := by
  unfold canT
  rw [look_go]
  by_cases h : v.1 n = v.2
  · rw [if_neg (fun z => by rw [decide_eq_true h] at z; exact absurd z.2 (by decide)), h]
  · rw [if_pos ⟨hn, by rw [decide_eq_false h]; rfl⟩]
theorem can_len (v : Vc) : (canT v).length ≤ 4 := by
  unfold canT
  rw [List.length_map]
  exact List.length_filter_le _ _
theorem ok_LBL : ∀ n ∈ LBL, okS n := by
  intro n hn
  have : ∀ n ∈ LBL, PyData.strOk n = true := by decide +kernel
  exact this n hn
theorem can_ok (v : Vc) : okT (canT v) := fun p hp => by
  obtain ⟨n, hn, rfl⟩ := List.mem_map.mp hp
  exact ok_LBL n (List.mem_filter.mp hn).1
theorem hgt_can {v : Vc} {h : Option Nat} (H : Hg v h) {n : Str} (hn : n ∈ LBL) (ha : (v.1 n).1 = true) : hgt (canT v) v.2 = h := by
  unfold hgt
  cases hr : v.2.1 with
  | true => rw [if_pos rfl]; exact H.2 hr
  | false =>
    rw [if_neg Bool.false_ne_true]
    have mem : (n, v.1 n) ∈ alive (canT v) := by
      refine List.mem_filter.mpr ⟨List.mem_map.mpr ⟨n, List.mem_filter.mpr ⟨hn, ?_⟩, rfl⟩, ha⟩
      rw [decide_eq_false (fun z => by rw [z, hr] at ha; exact Bool.false_ne_true ha)]
      rfl
    cases q : alive (canT v) with
    | nil => rw [q] at mem; cases mem
    | cons p l =>
      have hp : p ∈ alive (canT v) := by rw [q]; exact List.mem_cons_self
      obtain ⟨h1, h2⟩ := List.mem_filter.mp hp
      obtain ⟨m, hm, rfl⟩ := List.mem_map.mp h1
      exact H.1 m (List.mem_filter.mp hm).1 h2
theorem beh_can {v u : Vc} {h : Option Nat} (H : Hg v h) {n : Str} (hn : n ∈ LBL) : behF (canT v) v.2 (canT u) u.2 n = cmpF (v.1 n) (u.1 n) := by
  unfold behF cmpF
  rw [look_can v hn, look_can u hn]
  cases ha : (v.1 n).1 with
  | true => rw [if_pos rfl, if_pos rfl, hgt_can H hn ha, H.1 n hn ha]
  | false => rw [if_neg Bool.false_ne_true, if_neg Bool.false_ne_true, ← ha]
theorem perm_nd : ∀ {l m : List Str}, l.Nodup → m.Nodup → (∀ a, a ∈ l ↔ a ∈ m) → l.Perm m
  | [], m, _, _, h => by
    cases m with
    | nil => exact .refl _
    | cons a m => exact absurd ((h a).mpr List.mem_cons_self) (by simp)
  | a :: l, m, h1, h2, h => by
    have ha : a ∈ m := (h a).mp List.mem_cons_self
    have p := List.perm_cons_erase ha
    obtain ⟨n1, n2⟩ := List.nodup_cons.mp h1
    refine (List.Perm.cons a (perm_nd n2 (h2.erase a) fun b => ?_)).trans p.symm
    rw [h2.mem_erase_iff]
    constructor
    · intro hb
      exact ⟨fun e => n1 (e ▸ hb), (h b).mp (List.mem_cons_of_mem _ hb)⟩
    · rintro ⟨hne, hb⟩
      rcases List.mem_cons.mp ((h b).mpr hb) with z | z
      · exact absurd z hne
      · exact z
theorem LBL_nd : LBL.Nodup := by decide
theorem LBL_so : LBL.Pairwise (fun a b => leS a b = true) := by decide
theorem sort_sub {K : List Str} (nd : K.Nodup) (h : ∀ n ∈ K, n ∈ LBL) : sortS K = LBL.filter fun n => decide (n ∈ K) := by
  refine (sortS_uniq (perm_nd (LBL_nd.filter _) nd fun a => ?_) (LBL_so.filter _)).symm
  rw [List.mem_filter, decide_eq_true_eq]
  exact ⟨fun z => z.2, fun z => ⟨h a z, z⟩⟩
theorem keysOf_len (l : List Str) : (keysOf l).length ≤ l.length := by
  have : ∀ (l ks : List Str), (l.foldl (fun ks n => putKs n ks) ks).length ≤ ks.length + l.length := fun l => by
    induction l with
    | nil => intro ks; simp
    | cons m l ih =>
      intro ks
      rw [List.foldl_cons, List.length_cons]
      have := ih (putKs m ks)
      have := putKs_len m ks
      omega
  have h := this l []
  simpa [keysOf] using h
theorem told_can (v : Vc) (n : Str) : n ∈ told (canT v) ↔ n ∈ LBL ∧ v.1 n ≠ v.2 := by
  have h1 : n ∈ (canT v).map (·.1) ↔ n ∈ LBL ∧ v.1 n ≠ v.2 := by
    unfold canT
    rw [List.map_map]
    constructor
    · intro h
      obtain ⟨m, hm, rfl⟩ := List.mem_map.mp h
      obtain ⟨a, b⟩ := List.mem_filter.mp hm
      exact ⟨a, fun z => by dsimp only [Function.comp] at z; rw [decide_eq_true z] at b; exact absurd b (by decide)⟩
    · rintro ⟨a, b⟩
      exact List.mem_map.mpr ⟨n, List.mem_filter.mpr ⟨a, by rw [decide_eq_false b]; rfl⟩, rfl⟩
  unfold told
  rw [List.mem_append, h1]
  constructor
  · rintro (z | z)
    · exact z
    · obtain ⟨p, hp, rfl⟩ := List.mem_map.mp z
      exact h1.mp (List.mem_map.mpr ⟨p, (List.mem_filter.mp hp).1, rfl⟩)
  · exact .inl
theorem can_gone : canV goneV = encF [] (false, some 0) := rfl
theorem canT_congr {f g : Str → Fa} {r : Fa} (h : ∀ n ∈ LBL, f n = g n) : canT (f, r) = canT (g, r) := by
  unfold canT
  have e : (LBL.filter fun n => !decide (f n = r)) = LBL.filter fun n => !decide (g n = r) := List.filter_congr fun n hn => by rw [h n hn]
  show (LBL.filter fun n => !decide (f n = r)).map _ = (LBL.filter fun n => !decide (g n = r)).map _
  rw [e]
  exact List.map_congr_left fun n hn => by show (n, f n) = (n, g n); rw [h n (List.mem_filter.mp hn).1]
/-- form_with, over labels of ours -/
theorem fw_can {K : List Str} {f : Str → Fa} {r : Fa} {g : Str → Fa} (nd : K.Nodup) (hK : ∀ n ∈ K, n ∈ LBL) (hl : K.length < 64) (hg : ∀ n ∈ K, f n = g n) (hno : ∀ n ∈ LBL, n ∉ K → g n = r) :
    R_form_with [tabD K f, restD r] = some (canV (nrm (g, r))) := by
  rw [m_form_with K f r hl fun n hn => ok_LBL n (hK n hn)]
  have ea : (!r.1 && K.all fun n => !(f n).1) = allG (g, r) := by
    unfold allG
    dsimp only
    cases hr : r.1 with
    | true => rfl
    | false =>
      show (true && _) = (true && _)
      rw [Bool.true_and, Bool.true_and, Bool.eq_iff_iff, List.all_eq_true, List.all_eq_true]
      constructor
      · intro h n hn
        by_cases m : n ∈ K
        · rw [← hg n m]; exact h n m
        · rw [hno n hn m, hr]; rfl
      · intro h n hn
        rw [hg n hn]; exact h n (hK n hn)
  rw [ea]
  unfold nrm
  cases allG (g, r) with
  | true => rw [if_pos rfl, if_pos rfl, can_gone]
  | false =>
    rw [if_neg Bool.false_ne_true, if_neg Bool.false_ne_true]
    unfold canV
    congr 2
    unfold fwT canT
    rw [sort_sub nd hK, List.filter_filter]
    have e : (LBL.filter fun n => !decide (f n = r) && decide (n ∈ K)) = LBL.filter fun n => !decide (g n = r) := List.filter_congr fun n hn => by
      by_cases m : n ∈ K
      · rw [decide_eq_true m, Bool.and_true, hg n m]
      · rw [decide_eq_false m, Bool.and_false, hno n hn m, decide_eq_true rfl]; rfl
    show (LBL.filter fun n => !decide (f n = r) && decide (n ∈ K)).map _ = (LBL.filter fun n => !decide (g n = r)).map _
    rw [e]
    refine List.map_congr_left fun n hn => ?_
    obtain ⟨h1, h2⟩ := List.mem_filter.mp hn
    by_cases m : n ∈ K
    · rw [hg n m]
    · rw [hno n h1 m, decide_eq_true rfl] at h2; exact absurd h2 (by decide)
theorem m_behind {v u : Vc} {h : Option Nat} (H : Hg v h) : R_form_behind [canV v, canV u] = some (canV (nrm (cmpV v u))) := by
  have l1 := can_len v
  have l2 := can_len u
  have lt1 : (told (canT v)).length ≤ 8 := by have := alive_len (canT v); unfold told; rw [List.length_append, List.length_map, List.length_map]; omega
  have lt2 : (told (canT u)).length ≤ 8 := by have := alive_len (canT u); unfold told; rw [List.length_append, List.length_map, List.length_map]; omega
  have lk := keysOf_len (told (canT v) ++ told (canT u))
  rw [List.length_append] at lk
  have mk : ∀ n, n ∈ keysOf (told (canT v) ++ told (canT u)) ↔ n ∈ LBL ∧ (v.1 n ≠ v.2 ∨ u.1 n ≠ u.2) := fun n => by
    rw [keysOf_mem, List.mem_append, told_can, told_can]
    constructor
    · rintro (⟨a, b⟩ | ⟨a, b⟩)
      · exact ⟨a, .inl b⟩
      · exact ⟨a, .inr b⟩
    · rintro ⟨a, b | b⟩
      · exact .inl ⟨a, b⟩
      · exact .inr ⟨a, b⟩
  have er : behR v.2 u.2 = cmpF v.2 u.2 := rfl
  have e1 := m_form_behind (canT v) (canT u) v.2 u.2 (by omega) (by omega) (can_ok v) (can_ok u) (by omega)
  have e2 := fw_can (K := keysOf (told (canT v) ++ told (canT u))) (f := behF (canT v) v.2 (canT u) u.2) (r := cmpF v.2 u.2) (g := fun n => cmpF (v.1 n) (u.1 n)) (keysOf_nd _) (fun n hn => ((mk n).mp hn).1) (by omega) (fun n hn => beh_can H ((mk n).mp hn).1) fun n hn hno => by
    have a1 : v.1 n = v.2 := Decidable.byContradiction fun z => hno ((mk n).mpr ⟨hn, .inl z⟩)
    have a2 : u.1 n = u.2 := Decidable.byContradiction fun z => hno ((mk n).mpr ⟨hn, .inr z⟩)
    rw [a1, a2]
  rw [m_form_with _ _ _ (by omega) fun n hn => ok_LBL n ((mk n).mp hn).1] at e2
  rw [← er] at e2
  exact e1.trans e2
/-! ### strides -/
inductive Sdi where
  | cut (k : Nat) | lot (dr : Bool) (p : Str → Bool) (rest : Bool)
def lotD (p : Str → Bool) (rest : Bool) : D := .obj 0 [.tup ((LBL.filter p).map .str), .bl rest]
def stepObj : Sdi → D
  | .cut k => .obj 1 [.str "cut", .int ((k + 1 : Nat) : Int)]
  | .lot dr p rest => .obj 1 [.str (if dr = true then "drop" else "unwrap"), lotD p rest]
def stepV : Sdi → Vc
  | .cut k => (fun _ => (true, some k), (true, some k))
  | .lot dr p rest => (fun n => if (p n != rest) = true then (false, if dr = true then some 0 else none) else (true, none), if rest = true then (false, if dr = true then some 0 else none) else (true, none))
theorem prop_kind (k w : D) : (dProp 1 R_Step_kind) (.obj 1 [k, w]) = some k := rfl
theorem prop_what (k w : D) : (dProp 1 R_Step_what) (.obj 1 [k, w]) = some w := rfl
theorem ok_of {s : Str} (h : PyData.strOk s = true := by decide +kernel) : okS s := h
theorem canT_const (r : Fa) : canT ((fun _ => r), r) = [] := by
  unfold canT
  rw [show (LBL.filter fun n => !decide ((((fun _ => r), r) : Vc).1 n = (((fun _ => r), r) : Vc).2)) = [] from List.filter_eq_nil_iff.mpr fun n _ => by simp]
  rfl
theorem m_form_of_step (s : Sdi) : R_form_of_step [stepObj s] = some (canV (nrm (stepV s))) := by
  cases s with
  | cut k =>
    have ec : canV (nrm (stepV (.cut k))) = .tup [.tup [], .tup [.bl true, .int (k : Int)]] := by
      show canV ((fun _ => ((true, some k) : Fa)), (true, some k)) = _
      unfold canV
      rw [canT_const]
      rfl
    rw [ec]
    refine run_rt (q_ifT (e_val (e_bin (e_un (d := stepObj (.cut k)) rfl (prop_kind _ _)) rfl (eq_str ok_of ok_of))) (q_ret ?_))
    refine e_tup (e_cons rfl (e_cons (e_tup (e_cons rfl (e_cons (e_bin (f1 := x_un (dProp 1 R_Step_what) (x_var 0)) (f2 := x_c (.int 1)) (d1 := .int ((k + 1 : Nat) : Int)) (d2 := .int 1) rfl rfl ?_) e_nil)) (show 2 ≤ LIM by decide)) e_nil)) (show 2 ≤ LIM by decide)
    show some (D.int (((k + 1 : Nat) : Int) - 1)) = _
    rw [show ((k + 1 : Nat) : Int) - 1 = (k : Int) by omega]
  | lot dr p rest =>
    have ek : ∀ (a : Str) (b : Sl) (c d : Sl), okS a → (if dr = true then ("drop" : Str) else "unwrap") ≠ a → (t_val (x_bin dEq (x_un (dProp 1 R_Step_kind) (x_var 0)) (x_c (.str a)))) (peek [.d (stepObj (.lot dr p rest)), b, c, d]) = some false := fun a b c d ha hne => by
      refine e_val (e_bin (e_un (d := stepObj (.lot dr p rest)) rfl (prop_kind _ _)) rfl ((eq_str (by cases dr <;> exact ok_of) ha).trans ?_))
      rw [beq_eq_false_iff_ne.mpr hne]
    refine run_rt (q_ifF (ek "cut" _ _ _ ok_of (by cases dr <;> decide)) (q_ifF (ek "rename" _ _ _ ok_of (by cases dr <;> decide)) (q_set (d := dR (if dr = true then some 0 else none)) (us := [(1, dR (if dr = true then some 0 else none))]) ?_ rfl ?_)))
    · refine e_if (b := dr) (e_val (e_bin (e_un (d := stepObj (.lot dr p rest)) rfl (prop_kind _ _)) rfl ((eq_str (by cases dr <;> exact ok_of) ok_of).trans ?_))) (fun h => by rw [h]; rfl) (fun h => by rw [h]; rfl)
      cases dr <;> rfl
    have hfl : (LBL.filter p).length ≤ 4 := List.length_filter_le _ _
    have lk := keysOf_len (LBL.filter p)
    cases hr : rest with
    | true =>
      refine q_ifT (e_val rfl) (q_ret (e_call (ds := [tabD (keysOf (LBL.filter p)) (fun _ => (true, none)), restD (false, if dr = true then some 0 else none)]) (e_cons ?_ (e_cons ?_ e_nil)) ?_))
      · exact e_dc (l := LBL.filter p) (fun n => pr n (true, none)) (fun n => [(2, .str n)]) rfl (fun _ _ => rfl) (fun _ _ => rfl) (fun _ _ => rfl) (fun _ _ => rfl) (Nat.le_trans hfl (by decide))
      · cases dr <;> rfl
      · refine (fw_can (g := (stepV (.lot dr p true)).1) (keysOf_nd _) (fun n hn => (List.mem_filter.mp ((keysOf_mem _ n).mp hn)).1) (by omega) (fun n hn => ?_) fun n hn hno => ?_).trans rfl
        · have := (List.mem_filter.mp ((keysOf_mem _ n).mp hn)).2
          show _ = if (p n != true) = true then _ else _
          rw [this]
          rfl
        · have : p n = false := by
            cases hp : p n with
            | false => rfl
            | true => exact absurd ((keysOf_mem _ n).mpr (List.mem_filter.mpr ⟨hn, hp⟩)) hno
          show (if (p n != true) = true then _ else _) = _
          rw [this]
          rfl
    | false =>
      refine q_ifF (e_val rfl) (q_ret (e_call (ds := [tabD (keysOf (LBL.filter p)) (fun _ => (false, if dr = true then some 0 else none)), restD (true, none)]) (e_cons ?_ (e_cons rfl e_nil)) ?_))
      · refine e_dc (l := LBL.filter p) (fun n => pr n (false, if dr = true then some 0 else none)) (fun n => [(2, .str n)]) rfl (fun _ _ => rfl) (fun _ _ => rfl) (fun _ _ => rfl) (fun _ _ => ?_) (Nat.le_trans hfl (by decide))
        cases dr <;> rfl
      · refine (fw_can (g := (stepV (.lot dr p false)).1) (keysOf_nd _) (fun n hn => (List.mem_filter.mp ((keysOf_mem _ n).mp hn)).1) (by omega) (fun n hn => ?_) fun n hn hno => ?_).trans rfl
        · have := (List.mem_filter.mp ((keysOf_mem _ n).mp hn)).2
          show _ = if (p n != false) = true then _ else _
          rw [this]
          rfl
        · have : p n = false := by
            cases hp : p n with
            | false => rfl
            | true => exact absurd ((keysOf_mem _ n).mpr (List.mem_filter.mpr ⟨hn, hp⟩)) hno
          show (if (p n != false) = true then _ else _) = _
          rw [this]
          rfl
def startV : Vc := (fun _ => (true, none), (true, none))
def stV (v : Vc) (s : Sdi) : Vc := nrm (cmpV v (nrm (stepV s)))
def runV (ss : List Sdi) : Vc := ss.foldl stV startV
theorem hg_gone (h : Option Nat) : Hg goneV h := ⟨(fun _ _ z => by cases z), (fun z => by cases z)⟩
theorem hg_nrm {v : Vc} {h : Option Nat} (H : Hg v h) : Hg (nrm v) h := by
  unfold nrm
  split
  · exact hg_gone h
  · exact H
theorem hg_st {v : Vc} {h : Option Nat} (H : Hg v h) (s : Sdi) : ∃ h', Hg (stV v s) h' := by
  have key : ∀ (u : Vc) (k : Option Nat), Hg u k → Hg (cmpV v u) (mn h k) := fun u k K => by
    have one : ∀ a b : Fa, (a.1 = true → a.2 = h) → (b.1 = true → b.2 = k) → (cmpF a b).1 = true → (cmpF a b).2 = mn h k := fun a b h1 h2 h3 => by
      unfold cmpF at h3 ⊢
      cases ha : a.1 with
      | true =>
        rw [ha, if_pos rfl] at h3
        rw [if_pos rfl]
        show mn a.2 b.2 = mn h k
        rw [h1 ha, h2 h3]
      | false => rw [ha, if_neg Bool.false_ne_true, ha] at h3; cases h3
    exact ⟨fun n hn => one _ _ (H.1 n hn) (K.1 n hn), one _ _ H.2 K.2⟩
  have stepH : ∃ k, Hg (stepV s) k := by
    cases s with
    | cut k => exact ⟨some k, fun _ _ _ => rfl, fun _ => rfl⟩
    | lot dr p rest =>
      refine ⟨none, fun n _ z => ?_, fun z => ?_⟩
      · show (if (p n != rest) = true then ((false, if dr = true then some 0 else none) : Fa) else (true, none)).2 = none
        have z' : (if (p n != rest) = true then ((false, if dr = true then some 0 else none) : Fa) else (true, none)).1 = true := z
        by_cases q : (p n != rest) = true
        · rw [if_pos q] at z'; cases z'
        · rw [if_neg q]
      · show (if rest = true then ((false, if dr = true then some 0 else none) : Fa) else (true, none)).2 = none
        have z' : (if rest = true then ((false, if dr = true then some 0 else none) : Fa) else (true, none)).1 = true := z
        by_cases q : rest = true
        · rw [if_pos q] at z'; cases z'
        · rw [if_neg q]
  obtain ⟨k, K⟩ := stepH
  exact ⟨_, hg_nrm (key _ k (hg_nrm K))⟩
theorem m_steps_go (F : SF) : ∀ (ss : List Sdi) (v : Vc) (h : Option Nat) (a c : Sl), Hg v h → ∃ c', forGo (g_name 2) (s_seq (s_set (g_name 1) (x_call R_form_behind (a_cons (x_var 1) (a_cons (x_call R_form_of_step (a_cons (x_var 2) a_nil)) a_nil)))) s_nil) (ss.map stepObj) [a, .d (canV v), c] = some (.nx [a, .d (canV (ss.foldl stV v)), c'])
  | [], v, h, a, c, H => ⟨c, rfl⟩
  | s :: ss, v, h, a, c, H => by
    obtain ⟨h', H'⟩ := hg_st H s
    obtain ⟨c', e⟩ := m_steps_go F ss (stV v s) h' a (.d (stepObj s)) H'
    refine ⟨c', f_cons (us := [(2, stepObj s)]) rfl (q_set (d := canV (stV v s)) (us := [(1, canV (stV v s))]) (e_call (ds := [canV v, canV (nrm (stepV s))]) (e_cons rfl (e_cons (e_call (ds := [stepObj s]) rfl (m_form_of_step s)) e_nil)) (m_behind H)) rfl rfl) e⟩
theorem hg_start : Hg startV none := ⟨fun _ _ _ => rfl, fun _ => rfl⟩
theorem m_form_of_steps (ss : List Sdi) (hl : ss.length ≤ LIM) : R_form_of_steps [.tup (ss.map stepObj)] = some (canV (runV ss)) := by
  obtain ⟨c', e⟩ := m_steps_go s_nil ss startV none (.d (.tup (ss.map stepObj))) .un hg_start
  exact run_rt (q_set (d := D_START) (us := [(1, D_START)]) rfl rfl (q_for (xs := ss.map stepObj) rfl (by rw [List.length_map]; exact hl) e (q_ret rfl)))
theorem hg_run (ss : List Sdi) : ∃ h, Hg (runV ss) h := by
  have : ∀ (ss : List Sdi) (v : Vc) (h : Option Nat), Hg v h → ∃ h, Hg (ss.foldl stV v) h := fun ss => by
    induction ss with
    | nil => exact fun v h H => ⟨h, H⟩
    | cons s ss ih =>
      intro v h H
      obtain ⟨h', H'⟩ := hg_st H s
      exact ih _ h' H'
  exact this ss _ _ hg_start
end DL
/-! is_within. -/
namespace DL
open PySem PySem.Spec PyProof.Rows L2
def leF (a b : Fa) : Bool := (!a.1 || b.1) && leR a.2 b.2
def leV (v u : Vc) : Bool := (LBL.all fun n => leF (v.1 n) (u.1 n)) && leF v.2 u.2
theorem m_side (v : Vc) {n : Str} (hn : n ∈ LBL) : R_side [canV v, .str n] = some (restD (v.1 n)) := by
  have l : (canT v).length ≤ LIM := Nat.le_trans (can_len v) (by decide)
  refine run_rt (q_ret ?_)
  have e1 := m_final_in (canT v) v.2 n l (can_ok v) (ok_LBL n hn)
  have e2 := m_room_in (canT v) v.2 n l (can_ok v) (ok_LBL n hn)
  rw [look_can v hn] at e1 e2
  exact e_tup (ds := [.bl (v.1 n).1, dR (v.1 n).2]) (e_cons (e_bin (e_call (ds := [canV v, .str n]) rfl e1) rfl (dIsNot_fin _ _)) (e_cons (e_call (ds := [canV v, .str n]) rfl e2) e_nil)) (show 2 ≤ LIM by decide)
theorem strs_map : ∀ l : List Str, strsOf (l.map .str) = some l
  | [] => rfl
  | a :: l => by
    show (strsOf (l.map .str)).bind (fun xs => some (a :: xs)) = _
    rw [strs_map l]
    rfl
theorem nub_sort {l : List Str} (h : ∀ n ∈ l, n ∈ LBL) : sortS (nubG l) = LBL.filter fun n => decide (n ∈ l) := by
  rw [sort_sub (nubG_nodup l) fun n hn => h n ((nubG_mem l n).mp hn)]
  exact List.filter_congr fun n _ => by
    rw [decide_eq_decide]
    exact nubG_mem l n
def tolds (v u : Vc) : List Str := LBL.filter fun n => !decide (v.1 n = v.2) || !decide (u.1 n = u.2)
theorem fst_can (v : Vc) (n : Str) : n ∈ (canT v).map (·.1) ↔ n ∈ LBL ∧ v.1 n ≠ v.2 := by
  unfold canT
  rw [List.map_map]
  constructor
  · intro h
    obtain ⟨m, hm, rfl⟩ := List.mem_map.mp h
    obtain ⟨a, b⟩ := List.mem_filter.mp hm
    exact ⟨a, fun z => by dsimp only [Function.comp] at z; rw [decide_eq_true z] at b; exact absurd b (by decide)⟩
  · rintro ⟨a, b⟩
    exact List.mem_map.mpr ⟨n, List.mem_filter.mpr ⟨a, by rw [decide_eq_false b]; rfl⟩, rfl⟩
theorem m_told_in (v u : Vc) : R_told_in [canV v, canV u] = some (.lst ((tolds v u).map .str)) := by
  have l1 := can_len v
  have l2 := can_len u
  have hmem : ∀ n ∈ ((canT v ++ canT u).map (·.1)), n ∈ LBL := fun n hn => by
    rw [List.map_append] at hn
    rcases List.mem_append.mp hn with z | z
    · exact ((fst_can v n).mp z).1
    · exact ((fst_can u n).mp z).1
  refine run_rt (q_ret ?_)
  refine e_un (d := .lst (((canT v ++ canT u).map (·.1)).map .str)) ?_ ?_
  · rw [List.map_map]
    refine e_lcM (l := canT v ++ canT u) entP (fun p => .str p.1) ?_ (fun p _ => e_turn1 (us := [(2, entP p)]) rfl rfl rfl) (by rw [List.length_append]; exact Nat.le_trans (show _ ≤ 8 by omega) (by decide))
    unfold i_seq
    rw [e_bin (d1 := .tup ((canT v).map entP)) (d2 := .tup ((canT u).map entP)) (e := .tup ((canT v ++ canT u).map entP)) rfl rfl (by
      show (if ((canT v).map entP).length + ((canT u).map entP).length ≤ LIM then some (D.tup ((canT v).map entP ++ (canT u).map entP)) else none) = _
      rw [if_pos (by rw [List.length_map, List.length_map]; exact Nat.le_trans (show _ ≤ 8 by omega) (by decide)), List.map_append])]
    rfl
  · show sortSetL _ = _
    unfold sortSetL
    rw [strs_map]
    dsimp only
    rw [if_pos (by rw [List.length_map, List.length_append]; omega), nub_sort hmem]
    congr 3
    unfold tolds
    refine List.filter_congr fun n hn => ?_
    rw [List.map_append, ← Bool.coe_iff_coe, decide_eq_true_eq, List.mem_append, fst_can, fst_can]
    simp [hn]
def pairD2 (a b : Fa) : D := .tup [restD a, restD b]
theorem m_pairs_of (v u : Vc) : R_pairs_of [canV v, canV u] = some (.lst ((tolds v u).map (fun n => pairD2 (v.1 n) (u.1 n)) ++ [pairD2 v.2 u.2])) := by
  have lt : (tolds v u).length ≤ 4 := List.length_filter_le _ _
  refine run_rt (q_set (d := .lst ((tolds v u).map fun n => pairD2 (v.1 n) (u.1 n))) (us := [(2, .lst ((tolds v u).map fun n => pairD2 (v.1 n) (u.1 n)))]) ?_ rfl (q_ret ?_))
  · refine e_lcM (l := tolds v u) .str (fun n => pairD2 (v.1 n) (u.1 n)) ?_ (fun n hn => ?_) (Nat.le_trans lt (by decide))
    · unfold i_seq
      rw [e_call (ds := [canV v, canV u]) rfl (m_told_in v u)]
      rfl
    · have hL : n ∈ LBL := (List.mem_filter.mp hn).1
      exact e_turn1 (us := [(3, .str n)]) rfl rfl (e_tup (ds := [restD (v.1 n), restD (u.1 n)]) (e_cons (e_call (ds := [canV v, .str n]) rfl (m_side v hL)) (e_cons (e_call (ds := [canV u, .str n]) rfl (m_side u hL)) e_nil)) (show 2 ≤ LIM by decide))
  · refine e_lst (ds := (tolds v u).map (fun n => pairD2 (v.1 n) (u.1 n)) ++ [pairD2 v.2 u.2]) (e_star rfl rfl (e_cons (d := pairD2 v.2 u.2) (e_tup (ds := [restD v.2, restD u.2]) rfl (show 2 ≤ LIM by decide)) e_nil)) ?_
    rw [List.length_append, List.length_map]
    exact Nat.le_trans (show _ ≤ 5 from by simp; omega) (by decide)
theorem m_is_within (v u : Vc) : R_is_within [canV v, canV u] = some (.bl (leV v u)) := by
  have lt : (tolds v u).length ≤ 4 := List.length_filter_le _ _
  have e : leV v u = ((((tolds v u).map fun n => (v.1 n, u.1 n)) ++ [(v.2, u.2)]).all fun p => leF p.1 p.2) := by
    unfold leV
    rw [List.all_append, List.all_map, Bool.eq_iff_iff]
    simp only [Bool.and_eq_true, List.all_eq_true, List.all_cons, List.all_nil, Bool.and_true, Function.comp]
    constructor
    · rintro ⟨h1, h2⟩
      exact ⟨fun n hn => h1 n (List.mem_filter.mp hn).1, h2⟩
    · rintro ⟨h1, h2⟩
      refine ⟨fun n hn => ?_, h2⟩
      by_cases m : n ∈ tolds v u
      · exact h1 n m
      · have a1 : v.1 n = v.2 := Decidable.byContradiction fun z => m (List.mem_filter.mpr ⟨hn, by rw [decide_eq_false z]; rfl⟩)
        have a2 : u.1 n = u.2 := Decidable.byContradiction fun z => m (List.mem_filter.mpr ⟨hn, by rw [decide_eq_false z, Bool.or_eq_true]; exact .inr rfl⟩)
        rw [a1, a2]; exact h2
  rw [e]
  refine run_rt (q_ret (e_call (ds := [.lst ((((tolds v u).map fun n => (v.1 n, u.1 n)) ++ [(v.2, u.2)]).map fun p => .bl (leF p.1 p.2))]) (e_cons ?_ e_nil) (all_map _ _)))
  refine e_lcM (l := ((tolds v u).map fun n => (v.1 n, u.1 n)) ++ [(v.2, u.2)]) (fun p => pairD2 p.1 p.2) (fun p => .bl (leF p.1 p.2)) ?_ (fun p _ => ?_) ?_
  · unfold i_seq
    rw [e_call (ds := [canV v, canV u]) rfl (m_pairs_of v u), List.map_append, List.map_map]
    rfl
  · refine e_turn1 (us := [(2, restD p.1), (3, restD p.2)]) rfl rfl ?_
    unfold leF
    exact e_xand (a := !p.1.1 || p.2.1) (d1b := leR p.1.2 p.2.2) rfl fun _ => e_call (ds := [dR p.1.2, dR p.2.2]) rfl (m_is_most _ _)
  · rw [List.length_append, List.length_map]
    exact Nat.le_trans (show _ ≤ 5 from by simp; omega) (by decide)
end DL
/-! plain_steps: its text. -/
namespace DL
open PySem PySem.Spec PyProof.Rows L2
section
variable {F F1 F2 : SF} {σ σ' : RhoS} {o : Out} {d : D} {f : Rho → Option D} {t : Rho → Option Bool}
theorem q_newL {i : Nat} (h : F (σ.set i (.ol [])) = some o) : s_seq (s_newL i) F σ = some o := h
theorem q_app {i : Nat} {xs : List D} (hi : σ[i]? = some (.ol xs)) (hf : f (mask σ) = some d) (hl : xs.length < LIM) (h : F (σ.set i (.ol (xs ++ [d]))) = some o) : s_seq (s_app i f) F σ = some o := by
  unfold s_seq s_app
  rw [hi]
  dsimp only
  rw [hf, Option.bind_some, if_pos hl]
  exact h
theorem q_ext {i : Nat} {xs ys : List D} (hi : σ[i]? = some (.ol xs)) (hf : f (mask σ) = some (.lst ys)) (hl : xs.length + ys.length ≤ LIM) (h : F (σ.set i (.ol (xs ++ ys))) = some o) : s_seq (s_ext i f) F σ = some o := by
  unfold s_seq s_ext
  rw [hi]
  dsimp only
  rw [hf, Option.bind_some]
  dsimp only
  rw [if_pos hl]
  exact h
/-- an if that goes on -/
theorem q_ifN {b : Bool} (h : t (peek σ) = some b) (hT : b = true → F1 σ = some (.nx σ')) (hF : b = false → σ' = σ) (h2 : F σ' = some o) : s_seq (s_if t F1 s_nil) F σ = some o := by
  refine q_if (σ' := σ') h ?_ h2
  cases b with
  | true => rw [if_pos rfl]; exact hT rfl
  | false => rw [if_neg Bool.false_ne_true, hF rfl]; rfl
end
theorem run_I {c n N : Nat} {F : Rho → List D → Option (List D)} {ds : List D} {a b : D} (hl : ds.length + 1 = n) (h : F (none :: (ds.map some ++ List.replicate (N - n) none)) [] = some [a, b]) : runI c n N F ds = some (.obj c [a, b]) := by
  unfold runI
  rw [if_pos hl, h]
  rfl
theorem n_two_ok {f f2 : Rho → Option D} {ρ : Rho} {a b : D} (h1 : f ρ = some a) (h2 : f2 ρ = some b) : n_two f f2 (fun _ fs => some fs) ρ [] = some [a, b] := by
  unfold n_two
  dsimp only
  rw [h1, Option.bind_some, h2]
  rfl
theorem m_set_of {l : List Str} {d : D} (hd : itemsOf d = some (l.map .str)) (hl : l.length < 64) (h : ∀ n ∈ l, n ∈ LBL) : R_set_of [d] = some (.tup ((LBL.filter fun n => decide (n ∈ l)).map .str)) := by
  refine run_rt (q_ret (e_call (ds := [.lst ((LBL.filter fun n => decide (n ∈ l)).map .str)]) (e_cons (e_un (d := d) rfl ?_) e_nil) rfl))
  unfold dSortSet
  rw [hd, Option.bind_some]
  unfold sortSetL
  rw [strs_map]
  dsimp only
  rw [if_pos hl, nub_sort h]
theorem m_labels {l : List Str} {d : D} (b : Bool) (hd : itemsOf d = some (l.map .str)) (hl : l.length < 64) (h : ∀ n ∈ l, n ∈ LBL) : R_Labels_init [d, .bl b] = some (lotD (fun n => decide (n ∈ l)) b) :=
  run_I rfl (n_two_ok (e_call (ds := [d]) rfl (m_set_of hd hl h)) rfl)
theorem m_is_step_cut (k : Nat) : R_is_step [.str "cut", .int ((k + 1 : Nat) : Int)] = some (.bl true) := by
  refine run_rt (q_ifT (e_val (e_bin rfl rfl (eq_str ok_of ok_of))) (q_ret (e_bin (d1 := .int ((k + 1 : Nat) : Int)) (d2 := .int 1) rfl rfl ?_)))
  show some (D.bl (decide ((1 : Int) ≤ ((k + 1 : Nat) : Int)))) = _
  rw [decide_eq_true (by omega)]
theorem m_is_step_lot (dr : Bool) (w : D) : R_is_step [.str (if dr = true then "drop" else "unwrap"), w] = some (.bl true) := by
  cases dr
  · exact run_rt (q_ifF (e_val (e_bin rfl rfl (eq_str ok_of ok_of))) (q_ifF (e_val (e_bin rfl rfl (eq_str ok_of ok_of))) (q_ret rfl)))
  · exact run_rt (q_ifF (e_val (e_bin rfl rfl (eq_str ok_of ok_of))) (q_ifF (e_val (e_bin rfl rfl (eq_str ok_of ok_of))) (q_ret rfl)))
theorem m_step {k : Str} {w : D} (hk : okS k) (hne : k ≠ "rename") (ht : R_tupled [w] = some w) (hs : R_is_step [.str k, w] = some (.bl true)) : R_Step_init [.str k, w] = some (.obj 1 [.str k, w]) := by
  refine run_I rfl ?_
  show F_Step_init [none, some (.str k), some w, none, none] [] = _
  unfold F_Step_init n_set
  rw [if_neg (by decide), e_call (ds := [w]) rfl ht, Option.bind_some]
  show n_if _ _ [none, some (.str k), some w, some w, none] [] = _
  unfold n_if
  rw [e_not (e_val (e_call (ds := [.str k, w]) rfl hs)), Option.bind_some, Bool.not_true, if_neg Bool.false_ne_true, e_val (e_bin (d1 := .str k) (d2 := .str "rename") rfl rfl (eq_str hk ok_of)), Option.bind_some, beq_eq_false_iff_ne.mpr hne, if_neg Bool.false_ne_true]
  exact n_two_ok rfl rfl
theorem m_step_cut (k : Nat) : R_Step_init [.str "cut", .int ((k + 1 : Nat) : Int)] = some (stepObj (.cut k)) := m_step ok_of (by decide) rfl (m_is_step_cut k)
theorem m_step_lot (dr : Bool) (p : Str → Bool) (rest : Bool) : R_Step_init [.str (if dr = true then "drop" else "unwrap"), lotD p rest] = some (stepObj (.lot dr p rest)) :=
  m_step (by cases dr <;> exact ok_of) (by cases dr <;> decide) rfl (m_is_step_lot dr _)
theorem mkL2 {a b d : D} (h : R_Labels_init [a, b] = some d) : (fun ds => R_Labels_init (ds ++ [])) [a, b] = some d := h
theorem mkL1 {a d : D} (h : R_Labels_init [a, .bl false] = some d) : (fun ds => R_Labels_init (ds ++ [.bl false])) [a] = some d := h
theorem mkS {a b d : D} (h : R_Step_init [a, b] = some d) : (fun ds => R_Step_init (ds ++ [])) [a, b] = some d := h
/-! ### what is gone -/
def goneT (v : Vc) : List (Str × Fa) := (canT v).filter fun p => !p.2.1
def goneR (v : Vc) : List (Option Nat) := (goneT v).map (·.2.2) ++ (if v.2.1 = true then [] else [v.2.2])
theorem gone_len (v : Vc) : (goneR v).length ≤ 5 := by
  unfold goneR
  have h := can_len v
  have : (goneT v).length ≤ (canT v).length := List.length_filter_le _ _
  rw [List.length_append, List.length_map]
  split
  · rw [List.length_nil]; omega
  · rw [List.length_singleton]; omega
theorem lc_gone {t : List (Str × Fa)} {ρ : Rho} {it : Rho → Option (List D)} {f : Rho → Option D} {tt : Rho → Option Bool} (i j k : Nat) (q : Str × Fa → Bool) (ψ : Str × Fa → D) (hi : it ρ = some (t.map entP))
    (ht : ∀ p ∈ t, tt (setR (wipeR ρ [i, j, k]) [(i, .str p.1), (j, fin p.1 p.2.1), (k, dR p.2.2)]) = some (q p))
    (hf : ∀ p ∈ t, q p = true → f (setR (wipeR ρ [i, j, k]) [(i, .str p.1), (j, fin p.1 p.2.1), (k, dR p.2.2)]) = some (ψ p)) (hl : t.length ≤ LIM) :
    x_lc it [i, j, k] (g_tup 3 (g_cons (g_name i) (g_cons (g_name j) (g_cons (g_name k) g_nil)))) tt f ρ = some (.lst ((t.filter q).map ψ)) :=
  e_lcF (l := t) entP q ψ (fun p => [(i, .str p.1), (j, fin p.1 p.2.1), (k, dR p.2.2)]) hi (fun _ _ => rfl) (fun _ _ => by simp) ht hf hl
theorem m_rooms_gone (v : Vc) : R_rooms_gone [canV v] = some (.lst ((goneR v).map dR)) := by
  have l : (canT v).length ≤ LIM := Nat.le_trans (can_len v) (by decide)
  have lg := gone_len v
  refine run_rt (q_set (d := .lst ((goneT v).map fun p => dR p.2.2)) (us := [(1, .lst ((goneT v).map fun p => dR p.2.2))]) (lc_gone 2 3 4 (fun p => !p.2.1) (fun p => dR p.2.2) rfl (fun p _ => e_val (e_bin (d1 := fin p.1 p.2.1) rfl rfl (dIsN_fin _ _))) (fun _ _ _ => rfl) l) rfl (q_ret ?_))
  unfold goneR
  refine e_if (b := v.2.1) (e_val rfl) (fun h => ?_) fun h => ?_
  · rw [if_pos h, List.append_nil, List.map_map]
    rfl
  · rw [if_neg (by rw [h]; exact Bool.false_ne_true), List.map_append, List.map_map]
    refine e_lst (ds := ((goneT v).map fun p => dR p.2.2) ++ [dR v.2.2]) (e_star rfl rfl (e_cons rfl e_nil)) ?_
    have : (goneT v).length ≤ (canT v).length := List.length_filter_le _ _
    rw [List.length_append, List.length_map]
    exact Nat.le_trans (show _ ≤ 5 from by have := can_len v; simp; omega) (by decide)
theorem eq_room (a b : Option Nat) : dEq (dR a) (dR b) = some (.bl (decide (a = b))) := by
  cases a <;> cases b
  · rfl
  · rfl
  · rfl
  · rename_i u w
    show some (D.bl ((u : Int) == (w : Int))) = some (D.bl (decide (some u = some w)))
    by_cases e : u = w
    · subst e; simp
    · rw [decide_eq_false (fun z => e (Option.some.inj z)), beq_eq_false_iff_ne.mpr (by omega)]
def rg (v : Vc) (a : Option Nat) : Bool := !v.2.1 && decide (v.2.2 = a)
def lq (v : Vc) (a : Option Nat) (n : Str) : Bool := if rg v a = true then !decide (v.1 n = v.2) else decide (v.1 n = (false, a))
theorem lotD_congr {p q : Str → Bool} {b : Bool} (h : ∀ n ∈ LBL, p n = q n) : lotD p b = lotD q b := by
  unfold lotD
  rw [List.filter_congr h]
theorem m_labels_gone (v : Vc) (a : Option Nat) : R_labels_gone [canV v, dR a] = some (lotD (lq v a) (rg v a)) := by
  have l : (canT v).length ≤ LIM := Nat.le_trans (can_len v) (by decide)
  have l4 := can_len v
  have tst : ∀ (b c e : Sl), (t_and (t_not (t_val (x_var 2))) (t_val (x_bin dEq (x_var 3) (x_var 1)))) (peek [.d (canV v), .d (dR a), .d (.bl v.2.1), .d (dR v.2.2), b, c, e]) = some (rg v a) := fun b c e => e_and (e_not (e_val rfl)) fun _ => e_val (e_bin (d1 := dR v.2.2) (d2 := dR a) rfl rfl (eq_room _ _))
  refine run_rt (q_set (d := restD v.2) (us := [(2, .bl v.2.1), (3, dR v.2.2)]) rfl rfl ?_)
  cases hr : rg v a with
  | true =>
    have hL : R_Labels_init [.lst (((canT v).map (·.1)).map .str), .bl true] = some (lotD (lq v a) true) := by
      rw [m_labels (l := (canT v).map (·.1)) true rfl (by rw [List.length_map]; omega) fun n hn => ((fst_can v n).mp hn).1]
      congr 1
      refine lotD_congr fun n hn => ?_
      unfold lq
      rw [hr, if_pos rfl, ← decide_not, decide_eq_decide, fst_can]
      exact ⟨fun z => z.2, fun z => ⟨hn, z⟩⟩
    refine q_ifT ((tst .un .un .un).trans (by rw [hr])) (q_ret (e_call (e_cons ?_ (e_cons rfl e_nil)) (mkL2 hL)))
    rw [List.map_map]
    exact e_lcM (l := canT v) entP (fun p => .str p.1) rfl (fun p _ => e_turn1 (us := [(4, .str p.1), (5, fin p.1 p.2.1), (6, dR p.2.2)]) rfl rfl rfl) l
  | false =>
    have hL : R_Labels_init [.lst ((((canT v).filter fun p => !p.2.1 && decide (p.2.2 = a)).map (·.1)).map .str), .bl false] = some (lotD (lq v a) false) := by
      rw [m_labels (l := ((canT v).filter fun p => !p.2.1 && decide (p.2.2 = a)).map (·.1)) false rfl (by rw [List.length_map]; exact Nat.lt_of_le_of_lt (List.length_filter_le _ _) (by omega)) fun n hn => by
        obtain ⟨p, hp, rfl⟩ := List.mem_map.mp hn
        exact ((fst_can v p.1).mp (List.mem_map.mpr ⟨p, (List.mem_filter.mp hp).1, rfl⟩)).1]
      congr 1
      refine lotD_congr fun n hn => ?_
      unfold lq
      rw [hr, if_neg Bool.false_ne_true, decide_eq_decide]
      constructor
      · intro h
        obtain ⟨p, hp, rfl⟩ := List.mem_map.mp h
        obtain ⟨h1, h2⟩ := List.mem_filter.mp hp
        obtain ⟨m, hm, rfl⟩ := List.mem_map.mp h1
        rw [Bool.and_eq_true, decide_eq_true_eq, Bool.not_eq_true'] at h2
        exact Prod.ext h2.1 h2.2
      · intro h
        have hne : v.1 n ≠ v.2 := fun z => by
          unfold rg at hr
          rw [← z, h] at hr
          simp at hr
        exact List.mem_map.mpr ⟨(n, v.1 n), List.mem_filter.mpr ⟨List.mem_map.mpr ⟨n, List.mem_filter.mpr ⟨hn, by rw [decide_eq_false hne]; rfl⟩, rfl⟩, by rw [h]; simp⟩, rfl⟩
    refine q_ifF ((tst .un .un .un).trans (by rw [hr])) (q_ret (e_call (e_cons ?_ e_nil) (mkL1 hL)))
    rw [List.map_map]
    exact lc_gone 4 5 6 (fun p => !p.2.1 && decide (p.2.2 = a)) (fun p => .str p.1) rfl (fun p _ => e_and (e_val (e_bin (d1 := fin p.1 p.2.1) rfl rfl (dIsN_fin _ _))) fun _ => e_val (e_bin (d1 := dR p.2.2) (d2 := dR a) rfl rfl (eq_room _ _))) (fun _ _ _ => rfl) l
theorem flat_room (a : Option Nat) : flatD (dR a) = true := by cases a <;> rfl
theorem in_room (a : Option Nat) (l : List (Option Nat)) : dIn (dR a) (.lst (l.map dR)) = some (.bl (decide (a ∈ l))) := by
  have e : inD (dR a) (l.map dR) = decide (a ∈ l) := by
    unfold inD
    rw [List.any_map, Bool.eq_iff_iff, List.any_eq_true, decide_eq_true_eq]
    have ke : ∀ b : Option Nat, eqV (toV (dR b)) (toV (dR a)) = decide (b = a) := fun b => by
      cases a <;> cases b
      · rfl
      · rfl
      · rfl
      · rename_i w u
        show ((u : Int) == (w : Int)) = decide (some u = some w)
        by_cases e : u = w
        · subst e; simp
        · rw [decide_eq_false (fun z => e (Option.some.inj z)), beq_eq_false_iff_ne.mpr (by omega)]
    constructor
    · rintro ⟨b, hb, h⟩
      have h' : eqV (toV (dR b)) (toV (dR a)) = true := h
      rw [ke b, decide_eq_true_eq] at h'
      rw [← h']; exact hb
    · intro h
      exact ⟨a, h, by show eqV (toV (dR a)) (toV (dR a)) = true; rw [ke a, decide_eq_true rfl]⟩
  unfold dIn
  show (if (flatD (dR a) && (l.map dR).all flatD) = true then _ else _) = _
  rw [if_pos (by rw [flat_room, Bool.true_and, List.all_map, List.all_eq_true]; exact fun b _ => flat_room b), e]
theorem notIn_room (a : Option Nat) (l : List (Option Nat)) : dNotIn (dR a) (.lst (l.map dR)) = some (.bl (!decide (a ∈ l))) := by
  have h := in_room a l
  unfold dIn at h
  unfold dNotIn
  have h' : (if (flatD (dR a) && (l.map dR).all flatD) = true then some (D.bl (inD (dR a) (l.map dR))) else none) = some (.bl (decide (a ∈ l))) := h
  show (if (flatD (dR a) && (l.map dR).all flatD) = true then some (D.bl (!inD (dR a) (l.map dR))) else none) = _
  by_cases q : (flatD (dR a) && (l.map dR).all flatD) = true
  · rw [if_pos q] at h' ⊢
    rw [D.bl.inj (Option.some.inj h')]
  · rw [if_neg q] at h'; cases h'
/-! the rooms above 0, once each, falling -/
def posR (v : Vc) : List Nat := (goneR v).filterMap fun a => match a with | some (k + 1) => some (k + 1) | _ => none
def fallI (l : List Nat) : List Int := (sortI (nubG (l.map fun k : Nat => (k : Int)))).reverse
def fallR (v : Vc) : List Nat := (fallI (posR v)).map Int.toNat
theorem fall_mem (l : List Nat) (x : Int) : x ∈ fallI l ↔ ∃ k ∈ l, x = (k : Int) := by
  unfold fallI
  rw [List.mem_reverse, (sortI_perm _).mem_iff, nubG_mem, List.mem_map]
  exact ⟨fun ⟨k, h, e⟩ => ⟨k, h, e.symm⟩, fun ⟨k, h, e⟩ => ⟨k, h, e.symm⟩⟩
theorem fall_back (v : Vc) : (fallR v).map (fun k => D.int (k : Nat)) = (fallI (posR v)).map .int := by
  unfold fallR
  rw [List.map_map]
  refine List.map_congr_left fun x hx => ?_
  obtain ⟨k, _, rfl⟩ := (fall_mem _ _).mp hx
  rfl
theorem fallR_mem (v : Vc) (k : Nat) : k ∈ fallR v ↔ 0 < k ∧ some k ∈ goneR v := by
  have h1 : k ∈ posR v ↔ 0 < k ∧ some k ∈ goneR v := by
    unfold posR
    rw [List.mem_filterMap]
    constructor
    · rintro ⟨a, ha, h⟩
      cases a with
      | none => cases h
      | some a =>
        cases a with
        | zero => cases h
        | succ a => cases h; exact ⟨Nat.succ_pos _, ha⟩
    · rintro ⟨h0, h⟩
      cases k with
      | zero => omega
      | succ k => exact ⟨_, h, rfl⟩
  rw [← h1]
  unfold fallR
  rw [List.mem_map]
  constructor
  · rintro ⟨x, hx, rfl⟩
    obtain ⟨j, hj, rfl⟩ := (fall_mem _ _).mp hx
    exact hj
  · intro h
    exact ⟨(k : Int), (fall_mem _ _).mpr ⟨k, h, rfl⟩, rfl⟩
theorem fallR_desc (v : Vc) : (fallR v).Pairwise (fun a b => b ≤ a) := by
  unfold fallR
  rw [List.pairwise_map]
  unfold fallI
  rw [List.pairwise_reverse]
  refine (sortI_sorted _).imp_of_mem fun {a b} ha hb h => ?_
  omega
theorem fallR_nd (v : Vc) : (fallR v).Nodup := by
  unfold fallR
  have h0 : (fallI (posR v)).Nodup := by
    unfold fallI
    exact (List.reverse_perm _).nodup_iff.mpr ((sortI_perm _).nodup_iff.mpr (nubG_nodup _))
  have hp : ∀ x ∈ fallI (posR v), 0 ≤ x := fun x hx => by
    obtain ⟨k, _, rfl⟩ := (fall_mem _ _).mp hx
    omega
  rw [List.nodup_iff_pairwise_ne] at h0 ⊢
  rw [List.pairwise_map]
  refine h0.imp_of_mem fun {a b} ha hb h e => h ?_
  have := hp a ha
  have := hp b hb
  omega
theorem ints_map : ∀ (l : List Nat), intsOf (l.map fun k => D.int (k : Nat)) = some (l.map fun k : Nat => (k : Int))
  | [] => rfl
  | a :: l => by
    show (intsOf (l.map fun k => D.int (k : Nat))).bind (fun xs => some ((a : Int) :: xs)) = _
    rw [ints_map l]
    rfl
theorem m_fall (v : Vc) {ρ : Rho} {i j : Nat} (h : x_var i ρ = some (.lst ((goneR v).map dR))) (hj : ∀ d, x_var j (setR (wipeR ρ [j]) [(j, d)]) = some d) :
    (x_un dRev (x_un dSortSet (x_lc (i_seq (x_var i)) [j] (g_name j) (t_and (t_val (x_bin dIsNot' (x_var j) (x_c .non))) (t_val (x_bin dGt (x_var j) (x_c (.int 0))))) (x_var j)))) ρ = some (.lst ((fallR v).map fun k => .int (k : Nat))) := by
  have lg := gone_len v
  refine e_un (d := .lst (((fallI (posR v)).reverse).map .int)) (e_un (d := .lst ((posR v).map fun k => .int (k : Nat))) ?_ ?_) ?_
  · rw [e_lc (l := goneR v) dR (fun a => match a with | some (k + 1) => some (.int ((k + 1 : Nat) : Int)) | _ => none) (by unfold i_seq; rw [h]; rfl) (fun a _ => ?_) (Nat.le_trans lg (by decide))]
    · congr 2
      unfold posR
      rw [List.map_filterMap]
      congr 1
      funext a
      cases a with
      | none => rfl
      | some a => cases a <;> rfl
    · have hv := hj (dR a)
      cases a with
      | none => exact e_turn (us := [(j, dR none)]) (b := false) rfl (by simp) (e_and (a := false) (e_val (e_bin hv rfl rfl)) (b := false) (fun z => by cases z)) (fun z => by cases z) (fun _ => rfl)
      | some a =>
        refine e_turn (us := [(j, dR (some a))]) (b := decide (0 < a)) rfl (by simp) ((e_and (a := true) (b := decide (0 < a)) (e_val (e_bin hv rfl rfl)) fun _ => e_val (e_bin hv rfl ?_)).trans (by rw [Bool.true_and])) (fun z => ⟨_, hv, ?_⟩) (fun z => ?_)
        · show some (D.bl (decide ((0 : Int) < (a : Int)))) = _
          congr 2
          rw [decide_eq_decide]
          omega
        · have := of_decide_eq_true z
          cases a with
          | zero => omega
          | succ a => rfl
        · have := of_decide_eq_false z
          cases a with
          | zero => rfl
          | succ a => omega
  · have lp : (posR v).length < 64 := by
      have : (posR v).length ≤ (goneR v).length := List.length_filterMap_le _ _
      omega
    show sortSetL _ = _
    unfold sortSetL
    unfold fallI
    rw [List.reverse_reverse]
    cases hp : posR v with
    | nil => rfl
    | cons a l =>
      have es : strsOf ((a :: l).map fun k => D.int (k : Nat)) = none := rfl
      rw [es]
      dsimp only
      rw [ints_map, Option.bind_some, if_pos (by rw [List.length_map, ← hp]; exact lp)]
  · rw [fall_back]
    show some (D.lst (((fallI (posR v)).reverse.map D.int).reverse)) = _
    rw [← List.map_reverse, List.reverse_reverse]
end DL
/-! plain_steps. -/
namespace DL
open PySem PySem.Spec PyProof.Rows L2
def lotS (v : Vc) (dr : Bool) (a : Option Nat) : Sdi := .lot dr (lq v a) (rg v a)
def cutC (v : Vc) (h : Option Nat) : List Sdi := match h with
  | none => []
  | some x => if (decide (x = 0) || !decide (some x ∈ goneR v)) = true then [.cut x] else []
def plainN (v : Vc) (h : Option Nat) : List Sdi :=
  (if decide (some 0 ∈ goneR v) = true then [lotS v true (some 0)] else []) ++ (if decide (none ∈ goneR v) = true then [lotS v false none] else []) ++ (fallR v).flatMap (fun k => [.cut k, lotS v false (some k)]) ++ cutC v h
theorem shaped_ent {p : Str × Fa} (h : okS p.1) : (py (entP p)).canLay0 = true ∧ (py (entP p)).depth = 1 := by
  obtain ⟨n, a, b⟩ := p
  have h' : PyData.strOk n = true := h
  cases a
  · cases b
    · exact ⟨by show (PyData.strOk n && (true && (true && true))) = true; rw [h']; rfl, rfl⟩
    · exact ⟨by show (PyData.strOk n && (true && (true && true))) = true; rw [h']; rfl, rfl⟩
  · cases b
    · exact ⟨by show (PyData.strOk n && (PyData.strOk n && (true && true))) = true; rw [h']; rfl, rfl⟩
    · exact ⟨by show (PyData.strOk n && (PyData.strOk n && (true && true))) = true; rw [h']; rfl, rfl⟩
theorem pys_map (l : List (Str × Fa)) : okT l → PyData.canLayAll0 (pys (l.map entP)) = true ∧ PyData.depthAll (pys (l.map entP)) ≤ 1 := by
  induction l with
  | nil => exact fun _ => ⟨rfl, Nat.zero_le _⟩
  | cons p l ih =>
    intro h
    obtain ⟨a, b⟩ := ih fun q hq => h q (List.mem_cons_of_mem _ hq)
    obtain ⟨c, d⟩ := shaped_ent (h p List.mem_cons_self)
    refine ⟨?_, ?_⟩
    · show (PyData.canLay0 (py (entP p)) && PyData.canLayAll0 (pys (l.map entP))) = true
      rw [c, a]; rfl
    · show max (PyData.depth (py (entP p))) (PyData.depthAll (pys (l.map entP))) ≤ 1
      rw [d]
      omega
theorem shaped_form {t : List (Str × Fa)} {r : Fa} (h : okT t) : SeqAt.shaped (py (encF t r)) = true := by
  obtain ⟨a, b⟩ := pys_map t h
  have hr : ∀ x : Option Nat, PyData.canLay0 (py (dR x)) = true ∧ PyData.depth (py (dR x)) = 0 := fun x => by cases x <;> exact ⟨rfl, rfl⟩
  obtain ⟨c, d⟩ := hr r.2
  unfold SeqAt.shaped
  rw [Bool.and_eq_true, decide_eq_true_eq]
  refine ⟨?_, ?_⟩
  · show (PyData.canLayAll0 (pys (t.map entP)) && ((true && (PyData.canLay0 (py (dR r.2)) && true)) && true)) = true
    rw [a, c]; rfl
  · show max (PyData.depthAll (pys (t.map entP)) + 1) (max (max 0 (max (PyData.depth (py (dR r.2))) 0) + 1) 0) + 1 ≤ 64
    rw [d]
    omega
/-- two forms compared -/
def eqvT : List (Str × Fa) → List (Str × Fa) → Bool
  | [], [] => true
  | p :: l, q :: m => PyData.eqv (py (entP p)) (py (entP q)) && eqvT l m
  | _, _ => false
theorem eqv_pys : ∀ (l m : List (Str × Fa)), PyData.eqvAll (pys (l.map entP)) (pys (m.map entP)) = eqvT l m
  | [], [] => rfl
  | [], _ :: _ => rfl
  | _ :: _, [] => rfl
  | p :: l, q :: m => by
    show (PyData.eqv (py (entP p)) (py (entP q)) && PyData.eqvAll (pys (l.map entP)) (pys (m.map entP))) = _
    rw [eqv_pys l m]
    rfl
theorem eqv_rest (r s : Fa) : PyData.eqv (py (restD r)) (py (restD s)) = decide (r = s) := by
  obtain ⟨a, b⟩ := r
  obtain ⟨c, d⟩ := s
  have e := eq_room b d
  have e' : PyData.eqv (py (dR b)) (py (dR d)) = decide (b = d) := by
    cases b <;> cases d
    · rfl
    · rfl
    · rfl
    · rename_i u w
      show ((u : Int) == (w : Int)) = _
      by_cases q : u = w
      · subst q; simp
      · rw [decide_eq_false (fun z => q (Option.some.inj z)), beq_eq_false_iff_ne.mpr (by omega)]
  show ((a == c) && (PyData.eqv (py (dR b)) (py (dR d)) && true)) = _
  rw [e']
  cases a <;> cases c <;> simp
theorem dEq_form {t u : List (Str × Fa)} {r s : Fa} (h1 : okT t) (h2 : okT u) : dEq (encF t r) (encF u s) = some (.bl (eqvT t u && decide (r = s))) := by
  unfold dEq
  rw [shaped_form h1, shaped_form h2, Bool.and_self, if_pos rfl]
  congr 2
  show (PyData.eqvAll (pys (t.map entP)) (pys (u.map entP)) && (PyData.eqv (py (restD r)) (py (restD s)) && true)) = _
  rw [eqv_pys, eqv_rest, Bool.and_true]
/-- not all is gone: some fate is alive -/
def someA (v : Vc) : Prop := allG v = false
theorem not_nothing {v : Vc} (h : someA v) : dEq (canV v) D_NOTHING_rooms = some (.bl false) := by
  have e : D_NOTHING_rooms = encF [] (false, some 0) := rfl
  rw [e]
  unfold canV
  rw [dEq_form (can_ok v) (fun p hp => by cases hp)]
  congr 2
  rw [Bool.and_eq_false_iff]
  cases hr : v.2.1 with
  | true => exact .inr (decide_eq_false fun z => by rw [z] at hr; cases hr)
  | false =>
    left
    unfold someA allG at h
    rw [hr, Bool.not_false, Bool.true_and, ← Bool.not_eq_true, List.all_eq_true] at h
    have : ∃ n ∈ LBL, (v.1 n).1 = true := Decidable.byContradiction fun z => h fun n hn => by
      cases q : (v.1 n).1 with
      | false => rfl
      | true => exact absurd ⟨n, hn, q⟩ z
    obtain ⟨n, hn, ha⟩ := this
    have mem : (n, v.1 n) ∈ canT v := List.mem_map.mpr ⟨n, List.mem_filter.mpr ⟨hn, by rw [decide_eq_false (fun z => by rw [z, hr] at ha; cases ha)]; rfl⟩, rfl⟩
    cases q : canT v with
    | nil => rw [q] at mem; cases mem
    | cons p l => rfl
theorem tup_list (l : List D) : b_tuple [.lst l] = some (.tup l) := rfl
theorem loop_ok (v : Vc) (h : Option Nat) : ∀ (L : List Nat) (xs : List Sdi) (a b r : Sl), xs.length + 2 * L.length ≤ 1000 → ∃ r', forGo (g_name 4) (s_seq (s_ext 3 (x_lst (a_cons (x_call (fun ds => R_Step_init (ds ++ [])) (a_cons (x_c (.str "cut")) (a_cons (x_bin dAdd (x_var 4) (x_c (.int 1))) a_nil))) (a_cons (x_call (fun ds => R_Step_init (ds ++ [])) (a_cons (x_c (.str "unwrap")) (a_cons (x_call R_labels_gone (a_cons (x_var 0) (a_cons (x_var 4) a_nil))) a_nil))) a_nil)))) s_nil)
      (L.map fun k => D.int (k : Nat)) [.d (canV v), a, b, .ol (xs.map stepObj), r, .un, .un, .un, .un] = some (.nx [.d (canV v), a, b, .ol ((xs ++ L.flatMap fun k => [.cut k, lotS v false (some k)]).map stepObj), r', .un, .un, .un, .un])
  | [], xs, a, b, r, _ => ⟨r, by rw [List.flatMap_nil, List.append_nil]; rfl⟩
  | k :: L, xs, a, b, r, hl => by
    rw [List.length_cons] at hl
    obtain ⟨r', e⟩ := loop_ok v h L (xs ++ [.cut k, lotS v false (some k)]) a b (.d (.int (k : Nat))) (by rw [List.length_append]; show xs.length + 2 + 2 * L.length ≤ 1000; omega)
    refine ⟨r', ?_⟩
    rw [List.flatMap_cons, ← List.append_assoc]
    refine f_cons (us := [(4, .int (k : Nat))]) rfl (q_ext (xs := xs.map stepObj) (ys := [stepObj (.cut k), stepObj (lotS v false (some k))]) rfl ?_ ?_ rfl) ?_
    · refine e_lst (e_cons (e_call (ds := [.str "cut", .int ((k + 1 : Nat) : Int)]) rfl (mkS (m_step_cut k))) (e_cons (e_call (ds := [.str "unwrap", lotD (lq v (some k)) (rg v (some k))]) (e_cons rfl (e_cons (e_call (ds := [canV v, dR (some k)]) rfl (m_labels_gone v (some k))) e_nil)) (mkS (m_step_lot false _ _))) e_nil)) (show 2 ≤ LIM by decide)
    · rw [List.length_map]
      exact Nat.le_trans (show xs.length + 2 ≤ 1000 by omega) (by decide)
    · have em : (xs.map stepObj ++ [stepObj (.cut k), stepObj (lotS v false (some k))]) = (xs ++ [.cut k, lotS v false (some k)]).map stepObj := by rw [List.map_append]; rfl
      rw [← em] at e
      exact e
end DL
/-! plain_steps, its walk. -/
namespace DL
open PySem PySem.Spec PyProof.Rows L2
abbrev stS (v : Vc) (H : Option Nat) (xs : List Sdi) (r : Sl) : RhoS := [.d (canV v), .d (.lst ((goneR v).map dR)), .d (dR H), .ol (xs.map stepObj), r, .un, .un, .un, .un]
theorem app_if {t : Rho → Option Bool} {f : Rho → Option D} {F : SF} {v : Vc} {H : Option Nat} {xs : List Sdi} {r : Sl} {b : Bool} {s : Sdi} {o : Out} (ht : t (peek (stS v H xs r)) = some b) (hf : b = true → f (mask (stS v H xs r)) = some (stepObj s)) (hl : xs.length ≤ 1000)
    (h : F (stS v H (xs ++ (if b = true then [s] else [])) r) = some o) : s_seq (s_if t (s_seq (s_app 3 f) s_nil) s_nil) F (stS v H xs r) = some o := by
  refine q_ifN ht (fun hb => q_app (xs := xs.map stepObj) (d := stepObj s) rfl (hf hb) (by rw [List.length_map]; exact Nat.lt_of_le_of_lt hl (by decide)) ?_) (fun hb => ?_) h
  · rw [hb, if_pos rfl]
    show some (Out.nx [.d (canV v), .d (.lst ((goneR v).map dR)), .d (dR H), .ol (xs.map stepObj ++ [stepObj s]), r, .un, .un, .un, .un]) = some (Out.nx [.d (canV v), .d (.lst ((goneR v).map dR)), .d (dR H), .ol ((xs ++ [s]).map stepObj), r, .un, .un, .un, .un])
    rw [List.map_append]
    rfl
  · rw [hb, if_neg Bool.false_ne_true, List.append_nil]
theorem ne_fin (p : Str × Fa) (h : okS p.1) (ha : p.2.1 = true) : dNe (fin p.1 p.2.1) (.str p.1) = some (.bl false) := by
  unfold fin
  rw [if_pos ha]
  unfold dNe
  rw [shaped_str h, Bool.and_self, if_pos rfl]
  show some (D.bl (!(p.1 == p.1))) = _
  rw [beq_self_eq_true]
  rfl
theorem e_seq {f : Rho → Option D} {ρ : Rho} {d : D} {xs : List D} (h : f ρ = some d) (hi : itemsOf d = some xs) : i_seq f ρ = some xs := by unfold i_seq; rw [h]; exact hi
theorem m_plain (v : Vc) (hs : someA v) : R_plain_steps [canV v] = some (.tup ((plainN v (hgt (canT v) v.2)).map stepObj)) := by
  have l : (canT v).length ≤ LIM := Nat.le_trans (can_len v) (by decide)
  have lg := gone_len v
  have lf : (fallR v).length ≤ 5 := by
    unfold fallR fallI
    rw [List.length_map, List.length_reverse, (sortI_perm _).length_eq]
    have h1 := nubG_len ((posR v).map fun k : Nat => (k : Int))
    have h2 : (posR v).length ≤ (goneR v).length := List.length_filterMap_le _ _
    rw [List.length_map] at h1
    omega
  generalize hH : hgt (canT v) v.2 = H
  refine run_rt ?_
  refine q_ifF (e_val (e_bin (d1 := canV v) (d2 := D_NOTHING_rooms) rfl rfl (not_nothing hs))) ?_
  refine q_set (d := .tup [.lst ((goneR v).map dR), dR H]) (us := [(1, .lst ((goneR v).map dR)), (2, dR H)]) (e_tup (e_cons (e_call (ds := [canV v]) rfl (m_rooms_gone v)) (e_cons (e_call (ds := [canV v]) rfl (by rw [← hH]; exact m_height_in (canT v) v.2 l)) e_nil)) (show 2 ≤ LIM by decide)) rfl (q_newL ?_)
  refine app_if (v := v) (H := H) (xs := []) (r := .un) (b := decide (some 0 ∈ goneR v)) (s := lotS v true (some 0)) (e_val (e_bin (d1 := dR (some 0)) (d2 := .lst ((goneR v).map dR)) rfl rfl (in_room _ _))) (fun _ => e_call (ds := [.str "drop", lotD (lq v (some 0)) (rg v (some 0))]) (e_cons rfl (e_cons (e_call (ds := [canV v, dR (some 0)]) rfl (m_labels_gone v (some 0))) e_nil)) (mkS (m_step_lot true _ _))) (Nat.zero_le _) ?_
  refine app_if (v := v) (H := H) (r := .un) (b := decide (none ∈ goneR v)) (s := lotS v false none) (e_val (e_bin (d1 := dR none) (d2 := .lst ((goneR v).map dR)) rfl rfl (in_room _ _))) (fun _ => e_call (ds := [.str "unwrap", lotD (lq v none) (rg v none)]) (e_cons rfl (e_cons (e_call (ds := [canV v, dR none]) rfl (m_labels_gone v none)) e_nil)) (mkS (m_step_lot false _ _))) ?_ ?_
  · rw [List.nil_append]; split <;> simp
  rw [List.nil_append]
  have hx0 : ((if decide (some 0 ∈ goneR v) = true then [lotS v true (some 0)] else []) ++ (if decide (none ∈ goneR v) = true then [lotS v false none] else [])).length ≤ 2 := by
    rw [List.length_append]
    split <;> split <;> simp
  generalize hX : (if decide (some 0 ∈ goneR v) = true then [lotS v true (some 0)] else []) ++ (if decide (none ∈ goneR v) = true then [lotS v false none] else []) = xs at hx0
  obtain ⟨r', e⟩ := loop_ok v H (fallR v) xs (.d (.lst ((goneR v).map dR))) (.d (dR H)) .un (by omega)
  refine q_for (xs := (fallR v).map fun k => .int (k : Nat)) ?_ (by rw [List.length_map]; exact Nat.le_trans lf (by decide)) e ?_
  · exact e_seq (m_fall v (i := 1) (j := 6) rfl (fun d => rfl)) rfl
  have hflm : ((fallR v).flatMap fun k => [Sdi.cut k, lotS v false (some k)]).length ≤ 10 := by
    have : ∀ L : List Nat, (L.flatMap fun k => [Sdi.cut k, lotS v false (some k)]).length = 2 * L.length := fun L => by
      induction L with
      | nil => rfl
      | cons k L ih => rw [List.flatMap_cons, List.length_append, ih]; simp; omega
    rw [this]
    omega
  generalize hY : xs ++ (fallR v).flatMap (fun k => [Sdi.cut k, lotS v false (some k)]) = ys at e ⊢
  have hyl : ys.length ≤ 12 := by rw [← hY, List.length_append]; omega
  have hcond : ∃ b : Bool, ∃ s : Sdi, (t_and (t_val (x_bin dIsNot' (x_var 2) (x_c .non))) (t_or (t_val (x_bin dEq (x_var 2) (x_c (.int 0)))) (t_val (x_bin dNotIn (x_var 2) (x_var 1))))) (peek (stS v H ys r')) = some b ∧ (if b = true then [s] else []) = cutC v H ∧
      (b = true → (x_call (fun ds => R_Step_init (ds ++ [])) (a_cons (x_c (.str "cut")) (a_cons (x_bin dAdd (x_var 2) (x_c (.int 1))) a_nil))) (mask (stS v H ys r')) = some (stepObj s)) := by
    cases H with
    | none => exact ⟨false, .cut 0, rfl, rfl, fun z => by cases z⟩
    | some x =>
      refine ⟨decide (x = 0) || !decide (some x ∈ goneR v), .cut x, ?_, rfl, fun _ => e_call (ds := [.str "cut", .int ((x + 1 : Nat) : Int)]) rfl (mkS (m_step_cut x))⟩
      refine (e_and (a := true) (b := decide (x = 0) || !decide (some x ∈ goneR v)) rfl fun _ => e_or (e_val (e_bin (d1 := dR (some x)) (d2 := dR (some 0)) rfl rfl ?_)) fun _ => e_val (e_bin (d1 := dR (some x)) (d2 := .lst ((goneR v).map dR)) rfl rfl (notIn_room _ _))).trans (by rw [Bool.true_and])
      rw [eq_room]
      congr 2
      rw [decide_eq_decide]
      exact ⟨fun z => Option.some.inj z, fun z => by rw [z]⟩
  obtain ⟨b, s, hb1, hb2, hb3⟩ := hcond
  refine app_if (v := v) (H := H) (xs := ys) (r := r') (b := b) (s := s) hb1 hb3 (by omega) ?_
  rw [hb2]
  have hend : ys ++ cutC v H = plainN v H := by rw [← hY, ← hX]; unfold plainN; rfl
  rw [hend]
  refine q_set (d := .lst []) (us := [(5, .lst [])]) ?_ rfl (q_ret ?_)
  · have el := lc_gone (ρ := mask (stS v H (plainN v H) r')) (t := canT v) (it := i_seq (x_bin dSub1 (x_var 0) (x_c (.int 0)))) (tt := t_and (t_val (x_bin dIsNot' (x_var 8) (x_c .non))) (t_val (x_bin dNe (x_var 8) (x_var 7)))) (f := x_tup (a_cons (x_var 7) (a_cons (x_var 8) a_nil))) 7 8 4 (fun _ => false) (fun _ => .non) rfl (fun p hp => ?_) (fun _ _ z => by cases z) l
    · rw [show ((canT v).filter fun _ => false) = [] from List.filter_eq_nil_iff.mpr fun _ _ => Bool.false_ne_true] at el
      exact el
    · cases ha : p.2.1 with
      | true =>
        have hn := ne_fin p (can_ok v p hp) ha
        rw [ha] at hn
        exact e_and (a := true) (b := false) (e_val (e_bin (d1 := fin p.1 true) rfl rfl (dIsNot_fin _ _))) fun _ => e_val (e_bin (d1 := fin p.1 true) (d2 := .str p.1) rfl rfl hn)
      | false => exact e_and (a := false) (b := false) (e_val (e_bin (d1 := fin p.1 false) rfl rfl (dIsNot_fin _ _))) fun z => by cases z
  · exact e_if (b := false) rfl (fun z => by cases z) fun _ => e_call (ds := [.lst ((plainN v H).map stepObj)]) rfl (tup_list _)
end DL
/-! The plain pipeline has the same form. -/
namespace DL
open PySem PySem.Spec PyProof.Rows L2
inductive Op where
  | cut (k : Nat) | lot (dr : Bool) (a : Option Nat)
def opS (v : Vc) : Op → Sdi | .cut k => .cut k | .lot dr a => lotS v dr a
def opF : Op → Fa → Fa
  | .cut k, _ => (true, some k)
  | .lot dr a, f => if f = (false, a) then (false, if dr = true then some 0 else none) else (true, none)
theorem opF_T {dr : Bool} {a : Option Nat} {f : Fa} (e : f = (false, a)) : opF (.lot dr a) f = (false, if dr = true then some 0 else none) := if_pos e
theorem opF_N {dr : Bool} {a : Option Nat} {f : Fa} (e : f ≠ (false, a)) : opF (.lot dr a) f = (true, none) := if_neg e
def cutO (v : Vc) (h : Option Nat) : List Op := match h with
  | none => []
  | some x => if (decide (x = 0) || !decide (some x ∈ goneR v)) = true then [.cut x] else []
def plainO (v : Vc) (h : Option Nat) : List Op :=
  (if decide (some 0 ∈ goneR v) = true then [.lot true (some 0)] else []) ++ (if decide (none ∈ goneR v) = true then [.lot false none] else []) ++ (fallR v).flatMap (fun k => [.cut k, .lot false (some k)]) ++ cutO v h
theorem plainN_O (v : Vc) (h : Option Nat) : plainN v h = (plainO v h).map (opS v) := by
  unfold plainN plainO
  rw [List.map_append, List.map_append, List.map_append, List.map_flatMap]
  congr 1
  · congr 1
    congr 1
    · split <;> rfl
    · split <;> rfl
  · unfold cutC cutO
    cases h with
    | none => rfl
    | some x => dsimp only; split <;> rfl
def EqV (v u : Vc) : Prop := (∀ n ∈ LBL, v.1 n = u.1 n) ∧ v.2 = u.2
theorem EqV.can {v u : Vc} (h : EqV v u) : canV v = canV u := by
  obtain ⟨f, r⟩ := v
  obtain ⟨g, s⟩ := u
  have e2 : r = s := h.2
  subst e2
  unfold canV
  rw [canT_congr h.1]
theorem EqV.allG {v u : Vc} (h : EqV v u) : allG v = allG u := by
  unfold DL.allG
  rw [h.2]
  congr 1
  rw [Bool.eq_iff_iff, List.all_eq_true, List.all_eq_true]
  exact ⟨fun z n hn => by rw [← h.1 n hn]; exact z n hn, fun z n hn => by rw [h.1 n hn]; exact z n hn⟩
theorem lq_in (v : Vc) (a : Option Nat) (n : Str) : (lq v a n != rg v a) = decide (v.1 n = (false, a)) := by
  unfold lq
  cases hr : rg v a with
  | true =>
    rw [if_pos rfl]
    unfold rg at hr
    rw [Bool.and_eq_true, decide_eq_true_eq, Bool.not_eq_true'] at hr
    have e : v.2 = (false, a) := Prod.ext hr.1 hr.2
    rw [e]
    cases decide (v.1 n = (false, a)) <;> rfl
  | false =>
    rw [if_neg Bool.false_ne_true]
    cases decide (v.1 n = (false, a)) <;> rfl
theorem rg_eq (v : Vc) (a : Option Nat) : rg v a = decide (v.2 = (false, a)) := by
  unfold rg
  obtain ⟨g, b, c⟩ := v
  cases b <;> simp
theorem step_op (v : Vc) (o : Op) : (∀ n, (stepV (opS v o)).1 n = opF o (v.1 n)) ∧ (stepV (opS v o)).2 = opF o v.2 := by
  cases o with
  | cut k => exact ⟨fun _ => rfl, rfl⟩
  | lot dr a =>
    refine ⟨fun n => ?_, ?_⟩
    · show (if (lq v a n != rg v a) = true then _ else _) = _
      rw [lq_in]
      by_cases e : v.1 n = (false, a)
      · rw [opF_T e, if_pos (decide_eq_true e)]
      · rw [opF_N e, if_neg (by rw [decide_eq_false e]; exact Bool.false_ne_true)]
    · show (if rg v a = true then _ else _) = _
      rw [rg_eq]
      by_cases e : v.2 = (false, a)
      · rw [opF_T e, if_pos (decide_eq_true e)]
      · rw [opF_N e, if_neg (by rw [decide_eq_false e]; exact Bool.false_ne_true)]
def outF (f : Fa) (x : Fa) (os : List Op) : Fa := os.foldl (fun x o => cmpF x (opF o f)) x
def inV (v : Vc) (f : Fa) : Prop := f = v.2 ∨ ∃ n ∈ LBL, f = v.1 n
theorem alive_fate {v : Vc} (h : someA v) : ∃ f, inV v f ∧ f.1 = true := by
  unfold someA allG at h
  cases hr : v.2.1 with
  | true => exact ⟨v.2, .inl rfl, hr⟩
  | false =>
    rw [hr, Bool.not_false, Bool.true_and, ← Bool.not_eq_true, List.all_eq_true] at h
    have : ∃ n ∈ LBL, (v.1 n).1 = true := Decidable.byContradiction fun z => h fun n hn => by
      cases q : (v.1 n).1 with
      | false => rfl
      | true => exact absurd ⟨n, hn, q⟩ z
    obtain ⟨n, hn, ha⟩ := this
    exact ⟨v.1 n, .inr ⟨n, hn, rfl⟩, ha⟩
theorem not_allG {v : Vc} {f : Fa} (h : inV v f) (ha : f.1 = true) : allG v = false := by
  unfold allG
  rcases h with rfl | ⟨n, hn, rfl⟩
  · rw [ha]; rfl
  · have : (LBL.all fun n => !(v.1 n).1) = false := by
      rw [← Bool.not_eq_true, List.all_eq_true]
      intro z
      have := z n hn
      rw [ha] at this
      cases this
    rw [this, Bool.and_false]
theorem run_ops (v : Vc) (f0 : Fa) (h0 : inV v f0) (ha : f0.1 = true) : ∀ (os : List Op) (w : Vc) (φ : Fa → Fa), EqV w (fun n => φ (v.1 n), φ v.2) → (φ f0).1 = true → EqV ((os.map (opS v)).foldl stV w) (fun n => outF (v.1 n) (φ (v.1 n)) os, outF v.2 (φ v.2) os)
  | [], w, φ, e, _ => e
  | o :: os, w, φ, e, hf => by
    have so := step_op v o
    have opA : (opF o f0).1 = true := by
      cases o with
      | cut k => rfl
      | lot dr a =>
        rw [opF_N (fun z => by rw [z] at ha; cases ha)]
    have nst : nrm (stepV (opS v o)) = stepV (opS v o) := by
      unfold nrm
      rw [not_allG (f := opF o f0) ?_ opA, if_neg Bool.false_ne_true]
      rcases h0 with rfl | ⟨n, hn, rfl⟩
      · exact .inl so.2.symm
      · exact .inr ⟨n, hn, (so.1 n).symm⟩
    have e2 : EqV (cmpV w (stepV (opS v o))) (fun n => cmpF (φ (v.1 n)) (opF o (v.1 n)), cmpF (φ v.2) (opF o v.2)) := ⟨fun n hn => by
      show cmpF (w.1 n) ((stepV (opS v o)).1 n) = _
      rw [e.1 n hn, so.1 n], by
      show cmpF w.2 (stepV (opS v o)).2 = _
      rw [e.2, so.2]⟩
    have hA : (cmpF (φ f0) (opF o f0)).1 = true := by
      unfold cmpF
      rw [if_pos hf]
      exact opA
    have nid : nrm (cmpV w (stepV (opS v o))) = cmpV w (stepV (opS v o)) := by
      unfold nrm
      rw [e2.allG, not_allG (f := cmpF (φ f0) (opF o f0)) ?_ hA, if_neg Bool.false_ne_true]
      rcases h0 with rfl | ⟨n, hn, rfl⟩
      · exact .inl rfl
      · exact .inr ⟨n, hn, rfl⟩
    rw [List.map_cons, List.foldl_cons]
    have est : stV w (opS v o) = cmpV w (stepV (opS v o)) := by
      unfold stV
      rw [nst, nid]
    rw [est]
    exact run_ops v f0 h0 ha os _ (fun f => cmpF (φ f) (opF o f)) e2 hA
theorem mn_none (a : Option Nat) : mn a none = a := by cases a <;> rfl
theorem out_gone (f : Fa) (r : Option Nat) : ∀ os, outF f (false, r) os = (false, r)
  | [] => rfl
  | o :: os => out_gone f r os
theorem out_app (f x : Fa) (a b : List Op) : outF f x (a ++ b) = outF f (outF f x a) b := List.foldl_append ..
theorem out_no (f : Fa) (m : Option Nat) (dr : Bool) (a : Option Nat) (h : f ≠ (false, a)) : cmpF (true, m) (opF (.lot dr a) f) = (true, m) := by
  rw [opF_N h]
  unfold cmpF
  rw [if_pos rfl, mn_none]
theorem out_cut (f : Fa) (m : Option Nat) (k : Nat) : cmpF (true, m) (opF (.cut k) f) = (true, mn m (some k)) := rfl
theorem out_first (v : Vc) (f : Fa) (h0 : f ≠ (false, some 0)) (h1 : f ≠ (false, none)) : outF f (true, none) ((if decide (some 0 ∈ goneR v) = true then [.lot true (some 0)] else []) ++ (if decide (none ∈ goneR v) = true then [.lot false none] else [])) = (true, none) := by
  rw [out_app]
  have e1 : outF f (true, none) (if decide (some 0 ∈ goneR v) = true then [.lot true (some 0)] else []) = (true, none) := by
    split
    · exact out_no f none true (some 0) h0
    · rfl
  rw [e1]
  split
  · exact out_no f none false none h1
  · rfl
theorem mn_le {k j : Nat} {m : Option Nat} (h : mn m (some k) = some k) (hj : k ≤ j) : mn (mn m (some j)) (some k) = some k := by
  cases m with
  | none =>
    show some (if k < j then k else j) = some k
    by_cases q : k < j
    · rw [if_pos q]
    · rw [if_neg q]; congr 1; omega
  | some y =>
    have h' : (if k < y then k else y) = k := Option.some.inj h
    show some (if k < (if j < y then j else y) then k else (if j < y then j else y)) = some k
    congr 1
    by_cases q : k < y
    · by_cases r : j < y
      · rw [if_pos r]; split <;> omega
      · rw [if_neg r, if_pos q]
    · rw [if_neg q] at h'
      by_cases r : j < y
      · rw [if_pos r]; split <;> omega
      · rw [if_neg r, if_neg q, h']
theorem out_fall_gone (k : Nat) : ∀ (L : List Nat) (m : Option Nat), L.Pairwise (fun a b => b ≤ a) → k ∈ L → mn m (some k) = some k → outF (false, some k) (true, m) (L.flatMap fun k => [.cut k, .lot false (some k)]) = (false, some k)
  | j :: L, m, hp, hk, hm => by
    obtain ⟨h1, h2⟩ := List.pairwise_cons.mp hp
    rw [List.flatMap_cons, out_app]
    by_cases e : j = k
    · subst e
      have : outF (false, some j) (true, m) [.cut j, .lot false (some j)] = (false, some j) := by
        show cmpF (cmpF (true, m) (opF (.cut j) (false, some j))) (opF (.lot false (some j)) (false, some j)) = _
        rw [out_cut, hm]
        rw [opF_T rfl]
        rfl
      rw [this]
      exact out_gone _ _ _
    · have hk' : k ∈ L := (List.mem_cons.mp hk).resolve_left fun z => e z.symm
      have : outF (false, some k) (true, m) [.cut j, .lot false (some j)] = (true, mn m (some j)) := by
        show cmpF (cmpF (true, m) (opF (.cut j) (false, some k))) (opF (.lot false (some j)) (false, some k)) = _
        rw [out_cut]
        exact out_no _ _ _ _ fun z => e (by have := (Prod.mk.inj z).2; exact (Option.some.inj this).symm)
      rw [this]
      exact out_fall_gone k L _ h2 hk' (mn_le hm (h1 k hk'))
theorem out_fall_alive (h : Option Nat) : ∀ (L : List Nat) (m : Option Nat), outF (true, h) (true, m) (L.flatMap fun k => [.cut k, .lot false (some k)]) = (true, L.foldl (fun m k => mn m (some k)) m)
  | [], m => rfl
  | j :: L, m => by
    rw [List.flatMap_cons, out_app]
    have : outF (true, h) (true, m) [.cut j, .lot false (some j)] = (true, mn m (some j)) := by
      show cmpF (cmpF (true, m) (opF (.cut j) (true, h))) (opF (.lot false (some j)) (true, h)) = _
      rw [out_cut]
      exact out_no _ _ _ _ fun z => by cases z
    rw [this]
    exact out_fall_alive h L _
theorem fold_mn (x : Nat) : ∀ (L : List Nat) (m : Option Nat), (∀ j ∈ L, x ≤ j) → (m = none ∨ ∃ y, m = some y ∧ x ≤ y) → (x ∈ L ∨ m = some x → L.foldl (fun m k => mn m (some k)) m = some x) ∧ (L.foldl (fun m k => mn m (some k)) m = none ∨ ∃ y, L.foldl (fun m k => mn m (some k)) m = some y ∧ x ≤ y)
  | [], m, _, hm => ⟨fun z => z.elim (fun z => by cases z) id, hm⟩
  | j :: L, m, hL, hm => by
    have hj := hL j List.mem_cons_self
    have hm' : (mn m (some j) = none ∨ ∃ y, mn m (some j) = some y ∧ x ≤ y) ∧ (j = x ∨ m = some x → mn m (some j) = some x) := by
      rcases hm with rfl | ⟨y, rfl, hy⟩
      · exact ⟨.inr ⟨j, rfl, hj⟩, fun z => z.elim (fun z => by rw [z]; rfl) (fun z => by cases z)⟩
      · refine ⟨.inr ⟨if j < y then j else y, rfl, by split <;> omega⟩, fun z => ?_⟩
        show some (if j < y then j else y) = some x
        congr 1
        rcases z with z | z
        · split <;> omega
        · have := Option.some.inj z
          split <;> omega
    obtain ⟨a, b⟩ := fold_mn x L (mn m (some j)) (fun i hi => hL i (List.mem_cons_of_mem _ hi)) hm'.1
    refine ⟨fun z => ?_, b⟩
    rw [List.foldl_cons]
    rcases z with z | z
    · rcases List.mem_cons.mp z with e | e
      · exact a (.inr (hm'.2 (.inl e.symm)))
      · exact a (.inl e)
    · exact a (.inr (hm'.2 (.inr z)))
structure Inv (v : Vc) : Prop where
  gone : allG v = true → v = goneV
  ex : ∃ h, Hg v h ∧ ∀ f, inV v f → f.1 = false → ∀ k, f.2 = some k → 0 < k → ∃ x, h = some x ∧ x ≤ k
theorem gone_mem {v : Vc} {f : Fa} (h : inV v f) (hg : f.1 = false) : f.2 ∈ goneR v := by
  unfold goneR
  rw [List.mem_append]
  by_cases e : f = v.2
  · right
    rw [if_neg (by rw [← e, hg]; exact Bool.false_ne_true), e]
    exact List.mem_singleton.mpr rfl
  · left
    rcases h with h | ⟨n, hn, rfl⟩
    · exact absurd h e
    · exact List.mem_map.mpr ⟨(n, v.1 n), List.mem_filter.mpr ⟨List.mem_map.mpr ⟨n, List.mem_filter.mpr ⟨hn, by rw [decide_eq_false e]; rfl⟩, rfl⟩, by rw [hg]; rfl⟩, rfl⟩
theorem mem_gone {v : Vc} {a : Option Nat} (h : a ∈ goneR v) : ∃ f, inV v f ∧ f.1 = false ∧ f.2 = a := by
  unfold goneR at h
  rcases List.mem_append.mp h with z | z
  · obtain ⟨p, hp, rfl⟩ := List.mem_map.mp z
    obtain ⟨h1, h2⟩ := List.mem_filter.mp hp
    obtain ⟨n, hn, rfl⟩ := List.mem_map.mp h1
    exact ⟨v.1 n, .inr ⟨n, (List.mem_filter.mp hn).1, rfl⟩, by simpa using h2, rfl⟩
  · cases hr : v.2.1 with
    | true => rw [hr, if_pos rfl] at z; cases z
    | false =>
      rw [hr, if_neg Bool.false_ne_true, List.mem_singleton] at z
      exact ⟨v.2, .inl rfl, hr, z.symm⟩
theorem out_plain {v : Vc} (I : Inv v) {h : Option Nat} (hh : h = hgt (canT v) v.2) {f : Fa} (hf : inV v f) : outF f (true, none) (plainO v h) = f := by
  obtain ⟨h', Hh, pos⟩ := I.ex
  obtain ⟨b, a⟩ := f
  unfold plainO
  rw [out_app, out_app]
  cases b with
  | false =>
    have hm := gone_mem hf rfl
    cases a with
    | none =>
      have e : outF (false, none) (true, none) ((if decide (some 0 ∈ goneR v) = true then [.lot true (some 0)] else []) ++ (if decide (none ∈ goneR v) = true then [.lot false none] else [])) = (false, none) := by
        rw [out_app]
        have e1 : outF (false, none) (true, none) (if decide (some 0 ∈ goneR v) = true then [.lot true (some 0)] else []) = (true, none) := by
          split
          · exact out_no _ none true (some 0) (by decide)
          · rfl
        rw [e1, if_pos (decide_eq_true hm)]
        rfl
      rw [e, out_gone, out_gone]
    | some k =>
      cases k with
      | zero =>
        have e : outF (false, some 0) (true, none) ((if decide (some 0 ∈ goneR v) = true then [.lot true (some 0)] else []) ++ (if decide (none ∈ goneR v) = true then [.lot false none] else [])) = (false, some 0) := by
          rw [out_app, if_pos (decide_eq_true hm)]
          exact out_gone _ _ _
        rw [e, out_gone, out_gone]
      | succ k =>
        rw [out_first v _ (fun z => by have := (Prod.mk.inj z).2; cases this) (fun z => by have := (Prod.mk.inj z).2; cases this), out_fall_gone (k + 1) _ none (fallR_desc v) ((fallR_mem v _).mpr ⟨Nat.succ_pos _, hm⟩) rfl, out_gone]
  | true =>
    have ha : a = h' := by
      rcases hf with e | ⟨n, hn, e⟩
      · have := Hh.2 (by rw [← e])
        rw [← e] at this
        exact this
      · have := Hh.1 n hn (by rw [← e])
        rw [← e] at this
        exact this
    have hx : h = h' := by
      rw [hh]
      rcases hf with e | ⟨n, hn, e⟩
      · unfold hgt
        rw [if_pos (by rw [← e])]
        rw [← e]
        exact ha
      · exact hgt_can Hh hn (by rw [← e])
    subst hx
    subst ha
    rw [out_first v _ (fun z => by cases z) (fun z => by cases z), out_fall_alive]
    have hfall : ∀ j ∈ fallR v, ∃ x, a = some x ∧ x ≤ j := fun j hj => by
      obtain ⟨h0, hm⟩ := (fallR_mem v j).mp hj
      obtain ⟨g, g1, g2, g3⟩ := mem_gone hm
      exact pos g g1 g2 j g3 h0
    cases a with
    | none =>
      have : fallR v = [] := by
        cases q : fallR v with
        | nil => rfl
        | cons j L =>
          obtain ⟨x, hx, _⟩ := hfall j (by rw [q]; exact List.mem_cons_self)
          cases hx
      rw [this]
      rfl
    | some x =>
      have hL : ∀ j ∈ fallR v, x ≤ j := fun j hj => by
        obtain ⟨y, hy, h2⟩ := hfall j hj
        have := Option.some.inj hy
        omega
      obtain ⟨f1, f2⟩ := fold_mn x (fallR v) none hL (.inl rfl)
      unfold cutO
      dsimp only
      by_cases c : (decide (x = 0) || !decide (some x ∈ goneR v)) = true
      · rw [if_pos c]
        show (true, mn ((fallR v).foldl (fun m k => mn m (some k)) none) (some x)) = _
        congr 1
        rcases f2 with e | ⟨y, e, hy⟩
        · rw [e]; rfl
        · rw [e]
          show some (if x < y then x else y) = some x
          congr 1
          split <;> omega
      · rw [if_neg c]
        have c' : ¬ x = 0 ∧ some x ∈ goneR v := by
          rw [Bool.or_eq_true, not_or] at c
          refine ⟨fun z => c.1 (decide_eq_true z), ?_⟩
          have := c.2
          rw [Bool.not_eq_true', decide_eq_false_iff_not] at this
          exact Decidable.byContradiction this
        rw [f1 (.inl ((fallR_mem v x).mpr ⟨by omega, c'.2⟩))]
        rfl
/-- a plain pipeline keeps the form -/
theorem plain_same {v : Vc} (I : Inv v) (hs : someA v) : EqV (runV (plainN v (hgt (canT v) v.2))) v := by
  obtain ⟨f0, h0, ha⟩ := alive_fate hs
  have e := run_ops v f0 h0 ha (plainO v (hgt (canT v) v.2)) startV (fun _ => (true, none)) ⟨fun _ _ => rfl, rfl⟩ rfl
  rw [← plainN_O] at e
  exact ⟨fun n hn => (e.1 n hn).trans (out_plain I rfl (.inr ⟨n, hn, rfl⟩)), e.2.trans (out_plain I rfl (.inl rfl))⟩
end DL
/-! Pipelines. -/
namespace DL
open PySem PySem.Spec PyProof.Rows L2
theorem inv_gone : Inv goneV := ⟨fun _ => rfl, none, hg_gone none, fun f h _ k hk h0 => by
  have : f = (false, some 0) := by rcases h with e | ⟨n, _, e⟩ <;> exact e
  rw [this] at hk
  have := Option.some.inj hk
  omega⟩
theorem inv_start : Inv startV := ⟨(fun z => by cases z), none, hg_start, (fun f h hg => by
  have : f = (true, none) := by rcases h with e | ⟨n, _, e⟩ <;> exact e
  rw [this] at hg
  cases hg)⟩
theorem inV_cmp {v u : Vc} {f : Fa} (h : inV (cmpV v u) f) : ∃ a b, inV v a ∧ inV u b ∧ f = cmpF a b := by
  rcases h with e | ⟨n, hn, e⟩
  · exact ⟨v.2, u.2, .inl rfl, .inl rfl, e⟩
  · exact ⟨v.1 n, u.1 n, .inr ⟨n, hn, rfl⟩, .inr ⟨n, hn, rfl⟩, e⟩
theorem Hg.at {v : Vc} {h : Option Nat} (H : Hg v h) {f : Fa} (hf : inV v f) (ha : f.1 = true) : f.2 = h := by
  rcases hf with rfl | ⟨n, hn, rfl⟩
  · exact H.2 ha
  · exact H.1 n hn ha
theorem hg_of {v : Vc} {h : Option Nat} (k : ∀ f, inV v f → f.1 = true → f.2 = h) : Hg v h := ⟨fun n hn ha => k _ (.inr ⟨n, hn, rfl⟩) ha, fun ha => k _ (.inl rfl) ha⟩
/-- the fates of a stride: alive with the room k, or gone with a room out of k, 0 -/
theorem step_fate (s : Sdi) : ∃ k : Option Nat, (∀ f, inV (nrm (stepV s)) f → f.1 = true → f.2 = k) ∧ ∀ f, inV (nrm (stepV s)) f → f.1 = false → f.2 = none ∨ f.2 = some 0 := by
  have hn : ∀ (v : Vc) (k : Option Nat), (∀ f, inV v f → f.1 = true → f.2 = k) → (∀ f, inV v f → f.1 = false → f.2 = none ∨ f.2 = some 0) → (∀ f, inV (nrm v) f → f.1 = true → f.2 = k) ∧ ∀ f, inV (nrm v) f → f.1 = false → f.2 = none ∨ f.2 = some 0 := fun v k h1 h2 => by
    unfold nrm
    split
    · have hg : ∀ f, inV goneV f → f = (false, some 0) := fun f h => by rcases h with e | ⟨n, _, e⟩ <;> exact e
      exact ⟨(fun f h ha => by rw [hg f h] at ha; cases ha), (fun f h _ => .inr (by rw [hg f h]))⟩
    · exact ⟨h1, h2⟩
  cases s with
  | cut k =>
    have e : ∀ f, inV (stepV (.cut k)) f → f = (true, some k) := fun f h => by rcases h with e | ⟨n, _, e⟩ <;> exact e
    exact ⟨some k, hn _ _ (fun f h _ => by rw [e f h]) (fun f h ha => by rw [e f h] at ha; cases ha)⟩
  | lot dr p rest =>
    have e : ∀ f, inV (stepV (.lot dr p rest)) f → f = (false, if dr = true then some 0 else none) ∨ f = (true, none) := fun f h => by
      rcases h with e | ⟨n, _, e⟩
      · by_cases q : rest = true
        · exact .inl (e.trans (if_pos q))
        · exact .inr (e.trans (if_neg q))
      · by_cases q : (p n != rest) = true
        · exact .inl (e.trans (if_pos q))
        · exact .inr (e.trans (if_neg q))
    refine ⟨none, hn _ _ (fun f h ha => ?_) (fun f h ha => ?_)⟩
    · rcases e f h with z | z
      · rw [z] at ha; cases ha
      · rw [z]
    · rcases e f h with z | z
      · rw [z]
        cases dr
        · exact .inl rfl
        · exact .inr rfl
      · rw [z] at ha; cases ha
theorem inv_st {v : Vc} (I : Inv v) (s : Sdi) : Inv (stV v s) := by
  obtain ⟨h, Hh, pos⟩ := I.ex
  obtain ⟨k, hk1, hk2⟩ := step_fate s
  have step : Hg (cmpV v (nrm (stepV s))) (mn h k) ∧ ∀ f, inV (cmpV v (nrm (stepV s))) f → f.1 = false → ∀ r, f.2 = some r → 0 < r → ∃ x, mn h k = some x ∧ x ≤ r := by
    refine ⟨hg_of fun f hf ha => ?_, fun f hf ha r hr h0 => ?_⟩
    · obtain ⟨a, b, ia, ib, rfl⟩ := inV_cmp hf
      unfold cmpF at ha ⊢
      cases q : a.1 with
      | true =>
        rw [q, if_pos rfl] at ha
        rw [if_pos rfl]
        show mn a.2 b.2 = mn h k
        rw [Hh.at ia q, hk1 b ib ha]
      | false => rw [q, if_neg Bool.false_ne_true, q] at ha; cases ha
    · obtain ⟨a, b, ia, ib, rfl⟩ := inV_cmp hf
      unfold cmpF at ha hr
      have low : ∀ x y, h = some x → x ≤ y → ∃ z, mn h k = some z ∧ z ≤ y := fun x y hx hy => by
        rw [hx]
        cases k with
        | none => exact ⟨x, rfl, hy⟩
        | some k => exact ⟨if k < x then k else x, rfl, by split <;> omega⟩
      cases q : a.1 with
      | true =>
        rw [q, if_pos rfl] at ha hr
        have hr' : mn a.2 b.2 = some r := hr
        rw [Hh.at ia q] at hr'
        rcases hk2 b ib ha with z | z
        · rw [z, mn_none] at hr'
          exact low r r hr' (Nat.le_refl _)
        · rw [z] at hr'
          cases h with
          | none =>
            have := Option.some.inj hr'
            omega
          | some x =>
            have : (if 0 < x then 0 else x) = r := Option.some.inj hr'
            split at this <;> omega
      | false =>
        rw [q, if_neg Bool.false_ne_true] at hr
        obtain ⟨x, hx, hy⟩ := pos a ia q r hr h0
        exact low x r hx hy
  unfold stV
  generalize cmpV v (nrm (stepV s)) = u at step
  unfold nrm
  split
  · exact inv_gone
  · rename_i hg
    exact ⟨fun z => absurd z hg, _, step.1, step.2⟩
theorem inv_run (ss : List Sdi) : Inv (runV ss) := by
  have : ∀ (ss : List Sdi) (v : Vc), Inv v → Inv (ss.foldl stV v) := fun ss => by
    induction ss with
    | nil => exact fun v h => h
    | cons s ss ih => exact fun v h => ih _ (inv_st h s)
  exact this ss _ inv_start
/-- the plain steps of a form that is reached -/
theorem plainN_len (v : Vc) (h : Option Nat) : (plainN v h).length ≤ 20 := by
  have lg := gone_len v
  have lf : (fallR v).length ≤ 5 := by
    unfold fallR fallI
    rw [List.length_map, List.length_reverse, (sortI_perm _).length_eq]
    have h1 := nubG_len ((posR v).map fun k : Nat => (k : Int))
    have h2 : (posR v).length ≤ (goneR v).length := List.length_filterMap_le _ _
    rw [List.length_map] at h1
    omega
  have hflm : ((fallR v).flatMap fun k => [Sdi.cut k, lotS v false (some k)]).length ≤ 10 := by
    have : ∀ L : List Nat, (L.flatMap fun k => [Sdi.cut k, lotS v false (some k)]).length = 2 * L.length := fun L => by
      induction L with
      | nil => rfl
      | cons k L ih => rw [List.flatMap_cons, List.length_append, ih]; simp; omega
    rw [this]
    omega
  have hc : (cutC v h).length ≤ 1 := by
    unfold cutC
    cases h with
    | none => exact Nat.zero_le _
    | some x =>
      dsimp only
      split
      · exact Nat.le_refl _
      · exact Nat.zero_le _
  have h1 : (if decide (some 0 ∈ goneR v) = true then [lotS v true (some 0)] else []).length ≤ 1 := by split <;> simp
  have h2 : (if decide (none ∈ goneR v) = true then [lotS v false none] else []).length ≤ 1 := by split <;> simp
  unfold plainN
  rw [List.length_append, List.length_append, List.length_append]
  omega
theorem m_plain_gone : R_plain_steps [canV goneV] = some (.tup [stepObj (.lot true (fun _ => false) true)]) := by
  have : (match R_plain_steps [canV goneV] with | some d => beqD d (.tup [stepObj (.lot true (fun _ => false) true)]) | none => false) = true := by decide +kernel
  cases h : R_plain_steps [canV goneV] with
  | none => rw [h] at this; cases this
  | some d => rw [h] at this; rw [beqD_eq _ _ this]
theorem plain_ok {v : Vc} (I : Inv v) : ∃ ss : List Sdi, ss.length ≤ 20 ∧ R_plain_steps [canV v] = some (.tup (ss.map stepObj)) ∧ canV (runV ss) = canV v := by
  cases h : allG v with
  | true =>
    have := I.gone h
    subst this
    exact ⟨[.lot true (fun _ => false) true], by decide, m_plain_gone, rfl⟩
  | false => exact ⟨plainN v (hgt (canT v) v.2), plainN_len _ _, m_plain v h, (plain_same I h).can⟩
/-! ### pipelines -/
def pipeD (ss : List Sdi) : D := .obj 2 [.tup (ss.map stepObj), canV (runV ss)]
theorem mkP {a d : D} (h : R_Pipeline_init [a] = some d) : (fun ds => R_Pipeline_init (ds ++ [])) [a] = some d := h
theorem m_pipe {ss : List Sdi} {d : D} (hd : b_tuple [d] = some (.tup (ss.map stepObj))) (hl : ss.length ≤ LIM) : R_Pipeline_init [d] = some (pipeD ss) := by
  refine run_I rfl ?_
  show F_Pipeline_init [none, some d] [] = _
  unfold F_Pipeline_init n_fld
  rw [if_pos (show ([] : List D).length = 0 from rfl), e_call (ds := [d]) rfl hd, Option.bind_some]
  show n_fldC R_form_of_steps (fun _ fs => some fs) _ [.tup (ss.map stepObj)] = _
  unfold n_fldC
  dsimp only
  rw [m_form_of_steps ss hl]
  rfl
theorem p_form (a b : D) : (dProp 2 R_Pipeline_form) (.obj 2 [a, b]) = some b := rfl
theorem p_steps (a b : D) : (dProp 2 R_Pipeline_steps) (.obj 2 [a, b]) = some a := rfl
theorem m_rshift (a b : List Sdi) (hl : a.length + b.length ≤ LIM) : R_Pipeline_rshift [pipeD a, pipeD b] = some (pipeD (a ++ b)) := by
  refine run_rt (q_ifF rfl (q_ifF rfl (q_ret (e_call (ds := [.tup ((a ++ b).map stepObj)]) (e_cons (e_bin (d1 := .tup (a.map stepObj)) (d2 := .tup (b.map stepObj)) rfl (e_un (d := pipeD b) rfl (p_steps _ _)) ?_) e_nil) (mkP (m_pipe rfl (by rw [List.length_append]; exact hl)))))))
  show (if (a.map stepObj).length + (b.map stepObj).length ≤ LIM then some (D.tup (a.map stepObj ++ b.map stepObj)) else none) = _
  rw [if_pos (by rw [List.length_map, List.length_map]; exact hl), List.map_append]
theorem m_pplain (a : List Sdi) : ∃ ss : List Sdi, R_Pipeline_plain [pipeD a] = some (.obj 2 [.tup (ss.map stepObj), canV (runV a)]) := by
  obtain ⟨ss, hl, h1, h2⟩ := plain_ok (inv_run a)
  refine ⟨ss, run_rt (q_ret (e_call (ds := [.tup (ss.map stepObj)]) (e_cons (e_call (ds := [canV (runV a)]) rfl h1) e_nil) (mkP ?_)))⟩
  rw [m_pipe (ss := ss) rfl (Nat.le_trans hl (by decide))]
  unfold pipeD
  rw [h2]
/-! ### in_row -/
def rowS (ls : List (List Sdi)) (os : List Nat) : List Sdi := os.flatMap fun i => (ls[i]?).getD []
def ordD (os : List Nat) : D := .tup (os.map fun i => .int (i : Nat))
theorem row_len (ls : List (List Sdi)) (h : ∀ l ∈ ls, l.length ≤ 2) (os : List Nat) : (rowS ls os).length ≤ 2 * os.length := by
  unfold rowS
  induction os with
  | nil => exact Nat.le_refl _
  | cons i os ih =>
    rw [List.flatMap_cons, List.length_append, List.length_cons]
    have : ((ls[i]?).getD []).length ≤ 2 := by
      cases q : ls[i]? with
      | none => exact Nat.zero_le _
      | some l => exact h l (List.mem_of_getElem? q)
    omega
theorem row_go (ls : List (List Sdi)) (hL : ∀ l ∈ ls, l.length ≤ 2) (fd : D) (hfd : itemsOf fd = some (ls.map pipeD)) (hsub : ∀ (i : Nat) (l : List Sdi), ls[i]? = some l → dSub1 fd (.int (i : Nat)) = some (pipeD l)) :
    ∀ (os : List Nat) (a : List Sdi) (o x : Sl), (∀ i ∈ os, i < ls.length) → a.length + 2 * os.length ≤ 1000 → ∃ x', forGo (g_name 3) (s_seq (s_set (g_name 2) (x_bin (dOwn 2 R_Pipeline_rshift) (x_var 2) (x_bin dSub1 (x_var 0) (x_var 3)))) s_nil) (os.map fun i => D.int (i : Nat)) [.d fd, o, .d (pipeD a), x] = some (.nx [.d fd, o, .d (pipeD (a ++ rowS ls os)), x'])
  | [], a, o, x, _, _ => ⟨x, by rw [show rowS ls [] = [] from rfl, List.append_nil]; rfl⟩
  | i :: os, a, o, x, ho, hl => by
    have hi := ho i List.mem_cons_self
    have q : ls[i]? = some ls[i] := List.getElem?_eq_getElem hi
    have l2 := hL _ (List.getElem_mem hi)
    rw [List.length_cons] at hl
    obtain ⟨x', e⟩ := row_go ls hL fd hfd hsub os (a ++ ls[i]) o (.d (.int (i : Nat))) (fun j hj => ho j (List.mem_cons_of_mem _ hj)) (by rw [List.length_append]; omega)
    refine ⟨x', ?_⟩
    have er : rowS ls (i :: os) = ls[i] ++ rowS ls os := by unfold rowS; rw [List.flatMap_cons, q]; rfl
    rw [er, ← List.append_assoc]
    refine f_cons (us := [(3, .int (i : Nat))]) rfl (q_set (d := pipeD (a ++ ls[i])) (us := [(2, pipeD (a ++ ls[i]))]) (e_bin (d1 := pipeD a) (d2 := pipeD ls[i]) rfl (e_bin (d1 := fd) (d2 := .int (i : Nat)) rfl rfl (hsub i _ q)) ?_) rfl rfl) e
    show (if 2 = 2 ∧ 2 = 2 then R_Pipeline_rshift [pipeD a, pipeD ls[i]] else none) = _
    rw [if_pos ⟨rfl, rfl⟩]
    exact m_rshift _ _ (Nat.le_trans (show _ ≤ 1000 by omega) (by decide))
theorem m_in_row (ls : List (List Sdi)) (hL : ∀ l ∈ ls, l.length ≤ 2) (fd : D) (hfd : itemsOf fd = some (ls.map pipeD)) (hsub : ∀ (i : Nat) (l : List Sdi), ls[i]? = some l → dSub1 fd (.int (i : Nat)) = some (pipeD l)) (os : List Nat) (ho : ∀ i ∈ os, i < ls.length) (hl : os.length ≤ 100) :
    ∃ ss : List Sdi, R_in_row [fd, ordD os] = some (.obj 2 [.tup (ss.map stepObj), canV (runV (rowS ls os))]) := by
  obtain ⟨x', e⟩ := row_go ls hL fd hfd hsub os [] (.d (ordD os)) .un ho (by rw [List.length_nil]; omega)
  obtain ⟨ss, h⟩ := m_pplain (rowS ls os)
  refine ⟨ss, run_rt (q_set (d := pipeD []) (us := [(2, pipeD [])]) (e_call (ds := []) rfl ?_) rfl (q_for (xs := os.map fun i => .int (i : Nat)) rfl (by rw [List.length_map]; exact Nat.le_trans hl (by decide)) e (q_ret (e_un (d := pipeD ([] ++ rowS ls os)) rfl ?_))))⟩
  · exact m_pipe (ss := []) (d := .tup []) rfl (Nat.zero_le _)
  · show (if 2 = 2 then R_Pipeline_plain [pipeD ([] ++ rowS ls os)] else none) = _
    rw [if_pos rfl, List.nil_append]
    exact h
end DL
/-! most_order, least_order. -/
namespace DL
open PySem PySem.Spec PyProof.Rows L2
theorem m_renames (v : Vc) (x : D) : R_renames [.obj 2 [x, canV v]] = some (.bl false) := by
  have l : (canT v).length ≤ LIM := Nat.le_trans (can_len v) (by decide)
  refine run_rt (q_ret (e_call (ds := [.lst ((canT v).map fun _ => .bl false)]) (e_cons ?_ e_nil) ?_))
  · refine e_lcM (l := canT v) entP (fun _ => .bl false) ?_ (fun p hp => e_turn1 (us := [(1, .str p.1), (2, fin p.1 p.2.1), (3, dR p.2.2)]) rfl rfl ?_) l
    · exact e_seq (e_bin (d1 := canV v) (d2 := .int 0) (e_un (d := .obj 2 [x, canV v]) rfl (p_form _ _)) rfl rfl) rfl
    · cases ha : p.2.1 with
      | true =>
        have hn := ne_fin p (can_ok v p hp) ha
        rw [ha] at hn
        exact e_xand (a := true) (d1b := false) (e_bin (d1 := fin p.1 true) rfl rfl (dIsNot_fin _ _)) fun _ => e_bin (d1 := fin p.1 true) (d2 := .str p.1) rfl rfl hn
      | false => exact e_xand (a := false) (d1b := false) (e_bin (d1 := fin p.1 false) rfl rfl (dIsNot_fin _ _)) fun z => by cases z
  · rw [any_map (fun _ => false) (canT v)]
    congr 2
    exact List.any_eq_false.mpr fun _ _ => Bool.false_ne_true
theorem m_check (ls : List (List Sdi)) (hl : ls.length ≤ 100) : R_check_names [.lst (ls.map pipeD)] = some .non := by
  have key : ∀ (ps : List (List Sdi × Nat)) (a b : Sl), ∃ a' b', forGo (g_tup 2 (g_cons (g_name 1) (g_cons (g_name 2) g_nil))) (s_seq (s_if (t_val (x_call R_renames (a_cons (x_var 2) a_nil))) (s_seq s_never s_nil) s_nil) s_nil) (ps.map fun p => D.tup [.int (p.2 : Nat), pipeD p.1]) [.d (.lst (ls.map pipeD)), a, b] = some (.nx [.d (.lst (ls.map pipeD)), a', b']) := fun ps => by
    induction ps with
    | nil => exact fun a b => ⟨a, b, rfl⟩
    | cons p ps ih =>
      intro a b
      obtain ⟨a', b', e⟩ := ih (.d (.int (p.2 : Nat))) (.d (pipeD p.1))
      exact ⟨a', b', f_cons (us := [(1, .int (p.2 : Nat)), (2, pipeD p.1)]) rfl (q_ifF (e_val (e_call (ds := [pipeD p.1]) rfl (m_renames _ _))) rfl) e⟩
  obtain ⟨a', b', e⟩ := key ls.zipIdx .un .un
  refine run_nx (q_for (xs := ls.zipIdx.map fun p => .tup [.int (p.2 : Nat), pipeD p.1]) ?_ (by rw [List.length_map, List.length_zipIdx]; exact Nat.le_trans hl (by decide)) e rfl)
  show ((some (D.lst (ls.map pipeD))).bind itemsOf).bind (fun ds => some (enumD ds)) = _
  show some (enumD (ls.map pipeD)) = _
  congr 1
  unfold enumD
  rw [List.zipIdx_map, List.map_map]
  rfl
def permsF : Nat → List Nat → List (List Nat)
  | 0, _ => [[]]
  | k + 1, l => if l = [] then [[]] else l.flatMap fun x => (permsF k (l.erase x)).map fun r => x :: r
def OL (n : Nat) : List (List Nat) := permsF n (List.range n)
def chkO (n : Nat) : Bool := match R_orders 6 [.tup ((List.range n).map fun i => .int (i : Nat))] with | some d => beqD d (.lst ((OL n).map ordD)) | none => false
theorem m_orders (n : Nat) (h1 : 1 ≤ n) (h4 : n ≤ 4) : R_orders 6 [.tup ((List.range n).map fun i => .int (i : Nat))] = some (.lst ((OL n).map ordD)) := by
  have hc : chkO n = true := by
    have : n = 1 ∨ n = 2 ∨ n = 3 ∨ n = 4 := by omega
    rcases this with rfl | rfl | rfl | rfl <;> decide +kernel
  unfold chkO at hc
  cases h : R_orders 6 [.tup ((List.range n).map fun i => .int (i : Nat))] with
  | none => rw [h] at hc; cases hc
  | some d => rw [h] at hc; rw [beqD_eq _ _ hc]
theorem OL_ok (n : Nat) (h1 : 1 ≤ n) (h4 : n ≤ 4) : (OL n).length ≤ 24 ∧ ∀ o ∈ OL n, (∀ i ∈ o, i < n) ∧ o.length ≤ 4 := by
  have : n = 1 ∨ n = 2 ∨ n = 3 ∨ n = 4 := by omega
  rcases this with rfl | rfl | rfl | rfl <;> decide +kernel
section
variable (ls : List (List Sdi))
def FD : D := .lst (ls.map pipeD)
def vf (o : List Nat) : Vc := runV (rowS ls o)
def wayD (o : List Nat) : D := (R_in_row [FD ls, ordD o]).getD .non
def wD (o : List Nat) : D := .tup [ordD o, wayD ls o]
structure Good : Prop where
  n1 : 1 ≤ ls.length
  n4 : ls.length ≤ 4
  l2 : ∀ l ∈ ls, l.length ≤ 2
variable {ls}
theorem row_ok (g : Good ls) {o : List Nat} (ho : o ∈ OL ls.length) : R_in_row [FD ls, ordD o] = some (wayD ls o) ∧ ∃ x, wayD ls o = .obj 2 [x, canV (vf ls o)] := by
  obtain ⟨_, h⟩ := OL_ok ls.length g.n1 g.n4
  obtain ⟨h1, h2⟩ := h o ho
  have hsub : ∀ (i : Nat) (l : List Sdi), ls[i]? = some l → dSub1 (FD ls) (.int (i : Nat)) = some (pipeD l) := fun i l q => by
    show atI (ls.map pipeD) ((i : Nat) : Int) = _
    exact atI_nat (by rw [List.getElem?_map, q]; rfl)
  obtain ⟨ss, e⟩ := m_in_row ls g.l2 (FD ls) rfl hsub o h1 (by omega)
  have : wayD ls o = .obj 2 [.tup (ss.map stepObj), canV (runV (rowS ls o))] := by unfold wayD; rw [e]; rfl
  exact ⟨by rw [this]; exact e, _, this⟩
theorem m_all_ways (g : Good ls) : R_all_ways [FD ls] = some (.lst ((OL ls.length).map (wD ls))) := by
  obtain ⟨hl, _⟩ := OL_ok ls.length g.n1 g.n4
  have hn := g.n4
  unfold R_all_ways
  refine run_rt ?_
  show s_seq (s_expr (x_call R_check_names (a_cons (x_var 0) a_nil))) _ [.d (FD ls), .un] = _
  have hexp : s_expr (x_call R_check_names (a_cons (x_var 0) a_nil)) [.d (FD ls), .un] = some (.nx [.d (FD ls), .un]) := by
    unfold s_expr
    rw [e_call (ds := [FD ls]) rfl (m_check ls (by omega))]
    rfl
  refine q_seq hexp (q_ret ?_)
  refine e_lcM (l := OL ls.length) ordD (wD ls) (e_seq (e_call (ds := [.tup ((List.range ls.length).map fun i => .int (i : Nat))]) (e_cons (e_un (d := .int (ls.length : Nat)) (e_call (ds := [FD ls]) rfl ?_) ?_) e_nil) (m_orders _ g.n1 g.n4)) rfl) (fun o ho => ?_) (Nat.le_trans hl (by decide))
  · show some (D.int ((ls.map pipeD).length : Nat)) = _
    rw [List.length_map]
  · show (rangeD (ls.length : Nat)).bind _ = _
    unfold rangeD
    rw [if_pos (by omega)]
    rfl
  · exact e_turn1 (us := [(1, ordD o)]) rfl rfl (e_tup (ds := [ordD o, wayD ls o]) (e_cons rfl (e_cons (e_call (ds := [FD ls, ordD o]) rfl (row_ok g ho).1) e_nil)) (show 2 ≤ LIM by decide))
/-! ### dedupe -/
def ddG {α : Type} (E : α → α → Bool) (acc : List α) (l : List α) : List α := l.foldl (fun acc x => if (acc.any fun y => E x y) = true then acc else acc ++ [x]) acc
def eqP (v u : Vc) : Bool := eqvT (canT v) (canT u) && decide (v.2 = u.2)
theorem m_eq (v u : Vc) (x y : D) : R_Pipeline_eq [.obj 2 [x, canV v], .obj 2 [y, canV u]] = some (.bl (eqP v u)) := by
  refine run_rt (q_ret ?_)
  refine (e_xand (a := true) (d1b := eqP v u) rfl fun _ => e_bin (d1 := canV v) (d2 := canV u) rfl (e_un (d := .obj 2 [y, canV u]) rfl (p_form _ _)) (dEq_form (can_ok v) (can_ok u))).trans (by rw [Bool.true_and])
theorem own_eq (v u : Vc) (x y : D) : dOwn 2 R_Pipeline_eq (.obj 2 [x, canV v]) (.obj 2 [y, canV u]) = some (.bl (eqP v u)) := by
  show (if 2 = 2 ∧ 2 = 2 then _ else none) = _
  rw [if_pos ⟨rfl, rfl⟩]
  exact m_eq v u x y
theorem dd_mem {α : Type} (E : α → α → Bool) : ∀ (l acc : List α) (x : α), x ∈ ddG E acc l → x ∈ acc ∨ x ∈ l
  | [], acc, x, h => .inl h
  | a :: l, acc, x, h => by
    rcases dd_mem E l _ x h with z | z
    · dsimp only at z
      split at z
      · exact .inl z
      · rcases List.mem_append.mp z with w | w
        · exact .inl w
        · rw [List.mem_singleton.mp w]; exact .inr List.mem_cons_self
    · exact .inr (List.mem_cons_of_mem _ z)
theorem dd_len {α : Type} (E : α → α → Bool) : ∀ (l acc : List α), (ddG E acc l).length ≤ acc.length + l.length
  | [], acc => Nat.le_refl _
  | a :: l, acc => by
    have h := dd_len E l (if (acc.any fun y => E a y) = true then acc else acc ++ [a])
    have : (if (acc.any fun y => E a y) = true then acc else acc ++ [a]).length ≤ acc.length + 1 := by
      split
      · omega
      · rw [List.length_append]; exact Nat.le_refl _
    rw [List.length_cons]
    exact Nat.le_trans h (by omega)
theorem dd_go (g : Good ls) : ∀ (l acc : List (List Nat)) (a b c d : Sl), (∀ o ∈ l, o ∈ OL ls.length) → (∀ o ∈ acc, o ∈ OL ls.length) → acc.length + l.length ≤ 100 → ∃ a' b', forGo (g_tup 2 (g_cons (g_name 2) (g_cons (g_name 3) g_nil))) (s_seq (s_if (t_not (t_val (x_call b_any (a_cons (x_lc (i_seq (x_var 1)) [4, 5] (g_tup 2 (g_cons (g_name 4) (g_cons (g_name 5) g_nil))) t_yes (x_bin (dOwn 2 R_Pipeline_eq) (x_var 3) (x_var 5))) a_nil)))) (s_seq (s_app 1 (x_tup (a_cons (x_var 2) (a_cons (x_var 3) a_nil)))) s_nil) s_nil) s_nil)
      (l.map (wD ls)) [.d (FD ls), .ol (acc.map (wD ls)), a, b, c, d] = some (.nx [.d (FD ls), .ol ((ddG (fun x y => eqP (vf ls x) (vf ls y)) acc l).map (wD ls)), a', b', c, d])
  | [], acc, a, b, c, d, _, _, _ => ⟨a, b, rfl⟩
  | o :: l, acc, a, b, c, d, hl, hacc, hn => by
    rw [List.length_cons] at hn
    obtain ⟨x, hx⟩ := (row_ok g (hl o List.mem_cons_self)).2
    have tst : (t_not (t_val (x_call b_any (a_cons (x_lc (i_seq (x_var 1)) [4, 5] (g_tup 2 (g_cons (g_name 4) (g_cons (g_name 5) g_nil))) t_yes (x_bin (dOwn 2 R_Pipeline_eq) (x_var 3) (x_var 5))) a_nil)))) (peek [.d (FD ls), .ol (acc.map (wD ls)), .d (ordD o), .d (wayD ls o), c, d]) = some (!acc.any fun y => eqP (vf ls o) (vf ls y)) := by
      refine e_not (e_val (e_call (ds := [.lst (acc.map fun y => .bl (eqP (vf ls o) (vf ls y)))]) (e_cons ?_ e_nil) (any_map _ _)))
      refine e_lcM (l := acc) (wD ls) (fun y => .bl (eqP (vf ls o) (vf ls y))) rfl (fun y hy => ?_) (Nat.le_trans (show acc.length ≤ 100 by omega) (by decide))
      obtain ⟨z, hz⟩ := (row_ok g (hacc y hy)).2
      refine e_turn1 (us := [(4, ordD y), (5, wayD ls y)]) rfl rfl (e_bin (d1 := wayD ls o) (d2 := wayD ls y) rfl rfl ?_)
      rw [hx, hz]
      exact own_eq _ _ _ _
    have hl' : ∀ q ∈ l, q ∈ OL ls.length := fun q hq => hl q (List.mem_cons_of_mem _ hq)
    cases h : acc.any fun y => eqP (vf ls o) (vf ls y) with
    | true =>
      obtain ⟨a', b', e⟩ := dd_go g l acc (.d (ordD o)) (.d (wayD ls o)) c d hl' hacc (by omega)
      refine ⟨a', b', ?_⟩
      have ed : ddG (fun x y => eqP (vf ls x) (vf ls y)) acc (o :: l) = ddG (fun x y => eqP (vf ls x) (vf ls y)) acc l := by
        unfold ddG
        rw [List.foldl_cons, if_pos h]
      rw [ed]
      exact f_cons (us := [(2, ordD o), (3, wayD ls o)]) rfl (q_ifF (tst.trans (by rw [h]; rfl)) rfl) e
    | false =>
      obtain ⟨a', b', e⟩ := dd_go g l (acc ++ [o]) (.d (ordD o)) (.d (wayD ls o)) c d hl' (fun q hq => by
        rcases List.mem_append.mp hq with z | z
        · exact hacc q z
        · rw [List.mem_singleton.mp z]; exact hl o List.mem_cons_self) (by rw [List.length_append]; show acc.length + 1 + l.length ≤ 100; omega)
      refine ⟨a', b', ?_⟩
      have ed : ddG (fun x y => eqP (vf ls x) (vf ls y)) acc (o :: l) = ddG (fun x y => eqP (vf ls x) (vf ls y)) (acc ++ [o]) l := by
        unfold ddG
        rw [List.foldl_cons, if_neg (by rw [h]; exact Bool.false_ne_true)]
      rw [ed]
      have em : acc.map (wD ls) ++ [wD ls o] = (acc ++ [o]).map (wD ls) := by rw [List.map_append]; rfl
      rw [← em] at e
      refine f_cons (us := [(2, ordD o), (3, wayD ls o)]) rfl (q_ifN (b := true) (tst.trans (by rw [h]; rfl)) (fun _ => q_app (xs := acc.map (wD ls)) (d := wD ls o) rfl ?_ ?_ rfl) (fun z => by cases z) rfl) e
      · exact e_tup (ds := [ordD o, wayD ls o]) rfl (show 2 ≤ LIM by decide)
      · rw [List.length_map]
        exact Nat.lt_of_le_of_lt (show acc.length ≤ 100 by omega) (by decide)
def UL (ls : List (List Sdi)) : List (List Nat) := ddG (fun x y => eqP (vf ls x) (vf ls y)) [] (OL ls.length)
theorem UL_mem {o : List Nat} (h : o ∈ UL ls) : o ∈ OL ls.length := (dd_mem _ _ _ _ h).resolve_left fun z => by cases z
theorem UL_len (g : Good ls) : (UL ls).length ≤ 24 := by
  obtain ⟨hl, _⟩ := OL_ok ls.length g.n1 g.n4
  have := dd_len (fun x y => eqP (vf ls x) (vf ls y)) (OL ls.length) []
  rw [List.length_nil] at this
  exact Nat.le_trans this (by omega)
theorem m_unlike (g : Good ls) : R_unlike_ways [FD ls] = some (.lst ((UL ls).map (wD ls))) := by
  obtain ⟨hl, _⟩ := OL_ok ls.length g.n1 g.n4
  obtain ⟨a', b', e⟩ := dd_go g (OL ls.length) [] .un .un .un .un (fun o h => h) (fun o h => by cases h) (by rw [List.length_nil]; omega)
  exact run_rt (q_newL (q_for (xs := (OL ls.length).map (wD ls)) (e_seq (e_call (ds := [FD ls]) rfl (m_all_ways g)) rfl) (by rw [List.length_map]; exact Nat.le_trans hl (by decide)) e (q_ret rfl)))
theorem m_within (v u : Vc) (x y : D) : R_Pipeline_within [.obj 2 [x, canV v], .obj 2 [y, canV u]] = some (.bl (leV v u)) :=
  run_rt (q_ret (e_call (ds := [canV v, canV u]) (e_cons rfl (e_cons (e_un (d := .obj 2 [y, canV u]) rfl (p_form _ _)) e_nil)) (m_is_within v u)))
def headD (l : List (List Nat)) : D := match l with | [] => .non | o :: _ => ordD o
theorem m_most (g : Good ls) : R_most_order [FD ls] = some (headD ((UL ls).filter fun o => (UL ls).all fun p => leV (vf ls p) (vf ls o))) := by
  have hu := UL_len g
  have hU : (UL ls).length ≤ LIM := Nat.le_trans hu (by decide)
  refine run_rt (q_set (d := .lst ((UL ls).map (wD ls))) (us := [(1, .lst ((UL ls).map (wD ls)))]) (e_call (ds := [FD ls]) rfl (m_unlike g)) rfl (q_set (d := .lst (((UL ls).filter fun o => (UL ls).all fun p => leV (vf ls p) (vf ls o)).map ordD)) (us := [(2, .lst (((UL ls).filter fun o => (UL ls).all fun p => leV (vf ls p) (vf ls o)).map ordD))]) ?_ rfl (q_ret ?_)))
  · refine e_lcF (l := UL ls) (wD ls) (fun o => (UL ls).all fun p => leV (vf ls p) (vf ls o)) ordD (fun o => [(3, ordD o), (4, wayD ls o)]) rfl (fun _ _ => rfl) (fun _ _ => rfl) (fun o ho => ?_) (fun _ _ _ => rfl) hU
    obtain ⟨x, hx⟩ := (row_ok g (UL_mem ho)).2
    refine e_val (e_call (ds := [.lst ((UL ls).map fun p => .bl (leV (vf ls p) (vf ls o)))]) (e_cons ?_ e_nil) (all_map _ _))
    refine e_lcM (l := UL ls) (wD ls) (fun p => .bl (leV (vf ls p) (vf ls o))) rfl (fun p hp => ?_) hU
    obtain ⟨z, hz⟩ := (row_ok g (UL_mem hp)).2
    refine e_turn1 (us := [(5, ordD p), (6, wayD ls p)]) rfl rfl ?_
    show x_meth 2 R_Pipeline_within (fun _ => some (wayD ls p)) (fun _ => some [wayD ls o]) [] = _
    rw [hx, hz]
    show (if 2 = 2 then R_Pipeline_within [.obj 2 [z, canV (vf ls p)], .obj 2 [x, canV (vf ls o)]] else none) = _
    rw [if_pos rfl]
    exact m_within _ _ _ _
  · cases (UL ls).filter fun o => (UL ls).all fun p => leV (vf ls p) (vf ls o) with
    | nil => rfl
    | cons o l =>
      refine e_if (b := true) (e_val (e_bin (d1 := .int ((o :: l).map ordD).length) rfl rfl ?_)) (fun _ => e_bin (d1 := .lst ((o :: l).map ordD)) rfl rfl (atI_nat (j := 0) rfl)) (fun h => by cases h)
      show some (D.bl (decide ((0 : Int) < (((o :: l).map ordD).length : Int)))) = _
      rw [decide_eq_true]
      rw [List.length_map, List.length_cons]
      omega
theorem m_least (g : Good ls) : R_least_order [FD ls] = some (headD ((UL ls).filter fun o => (UL ls).all fun p => leV (vf ls o) (vf ls p))) := by
  have hu := UL_len g
  have hU : (UL ls).length ≤ LIM := Nat.le_trans hu (by decide)
  refine run_rt (q_set (d := .lst ((UL ls).map (wD ls))) (us := [(1, .lst ((UL ls).map (wD ls)))]) (e_call (ds := [FD ls]) rfl (m_unlike g)) rfl (q_set (d := .lst (((UL ls).filter fun o => (UL ls).all fun p => leV (vf ls o) (vf ls p)).map ordD)) (us := [(2, .lst (((UL ls).filter fun o => (UL ls).all fun p => leV (vf ls o) (vf ls p)).map ordD))]) ?_ rfl (q_ret ?_)))
  · refine e_lcF (l := UL ls) (wD ls) (fun o => (UL ls).all fun p => leV (vf ls o) (vf ls p)) ordD (fun o => [(3, ordD o), (4, wayD ls o)]) rfl (fun _ _ => rfl) (fun _ _ => rfl) (fun o ho => ?_) (fun _ _ _ => rfl) hU
    obtain ⟨x, hx⟩ := (row_ok g (UL_mem ho)).2
    refine e_val (e_call (ds := [.lst ((UL ls).map fun p => .bl (leV (vf ls o) (vf ls p)))]) (e_cons ?_ e_nil) (all_map _ _))
    refine e_lcM (l := UL ls) (wD ls) (fun p => .bl (leV (vf ls o) (vf ls p))) rfl (fun p hp => ?_) hU
    obtain ⟨z, hz⟩ := (row_ok g (UL_mem hp)).2
    refine e_turn1 (us := [(5, ordD p), (6, wayD ls p)]) rfl rfl ?_
    show x_meth 2 R_Pipeline_within (fun _ => some (wayD ls o)) (fun _ => some [wayD ls p]) [] = _
    rw [hx, hz]
    show (if 2 = 2 then R_Pipeline_within [.obj 2 [x, canV (vf ls o)], .obj 2 [z, canV (vf ls p)]] else none) = _
    rw [if_pos rfl]
    exact m_within _ _ _ _
  · cases (UL ls).filter fun o => (UL ls).all fun p => leV (vf ls o) (vf ls p) with
    | nil => rfl
    | cons o l =>
      refine e_if (b := true) (e_val (e_bin (d1 := .int ((o :: l).map ordD).length) rfl rfl ?_)) (fun _ => e_bin (d1 := .lst ((o :: l).map ordD)) rfl rfl (atI_nat (j := 0) rfl)) (fun h => by cases h)
      show some (D.bl (decide ((0 : Int) < (((o :: l).map ordD).length : Int)))) = _
      rw [decide_eq_true]
      rw [List.length_map, List.length_cons]
      omega
end
end DL
/-! The law's own: hosts, fates. -/
namespace DL
open PySem PySem.Spec PyProof.Rows L2
def strD : Sdi → D
  | .cut k => .tup [.str "cut", .int ((k + 1 : Nat) : Int)]
  | .lot dr p rest => .tup [.str (if dr = true then "drop" else "unwrap"), .tup [.tup ((LBL.filter p).map .str), .bl rest]]
def lineD (ss : List Sdi) : D := .tup (ss.map strD)
theorem m_step_so (s : Sdi) : R_w_step_so [strD s] = some (stepObj s) := by
  cases s with
  | cut k =>
    exact run_rt (q_set (d := strD (.cut k)) (us := [(1, .str "cut"), (2, .int ((k + 1 : Nat) : Int))]) rfl rfl (q_ret (e_call (ds := [.str "cut", .int ((k + 1 : Nat) : Int)]) (e_cons rfl (e_cons (e_if (b := false) rfl (fun z => by cases z) fun _ => rfl) e_nil)) (mkS (m_step_cut k)))))
  | lot dr p rest =>
    have hL : R_Labels_init [.tup ((LBL.filter p).map .str), .bl rest] = some (lotD p rest) := by
      rw [m_labels (l := LBL.filter p) rest rfl (Nat.lt_of_le_of_lt (List.length_filter_le _ _) (by decide)) fun n hn => (List.mem_filter.mp hn).1]
      congr 1
      refine lotD_congr fun n hn => ?_
      rw [Bool.eq_iff_iff, decide_eq_true_eq, List.mem_filter]
      exact ⟨fun z => z.2, fun z => ⟨hn, z⟩⟩
    refine run_rt (q_set (d := strD (.lot dr p rest)) (us := [(1, .str (if dr = true then "drop" else "unwrap")), (2, .tup [.tup ((LBL.filter p).map .str), .bl rest])]) rfl rfl (q_ret (e_call (ds := [.str (if dr = true then "drop" else "unwrap"), lotD p rest]) (e_cons rfl (e_cons (e_if (b := true) ?_ (fun _ => e_call (ds := [.tup ((LBL.filter p).map .str), .bl rest]) rfl (mkL2 hL)) fun z => by cases z) e_nil)) (mkS (m_step_lot dr p rest)))))
    cases dr <;> rfl
theorem m_host (ss : List Sdi) (hl : ss.length ≤ LIM) : R_w_host [lineD ss] = some (pipeD ss) :=
  run_rt (q_ret (e_call (ds := [.lst (ss.map stepObj)]) (e_cons (e_lcM (l := ss) strD stepObj rfl (fun s _ => e_turn1 (us := [(1, strD s)]) rfl rfl (e_call (ds := [strD s]) rfl (m_step_so s))) hl) e_nil) (mkP (m_pipe rfl hl))))
/-! ### fates -/
def KK : List Str := ["a", "b", "c", "p", "x", "zz"]
def fk (v : Vc) (n : Str) : Fa := if n ∈ LBL then v.1 n else v.2
def hereD (f : Str → Fa) : List D := KK.map fun n => fin n (f n).1
def roomD (f : Str → Fa) : List D := KK.map fun n => dR (f n).2
def stK (s : Sdi) (n : Str) : Fa := fk (stepV s) n
def stF (f : Str → Fa) (s : Sdi) : Str → Fa := fun n => cmpF (f n) (stK s n)
def setF (f : Str → Fa) (n : Str) (x : Fa) : Str → Fa := fun m => if m = n then x else f m
theorem KK_nd : KK.Nodup := by decide
theorem put_map (n : Str) (φ : Str → D) (x : D) : ∀ {ks : List Str}, ks.Nodup → n ∈ ks → putKs n ks = ks ∧ putVs n x ks (ks.map φ) = ks.map fun m => if m = n then x else φ m
  | [], _, h => by cases h
  | k :: ks, hd, h => by
    refine ⟨if_pos h, ?_⟩
    obtain ⟨h1, h2⟩ := List.nodup_cons.mp hd
    rw [List.map_cons]
    unfold putVs
    by_cases e : k = n
    · subst e
      rw [if_pos rfl, List.map_cons, if_pos rfl]
      congr 1
      exact List.map_congr_left fun m hm => by rw [if_neg (fun z : m = k => h1 (z ▸ hm))]
    · rw [if_neg e, List.map_cons, if_neg e]
      congr 1
      exact (put_map n φ x h2 ((List.mem_cons.mp h).resolve_left fun z => e z.symm)).2
theorem q_dput {F : SF} {σ : RhoS} {o : Out} {i : Nat} {fk' fv : Rho → Option D} {ks : List Str} {ds : List D} {v : D} {x : Str} (hi : σ[i]? = some (.od ks ds)) (hv : fv (peek σ) = some v) (hk : fk' (peek σ) = some (.str x)) (hl : ks.length < LIM) (hf : flatD v = true)
    (h : F (σ.set i (.od (putKs x ks) (putVs x v ks ds))) = some o) : s_seq (s_dput i fk' fv) F σ = some o := by
  unfold s_seq s_dput
  rw [hi]
  dsimp only
  rw [hv, Option.bind_some, hk, Option.bind_some]
  dsimp only
  rw [if_pos ⟨hl, hf⟩]
  exact h
abbrev stW (line : D) (f : Str → Fa) (o s w t : Sl) : RhoS := [line |> .d, .od KK (hereD f), .od KK (roomD f), o, s, w, t]
theorem KK_lim : KK.length < LIM := by decide
theorem flat_fin (n : Str) (b : Bool) : flatD (fin n b) = true := by cases b <;> rfl
theorem set_here (f : Str → Fa) {n : Str} (hn : n ∈ KK) (a : Option Nat) : putVs n .non KK (hereD f) = hereD (setF f n (false, a)) := by
  unfold hereD
  rw [(put_map n (fun m => fin m (f m).1) .non KK_nd hn).2]
  refine List.map_congr_left fun m hm => ?_
  unfold setF
  by_cases e : m = n
  · rw [if_pos e, if_pos e]; rfl
  · rw [if_neg e, if_neg e]
theorem set_room (f : Str → Fa) {n : Str} (hn : n ∈ KK) (b : Bool) (a : Option Nat) : putVs n (dR a) KK (roomD f) = roomD (setF f n (b, a)) := by
  unfold roomD
  rw [(put_map n (fun m => dR (f m).2) (dR a) KK_nd hn).2]
  refine List.map_congr_left fun m hm => ?_
  unfold setF
  by_cases e : m = n
  · rw [if_pos e, if_pos e]
  · rw [if_neg e, if_neg e]
theorem here_same (f : Str → Fa) {n : Str} {x : Fa} (h : x.1 = (f n).1) : hereD (setF f n x) = hereD f := by
  unfold hereD
  refine List.map_congr_left fun m hm => ?_
  unfold setF
  by_cases e : m = n
  · rw [if_pos e, e, h]
  · rw [if_neg e]
theorem room_same (f : Str → Fa) {n : Str} {x : Fa} (h : x.2 = (f n).2) : roomD (setF f n x) = roomD f := by
  unfold roomD
  refine List.map_congr_left fun m hm => ?_
  unfold setF
  by_cases e : m = n
  · rw [if_pos e, e, h]
  · rw [if_neg e]
theorem look_here (f : Str → Fa) {n : Str} (hn : n ∈ KK) : dLook n KK (hereD f) = some (fin n (f n).1) := look_dic _ hn
theorem look_room (f : Str → Fa) {n : Str} (hn : n ∈ KK) : dLook n KK (roomD f) = some (dR (f n).2) := look_dic _ hn
theorem ok_KK : ∀ n ∈ KK, okS n := by
  intro n hn
  have : ∀ n ∈ KK, PyData.strOk n = true := by decide +kernel
  exact this n hn
/-- the tag is in the lot -/
theorem m_is_in (p : Str → Bool) (rest : Bool) {n : Str} : R_w_is_in [.str n, .tup [.tup ((LBL.filter p).map .str), .bl rest]] = some (.bl (decide (n ∈ LBL.filter p) != rest)) := by
  have e : dIn (.str n) (.tup ((LBL.filter p).map .str)) = some (.bl (decide (n ∈ LBL.filter p))) := by
    have : ∀ l : List Str, inD (.str n) (l.map .str) = decide (n ∈ l) := fun l => by
      unfold inD
      rw [List.any_map, Bool.eq_iff_iff, List.any_eq_true, decide_eq_true_eq]
      constructor
      · rintro ⟨m, hm, h⟩
        have h' : (m == n) = true := h
        rw [← beq_iff_eq.mp h']; exact hm
      · intro h
        exact ⟨n, h, by show (n == n) = true; exact beq_self_eq_true n⟩
    unfold dIn
    show (if (flatD (.str n) && ((LBL.filter p).map D.str).all flatD) = true then _ else _) = _
    rw [if_pos (by rw [show flatD (.str n) = true from rfl, Bool.true_and, List.all_map, List.all_eq_true]; exact fun _ _ => rfl), this]
  refine run_rt (q_ret (e_bin (d1 := .bl (decide (n ∈ LBL.filter p))) (d2 := .bl rest) (e_bin (d1 := .str n) (d2 := .tup ((LBL.filter p).map .str)) rfl rfl e) rfl ?_))
  rfl
theorem in_lot (p : Str → Bool) (rest : Bool) (dr : Bool) (n : Str) : stK (.lot dr p rest) n = if (decide (n ∈ LBL.filter p) != rest) = true then (false, if dr = true then some 0 else none) else (true, none) := by
  unfold stK fk
  by_cases h : n ∈ LBL
  · rw [if_pos h]
    have : decide (n ∈ LBL.filter p) = p n := by
      rw [Bool.eq_iff_iff, decide_eq_true_eq, List.mem_filter]
      exact ⟨fun z => z.2, fun z => ⟨h, z⟩⟩
    rw [this]
    rfl
  · rw [if_neg h]
    have : decide (n ∈ LBL.filter p) = false := decide_eq_false fun z => h (List.mem_filter.mp z).1
    rw [this]
    show (if rest = true then _ else _) = _
    cases rest <;> rfl
def bodyW : SF := s_seq (s_if (t_and (t_val (x_bin dEq (x_var 4) (x_c (.str "cut")))) (t_or (t_val (x_bin dIsN' (x_bin dSub1 (x_var 2) (x_var 3)) (x_c .non))) (t_val (x_bin dLe (x_var 5) (x_bin dSub1 (x_var 2) (x_var 3)))))) (s_seq (s_dput 2 (x_var 3) (x_bin dSub (x_var 5) (x_c (.int 1))))
          (s_nil)) (s_seq (s_if (t_val (x_bin dEq (x_var 4) (x_c (.str "rename")))) (s_never) (s_seq (s_if (t_and (t_val (x_bin dIn (x_var 4) (x_tup (a_cons (x_c (.str "drop")) (a_cons (x_c (.str "unwrap")) a_nil))))) (t_val (x_call R_w_is_in (a_cons (x_bin dSub1 (x_var 1) (x_var 3)) (a_cons (x_var 5) a_nil))))) (s_seq (s_dput 1 (x_var 3) (x_c .non))
          (s_seq (s_dput 2 (x_var 3) (x_if (t_val (x_bin dEq (x_var 4) (x_c (.str "drop")))) (x_c (.int 0)) (x_bin dSub1 (x_var 2) (x_var 3))))
          (s_nil))) (s_nil))
          (s_nil)))
          (s_nil)))
          (s_nil)
theorem q_ifE {t : Rho → Option Bool} {F F1 F2 : SF} {σ σ' : RhoS} {o : Out} (h : t (peek σ) = some false) (h1 : F2 σ = some (.nx σ')) (h2 : F σ' = some o) : s_seq (s_if t F1 F2) F σ = some o :=
  q_if h (by rw [if_neg Bool.false_ne_true]; exact h1) h2
theorem q_ifY {t : Rho → Option Bool} {F F1 F2 : SF} {σ σ' : RhoS} {o : Out} (h : t (peek σ) = some true) (h1 : F1 σ = some (.nx σ')) (h2 : F σ' = some o) : s_seq (s_if t F1 F2) F σ = some o :=
  q_if h (by rw [if_pos rfl]; exact h1) h2
/-- one label, alive, at one stride -/
theorem body_ok (line : D) (f : Str → Fa) {n : Str} (hn : n ∈ KK) (ha : (f n).1 = true) (t : Sl) : ∀ s : Sdi, ∃ a b, strD s = .tup [a, b] ∧ bodyW (stW line f (.d (.str n)) (.d a) (.d b) t) = some (.nx (stW line (setF f n (cmpF (f n) (stK s n))) (.d (.str n)) (.d a) (.d b) t)) := by
  intro s
  have hl := KK_lim
  have ec : cmpF (f n) (stK s n) = ((stK s n).1, mn (f n).2 (stK s n).2) := by unfold cmpF; rw [if_pos ha]
  cases s with
  | cut k =>
    refine ⟨_, _, rfl, ?_⟩
    have est : stK (.cut k) n = (true, some k) := by unfold stK fk; split <;> rfl
    rw [est] at ec
    rw [est, ec]
    have lr : ∀ ρ : Rho, x_var 2 ρ = some (.dic KK (roomD f)) → x_var 3 ρ = some (.str n) → (x_bin dSub1 (x_var 2) (x_var 3)) ρ = some (dR (f n).2) := fun ρ h1 h2 => e_bin h1 h2 (look_room f hn)
    have tst : ∀ b : Bool, (match (f n).2 with | none => true | some x => decide (k < x)) = b → (t_and (t_val (x_bin dEq (x_var 4) (x_c (.str "cut")))) (t_or (t_val (x_bin dIsN' (x_bin dSub1 (x_var 2) (x_var 3)) (x_c .non))) (t_val (x_bin dLe (x_var 5) (x_bin dSub1 (x_var 2) (x_var 3)))))) (peek (stW line f (.d (.str n)) (.d (.str "cut")) (.d (.int ((k + 1 : Nat) : Int))) t)) = some b := fun b hb => by
      refine (e_and (a := true) (b := b) (e_val (e_bin (d1 := .str "cut") (d2 := .str "cut") rfl rfl ((eq_str ok_of ok_of).trans (by rw [beq_self_eq_true])))) fun _ => ?_).trans (by rw [Bool.true_and])
      cases hr : (f n).2 with
      | none =>
        rw [hr] at hb
        dsimp only at hb
        subst hb
        refine (e_or (a := true) (b := true) (e_val (e_bin (lr _ rfl rfl) rfl (by rw [hr]; rfl))) fun z => by cases z).trans rfl
      | some x =>
        rw [hr] at hb
        dsimp only at hb
        refine (e_or (a := false) (b := b) (e_val (e_bin (lr _ rfl rfl) rfl (by rw [hr]; rfl))) fun _ => e_val (e_bin (d1 := .int ((k + 1 : Nat) : Int)) rfl (lr _ rfl rfl) ?_)).trans (by rw [Bool.false_or])
        rw [hr]
        show some (D.bl (decide (((k + 1 : Nat) : Int) ≤ (x : Int)))) = some (D.bl b)
        rw [← hb]
        congr 2
        rw [decide_eq_decide]
        omega
    cases hb : (match (f n).2 with | none => true | some x => decide (k < x)) with
    | true =>
      have em : mn (f n).2 (some k) = some k := by
        cases hr : (f n).2 with
        | none => rfl
        | some x =>
          rw [hr] at hb
          have := of_decide_eq_true hb
          show some (if k < x then k else x) = some k
          rw [if_pos this]
      rw [em]
      refine q_ifY (σ' := stW line (setF f n (true, some k)) (.d (.str n)) (.d (.str "cut")) (.d (.int ((k + 1 : Nat) : Int))) t) (tst true hb) (q_dput (ks := KK) (ds := roomD f) (v := dR (some k)) (x := n) rfl (e_bin (d1 := .int ((k + 1 : Nat) : Int)) (d2 := .int 1) rfl rfl ?_) rfl hl rfl ?_) rfl
      · show some (D.int (((k + 1 : Nat) : Int) - 1)) = some (D.int (k : Int))
        congr 2
        omega
      · rw [(put_map n (fun m => dR (f m).2) (dR (some k)) KK_nd hn).1, set_room f hn true (some k)]
        show some (Out.nx [.d line, .od KK (hereD f), .od KK (roomD (setF f n (true, some k))), _, _, _, _]) = _
        rw [← here_same f (n := n) (x := (true, some k)) ha.symm]
    | false =>
      have em : mn (f n).2 (some k) = (f n).2 := by
        cases hr : (f n).2 with
        | none => rw [hr] at hb; cases hb
        | some x =>
          rw [hr] at hb
          have := of_decide_eq_false hb
          show some (if k < x then k else x) = some x
          rw [if_neg this]
      rw [em]
      have eself : stW line (setF f n (true, (f n).2)) (.d (.str n)) (.d (.str "cut")) (.d (.int ((k + 1 : Nat) : Int))) t = stW line f (.d (.str n)) (.d (.str "cut")) (.d (.int ((k + 1 : Nat) : Int))) t := by
        show [Sl.d line, .od KK (hereD (setF f n (true, (f n).2))), .od KK (roomD (setF f n (true, (f n).2))), _, _, _, _] = _
        rw [here_same f (n := n) (x := (true, (f n).2)) ha.symm, room_same f (n := n) (x := (true, (f n).2)) rfl]
      rw [eself]
      refine q_ifE (tst false hb) (q_ifE (e_val (e_bin (d1 := .str "cut") (d2 := .str "rename") rfl rfl (eq_str ok_of ok_of))) (q_ifF ?_ rfl) rfl) rfl
      exact e_and (a := false) (b := false) (e_val rfl) fun z => by cases z
  | lot dr p rest =>
    refine ⟨_, _, rfl, ?_⟩
    have est := in_lot p rest dr n
    have hin : (x_call R_w_is_in (a_cons (x_bin dSub1 (x_var 1) (x_var 3)) (a_cons (x_var 5) a_nil))) (peek (stW line f (.d (.str n)) (.d (.str (if dr = true then "drop" else "unwrap"))) (.d (.tup [.tup ((LBL.filter p).map .str), .bl rest])) t)) = some (.bl (decide (n ∈ LBL.filter p) != rest)) := by
      refine e_call (ds := [.str n, .tup [.tup ((LBL.filter p).map .str), .bl rest]]) (e_cons (e_bin (d1 := .dic KK (hereD f)) (d2 := .str n) rfl rfl ?_) rfl) (m_is_in p rest)
      show dLook n KK (hereD f) = _
      rw [look_here f hn, ha]
      rfl
    have t1 : (t_and (t_val (x_bin dEq (x_var 4) (x_c (.str "cut")))) (t_or (t_val (x_bin dIsN' (x_bin dSub1 (x_var 2) (x_var 3)) (x_c .non))) (t_val (x_bin dLe (x_var 5) (x_bin dSub1 (x_var 2) (x_var 3)))))) (peek (stW line f (.d (.str n)) (.d (.str (if dr = true then "drop" else "unwrap"))) (.d (.tup [.tup ((LBL.filter p).map .str), .bl rest])) t)) = some false := by
      refine e_and (a := false) (b := false) (e_val (e_bin (d1 := .str (if dr = true then "drop" else "unwrap")) (d2 := .str "cut") rfl rfl ((eq_str (by cases dr <;> exact ok_of) ok_of).trans ?_))) fun z => by cases z
      cases dr <;> rfl
    have t2 : (t_val (x_bin dEq (x_var 4) (x_c (.str "rename")))) (peek (stW line f (.d (.str n)) (.d (.str (if dr = true then "drop" else "unwrap"))) (.d (.tup [.tup ((LBL.filter p).map .str), .bl rest])) t)) = some false := by
      refine e_val (e_bin (d1 := .str (if dr = true then "drop" else "unwrap")) (d2 := .str "rename") rfl rfl ((eq_str (by cases dr <;> exact ok_of) ok_of).trans ?_))
      cases dr <;> rfl
    have t3 : (t_and (t_val (x_bin dIn (x_var 4) (x_tup (a_cons (x_c (.str "drop")) (a_cons (x_c (.str "unwrap")) a_nil))))) (t_val (x_call R_w_is_in (a_cons (x_bin dSub1 (x_var 1) (x_var 3)) (a_cons (x_var 5) a_nil))))) (peek (stW line f (.d (.str n)) (.d (.str (if dr = true then "drop" else "unwrap"))) (.d (.tup [.tup ((LBL.filter p).map .str), .bl rest])) t)) = some (decide (n ∈ LBL.filter p) != rest) := by
      refine (e_and (a := true) (b := decide (n ∈ LBL.filter p) != rest) (e_val ?_) fun _ => e_val hin).trans (by rw [Bool.true_and])
      cases dr <;> rfl
    rw [ec, est]
    cases hb : (decide (n ∈ LBL.filter p) != rest) with
    | true =>
      rw [if_pos rfl]
      rw [hb] at t3
      have er : mn (f n).2 (if dr = true then some 0 else none) = if dr = true then some 0 else (f n).2 := by
        cases dr with
        | true =>
          rw [if_pos rfl, if_pos rfl]
          cases (f n).2 with
          | none => rfl
          | some x => show some (if 0 < x then 0 else x) = some 0; congr 1; split <;> omega
        | false => rw [if_neg Bool.false_ne_true, if_neg Bool.false_ne_true, mn_none]
      dsimp only
      rw [er]
      refine q_ifE t1 (q_ifE t2 (q_ifY (σ' := stW line (setF f n (false, if dr = true then some 0 else (f n).2)) (.d (.str n)) (.d (.str (if dr = true then "drop" else "unwrap"))) (.d (.tup [.tup ((LBL.filter p).map .str), .bl rest])) t) t3 (q_dput (ks := KK) (ds := hereD f) (v := .non) (x := n) rfl rfl rfl hl rfl (q_dput (ks := KK) (ds := roomD f) (v := dR (if dr = true then some 0 else (f n).2)) (x := n) rfl ?_ rfl hl (flat_room _) ?_)) rfl) rfl) rfl
      · refine e_if (b := dr) (e_val (e_bin (d1 := .str (if dr = true then "drop" else "unwrap")) (d2 := .str "drop") rfl rfl ((eq_str (by cases dr <;> exact ok_of) ok_of).trans ?_))) (fun h => by rw [h]; rfl) (fun h => ?_)
        · cases dr <;> rfl
        · rw [h, if_neg Bool.false_ne_true]
          exact e_bin (d1 := .dic KK (roomD f)) (d2 := .str n) rfl rfl (look_room f hn)
      · rw [(put_map n (fun m => dR (f m).2) (dR (if dr = true then some 0 else (f n).2)) KK_nd hn).1, set_room f hn false, set_here f hn (if dr = true then some 0 else (f n).2)]
        rfl
    | false =>
      rw [hb] at t3
      rw [if_neg Bool.false_ne_true]
      dsimp only
      rw [mn_none]
      have eself : stW line (setF f n (true, (f n).2)) (.d (.str n)) (.d (.str (if dr = true then "drop" else "unwrap"))) (.d (.tup [.tup ((LBL.filter p).map .str), .bl rest])) t = stW line f (.d (.str n)) (.d (.str (if dr = true then "drop" else "unwrap"))) (.d (.tup [.tup ((LBL.filter p).map .str), .bl rest])) t := by
        show [Sl.d line, .od KK (hereD (setF f n (true, (f n).2))), .od KK (roomD (setF f n (true, (f n).2))), _, _, _, _] = _
        rw [here_same f (n := n) (x := (true, (f n).2)) ha.symm, room_same f (n := n) (x := (true, (f n).2)) rfl]
      rw [eself]
      exact q_ifE t1 (q_ifE t2 (q_ifF t3 rfl) rfl) rfl
end DL
/-! _law_fates. -/
namespace DL
open PySem PySem.Spec PyProof.Rows L2
def goF (s : Sdi) (l : List Str) (g : Str → Fa) : Str → Fa := l.foldl (fun g n => setF g n (cmpF (g n) (stK s n))) g
theorem goF_at (s : Sdi) : ∀ (l : List Str) (g : Str → Fa) (m : Str), l.Nodup → goF s l g m = if m ∈ l then cmpF (g m) (stK s m) else g m
  | [], g, m, _ => by rw [if_neg (by simp)]; rfl
  | n :: l, g, m, hd => by
    obtain ⟨h1, h2⟩ := List.nodup_cons.mp hd
    show goF s l (setF g n (cmpF (g n) (stK s n))) m = _
    rw [goF_at s l _ m h2]
    by_cases e : m = n
    · subst e
      rw [if_neg h1, if_pos List.mem_cons_self]
      unfold setF
      rw [if_pos rfl]
    · have : (setF g n (cmpF (g n) (stK s n))) m = g m := by unfold setF; rw [if_neg e]
      rw [this]
      by_cases q : m ∈ l
      · rw [if_pos q, if_pos (List.mem_cons_of_mem _ q)]
      · rw [if_neg q, if_neg (by simp only [List.mem_cons, not_or]; exact ⟨e, q⟩)]
theorem inner_go (line : D) (s : Sdi) (a b : D) (hs : strD s = .tup [a, b]) : ∀ (l : List Str) (g : Str → Fa) (o : Sl), l.Nodup → (∀ n ∈ l, n ∈ KK ∧ (g n).1 = true) → ∃ o', forGo (g_name 3) bodyW (l.map .str) (stW line g o (.d a) (.d b) .un) = some (.nx (stW line (goF s l g) o' (.d a) (.d b) .un)) ∧ ((∃ d, o' = .d d) ∨ o' = o)
  | [], g, o, _, _ => ⟨o, rfl, .inr rfl⟩
  | n :: l, g, o, hd, hl => by
    obtain ⟨h1, h2⟩ := List.nodup_cons.mp hd
    obtain ⟨hn, ha⟩ := hl n List.mem_cons_self
    obtain ⟨a', b', hs', e⟩ := body_ok line g hn ha .un s
    rw [hs] at hs'
    cases hs'
    obtain ⟨o', e2, ho⟩ := inner_go line s a b hs l (setF g n (cmpF (g n) (stK s n))) (.d (.str n)) h2 fun m hm => by
      obtain ⟨q1, q2⟩ := hl m (List.mem_cons_of_mem _ hm)
      refine ⟨q1, ?_⟩
      unfold setF
      rw [if_neg (fun z : m = n => h1 (z ▸ hm))]
      exact q2
    exact ⟨o', f_cons (us := [(3, .str n)]) rfl e e2, .inl (by rcases ho with z | z; exact z; exact ⟨_, z⟩)⟩
def bodyO : SF := s_seq (s_forP (x_lc (i_dic 1 false) [6] (g_name 6) (t_val (x_bin dIsNot' (x_bin dSub1 (x_var 1) (x_var 6)) (x_c .non))) (x_var 6)) (g_name 3) bodyW) s_nil
theorem q_forP {f : Rho → Option D} {g : Tgt} {F1 F : SF} {σ σ' : RhoS} {xs : List D} {o : Out} (hno : (σ.all fun s => match s with | .ol _ => false | _ => true) = true) (hf : f (peek σ) = some (.lst xs)) (hx : xs.all flatD = true) (h1 : forGo g F1 xs σ = some (.nx σ')) (h2 : F σ' = some o) : s_seq (s_forP f g F1) F σ = some o := by
  unfold s_seq s_forP
  split
  · rw [hf, Option.bind_some]
    dsimp only
    rw [if_pos hx, h1]
    exact h2
  · rename_i h
    exact absurd hno h
theorem hereD_congr {f g : Str → Fa} (h : ∀ n ∈ KK, f n = g n) : hereD f = hereD g := List.map_congr_left fun n hn => by rw [h n hn]
theorem roomD_congr {f g : Str → Fa} (h : ∀ n ∈ KK, f n = g n) : roomD f = roomD g := List.map_congr_left fun n hn => by rw [h n hn]
theorem go_all (s : Sdi) (f : Str → Fa) : ∀ n ∈ KK, goF s (KK.filter fun n => (f n).1) f n = stF f s n := fun n hn => by
  rw [goF_at s _ f n (KK_nd.filter _)]
  unfold stF
  by_cases h : n ∈ KK.filter fun n => (f n).1
  · rw [if_pos h]
  · rw [if_neg h]
    have : (f n).1 = false := by
      cases q : (f n).1 with
      | false => rfl
      | true => exact absurd (List.mem_filter.mpr ⟨hn, q⟩) h
    unfold cmpF
    rw [if_neg (by rw [this]; exact Bool.false_ne_true)]
theorem outer_one (line : D) (f : Str → Fa) (s : Sdi) (a b : D) (hs : strD s = .tup [a, b]) (o : Sl) (ho : (∃ d, o = .d d) ∨ o = .un) : ∃ o', bodyO (stW line f o (.d a) (.d b) .un) = some (.nx (stW line (stF f s) o' (.d a) (.d b) .un)) ∧ ((∃ d, o' = .d d) ∨ o' = .un) := by
  obtain ⟨o', e, h⟩ := inner_go line s a b hs (KK.filter fun n => (f n).1) f o (KK_nd.filter _) fun n hn => ⟨(List.mem_filter.mp hn).1, (List.mem_filter.mp hn).2⟩
  refine ⟨o', ?_, ?_⟩
  · have e' : stW line (goF s (KK.filter fun n => (f n).1) f) o' (.d a) (.d b) .un = stW line (stF f s) o' (.d a) (.d b) .un := by
      show [Sl.d line, .od KK (hereD _), .od KK (roomD _), _, _, _, _] = [Sl.d line, .od KK (hereD _), .od KK (roomD _), _, _, _, _]
      rw [hereD_congr (go_all s f), roomD_congr (go_all s f)]
    rw [e'] at e
    refine q_forP ?_ ?_ ?_ e rfl
    · rcases ho with ⟨d, rfl⟩ | rfl <;> rfl
    · refine e_lcF (l := KK) .str (fun n => (f n).1) .str (fun n => [(6, .str n)]) rfl (fun _ _ => rfl) (fun _ _ => rfl) (fun n hn => ?_) (fun _ _ _ => rfl) (Nat.le_of_lt KK_lim)
      exact e_val (e_bin (d1 := fin n (f n).1) (e_bin (d1 := .dic KK (hereD f)) (d2 := .str n) rfl rfl (look_here f hn)) rfl (dIsNot_fin _ _))
    · rw [List.all_map, List.all_eq_true]
      exact fun _ _ => rfl
  · rcases h with z | z
    · exact .inl z
    · rw [z]; exact ho
theorem outer_go (line : D) : ∀ (ss : List Sdi) (f : Str → Fa) (o x y : Sl), ((∃ d, o = .d d) ∨ o = .un) → ∃ o' x' y', forGo (g_tup 2 (g_cons (g_name 4) (g_cons (g_name 5) g_nil))) bodyO (ss.map strD) (stW line f o x y .un) = some (.nx (stW line (ss.foldl stF f) o' x' y' .un)) ∧ ((∃ d, o' = .d d) ∨ o' = .un)
  | [], f, o, x, y, ho => ⟨o, x, y, rfl, ho⟩
  | s :: ss, f, o, x, y, ho => by
    have hs : ∃ a b, strD s = .tup [a, b] := by cases s <;> exact ⟨_, _, rfl⟩
    obtain ⟨a, b, hs⟩ := hs
    obtain ⟨o1, e1, h1⟩ := outer_one line f s a b hs o ho
    obtain ⟨o2, x2, y2, e2, h2⟩ := outer_go line ss (stF f s) o1 (.d a) (.d b) h1
    refine ⟨o2, x2, y2, ?_, h2⟩
    rw [List.map_cons, hs]
    exact f_cons (us := [(4, a), (5, b)]) rfl e1 e2
def f0F : Str → Fa := fun _ => (true, none)
theorem keys_KK : KK.foldl (fun ks n => putKs n ks) [] = KK := by decide
theorem init_one (line : D) (ks : List Str) (n : Str) (o a b c : Sl) (hl : ks.length < LIM) : s_seq (s_dput2 1 2 (x_var 3) (x_var 3) (x_var 3) (x_c .non)) s_nil [.d line, .od ks (ks.map .str), .od ks (ks.map fun _ => .non), .d (.str n), a, b, c] =
    some (.nx [.d line, .od (putKs n ks) ((putKs n ks).map .str), .od (putKs n ks) ((putKs n ks).map fun _ => .non), .d (.str n), a, b, c]) := by
  have h1 : s_dput 1 (x_var 3) (x_c (.str n)) [.d line, .od ks (ks.map .str), .od ks (ks.map fun _ => .non), .d (.str n), a, b, c] = some (.nx [.d line, .od (putKs n ks) (putVs n (.str n) ks (ks.map .str)), .od ks (ks.map fun _ => .non), .d (.str n), a, b, c]) := by
    unfold s_dput
    show (if ks.length < LIM ∧ flatD (.str n) = true then _ else none) = _
    rw [if_pos ⟨hl, rfl⟩]
    rfl
  have h2 : s_dput 2 (x_var 3) (x_c .non) [.d line, .od (putKs n ks) (putVs n (.str n) ks (ks.map .str)), .od ks (ks.map fun _ => .non), .d (.str n), a, b, c] = some (.nx [.d line, .od (putKs n ks) (putVs n (.str n) ks (ks.map .str)), .od (putKs n ks) (putVs n .non ks (ks.map fun _ => .non)), .d (.str n), a, b, c]) := by
    unfold s_dput
    show (if ks.length < LIM ∧ flatD .non = true then _ else none) = _
    rw [if_pos ⟨hl, rfl⟩]
    rfl
  have e1 : putVs n (.str n) ks (ks.map .str) = (putKs n ks).map .str := putVs_map n .str ks
  have e2 : putVs n .non ks (ks.map fun _ => .non) = (putKs n ks).map fun _ => .non := putVs_map n (fun _ => .non) ks
  rw [e1] at h1 h2
  rw [e2] at h2
  unfold s_seq s_dput2
  show ((if flatD (.str n) = true ∧ flatD .non = true then (match s_dput 1 (x_var 3) (x_c (.str n)) [.d line, .od ks (ks.map .str), .od ks (ks.map fun _ => .non), .d (.str n), a, b, c] with | some (.nx ρ1) => s_dput 2 (x_var 3) (x_c .non) ρ1 | _ => none) else none).bind _) = _
  rw [if_pos ⟨rfl, rfl⟩, h1]
  dsimp only
  rw [h2]
  rfl
theorem init_go (line : D) : ∀ (l ks : List Str) (o a b c : Sl), ks.length + l.length ≤ 100 → ∃ o', forGo (g_name 3) (s_seq (s_dput2 1 2 (x_var 3) (x_var 3) (x_var 3) (x_c .non)) s_nil) (l.map .str) [.d line, .od ks (ks.map .str), .od ks (ks.map fun _ => .non), o, a, b, c] =
    some (.nx [.d line, .od (l.foldl (fun ks n => putKs n ks) ks) ((l.foldl (fun ks n => putKs n ks) ks).map .str), .od (l.foldl (fun ks n => putKs n ks) ks) ((l.foldl (fun ks n => putKs n ks) ks).map fun _ => .non), o', a, b, c]) ∧ ((∃ d, o' = .d d) ∨ o' = o)
  | [], ks, o, a, b, c, _ => ⟨o, rfl, .inr rfl⟩
  | n :: l, ks, o, a, b, c, h => by
    rw [List.length_cons] at h
    have hp := putKs_len n ks
    obtain ⟨o', e, ho⟩ := init_go line l (putKs n ks) (.d (.str n)) a b c (by omega)
    exact ⟨o', f_cons (us := [(3, .str n)]) rfl (init_one line ks n o a b c (Nat.lt_of_le_of_lt (show ks.length ≤ 100 by omega) (by decide))) e, .inl (by rcases ho with z | z; exact z; exact ⟨_, z⟩)⟩
theorem init_ok (line : D) : ∃ o, forGo (g_name 3) (s_seq (s_dput2 1 2 (x_var 3) (x_var 3) (x_var 3) (x_c .non)) s_nil) (KK.map .str) [.d line, .od [] [], .od [] [], .un, .un, .un, .un] = some (.nx (stW line f0F o .un .un .un)) ∧ ((∃ d, o = .d d) ∨ o = .un) := by
  obtain ⟨o, e, h⟩ := init_go line KK [] .un .un .un .un (by decide)
  rw [keys_KK] at e
  exact ⟨o, e, h⟩
theorem merge_map (φ : Str → D) : ∀ (l ks : List Str), mergeD (l.map fun n => .tup [.str n, φ n]) ks (ks.map φ) = some (.dic (l.foldl (fun ks n => putKs n ks) ks) ((l.foldl (fun ks n => putKs n ks) ks).map φ))
  | [], ks => rfl
  | n :: l, ks => by
    show mergeD (l.map fun n => .tup [.str n, φ n]) (putKs n ks) (putVs n (φ n) ks (ks.map φ)) = _
    rw [putVs_map]
    exact merge_map φ l (putKs n ks)
theorem dict_KK (φ : Str → D) : dDictP (.lst (KK.map fun n => .tup [.str n, φ n])) = some (.dic KK (KK.map φ)) := by
  show (if (KK.map fun n => D.tup [.str n, φ n]).length ≤ LIM then mergeD (KK.map fun n => .tup [.str n, φ n]) [] [] else none) = _
  rw [if_pos (by rw [List.length_map]; exact Nat.le_of_lt KK_lim)]
  have := merge_map φ KK []
  rw [keys_KK] at this
  exact this
def fateD (v : Vc) : D := .dic KK (KK.map fun n => pr n (fk v n))
def rawV (ss : List Sdi) : Vc := ss.foldl (fun v s => cmpV v (stepV s)) startV
theorem fk_cmp (v u : Vc) (n : Str) : fk (cmpV v u) n = cmpF (fk v n) (fk u n) := by
  unfold fk
  by_cases h : n ∈ LBL
  · rw [if_pos h, if_pos h, if_pos h]; rfl
  · rw [if_neg h, if_neg h, if_neg h]; rfl
theorem fold_raw : ∀ (ss : List Sdi) (v : Vc) (f : Str → Fa), (∀ n, f n = fk v n) → ∀ n, (ss.foldl stF f) n = fk (ss.foldl (fun v s => cmpV v (stepV s)) v) n
  | [], v, f, h, n => h n
  | s :: ss, v, f, h, n => by
    rw [List.foldl_cons, List.foldl_cons]
    refine fold_raw ss (cmpV v (stepV s)) (stF f s) (fun m => ?_) n
    rw [fk_cmp]
    unfold stF stK
    rw [h m]
theorem all_KK (v : Vc) : (KK.all fun n => !(fk v n).1) = allG v := by
  have e : KK = LBL ++ (["x", "zz"] : List Str) := rfl
  have hx : ("x" : Str) ∉ LBL := by decide
  have hz : ("zz" : Str) ∉ LBL := by decide
  rw [e, List.all_append]
  unfold allG
  have h1 : (LBL.all fun n => !(fk v n).1) = LBL.all fun n => !(v.1 n).1 := by
    rw [Bool.eq_iff_iff, List.all_eq_true, List.all_eq_true]
    have hf : ∀ n ∈ LBL, fk v n = v.1 n := fun n hn => by unfold fk; rw [if_pos hn]
    exact ⟨fun z n hn => by rw [← hf n hn]; exact z n hn, fun z n hn => by rw [hf n hn]; exact z n hn⟩
  rw [h1]
  show ((LBL.all fun n => !(v.1 n).1) && ((!(fk v "x").1) && ((!(fk v "zz").1) && true))) = _
  unfold fk
  rw [if_neg hx, if_neg hz]
  cases v.2.1 <;> cases (LBL.all fun n => !(v.1 n).1) <;> rfl
theorem m_fates_raw (ss : List Sdi) (hl : ss.length ≤ LIM) : R_w_fates [lineD ss] = some (fateD (nrm (rawV ss))) := by
  obtain ⟨o0, ei, hi⟩ := init_ok (lineD ss)
  obtain ⟨o', x', y', e, ho⟩ := outer_go (lineD ss) ss f0F o0 .un .un hi
  have hf : ∀ n, (ss.foldl stF f0F) n = fk (rawV ss) n := fold_raw ss startV f0F fun n => by unfold fk; split <;> rfl
  generalize ss.foldl stF f0F = f at e hf
  have hfun : f = fk (rawV ss) := funext hf
  subst hfun
  refine run_rt (q_seq (σ' := [.d (lineD ss), .od [] [], .od [] [], .un, .un, .un, .un]) rfl (q_for (xs := KK.map .str) rfl (Nat.le_of_lt KK_lim) ei (q_for (xs := ss.map strD) rfl (by rw [List.length_map]; exact hl) e ?_)))
  have tst : (t_val (x_call b_all (a_cons (x_lc (i_dic 1 false) [3] (g_name 3) t_yes (x_bin dIsN' (x_bin dSub1 (x_var 1) (x_var 3)) (x_c .non))) a_nil))) (peek (stW (lineD ss) (fk (rawV ss)) o' x' y' .un)) = some (allG (rawV ss)) := by
    refine (e_val (e_call (ds := [.lst (KK.map fun n => .bl (!(fk (rawV ss) n).1))]) (e_cons ?_ e_nil) (all_map _ _))).trans (by rw [all_KK])
    refine e_lcM (l := KK) .str (fun n => .bl (!(fk (rawV ss) n).1)) rfl (fun n hn => e_turn1 (us := [(3, .str n)]) rfl rfl ?_) (Nat.le_of_lt KK_lim)
    exact e_bin (d1 := fin n (fk (rawV ss) n).1) (e_bin (d1 := .dic KK (hereD (fk (rawV ss)))) (d2 := .str n) rfl rfl (look_here _ hn)) rfl (dIsN_fin _ _)
  unfold nrm
  cases hg : allG (rawV ss) with
  | true =>
    rw [if_pos rfl]
    refine q_ifT (tst.trans (by rw [hg])) (q_ret (e_un (d := .lst (KK.map fun n => .tup [.str n, pr n (false, some 0)])) ?_ ?_))
    · exact e_lcM (l := KK) .str (fun n => .tup [.str n, pr n (false, some 0)]) rfl (fun n hn => e_turn1 (us := [(3, .str n)]) rfl rfl rfl) (Nat.le_of_lt KK_lim)
    · refine (dict_KK fun n => pr n (false, some 0)).trans ?_
      rfl
  | false =>
    rw [if_neg Bool.false_ne_true]
    refine q_ifF (tst.trans (by rw [hg])) (q_ret (e_un (d := .lst (KK.map fun n => .tup [.str n, pr n (fk (rawV ss) n)])) ?_ (dict_KK fun n => pr n (fk (rawV ss) n))))
    refine e_lcM (l := KK) .str (fun n => .tup [.str n, pr n (fk (rawV ss) n)]) rfl (fun n hn => e_turn1 (us := [(3, .str n)]) rfl rfl ?_) (Nat.le_of_lt KK_lim)
    refine e_tup (ds := [.str n, pr n (fk (rawV ss) n)]) (e_cons rfl (e_cons (e_tup (ds := [fin n (fk (rawV ss) n).1, dR (fk (rawV ss) n).2]) (e_cons ?_ (e_cons ?_ e_nil)) (show 2 ≤ LIM by decide)) e_nil)) (show 2 ≤ LIM by decide)
    · exact e_bin (d1 := .dic KK (hereD (fk (rawV ss)))) (d2 := .str n) rfl rfl (look_here _ hn)
    · exact e_bin (d1 := .dic KK (roomD (fk (rawV ss)))) (d2 := .str n) rfl rfl (look_room _ hn)
/-! with and without the early naming of all gone -/
theorem EqV.refl (v : Vc) : EqV v v := ⟨fun _ _ => rfl, rfl⟩
theorem EqV.trans {a b c : Vc} (h : EqV a b) (k : EqV b c) : EqV a c := ⟨fun n hn => (h.1 n hn).trans (k.1 n hn), h.2.trans k.2⟩
theorem EqV.symm {a b : Vc} (h : EqV a b) : EqV b a := ⟨fun n hn => (h.1 n hn).symm, h.2.symm⟩
theorem EqV.nrm {a b : Vc} (h : EqV a b) : EqV (nrm a) (nrm b) := by
  unfold DL.nrm
  rw [h.allG]
  split
  · exact .refl _
  · exact h
theorem EqV.cmp {a b c d : Vc} (h : EqV a b) (k : EqV c d) : EqV (cmpV a c) (cmpV b d) := ⟨fun n hn => by show cmpF _ _ = cmpF _ _; rw [h.1 n hn, k.1 n hn], by show cmpF _ _ = cmpF _ _; rw [h.2, k.2]⟩
theorem allG_cmp_l {v u : Vc} (h : allG v = true) : EqV (cmpV v u) v := by
  unfold allG at h
  rw [Bool.and_eq_true, List.all_eq_true] at h
  refine ⟨fun n hn => ?_, ?_⟩
  · have := h.2 n hn
    rw [Bool.not_eq_true'] at this
    show cmpF (v.1 n) (u.1 n) = v.1 n
    unfold cmpF
    rw [if_neg (by rw [this]; exact Bool.false_ne_true)]
  · have := h.1
    rw [Bool.not_eq_true'] at this
    show cmpF v.2 u.2 = v.2
    unfold cmpF
    rw [if_neg (by rw [this]; exact Bool.false_ne_true)]
theorem allG_cmp_r {v u : Vc} (h : allG u = true) : allG (cmpV v u) = true := by
  unfold allG at h ⊢
  rw [Bool.and_eq_true, List.all_eq_true] at h ⊢
  have one : ∀ a b : Fa, (!b.1) = true → (!(cmpF a b).1) = true := fun a b hb => by
    unfold cmpF
    by_cases q : a.1 = true
    · rw [if_pos q]; exact hb
    · rw [if_neg q, Bool.not_eq_true']; exact Bool.not_eq_true _ ▸ q
  exact ⟨one _ _ h.1, fun n hn => one _ _ (h.2 n hn)⟩
theorem nrm_T {v : Vc} (h : allG v = true) : nrm v = goneV := if_pos h
theorem nrm_F {v : Vc} (h : allG v = false) : nrm v = v := if_neg (by rw [h]; exact Bool.false_ne_true)
theorem st_raw (v : Vc) (s : Sdi) : EqV (stV (nrm v) s) (nrm (cmpV v (stepV s))) := by
  unfold stV
  cases hv : allG v with
  | true =>
    have e1 : EqV (nrm (cmpV (nrm v) (nrm (stepV s)))) goneV := by
      rw [nrm_T hv]
      have := (allG_cmp_l (v := goneV) (u := nrm (stepV s)) rfl).nrm
      exact this
    have e2 : nrm (cmpV v (stepV s)) = goneV := nrm_T ((allG_cmp_l (v := v) (u := stepV s) hv).allG.trans hv)
    rw [e2]
    exact e1
  | false =>
    rw [nrm_F hv]
    cases hs : allG (stepV s) with
    | true =>
      rw [nrm_T hs, nrm_T (allG_cmp_r (v := v) (u := goneV) rfl), nrm_T (allG_cmp_r (v := v) hs)]
      exact .refl _
    | false =>
      rw [nrm_F hs]
      exact .refl _
theorem EqV.st {a b : Vc} (h : EqV a b) (s : Sdi) : EqV (stV a s) (stV b s) := (h.cmp (.refl _)).nrm
theorem run_raw (ss : List Sdi) : EqV (runV ss) (nrm (rawV ss)) := by
  have : ∀ (ss : List Sdi) (a b : Vc), EqV a (nrm b) → EqV (ss.foldl stV a) (nrm (ss.foldl (fun v s => cmpV v (stepV s)) b)) := fun ss => by
    induction ss with
    | nil => exact fun a b h => h
    | cons s ss ih => exact fun a b h => ih _ _ ((h.st s).trans (st_raw b s))
  exact this ss startV startV (.refl _)
theorem fate_congr {v u : Vc} (h : EqV v u) : fateD v = fateD u := by
  unfold fateD
  congr 1
  refine List.map_congr_left fun n _ => ?_
  unfold fk
  by_cases q : n ∈ LBL
  · rw [if_pos q, if_pos q, h.1 n q]
  · rw [if_neg q, if_neg q, h.2]
theorem m_fates (ss : List Sdi) (hl : ss.length ≤ LIM) : R_w_fates [lineD ss] = some (fateD (runV ss)) := by
  rw [m_fates_raw ss hl, fate_congr (run_raw ss)]
end DL
/-! _law_under, _law_row. -/
namespace DL
open PySem PySem.Spec PyProof.Rows L2
theorem q_forKn {i : Nat} {g : Tgt} {F1 F : SF} {σ σ' : RhoS} {ks : List Str} {ds : List D} {o : Out} (hi : σ[i]? = some (.d (.dic ks ds))) (h1 : forGo g F1 (ks.map .str) σ = some (.nx σ')) (h2 : F σ' = some o) : s_seq (s_forK i false g F1) F σ = some o := by
  unfold s_seq s_forK
  rw [hi]
  show ((forGo g F1 (ks.map .str) σ).bind _) = _
  rw [h1]
  exact h2
theorem q_forKr {i : Nat} {g : Tgt} {F1 F : SF} {σ : RhoS} {ks : List Str} {ds : List D} {d : D} (hi : σ[i]? = some (.d (.dic ks ds))) (h1 : forGo g F1 (ks.map .str) σ = some (.rt d)) : s_seq (s_forK i false g F1) F σ = some (.rt d) := by
  unfold s_seq s_forK
  rw [hi]
  show ((forGo g F1 (ks.map .str) σ).bind _) = _
  rw [h1]
  rfl
theorem fate_look (v : Vc) {n : Str} (hn : n ∈ KK) : dSub1 (fateD v) (.str n) = some (pr n (fk v n)) := look_dic (fun n => pr n (fk v n)) hn
def bodyU : SF := s_seq (s_set (g_tup 2 (g_cons (g_tup 2 (g_cons (g_name 5) (g_cons (g_name 6) g_nil))) (g_cons (g_tup 2 (g_cons (g_name 7) (g_cons (g_name 8) g_nil))) g_nil))) (x_tup (a_cons (x_bin dSub1 (x_var 2) (x_var 4)) (a_cons (x_bin dSub1 (x_var 3) (x_var 4)) a_nil))))
          (s_seq (s_if (t_or (t_and (t_val (x_bin dIsNot' (x_var 5) (x_c .non))) (t_val (x_bin dIsN' (x_var 7) (x_c .non)))) (t_and (t_val (x_bin dIsNot' (x_var 8) (x_c .non))) (t_or (t_val (x_bin dIsN' (x_var 6) (x_c .non))) (t_val (x_bin dGt (x_var 6) (x_var 8)))))) (s_seq (s_ret (x_c (.bl false)))
          (s_nil)) (s_nil))
          (s_nil))
theorem tst_le (n : Str) (a b : Fa) (σ : RhoS) (h5 : x_var 5 (peek σ) = some (fin n a.1)) (h6 : x_var 6 (peek σ) = some (dR a.2)) (h7 : x_var 7 (peek σ) = some (fin n b.1)) (h8 : x_var 8 (peek σ) = some (dR b.2)) :
    (t_or (t_and (t_val (x_bin dIsNot' (x_var 5) (x_c .non))) (t_val (x_bin dIsN' (x_var 7) (x_c .non)))) (t_and (t_val (x_bin dIsNot' (x_var 8) (x_c .non))) (t_or (t_val (x_bin dIsN' (x_var 6) (x_c .non))) (t_val (x_bin dGt (x_var 6) (x_var 8)))))) (peek σ) = some (!leF a b) := by
  have e1 := e_and (a := a.1) (b := !b.1) (e_val (e_bin h5 rfl (dIsNot_fin n a.1)) : (t_val (x_bin dIsNot' (x_var 5) (x_c .non))) (peek σ) = some a.1) (fun _ => (e_val (e_bin h7 rfl (dIsN_fin n b.1)) : (t_val (x_bin dIsN' (x_var 7) (x_c .non))) (peek σ) = some (!b.1)))
  have e2 : (t_and (t_val (x_bin dIsNot' (x_var 8) (x_c .non))) (t_or (t_val (x_bin dIsN' (x_var 6) (x_c .non))) (t_val (x_bin dGt (x_var 6) (x_var 8))))) (peek σ) = some (!leR a.2 b.2) := by
    cases hb : b.2 with
    | none =>
      rw [hb] at h8
      refine (e_and (a := false) (b := false) (e_val (e_bin h8 rfl rfl)) fun z => by cases z).trans ?_
      cases a.2 <;> rfl
    | some k =>
      rw [hb] at h8
      cases ha : a.2 with
      | none =>
        rw [ha] at h6
        exact e_and (a := true) (b := true) (e_val (e_bin h8 rfl rfl)) fun _ => e_or (a := true) (b := true) (e_val (e_bin h6 rfl rfl)) fun z => by cases z
      | some x =>
        rw [ha] at h6
        refine (e_and (a := true) (b := !decide (x ≤ k)) (e_val (e_bin h8 rfl rfl)) fun _ => (e_or (a := false) (b := !decide (x ≤ k)) (e_val (e_bin h6 rfl rfl)) fun _ => e_val (e_bin h6 h8 ?_)).trans (by rw [Bool.false_or])).trans (by rw [Bool.true_and]; rfl)
        show some (D.bl (decide ((k : Int) < (x : Int)))) = _
        congr 2
        rw [← decide_not, decide_eq_decide]
        omega
  refine (e_or e1 fun _ => e2).trans ?_
  congr 1
  unfold leF
  cases a.1 <;> cases b.1 <;> cases leR a.2 b.2 <;> rfl
theorem under_go (v u : Vc) (x y : D) : ∀ (l : List Str) (t a b c d e : Sl), (∀ n ∈ l, n ∈ KK) →
    ((l.all fun n => leF (fk v n) (fk u n)) = true ∧ ∃ t' a' b' c' d', forGo (g_name 4) bodyU (l.map .str) [.d x, .d y, .d (fateD v), .d (fateD u), t, a, b, c, d, e] = some (.nx [.d x, .d y, .d (fateD v), .d (fateD u), t', a', b', c', d', e])) ∨
    ((l.all fun n => leF (fk v n) (fk u n)) = false ∧ forGo (g_name 4) bodyU (l.map .str) [.d x, .d y, .d (fateD v), .d (fateD u), t, a, b, c, d, e] = some (.rt (.bl false)))
  | [], t, a, b, c, d, e, _ => .inl ⟨rfl, t, a, b, c, d, rfl⟩
  | n :: l, t, a, b, c, d, e, h => by
    have hn := h n List.mem_cons_self
    have hset : (x_tup (a_cons (x_bin dSub1 (x_var 2) (x_var 4)) (a_cons (x_bin dSub1 (x_var 3) (x_var 4)) a_nil))) (mask [.d x, .d y, .d (fateD v), .d (fateD u), .d (.str n), a, b, c, d, e]) = some (.tup [pr n (fk v n), pr n (fk u n)]) :=
      e_tup (e_cons (e_bin (d1 := fateD v) (d2 := .str n) rfl rfl (fate_look v hn)) (e_cons (e_bin (d1 := fateD u) (d2 := .str n) rfl rfl (fate_look u hn)) e_nil)) (show 2 ≤ LIM by decide)
    have tst := tst_le n (fk v n) (fk u n) [.d x, .d y, .d (fateD v), .d (fateD u), .d (.str n), .d (fin n (fk v n).1), .d (dR (fk v n).2), .d (fin n (fk u n).1), .d (dR (fk u n).2), e] rfl rfl rfl rfl
    rw [List.all_cons]
    cases hle : leF (fk v n) (fk u n) with
    | true =>
      rw [Bool.true_and]
      rw [hle] at tst
      have eb : bodyU [.d x, .d y, .d (fateD v), .d (fateD u), .d (.str n), a, b, c, d, e] = some (.nx [.d x, .d y, .d (fateD v), .d (fateD u), .d (.str n), .d (fin n (fk v n).1), .d (dR (fk v n).2), .d (fin n (fk u n).1), .d (dR (fk u n).2), e]) :=
        q_set (us := [(5, fin n (fk v n).1), (6, dR (fk v n).2), (7, fin n (fk u n).1), (8, dR (fk u n).2)]) hset rfl (q_ifF tst rfl)
      rcases under_go v u x y l (.d (.str n)) (.d (fin n (fk v n).1)) (.d (dR (fk v n).2)) (.d (fin n (fk u n).1)) (.d (dR (fk u n).2)) e fun m hm => h m (List.mem_cons_of_mem _ hm) with ⟨h1, t', a', b', c', d', h2⟩ | ⟨h1, h2⟩
      · exact .inl ⟨h1, t', a', b', c', d', f_cons (us := [(4, .str n)]) rfl eb h2⟩
      · exact .inr ⟨h1, f_cons (us := [(4, .str n)]) rfl eb h2⟩
    | false =>
      rw [Bool.false_and]
      rw [hle] at tst
      exact .inr ⟨rfl, f_consR (us := [(4, .str n)]) rfl (q_set (us := [(5, fin n (fk v n).1), (6, dR (fk v n).2), (7, fin n (fk u n).1), (8, dR (fk u n).2)]) hset rfl (q_ifT tst (q_ret rfl)))⟩
theorem KK_le (v u : Vc) : (KK.all fun n => leF (fk v n) (fk u n)) = leV v u := by
  have e : KK = LBL ++ (["x", "zz"] : List Str) := rfl
  have hx : ("x" : Str) ∉ LBL := by decide
  have hz : ("zz" : Str) ∉ LBL := by decide
  rw [e, List.all_append]
  unfold leV
  have h1 : (LBL.all fun n => leF (fk v n) (fk u n)) = LBL.all fun n => leF (v.1 n) (u.1 n) := by
    rw [Bool.eq_iff_iff, List.all_eq_true, List.all_eq_true]
    have hf : ∀ w : Vc, ∀ n ∈ LBL, fk w n = w.1 n := fun w n hn => by unfold fk; rw [if_pos hn]
    exact ⟨fun z n hn => by rw [← hf v n hn, ← hf u n hn]; exact z n hn, fun z n hn => by rw [hf v n hn, hf u n hn]; exact z n hn⟩
  rw [h1]
  show ((LBL.all fun n => leF (v.1 n) (u.1 n)) && (leF (fk v "x") (fk u "x") && (leF (fk v "zz") (fk u "zz") && true))) = _
  unfold fk
  rw [if_neg hx, if_neg hz, if_neg hx, if_neg hz, Bool.and_true, Bool.and_self]
theorem le_gone (u : Vc) : leV goneV u = true := by
  have h : ∀ b : Fa, leF (false, some 0) b = true := fun b => by
    unfold leF
    cases b.2 with
    | none => rfl
    | some k => show (true && decide (0 ≤ k)) = true; rw [decide_eq_true (Nat.zero_le _)]; rfl
  unfold leV
  rw [Bool.and_eq_true, List.all_eq_true]
  exact ⟨fun n _ => h _, h _⟩
theorem m_under (a b : List Sdi) (ha : a.length ≤ LIM) (hb : b.length ≤ LIM) : R_w_under [lineD a, lineD b] = some (.bl (leV (runV a) (runV b))) := by
  refine run_rt (q_set (d := .tup [fateD (runV a), fateD (runV b)]) (us := [(2, fateD (runV a)), (3, fateD (runV b))]) (e_tup (e_cons (e_call (ds := [lineD a]) rfl (m_fates a ha)) (e_cons (e_call (ds := [lineD b]) rfl (m_fates b hb)) e_nil)) (show 2 ≤ LIM by decide)) rfl ?_)
  have tst : (t_val (x_call b_all (a_cons (x_lc (i_dic 2 true) [9] (g_name 9) t_yes (x_bin dIsN' (x_bin dSub1 (x_var 9) (x_c (.int 0))) (x_c .non))) a_nil))) (peek [.d (lineD a), .d (lineD b), .d (fateD (runV a)), .d (fateD (runV b)), .un, .un, .un, .un, .un, .un]) = some (allG (runV a)) := by
    refine (e_val (e_call (ds := [.lst (KK.map fun n => .bl (!(fk (runV a) n).1))]) (e_cons ?_ e_nil) (all_map _ _))).trans (by rw [all_KK])
    refine e_lcM (l := KK) (fun n => pr n (fk (runV a) n)) (fun n => .bl (!(fk (runV a) n).1)) rfl (fun n hn => e_turn1 (us := [(9, pr n (fk (runV a) n))]) rfl rfl ?_) (Nat.le_of_lt KK_lim)
    exact e_bin (d1 := fin n (fk (runV a) n).1) (e_bin (d1 := pr n (fk (runV a) n)) (d2 := .int 0) rfl rfl rfl) rfl (dIsN_fin _ _)
  cases hg : allG (runV a) with
  | true =>
    rw [(inv_run a).gone hg, le_gone]
    rw [(inv_run a).gone hg] at tst
    exact q_ifT (tst.trans rfl) (q_ret rfl)
  | false =>
    refine q_ifF (tst.trans (by rw [hg])) ?_
    rcases under_go (runV a) (runV b) (lineD a) (lineD b) KK .un .un .un .un .un .un (fun n h => h) with ⟨h1, t', a', b', c', d', h2⟩ | ⟨h1, h2⟩
    · rw [← KK_le, h1]
      exact q_forKn (ks := KK) rfl h2 (q_ret rfl)
    · rw [← KK_le, h1]
      exact q_forKr (ks := KK) rfl h2
/-! ### _law_row -/
theorem wrow_go (ls : List (List Sdi)) (hL : ∀ l ∈ ls, l.length ≤ 2) : ∀ (os : List Nat) (a : List Sdi) (o x : Sl), (∀ i ∈ os, i < ls.length) → a.length + 2 * os.length ≤ 1000 → ∃ x', forGo (g_name 3) (s_seq (s_set (g_name 2) (x_bin dAdd (x_var 2) (x_bin dSub1 (x_var 0) (x_var 3)))) s_nil) (os.map fun i => D.int (i : Nat)) [.d (.lst (ls.map lineD)), o, .d (lineD a), x] = some (.nx [.d (.lst (ls.map lineD)), o, .d (lineD (a ++ rowS ls os)), x'])
  | [], a, o, x, _, _ => ⟨x, by rw [show rowS ls [] = [] from rfl, List.append_nil]; rfl⟩
  | i :: os, a, o, x, ho, hl => by
    have hi := ho i List.mem_cons_self
    have q : ls[i]? = some ls[i] := List.getElem?_eq_getElem hi
    have l2 := hL _ (List.getElem_mem hi)
    rw [List.length_cons] at hl
    obtain ⟨x', e⟩ := wrow_go ls hL os (a ++ ls[i]) o (.d (.int (i : Nat))) (fun j hj => ho j (List.mem_cons_of_mem _ hj)) (by rw [List.length_append]; omega)
    refine ⟨x', ?_⟩
    have er : rowS ls (i :: os) = ls[i] ++ rowS ls os := by unfold rowS; rw [List.flatMap_cons, q]; rfl
    rw [er, ← List.append_assoc]
    refine f_cons (us := [(3, .int (i : Nat))]) rfl (q_set (d := lineD (a ++ ls[i])) (us := [(2, lineD (a ++ ls[i]))]) (e_bin (d1 := lineD a) (d2 := lineD ls[i]) rfl (e_bin (d1 := .lst (ls.map lineD)) (d2 := .int (i : Nat)) rfl rfl ?_) ?_) rfl rfl) e
    · show atI (ls.map lineD) ((i : Nat) : Int) = _
      exact atI_nat (by rw [List.getElem?_map, q]; rfl)
    · show (if (a.map strD).length + (ls[i].map strD).length ≤ LIM then some (D.tup (a.map strD ++ ls[i].map strD)) else none) = _
      rw [if_pos (by rw [List.length_map, List.length_map]; exact Nat.le_trans (show _ ≤ 1000 by omega) (by decide)), ← List.map_append]
      rfl
theorem m_wrow (ls : List (List Sdi)) (hL : ∀ l ∈ ls, l.length ≤ 2) (os : List Nat) (ho : ∀ i ∈ os, i < ls.length) (hl : os.length ≤ 100) : R_w_row [.lst (ls.map lineD), ordD os] = some (lineD (rowS ls os)) := by
  obtain ⟨x', e⟩ := wrow_go ls hL os [] (.d (ordD os)) .un ho (by rw [List.length_nil]; omega)
  exact run_rt (q_set (d := .tup []) (us := [(2, .tup [])]) rfl rfl (q_for (xs := os.map fun i => .int (i : Nat)) rfl (by rw [List.length_map]; exact Nat.le_trans hl (by decide)) e (q_ret rfl)))
end DL
/-! The text of a form tells it. -/
namespace DL
open PySem PySem.Spec PyProof.Rows L2
def sayT (names : List Str) (rest : Bool) : Str :=
  if rest = true then (if Txt.join " " names != "" then "* - " ++ Txt.join " " names else "*") else (if Txt.join " " names != "" then Txt.join " " names else "-")
def cutT (k : Nat) : Str := ("cut " : Str) ++ (toString ((k + 1 : Nat) : Int) : String)
def pT : Sdi → Str
  | .cut k => cutT k
  | .lot dr p rest => (if dr = true then ("drop " : Str) else "unwrap ") ++ sayT (LBL.filter p) rest
abbrev Code := Nat × Nat × List Str × Bool
def codeS : Sdi → Code
  | .cut k => (0, k, [], false)
  | .lot dr p rest => (if dr = true then 1 else 2, 0, LBL.filter p, rest)
def textC : Code → Str
  | (0, k, _, _) => cutT k
  | (1, _, ns, r) => ("drop " : Str) ++ sayT ns r
  | (_, _, ns, r) => ("unwrap " : Str) ++ sayT ns r
theorem pT_code (s : Sdi) : pT s = textC (codeS s) := by
  cases s with
  | cut k => rfl
  | lot dr p rest => cases dr <;> rfl
def subsL : List (List Str) := [[], ["p"], ["c"], ["c", "p"], ["b"], ["b", "p"], ["b", "c"], ["b", "c", "p"], ["a"], ["a", "p"], ["a", "c"], ["a", "c", "p"], ["a", "b"], ["a", "b", "p"], ["a", "b", "c"], ["a", "b", "c", "p"]]
theorem filt16 (p : Str → Bool) : LBL.filter p ∈ subsL := by
  unfold LBL
  rw [List.filter_cons, List.filter_cons, List.filter_cons, List.filter_cons, List.filter_nil]
  cases p "a" <;> cases p "b" <;> cases p "c" <;> cases p "p" <;> decide
def CC : List Code := (List.range 4).map (fun k => (0, k, [], false)) ++ subsL.flatMap fun ns => [(1, 0, ns, false), (1, 0, ns, true), (2, 0, ns, false), (2, 0, ns, true)]
def okSd : Sdi → Prop | .cut k => k ≤ 3 | _ => True
theorem code_in {s : Sdi} (h : okSd s) : codeS s ∈ CC := by
  unfold CC
  cases s with
  | cut k => exact List.mem_append_left _ (List.mem_map.mpr ⟨k, List.mem_range.mpr (Nat.lt_succ_of_le h), rfl⟩)
  | lot dr p rest =>
    refine List.mem_append_right _ (List.mem_flatMap.mpr ⟨LBL.filter p, filt16 p, ?_⟩)
    unfold codeS
    cases dr <;> cases rest <;> simp
theorem text_inj : (CC.all fun c => CC.all fun d => !(textC c == textC d) || decide (c = d)) = true := by decide +kernel
theorem text_no : (CC.all fun c => !((textC c).cps.toList.contains 59) && !(textC c == "-") && (textC c).cps.all (· < 0x110000) && decide ((textC c).length ≤ 100)) = true := by decide +kernel
end DL
namespace DL
open PySem PySem.Spec PyProof.Rows L2
open TL (tl split_join)
theorem text_inj' {c d : Code} (hc : c ∈ CC) (hd : d ∈ CC) (h : textC c = textC d) : c = d := by
  have := List.all_eq_true.mp (List.all_eq_true.mp text_inj c hc) d hd
  rw [h, beq_self_eq_true, Bool.not_true, Bool.false_or, decide_eq_true_eq] at this
  exact this
theorem text_facts {c : Code} (hc : c ∈ CC) : 59 ∉ (textC c).cps.toList ∧ textC c ≠ "-" ∧ okS (textC c) ∧ (textC c).length ≤ 100 := by
  have := List.all_eq_true.mp text_no c hc
  rw [Bool.and_eq_true, Bool.and_eq_true, Bool.and_eq_true, decide_eq_true_eq] at this
  obtain ⟨⟨⟨a, b⟩, e⟩, d⟩ := this
  refine ⟨fun z => ?_, fun z => ?_, e, d⟩
  · rw [List.contains_iff_mem.mpr z] at a; cases a
  · rw [z] at b; exact absurd b (by decide)
theorem step_code {s t : Sdi} (h : codeS s = codeS t) : EqV (stepV s) (stepV t) := by
  cases s with
  | cut k =>
    cases t with
    | cut j =>
      have : k = j := (Prod.mk.inj (Prod.mk.inj h).2).1
      subst this
      exact .refl _
    | lot dr p rest => cases dr <;> cases (Prod.mk.inj h).1
  | lot dr p rest =>
    cases t with
    | cut j => cases dr <;> cases (Prod.mk.inj h).1
    | lot dr' q rest' =>
      have h1 : dr = dr' := by
        have := (Prod.mk.inj h).1
        cases dr <;> cases dr' <;> first | rfl | cases this
      have h2 := (Prod.mk.inj (Prod.mk.inj (Prod.mk.inj h).2).2).1
      have h3 : rest = rest' := (Prod.mk.inj (Prod.mk.inj (Prod.mk.inj h).2).2).2
      subst h1
      subst h3
      refine ⟨fun n hn => ?_, rfl⟩
      have : p n = q n := by
        have e1 : n ∈ LBL.filter p ↔ n ∈ LBL.filter q := by
          have h2' : LBL.filter p = LBL.filter q := h2
          rw [h2']
        rw [List.mem_filter, List.mem_filter] at e1
        rw [Bool.eq_iff_iff]
        exact ⟨fun z => (e1.mp ⟨hn, z⟩).2, fun z => (e1.mpr ⟨hn, z⟩).2⟩
      show (if (p n != rest) = true then _ else _) = if (q n != rest) = true then _ else _
      rw [this]
theorem EqV.st2 {a b : Vc} (h : EqV a b) {s t : Sdi} (k : EqV (stepV s) (stepV t)) : EqV (stV a s) (stV b t) := (h.cmp k.nrm).nrm
theorem run_texts : ∀ (P Q : List Sdi) (a b : Vc), EqV a b → (∀ s ∈ P, okSd s) → (∀ s ∈ Q, okSd s) → P.map pT = Q.map pT → EqV (P.foldl stV a) (Q.foldl stV b)
  | [], [], a, b, h, _, _, _ => h
  | [], _ :: _, _, _, _, _, _, e => by cases e
  | _ :: _, [], _, _, _, _, _, e => by cases e
  | s :: P, t :: Q, a, b, h, hp, hq, e => by
    rw [List.map_cons, List.map_cons] at e
    obtain ⟨e1, e2⟩ := List.cons.inj e
    rw [pT_code, pT_code] at e1
    have hc := text_inj' (code_in (hp s List.mem_cons_self)) (code_in (hq t List.mem_cons_self)) e1
    exact run_texts P Q _ _ (h.st2 (step_code hc)) (fun x hx => hp x (List.mem_cons_of_mem _ hx)) (fun x hx => hq x (List.mem_cons_of_mem _ hx)) e2
/-- all rooms are at most 3 -/
def Low (v : Vc) : Prop := ∀ f, inV v f → ∀ k, f.2 = some k → k ≤ 3
theorem low_st {v : Vc} (L : Low v) {s : Sdi} (h : okSd s) : Low (stV v s) := by
  have hg : ∀ f, inV goneV f → f = (false, some 0) := fun f h => by rcases h with e | ⟨n, _, e⟩ <;> exact e
  have hn : ∀ w, Low w → Low (nrm w) := fun w hw => by
    unfold nrm
    split
    · exact fun f hf k hk => by
        rw [hg f hf] at hk
        have := Option.some.inj hk
        omega
    · exact hw
  have hs : Low (stepV s) := fun f hf k hk => by
    cases s with
    | cut j =>
      have : f = (true, some j) := by rcases hf with e | ⟨n, _, e⟩ <;> exact e
      rw [this] at hk
      have := Option.some.inj hk
      have h' : j ≤ 3 := h
      omega
    | lot dr p rest =>
      have e : f = (false, if dr = true then some 0 else none) ∨ f = (true, none) := by
        rcases hf with e | ⟨n, _, e⟩
        · by_cases q : rest = true
          · exact .inl (e.trans (if_pos q))
          · exact .inr (e.trans (if_neg q))
        · by_cases q : (p n != rest) = true
          · exact .inl (e.trans (if_pos q))
          · exact .inr (e.trans (if_neg q))
      rcases e with e | e
      · rw [e] at hk
        cases dr
        · cases hk
        · have := Option.some.inj hk
          omega
      · rw [e] at hk; cases hk
  have hc : ∀ w u, Low w → Low u → Low (cmpV w u) := fun w u hw hu f hf k hk => by
    obtain ⟨a, b, ia, ib, rfl⟩ := inV_cmp hf
    unfold cmpF at hk
    by_cases q : a.1 = true
    · rw [if_pos q] at hk
      have hk' : mn a.2 b.2 = some k := hk
      cases ha : a.2 with
      | none =>
        rw [ha] at hk'
        exact hu b ib k hk'
      | some x =>
        cases hb : b.2 with
        | none =>
          rw [ha, hb, mn_none] at hk'
          exact hw a ia k (ha.trans hk')
        | some y =>
          rw [ha, hb] at hk'
          have h1 := hw a ia x ha
          have h2 := hu b ib y hb
          have : (if y < x then y else x) = k := Option.some.inj hk'
          split at this <;> omega
    · rw [if_neg q] at hk
      exact hw a ia k hk
  exact hn _ (hc _ _ L (hn _ hs))
theorem low_run (ss : List Sdi) (h : ∀ s ∈ ss, okSd s) : Low (runV ss) := by
  have : ∀ (ss : List Sdi) (v : Vc), (∀ s ∈ ss, okSd s) → Low v → Low (ss.foldl stV v) := fun ss => by
    induction ss with
    | nil => exact fun v _ h => h
    | cons s ss ih => exact fun v h L => ih _ (fun t ht => h t (List.mem_cons_of_mem _ ht)) (low_st L (h s List.mem_cons_self))
  exact this ss startV h fun f hf k hk => by
    have : f = (true, none) := by rcases hf with e | ⟨n, _, e⟩ <;> exact e
    rw [this] at hk; cases hk
theorem plain_okSd {v : Vc} (I : Inv v) (L : Low v) (hs : someA v) : ∀ s ∈ plainN v (hgt (canT v) v.2), okSd s := by
  intro s hm
  obtain ⟨h, Hh, _⟩ := I.ex
  unfold plainN at hm
  have hlot : ∀ (b : Bool) (s t : Sdi), s ∈ (if b = true then [t] else []) → s = t := fun b s t h => by
    cases b with
    | true => rw [if_pos rfl] at h; exact List.mem_singleton.mp h
    | false => rw [if_neg Bool.false_ne_true] at h; cases h
  rcases List.mem_append.mp hm with hm | hm
  · rcases List.mem_append.mp hm with hm | hm
    · rcases List.mem_append.mp hm with hm | hm
      · rw [hlot _ _ _ hm]; trivial
      · rw [hlot _ _ _ hm]; trivial
    · obtain ⟨k, hk, hm⟩ := List.mem_flatMap.mp hm
      rcases List.mem_cons.mp hm with e | hm
      · rw [e]
        obtain ⟨f, hf, _, h3⟩ := mem_gone ((fallR_mem v k).mp hk).2
        exact L f hf k h3
      · rw [List.mem_singleton.mp hm]; trivial
  · unfold cutC at hm
    cases hh : hgt (canT v) v.2 with
    | none => rw [hh] at hm; cases hm
    | some x =>
      rw [hh] at hm
      dsimp only at hm
      have : s = .cut x := by
        split at hm
        · exact List.mem_singleton.mp hm
        · cases hm
      rw [this]
      obtain ⟨f, hf, ha⟩ := alive_fate hs
      refine L f hf x ?_
      rw [Hh.at hf ha]
      rcases hf with rfl | ⟨n, hn, rfl⟩
      · unfold hgt at hh
        rw [if_pos ha] at hh
        rw [← hh]
        exact (Hh.2 ha).symm
      · rw [hgt_can Hh hn ha] at hh
        exact hh
def partsV (v : Vc) : List Str := if allG v = true then ["drop *"] else if (plainN v (hgt (canT v) v.2)).isEmpty = true then ["-"] else (plainN v (hgt (canT v) v.2)).map pT
def textV (v : Vc) : Str := Txt.join "; " (partsV v)
theorem parts_ok {v : Vc} (I : Inv v) (L : Low v) : partsV v ≠ [] ∧ ∀ p ∈ partsV v, 59 ∉ tl p := by
  unfold partsV
  have h1 : 59 ∉ tl ("drop *" : Str) := by decide
  have h2 : 59 ∉ tl ("-" : Str) := by decide
  split
  · exact ⟨by simp, fun p hp => by rw [List.mem_singleton.mp hp]; exact h1⟩
  · rename_i hg
    split
    · exact ⟨by simp, fun p hp => by rw [List.mem_singleton.mp hp]; exact h2⟩
    · rename_i hne
      refine ⟨fun z => hne ?_, fun p hp => ?_⟩
      · rw [List.map_eq_nil_iff.mp z]; rfl
      · obtain ⟨s, hs, rfl⟩ := List.mem_map.mp hp
        rw [pT_code]
        exact (text_facts (code_in (plain_okSd I L (by unfold someA; simpa using hg) s hs))).1
theorem text_tells {v u : Vc} (I : Inv v) (L : Low v) (J : Inv u) (M : Low u) (h : textV v = textV u) : EqV v u := by
  obtain ⟨n1, k1⟩ := parts_ok I L
  obtain ⟨n2, k2⟩ := parts_ok J M
  have ey : tl ("; " : Str) = 59 :: [32] := by decide
  have hk : (("; " : Str)).cps.all (· < 256) = true := by decide +kernel
  have hp : partsV v = partsV u := by
    have e1 := split_join ey hk n1 k1
    have e2 := split_join ey hk n2 k2
    unfold textV at h
    rw [← e1, h, e2]
  have cdrop : (1, 0, [], true) ∈ CC := by decide
  have tdrop : textC (1, 0, [], true) = "drop *" := by decide
  -- one is all gone, the other is not
  have mixed : ∀ {w : Vc}, Inv w → Low w → allG w = false → partsV w = [("drop *" : Str)] → False := fun {w} Iw Lw hg hw => by
    unfold partsV at hw
    rw [if_neg (by rw [hg]; exact Bool.false_ne_true)] at hw
    split at hw
    · cases List.cons.inj hw |>.1
    · have hsame := plain_same Iw hg
      have hok := plain_okSd Iw Lw hg
      cases hP : plainN w (hgt (canT w) w.2) with
      | nil => rw [hP] at hw; cases hw
      | cons s P =>
        rw [hP] at hw hsame hok
        obtain ⟨e1, e2⟩ := List.cons.inj hw
        have : P = [] := List.map_eq_nil_iff.mp e2
        subst this
        rw [pT_code, ← tdrop] at e1
        have hc := text_inj' (code_in (hok s List.mem_cons_self)) cdrop e1
        have es := step_code (t := .lot true (fun _ => false) true) (s := s) (by rw [hc]; decide)
        have e3 : EqV (runV [s]) (runV [.lot true (fun _ => false) true]) := EqV.st2 (.refl startV) es
        have : allG (runV [.lot true (fun _ => false) true]) = true := by decide
        rw [← hsame.allG, e3.allG, this] at hg
        cases hg
  cases hv : allG v with
  | true =>
    cases hu : allG u with
    | true => rw [I.gone hv, J.gone hu]; exact .refl _
    | false =>
      refine (mixed J M hu ?_).elim
      rw [← hp]
      unfold partsV
      rw [if_pos hv]
  | false =>
    cases hu : allG u with
    | true =>
      refine (mixed I L hv ?_).elim
      rw [hp]
      unfold partsV
      rw [if_pos hu]
    | false =>
      have ov := plain_okSd I L hv
      have ou := plain_okSd J M hu
      have sv := plain_same I hv
      have su := plain_same J hu
      unfold partsV at hp
      rw [if_neg (show ¬ allG v = true by rw [hv]; exact Bool.false_ne_true), if_neg (show ¬ allG u = true by rw [hu]; exact Bool.false_ne_true)] at hp
      have dash : ∀ {P : List Sdi}, (∀ s ∈ P, okSd s) → P.map pT = [("-" : Str)] → False := fun {P} hP e => by
        cases P with
        | nil => cases e
        | cons s P =>
          have := (List.cons.inj e).1
          rw [pT_code] at this
          exact (text_facts (code_in (hP s List.mem_cons_self))).2.1 this
      have hmap : (plainN v (hgt (canT v) v.2)).map pT = (plainN u (hgt (canT u) u.2)).map pT := by
        split at hp
        · rename_i h1
          split at hp
          · rename_i h2
            rw [List.isEmpty_iff.mp h1, List.isEmpty_iff.mp h2]
          · exact (dash ou hp.symm).elim
        · split at hp
          · exact (dash ov hp).elim
          · exact hp
      exact sv.symm.trans ((run_texts _ _ startV startV (.refl _) ov ou hmap).trans su)
end DL
/-! _law_plainly: its parts. -/
namespace DL
open PySem PySem.Spec PyProof.Rows L2
def selL (a b c p : Bool) : List Str := (if a = true then [("a" : Str)] else []) ++ (if b = true then [("b" : Str)] else []) ++ (if c = true then [("c" : Str)] else []) ++ (if p = true then [("p" : Str)] else [])
def selK (a b c p r : Bool) : List Str := selL a b c p ++ if r = true then [("x" : Str), "zz"] else []
def isStrD (o : Option D) (s : Str) : Bool := match o with | some (.str t) => t == s | _ => false
theorem isStrD_ok {o : Option D} {s : Str} (h : isStrD o s = true) : o = some (.str s) := by
  unfold isStrD at h
  split at h
  · rw [beq_iff_eq.mp h]
  · cases h
def isBlD (o : Option D) (s : Bool) : Bool := match o with | some (.bl t) => t == s | _ => false
theorem isBlD_ok {o : Option D} {s : Bool} (h : isBlD o s = true) : o = some (.bl s) := by
  unfold isBlD at h
  split at h
  · rw [beq_iff_eq.mp h]
  · cases h
theorem lot_all : ∀ a b c p r : Bool, (isStrD (R_w_lot_of [.lst ((selK a b c p r).map .str)]) (sayT (selL (a != r) (b != r) (c != r) (p != r)) r) && decide ((sayT (selL (a != r) (b != r) (c != r) (p != r)) r).length ≤ 100) && isBlD (dNe (.lst ((selK a b c p r).map .str)) (.lst [])) (a || b || c || p || r)) = true := by decide +kernel
def goneS (v : Vc) (a : Option Nat) : List Str := KK.filter fun n => decide (fk v n = (false, a))
def gB (v : Vc) (a : Option Nat) (n : Str) : Bool := decide (v.1 n = (false, a))
theorem lq_eq (v : Vc) (a : Option Nat) (n : Str) : lq v a n = (gB v a n != rg v a) := by
  unfold lq gB
  cases h : rg v a with
  | true =>
    rw [rg_eq, decide_eq_true_eq] at h
    rw [if_pos rfl, h, Bool.bne_true]
  | false => rw [if_neg Bool.false_ne_true, Bool.bne_false]
theorem goneS_sel (v : Vc) (a : Option Nat) : goneS v a = selK (gB v a "a") (gB v a "b") (gB v a "c") (gB v a "p") (rg v a) := by
  have ha : fk v "a" = v.1 "a" := if_pos (by decide)
  have hb : fk v "b" = v.1 "b" := if_pos (by decide)
  have hc : fk v "c" = v.1 "c" := if_pos (by decide)
  have hp : fk v "p" = v.1 "p" := if_pos (by decide)
  have hx : fk v "x" = v.2 := if_neg (by decide)
  have hz : fk v "zz" = v.2 := if_neg (by decide)
  unfold goneS KK
  rw [List.filter_cons, List.filter_cons, List.filter_cons, List.filter_cons, List.filter_cons, List.filter_cons, List.filter_nil, ha, hb, hc, hp, hx, hz]
  show (if gB v a "a" = true then _ :: (if gB v a "b" = true then _ :: (if gB v a "c" = true then _ :: (if gB v a "p" = true then _ else _) else (if gB v a "p" = true then _ else _)) else (if gB v a "c" = true then _ :: (if gB v a "p" = true then _ else _) else (if gB v a "p" = true then _ else _))) else (if gB v a "b" = true then _ :: (if gB v a "c" = true then _ :: (if gB v a "p" = true then _ else _) else (if gB v a "p" = true then _ else _)) else (if gB v a "c" = true then _ :: (if gB v a "p" = true then _ else _) else (if gB v a "p" = true then _ else _)))) = _
  rw [rg_eq]
  generalize gB v a "a" = x1
  generalize gB v a "b" = x2
  generalize gB v a "c" = x3
  generalize gB v a "p" = x4
  generalize decide (v.2 = (false, a)) = x5
  cases x1 <;> cases x2 <;> cases x3 <;> cases x4 <;> cases x5 <;> rfl
theorem lbl_sel (v : Vc) (a : Option Nat) : LBL.filter (lq v a) = selL (gB v a "a" != rg v a) (gB v a "b" != rg v a) (gB v a "c" != rg v a) (gB v a "p" != rg v a) := by
  unfold LBL
  rw [List.filter_cons, List.filter_cons, List.filter_cons, List.filter_cons, List.filter_nil, lq_eq, lq_eq, lq_eq, lq_eq]
  generalize (gB v a "a" != rg v a) = x1
  generalize (gB v a "b" != rg v a) = x2
  generalize (gB v a "c" != rg v a) = x3
  generalize (gB v a "p" != rg v a) = x4
  cases x1 <;> cases x2 <;> cases x3 <;> cases x4 <;> rfl
def lotT (v : Vc) (a : Option Nat) : Str := sayT (LBL.filter (lq v a)) (rg v a)
theorem gone_any (v : Vc) (a : Option Nat) : (gB v a "a" || gB v a "b" || gB v a "c" || gB v a "p" || rg v a) = decide (a ∈ goneR v) := by
  rw [Bool.eq_iff_iff, decide_eq_true_eq]
  have hL : ∀ n : Str, n ∈ LBL ↔ n = "a" ∨ n = "b" ∨ n = "c" ∨ n = "p" := fun n => by unfold LBL; simp only [List.mem_cons, List.not_mem_nil, or_false]
  constructor
  · intro h
    have hb : ∀ n ∈ LBL, gB v a n = true → a ∈ goneR v := fun n hn hg => by
      have e := of_decide_eq_true hg
      have := gone_mem (v := v) (f := v.1 n) (.inr ⟨n, hn, rfl⟩) (by rw [e])
      rw [e] at this
      exact this
    simp only [Bool.or_eq_true] at h
    rcases h with (((h | h) | h) | h) | h
    · exact hb _ (by decide) h
    · exact hb _ (by decide) h
    · exact hb _ (by decide) h
    · exact hb _ (by decide) h
    · rw [rg_eq, decide_eq_true_eq] at h
      have := gone_mem (v := v) (f := v.2) (.inl rfl) (by rw [h])
      rw [h] at this
      exact this
  · intro h
    obtain ⟨f, hf, h1, h2⟩ := mem_gone h
    have ef : f = (false, a) := Prod.ext h1 h2
    simp only [Bool.or_eq_true]
    rcases hf with e | ⟨n, hn, e⟩
    · right
      rw [rg_eq, decide_eq_true_eq, ← e, ef]
    · left
      have hg : gB v a n = true := decide_eq_true (by rw [← e, ef])
      rcases (hL n).mp hn with rfl | rfl | rfl | rfl
      · exact .inl (.inl (.inl hg))
      · exact .inl (.inl (.inr hg))
      · exact .inl (.inr hg)
      · exact .inr hg
theorem lot_facts (v : Vc) (a : Option Nat) : R_w_lot_of [.lst ((goneS v a).map .str)] = some (.str (lotT v a)) ∧ (lotT v a).length ≤ 100 ∧ dNe (.lst ((goneS v a).map .str)) (.lst []) = some (.bl (decide (a ∈ goneR v))) := by
  have := lot_all (gB v a "a") (gB v a "b") (gB v a "c") (gB v a "p") (rg v a)
  rw [Bool.and_eq_true, Bool.and_eq_true, decide_eq_true_eq] at this
  obtain ⟨⟨h1, h2⟩, h3⟩ := this
  rw [← goneS_sel, ← lbl_sel] at h1
  rw [← lbl_sel] at h2
  rw [← goneS_sel, gone_any] at h3
  exact ⟨isStrD_ok h1, h2, isBlD_ok h3⟩
def goneK (v : Vc) : List Str := KK.filter fun n => !(fk v n).1
theorem goneK_S (v : Vc) (a : Option Nat) : (goneK v).filter (fun n => decide ((fk v n).2 = a)) = goneS v a := by
  unfold goneK goneS
  rw [List.filter_filter]
  refine List.filter_congr fun n _ => ?_
  generalize fk v n = f
  obtain ⟨x, y⟩ := f
  cases x
  · show (decide (y = a) && true) = decide ((false, y) = (false, a))
    rw [Bool.and_true, decide_eq_decide]
    exact ⟨fun z => by rw [z], fun z => (Prod.mk.inj z).2⟩
  · show (decide (y = a) && false) = decide ((true, y) = (false, a))
    rw [Bool.and_false, eq_comm, decide_eq_false_iff_not]
    exact fun z => by cases (Prod.mk.inj z).1
theorem cut_facts : ((List.range 4).all fun k => isStrD (b_str [.int ((k + 1 : Nat) : Int)]) (toString ((k + 1 : Nat) : Int)) && isStrD (dAdd (.str "cut ") (.str (toString ((k + 1 : Nat) : Int)))) (cutT k)) = true := by decide +kernel
theorem cut_text {k : Nat} (h : k ≤ 3) : b_str [.int ((k + 1 : Nat) : Int)] = some (.str (toString ((k + 1 : Nat) : Int))) ∧ dAdd (.str "cut ") (.str (toString ((k + 1 : Nat) : Int))) = some (.str (cutT k)) := by
  have := List.all_eq_true.mp cut_facts k (List.mem_range.mpr (Nat.lt_succ_of_le h))
  rw [Bool.and_eq_true] at this
  exact ⟨isStrD_ok this.1, isStrD_ok this.2⟩
/-! the numbers, each once -/
def fresh (P : List Int) : List Int → List Int
  | [] => []
  | x :: Q => (if (decide (0 < x) && !decide (x ∈ P)) = true then [x] else []) ++ fresh (P ++ [x]) Q
theorem fresh_mem : ∀ (Q P : List Int) (x : Int), x ∈ fresh P Q ↔ x ∈ Q ∧ 0 < x ∧ x ∉ P
  | [], P, x => by simp [fresh]
  | y :: Q, P, x => by
    unfold fresh
    rw [List.mem_append, fresh_mem Q (P ++ [y]) x, List.mem_append, List.mem_singleton, List.mem_cons]
    by_cases h : (decide (0 < y) && !decide (y ∈ P)) = true
    · rw [if_pos h, List.mem_singleton]
      simp at h
      constructor
      · rintro (rfl | ⟨a, b, c⟩)
        · exact ⟨.inl rfl, h.1, h.2⟩
        · exact ⟨.inr a, b, fun z => c (.inl z)⟩
      · rintro ⟨a, b, c⟩
        by_cases e : x = y
        · exact .inl e
        · exact .inr ⟨a.resolve_left e, b, fun z => z.elim c e⟩
    · rw [if_neg h]
      constructor
      · rintro (a | ⟨a, b, c⟩)
        · cases a
        · exact ⟨.inr a, b, fun z => c (.inl z)⟩
      · rintro ⟨a, b, c⟩
        have e : x ≠ y := fun e => h (by rw [← e, decide_eq_true b, decide_eq_false c]; rfl)
        exact .inr ⟨a.resolve_left e, b, fun z => z.elim c e⟩
theorem fresh_pw : ∀ (Q P : List Int), Q.Pairwise (fun a b => b ≤ a) → (fresh P Q).Pairwise (fun a b => b < a)
  | [], P, _ => .nil
  | y :: Q, P, h => by
    obtain ⟨h1, h2⟩ := List.pairwise_cons.mp h
    unfold fresh
    rw [List.pairwise_append]
    refine ⟨by split <;> simp, fresh_pw Q (P ++ [y]) h2, fun a ha b hb => ?_⟩
    have ea : a = y := by
      split at ha
      · exact List.mem_singleton.mp ha
      · cases ha
    obtain ⟨b1, _, b2⟩ := (fresh_mem Q (P ++ [y]) b).mp hb
    have := h1 b b1
    have : b ≠ y := fun e => b2 (List.mem_append_right _ (List.mem_singleton.mpr e))
    omega
theorem strict_one : ∀ {l m : List Int}, l.Pairwise (fun a b => b < a) → m.Pairwise (fun a b => b < a) → (∀ x, x ∈ l ↔ x ∈ m) → l = m
  | [], [], _, _, _ => rfl
  | [], b :: m, _, _, h => by cases (h b).mpr List.mem_cons_self
  | a :: l, [], _, _, h => by cases (h a).mp List.mem_cons_self
  | a :: l, b :: m, hl, hm, h => by
    obtain ⟨l1, l2⟩ := List.pairwise_cons.mp hl
    obtain ⟨m1, m2⟩ := List.pairwise_cons.mp hm
    have e : a = b := by
      rcases List.mem_cons.mp ((h a).mp List.mem_cons_self) with e | e
      · exact e
      · rcases List.mem_cons.mp ((h b).mpr List.mem_cons_self) with f | f
        · exact f.symm
        · have := m1 a e
          have := l1 b f
          omega
    subst e
    rw [strict_one l2 m2 fun x => ?_]
    constructor
    · intro hx
      rcases List.mem_cons.mp ((h x).mp (List.mem_cons_of_mem _ hx)) with e | e
      · have := l1 x hx
        omega
      · exact e
    · intro hx
      rcases List.mem_cons.mp ((h x).mpr (List.mem_cons_of_mem _ hx)) with e | e
      · have := m1 x hx
        omega
      · exact e
def roomI (v : Vc) (n : Str) : Int := match (fk v n).2 with | none => 0 | some k => (k : Int)
def numI (v : Vc) : List Int := (sortI ((goneK v).map (roomI v))).reverse
theorem num_fresh (v : Vc) : fresh [] (numI v) = (fallR v).map fun k : Nat => (k : Int) := by
  refine strict_one (fresh_pw _ _ ?_) ?_ fun x => ?_
  · unfold numI
    rw [List.pairwise_reverse]
    exact sortI_sorted _
  · rw [List.pairwise_map]
    have h1 := fallR_desc v
    have h2 := List.nodup_iff_pairwise_ne.mp (fallR_nd v)
    exact (h1.and h2).imp fun ⟨a, b⟩ => by omega
  · rw [fresh_mem, List.mem_map]
    unfold numI
    rw [List.mem_reverse, (sortI_perm _).mem_iff, List.mem_map]
    have hK : ∀ k : Nat, some k ∈ goneR v ↔ ∃ n ∈ goneK v, (fk v n).2 = some k := fun k => by
      have e1 : decide (some k ∈ goneR v) = !(goneS v (some k)).isEmpty := by
        rw [← gone_any, goneS_sel]
        generalize gB v (some k) "a" = x1
        generalize gB v (some k) "b" = x2
        generalize gB v (some k) "c" = x3
        generalize gB v (some k) "p" = x4
        generalize rg v (some k) = x5
        cases x1 <;> cases x2 <;> cases x3 <;> cases x4 <;> cases x5 <;> rfl
      rw [← decide_eq_true_eq (p := some k ∈ goneR v), e1, ← goneK_S]
      constructor
      · intro h
        cases hq : (goneK v).filter fun n => decide ((fk v n).2 = some k) with
        | nil => rw [hq] at h; cases h
        | cons n l =>
          have : n ∈ (goneK v).filter fun n => decide ((fk v n).2 = some k) := by rw [hq]; exact List.mem_cons_self
          obtain ⟨a, b⟩ := List.mem_filter.mp this
          exact ⟨n, a, of_decide_eq_true b⟩
      · rintro ⟨n, hn, e⟩
        have : n ∈ (goneK v).filter fun n => decide ((fk v n).2 = some k) := List.mem_filter.mpr ⟨hn, decide_eq_true e⟩
        cases hq : (goneK v).filter fun n => decide ((fk v n).2 = some k) with
        | nil => rw [hq] at this; cases this
        | cons n l => rfl
    constructor
    · rintro ⟨⟨n, hn, rfl⟩, h0, _⟩
      unfold roomI at h0 ⊢
      cases hr : (fk v n).2 with
      | none => rw [hr] at h0; exact absurd h0 (by decide)
      | some k =>
        rw [hr] at h0
        refine ⟨k, (fallR_mem v k).mpr ⟨?_, (hK k).mpr ⟨n, hn, hr⟩⟩, rfl⟩
        have h0' : (0 : Int) < (k : Int) := h0
        omega
    · rintro ⟨k, hk, rfl⟩
      obtain ⟨h0, hm⟩ := (fallR_mem v k).mp hk
      obtain ⟨n, hn, e⟩ := (hK k).mp hm
      exact ⟨⟨n, hn, by unfold roomI; rw [e]⟩, by omega, by simp⟩
end DL
/-! _law_plainly, its walk. -/
namespace DL
open PySem PySem.Spec PyProof.Rows L2
theorem q_addO {i : Nat} {f1 f2 : Rho → Option D} {F : SF} {σ : RhoS} {o : Out} {xs ys : List D} (h1 : f1 (peek σ) = some (.lst xs)) (h2 : f2 (peek σ) = some (.lst ys)) (hf : (xs ++ ys).all flatD = true) (hl : (xs ++ ys).length ≤ LIM) (h : F (σ.set i (.ol (xs ++ ys))) = some o) : s_seq (s_addO i f1 f2) F σ = some o := by
  unfold s_seq s_addO
  rw [h1, Option.bind_some, h2, Option.bind_some]
  dsimp only
  rw [if_pos ⟨hf, hl⟩]
  exact h
abbrev stP (v : Vc) (line : D) (x2 t3 d5 w6 f7 s8 n9 w10 : Sl) : RhoS := [.d line, .d (fateD v), x2, t3, .d (.lst ((goneK v).map .str)), d5, w6, f7, s8, n9, w10, .un, .un]
def lcSome : Rho → Option D := x_lc (i_seq (x_var 4)) [11] (g_name 11) (t_val (x_bin dEq (x_bin dSub1 (x_bin dSub1 (x_var 1) (x_var 11)) (x_c (.int 1))) (x_var 7))) (x_var 11)
theorem gK_len (v : Vc) : (goneK v).length ≤ 6 := List.length_filter_le _ _
theorem gK_KK {v : Vc} {n : Str} (h : n ∈ goneK v) : n ∈ KK := (List.mem_filter.mp h).1
theorem lc_some (v : Vc) (line : D) (a : Option Nat) (x2 t3 d5 w6 s8 n9 w10 : Sl) : lcSome (mask (stP v line x2 t3 d5 w6 (.d (dR a)) s8 n9 w10)) = some (.lst ((goneS v a).map .str)) := by
  rw [← goneK_S]
  exact e_lcF (l := goneK v) .str (fun n => decide ((fk v n).2 = a)) .str (fun n => [(11, .str n)]) rfl (fun _ _ => rfl) (fun _ _ => rfl) (fun n hn => e_val (e_bin (d1 := dR (fk v n).2) (d2 := dR a) (e_bin (d1 := pr n (fk v n)) (d2 := .int 1) (e_bin (d1 := fateD v) (d2 := .str n) rfl rfl (fate_look v (gK_KK hn))) rfl rfl) rfl (eq_room _ _))) (fun _ _ _ => rfl) (Nat.le_trans (gK_len v) (by decide))
theorem flat_strs (X : List Str) : (X.map D.str).all flatD = true := by rw [List.all_map, List.all_eq_true]; exact fun _ _ => rfl
theorem add_txt {a b : Str} (h : a.length + b.length ≤ LIM) : dAdd (.str a) (.str b) = some (.str (a ++ b)) := if_pos h
/-! the first loop -/
def bodyP1 : SF := s_seq (s_set (g_name 8) lcSome) (s_seq (s_addO 2 (x_var 2) (x_bin dMulL (x_lst (a_cons (x_bin dAdd (x_var 6) (x_call R_w_lot_of (a_cons (x_var 8) a_nil))) a_nil)) (x_call b_int (a_cons (x_bin dNe (x_var 8) (x_lst a_nil)) a_nil)))) s_nil)
theorem turn1 (v : Vc) (line : D) (a : Option Nat) (w : Str) (hw : w.length ≤ 100) (X : List Str) (hX : X.length ≤ 1000) (x2 t3 d5 s8 n9 w10 : Sl) (h2 : peekS x2 = some (.lst (X.map .str))) :
    bodyP1 (stP v line x2 t3 d5 (.d (.str w)) (.d (dR a)) s8 n9 w10) = some (.nx (stP v line (.ol ((X ++ (if decide (a ∈ goneR v) = true then [w ++ lotT v a] else [])).map .str)) t3 d5 (.d (.str w)) (.d (dR a)) (.d (.lst ((goneS v a).map .str))) n9 w10)) := by
  obtain ⟨h1, hl, h3⟩ := lot_facts v a
  refine q_set (us := [(8, .lst ((goneS v a).map .str))]) (lc_some v line a x2 t3 d5 (.d (.str w)) s8 n9 w10) rfl ?_
  have ey : (x_bin dMulL (x_lst (a_cons (x_bin dAdd (x_var 6) (x_call R_w_lot_of (a_cons (x_var 8) a_nil))) a_nil)) (x_call b_int (a_cons (x_bin dNe (x_var 8) (x_lst a_nil)) a_nil))) (peek (stP v line x2 t3 d5 (.d (.str w)) (.d (dR a)) (.d (.lst ((goneS v a).map .str))) n9 w10)) = some (.lst ((if decide (a ∈ goneR v) = true then [w ++ lotT v a] else []).map .str)) := by
    refine e_bin (d1 := .lst [.str (w ++ lotT v a)]) (d2 := .int (if decide (a ∈ goneR v) = true then 1 else 0)) (e_lst (e_cons (e_bin (d1 := .str w) (d2 := .str (lotT v a)) rfl (e_call (ds := [.lst ((goneS v a).map .str)]) rfl h1) (add_txt (Nat.le_trans (Nat.add_le_add hw hl) (by decide)))) e_nil) (show 1 ≤ LIM by decide)) (e_call (ds := [.bl (decide (a ∈ goneR v))]) (e_cons (e_bin (d1 := .lst ((goneS v a).map .str)) (d2 := .lst []) rfl (e_lst e_nil (Nat.zero_le _)) h3) e_nil) rfl) ?_
    generalize decide (a ∈ goneR v) = b
    cases b <;> rfl
  have hlen : (X.map D.str ++ (if decide (a ∈ goneR v) = true then [w ++ lotT v a] else []).map D.str).length ≤ LIM := by
    have : ((if decide (a ∈ goneR v) = true then [w ++ lotT v a] else []) : List Str).length ≤ 1 := by split <;> simp
    rw [List.length_append, List.length_map, List.length_map]
    exact Nat.le_trans (show _ ≤ 1001 by omega) (by decide)
  refine q_addO (xs := X.map .str) (i := 2) ?_ ey ?_ hlen ?_
  · show peekS x2 = _
    exact h2
  · rw [← List.map_append]; exact flat_strs _
  · rw [← List.map_append]
    rfl
/-! the second loop -/
def bodyP2 : SF := s_seq (s_set (g_name 8) lcSome) (s_seq (s_addO 2 (x_var 2) (x_lst (a_cons (x_bin dAdd (x_c (.str "cut ")) (x_call b_str (a_cons (x_bin dAdd (x_var 7) (x_c (.int 1))) a_nil))) (a_cons (x_bin dAdd (x_c (.str "unwrap ")) (x_call R_w_lot_of (a_cons (x_var 8) a_nil))) a_nil)))) (s_seq (s_set (g_name 3) (x_var 7)) s_nil))
def lastR (t : Option Nat) : List Nat → Option Nat
  | [] => t
  | k :: L => lastR (some k) L
theorem loop2 (v : Vc) (line : D) : ∀ (L : List Nat) (X : List Str) (t : Option Nat) (d5 w6 f7 s8 n9 w10 : Sl), (∀ k ∈ L, k ≤ 3) → X.length + 2 * L.length ≤ 1000 →
    ∃ f7' s8', forGo (g_name 7) bodyP2 (L.map fun k => D.int (k : Nat)) (stP v line (.ol (X.map .str)) (.d (dR t)) d5 w6 f7 s8 n9 w10) = some (.nx (stP v line (.ol ((X ++ L.flatMap fun k => [cutT k, ("unwrap " : Str) ++ lotT v (some k)]).map .str)) (.d (dR (lastR t L))) d5 w6 f7' s8' n9 w10))
  | [], X, t, d5, w6, f7, s8, n9, w10, _, _ => ⟨f7, s8, by rw [List.flatMap_nil, List.append_nil]; rfl⟩
  | k :: L, X, t, d5, w6, f7, s8, n9, w10, h3, hl => by
    rw [List.length_cons] at hl
    obtain ⟨f7', s8', e⟩ := loop2 v line L (X ++ [cutT k, ("unwrap " : Str) ++ lotT v (some k)]) (some k) d5 w6 (.d (dR (some k))) (.d (.lst ((goneS v (some k)).map .str))) n9 w10 (fun j hj => h3 j (List.mem_cons_of_mem _ hj)) (by rw [List.length_append]; show X.length + 2 + 2 * L.length ≤ 1000; omega)
    refine ⟨f7', s8', ?_⟩
    rw [List.flatMap_cons, ← List.append_assoc]
    obtain ⟨h1, hlt, _⟩ := lot_facts v (some k)
    obtain ⟨c1, c2⟩ := cut_text (h3 k List.mem_cons_self)
    refine f_cons (us := [(7, .int (k : Nat))]) rfl (q_set (us := [(8, .lst ((goneS v (some k)).map .str))]) (lc_some v line (some k) (.ol (X.map .str)) (.d (dR t)) d5 w6 s8 n9 w10) rfl (q_addO (xs := X.map .str) (ys := [.str (cutT k), .str (("unwrap " : Str) ++ lotT v (some k))]) rfl ?_ ?_ ?_ (q_set (d := .int (k : Nat)) (us := [(3, .int (k : Nat))]) rfl rfl rfl))) ?_
    · refine e_lst (e_cons (e_bin (d1 := .str "cut ") (d2 := .str (toString ((k + 1 : Nat) : Int))) rfl (e_call (ds := [.int ((k + 1 : Nat) : Int)]) rfl c1) c2) (e_cons (e_bin (d1 := .str "unwrap ") (d2 := .str (lotT v (some k))) rfl (e_call (ds := [.lst ((goneS v (some k)).map .str)]) rfl h1) (add_txt (Nat.le_trans (Nat.add_le_add (show ("unwrap " : Str).length ≤ 100 by decide +kernel) hlt) (by decide)))) e_nil)) (show 2 ≤ LIM by decide)
    · rw [List.all_append, flat_strs]; rfl
    · rw [List.length_append, List.length_map]
      exact Nat.le_trans (show X.length + 2 ≤ 1000 by omega) (by decide)
    · have em : (X.map D.str ++ [.str (cutT k), .str (("unwrap " : Str) ++ lotT v (some k))]) = (X ++ [cutT k, ("unwrap " : Str) ++ lotT v (some k)]).map .str := by rw [List.map_append]; rfl
      rw [← em] at e
      exact e
theorem last_min : ∀ (L : List Nat) (t : Option Nat) (x : Nat), L.Pairwise (fun a b => b ≤ a) → x ∈ L → (∀ y ∈ L, x ≤ y) → lastR t L = some x
  | [], _, _, _, h, _ => by cases h
  | k :: L, t, x, hp, hx, hm => by
    obtain ⟨p1, p2⟩ := List.pairwise_cons.mp hp
    cases L with
    | nil => rw [List.mem_singleton.mp hx]; rfl
    | cons j M =>
      refine last_min (j :: M) (some k) x p2 ?_ fun y hy => hm y (List.mem_cons_of_mem _ hy)
      rcases List.mem_cons.mp hx with e | e
      · have h1 := p1 j List.mem_cons_self
        have h2 := hm j (List.mem_cons_of_mem _ List.mem_cons_self)
        have : j = x := by omega
        rw [this]; exact List.mem_cons_self
      · exact e
theorem last_mem : ∀ (L : List Nat) (x : Nat), lastR none L = some x → x ∈ L := by
  have : ∀ (L : List Nat) (t : Option Nat) (x : Nat), lastR t L = some x → x ∈ L ∨ t = some x := fun L => by
    induction L with
    | nil => exact fun t x h => .inr h
    | cons k L ih =>
      intro t x h
      rcases ih (some k) x h with z | z
      · exact .inl (List.mem_cons_of_mem _ z)
      · exact .inl (by rw [Option.some.inj z]; exact List.mem_cons_self)
  exact fun L x h => (this L none x h).resolve_right fun z => by cases z
/-! the numbers -/
theorem fresh_enum : ∀ (Q P : List Int), ((Q.zipIdx P.length).filter fun p => decide (0 < p.1) && !decide (p.1 ∈ (P ++ Q).take p.2)).map (·.1) = fresh P Q
  | [], P => rfl
  | x :: Q, P => by
    have ih := fresh_enum Q (P ++ [x])
    rw [List.append_assoc, List.length_append] at ih
    rw [List.zipIdx_cons, List.filter_cons]
    have e : (P ++ x :: Q).take P.length = P := by rw [List.take_append_of_le_length (Nat.le_refl _), List.take_length]
    unfold fresh
    dsimp only
    rw [e, ← ih]
    split <;> rfl
theorem notIn_int (x : Int) (L : List Int) : dNotIn (.int x) (.lst (L.map .int)) = some (.bl (!decide (x ∈ L))) := by
  have e : inD (.int x) (L.map .int) = decide (x ∈ L) := by
    unfold inD
    rw [List.any_map, Bool.eq_iff_iff, List.any_eq_true, decide_eq_true_eq]
    constructor
    · rintro ⟨m, hm, h⟩
      have h' : (m == x) = true := h
      rw [← beq_iff_eq.mp h']; exact hm
    · intro h
      exact ⟨x, h, by show (x == x) = true; exact beq_self_eq_true x⟩
  unfold dNotIn
  show (if (flatD (.int x) && (L.map D.int).all flatD) = true then _ else _) = _
  rw [if_pos (by rw [show flatD (.int x) = true from rfl, Bool.true_and, List.all_map, List.all_eq_true]; exact fun _ _ => rfl), e]
theorem notIn_str (x : Str) (L : List Str) : dNotIn (.str x) (.lst (L.map .str)) = some (.bl (!decide (x ∈ L))) := by
  have e : inD (.str x) (L.map .str) = decide (x ∈ L) := by
    unfold inD
    rw [List.any_map, Bool.eq_iff_iff, List.any_eq_true, decide_eq_true_eq]
    constructor
    · rintro ⟨m, hm, h⟩
      have h' : (m == x) = true := h
      rw [← beq_iff_eq.mp h']; exact hm
    · intro h
      exact ⟨x, h, by show (x == x) = true; exact beq_self_eq_true x⟩
  unfold dNotIn
  show (if (flatD (.str x) && (L.map D.str).all flatD) = true then _ else _) = _
  rw [if_pos (by rw [show flatD (.str x) = true from rfl, Bool.true_and, flat_strs]), e]
theorem ne_room (a b : Option Nat) : dNe (dR a) (dR b) = some (.bl (!decide (a = b))) := by
  have h := eq_room a b
  cases a <;> cases b
  · rfl
  · rfl
  · rfl
  · rename_i u w
    show some (D.bl (!((u : Int) == (w : Int)))) = some (D.bl (!decide (some u = some w)))
    have h' : some (D.bl ((u : Int) == (w : Int))) = some (.bl (decide (some u = some w))) := h
    rw [D.bl.inj (Option.some.inj h')]
theorem ints_of : ∀ l : List Int, intsOf (l.map .int) = some l
  | [] => rfl
  | a :: l => by
    show (intsOf (l.map .int)).bind (fun xs => some (a :: xs)) = _
    rw [ints_of l]
    rfl
theorem sorted_ints (l : List Int) (h : l.length < 64) : b_sorted [.lst (l.map .int)] = some (.lst ((sortI l).map .int)) := by
  cases l with
  | nil => rfl
  | cons a l =>
    have es : strsOf ((a :: l).map D.int) = none := rfl
    unfold b_sorted
    dsimp only
    rw [es]
    dsimp only
    rw [ints_of, Option.bind_some, if_pos h]
/-! a list of texts is empty, or not -/
theorem lay_strs : ∀ X : List Str, (∀ s ∈ X, okS s) → PyData.canLayAll0 (pys (X.map .str)) = true ∧ PyData.depthAll (pys (X.map .str)) = 0
  | [], _ => ⟨rfl, rfl⟩
  | s :: X, h => by
    obtain ⟨a, b⟩ := lay_strs X fun t ht => h t (List.mem_cons_of_mem _ ht)
    have hs : PyData.strOk s = true := h s List.mem_cons_self
    exact ⟨by show (PyData.strOk s && PyData.canLayAll0 (pys (X.map .str))) = true; rw [hs, a]; rfl, by show max 0 (PyData.depthAll (pys (X.map .str))) = 0; rw [b]; rfl⟩
theorem ne_nil (X : List Str) (h : ∀ s ∈ X, okS s) : dNe (.lst (X.map .str)) (.lst []) = some (.bl (!X.isEmpty)) := by
  obtain ⟨a, b⟩ := lay_strs X h
  have hs : SeqAt.shaped (py (.lst (X.map .str))) = true := by
    unfold SeqAt.shaped
    show (PyData.canLayAll0 (pys (X.map .str)) && decide (PyData.depthAll (pys (X.map .str)) + 1 ≤ 64)) = true
    rw [a, b]
    rfl
  unfold dNe
  have hz : SeqAt.shaped (py (.lst [])) = true := rfl
  rw [hs, hz, Bool.and_self, if_pos rfl]
  cases X <;> rfl
theorem ren_txt : isStrD ((dJoin (.str " ") (.lst [])).bind fun d => dAdd (.str "rename ") d) "rename " = true := by decide +kernel
end DL
/-! _law_plainly says the text of the form. -/
namespace DL
open PySem PySem.Spec PyProof.Rows L2
theorem gone_iff (v : Vc) {n : Str} (hn : n ∈ KK) : decide (n ∈ goneK v) = !(fk v n).1 := by
  unfold goneK
  rw [Bool.eq_iff_iff, decide_eq_true_eq, List.mem_filter]
  exact ⟨fun z => z.2, fun z => ⟨hn, z⟩⟩
theorem alive_room {v : Vc} (I : Inv v) {n : Str} (ha : (fk v n).1 = true) : (fk v n).2 = hgt (canT v) v.2 := by
  obtain ⟨h, Hh, _⟩ := I.ex
  unfold fk at ha ⊢
  by_cases e : n ∈ LBL
  · rw [if_pos e] at ha ⊢
    rw [hgt_can Hh e ha]
    exact Hh.1 n e ha
  · rw [if_neg e] at ha ⊢
    unfold hgt
    rw [if_pos ha]
theorem deep_ok {v : Vc} (I : Inv v) (hg : allG v = false) : ∃ ds, (KK.filter fun n => !decide (n ∈ goneK v)).map (fun n => dR (fk v n).2) = dR (hgt (canT v) v.2) :: ds := by
  cases hq : KK.filter fun n => !decide (n ∈ goneK v) with
  | nil =>
    exfalso
    have : (KK.all fun n => !(fk v n).1) = true := by
      rw [List.all_eq_true]
      intro n hn
      have h1 := List.filter_eq_nil_iff.mp hq n hn
      rw [gone_iff v hn] at h1
      simpa using h1
    rw [all_KK, hg] at this
    cases this
  | cons n l =>
    have hn : n ∈ KK.filter fun n => !decide (n ∈ goneK v) := by rw [hq]; exact List.mem_cons_self
    obtain ⟨h1, h2⟩ := List.mem_filter.mp hn
    rw [gone_iff v h1, Bool.not_not] at h2
    exact ⟨l.map fun n => dR (fk v n).2, by rw [List.map_cons, alive_room I h2]⟩
theorem gone_len6 (v : Vc) : ((goneK v).length = 6) ↔ allG v = true := by
  rw [← all_KK]
  unfold goneK
  constructor
  · intro h
    have : KK.filter (fun n => !(fk v n).1) = KK := List.filter_sublist.eq_of_length h
    rw [List.all_eq_true]
    intro n hn
    rw [← this] at hn
    exact (List.mem_filter.mp hn).2
  · intro h
    rw [List.filter_eq_self.mpr (List.all_eq_true.mp h)]
    rfl
def cutB (v : Vc) (h : Option Nat) : Bool := match h with | none => false | some x => !decide (some x = lastR none (fallR v))
theorem cutB_ok {v : Vc} (I : Inv v) (hg : allG v = false) (x : Nat) (hx : hgt (canT v) v.2 = some x) : (!decide (some x = lastR none (fallR v))) = (decide (x = 0) || !decide (some x ∈ goneR v)) := by
  have e : (some x = lastR none (fallR v)) ↔ (x ≠ 0 ∧ some x ∈ goneR v) := by
    constructor
    · intro h
      obtain ⟨a, b⟩ := (fallR_mem v x).mp (last_mem _ _ h.symm)
      exact ⟨by omega, b⟩
    · rintro ⟨a, b⟩
      refine (last_min (fallR v) none x (fallR_desc v) ((fallR_mem v x).mpr ⟨by omega, b⟩) fun y hy => ?_).symm
      obtain ⟨y0, hy'⟩ := (fallR_mem v y).mp hy
      obtain ⟨f, hf, f1, f2⟩ := mem_gone hy'
      obtain ⟨h, Hh, pos⟩ := I.ex
      obtain ⟨z, hz, hle⟩ := pos f hf f1 y f2 y0
      obtain ⟨n, hn, ha⟩ : ∃ n ∈ KK, (fk v n).1 = true := by
        have : ¬ (KK.all fun n => !(fk v n).1) = true := by rw [all_KK, hg]; exact Bool.false_ne_true
        rw [List.all_eq_true] at this
        have := Classical.not_forall.mp this
        obtain ⟨n, hn⟩ := this
        rw [Classical.not_imp] at hn
        exact ⟨n, hn.1, by simpa using hn.2⟩
      have e1 := alive_room I ha
      have e2 : (fk v n).2 = h := by
        unfold fk at ha ⊢
        by_cases e : n ∈ LBL
        · rw [if_pos e] at ha ⊢; exact Hh.1 n e ha
        · rw [if_neg e] at ha ⊢; exact Hh.2 ha
      rw [e1, hx, hz] at e2
      have := Option.some.inj e2
      omega
  rw [decide_eq_decide.mpr e]
  by_cases q : x = 0
  · rw [decide_eq_true q, Bool.true_or, decide_eq_false (fun z => z.1 q)]; rfl
  · rw [decide_eq_false q, Bool.false_or]
    congr 1
    rw [decide_eq_decide]
    exact ⟨fun z => z.2, fun z => ⟨q, z⟩⟩
def partsB (v : Vc) : List Str := (if decide (some 0 ∈ goneR v) = true then [("drop " : Str) ++ lotT v (some 0)] else []) ++ (if decide (none ∈ goneR v) = true then [("unwrap " : Str) ++ lotT v none] else []) ++ (fallR v).flatMap (fun k => [cutT k, ("unwrap " : Str) ++ lotT v (some k)])
def cutX (h t : Option Nat) : List Str := match h with | none => [] | some x => if (!decide (some x = t)) = true then [cutT x] else []
theorem parts_eq {v : Vc} (I : Inv v) (hg : allG v = false) : (plainN v (hgt (canT v) v.2)).map pT = partsB v ++ cutX (hgt (canT v) v.2) (lastR none (fallR v)) := by
  unfold plainN partsB
  rw [List.map_append, List.map_append, List.map_append]
  congr 1
  · congr 1
    · congr 1
      · split <;> rfl
      · split <;> rfl
    · rw [List.map_flatMap]
      rfl
  · unfold cutC cutX
    cases h : hgt (canT v) v.2 with
    | none => rfl
    | some x =>
      dsimp only
      rw [cutB_ok I hg x h]
      split <;> rfl
theorem falls_le {v : Vc} (L : Low v) : ∀ k ∈ fallR v, k ≤ 3 := fun k hk => by
  obtain ⟨f, hf, _, h⟩ := mem_gone ((fallR_mem v k).mp hk).2
  exact L f hf k h
theorem falls_len (v : Vc) : (fallR v).length ≤ 5 := by
  have lg := gone_len v
  unfold fallR fallI
  rw [List.length_map, List.length_reverse, (sortI_perm _).length_eq]
  have h1 := nubG_len ((posR v).map fun k : Nat => (k : Int))
  have h2 : (posR v).length ≤ (goneR v).length := List.length_filterMap_le _ _
  rw [List.length_map] at h1
  omega
theorem partsB_len (v : Vc) : (partsB v).length ≤ 12 := by
  have hf : ((fallR v).flatMap fun k => [cutT k, ("unwrap " : Str) ++ lotT v (some k)]).length ≤ 10 := by
    have : ∀ L : List Nat, (L.flatMap fun k => [cutT k, ("unwrap " : Str) ++ lotT v (some k)]).length = 2 * L.length := fun L => by
      induction L with
      | nil => rfl
      | cons k L ih => rw [List.flatMap_cons, List.length_append, ih]; simp; omega
    rw [this]
    have := falls_len v
    omega
  unfold partsB
  rw [List.length_append, List.length_append]
  split <;> split <;> simp only [List.length_cons, List.length_nil] <;> omega
end DL
/-! _law_plainly, joined. -/
namespace DL
open PySem PySem.Spec PyProof.Rows L2
def outT (X : List Str) : Str := if X.isEmpty = true then "-" else Txt.join "; " X
theorem join_sum (X : List Str) (h : ∀ s ∈ X, s.length ≤ 100) : (X.map (·.length)).sum ≤ 100 * X.length := by
  induction X with
  | nil => exact Nat.zero_le _
  | cons s X ih =>
    have h1 := h s List.mem_cons_self
    have h2 := ih fun t ht => h t (List.mem_cons_of_mem _ ht)
    rw [List.map_cons, List.sum_cons, List.length_cons]
    omega
theorem q_ext_nil {F : SF} {σ : RhoS} {o : Out} {f1 f2 : Rho → Option D} {xs : List D} (h1 : f1 (peek σ) = some (.lst xs)) (h2 : f2 (peek σ) = some (.lst [])) (hf : xs.all flatD = true) (hl : xs.length ≤ LIM) (h : F (σ.set 2 (.ol xs)) = some o) : s_seq (s_addO 2 f1 f2) F σ = some o :=
  q_addO (ys := []) h1 h2 (by rw [List.append_nil]; exact hf) (by rw [List.append_nil]; exact hl) (by rw [List.append_nil]; exact h)
def tailP : SF := s_seq (s_ret (x_if (t_val (x_bin dNe (x_var 2) (x_lst a_nil))) (x_bin dJoin (x_c (.str "; ")) (x_var 2)) (x_c (.str "-")))) s_nil
theorem tail_ok (v : Vc) (line : D) (X : List Str) (hX : X.length ≤ 900) (hs : ∀ s ∈ X, okS s ∧ s.length ≤ 100) (t3 d5 w6 f7 s8 n9 w10 : Sl) :
    tailP (stP v line (.ol (X.map .str)) t3 d5 w6 f7 s8 n9 w10) = some (.rt (.str (outT X))) := by
  unfold outT
  refine q_ret (e_if (b := !X.isEmpty) (e_val (e_bin (d1 := .lst (X.map .str)) (d2 := .lst []) rfl (e_lst e_nil (Nat.zero_le _)) (ne_nil X fun s h => (hs s h).1))) (fun h => ?_) fun h => ?_)
  · rw [Bool.not_eq_true'] at h
    rw [if_neg (by rw [h]; exact Bool.false_ne_true)]
    refine e_bin (d1 := .str "; ") (d2 := .lst (X.map .str)) rfl rfl ?_
    show ((strsOf (X.map .str)).bind fun ys => if (ys.map (·.length)).sum + ys.length * ("; " : Str).length ≤ LIM then some (D.str (Txt.join "; " ys)) else none) = _
    rw [strs_map, Option.bind_some]
    refine if_pos ?_
    have h1 := join_sum X fun s h => (hs s h).2
    have h2 : ("; " : Str).length = 2 := by decide +kernel
    rw [h2]
    exact Nat.le_trans (show _ ≤ 100000 by omega) (by decide)
  · rw [Bool.not_eq_false'] at h
    rw [if_pos h]
    rfl
def renP : SF := s_seq (s_set (g_name 10) (x_lc (i_dic 1 false) [11] (g_name 11) (t_and (t_val (x_bin dNotIn (x_var 11) (x_var 4))) (t_val (x_bin dNe (x_bin dSub1 (x_bin dSub1 (x_var 1) (x_var 11)) (x_c (.int 0))) (x_var 11)))) (x_var 11)))
          (s_seq (s_set (g_name 10) (x_lc (i_seq (x_var 10)) [11] (g_name 11) t_yes (x_bin dAdd (x_bin dAdd (x_var 11) (x_c (.str "="))) (x_bin dSub1 (x_bin dSub1 (x_var 1) (x_var 11)) (x_c (.int 0))))))
          (s_seq (s_addO 2 (x_var 2) (x_bin dMulL (x_lst (a_cons (x_bin dAdd (x_c (.str "rename ")) (x_bin dJoin (x_c (.str " ")) (x_call b_sorted (a_cons (x_lc (i_seq (x_var 10)) [11] (g_name 11) t_yes (x_call b_str (a_cons (x_var 11) a_nil))) a_nil)))) a_nil)) (x_call b_int (a_cons (x_bin dNe (x_var 10) (x_lst a_nil)) a_nil))))
          tailP))
theorem ren_ok (v : Vc) (line : D) (X : List Str) (hX : X.length ≤ 900) (hs : ∀ s ∈ X, okS s ∧ s.length ≤ 100) (x2 t3 d5 w6 f7 s8 n9 w10 : Sl) (h2 : peekS x2 = some (.lst (X.map .str))) :
    renP (stP v line x2 t3 d5 w6 f7 s8 n9 w10) = some (.rt (.str (outT X))) := by
  have e1 : (x_lc (i_dic 1 false) [11] (g_name 11) (t_and (t_val (x_bin dNotIn (x_var 11) (x_var 4))) (t_val (x_bin dNe (x_bin dSub1 (x_bin dSub1 (x_var 1) (x_var 11)) (x_c (.int 0))) (x_var 11)))) (x_var 11)) (mask (stP v line x2 t3 d5 w6 f7 s8 n9 w10)) = some (.lst []) := by
    have el := e_lcF (ρ := mask (stP v line x2 t3 d5 w6 f7 s8 n9 w10)) (it := i_dic 1 false) (own := [11]) (g := g_name 11) (t := t_and (t_val (x_bin dNotIn (x_var 11) (x_var 4))) (t_val (x_bin dNe (x_bin dSub1 (x_bin dSub1 (x_var 1) (x_var 11)) (x_c (.int 0))) (x_var 11)))) (f := x_var 11) (l := KK) .str (fun _ => false) .str (fun n => [(11, .str n)]) rfl (fun _ _ => rfl) (fun _ _ => rfl) (fun n hn => ?_) (fun _ _ z => by cases z) (Nat.le_of_lt KK_lim)
    · rw [show (KK.filter fun _ => false) = [] from List.filter_eq_nil_iff.mpr fun _ _ => Bool.false_ne_true] at el
      exact el
    · have hi := notIn_str n (goneK v)
      rw [gone_iff v hn, Bool.not_not] at hi
      cases ha : (fk v n).1 with
      | true =>
        rw [ha] at hi
        have hn' := ne_fin (n, fk v n) (ok_KK n hn) ha
        exact e_and (a := true) (b := false) (e_val (e_bin (d1 := .str n) (d2 := .lst ((goneK v).map .str)) rfl rfl hi)) fun _ => e_val (e_bin (d1 := fin n (fk v n).1) (d2 := .str n) (e_bin (d1 := pr n (fk v n)) (d2 := .int 0) (e_bin (d1 := fateD v) (d2 := .str n) rfl rfl (fate_look v hn)) rfl rfl) rfl hn')
      | false =>
        rw [ha] at hi
        exact e_and (a := false) (b := false) (e_val (e_bin (d1 := .str n) (d2 := .lst ((goneK v).map .str)) rfl rfl hi)) fun z => by cases z
  refine q_set (us := [(10, .lst [])]) e1 rfl (q_set (d := .lst []) (us := [(10, .lst [])]) rfl rfl (q_ext_nil (xs := X.map .str) ?_ ?_ (flat_strs X) (by rw [List.length_map]; exact Nat.le_trans hX (by decide)) (tail_ok v line X hX hs t3 d5 w6 f7 s8 n9 (.d (.lst [])))))
  · show peekS x2 = _
    exact h2
  · have er := isStrD_ok ren_txt
    refine e_bin (d1 := .lst [.str "rename "]) (d2 := .int 0) (e_lst (e_cons (e_bin (d1 := .str "rename ") (d2 := .str (Txt.join " " [])) rfl (e_bin (d1 := .str " ") (d2 := .lst []) rfl rfl rfl) ?_) e_nil) (show 1 ≤ LIM by decide)) (e_call (ds := [.bl false]) rfl rfl) rfl
    exact er
def dropP : SF := s_seq (s_if (t_and (t_val (x_bin dIsNot' (x_var 5) (x_c .non))) (t_val (x_bin dNe (x_var 5) (x_var 3)))) (s_seq (s_app 2 (x_bin dAdd (x_c (.str "cut ")) (x_call b_str (a_cons (x_bin dAdd (x_var 5) (x_c (.int 1))) a_nil)))) s_nil) s_nil) renP
theorem drop_ok (v : Vc) (line : D) (X : List Str) (hX : X.length ≤ 800) (h t : Option Nat) (hh : ∀ k, h = some k → k ≤ 3)
    (hs : ∀ s ∈ X ++ cutX h t, okS s ∧ s.length ≤ 100) (w6 f7 s8 n9 w10 : Sl) :
    dropP (stP v line (.ol (X.map .str)) (.d (dR t)) (.d (dR h)) w6 f7 s8 n9 w10) = some (.rt (.str (outT (X ++ cutX h t)))) := by
  unfold cutX at hs ⊢
  cases h with
  | none =>
    dsimp only at hs ⊢
    rw [List.append_nil] at hs ⊢
    exact q_ifF (e_and (a := false) (b := false) rfl fun z => by cases z) (ren_ok v line X (by omega) hs (.ol (X.map .str)) (.d (dR t)) (.d (dR none)) w6 f7 s8 n9 w10 rfl)
  | some x =>
    dsimp only at hs ⊢
    have tst : (t_and (t_val (x_bin dIsNot' (x_var 5) (x_c .non))) (t_val (x_bin dNe (x_var 5) (x_var 3)))) (peek (stP v line (.ol (X.map .str)) (.d (dR t)) (.d (dR (some x))) w6 f7 s8 n9 w10)) = some (!decide (some x = t)) :=
      (e_and (a := true) (b := !decide (some x = t)) rfl fun _ => e_val (e_bin (d1 := dR (some x)) (d2 := dR t) rfl rfl (ne_room _ _))).trans (by rw [Bool.true_and])
    obtain ⟨c1, c2⟩ := cut_text (hh x rfl)
    by_cases hb : (!decide (some x = t)) = true
    · rw [hb] at tst
      rw [if_pos hb] at hs ⊢
      have em : X.map D.str ++ [.str (cutT x)] = (X ++ [cutT x]).map .str := by rw [List.map_append]; rfl
      refine q_ifN (σ' := stP v line (.ol ((X ++ [cutT x]).map .str)) (.d (dR t)) (.d (dR (some x))) w6 f7 s8 n9 w10) tst (fun _ => q_app (xs := X.map .str) (d := .str (cutT x)) rfl (e_bin (d1 := .str "cut ") (d2 := .str (toString ((x + 1 : Nat) : Int))) rfl (e_call (ds := [.int ((x + 1 : Nat) : Int)]) rfl c1) c2) (by rw [List.length_map]; exact Nat.lt_of_le_of_lt hX (by decide)) ?_) (fun z => by cases z) (ren_ok v line (X ++ [cutT x]) (by rw [List.length_append]; show X.length + 1 ≤ 900; omega) hs _ _ _ _ _ _ _ _ rfl)
      rw [em]
      rfl
    · rw [Bool.eq_false_iff.mpr hb] at tst
      rw [if_neg hb, List.append_nil] at hs ⊢
      exact q_ifF tst (ren_ok v line X (by omega) hs (.ol (X.map .str)) (.d (dR t)) (.d (dR (some x))) w6 f7 s8 n9 w10 rfl)
end DL
/-! _law_plainly says the text of the form. -/
namespace DL
open PySem PySem.Spec PyProof.Rows L2
theorem one_txt (s : Str) : Txt.join "; " [s] = s := rfl
theorem text_out {v : Vc} (hg : allG v = false) : textV v = outT ((plainN v (hgt (canT v) v.2)).map pT) := by
  unfold textV partsV outT
  rw [if_neg (show ¬ allG v = true by rw [hg]; exact Bool.false_ne_true)]
  cases plainN v (hgt (canT v) v.2) with
  | nil => rfl
  | cons s P => rfl
theorem eq_int (a b : Int) : dEq (.int a) (.int b) = some (.bl (a == b)) := rfl
theorem m_plainly (ss : List Sdi) (hl : ss.length ≤ LIM) (hk : ∀ s ∈ ss, okSd s) : R_w_plainly [lineD ss] = some (.str (textV (runV ss))) := by
  have I := inv_run ss
  have L := low_run ss hk
  have hf := m_fates ss hl
  generalize runV ss = v at I L hf ⊢
  generalize lineD ss = line at hf ⊢
  refine run_rt ?_
  refine q_set (d := .tup [fateD v, .lst [], .non]) (us := [(1, fateD v), (2, .lst []), (3, .non)]) (e_tup (e_cons (e_call (ds := [line]) rfl hf) (e_cons (e_lst e_nil (Nat.zero_le _)) (e_cons rfl e_nil))) (show 3 ≤ LIM by decide)) rfl ?_
  refine q_set (d := .lst ((goneK v).map .str)) (us := [(4, .lst ((goneK v).map .str))]) ?_ rfl ?_
  · exact e_lcF (l := KK) .str (fun n => !(fk v n).1) .str (fun n => [(11, .str n)]) rfl (fun _ _ => rfl) (fun _ _ => rfl) (fun n hn => e_val (e_bin (d1 := fin n (fk v n).1) (e_bin (d1 := pr n (fk v n)) (d2 := .int 0) (e_bin (d1 := fateD v) (d2 := .str n) rfl rfl (fate_look v hn)) rfl rfl) rfl (dIsN_fin _ _))) (fun _ _ _ => rfl) (Nat.le_of_lt KK_lim)
  show _ = some (Out.rt (.str (textV v)))
  have tst : (t_val (x_bin dEq (x_call b_len (a_cons (x_var 4) a_nil)) (x_un dLenDic (x_var 1)))) (peek (stP v line (.d (.lst [])) (.d .non) .un .un .un .un .un .un)) = some (allG v) := by
    refine (e_val (e_bin (d1 := .int (((goneK v).map D.str).length : Nat)) (d2 := .int 6) (e_call (ds := [.lst ((goneK v).map .str)]) rfl rfl) (e_un (d := fateD v) rfl rfl) (eq_int _ _))).trans ?_
    rw [List.length_map]
    refine congrArg some (Bool.eq_iff_iff.mpr ((beq_iff_eq).trans ((?_ : _ ↔ (goneK v).length = 6).trans (gone_len6 v))))
    omega
  cases hg : allG v with
  | true =>
    rw [hg] at tst
    refine q_ifT tst (q_ret ?_)
    unfold textV partsV
    rw [if_pos hg, one_txt]
    rfl
  | false =>
    rw [hg] at tst
    refine q_ifF tst ?_
    obtain ⟨ds, hd⟩ := deep_ok I hg
    refine q_set (d := dR (hgt (canT v) v.2)) (us := [(5, dR (hgt (canT v) v.2))]) ?_ rfl ?_
    · refine e_bin (d1 := .lst (dR (hgt (canT v) v.2) :: ds)) (d2 := .int 0) ?_ rfl (show atI (dR (hgt (canT v) v.2) :: ds) ((0 : Nat) : Int) = _ from atI_nat rfl)
      rw [← hd]
      exact e_lcF (l := KK) .str (fun n => !decide (n ∈ goneK v)) (fun n => dR (fk v n).2) (fun n => [(11, .str n)]) rfl (fun _ _ => rfl) (fun _ _ => rfl) (fun n hn => e_val (e_bin (d1 := .str n) (d2 := .lst ((goneK v).map .str)) rfl rfl (notIn_str n (goneK v)))) (fun n hn _ => e_bin (d1 := pr n (fk v n)) (d2 := .int 1) (e_bin (d1 := fateD v) (d2 := .str n) rfl rfl (fate_look v hn)) rfl rfl) (Nat.le_of_lt KK_lim)
    have hP := parts_eq I hg
    have hlenB := partsB_len v
    have hh : ∀ k, hgt (canT v) v.2 = some k → k ≤ 3 := fun k hk => by
      obtain ⟨f, hf, ha⟩ := alive_fate hg
      refine L f hf k ?_
      obtain ⟨h, Hh, _⟩ := I.ex
      rw [Hh.at hf ha]
      rcases hf with rfl | ⟨n, hn, rfl⟩
      · unfold hgt at hk
        rw [if_pos ha] at hk
        rw [← hk]
        exact (Hh.2 ha).symm
      · rw [hgt_can Hh hn ha] at hk
        exact hk
    have hok : ∀ s ∈ (plainN v (hgt (canT v) v.2)).map pT, okS s ∧ s.length ≤ 100 := fun s hs => by
      obtain ⟨t, ht, rfl⟩ := List.mem_map.mp hs
      rw [pT_code]
      have := text_facts (code_in (plain_okSd I L hg t ht))
      exact ⟨this.2.2.1, this.2.2.2⟩
    rw [text_out hg, hP]
    rw [hP] at hok
    generalize hgt (canT v) v.2 = h at hok hh ⊢
    have w1 : ("drop " : Str).length ≤ 100 := by decide +kernel
    have w2 : ("unwrap " : Str).length ≤ 100 := by decide +kernel
    have t1 := turn1 v line (some 0) "drop " w1 [] (Nat.zero_le _) (.d (.lst [])) (.d .non) (.d (dR h)) .un .un .un rfl
    have t2 := turn1 v line none "unwrap " w2 (if decide (some 0 ∈ goneR v) = true then [("drop " : Str) ++ lotT v (some 0)] else []) (by split <;> simp) (.ol ((if decide (some 0 ∈ goneR v) = true then [("drop " : Str) ++ lotT v (some 0)] else []).map .str)) (.d .non) (.d (dR h)) (.d (.lst ((goneS v (some 0)).map .str))) .un .un rfl
    rw [List.nil_append] at t1
    refine q_for (xs := [.tup [.str "drop ", .int 0], .tup [.str "unwrap ", .non]]) rfl (show 2 ≤ LIM by decide) (f_cons (us := [(6, .str "drop "), (7, .int 0)]) rfl t1 (f_cons (us := [(6, .str "unwrap "), (7, .non)]) rfl t2 f_nil)) ?_
    generalize hX : (if decide (some 0 ∈ goneR v) = true then [("drop " : Str) ++ lotT v (some 0)] else []) ++ (if decide (none ∈ goneR v) = true then [("unwrap " : Str) ++ lotT v none] else []) = X
    have hX2 : X.length ≤ 2 := by
      rw [← hX, List.length_append]
      split <;> split <;> simp only [List.length_cons, List.length_nil] <;> omega
    refine q_set (d := .lst ((numI v).map .int)) (us := [(9, .lst ((numI v).map .int))]) ?_ rfl ?_
    · unfold numI
      rw [List.map_reverse]
      refine e_un (d := .lst ((sortI ((goneK v).map (roomI v))).map .int)) (e_call (ds := [.lst (((goneK v).map (roomI v)).map .int)]) (e_cons ?_ e_nil) (sorted_ints _ (by rw [List.length_map]; exact Nat.lt_of_le_of_lt (gK_len v) (by decide)))) rfl
      rw [List.map_map]
      refine e_lcM (l := goneK v) .str (fun n => .int (roomI v n)) rfl (fun n hn => e_turn1 (us := [(11, .str n)]) rfl rfl ?_) (Nat.le_trans (gK_len v) (by decide))
      refine e_call (ds := [.int (roomI v n)]) (e_cons ?_ e_nil) rfl
      unfold x_orT
      rw [show (x_bin dSub1 (x_bin dSub1 (x_var 1) (x_var 11)) (x_c (.int 1))) _ = some (dR (fk v n).2) from e_bin (d1 := pr n (fk v n)) (d2 := .int 1) (e_bin (d1 := fateD v) (d2 := .str n) rfl rfl (fate_look v (gK_KK hn))) rfl rfl, Option.bind_some]
      unfold roomI
      cases (fk v n).2 with
      | none => rfl
      | some k => cases k <;> rfl
    obtain ⟨f7', s8', e⟩ := loop2 v line (fallR v) X none (.d (dR h)) (.d (.str "unwrap ")) (.d .non) (.d (.lst ((goneS v none).map .str))) (.d (.lst ((numI v).map .int))) .un (falls_le L) (by have := falls_len v; omega)
    refine q_for (xs := (fallR v).map fun k => .int (k : Nat)) ?_ (by rw [List.length_map]; exact Nat.le_trans (falls_len v) (by decide)) e ?_
    · refine e_seq (d := .lst ((fallR v).map fun k => .int (k : Nat))) ?_ rfl
      have hn : (fallR v).map (fun k => D.int (k : Nat)) = (((numI v).zipIdx.filter fun p => decide (0 < p.1) && !decide (p.1 ∈ (numI v).take p.2)).map fun p => D.int p.1) := by
        have := fresh_enum (numI v) []
        rw [num_fresh v] at this
        have h2 := congrArg (List.map D.int) this
        rw [List.map_map, List.map_map] at h2
        exact h2.symm
      rw [hn]
      have lN : (numI v).length ≤ 6 := by
        unfold numI
        rw [List.length_reverse, (sortI_perm _).length_eq, List.length_map]
        exact gK_len v
      refine e_lcF (l := (numI v).zipIdx) (fun p => .tup [.int (p.2 : Nat), .int p.1]) (fun p => decide (0 < p.1) && !decide (p.1 ∈ (numI v).take p.2)) (fun p => .int p.1) (fun p => [(12, .int (p.2 : Nat)), (11, .int p.1)]) ?_ (fun _ _ => rfl) (fun _ _ => rfl) (fun p hp => ?_) (fun _ _ _ => rfl) (by rw [List.length_zipIdx]; exact Nat.le_trans lN (by decide))
      · show some (enumD ((numI v).map .int)) = _
        unfold enumD
        rw [List.zipIdx_map, List.map_map]
        rfl
      · refine e_and (a := decide (0 < p.1)) (e_val (e_bin (d1 := .int p.1) (d2 := .int 0) rfl rfl rfl)) fun _ => e_val (e_bin (d1 := .int p.1) (d2 := .lst (((numI v).take p.2).map .int)) rfl ?_ (notIn_int _ _))
        show some (D.lst (cutD ((numI v).map .int) none (some (p.2 : Int)))) = _
        unfold cutD
        have hlt : p.2 < (numI v).length := by
          obtain ⟨x, i⟩ := p
          have := (List.mem_zipIdx hp).2.1
          simpa using this
        rw [HT.sIx_nat, HT.sIx_none, List.drop_zero, Nat.sub_zero, List.length_map, Nat.min_eq_left (Nat.le_of_lt hlt), List.map_take]
    have hB : X ++ (fallR v).flatMap (fun k => [cutT k, ("unwrap " : Str) ++ lotT v (some k)]) = partsB v := by rw [← hX]; rfl
    rw [hB]
    exact drop_ok v line (partsB v) (by omega) h (lastR none (fallR v)) hh hok _ _ _ _ _
end DL
/-! First among all, first among the unlike. -/
namespace DL
open PySem PySem.Spec PyProof.Rows L2
theorem ent_eqv {p q : Str × Fa} (h : PyData.eqv (py (entP p)) (py (entP q)) = true) : p = q := by
  obtain ⟨n, a, b⟩ := p
  obtain ⟨m, c, d⟩ := q
  have h' : ((n == m) && (PyData.eqv (py (fin n a)) (py (fin m c)) && (PyData.eqv (py (dR b)) (py (dR d)) && true))) = true := h
  rw [Bool.and_eq_true, Bool.and_eq_true, Bool.and_true] at h'
  obtain ⟨h1, h2, h3⟩ := h'
  have e1 : n = m := beq_iff_eq.mp h1
  subst e1
  have e2 : a = c := by
    cases a <;> cases c
    · rfl
    · exact nomatch (show false = true from h2)
    · exact nomatch (show false = true from h2)
    · rfl
  have e3 : b = d := by
    cases b <;> cases d
    · rfl
    · exact nomatch (show false = true from h3)
    · exact nomatch (show false = true from h3)
    · rename_i u w
      have h4 : ((u : Int) == (w : Int)) = true := h3
      have := beq_iff_eq.mp h4
      rw [show u = w by omega]
  rw [e2, e3]
theorem eqvT_eq : ∀ {l m : List (Str × Fa)}, eqvT l m = true → l = m
  | [], [], _ => rfl
  | [], _ :: _, h => nomatch (show false = true from h)
  | _ :: _, [], h => nomatch (show false = true from h)
  | p :: l, q :: m, h => by
    have h' : (PyData.eqv (py (entP p)) (py (entP q)) && eqvT l m) = true := h
    rw [Bool.and_eq_true] at h'
    rw [ent_eqv h'.1, eqvT_eq h'.2]
theorem eqP_V {v u : Vc} (h : eqP v u = true) : EqV v u := by
  unfold eqP at h
  rw [Bool.and_eq_true, decide_eq_true_eq] at h
  obtain ⟨h1, h2⟩ := h
  have h1 := eqvT_eq h1
  refine ⟨fun n hn => ?_, h2⟩
  have hl : ∀ w : Vc, w.1 n = look (canT w) w.2 n := fun w => by
    unfold canT
    rw [look_go]
    by_cases e : w.1 n = w.2
    · rw [if_neg (by rw [decide_eq_true e]; simp), e]
    · rw [if_pos ⟨hn, by rw [decide_eq_false e]; rfl⟩]
  rw [hl v, hl u, h1, h2]
theorem leV_congr {a b c d : Vc} (h : EqV a b) (k : EqV c d) : leV a c = leV b d := by
  unfold leV
  rw [h.2, k.2]
  congr 1
  rw [Bool.eq_iff_iff, List.all_eq_true, List.all_eq_true]
  exact ⟨fun z n hn => by rw [← h.1 n hn, ← k.1 n hn]; exact z n hn, fun z n hn => by rw [h.1 n hn, k.1 n hn]; exact z n hn⟩
/-! unlike ones: what stays -/
theorem dd_keep {α : Type} (E : α → α → Bool) : ∀ (l acc : List α) (x : α), x ∈ acc → x ∈ ddG E acc l
  | [], acc, x, h => h
  | a :: l, acc, x, h => by
    refine dd_keep E l _ x ?_
    dsimp only
    split
    · exact h
    · exact List.mem_append_left _ h
theorem dd_rep {α : Type} (E : α → α → Bool) : ∀ (l acc : List α) (x : α), x ∈ l → ∃ y ∈ ddG E acc l, y = x ∨ E x y = true
  | [], acc, x, h => by cases h
  | a :: l, acc, x, h => by
    rcases List.mem_cons.mp h with rfl | h
    · by_cases q : (acc.any fun y => E x y) = true
      · obtain ⟨y, hy, e⟩ := List.any_eq_true.mp q
        exact ⟨y, dd_keep E (x :: l) acc y hy, .inr e⟩
      · refine ⟨x, ?_, .inl rfl⟩
        show x ∈ ddG E (if (acc.any fun y => E x y) = true then acc else acc ++ [x]) l
        rw [if_neg q]
        exact dd_keep E l _ x (List.mem_append_right _ (List.mem_singleton.mpr rfl))
    · exact dd_rep E l _ x h
theorem dd_head {α : Type} (E : α → α → Bool) (M : α → Bool) (hE : ∀ x y, E x y = true → M x = M y) : ∀ (l acc : List α), ((ddG E acc l).filter M).head? = ((acc ++ l).filter M).head?
  | [], acc => by rw [List.append_nil]; rfl
  | a :: l, acc => by
    show ((ddG E (if (acc.any fun y => E a y) = true then acc else acc ++ [a]) l).filter M).head? = _
    rw [dd_head E M hE l]
    by_cases q : (acc.any fun y => E a y) = true
    · rw [if_pos q]
      obtain ⟨y, hy, e⟩ := List.any_eq_true.mp q
      have hM := hE a y e
      rw [List.filter_append, List.filter_append, List.filter_cons]
      by_cases m : M a = true
      · rw [if_pos m]
        have : y ∈ acc.filter M := List.mem_filter.mpr ⟨hy, by rw [← hM]; exact m⟩
        cases hq : acc.filter M with
        | nil => rw [hq] at this; cases this
        | cons z zs => rfl
      · rw [if_neg m]
    · rw [if_neg q, List.append_assoc]
      rfl
theorem headD_head {l m : List (List Nat)} (h : l.head? = m.head?) : headD l = headD m := by
  cases l with
  | nil => cases m with
    | nil => rfl
    | cons b m => cases h
  | cons a l => cases m with
    | nil => cases h
    | cons b m =>
      have : a = b := Option.some.inj h
      rw [this]; rfl
/-! the first that is most, least -/
def OLk (ls : List (List Sdi)) : List (List Nat) := OL ls.length
theorem first_of (ls : List (List Sdi)) (E : List Nat → List Nat → Bool) (hE : ∀ x ∈ OLk ls, ∀ y ∈ OLk ls, E x y = true → EqV (vf ls x) (vf ls y)) (r : Vc → Vc → Bool) (hr : ∀ {a b c d : Vc}, EqV a b → EqV c d → r a c = r b d) :
    headD ((ddG E [] (OLk ls)).filter fun o => (ddG E [] (OLk ls)).all fun p => r (vf ls p) (vf ls o)) = headD ((OLk ls).filter fun o => (OLk ls).all fun p => r (vf ls p) (vf ls o)) := by
  let E' : List Nat → List Nat → Bool := fun x y => E x y && decide (x ∈ OLk ls) && decide (y ∈ OLk ls)
  have hd : ∀ (l acc : List (List Nat)), (∀ x ∈ l, x ∈ OLk ls) → (∀ x ∈ acc, x ∈ OLk ls) → ddG E acc l = ddG E' acc l := fun l => by
    induction l with
    | nil => exact fun _ _ _ => rfl
    | cons a l ih =>
      intro acc h1 h2
      have ha := h1 a List.mem_cons_self
      have e : (acc.any fun y => E a y) = acc.any fun y => E' a y := by
        rw [Bool.eq_iff_iff, List.any_eq_true, List.any_eq_true]
        exact ⟨fun ⟨y, hy, k⟩ => ⟨y, hy, by show (E a y && decide (a ∈ OLk ls) && decide (y ∈ OLk ls)) = true; rw [k, decide_eq_true ha, decide_eq_true (h2 y hy)]; rfl⟩, fun ⟨y, hy, k⟩ => ⟨y, hy, by
          have k' : (E a y && decide (a ∈ OLk ls) && decide (y ∈ OLk ls)) = true := k
          rw [Bool.and_eq_true, Bool.and_eq_true] at k'
          exact k'.1.1⟩⟩
      show ddG E (if (acc.any fun y => E a y) = true then acc else acc ++ [a]) l = ddG E' (if (acc.any fun y => E' a y) = true then acc else acc ++ [a]) l
      rw [← e]
      refine ih _ (fun x hx => h1 x (List.mem_cons_of_mem _ hx)) fun x hx => ?_
      split at hx
      · exact h2 x hx
      · rcases List.mem_append.mp hx with z | z
        · exact h2 x z
        · rw [List.mem_singleton.mp z]; exact ha
  rw [hd (OLk ls) [] (fun x h => h) (fun x h => by cases h)]
  have hE' : ∀ x y, E' x y = true → EqV (vf ls x) (vf ls y) := fun x y h => by
    have k' : (E x y && decide (x ∈ OLk ls) && decide (y ∈ OLk ls)) = true := h
    rw [Bool.and_eq_true, Bool.and_eq_true, decide_eq_true_eq, decide_eq_true_eq] at k'
    exact hE x k'.1.2 y k'.2 k'.1.1
  have eM : ∀ o, ((ddG E' [] (OLk ls)).all fun p => r (vf ls p) (vf ls o)) = (OLk ls).all fun p => r (vf ls p) (vf ls o) := fun o => by
    rw [Bool.eq_iff_iff, List.all_eq_true, List.all_eq_true]
    constructor
    · intro h p hp
      obtain ⟨y, hy, e⟩ := dd_rep E' (OLk ls) [] p hp
      rcases e with rfl | e
      · exact h y hy
      · rw [hr (hE' p y e) (.refl _)]
        exact h y hy
    · intro h p hp
      exact h p ((dd_mem E' _ _ _ hp).resolve_left fun z => by cases z)
  rw [show (fun o => (ddG E' [] (OLk ls)).all fun p => r (vf ls p) (vf ls o)) = fun o => (OLk ls).all fun p => r (vf ls p) (vf ls o) from funext eM]
  refine headD_head ?_
  rw [dd_head E' _ (fun x y h => ?_) (OLk ls) [], List.nil_append]
  rw [Bool.eq_iff_iff, List.all_eq_true, List.all_eq_true]
  exact ⟨fun z p hp => by rw [← hr (.refl _) (hE' x y h)]; exact z p hp, fun z p hp => by rw [hr (.refl _) (hE' x y h)]; exact z p hp⟩
end DL
/-! The law's orders, outcomes; same. -/
namespace DL
open PySem PySem.Spec PyProof.Rows L2
def chkW (n : Nat) : Bool := match R_w_orders 6 [.tup ((List.range n).map fun i => .int (i : Nat))] with | some d => beqD d (.lst ((OL n).map ordD)) | none => false
theorem m_worders (n : Nat) (h1 : 1 ≤ n) (h4 : n ≤ 4) : R_w_orders 6 [.tup ((List.range n).map fun i => .int (i : Nat))] = some (.lst ((OL n).map ordD)) := by
  have hc : chkW n = true := by
    have : n = 1 ∨ n = 2 ∨ n = 3 ∨ n = 4 := by omega
    rcases this with rfl | rfl | rfl | rfl <;> decide +kernel
  unfold chkW at hc
  cases h : R_w_orders 6 [.tup ((List.range n).map fun i => .int (i : Nat))] with
  | none => rw [h] at hc; cases hc
  | some d => rw [h] at hc; rw [beqD_eq _ _ hc]
section
variable {ls : List (List Sdi)}
def tx (ls : List (List Sdi)) (o : List Nat) : Str := textV (vf ls o)
def wT (ls : List (List Sdi)) (o : List Nat) : D := .tup [ordD o, .str (tx ls o)]
def Et (ls : List (List Sdi)) (x y : List Nat) : Bool := tx ls x == tx ls y
def LD (ls : List (List Sdi)) : D := .lst (ls.map lineD)
def Oks (ls : List (List Sdi)) : Prop := ∀ l ∈ ls, ∀ s ∈ l, okSd s
theorem row_oks (k : Oks ls) (o : List Nat) : ∀ s ∈ rowS ls o, okSd s := fun s hs => by
  obtain ⟨i, _, h⟩ := List.mem_flatMap.mp hs
  cases q : ls[i]? with
  | none => rw [q] at h; cases h
  | some l => rw [q] at h; exact k l (List.mem_of_getElem? q) s h
theorem say_ok (g : Good ls) (k : Oks ls) {o : List Nat} (ho : o ∈ OL ls.length) : R_w_row [LD ls, ordD o] = some (lineD (rowS ls o)) ∧ R_w_plainly [lineD (rowS ls o)] = some (.str (tx ls o)) := by
  obtain ⟨_, h⟩ := OL_ok ls.length g.n1 g.n4
  obtain ⟨h1, h2⟩ := h o ho
  have hl := row_len ls g.l2 o
  exact ⟨m_wrow ls g.l2 o h1 (by omega), m_plainly _ (Nat.le_trans (show _ ≤ 8 by omega) (by decide)) (row_oks k o)⟩
def bodyT : SF := s_seq (s_set (g_name 4) (x_call R_w_plainly (a_cons (x_call R_w_row (a_cons (x_var 0) (a_cons (x_var 3) a_nil))) a_nil)))
          (s_seq (s_if (t_val (x_bin dNotIn (x_var 4) (x_var 2))) (s_seq (s_app 2 (x_var 4))
          (s_seq (s_app 1 (x_tup (a_cons (x_var 3) (a_cons (x_var 4) a_nil))))
          (s_nil))) (s_nil))
          (s_nil))
theorem out_go (g : Good ls) (k : Oks ls) : ∀ (l acc : List (List Nat)) (a b : Sl), (∀ o ∈ l, o ∈ OL ls.length) → acc.length + l.length ≤ 100 →
    ∃ a' b', forGo (g_name 3) bodyT (l.map ordD) [.d (LD ls), .ol (acc.map (wT ls)), .ol ((acc.map (tx ls)).map .str), a, b] = some (.nx [.d (LD ls), .ol ((ddG (Et ls) acc l).map (wT ls)), .ol (((ddG (Et ls) acc l).map (tx ls)).map .str), a', b'])
  | [], acc, a, b, _, _ => ⟨a, b, rfl⟩
  | o :: l, acc, a, b, hl, hn => by
    rw [List.length_cons] at hn
    obtain ⟨e1, e2⟩ := say_ok g k (hl o List.mem_cons_self)
    have hl' : ∀ q ∈ l, q ∈ OL ls.length := fun q hq => hl q (List.mem_cons_of_mem _ hq)
    have eset : (x_call R_w_plainly (a_cons (x_call R_w_row (a_cons (x_var 0) (a_cons (x_var 3) a_nil))) a_nil)) (mask [.d (LD ls), .ol (acc.map (wT ls)), .ol ((acc.map (tx ls)).map .str), .d (ordD o), b]) = some (.str (tx ls o)) :=
      e_call (ds := [lineD (rowS ls o)]) (e_cons (e_call (ds := [LD ls, ordD o]) rfl e1) e_nil) e2
    have tst : (t_val (x_bin dNotIn (x_var 4) (x_var 2))) (peek [.d (LD ls), .ol (acc.map (wT ls)), .ol ((acc.map (tx ls)).map .str), .d (ordD o), .d (.str (tx ls o))]) = some (!acc.any fun y => Et ls o y) := by
      refine (e_val (e_bin (d1 := .str (tx ls o)) (d2 := .lst ((acc.map (tx ls)).map .str)) rfl rfl (notIn_str _ _))).trans ?_
      refine congrArg (fun b => some (!b)) ?_
      rw [Bool.eq_iff_iff, decide_eq_true_eq, List.mem_map, List.any_eq_true]
      exact ⟨fun ⟨y, hy, e⟩ => ⟨y, hy, beq_iff_eq.mpr e.symm⟩, fun ⟨y, hy, e⟩ => ⟨y, hy, (beq_iff_eq.mp e).symm⟩⟩
    by_cases h : (acc.any fun y => Et ls o y) = true
    · obtain ⟨a', b', e⟩ := out_go g k l acc (.d (ordD o)) (.d (.str (tx ls o))) hl' (by omega)
      refine ⟨a', b', ?_⟩
      have ed : ddG (Et ls) acc (o :: l) = ddG (Et ls) acc l := by
        unfold ddG
        rw [List.foldl_cons, if_pos h]
      rw [ed]
      exact f_cons (us := [(3, ordD o)]) rfl (q_set (us := [(4, .str (tx ls o))]) eset rfl (q_ifF (tst.trans (by rw [h]; rfl)) rfl)) e
    · have h' := Bool.eq_false_iff.mpr h
      obtain ⟨a', b', e⟩ := out_go g k l (acc ++ [o]) (.d (ordD o)) (.d (.str (tx ls o))) hl' (by rw [List.length_append]; show acc.length + 1 + l.length ≤ 100; omega)
      refine ⟨a', b', ?_⟩
      have ed : ddG (Et ls) acc (o :: l) = ddG (Et ls) (acc ++ [o]) l := by
        unfold ddG
        rw [List.foldl_cons, if_neg h]
      rw [ed]
      have em : acc.map (wT ls) ++ [wT ls o] = (acc ++ [o]).map (wT ls) := by rw [List.map_append]; rfl
      have em2 : (acc.map (tx ls)).map D.str ++ [.str (tx ls o)] = ((acc ++ [o]).map (tx ls)).map .str := by rw [List.map_append, List.map_append]; rfl
      rw [← em, ← em2] at e
      refine f_cons (us := [(3, ordD o)]) rfl (q_set (us := [(4, .str (tx ls o))]) eset rfl (q_ifN (b := true) (tst.trans (by rw [h']; rfl)) (fun _ => q_app (xs := (acc.map (tx ls)).map .str) (d := .str (tx ls o)) rfl rfl ?_ (q_app (xs := acc.map (wT ls)) (d := wT ls o) rfl ?_ ?_ rfl)) (fun z => by cases z) rfl)) e
      · rw [List.length_map, List.length_map]
        exact Nat.lt_of_le_of_lt (show acc.length ≤ 100 by omega) (by decide)
      · exact e_tup (ds := [ordD o, .str (tx ls o)]) rfl (show 2 ≤ LIM by decide)
      · rw [List.length_map]
        exact Nat.lt_of_le_of_lt (show acc.length ≤ 100 by omega) (by decide)
def WL (ls : List (List Sdi)) : List (List Nat) := ddG (Et ls) [] (OL ls.length)
theorem m_outcomes (g : Good ls) (k : Oks ls) : R_w_outcomes [LD ls] = some (.lst ((WL ls).map (wT ls))) := by
  obtain ⟨hl, _⟩ := OL_ok ls.length g.n1 g.n4
  have hn := g.n4
  obtain ⟨a', b', e⟩ := out_go g k (OL ls.length) [] .un .un (fun o h => h) (by rw [List.length_nil]; omega)
  refine run_rt (q_seq (σ' := [.d (LD ls), .ol [], .ol [], .un, .un]) rfl (q_for (xs := (OL ls.length).map ordD) ?_ (by rw [List.length_map]; exact Nat.le_trans hl (by decide)) e (q_ret rfl)))
  refine e_seq (e_call (ds := [.tup ((List.range ls.length).map fun i => .int (i : Nat))]) (e_cons (e_un (d := .int (ls.length : Nat)) (e_call (ds := [LD ls]) rfl ?_) ?_) e_nil) (m_worders _ g.n1 g.n4)) rfl
  · show some (D.int ((ls.map lineD).length : Nat)) = _
    rw [List.length_map]
  · show (rangeD (ls.length : Nat)).bind _ = _
    unfold rangeD
    rw [if_pos (by omega)]
    rfl
theorem Et_V (k : Oks ls) {x y : List Nat} (h : Et ls x y = true) : EqV (vf ls x) (vf ls y) :=
  text_tells (inv_run _) (low_run _ (row_oks k x)) (inv_run _) (low_run _ (row_oks k y)) (beq_iff_eq.mp h)
theorem first_most (k : Oks ls) : headD ((UL ls).filter fun o => (UL ls).all fun p => leV (vf ls p) (vf ls o)) = headD ((WL ls).filter fun o => (WL ls).all fun p => leV (vf ls p) (vf ls o)) :=
  (first_of ls (fun x y => eqP (vf ls x) (vf ls y)) (fun _ _ _ _ h => eqP_V h) leV leV_congr).trans (first_of ls (Et ls) (fun _ _ _ _ h => Et_V k h) leV leV_congr).symm
theorem first_least (k : Oks ls) : headD ((UL ls).filter fun o => (UL ls).all fun p => leV (vf ls o) (vf ls p)) = headD ((WL ls).filter fun o => (WL ls).all fun p => leV (vf ls o) (vf ls p)) :=
  (first_of ls (fun x y => eqP (vf ls x) (vf ls y)) (fun _ _ _ _ h => eqP_V h) (fun a b => leV b a) fun h k => leV_congr k h).trans (first_of ls (Et ls) (fun _ _ _ _ h => Et_V k h) (fun a b => leV b a) fun h k => leV_congr k h).symm
theorem WL_head (g : Good ls) : ∃ o l m, OL ls.length = o :: l ∧ WL ls = o :: m := by
  obtain ⟨o, l, e⟩ : ∃ o l, OL ls.length = o :: l := by
    have h1 := g.n1
    have h4 := g.n4
    have : ls.length = 1 ∨ ls.length = 2 ∨ ls.length = 3 ∨ ls.length = 4 := by omega
    rcases this with h | h | h | h <;> rw [h] <;> exact ⟨_, _, rfl⟩
  have hh := dd_head (Et ls) (fun _ => true) (fun _ _ _ => rfl) (OL ls.length) []
  rw [List.nil_append, List.filter_eq_self.mpr (fun _ _ => rfl), List.filter_eq_self.mpr (fun _ _ => rfl), e] at hh
  cases hw : WL ls with
  | nil =>
    unfold WL at hw
    rw [e] at hw
    rw [hw] at hh
    cases hh
  | cons a m =>
    unfold WL at hw
    rw [e] at hw
    rw [hw] at hh
    have : a = o := Option.some.inj hh
    rw [this] at hw ⊢
    exact ⟨o, l, m, e, rfl⟩
theorem WL_mem {o : List Nat} (h : o ∈ WL ls) : o ∈ OL ls.length := (dd_mem _ _ _ _ h).resolve_left fun z => by cases z
theorem WL_len (g : Good ls) : (WL ls).length ≤ 24 := by
  obtain ⟨hl, _⟩ := OL_ok ls.length g.n1 g.n4
  have := dd_len (Et ls) (OL ls.length) []
  rw [List.length_nil] at this
  exact Nat.le_trans this (by omega)
end
/-! the same -/
def isTrD : Option D → Bool | some (.bl true) => true | _ => false
theorem isTrD_ok {o : Option D} (h : isTrD o = true) : o = some (.bl true) := by
  unfold isTrD at h
  split at h
  · rfl
  · cases h
theorem same_non : R_w_same 3 [.non, .non] = some (.bl true) := isTrD_ok (by decide +kernel)
theorem same_ord {n : Nat} (h1 : 1 ≤ n) (h4 : n ≤ 4) {o : List Nat} (ho : o ∈ OL n) : R_w_same 3 [ordD o, ordD o] = some (.bl true) := by
  have hc : ((OL n).all fun o => isTrD (R_w_same 3 [ordD o, ordD o])) = true := by
    have : n = 1 ∨ n = 2 ∨ n = 3 ∨ n = 4 := by omega
    rcases this with rfl | rfl | rfl | rfl <;> decide +kernel
  exact isTrD_ok (List.all_eq_true.mp hc o ho)
theorem same_two (a b : D) (ha : R_w_same 3 [a, a] = some (.bl true)) (hb : R_w_same 3 [b, b] = some (.bl true)) : R_w_same 4 [.lst [a, b], .lst [a, b]] = some (.bl true) := by
  refine run_rt (q_ifT (e_val (e_un (d := .lst [a, b]) rfl rfl)) (q_ifF (e_or (a := false) (b := false) (e_val (e_bin (d1 := .bl true) (d2 := .bl true) rfl rfl rfl)) fun _ => e_val (e_bin (d1 := .bl false) (d2 := .bl false) rfl rfl rfl)) (q_ret (e_xand (a := true) (d1b := true) (e_bin (d1 := .int 2) (d2 := .int 2) rfl rfl rfl) fun _ => e_call (ds := [.lst [.bl true, .bl true]]) (e_cons ?_ e_nil) rfl))))
  refine e_lcM (l := [a, b]) (fun x => .tup [x, x]) (fun _ => .bl true) rfl (fun x hx => e_turn1 (us := [(2, x), (3, x)]) rfl rfl (e_call (ds := [x, x]) rfl ?_)) (show 2 ≤ LIM by decide)
  rcases List.mem_cons.mp hx with rfl | hx
  · exact ha
  · rw [List.mem_singleton.mp hx]; exact hb
end DL
/-! A turn of _law_right, without the urn. F_right printed by gen3.py. -/
namespace DL
open PySem PySem.Spec PyProof.Rows L2
def N_right : List Str := ["_law_urn", "_law_turn", "_law_lines", "_law_some", "_law_ways_so", "_law_rows_so", "_law_least_so", "_law_order_so", "_law_say_so", "_law_most", "_law_few", "_law_goal", "_law_own", "_law_line", "_law_k", "_law_far"]
def F_right0 : SF := s_if (t_not (t_val (x_call R_w_by_hand_right a_nil))) (s_seq (s_ret (x_c (.bl false)))
          (s_nil)) (s_nil)
def F_right1 : SF :=
  s_seq (s_set (g_tup 2 (g_cons (g_name 3) (g_cons (g_name 4) g_nil))) (x_tup (a_cons (x_lc (i_seq (x_var 2)) [13] (g_name 13) t_yes (x_call R_w_host (a_cons (x_var 13) a_nil))) (a_cons (x_call (R_w_orders 6) (a_cons (x_un dTupRange (x_call b_len (a_cons (x_var 2) a_nil))) a_nil)) a_nil))))
          (s_seq (s_new2 5 6 (.ol []) (.ol []))
          (s_seq (s_for (i_seq (x_call R_w_outcomes (a_cons (x_var 2) a_nil))) (g_tup 2 (g_cons (g_name 7) (g_cons (g_name 8) g_nil))) (s_seq (s_app 5 (x_call R_w_row (a_cons (x_var 2) (a_cons (x_var 7) a_nil))))
          (s_seq (s_app 6 (x_var 7))
          (s_nil))))
          (s_seq (s_frz 5) (s_seq (s_frz 6)
          (s_seq (s_set (g_name 9) (x_lc (i_enum (x_var 5)) [14, 12] (g_tup 2 (g_cons (g_name 14) (g_cons (g_name 12) g_nil))) (t_val (x_call b_all (a_cons (x_lc (i_seq (x_var 5)) [15] (g_name 15) t_yes (x_call R_w_under (a_cons (x_var 15) (a_cons (x_var 12) a_nil)))) a_nil))) (x_var 14)))
          (s_seq (s_set (g_name 10) (x_lc (i_enum (x_var 5)) [14, 12] (g_tup 2 (g_cons (g_name 14) (g_cons (g_name 12) g_nil))) (t_val (x_call b_all (a_cons (x_lc (i_seq (x_var 5)) [15] (g_name 15) t_yes (x_call R_w_under (a_cons (x_var 12) (a_cons (x_var 15) a_nil)))) a_nil))) (x_var 14)))
          (s_seq (s_set (g_name 11) (x_lst (a_cons (x_if (t_val (x_bin dNe (x_var 9) (x_lst a_nil))) (x_bin dSub1 (x_var 6) (x_bin dSub1 (x_var 9) (x_c (.int 0)))) (x_c .non)) (a_cons (x_if (t_val (x_bin dNe (x_var 10) (x_lst a_nil))) (x_bin dSub1 (x_var 6) (x_bin dSub1 (x_var 10) (x_c (.int 0)))) (x_c .non)) a_nil))))
          (s_seq (s_if (t_or (t_not (t_val (x_call (R_w_same 4) (a_cons (x_lst (a_cons (x_call R_most_order (a_cons (x_var 3) a_nil)) (a_cons (x_call R_least_order (a_cons (x_var 3) a_nil)) a_nil))) (a_cons (x_var 11) a_nil))))) (t_val (x_bin dNe (x_bin dSub1 (x_var 6) (x_c (.int 0))) (x_bin dSub1 (x_var 4) (x_c (.int 0)))))) (s_seq (s_ret (x_c (.bl false)))
          (s_nil)) (s_nil))
          (s_nil)))))))))
abbrev stR (x0 x1 : Sl) (ls : List (List Sdi)) (s3 s4 s5 s6 s7 s8 s9 s10 s11 s12 s13 s14 s15 : Sl) : RhoS := [x0, x1, .d (LD ls), s3, s4, s5, s6, s7, s8, s9, s10, s11, s12, s13, s14, s15]
def rwD (ls : List (List Sdi)) (o : List Nat) : D := lineD (rowS ls o)
theorem ints_lay : ∀ X : List Int, PyData.canLayAll0 (pys (X.map .int)) = true ∧ PyData.depthAll (pys (X.map .int)) = 0
  | [] => ⟨rfl, rfl⟩
  | s :: X => by
    obtain ⟨a, b⟩ := ints_lay X
    exact ⟨by show (true && PyData.canLayAll0 (pys (X.map .int))) = true; rw [a]; rfl, by show max 0 (PyData.depthAll (pys (X.map .int))) = 0; rw [b]; rfl⟩
theorem ne_nilI (X : List Int) : dNe (.lst (X.map .int)) (.lst []) = some (.bl (!X.isEmpty)) := by
  obtain ⟨a, b⟩ := ints_lay X
  have hs : SeqAt.shaped (py (.lst (X.map .int))) = true := by
    unfold SeqAt.shaped
    show (PyData.canLayAll0 (pys (X.map .int)) && decide (PyData.depthAll (pys (X.map .int)) + 1 ≤ 64)) = true
    rw [a, b]
    rfl
  unfold dNe
  have hz : SeqAt.shaped (py (.lst [])) = true := rfl
  rw [hs, hz, Bool.and_self, if_pos rfl]
  cases X <;> rfl
theorem ne_ord {n : Nat} (h1 : 1 ≤ n) (h4 : n ≤ 4) {o : List Nat} (ho : o ∈ OL n) : dNe (ordD o) (ordD o) = some (.bl false) := by
  have hc : ((OL n).all fun o => isBlD (dNe (ordD o) (ordD o)) false) = true := by
    have : n = 1 ∨ n = 2 ∨ n = 3 ∨ n = 4 := by omega
    rcases this with rfl | rfl | rfl | rfl <;> decide +kernel
  exact isBlD_ok (List.all_eq_true.mp hc o ho)
/-- the first place whose item is meant -/
theorem zip_head {α : Type} (M : α → Bool) : ∀ (l : List α) (k : Nat), ((l.zipIdx k).filter fun p => M p.1) = [] ∧ l.filter M = [] ∨ ∃ a i r s, ((l.zipIdx k).filter fun p => M p.1) = (a, k + i) :: r ∧ l.filter M = a :: s ∧ l[i]? = some a
  | [], k => .inl ⟨rfl, rfl⟩
  | a :: l, k => by
    rw [List.zipIdx_cons, List.filter_cons, List.filter_cons]
    by_cases h : M a = true
    · exact .inr ⟨a, 0, _, _, by rw [if_pos h]; rfl, by rw [if_pos h], rfl⟩
    · rw [if_neg h, if_neg h]
      rcases zip_head M l (k + 1) with ⟨h1, h2⟩ | ⟨b, i, r, s, h1, h2, h3⟩
      · exact .inl ⟨h1, h2⟩
      · exact .inr ⟨b, i + 1, r, s, by rw [h1, Nat.add_assoc, Nat.add_comm 1 i], h2, by rw [List.getElem?_cons_succ]; exact h3⟩
section
variable {ls : List (List Sdi)}
def bodyQ : SF := s_seq (s_app 5 (x_call R_w_row (a_cons (x_var 2) (a_cons (x_var 7) a_nil)))) (s_seq (s_app 6 (x_var 7)) s_nil)
theorem rows_go (g : Good ls) (k : Oks ls) (x0 x1 s3 s4 s9 s10 s11 s12 s13 s14 s15 : Sl) : ∀ (l acc : List (List Nat)) (a b : Sl), (∀ o ∈ l, o ∈ OL ls.length) → acc.length + l.length ≤ 1000 →
    ∃ a' b', forGo (g_tup 2 (g_cons (g_name 7) (g_cons (g_name 8) g_nil))) bodyQ (l.map (wT ls)) (stR x0 x1 ls s3 s4 (.ol (acc.map (rwD ls))) (.ol (acc.map ordD)) a b s9 s10 s11 s12 s13 s14 s15) =
      some (.nx (stR x0 x1 ls s3 s4 (.ol ((acc ++ l).map (rwD ls))) (.ol ((acc ++ l).map ordD)) a' b' s9 s10 s11 s12 s13 s14 s15))
  | [], acc, a, b, _, _ => ⟨a, b, by rw [List.append_nil]; rfl⟩
  | o :: l, acc, a, b, hl, hn => by
    rw [List.length_cons] at hn
    obtain ⟨e1, _⟩ := say_ok g k (hl o List.mem_cons_self)
    obtain ⟨a', b', e⟩ := rows_go g k x0 x1 s3 s4 s9 s10 s11 s12 s13 s14 s15 l (acc ++ [o]) (.d (ordD o)) (.d (.str (tx ls o))) (fun q hq => hl q (List.mem_cons_of_mem _ hq)) (by rw [List.length_append]; show acc.length + 1 + l.length ≤ 1000; omega)
    refine ⟨a', b', ?_⟩
    have m1 : acc.map (rwD ls) ++ [rwD ls o] = (acc ++ [o]).map (rwD ls) := by rw [List.map_append]; rfl
    have m2 : acc.map ordD ++ [ordD o] = (acc ++ [o]).map ordD := by rw [List.map_append]; rfl
    rw [← m1, ← m2, List.append_assoc] at e
    exact f_cons (us := [(7, ordD o), (8, .str (tx ls o))]) rfl (q_app (xs := acc.map (rwD ls)) (d := rwD ls o) rfl (e_call (ds := [LD ls, ordD o]) rfl e1) (by rw [List.length_map]; exact Nat.lt_of_le_of_lt (show acc.length ≤ 1000 by omega) (by decide))
      (q_app (xs := acc.map ordD) (d := ordD o) rfl rfl (by rw [List.length_map]; exact Nat.lt_of_le_of_lt (show acc.length ≤ 1000 by omega) (by decide)) rfl)) e
def pickQ (ls : List (List Sdi)) (M : List Nat → Bool) : List Int := (((WL ls).zipIdx.filter fun p => M p.1)).map fun p => ((p.2 : Nat) : Int)
/-- the places of the greatest, least -/
theorem pick_ok (g : Good ls) (k : Oks ls) {ρ : Rho} (M : List Nat → List Nat → Bool) {r : Rho → Option (List D)} (h5 : x_var 5 ρ = some (.lst ((WL ls).map (rwD ls))))
    (hr : ∀ (i : Nat) (o p : List Nat), o ∈ WL ls → p ∈ WL ls → (x_call R_w_under r) (setR (wipeR (setR (wipeR ρ [14, 12]) [(14, .int (i : Nat)), (12, rwD ls o)]) [15]) [(15, rwD ls p)]) = some (.bl (M p o)))
    (h5' : ∀ (i : Nat) (o : List Nat), x_var 5 (setR (wipeR ρ [14, 12]) [(14, .int (i : Nat)), (12, rwD ls o)]) = some (.lst ((WL ls).map (rwD ls))))
    (h14 : ∀ (i : Nat) (o : List Nat), x_var 14 (setR (wipeR ρ [14, 12]) [(14, .int (i : Nat)), (12, rwD ls o)]) = some (.int (i : Nat))) :
    (x_lc (i_enum (x_var 5)) [14, 12] (g_tup 2 (g_cons (g_name 14) (g_cons (g_name 12) g_nil))) (t_val (x_call b_all (a_cons (x_lc (i_seq (x_var 5)) [15] (g_name 15) t_yes (x_call R_w_under r)) a_nil))) (x_var 14)) ρ = some (.lst ((pickQ ls fun o => (WL ls).all fun p => M p o).map .int)) := by
  have lw := WL_len g
  unfold pickQ
  rw [List.map_map]
  refine e_lcF (l := (WL ls).zipIdx) (fun p => .tup [.int (p.2 : Nat), rwD ls p.1]) (fun p => (WL ls).all fun q => M q p.1) (fun p => .int (p.2 : Nat)) (fun p => [(14, .int (p.2 : Nat)), (12, rwD ls p.1)]) ?_ (fun _ _ => rfl) (fun _ _ => rfl) (fun p hp => ?_) (fun p _ _ => h14 _ _) (by rw [List.length_zipIdx]; exact Nat.le_trans lw (by decide))
  · unfold i_enum
    rw [h5]
    show some (enumD ((WL ls).map (rwD ls))) = _
    unfold enumD
    rw [List.zipIdx_map, List.map_map]
    rfl
  · have hm : p.1 ∈ WL ls := by
      obtain ⟨x, i⟩ := p
      have := List.mem_zipIdx hp
      rw [this.2.2]
      exact List.getElem_mem _
    refine e_val (e_call (ds := [.lst ((WL ls).map fun q => .bl (M q p.1))]) (e_cons ?_ e_nil) (all_map _ _))
    exact e_lcM (l := WL ls) (rwD ls) (fun q => .bl (M q p.1)) (e_seq (h5' _ _) rfl) (fun q hq => e_turn1 (us := [(15, rwD ls q)]) rfl rfl (hr _ _ _ hm hq)) (Nat.le_trans lw (by decide))
theorem goal_ok (ls : List (List Sdi)) (M : List Nat → Bool) {ρ : Rho} {f : Rho → Option D} (h6 : x_var 6 ρ = some (.lst ((WL ls).map ordD))) (hf : f ρ = some (.lst ((pickQ ls M).map .int))) :
    (x_if (t_val (x_bin dNe f (x_lst a_nil))) (x_bin dSub1 (x_var 6) (x_bin dSub1 f (x_c (.int 0)))) (x_c .non)) ρ = some (headD ((WL ls).filter M)) := by
  refine e_if (b := !(pickQ ls M).isEmpty) (e_val (e_bin (d1 := .lst ((pickQ ls M).map .int)) (d2 := .lst []) hf (e_lst e_nil (Nat.zero_le _)) (ne_nilI _))) (fun h => ?_) fun h => ?_
  · rcases zip_head M (WL ls) 0 with ⟨h1, _⟩ | ⟨a, i, r, s, h1, h2, h3⟩
    · have : pickQ ls M = [] := by unfold pickQ; rw [h1]; rfl
      rw [this] at h
      cases h
    · have hp : pickQ ls M = ((i : Nat) : Int) :: r.map (fun p => ((p.2 : Nat) : Int)) := by unfold pickQ; rw [h1, List.map_cons, Nat.zero_add]
      rw [h2]
      refine e_bin (d1 := .lst ((WL ls).map ordD)) (d2 := .int (i : Nat)) h6 (e_bin (d1 := .lst ((pickQ ls M).map .int)) (d2 := .int 0) hf rfl ?_) ?_
      · rw [hp]
        exact (show atI (.int (i : Nat) :: (r.map (fun p => ((p.2 : Nat) : Int))).map D.int) ((0 : Nat) : Int) = _ from atI_nat rfl)
      · show atI ((WL ls).map ordD) ((i : Nat) : Int) = _
        exact atI_nat (by rw [List.getElem?_map, h3]; rfl)
  · rcases zip_head M (WL ls) 0 with ⟨h1, h2⟩ | ⟨a, i, r, s, h1, h2, h3⟩
    · rw [h2]; rfl
    · have hp : pickQ ls M = ((i : Nat) : Int) :: r.map (fun p => ((p.2 : Nat) : Int)) := by unfold pickQ; rw [h1, List.map_cons, Nat.zero_add]
      rw [hp] at h
      cases h
theorem same_head (g : Good ls) (M : List Nat → Bool) : R_w_same 3 [headD ((WL ls).filter M), headD ((WL ls).filter M)] = some (.bl true) := by
  cases h : (WL ls).filter M with
  | nil => exact same_non
  | cons o l =>
    have : o ∈ (WL ls).filter M := by rw [h]; exact List.mem_cons_self
    exact same_ord g.n1 g.n4 (WL_mem (List.mem_filter.mp this).1)
theorem m_right (g : Good ls) (k : Oks ls) (x0 x1 s3 s4 s5 s6 s7 s8 s9 s10 s11 s12 s13 s14 s15 : Sl) : ∃ ρ', F_right1 (stR x0 x1 ls s3 s4 s5 s6 s7 s8 s9 s10 s11 s12 s13 s14 s15) = some (.nx ρ') ∧ ρ'[0]? = some x0 ∧ ρ'.length = 16 := by
  have h1 := g.n1
  have h4 := g.n4
  have lw := WL_len g
  obtain ⟨a', b', e⟩ := rows_go g k x0 x1 (.d (FD ls)) (.d (.lst ((OL ls.length).map ordD))) s9 s10 s11 s12 s13 s14 s15 (WL ls) [] s7 s8 (fun o h => WL_mem h) (by rw [List.length_nil]; omega)
  rw [List.nil_append] at e
  let Mm : List Nat → List Nat → Bool := fun p o => leV (vf ls p) (vf ls o)
  let Ml : List Nat → List Nat → Bool := fun p o => leV (vf ls o) (vf ls p)
  have hun : ∀ o ∈ WL ls, ∀ p ∈ WL ls, R_w_under [rwD ls o, rwD ls p] = some (.bl (leV (vf ls o) (vf ls p))) := fun o ho p hp => by
    have hl : ∀ q ∈ WL ls, (rowS ls q).length ≤ LIM := fun q hq => by
      have := row_len ls g.l2 q
      have := ((OL_ok ls.length g.n1 g.n4).2 q (WL_mem hq)).2
      exact Nat.le_trans (show _ ≤ 8 by omega) (by decide)
    exact m_under _ _ (hl o ho) (hl p hp)
  obtain ⟨o0, l0, m0, eO, eW⟩ := WL_head g
  have ho0 : o0 ∈ OL ls.length := by rw [eO]; exact List.mem_cons_self
  refine ⟨stR x0 x1 ls (.d (FD ls)) (.d (.lst ((OL ls.length).map ordD))) (.d (.lst ((WL ls).map (rwD ls)))) (.d (.lst ((WL ls).map ordD))) a' b' (.d (.lst ((pickQ ls fun o => (WL ls).all fun p => Mm p o).map .int))) (.d (.lst ((pickQ ls fun o => (WL ls).all fun p => Ml p o).map .int))) (.d (.lst [headD ((WL ls).filter fun o => (WL ls).all fun p => Mm p o), headD ((WL ls).filter fun o => (WL ls).all fun p => Ml p o)])) s12 s13 s14 s15, ?_, rfl, rfl⟩
  unfold F_right1
  refine q_set (d := .tup [FD ls, .lst ((OL ls.length).map ordD)]) (us := [(3, FD ls), (4, .lst ((OL ls.length).map ordD))]) (e_tup (e_cons ?_ (e_cons ?_ e_nil)) (show 2 ≤ LIM by decide)) rfl ?_
  · exact e_lcM (l := ls) lineD pipeD rfl (fun l hl => e_turn1 (us := [(13, lineD l)]) rfl rfl (e_call (ds := [lineD l]) rfl (m_host l (Nat.le_trans (g.l2 l hl) (by decide))))) (Nat.le_trans h4 (by decide))
  · refine e_call (ds := [.tup ((List.range ls.length).map fun i => .int (i : Nat))]) (e_cons (e_un (d := .int (ls.length : Nat)) (e_call (ds := [LD ls]) rfl ?_) ?_) e_nil) (m_worders _ h1 h4)
    · show some (D.int ((ls.map lineD).length : Nat)) = _
      rw [List.length_map]
    · show (rangeD (ls.length : Nat)).bind _ = _
      unfold rangeD
      rw [if_pos (by omega)]
      rfl
  refine q_seq (σ' := stR x0 x1 ls (.d (FD ls)) (.d (.lst ((OL ls.length).map ordD))) (.ol []) (.ol []) s7 s8 s9 s10 s11 s12 s13 s14 s15) rfl ?_
  refine q_for (xs := (WL ls).map (wT ls)) (e_seq (e_call (ds := [LD ls]) rfl (m_outcomes g k)) rfl) (by rw [List.length_map]; exact Nat.le_trans lw (by decide)) e ?_
  refine q_seq (σ' := stR x0 x1 ls (.d (FD ls)) (.d (.lst ((OL ls.length).map ordD))) (.d (.lst ((WL ls).map (rwD ls)))) (.ol ((WL ls).map ordD)) a' b' s9 s10 s11 s12 s13 s14 s15) rfl ?_
  refine q_seq (σ' := stR x0 x1 ls (.d (FD ls)) (.d (.lst ((OL ls.length).map ordD))) (.d (.lst ((WL ls).map (rwD ls)))) (.d (.lst ((WL ls).map ordD))) a' b' s9 s10 s11 s12 s13 s14 s15) rfl ?_
  refine q_set (us := [(9, .lst ((pickQ ls fun o => (WL ls).all fun p => Mm p o).map .int))]) (pick_ok g k Mm rfl (fun i o p ho hp => e_call (ds := [rwD ls p, rwD ls o]) rfl (hun p hp o ho)) (fun _ _ => rfl) (fun _ _ => rfl)) rfl ?_
  refine q_set (us := [(10, .lst ((pickQ ls fun o => (WL ls).all fun p => Ml p o).map .int))]) (pick_ok g k Ml rfl (fun i o p ho hp => e_call (ds := [rwD ls o, rwD ls p]) rfl (hun o ho p hp)) (fun _ _ => rfl) (fun _ _ => rfl)) rfl ?_
  refine q_set (d := .lst [headD ((WL ls).filter fun o => (WL ls).all fun p => Mm p o), headD ((WL ls).filter fun o => (WL ls).all fun p => Ml p o)]) (us := [(11, .lst [headD ((WL ls).filter fun o => (WL ls).all fun p => Mm p o), headD ((WL ls).filter fun o => (WL ls).all fun p => Ml p o)])]) (e_lst (e_cons (goal_ok ls _ rfl rfl) (e_cons (goal_ok ls _ rfl rfl) e_nil)) (show 2 ≤ LIM by decide)) rfl ?_
  refine q_ifF ?_ rfl
  refine e_or (a := false) (b := false) (e_not (a := true) (e_val (e_call (ds := [.lst [headD ((WL ls).filter fun o => (WL ls).all fun p => Mm p o), headD ((WL ls).filter fun o => (WL ls).all fun p => Ml p o)], .lst [headD ((WL ls).filter fun o => (WL ls).all fun p => Mm p o), headD ((WL ls).filter fun o => (WL ls).all fun p => Ml p o)]]) (e_cons (e_lst (e_cons (e_call (ds := [FD ls]) rfl ((m_most g).trans (congrArg some (first_most k)))) (e_cons (e_call (ds := [FD ls]) rfl ((m_least g).trans (congrArg some (first_least k)))) e_nil)) (show 2 ≤ LIM by decide)) (e_cons rfl e_nil)) (same_two _ _ (same_head g _) (same_head g _))))) fun _ => e_val (e_bin (d1 := ordD o0) (d2 := ordD o0) ?_ ?_ (ne_ord h1 h4 ho0))
  · refine e_bin (d1 := .lst ((WL ls).map ordD)) (d2 := .int 0) rfl rfl ?_
    rw [eW]
    exact (show atI (ordD o0 :: m0.map ordD) ((0 : Nat) : Int) = _ from atI_nat rfl)
  · refine e_bin (d1 := .lst ((OL ls.length).map ordD)) (d2 := .int 0) rfl rfl ?_
    rw [eO]
    exact (show atI (ordD o0 :: l0.map ordD) ((0 : Nat) : Int) = _ from atI_nat rfl)
end
end DL
/-! What is drawn: one of some, a lot, a stride, a line. -/
namespace DL
open PySem PySem.Spec PyProof.Rows L2
section
variable {P : Program} {w : World} {K : PySem.W.Frag} {mg : Str → Option Value} {base : Heap} {ca : Nat → Addr}
theorem u_d {X : Cx} {e : Expr} {f : Rho → Option D} (h : PE X e (tD X.K ca f)) : PE X e (tU X.K ca 0 (fun ρ P => ∃ d, f ρ = some d ∧ P d)) := PE.imp h fun σ H Q q => u_pure (fun _ _ _ z => z) q
/-! ### one of some -/
def A_of : List D → (D → Prop) → Prop := fun ds P => ∃ xs, ds = [.lst xs] ∧ xs ≠ [] ∧ xs.length ≤ 1000 ∧ ∀ d ∈ xs, P d
theorem sc_of : FnScope ["_law_urn", "_law_some_so"] ["_law_urn", "_law_some_so"] (defScope (top 83)) := ⟨rfl, rfl, rfl, by decide +kernel, rfl, by decide +kernel, by decide +kernel⟩
theorem c_of (V : Ev P w K mg base ca) (V2 : Ev2 K mg) : Cu P w K mg base ca "_law_of" ["_law_urn", "_law_some_so"] 2 1 A_of := by
  refine Cu.imp (Cu.mk' (N := ["_law_urn", "_law_some_so"]) (k := 1) (n := 1) V2.d_of sc_of (by decide) (fun f cdv A outer s H E hr => by
    exact uss_cons (us_ret (u_ixL (d_var (i := 1)) (u_call (c_take V V2) hr (Nat.le_refl _) (pv 0) (da_cons (d_len (by rfl) V.B.len (da_cons (d_var (i := 1)) da_nil)) da_nil)))) uss_nil)) fun ds Pp h => ?_
  obtain ⟨xs, rfl, hne, hl, hP⟩ := h
  refine ⟨rfl, .lst xs, rfl, [.int (xs.length : Nat)], rfl, ((xs.length : Nat) : Int), rfl, ?_, by omega, fun i h0 h1 => ?_⟩
  · have := List.length_pos_iff.mpr hne
    omega
  · obtain ⟨j, rfl⟩ := Int.eq_ofNat_of_zero_le h0
    have hj : j < xs.length := by omega
    have e : xs[j]? = some xs[j] := List.getElem?_eq_getElem hj
    exact ⟨xs[j], atI_nat e, hP _ (List.getElem_mem hj)⟩
/-! ### a lot -/
theorem lcU_sub {turn : D → (Option D → Prop) → Prop} : ∀ {l : List Str} {P : List D → Prop}, l.Nodup → (∀ n ∈ l, ∀ R, R (some (.str n)) → R none → turn (.str n) R) → (∀ p : Str → Bool, P ((l.filter p).map .str)) → lcU turn (l.map .str) P
  | [], P, _, _, h => h fun _ => true
  | n :: l, P, nd, ht, h => by
    obtain ⟨n1, n2⟩ := List.nodup_cons.mp nd
    have hc : ∀ (b : Bool) (p : Str → Bool), l.filter (fun m => if m = n then b else p m) = l.filter p := fun b p => List.filter_congr fun m hm => if_neg (fun z : m = n => n1 (z ▸ hm))
    refine ht n List.mem_cons_self _ ?_ ?_
    · refine lcU_sub n2 (fun m hm => ht m (List.mem_cons_of_mem _ hm)) fun p => ?_
      have := h fun m => if m = n then true else p m
      rw [List.filter_cons, if_pos (if_pos rfl), hc] at this
      exact this
    · refine lcU_sub n2 (fun m hm => ht m (List.mem_cons_of_mem _ hm)) fun p => ?_
      have := h fun m => if m = n then false else p m
      rw [List.filter_cons, if_neg (by rw [if_pos rfl]; exact Bool.false_ne_true), hc] at this
      exact this
def A_lot : List D → (D → Prop) → Prop := fun ds P => ds = [] ∧ ∀ p r, P (.tup [.tup ((LBL.filter p).map .str), .bl r])
theorem sc_lot : FnScope ["_law_urn", "_law_found", "_law_own"] ["_law_urn"] (defScope (top 85)) := ⟨rfl, rfl, rfl, by decide +kernel, rfl, by decide +kernel, by decide +kernel⟩
theorem c_lot (V : Ev P w K mg base ca) (V2 : Ev2 K mg) : Cu P w K mg base ca "_law_lot" ["_law_urn"] 2 5 A_lot := by
  refine Cu.imp (Cu.mk' (N := ["_law_urn", "_law_found", "_law_own"]) (k := 1) (n := 5) V2.d_lot sc_lot (by decide) (fun f cdv A outer s H E hr => by
    have nd : (["_law_urn", "_law_found", "_law_own"] : List Str).Nodup := sc_lot.nd
    exact uss_cons (us_setLc (i := 1) (own := [("_law_own", 2)]) (w := 0) (w1 := 1) (w2 := 0) 4 (by decide) rfl (by decide) rfl nd rfl rfl (sw_true rfl rfl rfl (by decide +kernel))
        (ui_pure (di_seq (d_lst (da_cons d_str (da_cons d_str (da_cons d_str (da_cons d_str da_nil))))))) (blkOk_by (by kernel_rfl)) (fun _ _ _ _ _ => dg_name (i := 2) nd)
        (fun _ _ _ _ _ => uts_one (u_eqT hr.units (u_call (c_take V V2) hr (Nat.le_refl _) (pv 0) (da_cons d_int da_nil)) d_int)) (fun _ _ _ _ _ => u_d (d_var (i := 2))))
      (uss_cons (us_ret (u_tup2 (d_tuple (by rfl) V.B.tuple (da_cons (d_var (i := 1)) da_nil)) (u_eq hr.units (u_call (c_take V V2) hr (Nat.le_refl _) (pv 0) (da_cons d_int da_nil)) d_int))) uss_nil))) fun ds Pp h => ?_
  obtain ⟨rfl, hP⟩ := h
  refine ⟨rfl, LBL.map .str, rfl, by decide, by decide, ?_⟩
  refine lcU_sub LBL_nd (fun n hn R h1 h2 => ?_) fun p => ?_
  · refine ⟨[(2, .str n)], rfl, rfl, [.int 3], rfl, 3, rfl, by decide, by decide, fun i h0 h3 => ⟨.int 0, rfl, i == 0, rfl, ?_⟩⟩
    cases q : i == 0 with
    | true =>
      rw [if_pos rfl]
      exact ⟨.str n, rfl, h1⟩
    | false =>
      rw [if_neg Bool.false_ne_true]
      exact h2
  · refine ⟨.tup ((LBL.filter p).map .str), rfl, [.int 7], rfl, 7, rfl, by decide, by decide, fun i h0 h1 => ⟨.int 0, rfl, .bl (i == 0), rfl, hP p _⟩⟩
/-! ### a stride -/
theorem tst2 {ρ : Rho} {a b : Str} {r : Bool} (h : x_var 2 ρ = some (.str a)) (hc : isBlD (dEq (.str a) (.str b)) r = true) : t_val (x_bin dEq (x_var 2) (x_c (.str b))) ρ = some r := e_val (e_bin h rfl (isBlD_ok hc))
def sortsD : D := .lst [.str "cut", .str "cut", .str "unwrap", .str "unwrap", .str "drop"]
def A_stride : List D → (D → Prop) → Prop := fun ds P => ds = [sortsD] ∧ ∀ s, okSd s → P (strD s)
theorem sc_stride : FnScope ["_law_urn", "_law_sorts_so", "_law_sort_so", "_law_one_so", "_law_two_so"] ["_law_urn", "_law_sorts_so"] (defScope (top 86)) := ⟨rfl, rfl, rfl, by decide +kernel, rfl, by decide +kernel, by decide +kernel⟩
theorem c_stride (V : Ev P w K mg base ca) (V2 : Ev2 K mg) : Cu P w K mg base ca "_law_stride" ["_law_urn", "_law_sorts_so"] 3 7 A_stride := by
  refine Cu.imp (Cu.mk' (N := ["_law_urn", "_law_sorts_so", "_law_sort_so", "_law_one_so", "_law_two_so"]) (k := 2) (n := 7) V2.d_stride sc_stride (by decide) (fun f cdv A outer s H E hr => by
    have nd : (["_law_urn", "_law_sorts_so", "_law_sort_so", "_law_one_so", "_law_two_so"] : List Str).Nodup := sc_stride.nd
    exact uss_cons (us_set (i := 2) nd (by decide) (u_call (c_of V V2) hr (Nat.le_refl _) (pv 0) (da_cons (d_var (i := 1)) da_nil)))
      (uss_cons (us_if (w := 1) (d_eqT hr.units (d_var (i := 2)) d_str) (uss_cons (us_ret (u_tup2 (d_var (i := 2)) (u_add d_int (u_call (c_take V V2) hr (by decide) (pv 0) (da_cons d_int da_nil))))) uss_nil) (uss_le uss_nil (by decide)))
      (uss_cons (us_if (w := 0) (d_eqT hr.units (d_var (i := 2)) d_str) uss_never uss_nil)
      (uss_cons (us_ret (u_tup2 (d_var (i := 2)) (u_call (c_lot V V2) hr (Nat.le_refl _) (pv 0) da_nil))) uss_nil))))) fun ds Pp h => ?_
  obtain ⟨rfl, hP⟩ := h
  refine ⟨rfl, [sortsD], rfl, _, rfl, by decide, by decide, fun d hd => ?_⟩
  have hd' : d = .str "cut" ∨ ∃ dr : Bool, d = .str (if dr = true then "drop" else "unwrap") := by
    simp only [List.mem_cons, List.not_mem_nil, or_false] at hd
    rcases hd with h | h | h | h | h
    · exact .inl h
    · exact .inl h
    · exact .inr ⟨false, h⟩
    · exact .inr ⟨false, h⟩
    · exact .inr ⟨true, h⟩
  rcases hd' with rfl | ⟨dr, rfl⟩
  · refine ⟨true, tst2 rfl (by decide +kernel), ?_⟩
    rw [if_pos rfl]
    refine ⟨.str "cut", rfl, .int 1, rfl, [.int 4], rfl, 4, rfl, by decide, by decide, fun i h0 h1 => ⟨.int (1 + i), rfl, ?_⟩⟩
    obtain ⟨j, rfl⟩ := Int.eq_ofNat_of_zero_le h0
    have := hP (.cut j) (show j ≤ 3 by omega)
    rw [show (1 : Int) + (j : Nat) = ((j + 1 : Nat) : Int) by omega]
    exact this
  · refine ⟨false, tst2 rfl (by cases dr <;> decide +kernel), ?_⟩
    rw [if_neg Bool.false_ne_true]
    refine ⟨false, tst2 rfl (by cases dr <;> decide +kernel), ?_⟩
    rw [if_neg Bool.false_ne_true]
    exact ⟨_, rfl, [], rfl, rfl, fun p r => hP (.lot dr p r) trivial⟩
/-! ### a line -/
theorem lcU_map {α : Type} {turn : D → (Option D → Prop) → Prop} {φ : α → D} {ok : α → Prop} : ∀ {xs : List D} {P : List D → Prop}, (∀ d ∈ xs, ∀ R, (∀ a, ok a → R (some (φ a))) → turn d R) → (∀ l : List α, l.length = xs.length → (∀ a ∈ l, ok a) → P (l.map φ)) → lcU turn xs P
  | [], P, _, h => h [] rfl fun _ z => by cases z
  | x :: xs, P, ht, h => by
    refine ht x List.mem_cons_self _ fun a ha => lcU_map (fun d hd => ht d (List.mem_cons_of_mem _ hd)) fun l hl hk => ?_
    refine h (a :: l) (by rw [List.length_cons, List.length_cons, hl]) fun b hb => ?_
    rcases List.mem_cons.mp hb with rfl | hb
    · exact ha
    · exact hk b hb
def A_line : List D → (D → Prop) → Prop := fun ds P => ds = [.int 2] ∧ ∀ ss : List Sdi, ss.length ≤ 2 → (∀ s ∈ ss, okSd s) → P (lineD ss)
theorem sc_line : FnScope ["_law_urn", "_law_most_so", "_law_sorts_so", "_law_turn"] ["_law_urn", "_law_most_so"] (defScope (top 87)) := ⟨rfl, rfl, rfl, by decide +kernel, rfl, by decide +kernel, by decide +kernel⟩
theorem c_line (V : Ev P w K mg base ca) (V2 : Ev2 K mg) : Cu P w K mg base ca "_law_plain_line" ["_law_urn", "_law_most_so"] 4 15 A_line := by
  refine Cu.imp (Cu.mk' (N := ["_law_urn", "_law_most_so", "_law_sorts_so", "_law_turn"]) (k := 3) (n := 15) V2.d_line sc_line (by decide) (fun f cdv A outer s H E hr => by
    have nd : (["_law_urn", "_law_most_so", "_law_sorts_so", "_law_turn"] : List Str).Nodup := sc_line.nd
    exact uss_le (uss_cons (us_setD (i := 2) nd (by decide) (d_lst (da_cons d_str (da_cons d_str (da_cons d_str (da_cons d_str (da_cons d_str da_nil)))))))
      (uss_cons (us_ret (u_tuple V.B.tuple (u_lc (own := [("_law_turn", 3)]) (w := 1) (w1 := 0) (w2 := 7) 2 rfl (by decide) rfl nd
        (ui_range V.B.range (u_call (c_take V V2) hr (by decide) (pv 0) (da_cons (d_add (d_var (i := 1)) d_int) da_nil))) (blkOk_by (by kernel_rfl)) (fun _ _ _ _ _ => dg_name (i := 3) nd) (fun _ _ _ _ _ => uts_nil)
        (fun _ _ _ _ _ => u_call (c_stride V V2) hr (Nat.le_refl _) (pv 0) (da_cons (d_var (i := 2)) da_nil))))) uss_nil)) (by decide))) fun ds Pp h => ?_
  obtain ⟨rfl, hP⟩ := h
  refine ⟨rfl, sortsD, rfl, [.int 3], rfl, 3, rfl, by decide, by decide, fun i h0 h1 => ?_⟩
  obtain ⟨j, rfl⟩ := Int.eq_ofNat_of_zero_le h0
  refine ⟨j, rfl, by omega, by rw [List.length_map, List.length_range]; omega, ?_⟩
  refine lcU_map (φ := strD) (ok := okSd) (fun d hd R hR => ?_) fun l hl hk => ⟨_, rfl, ?_⟩
  · exact ⟨[(3, d)], rfl, rfl, [sortsD], rfl, rfl, fun s hs => hR s hs⟩
  · rw [List.length_map, List.length_range] at hl
    exact hP l (by omega) hk
end
end DL
/-! _law_right. -/
namespace DL
open PySem PySem.Spec PyProof.Rows L2
theorem by_hand : R_w_by_hand_right [] = some (.bl true) := isTrD_ok (by decide +kernel)
section
variable {X : Cx} {ca : Nat → Addr} {p pos : Pos} {k n : Nat} {ps : List Str} {x : Str} {F : List D → Option D}
theorem d_callC0 (c : Cl X.prog X.w X.K X.mg X.base ca x ps k F) (hr : Room n X.A) (hk : k ≤ n) (hg : Gl X x := by rfl) (hdb : (x == ("__debug__" : Str)) = false := by decide) : PE X (.Call (.Name x p) [] [] pos) (tD X.K ca (x_call F a_nil)) := by
  obtain ⟨fa, fd, FO, hm, kp, hb⟩ := c.ex
  refine PE.imp (pe_call0 FO (hr.mono hk) hg hm kp hb .nil pass0 hdb) fun σ H Q h => ?_
  obtain ⟨G, ρ, d, S, e, k⟩ := h
  exact ⟨G, [], d, S.le, .nil, e, fun v H' G' g r => k v H' G' g r⟩
end
def urD (a b c : Int) : D := .lst [.int a, .int b, .int c]
/-- between the turns: the urn at slot 0; what stood ahead stands -/
structure UI (H0 : Hp) (u0 : Addr) (m : Nat) (σ : L2.St) (H : Hp) : Prop where
  len : σ.length = 16
  ur : ∃ a, σ[0]? = some (some (.ref a)) ∧ (a = u0 ∨ H0 a = none) ∧ Ur H a m
  keep : ∀ b o, b ≠ u0 → H0 b = some o → H b = some o
section
variable {K : PySem.W.Frag} {ca : Nat → Addr} {H0 H G : Hp} {u0 a : Addr} {m : Nat} {σ : L2.St} {F : SF} {De : Ends} {ρr : Rho} {ρ ρ' : RhoS}
theorem plain_step {x y z : Int} (hu : σ[0]? = some (some (.ref a))) (ha : a = u0 ∨ H0 a = none) (hH : H a = some (.lst [.int x, .int y, .int z])) (hz : 0 ≤ z ∧ z ≤ m) (keep : ∀ b o, b ≠ u0 → H0 b = some o → H b = some o)
    (S : Sg K ca G (cut a H) σ ρr) (hG : ∀ b o, G b = some o → b = u0 ∨ H0 b = none) (hl : ρ.length = 16) (hs : σ.length = 16) (h0 : ρ[0]? = some (.d (urD x y z))) (hat : ∀ (i : Nat) (d : D), i ≠ 0 → ρ[i]? = some (.d d) → ρr[i]? = some (some d)) (hno : ∀ (i : Nat) (s : Sl), ρ[i]? = some s → ¬ isOwn s)
    (e : F ρ = some (.nx ρ')) (e0 : ρ'[0]? = some (.d (urD x y z))) (e1 : ρ'.length = 16) (k : ∀ σ' H', UI H0 u0 m σ' H' → De.nx σ' H') : tS K ca F De σ H := by
  have ga : G a = none := S.le.nn cut_u
  have ex : Ex G (upd G a (.lst [.int x, .int y, .int z])) := Ex.new ga
  refine ⟨upd G a (.lst [.int x, .int y, .int z]), H, upd G a (.lst [.int x, .int y, .int z]), ρ, .nx ρ', ⟨Ex.refl _, Ex.refl _, fun b o q => ?_, fun b o q => .inl q, by rw [hl, hs], fun i d q => ?_, fun _ => 0, fun i s q ho => absurd ho (hno i s q), fun i j s t q ho => absurd ho (hno i s q)⟩, e, fun σ' H' G' S' => k σ' H' ?_⟩
  · by_cases hb : b = a
    · subst hb; rw [upd_same] at q; cases q; exact .inl hH
    · rw [upd_ne hb] at q; exact S.le.uncut b o q
  · by_cases hi : i = 0
    · subst hi
      rw [h0] at q
      cases q
      exact ⟨.ref a, hu, .lst upd_same (show 3 ≤ LIM by decide) (.cons (.int x) (.cons (.int y) (.cons (.int z) .nil)))⟩
    · obtain ⟨v, q1, q2⟩ := S.at_ i d (hat i d hi q)
      exact ⟨v, q1, q2.mono ex⟩
  · refine ⟨by rw [← S'.len, e1], ?_, fun b o hb q => S'.h0 b o (keep b o hb q)⟩
    obtain ⟨v, hv, rv⟩ := S'.at_ 0 _ e0
    obtain ⟨a', vs, rfl, hq, _, rs⟩ := rv.lstI
    obtain ⟨vs1, q1⟩ : ∃ q, q = vs := ⟨vs, rfl⟩
    have evs : vs = [.int x, .int y, .int z] := by
      cases rs with
      | cons r1 rs => cases rs with
        | cons r2 rs => cases rs with
          | cons r3 rs => cases rs; rw [r1.intI, r2.intI, r3.intI]
    refine ⟨a', hv, ?_, x, y, z, by rw [S'.le.lst hq, evs], hz.1, hz.2⟩
    rcases S'.nw a' _ hq with q | q
    · by_cases hb : a' = a
      · rw [hb]; exact ha
      · rw [upd_ne hb] at q; exact hG a' _ q
    · by_cases hb : a' = u0
      · exact .inl hb
      · refine .inr ?_
        cases q2 : H0 a' with
        | none => rfl
        | some o => rw [keep a' o hb q2] at q; cases q
theorem turn_ok {F1 : WpS} {w1 : Nat} (hF : ∀ N R, (∀ ls, Good ls → Oks ls → N ((List.replicate 16 none).set 2 (some (LD ls)))) → F1 (List.replicate 16 none) N R) (I : UI H0 u0 m σ H) (hm : m + w1 ≤ LIMU) (k : ∀ σ' H', UI H0 u0 (m + w1) σ' H' → De.nx σ' H') :
    tSeq (tUS K ca w1 F1) (tS K ca F_right1) De σ H := by
  obtain ⟨a, hu, ha, U⟩ := I.ur
  refine ⟨fun _ => none, a, m, List.replicate 16 none, fun ρ' => ∃ ls, Good ls ∧ Oks ls ∧ ρ' = (List.replicate 16 none).set 2 (some (LD ls)), fun _ => False, ⟨fun b o q => (by cases q), by rw [I.len]; rfl, fun i d q => ?_⟩, U, hu, hm, hF _ _ fun ls g k => ⟨ls, g, k, rfl⟩, fun ρr σ' H' G' hρ g S U' hu' => ?_, fun _ _ _ _ h => h.elim⟩
  · have := List.eq_of_mem_replicate (List.mem_of_getElem? q)
    cases this
  · obtain ⟨ls, gd, ok, rfl⟩ := hρ
    obtain ⟨x, y, z, hH, z0, z1⟩ := U'
    obtain ⟨ρ', e, e0, e1⟩ := m_right gd ok (.d (urD x y z)) .un .un .un .un .un .un .un .un .un .un .un .un .un .un
    have keep' : ∀ b o, b ≠ u0 → H0 b = some o → H' b = some o := fun b o hb q => by
      refine g.keepU ?_ (I.keep b o hb q)
      rintro rfl
      rcases ha with h | h
      · exact hb h
      · rw [h] at q; cases q
    have hs : σ'.length = 16 := by rw [← S.len, List.length_set, List.length_replicate]
    refine plain_step hu' ha hH ⟨z0, z1⟩ keep' S (fun b o q => ?_) rfl hs rfl (fun i d hi q => ?_) (fun i s q => ?_) e e0 e1 k
    · rcases g.nw b o q with h | h
      · cases h
      · by_cases hb : b = u0
        · exact .inl hb
        · refine .inr ?_
          cases q2 : H0 b with
          | none => rfl
          | some o2 =>
            exfalso
            have h1 := I.keep b o2 hb q2
            have hba : b ≠ a := by
              rintro rfl
              rcases ha with h | h
              · exact hb h
              · rw [h] at q2; cases q2
            rw [cut_ne hba, h1] at h
            cases h
    · match i, hi, q with
      | 1, _, q => cases q
      | 2, _, q => cases q; rfl
      | 3, _, q => cases q
      | 4, _, q => cases q
      | 5, _, q => cases q
      | 6, _, q => cases q
      | 7, _, q => cases q
      | 8, _, q => cases q
      | 9, _, q => cases q
      | 10, _, q => cases q
      | 11, _, q => cases q
      | 12, _, q => cases q
      | 13, _, q => cases q
      | 14, _, q => cases q
      | 15, _, q => cases q
      | i + 16, _, q => cases q
    · have : s = .un ∨ ∃ d, s = .d d := by
        have hm := List.mem_of_getElem? q
        simp only [List.mem_cons, List.not_mem_nil, or_false] at hm
        rcases hm with h | h | h | h | h | h | h | h | h | h | h | h | h | h | h | h
        · exact .inr ⟨_, h⟩
        · exact .inl h
        · exact .inr ⟨_, h⟩
        all_goals exact .inl h
      rcases this with rfl | ⟨d, rfl⟩ <;> exact fun z => z
end
def spR : Sp := fun vs H Q _ => ∃ u m, vs = [.ref u] ∧ Ur H u m ∧ m + 488 ≤ LIMU ∧ ∀ H', (∀ a o, a ≠ u → H a = some o → H' a = some o) → Q (.bl true) H'
section
variable {P : Program} {w : World} {K : PySem.W.Frag} {mg : Str → Option Value} {base : Heap} {ca : Nat → Addr}
theorem sc_right : FnScope ["_law_urn", "_law_turn", "_law_lines", "_law_some", "_law_ways_so", "_law_rows_so", "_law_least_so", "_law_order_so", "_law_say_so", "_law_most", "_law_few", "_law_goal", "_law_own", "_law_line", "_law_k", "_law_far"] ["_law_urn"] (defScope (top 100)) := ⟨rfl, rfl, rfl, by decide +kernel, rfl, by decide +kernel, by decide +kernel⟩
theorem right0 (ρ : RhoS) : F_right0 ρ = some (.nx ρ) := by
  have h : (t_not (t_val (x_call R_w_by_hand_right a_nil))) (peek ρ) = some false := e_not (a := true) (e_val (e_call (ds := []) rfl by_hand))
  unfold F_right0 s_if
  rw [h]
  rfl
theorem c_right (V : Ev P w K mg base ca) (V2 : Ev2 K mg) : ∃ fa fd, FnOk P w K mg base CX0 14 fa fd ["_law_urn"] spR ∧ mg "_law_right" = some (.ref fa) ∧ PySem.W.keepIn K (.ref fa) = true ∧ L2.Binds K fd ["_law_urn"] [] := by
  obtain ⟨fa, fd, FD, hm, hb'⟩ := V2.d_right.ex
  refine ⟨fa, fd, FD.ok (k := 13) sc_right (fun vs H Q E h => ?_) (fun cdv A outer s H vs Q E hr h => ?_), hm, FD.kp, hb'⟩
  · obtain ⟨u, m, rfl, _⟩ := h
    rfl
  · obtain ⟨u, m, rfl, U, hm', k⟩ := h
    have nd : (["_law_urn", "_law_turn", "_law_lines", "_law_some", "_law_ways_so", "_law_rows_so", "_law_least_so", "_law_order_so", "_law_say_so", "_law_most", "_law_few", "_law_goal", "_law_own", "_law_line", "_law_k", "_law_far"] : List Str).Nodup := sc_right.nd
    refine ⟨tSeq (tS K ca F_right0) (tSeq (tFor (iRng1 (tCons (tC (.int 8)) tNil)) (gName 1) (tSeq (tUS K ca 61 _) (tS K ca F_right1))) (tSeq (tRet (tC (.bl true))) tNext)), PSs.nox (pss_cons (ds_if (dt_not (d_test (d_callC0 (c_w_by_hand_right V) hr (by decide)))) (dss_cons (ds_ret (d_bl))
          (dss_nil)) (dss_nil))
      (pss_cons (ps_for PassesOwn.never rfl (pi_range1 rfl V.B.range (pa_cons pe_int pa_nil)) (pg_name (i := 1) nd rfl (.inl rfl))
        (pss_cons (us_setLc (i := 2) (own := [("_law_own", 12)]) (w := 1) (w1 := 0) (w2 := 15) 4 (by decide) rfl (by decide) rfl nd rfl rfl (sw_true rfl rfl rfl (by decide +kernel))
          (ui_range V.B.range (u_add d_int (u_call (c_take V V2) hr (by decide) (pv 0) (da_cons d_int da_nil)))) (blkOk_by (by kernel_rfl)) (fun _ _ _ _ _ => dg_name (i := 12) nd) (fun _ _ _ _ _ => uts_nil)
          (fun _ _ _ _ _ => u_call (c_line V V2) hr (by decide) (pv 0) (da_cons d_int da_nil)))
        (dss_cons (ds_par rfl nd (by decide) (d_lc (own := [("_law_line", 13)]) rfl nd (di_seq (d_var (i := 2))) (blkOk_by (by kernel_rfl)) (fun _ _ _ _ _ => (dg_name (i := 13) nd)) (fun _ _ _ _ _ => dts_nil) (fun _ _ _ _ _ => (d_callC (c_w_host V) hr (by decide) (da_cons (d_var (i := 13)) da_nil)))) (d_callC (c_w_orders V 6) hr (by decide) (da_cons (d_tupRg V.B.tuple V.B.range (d_len rfl V.B.len (da_cons (d_var (i := 2)) da_nil))) da_nil)))
          (dss_cons (ds_newLLc rfl nd)
          (dss_cons (ds_for PassesOwn.never rfl (di_seq (d_callC (c_w_outcomes V) hr (by decide) (da_cons (d_var (i := 2)) da_nil))) (dg_tup rfl (dg_cons (dg_name (i := 7) nd) (dg_cons (dg_name (i := 8) nd) dg_nil))) (dss_cons (ds_appM (pe_var (i := 5) rfl (by first | exact Or.inl rfl | exact Or.inr (Or.inl rfl) | exact Or.inr (Or.inr rfl))) (d_callC (c_w_row V) hr (by decide) (da_cons (d_var (i := 2)) (da_cons (d_var (i := 7)) da_nil))))
          (dss_cons (ds_appM (pe_var (i := 6) rfl (by first | exact Or.inl rfl | exact Or.inr (Or.inl rfl) | exact Or.inr (Or.inr rfl))) (d_var (i := 7)))
          (dss_nil))))
          (dss_frz (dss_frz
          (dss_cons (ds_setLc (i := 9) (own := [("_law_k", 14), ("_law_own", 12)]) rfl nd rfl rfl (sw_true rfl rfl rfl (by decide +kernel)) (di_enum rfl V.B.enumerate (d_var (i := 5))) (blkOk_by (by kernel_rfl)) (fun _ _ _ _ _ => (dg_tup rfl (dg_cons (dg_name (i := 14) nd) (dg_cons (dg_name (i := 12) nd) dg_nil)))) (fun _ _ _ _ _ => dts_one (d_test (d_all rfl rfl V.B.all (da_cons (d_lc (own := [("_law_far", 15)]) rfl nd (di_seq (d_var (i := 5))) (blkOk_by (by kernel_rfl)) (fun _ _ _ _ _ => (dg_name (i := 15) nd)) (fun _ _ _ _ _ => dts_nil) (fun _ _ _ _ _ => (d_callC (c_w_under V) hr (by decide) (da_cons (d_var (i := 15)) (da_cons (d_var (i := 12)) da_nil))))) da_nil)))) (fun _ _ _ _ _ => (d_var (i := 14))))
          (dss_cons (ds_setLc (i := 10) (own := [("_law_k", 14), ("_law_own", 12)]) rfl nd rfl rfl (sw_true rfl rfl rfl (by decide +kernel)) (di_enum rfl V.B.enumerate (d_var (i := 5))) (blkOk_by (by kernel_rfl)) (fun _ _ _ _ _ => (dg_tup rfl (dg_cons (dg_name (i := 14) nd) (dg_cons (dg_name (i := 12) nd) dg_nil)))) (fun _ _ _ _ _ => dts_one (d_test (d_all rfl rfl V.B.all (da_cons (d_lc (own := [("_law_far", 15)]) rfl nd (di_seq (d_var (i := 5))) (blkOk_by (by kernel_rfl)) (fun _ _ _ _ _ => (dg_name (i := 15) nd)) (fun _ _ _ _ _ => dts_nil) (fun _ _ _ _ _ => (d_callC (c_w_under V) hr (by decide) (da_cons (d_var (i := 12)) (da_cons (d_var (i := 15)) da_nil))))) da_nil)))) (fun _ _ _ _ _ => (d_var (i := 14))))
          (dss_cons (ds_set nd (d_lst (da_cons (d_ifx (d_neT hr.units (d_var (i := 9)) (d_lst da_nil)) (d_ix (hu_of hr) (d_var (i := 6)) (d_ix (hu_of hr) (d_var (i := 9)) (d_int))) (d_non)) (da_cons (d_ifx (d_neT hr.units (d_var (i := 10)) (d_lst da_nil)) (d_ix (hu_of hr) (d_var (i := 6)) (d_ix (hu_of hr) (d_var (i := 10)) (d_int))) (d_non)) da_nil))))
          (dss_cons (ds_if (PW.pt (dw_or (dt_not (d_test (d_callC (c_w_same V 4) hr (by decide) (da_cons (d_lst (da_cons (d_callC (c_most_order V) hr (by decide) (da_cons (d_var (i := 3)) da_nil)) (da_cons (d_callC (c_least_order V) hr (by decide) (da_cons (d_var (i := 3)) da_nil)) da_nil))) (da_cons (d_var (i := 11)) da_nil))))) (dw_or1 (d_neT hr.units (d_ix (hu_of hr) (d_var (i := 6)) (d_int)) (d_ix (hu_of hr) (d_var (i := 4)) (d_int)))))) (dss_cons (ds_ret (d_bl))
          (dss_nil)) (dss_nil))
          (dss_nil))))))))))))
      (pss_cons (ps_ret pe_bl) pss_nil))), ?_⟩
    obtain ⟨x, y, z, hH, z0, z1⟩ := U
    refine plain_step (G := fun _ => none) (ρr := List.replicate 16 none) (ρ := .d (urD x y z) :: List.replicate 15 .un) (a := u) (u0 := u) (H0 := H) (m := m) rfl (.inl rfl) hH ⟨z0, z1⟩ (fun _ _ _ q => q) ⟨fun b o q => (by cases q), rfl, fun i d q => ?_⟩ (fun b o q => by cases q) rfl rfl rfl (fun i d hi q => ?_) (fun i s q => ?_) (right0 _) rfl rfl fun σ1 H1 I1 => ?_
    · have := List.eq_of_mem_replicate (List.mem_of_getElem? q)
      cases this
    · cases i with
      | zero => exact absurd rfl hi
      | succ i =>
        rw [List.getElem?_cons_succ] at q
        have := List.eq_of_mem_replicate (List.mem_of_getElem? q)
        cases this
    · rcases List.mem_cons.mp (List.mem_of_getElem? q) with rfl | h
      · exact fun z => z
      · rw [List.eq_of_mem_replicate h]; exact fun z => z
    refine ⟨8, rfl, by decide, by decide, for_range (lo := 0) (n := 8) (fun i σ H' => UI H u (m + i * 61) σ H') (by rw [Nat.zero_mul, Nat.add_zero]; exact I1) (fun i σ2 H2 hi I2 => ?_) fun σ2 H2 I2 => ?_⟩
    · have I3 : UI H u (m + i * 61) (σ2.set 1 (some (.int (0 + i)))) H2 := by
        obtain ⟨b, q1, q2, q3⟩ := I2.ur
        exact ⟨by rw [List.length_set]; exact I2.len, ⟨b, by rw [List.getElem?_set_ne (by decide)]; exact q1, q2, q3⟩, I2.keep⟩
      refine turn_ok (fun N R hN => ?_) I3 (by omega) fun σ' H' I4 => ?_
      · refine ⟨.int 1, rfl, [.int 4], rfl, 4, rfl, by decide, by decide, fun i h0 h1 => ⟨.int (1 + i), rfl, ?_⟩⟩
        obtain ⟨j, rfl⟩ := Int.eq_ofNat_of_zero_le h0
        refine ⟨1 + j, by rw [Int.natCast_add]; rfl, by omega, by rw [List.length_map, List.length_range]; omega, ?_⟩
        refine lcU_map (φ := lineD) (ok := fun l => l.length ≤ 2 ∧ ∀ s ∈ l, okSd s) (fun d hd R hR => ?_) fun l hl hk => ?_
        · exact ⟨[(12, d)], rfl, rfl, [.int 2], rfl, rfl, fun ss h1 h2 => hR ss ⟨h1, h2⟩⟩
        · rw [List.length_map, List.length_range] at hl
          exact hN l ⟨by omega, by omega, fun a ha => (hk a ha).1⟩ fun a ha => (hk a ha).2
      · have : m + i * 61 + 61 = m + (i + 1) * 61 := by omega
        rw [this] at I4
        exact I4
    · exact k H2 I2.keep
end
end DL
/-! _law_box, _law_cells, law. -/
namespace DL
open PySem PySem.Spec PyProof.Rows L2
section
variable {P : Program} {w : World} {K : PySem.W.Frag} {mg : Str → Option Value} {base : Heap} {ca : Nat → Addr}
theorem sql_ex {H H' : Hp} {a : Addr} {xs : List L2.V} (h : SqL K H a xs) (e : Ex H H') : SqL K H' a xs := by
  rcases h with (h | ⟨o, h⟩) | h
  · exact .inl (.inl (e _ _ h))
  · exact .inl (.inr ⟨o, e _ _ h⟩)
  · exact .inr h
/-! ### the source -/
def spBox (K : PySem.W.Frag) : Sp := fun vs H Q _ => ∃ (a : Addr) (ns : List Int) (k : Nat), vs = [.ref a, .int (k : Nat)] ∧ SqL K H a (ns.map L2.V.int) ∧ k < ns.length ∧ ns.length ≤ 1000 ∧ ∀ p (x y : Int), H p = none → Q (.ref p) (upd H p (.lst [.int x, .int y, .int 0]))
theorem sc_box : FnScope ["_law_script", "_law_k", "_law_cell"] ["_law_script", "_law_k"] (defScope (top 80)) := ⟨rfl, rfl, rfl, by decide +kernel, rfl, by decide +kernel, by decide +kernel⟩
theorem c_box (V1 : Ev P w K mg base ca) (V2 : Ev2 K mg) : ∃ fa fd, FnOk P w K mg base CX0 1 fa fd ["_law_script", "_law_k"] (spBox K) ∧ mg "_law_box" = some (.ref fa) ∧ PySem.W.keepIn K (.ref fa) = true ∧ L2.Binds K fd ["_law_script", "_law_k"] [] := by
  obtain ⟨fa, fd, FD, hm, hb'⟩ := V2.d_box.ex
  refine ⟨fa, fd, FD.ok (k := 0) sc_box (fun vs H Q E h => ?_) (fun cdv A outer s H vs Q E hr h => ?_), hm, FD.kp, hb'⟩
  · obtain ⟨a, ns, k, rfl, _⟩ := h
    rfl
  · obtain ⟨a, ns, k, rfl, hS, hk, hl, kk⟩ := h
    have nd := sc_box.nd
    refine ⟨_, PSs.nox (pss_cons (ps_set (i := 2) nd rfl (.inl rfl) (pe_ifExp (pt_cmpR op_lt (pv 1) (pe_callB call_len (by rfl) V1.B.len PySem.boot_len (pa_cons (pv 0) pa_nil)) (nomark _)) (pe_ix ix_list (pv 0) (pv 1) (fun _ _ => rfl)) pe_int))
      (pss_cons (ps_ret (pe_lst (pa_cons (pe_op op_mul (pe_callB call_abs (by rfl) V1.B.abs (by decide +kernel) (pa_cons (pv 2) pa_nil)) (pe_callTy call_int1 (by rfl) V1.B.int (by decide +kernel) (pa_cons (pe_cmpR op_ge (pe_callB call_abs (by rfl) V1.B.abs (by decide +kernel) (pa_cons (pv 2) pa_nil)) (pe_op op_pow pe_int pe_int) (nomark _)) pa_nil)))
        (pa_cons (pe_op op_add (pe_op op_add (pe_op op_mod (pe_callTy call_int1 (by rfl) V1.B.int (by decide +kernel) (pa_cons (pv 2) pa_nil)) pe_int) (pe_op op_mul pe_int (pv 1))) pe_int) (pa_cons pe_int pa_nil))))) pss_nil)), ?_⟩
    have hx : (ns.map L2.V.int)[k]? = some (.int ns[k]) := by rw [List.getElem?_map, List.getElem?_eq_getElem hk]; rfl
    refine ⟨.int k, rfl, .ref a, rfl, _, (ns.map L2.V.int).length, rfl, .inl ⟨_, hS, rfl⟩, _, _, rfl, rfl, _, rfl, ?_⟩
    rw [decide_eq_true (show ((k : Nat) : Int) < ((ns.map L2.V.int).length : Nat) by rw [List.length_map]; omega)]
    refine iteT ⟨.ref a, rfl, .int k, rfl, a, _, _, .int ns[k], rfl, rfl, hS, atI_nat hx, ?_⟩
    generalize ns[k] = n
    refine ⟨.int n, rfl, n, rfl, .int n, rfl, n, rfl, 10, 18, rfl, rfl, ⟨by decide, by decide, by decide⟩, _, _, rfl, rfl, .inr ⟨_, rfl, _, _, rfl, rfl, .inr ?_, .int n, rfl, .inl ⟨n, rfl, n, 2305843009213693951, rfl, rfl, (show (0 : Int) < 2305843009213693951 by decide), .int k, rfl, 39373, k, rfl, rfl, .inl ⟨by decide, by decide⟩, _, _, rfl, rfl, _, 8621095, rfl, rfl, (show 3 ≤ sizeLine by decide), fun p hp => kk p _ _ hp⟩⟩⟩
    generalize decide ((10 : Int) ^ (18 : Int).toNat ≤ if n < 0 then -n else n) = b
    cases b <;> exact ⟨by decide, by decide⟩
/-! ### the cells -/
def spCells (K : PySem.W.Frag) : Sp := fun vs H Q _ => ∃ (a : Addr) (ns : List Int), vs = [.ref a, .int 2] ∧ SqL K H a (ns.map L2.V.int) ∧ ns.length ≤ 63 ∧ ∀ H' p (ms : List Int), Ex H H' → H' p = some (.lst (ms.map L2.V.int)) → ms.length ≤ 2 → Q (.ref p) H'
theorem sc_cells : FnScope ["_law_script", "_law_top", "_law_cells_here", "_law_k", "_law_cell", "_law_at_so"] ["_law_script", "_law_top"] (defScope (top 82)) := ⟨rfl, rfl, rfl, by decide +kernel, rfl, by decide +kernel, by decide +kernel⟩
structure CI (H0 : Hp) (p q : Addr) (ys : List Int) (σ : L2.St) (H : Hp) : Prop where
  s1 : σ[1]? = some (some (.int 2))
  s2 : σ[2]? = some (some (.ref p))
  len : σ.length = 6
  ex : Ex H0 H
  ps : ∃ ms : List Int, H p = some (.lst (ms.map L2.V.int)) ∧ ms.length ≤ 2 ∧ (ys ≠ [] → ms.length = 2)
  qs : H q = some (.lst (ys.map L2.V.int))
theorem orT_cells {σ : L2.St} {H : Hp} {a : Addr} {ns : List Int} (s0 : σ[0]? = some (some (.ref a))) (s1 : σ[1]? = some (some (.int 2))) (hS : SqL K H a (ns.map L2.V.int)) {Q : VK}
    (k : ∀ p H1 (ms : List Int), H p = none → Ex H H1 → H1 p = some (.lst (ms.map L2.V.int)) → ms.length ≤ 2 → (2 < ns.length → ms.length = 2) → Q (.ref p) H1) :
    tOrT K (tCB (fun xs H Q => ∃ p ys, xs = [.ref p] ∧ (SqL K H p ys ∨ SqT K H p ys) ∧ ∀ l, H l = none → Q (.ref l) (upd H l (.lst ys))) (tCons (tSl (rSlL K) (tVar 0) tNoPart (tPart (tVar 1))) tNil)) (tLst (tCons (tC (.int 0)) tNil)) σ H Q := by
  have e1 : cutV (ns.map L2.V.int) none (some (2 : Int)) = (ns.take (min 2 ns.length)).map L2.V.int := by
    unfold cutV
    rw [HT.sIx_none, show (2 : Int) = ((2 : Nat) : Int) from rfl, HT.sIx_nat, List.drop_zero, Nat.sub_zero, List.map_take, List.length_map]
  refine ⟨.ref a, s0, .int 2, s1, 2, rfl, a, _, rfl, hS, fun p hp => ⟨p, _, rfl, .inl (SqL.of upd_same), fun l hl => ?_⟩⟩
  rw [e1] at hl ⊢
  have x1 : Ex H (upd (upd H p (.lst ((ns.take (min 2 ns.length)).map L2.V.int))) l (.lst ((ns.take (min 2 ns.length)).map L2.V.int))) := (Ex.new hp).trans (Ex.new hl)
  refine ⟨!((ns.take (min 2 ns.length)).map L2.V.int).isEmpty, .inl ⟨_, SqL.of upd_same, rfl⟩, ?_⟩
  have hl0 : H l = none := (Ex.new (o := .lst ((ns.take (min 2 ns.length)).map L2.V.int)) hp).nn hl
  by_cases hn : ns = []
  · subst hn
    refine iteF ⟨show 1 ≤ sizeLine by decide, fun r hr => k r _ [0] (x1.nn hr) (x1.trans (Ex.new hr)) upd_same (by decide) fun z => by cases z⟩
  · obtain ⟨n, l', rfl⟩ := List.exists_cons_of_ne_nil hn
    have hlen : ((n :: l').take (min 2 (n :: l').length)).length = min 2 (n :: l').length := by rw [List.length_take]; omega
    have he : (!((((n :: l').take (min 2 (n :: l').length)).map L2.V.int).isEmpty)) = true := by
      cases q : ((n :: l').take (min 2 (n :: l').length)).map L2.V.int with
      | nil =>
        have := congrArg List.length q
        rw [List.length_map, hlen, List.length_cons, List.length_nil] at this
        omega
      | cons _ _ => rfl
    rw [he]
    exact iteT (k l _ _ hl0 x1 upd_same (by rw [hlen]; omega) fun z => by rw [hlen]; omega)
theorem c_cells (V1 : Ev P w K mg base ca) (V2 : Ev2 K mg) : ∃ fa fd, FnOk P w K mg base CX0 1 fa fd ["_law_script", "_law_top"] (spCells K) ∧ mg "_law_cells" = some (.ref fa) ∧ PySem.W.keepIn K (.ref fa) = true ∧ L2.Binds K fd ["_law_script", "_law_top"] [] := by
  obtain ⟨fa, fd, FD, hm, hb'⟩ := V2.d_cells.ex
  refine ⟨fa, fd, FD.ok (k := 0) sc_cells (fun vs H Q E h => ?_) (fun cdv A outer s H vs Q E hr h => ?_), hm, FD.kp, hb'⟩
  · obtain ⟨a, ns, rfl, _⟩ := h
    rfl
  · obtain ⟨a, ns, rfl, hS, hl, kk⟩ := h
    have nd := sc_cells.nd
    refine ⟨_, PSs.nox (pss_cons (ps_set (i := 2) nd rfl (.inl rfl) (pe_orT (pe_callTy call_list_of (by rfl) V1.B.list (by decide +kernel) (pa_cons (pe_slice sl_list (pv 0) po_none (po_some (pv 1))) pa_nil)) (pe_one (pe_lst (pa_cons pe_int pa_nil)))))
      (pss_cons (ps_for PassesOwn.never rfl (pi_enum (by rfl) V1.B.enumerate (pa_cons (pe_slice sl_list (pv 0) (po_some (pv 1)) (po_some pe_int)) pa_nil)) (pg_tup rfl (pgs_cons (pg_name (i := 3) nd rfl (.inl rfl)) (pgs_cons (pg_name (i := 4) nd rfl (.inl rfl)) pgs_nil)))
        (pss_cons (ps_set (i := 5) nd rfl (.inl rfl) (pe_op op_mod (pe_callTy call_int1 (by rfl) V1.B.int (by decide +kernel) (pa_cons (pv 3) pa_nil)) (pv 1)))
        (pss_cons (ps_asg (pe_op op_add (pe_ix ix_list (pv 2) (pv 5) (fun _ _ => rfl)) (pe_op op_mul (pv 4) (pe_op op_add (pv 3) pe_int))) (pg_sub (pv 2) (pv 5) set_list)) pss_nil)))
      (pss_cons (ps_ret (pv 2)) pss_nil))), ?_⟩
    obtain ⟨ys, e2, hy, hy2⟩ : ∃ ys : List Int, cutV (ns.map L2.V.int) (some (2 : Int)) (some (63 : Int)) = ys.map L2.V.int ∧ (ys ≠ [] → 2 < ns.length) ∧ ys.length ≤ 63 := by
      refine ⟨(ns.drop (HT.sIx (ns.map L2.V.int).length 0 (some (2 : Int)))).take (HT.sIx (ns.map L2.V.int).length (ns.map L2.V.int).length (some (63 : Int)) - HT.sIx (ns.map L2.V.int).length 0 (some (2 : Int))), ?_, fun h => ?_, ?_⟩
      · unfold cutV
        rw [List.map_take, List.map_drop]
      · rw [show (2 : Int) = ((2 : Nat) : Int) from rfl, HT.sIx_nat, List.length_map] at h
        by_cases h2 : 2 < ns.length
        · exact h2
        · exfalso
          refine h ?_
          rw [Nat.min_eq_right (by omega), List.drop_length, List.take_nil]
      · rw [List.length_take, List.length_drop]; omega
    refine orT_cells rfl rfl hS fun p H1 ms hp ex h1 m2 mt => ?_
    refine ⟨.ref a, rfl, .int 2, rfl, 2, rfl, 63, rfl, a, _, rfl, sql_ex hS ex, fun q hq => ⟨q, _, rfl, SqL.of upd_same, ?_⟩⟩
    rw [e2]
    have pq : p ≠ q := by rintro rfl; rw [h1] at hq; cases hq
    refine ⟨fun i m σ H' => m = ys.length - i ∧ i ≤ ys.length ∧ CI H p q ys σ H', ⟨ys.length, rfl, Nat.zero_le _, rfl, rfl, rfl, ex.trans (Ex.new hq), ⟨ms, by rw [upd_ne pq]; exact h1, m2, fun z => mt (hy z)⟩, upd_same⟩, ?_⟩
    rintro i m σ H2 ⟨rfl, hi, I⟩
    obtain ⟨ms2, g1, g2, g3⟩ := I.ps
    by_cases hlt : i < ys.length
    · right
      have hx : (ys.map L2.V.int)[i]? = some (.int ys[i]) := by rw [List.getElem?_map, List.getElem?_eq_getElem hlt]; rfl
      refine ⟨⟨_, _, SqL.of I.qs, hx⟩, CI H p q ys, fun σ' H' h' => ⟨ys.length - (i + 1), by omega, rfl, hlt, h'⟩, fun v H' ⟨T, x, ev, hT, eH, hx2⟩ => ?_⟩
      subst ev eH
      have := hx2 _ (SqL.of I.qs)
      rw [hx] at this
      cases this
      generalize ys[i] = y at *
      have h2 := g3 (fun z => by rw [z] at hlt; cases hlt)
      have pT : p ≠ T := by rintro rfl; rw [g1] at hT; cases hT
      have qT : q ≠ T := by rintro rfl; rw [I.qs] at hT; cases hT
      obtain ⟨u, u', rfl⟩ : ∃ u u', ms2 = [u, u'] := by
        match ms2, h2 with
        | [u, u'], _ => exact ⟨u, u', rfl⟩
      have l6 := I.len
      have s1 := I.s1
      have s2 := I.s2
      refine ⟨T, _, rfl, SqT.of upd_same, rfl, .int i, _, rfl, .int y, _, rfl, rfl, ?_⟩
      have k3 : ((σ.set 3 (some (.int i))).set 4 (some (.int y)))[3]? = some (some (.int (i : Nat))) := by
        rw [List.getElem?_set_ne (by decide), List.getElem?_set_self (by omega)]
      have k1 : ((σ.set 3 (some (.int i))).set 4 (some (.int y)))[1]? = some (some (.int 2)) := by
        rw [List.getElem?_set_ne (by decide), List.getElem?_set_ne (by decide)]; exact s1
      have k2 : ((σ.set 3 (some (.int i))).set 4 (some (.int y)))[2]? = some (some (.ref p)) := by
        rw [List.getElem?_set_ne (by decide), List.getElem?_set_ne (by decide)]; exact s2
      have k4 : ((σ.set 3 (some (.int i))).set 4 (some (.int y)))[4]? = some (some (.int y)) := by
        rw [List.getElem?_set_self (by rw [List.length_set]; omega)]
      have kl : ((σ.set 3 (some (.int i))).set 4 (some (.int y))).length = 6 := by rw [List.length_set, List.length_set]; exact l6
      generalize (σ.set 3 (some (.int i))).set 4 (some (.int y)) = σ4 at k1 k2 k3 k4 kl ⊢
      refine ⟨.int i, k3, .inl ⟨i, rfl, .int 2, k1, i, 2, rfl, rfl, (show (0 : Int) < 2 by decide), ?_⟩⟩
      have j1 : (σ4.set 5 (some (.int ((i : Int) % 2))))[1]? = some (some (.int 2)) := by rw [List.getElem?_set_ne (by decide)]; exact k1
      have j2 : (σ4.set 5 (some (.int ((i : Int) % 2))))[2]? = some (some (.ref p)) := by rw [List.getElem?_set_ne (by decide)]; exact k2
      have j3 : (σ4.set 5 (some (.int ((i : Int) % 2))))[3]? = some (some (.int (i : Nat))) := by rw [List.getElem?_set_ne (by decide)]; exact k3
      have j4 : (σ4.set 5 (some (.int ((i : Int) % 2))))[4]? = some (some (.int y)) := by rw [List.getElem?_set_ne (by decide)]; exact k4
      have j5 : (σ4.set 5 (some (.int ((i : Int) % 2))))[5]? = some (some (.int ((i : Int) % 2))) := by rw [List.getElem?_set_self (by omega)]
      have jl : (σ4.set 5 (some (.int ((i : Int) % 2)))).length = 6 := by rw [List.length_set]; exact kl
      show tSeq _ _ _ (σ4.set 5 (some (.int ((i : Int) % 2)))) _
      generalize σ4.set 5 (some (.int ((i : Int) % 2))) = σ5 at j1 j2 j3 j4 j5 jl ⊢
      obtain ⟨j, hj, hj2⟩ : ∃ j : Nat, (i : Int) % 2 = (j : Nat) ∧ j < 2 := ⟨i % 2, by omega, by omega⟩
      rw [hj] at j5
      have hget : ∃ z, ([u, u'].map L2.V.int)[j]? = some (.int z) := by
        match j, hj2 with
        | 0, _ => exact ⟨u, rfl⟩
        | 1, _ => exact ⟨u', rfl⟩
      obtain ⟨z, hz⟩ := hget
      have hp3 : upd H2 T (.tup [.int (i : Nat), .int y]) p = some (.lst ([u, u'].map L2.V.int)) := by rw [upd_ne pT]; exact g1
      refine ⟨.ref p, j2, .int j, j5, p, _, j, .int z, rfl, rfl, SqL.of hp3, atI_nat hz, .int y, j4, .int i, j3, i, 2, rfl, rfl, y, _, rfl, rfl, .inr ⟨by omega, by omega⟩, z, _, rfl, rfl, ?_⟩
      refine ⟨.ref p, j2, .int j, j5, p, [u, u'].map L2.V.int, j, j, rfl, rfl, hp3, ?_, ?_⟩
      · unfold ixN
        rw [if_pos (by omega), if_pos (show ((j : Nat) : Int) < ((([u, u'].map L2.V.int).length : Nat) : Int) from show ((j : Nat) : Int) < ((2 : Nat) : Int) by omega)]
        rfl
      · refine ⟨j1, j2, jl, ?_, ?_, ?_⟩
        · intro b o hb
          have hbp : b ≠ p := by rintro rfl; rw [hp] at hb; cases hb
          have := I.ex b o hb
          have hbT : b ≠ T := by rintro rfl; rw [this] at hT; cases hT
          rw [upd_ne hbp, upd_ne hbT]
          exact this
        · refine ⟨[u, u'].set j (z + y * ((i : Int) + 2)), ?_, by rw [List.length_set]; exact Nat.le_refl _, fun _ => by rw [List.length_set]; rfl⟩
          rw [upd_same, List.map_set]
        · rw [upd_ne pq.symm, upd_ne qT]; exact I.qs
    · left
      have ei : i = ys.length := by omega
      refine ⟨⟨_, SqL.of I.qs, by rw [List.length_map]; omega⟩, ?_⟩
      exact ⟨.ref p, I.s2, kk H2 p ms2 I.ex g1 g2⟩
/-! ### the law -/
def spLaw (K : PySem.W.Frag) : Sp := fun vs H Q _ => ∃ (a : Addr) (ns : List Int), vs = [.ref a] ∧ SqL K H a (ns.map L2.V.int) ∧ ns.length ≤ 63 ∧ ∀ H', Q (.bl true) H'
theorem sc_law : FnScope ["_law_script", "_law_cells_here", "_law_k"] ["_law_script"] (defScope (top 101)) := ⟨rfl, rfl, rfl, by decide +kernel, rfl, by decide +kernel, by decide +kernel⟩
theorem c_law (V1 : Ev P w K mg base ca) (V2 : Ev2 K mg) {fa : Addr} {fd : FuncData} (FD : FunD K "law" "law" (defArgs (top 101)) (defBody (top 101)) (defScope (top 101)) [] [] fa fd) : FnOk P w K mg base CX0 15 fa fd ["_law_script"] (spLaw K) := by
  obtain ⟨fc, gc, Oc, mc, kc, bc⟩ := c_cells V1 V2
  obtain ⟨fb, gb, Ob, mb, kb, bb⟩ := c_box V1 V2
  obtain ⟨fr, gr, Or_, mr, kr, br⟩ := c_right V1 V2
  refine FD.ok (k := 14) sc_law (fun vs H Q E h => ?_) (fun cdv A outer s H vs Q E hr h => ?_)
  · obtain ⟨a, ns, rfl, _⟩ := h
    rfl
  · obtain ⟨a, ns, rfl, hS, hl, kk⟩ := h
    have nd := sc_law.nd
    refine ⟨_, PSs.nox (pss_cons (ps_set (i := 1) nd rfl (.inr rfl) (pe_call Oc (hr.mono (by decide)) (by rfl) mc kc bc .nil pass0 (pa_cons (pv 0) (pa_cons pe_int pa_nil))))
      (pss_cons (ps_ret (pe_callB (cr_all rfl) (by rfl) V1.B.all (by decide +kernel) (pa_cons (pe_lc (own := [("_law_k", 2)]) (g := gName 2) (tt := tYes) rfl nd (pi_range1 (by rfl) V1.B.range (pa_cons (pe_callB call_len (by rfl) V1.B.len PySem.boot_len (pa_cons (pv 1) pa_nil)) pa_nil)) (blkOk_by (by kernel_rfl)) (fun _ _ _ _ _ => pg_name (i := 2) nd rfl (Or.inl rfl)) (fun _ _ _ _ _ => pts_nil)
        (fun _ _ _ _ _ => pe_call Or_ hr (by rfl) mr kr br .nil pass0 (pa_cons (pe_call Ob (hr.mono (by decide)) (by rfl) mb kb bb .nil pass0 (pa_cons (pv 1) (pa_cons (pv 2) pa_nil))) pa_nil))) pa_nil))) pss_nil)), ?_⟩
    refine ⟨.ref a, rfl, a, ns, rfl, hS, hl, fun H1 p ms ex hp m2 => ?_⟩
    refine ⟨.ref p, rfl, _, (ms.map L2.V.int).length, rfl, .inl ⟨_, SqL.of hp, rfl⟩, _, rfl, by omega, by rw [List.length_map]; omega, fun D hD => ?_⟩
    have pD : p ≠ D := by rintro rfl; rw [hp] at hD; cases hD
    rw [show ((ms.map L2.V.int).length : Int).toNat = ms.length by rw [List.length_map]; rfl]
    refine lc_range (lo := 0) (n := ms.length) (fun i H => H D = some (.lst (List.replicate i (.bl true))) ∧ H p = some (.lst (ms.map L2.V.int))) ⟨upd_same, by rw [upd_ne pD]; exact hp⟩ (fun i H2 hi I => ?_) fun H2 I => ?_
    · obtain ⟨i1, i2⟩ := I
      refine ⟨rfl, iteT (B := H2 D = some (.lst (List.replicate (i + 1) (.bl true))) ∧ H2 p = some (.lst (ms.map L2.V.int))) ?_⟩
      refine ⟨.ref p, rfl, .int (0 + i), rfl, p, ms, i, by rw [Int.zero_add]; rfl, SqL.of i2, hi, by omega, fun u x y hu => ?_⟩
      have uD : D ≠ u := by rintro rfl; rw [i1] at hu; cases hu
      have up : p ≠ u := by rintro rfl; rw [i2] at hu; cases hu
      refine ⟨u, 0, rfl, ⟨x, y, 0, upd_same, Int.le_refl _, Int.le_refl _⟩, by decide, fun H3 h3 => ?_⟩
      have d3 : H3 D = some (.lst (List.replicate i (.bl true))) := h3 D _ uD (by rw [upd_ne uD]; exact i1)
      have p3 : H3 p = some (.lst (ms.map L2.V.int)) := h3 p _ up (by rw [upd_ne up]; exact i2)
      refine ⟨_, d3, ?_, ?_, by rw [upd_ne pD]; exact p3⟩
      · rw [List.length_replicate]
        exact Nat.lt_of_lt_of_le (show i < 1000 by omega) (by decide)
      · rw [upd_same, ← List.replicate_succ']
    · refine ⟨D, List.replicate ms.length true, rfl, SqL.of (by rw [I.1, List.map_replicate]), ?_⟩
      have : (List.replicate ms.length true).all id = true := by
        rw [List.all_eq_true]
        intro b hb
        rw [List.eq_of_mem_replicate hb]
        rfl
      rw [this]
      exact kk H2
end
end DL
/-! The head's facts. Lists printed by gen4.py. -/
namespace DL
open PySem PySem.Spec PyProof.Rows L2
/-! ### where things stand -/
def caK (K : PySem.W.Frag) : Nat → Addr
  | 0 => He.ga K "Labels"
  | 1 => He.ga K "Step"
  | _ => He.ga K "Pipeline"
/-! ### facts, decided -/
theorem isB_ok {o : Option Bool} {b : Bool} (h : isB o b = true) : o = some b := of_decide_eq_true h
theorem recB_ok {K : PySem.W.Frag} {p : Addr} {T : String} (h : recB K p T = true) : ∃ rest, PySem.W.recIn K p T = some (.ref (recA K p T) :: rest) := by
  unfold recB at h
  unfold recA
  split at h
  · rename_i g r e
    rw [e]
    exact ⟨r, rfl⟩
  · cases h
theorem okP_ok {x m : Str} {K : PySem.W.Frag} (h : okP x m K = true) : PropOf K (He.ga K x) m (meA x m K) (prA x m K) := by
  obtain ⟨h1, h⟩ := He.ba h
  obtain ⟨h2, h⟩ := He.ba h
  obtain ⟨h3, h4⟩ := He.ba h
  exact ⟨He.eqO_ok h1, He.eqO_ok h2, isB_ok h3, recB_ok h4⟩
theorem clB_ok {K : PySem.W.Frag} {C : Addr} {m : Str} (h : clB K C m = true) : PySem.W.findCls K (.ref C) (.type "type") m = some (.get (.builtin "staticmethod.__get__") (.ref (clA K C m)) .none (.ref C)) := by
  unfold clB at h
  unfold clA
  split at h
  · rename_i b p D e
    obtain ⟨h1, h2⟩ := He.ba h
    rw [e, of_decide_eq_true h1, of_decide_eq_true h2]
  · cases h
theorem isi_of {K : PySem.W.Frag} {mg : Str → Option Value} (h : okK K = true) (c0 : Cls K (He.ga K "Labels")) (c2 : Cls K (He.ga K "Pipeline")) (gP : mg "Pipeline" = some (.ref (He.ga K "Pipeline"))) (gS : mg "Step" = some (.ref (He.ga K "Step")))
    (m1 : mg "isinstance" = none) (m2 : mg "list" = none) (m3 : mg "tuple" = none) (m4 : mg "str" = none) (m5 : mg "bool" = none) (m6 : mg "int" = none) : IsiF K mg (caK K) := by
  obtain ⟨h1, h⟩ := He.ba h
  obtain ⟨h2, h⟩ := He.ba h
  obtain ⟨h3, h⟩ := He.ba h
  obtain ⟨h4, h⟩ := He.ba h
  obtain ⟨h5, h⟩ := He.ba h
  obtain ⟨h6, h7⟩ := He.ba h
  obtain ⟨a1, a2⟩ := He.ba h1
  obtain ⟨b1, b2⟩ := He.ba h2
  exact ⟨⟨c0, He.eqO_ok a1, He.eqO_ok h3, isB_ok h4, isB_ok a2⟩, ⟨c2, He.eqO_ok b1, He.eqO_ok h3, isB_ok h4, isB_ok b2⟩, isB_ok h5, isB_ok h6, isB_ok h7, gP, gS, m1, m2, m3, m4, m5, m6⟩
/-! ### written tuples -/
theorem tuB_ok {K : PySem.W.Frag} {a : Addr} {vs : List L2.V} (h : tuB K a vs = true) (G : Hp) : SqT K G a vs := by
  unfold tuB at h
  split at h
  · rename_i T od its n sl e
    obtain ⟨h1, h2⟩ := He.ba h
    obtain ⟨h3, h4⟩ := He.ba h2
    exact .inr ⟨_, its, n, e, congrArg Value.type (of_decide_eq_true h1), rfl, of_decide_eq_true h3, He.relAll_ok h4⟩
  · cases h
theorem st_of {K : PySem.W.Frag} {mg : Str → Option Value} {ca : Nat → Addr} {b : Bool} {v : L2.V} {u : Value} (hm : mg "START" = some (.ref (He.ga K "START"))) (h : okTab "START" true u K = true) : ∃ a, mg "START" = some (.ref a) ∧ ∀ G, Rep K ca G (.ref a) D_START := by
  obtain ⟨h1, h⟩ := He.ba h
  obtain ⟨h2, h3⟩ := He.ba h
  exact ⟨_, hm, fun G => .tup (tuB_ok h1 G) (show 2 ≤ LIM by decide) (.cons (.tup (tuB_ok h2 G) (Nat.zero_le _) .nil) (.cons (.tup (tuB_ok h3 G) (show 2 ≤ LIM by decide) (.cons (.bl true) (.cons .non .nil))) .nil))⟩
theorem nr_of {K : PySem.W.Frag} {mg : Str → Option Value} {ca : Nat → Addr} (hm : mg "NOTHING_rooms" = some (.ref (He.ga K "NOTHING_rooms"))) (h : okTab0 "NOTHING_rooms" K = true) : ∃ a, mg "NOTHING_rooms" = some (.ref a) ∧ ∀ G, Rep K ca G (.ref a) D_NOTHING_rooms := by
  obtain ⟨h1, h⟩ := He.ba h
  obtain ⟨h2, h3⟩ := He.ba h
  exact ⟨_, hm, fun G => .tup (tuB_ok h1 G) (show 2 ≤ LIM by decide) (.cons (.tup (tuB_ok h2 G) (Nat.zero_le _) .nil) (.cons (.tup (tuB_ok h3 G) (show 2 ≤ LIM by decide) (.cons (.bl false) (.cons (.int 0) .nil))) .nil))⟩
/-! ### functions -/
theorem DG.fun_ {d : DG} {K : PySem.W.Frag} (e : d.look K = some d.want) (h : d.ok K = true) : ∃ fd, FunD K d.name d.qual (defArgs d.st) (defBody d.st) (defScope d.st) (d.dv.map (He.Dv.v K)) [] (d.at_ K) fd := by
  obtain ⟨kp, h⟩ := He.ba h
  unfold DG.look at e
  cases hf : fnA K (d.at_ K) with
  | none => rw [hf] at h; cases h
  | some f =>
  rw [hf] at e h
  obtain ⟨z1, z2, z3, z4, z5, z6, z7, z8, z9, z10, z11, z12, z13, z14, z15⟩ := f
  have e' : ((z1, z2, z3, z4, z5, z6, z7, z15) : FV) = d.want := Option.some.inj e
  unfold DG.want at e'
  simp only [Prod.mk.injEq] at e'
  obtain ⟨rfl, rfl, rfl, rfl, rfl, rfl, rfl, rfl⟩ := e'
  obtain ⟨k1, k2⟩ := He.ba h
  unfold fnA at hf
  split at hf
  · rename_i oc od f2 sl q
    cases hf
    exact ⟨_, ⟨oc, od, z8, z9, z10, z11, z12, z13, z14, sl, rfl, q, k1, He.dflB_ok k2, .inl rfl⟩, kp⟩
  · cases hf
def Says (K : PySem.W.Frag) : Prop := obsK K = valK
section
variable {K : PySem.W.Frag} {mg : Str → Option Value} {h : Heap}
theorem fct (c : Says K) (i : Nat) {f : PySem.W.Frag → Bool} (hi : Fs[i]? = some f := by rfl) : f K = true := by
  have c1 := (He.ba (congrArg Prod.fst c)).1
  exact List.all_eq_true.mp c1 f (List.mem_of_getElem? hi)
theorem dfn (c : Says K) (i : Nat) {d : DG} (hi : Dn[i]? = some d := by rfl) : ∃ fd, FunD K d.name d.qual (defArgs d.st) (defBody d.st) (defScope d.st) (d.dv.map (He.Dv.v K)) [] (d.at_ K) fd := by
  have c1 := (He.ba (congrArg Prod.fst c)).2
  have c2 : (Dn.map fun d => d.look K) = Dn.map fun d => some d.want := congrArg Prod.snd c
  have c3 := congrArg (fun l => l[i]?) c2
  rw [List.getElem?_map, List.getElem?_map, hi] at c3
  exact DG.fun_ (Option.some.inj c3) (List.all_eq_true.mp c1 d (List.mem_of_getElem? hi))
end
/-! ### what the layer asks -/
section
variable {K : PySem.W.Frag} {mg : Str → Option Value} {x cn m qual : Str} {st : Stmt} {a : Addr} {ps : List Str} {c : Nat}
abbrev BA (st : Stmt) (x qual : Str) (ps : List Str) : Prop := ∀ (kV doc pm : Value) (an : Option Addr) (cdv ct : Value) (us : List Value), us.length = ps.length → bindArgs (PySem.W.fnOf x qual (defArgs st) (defBody st) (defScope st) .none kV doc pm an cdv ct) ⟨us, []⟩ = pure (ps.zip us)
theorem df_of (d : ∃ fd, FunD K x x (defArgs st) (defBody st) (defScope st) [] [] a fd) (hm : mg x = some (.ref a)) (b : BA st x x ps) : Df K mg x st ps := by
  obtain ⟨fd, F⟩ := d
  exact ⟨a, fd, F, hm, F.bindsN b⟩
theorem dk_of {p1 : Str} (d : ∃ fd, FunD K x x (defArgs st) (defBody st) (defScope st) [] [] a fd) (hm : mg x = some (.ref a)) (b : BA st x x [p1])
    (b2 : ∀ (kV doc pm : Value) (an : Option Addr) (cdv ct : Value) (us : List Value), us.length = ([p1] : List Str).length → bindArgs (PySem.W.fnOf x x (defArgs st) (defBody st) (defScope st) .none kV doc pm an cdv ct) ⟨[], [p1].zip us⟩ = pure ([p1].zip us)) : Dk K mg x st [p1] := by
  obtain ⟨fd, F⟩ := d
  refine ⟨a, fd, F, hm, F.bindsN b, ⟨fun s us ws X h1 h2 => ?_, fun _ r => r⟩⟩
  obtain ⟨oc, od, dV, kV, doc, pm, an, cdv, ct, osl, rfl, lk, hcd, hD, hK⟩ := F.ex
  rcases hD with ⟨_, rfl⟩ | ⟨z, _⟩
  · have : us = [] := List.eq_nil_of_length_eq_zero h1
    subst this
    exact .of_eq (b2 kV doc pm an cdv ct ws h2)
  · exact absurd rfl z
theorem pd_of {p : Addr} (d : ∃ fd, FunD K m qual (defArgs st) (defBody st) (defScope st) [] [] a fd) (h0 : Cls K (caK K c)) (h1 : PropOf K (caK K c) m p a) (b : BA st m qual ps) : Pd K (caK K) c m qual st ps := by
  obtain ⟨fd, F⟩ := d
  exact ⟨p, a, fd, h0, h1, F, F.bindsN b⟩
theorem md_of (d : ∃ fd, FunD K m qual (defArgs st) (defBody st) (defScope st) [] [] a fd) (h0 : Cls K (caK K c)) (h1 : Meth K (caK K c) m a) (b : BA st m qual ps) : Md K (caK K) c m qual st ps := by
  obtain ⟨fd, F⟩ := d
  exact ⟨a, fd, h0, h1, F, F.bindsN b⟩
theorem sd_of (d : ∃ fd, FunD K m qual (defArgs st) (defBody st) (defScope st) [] [] (stA x m K) fd) (hm : mg x = some (.ref (He.ga K x))) (h1 : okS0 x m K = true) (b : BA st m qual ps) : Sd K mg x m qual st ps := by
  obtain ⟨fd, F⟩ := d
  obtain ⟨a1, h1⟩ := He.ba h1
  obtain ⟨a2, h1⟩ := He.ba h1
  obtain ⟨a3, a4⟩ := He.ba h1
  exact ⟨_, _, _, fd, hm, ⟨clB_ok a1, recB_ok a2, ⟨a3, He.eqO_ok a4⟩, F.kp⟩, F, F.bindsN b⟩
theorem od_of (d : ∃ fd, FunD K m qual (defArgs st) (defBody st) (defScope st) [] [] (meA "Pipeline" m K) fd) (h1 : okO "Pipeline" m K = true) (b : BA st m qual ps) : Od K (caK K) 2 m qual st ps := by
  obtain ⟨fd, F⟩ := d
  obtain ⟨a1, h1⟩ := He.ba h1
  obtain ⟨a2, a3⟩ := He.ba h1
  exact ⟨_, fd, F, F.bindsN b, He.eqO_ok a1, a2, a3⟩
end
section
variable {K : PySem.W.Frag} {mg : Str → Option Value}
theorem nd_step (d : ∃ fd, FunD K "__init__" "Step.__init__" (defArgs (mem 35 0)) (defBody (mem 35 0)) (defScope (mem 35 0)) [] [] (meA "Step" "__init__" K) fd) (hm : mg "Step" = some (.ref (He.ga K "Step"))) (mk : Mk K (He.ga K "Step") (He.ma K (He.ga K "Step") "__init__")) :
    Nd K mg (caK K) 1 "Step" "Step.__init__" (mem 35 0) ["self", "kind", "what"] [[]] := by
  obtain ⟨fd, F⟩ := d
  refine ⟨_, fd, [], hm, mk, F, fun dds h => ?_⟩
  rw [List.mem_singleton.mp h]
  exact ⟨[], [], F.bindsN (fun _ _ _ _ _ _ us hl => match us, hl with | [_, _, _], _ => rfl), .nil, fun _ => .nil⟩
theorem nd_labels (d : ∃ fd, FunD K "__init__" "Labels.__init__" (defArgs (mem 18 0)) (defBody (mem 18 0)) (defScope (mem 18 0)) [.ref (dfA "Labels" K), .bl false] [] (meA "Labels" "__init__" K) fd) (hm : mg "Labels" = some (.ref (He.ga K "Labels"))) (mk : Mk K (He.ga K "Labels") (He.ma K (He.ga K "Labels") "__init__")) :
    Nd K mg (caK K) 0 "Labels" "Labels.__init__" (mem 18 0) ["self", "names", "rest"] [[.bl false], []] := by
  obtain ⟨fd, F⟩ := d
  obtain ⟨d1, r1, b1⟩ := F.binds1 (ps := ["self", "names", "rest"]) 2 1 (List.cons_ne_nil _ _) rfl fun T kV doc pm an cdv ct us its h1 h2 => match us, its, h1, h2 with | [_, _], [_, _], _, _ => ⟨_, rfl, rfl⟩
  obtain ⟨d2, r2, b2⟩ := F.binds1 (ps := ["self", "names", "rest"]) 3 2 (List.cons_ne_nil _ _) rfl fun T kV doc pm an cdv ct us its h1 h2 => match us, its, h1, h2 with | [_, _, _], [_, _], _, _ => ⟨_, rfl, rfl⟩
  refine ⟨_, fd, _, hm, mk, F, fun dds h => ?_⟩
  rcases List.mem_cons.mp h with rfl | h
  · exact ⟨_, d1, b1, r1, fun _ => .cons (.bl false) .nil⟩
  · rw [List.mem_singleton.mp h]
    exact ⟨_, d2, b2, r2, fun _ => .nil⟩
theorem nd_pipe (d : ∃ fd, FunD K "__init__" "Pipeline.__init__" (defArgs (mem 69 0)) (defBody (mem 69 0)) (defScope (mem 69 0)) [.ref (dfA "Pipeline" K)] [] (meA "Pipeline" "__init__" K) fd) (hm : mg "Pipeline" = some (.ref (He.ga K "Pipeline"))) (mk : Mk K (He.ga K "Pipeline") (He.ma K (He.ga K "Pipeline") "__init__")) (he : okE "Pipeline" K = true) :
    Nd K mg (caK K) 2 "Pipeline" "Pipeline.__init__" (mem 69 0) ["self", "steps"] [[.tup []], []] := by
  obtain ⟨fd, F⟩ := d
  obtain ⟨d1, r1, b1⟩ := F.binds1 (ps := ["self", "steps"]) 1 0 (List.cons_ne_nil _ _) rfl fun T kV doc pm an cdv ct us its h1 h2 => match us, its, h1, h2 with | [_], [_], _, _ => ⟨_, rfl, rfl⟩
  obtain ⟨d2, r2, b2⟩ := F.binds1 (ps := ["self", "steps"]) 2 1 (List.cons_ne_nil _ _) rfl fun T kV doc pm an cdv ct us its h1 h2 => match us, its, h1, h2 with | [_, _], [_], _, _ => ⟨_, rfl, rfl⟩
  refine ⟨_, fd, _, hm, mk, F, fun dds h => ?_⟩
  rcases List.mem_cons.mp h with rfl | h
  · exact ⟨_, d1, b1, r1, fun G => .cons (.tup (tuB_ok he G) (Nat.zero_le _) .nil) .nil⟩
  · rw [List.mem_singleton.mp h]
    exact ⟨_, d2, b2, r2, fun _ => .nil⟩
end
theorem ev_of {P : Program} {w : World} {K : PySem.W.Frag} {mg : Str → Option Value} {base : Heap} {h : Heap} (X : K.In h) (G : h.Ns mainGlobals mg) (c : Says K) : Ev P w K mg base (caK K) where
  B := ⟨(He.free_ok X G (fct c 70)), (He.free_ok X G (fct c 71)), (He.free_ok X G (fct c 72)), (He.free_ok X G (fct c 73)), (He.free_ok X G (fct c 74)), (He.free_ok X G (fct c 75)), (He.free_ok X G (fct c 76)), (He.free_ok X G (fct c 77)), (He.free_ok X G (fct c 78)), (He.free_ok X G (fct c 79)), (He.free_ok X G (fct c 80)), (He.free_ok X G (fct c 81)), (He.free_ok X G (fct c 82)), (He.free_ok X G (fct c 83)), (He.free_ok X G (fct c 84)), (He.free_ok X G (fct c 85)), (He.free_ok X G (fct c 86))⟩
  isi := isi_of (fct c 87) (He.cls_ok (fct c 9)) (He.cls_ok (fct c 43)) (He.glo_ok X G (fct c 39)) (He.glo_ok X G (fct c 13)) (He.free_ok X G (fct c 83)) (He.free_ok X G (fct c 72)) (He.free_ok X G (fct c 71)) (He.free_ok X G (fct c 79)) (He.free_ok X G (fct c 82)) (He.free_ok X G (fct c 78))
  g_LETTERS := (He.str_ok X G (fct c 88))
  g_LONGEST := (He.int_ok X G (fct c 89))
  g_NOTHING_labels := (He.str_ok X G (fct c 90))
  g_ALL := (He.str_ok X G (fct c 91))
  g_BUT := (He.str_ok X G (fct c 92))
  g_DROP := (He.str_ok X G (fct c 93))
  g_UNWRAP := (He.str_ok X G (fct c 94))
  g_CUT := (He.str_ok X G (fct c 95))
  g_RENAME := (He.str_ok X G (fct c 96))
  g_BETWEEN := (He.str_ok X G (fct c 97))
  g_START := st_of (b := true) (v := .non) (u := .none) (He.glo_ok X G (fct c 98)) (fct c 99)
  g_NOTHING_rooms := nr_of (He.glo_ok X G (fct c 100)) (fct c 101)
  k0 := (He.cls_ok (fct c 9))
  k1 := (He.cls_ok (fct c 17))
  k2 := (He.cls_ok (fct c 43))
  n_own_names := (He.noat_ok (fct c 102))
  n_own_rest := (He.noat_ok (fct c 103))
  n_own_kind := (He.noat_ok (fct c 104))
  n_own_what := (He.noat_ok (fct c 105))
  n_own_steps := (He.noat_ok (fct c 106))
  n_own_form := (He.noat_ok (fct c 107))
  d_tupled := df_of (dfn c 0) (He.glo_ok X G (fct c 0)) (fun _ _ _ _ _ _ us hl => match us, hl with | [_], _ => rfl)
  d_set_of := df_of (dfn c 1) (He.glo_ok X G (fct c 1)) (fun _ _ _ _ _ _ us hl => match us, hl with | [_], _ => rfl)
  d_number_in := df_of (dfn c 2) (He.glo_ok X G (fct c 2)) (fun _ _ _ _ _ _ us hl => match us, hl with | [_], _ => rfl)
  d_is_name := df_of (dfn c 3) (He.glo_ok X G (fct c 3)) (fun _ _ _ _ _ _ us hl => match us, hl with | [_], _ => rfl)
  d_names_in := df_of (dfn c 4) (He.glo_ok X G (fct c 4)) (fun _ _ _ _ _ _ us hl => match us, hl with | [_], _ => rfl)
  d_Labels_init := nd_labels (dfn c 5) (He.glo_ok X G (fct c 5)) (He.mkr_ok (fct c 6))
  d_Labels_of := sd_of (dfn c 6) (He.glo_ok X G (fct c 5)) (fct c 7) (fun _ _ _ _ _ _ us hl => match us, hl with | [_], _ => rfl)
  d_Labels_names := pd_of (dfn c 7) (He.cls_ok (fct c 9)) (okP_ok (fct c 8)) (fun _ _ _ _ _ _ us hl => match us, hl with | [_], _ => rfl)
  d_Labels_rest := pd_of (dfn c 8) (He.cls_ok (fct c 9)) (okP_ok (fct c 10)) (fun _ _ _ _ _ _ us hl => match us, hl with | [_], _ => rfl)
  d_is_step := df_of (dfn c 9) (He.glo_ok X G (fct c 11)) (fun _ _ _ _ _ _ us hl => match us, hl with | [_, _], _ => rfl)
  d_what_in := df_of (dfn c 10) (He.glo_ok X G (fct c 12)) (fun _ _ _ _ _ _ us hl => match us, hl with | [_, _], _ => rfl)
  d_Step_init := nd_step (dfn c 11) (He.glo_ok X G (fct c 13)) (He.mkr_ok (fct c 14))
  d_Step_of := sd_of (dfn c 12) (He.glo_ok X G (fct c 13)) (fct c 15) (fun _ _ _ _ _ _ us hl => match us, hl with | [_], _ => rfl)
  d_Step_kind := pd_of (dfn c 13) (He.cls_ok (fct c 17)) (okP_ok (fct c 16)) (fun _ _ _ _ _ _ us hl => match us, hl with | [_], _ => rfl)
  d_Step_what := pd_of (dfn c 14) (He.cls_ok (fct c 17)) (okP_ok (fct c 18)) (fun _ _ _ _ _ _ us hl => match us, hl with | [_], _ => rfl)
  d_lesser := df_of (dfn c 15) (He.glo_ok X G (fct c 19)) (fun _ _ _ _ _ _ us hl => match us, hl with | [_, _], _ => rfl)
  d_is_most := df_of (dfn c 16) (He.glo_ok X G (fct c 20)) (fun _ _ _ _ _ _ us hl => match us, hl with | [_, _], _ => rfl)
  d_entry_in := df_of (dfn c 17) (He.glo_ok X G (fct c 21)) (fun _ _ _ _ _ _ us hl => match us, hl with | [_, _], _ => rfl)
  d_final_in := df_of (dfn c 18) (He.glo_ok X G (fct c 22)) (fun _ _ _ _ _ _ us hl => match us, hl with | [_, _], _ => rfl)
  d_room_in := df_of (dfn c 19) (He.glo_ok X G (fct c 23)) (fun _ _ _ _ _ _ us hl => match us, hl with | [_, _], _ => rfl)
  d_form_with := df_of (dfn c 20) (He.glo_ok X G (fct c 24)) (fun _ _ _ _ _ _ us hl => match us, hl with | [_, _], _ => rfl)
  d_names_told := df_of (dfn c 21) (He.glo_ok X G (fct c 25)) (fun _ _ _ _ _ _ us hl => match us, hl with | [_], _ => rfl)
  d_height_in := df_of (dfn c 22) (He.glo_ok X G (fct c 26)) (fun _ _ _ _ _ _ us hl => match us, hl with | [_], _ => rfl)
  d_form_of_step := df_of (dfn c 23) (He.glo_ok X G (fct c 27)) (fun _ _ _ _ _ _ us hl => match us, hl with | [_], _ => rfl)
  d_entry_behind := df_of (dfn c 24) (He.glo_ok X G (fct c 28)) (fun _ _ _ _ _ _ us hl => match us, hl with | [_, _, _], _ => rfl)
  d_form_behind := df_of (dfn c 25) (He.glo_ok X G (fct c 29)) (fun _ _ _ _ _ _ us hl => match us, hl with | [_, _], _ => rfl)
  d_rooms_gone := df_of (dfn c 26) (He.glo_ok X G (fct c 30)) (fun _ _ _ _ _ _ us hl => match us, hl with | [_], _ => rfl)
  d_labels_gone := df_of (dfn c 27) (He.glo_ok X G (fct c 31)) (fun _ _ _ _ _ _ us hl => match us, hl with | [_, _], _ => rfl)
  d_plain_steps := df_of (dfn c 28) (He.glo_ok X G (fct c 32)) (fun _ _ _ _ _ _ us hl => match us, hl with | [_], _ => rfl)
  d_side := df_of (dfn c 29) (He.glo_ok X G (fct c 33)) (fun _ _ _ _ _ _ us hl => match us, hl with | [_, _], _ => rfl)
  d_told_in := df_of (dfn c 30) (He.glo_ok X G (fct c 34)) (fun _ _ _ _ _ _ us hl => match us, hl with | [_, _], _ => rfl)
  d_pairs_of := df_of (dfn c 31) (He.glo_ok X G (fct c 35)) (fun _ _ _ _ _ _ us hl => match us, hl with | [_, _], _ => rfl)
  d_is_within := df_of (dfn c 32) (He.glo_ok X G (fct c 36)) (fun _ _ _ _ _ _ us hl => match us, hl with | [_, _], _ => rfl)
  d_form_of_steps := df_of (dfn c 33) (He.glo_ok X G (fct c 37)) (fun _ _ _ _ _ _ us hl => match us, hl with | [_], _ => rfl)
  d_Pipeline_init := nd_pipe (dfn c 34) (He.glo_ok X G (fct c 39)) (He.mkr_ok (fct c 40)) (fct c 38)
  d_Pipeline_of := sd_of (dfn c 35) (He.glo_ok X G (fct c 39)) (fct c 41) (fun _ _ _ _ _ _ us hl => match us, hl with | [_], _ => rfl)
  d_Pipeline_steps := pd_of (dfn c 36) (He.cls_ok (fct c 43)) (okP_ok (fct c 42)) (fun _ _ _ _ _ _ us hl => match us, hl with | [_], _ => rfl)
  d_Pipeline_form := pd_of (dfn c 37) (He.cls_ok (fct c 43)) (okP_ok (fct c 44)) (fun _ _ _ _ _ _ us hl => match us, hl with | [_], _ => rfl)
  d_Pipeline_plain := pd_of (dfn c 38) (He.cls_ok (fct c 43)) (okP_ok (fct c 45)) (fun _ _ _ _ _ _ us hl => match us, hl with | [_], _ => rfl)
  d_Pipeline_within := md_of (dfn c 39) (He.cls_ok (fct c 43)) (He.meth_ok (fct c 46)) (fun _ _ _ _ _ _ us hl => match us, hl with | [_, _], _ => rfl)
  d_Pipeline_rshift := od_of (dfn c 40) (fct c 47) (fun _ _ _ _ _ _ us hl => match us, hl with | [_, _], _ => rfl)
  d_Pipeline_eq := od_of (dfn c 41) (fct c 48) (fun _ _ _ _ _ _ us hl => match us, hl with | [_, _], _ => rfl)
  d_in_row := df_of (dfn c 42) (He.glo_ok X G (fct c 49)) (fun _ _ _ _ _ _ us hl => match us, hl with | [_, _], _ => rfl)
  d_renames := df_of (dfn c 43) (He.glo_ok X G (fct c 50)) (fun _ _ _ _ _ _ us hl => match us, hl with | [_], _ => rfl)
  d_check_names := df_of (dfn c 44) (He.glo_ok X G (fct c 51)) (fun _ _ _ _ _ _ us hl => match us, hl with | [_], _ => rfl)
  d_orders := df_of (dfn c 45) (He.glo_ok X G (fct c 52)) (fun _ _ _ _ _ _ us hl => match us, hl with | [_], _ => rfl)
  d_all_ways := df_of (dfn c 46) (He.glo_ok X G (fct c 53)) (fun _ _ _ _ _ _ us hl => match us, hl with | [_], _ => rfl)
  d_unlike_ways := df_of (dfn c 47) (He.glo_ok X G (fct c 54)) (fun _ _ _ _ _ _ us hl => match us, hl with | [_], _ => rfl)
  d_most_order := dk_of (dfn c 48) (He.glo_ok X G (fct c 55)) (fun _ _ _ _ _ _ us hl => match us, hl with | [_], _ => rfl) (fun _ _ _ _ _ _ us hl => match us, hl with | [_], _ => rfl)
  d_least_order := dk_of (dfn c 49) (He.glo_ok X G (fct c 56)) (fun _ _ _ _ _ _ us hl => match us, hl with | [_], _ => rfl) (fun _ _ _ _ _ _ us hl => match us, hl with | [_], _ => rfl)
  d_w_same := df_of (dfn c 50) (He.glo_ok X G (fct c 57)) (fun _ _ _ _ _ _ us hl => match us, hl with | [_, _], _ => rfl)
  d_w_step_so := df_of (dfn c 51) (He.glo_ok X G (fct c 58)) (fun _ _ _ _ _ _ us hl => match us, hl with | [_], _ => rfl)
  d_w_host := df_of (dfn c 52) (He.glo_ok X G (fct c 59)) (fun _ _ _ _ _ _ us hl => match us, hl with | [_], _ => rfl)
  d_w_lot_says := df_of (dfn c 53) (He.glo_ok X G (fct c 60)) (fun _ _ _ _ _ _ us hl => match us, hl with | [_], _ => rfl)
  d_w_is_in := df_of (dfn c 54) (He.glo_ok X G (fct c 61)) (fun _ _ _ _ _ _ us hl => match us, hl with | [_, _], _ => rfl)
  d_w_fates := df_of (dfn c 55) (He.glo_ok X G (fct c 62)) (fun _ _ _ _ _ _ us hl => match us, hl with | [_], _ => rfl)
  d_w_under := df_of (dfn c 56) (He.glo_ok X G (fct c 63)) (fun _ _ _ _ _ _ us hl => match us, hl with | [_, _], _ => rfl)
  d_w_lot_of := df_of (dfn c 57) (He.glo_ok X G (fct c 64)) (fun _ _ _ _ _ _ us hl => match us, hl with | [_], _ => rfl)
  d_w_plainly := df_of (dfn c 58) (He.glo_ok X G (fct c 65)) (fun _ _ _ _ _ _ us hl => match us, hl with | [_], _ => rfl)
  d_w_orders := df_of (dfn c 59) (He.glo_ok X G (fct c 66)) (fun _ _ _ _ _ _ us hl => match us, hl with | [_], _ => rfl)
  d_w_row := df_of (dfn c 60) (He.glo_ok X G (fct c 67)) (fun _ _ _ _ _ _ us hl => match us, hl with | [_, _], _ => rfl)
  d_w_outcomes := df_of (dfn c 61) (He.glo_ok X G (fct c 68)) (fun _ _ _ _ _ _ us hl => match us, hl with | [_], _ => rfl)
  d_w_by_hand_right := df_of (dfn c 62) (He.glo_ok X G (fct c 69)) (fun _ _ _ _ _ _ us hl => match us, hl with | [], _ => rfl)
theorem ev2_of {K : PySem.W.Frag} {mg : Str → Option Value} {h : Heap} (X : K.In h) (G : h.Ns mainGlobals mg) (c : Says K) : Ev2 K mg where
  d_box := df_of (dfn c 63) (He.glo_ok X G (fct c 108)) (fun _ _ _ _ _ _ us hl => match us, hl with | [_, _], _ => rfl)
  d_take := df_of (dfn c 64) (He.glo_ok X G (fct c 109)) (fun _ _ _ _ _ _ us hl => match us, hl with | [_, _], _ => rfl)
  d_cells := df_of (dfn c 65) (He.glo_ok X G (fct c 110)) (fun _ _ _ _ _ _ us hl => match us, hl with | [_, _], _ => rfl)
  d_of := df_of (dfn c 66) (He.glo_ok X G (fct c 111)) (fun _ _ _ _ _ _ us hl => match us, hl with | [_, _], _ => rfl)
  d_lot := df_of (dfn c 67) (He.glo_ok X G (fct c 112)) (fun _ _ _ _ _ _ us hl => match us, hl with | [_], _ => rfl)
  d_stride := df_of (dfn c 68) (He.glo_ok X G (fct c 113)) (fun _ _ _ _ _ _ us hl => match us, hl with | [_, _], _ => rfl)
  d_line := df_of (dfn c 69) (He.glo_ok X G (fct c 114)) (fun _ _ _ _ _ _ us hl => match us, hl with | [_, _], _ => rfl)
  d_right := df_of (dfn c 70) (He.glo_ok X G (fct c 115)) (fun _ _ _ _ _ _ us hl => match us, hl with | [_], _ => rfl)
  d_law := df_of (dfn c 71) (He.glo_ok X G (fct c 116)) (fun _ _ _ _ _ _ us hl => match us, hl with | [_], _ => rfl)
theorem law_fun {K : PySem.W.Frag} (c : Says K) : ∃ fd, FunD K "law" "law" (defArgs (top 101)) (defBody (top 101)) (defScope (top 101)) [] [] (He.ga K "law") fd := dfn c 71
theorem law_at {K : PySem.W.Frag} {mg : Str → Option Value} {h : Heap} (X : K.In h) (G : h.Ns mainGlobals mg) (c : Says K) : mg "law" = some (.ref (He.ga K "law")) := (He.glo_ok X G (fct c 116))
end DL
/-! The law holds. -/
namespace DL
open PySem PySem.Spec PyProof.Rows L2
theorem whole {P : Program} {w : World} {K : PySem.W.Frag} {h : Heap} {mg : Str → Option Value} {f : Addr} (X : K.In h) (G : h.Ns mainGlobals mg) (hf : mg ("law" : Str) = some (.ref f)) (c : Says K) :
    ∃ fd : FuncData, (∀ (s : Shared) (v : Value), BindsTo s fd ⟨[v], []⟩ [("_law_script", v)]) ∧ ∀ base : Heap, K.In base → base.Ns mainGlobals mg → FnOk P w K mg base CX0 15 f fd ["_law_script"] (spLaw K) := by
  obtain ⟨fd, F⟩ := law_fun c
  have e := hf.symm.trans (law_at X G c)
  cases e
  have b := FunD.bindsA (ps := ["_law_script"]) F fun _ _ _ _ _ _ us hl => match us, hl with | [_], _ => rfl
  exact ⟨fd, fun s v => b s [v] rfl, fun base h1 h2 => c_law (ca := caK K) (ev_of h1 h2 c) (ev2_of h1 h2 c) F⟩
end DL
open PySem PySem.W PySem.Calls PyProof.Rows
theorem PySem.Challenge.cw_deepcuts_k95_whole_orders_that_keep_most_holds : PySem.Challenge.rw_deepcuts_k95_whole_orders_that_keep_most.Holds := by
  w_on; o_law
  refine HandSHeadRun.head_any (r := OpenLaw.row PySem.Challenge.rw_deepcuts_k95_whole_orders_that_keep_most) (q := DL.Qv) (H := DL.hookK) (ob := DL.obT) (M := 20000) (loose := DL.lo) (d := HandSHeadRun.topDef (OpenLaw.row PySem.Challenge.rw_deepcuts_k95_whole_orders_that_keep_most).prog 101) (kwd := []) DL.obT_eq
    (by kernel_rfl) (fun s => by kernel_rfl) DL.run_top (by kernel_rfl) (by kernel_rfl) (by kernel_rfl) (by rfl) (by first | assumption | decide +kernel) (by decide +kernel) ⟨rfl, rfl, rfl, rfl, rfl, by decide +kernel⟩ ?hw ?hc
  case hw => w_witness2
  case hc =>
    refine L2.walk_ofE (l := PySem.Challenge.rw_deepcuts_k95_whole_orders_that_keep_most) (n := 63) (k := 15) (x := "_law_script") (CX := L2.CX0) rfl (by decide) (by kernel_rfl) ⟨rfl, by decide, by decide⟩ ?F (fun _ _ _ _ z => z)
    intro w mg fa h Y G hmg0
    obtain ⟨K, KX, c⟩ := Y
    have hmg : mg ("law" : PySem.Str) = some (.ref fa) := by
      have e : (HandSHeadRun.topDef (OpenLaw.row PySem.Challenge.rw_deepcuts_k95_whole_orders_that_keep_most).prog 101).name = ("law" : PySem.Str) := by kernel_rfl
      rw [← e]
      exact hmg0
    obtain ⟨fd, hb, hF⟩ := DL.whole (P := (PySem.Challenge.rw_deepcuts_k95_whole_orders_that_keep_most).prog) (w := w) KX G hmg c
    exact ⟨K, fd, DL.spLaw K, KX, hb, fun H a ns hl _ hS => ⟨a, ns, rfl, hS, hl, fun _ => rfl⟩, hF⟩

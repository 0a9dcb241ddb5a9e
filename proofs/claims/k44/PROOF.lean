import PyProof.Rows.All
import Wide.All
import OpenK.AllK
import Wide.FinOn
import HandS.ForMost
import HandS.Walk
import HandS.Lambda
import HandS.HeadHook2
import HandS.Style
import HandS.TupAny
import HandS.Deep
import HandS.Codes
import HandS.Conv
import HandS.IsInst
import KE.DataEq
import HandS.SortKw
import HandS.Small
import HandS.RaiseMore
import KE.SortUse
import KE.KLam
import HandS.HeadHook4
import HandS.HeadWalk
import KE.SortData
import HandS.Text
import HandS.Dict
import HandS.More
import HandS.Strs
import HandS.BoundDict
import KE.KDictPairs
import KE.KEqNest
import KE.KDictLaw
import PyProof.EqKinds
import HandS.ListItems
import HandS.List
import KE.DataMinMax
import KE.DataCmp
import HandS.TupSets
import PyProof.Claim2Refuses
import HandS.Zip
import HandS.HeadNt
import HandS.Exc
import HandS.ExcInit
import HandS.ExcIs
import HandS.ExcOwn
import HandS.ExcField
import KE.KExcIs
import HandS.Head0
import HandS.Head1
import HandS.Head2
import HandS.HeadEnd
import HandS.HeadHook1
import HandS.EndTab
import PySem.Challenge.RW_mergeline_k44_book_rows_refused
set_option Elab.async false
set_option linter.all false
set_option maxRecDepth 100000
set_option maxHeartbeats 0
/-! VNx: what the head's look reckons of the program's exceptions (laid ahead of all in a claim). -/
namespace VL
open PySem PySem.Spec PyProof.Rows L2

def oexB (K : PySem.W.Frag) (C : Addr) : Bool := match K.lookup C with
  | some ⟨.type "type", _, .cls cd, sl⟩ => (match cd.mro, sl.toList with
    | .ref c0 :: bm, [_, _, _, _, some (.builtin nn), _] => (c0 == C && nn == "ValueError.__new__") && ((!cd.hasDel && cd.hasDict) && PySem.HandSPX.refsVE bm)
    | _, _ => false)
  | _ => false
/-- all that is asked of such a class, but its fields -/
def ecB (K : PySem.W.Frag) (C : Addr) : Bool := oexB K C && (decide (PySem.W.findIn K (.ref C) "__setattr__" = some (some (.builtin "object.__setattr__"))) && (decide (PySem.W.subIn K (.ref C) (.type "BaseException") = some true) &&
  (decide (PySem.W.typeIn K (.ref C) = some (.type "type")) && (PySem.W.keepIn K (.ref C) && (decide (PySem.W.findIn K (.ref C) "__getattribute__" = some (some (.builtin "BaseException.__getattribute__"))) &&
  (decide (PySem.W.findIn K (.ref C) "__getattr__" = some none) && (PySem.W.hasDictIn K C && (decide (PySem.W.findIn K (.ref C) "__class__" = some (some (.builtin "object.__class__"))) && decide (PySem.W.mroIn K C (.type "object") = some true)))))))))
def ebB (K : PySem.W.Frag) (M : Addr) : Bool := PySem.W.readsIn K M (.type "type") && (decide (PySem.W.specialIn K (.ref M) "__getattribute__" = some (some (.builtin "type.__getattribute__"))) && (match PySem.W.findCls K (.ref M) (.type "type") "__init__" with
  | some (.val (.builtin b)) => decide (b = "ValueError.__init__")
  | _ => false))
def exN : List Str := ["BadPlant", "BadDay", "BadBook", "NoBound"]
def exFd : List Str := ["place", "word"]
def exTyN : List String := ["NoneType", "bool", "int", "str", "tuple", "list", "dict"]
def exB (K : PySem.W.Frag) : Bool := ((exN.all fun C => ecB K (He.ga K C)) && ebB K (He.ga K "MergeError")) && ((exN.all fun C => decide (PySem.W.exmOne K (.ref (He.ga K C)) (.ref (He.ga K "MergeError")) = some true)) &&
  ((exN.all fun C => exFd.all fun f => decide (PySem.W.findIn K (.ref (He.ga K C)) f = some none)) &&
  ((exN.all fun C => decide (PySem.W.findIn K (.ref (He.ga K C)) "__init__" = some (some (.ref (He.ma K (He.ga K C) "__init__")))) && decide (PySem.W.typeIn K (.ref (He.ma K (He.ga K C) "__init__")) = some (.type "function"))) &&
  ((exN.all fun C => exN.all fun C' => decide (PySem.W.kitOne K (.ref (He.ga K C)) (.ref (He.ga K C')) = some (decide (C = C')))) &&
  ((exN.all fun C => decide (PySem.W.kitOne K (.ref (He.ga K C)) (.type "ValueError") = some true)) &&
  ((exTyN.all fun t => exN.all fun C' => decide (PySem.W.kitOne K (.type t) (.ref (He.ga K C')) = some false)) &&
  (decide (PySem.W.specialIn K (.builtin "object.__class__") "__get__" = some (some (.builtin "getset_descriptor.__get__"))) && decide (PySem.W.takesIn K (.builtin "object.__class__") = some true))))))))
/-- what the head's look tells of the objects at as -/
def lookE (fa : List He.Fa) (fn : List He.DefD) (tf : List He.Defn) (ex : PySem.W.Frag → Bool) (g : Addr → Option Obj) (as : List Addr) : He.AlX := (He.obsT fa fn [] (He.frT g as), ex (He.frT g as) && He.tabsB g tf (He.frT g as))
theorem lookE_says {fa : List He.Fa} {fn : List He.DefD} {tf : List He.Defn} {ex : PySem.W.Frag → Bool} {w : World} {h : Heap} {as : List Addr} (e : lookE fa fn tf ex h.get? as = He.valX fn [] w) : He.SaysX fa fn [] tf ex w h (He.frT h.get? as) := by
  have k1 : He.obsT fa fn [] (He.frT h.get? as) = He.valT fn [] w := congrArg Prod.fst e
  have k2 : (ex (He.frT h.get? as) && He.tabsB h.get? tf (He.frT h.get? as)) = true := congrArg Prod.snd e
  obtain ⟨k3, k4⟩ := Bool.and_eq_true_iff.mp k2
  have each : ∀ p ∈ tf, PySem.W.codeHdIn (He.frT h.get? as) (He.cT (He.frT h.get? as) p).1 (He.cT (He.frT h.get? as) p).2 = true ∧ ∃ o, h.get? (He.cT (He.frT h.get? as) p).2 = some o ∧ He.emptyTab o = true := by
    intro p hp
    obtain ⟨q1, q2⟩ := Bool.and_eq_true_iff.mp (List.all_eq_true.mp k4 p hp)
    refine ⟨q1, ?_⟩
    split at q2
    · rename_i o eo
      exact ⟨o, eo, q2⟩
    · cases q2
  constructor
  · exact k1
  · exact k3
  · exact fun p hp => (each p hp).1
  · intro p hp
    obtain ⟨_, o, q1, q2⟩ := each p hp
    exact He.frT_none q1 q2
  · intro p hp
    obtain ⟨_, o, q1, q2⟩ := each p hp
    rw [q1, He.emptyTab_eq q2]
def hookE (n : Nat) (fa : List He.Fa) (fn : List He.DefD) (tf : List He.Defn) (ex : PySem.W.Frag → Bool) : PySem.W.Hook where
  α := He.AlX
  obs := fun s => lookE fa fn tf ex s.heap.get? (He5.asA s.heap.get? n)
  val := fun w => He.valX fn [] w
  says := fun w h => ∃ K : PySem.W.Frag, K.In h ∧ He.SaysX fa fn [] tf ex w h K
  of := fun _ _ e => ⟨_, He.frT_in, lookE_says e⟩
  keeps := fun _ _ _ y k => by
    obtain ⟨K, i, c⟩ := y
    exact ⟨K, i.keeps k, ⟨c.t, c.more, c.hd, c.out, fun p hp => k _ _ (c.empty p hp)⟩⟩
theorem hookE_eq {n : Nat} {fa : List He.Fa} {fn : List He.DefD} {tf : List He.Defn} {ex : PySem.W.Frag → Bool} {g : Addr → Option Obj} {s : Shared} (h : ∀ a, g a = s.heap.get? a) : lookE fa fn tf ex g (He5.asA g n) = (hookE n fa fn tf ex).obs s := by
  have e : g = s.heap.get? := funext h
  subst e
  rfl
end VL
namespace K44
open PySem PySem.Spec PyProof.Rows L2 VL
def top (i : Nat) : Stmt := PySem.Challenge.pw_mergeline_k44_book_rows_refused.main.body.getD i (.Pass ⟨0, 0, 0, 0⟩)
def clsBody : Stmt → List Stmt
  | .ClassDef _ _ _ body .. => body
  | _ => []
abbrev s_words_of : Stmt := top 9
abbrev n_words_of : List Str := ["row", "word"]
abbrev p_words_of : List Str := ["row"]
abbrev s_is_name : Stmt := top 10
abbrev n_is_name : List Str := ["word", "sign"]
abbrev p_is_name : List Str := ["word"]
abbrev s_number_in : Stmt := top 11
abbrev n_number_in : List Str := ["word", "sign"]
abbrev p_number_in : List Str := ["word"]
abbrev s_load_told : Stmt := top 13
abbrev n_load_told : List Str := ["words", "time", "goods", "word"]
abbrev p_load_told : List Str := ["words", "time"]
abbrev s_entry_told : Stmt := top 14
abbrev n_entry_told : List Str := ["words", "time"]
abbrev p_entry_told : List Str := ["words"]
abbrev s_BadBook___init__ : Stmt := (clsBody (top 4)).getD 0 (.Pass ⟨0, 0, 0, 0⟩)
abbrev n_BadBook___init__ : List Str := ["self", "place", "word"]
abbrev p_BadBook___init__ : List Str := ["self", "place", "word"]
abbrev s_read_book : Stmt := top 15
abbrev n_read_book : List Str := ["text", "book", "place", "row", "words", "entry"]
abbrev p_read_book : List Str := ["text"]
abbrev s__law_cell_at : Stmt := top 17
abbrev n__law_cell_at : List Str := ["_law_script", "_law_k"]
abbrev p__law_cell_at : List Str := ["_law_script", "_law_k"]
abbrev s__law_mix : Stmt := top 18
abbrev n__law_mix : List Str := ["_law_cell", "_law_k", "_law_m"]
abbrev p__law_mix : List Str := ["_law_cell", "_law_k"]
abbrev s__law_names : Stmt := top 19
abbrev n__law_names : List Str := ["_law_cell", "_law_many", "_law_letters", "_law_m", "_law_size", "_law_place", "_law_stem", "_law_k"]
abbrev p__law_names : List Str := ["_law_cell", "_law_many"]
abbrev s__law_rule : Stmt := top 20
abbrev n__law_rule : List Str := ["_law_m", "_law_many", "_law_rest", "_law_k"]
abbrev p__law_rule : List Str := ["_law_m", "_law_many"]
abbrev s__law_greatest : Stmt := top 21
abbrev n__law_greatest : List Str := ["_law_rule_here", "_law_many"]
abbrev p__law_greatest : List Str := ["_law_rule_here", "_law_many"]
abbrev s__law_desks : Stmt := top 22
abbrev n__law_desks : List Str := ["_law_cell", "_law_places", "_law_lines", "_law_names_here", "_law_taken", "_law_k", "_law_place", "_law_at", "_law_desks_here", "_law_name", "_law_to"]
abbrev p__law_desks : List Str := ["_law_cell", "_law_places", "_law_lines"]
abbrev s__law_plant : Stmt := top 23
abbrev n__law_plant : List Str := ["_law_script", "_law_a", "_law_b", "_law_c", "_law_kinds", "_law_k", "_law_name", "_law_m", "_law_many", "_law_places", "_law_gates", "_law_lines", "_law_order", "_law_desks_here", "_law_rooms", "_law_loads", "_law_times", "_law_hours", "_law_desk", "_law_j", "_law_kind"]
abbrev p__law_plant : List Str := ["_law_script"]
abbrev s__law_alike : Stmt := top 28
abbrev n__law_alike : List Str := ["_law_found", "_law_due", "_law_k"]
abbrev p__law_alike : List Str := ["_law_found", "_law_due"]
abbrev s__law_entries : Stmt := top 29
abbrev n__law_entries : List Str := ["_law_cells", "_law_h", "_law_m", "_law_desks_here", "_law_book", "_law_k", "_law_cell", "_law_n", "_law_t", "_law_good", "_law_goods", "_law_desk", "_law_j"]
abbrev p__law_entries : List Str := ["_law_cells", "_law_h", "_law_m"]
abbrev s__law_entry_row : Stmt := top 30
abbrev n__law_entry_row : List Str := ["_law_entry", "_law_good"]
abbrev p__law_entry_row : List Str := ["_law_entry"]
abbrev s__law_is_refused : Stmt := top 31
abbrev n__law_is_refused : List Str := ["_law_caught", "_law_due"]
abbrev p__law_is_refused : List Str := ["_law_caught", "_law_due"]
abbrev s__law_is_name : Stmt := top 32
abbrev n__law_is_name : List Str := ["_law_word", "_law_sign"]
abbrev p__law_is_name : List Str := ["_law_word"]
abbrev s__law_number : Stmt := top 33
abbrev n__law_number : List Str := ["_law_word", "_law_sign"]
abbrev p__law_number : List Str := ["_law_word"]
abbrev s__law_otherwise : Stmt := top 34
abbrev n__law_otherwise : List Str := ["_law_row", "_law_m", "_law_words", "_law_some", "_law_at", "_law_odd", "_law_places", "_law_k"]
abbrev p__law_otherwise : List Str := ["_law_row", "_law_m"]
abbrev s__law_told : Stmt := top 35
abbrev n__law_told : List Str := ["_law_words", "_law_load", "_law_goods", "_law_word"]
abbrev p__law_told : List Str := ["_law_words"]
abbrev s__law_read : Stmt := top 36
abbrev n__law_read : List Str := ["_law_rows", "_law_book", "_law_place", "_law_row", "_law_words", "_law_entry", "_law_word"]
abbrev p__law_read : List Str := ["_law_rows"]
abbrev s_law : Stmt := top 37
abbrev n_law : List Str := ["_law_script", "_law_h", "_law_m", "_law_n", "_law_good", "_law_k", "_law_entry", "_law_rows", "_law_number_here", "_law_some", "_law_at", "_law_due", "_law_book", "_law_told_here", "_law_caught", "error"]
abbrev p_law : List Str := ["_law_script"]
def dd_words_of : He.DefD := ⟨("words_of", none), "words_of", "words_of", defArgs s_words_of, defBody s_words_of, defScope s_words_of, [], []⟩
def dd_is_name : He.DefD := ⟨("is_name", none), "is_name", "is_name", defArgs s_is_name, defBody s_is_name, defScope s_is_name, [], []⟩
def dd_number_in : He.DefD := ⟨("number_in", none), "number_in", "number_in", defArgs s_number_in, defBody s_number_in, defScope s_number_in, [], []⟩
def dd_load_told : He.DefD := ⟨("load_told", none), "load_told", "load_told", defArgs s_load_told, defBody s_load_told, defScope s_load_told, [], []⟩
def dd_entry_told : He.DefD := ⟨("entry_told", none), "entry_told", "entry_told", defArgs s_entry_told, defBody s_entry_told, defScope s_entry_told, [], []⟩
def dd_BadBook___init__ : He.DefD := ⟨("BadBook", some "__init__"), "__init__", "BadBook.__init__", defArgs s_BadBook___init__, defBody s_BadBook___init__, defScope s_BadBook___init__, [], []⟩
def dd_read_book : He.DefD := ⟨("read_book", none), "read_book", "read_book", defArgs s_read_book, defBody s_read_book, defScope s_read_book, [], []⟩
def dd__law_cell_at : He.DefD := ⟨("_law_cell_at", none), "_law_cell_at", "_law_cell_at", defArgs s__law_cell_at, defBody s__law_cell_at, defScope s__law_cell_at, [], []⟩
def dd__law_mix : He.DefD := ⟨("_law_mix", none), "_law_mix", "_law_mix", defArgs s__law_mix, defBody s__law_mix, defScope s__law_mix, [], []⟩
def dd__law_names : He.DefD := ⟨("_law_names", none), "_law_names", "_law_names", defArgs s__law_names, defBody s__law_names, defScope s__law_names, [], []⟩
def dd__law_rule : He.DefD := ⟨("_law_rule", none), "_law_rule", "_law_rule", defArgs s__law_rule, defBody s__law_rule, defScope s__law_rule, [], []⟩
def dd__law_greatest : He.DefD := ⟨("_law_greatest", none), "_law_greatest", "_law_greatest", defArgs s__law_greatest, defBody s__law_greatest, defScope s__law_greatest, [], []⟩
def dd__law_desks : He.DefD := ⟨("_law_desks", none), "_law_desks", "_law_desks", defArgs s__law_desks, defBody s__law_desks, defScope s__law_desks, [], []⟩
def dd__law_plant : He.DefD := ⟨("_law_plant", none), "_law_plant", "_law_plant", defArgs s__law_plant, defBody s__law_plant, defScope s__law_plant, [], []⟩
def dd__law_alike : He.DefD := ⟨("_law_alike", none), "_law_alike", "_law_alike", defArgs s__law_alike, defBody s__law_alike, defScope s__law_alike, [], []⟩
def dd__law_entries : He.DefD := ⟨("_law_entries", none), "_law_entries", "_law_entries", defArgs s__law_entries, defBody s__law_entries, defScope s__law_entries, [], []⟩
def dd__law_entry_row : He.DefD := ⟨("_law_entry_row", none), "_law_entry_row", "_law_entry_row", defArgs s__law_entry_row, defBody s__law_entry_row, defScope s__law_entry_row, [], []⟩
def dd__law_is_refused : He.DefD := ⟨("_law_is_refused", none), "_law_is_refused", "_law_is_refused", defArgs s__law_is_refused, defBody s__law_is_refused, defScope s__law_is_refused, [], []⟩
def dd__law_is_name : He.DefD := ⟨("_law_is_name", none), "_law_is_name", "_law_is_name", defArgs s__law_is_name, defBody s__law_is_name, defScope s__law_is_name, [], []⟩
def dd__law_number : He.DefD := ⟨("_law_number", none), "_law_number", "_law_number", defArgs s__law_number, defBody s__law_number, defScope s__law_number, [], []⟩
def dd__law_otherwise : He.DefD := ⟨("_law_otherwise", none), "_law_otherwise", "_law_otherwise", defArgs s__law_otherwise, defBody s__law_otherwise, defScope s__law_otherwise, [], []⟩
def dd__law_told : He.DefD := ⟨("_law_told", none), "_law_told", "_law_told", defArgs s__law_told, defBody s__law_told, defScope s__law_told, [], []⟩
def dd__law_read : He.DefD := ⟨("_law_read", none), "_law_read", "_law_read", defArgs s__law_read, defBody s__law_read, defScope s__law_read, [], []⟩
def dd_law : He.DefD := ⟨("law", none), "law", "law", defArgs s_law, defBody s_law, defScope s_law, [], []⟩
def fn : List He.DefD := [dd_words_of, dd_is_name, dd_number_in, dd_load_told, dd_entry_told, dd_BadBook___init__, dd_read_book, dd__law_cell_at, dd__law_mix, dd__law_names, dd__law_rule, dd__law_greatest, dd__law_desks, dd__law_plant, dd__law_alike, dd__law_entries, dd__law_entry_row, dd__law_is_refused, dd__law_is_name, dd__law_number, dd__law_otherwise, dd__law_told, dd__law_read, dd_law]
def fa : List He.Fa := [.glo "words_of", .glo "is_name", .glo "number_in", .glo "load_told", .glo "entry_told", .glo "read_book", .glo "_law_cell_at", .glo "_law_mix", .glo "_law_names", .glo "_law_rule", .glo "_law_greatest", .glo "_law_desks", .glo "_law_plant", .glo "_law_alike", .glo "_law_entries", .glo "_law_entry_row", .glo "_law_is_refused", .glo "_law_is_name", .glo "_law_number", .glo "_law_otherwise", .glo "_law_told", .glo "_law_read", .glo "law", .free "ValueError", .free "all", .free "bool", .free "enumerate", .free "int", .free "isinstance", .free "len", .free "list", .free "max", .free "min", .free "range", .free "str", .free "tuple", .str "FIGURES" "0123456789", .str "LETTERS" "abcdefghijklmnopqrstuvwxyz", .glo "MergeError", .glo "BadBook", .glo "BadDay", .glo "BadPlant", .glo "NoBound"]
def tf : List He.Defn := []
abbrev R : PySem.W.OpenRow := PySem.W.OpenLaw.row PySem.Challenge.rw_mergeline_k44_book_rows_refused
abbrev hk : PySem.W.Hook := hookE 4 fa fn tf exB
def ob (s : PySem.W.SharedT) : He.AlX := lookE fa fn tf exB (HandSHeadRun.getT s) (He5.asA (HandSHeadRun.getT s) 4)
theorem ob_eq (s : PySem.W.SharedT) : ob s = hk.obs s.abs := hookE_eq (HandSHeadRun.getT_eq s)
def loose : List Str := (["words_of", "is_name", "number_in", "load_told", "entry_told", "read_book", "_law_cell_at", "_law_mix", "_law_names", "_law_rule", "_law_greatest", "_law_desks", "_law_plant", "_law_dash", "_law_rule_text", "_law_plant_text"] : List Str) ++ (["_law_day", "_law_alike", "_law_entries", "_law_entry_row", "_law_is_refused", "_law_is_name", "_law_number", "_law_otherwise", "_law_told", "_law_read", "MergeError", "BadPlant", "BadDay", "BadBook", "NoBound", "LETTERS"] : List Str) ++ (["FIGURES"] : List Str)
theorem run (w : World) : HandSHeadRun.RunEq R (PySem.W.view R.prog [37]) hk ob 4000 loose w := by
  intro os
  kernel_rfl
end K44
namespace VL
open PySem PySem.Spec PyProof.Rows L2
/-- plain data -/
inductive D where
  | non | bl (b : Bool) | int (i : Int) | str (x : Str)
  | tup (ds : List D) | lst (ds : List D)
  | dct (kds : List (Key × D)) | dtt (kds : List (List Key × D))
  | ins (C : Str) (fds : List (Str × D))
  | scr (ns : List Int)
  | exc (C : Str) (fds : List (Str × D))

/-- data of which some lists, dicts, instances are one's own (may be changed) -/
inductive O where
  | frz (d : D)
  | tup (os : List O) | lst (os : List O)
  | dct (kos : List (Key × O)) | dtt (kos : List (List Key × O))
  | ins (C : Str) (fos : List (Str × O))

mutual
def O.toD : O → D
  | .frz d => d
  | .tup os => .tup (O.toDs os)
  | .lst os => .lst (O.toDs os)
  | .dct kos => .dct (O.toDk kos)
  | .dtt kos => .dtt (O.toDt kos)
  | .ins C fos => .ins C (O.toDf fos)
def O.toDs : List O → List D
  | [] => []
  | o :: os => o.toD :: O.toDs os
def O.toDk : List (Key × O) → List (Key × D)
  | [] => []
  | (k, o) :: os => (k, o.toD) :: O.toDk os
def O.toDt : List (List Key × O) → List (List Key × D)
  | [] => []
  | (k, o) :: os => (k, o.toD) :: O.toDt os
def O.toDf : List (Str × O) → List (Str × D)
  | [] => []
  | (k, o) :: os => (k, o.toD) :: O.toDf os
end
theorem O.toDs_map (os : List O) : O.toDs os = os.map O.toD := by
  induction os with
  | nil => rw [O.toDs]; rfl
  | cons o os ih => rw [O.toDs, ih]; rfl
theorem O.toDk_map (os : List (Key × O)) : O.toDk os = os.map fun p => (p.1, p.2.toD) := by
  induction os with
  | nil => rw [O.toDk]; rfl
  | cons o os ih => obtain ⟨k, o⟩ := o; rw [O.toDk, ih]; rfl
theorem O.toDt_map (os : List (List Key × O)) : O.toDt os = os.map fun p => (p.1, p.2.toD) := by
  induction os with
  | nil => rw [O.toDt]; rfl
  | cons o os ih => obtain ⟨k, o⟩ := o; rw [O.toDt, ih]; rfl
theorem O.toDf_map (os : List (Str × O)) : O.toDf os = os.map fun p => (p.1, p.2.toD) := by
  induction os with
  | nil => rw [O.toDf]; rfl
  | cons o os ih => obtain ⟨k, o⟩ := o; rw [O.toDf, ih]; rfl

def isDict0 : HO → Bool
  | .dK _ => true
  | .dT _ => true
  | _ => false
/-- at a: an exception that was caught, of the class cls, with its dict -/
def exv (a : Addr) (cls : Value) (d : Option Addr) : HO := .ext fun h => ∃ (oe : Obj) (vs : Array Value), h.get? a = some oe ∧ oe.cls = cls ∧ oe.dict = d ∧ oe.data = .fields vs
theorem exv_ntbl {a : Addr} {cls : Value} {d : Option Addr} : ∀ ps, exv a cls d ≠ .tbl ps := fun ps z => by
  unfold exv at z
  cases z
mutual
/-- d can be seen at v in H -/
inductive Vw (K : PySem.W.Frag) (H : Hp) : V → D → Prop
  | non : Vw K H .non .non
  | bl (b : Bool) : Vw K H (.bl b) (.bl b)
  | int (i : Int) : Vw K H (.int i) (.int i)
  | str (x : Str) : Vw K H (.str x) (.str x)
  | tup {a : Addr} {vs : List V} {ds : List D} : H a = some (.tup vs) → VwL K H vs ds → Vw K H (.ref a) (.tup ds)
  | lst {a : Addr} {vs : List V} {ds : List D} : H a = some (.lst vs) → VwL K H vs ds → Vw K H (.ref a) (.lst ds)
  | dct {a : Addr} {kvs : List (Key × V)} {kds : List (Key × D)} : Rd H a (.dK kvs) → kvs.map Prod.fst = kds.map Prod.fst → VwL K H (kvs.map Prod.snd) (kds.map Prod.snd) → Vw K H (.ref a) (.dct kds)
  | dtt {a : Addr} {kvs : List (List Key × V)} {kds : List (List Key × D)} : Rd H a (.dT kvs) → kvs.map Prod.fst = kds.map Prod.fst → VwL K H (kvs.map Prod.snd) (kds.map Prod.snd) → Vw K H (.ref a) (.dtt kds)
  | ins {a dx : Addr} {C : Str} {fs : List (Str × V)} {fds : List (Str × D)} : H a = some (.ins (He.ga K C) dx fs) → fs.map Prod.fst = fds.map Prod.fst → VwL K H (fs.map Prod.snd) (fds.map Prod.snd) → Vw K H (.ref a) (.ins C fds)
  | scr {a : Addr} {ns : List Int} : SqL K H a (ns.map V.int) → Vw K H (.ref a) (.scr ns)
  | exc {a dx : Addr} {C : Str} {fs : List (Str × V)} {fds : List (Str × D)} : H a = some (exv a (.ref (He.ga K C)) (some dx)) → H dx = some (.xd fs) → fs.map Prod.fst = fds.map Prod.fst → VwL K H (fs.map Prod.snd) (fds.map Prod.snd) → Vw K H (.ref a) (.exc C fds)
inductive VwL (K : PySem.W.Frag) (H : Hp) : List V → List D → Prop
  | nil : VwL K H [] []
  | cons {v : V} {vs : List V} {d : D} {ds : List D} : Vw K H v d → VwL K H vs ds → VwL K H (v :: vs) (d :: ds)
end
abbrev isDict : HO → Bool := isDict0
/-- what F holds is to be read in H: a dict may be locked there -/
def SubN (F H : Hp) : Prop := ∀ a u, F a = some u → (∀ ps, u ≠ .tbl ps) → H a = some u ∨ (isDict u = true ∧ ∃ o, H a = some (.frz o u))
theorem SubN.refl (H : Hp) : SubN H H := fun _ _ e _ => .inl e
theorem SubN.of {F H : Hp} (h : ∀ a u, F a = some u → H a = some u) : SubN F H := fun a u e _ => .inl (h a u e)
theorem SubN.ext {F H : Hp} (h : LamX.ExtN F H) : SubN F H := fun a u e n => .inl (h a u e n)
theorem SubN.trans {F G H : Hp} (x : SubN F G) (y : SubN G H) : SubN F H := fun a u e n => by
  rcases x a u e n with e1 | ⟨d, o, e1⟩
  · exact y a u e1 n
  · rcases y a _ e1 (fun ps z => by cases z) with e2 | ⟨d2, _⟩
    · exact .inr ⟨d, o, e2⟩
    · cases d2
theorem SubN.at {F H : Hp} (x : SubN F H) {a : Addr} {u : HO} (e : F a = some u) (n : ∀ ps, u ≠ .tbl ps) (nd : isDict u = false) : H a = some u := by
  rcases x a u e n with h | ⟨d, _⟩
  · exact h
  · rw [nd] at d; cases d
theorem SubN.rd {F H : Hp} (x : SubN F H) {a : Addr} {u : HO} (e : Rd F a u) (n : ∀ ps, u ≠ .tbl ps) : Rd H a u := by
  rcases e with e | ⟨o, e⟩
  · rcases x a u e n with h | ⟨_, h⟩
    · exact .inl h
    · exact .inr h
  · exact .inr ⟨o, x.at e (fun ps z => by cases z) rfl⟩

theorem SubN.sql {K : PySem.W.Frag} {F H : Hp} (x : SubN F H) {a : Addr} {xs : List V} (h : SqL K F a xs) : SqL K H a xs := h.imp (fun h => x.rd h (fun _ z => by cases z)) id
section
variable {K : PySem.W.Frag} {F H : Hp}
mutual
theorem Vw.sub (s : SubN F H) : ∀ {v : V} {d : D}, Vw K F v d → Vw K H v d
  | _, _, .non => .non
  | _, _, .bl b => .bl b
  | _, _, .int i => .int i
  | _, _, .str x => .str x
  | _, _, .tup h l => .tup (s.at h (fun _ z => by cases z) rfl) (VwL.sub s l)
  | _, _, .lst h l => .lst (s.at h (fun _ z => by cases z) rfl) (VwL.sub s l)
  | _, _, .dct h e l => .dct (s.rd h (fun _ z => by cases z)) e (VwL.sub s l)
  | _, _, .dtt h e l => .dtt (s.rd h (fun _ z => by cases z)) e (VwL.sub s l)
  | _, _, .ins h e l => .ins (s.at h (fun _ z => by cases z) rfl) e (VwL.sub s l)
  | _, _, .scr h => .scr (s.sql h)
  | _, _, .exc h g e l => .exc (s.at h exv_ntbl rfl) (s.at g (fun _ z => by cases z) rfl) e (VwL.sub s l)
theorem VwL.sub (s : SubN F H) : ∀ {vs : List V} {ds : List D}, VwL K F vs ds → VwL K H vs ds
  | _, _, .nil => .nil
  | _, _, .cons h l => .cons (Vw.sub s h) (VwL.sub s l)
end
theorem VwL.length : ∀ {vs : List V} {ds : List D}, VwL K H vs ds → vs.length = ds.length
  | _, _, .nil => rfl
  | _, _, .cons _ l => by rw [List.length_cons, List.length_cons, VwL.length l]
theorem VwL.get : ∀ {vs : List V} {ds : List D} {i : Nat} {d : D}, VwL K H vs ds → ds[i]? = some d → ∃ v, vs[i]? = some v ∧ Vw K H v d
  | _, _, _, _, .nil, e => by simp at e
  | _, _, 0, _, .cons h _, e => by simp at e; subst e; exact ⟨_, rfl, h⟩
  | _, _, i + 1, _, .cons _ l, e => by simpa using VwL.get (i := i) l (by simpa using e)
theorem VwL.get' : ∀ {vs : List V} {ds : List D} {i : Nat} {v : V}, VwL K H vs ds → vs[i]? = some v → ∃ d, ds[i]? = some d ∧ Vw K H v d
  | _, _, _, _, .nil, e => by simp at e
  | _, _, 0, _, .cons h _, e => by simp at e; subst e; exact ⟨_, rfl, h⟩
  | _, _, i + 1, _, .cons _ l, e => by simpa using VwL.get' (i := i) l (by simpa using e)
theorem VwL.append : ∀ {vs ws : List V} {ds es : List D}, VwL K H vs ds → VwL K H ws es → VwL K H (vs ++ ws) (ds ++ es)
  | _, _, _, _, .nil, s => s
  | _, _, _, _, .cons r t, s => .cons r (VwL.append t s)
theorem VwL.take : ∀ {vs : List V} {ds : List D} (n : Nat), VwL K H vs ds → VwL K H (vs.take n) (ds.take n)
  | _, _, 0, _ => .nil
  | _, _, _ + 1, .nil => .nil
  | _, _, n + 1, .cons r t => .cons r (VwL.take n t)
theorem VwL.drop : ∀ {vs : List V} {ds : List D} (n : Nat), VwL K H vs ds → VwL K H (vs.drop n) (ds.drop n)
  | _, _, 0, r => r
  | _, _, _ + 1, .nil => .nil
  | _, _, n + 1, .cons _ t => VwL.drop n t
theorem VwL.ints : ∀ {vs : List V} {ns : List Int}, VwL K H vs (ns.map D.int) → vs = ns.map V.int
  | _, [], .nil => rfl
  | _, n :: ns, .cons (.int _) t => by rw [List.map_cons, VwL.ints (ns := ns) t]
theorem VwL.of_ints : ∀ ns : List Int, VwL K H (ns.map V.int) (ns.map D.int)
  | [] => .nil
  | n :: ns => .cons (.int n) (VwL.of_ints ns)
theorem VwL.strs : ∀ {vs : List V} {ns : List Str}, VwL K H vs (ns.map D.str) → vs = ns.map V.str
  | _, [], .nil => rfl
  | _, n :: ns, .cons (.str _) t => by rw [List.map_cons, VwL.strs (ns := ns) t]
theorem VwL.bls : ∀ {vs : List V} {ns : List Bool}, VwL K H vs (ns.map D.bl) → vs = ns.map V.bl
  | _, [], .nil => rfl
  | _, n :: ns, .cons (.bl _) t => by rw [List.map_cons, VwL.bls (ns := ns) t]
theorem VwL.rev : ∀ {vs : List V} {ds : List D}, VwL K H vs ds → VwL K H vs.reverse ds.reverse
  | _, _, .nil => .nil
  | _, _, .cons h l => by rw [List.reverse_cons, List.reverse_cons]; exact VwL.append (VwL.rev l) (.cons h .nil)
end
mutual
/-- never changed: no list, dict, instance within -/
def D.imm : D → Bool
  | .non => true
  | .bl _ => true
  | .int _ => true
  | .str _ => true
  | .tup ds => D.imms ds
  | .lst _ => false
  | .dct _ => false
  | .dtt _ => false
  | .ins _ _ => false
  | .scr _ => false
  | .exc _ _ => false
def D.imms : List D → Bool
  | [] => true
  | d :: ds => d.imm && D.imms ds
end
/-- the same keys, each once -/
structure KyEq {κ : Type} (kvs : List (κ × V)) (kos : List (κ × O)) : Prop where
  eq : kvs.map Prod.fst = kos.map Prod.fst
  nd : (kos.map Prod.fst).Nodup
mutual
/-- o lies at v: what is frozen stands in F, what is owned in H at the addresses A -/
inductive Ro (K : PySem.W.Frag) (F H : Hp) : V → O → List Addr → Prop
  | frz {v : V} {d : D} : Vw K F v d → Ro K F H v (.frz d) []
  | tup {a : Addr} {vs : List V} {os : List O} {A : List Addr} : F a = some (.tup vs) → RoL K F H vs os A → Ro K F H (.ref a) (.tup os) A
  | lst {a : Addr} {vs : List V} {os : List O} {A : List Addr} : F a = none → H a = some (.lst vs) → RoL K F H vs os A → Ro K F H (.ref a) (.lst os) (a :: A)
  | dct {a : Addr} {kvs : List (Key × V)} {kos : List (Key × O)} {A : List Addr} : F a = none → H a = some (.dK kvs) → KyEq kvs kos → RoL K F H (kvs.map Prod.snd) (kos.map Prod.snd) A → Ro K F H (.ref a) (.dct kos) (a :: A)
  | dtt {a : Addr} {kvs : List (List Key × V)} {kos : List (List Key × O)} {A : List Addr} : F a = none → H a = some (.dT kvs) → KyEq kvs kos → RoL K F H (kvs.map Prod.snd) (kos.map Prod.snd) A → Ro K F H (.ref a) (.dtt kos) (a :: A)
  | ins {a dx : Addr} {C : Str} {fs : List (Str × V)} {fos : List (Str × O)} {A : List Addr} : F a = none → H a = some (.ins (He.ga K C) dx fs) → fs.map Prod.fst = fos.map Prod.fst → RoL K F H (fs.map Prod.snd) (fos.map Prod.snd) A → Ro K F H (.ref a) (.ins C fos) (a :: A)
inductive RoL (K : PySem.W.Frag) (F H : Hp) : List V → List O → List Addr → Prop
  | nil : RoL K F H [] [] []
  | cons {v : V} {vs : List V} {o : O} {os : List O} {A B : List Addr} : Ro K F H v o A → RoL K F H vs os B → RoL K F H (v :: vs) (o :: os) (A ++ B)
end
section
variable {K : PySem.W.Frag} {F H F' H' : Hp}
theorem toDk_fst (kos : List (Key × O)) : (O.toDk kos).map Prod.fst = kos.map Prod.fst := by rw [O.toDk_map, List.map_map]; rfl
theorem toDk_snd (kos : List (Key × O)) : (O.toDk kos).map Prod.snd = O.toDs (kos.map Prod.snd) := by rw [O.toDk_map, O.toDs_map, List.map_map, List.map_map]; rfl
theorem toDt_fst (kos : List (List Key × O)) : (O.toDt kos).map Prod.fst = kos.map Prod.fst := by rw [O.toDt_map, List.map_map]; rfl
theorem toDt_snd (kos : List (List Key × O)) : (O.toDt kos).map Prod.snd = O.toDs (kos.map Prod.snd) := by rw [O.toDt_map, O.toDs_map, List.map_map, List.map_map]; rfl
theorem toDf_fst (kos : List (Str × O)) : (O.toDf kos).map Prod.fst = kos.map Prod.fst := by rw [O.toDf_map, List.map_map]; rfl
theorem toDf_snd (kos : List (Str × O)) : (O.toDf kos).map Prod.snd = O.toDs (kos.map Prod.snd) := by rw [O.toDf_map, O.toDs_map, List.map_map, List.map_map]; rfl
mutual
/-- what is owned can be seen -/
theorem Ro.vw (s : SubN F H) : ∀ {v : V} {o : O} {A : List Addr}, Ro K F H v o A → Vw K H v o.toD
  | _, _, _, .frz h => by rw [O.toD]; exact h.sub s
  | _, _, _, .tup h l => by rw [O.toD]; exact .tup (s.at h (fun _ z => by cases z) rfl) (RoL.vw s l)
  | _, _, _, .lst _ h l => by rw [O.toD]; exact .lst h (RoL.vw s l)
  | _, _, _, .dct _ h e l => by rw [O.toD]; exact .dct (.inl h) (by rw [toDk_fst]; exact e.eq) (by rw [toDk_snd]; exact RoL.vw s l)
  | _, _, _, .dtt _ h e l => by rw [O.toD]; exact .dtt (.inl h) (by rw [toDt_fst]; exact e.eq) (by rw [toDt_snd]; exact RoL.vw s l)
  | _, _, _, .ins _ h e l => by rw [O.toD]; exact .ins h (by rw [toDf_fst]; exact e) (by rw [toDf_snd]; exact RoL.vw s l)
theorem RoL.vw (s : SubN F H) : ∀ {vs : List V} {os : List O} {A : List Addr}, RoL K F H vs os A → VwL K H vs (O.toDs os)
  | _, _, _, .nil => by rw [O.toDs]; exact .nil
  | _, _, _, .cons h l => by rw [O.toDs]; exact .cons (Ro.vw s h) (RoL.vw s l)
end
mutual
/-- the frozen part grows elsewhere, the owned objects stay -/
theorem Ro.keep (f : ∀ a u, F a = some u → F' a = some u) : ∀ {v : V} {o : O} {A : List Addr}, Ro K F H v o A → (∀ a ∈ A, F' a = none ∧ H' a = H a) → Ro K F' H' v o A
  | _, _, _, .frz h, _ => .frz (h.sub (.of f))
  | _, _, _, .tup h l, k => .tup (f _ _ h) (RoL.keep f l k)
  | _, _, _, .lst _ h l, k => .lst (k _ List.mem_cons_self).1 ((k _ List.mem_cons_self).2.trans h) (RoL.keep f l fun b hb => k b (List.mem_cons_of_mem _ hb))
  | _, _, _, .dct _ h e l, k => .dct (k _ List.mem_cons_self).1 ((k _ List.mem_cons_self).2.trans h) e (RoL.keep f l fun b hb => k b (List.mem_cons_of_mem _ hb))
  | _, _, _, .dtt _ h e l, k => .dtt (k _ List.mem_cons_self).1 ((k _ List.mem_cons_self).2.trans h) e (RoL.keep f l fun b hb => k b (List.mem_cons_of_mem _ hb))
  | _, _, _, .ins _ h e l, k => .ins (k _ List.mem_cons_self).1 ((k _ List.mem_cons_self).2.trans h) e (RoL.keep f l fun b hb => k b (List.mem_cons_of_mem _ hb))
theorem RoL.keep (f : ∀ a u, F a = some u → F' a = some u) : ∀ {vs : List V} {os : List O} {A : List Addr}, RoL K F H vs os A → (∀ a ∈ A, F' a = none ∧ H' a = H a) → RoL K F' H' vs os A
  | _, _, _, .nil, _ => .nil
  | _, _, _, .cons h l, k => .cons (Ro.keep f h fun b hb => k b (List.mem_append_left _ hb)) (RoL.keep f l fun b hb => k b (List.mem_append_right _ hb))
end
/-- an object of one's own -/
def ownable : HO → Bool
  | .lst _ => true
  | .dK _ => true
  | .dT _ => true
  | .ins _ _ _ => true
  | _ => false
mutual
theorem Ro.mem : ∀ {v : V} {o : O} {A : List Addr}, Ro K F H v o A → ∀ a ∈ A, F a = none ∧ ∃ u, H a = some u ∧ ownable u = true
  | _, _, _, .frz _, _, hb => by cases hb
  | _, _, _, .tup _ l, _, hb => RoL.mem l _ hb
  | _, _, _, .lst f h l, b, hb => by
    rcases List.mem_cons.mp hb with e | hb
    · rw [e]; exact ⟨f, _, h, rfl⟩
    · exact RoL.mem l _ hb
  | _, _, _, .dct f h _ l, b, hb => by
    rcases List.mem_cons.mp hb with e | hb
    · rw [e]; exact ⟨f, _, h, rfl⟩
    · exact RoL.mem l _ hb
  | _, _, _, .dtt f h _ l, b, hb => by
    rcases List.mem_cons.mp hb with e | hb
    · rw [e]; exact ⟨f, _, h, rfl⟩
    · exact RoL.mem l _ hb
  | _, _, _, .ins f h _ l, b, hb => by
    rcases List.mem_cons.mp hb with e | hb
    · rw [e]; exact ⟨f, _, h, rfl⟩
    · exact RoL.mem l _ hb
theorem RoL.mem : ∀ {vs : List V} {os : List O} {A : List Addr}, RoL K F H vs os A → ∀ a ∈ A, F a = none ∧ ∃ u, H a = some u ∧ ownable u = true
  | _, _, _, .nil, _, hb => by cases hb
  | _, _, _, .cons h l, b, hb => (List.mem_append.mp hb).elim (Ro.mem h b) (RoL.mem l b)
end
/-- all that is owned at A is laid into the frozen part -/
def fz (F H : Hp) (A : List Addr) : Hp := fun a => if a ∈ A then H a else F a
theorem fz_in {A : List Addr} {a : Addr} (h : a ∈ A) : fz F H A a = H a := if_pos h
theorem fz_out {A : List Addr} {a : Addr} (h : a ∉ A) : fz F H A a = F a := if_neg h
mutual
theorem Ro.fzn {G : Hp} (f : ∀ a u, F a = some u → G a = some u) : ∀ {v : V} {o : O} {A : List Addr}, Ro K F H v o A → (∀ a ∈ A, G a = H a) → Vw K G v o.toD
  | _, _, _, .frz h, _ => by rw [O.toD]; exact h.sub (.of f)
  | _, _, _, .tup h l, k => by rw [O.toD]; exact .tup (f _ _ h) (RoL.fzn f l k)
  | _, _, _, .lst _ h l, k => by rw [O.toD]; exact .lst ((k _ List.mem_cons_self).trans h) (RoL.fzn f l fun b hb => k b (List.mem_cons_of_mem _ hb))
  | _, _, _, .dct _ h e l, k => by rw [O.toD]; exact .dct (.inl ((k _ List.mem_cons_self).trans h)) (by rw [toDk_fst]; exact e.eq) (by rw [toDk_snd]; exact RoL.fzn f l fun b hb => k b (List.mem_cons_of_mem _ hb))
  | _, _, _, .dtt _ h e l, k => by rw [O.toD]; exact .dtt (.inl ((k _ List.mem_cons_self).trans h)) (by rw [toDt_fst]; exact e.eq) (by rw [toDt_snd]; exact RoL.fzn f l fun b hb => k b (List.mem_cons_of_mem _ hb))
  | _, _, _, .ins _ h e l, k => by rw [O.toD]; exact .ins ((k _ List.mem_cons_self).trans h) (by rw [toDf_fst]; exact e) (by rw [toDf_snd]; exact RoL.fzn f l fun b hb => k b (List.mem_cons_of_mem _ hb))
theorem RoL.fzn {G : Hp} (f : ∀ a u, F a = some u → G a = some u) : ∀ {vs : List V} {os : List O} {A : List Addr}, RoL K F H vs os A → (∀ a ∈ A, G a = H a) → VwL K G vs (O.toDs os)
  | _, _, _, .nil, _ => by rw [O.toDs]; exact .nil
  | _, _, _, .cons h l, k => by rw [O.toDs]; exact .cons (Ro.fzn f h fun b hb => k b (List.mem_append_left _ hb)) (RoL.fzn f l fun b hb => k b (List.mem_append_right _ hb))
end
mutual
/-- what is never changed is read in whatever holds the tuples -/
theorem Vw.immv {G : Hp} (t : ∀ a vs, H a = some (.tup vs) → G a = some (.tup vs)) : ∀ {v : V} {d : D}, Vw K H v d → d.imm = true → Vw K G v d
  | _, _, .non, _ => .non
  | _, _, .bl b, _ => .bl b
  | _, _, .int i, _ => .int i
  | _, _, .str x, _ => .str x
  | _, _, .tup h l, e => .tup (t _ _ h) (VwL.immv t l (by rw [D.imm] at e; exact e))
  | _, _, .lst _ _, e => by rw [D.imm] at e; cases e
  | _, _, .dct _ _ _, e => by rw [D.imm] at e; cases e
  | _, _, .dtt _ _ _, e => by rw [D.imm] at e; cases e
  | _, _, .ins _ _ _, e => by rw [D.imm] at e; cases e
  | _, _, .scr _, e => by rw [D.imm] at e; cases e
  | _, _, .exc _ _ _ _, e => by rw [D.imm] at e; cases e
theorem VwL.immv {G : Hp} (t : ∀ a vs, H a = some (.tup vs) → G a = some (.tup vs)) : ∀ {vs : List V} {ds : List D}, VwL K H vs ds → D.imms ds = true → VwL K G vs ds
  | _, _, .nil, _ => .nil
  | _, _, .cons h l, e => by
    rw [D.imms] at e
    obtain ⟨e1, e2⟩ := Bool.and_eq_true_iff.mp e
    exact .cons (Vw.immv t h e1) (VwL.immv t l e2)
end
theorem RoL.length : ∀ {vs : List V} {os : List O} {A : List Addr}, RoL K F H vs os A → vs.length = os.length
  | _, _, _, .nil => rfl
  | _, _, _, .cons _ l => by rw [List.length_cons, List.length_cons, RoL.length l]
/-- the i-th, and the rest -/
theorem RoL.at : ∀ {vs : List V} {os : List O} {A : List Addr} {i : Nat} {o : O}, RoL K F H vs os A → os[i]? = some o →
    ∃ v A1 B A2, vs[i]? = some v ∧ A = A1 ++ B ++ A2 ∧ Ro K F H v o B ∧ ∀ (F' H' : Hp) (v' : V) (o' : O) (B' : List Addr), (∀ a u, F a = some u → F' a = some u) → (∀ a ∈ A1 ++ A2, F' a = none ∧ H' a = H a) → Ro K F' H' v' o' B' → RoL K F' H' (vs.set i v') (os.set i o') (A1 ++ B' ++ A2)
  | _, _, _, _, _, .nil, e => by simp at e
  | _, _, _, 0, _, .cons (B := B) (A := A) h l, e => by
    simp at e; subst e
    refine ⟨_, [], A, B, rfl, by simp, h, fun F' H' v' o' B' f k r => ?_⟩
    simp only [List.set_cons_zero, List.nil_append]
    exact .cons r (l.keep f (by simpa using k))
  | _, _, _, i + 1, _, .cons (A := A) h l, e => by
    obtain ⟨v, A1, B, A2, e1, e2, r, w⟩ := RoL.at (i := i) l (by simpa using e)
    refine ⟨v, A ++ A1, B, A2, by simpa using e1, by simp [e2], r, fun F' H' v' o' B' f k r' => ?_⟩
    simp only [List.set_cons_succ, List.append_assoc]
    have k1 : ∀ a ∈ A, F' a = none ∧ H' a = H a := fun a ha => k a (by simp [ha])
    have k2 : ∀ a ∈ A1 ++ A2, F' a = none ∧ H' a = H a := fun a ha => k a (by simp only [List.append_assoc]; exact List.mem_append_right _ ha)
    have := w F' H' v' o' B' f k2 r'
    rw [List.append_assoc] at this
    exact .cons (h.keep f k1) this
theorem RoL.append : ∀ {vs ws : List V} {os ps : List O} {A B : List Addr}, RoL K F H vs os A → RoL K F H ws ps B → RoL K F H (vs ++ ws) (os ++ ps) (A ++ B)
  | _, _, _, _, _, _, .nil, s => s
  | _, _, _, _, _, _, .cons r t, s => by rw [List.append_assoc]; exact .cons r (RoL.append t s)
theorem RoL.one {v : V} {o : O} {A : List Addr} (h : Ro K F H v o A) : RoL K F H [v] [o] A := by
  have := RoL.cons h .nil
  rw [List.append_nil] at this
  exact this
theorem RoL.frz : ∀ {vs : List V} {ds : List D}, VwL K F vs ds → RoL K F H vs (ds.map O.frz) []
  | _, _, .nil => .nil
  | _, _, .cons h l => .cons (A := []) (.frz h) (RoL.frz l)
end
end VL
namespace VL
open PySem PySem.Spec PyProof.Rows L2
abbrev Tab := List (Addr × Str)
/-- what holds of the frozen part and the heap at all times -/
structure Gl (T : Tab) (F H : Hp) : Prop where
  sub : SubN F H
  notbl : ∀ a ps, F a ≠ some (.tbl ps)
  tup : ∀ a vs, H a = some (.tup vs) → F a = some (.tup vs)
  tab : LamX.Tabs T H
/-- pure growth -/
structure PX (T : Tab) (F H F' H' : Hp) : Prop where
  f : ∀ a u, F a = some u → F' a = some u
  h : LamX.ExtN H H'
  new : ∀ a, F a = none → H a ≠ none → F' a = none
  trk : ∀ a ps, H a = some (.tbl ps) → ∃ ps', H' a = some (.tbl ps')
  gl : Gl T F' H'
section
variable {T : Tab} {F H F' H' F1 H1 F2 H2 : Hp}
theorem PX.refl (g : Gl T F H) : PX T F H F H := ⟨fun _ _ e => e, .refl H, fun _ e _ => e, fun _ ps e => ⟨ps, e⟩, g⟩
theorem PX.trk' (p : PX T F H F' H') {a : Addr} (h : H a ≠ none) : H' a ≠ none := by
  cases e : H a with
  | none => exact absurd e h
  | some u =>
    by_cases z : ∃ ps, u = .tbl ps
    · obtain ⟨ps, rfl⟩ := z
      obtain ⟨ps', e'⟩ := p.trk a ps e
      rw [e']; exact fun q => by cases q
    · rw [p.h a u e fun ps q => z ⟨ps, q⟩]; exact fun q => by cases q
theorem PX.free (p : PX T F H F' H') {a : Addr} (h : H' a = none) : H a = none := by
  cases e : H a with
  | none => rfl
  | some u => exact absurd h (p.trk' (by rw [e]; exact fun q => by cases q))
theorem PX.trans (p : PX T F H F1 H1) (q : PX T F1 H1 F2 H2) : PX T F H F2 H2 :=
  ⟨fun a u e => q.f a u (p.f a u e), p.h.trans q.h, fun a e h => q.new a (p.new a e h) (p.trk' h), fun a ps e => by
    obtain ⟨ps1, e1⟩ := p.trk a ps e
    exact q.trk a ps1 e1, q.gl⟩
theorem own_ntbl {u : HO} (o : ownable u = true) : ∀ ps, u ≠ .tbl ps := fun ps z => by rw [z] at o; cases o
theorem Ro.px {K : PySem.W.Frag} {v : V} {o : O} {A : List Addr} (r : Ro K F H v o A) (p : PX T F H F' H') : Ro K F' H' v o A :=
  r.keep p.f fun a ha => by
    obtain ⟨h1, u, h2, h3⟩ := r.mem a ha
    exact ⟨p.new a h1 (by rw [h2]; exact fun q => by cases q), by rw [h2, p.h a u h2 (own_ntbl h3)]⟩
/-- a new object that is frozen at once -/
theorem PX.laid (g : Gl T F H) {p : Addr} {u : HO} (hp : H p = none) (nt : ∀ ps, u ≠ .tbl ps) (nd : isDict u = false ∨ True) : PX T F H (upd F p u) (upd H p u) := by
  have hF : F p = none := by
    cases e : F p with
    | none => rfl
    | some w =>
      rcases g.sub p w e (fun ps z => g.notbl p ps (by rw [e, z])) with h | ⟨_, o, h⟩
      · rw [hp] at h; cases h
      · rw [hp] at h; cases h
  have nF : ∀ a w, F a = some w → a ≠ p := fun a w e => ne_of_none e hF
  have nH : ∀ a w, H a = some w → a ≠ p := fun a w e => ne_of_none e hp
  refine ⟨fun a w e => by rw [upd_ne (nF a w e)]; exact e, fun a w e _ => by rw [upd_ne (nH a w e)]; exact e, fun a e h => ?_, fun a ps e => ⟨ps, by rw [upd_ne (nH a _ e)]; exact e⟩, ⟨fun a w e n => ?_, fun a ps e => ?_, fun a vs e => ?_, g.tab.ext fun b o e => by rw [upd_ne (nH b o e)]; exact e⟩⟩
  · rw [upd_ne]
    · exact e
    · intro z; rw [z] at h; exact h hp
  · by_cases z : a = p
    · rw [z, upd_same] at e; cases e
      exact .inl (by rw [z]; exact upd_same)
    · rw [upd_ne z] at e ⊢
      exact g.sub a w e n
  · by_cases z : a = p
    · rw [z, upd_same] at e; cases e; exact nt ps rfl
    · rw [upd_ne z] at e; exact g.notbl a ps e
  · by_cases z : a = p
    · rw [z, upd_same] at e; cases e; rw [z]; exact upd_same
    · rw [upd_ne z] at e ⊢; exact g.tup a vs e
/-- a new object that is not frozen -/
theorem PX.owned (g : Gl T F H) {p : Addr} {u : HO} (hp : H p = none) (nt : ∀ xs, u ≠ .tup xs) : PX T F H F (upd H p u) := by
  have nH : ∀ a w, H a = some w → a ≠ p := fun a w e => ne_of_none e hp
  refine ⟨fun a w e => e, fun a w e _ => by rw [upd_ne (nH a w e)]; exact e, fun a e h => e, fun a ps e => ⟨ps, by rw [upd_ne (nH a _ e)]; exact e⟩, ⟨fun a w e n => ?_, g.notbl, fun a vs e => ?_, g.tab.ext fun b o e => by rw [upd_ne (nH b o e)]; exact e⟩⟩
  · have z : a ≠ p := fun z => by
      rcases g.sub a w e n with h | ⟨_, o, h⟩
      · rw [z, hp] at h; cases h
      · rw [z, hp] at h; cases h
    rw [upd_ne z]
    exact g.sub a w e n
  · by_cases z : a = p
    · rw [z, upd_same] at e; cases e; exact absurd rfl (nt vs)
    · rw [upd_ne z] at e; exact g.tup a vs e
theorem Gl.free (g : Gl T F H) {p : Addr} (hp : H p = none) : F p = none := by
  cases e : F p with
  | none => rfl
  | some w =>
    rcases g.sub p w e (fun ps z => g.notbl p ps (by rw [e, z])) with h | ⟨_, o, h⟩
    · rw [hp] at h; cases h
    · rw [hp] at h; cases h
end
/-- a step of a path -/
inductive Stp where
  | ix (i : Nat) | key (k : Key) | fld (f : Str)
/-- what a slot holds -/
inductive SV where
  | dead | frz (d : D) | own (o : O) | io (o : O) | als (r : Nat) (p : List Stp)
abbrev Env := List SV

def getA {κ α : Type} [DecidableEq κ] (kvs : List (κ × α)) (k : κ) : Option α := (kvs.find? fun kv => decide (kv.1 = k)).map (·.2)
def putA {κ α : Type} [DecidableEq κ] (kvs : List (κ × α)) (k : κ) (v : α) : List (κ × α) :=
  if (kvs.any fun kv => decide (kv.1 = k)) = true then kvs.map (fun kv => if kv.1 = k then (kv.1, v) else kv) else kvs ++ [(k, v)]

/-- one step down, of what is one's own -/
def O.step : O → Stp → Option O
  | .lst os, .ix i => os[i]?
  | .tup os, .ix i => os[i]?
  | .dct kos, .key k => getA kos k
  | .ins _ fos, .fld f => fos.lookup f
  | _, _ => none
def O.walk : O → List Stp → Option O
  | o, [] => some o
  | o, s :: p => (o.step s).bind fun o' => o'.walk p
/-- the value one step down -/
def vStep (H : Hp) : V → Stp → Option V
  | .ref a, .ix i => match H a with
    | some (.lst vs) => vs[i]?
    | some (.tup vs) => vs[i]?
    | _ => none
  | .ref a, .key k => match H a with
    | some (.dK kvs) => valV kvs k
    | some (.frz _ (.dK kvs)) => valV kvs k
    | _ => none
  | .ref a, .fld f => match H a with
    | some (.ins _ _ fs) => fs.lookup f
    | _ => none
  | _, _ => none
def vWalk (H : Hp) : V → List Stp → Option V
  | v, [] => some v
  | v, s :: p => (vStep H v s).bind fun v' => vWalk H v' p

/-- slot i is as it is told; ω: the owner of an address -/
def SlotOk (K : PySem.W.Frag) (F H : Hp) (σ : L2.St) (ω : Addr → Option Nat) (i : Nat) : SV → Prop
  | .dead => True
  | .frz d => ∃ v, σ[i]? = some (some v) ∧ Vw K F v d
  | .own o => ∃ v A, σ[i]? = some (some v) ∧ Ro K F H v o A ∧ A.Nodup ∧ ∀ a ∈ A, ω a = some i
  | .io o => ∃ v A, σ[i]? = some (some v) ∧ Ro K F H v o A ∧ A.Nodup ∧ ∀ a ∈ A, ω a = some i
  | .als r p => ∃ v w o A, σ[i]? = some (some v) ∧ σ[r]? = some (some w) ∧ vWalk H w p = some v ∧ Ro K F H w o A ∧ (∀ a ∈ A, ω a = some r) ∧ ∃ o', o.walk p = some o'
structure Sta (K : PySem.W.Frag) (T : Tab) (F H : Hp) (σ : L2.St) (env : Env) (ω : Addr → Option Nat) : Prop where
  gl : Gl T F H
  len : σ.length = env.length
  slot : ∀ i s, env[i]? = some s → SlotOk K F H σ ω i s
  og : ∀ a i, ω a = some i → F a = none ∧ ∃ u, H a = some u ∧ ownable u = true

section
variable {K : PySem.W.Frag} {T : Tab} {F H F' H' : Hp} {σ : L2.St} {env : Env} {ω : Addr → Option Nat}
theorem vStep_ext (h : LamX.ExtN H H') : ∀ {v : V} {s : Stp} {w : V}, vStep H v s = some w → vStep H' v s = some w := by
  intro v s w e
  cases v with
  | ref a =>
    cases q : H a with
    | none => cases s <;> simp [vStep, q] at e
    | some u =>
      by_cases z : ∃ ps, u = .tbl ps
      · obtain ⟨ps, rfl⟩ := z
        cases s <;> simp [vStep, q] at e
      · have q' := h a u q fun ps y => z ⟨ps, y⟩
        cases s <;> simpa [vStep, q, q'] using e
  | _ => cases s <;> simp [vStep] at e
theorem vWalk_ext (h : LamX.ExtN H H') : ∀ {p : List Stp} {v w : V}, vWalk H v p = some w → vWalk H' v p = some w
  | [], _, _, e => e
  | s :: p, v, w, e => by
    unfold vWalk at e ⊢
    obtain ⟨u, e1, e2⟩ := Option.bind_eq_some_iff.mp e
    rw [vStep_ext h e1]
    exact vWalk_ext h e2
theorem Sta.px (s : Sta K T F H σ env ω) (p : PX T F H F' H') : Sta K T F' H' σ env ω := by
  refine ⟨p.gl, s.len, fun i sv e => ?_, fun a i e => ?_⟩
  · have := s.slot i sv e
    cases sv with
    | dead => trivial
    | frz d =>
      obtain ⟨v, h1, h2⟩ := this
      exact ⟨v, h1, h2.sub (.of p.f)⟩
    | own o =>
      obtain ⟨v, A, h1, h2, h3, h4⟩ := this
      exact ⟨v, A, h1, h2.px p, h3, h4⟩
    | io o =>
      obtain ⟨v, A, h1, h2, h3, h4⟩ := this
      exact ⟨v, A, h1, h2.px p, h3, h4⟩
    | als r q =>
      obtain ⟨v, w, o, A, h1, h2, h3, h4, h5⟩ := this
      exact ⟨v, w, o, A, h1, h2, vWalk_ext p.h h3, h4.px p, h5⟩
  · obtain ⟨h1, u, h2, h3⟩ := s.og a i e
    exact ⟨p.new a h1 (by rw [h2]; exact fun q => by cases q), u, p.h a u h2 (own_ntbl h3), h3⟩
end
/-- o is seen at v -/
def VwO (K : PySem.W.Frag) (F H : Hp) (v : V) (o : O) : Prop := ∃ A, Ro K F H v o A
section
variable {K : PySem.W.Frag} {T : Tab} {F H F' H' : Hp} {v : V} {o : O} {d : D}
theorem VwO.px (h : VwO K F H v o) (p : PX T F H F' H') : VwO K F' H' v o := let ⟨A, r⟩ := h; ⟨A, r.px p⟩
theorem VwO.vw (h : VwO K F H v o) (g : Gl T F H) : Vw K H v o.toD := let ⟨_, r⟩ := h; r.vw g.sub
theorem VwO.frz (h : Vw K F v d) : VwO K F H v (.frz d) := ⟨[], .frz h⟩
/-- frozen, or never changed -/
def asFrz : O → Option D
  | .frz d => some d
  | o => if o.toD.imm then some o.toD else none
theorem asFrz_toD {d : D} (h : asFrz o = some d) : o.toD = d := by
  cases o with
  | frz e => simp [asFrz] at h; rw [O.toD]; exact h
  | _ =>
    unfold asFrz at h
    split at h
    · rename_i q; cases q
    · split at h
      · exact Option.some.inj h
      · cases h
theorem VwO.asFrz (h : VwO K F H v o) (g : Gl T F H) (e : VL.asFrz o = some d) : Vw K F v d := by
  have e2 := asFrz_toD e
  have hv := h.vw g
  cases o with
  | frz d' =>
    obtain ⟨A, r⟩ := h
    simp [VL.asFrz] at e
    subst e
    cases r with
    | frz h => exact h
  | _ =>
    unfold VL.asFrz at e
    split at e
    · rename_i q; cases q
    · split at e
      · rename_i q
        rw [← e2]
        exact hv.immv g.tup q
      · cases e
end
abbrev Em := Env → Option O
abbrev Es := Env → Option (List O)
def tB (K : PySem.W.Frag) (T : Tab) (m : Em) : TE := fun σ H Q => ∃ F env ω, Sta K T F H σ env ω ∧ ∃ o, m env = some o ∧ ∀ v F' H', PX T F H F' H' → VwO K F' H' v o → Q v H'
/-- e changes nothing; its value is told by m -/
def BE (X : Cx) (T : Tab) (e : Expr) (m : Em) : Prop := PE X e (tB X.K T m)
theorem peI {X : Cx} {e : Expr} {t t' : TE} (h : PE X e t) (w : ∀ σ H Q, t' σ H Q → t σ H Q) : PE X e t' := ⟨fun pins s σ H Q I q => h.run pins s σ H Q I (w σ H Q q)⟩
theorem peOr {X : Cx} {e : Expr} {t t' : TE} (h : PE X e t) (h' : PE X e t') : PE X e (fun σ H Q => t σ H Q ∨ t' σ H Q) :=
  ⟨fun pins s σ H Q I q => q.elim (h.run pins s σ H Q I) (h'.run pins s σ H Q I)⟩
def tBs (K : PySem.W.Frag) (T : Tab) (m : Es) : TA := fun σ H Q => ∃ F env ω, Sta K T F H σ env ω ∧ ∃ os, m env = some os ∧ ∀ vs F' H', PX T F H F' H' → Paired (VwO K F' H') vs os → Q vs H'
def BA (X : Cx) (T : Tab) (es : List Expr) (m : Es) : Prop := PA X es (tBs X.K T m)
theorem paI {X : Cx} {e : List Expr} {t t' : TA} (h : PA X e t) (w : ∀ σ H Q, t' σ H Q → t σ H Q) : PA X e t' := ⟨fun pos pins s σ H Q I q => h.run pos pins s σ H Q I (w σ H Q q)⟩

def eVar (i : Nat) : Em := fun env => match env[i]? with
  | some (.frz d) => some (.frz d)
  | some (.own o) => some o
  | some (.io o) => some o
  | some (.als r p) => (match env[r]? with
    | some (.own o) => o.walk p
    | some (.io o) => o.walk p
    | _ => none)
  | _ => none
def eC (d : D) : Em := fun _ => some (.frz d)
def eNil : Es := fun _ => some []
def eCons (a : Em) (r : Es) : Es := fun env => (a env).bind fun o => (r env).bind fun os => some (o :: os)

section
variable {K : PySem.W.Frag} {T : Tab} {F H : Hp} {v : V} {o : O}
theorem step_ro {A : List Addr} (r : Ro K F H v o A) (sub : SubN F H) {s : Stp} {o' : O} (e : o.step s = some o') : ∃ v' B, vStep H v s = some v' ∧ Ro K F H v' o' B := by
  cases r with
  | frz h => cases s <;> simp [O.step] at e
  | tup h l =>
    cases s with
    | ix i =>
      obtain ⟨v', A1, B, A2, e1, _, r', _⟩ := l.at (i := i) (o := o') (by simpa [O.step] using e)
      exact ⟨v', B, by simp [vStep, sub.at h (fun _ z => by cases z) rfl, e1], r'⟩
    | key k => simp [O.step] at e
    | fld f => simp [O.step] at e
  | lst f h l =>
    cases s with
    | ix i =>
      obtain ⟨v', A1, B, A2, e1, _, r', _⟩ := l.at (i := i) (o := o') (by simpa [O.step] using e)
      exact ⟨v', B, by simp [vStep, h, e1], r'⟩
    | key k => simp [O.step] at e
    | fld f => simp [O.step] at e
  | @dct a kvs kos A f h ek0 l =>
    have ek := ek0.eq
    clear ek0
    cases s with
    | key k =>
      have e' : getA kos k = some o' := by simpa [O.step] using e
      have : ∃ v' B, valV kvs k = some v' ∧ Ro K F H v' o' B := by
        clear h e
        induction kvs generalizing kos A with
        | nil => cases kos with
          | nil => simp [getA] at e'
          | cons _ _ => simp at ek
        | cons p kvs ih => cases kos with
          | nil => simp at ek
          | cons q kos =>
            obtain ⟨pk, pv⟩ := p
            obtain ⟨qk, qo⟩ := q
            simp only [List.map_cons, List.cons.injEq] at ek
            obtain ⟨e1, e2⟩ := ek
            subst e1
            simp only [List.map_cons] at l
            cases l with
            | cons h1 h2 =>
              by_cases z : pk = k
              · simp [getA, List.find?_cons, z] at e'
                subst e'
                exact ⟨pv, _, by simp [valV, List.find?_cons, z], h1⟩
              · have e3 : getA kos k = some o' := by simpa [getA, List.find?_cons, z] using e'
                obtain ⟨v', B, h3, h4⟩ := ih h2 e2 e3
                exact ⟨v', B, by simpa [valV, List.find?_cons, z] using h3, h4⟩
      obtain ⟨v', B, h1, h2⟩ := this
      exact ⟨v', B, by simp [vStep, h, h1], h2⟩
    | ix i => simp [O.step] at e
    | fld f => simp [O.step] at e
  | dtt f h ek l => cases s <;> simp [O.step] at e
  | @ins a dx C fs fos A f h ek l =>
    cases s with
    | fld g =>
      have e' : fos.lookup g = some o' := by simpa [O.step] using e
      have : ∃ v' B, fs.lookup g = some v' ∧ Ro K F H v' o' B := by
        clear h e
        induction fs generalizing fos A with
        | nil => cases fos with
          | nil => simp at e'
          | cons _ _ => simp at ek
        | cons p fs ih => cases fos with
          | nil => simp at ek
          | cons q fos =>
            obtain ⟨pk, pv⟩ := p
            obtain ⟨qk, qo⟩ := q
            simp only [List.map_cons, List.cons.injEq] at ek
            obtain ⟨e1, e2⟩ := ek
            subst e1
            simp only [List.map_cons] at l
            cases l with
            | cons h1 h2 =>
              cases z : (g == pk) with
              | true =>
                simp [List.lookup, z] at e'
                subst e'
                exact ⟨pv, _, by simp [List.lookup, z], h1⟩
              | false =>
                have e3 : fos.lookup g = some o' := by simpa [List.lookup, z] using e'
                obtain ⟨v', B, h3, h4⟩ := ih e2 h2 e3
                exact ⟨v', B, by simpa [List.lookup, z] using h3, h4⟩
      obtain ⟨v', B, h1, h2⟩ := this
      exact ⟨v', B, by simp [vStep, h, h1], h2⟩
    | ix i => simp [O.step] at e
    | key k => simp [O.step] at e
theorem walk_ro (sub : SubN F H) : ∀ {p : List Stp} {v : V} {o o' : O} {A : List Addr}, Ro K F H v o A → o.walk p = some o' → ∃ v' B, vWalk H v p = some v' ∧ Ro K F H v' o' B
  | [], v, o, o', A, r, e => by
    have e : o = o' := by simpa [O.walk] using e
    subst e
    exact ⟨v, A, rfl, r⟩
  | s :: p, v, o, o', A, r, e => by
    unfold O.walk at e
    obtain ⟨o1, e1, e2⟩ := Option.bind_eq_some_iff.mp e
    obtain ⟨v1, B, e3, r1⟩ := step_ro r sub e1
    obtain ⟨v', B', e4, r2⟩ := walk_ro sub r1 e2
    exact ⟨v', B', by unfold vWalk; rw [e3]; exact e4, r2⟩
end
section
variable {X : Cx} {T : Tab} {a b c : Expr} {ma mb mc : Em} {pos : Pos}
theorem Sta.var {K : PySem.W.Frag} {F H : Hp} {σ : L2.St} {env : Env} {ω : Addr → Option Nat} (s : Sta K T F H σ env ω) {i : Nat} {o : O} (e : eVar i env = some o) : ∃ v, σ[i]? = some (some v) ∧ VwO K F H v o := by
  unfold eVar at e
  split at e
  · rename_i d q
    obtain ⟨v, h1, h2⟩ := s.slot i _ q
    cases e
    exact ⟨v, h1, .frz h2⟩
  · rename_i o' q
    obtain ⟨v, A, h1, h2, _, _⟩ := s.slot i _ q
    cases e
    exact ⟨v, h1, A, h2⟩
  · rename_i o' q
    obtain ⟨v, A, h1, h2, _, _⟩ := s.slot i _ q
    cases e
    exact ⟨v, h1, A, h2⟩
  · rename_i r p q
    obtain ⟨v, w, _, _, h1, h2, h3, _⟩ := s.slot i _ q
    split at e
    · rename_i o' q'
      obtain ⟨v', A, g1, g2, _, _⟩ := s.slot r _ q'
      rw [g1] at h2; cases h2
      obtain ⟨v2, B, e1, r2⟩ := walk_ro s.gl.sub g2 e
      rw [h3] at e1; cases e1
      exact ⟨v, h1, B, r2⟩
    · rename_i o' q'
      obtain ⟨v', A, g1, g2, _, _⟩ := s.slot r _ q'
      rw [g1] at h2; cases h2
      obtain ⟨v2, B, e1, r2⟩ := walk_ro s.gl.sub g2 e
      rw [h3] at e1; cases e1
      exact ⟨v, h1, B, r2⟩
    · cases e
  · cases e
theorem be_var (i : Nat) {x : Str} (hN : X.N[i]? = some x := by rfl) (hv : Vis X.env.scope x := by first | exact Or.inl rfl | exact Or.inr (Or.inl rfl) | exact Or.inr (Or.inr rfl)) (hd : (x == ("__debug__" : Str)) = false := by decide)
    (hcd : (x == ("__classdict__" : Str)) = false := by decide) : BE X T (.Name x pos) (eVar i) := by
  refine peI (pe_var hN hv hd hcd) fun σ H Q h => ?_
  obtain ⟨F, env, ω, s, o, e, k⟩ := h
  obtain ⟨v, h1, h2⟩ := s.var e
  exact ⟨v, h1, k v F H (.refl s.gl) h2⟩
theorem be_C {d : D} {v : V} {e : Expr} (h : PE X e (tC v)) (hv : ∀ F, Vw X.K F v d) : BE X T e (eC d) := by
  refine peI h fun σ H Q h => ?_
  obtain ⟨F, env, ω, s, o, e, k⟩ := h
  cases e
  exact k v F H (.refl s.gl) (.frz (hv F))
theorem be_int {i j} : BE X T (.Constant (.int i) j pos) (eC (.int i)) := be_C pe_int fun _ => .int i
theorem be_bl {i j} : BE X T (.Constant (.bool i) j pos) (eC (.bl i)) := be_C pe_bl fun _ => .bl i
theorem be_non {j} : BE X T (.Constant .none j pos) (eC .non) := be_C pe_non fun _ => .non
theorem be_str {i j} : BE X T (.Constant (.str i) j pos) (eC (.str i)) := be_C pe_str fun _ => .str i
theorem ba_nil : BA X T [] eNil := by
  refine paI pa_nil fun σ H Q h => ?_
  obtain ⟨F, env, ω, s, o, e, k⟩ := h
  cases e
  exact k [] F H (.refl s.gl) .nil
theorem ba_cons {es : List Expr} {m : Es} (ha : BE X T a ma) (hr : BA X T es m) (hs : starEach (a :: es) X.env = (false, eval a X.env) :: starEach es X.env := by rfl) : BA X T (a :: es) (eCons ma m) := by
  refine paI (pa_cons ha hr hs) fun σ H Q h => ?_
  obtain ⟨F, env, ω, s, o, e, k⟩ := h
  obtain ⟨x, e1, e⟩ := Option.bind_eq_some_iff.mp e
  obtain ⟨xs, e2, e⟩ := Option.bind_eq_some_iff.mp e
  cases e
  refine ⟨F, env, ω, s, x, e1, fun v F1 H1 p1 h1 => ⟨F1, env, ω, s.px p1, xs, e2, fun vs F2 H2 p2 h2 => ?_⟩⟩
  exact k _ F2 H2 (p1.trans p2) (.cons (h1.px p2) h2)

end
end VL
namespace VL
open PySem PySem.Spec PyProof.Rows L2
/-- o is new at v: its own objects were not there in H -/
structure Fresh (K : PySem.W.Frag) (H F' H' : Hp) (v : V) (o : O) (A : List Addr) : Prop where
  ro : Ro K F' H' v o A
  nd : A.Nodup
  new : ∀ a ∈ A, H a = none
def tF (K : PySem.W.Frag) (T : Tab) (m : Em) : TE := fun σ H Q => ∃ F env ω, Sta K T F H σ env ω ∧ ∃ o, m env = some o ∧ ∀ v F' H' A, PX T F H F' H' → Fresh K H F' H' v o A → Q v H'
/-- e changes nothing; its value is new, and one's own -/
def FE (X : Cx) (T : Tab) (e : Expr) (m : Em) : Prop := PE X e (tF X.K T m)
/-- frozen at once -/
def frzE (m : Em) : Em := fun env => (m env).map fun o => .frz o.toD
/-- .. where it need not be one's own -/
def takE (m : Em) : Em := fun env => (m env).bind fun o => (asFrz o).map .frz
section
variable {K : PySem.W.Frag} {T : Tab} {F H F' H' : Hp} {v : V} {o : O} {A : List Addr}
theorem fz_gl (g : Gl T F' H') (r : Ro K F' H' v o A) : Gl T (fz F' H' A) H' := by
  refine ⟨fun a u e n => ?_, fun a ps e => ?_, fun a vs e => ?_, g.tab⟩
  · by_cases z : a ∈ A
    · rw [fz_in z] at e; exact .inl e
    · rw [fz_out z] at e; exact g.sub a u e n
  · by_cases z : a ∈ A
    · rw [fz_in z] at e
      obtain ⟨_, u, h2, h3⟩ := r.mem a z
      rw [e] at h2; cases h2; cases h3
    · rw [fz_out z] at e; exact g.notbl a ps e
  · have h := g.tup a vs e
    rw [fz_out fun z => by rw [(r.mem a z).1] at h; cases h]
    exact h
theorem fz_px (p : PX T F H F' H') (f : Fresh K H F' H' v o A) : PX T F H (fz F' H' A) H' := by
  refine ⟨fun a u e => ?_, p.h, fun a e h => ?_, p.trk, fz_gl p.gl f.ro⟩
  · have h := p.f a u e
    rw [fz_out fun z => by rw [(f.ro.mem a z).1] at h; cases h]
    exact h
  · rw [fz_out fun z => h (f.new a z)]
    exact p.new a e h
theorem fz_vw (p : PX T F H F' H') (f : Fresh K H F' H' v o A) : Vw K (fz F' H' A) v o.toD := by
  refine f.ro.fzn (fun a u e => ?_) fun a h => fz_in h
  rw [fz_out fun z => by rw [(f.ro.mem a z).1] at e; cases e]
  exact e
theorem Fresh.frz {d : D} (h : Vw K F' v d) : Fresh K H F' H' v (.frz d) [] := ⟨.frz h, .nil, fun _ z => by cases z⟩
end
section
variable {X : Cx} {T : Tab} {e : Expr} {m : Em}
theorem be_fe (h : FE X T e m) : BE X T e (frzE m) := by
  refine peI h fun σ H Q q => ?_
  obtain ⟨F, env, ω, s, o, e, k⟩ := q
  obtain ⟨o', e1, e2⟩ := Option.map_eq_some_iff.mp e
  subst e2
  exact ⟨F, env, ω, s, o', e1, fun v F' H' A p f => k v _ H' (fz_px p f) (.frz (fz_vw p f))⟩
theorem fe_be (h : BE X T e m) : FE X T e (takE m) := by
  refine peI h fun σ H Q q => ?_
  obtain ⟨F, env, ω, s, o, e, k⟩ := q
  obtain ⟨o', e1, e2⟩ := Option.bind_eq_some_iff.mp e
  obtain ⟨d, e3, e4⟩ := Option.map_eq_some_iff.mp e2
  subst e4
  exact ⟨F, env, ω, s, o', e1, fun v F' H' p h => k v F' H' [] p (.frz (h.asFrz p.gl e3))⟩
end
def eOp1 (f : O → Option O) (a : Em) : Em := fun env => (a env).bind f
def eOp2 (f : O → O → Option O) (a b : Em) : Em := fun env => (a env).bind fun x => (b env).bind fun y => f x y
/-- by plain values -/
def sc1 (g : D → Option D) : O → Option O := fun a => (g a.toD).map .frz
def sc2 (g : D → D → Option D) : O → O → Option O := fun a b => (g a.toD b.toD).map .frz

/-- what a two-place rule asks is given where f tells a value -/
def Op2 (K : PySem.W.Frag) (T : Tab) (r : R2) (f : O → O → Option O) : Prop := ∀ (F H : Hp) (x y : V) (a b o : O) (Q : VK), Gl T F H → VwO K F H x a → VwO K F H y b → f a b = some o →
  (∀ v F' H' A, PX T F H F' H' → Fresh K H F' H' v o A → Q v H') → r x y H Q
def Op1 (K : PySem.W.Frag) (T : Tab) (r : V → Hp → VK → Prop) (f : O → Option O) : Prop := ∀ (F H : Hp) (x : V) (a o : O) (Q : VK), Gl T F H → VwO K F H x a → f a = some o →
  (∀ v F' H' A, PX T F H F' H' → Fresh K H F' H' v o A → Q v H') → r x H Q
section
variable {K : PySem.W.Frag} {T : Tab} {H F1 F2 F' H1 H2 H' : Hp} {v : V} {o : O} {A : List Addr} {F : Hp}
theorem Fresh.back (f : Fresh K H1 F' H' v o A) (p : PX T F H F1 H1) : Fresh K H F' H' v o A := ⟨f.ro, f.nd, fun a h => p.free (f.new a h)⟩
end
section
variable {X : Cx} {T : Tab} {a b c : Expr} {ma mb mc : Em} {pos : Pos}
theorem tOp_of {r : R2} {f : O → O → Option O} (hf : Op2 X.K T r f) {σ : L2.St} {H : Hp} {Q : VK} (h : tF X.K T (eOp2 f ma mb) σ H Q) : tOp r (tB X.K T ma) (tB X.K T mb) σ H Q := by
  obtain ⟨F, env, ω, s, o, e, k⟩ := h
  obtain ⟨x, e1, e⟩ := Option.bind_eq_some_iff.mp e
  obtain ⟨y, e2, e⟩ := Option.bind_eq_some_iff.mp e
  refine ⟨F, env, ω, s, x, e1, fun v F1 H1 p1 h1 => ⟨F1, env, ω, s.px p1, y, e2, fun u F2 H2 p2 h2 => ?_⟩⟩
  exact hf F2 H2 v u _ _ o Q p2.gl (h1.px p2) h2 e fun w F3 H3 A p3 h3 => k w F3 H3 A ((p1.trans p2).trans p3) (h3.back (p1.trans p2))
theorem fe_op2 {op : Operator} {r : R2} {f : O → O → Option O} (ho : OpR X (binaryOp op) r) (hf : Op2 X.K T r f) (ha : BE X T a ma) (hb : BE X T b mb) : FE X T (.BinOp a op b pos) (eOp2 f ma mb) :=
  peI (pe_op ho ha hb) fun _ _ _ h => tOp_of hf h
theorem fe_cmp {op : CmpOp} {r : R2} {f : O → O → Option O} (ho : OpR X (compareOp op) r) (hf : Op2 X.K T r f) (ha : BE X T a ma) (hb : BE X T b mb) (hm : behindInMarks op b = false) : FE X T (.Compare a [op] [b] pos) (eOp2 f ma mb) :=
  peI (pe_cmpR ho ha hb hm) fun _ _ _ h => tOp_of hf h
end
section
variable {K : PySem.W.Frag} {T : Tab}
theorem Op2.sc {r : R2} {g : D → D → Option D} (h : ∀ (F H : Hp) (x y : V) (a b d : D) (Q : VK), Gl T F H → Vw K H x a → Vw K H y b → g a b = some d → (∀ v, Vw K F v d → Q v H) → r x y H Q) : Op2 K T r (sc2 g) := by
  intro F H x y a b o Q gl hx hy e k
  obtain ⟨d, e1, e2⟩ := Option.map_eq_some_iff.mp e
  subst e2
  exact h F H x y _ _ d Q gl (hx.vw gl) (hy.vw gl) e1 fun v hv => k v F H [] (.refl gl) (.frz hv)
theorem Op1.sc {r : V → Hp → VK → Prop} {g : D → Option D} (h : ∀ (F H : Hp) (x : V) (a d : D) (Q : VK), Gl T F H → Vw K H x a → g a = some d → (∀ v, Vw K F v d → Q v H) → r x H Q) : Op1 K T r (sc1 g) := by
  intro F H x a o Q gl hx e k
  obtain ⟨d, e1, e2⟩ := Option.map_eq_some_iff.mp e
  subst e2
  exact h F H x _ d Q gl (hx.vw gl) e1 fun v hv => k v F H [] (.refl gl) (.frz hv)
def orO (f g : O → O → Option O) : O → O → Option O := fun a b => (f a b).or (g a b)
theorem Op2.or {r r' : R2} {f g : O → O → Option O} (h : Op2 K T r f) (h' : Op2 K T r' g) : Op2 K T (fun x y H Q => r x y H Q ∨ r' x y H Q) (orO f g) := by
  intro F H x y a b d Q gl hx hy e k
  have e : (f a b).or (g a b) = some d := e
  cases q : f a b with
  | some z =>
    rw [q] at e
    have e : z = d := by simpa using e
    subst e
    exact .inl (h F H x y a b z Q gl hx hy q k)
  | none =>
    rw [q] at e
    exact .inr (h' F H x y a b d Q gl hx hy (by simpa using e) k)
end
def gI (f : Int → Int → Int) : D → D → Option D
  | .int i, .int j => some (.int (f i j))
  | _, _ => none
def gB (f : Int → Int → Bool) : D → D → Option D
  | .int i, .int j => some (.bl (f i j))
  | _, _ => none
def gMul : D → D → Option D
  | .int i, .int j => if (-(2 ^ 64) < i ∧ i < 2 ^ 64) ∨ (-(2 ^ 64) < j ∧ j < 2 ^ 64) then some (.int (i * j)) else none
  | _, _ => none
def gDiv : D → D → Option D
  | .int i, .int j => if 0 < j ∧ j < 1073741824 then some (.int (i / j)) else none
  | _, _ => none
def gMod : D → D → Option D
  | .int i, .int j => if 0 < j then some (.int (i % j)) else none
  | _, _ => none
def gPow : D → D → Option D
  | .int i, .int j => if 0 ≤ j ∧ j ≤ 1000000 ∧ i.natAbs < 2 ^ 64 then some (.int (i ^ j.toNat)) else none
  | _, _ => none
def gNeg : D → Option D
  | .int i => some (.int (-i))
  | _ => none
def gCatS : D → D → Option D
  | .str x, .str y => if x.length + y.length ≤ sizeLine then some (.str (x ++ y)) else none
  | _, _ => none
/-- the items of a list, each frozen -/
def O.litems : O → Option (List D)
  | .frz (.lst ds) => some ds
  | .frz (.scr ns) => some (ns.map D.int)
  | .lst os => os.mapM asFrz
  | _ => none
/-- .. of a list that is not the script -/
def O.plitems : O → Option (List D)
  | .frz (.lst ds) => some ds
  | .lst os => os.mapM asFrz
  | _ => none
def O.titems : O → Option (List D)
  | .frz (.tup ds) => some ds
  | .tup os => os.mapM asFrz
  | _ => none
def newL (ds : List D) : O := .lst (ds.map O.frz)
def oCatL : O → O → Option O := fun a b => a.plitems.bind fun xs => b.plitems.bind fun ys => if xs.length + ys.length ≤ sizeLine then some (newL (xs ++ ys)) else none
def oCatT : O → O → Option O := fun a b => a.titems.bind fun xs => b.titems.bind fun ys => if xs.length + ys.length ≤ sizeLine then some (.frz (.tup (xs ++ ys))) else none
section
variable {K : PySem.W.Frag} {T : Tab} {F H : Hp} {v : V} {o : O}
theorem ro_mapM (g : Gl T F H) : ∀ {vs : List V} {os : List O} {A : List Addr} {ds : List D}, RoL K F H vs os A → os.mapM asFrz = some ds → VwL K F vs ds
  | _, _, _, ds, .nil, e => by
    have : ds = [] := by simpa using e.symm
    rw [this]; exact .nil
  | _, _, _, ds, .cons (o := o) (os := os) h l, e => by
    rw [List.mapM_cons] at e
    obtain ⟨d, e1, e⟩ := Option.bind_eq_some_iff.mp e
    obtain ⟨ds', e2, e⟩ := Option.bind_eq_some_iff.mp e
    cases e
    exact .cons (VwO.asFrz ⟨_, h⟩ g e1) (ro_mapM g l e2)
theorem VwO.litems (h : VwO K F H v o) (g : Gl T F H) {ds : List D} (e : o.litems = some ds) : ∃ a vs, v = .ref a ∧ SqL K H a vs ∧ VwL K F vs ds := by
  obtain ⟨A, r⟩ := h
  unfold O.litems at e
  split at e
  · cases e
    cases r with
    | frz r => cases r with
      | lst h l => exact ⟨_, _, rfl, .of (g.sub.at h (fun _ z => by cases z) rfl), l⟩
  · cases e
    cases r with
    | frz r => cases r with
      | scr h => exact ⟨_, _, rfl, g.sub.sql h, VwL.of_ints _⟩
  · cases r with
    | lst f h l => exact ⟨_, _, rfl, .of h, ro_mapM g l e⟩
  · cases e
theorem VwO.plitems (h : VwO K F H v o) (g : Gl T F H) {ds : List D} (e : o.plitems = some ds) : ∃ a vs, v = .ref a ∧ H a = some (.lst vs) ∧ VwL K F vs ds := by
  obtain ⟨A, r⟩ := h
  unfold O.plitems at e
  split at e
  · cases e
    cases r with
    | frz r => cases r with
      | lst h l => exact ⟨_, _, rfl, g.sub.at h (fun _ z => by cases z) rfl, l⟩
  · cases r with
    | lst f h l => exact ⟨_, _, rfl, h, ro_mapM g l e⟩
  · cases e
theorem VwO.titems (h : VwO K F H v o) (g : Gl T F H) {ds : List D} (e : o.titems = some ds) : ∃ a vs, v = .ref a ∧ F a = some (.tup vs) ∧ H a = some (.tup vs) ∧ VwL K F vs ds := by
  obtain ⟨A, r⟩ := h
  unfold O.titems at e
  split at e
  · cases e
    cases r with
    | frz r => cases r with
      | tup h l => exact ⟨_, _, rfl, h, g.sub.at h (fun _ z => by cases z) rfl, l⟩
  · cases r with
    | tup h l => exact ⟨_, _, rfl, h, g.sub.at h (fun _ z => by cases z) rfl, ro_mapM g l e⟩
  · cases e
/-- a new list of frozen items -/
theorem new_lst (g : Gl T F H) {p : Addr} {vs : List V} {ds : List D} (hp : H p = none) (l : VwL K F vs ds) : PX T F H F (upd H p (.lst vs)) ∧ Fresh K H F (upd H p (.lst vs)) (.ref p) (newL ds) [p] := by
  have px : PX T F H F (upd H p (.lst vs)) := .owned g hp fun _ z => by cases z
  refine ⟨px, ⟨.lst (g.free hp) upd_same (RoL.frz l), by simp, fun a z => ?_⟩⟩
  have : a = p := by simpa using z
  rw [this]; exact hp
/-- a new tuple -/
theorem new_tup (g : Gl T F H) {p : Addr} {vs : List V} {ds : List D} (hp : H p = none) (l : VwL K F vs ds) : PX T F H (upd F p (.tup vs)) (upd H p (.tup vs)) ∧ Vw K (upd F p (.tup vs)) (.ref p) (.tup ds) := by
  have px : PX T F H (upd F p (.tup vs)) (upd H p (.tup vs)) := .laid g hp (fun _ z => by cases z) (.inr trivial)
  exact ⟨px, .tup upd_same (l.sub (.of px.f))⟩
theorem op_gI (f : Int → Int → Int) : Op2 K T (rI0 fun i j => .int (f i j)) (sc2 (gI f)) := .sc fun F H x y a b d Q gl hx hy e k => by
  unfold gI at e
  split at e
  · cases e; cases hx; cases hy
    exact ⟨_, _, rfl, rfl, k _ (.int _)⟩
  · cases e
theorem op_gB (f : Int → Int → Bool) : Op2 K T (rI0 fun i j => .bl (f i j)) (sc2 (gB f)) := .sc fun F H x y a b d Q gl hx hy e k => by
  unfold gB at e
  split at e
  · cases e; cases hx; cases hy
    exact ⟨_, _, rfl, rfl, k _ (.bl _)⟩
  · cases e
theorem op_gMul : Op2 K T (rI CMul fun i j => .int (i * j)) (sc2 gMul) := .sc fun F H x y a b d Q gl hx hy e k => by
  unfold gMul at e
  split at e
  · split at e
    · cases e; cases hx; cases hy
      exact ⟨_, _, rfl, rfl, by assumption, k _ (.int _)⟩
    · cases e
  · cases e
theorem op_gDiv : Op2 K T (rI CDiv fun i j => .int (i / j)) (sc2 gDiv) := .sc fun F H x y a b d Q gl hx hy e k => by
  unfold gDiv at e
  split at e
  · split at e
    · cases e; cases hx; cases hy
      exact ⟨_, _, rfl, rfl, by assumption, k _ (.int _)⟩
    · cases e
  · cases e
theorem op_gMod : Op2 K T (rI (fun _ j => 0 < j) fun i j => .int (i % j)) (sc2 gMod) := .sc fun F H x y a b d Q gl hx hy e k => by
  unfold gMod at e
  split at e
  · split at e
    · cases e; cases hx; cases hy
      exact ⟨_, _, rfl, rfl, by assumption, k _ (.int _)⟩
    · cases e
  · cases e
theorem op_gPow : Op2 K T (rI CPow fun i j => .int (i ^ j.toNat)) (sc2 gPow) := .sc fun F H x y a b d Q gl hx hy e k => by
  unfold gPow at e
  split at e
  · split at e
    · cases e; cases hx; cases hy
      exact ⟨_, _, rfl, rfl, by assumption, k _ (.int _)⟩
    · cases e
  · cases e
def rCatS : R2 := fun x y H Q => ∃ i j, x = .str i ∧ y = .str j ∧ i.length + j.length ≤ sizeLine ∧ Q (.str (i ++ j)) H
theorem op_gCatS : Op2 K T rCatS (sc2 gCatS) := .sc fun F H x y a b d Q gl hx hy e k => by
  unfold gCatS at e
  split at e
  · split at e
    · cases e; cases hx; cases hy
      exact ⟨_, _, rfl, rfl, by assumption, k _ (.str _)⟩
    · cases e
  · cases e
theorem op_oCatL : Op2 K T rCat oCatL := by
  intro F H x y a b o Q gl hx hy e k
  obtain ⟨xs, e1, e⟩ := Option.bind_eq_some_iff.mp e
  obtain ⟨ys, e2, e⟩ := Option.bind_eq_some_iff.mp e
  split at e
  · cases e
    obtain ⟨p, vs, rfl, h1, l1⟩ := hx.plitems gl e1
    obtain ⟨q, ws, rfl, h2, l2⟩ := hy.plitems gl e2
    refine ⟨p, q, vs, ws, rfl, rfl, h1, h2, by rw [l1.length, l2.length]; assumption, fun r hr => ?_⟩
    obtain ⟨px, f⟩ := new_lst gl hr (l1.append l2)
    exact k _ _ _ _ px f
  · cases e
theorem op_oCatT : Op2 K T (rCatA K) oCatT := by
  intro F H x y a b o Q gl hx hy e k
  obtain ⟨xs, e1, e⟩ := Option.bind_eq_some_iff.mp e
  obtain ⟨ys, e2, e⟩ := Option.bind_eq_some_iff.mp e
  split at e
  · cases e
    obtain ⟨p, vs, rfl, f1, h1, l1⟩ := hx.titems gl e1
    obtain ⟨q, ws, rfl, f2, h2, l2⟩ := hy.titems gl e2
    refine ⟨p, q, vs, ws, rfl, rfl, .of h1, .of h2, by rw [l1.length, l2.length]; assumption, fun z => ?_, fun z1 z => ?_, fun z1 z2 r hr => ?_⟩
    · subst z
      cases l1
      exact k _ F H [] (.refl gl) (.frz (.tup f2 l2))
    · subst z
      cases l2
      rw [List.append_nil] at *
      exact k _ F H [] (.refl gl) (.frz (.tup f1 l1))
    · obtain ⟨px, f⟩ := new_tup gl hr (l1.append l2)
      exact k _ _ _ [] px (.frz f)
  · cases e
end
section
variable {X : Cx} {T : Tab} {a b c : Expr} {ma mb mc : Em} {pos : Pos}
def oAdd : O → O → Option O := orO (sc2 (gI fun i j => i + j)) (orO (sc2 gCatS) (orO oCatL oCatT))
theorem fe_add (ha : BE X T a ma) (hb : BE X T b mb) : FE X T (.BinOp a .Add b pos) (eOp2 oAdd ma mb) :=
  fe_op2 (op_add.or (op_add_str.or (op_cat.or op_catA))) ((op_gI _).or (op_gCatS.or (op_oCatL.or op_oCatT))) ha hb
theorem fe_sub (ha : BE X T a ma) (hb : BE X T b mb) : FE X T (.BinOp a .Sub b pos) (eOp2 (sc2 (gI fun i j => i - j)) ma mb) := fe_op2 op_sub (op_gI _) ha hb
theorem fe_div (ha : BE X T a ma) (hb : BE X T b mb) : FE X T (.BinOp a .FloorDiv b pos) (eOp2 (sc2 gDiv) ma mb) := fe_op2 op_fdiv op_gDiv ha hb
theorem fe_mod (ha : BE X T a ma) (hb : BE X T b mb) : FE X T (.BinOp a .Mod b pos) (eOp2 (sc2 gMod) ma mb) := fe_op2 op_mod op_gMod ha hb
theorem fe_pow (ha : BE X T a ma) (hb : BE X T b mb) : FE X T (.BinOp a .Pow b pos) (eOp2 (sc2 gPow) ma mb) := fe_op2 op_pow op_gPow ha hb
end
end VL
namespace VL
open PySem PySem.Spec PyProof.Rows L2
def repS (z : Str) (k : Int) : Str := ⟨(List.replicate k.toNat z.cps.toList).flatten.toArray⟩
theorem foldl_app (xs : Array Nat) : ∀ (n : Nat) (acc : Array Nat), (List.replicate n xs).foldl (· ++ ·) acc = acc ++ ((List.replicate n xs.toList).flatten.toArray)
  | 0, acc => by simp
  | n + 1, acc => by
    rw [List.replicate_succ, List.foldl_cons, foldl_app xs n, List.replicate_succ, List.flatten_cons]
    apply Array.ext'
    simp
def rRepS : R2 := fun x y H Q => ∃ z k, x = .str z ∧ y = .int k ∧ 0 ≤ k ∧ k ≤ 1000 ∧ z.length ≤ 1000 ∧ Q (.str (repS z k)) H
theorem op_repS {X : Cx} : OpR X (binaryOp .Mult) rRepS := by
  intro pins s σ H x y v u Q I rx ry h
  obtain ⟨z, k, rfl, rfl, h0, h1, h2, q⟩ := h
  obtain ⟨t, rfl⟩ := rx
  obtain ⟨t', rfl⟩ := ry
  have hsz : sizeLine = 16777216 := sizeLine_eq
  have e1 : decide (k < -(2 ^ 63 : Int)) = false := decide_eq_false (by omega)
  have e2 : decide (k ≥ 2 ^ 63) = false := decide_eq_false (by omega)
  have hm : z.length * k.toNat ≤ 1000 * 1000 := Nat.mul_le_mul h2 (by omega)
  refine PySem.P.mul_str (by rw [e1, e2]; rfl) (fun a b => ?_) (fun a b => ?_) ?_
  · have hk : 0 < k := by omega
    have : ((2 ^ 63 - 1 : Int) / k) ≥ (2 ^ 63 - 1) / 1000 := by
      refine (Int.le_ediv_iff_mul_le hk).mpr ?_
      have : ((2 ^ 63 - 1 : Int) / 1000) * k ≤ ((2 ^ 63 - 1) / 1000) * 1000 := Int.mul_le_mul_of_nonneg_left h1 (by decide)
      omega
    omega
  · exact decide_eq_false (by rw [hsz]; omega)
  · by_cases c : k < 1
    · rw [if_pos c]
      have e : repS z k = Str.empty := by
        have : k.toNat = 0 := by omega
        unfold repS
        rw [this]
        rfl
      refine ⟨by show (0 : Nat) ≤ sizeLine; rw [hsz]; omega, .str Str.empty, H, I.tok _, ⟨_, rfl⟩, by rw [← e]; exact q⟩
    · rw [if_neg c]
      by_cases c2 : (k == 1 || z.length == 0) = true
      · rw [if_pos c2]
        have e : repS z k = z := by
          rcases Bool.or_eq_true_iff.mp c2 with c3 | c3
          · have : k = 1 := by simpa using c3
            subst this
            unfold repS
            simp
          · have : z.cps = #[] := by
              have : z.cps.size = 0 := by simpa [Str.length] using c3
              exact Array.eq_empty_of_size_eq_zero this
            obtain ⟨c⟩ := z
            simp only at this
            subst this
            unfold repS
            simp
        exact ⟨.str z, H, I, ⟨t, rfl⟩, by rw [e] at q; exact q⟩
      · rw [if_neg c2]
        have e : (⟨(List.replicate k.toNat z.cps).foldl (· ++ ·) #[]⟩ : Str) = repS z k := by
          rw [foldl_app]
          unfold repS
          simp
        rw [e]
        refine ⟨?_, .str _, H, I.tok _, ⟨_, rfl⟩, q⟩
        show (repS z k).cps.size ≤ sizeLine
        unfold repS
        simp only [List.size_toArray, PyProof.Rows.lm_len_rep_flat]
        rw [hsz, Nat.mul_comm]
        have : z.cps.toList.length = z.length := by simp [Str.length]
        rw [this]
        omega
def gRepS : D → D → Option D
  | .str z, .int k => if 0 ≤ k ∧ k ≤ 1000 ∧ z.length ≤ 1000 then some (.str (repS z k)) else none
  | _, _ => none
def oRepL : O → O → Option O := fun a b => a.plitems.bind fun xs => match b.toD with
  | .int k => if 0 ≤ k ∧ k ≤ 1000000 ∧ xs.length * k.toNat ≤ sizeLine then some (newL (List.replicate k.toNat xs).flatten) else none
  | _ => none
section
variable {K : PySem.W.Frag} {T : Tab} {F H : Hp}
theorem op_gRepS : Op2 K T rRepS (sc2 gRepS) := .sc fun F H x y a b d Q gl hx hy e k => by
  unfold gRepS at e
  split at e
  · split at e
    · rename_i c
      cases e; cases hx; cases hy
      exact ⟨_, _, rfl, rfl, c.1, c.2.1, c.2.2, k _ (.str _)⟩
    · cases e
  · cases e
theorem VwL.rep {vs : List V} {ds : List D} (l : VwL K F vs ds) : ∀ n : Nat, VwL K F (List.replicate n vs).flatten (List.replicate n ds).flatten
  | 0 => .nil
  | n + 1 => by
    rw [List.replicate_succ, List.replicate_succ, List.flatten_cons, List.flatten_cons]
    exact l.append (VwL.rep l n)
theorem op_oRepL : Op2 K T rRep oRepL := by
  intro F H x y a b o Q gl hx hy e k
  obtain ⟨xs, e1, e⟩ := Option.bind_eq_some_iff.mp e
  have hy := hy.vw gl
  split at e
  · rename_i j q
    split at e
    · rename_i c
      cases e
      rw [q] at hy
      cases hy
      obtain ⟨p, vs, rfl, h1, l1⟩ := hx.plitems gl e1
      refine ⟨p, j, vs, rfl, rfl, h1, by omega, by omega, by rw [l1.length]; exact c.2.2, fun r hr => ?_⟩
      obtain ⟨px, f⟩ := new_lst gl hr (l1.rep j.toNat)
      exact k _ _ _ _ px f
    · cases e
  · cases e
end
section
variable {X : Cx} {T : Tab} {a b c : Expr} {ma mb mc : Em} {pos : Pos}
def oMul : O → O → Option O := orO (sc2 gMul) (orO (sc2 gRepS) oRepL)
theorem fe_mul (ha : BE X T a ma) (hb : BE X T b mb) : FE X T (.BinOp a .Mult b pos) (eOp2 oMul ma mb) :=
  fe_op2 (op_mul.or (op_repS.or op_rep)) (op_gMul.or (op_gRepS.or op_oRepL)) ha hb
end
mutual
def D.py : D → Option PyData
  | .non => some .none
  | .bl b => some (.bool b)
  | .int i => some (.int i)
  | .str x => some (.str x)
  | .tup ds => (D.pys ds).map .tuple
  | .lst ds => (D.pys ds).map .list
  | .dct _ => none
  | .dtt _ => none
  | .ins _ _ => none
  | .scr ns => some (.list (ns.map .int))
  | .exc _ _ => none
def D.pys : List D → Option (List PyData)
  | [] => some []
  | d :: ds => (d.py).bind fun x => (D.pys ds).map fun xs => x :: xs
end
mutual
theorem py_plain : ∀ (d : D) (x : PyData), d.py = some x → x.plain = true
  | .non, x, e => by rw [D.py] at e; cases e; rfl
  | .bl b, x, e => by rw [D.py] at e; cases e; rfl
  | .int i, x, e => by rw [D.py] at e; cases e; rfl
  | .str z, x, e => by rw [D.py] at e; cases e; rfl
  | .tup ds, x, e => by
    rw [D.py] at e
    obtain ⟨xs, e1, e2⟩ := Option.map_eq_some_iff.mp e
    subst e2
    rw [PyData.plain]
    exact pys_plain ds xs e1
  | .lst ds, x, e => by
    rw [D.py] at e
    obtain ⟨xs, e1, e2⟩ := Option.map_eq_some_iff.mp e
    subst e2
    rw [PyData.plain]
    exact pys_plain ds xs e1
  | .dct _, x, e => by rw [D.py] at e; cases e
  | .dtt _, x, e => by rw [D.py] at e; cases e
  | .ins _ _, x, e => by rw [D.py] at e; cases e
  | .exc _ _, x, e => by rw [D.py] at e; cases e
  | .scr ns, x, e => by
    rw [D.py] at e; cases e
    rw [PyData.plain]
    induction ns with
    | nil => rfl
    | cons n ns ih => rw [List.map_cons, PyData.plainAll, ih]; rfl
theorem pys_plain : ∀ (ds : List D) (xs : List PyData), D.pys ds = some xs → PyData.plainAll xs = true
  | [], xs, e => by rw [D.pys] at e; cases e; rfl
  | d :: ds, xs, e => by
    rw [D.pys] at e
    obtain ⟨x, e1, e⟩ := Option.bind_eq_some_iff.mp e
    obtain ⟨ys, e2, e3⟩ := Option.map_eq_some_iff.mp e
    subst e3
    rw [PyData.plainAll, py_plain d x e1, pys_plain ds ys e2]
    rfl
end
section
variable {K : PySem.W.Frag} {H : Hp}
theorem dpAll_ints : ∀ ns : List Int, DpAll K H (ns.map V.int) (ns.map PyData.int)
  | [] => .nil
  | n :: ns => .cons (.int n) (dpAll_ints ns)
mutual
theorem Vw.dp : ∀ {v : V} {d : D} {x : PyData}, Vw K H v d → d.py = some x → Dp K H v x
  | _, _, _, .non, e => by rw [D.py] at e; cases e; exact .non
  | _, _, _, .bl b, e => by rw [D.py] at e; cases e; exact .bl b
  | _, _, _, .int i, e => by rw [D.py] at e; cases e; exact .int i
  | _, _, _, .str z, e => by rw [D.py] at e; cases e; exact .str z
  | _, _, _, .tup h l, e => by
    rw [D.py] at e
    obtain ⟨xs, e1, e2⟩ := Option.map_eq_some_iff.mp e
    subst e2
    exact .tup (.of h) (VwL.dp l e1)
  | _, _, _, .lst h l, e => by
    rw [D.py] at e
    obtain ⟨xs, e1, e2⟩ := Option.map_eq_some_iff.mp e
    subst e2
    exact .lst (.of h) (VwL.dp l e1)
  | _, _, _, .dct _ _ _, e => by rw [D.py] at e; cases e
  | _, _, _, .dtt _ _ _, e => by rw [D.py] at e; cases e
  | _, _, _, .ins _ _ _, e => by rw [D.py] at e; cases e
  | _, _, _, .exc _ _ _ _, e => by rw [D.py] at e; cases e
  | _, _, _, .scr h, e => by rw [D.py] at e; cases e; exact .lst h (dpAll_ints _)
theorem VwL.dp : ∀ {vs : List V} {ds : List D} {xs : List PyData}, VwL K H vs ds → D.pys ds = some xs → DpAll K H vs xs
  | _, _, _, .nil, e => by rw [D.pys] at e; cases e; exact .nil
  | _, _, _, .cons h l, e => by
    rw [D.pys] at e
    obtain ⟨x, e1, e⟩ := Option.bind_eq_some_iff.mp e
    obtain ⟨ys, e2, e3⟩ := Option.map_eq_some_iff.mp e
    subst e3
    exact .cons (Vw.dp h e1) (VwL.dp l e2)
end
end
/-- a == b of two plain data, not too deep -/
def eqP (x y : PyData) : Option Bool := if min x.depth y.depth ≤ 30 then some (PyData.eqv x y) else none
def gEq : D → D → Option D := fun a b => (a.py).bind fun x => (b.py).bind fun y => (eqP x y).map fun r => .bl r
def gNe : D → D → Option D := fun a b => (a.py).bind fun x => (b.py).bind fun y => (eqP x y).map fun r => .bl (!r)
def rEqP (K : PySem.W.Frag) : R2 := fun x y H Q => ∃ d e, Dp K H x d ∧ Dp K H y e ∧ d.plain = true ∧ e.plain = true ∧ min d.depth e.depth ≤ 30 ∧ Q (.bl (PyData.eqv d e)) H
def rNeP (K : PySem.W.Frag) : R2 := fun x y H Q => ∃ d e, Dp K H x d ∧ Dp K H y e ∧ d.plain = true ∧ e.plain = true ∧ min d.depth e.depth ≤ 30 ∧ Q (.bl (!PyData.eqv d e)) H
section
variable {X : Cx}
theorem op_eqP (hu : X.A.units + 64 < cLine) : OpR X (compareOp .Eq) (rEqP X.K) := by
  intro pins s σ H x y v u Q I rx ry h
  obtain ⟨d, e, hd, he, sd, se, hm, q⟩ := h
  obtain ⟨as, r1⟩ := Dp.reads I d x v hd rx
  obtain ⟨bs, r2⟩ := Dp.reads I e y u he ry
  exact SeqAt.eq_plain r1 r2 sd se (by omega) ⟨.bl _, H, I, rfl, q⟩
theorem op_neP (hu : X.A.units + 64 < cLine) : OpR X (compareOp .NotEq) (rNeP X.K) := by
  intro pins s σ H x y v u Q I rx ry h
  obtain ⟨d, e, hd, he, sd, se, hm, q⟩ := h
  obtain ⟨as, r1⟩ := Dp.reads I d x v hd rx
  obtain ⟨bs, r2⟩ := Dp.reads I e y u he ry
  exact SeqAt.ne_plain r1 r2 sd se (by omega) ⟨.bl _, H, I, rfl, q⟩
end
section
variable {K : PySem.W.Frag} {T : Tab}
theorem op_gEq : Op2 K T (rEqP K) (sc2 gEq) := .sc fun F H x y a b d Q gl hx hy e k => by
  obtain ⟨p, e1, e⟩ := Option.bind_eq_some_iff.mp e
  obtain ⟨q, e2, e⟩ := Option.bind_eq_some_iff.mp e
  obtain ⟨r, e3, e⟩ := Option.map_eq_some_iff.mp e
  subst e
  unfold eqP at e3
  split at e3
  · cases e3
    exact ⟨p, q, hx.dp e1, hy.dp e2, py_plain _ _ e1, py_plain _ _ e2, by assumption, k _ (.bl _)⟩
  · cases e3
theorem op_gNe : Op2 K T (rNeP K) (sc2 gNe) := .sc fun F H x y a b d Q gl hx hy e k => by
  obtain ⟨p, e1, e⟩ := Option.bind_eq_some_iff.mp e
  obtain ⟨q, e2, e⟩ := Option.bind_eq_some_iff.mp e
  obtain ⟨r, e3, e⟩ := Option.map_eq_some_iff.mp e
  subst e
  unfold eqP at e3
  split at e3
  · cases e3
    exact ⟨p, q, hx.dp e1, hy.dp e2, py_plain _ _ e1, py_plain _ _ e2, by assumption, k _ (.bl _)⟩
  · cases e3
end
def inP (neg : Bool) (x : PyData) (ys : List PyData) : Option D := if x.depth ≤ 30 then some (.bl (neg ^^ ys.any fun y => PyData.eqv y x)) else none
/-- x in a list or tuple -/
def gInS (neg : Bool) : D → D → Option D := fun a b => (a.py).bind fun x => match b with
  | .lst ds => (D.pys ds).bind (inP neg x)
  | .tup ds => (D.pys ds).bind (inP neg x)
  | _ => none
/-- one sign in a text -/
def gInT (neg : Bool) : D → D → Option D
  | .str c, .str z => match c.cps.toList with
    | [n] => some (.bl (neg ^^ decide (n ∈ z.cps.toList)))
    | _ => none
  | _, _ => none
def D.key : D → Option Key
  | .int i => some (.inl i)
  | .str x => some (.inr x)
  | _ => none
def D.keys : List D → Option (List Key)
  | [] => some []
  | d :: ds => (d.key).bind fun k => (D.keys ds).map fun ks => k :: ks
def rInP (K : PySem.W.Frag) (neg : Bool) : R2 := fun x y H Q => ∃ d ds, Dp K H x d ∧ (Dp K H y (.list ds) ∨ Dp K H y (.tuple ds)) ∧ d.plain = true ∧ PyData.plainAll ds = true ∧ d.depth ≤ 30 ∧ Q (.bl (neg ^^ ds.any fun z => PyData.eqv z d)) H
section
variable {X : Cx}
theorem op_inP (hu : X.A.units + 64 < cLine) : OpR X (compareOp .In) (rInP X.K false) := by
  intro pins s σ H x y v u Q I rx ry h
  obtain ⟨d, ds, hd, he, sd, se, hm, q⟩ := h
  rw [Bool.false_xor] at q
  obtain ⟨as, r1⟩ := Dp.reads I d x v hd rx
  rcases he with he | he
  · obtain ⟨bs, r2⟩ := Dp.reads I _ y u he ry
    exact SeqAt.in_list_data r2 r1 se sd (by omega) ⟨.bl _, H, I, rfl, q⟩
  · obtain ⟨bs, r2⟩ := Dp.reads I _ y u he ry
    exact SeqAt.in_tuple_data r2 r1 se sd (by omega) ⟨.bl _, H, I, rfl, q⟩
theorem op_notInP (hu : X.A.units + 64 < cLine) : OpR X (compareOp .NotIn) (rInP X.K true) := by
  intro pins s σ H x y v u Q I rx ry h
  obtain ⟨d, ds, hd, he, sd, se, hm, q⟩ := h
  rw [Bool.true_xor] at q
  obtain ⟨as, r1⟩ := Dp.reads I d x v hd rx
  rcases he with he | he
  · obtain ⟨bs, r2⟩ := Dp.reads I _ y u he ry
    exact SeqAt.notIn_list_data r2 r1 se sd (by omega) ⟨.bl _, H, I, rfl, q⟩
  · obtain ⟨bs, r2⟩ := Dp.reads I _ y u he ry
    exact SeqAt.notIn_tuple_data r2 r1 se sd (by omega) ⟨.bl _, H, I, rfl, q⟩
end
section
variable {K : PySem.W.Frag} {T : Tab}
theorem inP_of {neg : Bool} {x : PyData} {ys : List PyData} {d : D} (h : inP neg x ys = some d) : x.depth ≤ 30 ∧ d = .bl (neg ^^ ys.any fun y => PyData.eqv y x) := by
  unfold inP at h
  split at h
  · cases h; exact ⟨by assumption, rfl⟩
  · cases h
theorem op_gInS (neg : Bool) : Op2 K T (rInP K neg) (sc2 (gInS neg)) := .sc fun F H x y a b d Q gl hx hy e k => by
  obtain ⟨p, e1, e⟩ := Option.bind_eq_some_iff.mp e
  split at e
  · obtain ⟨ys, e2, e⟩ := Option.bind_eq_some_iff.mp e
    obtain ⟨h1, h2⟩ := inP_of e
    subst h2
    cases hy with
    | lst h l => exact ⟨p, ys, hx.dp e1, .inl (.lst (.of h) (l.dp e2)), py_plain _ _ e1, pys_plain _ _ e2, h1, k _ (.bl _)⟩
  · obtain ⟨ys, e2, e⟩ := Option.bind_eq_some_iff.mp e
    obtain ⟨h1, h2⟩ := inP_of e
    subst h2
    cases hy with
    | tup h l => exact ⟨p, ys, hx.dp e1, .inr (.tup (.of h) (l.dp e2)), py_plain _ _ e1, pys_plain _ _ e2, h1, k _ (.bl _)⟩
  · cases e
end
end VL
namespace VL
open PySem PySem.Spec PyProof.Rows L2
section
variable {K : PySem.W.Frag} {F H : Hp} {κ : Type} [DecidableEq κ]
/-- a dict's entry -/
theorem getA_vw : ∀ {kvs : List (κ × V)} {kds : List (κ × D)} {k : κ}, kvs.map Prod.fst = kds.map Prod.fst → VwL K H (kvs.map Prod.snd) (kds.map Prod.snd) →
    (valV kvs k).isSome = (getA kds k).isSome ∧ ∀ d, getA kds k = some d → ∃ v, valV kvs k = some v ∧ Vw K H v d
  | [], [], k, _, _ => ⟨rfl, fun d e => by simp [getA] at e⟩
  | [], _ :: _, _, e, _ => by simp at e
  | _ :: _, [], _, e, _ => by simp at e
  | (pk, pv) :: kvs, (qk, qd) :: kds, k, e, l => by
    simp only [List.map_cons, List.cons.injEq] at e
    obtain ⟨e1, e2⟩ := e
    subst e1
    simp only [List.map_cons] at l
    cases l with
    | cons h1 h2 =>
      obtain ⟨g1, g2⟩ := getA_vw (k := k) e2 h2
      by_cases z : pk = k
      · refine ⟨by simp [valV, getA, List.find?_cons, z], fun d e => ?_⟩
        have : qd = d := by simpa [getA, List.find?_cons, z] using e
        subst this
        exact ⟨pv, by simp [valV, List.find?_cons, z], h1⟩
      · have w1 : valV ((pk, pv) :: kvs) k = valV kvs k := by simp [valV, List.find?_cons, z]
        have w2 : getA ((pk, qd) :: kds) k = getA kds k := by simp [getA, List.find?_cons, z]
        rw [w1, w2]
        exact ⟨g1, g2⟩
theorem getA_ro : ∀ {kvs : List (κ × V)} {kos : List (κ × O)} {k : κ} {o : O} {A : List Addr}, kvs.map Prod.fst = kos.map Prod.fst → RoL K F H (kvs.map Prod.snd) (kos.map Prod.snd) A → getA kos k = some o →
    ∃ v B, valV kvs k = some v ∧ Ro K F H v o B
  | [], [], k, _, _, _, _, e => by simp [getA] at e
  | [], _ :: _, _, _, _, e, _, _ => by simp at e
  | _ :: _, [], _, _, _, e, _, _ => by simp at e
  | (pk, pv) :: kvs, (qk, qd) :: kos, k, o, A, e, l, e3 => by
    simp only [List.map_cons, List.cons.injEq] at e
    obtain ⟨e1, e2⟩ := e
    subst e1
    simp only [List.map_cons] at l
    cases l with
    | cons h1 h2 =>
      by_cases z : pk = k
      · have : qd = o := by simpa [getA, List.find?_cons, z] using e3
        subst this
        exact ⟨pv, _, by simp [valV, List.find?_cons, z], h1⟩
      · obtain ⟨v, B, g1, g2⟩ := getA_ro (k := k) e2 h2 (by simpa [getA, List.find?_cons, z] using e3)
        exact ⟨v, B, by simpa [valV, List.find?_cons, z] using g1, g2⟩
end
section
variable {K : PySem.W.Frag} {T : Tab} {F H : Hp}
theorem Vw.key {v : V} {d : D} {k : Key} (h : Vw K H v d) (e : d.key = some k) : v = kV k := by
  cases h <;> simp [D.key] at e
  all_goals subst e; rfl
theorem VwL.keys : ∀ {vs : List V} {ds : List D} {ks : List Key}, VwL K H vs ds → D.keys ds = some ks → vs = ks.map kV
  | _, _, ks, .nil, e => by rw [D.keys] at e; cases e; rfl
  | _, _, ks, .cons h l, e => by
    rw [D.keys] at e
    obtain ⟨k, e1, e⟩ := Option.bind_eq_some_iff.mp e
    obtain ⟨ks', e2, e3⟩ := Option.map_eq_some_iff.mp e
    subst e3
    rw [List.map_cons, h.key e1, VwL.keys l e2]
/-- the key that d writes, for a dict of one of the two kinds -/
def dGetD (a : D) (k : D) : Option (Option D) := match a with
  | .dct kds => (k.key).map fun k => getA kds k
  | .dtt kds => (match k with
    | .tup ds => (D.keys ds).map fun k => getA kds k
    | _ => none)
  | _ => none
end
def tT (K : PySem.W.Frag) (T : Tab) (t : Env → Option Bool) : TT := fun σ H Q => ∃ F env ω, Sta K T F H σ env ω ∧ ∃ b, t env = some b ∧ ∀ F' H', PX T F H F' H' → Q b H'
def BT (X : Cx) (T : Tab) (e : Expr) (t : Env → Option Bool) : Prop := PT X e (tT X.K T t)
theorem ptI {X : Cx} {e : Expr} {t t' : TT} (h : PT X e t) (w : ∀ σ H Q, t' σ H Q → t σ H Q) : PT X e t' := ⟨fun pins s σ H Q I q => h.run pins s σ H Q I (w σ H Q q)⟩
theorem pwI {X : Cx} {e : Expr} {t t' : TT} (h : PW X e t) (w : ∀ σ H Q, t' σ H Q → t σ H Q) : PW X e t' := ⟨fun wh pins s σ H Q I q => h.run wh pins s σ H Q I (w σ H Q q)⟩
abbrev Tm := Env → Option Bool
def tst (m : Em) : Tm := fun env => (m env).bind fun o => match o.toD with
  | .bl b => some b
  | _ => none
section
variable {X : Cx} {T : Tab} {a b c e : Expr} {ma mb mc m : Em} {pos : Pos} {t u : Tm}
theorem Ro.bl {K : PySem.W.Frag} {F H : Hp} {v : V} {o : O} {A : List Addr} {b : Bool} (r : Ro K F H v o A) (e : o.toD = .bl b) : v = .bl b := by
  cases r with
  | frz h => rw [O.toD] at e; subst e; cases h; rfl
  | _ => rw [O.toD] at e; cases e
theorem tTest_of {K : PySem.W.Frag} {σ : L2.St} {H : Hp} {Q : Bool → Hp → Prop} (h : tT K T (tst m) σ H Q) : tF K T m σ H fun x H' => ∃ k, x = .bl k ∧ Q k H' := by
  obtain ⟨F, env, ω, s, b, e, k⟩ := h
  obtain ⟨o, e1, e⟩ := Option.bind_eq_some_iff.mp e
  refine ⟨F, env, ω, s, o, e1, fun v F' H' A p f => ?_⟩
  split at e
  · rename_i c q
    cases e
    exact ⟨_, f.ro.bl q, k F' H' p⟩
  · cases e
theorem bt_cmp {op : CmpOp} {r : R2} {f : O → O → Option O} (ho : OpR X (compareOp op) r) (hf : Op2 X.K T r f) (ha : BE X T a ma) (hb : BE X T b mb) (hm : behindInMarks op b = false) : BT X T (.Compare a [op] [b] pos) (tst (eOp2 f ma mb)) :=
  ptI (pt_cmpR ho ha hb hm) fun _ _ _ h => tOp_of hf (tTest_of h)
/-- a PC rule -/
theorem bt_pc {op : CmpOp} {t : TE} {m : Em} (h : PC X op a b t) (hw : ∀ σ H Q, tF X.K T m σ H Q → t σ H Q) (h1 : behindInMarks op b = false) : BT X T (.Compare a [op] [b] pos) (tst m) :=
  ptI (pt_cmp h h1) fun σ H Q q => hw σ H _ (tTest_of q)
theorem fe_pc {op : CmpOp} {t : TE} {m : Em} (h : PC X op a b t) (hw : ∀ σ H Q, tF X.K T m σ H Q → t σ H Q) (h1 : behindInMarks op b = false) : FE X T (.Compare a [op] [b] pos) m :=
  peI (L2.pe_cmp h h1) fun σ H Q q => hw σ H Q q
/-- truth of what is no bool -/
def D.tru : D → Option Bool
  | .non => some false
  | .bl b => some b
  | .int i => some (i != 0)
  | .lst ds => some (!ds.isEmpty)
  | .tup ds => some (!ds.isEmpty)
  | _ => none
def tru (m : Em) : Tm := fun env => (m env).bind fun o => o.toD.tru
theorem bt_tru (h : BE X T e m) (he : ∀ whole, isTrue e X.env whole = (do let v ← whole; standAt e.pos; holding [v] (truthy v)) := by intro _; rfl) : BT X T e (tru m) := by
  refine ptI (pt_truth h he) fun σ H Q q => ?_
  obtain ⟨F, env, ω, s, b, e, k⟩ := q
  obtain ⟨o, e1, e⟩ := Option.bind_eq_some_iff.mp e
  refine ⟨F, env, ω, s, o, e1, fun v F' H' p f => ⟨b, ?_, k F' H' p⟩⟩
  have hv := f.vw p.gl
  generalize o.toD = d at hv e
  have nil_iff : ∀ {vs : List V} {ds : List D}, VwL X.K H' vs ds → vs.isEmpty = ds.isEmpty := fun l => by cases l <;> rfl
  cases hv with
  | non => cases e; rfl
  | bl b => cases e; rfl
  | int i => cases e; rfl
  | str x => cases e
  | tup h l => cases e; exact .inr (.inl ⟨_, .of h, by rw [nil_iff l]⟩)
  | lst h l => cases e; exact .inl ⟨_, .of h, by rw [nil_iff l]⟩
  | dct _ _ _ => cases e
  | dtt _ _ _ => cases e
  | ins _ _ _ => cases e
  | scr _ => cases e
  | exc _ _ _ _ => cases e
def tAnd2 (t u : Tm) : Tm := fun env => (t env).bind fun b => if b = true then u env else some false
def tOr2 (t u : Tm) : Tm := fun env => (t env).bind fun b => if b = true then some true else u env
def tNot1 (t : Tm) : Tm := fun env => (t env).map fun b => !b
def WT (X : Cx) (T : Tab) (e : Expr) (t : Tm) : Prop := PW X e (tT X.K T t)
theorem wt_and1 (ha : BT X T a t) : WT X T (.BoolOp .And [a] pos) t := pw_and1 ha
theorem wt_or1 (ha : BT X T a t) : WT X T (.BoolOp .Or [a] pos) t := pw_or1 ha
theorem wt_and {rest : List Expr} (ha : BT X T a t) (hb : WT X T (.BoolOp .And (b :: rest) pos) u) : WT X T (.BoolOp .And (a :: b :: rest) pos) (tAnd2 t u) := by
  refine pwI (pw_and ha hb) fun σ H Q q => ?_
  obtain ⟨F, env, ω, s, r, e, k⟩ := q
  obtain ⟨x, e1, e⟩ := Option.bind_eq_some_iff.mp e
  refine ⟨F, env, ω, s, x, e1, fun F1 H1 p => ?_⟩
  cases x with
  | true => rw [if_pos rfl] at e ⊢; exact ⟨F1, env, ω, s.px p, r, e, fun F2 H2 p2 => k F2 H2 (p.trans p2)⟩
  | false => rw [if_neg Bool.false_ne_true] at e ⊢; cases e; exact k F1 H1 p
theorem wt_or {rest : List Expr} (ha : BT X T a t) (hb : WT X T (.BoolOp .Or (b :: rest) pos) u) : WT X T (.BoolOp .Or (a :: b :: rest) pos) (tOr2 t u) := by
  refine pwI (pw_or ha hb) fun σ H Q q => ?_
  obtain ⟨F, env, ω, s, r, e, k⟩ := q
  obtain ⟨x, e1, e⟩ := Option.bind_eq_some_iff.mp e
  refine ⟨F, env, ω, s, x, e1, fun F1 H1 p => ?_⟩
  cases x with
  | false => rw [if_neg Bool.false_ne_true] at e ⊢; exact ⟨F1, env, ω, s.px p, r, e, fun F2 H2 p2 => k F2 H2 (p.trans p2)⟩
  | true => rw [if_pos rfl] at e ⊢; cases e; exact k F1 H1 p
theorem bt_w (h : WT X T e t) : BT X T e t := PW.pt h
theorem bt_not (ha : BT X T a t) : BT X T (.UnaryOp .Not a pos) (tNot1 t) := by
  refine ptI (pt_not ha) fun σ H Q q => ?_
  obtain ⟨F, env, ω, s, r, e, k⟩ := q
  obtain ⟨x, e1, e⟩ := Option.map_eq_some_iff.mp e
  subst e
  exact ⟨F, env, ω, s, x, e1, fun F1 H1 p => k F1 H1 p⟩
def eAnd (a b : Em) : Em := fun env => (a env).bind fun o => match o.toD with
  | .bl true => b env
  | .bl false => some (.frz (.bl false))
  | _ => none
def eOr (a b : Em) : Em := fun env => (a env).bind fun o => match o.toD with
  | .bl true => some (.frz (.bl true))
  | .bl false => b env
  | _ => none
def eNot (a : Em) : Em := fun env => (a env).bind fun o => match o.toD with
  | .bl b => some (.frz (.bl (!b)))
  | _ => none
theorem be_one {op} (h : BE X T a ma) : BE X T (.BoolOp op [a] pos) ma := pe_one h
theorem be_and {rest : List Expr} (ha : BE X T a ma) (hb : BE X T (.BoolOp .And (b :: rest) pos) mb) : BE X T (.BoolOp .And (a :: b :: rest) pos) (eAnd ma mb) := by
  refine peI (pe_and ha hb) fun σ H Q q => ?_
  obtain ⟨F, env, ω, s, r, e, k⟩ := q
  obtain ⟨x, e1, e⟩ := Option.bind_eq_some_iff.mp e
  refine ⟨F, env, ω, s, x, e1, fun v F1 H1 p ⟨A, h⟩ => ?_⟩
  split at e
  · rename_i q
    exact ⟨true, h.bl q, by rw [if_pos rfl]; exact ⟨F1, env, ω, s.px p, r, e, fun v F2 H2 p2 h2 => k v F2 H2 (p.trans p2) h2⟩⟩
  · rename_i q
    cases e
    exact ⟨false, h.bl q, by rw [if_neg Bool.false_ne_true]; exact k _ F1 H1 p (.frz (.bl false))⟩
  · cases e
theorem be_not (ha : BE X T a ma) : BE X T (.UnaryOp .Not a pos) (eNot ma) := by
  refine peI (pe_not ha) fun σ H Q q => ?_
  obtain ⟨F, env, ω, s, r, e, k⟩ := q
  obtain ⟨x, e1, e⟩ := Option.bind_eq_some_iff.mp e
  refine ⟨F, env, ω, s, x, e1, fun v F1 H1 p ⟨A, h⟩ => ?_⟩
  split at e
  · rename_i q
    cases e
    exact ⟨_, h.bl q, k _ F1 H1 p (.frz (.bl _))⟩
  · cases e
def eIf (t : Tm) (a b : Em) : Em := fun env => (t env).bind fun c => if c = true then a env else b env
def eChain (f g : O → O → Option O) (a b c : Em) : Em := fun env => (a env).bind fun x => (b env).bind fun y => (f x y).bind fun z => match z.toD with
  | .bl true => (c env).bind fun w => g y w
  | .bl false => some (.frz (.bl false))
  | _ => none
theorem tChain_of {r r' : R2} {f g : O → O → Option O} (hf : Op2 X.K T r f) (hg : Op2 X.K T r' g) {σ : L2.St} {H : Hp} {Q : VK} (h : tF X.K T (eChain f g ma mb mc) σ H Q) : tChain r r' (tB X.K T ma) (tB X.K T mb) (tB X.K T mc) σ H Q := by
  obtain ⟨F, env, ω, s, o, e, k⟩ := h
  obtain ⟨x, e1, e⟩ := Option.bind_eq_some_iff.mp e
  obtain ⟨y, e2, e⟩ := Option.bind_eq_some_iff.mp e
  obtain ⟨z, e3, e⟩ := Option.bind_eq_some_iff.mp e
  refine ⟨F, env, ω, s, x, e1, fun v F1 H1 p1 h1 => ⟨F1, env, ω, s.px p1, y, e2, fun u F2 H2 p2 h2 => ?_⟩⟩
  refine hf F2 H2 v u _ _ z _ p2.gl (h1.px p2) h2 e3 fun w F3 H3 A p3 h3 => ?_
  have p := (p1.trans p2).trans p3
  split at e
  · rename_i q
    obtain ⟨w', e4, e⟩ := Option.bind_eq_some_iff.mp e
    refine ⟨true, h3.ro.bl q, ?_⟩
    rw [if_pos rfl]
    refine ⟨F3, env, ω, s.px p, w', e4, fun u' F4 H4 p4 h4 => ?_⟩
    exact hg F4 H4 u u' _ _ o Q p4.gl ((h2.px p3).px p4) h4 e fun w2 F5 H5 A5 p5 h5 => k w2 F5 H5 A5 ((p.trans p4).trans p5) (h5.back (p.trans p4))
  · rename_i q
    cases e
    refine ⟨false, h3.ro.bl q, ?_⟩
    rw [if_neg Bool.false_ne_true]
    exact k _ F3 H3 [] p (.frz (.bl false))
  · cases e
theorem bt_chain {op op' : CmpOp} {r r' : R2} {f g : O → O → Option O} (ho : OpR X (compareOp op) r) (ho' : OpR X (compareOp op') r') (hf : Op2 X.K T r f) (hg : Op2 X.K T r' g) (ha : BE X T a ma) (hb : BE X T b mb) (hc : BE X T c mc)
    (hm : lastMarks [op, op'] [b, c] = false := by with_unfolding_all rfl) : BT X T (.Compare a [op, op'] [b, c] pos) (tst (eChain f g ma mb mc)) :=
  ptI (pt_chain ho ho' ha hb hc hm) fun _ _ _ h => tChain_of hf hg (tTest_of h)
def D.isN : D → Bool
  | .non => true
  | _ => false
def oIsN (neg : Bool) : O → Option O := fun o => some (.frz (.bl (neg ^^ o.toD.isN)))
theorem vw_non {K : PySem.W.Frag} {H : Hp} {v : V} {d : D} (h : Vw K H v d) : decide (v = V.non) = d.isN := by
  cases h <;> simp [D.isN]
theorem isN_w : ∀ σ H Q, tF X.K T (eOp1 (oIsN false) ma) σ H Q → tIsN (tB X.K T ma) σ H Q := by
  intro σ H Q q
  obtain ⟨F, env, ω, s, o, e, k⟩ := q
  obtain ⟨x, e1, e⟩ := Option.bind_eq_some_iff.mp e
  refine ⟨F, env, ω, s, x, e1, fun v F1 H1 p h => ?_⟩
  cases e
  show Q (.bl (decide (v = V.non))) H1
  rw [vw_non (h.vw p.gl)]
  have q := k (.bl (false ^^ x.toD.isN)) F1 H1 [] p (.frz (.bl _))
  rw [Bool.false_xor] at q
  exact q
theorem notN_w : ∀ σ H Q, tF X.K T (eOp1 (oIsN true) ma) σ H Q → tNotN (tB X.K T ma) σ H Q := by
  intro σ H Q q
  obtain ⟨F, env, ω, s, o, e, k⟩ := q
  obtain ⟨x, e1, e⟩ := Option.bind_eq_some_iff.mp e
  refine ⟨F, env, ω, s, x, e1, fun v F1 H1 p h => ?_⟩
  cases e
  show Q (.bl (!decide (v = V.non))) H1
  rw [vw_non (h.vw p.gl)]
  have q := k (.bl (true ^^ x.toD.isN)) F1 H1 [] p (.frz (.bl _))
  rw [Bool.true_xor] at q
  exact q
theorem fe_isN {j pos'} (ha : BE X T a ma) : FE X T (.Compare a [.Is] [.Constant .none j pos'] pos) (eOp1 (oIsN false) ma) := fe_pc (pc_isN ha) isN_w rfl
theorem bt_isN {j pos'} (ha : BE X T a ma) : BT X T (.Compare a [.Is] [.Constant .none j pos'] pos) (tst (eOp1 (oIsN false) ma)) := bt_pc (pc_isN ha) isN_w rfl
theorem bt_notN {j pos'} (ha : BE X T a ma) : BT X T (.Compare a [.IsNot] [.Constant .none j pos'] pos) (tst (eOp1 (oIsN true) ma)) := bt_pc (pc_notN ha) notN_w rfl
end
end VL
namespace VL
open PySem PySem.Spec PyProof.Rows L2
def rInT (neg : Bool) : R2 := fun x y H Q => ∃ (c : Nat) (z : Str), x = .str ⟨#[c]⟩ ∧ y = .str z ∧ Q (.bl (neg ^^ decide (c ∈ z.cps.toList))) H
section
variable {X : Cx} {K : PySem.W.Frag} {T : Tab} {a b c e : Expr} {ma mb mc m : Em} {pos : Pos}
theorem op_inT : OpR X (compareOp .In) (rInT false) := by
  intro pins s σ H x y v u Q I rx ry ⟨c, z, h1, h2, q⟩
  rw [Bool.false_xor] at q
  exact op_in_sign pins s σ H x y v u Q I rx ry ⟨c, z, h1, h2, q⟩
theorem op_notInT : OpR X (compareOp .NotIn) (rInT true) := by
  intro pins s σ H x y v u Q I rx ry ⟨c, z, h1, h2, q⟩
  rw [Bool.true_xor] at q
  exact op_notIn_sign pins s σ H x y v u Q I rx ry ⟨c, z, h1, h2, q⟩
theorem op_gInT (neg : Bool) : Op2 K T (rInT neg) (sc2 (gInT neg)) := .sc fun F H x y a b d Q gl hx hy e k => by
  unfold gInT at e
  split at e
  · rename_i c z
    split at e
    · rename_i n q
      cases e; cases hx; cases hy
      refine ⟨n, z, ?_, rfl, k _ (.bl _)⟩
      obtain ⟨c⟩ := c
      simp only at q
      have : c = #[n] := by rw [← Array.toArray_toList (xs := c), q]
      rw [this]
    · cases e
  · cases e
/-- in a list, tuple, text -/
def oIn (neg : Bool) : O → O → Option O := orO (sc2 (gInS neg)) (sc2 (gInT neg))
theorem fe_in (hu : X.A.units + 64 < cLine) (ha : BE X T a ma) (hb : BE X T b mb) (hm : behindInMarks .In b = false) : FE X T (.Compare a [.In] [b] pos) (eOp2 (oIn false) ma mb) :=
  fe_cmp ((op_inP hu).or op_inT) ((op_gInS _).or (op_gInT _)) ha hb hm
theorem bt_in (hu : X.A.units + 64 < cLine) (ha : BE X T a ma) (hb : BE X T b mb) (hm : behindInMarks .In b = false) : BT X T (.Compare a [.In] [b] pos) (tst (eOp2 (oIn false) ma mb)) :=
  bt_cmp ((op_inP hu).or op_inT) ((op_gInS _).or (op_gInT _)) ha hb hm
theorem bt_notin (hu : X.A.units + 64 < cLine) (ha : BE X T a ma) (hb : BE X T b mb) (hm : behindInMarks .NotIn b = false) : BT X T (.Compare a [.NotIn] [b] pos) (tst (eOp2 (oIn true) ma mb)) :=
  bt_cmp ((op_notInP hu).or op_notInT) ((op_gInS _).or (op_gInT _)) ha hb hm
end
def ixO : O → D → Option O
  | .lst os, .int i => atI os i
  | .tup os, .int i => atI os i
  | .frz (.lst ds), .int i => (atI ds i).map .frz
  | .frz (.tup ds), .int i => (atI ds i).map .frz
  | .frz (.scr ns), .int i => (atI ns i).map fun n => .frz (.int n)
  | .frz (.str z), .int i => if z.length ≤ sizeLine then (atI z.cps.toList i).map fun c => .frz (.str ⟨#[c]⟩) else none
  | _, _ => none
def ixD : O → D → Option O
  | .dct kos, k => (k.key).bind (getA kos)
  | .frz d, k => (dGetD d k).bind fun r => r.map .frz
  | _, _ => none
def eIx (a i : Em) : Em := fun env => (a env).bind fun x => (i env).bind fun y => (ixO x y.toD).or (ixD x y.toD)
section
variable {X : Cx} {K : PySem.W.Frag} {T : Tab} {F H : Hp} {a b c e i : Expr} {ma mb mc m mi : Em} {pos : Pos}
theorem atI_vw {vs : List V} {ds : List D} {j : Int} {d : D} (l : VwL K F vs ds) (e : atI ds j = some d) : ∃ v, atI vs j = some v ∧ Vw K F v d := by
  unfold atI at e ⊢
  obtain ⟨n, e1, e2⟩ := Option.bind_eq_some_iff.mp e
  obtain ⟨v, h1, h2⟩ := l.get e2
  refine ⟨v, ?_, h2⟩
  rw [l.length, e1]
  exact h1
theorem atI_ro {vs : List V} {os : List O} {A : List Addr} {j : Int} {o : O} (l : RoL K F H vs os A) (e : atI os j = some o) : ∃ v B, atI vs j = some v ∧ Ro K F H v o B := by
  unfold atI at e ⊢
  obtain ⟨n, e1, e2⟩ := Option.bind_eq_some_iff.mp e
  obtain ⟨v, A1, B, A2, h1, _, h2, _⟩ := l.at e2
  refine ⟨v, B, ?_, h2⟩
  rw [l.length, e1]
  exact h1
theorem atI_map {α β : Type} (f : α → β) (xs : List α) (j : Int) : atI (xs.map f) j = (atI xs j).map f := by
  unfold atI
  rw [List.length_map]
  cases ixN xs.length j with
  | none => rfl
  | some n => simp
theorem ixO_of {x y : V} {o o' : O} {d : D} {Q : VK} (gl : Gl T F H) (hx : VwO K F H x o) (hy : Vw K H y d) (e : ixO o d = some o') (k : ∀ v, VwO K F H v o' → Q v H) : rIx K x y H Q := by
  obtain ⟨A, r⟩ := hx
  unfold ixO at e
  split at e
  · cases hy
    cases r with
    | lst f h l =>
      obtain ⟨v, B, h1, h2⟩ := atI_ro l e
      exact .inl ⟨_, _, _, _, rfl, rfl, .of h, h1, k v ⟨B, h2⟩⟩
  · cases hy
    cases r with
    | tup h l =>
      obtain ⟨v, B, h1, h2⟩ := atI_ro l e
      exact .inr (.inl ⟨_, _, _, _, rfl, rfl, .of (gl.sub.at h (fun _ z => by cases z) rfl), h1, k v ⟨B, h2⟩⟩)
  · obtain ⟨d', e1, e2⟩ := Option.map_eq_some_iff.mp e
    subst e2
    cases hy
    cases r with
    | frz r => cases r with
      | lst h l =>
        obtain ⟨v, h1, h2⟩ := atI_vw l e1
        exact .inl ⟨_, _, _, _, rfl, rfl, .of (gl.sub.at h (fun _ z => by cases z) rfl), h1, k v (.frz h2)⟩
  · obtain ⟨d', e1, e2⟩ := Option.map_eq_some_iff.mp e
    subst e2
    cases hy
    cases r with
    | frz r => cases r with
      | tup h l =>
        obtain ⟨v, h1, h2⟩ := atI_vw l e1
        exact .inr (.inl ⟨_, _, _, _, rfl, rfl, .of (gl.sub.at h (fun _ z => by cases z) rfl), h1, k v (.frz h2)⟩)
  · obtain ⟨d', e1, e2⟩ := Option.map_eq_some_iff.mp e
    subst e2
    cases hy
    cases r with
    | frz r => cases r with
      | scr h =>
        refine .inl ⟨_, _, _, .int d', rfl, rfl, gl.sub.sql h, ?_, k _ (.frz (.int _))⟩
        rw [atI_map, e1]
        rfl
  · split at e
    · obtain ⟨d', e1, e2⟩ := Option.map_eq_some_iff.mp e
      subst e2
      cases hy
      cases r with
      | frz r => cases r with
        | str z => exact .inr (.inr ⟨_, _, _, rfl, rfl, by assumption, e1, k _ (.frz (.str _))⟩)
    · cases e
  · cases e
theorem ixD_of {x y : V} {o o' : O} {d : D} (gl : Gl T F H) (hx : VwO K F H x o) (hy : Vw K H y d) (e : ixD o d = some o') : ∃ p v, x = .ref p ∧ DGet H p y (some v) ∧ VwO K F H v o' := by
  obtain ⟨A, r⟩ := hx
  unfold ixD at e
  split at e
  · obtain ⟨kk, e1, e2⟩ := Option.bind_eq_some_iff.mp e
    cases r with
    | dct f h ek l =>
      obtain ⟨v, B, h1, h2⟩ := getA_ro ek.eq l e2
      exact ⟨_, v, rfl, .inl ⟨_, kk, .inl h, hy.key e1, h1.symm⟩, B, h2⟩
  · obtain ⟨rr, e1, e2⟩ := Option.bind_eq_some_iff.mp e
    obtain ⟨d', e3, e4⟩ := Option.map_eq_some_iff.mp e2
    subst e3 e4
    cases r with
    | frz r =>
      -- the entry as it stands in the frozen part
      unfold dGetD at e1
      split at e1
      · obtain ⟨kk, e5, e6⟩ := Option.map_eq_some_iff.mp e1
        cases r with
        | dct h ek l =>
          obtain ⟨v, h1, h2⟩ := (getA_vw (k := kk) ek l).2 _ e6
          exact ⟨_, v, rfl, .inl ⟨_, kk, gl.sub.rd h (fun _ z => by cases z), hy.key e5, h1.symm⟩, .frz h2⟩
      · split at e1
        · obtain ⟨kk, e5, e6⟩ := Option.map_eq_some_iff.mp e1
          cases r with
          | dtt h ek l =>
            cases hy with
            | tup h3 l3 =>
              obtain ⟨v, h1, h2⟩ := (getA_vw (k := kk) ek l).2 _ e6
              exact ⟨_, v, rfl, .inr ⟨_, kk, _, gl.sub.rd h (fun _ z => by cases z), rfl, by rw [h3, l3.keys e5], h1.symm⟩, .frz h2⟩
        · cases e1
      · cases e1
  · cases e
theorem be_ix (hu : X.A.units + 64 < cLine) (ha : BE X T a ma) (hi : BE X T i mi) (hs : PlainIx i := by exact fun _ _ => rfl) : BE X T (.Subscript a i pos) (eIx ma mi) := by
  refine peI (peOr (pe_ix ix_seq ha hi hs) (pe_dget (by omega) ha hi hs)) fun σ H Q q => ?_
  obtain ⟨F, env, ω, s, o, e, k⟩ := q
  obtain ⟨x, e1, e⟩ := Option.bind_eq_some_iff.mp e
  obtain ⟨y, e2, e⟩ := Option.bind_eq_some_iff.mp e
  cases q : ixO x y.toD with
  | some z =>
    rw [q] at e
    have e : z = o := by simpa using e
    subst e
    refine .inl ⟨F, env, ω, s, x, e1, fun v F1 H1 p1 h1 => ⟨F1, env, ω, s.px p1, y, e2, fun u F2 H2 p2 h2 => ?_⟩⟩
    exact ixO_of p2.gl (h1.px p2) (h2.vw p2.gl) q fun w hw => k w F2 H2 (p1.trans p2) hw
  | none =>
    rw [q] at e
    refine .inr ⟨F, env, ω, s, x, e1, fun v F1 H1 p1 h1 => ⟨F1, env, ω, s.px p1, y, e2, fun u F2 H2 p2 h2 => ?_⟩⟩
    obtain ⟨p, w, h3, h4, h5⟩ := ixD_of p2.gl (h1.px p2) (h2.vw p2.gl) (show ixD x y.toD = some o by simpa using e)
    exact ⟨p, w, h3, h4, k w F2 H2 (p1.trans p2) h5⟩

abbrev Om := Env → Option (Option Int)
def tBo (K : PySem.W.Frag) (T : Tab) (m : Om) : TO := fun σ H Q => ∃ F env ω, Sta K T F H σ env ω ∧ ∃ o, m env = some o ∧ ∀ F' H', PX T F H F' H' → Q o H'
def BO (X : Cx) (T : Tab) (e : Option Expr) (m : Om) : Prop := PO X e (tBo X.K T m)
def noP : Om := fun _ => some none
def someP (m : Em) : Om := fun env => (m env).bind fun o => match o.toD with
  | .int i => some (some i)
  | _ => none
theorem poI {e : Option Expr} {t t' : TO} (h : PO X e t) (w : ∀ σ H Q, t' σ H Q → t σ H Q) : PO X e t' := ⟨fun pins s σ H Q I q => h.run pins s σ H Q I (w σ H Q q)⟩
theorem bo_none : BO X T none noP := poI po_none fun σ H Q q => by
  obtain ⟨F, env, ω, s, o, e, k⟩ := q
  cases e
  exact k F H (.refl s.gl)
theorem bo_some (h : BE X T e m) : BO X T (some e) (someP m) := poI (po_some h) fun σ H Q q => by
  obtain ⟨F, env, ω, s, o, e, k⟩ := q
  obtain ⟨x, e1, e⟩ := Option.bind_eq_some_iff.mp e
  refine ⟨F, env, ω, s, x, e1, fun v F1 H1 p1 h1 => ?_⟩
  have hv := h1.vw p1.gl
  split at e
  · rename_i i q
    rw [q] at hv
    cases hv
    cases e
    exact ⟨_, rfl, k F1 H1 p1⟩
  · cases e
def cutA {α : Type} (xs : List α) (lo hi : Option Int) : List α := (xs.drop (HT.sIx xs.length 0 lo)).take (HT.sIx xs.length xs.length hi - HT.sIx xs.length 0 lo)
def slO (o : O) (lo hi : Option Int) : Option O :=
  match o.litems with
  | some ds => some (newL (cutA ds lo hi))
  | none => match o.titems with
    | some ds => some (.frz (.tup (cutA ds lo hi)))
    | none => match o with
      | .frz (.str z) => if z.length ≤ sizeLine then some (.frz (.str (cutS z lo hi))) else none
      | _ => none
def eSl (a : Em) (lo hi : Om) : Em := fun env => (a env).bind fun x => (lo env).bind fun l => (hi env).bind fun h => slO x l h
theorem VwL.cut {vs : List V} {ds : List D} (l : VwL K F vs ds) (lo hi : Option Int) : VwL K F (cutV vs lo hi) (cutA ds lo hi) := by
  unfold cutV cutA
  rw [l.length]
  exact (l.drop _).take _
theorem slO_of {x : V} {o o' : O} {lo hi : Option Int} {Q : VK} (gl : Gl T F H) (hx : VwO K F H x o) (e : slO o lo hi = some o') (k : ∀ v F' H' A, PX T F H F' H' → Fresh K H F' H' v o' A → Q v H') :
    rSlL K x lo hi H Q ∨ rSlA K x lo hi H Q ∨ rSlS x lo hi H Q := by
  unfold slO at e
  split at e
  · rename_i ds q
    cases e
    obtain ⟨p, vs, rfl, h, l⟩ := hx.litems gl q
    refine .inl ⟨p, vs, rfl, h, fun r hr => ?_⟩
    obtain ⟨px, f⟩ := new_lst gl hr (l.cut lo hi)
    exact k _ _ _ _ px f
  · split at e
    · rename_i ds q
      cases e
      obtain ⟨p, vs, rfl, hF, h, l⟩ := hx.titems gl q
      refine .inr (.inl ⟨p, vs, rfl, .of h, fun w => ?_, fun w r hr => ?_⟩)
      · have : cutA ds lo hi = ds := by
          rw [l.length] at w
          unfold cutA
          rw [w.1, w.2]
          simp
        rw [this] at k
        exact k _ F H [] (.refl gl) (.frz (.tup hF l))
      · obtain ⟨px, f⟩ := new_tup gl hr (l.cut lo hi)
        exact k _ _ _ [] px (.frz f)
    · split at e
      · split at e
        · cases e
          obtain ⟨A, r⟩ := hx
          cases r with
          | frz r => cases r with
            | str z => exact .inr (.inr ⟨_, rfl, by assumption, k _ F H [] (.refl gl) (.frz (.str _))⟩)
        · cases e
      · cases e
theorem fe_sl {lo hi : Option Expr} {ml mh : Om} {p2 : Pos} (ha : BE X T a ma) (hl : BO X T lo ml) (hh : BO X T hi mh) : FE X T (.Subscript a (.Slice lo hi none p2) pos) (eSl ma ml mh) := by
  refine peI (pe_slice (sl_list.or (sl_tupA.or sl_str)) ha hl hh) fun σ H Q q => ?_
  obtain ⟨F, env, ω, s, o, e, k⟩ := q
  obtain ⟨x, e1, e⟩ := Option.bind_eq_some_iff.mp e
  obtain ⟨l, e2, e⟩ := Option.bind_eq_some_iff.mp e
  obtain ⟨h, e3, e⟩ := Option.bind_eq_some_iff.mp e
  refine ⟨F, env, ω, s, x, e1, fun v F1 H1 p1 h1 => ⟨F1, env, ω, s.px p1, l, e2, fun F2 H2 p2 => ⟨F2, env, ω, (s.px p1).px p2, h, e3, fun F3 H3 p3 => ?_⟩⟩⟩
  have p := (p1.trans p2).trans p3
  exact slO_of p3.gl ((h1.px p2).px p3) e fun w F4 H4 A p4 f => k w F4 H4 A (p.trans p4) (f.back p)
def tFs (K : PySem.W.Frag) (T : Tab) (m : Es) : TA := fun σ H Q => ∃ F env ω, Sta K T F H σ env ω ∧ ∃ os, m env = some os ∧ ∀ vs F' H' A, PX T F H F' H' → RoL K F' H' vs os A → A.Nodup → (∀ a ∈ A, H a = none) → Q vs H'
def FA (X : Cx) (T : Tab) (es : List Expr) (m : Es) : Prop := PA X es (tFs X.K T m)
theorem fa_nil : FA X T [] eNil := by
  refine paI pa_nil fun σ H Q h => ?_
  obtain ⟨F, env, ω, s, o, e, k⟩ := h
  cases e
  exact k [] F H [] (.refl s.gl) .nil .nil fun _ z => by cases z
theorem nodup_app {A B : List Addr} (h1 : A.Nodup) (h2 : B.Nodup) (h3 : ∀ a ∈ A, a ∉ B) : (A ++ B).Nodup := by
  rw [List.nodup_append]
  exact ⟨h1, h2, fun a ha b hb e => h3 a ha (by rw [e]; exact hb)⟩
theorem fa_cons {es : List Expr} {m : Es} (ha : FE X T a ma) (hr : FA X T es m) (hs : starEach (a :: es) X.env = (false, eval a X.env) :: starEach es X.env := by rfl) : FA X T (a :: es) (eCons ma m) := by
  refine paI (pa_cons ha hr hs) fun σ H Q h => ?_
  obtain ⟨F, env, ω, s, o, e, k⟩ := h
  obtain ⟨x, e1, e⟩ := Option.bind_eq_some_iff.mp e
  obtain ⟨xs, e2, e⟩ := Option.bind_eq_some_iff.mp e
  cases e
  refine ⟨F, env, ω, s, x, e1, fun v F1 H1 A p1 h1 => ⟨F1, env, ω, s.px p1, xs, e2, fun vs F2 H2 B p2 h2 n2 f2 => ?_⟩⟩
  refine k _ F2 H2 (A ++ B) (p1.trans p2) (.cons (h1.ro.px p2) h2) (nodup_app h1.nd n2 fun a ha hb => ?_) fun a ha => ?_
  · obtain ⟨_, u, h3, _⟩ := h1.ro.mem a ha
    rw [f2 a hb] at h3
    cases h3
  · rcases List.mem_append.mp ha with ha | ha
    · exact h1.new a ha
    · exact p1.free (f2 a ha)
/-- a tuple: frozen where its parts are -/
def mkT (os : List O) : O := match os.mapM asFrz with
  | some ds => .frz (.tup ds)
  | none => .tup os
def eTup (m : Es) : Em := fun env => (m env).bind fun os => if os.length ≤ 1000 then some (mkT os) else none
def eLst (m : Es) : Em := fun env => (m env).bind fun os => if os.length ≤ 1000 then some (.lst os) else none
theorem thousand {n : Nat} (h : n ≤ 1000) : n ≤ sizeLine := by rw [sizeLine_eq]; omega
theorem fe_lst {es : List Expr} {m : Es} (h : FA X T es m) : FE X T (.List es pos) (eLst m) := by
  refine peI (pe_lst h) fun σ H Q q => ?_
  obtain ⟨F, env, ω, s, o, e, k⟩ := q
  obtain ⟨xs, e1, e⟩ := Option.bind_eq_some_iff.mp e
  split at e
  · cases e
    refine ⟨F, env, ω, s, xs, e1, fun vs F1 H1 A p1 h1 n1 f1 => ⟨by rw [h1.length]; exact thousand (by assumption), fun p hp => ?_⟩⟩
    have px : PX T F1 H1 F1 (upd H1 p (.lst vs)) := .owned p1.gl hp fun _ z => by cases z
    have hA : ∀ a ∈ A, a ≠ p := fun a ha z => by
      obtain ⟨_, u, h3, _⟩ := h1.mem a ha
      rw [z, hp] at h3
      cases h3
    refine k _ F1 _ (p :: A) (p1.trans px) ⟨.lst (p1.gl.free hp) upd_same ?_, List.nodup_cons.mpr ⟨fun z => hA p z rfl, n1⟩, fun a ha => ?_⟩
    · exact h1.keep (fun _ _ e => e) fun a ha => ⟨(h1.mem a ha).1, upd_ne (hA a ha)⟩
    · rcases List.mem_cons.mp ha with e | ha
      · rw [e]; exact p1.free hp
      · exact f1 a ha
  · cases e
theorem fe_tup {es : List Expr} {m : Es} {kk} (h : FA X T es m) : FE X T (.Tuple es kk pos) (eTup m) := by
  refine peI (pe_tup h) fun σ H Q q => ?_
  obtain ⟨F, env, ω, s, o, e, k⟩ := q
  obtain ⟨xs, e1, e⟩ := Option.bind_eq_some_iff.mp e
  split at e
  · cases e
    refine ⟨F, env, ω, s, xs, e1, fun vs F1 H1 A p1 h1 n1 f1 => ⟨by rw [h1.length]; exact thousand (by assumption), fun p hp => ?_⟩⟩
    have px : PX T F1 H1 (upd F1 p (.tup vs)) (upd H1 p (.tup vs)) := .laid p1.gl hp (fun _ z => by cases z) (.inr trivial)
    unfold mkT at k
    split at k
    · rename_i ds q
      exact k _ _ _ [] (p1.trans px) (.frz (.tup upd_same ((ro_mapM p1.gl h1 q).sub (.of px.f))))
    · have hA : ∀ a ∈ A, a ≠ p := fun a ha z => by
        obtain ⟨_, u, h3, _⟩ := h1.mem a ha
        rw [z, hp] at h3
        cases h3
      refine k _ _ _ A (p1.trans px) ⟨.tup upd_same ?_, n1, f1⟩
      exact h1.keep px.f fun a ha => ⟨by rw [upd_ne (hA a ha)]; exact (h1.mem a ha).1, upd_ne (hA a ha)⟩
  · cases e
end
def OpN (K : PySem.W.Frag) (T : Tab) (r : List V → Hp → VK → Prop) (f : List O → Option O) : Prop := ∀ (F H : Hp) (xs : List V) (os : List O) (o : O) (Q : VK), Gl T F H → Paired (VwO K F H) xs os → f os = some o →
  (∀ v F' H' A, PX T F H F' H' → Fresh K H F' H' v o A → Q v H') → r xs H Q
def eOpN (f : List O → Option O) (m : Es) : Em := fun env => (m env).bind f
section
variable {X : Cx} {K : PySem.W.Frag} {T : Tab} {F H : Hp} {e : Expr} {es : List Expr} {m : Es} {pos p : Pos} {x : Str} {id Ty : String} {r : List V → Hp → VK → Prop} {f : List O → Option O}
theorem opN_of (hf : OpN X.K T r f) {σ : L2.St} {H : Hp} {Q : VK} (h : tF X.K T (eOpN f m) σ H Q) : tCB r (tBs X.K T m) σ H Q := by
  obtain ⟨F, env, ω, s, o, e, k⟩ := h
  obtain ⟨xs, e1, e⟩ := Option.bind_eq_some_iff.mp e
  exact ⟨F, env, ω, s, xs, e1, fun vs F1 H1 p1 h1 => hf F1 H1 vs xs o Q p1.gl h1 e fun v F2 H2 A p2 f => k v F2 H2 A (p1.trans p2) (f.back p1)⟩
theorem fe_callB (hc : CallR X (.builtin id) r) (hf : OpN X.K T r f) (hg : L2.Gl X x) (hm : X.mg x = none) (hv : bootBuiltins x = some (.builtin id)) (ha : BA X T (e :: es) m) (hn : x ≠ "__name__" := by decide) (hdb : (x == ("__debug__" : Str)) = false := by decide)
    (he : starEach (e :: es) X.env = (false, eval e X.env) :: starEach es X.env := by rfl) (hpl : (backTo pos (starEach es X.env)).any (·.1) = false := by rfl) : FE X T (.Call (.Name x p) (e :: es) [] pos) (eOpN f m) :=
  peI (pe_callB hc hg hm hv ha hn hdb he hpl) fun _ _ _ h => opN_of hf h
theorem fe_callTy (hc : CallR X (.type Ty) r) (hf : OpN X.K T r f) (hg : L2.Gl X x) (hm : X.mg x = none) (hv : bootBuiltins x = some (.type Ty)) (ha : BA X T (e :: es) m) (hn : x ≠ "__name__" := by decide) (hdb : (x == ("__debug__" : Str)) = false := by decide)
    (he : starEach (e :: es) X.env = (false, eval e X.env) :: starEach es X.env := by rfl) (hpl : (backTo pos (starEach es X.env)).any (·.1) = false := by rfl) : FE X T (.Call (.Name x p) (e :: es) [] pos) (eOpN f m) :=
  peI (pe_callTy hc hg hm hv ha hn hdb he hpl) fun _ _ _ h => opN_of hf h
def n1 (g : O → Option O) : List O → Option O
  | [o] => g o
  | _ => none
def n2 (g : O → O → Option O) : List O → Option O
  | [o, q] => g o q
  | _ => none
theorem OpN.one {g : O → Option O} (h : ∀ (F H : Hp) (x : V) (a o : O) (Q : VK), Gl T F H → VwO K F H x a → g a = some o → (∀ v F' H' A, PX T F H F' H' → Fresh K H F' H' v o A → Q v H') → r [x] H Q) : OpN K T r (n1 g) := by
  intro F H xs os o Q gl hp e k
  unfold n1 at e
  split at e
  · cases hp with
    | cons h1 t => cases t; exact h F H _ _ o Q gl h1 e k
  · cases e
theorem OpN.two {g : O → O → Option O} (h : ∀ (F H : Hp) (x y : V) (a b o : O) (Q : VK), Gl T F H → VwO K F H x a → VwO K F H y b → g a b = some o → (∀ v F' H' A, PX T F H F' H' → Fresh K H F' H' v o A → Q v H') → r [x, y] H Q) : OpN K T r (n2 g) := by
  intro F H xs os o Q gl hp e k
  unfold n2 at e
  split at e
  · cases hp with
    | cons h1 t => cases t with
      | cons h2 t => cases t; exact h F H _ _ _ _ o Q gl h1 h2 e k
  · cases e
def D.len : D → Option Nat
  | .str z => if z.length ≤ sizeLine then some z.length else none
  | .lst ds => some ds.length
  | .tup ds => some ds.length
  | .scr ns => some ns.length
  | _ => none
def oLen : O → Option O := sc1 fun d => (d.len).map fun (n : Nat) => .int (n : Int)
theorem len_of {x : V} {d : D} {n : Nat} (h : Vw K H x d) (e : d.len = some n) : LenV K x H n := by
  cases h with
  | str z =>
    unfold D.len at e
    simp only at e
    split at e
    · cases e; exact ⟨by assumption, rfl⟩
    · cases e
  | tup h l => cases e; exact .inr ⟨_, .of h, l.length.symm⟩
  | lst h l => cases e; exact .inl ⟨_, .of h, l.length.symm⟩
  | scr h => cases e; exact .inl ⟨_, h, by simp⟩
  | _ => cases e
theorem op_len : OpN K T (fun xs H Q => ∃ x n, xs = [x] ∧ LenV K x H n ∧ Q (.int n) H) (n1 oLen) := .one fun F H x a o Q gl hx e k => by
  obtain ⟨d, e1, e2⟩ := Option.map_eq_some_iff.mp e
  obtain ⟨n, e3, e4⟩ := Option.map_eq_some_iff.mp e1
  subst e4 e2
  exact ⟨x, n, rfl, len_of (hx.vw gl) e3, k _ F H [] (.refl gl) (.frz (.int _))⟩
end
end VL
namespace VL
open PySem PySem.Spec PyProof.Rows L2
abbrev Own := Addr → Option Nat
/-- growth with what is owned changed -/
structure EX (F H : Hp) (ω : Own) (F' H' : Hp) (ω' : Own) : Prop where
  f : ∀ a u, F a = some u → F' a = some u
  h : ∀ a u, H a = some u → ω a = none → (∀ ps, u ≠ .tbl ps) → H' a = some u
  new : ∀ a, F a = none → H a ≠ none → ω a = none → F' a = none
  own : ∀ a i, ω' a = some i → ω a ≠ none ∨ H a = none
  trk : ∀ a, H a ≠ none → H' a ≠ none
  tb : ∀ a ps, H a = some (.tbl ps) → ∃ ps', H' a = some (.tbl ps')
/-- the in-and-out parameters stay in their slots -/
def Io (env : Env) (σ : L2.St) (env' : Env) (σ' : L2.St) : Prop := ∀ (i : Nat) (o : O), env[i]? = some (SV.io o) → σ'[i]? = σ[i]? ∧ ∃ o' : O, env'[i]? = some (SV.io o')
structure Go (K : PySem.W.Frag) (T : Tab) (F H : Hp) (σ : L2.St) (env : Env) (ω : Own) (F' H' : Hp) (σ' : L2.St) (env' : Env) (ω' : Own) : Prop where
  sta : Sta K T F' H' σ' env' ω'
  ex : EX F H ω F' H' ω'
  io : Io env σ env' σ'
section
variable {K : PySem.W.Frag} {T : Tab} {F H F1 H1 F2 H2 F' H' : Hp} {σ σ1 σ2 : L2.St} {env e1 e2 : Env} {ω ω1 ω2 : Own}
theorem EX.trans (x : EX F H ω F1 H1 ω1) (y : EX F1 H1 ω1 F2 H2 ω2) : EX F H ω F2 H2 ω2 := by
  have own1 : ∀ a, H a ≠ none → ω a = none → ω1 a = none := fun a h w => by
    cases e : ω1 a with
    | none => rfl
    | some i => rcases x.own a i e with q | q
                · exact absurd w q
                · exact absurd q h
  refine ⟨fun a u e => y.f a u (x.f a u e), fun a u e w n => y.h a u (x.h a u e w n) (own1 a (by rw [e]; exact fun z => by cases z) w) n, fun a e h w => y.new a (x.new a e h w) (x.trk a h) (own1 a h w), fun a i e => ?_, fun a h => y.trk a (x.trk a h), fun a ps e => by
    obtain ⟨ps1, e1⟩ := x.tb a ps e
    exact y.tb a ps1 e1⟩
  rcases y.own a i e with q | q
  · cases e1 : ω1 a with
    | none => exact absurd e1 q
    | some j => exact x.own a j e1
  · cases e1 : H a with
    | none => exact .inr rfl
    | some u => exact absurd q (x.trk a (by rw [e1]; exact fun z => by cases z))
theorem EX.refl : EX F H ω F H ω := ⟨fun _ _ e => e, fun _ _ e _ _ => e, fun _ e _ _ => e, fun a i e => .inl (by rw [e]; exact fun z => by cases z), fun _ h => h, fun a ps e => ⟨ps, e⟩⟩
theorem EX.px (p : PX T F H F' H') : EX F H ω F' H' ω := ⟨p.f, fun a u e _ n => p.h a u e n, fun a e h _ => p.new a e h, fun a i e => .inl (by rw [e]; exact fun z => by cases z), fun _ h => p.trk' h, p.trk⟩
theorem Io.refl : Io env σ env σ := fun i o e => ⟨rfl, o, e⟩
theorem Io.trans (x : Io env σ e1 σ1) (y : Io e1 σ1 e2 σ2) : Io env σ e2 σ2 := fun i o e => by
  obtain ⟨h1, o1, h2⟩ := x i o e
  obtain ⟨h3, o2, h4⟩ := y i o1 h2
  exact ⟨h3.trans h1, o2, h4⟩
theorem Go.trans (x : Go K T F H σ env ω F1 H1 σ1 e1 ω1) (y : Go K T F1 H1 σ1 e1 ω1 F2 H2 σ2 e2 ω2) : Go K T F H σ env ω F2 H2 σ2 e2 ω2 := ⟨y.sta, x.ex.trans y.ex, x.io.trans y.io⟩
theorem Go.refl (s : Sta K T F H σ env ω) : Go K T F H σ env ω F H σ env ω := ⟨s, .refl, .refl⟩
theorem Go.px (s : Sta K T F H σ env ω) (p : PX T F H F' H') : Go K T F H σ env ω F' H' σ env ω := ⟨s.px p, .px p, .refl⟩
end
inductive Out where
  | nx (e : Env) | ret (o : O) (e : Env) | bk (e : Env) | ct (e : Env)
abbrev Sm := Env → Option Out
/-- a returned value -/
structure Rt (K : PySem.W.Frag) (H : Hp) (ω : Own) (F' H' : Hp) (ω' : Own) (v : V) (o : O) (A : List Addr) : Prop where
  ro : Ro K F' H' v o A
  nd : A.Nodup
  new : ∀ a ∈ A, ω' a = none ∧ (ω a ≠ none ∨ H a = none)
def End (K : PySem.W.Frag) (T : Tab) (F H : Hp) (σ : L2.St) (env : Env) (ω : Own) (D : Ends) : Out → Prop
  | .nx e => ∀ F' H' σ' ω', Go K T F H σ env ω F' H' σ' e ω' → D.nx σ' H'
  | .bk e => ∀ F' H' σ' ω', Go K T F H σ env ω F' H' σ' e ω' → D.bk σ' H'
  | .ct e => ∀ F' H' σ' ω', Go K T F H σ env ω F' H' σ' e ω' → D.ct σ' H'
  | .ret o e => ∀ F' H' σ' ω' v A, Go K T F H σ env ω F' H' σ' e ω' → Rt K H ω F' H' ω' v o A → D.rt v H'
def tS (K : PySem.W.Frag) (T : Tab) (s : Sm) : TS := fun D σ H => ∃ F env ω, Sta K T F H σ env ω ∧ ∃ out, s env = some out ∧ End K T F H σ env ω D out
def SS (X : Cx) (T : Tab) (st : Stmt) (s : Sm) : Prop := PS X st (tS X.K T s)
def SB (X : Cx) (T : Tab) (st : List Stmt) (s : Sm) : Prop := PSs X st (tS X.K T s)
theorem psI {X : Cx} {st : Stmt} {t t' : TS} (h : PS X st t) (w : ∀ D σ H, t' D σ H → t D σ H) : PS X st t' := ⟨fun pins s σ H D I q => h.run pins s σ H D I (w D σ H q)⟩
theorem pssI {X : Cx} {st : List Stmt} {t t' : TS} (h : PSs X st t) (w : ∀ D σ H, t' D σ H → t D σ H) : PSs X st t' := ⟨fun pins s σ H D I q => h.run pins s σ H D I (w D σ H q)⟩
section
variable {K : PySem.W.Frag} {T : Tab} {F H F1 H1 F' H' : Hp} {σ σ1 : L2.St} {env e1 : Env} {ω ω1 ω' : Own} {D : Ends} {out : Out} {v : V} {o : O} {A : List Addr}
theorem Rt.back (x : EX F H ω F1 H1 ω1) (r : Rt K H1 ω1 F' H' ω' v o A) : Rt K H ω F' H' ω' v o A := by
  refine ⟨r.ro, r.nd, fun a h => ⟨(r.new a h).1, ?_⟩⟩
  rcases (r.new a h).2 with q | q
  · cases e : ω1 a with
    | none => exact absurd e q
    | some i => exact x.own a i e
  · cases e : H a with
    | none => exact .inr rfl
    | some u => exact absurd q (x.trk a (by rw [e]; exact fun z => by cases z))
theorem End.go (g : Go K T F H σ env ω F1 H1 σ1 e1 ω1) (h : End K T F H σ env ω D out) : End K T F1 H1 σ1 e1 ω1 D out := by
  cases out with
  | nx e => exact fun F' H' σ' ω' g' => h F' H' σ' ω' (g.trans g')
  | bk e => exact fun F' H' σ' ω' g' => h F' H' σ' ω' (g.trans g')
  | ct e => exact fun F' H' σ' ω' g' => h F' H' σ' ω' (g.trans g')
  | ret o e => exact fun F' H' σ' ω' v A g' r => h F' H' σ' ω' v A (g.trans g') (r.back g.ex)
end
def repA {κ α : Type} [DecidableEq κ] : List (κ × α) → κ → α → List (κ × α)
  | [], _, _ => []
  | (j, x) :: r, k, v => if j = k then (j, v) :: r else (j, x) :: repA r k v
def O.put : O → Stp → O → O
  | .lst os, .ix i, n => .lst (os.set i n)
  | .tup os, .ix i, n => .tup (os.set i n)
  | .dct kos, .key k, n => .dct (repA kos k n)
  | .ins C fos, .fld f, n => .ins C (repA fos f n)
  | o, _, _ => o
def O.putW : O → List Stp → O → O
  | _, [], n => n
  | o, s :: p, n => match o.step s with
    | some o' => o.put s (o'.putW p n)
    | none => o
section
variable {κ α : Type} [DecidableEq κ]
theorem keyIx : ∀ {kvs : List (κ × V)} {kos : List (κ × α)} {k : κ} {n : α}, kvs.map Prod.fst = kos.map Prod.fst → getA kos k = some n →
    ∃ i, (kos.map Prod.snd)[i]? = some n ∧ (∀ n', (repA kos k n').map Prod.snd = (kos.map Prod.snd).set i n') ∧ (∀ n', (repA kos k n').map Prod.fst = kos.map Prod.fst) ∧ ∀ v, (kvs.map Prod.snd)[i]? = some v → valV kvs k = some v
  | _, [], k, n, _, e => by simp [getA] at e
  | [], _ :: _, _, _, e, _ => by simp at e
  | (pk, pv) :: kvs, (qk, qd) :: kos, k, n, e, e3 => by
    simp only [List.map_cons, List.cons.injEq] at e
    obtain ⟨e1, e2⟩ := e
    subst e1
    by_cases z : pk = k
    · have : qd = n := by simpa [getA, List.find?_cons, z] using e3
      subst this
      exact ⟨0, rfl, fun n' => by simp [repA, z], fun n' => by simp [repA, z], fun v h => by simpa [valV, List.find?_cons, z] using h⟩
    · obtain ⟨i, h1, h2, h3, h4⟩ := keyIx (k := k) e2 (by simpa [getA, List.find?_cons, z] using e3)
      exact ⟨i + 1, by simpa using h1, fun n' => by simp [repA, z, h2], fun n' => by simp [repA, z, h3], fun v h => by simpa [valV, List.find?_cons, z] using h4 v (by simpa using h)⟩
theorem fldIx : ∀ {kvs : List (Str × V)} {kos : List (Str × α)} {k : Str} {n : α}, kvs.map Prod.fst = kos.map Prod.fst → kos.lookup k = some n →
    ∃ i, (kos.map Prod.snd)[i]? = some n ∧ (∀ n', (repA kos k n').map Prod.snd = (kos.map Prod.snd).set i n') ∧ (∀ n', (repA kos k n').map Prod.fst = kos.map Prod.fst) ∧ ∀ v, (kvs.map Prod.snd)[i]? = some v → kvs.lookup k = some v
  | _, [], k, n, _, e => by simp at e
  | [], _ :: _, _, _, e, _ => by simp at e
  | (pk, pv) :: kvs, (qk, qd) :: kos, k, n, e, e3 => by
    simp only [List.map_cons, List.cons.injEq] at e
    obtain ⟨e1, e2⟩ := e
    subst e1
    by_cases z : pk = k
    · subst z
      have : qd = n := by simpa [List.lookup] using e3
      subst this
      exact ⟨0, rfl, fun n' => by simp [repA], fun n' => by simp [repA], fun v h => by simpa [List.lookup] using h⟩
    · have zb : (k == pk) = false := beq_eq_false_iff_ne.mpr (Ne.symm z)
      obtain ⟨i, h1, h2, h3, h4⟩ := fldIx (k := k) e2 (by simpa [List.lookup, zb] using e3)
      exact ⟨i + 1, by simpa using h1, fun n' => by simp [repA, z, h2], fun n' => by simp [repA, z, h3], fun v h => by simpa [List.lookup, zb] using h4 v (by simpa using h)⟩
end
section
variable {K : PySem.W.Frag} {F H : Hp} {v : V} {o : O} {A : List Addr}
theorem set_same {α : Type} {xs : List α} {i : Nat} {x : α} (h : xs[i]? = some x) : xs.set i x = xs := by
  apply List.ext_getElem?
  intro j
  by_cases hj : i = j
  · subst hj
    rw [List.getElem?_set_self (List.getElem?_eq_some_iff.mp h).1, h]
  · rw [List.getElem?_set_ne hj]
/-- one step: the part, and the whole put together again when the part has changed in its place -/
theorem focus1 (sub : SubN F H) (r : Ro K F H v o A) {s : Stp} {n : O} (e : o.step s = some n) :
    ∃ v' A1 B A2, vStep H v s = some v' ∧ A = A1 ++ B ++ A2 ∧ Ro K F H v' n B ∧ (∀ (F' H' : Hp) (n' : O) (B' : List Addr), (∀ a u, F a = some u → F' a = some u) → (∀ a ∈ A1 ++ A2, F' a = none ∧ H' a = H a) → Ro K F' H' v' n' B' →
      Ro K F' H' v (o.put s n') (A1 ++ B' ++ A2)) ∧ ∀ H' : Hp, SubN F H' → (∀ a ∈ A1 ++ A2, H' a = H a) → vStep H' v s = some v' := by
  cases r with
  | frz h => cases s <;> simp [O.step] at e
  | tup h l =>
    cases s with
    | ix i =>
      obtain ⟨v', A1, B, A2, e1, e2, r', w⟩ := l.at (i := i) (o := n) (by simpa [O.step] using e)
      refine ⟨v', A1, B, A2, by simp [vStep, sub.at h (fun _ z => by cases z) rfl, e1], e2, r', fun F' H' n' B' f k r => ?_, fun H' sub' k => by simp [vStep, sub'.at h (fun _ z => by cases z) rfl, e1]⟩
      have := w F' H' v' n' B' f k r
      rw [set_same e1] at this
      exact .tup (f _ _ h) this
    | key k => simp [O.step] at e
    | fld f => simp [O.step] at e
  | @lst a vs os A f h l =>
    cases s with
    | ix i =>
      obtain ⟨v', A1, B, A2, e1, e2, r', w⟩ := l.at (i := i) (o := n) (by simpa [O.step] using e)
      refine ⟨v', a :: A1, B, A2, by simp [vStep, h, e1], by rw [e2]; rfl, r', fun F' H' n' B' f k r => ?_, fun H' sub' k => by simp [vStep, (k a (by simp)).trans h, e1]⟩
      have := w F' H' v' n' B' f (fun b hb => k b (List.mem_cons_of_mem _ hb)) r
      rw [set_same e1] at this
      obtain ⟨k1, k2⟩ := k a List.mem_cons_self
      exact .lst k1 (k2.trans h) this
    | key k => simp [O.step] at e
    | fld f => simp [O.step] at e
  | @dct a kvs kos A f h ek l =>
    cases s with
    | key k =>
      obtain ⟨i, h1, h2, h3, h4⟩ := keyIx (kvs := kvs) ek.eq (show getA kos k = some n by simpa [O.step] using e)
      obtain ⟨v', A1, B, A2, e1, e2, r', w⟩ := l.at (i := i) (o := n) h1
      refine ⟨v', a :: A1, B, A2, by simp [vStep, h, h4 v' e1], by rw [e2]; rfl, r', fun F' H' n' B' f k' r => ?_, fun H' sub' k' => by simp [vStep, (k' a (by simp)).trans h, h4 v' e1]⟩
      have := w F' H' v' n' B' f (fun b hb => k' b (List.mem_cons_of_mem _ hb)) r
      rw [set_same e1, ← h2 n'] at this
      obtain ⟨k1, k2⟩ := k' a List.mem_cons_self
      exact .dct k1 (k2.trans h) ⟨ek.eq.trans (h3 n').symm, by rw [h3 n']; exact ek.nd⟩ this
    | ix i => simp [O.step] at e
    | fld f => simp [O.step] at e
  | dtt f h ek l => cases s <;> simp [O.step] at e
  | @ins a dx C fs fos A f h ek l =>
    cases s with
    | fld g =>
      obtain ⟨i, h1, h2, h3, h4⟩ := fldIx (kvs := fs) ek (show fos.lookup g = some n by simpa [O.step] using e)
      obtain ⟨v', A1, B, A2, e1, e2, r', w⟩ := l.at (i := i) (o := n) h1
      refine ⟨v', a :: A1, B, A2, by simp [vStep, h, h4 v' e1], by rw [e2]; rfl, r', fun F' H' n' B' f k' r => ?_, fun H' sub' k' => by simp [vStep, (k' a (by simp)).trans h, h4 v' e1]⟩
      have := w F' H' v' n' B' f (fun b hb => k' b (List.mem_cons_of_mem _ hb)) r
      rw [set_same e1, ← h2 n'] at this
      obtain ⟨k1, k2⟩ := k' a List.mem_cons_self
      exact .ins k1 (k2.trans h) (ek.trans (h3 n').symm) this
    | ix i => simp [O.step] at e
    | key k => simp [O.step] at e
theorem focus (sub : SubN F H) : ∀ {p : List Stp} {v : V} {o n : O} {A : List Addr}, Ro K F H v o A → o.walk p = some n →
    ∃ v' A1 B A2, vWalk H v p = some v' ∧ A = A1 ++ B ++ A2 ∧ Ro K F H v' n B ∧ (∀ (F' H' : Hp) (n' : O) (B' : List Addr), (∀ a u, F a = some u → F' a = some u) → (∀ a ∈ A1 ++ A2, F' a = none ∧ H' a = H a) → Ro K F' H' v' n' B' →
      Ro K F' H' v (o.putW p n') (A1 ++ B' ++ A2)) ∧ ∀ H' : Hp, SubN F H' → (∀ a ∈ A1 ++ A2, H' a = H a) → ∀ p', p' <+: p → vWalk H' v p' = vWalk H v p'
  | [], v, o, n, A, r, e => by
    have e : o = n := by simpa [O.walk] using e
    subst e
    exact ⟨v, [], A, [], rfl, by simp, r, fun F' H' n' B' f k r => by simpa [O.putW] using r, fun H' _ _ p' hp => by rw [List.prefix_nil.mp hp]; rfl⟩
  | s :: p, v, o, n, A, r, e => by
    unfold O.walk at e
    obtain ⟨o1, e1, e2⟩ := Option.bind_eq_some_iff.mp e
    obtain ⟨v1, A1, B, A2, h1, h2, h3, h4, h5⟩ := focus1 sub r e1
    obtain ⟨v2, C1, C, C2, g1, g2, g3, g4, g5⟩ := focus sub h3 e2
    refine ⟨v2, A1 ++ C1, C, C2 ++ A2, by unfold vWalk; rw [h1]; exact g1, by rw [h2, g2]; simp only [List.append_assoc], g3, fun F' H' n' B' f k r => ?_, fun H' sub' k p' hp => ?_⟩
    rotate_left
    · have m1 : ∀ a ∈ C1 ++ C2, H' a = H a := fun a ha => k a (by
        rcases List.mem_append.mp ha with q | q
        · simp [q]
        · simp [q])
      have m2 : ∀ a ∈ A1 ++ A2, H' a = H a := fun a ha => k a (by
        rcases List.mem_append.mp ha with q | q
        · simp [q]
        · simp [q])
      cases p' with
      | nil => rfl
      | cons s' p' =>
        obtain ⟨e3, e4⟩ := List.cons_prefix_cons.mp hp
        subst e3
        unfold vWalk
        rw [h5 H' sub' m2, h1]
        exact g5 H' sub' m1 p' e4
    have m1 : ∀ a ∈ C1 ++ C2, F' a = none ∧ H' a = H a := fun a ha => k a (by
      rcases List.mem_append.mp ha with q | q
      · simp [q]
      · simp [q])
    have m2 : ∀ a ∈ A1 ++ A2, F' a = none ∧ H' a = H a := fun a ha => k a (by
      rcases List.mem_append.mp ha with q | q
      · simp [q]
      · simp [q])
    have := h4 F' H' (o1.putW p n') (C1 ++ B' ++ C2) f m2 (g4 F' H' n' B' f m1 r)
    unfold O.putW
    rw [e1]
    simpa only [List.append_assoc] using this
theorem vWalk_keep {H' : Hp} (sub : SubN F H) (sub' : SubN F H') : ∀ {p : List Stp} {v : V} {o o' : O} {A : List Addr}, Ro K F H v o A → o.walk p = some o' → (∀ a ∈ A, H' a = H a) → vWalk H' v p = vWalk H v p
  | [], _, _, _, _, _, _, _ => rfl
  | s :: p, v, o, o', A, r, e, k => by
    unfold O.walk at e
    obtain ⟨o1, e1, e2⟩ := Option.bind_eq_some_iff.mp e
    obtain ⟨v1, A1, B, A2, h1, h2, h3, _⟩ := focus1 sub r e1
    have st : vStep H' v s = vStep H v s := by
      cases r with
      | frz h => cases s <;> simp [O.step] at e1
      | tup h l => cases s <;> simp [vStep, sub.at h (fun _ z => by cases z) rfl, sub'.at h (fun _ z => by cases z) rfl]
      | lst f h l => cases s <;> simp [vStep, k _ List.mem_cons_self]
      | dct f h ek l => cases s <;> simp [vStep, k _ List.mem_cons_self]
      | dtt f h ek l => cases s <;> simp [vStep, k _ List.mem_cons_self]
      | ins f h ek l => cases s <;> simp [vStep, k _ List.mem_cons_self]
    unfold vWalk
    rw [st, h1]
    exact vWalk_keep sub sub' h3 e2 fun a ha => k a (by rw [h2]; simp [ha])
end
def sNx : Sm := fun env => some (.nx env)
def sSeq (s u : Sm) : Sm := fun env => (s env).bind fun o => match o with
  | .nx e => u e
  | o => some o
def slotOf : O → SV
  | .frz d => .frz d
  | o => .own o
/-- what has been another name for a part of slot i is known no more -/
def killA (i : Nat) (env : Env) : Env := env.map fun s => match s with
  | .als r p => if r = i then .dead else .als r p
  | s => s
def isIo : Option SV → Bool
  | some (.io _) => true
  | _ => false
def setS (env : Env) (i : Nat) (s : SV) : Option Env := if isIo env[i]? = true then none else some ((killA i env).set i s)
def sSet (i : Nat) (m : Em) : Sm := fun env => (m env).bind fun o => (setS env i (slotOf o)).map .nx
def sRet (m : Em) : Sm := fun env => (m env).map fun o => .ret o env
/-- a list of one's own is handed back -/
def sRetV (i : Nat) : Sm := fun env => match env[i]? with
  | some (.own o) => some (.ret o ((killA i env).set i .dead))
  | _ => none
def sIf (t : Tm) (s u : Sm) : Sm := fun env => (t env).bind fun b => if b = true then s env else u env
def sBk : Sm := fun env => some (.bk env)
def sCt : Sm := fun env => some (.ct env)
/-- slot i is frozen ahead of a statement -/
def fzS (i : Nat) (env : Env) : Env := match env[i]? with
  | some (.own o) => (killA i env).set i (.frz o.toD)
  | _ => env
def sFz (i : Nat) (s : Sm) : Sm := fun env => s (fzS i env)

section
variable {K : PySem.W.Frag} {T : Tab} {F H F' H' : Hp} {σ : L2.St} {env : Env} {ω : Own} {v : V} {o : O} {A : List Addr} {i : Nat}
theorem killA_get (j : Nat) : (killA i env)[j]? = (env[j]?).map fun s => match s with
    | .als r p => if r = i then .dead else .als r p
    | s => s := by
  unfold killA
  rw [List.getElem?_map]
theorem killA_len : (killA i env).length = env.length := by unfold killA; rw [List.length_map]
/-- the owner's map behind a store into slot i -/
def ωset (ω : Own) (i : Nat) (A : List Addr) : Own := fun a => if a ∈ A then some i else if ω a = some i then none else ω a
/-- the heap has changed, but not in what other slots than i own -/
structure Rc (T : Tab) (F0 H0 : Hp) (ω : Own) (i : Nat) (F H : Hp) : Prop where
  f : ∀ a u, F0 a = some u → F a = some u
  h : ∀ a u, H0 a = some u → ω a = none → (∀ ps, u ≠ .tbl ps) → H a = some u
  new : ∀ a, F0 a = none → H0 a ≠ none → ω a = none → F a = none
  trk : ∀ a, H0 a ≠ none → H a ≠ none
  tb : ∀ a ps, H0 a = some (.tbl ps) → ∃ ps', H a = some (.tbl ps')
  gl : Gl T F H
  oth : ∀ a j, ω a = some j → j ≠ i → F a = none ∧ H a = H0 a
theorem Rc.px {F0 H0 : Hp} (s : Sta K T F0 H0 σ env ω) (p : PX T F0 H0 F H) : Rc T F0 H0 ω i F H :=
  ⟨p.f, fun a u e _ n => p.h a u e n, fun a e h _ => p.new a e h, fun _ h => p.trk' h, p.trk, p.gl, fun a j e _ => by
    obtain ⟨h1, u, h2, h3⟩ := s.og a j e
    exact ⟨p.new a h1 (by rw [h2]; exact fun q => by cases q), by rw [h2, p.h a u h2 (own_ntbl h3)]⟩⟩
/-- what may stand in slot i -/
def SvOk (K : PySem.W.Frag) (F H : Hp) (v : V) (A : List Addr) : SV → Prop
  | .dead => A = []
  | .frz d => A = [] ∧ Vw K F v d
  | .own o => Ro K F H v o A ∧ A.Nodup
  | .io o => Ro K F H v o A ∧ A.Nodup
  | .als _ _ => False
/-- slot i gets the value v, told by sv -/
theorem Go.slot {F0 H0 : Hp} {sv : SV} (s : Sta K T F0 H0 σ env ω) (c : Rc T F0 H0 ω i F H) (hi : i < env.length) (hv : SvOk K F H v A sv) (hA : ∀ a ∈ A, ω a = some i ∨ H0 a = none)
    (hio : ∀ o, env[i]? = some (SV.io o) → σ[i]? = some (some v) ∧ ∃ o', sv = .io o') : Go K T F0 H0 σ env ω F H (σ.set i (some v)) ((killA i env).set i sv) (ωset ω i A) := by
  have sub0 := s.gl.sub
  have nA : ∀ a j, ω a = some j → j ≠ i → a ∉ A := fun a j e hj hA' => by
    rcases hA a hA' with q | q
    · rw [e] at q; exact hj (Option.some.inj q)
    · obtain ⟨_, u, h, _⟩ := s.og a j e
      rw [q] at h; cases h
  have wj : ∀ a j, ω a = some j → j ≠ i → ωset ω i A a = some j := fun a j e hj => by
    unfold ωset
    rw [if_neg (nA a j e hj), if_neg (fun q => by rw [e] at q; exact hj (Option.some.inj q)), e]
  have ro : ∀ {j : Nat} {w : V} {o : O} {B : List Addr}, j ≠ i → Ro K F0 H0 w o B → (∀ a ∈ B, ω a = some j) → Ro K F H w o B := fun hj r hB => r.keep c.f fun a ha => c.oth a _ (hB a ha) hj
  have g : ∀ k, k ≠ i → (σ.set i (some v))[k]? = σ[k]? := fun k hk => List.getElem?_set_ne (Ne.symm hk)
  refine ⟨⟨c.gl, by rw [List.length_set, List.length_set, killA_len]; exact s.len, fun j t e => ?_, fun a j e => ?_⟩, ⟨c.f, c.h, c.new, fun a j e => ?_, c.trk, c.tb⟩, fun j o e => ?_⟩
  · by_cases hj : j = i
    · subst hj
      rw [List.getElem?_set_self (by rw [killA_len]; exact hi)] at e
      cases e
      have hv' : (σ.set j (some v))[j]? = some (some v) := List.getElem?_set_self (by rw [s.len]; exact hi)
      cases sv with
      | dead => trivial
      | frz d => exact ⟨v, hv', hv.2⟩
      | own o => exact ⟨v, A, hv', hv.1, hv.2, fun a ha => if_pos ha⟩
      | io o => exact ⟨v, A, hv', hv.1, hv.2, fun a ha => if_pos ha⟩
      | als r p => exact hv.elim
    · rw [List.getElem?_set_ne (Ne.symm hj), killA_get] at e
      obtain ⟨t0, e0, e1⟩ := Option.map_eq_some_iff.mp e
      have h := s.slot j t0 e0
      cases t0 with
      | dead => cases e1; trivial
      | frz d =>
        cases e1
        obtain ⟨w, h1, h2⟩ := h
        exact ⟨w, (g j hj).trans h1, h2.sub (.of c.f)⟩
      | own o =>
        cases e1
        obtain ⟨w, B, h1, h2, h3, h4⟩ := h
        exact ⟨w, B, (g j hj).trans h1, ro hj h2 h4, h3, fun a ha => wj a j (h4 a ha) hj⟩
      | io o =>
        cases e1
        obtain ⟨w, B, h1, h2, h3, h4⟩ := h
        exact ⟨w, B, (g j hj).trans h1, ro hj h2 h4, h3, fun a ha => wj a j (h4 a ha) hj⟩
      | als r p =>
        have e1 : (if r = i then SV.dead else SV.als r p) = t := e1
        by_cases hr : r = i
        · rw [if_pos hr] at e1; subst e1; trivial
        · rw [if_neg hr] at e1; subst e1
          obtain ⟨w, u, o, B, h1, h2, h3, h4, h5, o', h6⟩ := h
          refine ⟨w, u, o, B, (g j hj).trans h1, (g r hr).trans h2, ?_, ro hr h4 h5, fun a ha => wj a r (h5 a ha) hr, o', h6⟩
          rw [vWalk_keep sub0 ((SubN.of c.f).trans c.gl.sub) h4 h6 fun a ha => (c.oth a r (h5 a ha) hr).2]
          exact h3
  · unfold ωset at e
    split at e
    · rename_i hA'
      cases sv with
      | dead => rw [show A = [] from hv] at hA'; cases hA'
      | frz d => rw [hv.1] at hA'; cases hA'
      | own o => exact hv.1.mem a hA'
      | io o => exact hv.1.mem a hA'
      | als r p => exact hv.elim
    · split at e
      · cases e
      · rename_i h1 h2
        have hj : j ≠ i := fun z => h2 (by rw [← z]; exact e)
        obtain ⟨h3, u, h4, h5⟩ := s.og a j e
        obtain ⟨h6, h7⟩ := c.oth a j e hj
        exact ⟨h6, u, h7.trans h4, h5⟩
  · unfold ωset at e
    split at e
    · rename_i hA'
      rcases hA a hA' with q | q
      · exact .inl (by rw [q]; exact fun z => by cases z)
      · exact .inr q
    · split at e
      · cases e
      · exact .inl (by rw [e]; exact fun z => by cases z)
  · by_cases hj : j = i
    · subst hj
      obtain ⟨h1, o', h2⟩ := hio o e
      subst h2
      exact ⟨(List.getElem?_set_self (by rw [s.len]; exact hi)).trans h1.symm, o', List.getElem?_set_self (by rw [killA_len]; exact hi)⟩
    · exact ⟨g j hj, o, by rw [List.getElem?_set_ne (Ne.symm hj), killA_get, e]; rfl⟩
end
end VL
namespace VL
open PySem PySem.Spec PyProof.Rows L2
section
variable {X : Cx} {T : Tab} {st : Stmt} {rest : List Stmt} {s u : Sm} {m : Em} {t : Tm} {e c : Expr} {pos : Pos}
theorem sb_nil : SB X T [] sNx := pssI pss_nil fun D σ H q => by
  obtain ⟨F, env, ω, sa, out, e, k⟩ := q
  cases e
  exact k F H σ ω (.refl sa)
theorem sb_cons (h1 : SS X T st s) (h2 : SB X T rest u) : SB X T (st :: rest) (sSeq s u) := pssI (pss_cons h1 h2) fun D σ H q => by
  obtain ⟨F, env, ω, sa, out, e, k⟩ := q
  obtain ⟨o1, e1, e2⟩ := Option.bind_eq_some_iff.mp e
  refine ⟨F, env, ω, sa, o1, e1, ?_⟩
  cases o1 with
  | nx e3 => exact fun F' H' σ' ω' g => ⟨F', e3, ω', g.sta, out, e2, k.go g⟩
  | bk e3 => cases e2; exact k
  | ct e3 => cases e2; exact k
  | ret o e3 => cases e2; exact k
theorem sb_one (h1 : SS X T st s) : SB X T [st] s := pss_one h1
/-- never come to -/
def sNo : Sm := fun _ => none
theorem ss_no : SS X T st sNo := psI ps_never fun D σ H q => by
  obtain ⟨F, env, ω, sa, out, e, k⟩ := q
  cases e
theorem ss_ret (h : FE X T e m) : SS X T (.Return (some e) pos) (sRet m) := psI (ps_ret h) fun D σ H q => by
  obtain ⟨F, env, ω, sa, out, e, k⟩ := q
  obtain ⟨o, e1, e2⟩ := Option.map_eq_some_iff.mp e
  subst e2
  refine ⟨F, env, ω, sa, o, e1, fun v F1 H1 A p f => k F1 H1 σ ω v A (.px sa p) ⟨f.ro, f.nd, fun a ha => ⟨?_, .inr (f.new a ha)⟩⟩⟩
  cases w : ω a with
  | none => rfl
  | some i =>
    obtain ⟨_, u, h2, _⟩ := sa.og a i w
    rw [f.new a ha] at h2; cases h2
theorem own_len {env : Env} {i : Nat} {s : SV} (h : env[i]? = some s) : i < env.length := (List.getElem?_eq_some_iff.mp h).1
theorem Rc.same {T : Tab} {K : PySem.W.Frag} {F H : Hp} {σ : L2.St} {env : Env} {ω : Own} {i : Nat} (sa : Sta K T F H σ env ω) : Rc T F H ω i F H := .px sa (.refl sa.gl)
theorem ss_retV (i : Nat) {x : Str} {p2 : Pos} (hN : X.N[i]? = some x := by rfl) (hv : Vis X.env.scope x := by first | exact Or.inl rfl | exact Or.inr (Or.inl rfl) | exact Or.inr (Or.inr rfl)) (hd : (x == ("__debug__" : Str)) = false := by decide)
    (hcd : (x == ("__classdict__" : Str)) = false := by decide) : SS X T (.Return (some (.Name x p2)) pos) (sRetV i) := psI (ps_ret (pe_var hN hv hd hcd)) fun D σ H q => by
  obtain ⟨F, env, ω, sa, out, e, k⟩ := q
  unfold sRetV at e
  split at e
  · rename_i o q
    cases e
    obtain ⟨v, A, h1, h2, h3, h4⟩ := sa.slot i _ q
    refine ⟨v, h1, ?_⟩
    have g := Go.slot (K := X.K) (v := v) (A := []) (sv := .dead) sa (Rc.same sa) (own_len q) rfl (fun _ z => by cases z) (fun o' e => by rw [q] at e; cases e)
    rw [set_same h1] at g
    refine k F H σ _ v A g ⟨h2, h3, fun a ha => ⟨?_, .inl (by rw [h4 a ha]; exact fun z => by cases z)⟩⟩
    unfold ωset
    rw [if_neg (by simp), if_pos (h4 a ha)]
  · cases e
theorem ss_if {a b : List Stmt} (hc : BT X T c t) (ha : SB X T a s) (hb : SB X T b u) : SS X T (.If c a b pos) (sIf t s u) := psI (ps_if hc ha hb) fun D σ H q => by
  obtain ⟨F, env, ω, sa, out, e, k⟩ := q
  obtain ⟨x, e1, e⟩ := Option.bind_eq_some_iff.mp e
  refine ⟨F, env, ω, sa, x, e1, fun F1 H1 p => ?_⟩
  cases x with
  | true => rw [if_pos rfl] at e ⊢; exact ⟨F1, env, ω, sa.px p, out, e, k.go (.px sa p)⟩
  | false => rw [if_neg Bool.false_ne_true] at e ⊢; exact ⟨F1, env, ω, sa.px p, out, e, k.go (.px sa p)⟩
theorem setS_of {env e' : Env} {i : Nat} {sv : SV} (h : setS env i sv = some e') : isIo env[i]? = false ∧ e' = (killA i env).set i sv := by
  unfold setS at h
  split at h
  · cases h
  · rename_i q
    cases h
    exact ⟨by simpa using q, rfl⟩
theorem not_io {env : Env} {i : Nat} (h : isIo env[i]? = false) (o : O) : env[i]? ≠ some (SV.io o) := fun e => by
  rw [e] at h; cases h
theorem slotOf_ok {K : PySem.W.Frag} {F H : Hp} {v : V} {o : O} {A : List Addr} (r : Ro K F H v o A) (n : A.Nodup) : SvOk K F H v A (slotOf o) := by
  cases r with
  | frz h => exact ⟨rfl, h⟩
  | tup h l => exact ⟨.tup h l, n⟩
  | lst f h l => exact ⟨.lst f h l, n⟩
  | dct f h e l => exact ⟨.dct f h e l, n⟩
  | dtt f h e l => exact ⟨.dtt f h e l, n⟩
  | ins f h e l => exact ⟨.ins f h e l, n⟩
/-- a store of what is new -/
theorem Go.put {K : PySem.W.Frag} {F H F1 H1 : Hp} {σ : L2.St} {env : Env} {ω : Own} {v : V} {o : O} {A : List Addr} {i : Nat} {e' : Env} (sa : Sta K T F H σ env ω) (p : PX T F H F1 H1) (f : Fresh K H F1 H1 v o A) (hi : i < env.length) (e : setS env i (slotOf o) = some e') :
    Go K T F H σ env ω F1 H1 (σ.set i (some v)) e' (ωset ω i A) := by
  obtain ⟨h1, h2⟩ := setS_of e
  subst h2
  exact Go.slot sa (.px sa p) hi (slotOf_ok f.ro f.nd) (fun a ha => .inr (f.new a ha)) fun o e => absurd e (not_io h1 o)
theorem ss_set {i : Nat} {x : Str} {pos' : Pos} (hN : X.N.Nodup) (hi : X.N[i]? = some x) (hx : Loc X.env.scope x) (he : FE X T e m) (hs : swapsWith e (some (.Name x pos')) pos.line X.env = pure false := by rfl) (hf : X.fn x = true ∨ X.env.scope.names.lookup x = some .local := by first | exact .inl rfl | exact .inr rfl | assumption) :
    SS X T (.Assign [.Name x pos'] e pos) (sSet i m) := psI (ps_set hN hi hx he hs hf) fun D σ H q => by
  obtain ⟨F, env, ω, sa, out, e, k⟩ := q
  obtain ⟨o, e1, e2⟩ := Option.bind_eq_some_iff.mp e
  obtain ⟨e', e3, e4⟩ := Option.map_eq_some_iff.mp e2
  subst e4
  by_cases hl : i < env.length
  · exact ⟨F, env, ω, sa, o, e1, fun v F1 H1 A p f => k F1 H1 _ _ (Go.put sa p f hl e3)⟩
  · -- no such slot: nothing is stored
    refine ⟨F, env, ω, sa, o, e1, fun v F1 H1 A p f => ?_⟩
    obtain ⟨h1, h2⟩ := setS_of e3
    have h3 : σ.set i (some v) = σ := List.set_eq_of_length_le (by rw [sa.len]; omega)
    have h4 : (killA i env).set i (slotOf o) = killA i env := List.set_eq_of_length_le (by rw [killA_len]; omega)
    have h5 : killA i env = env := by
      apply List.ext_getElem?
      intro j
      rw [killA_get]
      cases q : env[j]? with
      | none => rfl
      | some t =>
        cases t with
        | als r p' =>
          have := sa.slot j _ q
          obtain ⟨_, w, _, _, _, h, _⟩ := this
          have hr : r < env.length := by rw [← sa.len]; exact (List.getElem?_eq_some_iff.mp h).1
          have : r ≠ i := by omega
          simp [this]
        | _ => rfl
    rw [h2, h4, h5] at k
    show D.nx (σ.set i (some v)) H1
    rw [h3]
    exact k F1 H1 σ ω (.px sa p)
/-- slot i is frozen ahead of it -/
theorem fz_go {K : PySem.W.Frag} {F H : Hp} {σ : L2.St} {env : Env} {ω : Own} (sa : Sta K T F H σ env ω) (i : Nat) : ∃ F' ω', Go K T F H σ env ω F' H σ (fzS i env) ω' := by
  unfold fzS
  split
  · rename_i o q
    obtain ⟨v, A, h1, h2, h3, h4⟩ := sa.slot i _ q
    have hf : Fresh K H F H v o A → True := fun _ => trivial
    have c : Rc T F H ω i (fz F H A) H := by
      refine ⟨fun a u e => ?_, fun a u e _ _ => e, fun a e h w => ?_, fun _ h => h, fun a ps e => ⟨ps, e⟩, fz_gl sa.gl h2, fun a j e hj => ?_⟩
      · rw [fz_out fun z => by rw [(h2.mem a z).1] at e; cases e]
        exact e
      · rw [fz_out fun z => by rw [h4 a z] at w; cases w]
        exact e
      · have : a ∉ A := fun z => by rw [h4 a z] at e; exact hj (Option.some.inj e).symm
        rw [fz_out this]
        exact ⟨(sa.og a j e).1, rfl⟩
    have hv : Vw K (fz F H A) v o.toD := by
      refine h2.fzn (fun a u e => ?_) fun a h => fz_in h
      rw [fz_out fun z => by rw [(h2.mem a z).1] at e; cases e]
      exact e
    have g := Go.slot (K := K) (v := v) (A := []) (sv := .frz o.toD) sa c (own_len q) ⟨rfl, hv⟩ (fun _ z => by cases z) (fun o' e => by rw [q] at e; cases e)
    rw [set_same h1] at g
    exact ⟨_, _, g⟩
  · exact ⟨F, ω, .refl sa⟩
theorem ss_fz (i : Nat) (h : SS X T st s) : SS X T st (sFz i s) := psI h fun D σ H q => by
  obtain ⟨F, env, ω, sa, out, e, k⟩ := q
  obtain ⟨F', ω', g⟩ := fz_go sa i
  exact ⟨F', fzS i env, ω', g.sta, out, e, k.go g⟩
abbrev Gm := O → Env → Option Env
/-- stored in these slots alone -/
def Sl (ts : List Nat) (σ σ' : L2.St) : Prop := (∀ j : Nat, j ∉ ts → σ'[j]? = σ[j]?) ∧ σ'.length = σ.length
def tG (K : PySem.W.Frag) (T : Tab) (ts : List Nat) (g : Gm) : TG := fun v σ H Q => ∃ F env ω o, Sta K T F H σ env ω ∧ VwO K F H v o ∧ ∃ e, g o env = some e ∧ ∀ σ' ω', Go K T F H σ env ω F H σ' e ω' → Sl ts σ σ' → Q σ' H
def GS (X : Cx) (T : Tab) (tg : Expr) (ts : List Nat) (g : Gm) : Prop := PG X tg (tG X.K T ts g)
theorem pgI {tg : Expr} {t t' : TG} (h : PG X tg t) (w : ∀ v σ H Q, t' v σ H Q → t v σ H Q) : PG X tg t' := ⟨fun pins s σ H v u Q I r q => h.run pins s σ H v u Q I r (w v σ H Q q)⟩
theorem pgsI {tg : List Expr} {t t' : TGs} (h : PGs X tg t) (w : ∀ v σ H Q, t' v σ H Q → t v σ H Q) : PGs X tg t' := ⟨fun pins s σ H v u Q I r q => h.run pins s σ H v u Q I r (w v σ H Q q)⟩
def gNm (i : Nat) : Gm := fun o env => (asFrz o).bind fun d => if i < env.length then setS env i (.frz d) else none
theorem gs_name {i : Nat} {x : Str} (hN : X.N.Nodup) (hi : X.N[i]? = some x) (hx : Loc X.env.scope x) (hf : X.fn x = true ∨ X.env.scope.names.lookup x = some .local := by first | exact .inl rfl | exact .inr rfl | assumption) : GS X T (.Name x pos) [i] (gNm i) :=
  pgI (pg_name hN hi hx hf) fun v σ H Q q => by
    obtain ⟨F, env, ω, o, sa, hv, e, h, k⟩ := q
    obtain ⟨d, e1, e2⟩ := Option.bind_eq_some_iff.mp h
    split at e2
    · have f : Fresh X.K H F H v (.frz d) [] := .frz (hv.asFrz sa.gl e1)
      exact k _ _ (Go.put sa (.refl sa.gl) f (by assumption) e2) ⟨fun j hj => List.getElem?_set_ne fun z => hj (by simp [z]), List.length_set ..⟩
    · cases e2
abbrev Gms := List D → Env → Option Env
def tGs (K : PySem.W.Frag) (T : Tab) (ts : List Nat) (g : Gms) : TGs := fun vs σ H Q => ∃ F env ω ds, Sta K T F H σ env ω ∧ VwL K F vs ds ∧ ∃ e, g ds env = some e ∧ ∀ σ' ω', Go K T F H σ env ω F H σ' e ω' → Sl ts σ σ' → Q σ' H
def GSs (X : Cx) (T : Tab) (tg : List Expr) (ts : List Nat) (g : Gms) : Prop := PGs X tg (tGs X.K T ts g)
def gNl : Gms := fun ds env => match ds with
  | [] => some env
  | _ => none
def gCn (g : Gm) (r : Gms) : Gms := fun ds env => match ds with
  | d :: ds => (g (.frz d) env).bind fun e => r ds e
  | _ => none
theorem gss_nil : GSs X T [] [] gNl := pgsI pgs_nil fun vs σ H Q q => by
  obtain ⟨F, env, ω, ds, sa, hv, e, h, k⟩ := q
  unfold gNl at h
  split at h
  · cases h
    cases hv
    exact ⟨rfl, k σ ω (.refl sa) ⟨fun _ _ => rfl, rfl⟩⟩
  · cases h
theorem gss_cons {es : List Expr} {g : Gm} {r : Gms} {t1 t2 : List Nat} (h1 : GS X T e t1 g) (h2 : GSs X T es t2 r) (hs : (assignEach (e :: es) X.env).map (·.2) = assign e X.env :: (assignEach es X.env).map (·.2) := by rfl) : GSs X T (e :: es) (t1 ++ t2) (gCn g r) :=
  pgsI (pgs_cons h1 h2 hs) fun vs σ H Q q => by
    obtain ⟨F, env, ω, ds, sa, hv, e, h, k⟩ := q
    unfold gCn at h
    split at h
    · obtain ⟨e', h3, h4⟩ := Option.bind_eq_some_iff.mp h
      cases hv with
      | cons v1 vr =>
        refine ⟨_, _, rfl, F, env, ω, _, sa, .frz v1, e', h3, fun σ1 ω1 g1 n1 => ?_⟩
        exact ⟨F, e', ω1, _, g1.sta, vr, e, h4, fun σ2 ω2 g2 n2 => k σ2 ω2 (g1.trans g2) ⟨fun j hj => (n2.1 j fun z => hj (List.mem_append_right _ z)).trans (n1.1 j fun z => hj (List.mem_append_left _ z)), n2.2.trans n1.2⟩⟩
    · cases h
def gTp (n : Nat) (r : Gms) : Gm := fun o env => (o.titems).bind fun ds => if ds.length = n then r ds env else none
theorem gs_tup {es : List Expr} {k : Nat} {r : Gms} {n : Nat} {ts : List Nat} (hc : X.calm = true) (h : GSs X T es ts r)
    (hn : (assignEach es X.env).length = n := by rfl) (hst : (assignEach es X.env).findIdx? (·.1) = none := by rfl) : GS X T (.Tuple es k pos) ts (gTp n r) :=
  pgI (pg_tup hc h hn hst) fun v σ H Q q => by
    obtain ⟨F, env, ω, o, sa, hv, e, h, k⟩ := q
    obtain ⟨ds, h1, h2⟩ := Option.bind_eq_some_iff.mp h
    split at h2
    · obtain ⟨a, vs, e1, _, e2, l⟩ := hv.titems sa.gl h1
      exact ⟨a, vs, e1, .of e2, by rw [l.length]; assumption, F, env, ω, ds, sa, l, e, h2, k⟩
    · cases h2
def sAsg (m : Em) (g : Gm) : Sm := fun env => (m env).bind fun o => (g o env).map .nx
theorem ss_asg {tg : Expr} {g : Gm} {ts : List Nat} (he : BE X T e m) (hg : GS X T tg ts g) (hs : swapsWithSole [tg] e pos.line X.env = pure false := by rfl) (hw : swappedStores [tg] e X.env = pure none := by rfl)
    (h1 : (assignEach [tg] X.env).map (·.2) = [assign tg X.env] := by rfl) : SS X T (.Assign [tg] e pos) (sAsg m g) := psI (ps_asg he hg hs hw h1) fun D σ H q => by
  obtain ⟨F, env, ω, sa, out, e, k⟩ := q
  obtain ⟨o, e1, e2⟩ := Option.bind_eq_some_iff.mp e
  obtain ⟨e', e3, e4⟩ := Option.map_eq_some_iff.mp e2
  subst e4
  refine ⟨F, env, ω, sa, o, e1, fun v F1 H1 p h => ⟨F1, env, ω, o, sa.px p, h, e', e3, fun σ' ω' g _ => ?_⟩⟩
  exact k F1 H1 σ' ω' ((Go.px sa p).trans g)
end
/-- J walks the data ds, which stand in F -/
structure Wk (K : PySem.W.Frag) (F : Hp) (G : Hp → Prop) (J : It) (ds : List D) : Prop where
  go : ∀ i H, i < ds.length → G H → J.go i H
  stop : ∀ H, G H → J.stop ds.length H
  yld : ∀ i H x H', i < ds.length → G H → J.yld i H x H' → ∃ d, ds[i]? = some d ∧
    ((H' = H ∧ Vw K F x d) ∨ ∃ p vs es, H p = none ∧ H' = upd H p (.tup vs) ∧ x = .ref p ∧ d = .tup es ∧ VwL K F vs es)
theorem Wk.turn {K : PySem.W.Frag} {T : Tab} {F F1 H : Hp} {G : Hp → Prop} {J : It} {ds : List D} (w : Wk K F G J ds) (g : Gl T F1 H) (f : ∀ a u, F a = some u → F1 a = some u) (hG : G H) {i : Nat} {x : V} {H' : Hp} (hi : i < ds.length) (y : J.yld i H x H') :
    ∃ d F2, ds[i]? = some d ∧ PX T F1 H F2 H' ∧ Vw K F2 x d := by
  obtain ⟨d, h1, h2⟩ := w.yld i H x H' hi hG y
  rcases h2 with ⟨h2, h3⟩ | ⟨p, vs, es, h2, h3, h4, h5, h6⟩
  · subst h2
    exact ⟨d, F1, h1, .refl g, h3.sub (.of f)⟩
  · subst h3 h4 h5
    obtain ⟨px, hv⟩ := new_tup g h2 (h6.sub (.of f))
    exact ⟨_, _, h1, px, hv⟩
abbrev Im := Env → Option (List D)
def tI (K : PySem.W.Frag) (T : Tab) (it : Im) : TI := fun σ H R => ∃ F env ω, Sta K T F H σ env ω ∧ ∃ ds, it env = some ds ∧ ∀ J F' H', PX T F H F' H' → Wk K F' (SubN F') J ds → R J H'
def IT (X : Cx) (T : Tab) (tg iter : Expr) (it : Im) : Prop := PI X tg iter (tI X.K T it)
theorem piI {X : Cx} {tg iter : Expr} {t t' : TI} (h : PI X tg iter t) (w : ∀ σ H R, t' σ H R → t σ H R) : PI X tg iter t' := ⟨fun pins s σ H R I q => h.run pins s σ H R I (w σ H R q)⟩
theorem piOr {X : Cx} {tg iter : Expr} {t t' : TI} (h : PI X tg iter t) (h' : PI X tg iter t') : PI X tg iter (fun σ H R => t σ H R ∨ t' σ H R) := ⟨fun pins s σ H R I q => q.elim (h.run pins s σ H R I) (h'.run pins s σ H R I)⟩
/-- a loop over given items -/
def loop (g : Gm) (s : Sm) : List D → Env → Option Out
  | [], env => some (.nx env)
  | d :: ds, env => (g (.frz d) env).bind fun e => (s e).bind fun o => match o with
    | .nx e' => loop g s ds e'
    | .ct e' => loop g s ds e'
    | .bk e' => some (.nx e')
    | .ret o e' => some (.ret o e')
def sFor (it : Im) (g : Gm) (s : Sm) : Sm := fun env => (it env).bind fun ds => loop g s ds env
section
variable {X : Cx} {T : Tab} {s : Sm} {g : Gm} {it : Im} {t : Tm} {c tg iter : Expr} {body : List Stmt} {pos : Pos} {ts : List Nat}
theorem ss_for (hp : PassesOwn (model X.prog X.w) X.A X.env X.xe) (hc : X.calm = true) (hi : IT X T tg iter it) (hg : GS X T tg ts g) (hb : SB X T body s) (hs : ∀ x, foldedSetIterable iter X.env x = pure x := by intro _; rfl) : SS X T (.For tg iter body [] pos) (sFor it g s) :=
  psI (ps_for hp hc hi hg hb hs) fun D σ H q => by
    obtain ⟨F, env, ω, sa, out, e, k⟩ := q
    obtain ⟨ds, e1, e2⟩ := Option.bind_eq_some_iff.mp e
    refine ⟨F, env, ω, sa, ds, e1, fun J F0 H0 p0 w => ?_⟩
    have k0 := k.go (.px sa p0)
    have sa0 := sa.px p0
    refine ⟨fun i m σ' H' => m = ds.length - i ∧ i ≤ ds.length ∧ ∃ F' env' ω', Go X.K T F0 H0 σ env ω F' H' σ' env' ω' ∧ loop g s (ds.drop i) env' = some out, ⟨ds.length, by simp, Nat.zero_le _, F0, env, ω, .refl sa0, e2⟩, ?_⟩
    rintro i m σ1 H1 ⟨rfl, hi', F1, env1, ω1, g1, l1⟩
    by_cases hlt : i < ds.length
    · refine .inr ⟨w.go i H1 hlt ((SubN.of g1.ex.f).trans g1.sta.gl.sub), fun σ2 H2 => i + 1 ≤ ds.length ∧ ∃ F' env' ω', Go X.K T F0 H0 σ env ω F' H2 σ2 env' ω' ∧ loop g s (ds.drop (i + 1)) env' = some out,
        fun σ2 H2 ⟨h1, h2⟩ => ⟨ds.length - (i + 1), by omega, rfl, h1, h2⟩, fun x H2 y => ?_⟩
      obtain ⟨d, F2, h1, p2, hv⟩ := w.turn g1.sta.gl g1.ex.f ((SubN.of g1.ex.f).trans g1.sta.gl.sub) hlt y
      have hd : ds.drop i = d :: ds.drop (i + 1) := by
        rw [List.drop_eq_getElem_cons hlt]
        congr 1
        exact (List.getElem?_eq_some_iff.mp h1).2
      rw [hd] at l1
      obtain ⟨e3, l2, l3⟩ := Option.bind_eq_some_iff.mp l1
      obtain ⟨o4, l4, l5⟩ := Option.bind_eq_some_iff.mp l3
      have g2 := g1.trans (.px g1.sta p2)
      refine ⟨F2, env1, ω1, .frz d, g2.sta, .frz hv, e3, l2, fun σ3 ω3 g3 _ => ?_⟩
      have g4 := g2.trans g3
      refine ⟨F2, e3, ω3, g3.sta, o4, l4, ?_⟩
      cases o4 with
      | nx e5 => exact fun F5 H5 σ5 ω5 g5 => ⟨hlt, F5, e5, ω5, g4.trans g5, l5⟩
      | ct e5 => exact fun F5 H5 σ5 ω5 g5 => ⟨hlt, F5, e5, ω5, g4.trans g5, l5⟩
      | bk e5 =>
        cases l5
        exact fun F5 H5 σ5 ω5 g5 => k0 F5 H5 σ5 ω5 (g4.trans g5)
      | ret o e5 =>
        cases l5
        exact fun F5 H5 σ5 ω5 v A g5 r => k0 F5 H5 σ5 ω5 v A (g4.trans g5) (r.back g4.ex)
    · have e : i = ds.length := by omega
      subst e
      rw [List.drop_length] at l1
      cases l1
      exact .inl ⟨w.stop H1 ((SubN.of g1.ex.f).trans g1.sta.gl.sub), k0 F1 H1 σ1 ω1 g1⟩
end
end VL
namespace VL
open PySem PySem.Spec PyProof.Rows L2
def tC' (K : PySem.W.Frag) (T : Tab) (it : Im) : TI := fun σ H R => ∃ F env ω, Sta K T F H σ env ω ∧ ∃ ds, it env = some ds ∧ ∀ J F' H', PX T F H F' H' → Wk K F' (fun G => SubN F' G ∧ LamX.ExtN H' G) J ds → R J H'
def IC (X : Cx) (T : Tab) (tg iter : Expr) (it : Im) : Prop := PI X tg iter (tC' X.K T it)
theorem Wk.mono {K : PySem.W.Frag} {F : Hp} {G G' : Hp → Prop} {J : It} {ds : List D} (w : Wk K F G J ds) (h : ∀ H, G' H → G H) : Wk K F G' J ds :=
  ⟨fun i H hi g => w.go i H hi (h H g), fun H g => w.stop H (h H g), fun i H x H' hi g => w.yld i H x H' hi (h H g)⟩
theorem ic_it {X : Cx} {T : Tab} {tg iter : Expr} {it : Im} (h : IT X T tg iter it) : IC X T tg iter it := piI h fun σ H R q => by
  obtain ⟨F, env, ω, sa, ds, e, k⟩ := q
  exact ⟨F, env, ω, sa, ds, e, fun J F' H' p w => k J F' H' p (w.mono fun _ h => h.1)⟩

/-- the items of what is frozen -/
def seqF : O → Option (List D)
  | .frz (.lst ds) => some ds
  | .frz (.scr ns) => some (ns.map D.int)
  | _ => none
/-- .. of what is one's own too -/
def iL (m : Em) : Im := fun env => (m env).bind seqF
def iLc (m : Em) : Im := fun env => (m env).bind O.litems
def iT (m : Em) : Im := fun env => (m env).bind O.titems
def rngD (lo : Int) (n : Nat) : List D := (List.range n).map fun (i : Nat) => D.int (lo + i)
def iR1 (m : Es) : Im := fun env => (m env).bind fun os => match os.map O.toD with
  | [.int j] => if -(2 ^ 62) ≤ j ∧ j < 2 ^ 62 then some (rngD 0 j.toNat) else none
  | _ => none
def enumD (ds : List D) : List D := (ds.mapIdx fun (i : Nat) d => D.tup [.int i, d])
def iE (m : Es) : Im := fun env => (m env).bind fun os => match os with
  | [o] => (seqF o).map enumD
  | _ => none
def iEc (m : Es) : Im := fun env => (m env).bind fun os => match os with
  | [o] => (o.litems).map enumD
  | _ => none
def zipD (xs ys : List D) : List D := List.zipWith (fun x y => D.tup [x, y]) xs ys
def iZ (m : Es) : Im := fun env => (m env).bind fun os => match os with
  | [o, q] => (seqF o).bind fun xs => (seqF q).map fun ys => zipD xs ys
  | _ => none
def iS (m : Em) : Im := fun env => (m env).bind fun o => match o.toD with
  | .str z => some (z.cps.toList.map fun c => .str ⟨#[c]⟩)
  | _ => none
section
variable {K : PySem.W.Frag} {T : Tab} {F H : Hp} {v : V} {o : O}
theorem VwO.seqF (h : VwO K F H v o) {ds : List D} (e : VL.seqF o = some ds) : ∃ a vs, v = .ref a ∧ (∀ G, SubN F G → SqL K G a vs) ∧ VwL K F vs ds := by
  obtain ⟨A, r⟩ := h
  unfold VL.seqF at e
  split at e
  · cases e
    cases r with
    | frz r => cases r with
      | lst h l => exact ⟨_, _, rfl, fun G s => .of (s.at h (fun _ z => by cases z) rfl), l⟩
  · cases e
    cases r with
    | frz r => cases r with
      | scr h => exact ⟨_, _, rfl, fun G s => s.sql h, VwL.of_ints _⟩
  · cases e
/-- a list of one's own stays where nothing but growth happens -/
theorem VwO.lc (h : VwO K F H v o) (g : Gl T F H) {ds : List D} (e : o.litems = some ds) : ∃ a vs, v = .ref a ∧ (∀ G, SubN F G ∧ LamX.ExtN H G → SqL K G a vs) ∧ VwL K F vs ds := by
  obtain ⟨A, r⟩ := h
  unfold O.litems at e
  split at e
  · cases e
    cases r with
    | frz r => cases r with
      | lst h l => exact ⟨_, _, rfl, fun G s => .of (s.1.at h (fun _ z => by cases z) rfl), l⟩
  · cases e
    cases r with
    | frz r => cases r with
      | scr h => exact ⟨_, _, rfl, fun G s => s.1.sql h, VwL.of_ints _⟩
  · cases r with
    | lst f h l => exact ⟨_, _, rfl, fun G s => .of (s.2 _ _ h fun _ z => by cases z), ro_mapM g l e⟩
  · cases e
theorem wk_list {G : Hp → Prop} {a : Addr} {vs : List V} {ds : List D} (hs : ∀ H, G H → SqL K H a vs) (l : VwL K F vs ds) : Wk K F G (Itl K a) ds := by
  have w := walk_list (K := K) (a := a) (xs := vs)
  refine ⟨fun i H hi g => w.goes i H (by rw [l.length]; exact hi) (hs H g), fun H g => by rw [← l.length]; exact w.stops H (hs H g), fun i H x H' hi g y => ?_⟩
  obtain ⟨h1, h2⟩ := w.yields i H x H' (by rw [l.length]; exact hi) (hs H g) y
  obtain ⟨d, h3, h4⟩ := l.get' h2
  exact ⟨d, h3, .inl ⟨h1, h4⟩⟩
theorem wk_tup {a : Addr} {vs : List V} {ds : List D} (hF : F a = some (.tup vs)) (l : VwL K F vs ds) : Wk K F (SubN F) (Itt K a) ds := by
  have w := walk_tup (K := K) (a := a) (xs := vs)
  have hs : ∀ H, SubN F H → SqT K H a vs := fun H s => .of (s.at hF (fun _ z => by cases z) rfl)
  refine ⟨fun i H hi g => w.goes i H (by rw [l.length]; exact hi) (hs H g), fun H g => by rw [← l.length]; exact w.stops H (hs H g), fun i H x H' hi g y => ?_⟩
  obtain ⟨h1, h2⟩ := w.yields i H x H' (by rw [l.length]; exact hi) (hs H g) y
  obtain ⟨d, h3, h4⟩ := l.get' h2
  exact ⟨d, h3, .inl ⟨h1, h4⟩⟩
theorem wk_range {lo : Int} {n : Nat} : Wk K F (SubN F) (Itr lo n) (rngD lo n) := by
  have w := walk_range (lo := lo) (n := n)
  have hl : (rngD lo n).length = n := by simp [rngD]
  refine ⟨fun i H hi _ => w.goes i H (by rw [← hl]; exact hi) trivial, fun H _ => by rw [hl]; exact w.stops H trivial, fun i H x H' hi _ y => ?_⟩
  rw [hl] at hi
  obtain ⟨h1, h2⟩ := w.yields i H x H' hi trivial y
  refine ⟨.int (lo + (i : Nat)), ?_, .inl ⟨h1, by rw [h2]; exact .int _⟩⟩
  unfold rngD
  rw [List.getElem?_map, List.getElem?_range hi]
  rfl
theorem wk_enum {G : Hp → Prop} {a : Addr} {vs : List V} {ds : List D} (hs : ∀ H, G H → SqL K H a vs) (l : VwL K F vs ds) : Wk K F G (Ite K a) (enumD ds) := by
  have w := walk_enum (K := K) (a := a) (xs := vs)
  have hl : (enumD ds).length = vs.length := by simp [enumD, l.length]
  refine ⟨fun i H hi g => w.goes i H (by rw [← hl]; exact hi) (hs H g), fun H g => by rw [hl]; exact w.stops H (hs H g), fun i H x H' hi g y => ?_⟩
  rw [hl] at hi
  obtain ⟨p, x1, x2, h1, h2, h3, h4, h5⟩ := w.yields i H x H' hi (hs H g) y
  obtain ⟨d, h6, h7⟩ := l.get' h5
  cases h4
  refine ⟨.tup [.int (i : Nat), d], ?_, .inr ⟨p, _, _, h2, h3, h1, rfl, .cons (.int _) (.cons h7 .nil)⟩⟩
  unfold enumD
  rw [List.getElem?_mapIdx, h6]
  rfl
theorem wk_str {z : Str} : Wk K F (SubN F) (Its z) (z.cps.toList.map fun c => D.str ⟨#[c]⟩) := by
  have w := walk_str (z := z)
  have hl : (z.cps.toList.map fun c => D.str ⟨#[c]⟩).length = z.cps.size := by simp
  refine ⟨fun i H hi _ => w.goes i H (by rw [← hl]; exact hi) trivial, fun H _ => by rw [hl]; exact w.stops H trivial, fun i H x H' hi _ y => ?_⟩
  rw [hl] at hi
  obtain ⟨h1, c, h2, h3⟩ := w.yields i H x H' hi trivial y
  refine ⟨.str ⟨#[c]⟩, ?_, .inl ⟨h1, by rw [h3]; exact .str _⟩⟩
  rw [List.getElem?_map, Array.getElem?_toList, h2]
  rfl
end
section
variable {X : Cx} {T : Tab} {tg e e2 : Expr} {es : List Expr} {m m2 : Em} {ms : Es} {p pos tpos : Pos} {elts : List Expr} {kk : Nat}
theorem it_l (h : BE X T e m) : IT X T tg e (iL m) := piI (pi_list h) fun σ H R q => by
  obtain ⟨F, env, ω, sa, ds, e, k⟩ := q
  obtain ⟨o, e1, e2⟩ := Option.bind_eq_some_iff.mp e
  refine ⟨F, env, ω, sa, o, e1, fun v F1 H1 p h => ?_⟩
  obtain ⟨a, vs, rfl, hs, l⟩ := h.seqF e2
  exact ⟨a, rfl, ⟨vs, hs _ p.gl.sub⟩, k _ F1 H1 p (wk_list hs l)⟩
theorem ic_l (h : BE X T e m) : IC X T tg e (iLc m) := piI (pi_list h) fun σ H R q => by
  obtain ⟨F, env, ω, sa, ds, e, k⟩ := q
  obtain ⟨o, e1, e2⟩ := Option.bind_eq_some_iff.mp e
  refine ⟨F, env, ω, sa, o, e1, fun v F1 H1 p h => ?_⟩
  obtain ⟨a, vs, rfl, hs, l⟩ := h.lc p.gl e2
  exact ⟨a, rfl, ⟨vs, hs _ ⟨p.gl.sub, .refl _⟩⟩, k _ F1 H1 p (wk_list hs l)⟩
theorem it_t (h : BE X T e m) : IT X T tg e (iT m) := piI (pi_tup h) fun σ H R q => by
  obtain ⟨F, env, ω, sa, ds, e, k⟩ := q
  obtain ⟨o, e1, e2⟩ := Option.bind_eq_some_iff.mp e
  refine ⟨F, env, ω, sa, o, e1, fun v F1 H1 p h => ?_⟩
  obtain ⟨a, vs, rfl, hF, hH, l⟩ := h.titems p.gl e2
  exact ⟨a, rfl, ⟨vs, .of hH⟩, k _ F1 H1 p (wk_tup hF l)⟩
/-- a list or a tuple -/
def iLT (m : Em) : Im := fun env => (iL m env).or (iT m env)
def iLTc (m : Em) : Im := fun env => (iLc m env).or (iT m env)
theorem it_lt (h : BE X T e m) : IT X T tg e (iLT m) := piI (piOr (it_l (tg := tg) h) (it_t h)) fun σ H R q => by
  obtain ⟨F, env, ω, sa, ds, e, k⟩ := q
  have e : (iL m env).or (iT m env) = some ds := e
  cases z : iL m env with
  | some x =>
    rw [z] at e
    have e : x = ds := by simpa using e
    subst e
    exact .inl ⟨F, env, ω, sa, x, z, k⟩
  | none =>
    rw [z] at e
    exact .inr ⟨F, env, ω, sa, ds, by simpa using e, k⟩
theorem ic_lt (h : BE X T e m) : IC X T tg e (iLTc m) := piI (piOr (ic_l (tg := tg) h) (ic_it (it_t h))) fun σ H R q => by
  obtain ⟨F, env, ω, sa, ds, e, k⟩ := q
  have e : (iLc m env).or (iT m env) = some ds := e
  cases z : iLc m env with
  | some x =>
    rw [z] at e
    have e : x = ds := by simpa using e
    subst e
    exact .inl ⟨F, env, ω, sa, x, z, k⟩
  | none =>
    rw [z] at e
    exact .inr ⟨F, env, ω, sa, ds, by simpa using e, k⟩
theorem prd_vw {K : PySem.W.Frag} {F H : Hp} (g : Gl T F H) : ∀ {vs : List V} {os : List O}, Paired (VwO K F H) vs os → VwL K H vs (os.map O.toD)
  | _, _, .nil => .nil
  | _, _, .cons h t => .cons (h.vw g) (prd_vw g t)
theorem it_r1 (hg : L2.Gl X "range") (hm : X.mg "range" = none) (ha : BA X T [e] ms) (hs : starEach [e] X.env = [(false, eval e X.env)] := by rfl) : IT X T tg (.Call (.Name "range" p) [e] [] pos) (iR1 ms) :=
  piI (pi_range1 hg hm ha hs) fun σ H R q => by
    obtain ⟨F, env, ω, sa, ds, e, k⟩ := q
    obtain ⟨os, e1, e2⟩ := Option.bind_eq_some_iff.mp e
    refine ⟨F, env, ω, sa, os, e1, fun vs F1 H1 p h => ?_⟩
    have hv := prd_vw p.gl h
    split at e2
    · rename_i j z
      rw [z] at hv
      split at e2
      · rename_i c
        cases e2
        cases hv with
        | cons h1 t => cases h1; cases t; exact ⟨j, rfl, c.1, c.2, k _ F1 H1 p wk_range⟩
      · cases e2
    · cases e2
theorem it_enum (hg : L2.Gl X "enumerate") (hm : X.mg "enumerate" = none) (ha : BA X T [e] ms) (hs : starEach [e] X.env = [(false, eval e X.env)] := by rfl) : IT X T (.Tuple elts kk tpos) (.Call (.Name "enumerate" p) [e] [] pos) (iE ms) :=
  piI (pi_enum hg hm ha hs) fun σ H R q => by
    obtain ⟨F, env, ω, sa, ds, e, k⟩ := q
    obtain ⟨os, e1, e2⟩ := Option.bind_eq_some_iff.mp e
    refine ⟨F, env, ω, sa, os, e1, fun vs F1 H1 p h => ?_⟩
    split at e2
    · obtain ⟨xs, e3, e4⟩ := Option.map_eq_some_iff.mp e2
      subst e4
      cases h with
      | cons h1 t =>
        cases t
        obtain ⟨a, ws, rfl, hs, l⟩ := h1.seqF e3
        exact ⟨a, ws, rfl, hs _ p.gl.sub, k _ F1 H1 p (wk_enum hs l)⟩
    · cases e2
theorem it_s (h : BE X T e m) : IT X T tg e (iS m) := piI (pi_str h) fun σ H R q => by
  obtain ⟨F, env, ω, sa, ds, e, k⟩ := q
  obtain ⟨o, e1, e2⟩ := Option.bind_eq_some_iff.mp e
  refine ⟨F, env, ω, sa, o, e1, fun v F1 H1 p h => ?_⟩
  have hv := h.vw p.gl
  split at e2
  · rename_i z q
    rw [q] at hv
    cases e2
    cases hv
    exact ⟨z, rfl, k _ F1 H1 p wk_str⟩
  · cases e2
end
def wipeE (env : Env) : List Nat → Env
  | [] => env
  | v :: vs => (wipeE env vs).set v .dead
def compL (env : Env) (g : Gm) (t : Tm) (m : Em) : List D → Option (List O)
  | [] => some []
  | d :: ds => (g (.frz d) env).bind fun e => (t e).bind fun b => if b = true then (m e).bind fun o => (compL env g t m ds).map fun os => o :: os else compL env g t m ds
def eLc (it : Im) (vs : List Nat) (g : Gm) (t : Tm) (m : Em) : Em := fun env => (it env).bind fun ds => if ds.length ≤ 100000 then (compL (wipeE env vs) g t m ds).map O.lst else none
section
variable {K : PySem.W.Frag} {T : Tab} {F H F1 H1 : Hp} {σ : L2.St} {env : Env} {ω : Own}
theorem wipeE_len : ∀ vs : List Nat, (wipeE env vs).length = env.length
  | [] => rfl
  | v :: vs => by unfold wipeE; rw [List.length_set, wipeE_len vs]
theorem wipeE_get {i : Nat} {s : SV} : ∀ {vs : List Nat}, (wipeE env vs)[i]? = some s → s = .dead ∨ (env[i]? = some s ∧ i ∉ vs)
  | [], h => .inr ⟨h, by simp⟩
  | v :: vs, h => by
    unfold wipeE at h
    by_cases hv : v = i
    · subst hv
      by_cases hl : v < (wipeE env vs).length
      · rw [List.getElem?_set_self hl] at h; cases h; exact .inl rfl
      · rw [List.getElem?_eq_none (by simpa using hl)] at h; cases h
    · rw [List.getElem?_set_ne hv] at h
      rcases wipeE_get h with h | ⟨h1, h2⟩
      · exact .inl h
      · exact .inr ⟨h1, by simp only [List.mem_cons, not_or]; exact ⟨fun e => hv e.symm, h2⟩⟩
theorem Sta.wipe (s : Sta K T F H σ env ω) (vs : List Nat) (na : ∀ (i r : Nat) (p : List Stp), env[i]? ≠ some (SV.als r p)) : Sta K T F H (L2.wipe σ vs) (wipeE env vs) ω := by
  refine ⟨s.gl, by rw [L2.wipe_length, wipeE_len]; exact s.len, fun i t e => ?_, s.og⟩
  rcases wipeE_get e with h | ⟨h, hn⟩
  · subst h; trivial
  · have g : ∀ x, σ[i]? = some (some x) → (L2.wipe σ vs)[i]? = some (some x) := fun x hx => (wipe_out hn).trans hx
    have q := s.slot i t h
    cases t with
    | dead => trivial
    | frz d => obtain ⟨v, h1, h2⟩ := q; exact ⟨v, g v h1, h2⟩
    | own o => obtain ⟨v, A, h1, h2⟩ := q; exact ⟨v, A, g v h1, h2⟩
    | io o => obtain ⟨v, A, h1, h2⟩ := q; exact ⟨v, A, g v h1, h2⟩
    | als r p => exact absurd h (na i r p)
theorem wipe_eq {σ1 σ2 : L2.St} {vs : List Nat} (h : ∀ j, j ∉ vs → σ2[j]? = σ1[j]?) (hl : σ2.length = σ1.length) : L2.wipe σ2 vs = L2.wipe σ1 vs := by
  apply List.ext_getElem?
  intro j
  by_cases hj : j ∈ vs
  · have : ∀ (σ : L2.St) (vs : List Nat), j ∈ vs → (L2.wipe σ vs)[j]? = if j < σ.length then some none else none := by
      intro σ vs
      induction vs with
      | nil => intro h; cases h
      | cons v vs ih =>
        intro h
        unfold L2.wipe
        by_cases hv : v = j
        · subst hv
          by_cases c : v < σ.length
          · rw [if_pos c, List.getElem?_set_self (by rw [L2.wipe_length]; exact c)]
          · rw [if_neg c, List.getElem?_eq_none (by rw [List.length_set, L2.wipe_length]; omega)]
        · rw [List.getElem?_set_ne hv]
          exact ih ((List.mem_cons.mp h).resolve_left fun z => hv z.symm)
    rw [this σ2 vs hj, this σ1 vs hj, hl]
  · rw [wipe_out hj, wipe_out hj, h j hj]
theorem wipe_idem (σ : L2.St) (vs : List Nat) : L2.wipe (L2.wipe σ vs) vs = L2.wipe σ vs := wipe_eq (fun j hj => wipe_out hj) (L2.wipe_length σ vs)
/-- the new list grows: it is not frozen, not owned -/
theorem PX.grow {D : Addr} {l l' : List V} (p : PX T F H F1 H1) (hD : H D = none) (hF : F1 D = none) (h1 : H1 D = some (.lst l)) : PX T F H F1 (upd H1 D (.lst l')) := by
  refine ⟨p.f, fun a u e n => by rw [upd_ne (ne_of_none e hD)]; exact p.h a u e n, p.new, fun a ps e => ?_, ⟨fun a u e n => ?_, p.gl.notbl, fun a vs e => ?_, fun q hq => ?_⟩⟩
  · obtain ⟨ps', h⟩ := p.trk a ps e
    exact ⟨ps', by rw [upd_ne (ne_of_none e hD)]; exact h⟩
  · have z : a ≠ D := fun z => by rw [z, hF] at e; cases e
    rw [upd_ne z]
    exact p.gl.sub a u e n
  · by_cases z : a = D
    · rw [z, upd_same] at e; cases e
    · rw [upd_ne z] at e; exact p.gl.tup a vs e
  · obtain ⟨ps, g1, g2, g3⟩ := p.gl.tab q hq
    have z : q.1 ≠ D := fun z => by rw [z, h1] at g1; cases g1
    refine ⟨ps, by rw [upd_ne z]; exact g1, g2, fun pos cv hc => ?_⟩
    obtain ⟨c, e1, e2⟩ := g3 pos cv hc
    have z2 : c ≠ D := fun z => by rw [z, h1] at e2; unfold LamX.CodeO at e2; cases e2
    exact ⟨c, e1, by rw [upd_ne z2]; exact e2⟩
end
section
variable {X : Cx} {T : Tab} {elt tg iter : Expr} {ifs : List Expr} {scope : Scope} {own : List (Str × Nat)} {pos : Pos} {it : Im} {g : Gm} {t : Tm} {m : Em} {ts : List Nat}
def ICs (X : Cx) (T : Tab) (ifs : List Expr) (t : Tm) : Prop := PTs X ifs (tT X.K T t)
def yesT : Tm := fun _ => some true
theorem ics_nil : ICs X T [] yesT := ⟨fun pins s σ H Q I q => pts_nil.run pins s σ H Q I (by
  obtain ⟨F, env, ω, sa, b, e, k⟩ := q
  cases e
  exact k F H (.refl sa.gl))⟩
theorem ics_one {c : Expr} (h : BT X T c t) : ICs X T [c] t := pts_one h
/-- no slot is another name -/
def noAlsB (env : Env) : Bool := env.all fun s => match s with
  | .als _ _ => false
  | _ => true
theorem noAls_of {env : Env} (h : noAlsB env = true) (i r : Nat) (p : List Stp) : env[i]? ≠ some (SV.als r p) := fun e => by
  have := List.all_eq_true.mp h _ (List.mem_of_getElem? e)
  cases this
def eLcN (it : Im) (vs : List Nat) (g : Gm) (t : Tm) (m : Em) : Em := fun env => if noAlsB env = true then eLc it vs g t m env else none
theorem tLc_of (hts : ∀ i ∈ ts, i ∈ own.map (·.2)) {σ : L2.St} {H : Hp} {Q : VK} (q : tF X.K T (eLcN it (own.map (·.2)) g t m) σ H Q) : tLc (tC' X.K T it) (tG X.K T ts g) (tT X.K T t) (tF X.K T m) (own.map (·.2)) σ H Q := by
  obtain ⟨F, env, ω, sa, o, e, k⟩ := q
  unfold eLcN at e
  split at e
  · rename_i hna
    obtain ⟨ds, e1, e2⟩ := Option.bind_eq_some_iff.mp e
    split at e2
    · rename_i hlen
      obtain ⟨os, e3, e4⟩ := Option.map_eq_some_iff.mp e2
      subst e4
      refine ⟨F, env, ω, sa, ds, e1, fun J F1 H1 p1 w DD hD => ?_⟩
      have sa1 := sa.px p1
      have FD : F1 DD = none := p1.gl.free hD
      refine ⟨fun i n H' => n = ds.length - i ∧ i ≤ ds.length ∧ ∃ F' vs os1 os2 A, PX T F1 H1 F' H' ∧ F' DD = none ∧ H' DD = some (.lst vs) ∧ RoL X.K F' H' vs os1 A ∧ A.Nodup ∧ (∀ a ∈ A, H1 a = none ∧ a ≠ DD) ∧ os1.length ≤ i ∧
        compL (wipeE env (own.map (·.2))) g t m (ds.drop i) = some os2 ∧ os = os1 ++ os2,
        ⟨ds.length, by simp, Nat.zero_le _, F1, [], [], os, [], .owned p1.gl hD (fun _ z => by cases z), FD, upd_same, .nil, .nil, fun _ z => (by cases z), Nat.le_refl _, e3, rfl⟩, ?_⟩
      rintro i n H2 ⟨rfl, hi, F2, vs, os1, os2, A, p2, f2, h2, r2, nd2, n2, l2, c2, eos⟩
      have G2 : SubN F1 H2 ∧ LamX.ExtN H1 H2 := ⟨(SubN.of p2.f).trans p2.gl.sub, p2.h⟩
      by_cases hlt : i < ds.length
      · refine .inr ⟨w.go i H2 hlt G2, fun H' => i + 1 ≤ ds.length ∧ ∃ F' vs os1 os2 A, PX T F1 H1 F' H' ∧ F' DD = none ∧ H' DD = some (.lst vs) ∧ RoL X.K F' H' vs os1 A ∧ A.Nodup ∧ (∀ a ∈ A, H1 a = none ∧ a ≠ DD) ∧ os1.length ≤ i + 1 ∧
          compL (wipeE env (own.map (·.2))) g t m (ds.drop (i + 1)) = some os2 ∧ os = os1 ++ os2, fun H' ⟨h1, h2⟩ => ⟨ds.length - (i + 1), by omega, rfl, h1, h2⟩, fun x H3 y => ?_⟩
        obtain ⟨d, F3, hd1, p3, hv⟩ := w.turn p2.gl p2.f G2 hlt y
        have hd : ds.drop i = d :: ds.drop (i + 1) := by
          rw [List.drop_eq_getElem_cons hlt]
          congr 1
          exact (List.getElem?_eq_some_iff.mp hd1).2
        rw [hd] at c2
        obtain ⟨e5, l3, l4⟩ := Option.bind_eq_some_iff.mp c2
        obtain ⟨b, l5, l6⟩ := Option.bind_eq_some_iff.mp l4
        have p13 := p2.trans p3
        have sa3 := (sa1.px p13).wipe (own.map (·.2)) (noAls_of hna)
        have keepD : ∀ {Fa Ha Fb Hb : Hp}, PX T Fa Ha Fb Hb → Fa DD = none → Ha DD = some (.lst vs) → Fb DD = none ∧ Hb DD = some (.lst vs) := fun p f h => ⟨p.new DD f (by rw [h]; exact fun z => by cases z), p.h DD _ h fun _ z => by cases z⟩
        obtain ⟨f3, h3⟩ := keepD p3 f2 h2
        refine ⟨F3, _, ω, .frz d, sa3, .frz hv, e5, l3, fun σ4 ω4 g4 n4 => ⟨?_, F3, e5, ω4, g4.sta, b, l5, fun F5 H5 p5 => ?_⟩⟩
        · rw [wipe_eq (σ1 := L2.wipe σ (own.map (·.2))) (fun j hj => n4.1 j fun z => hj (hts j z)) n4.2, wipe_idem]
        · obtain ⟨f5, h5⟩ := keepD p5 f3 h3
          have r5 : RoL X.K F5 H5 vs os1 A := by
            refine r2.keep (fun a u e => p5.f a u (p3.f a u e)) fun a ha => ?_
            obtain ⟨q1, u, q2, q3⟩ := r2.mem a ha
            exact ⟨(p3.trans p5).new a q1 (by rw [q2]; exact fun z => by cases z), by rw [q2, (p3.trans p5).h a u q2 (own_ntbl q3)]⟩
          have p15 := p13.trans p5
          cases b with
          | false =>
            rw [if_neg Bool.false_ne_true] at l6
            refine iteF ⟨hlt, F5, vs, os1, os2, A, p15, f5, h5, r5, nd2, n2, by omega, l6, eos⟩
          | true =>
            rw [if_pos rfl] at l6
            refine iteT ?_
            obtain ⟨o6, l7, l8⟩ := Option.bind_eq_some_iff.mp l6
            obtain ⟨os3, l9, l10⟩ := Option.map_eq_some_iff.mp l8
            subst l10
            refine ⟨F5, e5, ω4, g4.sta.px p5, o6, l7, fun v F6 H6 B p6 f6 => ?_⟩
            obtain ⟨f7, h7⟩ := keepD p6 f5 h5
            refine ⟨vs, h7, ?_, hlt, F6, vs ++ [v], os1 ++ [o6], os3, A ++ B, (p15.trans p6).grow hD f7 h7, f7, upd_same, ?_, ?_, ?_, by simp; omega, l9, by rw [eos]; simp⟩
            · rw [r2.length, sizeLine_eq]; omega
            · have r6 : RoL X.K F6 H6 (vs ++ [v]) (os1 ++ [o6]) (A ++ B) := by
                refine RoL.append ?_ (RoL.one f6.ro)
                refine r5.keep p6.f fun a ha => ?_
                obtain ⟨q1, u, q2, q3⟩ := r5.mem a ha
                exact ⟨p6.new a q1 (by rw [q2]; exact fun z => by cases z), by rw [q2, p6.h a u q2 (own_ntbl q3)]⟩
              refine r6.keep (fun _ _ e => e) fun a ha => ⟨(r6.mem a ha).1, upd_ne ?_⟩
              rcases List.mem_append.mp ha with q | q
              · exact (n2 a q).2
              · exact fun z => by rw [z] at q; have := f6.new DD q; rw [h5] at this; cases this
            · refine nodup_app nd2 f6.nd fun a ha hb => ?_
              obtain ⟨_, u, q2, _⟩ := r5.mem a ha
              rw [f6.new a hb] at q2; cases q2
            · intro a ha
              rcases List.mem_append.mp ha with q | q
              · exact n2 a q
              · exact ⟨p15.free (f6.new a q), fun z => by rw [z] at q; have := f6.new DD q; rw [h5] at this; cases this⟩
      · have ei : i = ds.length := by omega
        subst ei
        rw [List.drop_length] at c2
        cases c2
        rw [List.append_nil] at eos
        subst eos
        refine .inl ⟨w.stop H2 G2, k _ F2 H2 (DD :: A) (p1.trans p2) ⟨.lst f2 h2 r2, List.nodup_cons.mpr ⟨fun z => (n2 DD z).2 rfl, nd2⟩, fun a ha => ?_⟩⟩
        rcases List.mem_cons.mp ha with q | q
        · rw [q]; exact p1.free hD
        · exact p1.free (n2 a q).1
    · cases e2
  · cases e
end
end VL
namespace VL
open PySem PySem.Spec PyProof.Rows L2
section
variable {X : Cx} {T : Tab} {elt tg iter : Expr} {ifs : List Expr} {scope : Scope} {own : List (Str × Nat)} {pos : Pos} {it : Im} {g : Gm} {t : Tm} {m : Em} {ts : List Nat}
theorem fe_lc (hc : X.calm = true) (hN : X.N.Nodup) (hi : IC X T tg iter it) (ok : BlkOk X.N X.env.scope scope own)
    (hg : ∀ (s : Shared) (H : Hp) (C : Addr) (cl : List (Str × Addr)) (fp : List Addr), GS (X.blk s H scope (compEnvC scope cl C X.env) fp) T tg ts g)
    (ht : ∀ (s : Shared) (H : Hp) (C : Addr) (cl : List (Str × Addr)) (fp : List Addr), ICs (X.blk s H scope (compEnvC scope cl C X.env) fp) T ifs t)
    (he : ∀ (s : Shared) (H : Hp) (C : Addr) (cl : List (Str × Addr)) (fp : List Addr), FE (X.blk s H scope (compEnvC scope cl C X.env) fp) T elt m)
    (hts : ∀ i ∈ ts, i ∈ own.map (·.2)) (hs : ∀ x, foldedSetIterable iter X.env x = pure x := by intro _; rfl) :
    FE X T (.ListComp elt [⟨tg, iter, ifs, 0⟩] scope pos) (eLcN it (own.map (·.2)) g t m) :=
  peI (pe_lc (g := tG X.K T ts g) (tt := tT X.K T t) (te := tF X.K T m) hc hN hi ok hg ht he hs) fun _ _ _ q => tLc_of hts q
theorem ss_setLc {i : Nat} {y : Str} {py spos : Pos} (hc : X.calm = true) (hN : X.N.Nodup) (hy : X.N[i]? = some y) (hyl : X.env.scope.names.lookup y = some .local)
    (hsw : swapsWith (.ListComp elt [⟨tg, iter, ifs, 0⟩] scope pos) (some (.Name y py)) spos.line X.env = pure true) (hi : IC X T tg iter it) (ok : BlkOk X.N X.env.scope scope own)
    (hg : ∀ (s : Shared) (H : Hp) (C : Addr) (cl : List (Str × Addr)) (fp : List Addr), GS (X.blk s H scope (compEnvC scope cl C X.env) fp) T tg ts g)
    (ht : ∀ (s : Shared) (H : Hp) (C : Addr) (cl : List (Str × Addr)) (fp : List Addr), ICs (X.blk s H scope (compEnvC scope cl C X.env) fp) T ifs t)
    (he : ∀ (s : Shared) (H : Hp) (C : Addr) (cl : List (Str × Addr)) (fp : List Addr), FE (X.blk s H scope (compEnvC scope cl C X.env) fp) T elt m)
    (hts : ∀ i ∈ ts, i ∈ own.map (·.2)) (hs : ∀ x, foldedSetIterable iter X.env x = pure x := by intro _; rfl) :
    SS X T (.Assign [.Name y py] (.ListComp elt [⟨tg, iter, ifs, 0⟩] scope pos) spos) (sSet i (eLcN it (own.map (·.2)) g t m)) :=
  psI (ps_setLc (g := tG X.K T ts g) (tt := tT X.K T t) (te := tF X.K T m) hc hN hy hyl hsw hi ok hg ht he hs) fun D σ H q => by
    obtain ⟨F, env, ω, sa, out, e, k⟩ := q
    obtain ⟨o, e1, e2⟩ := Option.bind_eq_some_iff.mp e
    obtain ⟨e', e3, e4⟩ := Option.map_eq_some_iff.mp e2
    subst e4
    refine tLc_of hts ⟨F, env, ω, sa, o, e1, fun v F1 H1 A p f => ?_⟩
    have hl : i < env.length ∨ ¬ i < env.length := Classical.em _
    rcases hl with hl | hl
    · exact k F1 H1 _ _ (Go.put sa p f hl e3)
    · obtain ⟨h1, h2⟩ := setS_of e3
      have h3 : σ.set i (some v) = σ := List.set_eq_of_length_le (by rw [sa.len]; omega)
      have h4 : (killA i env).set i (slotOf o) = killA i env := List.set_eq_of_length_le (by rw [killA_len]; omega)
      have h5 : killA i env = env := by
        apply List.ext_getElem?
        intro j
        rw [killA_get]
        cases q : env[j]? with
        | none => rfl
        | some t =>
          cases t with
          | als r p' =>
            have := sa.slot j _ q
            obtain ⟨_, w, _, _, _, h, _⟩ := this
            have hr : r < env.length := by rw [← sa.len]; exact (List.getElem?_eq_some_iff.mp h).1
            have : r ≠ i := by omega
            simp [this]
          | _ => rfl
      rw [h2, h4, h5] at k
      show D.nx (σ.set i (some v)) H1
      rw [h3]
      exact k F1 H1 σ ω (.px sa p)
end
abbrev Fm := List SV → Option (O × List SV)
def argOk : SV → Bool
  | .frz _ => true
  | .io _ => true
  | _ => false
/-- the slots as they are handed back -/
def outs (svs : List SV) (e : Env) : List SV := svs.mapIdx fun i a => match a with
  | .io _ => (e[i]?).getD .dead
  | a => a
def fnM (np n : Nat) (s : Sm) : Fm := fun svs => if svs.length = np ∧ svs.all argOk = true then (match s (svs ++ List.replicate (n - np) .dead) with
  | some (.ret o e) => some (o, outs svs e)
  | some (.nx e) => some (.frz .non, outs svs e)
  | _ => none) else none
def spF (K : PySem.W.Frag) (T : Tab) (np : Nat) (f : Fm) : Sp := fun vs H Q _ => ∃ F svs ω o svs', vs.length = np ∧ svs.all argOk = true ∧ Sta K T F H (vs.map some) svs ω ∧ f svs = some (o, svs') ∧
  ∀ F' H' ω' v A, EX F H ω F' H' ω' → Sta K T F' H' (vs.map some) svs' ω' → Rt K H ω F' H' ω' v o A → Q v H'
section
variable {K : PySem.W.Frag} {T : Tab} {F H F' H' : Hp} {ω ω' : Own} {vs : List V} {svs : List SV} {N : List Str}
theorem start_get {i : Nat} {x : V} (h : (vs.map some)[i]? = some (some x)) : (L2.start N vs)[i]? = some (some x) := by
  unfold L2.start
  rw [List.getElem?_append_left (List.getElem?_eq_some_iff.mp h).1]
  exact h
theorem sta_start (s : Sta K T F H (vs.map some) svs ω) (ha : svs.all argOk = true) (hn : vs.length ≤ N.length) : Sta K T F H (L2.start N vs) (svs ++ List.replicate (N.length - vs.length) .dead) ω := by
  have hl : svs.length = vs.length := by have := s.len; rw [List.length_map] at this; exact this.symm
  refine ⟨s.gl, ?_, fun i t e => ?_, s.og⟩
  · unfold L2.start
    rw [List.length_append, List.length_append, List.length_map, List.length_replicate, List.length_replicate, hl]
  · by_cases hi : i < svs.length
    · rw [List.getElem?_append_left hi] at e
      have q := s.slot i t e
      have a := List.all_eq_true.mp ha t (List.mem_of_getElem? e)
      cases t with
      | dead => trivial
      | frz d => obtain ⟨v, h1, h2⟩ := q; exact ⟨v, start_get h1, h2⟩
      | own o => cases a
      | io o => obtain ⟨v, A, h1, h2⟩ := q; exact ⟨v, A, start_get h1, h2⟩
      | als r p => cases a
    · rw [List.getElem?_append_right (by omega), List.getElem?_replicate] at e
      split at e
      · cases e; trivial
      · cases e
/-- what the parameters own -/
def ωio (svs : List SV) (ω : Own) : Own := fun a => match ω a with
  | some i => if isIo svs[i]? = true then some i else none
  | none => none
theorem sta_outs {σ' : L2.St} {e : Env} (s : Sta K T F H (vs.map some) svs ω) (ha : svs.all argOk = true) (hn : vs.length ≤ N.length)
    (g : Go K T F H (L2.start N vs) (svs ++ List.replicate (N.length - vs.length) .dead) ω F' H' σ' e ω') : Sta K T F' H' (vs.map some) (outs svs e) (ωio svs ω') ∧ EX F H ω F' H' (ωio svs ω') := by
  have hl : svs.length = vs.length := by have := s.len; rw [List.length_map] at this; exact this.symm
  refine ⟨⟨g.sta.gl, ?_, fun i t h => ?_, fun a i h => ?_⟩, ⟨g.ex.f, g.ex.h, g.ex.new, fun a i h => ?_, g.ex.trk, g.ex.tb⟩⟩
  · unfold outs
    rw [List.length_mapIdx]
    exact s.len
  · unfold outs at h
    rw [List.getElem?_mapIdx] at h
    obtain ⟨sv, h1, h2⟩ := Option.map_eq_some_iff.mp h
    have q := s.slot i sv h1
    have a := List.all_eq_true.mp ha sv (List.mem_of_getElem? h1)
    cases sv with
    | dead => cases a
    | frz d =>
      cases h2
      obtain ⟨v, h3, h4⟩ := q
      exact ⟨v, h3, h4.sub (.of g.ex.f)⟩
    | own o => cases a
    | io o =>
      obtain ⟨h3, o', h4⟩ := g.io i o (by rw [List.getElem?_append_left (List.getElem?_eq_some_iff.mp h1).1]; exact h1)
      have h2 : (e[i]?).getD .dead = t := h2
      rw [h4] at h2
      cases h2
      obtain ⟨v, A, h5, h6, h7, h8⟩ := g.sta.slot i _ h4
      obtain ⟨v0, A0, h9, _⟩ := q
      rw [h3, start_get h9] at h5
      cases h5
      exact ⟨_, A, h9, h6, h7, fun a ha => by unfold ωio; rw [h8 a ha]; simp only [h1]; rfl⟩
    | als r p => cases a
  · unfold ωio at h
    split at h
    · rename_i j hj
      split at h
      · cases h; exact g.sta.og a i hj
      · cases h
    · cases h
  · unfold ωio at h
    split at h
    · rename_i j hj
      split at h
      · cases h; exact g.ex.own a i hj
      · cases h
    · cases h
end
section
variable {P : Program} {w : World} {K : PySem.W.Frag} {mg : Str → Option Value} {base : Heap} {T : Tab}
/-- a body that refines s keeps the promise of the def -/
theorem body_ok {CX : CXT} {N ps : List Str} {qual : Str} {scope : Scope} {f : Addr} {cdv : Value} {A : Around} {outer : List PySem.Env} {s : Shared} {H : Hp} {vs : List V} {Q : VK} {E : XK} {body : List Stmt} {sm : Sm}
    (S : FnScope N ps scope) (hsp : spF K T ps.length (fnM ps.length N.length sm) vs H Q E) : tS K T sm { nx := fun _ H' => Q .non H', rt := Q } (L2.start N vs) H := by
  obtain ⟨F, svs, ω, o, svs', hl, ha, sa, e, k⟩ := hsp
  have hn : vs.length ≤ N.length := by
    have := congrArg List.length S.pre
    rw [List.length_take] at this
    omega
  have hl2 : svs.length = vs.length := by have := sa.len; rw [List.length_map] at this; exact this.symm
  unfold fnM at e
  rw [if_pos ⟨by omega, ha⟩] at e
  refine ⟨F, svs ++ List.replicate (N.length - vs.length) .dead, ω, sta_start sa ha hn, ?_⟩
  rw [hl]
  split at e
  · rename_i o' e' q
    cases e
    refine ⟨_, q, fun F' H' σ' ω' v A g r => ?_⟩
    rw [← hl] at g
    obtain ⟨h1, h2⟩ := sta_outs sa ha hn g
    refine k F' H' _ v A h2 h1 ⟨r.ro, r.nd, fun a h => ⟨?_, (r.new a h).2⟩⟩
    unfold ωio
    rw [(r.new a h).1]
  · rename_i e' q
    cases e
    refine ⟨_, q, fun F' H' σ' ω' g => ?_⟩
    rw [← hl] at g
    obtain ⟨h1, h2⟩ := sta_outs sa ha hn g
    exact k F' H' _ .non [] h2 h1 ⟨.frz .non, .nil, fun _ z => by cases z⟩
  · cases e
/-- THE RULE for a def -/
theorem fn_ok {x qual : Str} {st : Stmt} {f : Addr} {fd : FuncData} {N ps : List Str} {k : Nat} {sm : Sm} (D : FunD K x qual (defArgs st) (defBody st) (defScope st) [] [] f fd) (S : FnScope N ps (defScope st))
    (hb : ∀ (cdv : Value) (A : Around) (outer : List PySem.Env) (s : Shared) (H : Hp) (E : XK), Room k (A.deeper (envOfC qual (defScope st) s.heap.objs.size f cdv)) → SB (cxOf CX0 P w K mg base N qual (defScope st) f cdv A outer s H E).nox T (defBody st) sm) :
    FnOk P w K mg base CX0 (k + 1) f fd ps (spF K T ps.length (fnM ps.length N.length sm)) := by
  refine D.ok S (fun vs H Q E h => ?_) fun cdv A outer s H vs Q E hr hsp => ⟨tS K T sm, PSs.nox (hb cdv A outer s H E hr), body_ok (CX := CX0) (qual := qual) (f := f) (cdv := cdv) (A := A) (outer := outer) (s := s) (E := E) (body := defBody st) S hsp⟩
  obtain ⟨_, _, _, _, _, h, _⟩ := h
  exact h
end
mutual
/-- its frozen parts are never changed -/
def O.immO : O → Bool
  | .frz d => d.imm
  | .tup os => O.immOs os
  | .lst os => O.immOs os
  | .dct kos => O.immK kos
  | .dtt kos => O.immT kos
  | .ins _ fos => O.immF fos
def O.immOs : List O → Bool
  | [] => true
  | o :: os => o.immO && O.immOs os
def O.immK : List (Key × O) → Bool
  | [] => true
  | (_, o) :: os => o.immO && O.immK os
def O.immT : List (List Key × O) → Bool
  | [] => true
  | (_, o) :: os => o.immO && O.immT os
def O.immF : List (Str × O) → Bool
  | [] => true
  | (_, o) :: os => o.immO && O.immF os
end
theorem immK_snd : ∀ kos : List (Key × O), O.immK kos = O.immOs (kos.map Prod.snd)
  | [] => by rw [O.immK]; rfl
  | (k, o) :: r => by rw [O.immK, immK_snd r, List.map_cons, O.immOs]
theorem immT_snd : ∀ kos : List (List Key × O), O.immT kos = O.immOs (kos.map Prod.snd)
  | [] => by rw [O.immT]; rfl
  | (k, o) :: r => by rw [O.immT, immT_snd r, List.map_cons, O.immOs]
theorem immF_snd : ∀ kos : List (Str × O), O.immF kos = O.immOs (kos.map Prod.snd)
  | [] => by rw [O.immF]; rfl
  | (k, o) :: r => by rw [O.immF, immF_snd r, List.map_cons, O.immOs]
section
variable {K : PySem.W.Frag} {F H G : Hp}
mutual
theorem Ro.imm (t : ∀ a vs, F a = some (.tup vs) → G a = some (.tup vs)) : ∀ {v : V} {o : O} {A : List Addr}, Ro K F H v o A → o.immO = true → (∀ a ∈ A, G a = none) → Ro K G H v o A
  | _, _, _, .frz h, e, _ => .frz (h.immv t (by rw [O.immO] at e; exact e))
  | _, _, _, .tup h l, e, k => .tup (t _ _ h) (RoL.imm t l (by rw [O.immO] at e; exact e) k)
  | _, _, _, .lst _ h l, e, k => .lst (k _ List.mem_cons_self) h (RoL.imm t l (by rw [O.immO] at e; exact e) fun b hb => k b (List.mem_cons_of_mem _ hb))
  | _, _, _, .dct _ h q l, e, k => .dct (k _ List.mem_cons_self) h q (RoL.imm t l (by rw [O.immO, immK_snd] at e; exact e) fun b hb => k b (List.mem_cons_of_mem _ hb))
  | _, _, _, .dtt _ h q l, e, k => .dtt (k _ List.mem_cons_self) h q (RoL.imm t l (by rw [O.immO, immT_snd] at e; exact e) fun b hb => k b (List.mem_cons_of_mem _ hb))
  | _, _, _, .ins _ h q l, e, k => .ins (k _ List.mem_cons_self) h q (RoL.imm t l (by rw [O.immO, immF_snd] at e; exact e) fun b hb => k b (List.mem_cons_of_mem _ hb))
theorem RoL.imm (t : ∀ a vs, F a = some (.tup vs) → G a = some (.tup vs)) : ∀ {vs : List V} {os : List O} {A : List Addr}, RoL K F H vs os A → O.immOs os = true → (∀ a ∈ A, G a = none) → RoL K G H vs os A
  | _, _, _, .nil, _, _ => .nil
  | _, _, _, .cons h l, e, k => by
    rw [O.immOs] at e
    obtain ⟨e1, e2⟩ := Bool.and_eq_true_iff.mp e
    exact .cons (Ro.imm t h e1 fun b hb => k b (List.mem_append_left _ hb)) (RoL.imm t l e2 fun b hb => k b (List.mem_append_right _ hb))
end
end
def isF (o : O) : Bool := (asFrz o).isSome
def callP (f : Fm) (os : List O) : Option O := (f (os.map fun o => .frz o.toD)).bind fun r => if os.all isF = true ∨ r.1.immO = true then some r.1 else none
section
variable {K : PySem.W.Frag} {T : Tab} {F H F' H' : Hp} {ω' : Own}
def noOwn : Own := fun _ => none
theorem px_ex (x : EX F H noOwn F' H' ω') (g : Gl T F' H') : PX T F H F' H' :=
  ⟨x.f, fun a u e n => x.h a u e rfl n, fun a e h => x.new a e h rfl, x.tb, g⟩
/-- the frozen arguments, as a callee's slots -/
theorem sta_args (g : Gl T F H) : ∀ {vs : List V} {ds : List D}, VwL K F vs ds → Sta K T F H (vs.map some) (ds.map SV.frz) noOwn := fun {vs ds} l => by
  refine ⟨g, by rw [List.length_map, List.length_map, l.length], fun i t e => ?_, fun a i e => by cases e⟩
  rw [List.getElem?_map] at e
  obtain ⟨d, e1, e2⟩ := Option.map_eq_some_iff.mp e
  subst e2
  obtain ⟨v, h1, h2⟩ := l.get e1
  exact ⟨v, by rw [List.getElem?_map, h1]; rfl, h2⟩
theorem all_frz (ds : List D) : (ds.map SV.frz).all argOk = true := by
  rw [List.all_map]
  exact List.all_eq_true.mpr fun _ _ => rfl
theorem prd_frz (g : Gl T F H) : ∀ {vs : List V} {os : List O}, Paired (VwO K F H) vs os → os.all isF = true → VwL K F vs (os.map O.toD)
  | _, _, .nil, _ => .nil
  | _, _, .cons h t, e => by
    rw [List.all_cons] at e
    obtain ⟨e1, e2⟩ := Bool.and_eq_true_iff.mp e
    obtain ⟨d, e3⟩ := Option.isSome_iff_exists.mp (show (asFrz _).isSome = true from e1)
    rw [List.map_cons, asFrz_toD e3]
    exact .cons (h.asFrz g e3) (prd_frz g t e2)
/-- all that is tracked, but tables, frozen -/
def allF (H : Hp) : Hp := fun a => match H a with
  | some (.tbl _) => none
  | x => x
theorem allF_of {a : Addr} {u : HO} (h : H a = some u) (n : ∀ ps, u ≠ .tbl ps) : allF H a = some u := by
  unfold allF
  rw [h]
  split
  · rename_i ps q; cases q; exact absurd rfl (n ps)
  · rfl
theorem allF_get {a : Addr} {u : HO} (h : allF H a = some u) : H a = some u ∧ ∀ ps, u ≠ .tbl ps := by
  unfold allF at h
  split at h
  · cases h
  · rename_i q
    exact ⟨h, fun ps z => q ps (by rw [← z]; exact h)⟩
theorem gl_all (g : Gl T F H) : Gl T (allF H) H :=
  ⟨fun a u e _ => .inl (allF_get e).1, fun a ps e => (allF_get e).2 ps rfl, fun a vs e => allF_of e (fun _ z => nomatch z), g.tab⟩
/-- behind a call for which all was frozen: what is new in the frozen part -/
def newF (F H F' : Hp) : Hp := fun a => match F a with
  | some u => some u
  | none => match H a with
    | some _ => none
    | none => F' a
theorem newF_px (g : Gl T F H) (x : EX (allF H) H noOwn F' H' ω') (g' : Gl T F' H') : PX T F H (newF F H F') H' ∧ (∀ a vs, F' a = some (.tup vs) → newF F H F' a = some (.tup vs)) ∧ ∀ a, H a = none → F' a = none → newF F H F' a = none := by
  have ext : LamX.ExtN H H' := fun a u e n => x.h a u e rfl n
  have tupN : ∀ a vs, H' a = some (.tup vs) → newF F H F' a = some (.tup vs) := fun a vs e => by
    unfold newF
    cases q : F a with
    | some u =>
      show some u = _
      rcases (g.sub.trans (.ext ext)) a u q (fun ps z => g.notbl a ps (by rw [q, z])) with h | ⟨_, o, h⟩
      · rw [← h]; exact e
      · rw [e] at h; cases h
    | none =>
      show (match H a with | some _ => none | none => F' a) = _
      cases q2 : H a with
      | none => exact g'.tup a vs e
      | some u =>
        exfalso
        by_cases z : ∃ ps, u = .tbl ps
        · obtain ⟨ps, rfl⟩ := z
          obtain ⟨ps', h⟩ := x.tb a ps q2
          rw [e] at h; cases h
        · have h := ext a u q2 fun ps y => z ⟨ps, y⟩
          rw [e] at h
          cases h
          rw [g.tup a vs q2] at q
          cases q
  refine ⟨⟨fun a u e => by unfold newF; rw [e], ext, fun a e h => ?_, x.tb, ⟨fun a u e n => ?_, fun a ps e => ?_, tupN, g'.tab⟩⟩, fun a vs e => tupN a vs (g'.sub.at e (fun _ z => by cases z) rfl), fun a h1 h2 => ?_⟩
  · unfold newF
    rw [e]
    cases q : H a with
    | none => exact absurd q h
    | some u => rfl
  · unfold newF at e
    cases q : F a with
    | some w => rw [q] at e; cases e; exact (g.sub.trans (.ext ext)) a u q n
    | none =>
      rw [q] at e
      cases q2 : H a with
      | none => rw [q2] at e; exact g'.sub a u e n
      | some w => rw [q2] at e; cases e
  · unfold newF at e
    cases q : F a with
    | some w => rw [q] at e; cases e; exact g.notbl a ps q
    | none =>
      rw [q] at e
      cases q2 : H a with
      | none => rw [q2] at e; exact g'.notbl a ps e
      | some w => rw [q2] at e; cases e
  · unfold newF
    rw [g.free h1, h1]
    exact h2
theorem Vw.allF (h : Vw K H v d) : Vw K (allF H) v d := h.sub fun a u e n => .inl (allF_of e n)
theorem VwL.allF {vs : List V} {ds : List D} (h : VwL K H vs ds) : VwL K (allF H) vs ds := h.sub fun a u e n => .inl (allF_of e n)
/-- THE CALL, by values -/
theorem spF_pure {np : Nat} {f : Fm} {vs : List V} {os : List O} {o : O} {Q : VK} {E : XK} (g : Gl T F H) (h : Paired (VwO K F H) vs os) (hn : os.length = np) (e : callP f os = some o)
    (k : ∀ v F' H' A, PX T F H F' H' → Fresh K H F' H' v o A → Q v H') : spF K T np f vs H Q E := by
  obtain ⟨⟨o', svs'⟩, e1, e2⟩ := Option.bind_eq_some_iff.mp e
  have hl : vs.length = os.length := Paired.length h
  have em : (os.map fun o => SV.frz o.toD) = (os.map O.toD).map SV.frz := by rw [List.map_map]; rfl
  rw [em] at e1
  split at e2
  · rename_i c
    have e2 : o' = o := by simpa using e2
    subst e2
    by_cases c1 : os.all isF = true
    · refine ⟨F, _, noOwn, o', svs', by omega, all_frz _, sta_args g (prd_frz g h c1), e1, fun F' H' ω' v A x sa r => ?_⟩
      exact k v F' H' A (px_ex x sa.gl) ⟨r.ro, r.nd, fun a ha => ((r.new a ha).2).resolve_left fun z => z rfl⟩
    · have c2 : o'.immO = true := c.resolve_left c1
      refine ⟨allF H, _, noOwn, o', svs', by omega, all_frz _, sta_args (gl_all g) (prd_vw g h).allF, e1, fun F' H' ω' v A x sa r => ?_⟩
      have hA : ∀ a ∈ A, H a = none := fun a ha => ((r.new a ha).2).resolve_left fun z => z rfl
      obtain ⟨px, ht, hnew⟩ := newF_px g x sa.gl
      exact k v _ H' A px ⟨r.ro.imm ht c2 fun a ha => hnew a (hA a ha) (r.ro.mem a ha).1, r.nd, hA⟩
  · cases e2
end
section
variable {X : Cx} {T : Tab} {k : Nat} {f : Addr} {fd : FuncData} {ps : List Str} {fm : Fm} {x : Str} {p pos : Pos} {e : Expr} {es : List Expr} {m : Es} {np : Nat}
def eCall (np : Nat) (fm : Fm) (m : Es) : Em := fun env => (m env).bind fun os => if os.length = np then callP fm os else none
theorem call_w {σ : L2.St} {H : Hp} {Q : VK} (q : tF X.K T (eCall np fm m) σ H Q) : tCall (spF X.K T np fm) [] E0 (tBs X.K T m) σ H Q := by
  obtain ⟨F, env, ω, sa, o, e, k⟩ := q
  obtain ⟨os, e1, e2⟩ := Option.bind_eq_some_iff.mp e
  split at e2
  · rename_i hn
    refine ⟨F, env, ω, sa, os, e1, fun vs F1 H1 p1 h => ?_⟩
    show spF X.K T np fm (vs ++ []) H1 Q E0
    rw [List.append_nil]
    exact spF_pure p1.gl h hn e2 fun v F' H' A p2 f => k v F' H' A (p1.trans p2) (f.back p1)
  · cases e2
theorem fe_call (F : FnOk X.prog X.w X.K X.mg X.base CX0 k f fd ps (spF X.K T np fm)) (hr : Room k X.A) (hg : L2.Gl X x) (hm : X.mg x = some (.ref f)) (hk : PySem.W.keepIn X.K (.ref f) = true) (hb : Binds X.K fd ps [])
    (ha : BA X T (e :: es) m) (hdb : (x == ("__debug__" : Str)) = false := by decide) (he : starEach (e :: es) X.env = (false, eval e X.env) :: starEach es X.env := by rfl) (hpl : (backTo pos (starEach es X.env)).any (·.1) = false := by rfl) :
    FE X T (.Call (.Name x p) (e :: es) [] pos) (eCall np fm m) :=
  peI (pe_call F hr hg hm hk hb .nil pass0 ha hdb he hpl) fun _ _ _ q => call_w q
end
end VL
namespace VL
open PySem PySem.Spec PyProof.Rows L2
section
variable {κ α : Type} [DecidableEq κ]
theorem getA_rep : ∀ {kos : List (κ × α)} {k : κ} {n n' : α}, getA kos k = some n → getA (repA kos k n') k = some n'
  | [], _, _, _, e => by simp [getA] at e
  | (j, x) :: r, k, n, n', e => by
    by_cases z : j = k
    · simp [repA, getA, z, List.find?_cons]
    · have e1 : getA r k = some n := by simpa [getA, List.find?_cons, z] using e
      have := getA_rep (n' := n') e1
      simpa [repA, getA, z, List.find?_cons] using this
theorem lookup_rep : ∀ {kos : List (Str × α)} {k : Str} {n n' : α}, kos.lookup k = some n → (repA kos k n').lookup k = some n'
  | [], _, _, _, e => by simp at e
  | (j, x) :: r, k, n, n', e => by
    by_cases z : j = k
    · simp [repA, List.lookup, z]
    · have zb : (k == j) = false := beq_eq_false_iff_ne.mpr (Ne.symm z)
      have e1 : r.lookup k = some n := by simpa [List.lookup, zb] using e
      have := lookup_rep (n' := n') e1
      simpa [repA, List.lookup, z, zb] using this
end
theorem step_put {o n n' : O} {s : Stp} (e : o.step s = some n) : (o.put s n').step s = some n' := by
  cases o <;> cases s <;> simp [O.step] at e
  · rename_i os i
    have := (List.getElem?_eq_some_iff.mp e).1
    simp [O.put, O.step, this]
  · rename_i os i
    have := (List.getElem?_eq_some_iff.mp e).1
    simp [O.put, O.step, this]
  · simp [O.put, O.step, getA_rep e]
  · simp [O.put, O.step, lookup_rep e]
theorem walk_put : ∀ {p : List Stp} {o n n' : O}, o.walk p = some n → ∀ p', p' <+: p → ∃ o', (o.putW p n').walk p' = some o'
  | p, o, n, n', e, [], _ => ⟨_, rfl⟩
  | [], o, n, n', e, s' :: p', h => by cases List.prefix_nil.mp h
  | s :: p, o, n, n', e, s' :: p', h => by
    obtain ⟨e3, e4⟩ := List.cons_prefix_cons.mp h
    subst e3
    unfold O.walk at e
    obtain ⟨o1, e1, e2⟩ := Option.bind_eq_some_iff.mp e
    obtain ⟨o', h'⟩ := walk_put (n' := n') e2 p' e4
    refine ⟨o', ?_⟩
    unfold O.putW O.walk
    rw [e1]
    show (((o.put s' (o1.putW p n')).step s').bind fun o' => o'.walk p') = some o'
    rw [step_put e1]
    exact h'
theorem walk_pre : ∀ {p' q : List Stp} {o n : O}, o.walk (p' ++ q) = some n → ∃ o', o.walk p' = some o'
  | [], _, _, _, _ => ⟨_, rfl⟩
  | s :: p', q, o, n, h => by
    rw [List.cons_append] at h
    unfold O.walk at h ⊢
    obtain ⟨o1, e1, e2⟩ := Option.bind_eq_some_iff.mp h
    rw [e1]
    exact walk_pre e2
instance : DecidableEq Stp := fun a b => match a, b with
  | .ix i, .ix j => if h : i = j then isTrue (by rw [h]) else isFalse fun z => h (Stp.ix.inj z)
  | .key i, .key j => if h : i = j then isTrue (by rw [h]) else isFalse fun z => h (Stp.key.inj z)
  | .fld i, .fld j => if h : i = j then isTrue (by rw [h]) else isFalse fun z => h (Stp.fld.inj z)
  | .ix _, .key _ => isFalse fun z => by cases z
  | .ix _, .fld _ => isFalse fun z => by cases z
  | .key _, .ix _ => isFalse fun z => by cases z
  | .key _, .fld _ => isFalse fun z => by cases z
  | .fld _, .ix _ => isFalse fun z => by cases z
  | .fld _, .key _ => isFalse fun z => by cases z
def rootO (env : Env) (r : Nat) : Option O := match env[r]? with
  | some (.own o) => some o
  | some (.io o) => some o
  | _ => none
/-- other names for what is not on the way to p are known no more -/
def killP (r : Nat) (p : List Stp) (env : Env) : Env := env.map fun s => match s with
  | .als r' p' => if r' = r ∧ ¬ p' <+: p then .dead else .als r' p'
  | s => s
def mutS (env : Env) (r : Nat) (p : List Stp) (n' : O) : Env := match env[r]? with
  | some (.own o) => (killP r p env).set r (.own (o.putW p n'))
  | some (.io o) => (killP r p env).set r (.io (o.putW p n'))
  | _ => env
def kA (r : Nat) : SV → SV
  | .als r' p' => if r' = r then .dead else .als r' p'
  | s => s
theorem killP_get {r : Nat} {p : List Stp} {env : Env} (j : Nat) : (killP r p env)[j]? = (env[j]?).map fun s => match s with
    | .als r' p' => if r' = r ∧ ¬ p' <+: p then .dead else .als r' p'
    | s => s := by unfold killP; rw [List.getElem?_map]
theorem killP_len {r : Nat} {p : List Stp} {env : Env} : (killP r p env).length = env.length := by unfold killP; rw [List.length_map]
section
variable {K : PySem.W.Frag} {T : Tab} {F H F' H' F1 H1 : Hp} {σ : L2.St} {env : Env} {ω : Own} {v w v' : V} {o n : O} {A : List Addr} {r : Nat} {p : List Stp}
/-- the same, other names on the way to p kept -/
theorem Go.slotP {F0 H0 : Hp} {sv : SV} {o1 : O} (s : Sta K T F0 H0 σ env ω) (c : Rc T F0 H0 ω r F H) (hr : σ[r]? = some (some w)) (hlen : r < env.length) (hv : SvOk K F H w A sv) (hA : ∀ a ∈ A, ω a = some r ∨ H0 a = none)
    (hio : ∀ o, env[r]? = some (SV.io o) → ∃ o', sv = .io o') (hsv : sv = .own o1 ∨ sv = .io o1)
    (keep : ∀ p', p' <+: p → vWalk H w p' = vWalk H0 w p' ∧ ∃ o', o1.walk p' = some o') :
    Go K T F0 H0 σ env ω F H σ ((killP r p env).set r sv) (ωset ω r A) := by
  have g := Go.slot s c hlen hv hA fun o e => ⟨hr, hio o e⟩
  rw [set_same hr] at g
  have hr2 : Ro K F H w o1 A := by rcases hsv with q | q <;> subst q <;> exact hv.1
  have hrA : ∀ a ∈ A, ωset ω r A a = some r := fun a ha => if_pos ha
  refine ⟨⟨g.sta.gl, by rw [List.length_set, killP_len]; exact s.len, fun j t e => ?_, g.sta.og⟩, g.ex, fun j o e => ?_⟩
  · by_cases hj : j = r
    · refine g.sta.slot j t ?_
      subst hj
      rw [List.getElem?_set_self (by rw [killP_len]; exact hlen)] at e
      rw [List.getElem?_set_self (by rw [killA_len]; exact hlen)]
      exact e
    · rw [List.getElem?_set_ne (Ne.symm hj), killP_get] at e
      obtain ⟨t0, e0, e1⟩ := Option.map_eq_some_iff.mp e
      have old : ∀ t, kA r t0 = t → SlotOk K F H σ (ωset ω r A) j t := fun t q => by
        refine g.sta.slot j t ?_
        rw [List.getElem?_set_ne (Ne.symm hj), killA_get, e0, Option.map_some, ← q]
        cases t0 <;> rfl
      cases t0 with
      | als r' p' =>
        have e1 : (if r' = r ∧ ¬ p' <+: p then SV.dead else .als r' p') = t := e1
        by_cases z : r' = r
        · subst z
          by_cases z2 : p' <+: p
          · rw [if_neg fun q => q.2 z2] at e1
            subst e1
            obtain ⟨v, u, o, B, h1, h2, h3, h4, h5, o', h6⟩ := s.slot j _ e0
            rw [hr] at h2; cases h2
            obtain ⟨k1, o2, k2⟩ := keep p' z2
            exact ⟨v, w, o1, A, h1, hr, k1.trans h3, hr2, hrA, o2, k2⟩
          · rw [if_pos ⟨rfl, z2⟩] at e1
            subst e1
            trivial
        · rw [if_neg fun q => z q.1] at e1
          exact old t (by rw [← e1]; exact (show (if r' = r then SV.dead else .als r' p') = _ from if_neg z))
      | _ => exact old t e1
  · by_cases hj : j = r
    · subst hj
      obtain ⟨o', h2⟩ := hio o e
      exact ⟨rfl, o', by rw [List.getElem?_set_self (by rw [killP_len]; exact hlen), h2]⟩
    · exact ⟨rfl, o, by rw [List.getElem?_set_ne (Ne.symm hj), killP_get, e]; rfl⟩
theorem tabs_upd (t : LamX.Tabs T H) {a : Addr} {u u' : HO} (e : H a = some u) (hu : ownable u = true) : LamX.Tabs T (upd H a u') := fun p hp => by
  obtain ⟨ps, h1, h2, h3⟩ := t p hp
  refine ⟨ps, ?_, h2, fun pos cv q => ?_⟩
  · rw [upd_ne]
    · exact h1
    · intro z; rw [z, e] at h1; cases h1; cases hu
  · obtain ⟨c, h4, h5⟩ := h3 pos cv q
    refine ⟨c, h4, ?_⟩
    rw [upd_ne]
    · exact h5
    · intro z; rw [z, e] at h5; cases h5; cases hu
/-- THE CHANGE of a part, in its place -/
theorem Go.node (sa : Sta K T F H σ env ω) (p1 : PX T F H F1 H1) (hr : σ[r]? = some (some w)) (hq : rootO env r = some o) (hw : o.walk p = some n) :
    ∃ v' B, vWalk H1 w p = some v' ∧ Ro K F1 H1 v' n B ∧ B.Nodup ∧ (∀ b ∈ B, H b ≠ none) ∧ ∀ (a : Addr) (u : HO) (n' : O) (B' : List Addr), a ∈ B → (∀ xs, u ≠ .tup xs) → Ro K F1 (upd H1 a u) v' n' B' → B'.Nodup → (∀ b ∈ B', b ∈ B ∨ H b = none) →
      ∃ ω', Go K T F H σ env ω F1 (upd H1 a u) σ (mutS env r p n') ω' := by
  have hslot : ∃ A, Ro K F H w o A ∧ A.Nodup ∧ (∀ a ∈ A, ω a = some r) ∧ r < env.length := by
    unfold rootO at hq
    split at hq
    · rename_i o' q
      cases hq
      obtain ⟨v, A, h1, h2, h3, h4⟩ := sa.slot r _ q
      rw [hr] at h1; cases h1
      exact ⟨A, h2, h3, h4, own_len q⟩
    · rename_i o' q
      cases hq
      obtain ⟨v, A, h1, h2, h3, h4⟩ := sa.slot r _ q
      rw [hr] at h1; cases h1
      exact ⟨A, h2, h3, h4, own_len q⟩
    · cases hq
  obtain ⟨A, h2, h3, h4, hlen⟩ := hslot
  have r1 := h2.px p1
  obtain ⟨v', A1, B, A2, e1, e2, e3, e4, e5⟩ := focus p1.gl.sub r1 hw
  subst e2
  have nd := List.nodup_append.mp h3
  have nd2 := List.nodup_append.mp nd.1
  refine ⟨v', B, e1, e3, nd2.2.1, fun b hb => ?_, fun a u n' B' ha hu hr' hn' hB' => ⟨ωset ω r (A1 ++ B' ++ A2), ?_⟩⟩
  · obtain ⟨_, u, h, _⟩ := h2.mem b (by simp [hb])
    rw [h]; exact fun z => by cases z
  obtain ⟨fa, ua, ha1, ha2⟩ := e3.mem a ha
  have wa : ω a = some r := h4 a (by simp [ha])
  have na : ∀ b ∈ A1 ++ A2, b ≠ a := fun b hb z => by
    subst z
    rcases List.mem_append.mp hb with q | q
    · exact nd2.2.2 b q b ha rfl
    · exact nd.2.2 b (by simp [ha]) b q rfl
  have mem1 : ∀ b ∈ A1 ++ A2, F1 b = none := fun b hb => (r1.mem b (by
    rcases List.mem_append.mp hb with q | q
    · simp [q]
    · simp [q])).1
  have whole := e4 F1 (upd H1 a u) n' B' (fun _ _ e => e) (fun b hb => ⟨mem1 b hb, upd_ne (na b hb)⟩) hr'
  have old : ∀ b ∈ A1 ++ A2, H b ≠ none := fun b hb => by
    obtain ⟨_, u, h, _⟩ := h2.mem b (by
      rcases List.mem_append.mp hb with q | q
      · simp [q]
      · simp [q])
    rw [h]; exact fun z => by cases z
  have nB' : ∀ b ∈ B', b ∉ A1 ∧ b ∉ A2 := fun b hb => by
    rcases hB' b hb with q | q
    · exact ⟨fun z => nd2.2.2 b z b q rfl, fun z => nd.2.2 b (by simp [q]) b z rfl⟩
    · exact ⟨fun z => old b (by simp [z]) q, fun z => old b (by simp [z]) q⟩
  have nodup : (A1 ++ B' ++ A2).Nodup := by
    refine nodup_app (nodup_app nd2.1 hn' fun b hb z => (nB' b z).1 hb) nd.2.1 fun b hb z => ?_
    rcases List.mem_append.mp hb with q | q
    · exact nd.2.2 b (by simp [q]) b z rfl
    · exact (nB' b q).2 z
  have hA' : ∀ b ∈ A1 ++ B' ++ A2, ω b = some r ∨ H b = none := fun b hb => by
    rcases List.mem_append.mp hb with q | q
    · rcases List.mem_append.mp q with q | q
      · exact .inl (h4 b (by simp [q]))
      · rcases hB' b q with q | q
        · exact .inl (h4 b (by simp [q]))
        · exact .inr q
    · exact .inl (h4 b (by simp [q]))
  have rc : Rc T F H ω r F1 (upd H1 a u) := by
    have c := Rc.px (i := r) sa p1
    have hna : ∀ b, ω b ≠ some r → b ≠ a := fun b h z => h (by rw [z]; exact wa)
    refine ⟨c.f, fun b x e1 e2 e3 => by rw [upd_ne (hna b (by rw [e2]; exact fun z => by cases z))]; exact c.h b x e1 e2 e3, c.new, fun b h => ?_, fun b ps e => ?_, ⟨fun b x e q => ?_, c.gl.notbl, fun b vs e => ?_, tabs_upd c.gl.tab ha1 ha2⟩, fun b j e hj => ?_⟩
    · by_cases z : b = a
      · rw [z, upd_same]; exact fun z => by cases z
      · rw [upd_ne z]; exact c.trk b h
    · obtain ⟨ps', h⟩ := c.tb b ps e
      refine ⟨ps', ?_⟩
      rw [upd_ne]
      · exact h
      · intro z; rw [z, ha1] at h; cases h; cases ha2
    · rw [upd_ne fun z => by rw [z, fa] at e; cases e]
      exact c.gl.sub b x e q
    · by_cases z : b = a
      · rw [z, upd_same] at e; cases e; exact absurd rfl (hu vs)
      · rw [upd_ne z] at e; exact c.gl.tup b vs e
    · obtain ⟨h5, h6⟩ := c.oth b j e hj
      exact ⟨h5, by rw [upd_ne (hna b (by rw [e]; exact fun z => hj (Option.some.inj z)))]; exact h6⟩
  have keep : ∀ p', p' <+: p → vWalk (upd H1 a u) w p' = vWalk H w p' ∧ ∃ o', (o.putW p n').walk p' = some o' := fun p' hp => by
    refine ⟨?_, walk_put hw p' hp⟩
    rw [e5 (upd H1 a u) rc.gl.sub (fun b hb => upd_ne (na b hb)) p' hp]
    obtain ⟨q, hq⟩ := hp
    have := walk_pre (hq ▸ hw)
    obtain ⟨o', ho'⟩ := this
    exact vWalk_keep sa.gl.sub ((SubN.of p1.f).trans p1.gl.sub) h2 ho' fun b hb => by
      obtain ⟨_, x, h5, h6⟩ := h2.mem b hb
      rw [h5, p1.h b x h5 (own_ntbl h6)]
  unfold mutS
  unfold rootO at hq
  split at hq
  · rename_i o' q
    cases hq
    exact Go.slotP sa rc hr hlen (sv := .own _) ⟨whole, nodup⟩ hA' (fun o e => by rw [q] at e; cases e) (.inl rfl) keep
  · rename_i o' q
    cases hq
    exact Go.slotP sa rc hr hlen (sv := .io _) ⟨whole, nodup⟩ hA' (fun o e => ⟨_, rfl⟩) (.inr rfl) keep
  · cases hq
end
end VL
namespace VL
open PySem PySem.Spec PyProof.Rows L2
abbrev Qm := Env → Option (Nat × List Stp)
def okQ (env : Env) (q : Nat × List Stp) : Option O := (rootO env q.1).bind fun o => o.walk q.2
def tQ (K : PySem.W.Frag) (T : Tab) (q : Qm) : TE := fun σ H Q => ∃ F env ω, Sta K T F H σ env ω ∧ ∃ r p n, q env = some (r, p) ∧ okQ env (r, p) = some n ∧
  ∀ v w F' H' B, PX T F H F' H' → σ[r]? = some (some w) → vWalk H' w p = some v → Ro K F' H' v n B → Q v H'
/-- e is a path into what is one's own -/
def QE (X : Cx) (T : Tab) (e : Expr) (q : Qm) : Prop := PE X e (tQ X.K T q)
def qVar (i : Nat) : Qm := fun env => match env[i]? with
  | some (.own _) => some (i, [])
  | some (.io _) => some (i, [])
  | some (.als r p) => some (r, p)
  | _ => none
def stpOf : O → D → Option Stp
  | .lst os, .int i => (ixN os.length i).map .ix
  | .tup os, .int i => (ixN os.length i).map .ix
  | .dct _, d => d.key.map .key
  | _, _ => none
def qIx (q : Qm) (m : Em) : Qm := fun env => (q env).bind fun rp => (okQ env rp).bind fun n => (m env).bind fun o => (stpOf n o.toD).bind fun s => if (n.step s).isSome = true then some (rp.1, rp.2 ++ [s]) else none
section
variable {K : PySem.W.Frag} {T : Tab} {F H F1 H1 : Hp} {σ : L2.St} {env : Env} {ω : Own} {v w : V} {o n : O} {r : Nat} {p : List Stp}
theorem sta_root (sa : Sta K T F H σ env ω) (h : okQ env (r, p) = some n) : ∃ w A o, σ[r]? = some (some w) ∧ rootO env r = some o ∧ Ro K F H w o A ∧ o.walk p = some n := by
  obtain ⟨o, h1, h2⟩ := Option.bind_eq_some_iff.mp h
  have h0 := h1
  unfold rootO at h1
  simp only at h1
  split at h1
  · rename_i o' q
    cases h1
    obtain ⟨w, A, e1, e2, _, _⟩ := sa.slot r _ q
    exact ⟨w, A, _, e1, h0, e2, h2⟩
  · rename_i o' q
    cases h1
    obtain ⟨w, A, e1, e2, _, _⟩ := sa.slot r _ q
    exact ⟨w, A, _, e1, h0, e2, h2⟩
  · cases h1
theorem vWalk_snoc {s : Stp} : ∀ {p : List Stp} {w v u : V}, vWalk H w p = some v → vStep H v s = some u → vWalk H w (p ++ [s]) = some u
  | [], w, v, u, e1, e2 => by
    have e1 : w = v := by simpa [vWalk] using e1
    subst e1
    show (vStep H w s).bind _ = _
    rw [e2]; rfl
  | t :: p, w, v, u, e1, e2 => by
    rw [List.cons_append]
    unfold vWalk at e1 ⊢
    obtain ⟨x, h1, h2⟩ := Option.bind_eq_some_iff.mp e1
    rw [h1]
    exact vWalk_snoc h2 e2
theorem walk_snoc {s : Stp} : ∀ {p : List Stp} {o n n' : O}, o.walk p = some n → n.step s = some n' → o.walk (p ++ [s]) = some n'
  | [], o, n, n', e1, e2 => by
    have e1 : o = n := by simpa [O.walk] using e1
    subst e1
    show (o.step s).bind _ = _
    rw [e2]; rfl
  | t :: p, o, n, n', e1, e2 => by
    rw [List.cons_append]
    unfold O.walk at e1 ⊢
    obtain ⟨x, h1, h2⟩ := Option.bind_eq_some_iff.mp e1
    rw [h1]
    exact walk_snoc h2 e2
theorem okQ_snoc {s : Stp} {n' : O} (h : okQ env (r, p) = some n) (e : n.step s = some n') : okQ env (r, p ++ [s]) = some n' := by
  obtain ⟨o, h1, h2⟩ := Option.bind_eq_some_iff.mp h
  unfold okQ
  rw [h1]
  exact walk_snoc h2 e
end
section
variable {X : Cx} {T : Tab} {a b c o : Expr} {m mi : Em} {pos p2 : Pos} {q : Qm} {f : Str}
theorem q_var (i : Nat) {x : Str} (hN : X.N[i]? = some x := by rfl) (hv : Vis X.env.scope x := by first | exact Or.inl rfl | exact Or.inr (Or.inl rfl) | exact Or.inr (Or.inr rfl)) (hd : (x == ("__debug__" : Str)) = false := by decide)
    (hcd : (x == ("__classdict__" : Str)) = false := by decide) : QE X T (.Name x pos) (qVar i) := by
  refine peI (pe_var hN hv hd hcd) fun σ H Q h => ?_
  obtain ⟨F, env, ω, s, r, p, n, e1, e2, k⟩ := h
  obtain ⟨w, A, o, h1, h2, h3, h4⟩ := sta_root s e2
  obtain ⟨v, B, h5, h6⟩ := walk_ro s.gl.sub h3 h4
  unfold qVar at e1
  split at e1
  · cases e1
    cases h5
    exact ⟨_, h1, k _ _ F H _ (.refl s.gl) h1 rfl h6⟩
  · cases e1
    cases h5
    exact ⟨_, h1, k _ _ F H _ (.refl s.gl) h1 rfl h6⟩
  · rename_i r' p' z
    cases e1
    obtain ⟨v', w', _, _, g1, g2, g3, _⟩ := s.slot i _ z
    rw [h1] at g2; cases g2
    rw [g3] at h5; cases h5
    exact ⟨v, g1, k _ _ F H _ (.refl s.gl) h1 g3 h6⟩
  · cases e1
theorem q_ix (hu : X.A.units + 64 < cLine) (ha : QE X T a q) (hi : BE X T b mi) (hs : PlainIx b := by exact fun _ _ => rfl) : QE X T (.Subscript a b pos) (qIx q mi) := by
  refine peI (peOr (pe_ix ix_seq ha hi hs) (pe_dget (by omega) ha hi hs)) fun σ H Q h => ?_
  obtain ⟨F, env, ω, s, r, p, n, e1, e2, k⟩ := h
  obtain ⟨⟨r', p'⟩, e3, e1⟩ := Option.bind_eq_some_iff.mp e1
  obtain ⟨n0, e4, e1⟩ := Option.bind_eq_some_iff.mp e1
  obtain ⟨o, e5, e1⟩ := Option.bind_eq_some_iff.mp e1
  obtain ⟨st, e6, e1⟩ := Option.bind_eq_some_iff.mp e1
  split at e1
  · rename_i z
    cases e1
    obtain ⟨n', e7⟩ := Option.isSome_iff_exists.mp z
    have : n' = n := by
      have := okQ_snoc e4 e7
      rw [e2] at this; cases this; rfl
    subst this
    have common : ∀ (v w : V) (F1 H1 : Hp) (B : List Addr), PX T F H F1 H1 → σ[r']? = some (some w) → vWalk H1 w p' = some v → Ro X.K F1 H1 v n0 B → ∀ u F2 H2, PX T F1 H1 F2 H2 → VwO X.K F2 H2 u o → ∃ v2 B2, vStep H2 v st = some v2 ∧ Ro X.K F2 H2 v n0 B ∧ Ro X.K F2 H2 v2 n' B2 ∧ Q v2 H2 := fun v w F1 H1 B p1 h1 h2 h3 u F2 H2 p2 h4 => by
      have h3' := h3.px p2
      obtain ⟨v2, B2, g1, g2⟩ := step_ro h3' p2.gl.sub e7
      exact ⟨v2, B2, g1, h3', g2, k v2 w F2 H2 B2 (p1.trans p2) h1 (vWalk_snoc (vWalk_ext p2.h h2) g1) g2⟩
    generalize hy : o.toD = d at e6
    unfold stpOf at e6
    split at e6
    · obtain ⟨j, e8, e9⟩ := Option.map_eq_some_iff.mp e6
      subst e9
      refine .inl ⟨F, env, ω, s, r', p', _, e3, e4, fun v w F1 H1 B p1 h1 h2 h3 => ⟨F1, env, ω, s.px p1, o, e5, fun u F2 H2 p2 h4 => ?_⟩⟩
      obtain ⟨v2, B2, g1, g2, g3, g4⟩ := common v w F1 H1 B p1 h1 h2 h3 u F2 H2 p2 h4
      have hy2 := h4.vw p2.gl
      rw [hy] at hy2
      cases hy2
      cases g2 with
      | lst f h l =>
        refine .inl ⟨_, _, _, v2, rfl, rfl, .of h, ?_, g4⟩
        have hv := g1
        simp only [vStep, h] at hv
        show (ixN _ _).bind _ = _
        rw [l.length, e8]
        exact hv
    · obtain ⟨j, e8, e9⟩ := Option.map_eq_some_iff.mp e6
      subst e9
      refine .inl ⟨F, env, ω, s, r', p', _, e3, e4, fun v w F1 H1 B p1 h1 h2 h3 => ⟨F1, env, ω, s.px p1, o, e5, fun u F2 H2 p2 h4 => ?_⟩⟩
      obtain ⟨v2, B2, g1, g2, g3, g4⟩ := common v w F1 H1 B p1 h1 h2 h3 u F2 H2 p2 h4
      have hy2 := h4.vw p2.gl
      rw [hy] at hy2
      cases hy2
      cases g2 with
      | tup h l =>
        have h' := p2.gl.sub.at h (fun _ z => by cases z) rfl
        refine .inr (.inl ⟨_, _, _, v2, rfl, rfl, .of h', ?_, g4⟩)
        have hv := g1
        simp only [vStep, h'] at hv
        show (ixN _ _).bind _ = _
        rw [l.length, e8]
        exact hv
    · obtain ⟨kk, e8, e9⟩ := Option.map_eq_some_iff.mp e6
      subst e9
      refine .inr ⟨F, env, ω, s, r', p', _, e3, e4, fun v w F1 H1 B p1 h1 h2 h3 => ⟨F1, env, ω, s.px p1, o, e5, fun u F2 H2 p2 h4 => ?_⟩⟩
      obtain ⟨v2, B2, g1, g2, g3, g4⟩ := common v w F1 H1 B p1 h1 h2 h3 u F2 H2 p2 h4
      cases g2 with
      | dct f h ek l =>
        have hy2 := h4.vw p2.gl
        rw [hy] at hy2
        refine ⟨_, v2, rfl, .inl ⟨_, kk, .inl h, hy2.key e8, ?_⟩, g4⟩
        have hv := g1
        simp only [vStep, h] at hv
        exact hv.symm
    · cases e6
  · cases e1
end
end VL
namespace VL
open PySem PySem.Spec PyProof.Rows L2
/-- a method changes the part n into f n os; os: what comes in, one's own -/
def Act (K : PySem.W.Frag) (T : Tab) (r : V → List V → Hp → VK → Prop) (f : O → List O → Option O) : Prop := ∀ (F H : Hp) (v : V) (n n' : O) (B : List Addr) (xs : List V) (os : List O) (A : List Addr) (Q : VK), Gl T F H → Ro K F H v n B → B.Nodup → RoL K F H xs os A → A.Nodup → (∀ a ∈ A, a ∉ B) → f n os = some n' →
  (∀ (a : Addr) (u : HO) (B' : List Addr), a ∈ B → (∀ ys, u ≠ .tup ys) → Ro K F (upd H a u) v n' B' → B'.Nodup → (∀ b ∈ B', b ∈ B ∨ b ∈ A) → Q .non (upd H a u)) → r v xs H Q
def isLst : O → Bool
  | .lst _ => true
  | _ => false
theorem ty_lst {K : PySem.W.Frag} {F H : Hp} {v : V} {n : O} {B : List Addr} (r : Ro K F H v n B) (hl : isLst n = true) : tyV K "list" v H := by
  cases r with
  | lst f h l => exact .inl ⟨rfl, _, .of h⟩
  | _ => cases hl
def sAct (f : O → List O → Option O) (q : Qm) (m : Es) : Sm := fun env => (q env).bind fun rp => (okQ env rp).bind fun n => if isLst n = true then (m env).bind fun os => (f n os).map fun n' => .nx (mutS env rp.1 rp.2 n') else none
section
variable {X : Cx} {T : Tab} {o e : Expr} {es : List Expr} {m : Es} {q : Qm} {r : V → List V → Hp → VK → Prop} {f : O → List O → Option O} {name : Str} {id : String} {apos cpos pos : Pos}
theorem root_of {env : Env} {r : Nat} {p : List Stp} {n : O} (h : okQ env (r, p) = some n) : ∃ o, rootO env r = some o ∧ o.walk p = some n := by
  obtain ⟨o, h1, h2⟩ := Option.bind_eq_some_iff.mp h
  exact ⟨o, h1, h2⟩
theorem ss_pm (hq : QE X T o q) (ha : FA X T (e :: es) m) (act : Act X.K T r f) (slot : Slot "list" name id) (hty : typeOf (.builtin id) = pure (.type "method_descriptor")) (hm : MtR X id r)
    (hbase : attributeBase o name X.env (eval o X.env) = eval o X.env := by rfl)
    (hfew : ((backTo cpos (starEach (e :: es) X.env)).all (fun x => !x.1) && (backToKw cpos (keywordEach [] X.env)).all (fun x => x.1.isSome)
      && decide ((e :: es).length + ([] : List Keyword).length + (if ([] : List Keyword).isEmpty then 0 else 1) < 30)) = true := by rfl)
    (hline : (apos.endLine == cpos.line) = true := by rfl) (hs : starEach (e :: es) X.env = (false, eval e X.env) :: starEach es X.env := by rfl) (hplain : (backTo cpos (starEach es X.env)).any (·.1) = false := by rfl)
    (hsw : swapsWith (.Call (.Attribute o name apos) (e :: es) [] cpos) none pos.line X.env = pure false := by rfl) :
    SS X T (.Expr (.Call (.Attribute o name apos) (e :: es) [] cpos) pos) (sAct f q m) :=
  psI (ps_expr (pe_bm PySem.F.plainAttrs_list slot hty hm hq ha hbase hfew hline hs hplain) hsw) fun D σ H z => by
    obtain ⟨F, env, ω, sa, out, e1, k⟩ := z
    obtain ⟨⟨r', p'⟩, e2, e1⟩ := Option.bind_eq_some_iff.mp e1
    obtain ⟨n, e3, e1⟩ := Option.bind_eq_some_iff.mp e1
    split at e1
    · rename_i hl
      obtain ⟨os, e4, e1⟩ := Option.bind_eq_some_iff.mp e1
      obtain ⟨n', e5, e6⟩ := Option.map_eq_some_iff.mp e1
      subst e6
      refine ⟨F, env, ω, sa, r', p', n, e2, e3, fun v w F1 H1 B p1 h1 h2 h3 => ⟨ty_lst h3 hl, F1, env, ω, sa.px p1, os, e4, fun vs F2 H2 A p2 h4 n4 f4 => ?_⟩⟩
      obtain ⟨o', g1, g2⟩ := root_of e3
      obtain ⟨v', B', g3, g4, g5, g6, g7⟩ := Go.node sa (p1.trans p2) h1 g1 g2
      have : v' = v := by
        have := vWalk_ext p2.h h2
        rw [g3] at this; exact Option.some.inj this
      subst this
      refine act F2 H2 v' n n' B' vs os A _ p2.gl g4 g5 h4 n4 (fun a ha hb => g6 a hb (p1.free (f4 a ha))) e5 fun a u B2 ha hu hr hn hB => ?_
      obtain ⟨ω', g⟩ := g7 a u n' B2 ha hu hr hn fun b hb => (hB b hb).imp_right fun z => p1.free (f4 b z)
      exact k _ _ _ _ g
    · cases e1
end
section
variable {K : PySem.W.Frag} {T : Tab} {F H : Hp}
theorem RoL.upd {a : Addr} {u : HO} {vs : List V} {os : List O} {A : List Addr} (l : RoL K F H vs os A) (h : a ∉ A) : RoL K F (upd H a u) vs os A :=
  l.keep (fun _ _ e => e) fun b hb => ⟨(l.mem b hb).1, upd_ne fun z => h (by rw [← z]; exact hb)⟩
def aAppend : O → List O → Option O
  | .lst os, [o] => if os.length < 16777216 then some (.lst (os ++ [o])) else none
  | _, _ => none
theorem act_append : Act K T rAppend aAppend := by
  intro F H v n n' B xs os A Q gl r nB l nA dis e k
  unfold aAppend at e
  split at e
  · rename_i os o
    split at e
    · rename_i hlen
      cases e
      cases r with
      | @lst a vs _ A0 f h l0 =>
        cases l with
        | cons hr hnil =>
          cases hnil
          rename_i x A1
          obtain ⟨nb1, nb2⟩ := List.nodup_cons.mp nB
          have l1 := RoL.one hr
          have nA' : A1.Nodup := by simpa using nA
          have ne : a ∉ A1 := fun z => dis a (by simpa using z) (by simp)
          refine ⟨a, vs, x, rfl, rfl, h, by rw [sizeLine_eq, l0.length]; exact hlen, k a _ (a :: (A0 ++ A1)) (by simp) (fun _ z => by cases z) (.lst f upd_same ((l0.upd nb1).append (l1.upd ne))) ?_ fun b hb => ?_⟩
          · refine List.nodup_cons.mpr ⟨fun z => ?_, nodup_app nb2 nA' fun b h1 h2 => dis b (by simpa using h2) (by simp [h1])⟩
            rcases List.mem_append.mp z with z | z
            · exact nb1 z
            · exact ne z
          · rcases List.mem_cons.mp hb with z | z
            · exact .inl (by simp [z])
            · rcases List.mem_append.mp z with z | z
              · exact .inl (by simp [z])
              · exact .inr (by simpa using z)
    · cases e
  · cases e
theorem RoL.rev : ∀ {vs : List V} {os : List O} {A : List Addr}, RoL K F H vs os A → A.Nodup → ∃ A', RoL K F H vs.reverse os.reverse A' ∧ A'.Nodup ∧ ∀ a, a ∈ A' ↔ a ∈ A
  | _, _, _, .nil, _ => ⟨[], .nil, .nil, fun _ => Iff.rfl⟩
  | _, _, _, .cons (A := A) (B := B) r t, nd => by
    have nd := List.nodup_append.mp nd
    obtain ⟨A', h1, h2, h3⟩ := RoL.rev t nd.2.1
    refine ⟨A' ++ A, by rw [List.reverse_cons, List.reverse_cons]; exact h1.append (.one r), nodup_app h2 nd.1 fun a ha hb => nd.2.2 a hb a ((h3 a).mp ha) rfl, fun a => ?_⟩
    rw [List.mem_append, List.mem_append, h3 a]
    exact Or.comm
end
end VL
namespace VL
open PySem PySem.Spec PyProof.Rows L2
def sAls (i : Nat) (q : Qm) : Sm := fun env => (q env).bind fun rp => (okQ env rp).bind fun _ => if isIo env[i]? = true ∨ rp.1 = i ∨ ¬ i < env.length then none else some (.nx ((killA i env).set i (.als rp.1 rp.2)))
section
variable {K : PySem.W.Frag} {T : Tab} {F H F1 H1 : Hp} {σ : L2.St} {env : Env} {ω : Own} {v w : V} {o n : O} {i r : Nat} {p : List Stp}
theorem Go.als (sa : Sta K T F H σ env ω) (px : PX T F H F1 H1) (hi : i < env.length) (hio : isIo env[i]? = false) (hri : r ≠ i) (hr : σ[r]? = some (some w)) (hv : vWalk H1 w p = some v) (ok : okQ env (r, p) = some n) :
    Go K T F H σ env ω F1 H1 (σ.set i (some v)) ((killA i env).set i (.als r p)) (ωset ω i []) := by
  have g := Go.slot (v := v) (A := []) (sv := .dead) sa (.px sa px) hi rfl (fun _ z => by cases z) fun o e => absurd e (not_io hio o)
  refine ⟨⟨g.sta.gl, by rw [List.length_set, List.length_set, killA_len]; exact sa.len, fun j t e => ?_, g.sta.og⟩, g.ex, fun j o e => ?_⟩
  · by_cases hj : j = i
    · subst hj
      rw [List.getElem?_set_self (by rw [killA_len]; exact hi)] at e
      cases e
      obtain ⟨o', h1, h2⟩ := root_of ok
      have hr' : (σ.set j (some v))[r]? = some (some w) := by rw [List.getElem?_set_ne (Ne.symm hri)]; exact hr
      have he : ∀ t, env[r]? = some t → (∀ r' p', t ≠ .als r' p') → ((killA j env).set j SV.dead)[r]? = some t := fun t e1 nz => by
        rw [List.getElem?_set_ne (Ne.symm hri), killA_get, e1, Option.map_some]
        cases t with
        | als r' p' => exact absurd rfl (nz r' p')
        | _ => rfl
      unfold rootO at h1
      split at h1
      · rename_i o2 q
        cases h1
        obtain ⟨w', A, e1, e2, e3, e4⟩ := g.sta.slot r _ (he _ q fun _ _ z => by cases z)
        rw [hr'] at e1; cases e1
        exact ⟨v, w, _, A, List.getElem?_set_self (by rw [sa.len]; exact hi), hr', hv, e2, e4, n, h2⟩
      · rename_i o2 q
        cases h1
        obtain ⟨w', A, e1, e2, e3, e4⟩ := g.sta.slot r _ (he _ q fun _ _ z => by cases z)
        rw [hr'] at e1; cases e1
        exact ⟨v, w, _, A, List.getElem?_set_self (by rw [sa.len]; exact hi), hr', hv, e2, e4, n, h2⟩
      · cases h1
    · refine g.sta.slot j t ?_
      rw [List.getElem?_set_ne (Ne.symm hj)] at e ⊢
      exact e
  · obtain ⟨h1, o', h2⟩ := g.io j o e
    have hj : j ≠ i := fun z => not_io hio o (by rw [← z]; exact e)
    refine ⟨h1, o', ?_⟩
    rw [List.getElem?_set_ne (Ne.symm hj)] at h2 ⊢
    exact h2
end
section
variable {X : Cx} {T : Tab} {e o : Expr} {m mi : Em} {q : Qm} {pos : Pos}
end
section
variable {K : PySem.W.Frag} {F H : Hp} {κ : Type} [DecidableEq κ]
theorem ro_repl {v : V} {o : O} {B : List Addr} {k : κ} (r : Ro K F H v o B) (nB : B.Nodup) : ∀ {kvs : List (κ × V)} {kos : List (κ × O)} {A : List Addr}, kvs.map Prod.fst = kos.map Prod.fst → (kos.map Prod.fst).Nodup → RoL K F H (kvs.map Prod.snd) (kos.map Prod.snd) A → A.Nodup → (∀ a ∈ A, a ∉ B) →
    ((kvs.map fun kv => if kv.1 = k then (kv.1, v) else kv).map Prod.fst = (kos.map fun kv => if kv.1 = k then (kv.1, o) else kv).map Prod.fst ∧ (kos.map fun kv => if kv.1 = k then (kv.1, o) else kv).map Prod.fst = kos.map Prod.fst) ∧
    ∃ A', RoL K F H ((kvs.map fun kv => if kv.1 = k then (kv.1, v) else kv).map Prod.snd) ((kos.map fun kv => if kv.1 = k then (kv.1, o) else kv).map Prod.snd) A' ∧ A'.Nodup ∧ (∀ a ∈ A', a ∈ A ∨ a ∈ B) ∧ ((k ∉ kos.map Prod.fst) → A' = A)
  | [], [], _, _, _, l, nA, _ => by
    cases l
    exact ⟨⟨rfl, rfl⟩, [], .nil, .nil, (fun a ha => nomatch ha), fun _ => rfl⟩
  | [], _ :: _, _, e, _, _, _, _ => by simp at e
  | _ :: _, [], _, e, _, _, _, _ => by simp at e
  | (pk, pv) :: kvs, (qk, qo) :: kos, A, e, nd, l, nA, dis => by
    simp only [List.map_cons, List.cons.injEq] at e nd l ⊢
    obtain ⟨e1, e2⟩ := e
    subst e1
    obtain ⟨nd1, nd2⟩ := List.nodup_cons.mp nd
    cases l with
    | @cons _ _ _ _ A1 A2 hr ht =>
      have nA := List.nodup_append.mp nA
      obtain ⟨⟨h1, h2⟩, A', h3, h4, h5, h6⟩ := ro_repl (k := k) r nB e2 nd2 ht nA.2.1 fun a ha => dis a (by simp [ha])
      by_cases z : pk = k
      · subst z
        rw [h6 nd1] at h3
        refine ⟨⟨⟨by simp, h1⟩, ⟨by simp, h2⟩⟩, B ++ A2, by simpa using RoL.cons r h3, nodup_app nB nA.2.1 fun a h1 h2 => dis a (by simp [h2]) h1, fun a ha => ?_, fun z => absurd (by simp) z⟩
        rcases List.mem_append.mp ha with q | q
        · exact .inr q
        · exact .inl (by simp [q])
      · refine ⟨⟨⟨by simp [z], h1⟩, ⟨by simp [z], h2⟩⟩, A1 ++ A', by simpa [z] using RoL.cons hr h3, nodup_app nA.1 h4 fun a h7 h8 => ?_, fun a ha => ?_, fun q => ?_⟩
        · rcases h5 a h8 with q | q
          · exact nA.2.2 a h7 a q rfl
          · exact dis a (by simp [h7]) q
        · rcases List.mem_append.mp ha with q | q
          · exact .inl (by simp [q])
          · rcases h5 a q with q | q
            · exact .inl (by simp [q])
            · exact .inr q
        · rw [h6 fun y => q (List.mem_cons_of_mem _ y)]
theorem any_eq {kvs : List (κ × V)} {kos : List (κ × O)} {k : κ} (e : kvs.map Prod.fst = kos.map Prod.fst) : (kvs.any fun kv => decide (kv.1 = k)) = kos.any fun kv => decide (kv.1 = k) := by
  have h1 : (kvs.any fun kv => decide (kv.1 = k)) = (kvs.map Prod.fst).any fun j => decide (j = k) := by rw [List.any_map]; rfl
  have h2 : (kos.any fun kv => decide (kv.1 = k)) = (kos.map Prod.fst).any fun j => decide (j = k) := by rw [List.any_map]; rfl
  rw [h1, h2, e]
theorem ro_put {v : V} {o : O} {A B : List Addr} {k : κ} {kvs : List (κ × V)} {kos : List (κ × O)} (r : Ro K F H v o B) (nB : B.Nodup) (e : KyEq kvs kos) (l : RoL K F H (kvs.map Prod.snd) (kos.map Prod.snd) A) (nA : A.Nodup) (dis : ∀ a ∈ A, a ∉ B) :
    KyEq (putK kvs k v) (putA kos k o) ∧ ∃ A', RoL K F H ((putK kvs k v).map Prod.snd) ((putA kos k o).map Prod.snd) A' ∧ A'.Nodup ∧ ∀ a ∈ A', a ∈ A ∨ a ∈ B := by
  unfold putK putA
  rw [any_eq e.eq]
  by_cases h : (kos.any fun kv => decide (kv.1 = k)) = true
  · rw [if_pos h, if_pos h]
    obtain ⟨⟨h1, h2⟩, A', h3, h4, h5, _⟩ := ro_repl (k := k) r nB e.eq e.nd l nA dis
    exact ⟨⟨h1, by rw [h2]; exact e.nd⟩, A', h3, h4, h5⟩
  · rw [if_neg h, if_neg h]
    refine ⟨⟨by simp [e.eq], ?_⟩, A ++ B, by simpa using l.append (.one r), nodup_app nA nB dis, fun a ha => List.mem_append.mp ha⟩
    rw [List.map_append]
    refine List.nodup_append.mpr ⟨e.nd, by simp, fun a ha b hb z => h ?_⟩
    have hb : b = k := by simpa using hb
    subst hb z
    obtain ⟨p, hp, rfl⟩ := List.mem_map.mp ha
    exact List.any_eq_true.mpr ⟨p, hp, by simp⟩
end
/-- n[d] = o -/
def putN : O → D → O → Option O
  | .lst os, .int i, o => (ixN os.length i).map fun j => .lst (os.set j o)
  | .dct kos, d, o => (d.key).bind fun k => if kos.length < 16777216 then some (.dct (putA kos k o)) else none
  | .dtt kos, .tup ds, o => (D.keys ds).bind fun k => if kos.length < 16777216 then some (.dtt (putA kos k o)) else none
  | _, _, _ => none
def sPut (q : Qm) (mi m : Em) : Sm := fun env => (m env).bind fun o => (q env).bind fun rp => (okQ env rp).bind fun n => (mi env).bind fun oi => (putN n oi.toD o).map fun n' => .nx (mutS env rp.1 rp.2 n')
def tsPut : TSet := fun o i v H Q => rSetL o i v H Q ∨ rSetD o i v H Q
theorem set_put {X : Cx} (hu : X.A.units + 64 < cLine) : PSet X tsPut := by
  intro pins s σ H o i v ov iv u Q I ro ri rv h
  rcases h with h | h
  · exact set_list pins s σ H o i v ov iv u Q I ro ri rv h
  · exact set_dict (by omega) pins s σ H o i v ov iv u Q I ro ri rv h
section
variable {X : Cx} {T : Tab} {a b e : Expr} {m mi : Em} {q : Qm} {pos p2 : Pos}
theorem putN_run {K : PySem.W.Frag} {T : Tab} {F H : Hp} {v vi x : V} {n n' o oi : O} {A B : List Addr} {Q : Hp → Prop} (gl : Gl T F H) (r : Ro K F H v n B) (nB : B.Nodup) (ri : VwO K F H vi oi) (rx : Ro K F H x o A) (nA : A.Nodup) (dis : ∀ a ∈ A, a ∉ B) (e : putN n oi.toD o = some n')
    (k : ∀ (a : Addr) (u : HO) (B' : List Addr), a ∈ B → (∀ ys, u ≠ .tup ys) → Ro K F (upd H a u) v n' B' → B'.Nodup → (∀ b ∈ B', b ∈ B ∨ b ∈ A) → Q (upd H a u)) : tsPut v vi x H Q := by
  have hy := ri.vw gl
  generalize oi.toD = d at hy e
  unfold putN at e
  split at e
  · obtain ⟨j, e1, e2⟩ := Option.map_eq_some_iff.mp e
    subst e2
    cases hy
    cases r with
    | @lst p vs os A0 f h l =>
      obtain ⟨nb1, nb2⟩ := List.nodup_cons.mp nB
      obtain ⟨_, hj, _, _⟩ := ixN_seq e1
      obtain ⟨w, A1, B1, A2, g1, g2, g3, g4⟩ := l.at (List.getElem?_eq_getElem hj)
      subst g2
      have ne : p ∉ A := fun z => dis p z (by simp)
      have nd := List.nodup_append.mp nb2
      have nd2 := List.nodup_append.mp nd.1
      refine .inl ⟨p, vs, _, j, rfl, rfl, h, by rw [l.length]; exact e1, k p _ (p :: (A1 ++ A ++ A2)) (by simp) (fun _ z => by cases z) (.lst f upd_same ?_) ?_ fun b hb => ?_⟩
      · exact g4 F (upd H p (.lst (vs.set j x))) x o A (fun _ _ e => e) (fun b hb => ⟨(l.mem b (by
          rcases List.mem_append.mp hb with z | z
          · simp [z]
          · simp [z])).1, upd_ne fun z => nb1 (by
          rw [← z]
          rcases List.mem_append.mp hb with z | z
          · simp [z]
          · simp [z])⟩) (rx.keep (fun _ _ e => e) fun b hb => ⟨(rx.mem b hb).1, upd_ne fun z => ne (by rw [← z]; exact hb)⟩)
      · refine List.nodup_cons.mpr ⟨fun z => ?_, nodup_app (nodup_app nd2.1 nA fun b h1 h2 => dis b h2 (by simp [h1])) nd.2.1 fun b h1 h2 => ?_⟩
        · rcases List.mem_append.mp z with z | z
          · rcases List.mem_append.mp z with z | z
            · exact nb1 (by simp [z])
            · exact ne z
          · exact nb1 (by simp [z])
        · rcases List.mem_append.mp h1 with z | z
          · exact nd.2.2 b (by simp [z]) b h2 rfl
          · exact dis b z (by simp [h2])
      · rcases List.mem_cons.mp hb with z | z
        · exact .inl (by simp [z])
        · rcases List.mem_append.mp z with z | z
          · rcases List.mem_append.mp z with z | z
            · exact .inl (by simp [z])
            · exact .inr z
          · exact .inl (by simp [z])
  · obtain ⟨kk, e1, e2⟩ := Option.bind_eq_some_iff.mp e
    split at e2
    · rename_i hlen
      cases e2
      cases r with
      | @dct p kvs kos A0 f h ek l =>
        obtain ⟨nb1, nb2⟩ := List.nodup_cons.mp nB
        have ne : p ∉ A := fun z => dis p z (by simp)
        obtain ⟨g1, A', g2, g3, g4⟩ := ro_put (k := kk) rx nA ek l nb2 fun b h1 h2 => dis b h2 (by simp [h1])
        have nA' : p ∉ A' := fun z => (g4 p z).elim nb1 ne
        have hk : kvs.length < sizeLine := by
          have := congrArg List.length ek.eq
          rw [List.length_map, List.length_map] at this
          rw [this, sizeLine_eq]; exact hlen
        refine .inr ⟨p, _, rfl, .inl ⟨kvs, kk, h, hy.key e1, hk, rfl⟩, k p _ (p :: A') (by simp) (fun _ z => by cases z) (.dct f upd_same g1 (g2.upd nA')) (List.nodup_cons.mpr ⟨nA', g3⟩) fun b hb => ?_⟩
        rcases List.mem_cons.mp hb with z | z
        · exact .inl (by simp [z])
        · exact (g4 b z).imp_left fun z => by simp [z]
    · cases e2
  · obtain ⟨kk, e1, e2⟩ := Option.bind_eq_some_iff.mp e
    split at e2
    · rename_i hlen
      cases e2
      cases hy with
      | tup ht lt =>
      cases r with
      | @dtt p kvs kos A0 f h ek l =>
        obtain ⟨nb1, nb2⟩ := List.nodup_cons.mp nB
        have ne : p ∉ A := fun z => dis p z (by simp)
        obtain ⟨g1, A', g2, g3, g4⟩ := ro_put (k := kk) rx nA ek l nb2 fun b h1 h2 => dis b h2 (by simp [h1])
        have nA' : p ∉ A' := fun z => (g4 p z).elim nb1 ne
        have hk : kvs.length < sizeLine := by
          have := congrArg List.length ek.eq
          rw [List.length_map, List.length_map] at this
          rw [this, sizeLine_eq]; exact hlen
        refine .inr ⟨p, _, rfl, .inr ⟨kvs, kk, _, h, rfl, by rw [ht, lt.keys e1], hk, rfl⟩, k p _ (p :: A') (by simp) (fun _ z => by cases z) (.dtt f upd_same g1 (g2.upd nA')) (List.nodup_cons.mpr ⟨nA', g3⟩) fun b hb => ?_⟩
        rcases List.mem_cons.mp hb with z | z
        · exact .inl (by simp [z])
        · exact (g4 b z).imp_left fun z => by simp [z]
    · cases e2
  · cases e
theorem ss_put (hu : X.A.units + 64 < cLine) (hv : FE X T e m) (hq : QE X T a q) (hi : BE X T b mi)
    (ha : ∀ v, assign (.Subscript a b p2) X.env v = (do
      let ov ← holding [v] (eval a X.env)
      let iv ← holding [v, ov] (eval b X.env)
      standAt p2
      holding [v, ov, iv] (setItem ov iv v)
      release [v, ov, iv] []) := by intros; rfl)
    (hs : swapsWithSole [.Subscript a b p2] e pos.line X.env = pure false := by rfl) (hw : swappedStores [.Subscript a b p2] e X.env = pure none := by rfl)
    (h1 : (assignEach [.Subscript a b p2] X.env).map (·.2) = [assign (.Subscript a b p2) X.env] := by rfl) :
    SS X T (.Assign [.Subscript a b p2] e pos) (sPut q mi m) :=
  psI (ps_asg hv (pg_sub hq hi (set_put hu) ha) hs hw h1) fun D σ H z => by
    obtain ⟨F, env, ω, sa, out, e1, k⟩ := z
    obtain ⟨o, e2, e1⟩ := Option.bind_eq_some_iff.mp e1
    obtain ⟨⟨r', p'⟩, e3, e1⟩ := Option.bind_eq_some_iff.mp e1
    obtain ⟨n, e4, e1⟩ := Option.bind_eq_some_iff.mp e1
    obtain ⟨oi, e5, e1⟩ := Option.bind_eq_some_iff.mp e1
    obtain ⟨n', e6, e7⟩ := Option.map_eq_some_iff.mp e1
    subst e7
    refine ⟨F, env, ω, sa, o, e2, fun x F1 H1 A p1 fx => ⟨F1, env, ω, sa.px p1, r', p', n, e3, e4, fun v w F2 H2 B p2 h1 h2 h3 => ⟨F2, env, ω, (sa.px p1).px p2, oi, e5, fun vi F3 H3 p3 h4 => ?_⟩⟩⟩
    obtain ⟨o', g1, g2⟩ := root_of e4
    have p := (p1.trans p2).trans p3
    obtain ⟨v', B', g3, g4, g5, g6, g7⟩ := Go.node sa p h1 g1 g2
    have : v' = v := by
      have := vWalk_ext p3.h h2
      rw [g3] at this; exact Option.some.inj this
    subst this
    refine putN_run p.gl g4 g5 h4 ((fx.ro.px p2).px p3) fx.nd (fun a ha hb => g6 a hb (fx.new a ha)) e6 fun a u B2 ha hu hr hn hB => ?_
    obtain ⟨ω', g⟩ := g7 a u n' B2 ha hu hr hn fun b hb => (hB b hb).imp_right fun z => fx.new b z
    exact k _ _ _ _ g
end
end VL
namespace VL
open PySem PySem.Spec PyProof.Rows L2
def D.ints : List D → Option (List Int)
  | [] => some []
  | .int i :: r => (D.ints r).map fun is => i :: is
  | _ => none
def D.bls : List D → Option (List Bool)
  | [] => some []
  | .bl b :: r => (D.bls r).map fun is => b :: is
  | _ => none
section
variable {K : PySem.W.Frag} {T : Tab} {F H : Hp}
theorem VwL.intsO : ∀ {vs : List V} {ds : List D} {is : List Int}, VwL K H vs ds → D.ints ds = some is → vs = is.map V.int
  | _, [], is, l, e => by
    cases l
    have : is = [] := by simpa [D.ints] using e.symm
    subst this; rfl
  | _, d :: ds, is, l, e => by
    cases l with
    | cons h t =>
      cases d <;> simp only [D.ints] at e
      case int i =>
        obtain ⟨r, e1, e2⟩ := Option.map_eq_some_iff.mp e
        subst e2
        cases h
        rw [VwL.intsO t e1]; rfl
      all_goals cases e
theorem VwL.blsO : ∀ {vs : List V} {ds : List D} {is : List Bool}, VwL K H vs ds → D.bls ds = some is → vs = is.map V.bl
  | _, [], is, l, e => by
    cases l
    have : is = [] := by simpa [D.bls] using e.symm
    subst this; rfl
  | _, d :: ds, is, l, e => by
    cases l with
    | cons h t =>
      cases d <;> simp only [D.bls] at e
      case bl i =>
        obtain ⟨r, e1, e2⟩ := Option.map_eq_some_iff.mp e
        subst e2
        cases h
        rw [VwL.blsO t e1]; rfl
      all_goals cases e
/-- the items of a list, by ds -/
def oNums (o : O) : Option (List Int) := match o.toD with
  | .lst ds => D.ints ds
  | .scr ns => some ns
  | _ => none
theorem VwO.nums {v : V} {o : O} {ns : List Int} (h : VwO K F H v o) (g : Gl T F H) (e : oNums o = some ns) : ∃ a, v = .ref a ∧ SqL K H a (ns.map V.int) := by
  have hv := h.vw g
  generalize hd : o.toD = d at hv
  unfold oNums at e
  rw [hd] at e
  cases hv with
  | lst h l =>
    have := VwL.intsO l e
    subst this
    exact ⟨_, rfl, .of h⟩
  | scr h => cases e; exact ⟨_, rfl, h⟩
  | _ => cases e
def oBls (o : O) : Option (List Bool) := match o.toD with
  | .lst ds => D.bls ds
  | _ => none
theorem VwO.bls {v : V} {o : O} {ns : List Bool} (h : VwO K F H v o) (g : Gl T F H) (e : oBls o = some ns) : ∃ a, v = .ref a ∧ SqL K H a (ns.map V.bl) := by
  have hv := h.vw g
  generalize hd : o.toD = d at hv
  unfold oBls at e
  rw [hd] at e
  cases hv with
  | lst h l =>
    have := VwL.blsO l e
    subst this
    exact ⟨_, rfl, .of h⟩
  | _ => cases e
def mxL : Int → List Int → Int
  | m, [] => m
  | m, x :: r => mxL (if x > m then x else m) r
theorem mxL_mem : ∀ (r : List Int) (m : Int), mxL m r = m ∨ mxL m r ∈ r
  | [], m => .inl rfl
  | x :: r, m => by
    unfold mxL
    rcases mxL_mem r (if x > m then x else m) with h | h
    · rw [h]
      split
      · exact .inr (by simp)
      · exact .inl rfl
    · exact .inr (by simp [h])
theorem mxL_le : ∀ (r : List Int) (m : Int), m ≤ mxL m r ∧ ∀ y ∈ r, y ≤ mxL m r
  | [], m => ⟨Int.le_refl _, fun y hy => by cases hy⟩
  | x :: r, m => by
    unfold mxL
    obtain ⟨h1, h2⟩ := mxL_le r (if x > m then x else m)
    have : m ≤ (if x > m then x else m) ∧ x ≤ (if x > m then x else m) := by split <;> omega
    refine ⟨Int.le_trans this.1 h1, fun y hy => ?_⟩
    rcases List.mem_cons.mp hy with e | e
    · rw [e]; exact Int.le_trans this.2 h1
    · exact h2 y e
def maxI : List Int → Option Int
  | [] => none
  | x :: r => some (mxL x r)
theorem maxI_spec {ns : List Int} {m : Int} (e : maxI ns = some m) : m ∈ ns ∧ ∀ y ∈ ns, y ≤ m := by
  cases ns with
  | nil => cases e
  | cons x r =>
    cases e
    refine ⟨?_, fun y hy => ?_⟩
    · rcases mxL_mem r x with h | h
      · rw [h]; simp
      · simp [h]
    · rcases List.mem_cons.mp hy with e | e
      · rw [e]; exact (mxL_le r x).1
      · exact (mxL_le r x).2 y e
def oMax (o : O) : Option O := (oNums o).bind fun ns => (maxI ns).map fun m => .frz (.int m)
def oAll (o : O) : Option O := (oBls o).map fun bs => .frz (.bl (bs.all id))
theorem op_max : OpN K T (rMax K) (n1 oMax) := .one fun F H x a o Q gl hx e k => by
  obtain ⟨ns, e1, e2⟩ := Option.bind_eq_some_iff.mp e
  obtain ⟨m, e3, e4⟩ := Option.map_eq_some_iff.mp e2
  subst e4
  obtain ⟨p, rfl, h⟩ := hx.nums gl e1
  obtain ⟨h1, h2⟩ := maxI_spec e3
  refine ⟨p, ns, rfl, h, List.length_pos_of_mem h1, fun m' g1 g2 => ?_⟩
  have : m' = m := Int.le_antisymm (h2 m' g1) (g2 m h1)
  subst this
  exact k _ F H [] (.refl gl) (.frz (.int _))
theorem op_all : OpN K T (rAll K) (n1 oAll) := .one fun F H x a o Q gl hx e k => by
  obtain ⟨ns, e1, e2⟩ := Option.map_eq_some_iff.mp e
  subst e2
  obtain ⟨p, rfl, h⟩ := hx.bls gl e1
  exact ⟨p, ns, rfl, h, k _ F H [] (.refl gl) (.frz (.bl _))⟩
def oMax2 (a b : O) : Option O := match a.toD, b.toD with
  | .int i, .int j => some (.frz (.int (if j > i then j else i)))
  | _, _ => none
def oMin2 (a b : O) : Option O := match a.toD, b.toD with
  | .int i, .int j => some (.frz (.int (if j < i then j else i)))
  | _, _ => none
theorem op_min2 : OpN K T (fun xs H Q => ∃ i j, xs = [.int i, .int j] ∧ Q (.int (if j < i then j else i)) H) (n2 oMin2) := .two fun F H x y a b o Q gl hx hy e k => by
  have h1 := hx.vw gl
  have h2 := hy.vw gl
  unfold oMin2 at e
  generalize a.toD = c at h1 e
  generalize b.toD = d at h2 e
  split at e
  · cases e
    cases h1
    cases h2
    exact ⟨_, _, rfl, k _ F H [] (.refl gl) (.frz (.int _))⟩
  · cases e
/-- int(x) of an int, a truth value, a text -/
def oInt (a : O) : Option O := match a.toD with
  | .int i => some (.frz (.int i))
  | .bl b => some (.frz (.int (if b then 1 else 0)))
  | .str z => if z.length ≤ 640 then (PySem.intText? z).map fun n => .frz (.int n) else none
  | _ => none
def rInt : List V → Hp → VK → Prop := fun xs H Q => ((∃ i, xs = [.int i] ∧ Q (.int i) H) ∨ ∃ k, xs = [.bl k] ∧ Q (.int (if k then 1 else 0)) H) ∨ ∃ a n, xs = [.str a] ∧ PySem.intText? a = some n ∧ a.length ≤ 640 ∧ Q (.int n) H
theorem cr_int {X : Cx} : CallR X (.type "int") rInt := by
  intro pins s σ H xs us Q I r h
  rcases h with h | h
  · exact call_int1 pins s σ H xs us Q I r h
  · exact call_int_str pins s σ H xs us Q I r h
theorem op_int : OpN K T rInt (n1 oInt) := .one fun F H x a o Q gl hx e k => by
  have h1 := hx.vw gl
  unfold oInt at e
  generalize a.toD = c at h1 e
  split at e
  · cases e; cases h1
    exact .inl (.inl ⟨_, rfl, k _ F H [] (.refl gl) (.frz (.int _))⟩)
  · cases e; cases h1
    exact .inl (.inr ⟨_, rfl, k _ F H [] (.refl gl) (.frz (.int _))⟩)
  · split at e
    · obtain ⟨n, e1, e2⟩ := Option.map_eq_some_iff.mp e
      subst e2
      cases h1
      exact .inr ⟨_, n, rfl, e1, by assumption, k _ F H [] (.refl gl) (.frz (.int _))⟩
    · cases e
  · cases e
/-- str(x) of an int, a text -/
def oStr (a : O) : Option O := match a.toD with
  | .int i => if i.natAbs.log2 < 1920 then some (.frz (.str (toString i))) else none
  | .str z => some (.frz (.str z))
  | _ => none
def rStr : List V → Hp → VK → Prop := fun xs H Q => (∃ i, xs = [.int i] ∧ i.natAbs.log2 < 1920 ∧ Q (.str (toString i)) H) ∨ ∃ a, xs = [.str a] ∧ Q (.str a) H
theorem cr_str {X : Cx} : CallR X (.type "str") rStr := by
  intro pins s σ H xs us Q I r h
  rcases h with h | h
  · exact call_str_int pins s σ H xs us Q I r h
  · exact SkE.call_str_str pins s σ H xs us Q I r h
theorem op_str : OpN K T rStr (n1 oStr) := .one fun F H x a o Q gl hx e k => by
  have h1 := hx.vw gl
  unfold oStr at e
  generalize a.toD = c at h1 e
  split at e
  · split at e
    · cases e; cases h1
      exact .inl ⟨_, rfl, by assumption, k _ F H [] (.refl gl) (.frz (.str _))⟩
    · cases e
  · cases e; cases h1
    exact .inr ⟨_, rfl, k _ F H [] (.refl gl) (.frz (.str _))⟩
  · cases e
/-- list(x), tuple(x) of a list, a tuple -/
def oList (a : O) : Option O := match a.litems with
  | some ds => some (newL ds)
  | none => (a.titems).map newL
def oTuple (a : O) : Option O := match a.litems with
  | some ds => some (.frz (.tup ds))
  | none => (a.titems).map fun ds => .frz (.tup ds)
theorem op_list : OpN K T (fun xs H Q => ∃ p ys, xs = [.ref p] ∧ (SqL K H p ys ∨ SqT K H p ys) ∧ ∀ l, H l = none → Q (.ref l) (upd H l (.lst ys))) (n1 oList) := .one fun F H x a o Q gl hx e k => by
  unfold oList at e
  split at e
  · rename_i ds q
    cases e
    obtain ⟨p, vs, rfl, h, l⟩ := hx.litems gl q
    refine ⟨p, vs, rfl, .inl h, fun r hr => ?_⟩
    obtain ⟨px, f⟩ := new_lst gl hr l
    exact k _ _ _ _ px f
  · obtain ⟨ds, q, e2⟩ := Option.map_eq_some_iff.mp e
    subst e2
    obtain ⟨p, vs, rfl, _, h, l⟩ := hx.titems gl q
    refine ⟨p, vs, rfl, .inr (.of h), fun r hr => ?_⟩
    obtain ⟨px, f⟩ := new_lst gl hr l
    exact k _ _ _ _ px f
theorem op_tuple : OpN K T (fun xs H Q => ∃ p ys, xs = [.ref p] ∧ ((SqL K H p ys ∧ ∀ l, H l = none → Q (.ref l) (upd H l (.tup ys))) ∨ (SqT K H p ys ∧ Q (.ref p) H))) (n1 oTuple) := .one fun F H x a o Q gl hx e k => by
  unfold oTuple at e
  split at e
  · rename_i ds q
    cases e
    obtain ⟨p, vs, rfl, h, l⟩ := hx.litems gl q
    refine ⟨p, vs, rfl, .inl ⟨h, fun r hr => ?_⟩⟩
    obtain ⟨px, f⟩ := new_tup gl hr l
    exact k _ _ _ [] px (.frz f)
  · obtain ⟨ds, q, e2⟩ := Option.map_eq_some_iff.mp e
    subst e2
    obtain ⟨p, vs, rfl, f, h, l⟩ := hx.titems gl q
    exact ⟨p, vs, rfl, .inr ⟨.of h, k _ F H [] (.refl gl) (.frz (.tup f l))⟩⟩
end
def D.tyN : D → Option String
  | .non => some "NoneType"
  | .bl _ => some "bool"
  | .int _ => some "int"
  | .str _ => some "str"
  | .tup _ => some "tuple"
  | .lst _ => some "list"
  | .dct _ => some "dict"
  | _ => none
def subTy (a b : String) : Bool := a == b || (a == "bool" && b == "int")
def tyNames : List String := ["NoneType", "bool", "int", "str", "tuple", "list", "dict"]
def KitOk (n : String) : Prop := ∀ a ∈ tyNames, kitB a n = some (subTy a n)
theorem kit_int : KitOk "int" := by unfold KitOk; decide +kernel
theorem kit_bool : KitOk "bool" := by unfold KitOk; decide +kernel
theorem kit_str : KitOk "str" := by unfold KitOk; decide +kernel
theorem kit_tuple : KitOk "tuple" := by unfold KitOk; decide +kernel
theorem kit_list : KitOk "list" := by unfold KitOk; decide +kernel
def eIsi (n : String) (m : Em) : Em := fun env => (m env).bind fun o => (o.toD.tyN).map fun a => .frz (.bl (subTy a n))
section
variable {K : PySem.W.Frag} {H : Hp}
theorem tyX_of {v : V} {d : D} {a : String} (h : Vw K H v d) (e : d.tyN = some a) : TyX K H v (.type a) ∧ a ∈ tyNames := by
  cases h with
  | non => cases e; exact ⟨.base .non, by decide⟩
  | bl b => cases e; exact ⟨.base (.bl b), by decide⟩
  | int i => cases e; exact ⟨.base (.int i), by decide⟩
  | str z => cases e; exact ⟨.base (.str z), by decide⟩
  | tup h l => cases e; exact ⟨.base (.tup h), by decide⟩
  | lst h l => cases e; exact ⟨.base (.lst h), by decide⟩
  | dct h q l =>
    cases e
    rcases h with h | ⟨o, h⟩
    · exact ⟨.base (.dK h), by decide⟩
    · exact ⟨.fDict h, by decide⟩
  | _ => cases e
end
section
variable {X : Cx} {T : Tab} {e : Expr} {m : Em} {p p2 pos : Pos} {n : String} {x : Str}
theorem fe_isi (he : BE X T e m) (hk : KitOk n) (hv2 : bootBuiltins x = some (.type n)) (hg : L2.Gl X "isinstance") (hm : X.mg "isinstance" = none) (hg2 : L2.Gl X x) (hm2 : X.mg x = none) (hv : bootBuiltins "isinstance" = some (.builtin "isinstance")) (hn2 : x ≠ "__name__" := by decide) (hd2 : (x == ("__debug__" : Str)) = false := by decide)
    (hs1 : starEach [e, .Name x p2] X.env = (false, eval e X.env) :: starEach [.Name x p2] X.env := by rfl) (hs2 : starEach [.Name x p2] X.env = (false, eval (.Name x p2) X.env) :: starEach [] X.env := by rfl)
    (hpl : (backTo pos (starEach [.Name x p2] X.env)).any (·.1) = false := by rfl) : FE X T (.Call (.Name "isinstance" p) [e, .Name x p2] [] pos) (eIsi n m) :=
  peI (pe_callB call_isi hg hm hv (pa_cons he (pa_cons (pe_bltn (v := .ty n) hg2 hm2 hv2 rfl hn2 hd2) pa_nil hs2) hs1) (by decide) (by decide) hs1 hpl) fun σ H Q q => by
    obtain ⟨F, env, ω, s, o, e1, k⟩ := q
    obtain ⟨o1, e2, e3⟩ := Option.bind_eq_some_iff.mp e1
    obtain ⟨a, e4, e5⟩ := Option.map_eq_some_iff.mp e3
    subst e5
    refine ⟨F, env, ω, s, o1, e2, fun v F1 H1 p1 h1 => ?_⟩
    obtain ⟨h2, h3⟩ := tyX_of (h1.vw p1.gl) e4
    exact ⟨v, .ty n, _, _, _, rfl, .ty n, h2, kit_ty (hk a h3), k _ F1 H1 [] p1 (.frz (.bl _))⟩
end
end VL
namespace VL
open PySem PySem.Spec PyProof.Rows L2 PySem.W
section
variable {X : Cx} {pins : List (Addr × Obj)} {σ : L2.St} {H : Hp} {s : Shared}
end
section
variable {prog : Program} {w : World} {A : Around} {s : Shared} {E : Value → Shared → Prop}
end
def D.key3 : D → Option (Int × Int × Int)
  | .tup (.int a :: .int b :: .int c :: _) => some (a, b, c)
  | _ => none
def k3 (d : D) : Int × Int × Int := (d.key3).getD (0, 0, 0)
def le3 (a b : Int × Int × Int) : Bool := decide (a.1 < b.1 ∨ (a.1 = b.1 ∧ (a.2.1 < b.2.1 ∨ (a.2.1 = b.2.1 ∧ a.2.2 ≤ b.2.2))))
def RD (K : PySem.W.Frag) (F : Hp) (v : Value) (d : D) : Prop := ∃ x, RelV x v ∧ Vw K F x d
section
variable {X : Cx} {T : Tab} {e : Expr} {m : Em} {params : Arguments} {x : Str} {scope : Scope} {j : Nat} {p p1 p2 p3 p4 pl pk pos : Pos} {c P : Addr}
end
end VL
namespace VL
open PySem PySem.Spec PyProof.Rows L2
section
variable {X : Cx} {T : Tab} {elt tg iter : Expr} {ifs : List Expr} {scope : Scope} {own : List (Str × Nat)} {pos : Pos} {it : Im} {g : Gm} {t : Tm} {m : Em} {ts : List Nat}
/-- y = [..], frozen at once -/
theorem ss_setLcF {i : Nat} {y : Str} {py spos : Pos} (hc : X.calm = true) (hN : X.N.Nodup) (hy : X.N[i]? = some y) (hyl : X.env.scope.names.lookup y = some .local)
    (hsw : swapsWith (.ListComp elt [⟨tg, iter, ifs, 0⟩] scope pos) (some (.Name y py)) spos.line X.env = pure true) (hi : IC X T tg iter it) (ok : BlkOk X.N X.env.scope scope own)
    (hg : ∀ (s : Shared) (H : Hp) (C : Addr) (cl : List (Str × Addr)) (fp : List Addr), GS (X.blk s H scope (compEnvC scope cl C X.env) fp) T tg ts g)
    (ht : ∀ (s : Shared) (H : Hp) (C : Addr) (cl : List (Str × Addr)) (fp : List Addr), ICs (X.blk s H scope (compEnvC scope cl C X.env) fp) T ifs t)
    (he : ∀ (s : Shared) (H : Hp) (C : Addr) (cl : List (Str × Addr)) (fp : List Addr), FE (X.blk s H scope (compEnvC scope cl C X.env) fp) T elt m)
    (hts : ∀ i ∈ ts, i ∈ own.map (·.2)) (hs : ∀ x, foldedSetIterable iter X.env x = pure x := by intro _; rfl) :
    SS X T (.Assign [.Name y py] (.ListComp elt [⟨tg, iter, ifs, 0⟩] scope pos) spos) (sSet i (frzE (eLcN it (own.map (·.2)) g t m))) :=
  psI (ps_setLc (g := tG X.K T ts g) (tt := tT X.K T t) (te := tF X.K T m) hc hN hy hyl hsw hi ok hg ht he hs) fun D σ H q => by
    obtain ⟨F, env, ω, sa, out, e, k⟩ := q
    obtain ⟨o, e1, e2⟩ := Option.bind_eq_some_iff.mp e
    obtain ⟨e', e3, e4⟩ := Option.map_eq_some_iff.mp e2
    subst e4
    obtain ⟨o1, e5, e6⟩ := Option.map_eq_some_iff.mp e1
    subst e6
    refine tLc_of hts ⟨F, env, ω, sa, o1, e5, fun v F1 H1 A p f => ?_⟩
    have p' := fz_px p f
    have f' : Fresh X.K H (fz F1 H1 A) H1 v (.frz o1.toD) [] := .frz (fz_vw p f)
    have hl : i < env.length ∨ ¬ i < env.length := Classical.em _
    rcases hl with hl | hl
    · exact k _ H1 _ _ (Go.put sa p' f' hl e3)
    · obtain ⟨h1, h2⟩ := setS_of e3
      have h3 : σ.set i (some v) = σ := List.set_eq_of_length_le (by rw [sa.len]; omega)
      have h4 : (killA i env).set i (slotOf (.frz o1.toD)) = killA i env := List.set_eq_of_length_le (by rw [killA_len]; omega)
      have h5 : killA i env = env := by
        apply List.ext_getElem?
        intro j
        rw [killA_get]
        cases q : env[j]? with
        | none => rfl
        | some t =>
          cases t with
          | als r p' =>
            have := sa.slot j _ q
            obtain ⟨_, w, _, _, _, h, _⟩ := this
            have hr : r < env.length := by rw [← sa.len]; exact (List.getElem?_eq_some_iff.mp h).1
            have : r ≠ i := by omega
            simp [this]
          | _ => rfl
      rw [h2, h4, h5] at k
      show D.nx (σ.set i (some v)) H1
      rw [h3]
      exact k _ H1 σ ω (.px sa p')
end
section
variable {P : Program} {w : World} {K : PySem.W.Frag} {mg : Str → Option Value} {base : Heap} {T : Tab}
end
end VL
namespace VL
open PySem PySem.Spec PyProof.Rows L2
section
variable {K : PySem.W.Frag} {T : Tab} {H : Hp}
theorem gl_tab (t : LamX.Tabs T H) : Gl T (allF H) H :=
  ⟨fun a u e _ => .inl (allF_get e).1, fun a ps e => (allF_get e).2 ps rfl, fun a vs e => allF_of e (fun _ z => nomatch z), t⟩
theorem sql_all {a : Addr} {xs : List V} (h : SqL K H a xs) : SqL K (allF H) a xs := h.imp (fun h => h.elim (fun e => .inl (allF_of e fun _ z => nomatch z)) fun ⟨o, e⟩ => .inr ⟨o, allF_of e fun _ z => nomatch z⟩) id
theorem law_sp {f : Fm} {a : Addr} {ns : List Int} {o : O} {svs' : List SV} {E : XK} (t : LamX.Tabs T H) (hS : SqL K H a (ns.map V.int)) (e : f [.frz (.scr ns)] = some (o, svs')) (ho : o.toD = .bl true) : spF K T 1 f [.ref a] H (fun v _ => v = .bl true) E :=
  ⟨allF H, [.frz (.scr ns)], noOwn, o, svs', rfl, rfl, sta_args (ds := [.scr ns]) (gl_tab t) (.cons (.scr (sql_all hS)) .nil), e, fun F' H' ω' v A x sa r => r.ro.bl ho⟩
end
end VL
namespace VL
open PySem PySem.Spec PyProof.Rows L2
variable {s : SV} {r : Env} {i : Nat} {a b c m : Em} {ms : Es} {t u : VL.Tm} {st su : Sm} {o x y : O} {d e : D} {env : Env}
def rdS (env : Env) : Option SV → Option O
  | some (.frz d) => some (.frz d)
  | some (.own o) => some o
  | some (.io o) => some o
  | some (.als r p) => (match env[r]? with
    | some (.own o) => o.walk p
    | some (.io o) => o.walk p
    | _ => none)
  | _ => none
@[simp] theorem eVar_c : eVar i (s :: r) = rdS (s :: r) (s :: r)[i]? := id rfl
@[simp] theorem rdS_frz : rdS env (some (.frz d)) = some (.frz d) := id rfl
@[simp] theorem rdS_own : rdS env (some (.own o)) = some o := id rfl
@[simp] theorem rdS_io : rdS env (some (.io o)) = some o := id rfl
@[simp] theorem eC_c : eC d env = some (.frz d) := id rfl
@[simp] theorem eNil_c : eNil env = some [] := id rfl
def cons2 : Option O → Option (List O) → Option (List O)
  | some o, some os => some (o :: os)
  | _, _ => none
@[simp] theorem eCons_c : eCons a ms (s :: r) = cons2 (a (s :: r)) (ms (s :: r)) := by
  unfold eCons cons2; cases a (s :: r) <;> cases ms (s :: r) <;> rfl
@[simp] theorem cons2_s {os : List O} : cons2 (some o) (some os) = some (o :: os) := id rfl
def fz1 : Option O → Option O
  | some o => some (.frz o.toD)
  | none => none
@[simp] theorem frzE_c : frzE a (s :: r) = fz1 (a (s :: r)) := by unfold frzE fz1; cases a (s :: r) <;> rfl
@[simp] theorem fz1_s : fz1 (some o) = some (.frz o.toD) := id rfl
def tk1 : Option O → Option O
  | some o => (asFrz o).map .frz
  | none => none
@[simp] theorem takE_c : takE a (s :: r) = tk1 (a (s :: r)) := by unfold takE tk1; cases a (s :: r) <;> rfl
@[simp] theorem tk1_f : tk1 (some (.frz d)) = some (.frz d) := id rfl
@[simp] theorem toD_frz : (O.frz d).toD = d := by rw [O.toD]
@[simp] theorem toD_tup {os : List O} : (O.tup os).toD = .tup (os.map O.toD) := by rw [O.toD, O.toDs_map]
@[simp] theorem toD_lst {os : List O} : (O.lst os).toD = .lst (os.map O.toD) := by rw [O.toD, O.toDs_map]
@[simp] theorem toD_newL {ds : List D} : (newL ds).toD = .lst ds := by
  unfold newL; rw [toD_lst, List.map_map]
  congr 1
  conv => rhs; rw [← List.map_id ds]
  exact List.map_congr_left fun x _ => toD_frz
@[simp] theorem map_toD_frz {ds : List D} : (ds.map O.frz).map O.toD = ds := by
  rw [List.map_map]
  conv => rhs; rw [← List.map_id ds]
  exact List.map_congr_left fun x _ => toD_frz
def ap1 (f : O → Option O) : Option O → Option O
  | some x => f x
  | none => none
def ap2 (f : O → O → Option O) : Option O → Option O → Option O
  | some x, some y => f x y
  | _, _ => none
@[simp] theorem eOp1_c {f : O → Option O} : eOp1 f a (s :: r) = ap1 f (a (s :: r)) := by unfold eOp1 ap1; cases a (s :: r) <;> rfl
@[simp] theorem eOp2_c {f : O → O → Option O} : eOp2 f a b (s :: r) = ap2 f (a (s :: r)) (b (s :: r)) := by unfold eOp2 ap2; cases a (s :: r) <;> cases b (s :: r) <;> rfl
@[simp] theorem ap1_s {f : O → Option O} : ap1 f (some x) = f x := id rfl
@[simp] theorem ap2_s {f : O → O → Option O} : ap2 f (some x) (some y) = f x y := id rfl
def fr (x : Option D) : Option O := x.map .frz
@[simp] theorem fr_s : fr (some d) = some (.frz d) := id rfl
@[simp] theorem sc1_s {g : D → Option D} : sc1 g o = fr (g o.toD) := id rfl
@[simp] theorem sc2_s {g : D → D → Option D} : sc2 g x y = fr (g x.toD y.toD) := id rfl
@[simp] theorem gI_i {f : Int → Int → Int} {i j : Int} : gI f (.int i) (.int j) = some (.int (f i j)) := id rfl
@[simp] theorem gB_i {f : Int → Int → Bool} {i j : Int} : gB f (.int i) (.int j) = some (.bl (f i j)) := id rfl
@[simp] theorem gDiv_i {i j : Int} (h : 0 < j ∧ j < 1073741824) : gDiv (.int i) (.int j) = some (.int (i / j)) := if_pos h
@[simp] theorem gMod_i {i j : Int} (h : 0 < j) : gMod (.int i) (.int j) = some (.int (i % j)) := if_pos h
@[simp] theorem gNeg_i {i : Int} : gNeg (.int i) = some (.int (-i)) := id rfl
@[simp] theorem oAdd_i {i j : Int} : oAdd (.frz (.int i)) (.frz (.int j)) = some (.frz (.int (i + j))) := by simp [oAdd, orO]
@[simp] theorem plitems_f {ds : List D} : (O.frz (.lst ds)).plitems = some ds := id rfl
@[simp] theorem litems_f {ds : List D} : (O.frz (.lst ds)).litems = some ds := id rfl
@[simp] theorem titems_f {ds : List D} : (O.frz (.tup ds)).titems = some ds := id rfl
@[simp] theorem titems_l {ds : List D} : (O.frz (.lst ds)).titems = none := id rfl
@[simp] theorem litems_t {ds : List D} : (O.frz (.tup ds)).litems = none := id rfl
@[simp] theorem litems_s {ns : List Int} : (O.frz (.scr ns)).litems = some (ns.map D.int) := id rfl
theorem mapM_frz : ∀ ds : List D, (ds.map O.frz).mapM asFrz = some ds
  | [] => rfl
  | d :: ds => by
    rw [List.map_cons, List.mapM_cons, mapM_frz ds]; rfl
@[simp] theorem plitems_n {ds : List D} : (newL ds).plitems = some ds := mapM_frz ds
@[simp] theorem litems_n {ds : List D} : (newL ds).litems = some ds := mapM_frz ds
@[simp] theorem asFrz_f : asFrz (.frz d) = some d := id rfl
theorem oAdd_l {xs ys : List D} (hx : x.plitems = some xs) (hy : y.plitems = some ys) (dx : x.toD = .lst xs) (dy : y.toD = .lst ys) (h : xs.length + ys.length ≤ 16777216) : oAdd x y = some (newL (xs ++ ys)) := by
  have hz : sizeLine = 16777216 := sizeLine_eq
  unfold oAdd orO
  simp [dx, dy, gI, gCatS, oCatL, hx, hy, hz, h, fr]
@[simp] theorem oAdd_ll {xs ys : List D} (h : xs.length + ys.length ≤ 16777216) : oAdd (.frz (.lst xs)) (.frz (.lst ys)) = some (newL (xs ++ ys)) := oAdd_l rfl rfl toD_frz toD_frz h
@[simp] theorem oAdd_nl {xs ys : List D} (h : xs.length + ys.length ≤ 16777216) : oAdd (newL xs) (.frz (.lst ys)) = some (newL (xs ++ ys)) := oAdd_l plitems_n rfl toD_newL toD_frz h
@[simp] theorem oMul_i {i j : Int} (h : (-(2 ^ 64) < i ∧ i < 2 ^ 64) ∨ (-(2 ^ 64) < j ∧ j < 2 ^ 64)) : oMul (.frz (.int i)) (.frz (.int j)) = some (.frz (.int (i * j))) := by
  have e : gMul (.int i) (.int j) = some (.int (i * j)) := if_pos h
  unfold oMul orO
  rw [sc2_s, toD_frz, toD_frz, e]
  rfl
def tst1 : Option O → Option Bool
  | some o => (match o.toD with
    | .bl b => some b
    | _ => none)
  | none => none
@[simp] theorem tst_c : tst a (s :: r) = tst1 (a (s :: r)) := by unfold tst tst1; cases a (s :: r) <;> rfl
@[simp] theorem tst1_b {b : Bool} : tst1 (some (.frz (.bl b))) = some b := by unfold tst1; simp
def tru1 : Option O → Option Bool
  | some o => o.toD.tru
  | none => none
@[simp] theorem tru_c : tru a (s :: r) = tru1 (a (s :: r)) := by unfold tru tru1; cases a (s :: r) <;> rfl
@[simp] theorem tru1_b {b : Bool} : tru1 (some (.frz (.bl b))) = some b := by unfold tru1; simp [D.tru]
@[simp] theorem tru1_i {n : Int} : tru1 (some (.frz (.int n))) = some (n != 0) := by unfold tru1; simp [D.tru]
@[simp] theorem tru1_l {ds : List D} : tru1 (some (.frz (.lst ds))) = some (!ds.isEmpty) := by unfold tru1; simp [D.tru]
def and2 : Option Bool → VL.Tm → Env → Option Bool
  | some true, u, env => u env
  | some false, _, _ => some false
  | none, _, _ => none
def or2 : Option Bool → VL.Tm → Env → Option Bool
  | some true, _, _ => some true
  | some false, u, env => u env
  | none, _, _ => none
@[simp] theorem tAnd2_c : tAnd2 t u (s :: r) = and2 (t (s :: r)) u (s :: r) := by
  unfold tAnd2 and2; cases t (s :: r) with
  | none => rfl
  | some b => cases b <;> rfl
@[simp] theorem tOr2_c : tOr2 t u (s :: r) = or2 (t (s :: r)) u (s :: r) := by
  unfold tOr2 or2; cases t (s :: r) with
  | none => rfl
  | some b => cases b <;> rfl
@[simp] theorem and2_t : and2 (some true) u env = u env := id rfl
@[simp] theorem and2_f : and2 (some false) u env = some false := id rfl
@[simp] theorem or2_t : or2 (some true) u env = some true := id rfl
@[simp] theorem or2_f : or2 (some false) u env = u env := id rfl
def not1 : Option Bool → Option Bool
  | some b => some (!b)
  | none => none
@[simp] theorem tNot1_c : tNot1 t (s :: r) = not1 (t (s :: r)) := by unfold tNot1 not1; cases t (s :: r) <;> rfl
@[simp] theorem not1_s {b : Bool} : not1 (some b) = some (!b) := id rfl
@[simp] theorem yesT_c : yesT env = some true := id rfl
def eNot1 : Option O → Option O
  | some o => (match o.toD with
    | .bl b => some (.frz (.bl (!b)))
    | _ => none)
  | none => none
@[simp] theorem eNot_c : eNot a (s :: r) = eNot1 (a (s :: r)) := by unfold eNot eNot1; cases a (s :: r) <;> rfl
@[simp] theorem eNot1_b {b : Bool} : eNot1 (some (.frz (.bl b))) = some (.frz (.bl (!b))) := by unfold eNot1; simp
def eAnd1 (b : Em) (env : Env) : Option O → Option O
  | some o => (match o.toD with
    | .bl true => b env
    | .bl false => some (.frz (.bl false))
    | _ => none)
  | none => none
def eOr1 (b : Em) (env : Env) : Option O → Option O
  | some o => (match o.toD with
    | .bl true => some (.frz (.bl true))
    | .bl false => b env
    | _ => none)
  | none => none
@[simp] theorem eAnd_c : eAnd a b (s :: r) = eAnd1 b (s :: r) (a (s :: r)) := by unfold eAnd eAnd1; cases a (s :: r) <;> rfl
@[simp] theorem eOr_c : eOr a b (s :: r) = eOr1 b (s :: r) (a (s :: r)) := by unfold eOr eOr1; cases a (s :: r) <;> rfl
@[simp] theorem eAnd1_t : eAnd1 b env (some (.frz (.bl true))) = b env := by unfold eAnd1; simp
@[simp] theorem eAnd1_f : eAnd1 b env (some (.frz (.bl false))) = some (.frz (.bl false)) := by unfold eAnd1; simp
@[simp] theorem eOr1_t : eOr1 b env (some (.frz (.bl true))) = some (.frz (.bl true)) := by unfold eOr1; simp
@[simp] theorem eOr1_f : eOr1 b env (some (.frz (.bl false))) = b env := by unfold eOr1; simp
def eIf1 (a b : Em) (env : Env) : Option Bool → Option O
  | some true => a env
  | some false => b env
  | none => none
@[simp] theorem eIf_c : eIf t a b (s :: r) = eIf1 a b (s :: r) (t (s :: r)) := by
  unfold eIf eIf1; cases t (s :: r) with
  | none => rfl
  | some q => cases q <;> rfl
@[simp] theorem eIf1_t : eIf1 a b env (some true) = a env := id rfl
@[simp] theorem eIf1_f : eIf1 a b env (some false) = b env := id rfl
@[simp] theorem oIsN_s {n : Bool} : oIsN n o = some (.frz (.bl (n ^^ o.toD.isN))) := id rfl
@[simp] theorem isN_non : D.isN .non = true := id rfl
@[simp] theorem isN_int {n : Int} : D.isN (.int n) = false := id rfl
@[simp] theorem isN_str {n : Str} : D.isN (.str n) = false := id rfl
@[simp] theorem isN_tup {n : List D} : D.isN (.tup n) = false := id rfl
@[simp] theorem isN_lst {n : List D} : D.isN (.lst n) = false := id rfl
def ix2 : Option O → Option O → Option O
  | some x, some y => (ixO x y.toD).or (ixD x y.toD)
  | _, _ => none
@[simp] theorem eIx_c : eIx a b (s :: r) = ix2 (a (s :: r)) (b (s :: r)) := by unfold eIx ix2; cases a (s :: r) <;> cases b (s :: r) <;> rfl
theorem ix2_l {ds : List D} {k : Int} (h : atI ds k = some d) : ix2 (some (.frz (.lst ds))) (some (.frz (.int k))) = some (.frz d) := by
  simp [ix2, ixO, h]
theorem ix2_t {ds : List D} {k : Int} (h : atI ds k = some d) : ix2 (some (.frz (.tup ds))) (some (.frz (.int k))) = some (.frz d) := by
  simp [ix2, ixO, h]
theorem ix2_s {ns : List Int} {k n : Int} (h : atI ns k = some n) : ix2 (some (.frz (.scr ns))) (some (.frz (.int k))) = some (.frz (.int n)) := by
  simp [ix2, ixO, h]
theorem atI_pos {α : Type} {xs : List α} {k : Int} {n : Nat} (h : k = n) (hn : n < xs.length) : atI xs k = some (xs[n]) := by
  subst h
  unfold atI ixN
  simp [hn]
@[simp] theorem ix_t0 {d : D} {ds : List D} : ix2 (some (.frz (.tup (d :: ds)))) (some (.frz (.int 0))) = some (.frz d) := ix2_t (atI_pos (n := 0) rfl (by simp))
@[simp] theorem ix_t1 {d0 d : D} {ds : List D} : ix2 (some (.frz (.tup (d0 :: d :: ds)))) (some (.frz (.int 1))) = some (.frz d) := ix2_t (atI_pos (n := 1) rfl (by simp))
@[simp] theorem ix_t2 {d0 d1 d : D} {ds : List D} : ix2 (some (.frz (.tup (d0 :: d1 :: d :: ds)))) (some (.frz (.int 2))) = some (.frz d) := ix2_t (atI_pos (n := 2) rfl (by simp))
@[simp] theorem ix_t3 {d0 d1 d2 d : D} {ds : List D} : ix2 (some (.frz (.tup (d0 :: d1 :: d2 :: d :: ds)))) (some (.frz (.int 3))) = some (.frz d) := ix2_t (atI_pos (n := 3) rfl (by simp))
@[simp] theorem ix_l0 {d : D} {ds : List D} : ix2 (some (.frz (.lst (d :: ds)))) (some (.frz (.int 0))) = some (.frz d) := ix2_l (atI_pos (n := 0) rfl (by simp))
@[simp] theorem ix_l1 {d0 d : D} {ds : List D} : ix2 (some (.frz (.lst (d0 :: d :: ds)))) (some (.frz (.int 1))) = some (.frz d) := ix2_l (atI_pos (n := 1) rfl (by simp))
def sl3 : Option O → Option (Option Int) → Option (Option Int) → Option O
  | some x, some l, some h => slO x l h
  | _, _, _ => none
@[simp] theorem eSl_c {l h : Om} : eSl a l h (s :: r) = sl3 (a (s :: r)) (l (s :: r)) (h (s :: r)) := by
  unfold eSl sl3; cases a (s :: r) <;> cases l (s :: r) <;> cases h (s :: r) <;> rfl
@[simp] theorem noP_c : noP env = some none := id rfl
def sp1 : Option O → Option (Option Int)
  | some o => (match o.toD with
    | .int i => some (some i)
    | _ => none)
  | none => none
@[simp] theorem someP_c : someP a (s :: r) = sp1 (a (s :: r)) := by unfold someP sp1; cases a (s :: r) <;> rfl
@[simp] theorem sp1_i {n : Int} : sp1 (some (.frz (.int n))) = some (some n) := by unfold sp1; simp
@[simp] theorem sl3_l {ds : List D} {l h : Option Int} : sl3 (some (.frz (.lst ds))) (some l) (some h) = some (newL (cutA ds l h)) := id rfl
@[simp] theorem sl3_t {ds : List D} {l h : Option Int} : sl3 (some (.frz (.tup ds))) (some l) (some h) = some (.frz (.tup (cutA ds l h))) := id rfl
@[simp] theorem sl3_s {ns : List Int} {l h : Option Int} : sl3 (some (.frz (.scr ns))) (some l) (some h) = some (newL (cutA (ns.map D.int) l h)) := id rfl
theorem sIx_nat (l e k : Nat) : HT.sIx l e (some (k : Int)) = min k l := by
  unfold HT.sIx
  have : ¬ ((k : Int) < 0) := by omega
  simp [this]
theorem cut_to {α : Type} (xs : List α) (n : Nat) : cutA xs none (some (n : Int)) = xs.take n := by
  have h0 : HT.sIx xs.length 0 none = 0 := rfl
  unfold cutA
  rw [sIx_nat, h0, List.drop_zero, Nat.sub_zero]
  rcases Nat.le_total n xs.length with h | h
  · rw [Nat.min_eq_left h]
  · rw [Nat.min_eq_right h, List.take_of_length_le h, List.take_of_length_le (Nat.le_refl _)]
theorem cut_ft {α : Type} (xs : List α) (k n : Nat) : cutA xs (some (k : Int)) (some (n : Int)) = (xs.drop k).take (n - k) := by
  unfold cutA
  rw [sIx_nat, sIx_nat]
  apply List.ext_getElem?
  intro j
  simp only [List.getElem?_take, List.getElem?_drop]
  rcases Nat.le_total k xs.length with h | h
  · rw [Nat.min_eq_left h]
    by_cases h2 : j < n - k
    · rw [if_pos h2]
      by_cases h3 : j < min n xs.length - k
      · rw [if_pos h3]
      · rw [if_neg h3]
        exact (List.getElem?_eq_none (by omega)).symm
    · rw [if_neg h2, if_neg (by omega)]
  · rw [Nat.min_eq_right h, if_neg (by omega)]
    split
    · exact (List.getElem?_eq_none (by omega)).symm
    · rfl
def tup1 : Option (List O) → Option O
  | some os => if os.length ≤ 1000 then some (mkT os) else none
  | none => none
def lst1 : Option (List O) → Option O
  | some os => if os.length ≤ 1000 then some (.lst os) else none
  | none => none
@[simp] theorem eTup_c : eTup ms (s :: r) = tup1 (ms (s :: r)) := by unfold eTup tup1; cases ms (s :: r) <;> rfl
@[simp] theorem eLst_c : eLst ms (s :: r) = lst1 (ms (s :: r)) := by unfold eLst lst1; cases ms (s :: r) <;> rfl
@[simp] theorem lst1_s {os : List O} (h : os.length ≤ 1000) : lst1 (some os) = some (.lst os) := if_pos h
@[simp] theorem tup1_s {os : List O} (h : os.length ≤ 1000) : tup1 (some os) = some (mkT os) := if_pos h
@[simp] theorem mkT1 {d1 : D} : mkT [.frz d1] = .frz (.tup [d1]) := id rfl
@[simp] theorem mkT2 {d1 d2 : D} : mkT [.frz d1, .frz d2] = .frz (.tup [d1, d2]) := id rfl
@[simp] theorem mkT3 {d1 d2 d3 : D} : mkT [.frz d1, .frz d2, .frz d3] = .frz (.tup [d1, d2, d3]) := id rfl
@[simp] theorem mkT4 {d1 d2 d3 d4 : D} : mkT [.frz d1, .frz d2, .frz d3, .frz d4] = .frz (.tup [d1, d2, d3, d4]) := id rfl
def bN (f : List O → Option O) : Option (List O) → Option O
  | some os => f os
  | none => none
@[simp] theorem eOpN_c {f : List O → Option O} : eOpN f ms (s :: r) = bN f (ms (s :: r)) := by unfold eOpN bN; cases ms (s :: r) <;> rfl
@[simp] theorem bN_s {f : List O → Option O} {os : List O} : bN f (some os) = f os := id rfl
@[simp] theorem n1_s {f : O → Option O} : n1 f [o] = f o := id rfl
@[simp] theorem n2_s {f : O → O → Option O} : n2 f [x, y] = f x y := id rfl
@[simp] theorem oLen_l {ds : List D} : oLen (.frz (.lst ds)) = some (.frz (.int ds.length)) := id rfl
@[simp] theorem oLen_t {ds : List D} : oLen (.frz (.tup ds)) = some (.frz (.int ds.length)) := id rfl
@[simp] theorem oLen_s {ns : List Int} : oLen (.frz (.scr ns)) = some (.frz (.int ns.length)) := id rfl
@[simp] theorem oLen_n {ds : List D} : oLen (newL ds) = some (.frz (.int ds.length)) := by simp [oLen, D.len]
@[simp] theorem oLen_o {os : List O} : oLen (.lst os) = some (.frz (.int os.length)) := by simp [oLen, D.len]
theorem ints_map : ∀ ns : List Int, D.ints (ns.map D.int) = some ns
  | [] => rfl
  | n :: ns => by rw [List.map_cons, D.ints, ints_map ns]; rfl
theorem bls_map : ∀ ns : List Bool, D.bls (ns.map D.bl) = some ns
  | [] => rfl
  | n :: ns => by rw [List.map_cons, D.bls, bls_map ns]; rfl
@[simp] theorem oNums_l {ns : List Int} : oNums (.frz (.lst (ns.map D.int))) = some ns := by simp [oNums, ints_map]
@[simp] theorem oBls_l {ns : List Bool} : oBls (.frz (.lst (ns.map D.bl))) = some ns := by simp [oBls, bls_map]
@[simp] theorem oMax2_i {i j : Int} : oMax2 (.frz (.int i)) (.frz (.int j)) = some (.frz (.int (if j > i then j else i))) := by simp [oMax2]
@[simp] theorem oMin2_i {i j : Int} : oMin2 (.frz (.int i)) (.frz (.int j)) = some (.frz (.int (if j < i then j else i))) := by simp [oMin2]
@[simp] theorem oList_l {ds : List D} : oList (.frz (.lst ds)) = some (newL ds) := id rfl
@[simp] theorem oTuple_l {ds : List D} : oTuple (.frz (.lst ds)) = some (.frz (.tup ds)) := id rfl
def isi1 (n : String) : Option O → Option O
  | some o => (o.toD.tyN).map fun a => .frz (.bl (subTy a n))
  | none => none
@[simp] theorem eIsi_c {n : String} : eIsi n a (s :: r) = isi1 n (a (s :: r)) := by unfold eIsi isi1; cases a (s :: r) <;> rfl
@[simp] theorem isi1_ii {n : Int} : isi1 "int" (some (.frz (.int n))) = some (.frz (.bl true)) := by simp [isi1, D.tyN]; decide
@[simp] theorem isi1_ib {n : Int} : isi1 "bool" (some (.frz (.int n))) = some (.frz (.bl false)) := by simp [isi1, D.tyN]; decide
@[simp] theorem isi1_tt {n : List D} : isi1 "tuple" (some (.frz (.tup n))) = some (.frz (.bl true)) := by simp [isi1, D.tyN]; decide
@[simp] theorem isi1_ll {n : List D} : isi1 "list" (some (.frz (.lst n))) = some (.frz (.bl true)) := by simp [isi1, D.tyN]; decide
def cl (np : Nat) (f : Fm) : Option (List O) → Option O
  | some os => if os.length = np then callP f os else none
  | none => none
@[simp] theorem eCall_c {np : Nat} {f : Fm} : eCall np f ms (s :: r) = cl np f (ms (s :: r)) := by unfold eCall cl; cases ms (s :: r) <;> rfl
theorem cl_eq {np : Nat} {f : Fm} {ds : List D} {svs : List SV} (h : ds.length = np) (e : f (ds.map SV.frz) = some (o, svs)) : cl np f (some (ds.map O.frz)) = some o := by
  have e2 : (ds.map O.frz).map (fun o => SV.frz o.toD) = ds.map SV.frz := by rw [List.map_map]; exact List.map_congr_left fun d _ => by simp
  show (if (ds.map O.frz).length = np then callP f (ds.map O.frz) else none) = some o
  rw [if_pos (by rw [List.length_map]; exact h)]
  unfold callP
  rw [e2, e]
  show (if _ then some o else none) = some o
  rw [if_pos]
  left
  rw [List.all_map]
  exact List.all_eq_true.mpr fun _ _ => rfl
theorem cl1 {f : Fm} {d1 : D} {svs : List SV} (e : f [.frz d1] = some (o, svs)) : cl 1 f (some [.frz d1]) = some o := cl_eq (ds := [d1]) rfl e
theorem cl2 {f : Fm} {d1 d2 : D} {svs : List SV} (e : f [.frz d1, .frz d2] = some (o, svs)) : cl 2 f (some [.frz d1, .frz d2]) = some o := cl_eq (ds := [d1, d2]) rfl e
theorem cl3 {f : Fm} {d1 d2 d3 : D} {svs : List SV} (e : f [.frz d1, .frz d2, .frz d3] = some (o, svs)) : cl 3 f (some [.frz d1, .frz d2, .frz d3]) = some o := cl_eq (ds := [d1, d2, d3]) rfl e
def thS : Option Out → Sm → Option Out
  | some (.nx e), u => u e
  | some o, _ => some o
  | none, _ => none
@[simp] theorem sSeq_c : sSeq st su (s :: r) = thS (st (s :: r)) su := by
  unfold sSeq thS
  cases st (s :: r) with
  | none => rfl
  | some o => cases o <;> rfl
@[simp] theorem thS_n {e : Env} : thS (some (.nx e)) su = su e := id rfl
@[simp] theorem thS_r {e : Env} : thS (some (.ret o e)) su = some (.ret o e) := id rfl
@[simp] theorem thS_b {e : Env} : thS (some (.bk e)) su = some (.bk e) := id rfl
@[simp] theorem thS_c {e : Env} : thS (some (.ct e)) su = some (.ct e) := id rfl
@[simp] theorem sNx_c : sNx env = some (.nx env) := id rfl
@[simp] theorem sBk_c : sBk env = some (.bk env) := id rfl
@[simp] theorem sCt_c : sCt env = some (.ct env) := id rfl
def st1 (i : Nat) (env : Env) : Option O → Option Out
  | some o => (setS env i (slotOf o)).map .nx
  | none => none
@[simp] theorem sSet_c : sSet i a (s :: r) = st1 i (s :: r) (a (s :: r)) := by unfold sSet st1; cases a (s :: r) <;> rfl
def plS : SV → Bool
  | .als _ _ => false
  | .io _ => false
  | _ => true
def plainE (env : Env) : Bool := env.all plS
theorem killA_p {env : Env} (h : plainE env = true) : killA i env = env := by
  unfold killA
  conv => rhs; rw [← List.map_id env]
  refine List.map_congr_left fun s hs => ?_
  have := List.all_eq_true.mp h s hs
  cases s with
  | als _ _ => cases this
  | _ => rfl
theorem io_p {env : Env} (h : plainE env = true) : isIo env[i]? = false := by
  cases q : env[i]? with
  | none => rfl
  | some s =>
    have := List.all_eq_true.mp h s (List.mem_of_getElem? q)
    cases s with
    | io _ => cases this
    | _ => rfl
theorem setS_p {env : Env} {sv : SV} (h : plainE env = true) : setS env i sv = some (env.set i sv) := by
  unfold setS
  rw [io_p h, killA_p h]
  rfl
theorem setS_e (env : Env) (i : Nat) (sv : SV) : setS env i sv = if plainE env = true then some (env.set i sv) else if isIo env[i]? = true then none else some ((killA i env).set i sv) := by
  split
  · rename_i h; exact setS_p h
  · rfl
@[simp] theorem st1_e {i : Nat} : st1 i (s :: r) (some o) = (setS (s :: r) i (slotOf o)).map .nx := id rfl
@[simp] theorem setS_c {i : Nat} {sv : SV} : setS (s :: r) i sv = if plainE (s :: r) = true then some ((s :: r).set i sv) else if isIo (s :: r)[i]? = true then none else some ((killA i (s :: r)).set i sv) := setS_e _ _ _
@[simp] theorem pE_als {j : Nat} {p : List Stp} : plainE (.als j p :: r) = false := id rfl
@[simp] theorem pE_io : plainE (.io o :: r) = false := id rfl
@[simp] theorem kA_nil : killA i [] = [] := id rfl
@[simp] theorem kA_frz : killA i (.frz d :: r) = .frz d :: killA i r := id rfl
@[simp] theorem kA_own : killA i (.own o :: r) = .own o :: killA i r := id rfl
@[simp] theorem kA_io : killA i (.io o :: r) = .io o :: killA i r := id rfl
@[simp] theorem kA_dead : killA i (.dead :: r) = .dead :: killA i r := id rfl
@[simp] theorem kA_als {j : Nat} {p : List Stp} : killA i (.als j p :: r) = (if j = i then .dead else .als j p) :: killA i r := id rfl
@[simp] theorem isIo_n : isIo none = false := id rfl
@[simp] theorem isIo_f : isIo (some (.frz d)) = false := id rfl
@[simp] theorem isIo_o : isIo (some (.own o)) = false := id rfl
@[simp] theorem isIo_i : isIo (some (.io o)) = true := id rfl
@[simp] theorem isIo_d : isIo (some .dead) = false := id rfl
@[simp] theorem isIo_a {j : Nat} {p : List Stp} : isIo (some (.als j p)) = false := id rfl
@[simp] theorem pE_nil : plainE [] = true := id rfl
@[simp] theorem pE_frz : plainE (.frz d :: r) = plainE r := id rfl
@[simp] theorem pE_own : plainE (.own o :: r) = plainE r := id rfl
@[simp] theorem pE_dead : plainE (.dead :: r) = plainE r := id rfl
@[simp] theorem slot_f : slotOf (.frz d) = .frz d := id rfl
@[simp] theorem slot_l {os : List O} : slotOf (.lst os) = .own (.lst os) := id rfl
@[simp] theorem slot_n {ds : List D} : slotOf (newL ds) = .own (newL ds) := id rfl
def rt1 (env : Env) : Option O → Option Out
  | some o => some (.ret o env)
  | none => none
@[simp] theorem sRet_c : sRet a (s :: r) = rt1 (s :: r) (a (s :: r)) := by unfold sRet rt1; cases a (s :: r) <;> rfl
@[simp] theorem rt1_s : rt1 env (some o) = some (.ret o env) := id rfl
def if1 (st su : Sm) (env : Env) : Option Bool → Option Out
  | some true => st env
  | some false => su env
  | none => none
@[simp] theorem sIf_c : sIf t st su (s :: r) = if1 st su (s :: r) (t (s :: r)) := by
  unfold sIf if1; cases t (s :: r) with
  | none => rfl
  | some b => cases b <;> rfl
@[simp] theorem if1_t : if1 st su env (some true) = st env := id rfl
@[simp] theorem if1_f : if1 st su env (some false) = su env := id rfl
def asg1 (g : Gm) (env : Env) : Option O → Option Out
  | some o => (g o env).map .nx
  | none => none
@[simp] theorem sAsg_c {g : Gm} : sAsg a g (s :: r) = asg1 g (s :: r) (a (s :: r)) := by unfold sAsg asg1; cases a (s :: r) <;> rfl
@[simp] theorem asg1_s {g : Gm} : asg1 g env (some o) = (g o env).map .nx := id rfl
@[simp] theorem gNm_f : gNm i (.frz d) env = if i < env.length then setS env i (.frz d) else none := id rfl
@[simp] theorem gTp_f {n : Nat} {g : Gms} {ds : List D} : gTp n g (.frz (.tup ds)) env = if ds.length = n then g ds env else none := id rfl
@[simp] theorem gCn_s {g : Gm} {rr : Gms} {ds : List D} : gCn g rr (d :: ds) env = (g (.frz d) env).bind fun e => rr ds e := id rfl
@[simp] theorem gNl_s : gNl [] env = some env := id rfl
@[simp] theorem sFz_c : sFz i st (s :: r) = st (fzS i (s :: r)) := id rfl
def lp1 (g : Gm) (b : Sm) (env : Env) : Option (List D) → Option Out
  | some ds => loop g b ds env
  | none => none
@[simp] theorem sFor_c {it : Im} {g : Gm} : sFor it g st (s :: r) = lp1 g st (s :: r) (it (s :: r)) := by unfold sFor lp1; cases it (s :: r) <;> rfl
@[simp] theorem lp1_s {g : Gm} {ds : List D} : lp1 g st env (some ds) = loop g st ds env := id rfl
@[simp] theorem loop_nil {g : Gm} : loop g st [] env = some (.nx env) := by unfold loop; rfl
def lp2 (g : Gm) (b : Sm) (ds : List D) : Option Out → Option Out
  | some (.nx e) => loop g b ds e
  | some (.ct e) => loop g b ds e
  | some (.bk e) => some (.nx e)
  | some (.ret o e) => some (.ret o e)
  | none => none
def bdE (st : Sm) : Option Env → Option Out
  | some e => st e
  | none => none
theorem loop_cons {g : Gm} {ds : List D} : loop g st (d :: ds) env = lp2 g st ds (bdE st (g (.frz d) env)) := by
  rw [loop]
  cases g (.frz d) env with
  | none => rfl
  | some e =>
    show (st e).bind _ = lp2 g st ds (st e)
    cases st e with
    | none => rfl
    | some o => cases o <;> rfl
@[simp] theorem bdE_s : bdE st (some env) = st env := id rfl
@[simp] theorem lp2_n {g : Gm} {ds : List D} : lp2 g st ds (some (.nx env)) = loop g st ds env := id rfl
@[simp] theorem lp2_c {g : Gm} {ds : List D} : lp2 g st ds (some (.ct env)) = loop g st ds env := id rfl
@[simp] theorem lp2_b {g : Gm} {ds : List D} : lp2 g st ds (some (.bk env)) = some (.nx env) := id rfl
@[simp] theorem lp2_r {g : Gm} {ds : List D} : lp2 g st ds (some (.ret o env)) = some (.ret o env) := id rfl
def it1 (f : O → Option (List D)) : Option O → Option (List D)
  | some o => f o
  | none => none
@[simp] theorem iLT_c : iLT a (s :: r) = it1 (fun o => (seqF o).or o.titems) (a (s :: r)) := by
  unfold iLT iL iT it1; cases a (s :: r) <;> rfl
@[simp] theorem iLTc_c : iLTc a (s :: r) = it1 (fun o => (o.litems).or o.titems) (a (s :: r)) := by
  unfold iLTc iLc iT it1; cases a (s :: r) <;> rfl
@[simp] theorem it1_s {f : O → Option (List D)} : it1 f (some o) = f o := id rfl
@[simp] theorem seqF_l {ds : List D} : seqF (.frz (.lst ds)) = some ds := id rfl
@[simp] theorem seqF_t {ds : List D} : seqF (.frz (.tup ds)) = none := id rfl
@[simp] theorem seqF_s {ns : List Int} : seqF (.frz (.scr ns)) = some (ns.map D.int) := id rfl
def itE (f : O → Option (List D)) : Option (List O) → Option (List D)
  | some [o] => (f o).map enumD
  | _ => none
@[simp] theorem iE_c : iE ms (s :: r) = itE seqF (ms (s :: r)) := by
  unfold iE itE
  cases ms (s :: r) with
  | none => rfl
  | some os => rcases os with _ | ⟨o, _ | ⟨o2, os⟩⟩ <;> rfl
@[simp] theorem iEc_c : iEc ms (s :: r) = itE O.litems (ms (s :: r)) := by
  unfold iEc itE
  cases ms (s :: r) with
  | none => rfl
  | some os => rcases os with _ | ⟨o, _ | ⟨o2, os⟩⟩ <;> rfl
@[simp] theorem itE_s {f : O → Option (List D)} : itE f (some [o]) = (f o).map enumD := id rfl
def itR : Option (List O) → Option (List D)
  | some os => (match os.map O.toD with
    | [.int j] => if -(2 ^ 62) ≤ j ∧ j < 2 ^ 62 then some (rngD 0 j.toNat) else none
    | _ => none)
  | none => none
@[simp] theorem iR1_c : iR1 ms (s :: r) = itR (ms (s :: r)) := by unfold iR1 itR; cases ms (s :: r) <;> rfl
theorem itR_i {j : Int} (h : -(2 ^ 62) ≤ j ∧ j < 2 ^ 62) : itR (some [.frz (.int j)]) = some (rngD 0 j.toNat) := by
  unfold itR; simp only [List.map_cons, List.map_nil, toD_frz]; rw [if_pos h]
theorem rng_map (n : Nat) : rngD 0 n = (List.range n).map fun (i : Nat) => D.int i := by
  unfold rngD; exact List.map_congr_left fun i _ => by simp
def lc1 (vs : List Nat) (g : Gm) (t : VL.Tm) (m : Em) (env : Env) : Option (List D) → Option O
  | some ds => if noAlsB env = true ∧ ds.length ≤ 100000 then (compL (wipeE env vs) g t m ds).map O.lst else none
  | none => none
@[simp] theorem eLcN_c {it : Im} {vs : List Nat} {g : Gm} : eLcN it vs g t m (s :: r) = lc1 vs g t m (s :: r) (it (s :: r)) := by
  unfold eLcN eLc lc1
  cases it (s :: r) with
  | none => simp
  | some ds =>
    show (if noAlsB (s :: r) = true then (if ds.length ≤ 100000 then _ else none) else none) = _
    by_cases h1 : noAlsB (s :: r) = true <;> by_cases h2 : ds.length ≤ 100000 <;> simp [h1, h2]
theorem compL_fm {α : Type} {g : Gm} (f : α → D) (p : α → Bool) (h : α → O) : ∀ (xs : List α), (∀ x ∈ xs, ∃ e, g (.frz (f x)) env = some e ∧ t e = some (p x) ∧ (p x = true → m e = some (h x))) → compL env g t m (xs.map f) = some ((xs.filter p).map h)
  | [], _ => rfl
  | x :: xs, H => by
    obtain ⟨e, e1, e2, e3⟩ := H x (by simp)
    have ih := compL_fm f p h xs fun y hy => H y (by simp [hy])
    rw [List.map_cons, compL, e1]
    show (t e).bind _ = _
    rw [e2]
    show (if p x = true then _ else _) = _
    cases hp : p x with
    | true =>
      rw [if_pos rfl, e3 hp]
      show (compL env g t m (xs.map f)).map _ = _
      rw [ih, List.filter_cons_of_pos hp]
      rfl
    | false =>
      rw [if_neg Bool.false_ne_true, ih, List.filter_cons_of_neg (by simp [hp])]
theorem lc1_fm {α : Type} {g : Gm} {vs : List Nat} (f : α → D) (p : α → Bool) (h : α → O) (xs : List α) (hn : noAlsB env = true) (hl : xs.length ≤ 100000) (H : ∀ x ∈ xs, ∃ e, g (.frz (f x)) (wipeE env vs) = some e ∧ t e = some (p x) ∧ (p x = true → m e = some (h x))) :
    lc1 vs g t m env (some (xs.map f)) = some (.lst ((xs.filter p).map h)) := by
  show (if noAlsB env = true ∧ (xs.map f).length ≤ 100000 then (compL (wipeE env vs) g t m (xs.map f)).map O.lst else none) = _
  rw [if_pos ⟨hn, by simpa using hl⟩, compL_fm f p h xs H]
  rfl
theorem lc1_m {α : Type} {g : Gm} {vs : List Nat} (f : α → D) (h : α → O) (xs : List α) (hn : noAlsB env = true) (hl : xs.length ≤ 100000) (H : ∀ x ∈ xs, ∃ e, g (.frz (f x)) (wipeE env vs) = some e ∧ m e = some (h x)) :
    lc1 vs g yesT m env (some (xs.map f)) = some (.lst (xs.map h)) := by
  have := lc1_fm (t := yesT) (m := m) (vs := vs) f (fun _ => true) h xs hn hl fun x hx => by
    obtain ⟨e, h1, h2⟩ := H x hx
    exact ⟨e, h1, rfl, fun _ => h2⟩
  rw [List.filter_eq_self.mpr (fun _ _ => rfl)] at this
  exact this
@[simp] theorem wipe_n : wipeE env [] = env := id rfl
@[simp] theorem wipe_cc {vs : List Nat} {v : Nat} : wipeE env (v :: vs) = (wipeE env vs).set v .dead := id rfl
@[simp] theorem nA_nil : noAlsB [] = true := id rfl
@[simp] theorem nA_frz : noAlsB (.frz d :: r) = noAlsB r := id rfl
@[simp] theorem nA_own : noAlsB (.own o :: r) = noAlsB r := id rfl
@[simp] theorem nA_dead : noAlsB (.dead :: r) = noAlsB r := id rfl
theorem fn_eq {np n : Nat} {sm : Sm} {ds : List D} {e : Env} (hn : ds.length = np) (h : sm (ds.map SV.frz ++ List.replicate (n - np) .dead) = some (.ret o e)) : fnM np n sm (ds.map SV.frz) = some (o, ds.map SV.frz) := by
  unfold fnM
  rw [if_pos ⟨by simpa using hn, all_frz ds⟩, h]
  show some (o, outs _ e) = _
  congr 2
  unfold outs
  apply List.ext_getElem?
  intro j
  rw [List.getElem?_mapIdx, List.getElem?_map]
  cases ds[j]? <;> rfl
theorem fn1 {n : Nat} {sm : Sm} {d1 : D} {e : Env} (h : sm (.frz d1 :: List.replicate (n - 1) .dead) = some (.ret o e)) : fnM 1 n sm [.frz d1] = some (o, [.frz d1]) := fn_eq (ds := [d1]) rfl h
theorem fn2 {n : Nat} {sm : Sm} {d1 d2 : D} {e : Env} (h : sm (.frz d1 :: .frz d2 :: List.replicate (n - 2) .dead) = some (.ret o e)) : fnM 2 n sm [.frz d1, .frz d2] = some (o, [.frz d1, .frz d2]) := fn_eq (ds := [d1, d2]) rfl h
theorem fn3 {n : Nat} {sm : Sm} {d1 d2 d3 : D} {e : Env} (h : sm (.frz d1 :: .frz d2 :: .frz d3 :: List.replicate (n - 3) .dead) = some (.ret o e)) : fnM 3 n sm [.frz d1, .frz d2, .frz d3] = some (o, [.frz d1, .frz d2, .frz d3]) := fn_eq (ds := [d1, d2, d3]) rfl h
end VL
namespace VL
open PySem PySem.Spec PyProof.Rows L2
variable {s x : SV} {r : Env} {i j : Nat} {a b c m : Em} {ms : Es} {t u : VL.Tm} {st su : Sm} {o n n' : O} {d e : D} {env : Env} {p q : List Stp} {os : List O} {f : O → List O → Option O}
@[simp] theorem pE_c : plainE (s :: r) = (plS s && plainE r) := id rfl
@[simp] theorem pl_f : plS (.frz d) = true := id rfl
@[simp] theorem pl_o : plS (.own o) = true := id rfl
@[simp] theorem pl_d : plS .dead = true := id rfl
@[simp] theorem pl_a : plS (.als j p) = false := id rfl
@[simp] theorem pl_i : plS (.io o) = false := id rfl
def kS (i : Nat) : SV → SV
  | .als r p => if r = i then .dead else .als r p
  | s => s
@[simp] theorem kA_c : killA i (s :: r) = kS i s :: killA i r := by cases s <;> rfl
@[simp] theorem kS_f : kS i (.frz d) = .frz d := id rfl
@[simp] theorem kS_o : kS i (.own o) = .own o := id rfl
@[simp] theorem kS_d : kS i .dead = .dead := id rfl
@[simp] theorem kS_i : kS i (.io o) = .io o := id rfl
@[simp] theorem kS_a : kS i (.als j p) = if j = i then .dead else .als j p := id rfl
theorem kS_p (h : plS x = true) : kS i x = x := by
  cases x with
  | als _ _ => cases h
  | _ => rfl
def kP (i : Nat) (p : List Stp) : SV → SV
  | .als r p' => if r = i ∧ ¬ p' <+: p then .dead else .als r p'
  | s => s
@[simp] theorem kP_nil : killP i p [] = [] := id rfl
@[simp] theorem kP_c : killP i p (s :: r) = kP i p s :: killP i p r := by cases s <;> rfl
@[simp] theorem kP_f : kP i p (.frz d) = .frz d := id rfl
@[simp] theorem kP_o : kP i p (.own o) = .own o := id rfl
@[simp] theorem kP_d : kP i p .dead = .dead := id rfl
@[simp] theorem kP_i : kP i p (.io o) = .io o := id rfl
@[simp] theorem kP_a : kP i p (.als j q) = if j = i ∧ ¬ q <+: p then .dead else .als j q := id rfl
theorem kP_p (h : plS x = true) : kP i p x = x := by
  cases x with
  | als _ _ => cases h
  | _ => rfl
def nS : SV → Bool
  | .als _ _ => false
  | _ => true
@[simp] theorem nA_c : noAlsB (s :: r) = (nS s && noAlsB r) := by cases s <;> rfl
@[simp] theorem nS_f : nS (.frz d) = true := id rfl
@[simp] theorem nS_o : nS (.own o) = true := id rfl
@[simp] theorem nS_d : nS .dead = true := id rfl
@[simp] theorem nS_i : nS (.io o) = true := id rfl
theorem nS_p (h : plS x = true) : nS x = true := by
  cases x with
  | als _ _ => cases h
  | _ => rfl
def qv (i : Nat) : Option SV → Option (Nat × List Stp)
  | some (.own _) => some (i, [])
  | some (.io _) => some (i, [])
  | some (.als r p) => some (r, p)
  | _ => none
@[simp] theorem qVar_c : qVar i (s :: r) = qv i (s :: r)[i]? := by
  unfold qVar qv
  split <;> simp_all
@[simp] theorem qv_o : qv i (some (.own o)) = some (i, []) := id rfl
@[simp] theorem qv_i : qv i (some (.io o)) = some (i, []) := id rfl
@[simp] theorem qv_a : qv i (some (.als j p)) = some (j, p) := id rfl
def okq (p : List Stp) : Option SV → Option O
  | some (.own o) => o.walk p
  | some (.io o) => o.walk p
  | _ => none
@[simp] theorem okQ_c : okQ (s :: r) (i, p) = okq p (s :: r)[i]? := by
  unfold okQ rootO okq
  simp only
  cases (s :: r)[i]? with
  | none => rfl
  | some x => cases x <;> rfl
@[simp] theorem okq_o : okq p (some (.own o)) = o.walk p := id rfl
@[simp] theorem okq_i : okq p (some (.io o)) = o.walk p := id rfl
@[simp] theorem walk_n : O.walk o [] = some o := by rw [O.walk]
@[simp] theorem walk_c {k : Stp} : O.walk o (k :: p) = (o.step k).bind fun o' => o'.walk p := by rw [O.walk]
@[simp] theorem step_l {k : Nat} : O.step (.lst os) (.ix k) = os[k]? := id rfl
def mt (env : Env) (i : Nat) (p : List Stp) (n' : O) : Option SV → Env
  | some (.own o) => (killP i p env).set i (.own (o.putW p n'))
  | some (.io o) => (killP i p env).set i (.io (o.putW p n'))
  | _ => env
@[simp] theorem mutS_c : mutS (s :: r) i p n' = mt (s :: r) i p n' (s :: r)[i]? := by
  unfold mutS mt
  split <;> simp_all
@[simp] theorem mt_o : mt env i p n' (some (.own o)) = (killP i p env).set i (.own (o.putW p n')) := id rfl
@[simp] theorem mt_i : mt env i p n' (some (.io o)) = (killP i p env).set i (.io (o.putW p n')) := id rfl
@[simp] theorem putW_n : O.putW o [] n = n := by rw [O.putW]
theorem putW_l {k : Nat} {os : List O} {o : O} (h : os[k]? = some o) : O.putW (.lst os) (.ix k :: p) n = .lst (os.set k (o.putW p n)) := by
  rw [O.putW]
  simp [O.step, h, O.put]
def ac1 (f : O → List O → Option O) (env : Env) (rp : Nat × List Stp) (os : Option (List O)) : Option O → Option Out
  | some n => (match os with
    | some os => if isLst n = true then (f n os).map fun n' => .nx (mutS env rp.1 rp.2 n') else none
    | none => none)
  | none => none
def ac2 (f : O → List O → Option O) (env : Env) (os : Option (List O)) : Option (Nat × List Stp) → Option Out
  | some rp => ac1 f env rp os (okQ env rp)
  | none => none
@[simp] theorem sAct_c {qq : Qm} : sAct f qq ms (s :: r) = ac2 f (s :: r) (ms (s :: r)) (qq (s :: r)) := by
  unfold sAct ac2 ac1
  cases qq (s :: r) with
  | none => rfl
  | some rp =>
    show (okQ (s :: r) rp).bind _ = _
    simp only
    cases okQ (s :: r) rp with
    | none => rfl
    | some n =>
      show (if isLst n = true then (ms (s :: r)).bind _ else none) = _
      simp only
      cases ms (s :: r) with
      | none => simp
      | some os => rfl
@[simp] theorem ac2_s {rp : Nat × List Stp} : ac2 f env (some os) (some rp) = ac1 f env rp (some os) (okQ env rp) := id rfl
@[simp] theorem ac1_s {rp : Nat × List Stp} : ac1 f env rp (some os) (some n) = if isLst n = true then (f n os).map fun n' => .nx (mutS env rp.1 rp.2 n') else none := id rfl
@[simp] theorem isLst_l : isLst (.lst os) = true := id rfl
@[simp] theorem isLst_n {ds : List D} : isLst (newL ds) = true := id rfl
@[simp] theorem aAppend_l : aAppend (.lst os) [o] = if os.length < 16777216 then some (.lst (os ++ [o])) else none := id rfl
theorem aAppend_n {ds : List D} (h : ds.length < 16777216) : aAppend (newL ds) [.frz d] = some (newL (ds ++ [d])) := by
  unfold newL
  rw [aAppend_l, if_pos (by simpa using h)]
  simp
def als1 (i : Nat) (env : Env) (rp : Nat × List Stp) : Option O → Option Out
  | some _ => if isIo env[i]? = true ∨ rp.1 = i ∨ ¬ i < env.length then none else some (.nx ((killA i env).set i (.als rp.1 rp.2)))
  | none => none
def als2 (i : Nat) (env : Env) : Option (Nat × List Stp) → Option Out
  | some rp => als1 i env rp (okQ env rp)
  | none => none
@[simp] theorem sAls_c {qq : Qm} : sAls i qq (s :: r) = als2 i (s :: r) (qq (s :: r)) := by
  unfold sAls als2 als1
  cases qq (s :: r) with
  | none => rfl
  | some rp =>
    show (okQ (s :: r) rp).bind _ = _
    simp only
    cases okQ (s :: r) rp <;> rfl
@[simp] theorem als2_s {rp : Nat × List Stp} : als2 i env (some rp) = als1 i env rp (okQ env rp) := id rfl
@[simp] theorem als1_s {rp : Nat × List Stp} : als1 i env rp (some n) = if isIo env[i]? = true ∨ rp.1 = i ∨ ¬ i < env.length then none else some (.nx ((killA i env).set i (.als rp.1 rp.2))) := id rfl
def qi1 (env : Env) (o : Option O) : Option (Nat × List Stp) → Option (Nat × List Stp)
  | some rp => (okQ env rp).bind fun n => o.bind fun o => (stpOf n o.toD).bind fun s => if (n.step s).isSome = true then some (rp.1, rp.2 ++ [s]) else none
  | none => none
@[simp] theorem qIx_c {qq : Qm} : qIx qq a (s :: r) = qi1 (s :: r) (a (s :: r)) (qq (s :: r)) := by
  unfold qIx qi1
  cases qq (s :: r) <;> rfl
theorem ixN_nat {l k : Nat} (h : k < l) : ixN l (k : Int) = some k := by unfold ixN; simp [h]
theorem qi1_own {os : List O} {k : Nat} {v : Int} (h1 : (env)[i]? = some (.own (.lst os))) (hv : v = k) (h2 : k < os.length) : qi1 env (some (.frz (.int v))) (some (i, [])) = some (i, [.ix k]) := by
  subst hv
  unfold qi1 okQ rootO
  simp only [h1]
  simp [stpOf, ixN_nat h2, O.step, h2]
@[simp] theorem rdS_als {k : Nat} : rdS env (some (.als k p)) = okq p env[k]? := by
  unfold rdS okq
  rfl
def fzo (env : Env) (i : Nat) : Option SV → Env
  | some (.own o) => (killA i env).set i (.frz o.toD)
  | _ => env
@[simp] theorem fzS_c : fzS i (s :: r) = fzo (s :: r) i (s :: r)[i]? := by
  unfold fzS fzo
  rfl
@[simp] theorem fzo_o : fzo env i (some (.own o)) = (killA i env).set i (.frz o.toD) := id rfl
@[simp] theorem fzo_f : fzo env i (some (.frz d)) = env := id rfl
@[simp] theorem fzo_d : fzo env i (some .dead) = env := id rfl
theorem io_pl (h : plS x = true) : isIo (some x) = false := by cases x <;> first | rfl | cases h
end VL
namespace VL
open PySem PySem.Spec PyProof.Rows L2
theorem ofS_inj {a b : String} (h : Str.ofString a = Str.ofString b) : a = b := by
  rw [Str.ofString_eq_toList, Str.ofString_eq_toList] at h
  have h1 : (a.toList.map Char.toNat) = (b.toList.map Char.toNat) := by simpa using h
  have inj : ∀ x y : List Char, x.map Char.toNat = y.map Char.toNat → x = y := by
    intro x
    induction x with
    | nil => intro y h; cases y with
      | nil => rfl
      | cons _ _ => cases h
    | cons c x ih => intro y h; cases y with
      | nil => cases h
      | cons d y =>
        rw [List.map_cons, List.map_cons] at h
        have hc : c.toNat = d.toNat := (List.cons.inj h).1
        have : c = d := Char.ext (UInt32.toNat_inj.mp hc)
        rw [this, ih y (List.cons.inj h).2]
  exact String.toList_inj.mp (inj _ _ h1)
@[simp] theorem ofS_beq {a b : String} : (Str.ofString a == Str.ofString b) = (a == b) := by
  by_cases h : a = b
  · rw [h]; simp
  · rw [beq_eq_false_iff_ne.mpr h, beq_eq_false_iff_ne.mpr fun z => h (ofS_inj z)]
@[simp] theorem ofS_bne {a b : String} : (Str.ofString a != Str.ofString b) = (a != b) := by
  unfold bne; rw [ofS_beq]
@[simp] theorem ofS_eq {a b : String} : (Str.ofString a = Str.ofString b) = (a = b) := propext ⟨ofS_inj, fun h => by rw [h]⟩
variable {d e : D} {ds es : List D} {n k : Nat}
/-- plain data of depth n at most -/
def PyOk (n : Nat) (d : D) : Prop := ∃ x, d.py = some x ∧ x.depth ≤ n
def PysOk (n : Nat) (ds : List D) : Prop := ∃ xs, D.pys ds = some xs ∧ PyData.depthAll xs ≤ n
theorem PyOk.int {i : Int} : PyOk n (.int i) := ⟨.int i, rfl, by rw [PyData.depth]; exact Nat.zero_le _⟩
theorem PyOk.str {i : Str} : PyOk n (.str i) := ⟨.str i, rfl, by rw [PyData.depth]; exact Nat.zero_le _⟩
theorem PyOk.bl {i : Bool} : PyOk n (.bl i) := ⟨.bool i, rfl, by rw [PyData.depth]; exact Nat.zero_le _⟩
theorem PyOk.non : PyOk n .non := ⟨.none, rfl, by rw [PyData.depth]; exact Nat.zero_le _⟩
theorem PysOk.nil : PysOk n [] := ⟨[], rfl, by rw [PyData.depthAll]; exact Nat.zero_le _⟩
theorem PysOk.cons (h : PyOk n d) (t : PysOk n ds) : PysOk n (d :: ds) := by
  obtain ⟨x, h1, h2⟩ := h
  obtain ⟨xs, t1, t2⟩ := t
  refine ⟨x :: xs, by rw [D.pys, h1, t1]; rfl, ?_⟩
  rw [PyData.depthAll]
  omega
theorem PysOk.map {α : Type} {f : α → D} {xs : List α} (h : ∀ x ∈ xs, PyOk n (f x)) : PysOk n (xs.map f) := by
  induction xs with
  | nil => exact .nil
  | cons x xs ih => exact .cons (h x (by simp)) (ih fun y hy => h y (by simp [hy]))
theorem PyOk.lst (t : PysOk n ds) : PyOk (n + 1) (.lst ds) := by
  obtain ⟨xs, t1, t2⟩ := t
  exact ⟨.list xs, by rw [D.py, t1]; rfl, by rw [PyData.depth]; omega⟩
theorem PyOk.tup (t : PysOk n ds) : PyOk (n + 1) (.tup ds) := by
  obtain ⟨xs, t1, t2⟩ := t
  exact ⟨.tuple xs, by rw [D.py, t1]; rfl, by rw [PyData.depth]; omega⟩
theorem PyOk.mono (h : PyOk n d) (hk : n ≤ k) : PyOk k d := let ⟨x, h1, h2⟩ := h; ⟨x, h1, Nat.le_trans h2 hk⟩
theorem gEq_self (h : PyOk n d) (hn : n ≤ 30) : gEq d d = some (.bl true) := by
  obtain ⟨x, h1, h2⟩ := h
  unfold gEq
  rw [h1]
  show (eqP x x).map _ = _
  unfold eqP
  rw [if_pos (by omega), PySem.SeqAt.eqv_refl_plain x (py_plain d x h1)]
  rfl
theorem gNe_self (h : PyOk n d) (hn : n ≤ 30) : gNe d d = some (.bl false) := by
  obtain ⟨x, h1, h2⟩ := h
  unfold gNe
  rw [h1]
  show (eqP x x).map _ = _
  unfold eqP
  rw [if_pos (by omega), PySem.SeqAt.eqv_refl_plain x (py_plain d x h1)]
  rfl
@[simp] theorem gEq_ii {i j : Int} : gEq (.int i) (.int j) = some (.bl (i == j)) := by
  simp [gEq, D.py, eqP, PyData.depth, PyData.eqv]
@[simp] theorem gEq_ss {i j : Str} : gEq (.str i) (.str j) = some (.bl (i == j)) := by
  simp [gEq, D.py, eqP, PyData.depth, PyData.eqv]
@[simp] theorem gNe_ii {i j : Int} : gNe (.int i) (.int j) = some (.bl (i != j)) := by
  simp [gNe, D.py, eqP, PyData.depth, PyData.eqv, bne]
@[simp] theorem gNe_ss {i j : Str} : gNe (.str i) (.str j) = some (.bl (i != j)) := by
  simp [gNe, D.py, eqP, PyData.depth, PyData.eqv, bne]
theorem gNe_nil (h : PysOk n ds) : gNe (.lst ds) (.lst []) = some (.bl (!ds.isEmpty)) := by
  obtain ⟨xs, h1, h2⟩ := h
  have e : PyData.eqvAll xs [] = ds.isEmpty := by
    cases ds with
    | nil => cases h1; rfl
    | cons d ds =>
      rw [D.pys] at h1
      obtain ⟨x, _, h1⟩ := Option.bind_eq_some_iff.mp h1
      obtain ⟨ys, _, h1⟩ := Option.map_eq_some_iff.mp h1
      subst h1
      rfl
  simp [gNe, D.py, D.pys, h1, eqP, PyData.depth, PyData.depthAll, PyData.eqv, e]
/-- x in [f y, ..] -/
theorem any_py {α : Type} {f : α → D} {P : α → Bool} {x : PyData} : ∀ {ys : List α}, (∀ y ∈ ys, ∃ z, (f y).py = some z ∧ PyData.eqv z x = P y) → ∃ zs, D.pys (ys.map f) = some zs ∧ (zs.any fun z => PyData.eqv z x) = ys.any P
  | [], _ => ⟨[], rfl, rfl⟩
  | y :: ys, h => by
    obtain ⟨z, h1, h2⟩ := h y (by simp)
    obtain ⟨zs, h3, h4⟩ := any_py (ys := ys) fun y hy => h y (by simp [hy])
    exact ⟨z :: zs, by rw [List.map_cons, D.pys, h1, h3]; rfl, by rw [List.any_cons, List.any_cons, h2, h4]⟩
theorem oIn_l {α : Type} {f : α → D} {P : α → Bool} {neg : Bool} {x : PyData} {ys : List α} (hd : d.py = some x) (hx : x.depth ≤ 30) (h : ∀ y ∈ ys, ∃ z, (f y).py = some z ∧ PyData.eqv z x = P y) : oIn neg (.frz d) (.frz (.lst (ys.map f))) = some (.frz (.bl (neg ^^ ys.any P))) := by
  obtain ⟨zs, h1, h2⟩ := any_py h
  unfold oIn orO
  rw [sc2_s, toD_frz, toD_frz]
  have : gInS neg d (.lst (ys.map f)) = some (.bl (neg ^^ ys.any P)) := by
    unfold gInS
    rw [hd]
    show (D.pys (ys.map f)).bind (inP neg x) = _
    rw [h1]
    show inP neg x zs = _
    unfold inP
    rw [if_pos hx, h2]
  rw [this]
  rfl
theorem oIn_t {α : Type} {f : α → D} {P : α → Bool} {neg : Bool} {x : PyData} {ys : List α} (hd : d.py = some x) (hx : x.depth ≤ 30) (h : ∀ y ∈ ys, ∃ z, (f y).py = some z ∧ PyData.eqv z x = P y) : oIn neg (.frz d) (.frz (.tup (ys.map f))) = some (.frz (.bl (neg ^^ ys.any P))) := by
  obtain ⟨zs, h1, h2⟩ := any_py h
  unfold oIn orO
  rw [sc2_s, toD_frz, toD_frz]
  have : gInS neg d (.tup (ys.map f)) = some (.bl (neg ^^ ys.any P)) := by
    unfold gInS
    rw [hd]
    show (D.pys (ys.map f)).bind (inP neg x) = _
    rw [h1]
    show inP neg x zs = _
    unfold inP
    rw [if_pos hx, h2]
  rw [this]
  rfl
/-- a text in a tuple of texts -/
theorem oIn_ts {neg : Bool} {x : Str} {ys : List Str} : oIn neg (.frz (.str x)) (.frz (.tup (ys.map D.str))) = some (.frz (.bl (neg ^^ ys.any fun y => y == x))) :=
  oIn_t (x := .str x) rfl (by rw [PyData.depth]; omega) fun y _ => ⟨.str y, rfl, rfl⟩
@[simp] theorem oIn_ts2 {neg : Bool} {x y z : Str} : oIn neg (.frz (.str x)) (.frz (.tup [.str y, .str z])) = some (.frz (.bl (neg ^^ (y == x || z == x)))) := by
  have := oIn_ts (neg := neg) (x := x) (ys := [y, z])
  simpa using this
end VL
namespace VL
open PySem PySem.Spec PyProof.Rows L2 PySem.W
section
variable {X : Cx}
end
section
variable {K : PySem.W.Frag} {T : Tab}
end
theorem cl_imm {np : Nat} {f : Fm} {os : List O} {d : D} {svs : List SV} (h : os.length = np) (e : f (os.map fun o => .frz o.toD) = some (.frz d, svs)) (hd : d.imm = true) : cl np f (some os) = some (.frz d) := by
  show (if os.length = np then callP f os else none) = _
  rw [if_pos h]
  unfold callP
  rw [e]
  show (if _ then some (O.frz d) else none) = _
  rw [if_pos]
  right
  show (O.frz d).immO = true
  rw [O.immO]
  exact hd
def sPar (i j : Nat) (m : Es) : Sm := fun env => (m env).bind fun os => match os with
  | [p, q] => (asFrz p).bind fun d => (asFrz q).bind fun e => if i < env.length ∧ j < env.length then (setS env i (.frz d)).bind fun e1 => (setS e1 j (.frz e)).map .nx else none
  | _ => none
theorem setS_len {env e' : Env} {i : Nat} {sv : SV} (h : setS env i sv = some e') : e'.length = env.length := by
  obtain ⟨_, h2⟩ := setS_of h
  rw [h2, List.length_set, killA_len]
section
variable {X : Cx} {T : Tab} {m : Es}
theorem ss_par {i j : Nat} {x y : Str} {a b : Expr} {px py pt pos : Pos} {kt k2 pt2} (hc : X.calm = true) (hN : X.N.Nodup) (hi : X.N[i]? = some x) (hj : X.N[j]? = some y) (hij : i ≠ j)
    (hx : X.env.scope.names.lookup x = some .local) (hy : X.env.scope.names.lookup y = some .local) (ha : BA X T [a, b] m)
    (hw : swappedStores [.Tuple [.Name x px, .Name y py] kt pt] (.Tuple [a, b] k2 pt2) X.env = pure (some [x, y]) := by rfl)
    (hs : swapsWithSole [.Tuple [.Name x px, .Name y py] kt pt] (.Tuple [a, b] k2 pt2) pos.line X.env = pure false := by rfl) :
    SS X T (.Assign [.Tuple [.Name x px, .Name y py] kt pt] (.Tuple [a, b] k2 pt2) pos) (sPar i j m) :=
  psI (ps_par hc hN hi hj hij hx hy ha hw hs) fun D σ H q => by
    obtain ⟨F, env, ω, sa, out, e, k⟩ := q
    obtain ⟨os, e1, e2⟩ := Option.bind_eq_some_iff.mp e
    refine ⟨F, env, ω, sa, os, e1, fun vs F1 H1 p hv => ?_⟩
    split at e2
    · rename_i o1 o2
      obtain ⟨d1, g1, e2⟩ := Option.bind_eq_some_iff.mp e2
      obtain ⟨d2, g2, e2⟩ := Option.bind_eq_some_iff.mp e2
      split at e2
      · rename_i c
        obtain ⟨ea, e3, e2⟩ := Option.bind_eq_some_iff.mp e2
        obtain ⟨eb, e4, e5⟩ := Option.map_eq_some_iff.mp e2
        subst e5
        cases hv with
        | cons h1 t => cases t with
          | cons h2 t =>
            cases t
            rename_i v1 v2
            refine ⟨v1, v2, rfl, ?_⟩
            have f1 : Fresh X.K H F1 H1 v1 (.frz d1) [] := .frz (h1.asFrz p.gl g1)
            have go1 := Go.put sa p f1 c.1 e3
            have f2 : Fresh X.K H1 F1 H1 v2 (.frz d2) [] := .frz (h2.asFrz p.gl g2)
            have go2 := Go.put go1.sta (.refl go1.sta.gl) f2 (by rw [setS_len e3]; exact c.2) e4
            exact k _ _ _ _ (go1.trans go2)
      · cases e2
    · cases e2
end
@[simp] theorem sPar_c {i j : Nat} {m : Es} {s : SV} {r : Env} : sPar i j m (s :: r) = (m (s :: r)).bind fun os => match os with
  | [p, q] => (asFrz p).bind fun d => (asFrz q).bind fun e => if i < (s :: r).length ∧ j < (s :: r).length then (setS (s :: r) i (.frz d)).bind fun e1 => (setS e1 j (.frz e)).map .nx else none
  | _ => none := rfl
end VL
namespace VL
open PySem PySem.Spec PyProof.Rows L2
def OpM (K : PySem.W.Frag) (T : Tab) (r : V → List V → Hp → VK → Prop) (f : O → List O → Option O) : Prop := ∀ (F H : Hp) (x : V) (a : O) (xs : List V) (os : List O) (o : O) (Q : VK), Gl T F H → VwO K F H x a → Paired (VwO K F H) xs os → f a os = some o →
  (∀ v F' H' A, PX T F H F' H' → Fresh K H F' H' v o A → Q v H') → r x xs H Q
def isS (o : O) : Bool := match o.toD with
  | .str _ => true
  | _ => false
def eOpM (f : O → List O → Option O) (mo : Em) (m : Es) : Em := fun env => (mo env).bind fun a => (m env).bind fun os => if isS a = true then f a os else none
theorem ty_str {K : PySem.W.Frag} {T : Tab} {F H : Hp} {v : V} {o : O} (h : VwO K F H v o) (g : Gl T F H) (e : isS o = true) : tyV K "str" v H := by
  have hv := h.vw g
  unfold isS at e
  generalize o.toD = d at hv e
  cases hv with
  | str x => rfl
  | _ => cases e
section
variable {X : Cx} {T : Tab} {o e : Expr} {es : List Expr} {mo : Em} {m : Es} {r : V → List V → Hp → VK → Prop} {f : O → List O → Option O} {name : Str} {id : String} {apos cpos : Pos}
theorem fe_sm (hf : OpM X.K T r f) (slot : Slot "str" name id) (hty : typeOf (.builtin id) = pure (.type "method_descriptor")) (hm : MtR X id r) (ho : BE X T o mo) (ha : BA X T (e :: es) m)
    (hbase : attributeBase o name X.env (eval o X.env) = eval o X.env := by rfl)
    (hfew : ((backTo cpos (starEach (e :: es) X.env)).all (fun x => !x.1) && (backToKw cpos (keywordEach [] X.env)).all (fun x => x.1.isSome)
      && decide ((e :: es).length + ([] : List Keyword).length + (if ([] : List Keyword).isEmpty then 0 else 1) < 30)) = true := by rfl)
    (hline : (apos.endLine == cpos.line) = true := by rfl) (hs : starEach (e :: es) X.env = (false, eval e X.env) :: starEach es X.env := by rfl) (hplain : (backTo cpos (starEach es X.env)).any (·.1) = false := by rfl) :
    FE X T (.Call (.Attribute o name apos) (e :: es) [] cpos) (eOpM f mo m) :=
  peI (pe_bm PySem.F.plainAttrs_str slot hty hm ho ha hbase hfew hline hs hplain) fun σ H Q q => by
    obtain ⟨F, env, ω, sa, ov, e1, k⟩ := q
    obtain ⟨a, e2, e1⟩ := Option.bind_eq_some_iff.mp e1
    obtain ⟨os, e3, e1⟩ := Option.bind_eq_some_iff.mp e1
    split at e1
    · rename_i hs
      refine ⟨F, env, ω, sa, a, e2, fun v F1 H1 p1 h1 => ⟨ty_str h1 p1.gl hs, F1, env, ω, sa.px p1, os, e3, fun vs F2 H2 p2 h2 => ?_⟩⟩
      exact hf F2 H2 v a vs os ov Q p2.gl (h1.px p2) h2 e1 fun w F3 H3 A p3 f3 => k w F3 H3 A ((p1.trans p2).trans p3) (f3.back (p1.trans p2))
    · cases e1
end
def D.strs : List D → Option (List Str)
  | [] => some []
  | .str x :: r => (D.strs r).map fun xs => x :: xs
  | _ => none
theorem VwL.strsO {K : PySem.W.Frag} {H : Hp} : ∀ {vs : List V} {ds : List D} {xs : List Str}, VwL K H vs ds → D.strs ds = some xs → vs = xs.map V.str
  | _, [], xs, l, e => by
    cases l
    have : xs = [] := by simpa [D.strs] using e.symm
    subst this; rfl
  | _, d :: ds, xs, l, e => by
    cases l with
    | cons h t =>
      cases d <;> simp only [D.strs] at e
      case str x =>
        obtain ⟨r, e1, e2⟩ := Option.map_eq_some_iff.mp e
        subst e2
        cases h
        rw [VwL.strsO t e1]; rfl
      all_goals cases e
def oStrs (o : O) : Option (List Str) := match o.toD with
  | .lst ds => D.strs ds
  | .tup ds => D.strs ds
  | _ => none
def oJoin : O → List O → Option O := fun a os => match a.toD, os with
  | .str s, [x] => (oStrs x).bind fun ys => if (ys.map (·.length)).sum + ys.length * s.length ≤ 16777216 then some (.frz (.str (Txt.join s ys))) else none
  | _, _ => none
def oSplit : O → List O → Option O := fun a os => match a.toD, os.map O.toD with
  | .str s, [.str b] => if (b.length == 0) = false ∧ s.length + 2 ≤ 16777216 then some (newL ((Txt.split s b).map D.str)) else none
  | _, _ => none
def oStarts : O → List O → Option O := fun a os => match a.toD, os.map O.toD with
  | .str s, [.str b] => some (.frz (.bl (Txt.startswith s b)))
  | _, _ => none
section
variable {K : PySem.W.Frag} {T : Tab} {F H : Hp}
theorem VwO.strs {v : V} {o : O} {ys : List Str} (h : VwO K F H v o) (g : Gl T F H) (e : oStrs o = some ys) : ∃ p, v = .ref p ∧ (SqL K H p (ys.map V.str) ∨ SqT K H p (ys.map V.str)) := by
  have hv := h.vw g
  unfold oStrs at e
  generalize o.toD = d at hv e
  cases hv with
  | lst h2 l => rw [← VwL.strsO l e]; exact ⟨_, rfl, .inl (.of h2)⟩
  | tup h2 l => rw [← VwL.strsO l e]; exact ⟨_, rfl, .inr (.of h2)⟩
  | _ => cases e
theorem VwL.of_strs : ∀ ns : List Str, VwL K H (ns.map V.str) (ns.map D.str)
  | [] => .nil
  | n :: ns => .cons (.str n) (VwL.of_strs ns)
theorem op_join {X : Cx} : OpM X.K T (fun x xs H Q => ∃ a p, ∃ ys : List Str, x = .str a ∧ xs = [.ref p] ∧ (SqL X.K H p (ys.map V.str) ∨ SqT X.K H p (ys.map V.str)) ∧ (ys.map (·.length)).sum + ys.length * a.length ≤ 16777216 ∧ Q (.str (Txt.join a ys)) H) oJoin := by
  intro F H x a xs os o Q gl hx hp e k
  have hv := hx.vw gl
  unfold oJoin at e
  generalize a.toD = d at hv e
  split at e
  · obtain ⟨ys, e1, e2⟩ := Option.bind_eq_some_iff.mp e
    split at e2
    · rename_i c
      cases e2
      cases hv
      cases hp with
      | cons h1 t =>
        cases t
        obtain ⟨p, rfl, hs⟩ := h1.strs gl e1
        exact ⟨_, p, ys, rfl, rfl, hs, c, k _ F H [] (.refl gl) (.frz (.str _))⟩
    · cases e2
  · cases e
theorem op_split : OpM K T (fun x xs H Q => ∃ a b, x = .str a ∧ xs = [.str b] ∧ (b.length == 0) = false ∧ a.length + 2 ≤ sizeLine ∧ rNewStrs (Txt.split a b) H Q) oSplit := by
  intro F H x a xs os o Q gl hx hp e k
  have hv := hx.vw gl
  have hvs := prd_vw gl hp
  unfold oSplit at e
  generalize a.toD = d at hv e
  generalize os.map O.toD = ds at hvs e
  split at e
  · split at e
    · rename_i c
      cases e
      cases hv
      cases hvs with
      | cons h1 t =>
        cases t
        cases h1
        refine ⟨_, _, rfl, rfl, c.1, by rw [sizeLine_eq]; exact c.2, fun p hp => ?_⟩
        obtain ⟨px, f⟩ := new_lst gl hp (VwL.of_strs (Txt.split _ _))
        exact k _ _ _ _ px f
    · cases e
  · cases e
theorem op_starts : OpM K T (fun x xs H Q => ∃ a b, x = .str a ∧ xs = [.str b] ∧ Q (.bl (Txt.startswith a b)) H) oStarts := by
  intro F H x a xs os o Q gl hx hp e k
  have hv := hx.vw gl
  have hvs := prd_vw gl hp
  unfold oStarts at e
  generalize a.toD = d at hv e
  generalize os.map O.toD = ds at hvs e
  split at e
  · cases e
    cases hv
    cases hvs with
    | cons h1 t =>
      cases t
      cases h1
      exact ⟨_, _, rfl, rfl, k _ F H [] (.refl gl) (.frz (.bl _))⟩
  · cases e
def aInsert : O → List O → Option O
  | .lst os, [i, o] => (match i.toD with
    | .int j => if os.length < 16777216 ∧ 0 ≤ j ∧ j < 2 ^ 63 then some (.lst (os.take j.toNat ++ [o] ++ os.drop j.toNat)) else none
    | _ => none)
  | _, _ => none
theorem RoL.cut {vs : List V} {os : List O} : ∀ {A : List Addr} (n : Nat), RoL K F H vs os A → ∃ A1 A2, A = A1 ++ A2 ∧ RoL K F H (vs.take n) (os.take n) A1 ∧ RoL K F H (vs.drop n) (os.drop n) A2 := by
  intro A n l
  induction n generalizing vs os A with
  | zero => exact ⟨[], A, rfl, .nil, l⟩
  | succ n ih =>
    cases l with
    | nil => exact ⟨[], [], rfl, .nil, .nil⟩
    | cons h t =>
      obtain ⟨A1, A2, e, l1, l2⟩ := ih t
      exact ⟨_ ++ A1, A2, by rw [e, List.append_assoc], .cons h l1, l2⟩
theorem act_insert : Act K T (fun x vs H Q => ∃ (l : Addr) (xs : List V) (i : Int) (y : V), x = .ref l ∧ vs = [.int i, y] ∧ H l = some (.lst xs) ∧ xs.length < sizeLine ∧ 0 ≤ i ∧ i < 2 ^ 63 ∧ Q .non (upd H l (.lst (xs.take i.toNat ++ [y] ++ xs.drop i.toNat)))) aInsert := by
  intro F H v n n' B xs os A Q gl r nB l nA dis e k
  unfold aInsert at e
  split at e
  · rename_i os i o
    split at e
    · rename_i j hj
      split at e
      · rename_i c
        cases e
        cases r with
        | @lst a vs _ A0 f h l0 =>
          cases l with
          | cons hi t =>
            cases t with
            | cons ho hnil =>
              cases hnil
              rename_i vi Ai vo Ao
              have hvi := hi.vw gl.sub
              rw [hj] at hvi
              obtain ⟨nb1, nb2⟩ := List.nodup_cons.mp nB
              have nA2 : (Ai ++ Ao).Nodup := by simpa using nA
              have nAo := (List.nodup_append.mp nA2).2.1
              obtain ⟨A1, A2, eA, t1, t2⟩ := l0.cut j.toNat
              subst eA
              have nd := List.nodup_append.mp nb2
              have disO : ∀ b ∈ Ao, b ∉ a :: (A1 ++ A2) := fun b hb => dis b (by simp [hb])
              have neO : a ∉ Ao := fun z => disO a z (by simp)
              have ne1 : a ∉ A1 := fun z => nb1 (by simp [z])
              have ne2 : a ∉ A2 := fun z => nb1 (by simp [z])
              cases hvi
              refine ⟨a, vs, j, vo, rfl, rfl, h, by rw [sizeLine_eq, l0.length]; exact c.1, c.2.1, c.2.2, k a _ (a :: (A1 ++ Ao ++ A2)) (by simp) (fun _ z => by cases z) (.lst f upd_same (((t1.upd ne1).append ((RoL.one ho).upd neO)).append (t2.upd ne2))) ?_ fun b hb => ?_⟩
              · refine List.nodup_cons.mpr ⟨fun z => ?_, nodup_app (nodup_app nd.1 nAo fun b h1 h2 => disO b h2 (by simp [h1])) nd.2.1 fun b h1 h2 => ?_⟩
                · rcases List.mem_append.mp z with z | z
                  · rcases List.mem_append.mp z with z | z
                    · exact ne1 z
                    · exact neO z
                  · exact ne2 z
                · rcases List.mem_append.mp h1 with z | z
                  · exact nd.2.2 b z b h2 rfl
                  · exact disO b z (by simp [h2])
              · rcases List.mem_cons.mp hb with z | z
                · exact .inl (by simp [z])
                · rcases List.mem_append.mp z with z | z
                  · rcases List.mem_append.mp z with z | z
                    · exact .inl (by simp [z])
                    · exact .inr (by simp [z])
                  · exact .inl (by simp [z])
      · cases e
    · cases e
  · cases e
end
section
variable {X : Cx} {T : Tab} {x : Str} {pos : Pos}
theorem be_gs {z : Str} (hg : L2.Gl X x) (hm : ∃ t, X.mg x = some (.str z t)) (hd : (x == ("__debug__" : Str)) = false := by decide) : BE X T (.Name x pos) (eC (.str z)) := by
  obtain ⟨t, hm⟩ := hm
  exact be_C (v := .str z) (pe_glob (v := .str z) hg hm ⟨t, rfl⟩ hd) fun _ => .str z
end
def FD (X : Cx) (T : Tab) (pos : Pos) (keys : List (Option Expr)) (values : List Expr) (kms : List (Str × Em)) : Prop := PPs X pos keys values (kms.map fun km => (tC (.str km.1), tF X.K T km.2))
def eKms : List (Str × Em) → Env → Option (List (Key × O))
  | [], _ => some []
  | (k, m) :: r, env => (m env).bind fun o => (eKms r env).map fun os => (.inr k, o) :: os
def eDct (kms : List (Str × Em)) : Em := fun env => if (kms.map Prod.fst).Nodup ∧ kms.length ≤ 15 then (eKms kms env).map O.dct else none
section
variable {X : Cx} {T : Tab} {pos p2 : Pos} {j : Nat} {v : Expr} {ks : List (Option Expr)} {vs : List Expr} {kms : List (Str × Em)} {m : Em} {k : Str}
theorem fd_nil : FD X T pos [] [] [] := pps_nil
theorem fd_cons (hv : FE X T v m) (hr : FD X T pos ks vs kms) : FD X T pos (some (.Constant (.str k) j p2) :: ks) (v :: vs) ((k, m) :: kms) := pps_cons pe_str hv hr
theorem PX.chg {F H F1 H1 : Hp} {D : Addr} {u u' : HO} (p : PX T F H F1 H1) (hD : H D = none) (hF : F1 D = none) (h1 : H1 D = some u) (hu : ownable u = true) (hu' : ∀ vs, u' ≠ .tup vs) : PX T F H F1 (upd H1 D u') := by
  refine ⟨p.f, fun a u e n => by rw [upd_ne (ne_of_none e hD)]; exact p.h a u e n, p.new, fun a ps e => ?_, ⟨fun a u e n => ?_, p.gl.notbl, fun a vs e => ?_, tabs_upd p.gl.tab h1 hu⟩⟩
  · obtain ⟨ps', h⟩ := p.trk a ps e
    exact ⟨ps', by rw [upd_ne (ne_of_none e hD)]; exact h⟩
  · have z : a ≠ D := fun z => by rw [z, hF] at e; cases e
    rw [upd_ne z]
    exact p.gl.sub a u e n
  · by_cases z : a = D
    · rw [z, upd_same] at e; cases e; exact absurd rfl (hu' vs)
    · rw [upd_ne z] at e; exact p.gl.tup a vs e
theorem kms_run {K : PySem.W.Frag} : ∀ {kms : List (Str × Em)} {F H : Hp} {σ : L2.St} {env : Env} {ω : Own} {kos : List (Key × O)} {Q : List (V × V) → Hp → Prop}, Sta K T F H σ env ω → eKms kms env = some kos →
    (∀ (kvs : List (Key × V)) F' H' A, PX T F H F' H' → kvs.map Prod.fst = kos.map Prod.fst → RoL K F' H' (kvs.map Prod.snd) (kos.map Prod.snd) A → A.Nodup → (∀ a ∈ A, H a = none) → Q (kvs.map fun (kv : Key × V) => (kV kv.1, kv.2)) H') →
    tPairs (kms.map fun km => (tC (.str km.1), tF K T km.2)) σ H Q
  | [], F, H, σ, env, ω, kos, Q, s, e, k => by
    cases e
    exact k [] F H [] (.refl s.gl) rfl .nil .nil fun _ z => by cases z
  | (x, m) :: kms, F, H, σ, env, ω, kos, Q, s, e, k => by
    rw [eKms] at e
    obtain ⟨o, e1, e⟩ := Option.bind_eq_some_iff.mp e
    obtain ⟨os, e2, e3⟩ := Option.map_eq_some_iff.mp e
    subst e3
    refine ⟨F, env, ω, s, o, e1, fun v F1 H1 A p1 f1 => ?_⟩
    refine kms_run (s.px p1) e2 fun kvs F2 H2 B p2 ek l nB fB => ?_
    refine k ((.inr x, v) :: kvs) F2 H2 (A ++ B) (p1.trans p2) (by rw [List.map_cons, List.map_cons, ek]) (.cons (f1.ro.px p2) l) (nodup_app f1.nd nB fun a ha hb => ?_) fun a ha => ?_
    · obtain ⟨_, u, h3, _⟩ := f1.ro.mem a ha
      rw [fB a hb] at h3; cases h3
    · rcases List.mem_append.mp ha with ha | ha
      · exact f1.new a ha
      · exact p1.free (fB a ha)
theorem eKms_fst : ∀ {kms : List (Str × Em)} {env : Env} {kos : List (Key × O)}, eKms kms env = some kos → kos.map Prod.fst = kms.map fun km => (.inr km.1 : Key)
  | [], env, kos, e => by cases e; rfl
  | (x, m) :: kms, env, kos, e => by
    rw [eKms] at e
    obtain ⟨o, e1, e⟩ := Option.bind_eq_some_iff.mp e
    obtain ⟨os, e2, e3⟩ := Option.map_eq_some_iff.mp e
    subst e3
    rw [List.map_cons, List.map_cons, eKms_fst e2]
theorem mergeK_nd : ∀ (more kvs : List (Key × V)), ((kvs ++ more).map Prod.fst).Nodup → mergeK kvs more = kvs ++ more
  | [], kvs, _ => by simp [mergeK]
  | (k, v) :: more, kvs, h => by
    have hk : (kvs.any fun kv => decide (kv.1 = k)) = false := by
      rw [List.map_append, List.map_cons] at h
      have := (List.nodup_append.mp h).2.2
      refine Bool.eq_false_iff.mpr fun z => ?_
      obtain ⟨p, hp, e⟩ := List.any_eq_true.mp z
      exact this p.1 (List.mem_map.mpr ⟨p, hp, rfl⟩) k (by simp) (by simpa using e)
    have e1 : putK kvs k v = kvs ++ [(k, v)] := by
      unfold putK
      rw [if_neg (by rw [hk]; exact Bool.false_ne_true)]
    have : mergeK kvs ((k, v) :: more) = mergeK (kvs ++ [(k, v)]) more := by
      show mergeK (putK kvs k v) more = _
      rw [e1]
    rw [this, mergeK_nd more (kvs ++ [(k, v)]) (by simpa using h)]
    simp
theorem fe_dict (h : FD X T pos ks vs kms) (hall : ks.all (·.isSome) = true := by rfl) (hl : ks.length = vs.length := by rfl) (h0 : ks ≠ [] := by exact fun z => nomatch z) (h15 : ks.length ≤ 15 := by decide) : FE X T (.Dict ks vs pos) (eDct kms) :=
  peI (pe_disp h hall hl h0 h15) fun σ H Q q p hp => by
    obtain ⟨F, env, ω, s, o, e, k⟩ := q
    unfold eDct at e
    split at e
    · rename_i c
      obtain ⟨kos, e1, e2⟩ := Option.map_eq_some_iff.mp e
      subst e2
      have p0 : PX T F H F (upd H p (.dK [])) := .owned s.gl hp fun _ z => by cases z
      have Fp : F p = none := s.gl.free hp
      refine kms_run (s.px p0) e1 fun kvs F1 H1 A p1 ek l nA fA => ?_
      have hp1 : H1 p = some (.dK []) := p1.h p _ upd_same fun _ z => by cases z
      have Fp1 : F1 p = none := p1.new p Fp (by rw [upd_same]; exact fun z => by cases z)
      have nd : (kvs.map Prod.fst).Nodup := by
        rw [ek, eKms_fst e1]
        have := c.1
        rw [show (kms.map fun km => (.inr km.1 : Key)) = (kms.map Prod.fst).map Sum.inr by rw [List.map_map]; rfl]
        exact List.pairwise_map.mpr (List.Pairwise.imp (fun h z => h (by simpa using z)) this)
      have lk : kvs.length ≤ 15 := by
        have := congrArg List.length (ek.trans (eKms_fst e1))
        simp only [List.length_map] at this
        rw [this]; exact c.2
      refine ⟨hp1, kvs, rfl, lk, ?_⟩
      have em : mergeK [] kvs = kvs := by
        rw [mergeK_nd kvs [] (by simpa using nd)]; rfl
      rw [em]
      have px : PX T F H F1 (upd H1 p (.dK kvs)) := (p0.trans p1).chg hp Fp1 hp1 rfl fun _ z => by cases z
      have hA : p ∉ A := fun z => by have := fA p z; rw [upd_same] at this; cases this
      refine k (.ref p) F1 _ (p :: A) px ⟨.dct Fp1 upd_same ⟨ek, by rw [← ek]; exact nd⟩ (l.upd hA), List.nodup_cons.mpr ⟨hA, nA⟩, fun a ha => ?_⟩
      rcases List.mem_cons.mp ha with z | z
      · rw [z]; exact hp
      · exact p0.free (fA a z)
    · cases e
end
def oGet2 (d k x : O) : Option O := (dGetD d.toD k.toD).bind fun r => match r with
  | some v => some (.frz v)
  | none => (asFrz x).map .frz
def eGet2 (d k x : Em) : Em := fun env => (d env).bind fun a => (asFrz a).bind fun a => (k env).bind fun b => (x env).bind fun c => oGet2 (.frz a) b c
section
variable {X : Cx} {T : Tab} {o e f : Expr} {apos cpos : Pos} {md mk mx : Em}
theorem fe_get2 (hu : X.A.units + 64 < cLine) (ho : BE X T o md) (he : BE X T e mk) (hf : BE X T f mx) (m : M2 X o "get" apos e f cpos := by exact ⟨rfl, rfl, rfl, rfl⟩) : FE X T (.Call (.Attribute o "get" apos) [e, f] [] cpos) (eGet2 md mk mx) :=
  peI (pe_dget2 (by omega) ho he hf m) fun σ H Q q => by
    obtain ⟨F, env, ω, s, r, e1, k⟩ := q
    obtain ⟨a, e2, e1⟩ := Option.bind_eq_some_iff.mp e1
    obtain ⟨d, e3, e1⟩ := Option.bind_eq_some_iff.mp e1
    obtain ⟨b, e4, e1⟩ := Option.bind_eq_some_iff.mp e1
    obtain ⟨c, e5, e1⟩ := Option.bind_eq_some_iff.mp e1
    unfold oGet2 at e1
    rw [O.toD] at e1
    obtain ⟨w, e6, e7⟩ := Option.bind_eq_some_iff.mp e1
    refine ⟨F, env, ω, s, a, e2, fun v F1 H1 p1 h1 => ?_⟩
    have hd := h1.asFrz p1.gl e3
    have isd : ∀ H', SubN F1 H' → ∃ q, v = .ref q ∧ IsD H' q := fun H' sub => by
      unfold dGetD at e6
      split at e6
      · cases hd with
        | dct h _ _ => exact ⟨_, rfl, .inl ⟨_, sub.rd h fun _ z => by cases z⟩⟩
      · cases hd with
        | dtt h _ _ => exact ⟨_, rfl, .inr ⟨_, sub.rd h fun _ z => by cases z⟩⟩
      · cases e6
    obtain ⟨q, rfl, hq⟩ := isd H1 p1.gl.sub
    refine ⟨q, rfl, hq, F1, env, ω, s.px p1, b, e4, fun y F2 H2 p2 h2 => ⟨F2, env, ω, (s.px p1).px p2, c, e5, fun z F3 H3 p3 h3 => ?_⟩⟩
    have p := (p1.trans p2).trans p3
    -- the entry as it stands in the frozen part
    have hdF : Vw X.K F3 (.ref q) d := hd.sub (.of (p2.trans p3).f)
    have hb := (h2.px p3).vw p3.gl
    generalize b.toD = bd at hb e6
    clear isd
    unfold dGetD at e6
    split at e6
    · obtain ⟨kk, e8, e9⟩ := Option.map_eq_some_iff.mp e6
      cases hdF with
      | dct h ek l =>
        obtain ⟨g1, g2⟩ := getA_vw (k := kk) ek l
        refine ⟨_, .inl ⟨_, kk, p3.gl.sub.rd h (fun _ z => by cases z), hb.key e8, rfl⟩, ?_⟩
        cases w with
        | some dv =>
          cases e7
          obtain ⟨vv, i1, i2⟩ := g2 _ e9
          rw [i1]
          exact k _ F3 H3 [] p (.frz i2)
        | none =>
          obtain ⟨dx, e10, e11⟩ := Option.map_eq_some_iff.mp e7
          subst e11
          rw [e9] at g1
          cases hval : valV _ kk with
          | some vv => rw [hval] at g1; cases g1
          | none => exact k _ F3 H3 [] p (.frz (h3.asFrz p3.gl e10))
    · split at e6
      · obtain ⟨kk, e8, e9⟩ := Option.map_eq_some_iff.mp e6
        cases hdF with
        | dtt h ek l =>
          cases hb with
          | tup hk lk =>
            obtain ⟨g1, g2⟩ := getA_vw (k := kk) ek l
            refine ⟨_, .inr ⟨_, kk, _, p3.gl.sub.rd h (fun _ z => by cases z), rfl, by rw [hk, lk.keys e8], rfl⟩, ?_⟩
            cases w with
            | some dv =>
              cases e7
              obtain ⟨vv, i1, i2⟩ := g2 _ e9
              rw [i1]
              exact k _ F3 H3 [] p (.frz i2)
            | none =>
              obtain ⟨dx, e10, e11⟩ := Option.map_eq_some_iff.mp e7
              subst e11
              rw [e9] at g1
              cases hval : valV _ kk with
              | some vv => rw [hval] at g1; cases g1
              | none => exact k _ F3 H3 [] p (.frz (h3.asFrz p3.gl e10))
      · cases e6
    · cases e6
end
end VL
namespace VL
open PySem PySem.Spec PyProof.Rows L2
section
variable {K : PySem.W.Frag} {T : Tab} {F H F1 H1 : Hp} {σ σ1 : L2.St} {env e1 : Env} {ω ω1 : Own} {v : V} {o : O} {A : List Addr} {j : Nat}
/-- slot j takes over what was made since H and belongs to nobody -/
theorem Go.adopt {e2 : Env} (g : Go K T F H σ env ω F1 H1 σ1 e1 ω1) (r : Ro K F1 H1 v o A) (nd : A.Nodup) (hA : ∀ a ∈ A, H a = none ∧ ω1 a = none) (hj : j < e1.length) (he : setS e1 j (slotOf o) = some e2) :
    Go K T F H σ env ω F1 H1 (σ1.set j (some v)) e2 (ωset ω1 j A) := by
  obtain ⟨hio0, h2⟩ := setS_of he
  subst h2
  have s := g.sta
  have hv := slotOf_ok r nd
  have hio : ∀ o, e1[j]? ≠ some (SV.io o) := not_io hio0
  generalize slotOf o = sv at hv
  have sub0 := s.gl.sub
  have nA : ∀ a i, ω1 a = some i → a ∉ A := fun a i e hA' => by rw [(hA a hA').2] at e; cases e
  have wj : ∀ a i, ω1 a = some i → i ≠ j → ωset ω1 j A a = some i := fun a i e hi => by
    unfold ωset
    rw [if_neg (nA a i e), if_neg (fun q => by rw [e] at q; exact hi (Option.some.inj q)), e]
  have gg : ∀ k, k ≠ j → (σ1.set j (some v))[k]? = σ1[k]? := fun k hk => List.getElem?_set_ne (Ne.symm hk)
  refine ⟨⟨s.gl, by rw [List.length_set, List.length_set, killA_len]; exact s.len, fun i t e => ?_, fun a i e => ?_⟩, ⟨g.ex.f, g.ex.h, g.ex.new, fun a i e => ?_, g.ex.trk, g.ex.tb⟩, fun i o e => ?_⟩
  · by_cases hi : i = j
    · subst hi
      rw [List.getElem?_set_self (by rw [killA_len]; exact hj)] at e
      cases e
      have hv' : (σ1.set i (some v))[i]? = some (some v) := List.getElem?_set_self (by rw [s.len]; exact hj)
      cases sv with
      | dead => trivial
      | frz d => exact ⟨v, hv', hv.2⟩
      | own o => exact ⟨v, A, hv', hv.1, hv.2, fun a ha => if_pos ha⟩
      | io o => exact ⟨v, A, hv', hv.1, hv.2, fun a ha => if_pos ha⟩
      | als r p => exact hv.elim
    · rw [List.getElem?_set_ne (Ne.symm hi), killA_get] at e
      obtain ⟨t0, e0, e1'⟩ := Option.map_eq_some_iff.mp e
      have h := s.slot i t0 e0
      cases t0 with
      | dead => cases e1'; trivial
      | frz d =>
        cases e1'
        obtain ⟨w, h1, h2⟩ := h
        exact ⟨w, (gg i hi).trans h1, h2⟩
      | own o =>
        cases e1'
        obtain ⟨w, B, h1, h2, h3, h4⟩ := h
        exact ⟨w, B, (gg i hi).trans h1, h2, h3, fun a ha => wj a i (h4 a ha) hi⟩
      | io o =>
        cases e1'
        obtain ⟨w, B, h1, h2, h3, h4⟩ := h
        exact ⟨w, B, (gg i hi).trans h1, h2, h3, fun a ha => wj a i (h4 a ha) hi⟩
      | als r p =>
        have e1' : (if r = j then SV.dead else SV.als r p) = t := e1'
        by_cases hr : r = j
        · rw [if_pos hr] at e1'; subst e1'; trivial
        · rw [if_neg hr] at e1'; subst e1'
          obtain ⟨w, u, o, B, h1, h2, h3, h4, h5, o', h6⟩ := h
          exact ⟨w, u, o, B, (gg i hi).trans h1, (gg r hr).trans h2, h3, h4, fun a ha => wj a r (h5 a ha) hr, o', h6⟩
  · unfold ωset at e
    split at e
    · rename_i hA'
      cases sv with
      | dead => rw [show A = [] from hv] at hA'; cases hA'
      | frz d => rw [hv.1] at hA'; cases hA'
      | own o => exact hv.1.mem a hA'
      | io o => exact hv.1.mem a hA'
      | als r p => exact hv.elim
    · split at e
      · cases e
      · exact s.og a i e
  · unfold ωset at e
    split at e
    · rename_i hA'
      exact .inr (hA a hA').1
    · split at e
      · cases e
      · exact g.ex.own a i e
  · obtain ⟨h1, o', h2⟩ := g.io i o e
    have hi : i ≠ j := fun z => hio o' (by rw [← z]; exact h2)
    exact ⟨(gg i hi).trans h1, o', by rw [List.getElem?_set_ne (Ne.symm hi), killA_get, h2]; rfl⟩
end
def sParO (i j : Nat) (m : Es) : Sm := fun env => (m env).bind fun os => match os with
  | [p, q] => if i < env.length ∧ j < env.length then (setS env i (slotOf p)).bind fun e1 => (setS e1 j (slotOf q)).map .nx else none
  | _ => none
def sPar3 (i j l : Nat) (m : Es) : Sm := fun env => (m env).bind fun os => match os with
  | [p, q, r] => (asFrz p).bind fun d => (asFrz q).bind fun e => (asFrz r).bind fun f => if i < env.length ∧ j < env.length ∧ l < env.length then (setS env i (.frz d)).bind fun e1 => (setS e1 j (.frz e)).bind fun e2 => (setS e2 l (.frz f)).map .nx else none
  | _ => none
section
variable {X : Cx} {T : Tab} {m : Es}
theorem ss_parO {i j : Nat} {x y : Str} {a b : Expr} {px py pt pos : Pos} {kt k2 pt2} (hc : X.calm = true) (hN : X.N.Nodup) (hi : X.N[i]? = some x) (hj : X.N[j]? = some y) (hij : i ≠ j)
    (hx : X.env.scope.names.lookup x = some .local) (hy : X.env.scope.names.lookup y = some .local) (ha : FA X T [a, b] m)
    (hw : swappedStores [.Tuple [.Name x px, .Name y py] kt pt] (.Tuple [a, b] k2 pt2) X.env = pure (some [x, y]) := by rfl)
    (hs : swapsWithSole [.Tuple [.Name x px, .Name y py] kt pt] (.Tuple [a, b] k2 pt2) pos.line X.env = pure false := by rfl) :
    SS X T (.Assign [.Tuple [.Name x px, .Name y py] kt pt] (.Tuple [a, b] k2 pt2) pos) (sParO i j m) :=
  psI (ps_par hc hN hi hj hij hx hy ha hw hs) fun D σ H q => by
    obtain ⟨F, env, ω, sa, out, e, k⟩ := q
    obtain ⟨os, e1, e2⟩ := Option.bind_eq_some_iff.mp e
    refine ⟨F, env, ω, sa, os, e1, fun vs F1 H1 A p hv nA fA => ?_⟩
    split at e2
    · rename_i o1 o2
      split at e2
      · rename_i c
        obtain ⟨ea, e3, e2⟩ := Option.bind_eq_some_iff.mp e2
        obtain ⟨eb, e4, e5⟩ := Option.map_eq_some_iff.mp e2
        subst e5
        cases hv with
        | cons h1 t => cases t with
          | cons h2 t =>
            cases t
            rename_i v1 A1 v2 A2
            have nA' : (A1 ++ A2).Nodup := by simpa using nA
            have nd := List.nodup_append.mp nA'
            refine ⟨v1, v2, rfl, ?_⟩
            have f1 : Fresh X.K H F1 H1 v1 o1 A1 := ⟨h1, nd.1, fun a ha => fA a (by simp [ha])⟩
            have go1 := Go.put sa p f1 c.1 e3
            have go2 := go1.adopt h2 nd.2.1 (fun a ha => ⟨fA a (by simp [ha]), by
              unfold ωset
              rw [if_neg fun z => nd.2.2 a z a ha rfl]
              split
              · rfl
              · cases w : ω a with
                | none => rfl
                | some i' =>
                  obtain ⟨_, u, h5, _⟩ := sa.og a i' w
                  rw [fA a (by simp [ha])] at h5; cases h5⟩) (by rw [setS_len e3]; exact c.2) e4
            exact k _ _ _ _ go2
      · cases e2
    · cases e2
theorem ss_par3 {i j l : Nat} {x y z : Str} {a b c : Expr} {px py pz pt pos : Pos} {kt k2 pt2} (hc : X.calm = true) (hN : X.N.Nodup) (hi : X.N[i]? = some x) (hj : X.N[j]? = some y) (hl : X.N[l]? = some z) (hij : i ≠ j) (hil : i ≠ l) (hjl : j ≠ l)
    (hx : X.env.scope.names.lookup x = some .local) (hy : X.env.scope.names.lookup y = some .local) (hz : X.env.scope.names.lookup z = some .local) (ha : BA X T [a, b, c] m)
    (hw : swappedStores [.Tuple [.Name x px, .Name y py, .Name z pz] kt pt] (.Tuple [a, b, c] k2 pt2) X.env = pure (some [x, y, z]) := by rfl)
    (hs : swapsWithSole [.Tuple [.Name x px, .Name y py, .Name z pz] kt pt] (.Tuple [a, b, c] k2 pt2) pos.line X.env = pure false := by rfl) :
    SS X T (.Assign [.Tuple [.Name x px, .Name y py, .Name z pz] kt pt] (.Tuple [a, b, c] k2 pt2) pos) (sPar3 i j l m) :=
  psI (ps_par3 hc hN hi hj hl hij hil hjl hx hy hz ha hw hs) fun D σ H q => by
    obtain ⟨F, env, ω, sa, out, e, k⟩ := q
    obtain ⟨os, e1, e2⟩ := Option.bind_eq_some_iff.mp e
    refine ⟨F, env, ω, sa, os, e1, fun vs F1 H1 p hv => ?_⟩
    split at e2
    · rename_i o1 o2 o3
      obtain ⟨d1, g1, e2⟩ := Option.bind_eq_some_iff.mp e2
      obtain ⟨d2, g2, e2⟩ := Option.bind_eq_some_iff.mp e2
      obtain ⟨d3, g3, e2⟩ := Option.bind_eq_some_iff.mp e2
      split at e2
      · rename_i c
        obtain ⟨ea, e3, e2⟩ := Option.bind_eq_some_iff.mp e2
        obtain ⟨eb, e4, e2⟩ := Option.bind_eq_some_iff.mp e2
        obtain ⟨ec, e5, e6⟩ := Option.map_eq_some_iff.mp e2
        subst e6
        cases hv with
        | cons h1 t => cases t with
          | cons h2 t => cases t with
            | cons h3 t =>
              cases t
              rename_i v1 v2 v3
              refine ⟨v1, v2, v3, rfl, ?_⟩
              have f1 : Fresh X.K H F1 H1 v1 (.frz d1) [] := .frz (h1.asFrz p.gl g1)
              have go1 := Go.put sa p f1 c.1 e3
              have f2 : Fresh X.K H1 F1 H1 v2 (.frz d2) [] := .frz (h2.asFrz p.gl g2)
              have go2 := Go.put go1.sta (.refl go1.sta.gl) f2 (by rw [setS_len e3]; exact c.2.1) e4
              have f3 : Fresh X.K H1 F1 H1 v3 (.frz d3) [] := .frz (h3.asFrz p.gl g3)
              have go3 := Go.put go2.sta (.refl go2.sta.gl) f3 (by rw [setS_len e4, setS_len e3]; exact c.2.2) e5
              exact k _ _ _ _ ((go1.trans go2).trans go3)
      · cases e2
    · cases e2
end
def iLTSc (m : Em) : Im := fun env => (iLTc m env).or (iS m env)
section
variable {X : Cx} {T : Tab} {tg e : Expr} {m : Em}
theorem ic_lts (h : BE X T e m) : IC X T tg e (iLTSc m) := piI (piOr (ic_lt (tg := tg) h) (ic_it (it_s h))) fun σ H R q => by
  obtain ⟨F, env, ω, sa, ds, e, k⟩ := q
  have e : (iLTc m env).or (iS m env) = some ds := e
  cases z : iLTc m env with
  | some x =>
    rw [z] at e
    have e : x = ds := by simpa using e
    subst e
    exact .inl ⟨F, env, ω, sa, x, z, k⟩
  | none =>
    rw [z] at e
    exact .inr ⟨F, env, ω, sa, ds, by simpa using e, k⟩
end
def f0 : Fm := fun _ => none
section
variable {P : Program} {w : World} {K : PySem.W.Frag} {mg : Str → Option Value} {base : Heap} {T : Tab}
theorem fn_zero {x qual : Str} {st : Stmt} {f : Addr} {fd : FuncData} {N ps : List Str} {k : Nat} (D : FunD K x qual (defArgs st) (defBody st) (defScope st) [] [] f fd) (S : FnScope N ps (defScope st)) : FnOk P w K mg base CX0 (k + 1) f fd ps (spF K T ps.length f0) := by
  refine D.ok S (fun vs H Q E h => ?_) fun cdv A outer s H vs Q E hr hsp => ?_
  · obtain ⟨_, _, _, _, _, _, _, _, h, _⟩ := h
    cases h
  · obtain ⟨_, _, _, _, _, _, _, _, h, _⟩ := hsp
    cases h
end
variable {s : SV} {r : Env} {i j l : Nat} {a b c : Em} {ms : Es} {o x y : O} {d e : D} {env : Env}
theorem sParO_c : sParO i j ms (s :: r) = (ms (s :: r)).bind fun os => match os with
  | [p, q] => if i < (s :: r).length ∧ j < (s :: r).length then (setS (s :: r) i (slotOf p)).bind fun e1 => (setS e1 j (slotOf q)).map .nx else none
  | _ => none := rfl
theorem sPar3_c : sPar3 i j l ms (s :: r) = (ms (s :: r)).bind fun os => match os with
  | [p, q, t] => (asFrz p).bind fun d => (asFrz q).bind fun e => (asFrz t).bind fun f => if i < (s :: r).length ∧ j < (s :: r).length ∧ l < (s :: r).length then (setS (s :: r) i (.frz d)).bind fun e1 => (setS e1 j (.frz e)).bind fun e2 => (setS e2 l (.frz f)).map .nx else none
  | _ => none := rfl
def oM (f : O → List O → Option O) : Option O → Option (List O) → Option O
  | some a, some os => if isS a = true then f a os else none
  | _, _ => none
@[simp] theorem eOpM_c {f : O → List O → Option O} : eOpM f a ms (s :: r) = oM f (a (s :: r)) (ms (s :: r)) := by
  unfold eOpM oM; cases a (s :: r) <;> cases ms (s :: r) <;> rfl
@[simp] theorem oM_s {f : O → List O → Option O} {os : List O} {z : Str} : oM f (some (.frz (.str z))) (some os) = f (.frz (.str z)) os := by
  unfold oM isS; simp
theorem strs_map : ∀ ns : List Str, D.strs (ns.map D.str) = some ns
  | [] => rfl
  | n :: ns => by rw [List.map_cons, D.strs, strs_map ns]; rfl
theorem oJoin_l {z : Str} {ys : List Str} (h : (ys.map (·.length)).sum + ys.length * z.length ≤ 16777216) : oJoin (.frz (.str z)) [.frz (.lst (ys.map D.str))] = some (.frz (.str (Txt.join z ys))) := by
  unfold oJoin oStrs
  simp only [toD_frz, strs_map, Option.bind_some]
  rw [if_pos h]
theorem oSplit_s {z b : Str} (hb : (b.length == 0) = false) (h : z.length + 2 ≤ 16777216) : oSplit (.frz (.str z)) [.frz (.str b)] = some (newL ((Txt.split z b).map D.str)) := by
  unfold oSplit
  simp only [toD_frz, List.map_cons, List.map_nil]
  rw [if_pos ⟨hb, h⟩]
@[simp] theorem oStarts_s {z b : Str} : oStarts (.frz (.str z)) [.frz (.str b)] = some (.frz (.bl (Txt.startswith z b))) := by
  unfold oStarts; simp
end VL
namespace VL
open PySem PySem.Spec PyProof.Rows
section
variable {prog : Program} {w : World} {A : Around} {R : Result → Shared → Prop} {I : Addr} {fp wr : List Addr} {G : Array GenState → Array GenState → Prop} {N : Nat} {Pv : Nat → Value → Prop} {St : Nat → Shared → Prop}
/-- what the set at D holds -/
abbrev Holds (prog : Program) (w : World) (D : Addr) (s : Shared) (acc : List Str) : Prop := s.heap.SetOf (PySem.strKind prog w) D (fun z => decide (z ∈ acc)) acc.length
theorem Holds.keep {D : Addr} {s s' : Shared} {acc : List Str} (h : Holds prog w D s acc) (k : ∀ o, s.heap.get? D = some o → s'.heap.get? D = some o) : Holds prog w D s' acc := by
  obtain ⟨o, es, ep, t, e, more⟩ := h
  exact ⟨o, es, ep, t, k o e, more⟩
end
section
variable {prog : Program} {w : World} {A : Around} {E : Value → Shared → Prop} {s : Shared}
end
end VL
namespace VL
open PySem PySem.Spec PyProof.Rows L2
section
variable {X : Cx} {T : Tab} {a : Expr} {m : Em} {p p2 q pos : Pos}
end
theorem lookup_vw {K : PySem.W.Frag} {H : Hp} {f : Str} : ∀ {fs : List (Str × V)} {fds : List (Str × D)} {d : D}, fs.map Prod.fst = fds.map Prod.fst → VwL K H (fs.map Prod.snd) (fds.map Prod.snd) → fds.lookup f = some d → ∃ v, fs.lookup f = some v ∧ Vw K H v d
  | [], [], d, _, _, e => by cases e
  | [], _ :: _, _, e, _, _ => by simp at e
  | _ :: _, [], _, e, _, _ => by simp at e
  | (pk, pv) :: fs, (qk, qd) :: fds, d, e, l, h => by
    simp only [List.map_cons, List.cons.injEq] at e
    obtain ⟨e1, e2⟩ := e
    have e1 : pk = qk := e1
    subst e1
    simp only [List.map_cons] at l
    cases l with
    | cons h1 h2 =>
      cases z : (f == pk) with
      | true =>
        simp [List.lookup, z] at h
        subst h
        exact ⟨pv, by simp [List.lookup, z], h1⟩
      | false =>
        have h : fds.lookup f = some d := by simpa [List.lookup, z] using h
        obtain ⟨v, h3, h4⟩ := lookup_vw e2 h2 h
        exact ⟨v, by simpa [List.lookup, z] using h3, h4⟩
section
variable {X : Cx} {T : Tab} {e : Expr} {m : Em} {pos : Pos} {f : Str} {Cs : List Str}
end
section
variable {X : Cx} {T : Tab} {pos : Pos}
end
end VL
namespace VL
open PySem PySem.Spec PyProof.Rows L2
section
variable {K : PySem.W.Frag} {T : Tab} {F H F1 H1 : Hp} {σ σ1 : L2.St} {env e1 : Env} {ω ω1 : Own} {v : V} {o : O} {A : List Addr} {j : Nat}
end
section
variable {K : PySem.W.Frag} {T : Tab} {F H : Hp} {σ : L2.St} {env : Env} {ω : Own} {v w : V} {o n : O} {r : Nat} {p : List Stp}
end
section
variable {X : Cx} {T : Tab} {a : Expr} {es : List Expr} {ma : Em} {m : Es} {q : Qm} {j : Nat}
end
section
variable {X : Cx} {T : Tab} {k : Nat} {f : Addr} {fd : FuncData} {ps : List Str} {fm : Fm} {x : Str} {p pos : Pos} {e : Expr} {es : List Expr} {m : Es} {np j : Nat} {q : Qm}
end
end VL
namespace VL
open PySem PySem.Spec PyProof.Rows L2
section
variable {X : Cx} {T : Tab} {a e : Expr} {m : Em} {q : Qm} {pos p2 : Pos} {f C : Str}
end
section
variable {X : Cx} {T : Tab} {k : Nat} {f : Addr} {fd : FuncData} {ps : List Str} {fm : Fm} {C : Str} {p pos : Pos} {e : Expr} {es : List Expr} {m : Es} {np : Nat}
end
end VL
namespace VL
open PySem PySem.Spec PyProof.Rows L2
section
variable {X : Cx}
end
section
variable {X : Cx} {T : Tab} {o e1 e2 e3 : Expr} {ms m3 : Es} {q : Qm} {ap1 cp1 ap2 cp2 pos : Pos}
end
end VL
namespace VL
open PySem PySem.Spec PyProof.Rows L2
section
variable {X : Cx} {T : Tab} {o e f : Expr} {apos cpos : Pos} {md mk mx : Em}
end
section
variable {X : Cx} {T : Tab} {o e : Expr} {apos cpos : Pos} {mo m : Em}
end
end VL
namespace VL
open PySem PySem.Spec PyProof.Rows L2
section
variable {κ : Type} [DecidableEq κ]
variable {K : PySem.W.Frag} {F H : Hp}
end
section
variable {X : Cx}
end
section
variable {K : PySem.W.Frag} {T : Tab} {F H : Hp}
end
end VL
namespace VL
open PySem PySem.Spec PyProof.Rows L2
section
variable {K : PySem.W.Frag} {T : Tab}
end
end VL
namespace VL
open PySem PySem.Spec PyProof.Rows L2
section
variable {X : Cx} {T : Tab} {a b : Expr} {ma mb : Em} {p p2 pos pos2 : Pos}
end
end VL
namespace VL
open PySem PySem.Spec PyProof.Rows L2
section
variable {K : PySem.W.Frag} {T : Tab} {F H F' H' : Hp} {σ : L2.St} {env : Env} {ω : Own} {d : Addr} {kvs : List (Key × V)} {od : Obj}
theorem tabs_free (t : LamX.Tabs T H) (e : H d = some (.frz od (.dK kvs))) {u : HO} : LamX.Tabs T (upd H d u) := fun p hp => by
  obtain ⟨ps, h1, h2, h3⟩ := t p hp
  have ne : ∀ {a : Addr} {o : HO}, H a = some o → o ≠ .frz od (.dK kvs) → a ≠ d := fun {a o} q n z => by
    rw [z, e] at q
    exact n (Option.some.inj q).symm
  refine ⟨ps, by rw [upd_ne (ne h1 fun z => by cases z)]; exact h1, h2, fun pos cv hc => ?_⟩
  obtain ⟨c, e1, e2⟩ := h3 pos cv hc
  refine ⟨c, e1, ?_⟩
  rw [upd_ne (ne e2 fun z => by unfold LamX.CodeO at z; cases z)]
  exact e2
end
section
variable {X : Cx} {T : Tab} {elt tg : Expr} {ifs : List Expr} {scope : Scope} {own : List (Str × Nat)} {pos p : Pos} {g : Gm} {t : Tm} {m : Em} {ts : List Nat}
end
end VL
namespace VL
open PySem PySem.Spec PyProof.Rows L2
def same2 (f : D → D → Bool) : List D → List D → Bool
  | [], [] => true
  | a :: as, b :: bs => f a b && same2 f as bs
  | _, _ => false
def sameK (f : D → D → Bool) : List (Key × D) → List (Key × D) → Bool
  | [], [] => true
  | (k, a) :: as, (j, b) :: bs => decide (k = j) && f a b && sameK f as bs
  | _, _ => false
def D.same : Nat → D → D → Bool
  | _, .non, .non => true
  | _, .bl a, .bl b => decide (a = b)
  | _, .int a, .int b => decide (a = b)
  | _, .str a, .str b => decide (a = b)
  | n + 1, .tup a, .tup b => same2 (D.same n) a b
  | n + 1, .lst a, .lst b => same2 (D.same n) a b
  | n + 1, .dct a, .dct b => sameK (D.same n) a b
  | _, _, _ => false
section
variable {X : Cx} {pins : List (Addr × Obj)} {σ : L2.St} {H : Hp} {s : Shared}
end
section
variable {K : PySem.W.Frag} {T : Tab}
end
end VL
namespace VL
open PySem PySem.Spec PyProof.Rows L2
section
variable {X : Cx} {T : Tab} {m : Em} {e : Expr} {pos : Pos}
end
end VL
namespace VL
open PySem PySem.Spec PyProof.Rows L2
section
variable {K : PySem.W.Frag} {T : Tab} {F H F1 H1 F2 H2 F' H' : Hp} {σ : L2.St} {env e1 e2 : Env} {ω ω1 ω2 : Own} {v : V} {o : O} {A : List Addr}
/-- a value that belongs to nobody stays -/
theorem Rt.keep (r : Rt K H ω F1 H1 ω1 v o A) (x : EX F1 H1 ω1 F2 H2 ω2) : Rt K H ω F2 H2 ω2 v o A := by
  refine ⟨r.ro.keep x.f fun a ha => ?_, r.nd, fun a ha => ⟨?_, (r.new a ha).2⟩⟩
  · obtain ⟨f1, u, h1, ou⟩ := r.ro.mem a ha
    have w := (r.new a ha).1
    exact ⟨x.new a f1 (by rw [h1]; exact fun z => by cases z) w, (x.h a u h1 w (own_ntbl ou)).trans h1.symm⟩
  · obtain ⟨f1, u, h1, ou⟩ := r.ro.mem a ha
    cases e : ω2 a with
    | none => rfl
    | some i =>
      rcases x.own a i e with q | q
      · exact absurd (r.new a ha).1 q
      · rw [q] at h1; cases h1
end
section
variable {X : Cx} {T : Tab} {a b e : Expr} {es : List Expr} {m ma mb : Em} {ms : Es} {pos : Pos} {ca cb c : Cm}
end
section
variable {X : Cx} {T : Tab} {k : Nat} {f : Addr} {fd : FuncData} {ps : List Str} {fm : Fm} {x : Str} {p pos : Pos} {e : Expr} {es : List Expr} {m : Es} {np j : Nat} {q : Qm}
variable {c : Cm}
end
end VL
namespace VL
open PySem PySem.Spec PyProof.Rows L2
section
variable {K : PySem.W.Frag} {T : Tab} {F H F' H' : Hp} {σ : L2.St} {env env' : Env} {ω ω' ω0 : Own} {v w : V} {o n : O} {r : Nat} {p : List Stp} {A : List Addr}
end
section
variable {X : Cx} {T : Tab} {st : Stmt} {s : Sm} {q : Qm}
end
section
variable {X : Cx} {T : Tab} {e : Expr} {c : Cm} {pos : Pos}
end
section
variable {X : Cx} {T : Tab} {a b e : Expr} {mi m : Em} {q : Qm} {pos p2 : Pos}
end
end VL
namespace VL
open PySem PySem.Spec PyProof.Rows L2
section
variable {K : PySem.W.Frag} {T : Tab} {F H H' : Hp} {p : Addr}
end
section
variable {X : Cx} {T : Tab} {e : Expr} {m : Em} {p apos cpos pos : Pos}
end
section
variable {K : PySem.W.Frag} {T : Tab} {F H F' H' : Hp} {σ : L2.St} {env env' : Env} {ω ω' : Own} {v : V} {o : O} {A : List Addr}
end
section
variable {X : Cx} {T : Tab} {a e : Expr} {es : List Expr} {m : Em} {ms : Es} {c : Cm} {pos : Pos}
abbrev Cs := Env → Option (List O × Env)
end
end VL
namespace VL
open PySem PySem.Spec PyProof.Rows L2
section
variable {K : PySem.W.Frag} {T : Tab}
end
def lendS (r j : Nat) : SV → SV
  | .frz d => if d.imm = true then .frz d else .io (.frz d)
  | .own o => if j = r then .io (.frz o.toD) else .own o
  | .io o => if j = r then .io (.frz o.toD) else .io o
  | .als _ _ => .dead
  | .dead => .dead
def lendG (r : Nat) : Nat → Env → Env
  | _, [] => []
  | j, s :: e => lendS r j s :: lendG r (j + 1) e
/-- what came of a slot: s as it was ahead, t as it is behind -/
def backO : SV → Option SV
  | .frz d => if d.imm = true then some (.frz d) else none
  | .own o => if o.immO = true then some (.own o) else none
  | .io o => if o.immO = true then some (.io o) else none
  | .als _ _ => some .dead
  | .dead => some .dead
def backS (r j : Nat) (s t : SV) : Option SV := match s with
  | .frz d => if d.imm = true then backO t else some (.frz d)
  | .own o => if j = r then some (.own o) else backO t
  | .io o => if j = r then some (.io o) else backO t
  | _ => backO t
def backG (r : Nat) : Nat → Env → Env → Option Env
  | _, [], [] => some []
  | j, s :: e, t :: f => (backS r j s t).bind fun u => (backG r (j + 1) e f).map fun g => u :: g
  | _, _, _ => none
theorem lendG_get (r : Nat) : ∀ (k : Nat) (env : Env) (j : Nat), (lendG r k env)[j]? = (env[j]?).map (lendS r (k + j))
  | _, [], _ => rfl
  | k, s :: e, 0 => rfl
  | k, s :: e, j + 1 => by
    rw [lendG, List.getElem?_cons_succ, List.getElem?_cons_succ, lendG_get r (k + 1) e j, show k + 1 + j = k + (j + 1) by omega]
theorem lendG_len (r : Nat) : ∀ (k : Nat) (env : Env), (lendG r k env).length = env.length
  | _, [] => rfl
  | k, s :: e => by rw [lendG, List.length_cons, List.length_cons, lendG_len r (k + 1) e]
theorem backG_get (r : Nat) : ∀ (k : Nat) (env f g : Env), backG r k env f = some g → g.length = env.length ∧ f.length = env.length ∧ ∀ (j : Nat) (u : SV), g[j]? = some u → ∃ s t, env[j]? = some s ∧ f[j]? = some t ∧ backS r (k + j) s t = some u
  | k, [], [], g, h => by cases h; exact ⟨rfl, rfl, fun j u e => by simp at e⟩
  | k, [], _ :: _, g, h => by cases h
  | k, _ :: _, [], g, h => by cases h
  | k, s :: e, t :: f, g, h => by
    rw [backG] at h
    obtain ⟨u0, h1, h⟩ := Option.bind_eq_some_iff.mp h
    obtain ⟨g1, h2, h3⟩ := Option.map_eq_some_iff.mp h
    subst h3
    obtain ⟨l1, l2, ih⟩ := backG_get r (k + 1) e f g1 h2
    refine ⟨by rw [List.length_cons, List.length_cons, l1], by rw [List.length_cons, List.length_cons, l2], fun j u e1 => ?_⟩
    cases j with
    | zero =>
      rw [List.getElem?_cons_zero] at e1
      cases e1
      exact ⟨s, t, rfl, rfl, h1⟩
    | succ j =>
      rw [List.getElem?_cons_succ] at e1
      obtain ⟨s1, t1, e2, e3, e4⟩ := ih j u e1
      exact ⟨s1, t1, e2, e3, by rw [show k + (j + 1) = k + 1 + j by omega]; exact e4⟩
section
variable {K : PySem.W.Frag} {T : Tab} {F H F1 H1 F3 H3 : Hp} {σ σ3 : L2.St} {env e3 e4 : Env} {ω ω3 : Own} {w : V} {o : O} {A : List Addr} {r : Nat} {d : Addr} {od : Obj} {kvs : List (Key × V)}
/-- a loop begins: all of slot r stands in the frozen part, the dict at d is locked -/
structure Lent (K : PySem.W.Frag) (T : Tab) (F H : Hp) (σ : L2.St) (env : Env) (ω : Own) (r : Nat) (w : V) (o : O) (A : List Addr) (d : Addr) (kvs : List (Key × V)) (od : Obj) (F1 H1 : Hp) : Prop where
  sa : Sta K T F H σ env ω
  hr : σ[r]? = some (some w)
  ro : Ro K F H w o A
  nd : A.Nodup
  own : ∀ a ∈ A, ω a = some r
  er : env[r]? = some (.own o) ∨ env[r]? = some (.io o)
  hd : H d = some (.dK kvs)
  dA : d ∈ A
  up : ∀ a u, F a = some u → F1 a = some u
  new : ∀ a, F a = none → ω a ≠ some r → H a ≠ none → F1 a = none
  ext : ∀ a u, H a = some u → a ≠ d → (∀ ps, u ≠ .tbl ps) → H1 a = some u
  lk : H1 d = some (.frz od (.dK kvs))
  tb : ∀ a ps, H a = some (.tbl ps) → ∃ ps', H1 a = some (.tbl ps')
  gl : Gl T F1 H1
def ωout (ω : Own) (r : Nat) : Own := fun a => if ω a = some r then none else ω a
def lentF (H F1 : Hp) (A : List Addr) : Hp := fun a => if a ∈ A then H a else F1 a
theorem Lent.H1A (L : Lent K T F H σ env ω r w o A d kvs od F1 H1) {a : Addr} (ha : a ∈ A) : (a = d ∧ H1 a = some (.frz od (.dK kvs))) ∨ (a ≠ d ∧ H1 a = H a) := by
  by_cases z : a = d
  · exact .inl ⟨z, by rw [z]; exact L.lk⟩
  · obtain ⟨_, u, h, ou⟩ := L.ro.mem a ha
    exact .inr ⟨z, (L.ext a u h z (own_ntbl ou)).trans h.symm⟩
theorem Lent.tupA (L : Lent K T F H σ env ω r w o A d kvs od F1 H1) {a : Addr} (ha : a ∈ A) (vs : List V) : H1 a ≠ some (.tup vs) := fun z => by
  rcases L.H1A ha with ⟨_, h⟩ | ⟨_, h⟩
  · rw [h] at z; cases z
  · obtain ⟨_, u, h2, ou⟩ := L.ro.mem a ha
    rw [h, h2] at z
    cases z
    cases ou
theorem Lent.sta (L : Lent K T F H σ env ω r w o A d kvs od F1 H1) : Sta K T (lentF H F1 A) H1 σ (lendG r 0 env) (ωout ω r) := by
  have upG : ∀ a u, F a = some u → lentF H F1 A a = some u := fun a u e => by
    unfold lentF
    rw [if_neg fun z => by rw [(L.ro.mem a z).1] at e; cases e]
    exact L.up a u e
  have nA : ∀ a i, ω a = some i → i ≠ r → a ∉ A := fun a i e hi z => by
    rw [L.own a z] at e
    exact hi (Option.some.inj e).symm
  have off : ∀ a i, ω a = some i → i ≠ r → lentF H F1 A a = none ∧ H1 a = H a := fun a i e hi => by
    have h1 := nA a i e hi
    obtain ⟨h2, u, h3, ou⟩ := L.sa.og a i e
    refine ⟨?_, (L.ext a u h3 (fun z => h1 (by rw [z]; exact L.dA)) (own_ntbl ou)).trans h3.symm⟩
    unfold lentF
    rw [if_neg h1]
    exact L.new a h2 (by rw [e]; exact fun z => hi (Option.some.inj z)) (by rw [h3]; exact fun z => by cases z)
  have gl : Gl T (lentF H F1 A) H1 := by
    refine ⟨fun a u e n => ?_, fun a ps e => ?_, fun a vs e => ?_, L.gl.tab⟩
    · unfold lentF at e
      split at e
      · rename_i ha
        rcases L.H1A ha with ⟨z, h⟩ | ⟨_, h⟩
        · rw [z, L.hd] at e
          cases e
          exact .inr ⟨rfl, od, h⟩
        · exact .inl (h.trans e)
      · exact L.gl.sub a u e n
    · unfold lentF at e
      split at e
      · rename_i ha
        obtain ⟨_, u, h2, ou⟩ := L.ro.mem a ha
        rw [h2] at e
        cases e
        cases ou
      · exact L.gl.notbl a ps e
    · have ha : a ∉ A := fun z => L.tupA z vs e
      unfold lentF
      rw [if_neg ha]
      exact L.gl.tup a vs e
  have keep : ∀ {v : V} {n : O} {B : List Addr} {i : Nat}, i ≠ r → Ro K F H v n B → (∀ b ∈ B, ω b = some i) → Ro K (lentF H F1 A) H1 v n B := fun hi rr hb => rr.keep upG fun b z => off b _ (hb b z) hi
  have wout : ∀ {B : List Addr} {i : Nat}, i ≠ r → (∀ b ∈ B, ω b = some i) → ∀ b ∈ B, ωout ω r b = some i := fun hi hb b z => by
    unfold ωout
    rw [hb b z, if_neg fun y => hi (Option.some.inj y)]
  have whole : Vw K (lentF H F1 A) w o.toD := L.ro.fzn upG fun a ha => if_pos ha
  refine ⟨gl, by rw [lendG_len]; exact L.sa.len, fun j t e => ?_, fun a i e => ?_⟩
  · rw [lendG_get, Nat.zero_add] at e
    obtain ⟨s, e1, e2⟩ := Option.map_eq_some_iff.mp e
    subst e2
    have h := L.sa.slot j s e1
    cases s with
    | dead => trivial
    | als r' p => trivial
    | frz dd =>
      obtain ⟨v, h1, h2⟩ := h
      have h3 := h2.sub (SubN.of upG)
      show SlotOk K _ _ _ _ _ (if dd.imm = true then SV.frz dd else .io (.frz dd))
      split
      · exact ⟨v, h1, h3⟩
      · exact ⟨v, [], h1, .frz h3, .nil, fun _ z => by cases z⟩
    | own n =>
      obtain ⟨v, B, h1, h2, h3, h4⟩ := h
      show SlotOk K _ _ _ _ _ (if j = r then SV.io (.frz n.toD) else .own n)
      split
      · rename_i hj
        subst hj
        rcases L.er with q | q
        · rw [q] at e1; cases e1
          exact ⟨w, [], L.hr, .frz whole, .nil, fun _ z => by cases z⟩
        · rw [q] at e1; cases e1
      · rename_i hj
        exact ⟨v, B, h1, keep hj h2 h4, h3, wout hj h4⟩
    | io n =>
      obtain ⟨v, B, h1, h2, h3, h4⟩ := h
      show SlotOk K _ _ _ _ _ (if j = r then SV.io (.frz n.toD) else .io n)
      split
      · rename_i hj
        subst hj
        rcases L.er with q | q
        · rw [q] at e1; cases e1
        · rw [q] at e1; cases e1
          exact ⟨w, [], L.hr, .frz whole, .nil, fun _ z => by cases z⟩
      · rename_i hj
        exact ⟨v, B, h1, keep hj h2 h4, h3, wout hj h4⟩
  · unfold ωout at e
    split at e
    · cases e
    · rename_i hn
      have hi : i ≠ r := fun z => hn (by rw [e, z])
      obtain ⟨h2, u, h3, ou⟩ := L.sa.og a i e
      obtain ⟨h4, h5⟩ := off a i e hi
      exact ⟨h4, u, h5.trans h3, ou⟩
/-- .. and ends: it is one's own again -/
theorem Lent.back (L : Lent K T F H σ env ω r w o A d kvs od F1 H1) (g : Go K T (lentF H F1 A) H1 σ (lendG r 0 env) (ωout ω r) F3 H3 σ3 e3 ω3) (hb : backG r 0 env e3 = some e4) : ∃ F4 ω4, Go K T F H σ env ω F4 (upd H3 d (.dK kvs)) σ3 e4 ω4 := by
  have outA : ∀ a, a ∈ A → ωout ω r a = none := fun a ha => if_pos (L.own a ha)
  have H3A : ∀ a, a ∈ A → (a = d ∧ H3 a = some (.frz od (.dK kvs))) ∨ (a ≠ d ∧ H3 a = H a) := fun a ha => by
    rcases L.H1A ha with ⟨z, h⟩ | ⟨z, h⟩
    · exact .inl ⟨z, g.ex.h a _ h (outA a ha) fun _ y => by cases y⟩
    · obtain ⟨_, u, h2, ou⟩ := L.ro.mem a ha
      exact .inr ⟨z, (g.ex.h a u (h.trans h2) (outA a ha) (own_ntbl ou)).trans h2.symm⟩
  have H1n : ∀ a, H a ≠ none → H1 a ≠ none := fun a h => by
    by_cases z : a = d
    · rw [z, L.lk]; exact fun y => by cases y
    · cases q : H a with
      | none => exact absurd q h
      | some u =>
        by_cases y : ∃ ps, u = .tbl ps
        · obtain ⟨ps, rfl⟩ := y
          obtain ⟨ps', h2⟩ := L.tb a ps q
          rw [h2]; exact fun y => by cases y
        · rw [L.ext a u q z fun ps e => y ⟨ps, e⟩]; exact fun y => by cases y
  have w3A : ∀ a, a ∈ A → ω3 a = none := fun a ha => by
    cases e : ω3 a with
    | none => rfl
    | some i =>
      rcases g.ex.own a i e with q | q
      · exact absurd (outA a ha) q
      · obtain ⟨_, u, h2, _⟩ := L.ro.mem a ha
        exact absurd q (H1n a (by rw [h2]; exact fun z => by cases z))
  obtain ⟨F4, hF4⟩ : ∃ F4 : Hp, F4 = fun a => if a ∈ A then none else F3 a := ⟨_, rfl⟩
  obtain ⟨H4, hH4⟩ : ∃ H4 : Hp, H4 = upd H3 d (.dK kvs) := ⟨_, rfl⟩
  rw [← hH4]
  have F4A : ∀ a, a ∈ A → F4 a = none := fun a ha => by rw [hF4]; exact if_pos ha
  have F4n : ∀ a, a ∉ A → F4 a = F3 a := fun a ha => by rw [hF4]; exact if_neg ha
  have H4A : ∀ a, a ∈ A → H4 a = H a := fun a ha => by
    rw [hH4]
    rcases H3A a ha with ⟨z, _⟩ | ⟨z, h⟩
    · rw [z, upd_same, L.hd]
    · rw [upd_ne z, h]
  have H4n : ∀ a, a ≠ d → H4 a = H3 a := fun a z => by rw [hH4, upd_ne z]
  have nd : ∀ a, a ∉ A → a ≠ d := fun a h z => h (by rw [z]; exact L.dA)
  have upF : ∀ a u, F a = some u → F4 a = some u := fun a u e => by
    have ha : a ∉ A := fun z => by rw [(L.ro.mem a z).1] at e; cases e
    rw [F4n a ha]
    refine g.ex.f a u ?_
    unfold lentF
    rw [if_neg ha]
    exact L.up a u e
  have tup3 : ∀ a vs, F3 a = some (.tup vs) → F4 a = some (.tup vs) := fun a vs e => by
    have ha : a ∉ A := fun z => by
      have h3 := g.sta.gl.sub.at e (fun _ y => by cases y) rfl
      rcases H3A a z with ⟨_, h⟩ | ⟨_, h⟩
      · rw [h] at h3; cases h3
      · obtain ⟨_, u, h2, ou⟩ := L.ro.mem a z
        rw [h, h2] at h3
        cases h3
        cases ou
    rw [F4n a ha]
    exact e
  have gl : Gl T F4 H4 := by
    have hd3 : H3 d = some (.frz od (.dK kvs)) := by
      rcases H3A d L.dA with ⟨_, h⟩ | ⟨z, _⟩
      · exact h
      · exact absurd rfl z
    refine ⟨fun a u e n => ?_, fun a ps e => ?_, fun a vs e => ?_, by rw [hH4]; exact tabs_free g.sta.gl.tab hd3⟩
    · have ha : a ∉ A := fun z => by rw [F4A a z] at e; cases e
      rw [F4n a ha] at e
      rw [H4n a (nd a ha)]
      exact g.sta.gl.sub a u e n
    · have ha : a ∉ A := fun z => by rw [F4A a z] at e; cases e
      rw [F4n a ha] at e
      exact g.sta.gl.notbl a ps e
    · have ha : a ∉ A := fun z => by
        rw [H4A a z] at e
        obtain ⟨_, u, h2, ou⟩ := L.ro.mem a z
        rw [h2] at e
        cases e
        cases ou
      rw [H4n a (nd a ha)] at e
      rw [F4n a ha]
      exact g.sta.gl.tup a vs e
  obtain ⟨ω4, hω4⟩ : ∃ ω4 : Own, ω4 = fun a => if a ∈ A then some r else ω3 a := ⟨_, rfl⟩
  have w4 : ∀ {B : List Addr} {i : Nat}, (∀ b ∈ B, ω3 b = some i) → (∀ b ∈ B, b ∉ A) ∧ ∀ b ∈ B, ω4 b = some i := fun {B i} hB => by
    have h1 : ∀ b ∈ B, b ∉ A := fun b hb z => by
      have := hB b hb
      rw [w3A b z] at this; cases this
    exact ⟨h1, fun b hb => by rw [hω4]; show (if b ∈ A then some r else ω3 b) = _; rw [if_neg (h1 b hb)]; exact hB b hb⟩
  obtain ⟨l1, l2, bk⟩ := backG_get r 0 env e3 e4 hb
  have wr : ∃ oo, (lendG r 0 env)[r]? = some (SV.io oo) := by
    rw [lendG_get, Nat.zero_add]
    rcases L.er with q | q
    · rw [q]; exact ⟨_, by show some (if r = r then SV.io (.frz o.toD) else .own o) = _; rw [if_pos rfl]⟩
    · rw [q]; exact ⟨_, by show some (if r = r then SV.io (.frz o.toD) else .io o) = _; rw [if_pos rfl]⟩
  have hr3 : σ3[r]? = some (some w) := by
    obtain ⟨oo, q⟩ := wr
    exact (g.io r oo q).1.trans L.hr
  have ro4 : Ro K F4 H4 w o A := L.ro.keep upF fun a ha => ⟨F4A a ha, H4A a ha⟩
  have own4 : ∀ a ∈ A, ω4 a = some r := fun a ha => by rw [hω4]; exact if_pos ha
  have obO : ∀ (j : Nat) (t u : SV), e3[j]? = some t → backO t = some u → SlotOk K F4 H4 σ3 ω4 j u := fun j t u e1 e2 => by
    have h := g.sta.slot j t e1
    cases t with
    | dead => cases e2; trivial
    | als r' p => cases e2; trivial
    | frz dd =>
      have e2 : (if dd.imm = true then some (SV.frz dd) else none) = some u := e2
      split at e2
      · rename_i im
        cases e2
        obtain ⟨v, h1, h2⟩ := h
        exact ⟨v, h1, h2.immv tup3 im⟩
      · cases e2
    | own n =>
      have e2 : (if n.immO = true then some (SV.own n) else none) = some u := e2
      split at e2
      · rename_i im
        cases e2
        obtain ⟨v, B, h1, h2, h3, h4⟩ := h
        obtain ⟨b1, b2⟩ := w4 h4
        have r3 := h2.imm tup3 im fun b z => (F4n b (b1 b z)).trans (h2.mem b z).1
        exact ⟨v, B, h1, r3.keep (fun _ _ e => e) fun b z => ⟨(r3.mem b z).1, H4n b (nd b (b1 b z))⟩, h3, b2⟩
      · cases e2
    | io n =>
      have e2 : (if n.immO = true then some (SV.io n) else none) = some u := e2
      split at e2
      · rename_i im
        cases e2
        obtain ⟨v, B, h1, h2, h3, h4⟩ := h
        obtain ⟨b1, b2⟩ := w4 h4
        have r3 := h2.imm tup3 im fun b z => (F4n b (b1 b z)).trans (h2.mem b z).1
        exact ⟨v, B, h1, r3.keep (fun _ _ e => e) fun b z => ⟨(r3.mem b z).1, H4n b (nd b (b1 b z))⟩, h3, b2⟩
      · cases e2
  refine ⟨F4, ω4, ⟨gl, by rw [l1, ← l2]; exact g.sta.len, fun j u e => ?_, fun a i e => ?_⟩, ⟨upF, fun a u e h n => ?_, fun a e h z => ?_, fun a i e => ?_, fun a h => ?_, fun a ps e => ?_⟩, fun i n e => ?_⟩
  · obtain ⟨s, t, e1, e2, e5⟩ := bk j u e
    rw [Nat.zero_add] at e5
    cases s with
    | dead => exact obO j t u e2 e5
    | als r' p => exact obO j t u e2 e5
    | frz dd =>
      have e5 : (if dd.imm = true then backO t else some (SV.frz dd)) = some u := e5
      split at e5
      · exact obO j t u e2 e5
      · rename_i im
        cases e5
        obtain ⟨v, h1, h2⟩ := L.sa.slot j _ e1
        have q : (lendG r 0 env)[j]? = some (SV.io (.frz dd)) := by
          rw [lendG_get, Nat.zero_add, e1]
          show some (if dd.imm = true then SV.frz dd else .io (.frz dd)) = _
          rw [if_neg im]
        exact ⟨v, (g.io j _ q).1.trans h1, h2.sub (SubN.of upF)⟩
    | own n =>
      have e5 : (if j = r then some (SV.own n) else backO t) = some u := e5
      split at e5
      · rename_i hj
        cases e5
        subst hj
        rcases L.er with q | q
        · rw [q] at e1; cases e1
          exact ⟨w, A, hr3, ro4, L.nd, own4⟩
        · rw [q] at e1; cases e1
      · exact obO j t u e2 e5
    | io n =>
      have e5 : (if j = r then some (SV.io n) else backO t) = some u := e5
      split at e5
      · rename_i hj
        cases e5
        subst hj
        rcases L.er with q | q
        · rw [q] at e1; cases e1
        · rw [q] at e1; cases e1
          exact ⟨w, A, hr3, ro4, L.nd, own4⟩
      · exact obO j t u e2 e5
  · rw [hω4] at e
    have e : (if a ∈ A then some r else ω3 a) = some i := e
    split at e
    · rename_i ha
      obtain ⟨_, u, h2, ou⟩ := L.ro.mem a ha
      exact ⟨F4A a ha, u, (H4A a ha).trans h2, ou⟩
    · rename_i ha
      obtain ⟨h2, u, h3, ou⟩ := g.sta.og a i e
      exact ⟨(F4n a ha).trans h2, u, (H4n a (nd a ha)).trans h3, ou⟩
  · have ha : a ∉ A := fun z => by rw [L.own a z] at h; cases h
    rw [H4n a (nd a ha)]
    refine g.ex.h a u (L.ext a u e (nd a ha) n) ?_ n
    unfold ωout
    rw [h, if_neg fun y => by cases y]
  · have ha : a ∉ A := fun y => by rw [L.own a y] at z; cases z
    rw [F4n a ha]
    refine g.ex.new a ?_ (H1n a h) ?_
    · unfold lentF
      rw [if_neg ha]
      exact L.new a e (by rw [z]; exact fun y => by cases y) h
    · unfold ωout
      rw [z, if_neg fun y => by cases y]
  · rw [hω4] at e
    have e : (if a ∈ A then some r else ω3 a) = some i := e
    split at e
    · rename_i ha
      exact .inl (by rw [L.own a ha]; exact fun z => by cases z)
    · rcases g.ex.own a i e with q | q
      · left
        intro z
        apply q
        unfold ωout
        rw [z, if_neg fun y => by cases y]
      · right
        cases q2 : H a with
        | none => rfl
        | some u => exact absurd q (H1n a (by rw [q2]; exact fun z => by cases z))
  · by_cases ha : a ∈ A
    · rw [H4A a ha]; exact h
    · rw [H4n a (nd a ha)]
      exact g.ex.trk a (H1n a h)
  · have ha : a ∉ A := fun z => by
      obtain ⟨_, u, h2, ou⟩ := L.ro.mem a z
      rw [h2] at e
      cases e
      cases ou
    rw [H4n a (nd a ha)]
    obtain ⟨ps', h1⟩ := L.tb a ps e
    exact g.ex.tb a ps' h1
  · by_cases hi : i = r
    · subst hi
      refine ⟨hr3.trans L.hr.symm, ?_⟩
      have hl : i < e4.length := by rw [l1]; exact own_len e
      obtain ⟨s, t, e1, e2, e5⟩ := bk i e4[i] (List.getElem?_eq_getElem hl)
      rw [e] at e1
      cases e1
      rw [Nat.zero_add] at e5
      have e5 : (if i = i then some (SV.io n) else backO t) = some e4[i] := e5
      rw [if_pos rfl] at e5
      exact ⟨n, by rw [List.getElem?_eq_getElem hl, ← Option.some.inj e5]⟩
    · have q : (lendG r 0 env)[i]? = some (SV.io n) := by
        rw [lendG_get, Nat.zero_add, e]
        show some (if i = r then SV.io (.frz n.toD) else .io n) = _
        rw [if_neg hi]
      obtain ⟨h1, n', h2⟩ := g.io i n q
      refine ⟨h1, ?_⟩
      have hl : i < e4.length := by rw [l1]; exact own_len e
      obtain ⟨s, t, e1, e2, e5⟩ := bk i e4[i] (List.getElem?_eq_getElem hl)
      rw [e] at e1
      cases e1
      rw [h2] at e2
      cases e2
      rw [Nat.zero_add] at e5
      have e5 : (if i = r then some (SV.io n) else backO (.io n')) = some e4[i] := e5
      rw [if_neg hi] at e5
      have e5 : (if n'.immO = true then some (SV.io n') else none) = some e4[i] := e5
      split at e5
      · exact ⟨n', by rw [List.getElem?_eq_getElem hl, ← Option.some.inj e5]⟩
      · cases e5
end
section
variable {K : PySem.W.Frag} {T : Tab} {F H : Hp} {σ : L2.St} {env : Env} {ω : Own} {v w : V} {o n : O} {r : Nat} {p : List Stp}
end
section
variable {X : Cx} {T : Tab} {tg e : Expr} {body : List Stmt} {pos : Pos} {q : Qm} {g : Gm} {s : Sm} {ts : List Nat}
end
end VL
namespace VL
open PySem PySem.Spec PyProof.Rows L2
section
variable {K : PySem.W.Frag} {T : Tab} {F H : Hp}
end
section
variable {X : Cx} {T : Tab} {e : Expr} {m : Em} {x : Str} {p pos : Pos}
end
section
variable {X : Cx} {T : Tab} {m : Em} {e : Expr} {pos : Pos}
end
end VL
namespace VL
open PySem PySem.Spec PyProof.Rows L2
section
variable {X : Cx} {T : Tab} {a b e : Expr} {c : Cm} {pos : Pos} {t u : Ct}
end
end VL
namespace VL
open PySem PySem.Spec PyProof.Rows L2 HT
section
variable {prog : Program} {w : World} {A : Around} {E : Value → Shared → Prop} {s : Shared}
end
section
variable {X : Cx}
end
section
variable {X : Cx} {T : Tab} {a : Expr} {ma : Em} {pos : Pos}
end
end VL
namespace VL
open PySem PySem.Spec PyProof.Rows L2 PySem.W
abbrev T3 := Int × Int × Int
def D.t3 : D → Option T3
  | .tup [.int a, .int b, .int c] => some (a, b, c)
  | _ => none
def lt3 (a b : T3) : Bool := !le3 b a
section
variable {X : Cx}
end
section
variable {K : PySem.W.Frag} {T : Tab}
end
section
variable {X : Cx}
end
section
variable {K : PySem.W.Frag} {T : Tab}
end
section
variable {X : Cx} {T : Tab} {a : Expr} {m : Em} {p p2 q pos : Pos}
def tLST (K : PySem.W.Frag) (ta : TE) : TE := fun σ H Q => ta σ H fun x H1 => ∃ (l : Addr) (ks : List (Addr × List Int)), x = V.ref l ∧ SqL K H1 l (ks.map fun p => V.ref p.1) ∧ (∀ p ∈ ks, SqT K H1 p.1 (p.2.map V.int)) ∧ ks.length < 64 ∧ (ks.map (·.2)).Nodup ∧ Q (.int (ks.length : Nat)) H1
theorem nodupLe {α : Type} [DecidableEq α] : ∀ {l m : List α}, l.Nodup → (∀ x ∈ l, x ∈ m) → l.length ≤ m.length
  | [], m, _, _ => Nat.zero_le _
  | x :: l, m, hn, h => by
    have hx := h x (by simp)
    obtain ⟨n1, n2⟩ := List.nodup_cons.mp hn
    have := nodupLe (l := l) (m := m.erase x) n2 fun y hy => (List.mem_erase_of_ne (fun z => n1 (by rw [← z]; exact hy))).mpr (h y (by simp [hy]))
    rw [List.length_erase_of_mem hx] at this
    have := List.length_pos_of_mem hx
    simp only [List.length_cons]
    omega
theorem got_len {ks L : List (Addr × List Int)} (g : Got ks ks.length L) (hn : (ks.map (·.2)).Nodup) : L.length = ks.length := by
  have h1 := g.len
  have h2 : (ks.map (·.2)).length ≤ (L.map (·.2)).length := by
    refine nodupLe hn fun x hx => ?_
    obtain ⟨p, hp, rfl⟩ := List.mem_map.mp hx
    exact g.all p (by rw [List.take_length]; exact hp)
  simp at h2
  omega
theorem pe_lst {ta : TE} (hc : X.calm = true) (hu : X.A.units + 64 < cLine) (hg : L2.Gl X "len") (hm : X.mg "len" = none) (hg2 : L2.Gl X "set") (hm2 : X.mg "set" = none) (ha : PE X a ta) (na : starEach [a] X.env = (false, eval a X.env) :: starEach [] X.env := by rfl) :
    PE X (.Call (.Name "len" p) [.Call (.Name "set" p2) [a] [] q] [] pos) (tLST X.K ta) := ⟨fun pins s σ H Q I h => by
  apply Call_ (ld_blt I hg hm boot_len ?_)
  apply callWith_builtin1 (args_cons ?_ rfl) rfl rfl
  apply Call_ (ld_blt I hg2 hm2 boot_set ?_)
  refine callWith_type1 (args_cons (thn (ha.run pins s σ H _ I h) fun v s1 ⟨x, H1, J, rx, l, ks, ex, sq, hk, le, hn, fin⟩ => args_nil ?_) na) na rfl
  subst ex
  cases rx
  obtain ⟨us, vs, isl, z⟩ := J.list sq
  refine call_set_tups (P := X.prog) (w := X.w) ks (J.ok.hd hc) isl.isList (by simpa using refs_of_vals vs) (fun p hp => J.isT (hk p hp)) le (by omega) fun h' tk L es ep t R g k => args_nil ?_
  obtain ⟨o, ho, hex, hd⟩ := R.ob
  have J2 : Inv X pins σ H1 { s1 with heap := h', toks := tk } := J.kept k
  have es' := R.size (s := { s1 with heap := h', toks := tk })
  have gl := got_len g hn
  refine call_len_set ho hex hd (R.fits (s := { s1 with heap := h', toks := tk })) (by omega) ⟨.int (ks.length : Nat), H1, J2.tok _, ⟨_, by rw [es', gl]⟩, fin⟩⟩
end
end VL
namespace VL
open PySem PySem.Spec PyProof.Rows L2
section
variable {K : PySem.W.Frag} {T : Tab} {F H F' H' : Hp} {σ σ' : L2.St} {env env' : Env} {ω ω' : Own} {d : Addr} {kvs : List (Key × V)} {od : Obj} {v : V} {o : O} {A : List Addr}
end
section
variable {X : Cx} {T : Tab} {tg e : Expr} {body : List Stmt} {pos : Pos} {g : Gm} {s : Sm} {ts : List Nat} {td : TE} {look : Env → Option (List (Key × D))} {sel : List (Key × D) → List D} {st : Stmt} {J : Addr → Obj → List (Key × V) → It}
variable {apos cpos fpos vpos : Pos} {x : Str}
end
end VL
namespace VL
open PySem PySem.Spec PyProof.Rows L2 PySem.W
section
variable {X : Cx} {T : Tab} {e : Expr} {m : Em} {p pos kpos cp : Pos}
end
end VL
namespace VL
open PySem PySem.Spec PyProof.Rows L2
section
variable {X : Cx} {T : Tab} {m : Em} {e : Expr} {pos : Pos}
end
section
variable {X : Cx} {T : Tab} {a : Expr} {m : Em} {pos ip : Pos}
end
end VL
namespace VL
open PySem PySem.Spec PyProof.Rows L2 PySem.W
/-- v is a pair whose first part is the text x -/
def IsPS (h : Heap) (v : Value) (x : Str) : Prop := ∃ a o t u n, v = .ref a ∧ h.get? a = some o ∧ o.cls = .type "tuple" ∧ o.data = .seq #[.str x t, u] n
theorem IsPS.keeps {h h' : Heap} {v : Value} {x : Str} (p : IsPS h v x) (k : ∀ b o, h.get? b = some o → h'.get? b = some o) : IsPS h' v x := by
  obtain ⟨a, o, t, u, n, e, e1, e2, e3⟩ := p
  exact ⟨a, o, t, u, n, e, k _ _ e1, e2, e3⟩
def D.pk : D → Option Str
  | .tup [.str x, _] => some x
  | _ => none
section
variable {X : Cx}
end
section
variable {K : PySem.W.Frag} {T : Tab}
end
section
variable {X : Cx} {T : Tab} {elt tg : Expr} {ifs : List Expr} {scope : Scope} {own : List (Str × Nat)} {pos p : Pos} {g : Gm} {t : Tm} {m : Em} {ts : List Nat}
end
section
variable {X : Cx} {T : Tab} {pos : Pos} {k : Nat} {f : Addr} {fd : FuncData} {ps : List Str} {fm : Fm} {np : Nat}
end
end VL
namespace VL
open PySem PySem.Spec PyProof.Rows L2
/-- an argument: a value, or a slot that is handed over -/
inductive Ag where
  | pu (m : Em) | io (r : Nat)
def Ag.slot : Ag → Option Nat
  | .io r => some r
  | .pu _ => none
section
variable {K : PySem.W.Frag} {T : Tab} {F H F' H' : Hp} {σ : L2.St} {env : Env} {ω : Own}
/-- the arguments' values -/
inductive AgV (K : PySem.W.Frag) (F : Hp) (σ : L2.St) : List V → List SV → List Ag → Prop
  | nil : AgV K F σ [] [] []
  | pu {u : V} {d : D} {m : Em} {us : List V} {svs : List SV} {as : List Ag} : Vw K F u d → AgV K F σ us svs as → AgV K F σ (u :: us) (.frz d :: svs) (.pu m :: as)
  | io {u : V} {o : O} {r : Nat} {us : List V} {svs : List SV} {as : List Ag} : σ[r]? = some (some u) → AgV K F σ us svs as → AgV K F σ (u :: us) (.io o :: svs) (.io r :: as)
theorem AgV.len : ∀ {us : List V} {svs : List SV} {as : List Ag}, AgV K F σ us svs as → us.length = svs.length ∧ svs.length = as.length
  | _, _, _, .nil => ⟨rfl, rfl⟩
  | _, _, _, .pu _ t => by obtain ⟨h1, h2⟩ := t.len; simp [h1, h2]
  | _, _, _, .io _ t => by obtain ⟨h1, h2⟩ := t.len; simp [h1, h2]
theorem AgV.get : ∀ {us : List V} {svs : List SV} {as : List Ag}, AgV K F σ us svs as → ∀ (j : Nat) (t : SV), svs[j]? = some t → (∃ u d, t = .frz d ∧ us[j]? = some u ∧ Vw K F u d) ∨ ∃ u o r, t = .io o ∧ us[j]? = some u ∧ as[j]? = some (.io r) ∧ σ[r]? = some (some u)
  | _, _, _, .nil, j, t, e => by simp at e
  | _, _, _, .pu h l, 0, t, e => .inl ⟨_, _, by simpa using e.symm, rfl, h⟩
  | _, _, _, .io h l, 0, t, e => .inr ⟨_, _, _, by simpa using e.symm, rfl, rfl, h⟩
  | _, _, _, .pu h l, j + 1, t, e => by simpa using l.get j t (by simpa using e)
  | _, _, _, .io h l, j + 1, t, e => by simpa using l.get j t (by simpa using e)
theorem AgV.argOk : ∀ {us : List V} {svs : List SV} {as : List Ag}, AgV K F σ us svs as → svs.all argOk = true
  | _, _, _, .nil => rfl
  | _, _, _, .pu _ t => by rw [List.all_cons, t.argOk]; rfl
  | _, _, _, .io _ t => by rw [List.all_cons, t.argOk]; rfl
end
section
variable {X : Cx} {T : Tab} {a : Expr} {es : List Expr} {m : Em} {as : List Ag} {pos : Pos}
end
section
variable {X : Cx} {T : Tab} {k : Nat} {f : Addr} {fd : FuncData} {ps : List Str} {fm : Fm} {x : Str} {p pos : Pos} {e : Expr} {es : List Expr} {np : Nat} {as : List Ag}
end
end VL
namespace VL
open PySem PySem.Spec PyProof.Rows L2
section
variable {X : Cx} {T : Tab} {a b : Expr} {ca cb : Cm} {pos : Pos}
end
end VL
namespace VL
open PySem PySem.Spec PyProof.Rows L2
section
variable {K : PySem.W.Frag} {F : Hp} {d : Addr} {kvs : List (Key × V)} {od : Obj}
end
section
variable {X : Cx} {T : Tab} {tg : Expr} {body : List Stmt} {pos : Pos} {g : Gm} {s : Sm} {ts : List Nat} {x : Str} {kk : Nat} {p p1 p2 : Pos}
end
end VL
namespace VL
open PySem PySem.Spec PyProof.Rows L2
section
variable {K : PySem.W.Frag} {F H : Hp} {κ : Type} [DecidableEq κ]
end
section
variable {X : Cx} {T : Tab} {a e : Expr} {q : Qm} {mi : Em} {apos cpos : Pos}
end
end VL
namespace VL
open PySem PySem.Spec PyProof.Rows L2
theorem zz_div (m n : Nat) : (m : Int) / (n : Int) = ((m / n : Nat) : Int) := id rfl
theorem zz_divl (m n : Nat) : (m : Int) / (no_index (OfNat.ofNat n : Int)) = ((m / (OfNat.ofNat n : Nat) : Nat) : Int) := id rfl
theorem zz_mod (m n : Nat) : (m : Int) % (n : Int) = ((m % n : Nat) : Int) := id rfl
theorem zz_modl (m n : Nat) : (m : Int) % (no_index (OfNat.ofNat n : Int)) = ((m % (OfNat.ofNat n : Nat) : Nat) : Int) := id rfl
theorem zz_add (m n : Nat) : (m : Int) + (n : Int) = ((m + n : Nat) : Int) := id rfl
theorem zz_addl (m n : Nat) : (m : Int) + (no_index (OfNat.ofNat n : Int)) = ((m + (OfNat.ofNat n : Nat) : Nat) : Int) := id rfl
theorem zz_addr (m n : Nat) : (no_index (OfNat.ofNat n : Int)) + (m : Int) = (((OfNat.ofNat n : Nat) + m : Nat) : Int) := id rfl
theorem zz_mul (m n : Nat) : (m : Int) * (n : Int) = ((m * n : Nat) : Int) := id rfl
theorem zz_mull (m n : Nat) : (m : Int) * (no_index (OfNat.ofNat n : Int)) = ((m * (OfNat.ofNat n : Nat) : Nat) : Int) := id rfl
theorem zz_mulr (m n : Nat) : (no_index (OfNat.ofNat n : Int)) * (m : Int) = (((OfNat.ofNat n : Nat) * m : Nat) : Int) := id rfl
theorem zz_beq (m n : Nat) : ((m : Int) == (n : Int)) = (m == n) := by
  by_cases h : m = n
  · rw [h]; simp
  · rw [beq_eq_false_iff_ne.mpr h, beq_eq_false_iff_ne.mpr fun z => h (by omega)]
theorem zz_beql (m n : Nat) : ((m : Int) == (no_index (OfNat.ofNat n : Int))) = (m == (OfNat.ofNat n : Nat)) := zz_beq m n
theorem zz_bne (m n : Nat) : ((m : Int) != (n : Int)) = (m != n) := by unfold bne; rw [zz_beq]
theorem zz_bnel (m n : Nat) : ((m : Int) != (no_index (OfNat.ofNat n : Int))) = (m != (OfNat.ofNat n : Nat)) := zz_bne m n
theorem zz_lt (m n : Nat) : ((m : Int) < (n : Int)) = (m < n) := propext ⟨fun h => by omega, fun h => by omega⟩
theorem zz_ltl (m n : Nat) : ((m : Int) < (no_index (OfNat.ofNat n : Int))) = (m < (OfNat.ofNat n : Nat)) := zz_lt m n
theorem zz_ltr (m n : Nat) : ((no_index (OfNat.ofNat n : Int)) < (m : Int)) = ((OfNat.ofNat n : Nat) < m) := zz_lt n m
theorem zz_le (m n : Nat) : ((m : Int) ≤ (n : Int)) = (m ≤ n) := propext ⟨fun h => by omega, fun h => by omega⟩
theorem zz_lel (m n : Nat) : ((m : Int) ≤ (no_index (OfNat.ofNat n : Int))) = (m ≤ (OfNat.ofNat n : Nat)) := zz_le m n
theorem zz_ler (m n : Nat) : ((no_index (OfNat.ofNat n : Int)) ≤ (m : Int)) = ((OfNat.ofNat n : Nat) ≤ m) := zz_le n m
end VL
namespace VL
open PySem PySem.Spec PyProof.Rows L2
def iZT (m : Es) : Im := fun env => (m env).bind fun os => match os with
  | [o, q] => (o.titems).bind fun xs => (q.titems).map fun ys => zipD xs ys
  | _ => none
/-- zip of two lists or of two tuples -/
def iZA (m : Es) : Im := fun env => (iZ m env).or (iZT m env)
section
variable {K : PySem.W.Frag} {T : Tab} {F H : Hp}
end
section
variable {X : Cx} {T : Tab} {e e2 : Expr} {ms : Es} {p pos tpos : Pos} {elts : List Expr} {kk : Nat}
end
section
variable {a b c : Em} {m : Es} {s : SV} {r : Env} {f g : O → O → Option O}
def ch3 (f g : O → O → Option O) : Option O → Option O → Option O → Option O
  | some x, some y, z => (f x y).bind fun w => match w.toD with
    | .bl true => z.bind fun z => g y z
    | .bl false => some (.frz (.bl false))
    | _ => none
  | _, _, _ => none
theorem eChain_c : eChain f g a b c (s :: r) = ch3 f g (a (s :: r)) (b (s :: r)) (c (s :: r)) := by
  unfold eChain ch3
  cases a (s :: r) with
  | none => rfl
  | some x => cases b (s :: r) <;> rfl
theorem ch3_i {f g : Int → Int → Bool} {i j k : Int} : ch3 (sc2 (gB f)) (sc2 (gB g)) (some (.frz (.int i))) (some (.frz (.int j))) (some (.frz (.int k))) = some (.frz (.bl (f i j && g j k))) := by
  unfold ch3
  simp only [sc2_s, toD_frz, gB_i, fr_s, Option.bind_some]
  cases f i j <;> rfl
def zp2 : Option (List O) → Option (List D)
  | some [o, q] => ((seqF o).bind fun xs => (seqF q).map fun ys => zipD xs ys).or ((o.titems).bind fun xs => (q.titems).map fun ys => zipD xs ys)
  | _ => none
theorem iZA_c : iZA m (s :: r) = zp2 (m (s :: r)) := by
  unfold iZA iZ iZT zp2
  cases m (s :: r) with
  | none => rfl
  | some os => rcases os with _ | ⟨o, _ | ⟨q, _ | ⟨w, os⟩⟩⟩ <;> rfl
theorem zp2_ll {xs ys : List D} : zp2 (some [.frz (.lst xs), .frz (.lst ys)]) = some (zipD xs ys) := id rfl
theorem zp2_tt {xs ys : List D} : zp2 (some [.frz (.tup xs), .frz (.tup ys)]) = some (zipD xs ys) := id rfl
theorem sl3_nl {ds : List D} {l h : Option Int} : sl3 (some (newL ds)) (some l) (some h) = some (newL (cutA ds l h)) := by
  show slO (newL ds) l h = _
  unfold slO
  first
    | rfl
    | (rw [litems_n])
end
end VL

namespace VL
open PySem PySem.Spec PyProof.Rows L2
/-- an exception's class and its own fields -/
abbrev Exn := Str × List (Str × D)
abbrev Rz := Env → Option Exn
def exnAt (K : PySem.W.Frag) (H0 F : Hp) (x : Exn) (cls : Value) (d : Option Addr) : Prop :=
  cls = .ref (He.ga K x.1) ∧ ∃ (dd : Addr) (fs : List (Str × V)), d = some dd ∧ H0 dd = none ∧ F dd = some (.xd fs) ∧ fs.map Prod.fst = x.2.map Prod.fst ∧ VwL K F (fs.map Prod.snd) (x.2.map Prod.snd)
def tRE (K : PySem.W.Frag) (T : Tab) (W : WX) (r : Rz) : L2.St → Hp → Prop := fun σ H => ∃ F env ω, Sta K T F H σ env ω ∧ ∃ x, r env = some x ∧ ∀ cls d F' H', PX T F H F' H' → exnAt K H F' x cls d → W cls d σ H'
def tRS (K : PySem.W.Frag) (T : Tab) (W : WX) (r : Rz) : L2.St → Hp → Prop := fun σ H => ∃ F env ω, Sta K T F H σ env ω ∧ ∃ x, r env = some x ∧ ∀ cls d F' H' σ' env' ω', Go K T F H σ env ω F' H' σ' env' ω' → exnAt K H F' x cls d → W cls d σ' H'
def RE (X : Cx) (T : Tab) (W : WX) (e : Expr) (r : Rz) : Prop := PE X e (fun σ H _ => tRE X.K T W r σ H)
def RS (X : Cx) (T : Tab) (W : WX) (st : Stmt) (r : Rz) : Prop := PS X st (fun _ σ H => tRS X.K T W r σ H)
def RB (X : Cx) (T : Tab) (W : WX) (st : List Stmt) (r : Rz) : Prop := PSs X st (fun _ σ H => tRS X.K T W r σ H)
theorem psOr {X : Cx} {st : Stmt} {t t' : TS} (h : PS X st t) (h' : PS X st t') : PS X st (fun D σ H => t D σ H ∨ t' D σ H) := ⟨fun pins s σ H D I q => q.elim (h.run pins s σ H D I) (h'.run pins s σ H D I)⟩
theorem pssOr {X : Cx} {st : List Stmt} {t t' : TS} (h : PSs X st t) (h' : PSs X st t') : PSs X st (fun D σ H => t D σ H ∨ t' D σ H) := ⟨fun pins s σ H D I q => q.elim (h.run pins s σ H D I) (h'.run pins s σ H D I)⟩
section
variable {K : PySem.W.Frag} {T : Tab} {F H F1 H1 : Hp} {σ σ1 : L2.St} {env e1 : Env} {ω ω1 : Own} {W : WX} {r : Rz} {x : Exn} {cls : Value} {d : Option Addr} {F' : Hp}
theorem exnAt.px (p : PX T F H F1 H1) (h : exnAt K H1 F' x cls d) : exnAt K H F' x cls d := by
  obtain ⟨h1, dd, fs, h2, h3, h4⟩ := h
  exact ⟨h1, dd, fs, h2, p.free h3, h4⟩
theorem exnAt.ex (p : EX F H ω F1 H1 ω1) (h : exnAt K H1 F' x cls d) : exnAt K H F' x cls d := by
  obtain ⟨h1, dd, fs, h2, h3, h4⟩ := h
  refine ⟨h1, dd, fs, h2, ?_, h4⟩
  cases e : H dd with
  | none => rfl
  | some u => exact absurd h3 (p.trk dd (by rw [e]; exact fun z => by cases z))
end
def rNo : Rz := fun _ => none
def rSeq (s : Sm) (r u : Rz) : Rz := fun env => match r env with
  | some x => some x
  | none => (s env).bind fun o => match o with
    | .nx e => u e
    | _ => none
def rIf (t : Tm) (a b : Rz) : Rz := fun env => (t env).bind fun c => if c = true then a env else b env
def rloop (g : Gm) (s : Sm) (r : Rz) : List D → Env → Option Exn
  | [], _ => none
  | d :: ds, env => (g (.frz d) env).bind fun e => match r e with
    | some x => some x
    | none => (s e).bind fun o => match o with
      | .nx e' => rloop g s r ds e'
      | .ct e' => rloop g s r ds e'
      | _ => none
def rFor (it : Im) (g : Gm) (s : Sm) (r : Rz) : Rz := fun env => (it env).bind fun ds => rloop g s r ds env

section
variable {X : Cx} {T : Tab} {W : WX} {st : Stmt} {rest : List Stmt} {s : Sm} {r u : Rz} {m : Em} {t : Tm} {e c a : Expr} {es : List Expr} {pos : Pos}
theorem rs_no : RS X T W st rNo := ⟨fun pins s σ H Q I q => by
  obtain ⟨F, env, ω, sa, x, e, k⟩ := q
  cases e⟩
theorem rb_no : RB X T W rest rNo := ⟨fun pins s σ H Q I q => by
  obtain ⟨F, env, ω, sa, x, e, k⟩ := q
  cases e⟩
theorem rb_cons (h1 : SS X T st s) (h2 : RS X T W st r) (h3 : RB X T W rest u) : RB X T W (st :: rest) (rSeq s r u) := pssI (pss_cons (psOr h1 h2) h3) fun D σ H q => by
  obtain ⟨F, env, ω, sa, x, e, k⟩ := q
  unfold rSeq at e
  split at e
  · rename_i y q
    cases e
    exact .inr ⟨F, env, ω, sa, x, q, k⟩
  · obtain ⟨o, e1, e2⟩ := Option.bind_eq_some_iff.mp e
    cases o with
    | nx e3 => exact .inl ⟨F, env, ω, sa, _, e1, fun F1 H1 σ1 ω1 g => ⟨F1, e3, ω1, g.sta, x, e2, fun cls d F' H' σ' env' ω' g' z => k cls d F' H' σ' env' ω' (g.trans g') (z.ex g.ex)⟩⟩
    | bk e3 => cases e2
    | ct e3 => cases e2
    | ret o e3 => cases e2
theorem rb_one (h : RS X T W st r) : RB X T W [st] r := pss_one h
theorem rs_if {a b : List Stmt} (hc : BT X T c t) (ha : RB X T W a r) (hb : RB X T W b u) : RS X T W (.If c a b pos) (rIf t r u) := psI (ps_if hc ha hb) fun D σ H q => by
  obtain ⟨F, env, ω, sa, x, e, k⟩ := q
  obtain ⟨y, e1, e⟩ := Option.bind_eq_some_iff.mp e
  refine ⟨F, env, ω, sa, y, e1, fun F1 H1 p => ?_⟩
  have g := Go.px sa p
  cases y with
  | true => rw [if_pos rfl] at e; exact iteT ⟨F1, env, ω, sa.px p, x, e, fun cls d F' H' σ' env' ω' g' z => k cls d F' H' σ' env' ω' (g.trans g') (z.ex g.ex)⟩
  | false => rw [if_neg Bool.false_ne_true] at e; exact iteF ⟨F1, env, ω, sa.px p, x, e, fun cls d F' H' σ' env' ω' g' z => k cls d F' H' σ' env' ω' (g.trans g') (z.ex g.ex)⟩
/-- a loop whose body may raise -/
theorem rs_for {g : Gm} {it : Im} {tg iter : Expr} {body : List Stmt} {ts : List Nat} (hp : PassesOwn (model X.prog X.w) X.A X.env X.xe) (hc : X.calm = true) (hi : IT X T tg iter it) (hg : GS X T tg ts g) (hb : SB X T body s) (hr : RB X T W body r) (hs : ∀ x, foldedSetIterable iter X.env x = pure x := by intro _; rfl) :
    RS X T W (.For tg iter body [] pos) (rFor it g s r) := psI (ps_for hp hc hi hg (pssOr hb hr) hs) fun D σ H q => by
  obtain ⟨F, env, ω, sa, x, e, k⟩ := q
  obtain ⟨ds, e1, e2⟩ := Option.bind_eq_some_iff.mp e
  refine ⟨F, env, ω, sa, ds, e1, fun J F0 H0 p0 w => ?_⟩
  have g0 := Go.px sa p0
  have sa0 := sa.px p0
  refine ⟨fun i m σ' H' => m = ds.length - i ∧ i ≤ ds.length ∧ ∃ F' env' ω', Go X.K T F0 H0 σ env ω F' H' σ' env' ω' ∧ rloop g s r (ds.drop i) env' = some x, ⟨ds.length, by simp, Nat.zero_le _, F0, env, ω, .refl sa0, e2⟩, ?_⟩
  rintro i m σ1 H1 ⟨rfl, hi', F1, env1, ω1, g1, l1⟩
  by_cases hlt : i < ds.length
  · refine .inr ⟨w.go i H1 hlt ((SubN.of g1.ex.f).trans g1.sta.gl.sub), fun σ2 H2 => i + 1 ≤ ds.length ∧ ∃ F' env' ω', Go X.K T F0 H0 σ env ω F' H2 σ2 env' ω' ∧ rloop g s r (ds.drop (i + 1)) env' = some x,
      fun σ2 H2 ⟨h1, h2⟩ => ⟨ds.length - (i + 1), by omega, rfl, h1, h2⟩, fun y0 H2 y => ?_⟩
    obtain ⟨d, F2, h1, p2, hv⟩ := w.turn g1.sta.gl g1.ex.f ((SubN.of g1.ex.f).trans g1.sta.gl.sub) hlt y
    have hd : ds.drop i = d :: ds.drop (i + 1) := by
      rw [List.drop_eq_getElem_cons hlt]
      congr 1
      exact (List.getElem?_eq_some_iff.mp h1).2
    rw [hd] at l1
    obtain ⟨e3, l2, l3⟩ := Option.bind_eq_some_iff.mp l1
    have g2 := g1.trans (.px g1.sta p2)
    refine ⟨F2, env1, ω1, .frz d, g2.sta, .frz hv, e3, l2, fun σ3 ω3 g3 _ => ?_⟩
    have g4 := g2.trans g3
    split at l3
    · rename_i y q
      cases l3
      exact .inr ⟨F2, e3, ω3, g3.sta, x, q, fun cls d' F' H' σ' env' ω' g' z => k cls d' F' H' σ' env' ω' ((g0.trans g4).trans g') (z.ex (g0.trans g4).ex)⟩
    · obtain ⟨o4, l4, l5⟩ := Option.bind_eq_some_iff.mp l3
      refine .inl ⟨F2, e3, ω3, g3.sta, o4, l4, ?_⟩
      cases o4 with
      | nx e5 => exact fun F5 H5 σ5 ω5 g5 => ⟨hlt, F5, e5, ω5, g4.trans g5, l5⟩
      | ct e5 => exact fun F5 H5 σ5 ω5 g5 => ⟨hlt, F5, e5, ω5, g4.trans g5, l5⟩
      | bk e5 => cases l5
      | ret o e5 => cases l5
  · have e : i = ds.length := by omega
    subst e
    rw [List.drop_length] at l1
    cases l1
end
abbrev Fx := List SV → Option Exn
def fnX (np n : Nat) (r : Rz) : Fx := fun svs => if svs.length = np ∧ svs.all argOk = true then r (svs ++ List.replicate (n - np) .dead) else none
def spX (K : PySem.W.Frag) (T : Tab) (np : Nat) (f : Fx) : Sp := fun vs H _ E => ∃ F svs ω x, vs.length = np ∧ svs.all argOk = true ∧ Sta K T F H (vs.map some) svs ω ∧ f svs = some x ∧
  ∀ cls d F' H' ω', EX F H ω F' H' ω' → Gl T F' H' → exnAt K H F' x cls d → E cls d H'
section
variable {P : Program} {w : World} {K : PySem.W.Frag} {mg : Str → Option Value} {base : Heap} {T : Tab}
theorem bodyX_ok {N ps : List Str} {scope : Scope} {H : Hp} {vs : List V} {Q : VK} {E : XK} {rz : Rz}
    (S : FnScope N ps scope) (hsp : spX K T ps.length (fnX ps.length N.length rz) vs H Q E) : tRS K T (fun cls d _ H' => E cls d H') rz (L2.start N vs) H := by
  obtain ⟨F, svs, ω, x, hl, ha, sa, e, k⟩ := hsp
  have hn : vs.length ≤ N.length := by
    have := congrArg List.length S.pre
    rw [List.length_take] at this
    omega
  have hl2 : svs.length = vs.length := by have := sa.len; rw [List.length_map] at this; exact this.symm
  unfold fnX at e
  rw [if_pos ⟨by omega, ha⟩] at e
  refine ⟨F, svs ++ List.replicate (N.length - vs.length) .dead, ω, sta_start sa ha hn, x, ?_, fun cls d F' H' σ' env' ω' g z => k cls d F' H' ω' g.ex g.sta.gl z⟩
  rw [hl]
  exact e
/-- THE RULE for a def that raises -/
theorem fnX_ok {x qual : Str} {st : Stmt} {f : Addr} {fd : FuncData} {N ps : List Str} {k : Nat} {rz : Rz} (D : FunD K x qual (defArgs st) (defBody st) (defScope st) [] [] f fd) (S : FnScope N ps (defScope st))
    (hb : ∀ (cdv : Value) (A : Around) (outer : List PySem.Env) (s : Shared) (H : Hp) (E : XK), Room k (A.deeper (envOfC qual (defScope st) s.heap.objs.size f cdv)) → Takes (cxOf (L2.CX P w) P w K mg base N qual (defScope st) f cdv A outer s H E) (fun cls d _ H' => E cls d H') →
      PassesOwn (model P w) (A.deeper (envOfC qual (defScope st) s.heap.objs.size f cdv)) (envOfC qual (defScope st) s.heap.objs.size f cdv) (cxOf (L2.CX P w) P w K mg base N qual (defScope st) f cdv A outer s H E).xe →
      RB (cxOf (L2.CX P w) P w K mg base N qual (defScope st) f cdv A outer s H E) T (fun cls d _ H' => E cls d H') (defBody st) rz) :
    FnOk P w K mg base (L2.CX P w) (k + 1) f fd ps (spX K T ps.length (fnX ps.length N.length rz)) := by
  refine D.ok S (fun vs H Q E h => ?_) fun cdv A outer s H vs Q E hr hsp => ⟨_, hb cdv A outer s H E hr (takes_of (X := cxOf (L2.CX P w) P w K mg base N qual (defScope st) f cdv A outer s H E) rfl rfl rfl rfl) (passes_of (X := cxOf (L2.CX P w) P w K mg base N qual (defScope st) f cdv A outer s H E) rfl), bodyX_ok (Q := Q) S hsp⟩
  obtain ⟨_, _, _, _, h, _⟩ := h
  exact h
end
def callX (f : Fx) (os : List O) : Option Exn := (f (os.map fun o => .frz o.toD)).bind fun x => if D.imms (x.2.map Prod.snd) = true then some x else none
section
variable {K : PySem.W.Frag} {T : Tab} {F H : Hp}
theorem spX_pure {np : Nat} {f : Fx} {vs : List V} {os : List O} {x : Exn} {Q : VK} {E : XK} (g : Gl T F H) (h : Paired (VwO K F H) vs os) (hn : os.length = np) (e : callX f os = some x)
    (k : ∀ cls d F' H', PX T F H F' H' → exnAt K H F' x cls d → E cls d H') : spX K T np f vs H Q E := by
  obtain ⟨x', e1, e2⟩ := Option.bind_eq_some_iff.mp e
  have hl : vs.length = os.length := Paired.length h
  have em : (os.map fun o => SV.frz o.toD) = (os.map O.toD).map SV.frz := by rw [List.map_map]; rfl
  rw [em] at e1
  split at e2
  · rename_i c
    cases e2
    refine ⟨allF H, _, noOwn, x, by omega, all_frz _, sta_args (gl_all g) (prd_vw g h).allF, e1, fun cls d F' H' ω' ex gl' z => ?_⟩
    obtain ⟨px, ht, hnew⟩ := newF_px g ex gl'
    obtain ⟨h1, dd, fs, h2, h3, h4, h5, h6⟩ := z
    refine k cls d _ H' px ⟨h1, dd, fs, h2, h3, ?_, h5, h6.immv ht c⟩
    unfold newF
    rw [g.free h3, h3]
    exact h4
  · cases e2
end
section
variable {X : Cx} {T : Tab} {W : WX} {k : Nat} {f : Addr} {fd : FuncData} {ps : List Str} {fx : Fx} {x : Str} {p pos : Pos} {e : Expr} {es : List Expr} {m : Es} {np : Nat} {r : Rz}
def rCall (np : Nat) (fx : Fx) (m : Es) : Rz := fun env => (m env).bind fun os => if os.length = np then callX fx os else none
theorem re_call (F : FnOk X.prog X.w X.K X.mg X.base (L2.CX X.prog X.w) k f fd ps (spX X.K T np fx)) (tk : Takes X W) (hr : Room k X.A) (hg : L2.Gl X x) (hm : X.mg x = some (.ref f)) (hk : PySem.W.keepIn X.K (.ref f) = true) (hb : Binds X.K fd ps [])
    (ha : BA X T (e :: es) m) (hdb : (x == ("__debug__" : Str)) = false := by decide) (he : starEach (e :: es) X.env = (false, eval e X.env) :: starEach es X.env := by rfl) (hpl : (backTo pos (starEach es X.env)).any (·.1) = false := by rfl) :
    RE X T W (.Call (.Name x p) (e :: es) [] pos) (rCall np fx m) :=
  peI (pe_callS (E := WE W) F hr hg hm hk hb (passAt tk) ha hdb he hpl) fun σ H Q q => by
    obtain ⟨F, env, ω, sa, x, e, k⟩ := q
    obtain ⟨os, e1, e2⟩ := Option.bind_eq_some_iff.mp e
    split at e2
    · rename_i hn
      exact ⟨F, env, ω, sa, os, e1, fun vs F1 H1 p1 h => spX_pure p1.gl h hn e2 fun cls d F' H' p2 z => k cls d F' H' (p1.trans p2) (z.px p1)⟩
    · cases e2
end
end VL
namespace VL
open PySem PySem.Spec PyProof.Rows L2
theorem oexB_ok {K : PySem.W.Frag} {C : Addr} (h : oexB K C = true) : ∃ nm q N bs bm sn sub ab col dd k0 k1 k2 k3 k5, K.lookup C = some (excClassObj nm q C N bs bm true sn sub ab col dd k0 k1 k2 k3 k5 "ValueError.__new__") ∧ PySem.HandSPX.refsVE bm = true := by
  unfold oexB at h
  split at h
  · rename_i dd cd sl look
    split at h
    · rename_i c0 bm s0 s1 s2 s3 nn s5 em es
      simp only [Bool.and_eq_true, beq_iff_eq, Bool.not_eq_true'] at h
      obtain ⟨⟨e0, e1⟩, ⟨e2, e3⟩, e4⟩ := h
      subst e0
      subst e1
      obtain ⟨cn, cb, cm, cns, cq, cdict, csn, csub, cab, ccol, cdel⟩ := cd
      have em' : cm = .ref c0 :: bm := em
      have e2' : cdel = false := e2
      have e3' : cdict = true := e3
      subst em' e2' e3'
      obtain ⟨ll⟩ := sl
      have es' : ll = [s0, s1, s2, s3, some (.builtin "ValueError.__new__"), s5] := es
      subst es'
      exact ⟨cn, cq, cns, cb, bm, csn, csub, cab, ccol, dd, s0, s1, s2, s3, s5, look, e4⟩
    · cases h
  · cases h
structure Ec (K : PySem.W.Frag) (C : Addr) : Prop where
  ox : OexC K C
  hg : PySem.W.findIn K (.ref C) "__getattribute__" = some (some (.builtin "BaseException.__getattribute__"))
  hk : PySem.W.findIn K (.ref C) "__getattr__" = some none
  hd : PySem.W.hasDictIn K C = true
  ha : PySem.W.findIn K (.ref C) "__class__" = some (some (.builtin "object.__class__"))
  hm : PySem.W.mroIn K C (.type "object") = some true
theorem ecB_ok {K : PySem.W.Frag} {C : Addr} (h : ecB K C = true) : Ec K C := by
  unfold ecB at h
  simp only [Bool.and_eq_true, decide_eq_true_eq] at h
  obtain ⟨h0, h1, h2, h3, h4, h5, h6, h7, h8, h9⟩ := h
  exact ⟨⟨oexB_ok h0, h1, h2, h3, h4⟩, h5, h6, h7, h8, h9⟩
/-- the base class, whose __init__ is the built-in one -/
structure Eb (K : PySem.W.Frag) (M : Addr) : Prop where
  rd : PySem.W.readsIn K M (.type "type") = true
  ga : PySem.W.specialIn K (.ref M) "__getattribute__" = some (some (.builtin "type.__getattribute__"))
  at_ : PySem.W.findCls K (.ref M) (.type "type") "__init__" = some (.val (.builtin "ValueError.__init__"))
theorem ebB_ok {K : PySem.W.Frag} {M : Addr} (h : ebB K M = true) : Eb K M := by
  unfold ebB at h
  obtain ⟨h0, h⟩ := Bool.and_eq_true_iff.mp h
  obtain ⟨h1, h⟩ := Bool.and_eq_true_iff.mp h
  refine ⟨h0, of_decide_eq_true h1, ?_⟩
  split at h
  · rename_i b e
    rw [e, of_decide_eq_true h]
  · cases h
section
variable {X : Cx} {e : Expr} {es : List Expr} {ta : TA} {x : Str} {M : Addr} {p1 p2 pos : Pos}
/-- Base.__init__(self, ..) -/
theorem pe_binit {pl : Sem Bool} (c : Eb X.K M) (hg : L2.Gl X x) (hm : X.mg x = some (.ref M)) (ha : PA X (e :: es) ta)
    (hc : eval (.Call (.Attribute (.Name x p1) "__init__" p2) (e :: es) [] pos) X.env = (do
      let cv ← eval (.Name x p1) X.env
      standAt p2.atName
      let (g, fst) ← holding [cv] (getMethod cv "__init__" pl)
      callWith pos g fst (backTo pos (starEach (e :: es) X.env)) (backToKw pos (keywordEach [] X.env))) := by rfl)
    (hdb : (x == ("__debug__" : Str)) = false := by decide)
    (he : starEach (e :: es) X.env = (false, eval e X.env) :: starEach es X.env := by rfl) (hpl : (backTo pos (starEach es X.env)).any (·.1) = false := by rfl) :
    PE X (.Call (.Attribute (.Name x p1) "__init__" p2) (e :: es) [] pos) (tVeI X.K ta) := by
  refine ⟨fun pins s σ H Q I q => ?_⟩
  refine PySem.W.methodCall_KW (ld_glob I hg hm ?_ hdb) hc
  refine PySem.W.method_cls I.kIn c.ga (PySem.W.cls_value I.kIn c.rd c.at_ rfl ?_)
  show wpAny _ _ (callWith pos (Value.builtin "ValueError.__init__") [] (backTo pos (starEach (e :: es) X.env)) []) _ _ _
  refine PyProof.Rows.callWith_method1 (thn (ha.run pos pins _ σ H _ (I.tok _) q) fun us s1 z => ?_) he hpl
  obtain ⟨vs, H1, I1, rr, a, C, ws, ev, hl, oc, ea, k⟩ := z
  subst ev
  cases rr with
  | @cons _ u0 _ ur ra rw' =>
    obtain rfl : u0 = Value.ref a := ra
    exact oinit_ok oc I1 ea (by rw [← Paired.length rw', sizeLine_eq]; omega) fun s' J => ⟨.non, H1, J, rfl, k⟩
end
/-- what __init__ does: the arguments are stored in the fields, one behind another -/
def spIn (K : PySem.W.Frag) (fds : List Str) : Sp := fun vs H Q _ => ∃ (a C : Addr) (ws : List V), vs = .ref a :: ws ∧ OexC K C ∧ (∀ f ∈ fds, PySem.W.findIn K (.ref C) f = some none) ∧ ws.length = fds.length ∧ H a = some (exo a C none) ∧
  ∀ (d : Addr) (H' : Hp), H d = none → d ≠ a → H' a = some (exo a C (some d)) → H' d = some (exd d (fds.zip ws).reverse) → (∀ b, b ≠ a → b ≠ d → H' b = H b) → Q .non H'
section
variable {X : Cx} {M : Addr} {b txt f1 f2 : Str} {j : Nat} {p1 p2 p3 p4 p5 p6 q1 q2 q3 q4 r1 r2 r3 r4 : Pos}
def tIn2 (K : PySem.W.Frag) (f1 f2 : Str) : TS := fun D σ H => ∃ (a C : Addr) (y1 y2 : V), σ[0]? = some (some (.ref a)) ∧ σ[1]? = some (some y1) ∧ σ[2]? = some (some y2) ∧ OexC K C ∧ PySem.W.findIn K (.ref C) f1 = some none ∧ PySem.W.findIn K (.ref C) f2 = some none ∧
  H a = some (exo a C none) ∧ ∀ (d : Addr) (H' : Hp), H d = none → d ≠ a → H' a = some (exo a C (some d)) → H' d = some (exd d [(f2, y2), (f1, y1)]) → (∀ b, b ≠ a → b ≠ d → H' b = H b) → D.nx σ H'
theorem pss_in2 (n0 : X.N[0]? = some ("self" : Str)) (v0 : Vis X.env.scope ("self" : Str)) (n1 : X.N[1]? = some f1) (v1 : Vis X.env.scope f1) (n2 : X.N[2]? = some f2) (v2 : Vis X.env.scope f2)
    (d1 : (f1 == ("__debug__" : Str)) = false := by decide) (c1 : (f1 == ("__classdict__" : Str)) = false := by decide) (d2 : (f2 == ("__debug__" : Str)) = false := by decide) (c2 : (f2 == ("__classdict__" : Str)) = false := by decide)
    (hx : PE X (.Call (.Attribute (.Name b p1) "__init__" p2) [.Name "self" p3, .Constant (.str txt) j p4] [] p5) (tVeI X.K (tCons (tVar 0) (tCons (tC (.str txt)) tNil))))
    (hs1 : swapsWith (.Call (.Attribute (.Name b p1) "__init__" p2) [.Name "self" p3, .Constant (.str txt) j p4] [] p5) none p6.line X.env = pure false) :
    PSs X [.Expr (.Call (.Attribute (.Name b p1) "__init__" p2) [.Name "self" p3, .Constant (.str txt) j p4] [] p5) p6, .Assign [.Attribute (.Name "self" q1) f1 q2] (.Name f1 q3) q4, .Assign [.Attribute (.Name "self" r1) f2 r2] (.Name f2 r3) r4] (tIn2 X.K f1 f2) :=
  pssI (pss_cons (ps_expr hx hs1) (pss_cons (ps_ost (pe_var n0 v0) (pe_var n1 v1 d1 c1)) (pss_one (ps_ost (pe_var n0 v0) (pe_var n2 v2 d2 c2))))) fun D σ H q => by
    obtain ⟨a, C, y1, y2, s0, s1, s2, oc, h1, h2, ha, k⟩ := q
    refine ⟨.ref a, s0, a, C, [.str txt], rfl, Nat.le_of_lt (by simp), oc, ha, y1, s1, .ref a, s0, a, C, rfl, oc, h1, .inl ⟨ha, fun d hd ne => ?_⟩⟩
    refine ⟨y2, s2, .ref a, s0, a, C, rfl, oc, h2, .inr ⟨d, [(f1, y1)], upd_same, by rw [upd_ne ne]; exact upd_same, by simp, ?_⟩⟩
    exact k d _ hd ne (by rw [upd_ne (Ne.symm ne)]; exact upd_same) upd_same fun z n1 n2 => by rw [upd_ne n2, upd_ne n1, upd_ne n2]
end
end VL
namespace VL
open PySem PySem.Spec PyProof.Rows L2
section
variable {P : Program} {w : World} {K : PySem.W.Frag} {mg : Str → Option Value} {base : Heap} {CX : CXT}
theorem in2_ok {x qual f1 f2 : Str} {st : Stmt} {f : Addr} {fd : FuncData} {k : Nat} (D : FunD K x qual (defArgs st) (defBody st) (defScope st) [] [] f fd) (S : FnScope ["self", f1, f2] ["self", f1, f2] (defScope st))
    (hb : ∀ (cdv : Value) (A : Around) (outer : List PySem.Env) (s : Shared) (H : Hp) (E : XK), PSs (cxOf CX P w K mg base ["self", f1, f2] qual (defScope st) f cdv A outer s H E) (defBody st) (tIn2 K f1 f2)) :
    FnOk P w K mg base CX (k + 1) f fd ["self", f1, f2] (spIn K [f1, f2]) := by
  refine D.ok S (fun vs H Q E h => ?_) fun cdv A outer s H vs Q E hr hsp => ⟨_, hb cdv A outer s H E, ?_⟩
  · obtain ⟨a, C, ws, ev, _, _, hl, _⟩ := h
    rw [ev, List.length_cons, hl]; rfl
  · obtain ⟨a, C, ws, ev, oc, hf, hl, ha, k⟩ := hsp
    obtain ⟨y1, y2, rfl⟩ : ∃ y1 y2, ws = [y1, y2] := by
      match ws, hl with
      | [y1, y2], _ => exact ⟨y1, y2, rfl⟩
    subst ev
    exact ⟨a, C, y1, y2, rfl, rfl, rfl, oc, hf f1 (by simp), hf f2 (by simp), ha, fun d H' hd ne h1 h2 h3 => k d H' hd ne h1 h2 h3⟩
end
def rMk (C : Str) (fds : List Str) (m : Es) : Rz := fun env => (m env).bind fun os => if os.length = fds.length ∧ os.all isF = true then some (C, (fds.zip (os.map O.toD)).reverse) else none
theorem zip_fst {α β : Type} : ∀ {xs : List α} {ys : List β}, ys.length = xs.length → (xs.zip ys).map Prod.fst = xs
  | [], [], _ => rfl
  | x :: xs, y :: ys, h => by rw [List.zip_cons_cons, List.map_cons, zip_fst (by simpa using h)]
  | [], _ :: _, h => by simp at h
  | _ :: _, [], h => by simp at h
theorem zip_snd {α β : Type} : ∀ {xs : List α} {ys : List β}, ys.length = xs.length → (xs.zip ys).map Prod.snd = ys
  | [], [], _ => rfl
  | x :: xs, y :: ys, h => by rw [List.zip_cons_cons, List.map_cons, zip_snd (by simpa using h)]
  | [], _ :: _, h => by simp at h
  | _ :: _, [], h => by simp at h
section
variable {X : Cx} {T : Tab} {W : WX} {C : Str} {fds : List Str} {m : Es} {k : Nat} {fI : Addr} {fd : FuncData} {ps : List Str} {e : Expr} {es : List Expr} {p pos pos' : Pos}
theorem rs_raise (hc : X.calm = true) (tk : Takes X W) (ec : Ec X.K (He.ga X.K C)) (hf : ∀ f ∈ fds, PySem.W.findIn X.K (.ref (He.ga X.K C)) f = some none) (iC : PySem.W.findIn X.K (.ref (He.ga X.K C)) "__init__" = some (some (.ref fI)))
    (tI : PySem.W.typeIn X.K (.ref fI) = some (.type "function")) (F1 : FnOk X.prog X.w X.K X.mg X.base CX0 k fI fd ps (spIn X.K fds)) (hr : Room (k + 1) X.A) (hb : Binds X.K fd ps []) (hg : L2.Gl X C) (hm : X.mg C = some (.ref (He.ga X.K C))) (ha : BA X T (e :: es) m)
    (h9 : fds.length ≤ 900 := by decide) (hdb : (C == ("__debug__" : Str)) = false := by decide) (he : starEach (e :: es) X.env = (false, eval e X.env) :: starEach es X.env := by rfl) (hpl : (backTo pos (starEach es X.env)).any (·.1) = false := by rfl) :
    RS X T W (.Raise (some (.Call (.Name C p) (e :: es) [] pos)) none pos') (rMk C fds m) :=
  psI (ps_raise hc tk (pmk_oex ec.ox iC tI F1 hr hb .nil pass0 hg hm ha hdb he hpl)) fun D σ H q => by
    obtain ⟨F, env, ω, sa, x, e, k⟩ := q
    obtain ⟨os, e1, e2⟩ := Option.bind_eq_some_iff.mp e
    split at e2
    · rename_i c
      obtain ⟨c1, c2⟩ := c
      cases e2
      refine ⟨F, env, ω, sa, os, e1, fun vs F1 H1 p h => ?_⟩
      have hl : vs.length = fds.length := (Paired.length h).trans c1
      have hv := prd_frz p.gl h c2
      refine ⟨by omega, fun a na => ⟨a, He.ga X.K C, vs, by rw [List.append_nil], ec.ox, hf, hl, upd_same, fun d H' hd ne h1 h2 h3 => ?_⟩⟩
      have hd1 : H1 d = none := by rw [upd_ne ne] at hd; exact hd
      refine ⟨rfl, d, _, h1, h2, hd1, ?_⟩
      have eq : upd (del H' a) d (.xd (fds.zip vs).reverse) = upd H1 d (.xd (fds.zip vs).reverse) := by
        funext b
        by_cases b1 : b = d
        · rw [b1, upd_same, upd_same]
        · rw [upd_ne b1, upd_ne b1]
          by_cases b2 : b = a
          · rw [b2, del_same, na]
          · rw [del_ne b2, h3 b b2 b1, upd_ne b2]
      rw [eq]
      have px := p.trans (PX.laid p.gl (u := .xd (fds.zip vs).reverse) hd1 (fun ps z => by cases z) (.inr trivial))
      refine k _ _ _ _ σ env ω (.px sa px) ⟨rfl, d, _, rfl, p.free hd1, upd_same, ?_, ?_⟩
      · show ((fds.zip vs).reverse).map Prod.fst = ((fds.zip (os.map O.toD)).reverse).map Prod.fst
        rw [List.map_reverse, List.map_reverse, zip_fst hl, zip_fst (by rw [List.length_map]; exact c1)]
      · show VwL _ _ (((fds.zip vs).reverse).map Prod.snd) (((fds.zip (os.map O.toD)).reverse).map Prod.snd)
        rw [List.map_reverse, List.map_reverse, zip_snd hl, zip_snd (by rw [List.length_map]; exact c1)]
        refine VwL.rev (hv.sub (.of fun b u z => ?_))
        rw [upd_ne (ne_of_none z (p.gl.free hd1))]
        exact z
    · cases e2
end
end VL
namespace VL
open PySem PySem.Spec PyProof.Rows L2
theorem exv_ok {P : Program} {w : World} {H : Hp} {h : Heap} {a : Addr} {cls : Value} {d : Option Addr} {oe : Obj} {vs : Array Value} (e : h.get? a = some oe) (z : Zc cls d oe) (f : oe.data = .fields vs) : ObjOk P w H h a (exv a cls d) :=
  ⟨⟨oe, vs, e, z.1, z.2, f⟩, ⟨oe, e⟩, fun g g' q k => by
    obtain ⟨o1, v1, q1, q2⟩ := q
    exact ⟨o1, v1, k _ q1, q2⟩⟩
/-- an object that stands is tracked -/
theorem hok_track {P : Program} {w : World} {H : Hp} {h : Heap} {a : Addr} {o : HO} (x : HOk P w H h) (hn : H a = none) (new : ObjOk P w (upd H a o) h a o) : HOk P w (upd H a o) h := by
  intro c u q
  have oth : ∀ {c : Addr} {u : HO}, H c = some u → upd H a o c = some u := fun {c u} r => by rw [upd_ne (ne_of_none r hn)]; exact r
  rcases Classical.em (c = a) with z | z
  · rw [z, upd_same] at q
    rw [z, ← Option.some.inj q]
    exact new
  · rw [upd_ne z] at q
    exact (x c u q).stay (fun _ _ _ r => r) (fun _ r => oth r) (fun _ _ r => oth r)
section
variable {X : Cx} {pins : List (Addr × Obj)} {σ : L2.St} {H : Hp} {s s' sI : Shared} {B : Heap} {a : Addr} {cls : Value} {d : Option Addr}
theorem suite0 (I : Inv X pins σ H s) (a : Addr) : Inv (X.suite a (X.pn ++ pins)) [] σ H s :=
  ⟨I.ok.suite _ _, I.os, I.bare, I.base, I.loc, I.cell, I.free, I.freeC, fun q hq => I.pin q (by simpa using hq), I.hok, I.len⟩
theorem unsuite0 {pn' : List (Addr × Obj)} (I : Inv (X.suite a (X.pn ++ pins)) pn' σ H s) (k : X.Ok) : Inv X pins σ H s :=
  ⟨k, I.os, I.bare, I.base, I.loc, I.cell, I.free, I.freeC, fun q hq => I.pin q (List.mem_append_left pn' hq), I.hok, I.len⟩
/-- back on the ground, the exception tracked -/
theorem landT (I : Inv X pins σ H sI) (nb : ∀ b o, sI.heap.get? b = some o → b ∉ frs X.stack → B.get? b = some o) (hB : B.get? a = none) (hfr : a ∉ frs X.stack) (hn : H a = none) {oe : Obj} {vs : Array Value} (e : s'.heap.get? a = some oe) (z : Zc cls d oe) (f : oe.data = .fields vs)
    (st : B.StaysIn s'.heap) (up : sI.heap.UpToSlots s'.heap) (os : s'.os = sI.os) (ag : AllBare s'.gens) : Inv X pins σ (upd H a (exv a cls d)) s' := by
  have na : ∀ {b : Addr} {o : Obj}, sI.heap.get? b = some o → b ≠ a := fun {b o} q z => by
    subst z
    have := nb b o q hfr
    rw [hB] at this; cases this
  have frk : ∀ (b : Addr) (o : Obj), b ∈ frs X.stack → sI.heap.get? b = some o → ∃ sl, s'.heap.get? b = some { o with slots := sl } := fun b o hb q => by
    obtain ⟨_, o1, q1, hd⟩ := I.stack.mem hb
    rw [q] at q1; cases q1
    exact up b o q hd
  have T := I.call (ch := []) (h' := s'.heap) (g' := s'.gens) (t' := s'.toks) (d' := s'.drawn) (H' := upd H a (exv a cls d))
    { keep := fun b o q _ hb _ => st b o (nb b o q hb)
      slot := fun b o q _ hb _ => frk b o hb q
      free := fun b o q n _ => by rw [upd_ne (na q)]; exact n
      there := fun b o q _ => (Classical.em (b ∈ frs X.stack)).elim (fun hb => let ⟨sl, r⟩ := frk b o hb q; ⟨_, r⟩) fun hb => ⟨o, st b o (nb b o q hb)⟩
      tups := fun b xs q => by rw [upd_ne (ne_of_none q hn)]; exact q
      frzs := fun b o u q => by rw [upd_ne (ne_of_none q hn)]; exact q
      tbls := fun b ps q => ⟨#[], by rw [upd_ne (ne_of_none q hn), q]; simp⟩ }
    (hok_track ((I.inGround nb).kept st) hn (exv_ok e z f)) ag (fun _ q => nomatch q)
  obtain ⟨b1, b2, b3, b4, b5⟩ := s'
  have q5 : b5 = sI.os := os
  subst q5
  exact T
end
/-- what the clause asks of an exception of the body: it is caught; slot i is its name's -/
def wT (K : PySem.W.Frag) (c : Value) (i : Nat) (ts : TS) (D : Ends) : WX := fun cls d σ H =>
  PySem.W.exmOne K cls c = some true ∧ ∀ a, H a = none → ts { nx := fun σ' H' => D.nx (σ'.set i none) H', rt := D.rt, bk := fun σ' H' => D.bk (σ'.set i none) H', ct := fun σ' H' => D.ct (σ'.set i none) H' } (σ.set i (some (.ref a))) (upd H a (exv a cls d))
section
variable {X : Cx} {x n : Str} {c : Value} {i : Nat} {body suite : List Stmt} {b₀ : Stmt} {np pos pos' : Pos} {tb : WX → TS} {ts : TS}
theorem ps_tryT (hs : X.stack = X.env :: X.outer) (hf : X.env.frame = some X.env.locals) (hN : X.N.Nodup) (hi : X.N[i]? = some n) (hln : X.env.kindOf n = some .local) (hc : Names X x c)
    (hb : ∀ (W : WX) (pn : List (Addr × Obj)) (xe : Value → Shared → Prop), Takes (X.tr pn xe) W → PassesOwn (model X.prog X.w) X.A X.env xe → PSs (X.tr pn xe) body (tb W))
    (hsu : ∀ (a : Addr) (pn : List (Addr × Obj)), PSs (X.suite a pn) (b₀ :: suite) ts) :
    PS X (.Try body [.ExceptHandler (some (.Name x np)) (some n) (b₀ :: suite) pos'] [] [] pos) (fun D σ H => tb (wT X.K c i ts D) D σ H) := by
  refine ⟨fun pins s σ H D I q => ?_⟩
  have k0 := I.ok
  have frq : X.A.frames = some (X.env :: X.outer) := k0.frames.trans (by rw [hs])
  have hloc : Loc X.env.scope n := .inl hln
  refine wpAny_Try_except ?_
  have run1 := (hb (wT X.K c i ts D) (X.pn ++ pins) (fun e s₁ => wpAny (model X.prog X.w) X.A (noteFrame e X.env) (fun _ s₂ => wpAny (model X.prog X.w) X.A (setFlight e none) (fun _ s₃ =>
    wpAny (model X.prog X.w) X.A (handleBy e X.env [.ExceptHandler (some (.Name x np)) (some n) (b₀ :: suite) pos']) (SP X pins D) X.xe s₃) X.xe s₂) X.xe s₁) ?caught PassesOwn.looking).run [] s σ H D (I.toTry _) q
  · refine wpAny_mono run1 (fun fl s1 z => ?_) (fun e s1 z => z)
    cases fl with
    | next => exact let ⟨σ1, H1, J, r⟩ := z; wpAny_execs_nil ⟨σ1, H1, J.ofTry k0, r⟩
    | brk => exact let ⟨σ1, H1, J, r⟩ := z; ⟨σ1, H1, J.ofTry k0, r⟩
    | cont => exact let ⟨σ1, H1, J, r⟩ := z; ⟨σ1, H1, J.ofTry k0, r⟩
    | ret u => exact let ⟨v, σ1, H1, J, rv, r⟩ := z; ⟨v, σ1, H1, J.ofTry k0, rv, r⟩
  case caught =>
    intro u s' xx
    obtain ⟨a, B, sI, pins1, σ1, H1, cls, d, rfl, J0, nb, up, sky, na, os, ag, hb1, hyes⟩ := xx
    have J : Inv X pins σ1 H1 sI := J0.ofTry k0
    have sky1 : Sky B (X.env :: X.outer) a (Zc cls d) X.env.locals s'.heap := hs ▸ sky
    show wpAny (model X.prog X.w) X.A (noteFrame (.ref a) X.env) _ _ _
    refine Sky.land Zc.steady frq hf sky1 fun h3 fl3 up3 => ?_
    have J3 : Inv X pins σ1 H1 { s' with heap := h3 } := J.landed nb fl3.1 (up.trans up3) os ag
    obtain ⟨oe3, vs3, e3, z3, d3⟩ := fl3.there
    have nfr : a ∉ frs X.stack := fun hm => by
      rw [hs] at hm
      obtain ⟨_, o1, q1, q2⟩ := fl3.2.2.1.mem hm
      rw [e3] at q1; cases q1
      exact q2 _ d3
    refine wpAny_handleBy_cons (codeAny_handlers_test ?_) (by intro z; cases z)
    have LT : PySem.W.Looks (model X.prog X.w) h3 (typeOf (.ref a)) cls := fun A Q E s4 k z => wpAny_typeOf_ref (k _ _ e3) (by rw [z3.1]; exact z)
    have LM := PySem.W.exm_one (M := model X.prog X.w) (J3.kIn) LT hb1
    have S3 := suite0 J3 a
    have test : ∀ {Q : Value → Shared → Prop} {E : Value → Shared → Prop}, Q c { s' with heap := h3 } → wpAny (model X.prog X.w) (X.A.mark (some (.ref a))) (eval (.Name x np) X.env) Q E { s' with heap := h3 } := fun {Q E} z => by
      obtain ⟨c1, c2, c3⟩ := hc
      rcases c3 with m1 | ⟨m1, m2, m3⟩
      · exact ld_glob (X := X.suite a (X.pn ++ pins)) S3 c1 m1 z c2
      · exact ld_blt (X := X.suite a (X.pn ++ pins)) S3 c1 m1 m2 z m3 c2
    refine test (LM.here ?_)
    refine codeAny_handlers_suite_as ?_
    refine HandSPX.lands_againZ fl3 fun h4 fl4 up4 => ?_
    obtain ⟨oe4, vs4, e4, z4, d4⟩ := fl4.there
    have J4 : Inv X pins σ1 (upd H1 a (exv a cls d)) { s' with heap := h4 } := landT J nb fl4.2.1 nfr na e4 z4 d4 fl4.1 ((up.trans up3).trans up4) os ag
    refine store_ok (X := X.suite a (X.pn ++ pins)) (v := .ref a) (suite0 J4 a) hN hi hloc rfl (fun s5 S5 => ?_) (.inr hln)
    refine wpAny_mono ((hsu a (X.pn ++ pins)).run [] s5 _ _ _ S5 (hyes a na)) (fun fl s6 z => ?_) (fun _ _ z => False.elim z)
    have out : ∀ {σ6 : L2.St} {H6 : Hp} {Q : Shared → Prop}, Inv (X.suite a (X.pn ++ pins)) [] σ6 H6 s6 → (∀ s7, Inv X pins (σ6.set i none) H6 s7 → Q s7) →
        wpAny (model X.prog X.w) X.A (do bindName X.env n .none; unbindBehindTheSuite X.env n pos') (fun _ s7 => Q s7) X.xe s6 := fun {σ6 H6 Q} S6 r => gone_ok (unsuite0 S6 k0) hN hi hln r
    cases fl with
    | next => exact let ⟨σ6, H6, S6, r⟩ := z; out S6 fun s7 J7 => ⟨_, _, J7, r⟩
    | brk => exact let ⟨σ6, H6, S6, r⟩ := z; out S6 fun s7 J7 => ⟨_, _, J7, r⟩
    | cont => exact let ⟨σ6, H6, S6, r⟩ := z; out S6 fun s7 J7 => ⟨_, _, J7, r⟩
    | ret u => exact let ⟨v6, σ6, H6, S6, rv, r⟩ := z; out S6 fun s7 J7 => ⟨_, _, _, J7, rv, r⟩
end
end VL
namespace VL
open PySem PySem.Spec PyProof.Rows L2
structure ExF (K : PySem.W.Frag) : Prop where
  ec : ∀ C ∈ exN, Ec K (He.ga K C)
  eb : Eb K (He.ga K "MergeError")
  ex : ∀ C ∈ exN, PySem.W.exmOne K (.ref (He.ga K C)) (.ref (He.ga K "MergeError")) = some true
  nf : ∀ C ∈ exN, ∀ f ∈ exFd, PySem.W.findIn K (.ref (He.ga K C)) f = some none
  ini : ∀ C ∈ exN, PySem.W.findIn K (.ref (He.ga K C)) "__init__" = some (some (.ref (He.ma K (He.ga K C) "__init__"))) ∧ PySem.W.typeIn K (.ref (He.ma K (He.ga K C) "__init__")) = some (.type "function")
  ki : ∀ C ∈ exN, ∀ C' ∈ exN, PySem.W.kitOne K (.ref (He.ga K C)) (.ref (He.ga K C')) = some (decide (C = C'))
  kv : ∀ C ∈ exN, PySem.W.kitOne K (.ref (He.ga K C)) (.type "ValueError") = some true
  kb : ∀ t ∈ tyNames, ∀ C' ∈ exN, PySem.W.kitOne K (.type t) (.ref (He.ga K C')) = some false
  sp : PySem.W.specialIn K (.builtin "object.__class__") "__get__" = some (some (.builtin "getset_descriptor.__get__"))
  tk : PySem.W.takesIn K (.builtin "object.__class__") = some true
theorem all_mem {α : Type} {l : List α} {p : α → Bool} (h : l.all p = true) : ∀ x ∈ l, p x = true := List.all_eq_true.mp h
theorem exB_ok {K : PySem.W.Frag} (h : exB K = true) : ExF K := by
  unfold exB at h
  rw [Bool.and_eq_true, Bool.and_eq_true, Bool.and_eq_true, Bool.and_eq_true, Bool.and_eq_true, Bool.and_eq_true, Bool.and_eq_true, Bool.and_eq_true, Bool.and_eq_true] at h
  obtain ⟨⟨a1, a2⟩, a3, a4, a5, a6, a7, a8, a9, a10⟩ := h
  refine ⟨fun C hC => ecB_ok (all_mem a1 C hC), ebB_ok a2, fun C hC => of_decide_eq_true (all_mem a3 C hC), fun C hC f hf => of_decide_eq_true (all_mem (all_mem a4 C hC) f hf), fun C hC => ?_,
    fun C hC C' hC' => of_decide_eq_true (all_mem (all_mem a6 C hC) C' hC'), fun C hC => of_decide_eq_true (all_mem a7 C hC), fun t ht C hC => of_decide_eq_true (all_mem (all_mem a8 t ht) C hC), of_decide_eq_true a9, of_decide_eq_true a10⟩
  obtain ⟨b1, b2⟩ := Bool.and_eq_true_iff.mp (all_mem a5 C hC)
  exact ⟨of_decide_eq_true b1, of_decide_eq_true b2⟩

/-- slot i is empty -/
def delS (i : Nat) (env : Env) : Option Env := if isIo env[i]? = true then none else some ((killA i env).set i .dead)
def sTry (i : Nat) (s : Sm) (r : Rz) (u : Sm) : Sm := fun env => match r env with
  | none => s env
  | some x => if x.1 ∈ exN ∧ i < env.length then (setS env i (.frz (.exc x.1 x.2))).bind fun e => (u e).bind fun o => match o with
    | .nx e2 => (delS i e2).map .nx
    | .ret o e2 => some (.ret o e2)
    | _ => none
    else none
section
variable {K : PySem.W.Frag} {T : Tab} {F H : Hp} {σ : L2.St} {env e' : Env} {ω : Own} {i : Nat}
theorem Go.del (sa : Sta K T F H σ env ω) (h : delS i env = some e') : Go K T F H σ env ω F H (σ.set i none) e' ω := by
  unfold delS at h
  split at h
  · cases h
  · rename_i ni
    cases h
    have nio : ∀ o, env[i]? ≠ some (SV.io o) := fun o z => ni (by rw [z]; rfl)
    refine ⟨⟨sa.gl, by rw [List.length_set, List.length_set, killA_len]; exact sa.len, fun j t q => ?_, sa.og⟩, .refl, fun j o q => ?_⟩
    · by_cases hj : j = i
      · subst hj
        by_cases hl : j < (killA j env).length
        · rw [List.getElem?_set_self hl] at q
          cases q
          trivial
        · rw [List.getElem?_eq_none (by rw [List.length_set]; omega)] at q
          cases q
      · rw [List.getElem?_set_ne (Ne.symm hj), killA_get] at q
        obtain ⟨t0, q0, q1⟩ := Option.map_eq_some_iff.mp q
        have z := sa.slot j t0 q0
        have sg : (σ.set i none)[j]? = σ[j]? := List.getElem?_set_ne (Ne.symm hj)
        cases t0 with
        | dead => cases q1; trivial
        | frz d => cases q1; obtain ⟨v, z1, z2⟩ := z; exact ⟨v, sg.trans z1, z2⟩
        | own o => cases q1; obtain ⟨v, A, z1, z2⟩ := z; exact ⟨v, A, sg.trans z1, z2⟩
        | io o => cases q1; obtain ⟨v, A, z1, z2⟩ := z; exact ⟨v, A, sg.trans z1, z2⟩
        | als r p =>
          have q1 : (if r = i then SV.dead else .als r p) = t := q1
          by_cases hr : r = i
          · rw [if_pos hr] at q1
            subst q1
            trivial
          · rw [if_neg hr] at q1
            subst q1
            obtain ⟨v, w, o, A, z1, z2, z3⟩ := z
            exact ⟨v, w, o, A, sg.trans z1, (List.getElem?_set_ne (Ne.symm hr)).trans z2, z3⟩
    · have hj : j ≠ i := fun z => by subst z; exact nio o q
      exact ⟨List.getElem?_set_ne (Ne.symm hj), o, by rw [List.getElem?_set_ne (Ne.symm hj), killA_get, q]; rfl⟩
end
section
variable {X : Cx} {T : Tab} {W : WX} {e : Expr} {r : Rz} {pos : Pos} {m : Em}
/-- a statement of which only one expression may raise: nothing has changed by then -/
def RT (X : Cx) (T : Tab) (W : WX) (st : Stmt) (r : Rz) : Prop := PS X st (fun _ σ H => tRE X.K T W r σ H)
theorem rt_set {i : Nat} {y : Str} {pos' : Pos} (hN : X.N.Nodup) (hi : X.N[i]? = some y) (hx : Loc X.env.scope y) (he : RE X T W e r) (hs : swapsWith e (some (.Name y pos')) pos.line X.env = pure false := by rfl) (hf : X.fn y = true ∨ X.env.scope.names.lookup y = some .local := by first | exact .inl rfl | exact .inr rfl | assumption) :
    RT X T W (.Assign [.Name y pos'] e pos) r := psI (ps_set hN hi hx he hs hf) fun D σ H q => q
end
section
variable {X : Cx} {T : Tab} {n M : Str} {i : Nat} {suite : List Stmt} {b₀ st : Stmt} {np pos pos' : Pos} {s u : Sm} {r : Rz}
theorem ss_try (E : ExF X.K) (hs : X.stack = X.env :: X.outer) (hf : X.env.frame = some X.env.locals) (hN : X.N.Nodup) (hi : X.N[i]? = some n) (hln : X.env.kindOf n = some .local) (hg : L2.Gl X "MergeError") (hm : X.mg "MergeError" = some (.ref (He.ga X.K "MergeError")))
    (hb : ∀ (pn : List (Addr × Obj)) (xe : Value → Shared → Prop), PassesOwn (model X.prog X.w) X.A X.env xe → SS (X.tr pn xe) T st s)
    (hr : ∀ (W : WX) (pn : List (Addr × Obj)) (xe : Value → Shared → Prop), Takes (X.tr pn xe) W → RT (X.tr pn xe) T W st r)
    (hu : ∀ (a : Addr) (pn : List (Addr × Obj)), SB (X.suite a pn) T (b₀ :: suite) u) :
    SS X T (.Try [st] [.ExceptHandler (some (.Name "MergeError" np)) (some n) (b₀ :: suite) pos'] [] [] pos) (sTry i s r u) :=
  psI (ps_tryT (c := .ref (He.ga X.K "MergeError")) (tb := fun W D σ H => tS X.K T s D σ H ∨ tRE X.K T W r σ H) (ts := tS X.K T u) hs hf hN hi hln ⟨hg, by decide, .inl hm⟩
    (fun W pn xe tk hp => pss_one (psOr (hb pn xe hp) (hr W pn xe tk))) hu) fun D σ H q => by
    obtain ⟨F, env, ω, sa, out, e, k⟩ := q
    unfold sTry at e
    split at e
    · exact .inl ⟨F, env, ω, sa, out, e, k⟩
    · rename_i x ex
      split at e
      · rename_i hx0
        obtain ⟨hx, hl⟩ := hx0
        obtain ⟨e1, es, e⟩ := Option.bind_eq_some_iff.mp e
        obtain ⟨o2, eu, e⟩ := Option.bind_eq_some_iff.mp e
        refine .inr ⟨F, env, ω, sa, x, ex, fun cls d F1 H1 p z => ?_⟩
        obtain ⟨z1, dd, fs, z2, z3, z4, z5, z6⟩ := z
        subst z1
        subst z2
        refine ⟨E.ex x.1 hx, fun a na => ?_⟩
        have p1 : PX T F1 H1 (upd F1 a (exv a (.ref (He.ga X.K x.1)) (some dd))) (upd H1 a (exv a (.ref (He.ga X.K x.1)) (some dd))) := PX.laid p.gl na exv_ntbl (.inr trivial)
        have nF : F1 a = none := p.gl.free na
        have hv : Vw X.K (upd F1 a (exv a (.ref (He.ga X.K x.1)) (some dd))) (.ref a) (.exc x.1 x.2) :=
          .exc upd_same ((upd_ne (ne_of_none z4 nF)).trans z4) z5 (z6.sub (.of fun b w q => (upd_ne (ne_of_none q nF)).trans q))
        have g := Go.put (K := X.K) (v := .ref a) (A := []) sa (p.trans p1) (Fresh.frz hv) hl es
        refine ⟨_, e1, _, g.sta, o2, eu, ?_⟩
        cases o2 with
        | nx e2 =>
          obtain ⟨e3, ed, ee⟩ := Option.map_eq_some_iff.mp e
          subst ee
          exact fun F3 H3 σ3 ω3 g3 => k F3 H3 _ ω3 ((g.trans g3).trans (Go.del g3.sta ed))
        | ret o e2 =>
          cases e
          exact fun F3 H3 σ3 ω3 v A g3 rt => k F3 H3 σ3 ω3 v A (g.trans g3) (rt.back g.ex)
        | bk e2 => cases e
        | ct e2 => cases e
      · cases e
end
end VL
namespace VL
open PySem PySem.Spec PyProof.Rows L2
theorem exv_at {P : Program} {w : World} {H : Hp} {h : Heap} {a : Addr} {cls : Value} {d : Option Addr} (hok : HOk P w H h) (e : H a = some (exv a cls d)) : ∃ (oe : Obj) (vs : Array Value), h.get? a = some oe ∧ oe.cls = cls ∧ oe.dict = d ∧ oe.data = .fields vs := by
  have x : ObjOk P w H h a (.ext fun h => ∃ (oe : Obj) (vs : Array Value), h.get? a = some oe ∧ oe.cls = cls ∧ oe.dict = d ∧ oe.data = .fields vs) := hok a _ e
  exact x.1
section
variable {X : Cx} {pins : List (Addr × Obj)} {σ : L2.St} {H : Hp} {s : Shared}
theorem exv_inst {a C dd : Addr} {fs : List (Str × V)} (I : Inv X pins σ H s) (e1 : H a = some (exv a (.ref C) (some dd))) (e2 : H dd = some (.xd fs)) :
    ∃ (oe od : Obj) (mA : Str → Option Value), PySem.W.InstAt s.heap a oe C (some od) ∧ (∀ f, RelO (fs.lookup f) (mA f)) ∧ ∀ f, PySem.W.lookIn f od = some (mA f) := by
  obtain ⟨oe, vs, q1, q2, q3, q4⟩ := exv_at I.hok e1
  have hx : ObjOk X.prog X.w H s.heap dd (.xd fs) := I.hok dd _ e2
  obtain ⟨mA, n, rel⟩ := hx
  obtain ⟨od, q5, q6⟩ := lookIn_ns n
  exact ⟨oe, od, mA, ⟨q1, q2, by unfold PySem.W.notCls; rw [q4] <;> rfl, by rw [q3]; exact q5⟩, rel, q6⟩
/-- the type of a value, an exception's too -/
inductive TyE (K : PySem.W.Frag) (H : Hp) : V → Value → Prop where
  | b {x : V} {t : Value} (h : TyX K H x t) : TyE K H x t
  | e {a C dd : Addr} {fs : List (Str × V)} (h1 : H a = some (exv a (.ref C) (some dd))) (h2 : H dd = some (.xd fs)) (c : Ec K C) : TyE K H (.ref a) (.ref C)
theorem kit_ofE (E : ExF X.K) {x : V} {u t : Value} (I : Inv X pins σ H s) (rx : RelV x u) (ty : TyE X.K H x t) : ∃ P : Heap → Prop, PySem.W.KitX X.K u t P ∧ P s.heap ∧ u ≠ .builtin "__main__.__loader__#opaque" := by
  cases ty with
  | b h => exact kit_of I rx h
  | @e a C dd fs h1 h2 c =>
    cases (show u = Value.ref a from rx)
    obtain ⟨oe, od, mA, J, _, _⟩ := exv_inst I h1 h2
    obtain ⟨cd, hc, _⟩ := PySem.W.any_some c.hd
    exact ⟨_, PySem.W.kitx_exc (by rw [hc]; rfl) c.hg c.hk c.ox.exC c.ha E.sp E.tk c.hm, J, fun z => nomatch z⟩
def rIsE1 (K : PySem.W.Frag) : List V → Hp → VK → Prop := fun xs H Q => ∃ (x c : V) (t u : Value) (b : Bool), xs = [x, c] ∧ ClsV c u ∧ TyE K H x t ∧ PySem.W.kitOne K t u = some b ∧ Q (.bl b) H
def rIsET (K : PySem.W.Frag) : List V → Hp → VK → Prop := fun xs H Q => ∃ (x : V) (tp : Addr) (cs : List V) (t : Value) (us : List Value) (b : Bool), xs = [x, .ref tp] ∧ H tp = some (.tup cs) ∧ Paired ClsV cs us ∧ TyE K H x t ∧ PySem.W.kitAny K t us = some b ∧ Q (.bl b) H
end
section
variable {X : Cx}
theorem call_isE1 (E : ExF X.K) : CallR X (.builtin "isinstance") (rIsE1 X.K) := by
  intro pins s σ H xs us Q I r z
  obtain ⟨x, c, t, u, b, ex, kc, ty, ek, q⟩ := z
  subst ex
  obtain ⟨w1, w2, ew, s1, s2⟩ := vals2 r
  subst ew
  have ec := kc.eq s2
  subst ec
  obtain ⟨P, kx, pp, nx⟩ := kit_ofE E I s1 ty
  exact PySem.W.kia_one kx I.kIn pp ek nx fun tk => ⟨.bl b, H, I.tok tk, rfl, q⟩
theorem call_isET (E : ExF X.K) : CallR X (.builtin "isinstance") (rIsET X.K) := by
  intro pins s σ H xs us Q I r z
  obtain ⟨x, tp, cs, t, ws, b, ex, hT, kc, ty, ek, q⟩ := z
  subst ex
  obtain ⟨w1, w2, ew, s1, s2⟩ := vals2 r
  subst ew
  cases (show w2 = Value.ref tp from s2)
  obtain ⟨P, kx, pp, nx⟩ := kit_ofE E I s1 ty
  have hx : ObjOk X.prog X.w H s.heap tp (.tup cs) := I.hok tp _ hT
  obtain ⟨_, its, rv, o, g1, g2, n, g3⟩ := hx
  have ei := ClsV.all kc rv
  subst ei
  obtain ⟨oc, od, dt, sl⟩ := o
  simp only at g2 g3
  subst g2 g3
  exact PySem.W.kia_tup kx I.kIn pp g1 ek nx fun tk => ⟨.bl b, H, I.tok tk, rfl, q⟩
end
/-- the kind of a datum: one of the built-in types' names, or an exception's class -/
def D.kd : D → Option (String ⊕ Str)
  | .exc C _ => if C ∈ exN then some (.inr C) else none
  | d => d.tyN.map .inl
def kdV (K : PySem.W.Frag) : String ⊕ Str → Value
  | .inl t => .type t
  | .inr C => .ref (He.ga K C)
def kdIs (k : String ⊕ Str) (C : Str) : Bool := match k with
  | .inl _ => false
  | .inr D => decide (D = C)
def kdVe : String ⊕ Str → Bool
  | .inl _ => false
  | .inr _ => true
def kdIn (k : String ⊕ Str) : Prop := match k with
  | .inl t => t ∈ tyNames
  | .inr C => C ∈ exN
section
variable {K : PySem.W.Frag} {H : Hp}
theorem tyE_of (E : ExF K) {v : V} {d : D} {k : String ⊕ Str} (h : Vw K H v d) (e : d.kd = some k) : TyE K H v (kdV K k) ∧ kdIn k := by
  have base : ∀ {d : D}, Vw K H v d → d.tyN.map Sum.inl = some k → TyE K H v (kdV K k) ∧ kdIn k := fun {d} h e => by
    obtain ⟨t, e1, e2⟩ := Option.map_eq_some_iff.mp e
    subst e2
    obtain ⟨h1, h2⟩ := tyX_of h e1
    exact ⟨.b h1, h2⟩
  cases h with
  | exc h1 h2 h3 h4 =>
    rw [D.kd] at e
    split at e
    · rename_i hC
      cases e
      exact ⟨.e h1 h2 (E.ec _ hC), hC⟩
    · cases e
  | non => exact base .non e
  | bl b => exact base (.bl b) e
  | int i => exact base (.int i) e
  | str z => exact base (.str z) e
  | tup a b => exact base (.tup a b) e
  | lst a b => exact base (.lst a b) e
  | dct a b c => exact base (.dct a b c) e
  | dtt a b c => exact base (.dtt a b c) e
  | ins a b c => exact base (.ins a b c) e
  | scr a => exact base (.scr a) e
theorem kd_kit (E : ExF K) {k : String ⊕ Str} {C : Str} (h : kdIn k) (hC : C ∈ exN) : PySem.W.kitOne K (kdV K k) (.ref (He.ga K C)) = some (kdIs k C) := by
  cases k with
  | inl t => exact E.kb t h C hC
  | inr D => exact E.ki D h C hC
theorem kd_ve (E : ExF K) {k : String ⊕ Str} (h : kdIn k) : PySem.W.kitOne K (kdV K k) (.type "ValueError") = some (kdVe k) := by
  cases k with
  | inl t =>
    have : ∀ a ∈ tyNames, kitB a "ValueError" = some false := by decide +kernel
    exact kit_ty (this t h)
  | inr D => exact E.kv D h
theorem kd_any (E : ExF K) {k : String ⊕ Str} (h : kdIn k) : ∀ {Cs : List Str}, (∀ C ∈ Cs, C ∈ exN) → PySem.W.kitAny K (kdV K k) (Cs.map fun C => .ref (He.ga K C)) = some (Cs.any (kdIs k))
  | [], _ => kitAny_nil
  | C :: Cs, hC => by
    rw [List.map_cons, List.any_cons]
    have h1 := kd_kit E h (hC C List.mem_cons_self)
    cases q : kdIs k C with
    | true =>
      rw [q] at h1
      exact kitAny_cons h1 (fun z => by cases z) (fun _ => rfl)
    | false =>
      rw [q] at h1
      exact kitAny_cons h1 (fun _ => kd_any E h fun D hD => hC D (List.mem_cons_of_mem _ hD)) (fun z => by cases z)
end
def isE1 (C : Str) (o : O) : Option O := (o.toD.kd).map fun k => .frz (.bl (kdIs k C))
def isEV (o : O) : Option O := (o.toD.kd).map fun k => .frz (.bl (kdVe k))
def isET (Cs : List Str) (o : O) : Option O := (o.toD.kd).map fun k => .frz (.bl (Cs.any (kdIs k)))
section
variable {X : Cx} {T : Tab} {e : Expr} {m : Em} {p p2 pos : Pos} {C : Str}
theorem fe_isE1 (E : ExF X.K) (he : BE X T e m) (hC : C ∈ exN) (hg : L2.Gl X "isinstance") (hm : X.mg "isinstance" = none) (hg2 : L2.Gl X C) (hm2 : X.mg C = some (.ref (He.ga X.K C))) (hv : bootBuiltins "isinstance" = some (.builtin "isinstance")) (hd2 : (C == ("__debug__" : Str)) = false := by decide)
    (hs1 : starEach [e, .Name C p2] X.env = (false, eval e X.env) :: starEach [.Name C p2] X.env := by rfl) (hs2 : starEach [.Name C p2] X.env = (false, eval (.Name C p2) X.env) :: starEach [] X.env := by rfl)
    (hpl : (backTo pos (starEach [.Name C p2] X.env)).any (·.1) = false := by rfl) : FE X T (.Call (.Name "isinstance" p) [e, .Name C p2] [] pos) (eOp1 (isE1 C) m) :=
  peI (pe_callB (call_isE1 E) hg hm hv (pa_cons he (pa_cons (pe_glob (v := .ref (He.ga X.K C)) hg2 hm2 rfl hd2) pa_nil hs2) hs1) (by decide) (by decide) hs1 hpl) fun σ H Q q => by
    obtain ⟨F, env, ω, sa, o, e1, k⟩ := q
    obtain ⟨o1, e2, e3⟩ := Option.bind_eq_some_iff.mp e1
    obtain ⟨kd, e4, e5⟩ := Option.map_eq_some_iff.mp e3
    subst e5
    refine ⟨F, env, ω, sa, o1, e2, fun v F1 H1 p1 h1 => ?_⟩
    obtain ⟨h2, h3⟩ := tyE_of E (h1.vw p1.gl) e4
    exact ⟨v, .ref (He.ga X.K C), _, _, _, rfl, .own _, h2, kd_kit E h3 hC, k _ F1 H1 [] p1 (.frz (.bl _))⟩
theorem fe_isEV (E : ExF X.K) (he : BE X T e m) (hg : L2.Gl X "isinstance") (hm : X.mg "isinstance" = none) (hg2 : L2.Gl X "ValueError") (hm2 : X.mg "ValueError" = none) (hv : bootBuiltins "isinstance" = some (.builtin "isinstance")) (hv2 : bootBuiltins "ValueError" = some (.type "ValueError"))
    (hs1 : starEach [e, .Name "ValueError" p2] X.env = (false, eval e X.env) :: starEach [.Name "ValueError" p2] X.env := by rfl) (hs2 : starEach [.Name "ValueError" p2] X.env = (false, eval (.Name "ValueError" p2) X.env) :: starEach [] X.env := by rfl)
    (hpl : (backTo pos (starEach [.Name "ValueError" p2] X.env)).any (·.1) = false := by rfl) : FE X T (.Call (.Name "isinstance" p) [e, .Name "ValueError" p2] [] pos) (eOp1 isEV m) :=
  peI (pe_callB (call_isE1 E) hg hm hv (pa_cons he (pa_cons (pe_bltn (v := .ty "ValueError") hg2 hm2 hv2 rfl (by decide) (by decide)) pa_nil hs2) hs1) (by decide) (by decide) hs1 hpl) fun σ H Q q => by
    obtain ⟨F, env, ω, sa, o, e1, k⟩ := q
    obtain ⟨o1, e2, e3⟩ := Option.bind_eq_some_iff.mp e1
    obtain ⟨kd, e4, e5⟩ := Option.map_eq_some_iff.mp e3
    subst e5
    refine ⟨F, env, ω, sa, o1, e2, fun v F1 H1 p1 h1 => ?_⟩
    obtain ⟨h2, h3⟩ := tyE_of E (h1.vw p1.gl) e4
    exact ⟨v, .ty "ValueError", _, _, _, rfl, .ty _, h2, kd_ve E h3, k _ F1 H1 [] p1 (.frz (.bl _))⟩
end
end VL
namespace VL
open PySem PySem.Spec PyProof.Rows L2
section
variable {X : Cx} {T : Tab} {e : Expr} {m : Em} {p p1 p2 p3 p4 pos : Pos} {C1 C2 C3 f : Str} {kk : Nat}
theorem isT_w (E : ExF X.K) {Cs : List Str} (hC : ∀ C ∈ Cs, C ∈ exN) {cs : List V} (hcs : cs = Cs.map fun C => .ref (He.ga X.K C)) (hl : cs.length ≤ sizeLine) {σ : L2.St} {H : Hp} {Q : VK} (q : tF X.K T (eOp1 (isET Cs) m) σ H Q) :
    tB X.K T m σ H fun v H1 => cs.length ≤ sizeLine ∧ ∀ a, H1 a = none → rIsET X.K [v, .ref a] (upd H1 a (.tup cs)) Q := by
  obtain ⟨F, env, ω, sa, o, e1, k⟩ := q
  obtain ⟨o1, e2, e3⟩ := Option.bind_eq_some_iff.mp e1
  obtain ⟨kd, e4, e5⟩ := Option.map_eq_some_iff.mp e3
  subst e5
  refine ⟨F, env, ω, sa, o1, e2, fun v F1 H1 p1 h1 => ⟨hl, fun a na => ?_⟩⟩
  have px : PX T F1 H1 (upd F1 a (.tup cs)) (upd H1 a (.tup cs)) := .laid p1.gl na (fun _ z => by cases z) (.inr trivial)
  obtain ⟨h2, h3⟩ := tyE_of E ((h1.px px).vw px.gl) e4
  refine ⟨v, a, cs, _, Cs.map fun C => .ref (He.ga X.K C), _, rfl, upd_same, ?_, h2, kd_any E h3 hC, k _ _ _ [] (p1.trans px) (.frz (.bl _))⟩
  rw [hcs]
  clear hl hcs h2 px h1 e3 e4 k hC e1
  induction Cs with
  | nil => exact .nil
  | cons C r ih => exact .cons (.own _) ih
theorem fe_isE3 (E : ExF X.K) (he : BE X T e m) (hC : ∀ C ∈ [C1, C2, C3], C ∈ exN) (hg : L2.Gl X "isinstance") (hm : X.mg "isinstance" = none) (g1 : L2.Gl X C1) (m1 : X.mg C1 = some (.ref (He.ga X.K C1))) (g2 : L2.Gl X C2) (m2 : X.mg C2 = some (.ref (He.ga X.K C2))) (g3 : L2.Gl X C3) (m3 : X.mg C3 = some (.ref (He.ga X.K C3)))
    (hv : bootBuiltins "isinstance" = some (.builtin "isinstance")) (d1 : (C1 == ("__debug__" : Str)) = false := by decide) (d2 : (C2 == ("__debug__" : Str)) = false := by decide) (d3 : (C3 == ("__debug__" : Str)) = false := by decide)
    (hs1 : starEach [e, .Tuple [.Name C1 p1, .Name C2 p2, .Name C3 p3] kk p4] X.env = (false, eval e X.env) :: starEach [.Tuple [.Name C1 p1, .Name C2 p2, .Name C3 p3] kk p4] X.env := by rfl)
    (hs2 : starEach [.Tuple [.Name C1 p1, .Name C2 p2, .Name C3 p3] kk p4] X.env = (false, eval (.Tuple [.Name C1 p1, .Name C2 p2, .Name C3 p3] kk p4) X.env) :: starEach [] X.env := by rfl)
    (hpl : (backTo pos (starEach [.Tuple [.Name C1 p1, .Name C2 p2, .Name C3 p3] kk p4] X.env)).any (·.1) = false := by rfl) :
    FE X T (.Call (.Name "isinstance" p) [e, .Tuple [.Name C1 p1, .Name C2 p2, .Name C3 p3] kk p4] [] pos) (eOp1 (isET [C1, C2, C3]) m) :=
  peI (pe_callB (call_isET E) hg hm hv (pa_cons he (pa_cons (pe_tup (pa_cons (pe_glob (v := .ref (He.ga X.K C1)) g1 m1 rfl d1) (pa_cons (pe_glob (v := .ref (He.ga X.K C2)) g2 m2 rfl d2) (pa_cons (pe_glob (v := .ref (He.ga X.K C3)) g3 m3 rfl d3) pa_nil rfl) rfl) rfl)) pa_nil hs2) hs1) (by decide) (by decide) hs1 hpl)
    fun σ H Q q => isT_w E hC rfl (by rw [sizeLine_eq]; simp) q
/-- e.f of a caught exception -/
def tXv (K : PySem.W.Frag) (f : Str) (te : TE) : TE := fun σ H Q => te σ H fun x H1 => ∃ (a C dd : Addr) (fs : List (Str × V)) (v : V), x = .ref a ∧ H1 a = some (exv a (.ref C) (some dd)) ∧ H1 dd = some (.xd fs) ∧ Ec K C ∧ PySem.W.findIn K (.ref C) f = some none ∧ fs.lookup f = some v ∧ Q v H1
theorem pe_xv {te : TE} (he : PE X e te) (hb : attributeBase e f X.env (eval e X.env) = eval e X.env := by rfl) : PE X (.Attribute e f pos) (tXv X.K f te) := by
  refine ⟨fun pins s σ H Q I q => ?_⟩
  refine attr_of hb (thn (he.run pins s σ H _ I q) fun u s1 z => ?_)
  obtain ⟨x, H1, I1, rx, a, C, dd, fs, v, ex, h1, h2, c, nf, lk, k⟩ := z
  subst ex
  cases (show u = Value.ref a from rx)
  obtain ⟨oe, od, mA, J, rel, look⟩ := exv_inst I1 h1 h2
  obtain ⟨w, ew, rw'⟩ := RelO.some_of (v := v) (o := mA f) (by rw [← lk]; exact rel f)
  exact HandSPX.exc_get I1.kIn J c.hg c.hk c.ox.exC (PySem.W.findObj_own c.hd nf rfl (by rw [look, ew])) (handed_of rw') ⟨v, H1, I1.tok _, rw', k⟩
def xfO (f : Str) (o : O) : Option O := (asFrz o).bind fun d => match d with
  | .exc C fds => if C ∈ exN then (fds.lookup f).map .frz else none
  | _ => none
theorem be_xv (E : ExF X.K) (he : BE X T e m) (hf : f ∈ exFd) (hb : attributeBase e f X.env (eval e X.env) = eval e X.env := by rfl) : BE X T (.Attribute e f pos) (eOp1 (xfO f) m) :=
  peI (pe_xv he hb) fun σ H Q q => by
    obtain ⟨F, env, ω, sa, o, e1, k⟩ := q
    obtain ⟨o1, e2, e3⟩ := Option.bind_eq_some_iff.mp e1
    obtain ⟨d, e4, e5⟩ := Option.bind_eq_some_iff.mp e3
    refine ⟨F, env, ω, sa, o1, e2, fun v F1 H1 p1 h1 => ?_⟩
    have hv := h1.asFrz p1.gl e4
    split at e5
    · rename_i C fds
      split at e5
      · rename_i hC
        obtain ⟨dv, e6, e7⟩ := Option.map_eq_some_iff.mp e5
        subst e7
        cases hv with
        | @exc a dx C' fs fds' g1 g2 g3 g4 =>
          obtain ⟨w, q1, q2⟩ := lookup_vw g3 g4 e6
          exact ⟨a, _, dx, fs, w, rfl, p1.gl.sub.at g1 exv_ntbl rfl, p1.gl.sub.at g2 (fun _ z => by cases z) rfl, E.ec C hC, E.nf C hC f hf, q1, k w F1 H1 p1 (.frz q2)⟩
      · cases e5
    · cases e5
end
end VL
namespace VL
open PySem PySem.Spec PyProof.Rows L2
theorem ex_BadPlant : ("BadPlant" : Str) ∈ exN := List.mem_cons_self
theorem ex_BadDay : ("BadDay" : Str) ∈ exN := List.mem_cons_of_mem _ List.mem_cons_self
theorem ex_BadBook : ("BadBook" : Str) ∈ exN := List.mem_cons_of_mem _ (List.mem_cons_of_mem _ List.mem_cons_self)
theorem ex_NoBound : ("NoBound" : Str) ∈ exN := List.mem_cons_of_mem _ (List.mem_cons_of_mem _ (List.mem_cons_of_mem _ List.mem_cons_self))
theorem fd_place : ("place" : Str) ∈ exFd := List.mem_cons_self
theorem fd_word : ("word" : Str) ∈ exFd := List.mem_cons_of_mem _ List.mem_cons_self
theorem ex_cons {C : Str} {r : List Str} (h : C ∈ exN) (t : ∀ D ∈ r, D ∈ exN) : ∀ D ∈ C :: r, D ∈ exN := fun D hD => by
  rcases List.mem_cons.mp hD with q | q
  · rw [q]; exact h
  · exact t D q
theorem ex_nil : ∀ D ∈ ([] : List Str), D ∈ exN := fun D hD => by cases hD
end VL
namespace VL
end VL
namespace VL
open PySem PySem.Spec PyProof.Rows L2
section
variable {env e e' e2 e3 : Env} {s u b : Sm} {r q : Rz} {x : Exn} {t : Tm} {g : Gm} {it : Im} {d : D} {ds : List D} {m : Es} {os : List O} {C : Str} {fds : List Str} {i np n : Nat}
theorem rSeq_x (h : r env = some x) : rSeq s r q env = some x := by unfold rSeq; rw [h]
theorem rSeq_n (h : r env = none) (hs : s env = some (.nx e)) : rSeq s r q env = q e := by unfold rSeq; rw [h]; show (s env).bind _ = _; rw [hs]; rfl
theorem rSeq_no (hs : s env = some (.nx e)) : rSeq s rNo q env = q e := rSeq_n rfl hs
theorem rIf_t (h : t env = some true) : rIf t r q env = r env := by unfold rIf; rw [h]; rfl
theorem rIf_f (h : t env = some false) : rIf t r q env = q env := by unfold rIf; rw [h]; rfl
theorem rFor_s (h : it env = some ds) : rFor it g s r env = rloop g s r ds env := by unfold rFor; rw [h]; rfl
theorem rl_nil : rloop g s r [] env = none := by unfold rloop; rfl
theorem rl_x (h : g (.frz d) env = some e) (hr : r e = some x) : rloop g s r (d :: ds) env = some x := by
  rw [rloop, h]
  show (match r e with | some x => some x | none => _) = _
  rw [hr]
theorem rl_n (h : g (.frz d) env = some e) (hr : r e = none) (hs : s e = some (.nx e')) : rloop g s r (d :: ds) env = rloop g s r ds e' := by
  rw [rloop, h]
  show (match r e with | some x => some x | none => (s e).bind _) = _
  rw [hr, hs]
  rfl
theorem rMk_s (h : m env = some os) (hl : os.length = fds.length) (ha : os.all isF = true) : rMk C fds m env = some (C, (fds.zip (os.map O.toD)).reverse) := by
  unfold rMk; rw [h]
  exact if_pos ⟨hl, ha⟩
theorem rCall_s {fx : Fx} (h : m env = some os) (hl : os.length = np) (hx : fx (os.map fun o => .frz o.toD) = some x) (hi : D.imms (x.2.map Prod.snd) = true) : rCall np fx m env = some x := by
  unfold rCall; rw [h]
  show (if os.length = np then callX fx os else none) = _
  rw [if_pos hl]
  unfold callX
  rw [hx]
  exact if_pos hi
theorem rCall_n {fx : Fx} (h : m env = some os) (hx : fx (os.map fun o => .frz o.toD) = none) : rCall np fx m env = none := by
  unfold rCall; rw [h]
  show (if os.length = np then callX fx os else none) = _
  split
  · unfold callX; rw [hx]; rfl
  · rfl
theorem sTry_n (h : r env = none) : sTry i s r u env = s env := by unfold sTry; rw [h]
theorem sTry_x {fs : List (Str × D)} (h : r env = some (C, fs)) (hC : C ∈ exN) (hi : i < env.length) (hs : setS env i (.frz (.exc C fs)) = some e) (hu : u e = some (.nx e2)) (hd : delS i e2 = some e3) : sTry i s r u env = some (.nx e3) := by
  unfold sTry; rw [h]
  show (if C ∈ exN ∧ i < env.length then _ else none) = _
  rw [if_pos ⟨hC, hi⟩, hs]
  show ((u e).bind _) = _
  rw [hu]
  show (delS i e2).map Out.nx = _
  rw [hd]
  rfl
end
end VL
noncomputable section
namespace Mr
open PySem PySem.Spec PyProof.Rows L2 VL
/-! ### mirrors -/
def c0_words_of : Em := (takE (eVar 1))
def ct0_words_of : VL.Tm := (tst (eOp2 (sc2 gNe) (eVar 1) (eC (.str ""))))
def m_words_of : Sm := (sRet (eLcN (iLTc (frzE (eOpM oSplit (eVar 0) (eCons (eC (.str " ")) eNil)))) [1] (gNm 1) ct0_words_of c0_words_of))
def f_words_of : Fm := fnM 1 2 m_words_of
def c0_is_name : Em := (eOp2 (oIn false) (eVar 1) (eC (.str "abcdefghijklmnopqrstuvwxyz")))
def m_is_name : Sm := (sSeq (sIf (tNot1 (tst (eChain (sc2 (gB fun i j => decide (i ≤ j))) (sc2 (gB fun i j => decide (i ≤ j))) (eC (.int 1)) (frzE (eOpN (n1 oLen) (eCons (eVar 0) eNil))) (eC (.int 8))))) (sRet (takE (eC (.bl false)))) sNx) (sRet (eOpN (n1 oAll) (eCons (frzE (eLcN (iLTSc (eVar 0)) [1] (gNm 1) yesT c0_is_name)) eNil))))
def f_is_name : Fm := fnM 1 2 m_is_name
def c0_number_in : Em := (eOp2 (oIn false) (eVar 1) (eC (.str "0123456789")))
def m_number_in : Sm := (sSeq (sIf (tOr2 (tNot1 (tst (eChain (sc2 (gB fun i j => decide (i ≤ j))) (sc2 (gB fun i j => decide (i ≤ j))) (eC (.int 1)) (frzE (eOpN (n1 oLen) (eCons (eVar 0) eNil))) (eC (.int 6))))) (tAnd2 (tst (eOp2 (sc2 gNe) (eVar 0) (eC (.str "0")))) (tru (frzE (eOpM oStarts (eVar 0) (eCons (eC (.str "0")) eNil)))))) (sRet (takE (eC .non))) sNx) (sSeq (sIf (tNot1 (tru (frzE (eOpN (n1 oAll) (eCons (frzE (eLcN (iLTSc (eVar 0)) [1] (gNm 1) yesT c0_number_in)) eNil))))) (sRet (takE (eC .non))) sNx) (sRet (eOpN (n1 oInt) (eCons (eVar 0) eNil)))))
def f_number_in : Fm := fnM 1 2 m_number_in
def c0_load_told : Em := (eCall 1 f_number_in (eCons (eVar 3) eNil))
def m_load_told : Sm := (sSeq (sIf (tOr2 (tst (eOp2 (oIn true) (eIx (eVar 0) (eC (.int 1))) (frzE (eTup (eCons (takE (eC (.str "take"))) (eCons (takE (eC (.str "put"))) eNil)))))) (tOr2 (tst (eOp2 (sc2 (gB fun i j => decide (i < j))) (frzE (eOpN (n1 oLen) (eCons (eVar 0) eNil))) (eC (.int 4)))) (tNot1 (tru (frzE (eCall 1 f_is_name (eCons (eIx (eVar 0) (eC (.int 2))) eNil))))))) (sRet (takE (eC .non))) sNx) (sSeq (sSet 2 (frzE (eLcN (iLTc (frzE (eSl (eVar 0) (someP (eC (.int 3))) noP))) [3] (gNm 3) yesT c0_load_told))) (sSeq (sIf (tst (eOp2 (oIn false) (eC .non) (eVar 2))) (sRet (takE (eC .non))) sNx) (sRet (eTup (eCons (takE (eIx (eVar 0) (eC (.int 1)))) (eCons (takE (eVar 1)) (eCons (takE (eIx (eVar 0) (eC (.int 2)))) (eCons (eOpN (n1 oTuple) (eCons (eVar 2) eNil)) eNil)))))))))
def f_load_told : Fm := fnM 2 4 m_load_told
def m_entry_told : Sm := (sSeq (sIf (tOr2 (tst (eOp2 (sc2 (gB fun i j => decide (i < j))) (frzE (eOpN (n1 oLen) (eCons (eVar 0) eNil))) (eC (.int 3)))) (tst (eOp1 (oIsN false) (frzE (eCall 1 f_number_in (eCons (eIx (eVar 0) (eC (.int 0))) eNil)))))) (sRet (takE (eC .non))) sNx) (sSeq (sSet 1 (takE (frzE (eCall 1 f_number_in (eCons (eIx (eVar 0) (eC (.int 0))) eNil))))) (sSeq (sIf (tst (eOp2 (oIn true) (eIx (eVar 0) (eC (.int 1))) (frzE (eTup (eCons (takE (eC (.str "come"))) (eCons (takE (eC (.str "spoil"))) eNil)))))) (sRet (eCall 2 f_load_told (eCons (eVar 0) (eCons (eVar 1) eNil)))) sNx) (sSeq (sIf (tOr2 (tst (eOp2 (sc2 gNe) (frzE (eOpN (n1 oLen) (eCons (eVar 0) eNil))) (eC (.int 3)))) (tst (eOp1 (oIsN false) (frzE (eCall 1 f_number_in (eCons (eIx (eVar 0) (eC (.int 2))) eNil)))))) (sRet (takE (eC .non))) sNx) (sRet (eTup (eCons (takE (eIx (eVar 0) (eC (.int 1)))) (eCons (takE (eVar 1)) (eCons (eCall 1 f_number_in (eCons (eIx (eVar 0) (eC (.int 2))) eNil)) eNil)))))))))
def f_entry_told : Fm := fnM 1 2 m_entry_told
def b0_read_book : Sm := (sSeq (sSet 4 (takE (frzE (eCall 1 f_words_of (eCons (eVar 3) eNil))))) (sIf (tst (eOp2 (sc2 (gB fun i j => decide (j < i))) (frzE (eOpN (n1 oLen) (eCons (eVar 4) eNil))) (eC (.int 0)))) (sSeq (sSet 5 (takE (frzE (eCall 1 f_entry_told (eCons (eVar 4) eNil))))) (sSeq (sIf (tst (eOp1 (oIsN false) (eVar 5))) sNo sNx) (sAct aAppend (qVar 1) (eCons (takE (eVar 5)) eNil)))) sNx))
def m_read_book : Sm := (sSeq (sSet 1 (eLst eNil)) (sSeq (sFor (iE (eCons (frzE (eOpM oSplit (eVar 0) (eCons (eC (.str "\n")) eNil))) eNil)) (gTp 2 (gCn (gNm 2) (gCn (gNm 3) gNl))) b0_read_book) (sRetV 1)))
def f_read_book : Fm := fnM 1 6 m_read_book
def q0_read_book : Rz := (rSeq (sSet 4 (takE (frzE (eCall 1 f_words_of (eCons (eVar 3) eNil))))) rNo (rIf (tst (eOp2 (sc2 (gB fun i j => decide (j < i))) (frzE (eOpN (n1 oLen) (eCons (eVar 4) eNil))) (eC (.int 0)))) (rSeq (sSet 5 (takE (frzE (eCall 1 f_entry_told (eCons (eVar 4) eNil))))) rNo (rSeq (sIf (tst (eOp1 (oIsN false) (eVar 5))) sNo sNx) (rIf (tst (eOp1 (oIsN false) (eVar 5))) (rMk "BadBook" ["place", "word"] (eCons (eVar 2) (eCons (eC (.str "row")) eNil))) rNo) rNo)) rNo))
def q_read_book : Rz := (rSeq (sSet 1 (eLst eNil)) rNo (rSeq (sFor (iE (eCons (frzE (eOpM oSplit (eVar 0) (eCons (eC (.str "\n")) eNil))) eNil)) (gTp 2 (gCn (gNm 2) (gCn (gNm 3) gNl))) b0_read_book) (rFor (iE (eCons (frzE (eOpM oSplit (eVar 0) (eCons (eC (.str "\n")) eNil))) eNil)) (gTp 2 (gCn (gNm 2) (gCn (gNm 3) gNl))) b0_read_book q0_read_book) rNo))
def x_read_book : Fx := fnX 1 6 q_read_book
def m__law_cell_at : Sm := (sSeq (sIf (tst (eOp2 (sc2 (gB fun i j => decide (i < j))) (eVar 1) (frzE (eOpN (n1 oLen) (eCons (eVar 0) eNil))))) (sRet (takE (eIx (eVar 0) (eVar 1)))) sNx) (sRet (takE (eC (.int 0)))))
def f__law_cell_at : Fm := fnM 2 2 m__law_cell_at
def m__law_mix : Sm := (sSeq (sSet 2 (takE (frzE (eOp2 (sc2 gMod) (frzE (eOp2 oMul (frzE (eOp2 oAdd (frzE (eOp2 oAdd (frzE (eOp2 (sc2 gMod) (eVar 0) (eC (.int 2147483629)))) (frzE (eOp2 oMul (frzE (eOp2 oMul (eVar 1) (eVar 1))) (eC (.int 7919)))))) (eC (.int 11)))) (eC (.int 48271)))) (eC (.int 2147483647)))))) (sRet (eOp2 (sc2 gMod) (frzE (eOp2 oMul (eVar 2) (eVar 2))) (eC (.int 1999999973)))))
def f__law_mix : Fm := fnM 2 3 m__law_mix
def c0__law_names : Em := (eOp2 oMul (eIx (eVar 2) (frzE (eOp2 (sc2 gMod) (frzE (eOp2 (sc2 gDiv) (eVar 3) (eC (.int 3)))) (eC (.int 26))))) (frzE (eOp2 (sc2 (gI fun i j => i - j)) (eVar 1) (eVar 7))))
def c1__law_names : Em := (eOp2 oAdd (frzE (eOp2 oAdd (frzE (eSl (eVar 6) noP (someP (eVar 5)))) (eIx (eVar 2) (frzE (eOp2 (sc2 gMod) (frzE (eOp2 oAdd (frzE (eOp2 (sc2 gDiv) (eVar 3) (eC (.int 3)))) (frzE (eOp2 oMul (eC (.int 5)) (eVar 7))))) (eC (.int 26))))))) (frzE (eSl (eVar 6) (someP (frzE (eOp2 oAdd (eVar 5) (eC (.int 1))))) noP)))
def m__law_names : Sm := (sSeq (sSet 2 (takE (eC (.str "abcdefghijklmnopqrstuvwxyz")))) (sSeq (sSet 3 (takE (frzE (eCall 2 f__law_mix (eCons (eVar 0) (eCons (eC (.int 3)) eNil)))))) (sSeq (sIf (tAnd2 (tst (eOp2 (sc2 gEq) (frzE (eOp2 (sc2 gMod) (eVar 3) (eC (.int 3)))) (eC (.int 0)))) (tst (eOp2 (sc2 (gB fun i j => decide (i < j))) (eVar 1) (eC (.int 9))))) (sRet (eLcN (iR1 (eCons (eVar 1) eNil)) [7] (gNm 7) yesT c0__law_names)) sNx) (sSeq (sSet 4 (takE (frzE (eOp2 oAdd (eC (.int 1)) (frzE (eOp2 (sc2 gMod) (frzE (eOp2 (sc2 gDiv) (eVar 3) (eC (.int 78)))) (eC (.int 8)))))))) (sSeq (sSet 5 (takE (frzE (eOp2 (sc2 gMod) (frzE (eOp2 (sc2 gDiv) (eVar 3) (eC (.int 624)))) (eVar 4))))) (sSeq (sSet 6 (takE (frzE (eOp2 oMul (eIx (eVar 2) (frzE (eOp2 (sc2 gMod) (frzE (eOp2 (sc2 gDiv) (eVar 3) (eC (.int 4992)))) (eC (.int 26))))) (eVar 4))))) (sRet (eLcN (iR1 (eCons (eVar 1) eNil)) [7] (gNm 7) yesT c1__law_names))))))))
def f__law_names : Fm := fnM 2 8 m__law_names
def c0__law_rule : Em := (eOp2 oAdd (eC (.int 1)) (frzE (eOp2 (sc2 gMod) (frzE (eOp2 (sc2 gDiv) (eVar 2) (frzE (eOp2 oAdd (frzE (eOp2 oMul (eVar 3) (eVar 3))) (eC (.int 1)))))) (eC (.int 3)))))
def m__law_rule : Sm := (sSeq (sSet 2 (takE (frzE (eOp2 (sc2 gDiv) (eVar 0) (eC (.int 6)))))) (sSeq (sIf (tAnd2 (tst (eOp2 (sc2 gEq) (frzE (eOp2 (sc2 gMod) (eVar 0) (eC (.int 6)))) (eC (.int 5)))) (tst (eOp2 (sc2 (gB fun i j => decide (j < i))) (eVar 1) (eC (.int 1))))) (sRet (eTup (eCons (takE (eC (.str "meet"))) eNil))) sNx) (sSeq (sIf (tst (eOp2 (sc2 gEq) (frzE (eOp2 (sc2 gMod) (eVar 0) (eC (.int 6)))) (eC (.int 4)))) (sRet (eTup (eCons (takE (eC (.str "gather"))) (eCons (eOp2 oAdd (eC (.int 1)) (frzE (eOp2 (sc2 gMod) (eVar 2) (eC (.int 4))))) (eCons (eOp2 (sc2 gMod) (frzE (eOp2 (sc2 gDiv) (eVar 2) (eC (.int 4)))) (eC (.int 9))) eNil))))) sNx) (sSeq (sIf (tst (eOp2 (sc2 gEq) (frzE (eOp2 (sc2 gMod) (eVar 0) (eC (.int 6)))) (eC (.int 3)))) (sRet (eTup (eCons (takE (eC (.str "many"))) (eCons (eOp2 oAdd (eC (.int 1)) (frzE (eOp2 (sc2 gMod) (eVar 2) (eC (.int 4))))) eNil)))) sNx) (sSeq (sIf (tst (eOp2 (sc2 gEq) (frzE (eOp2 (sc2 gMod) (eVar 0) (eC (.int 6)))) (eC (.int 2)))) (sRet (eTup (eCons (takE (eC (.str "rank"))) (eCons (takE (eIx (frzE (eLst (eCons (takE (eC .non)) (eCons (eOp2 (sc2 gMod) (frzE (eOp2 (sc2 gDiv) (eVar 2) (eC (.int 2)))) (eC (.int 9))) eNil)))) (frzE (eOp2 (sc2 gMod) (eVar 2) (eC (.int 2)))))) eNil)))) sNx) (sSeq (sIf (tst (eOp2 (sc2 gEq) (frzE (eOp2 (sc2 gMod) (eVar 0) (eC (.int 6)))) (eC (.int 1)))) (sRet (eTup (eCons (takE (eC (.str "turns"))) (eCons (eOpN (n1 oTuple) (eCons (frzE (eLcN (iR1 (eCons (eVar 1) eNil)) [3] (gNm 3) yesT c0__law_rule)) eNil)) eNil)))) sNx) (sRet (eTup (eCons (takE (eC (.str "eldest"))) eNil)))))))))
def f__law_rule : Fm := fnM 2 4 m__law_rule
def m__law_greatest : Sm := (sRet (eGet2 (frzE (eDct (("many", (takE (eIx (frzE (eOp2 oAdd (eVar 0) (frzE (eTup (eCons (takE (eC (.int 0))) eNil))))) (eC (.int 1))))) :: (("gather", (takE (eIx (frzE (eOp2 oAdd (eVar 0) (frzE (eTup (eCons (takE (eC (.int 0))) eNil))))) (eC (.int 1))))) :: (("meet", (takE (eVar 1))) :: []))))) (eIx (eVar 0) (eC (.int 0))) (eC (.int 1))))
def f__law_greatest : Fm := fnM 2 2 m__law_greatest
def c0__law_desks : Em := (eLst eNil)
def b0__law_desks : Sm := (sSeq (sSet 7 (takE (eVar 5))) (sSeq (sIf (tst (eOp2 (sc2 (gB fun i j => decide (j ≤ i))) (eVar 5) (frzE (eOpN (n1 oLen) (eCons (eVar 3) eNil))))) (sSet 7 (takE (frzE (eOp2 (sc2 gMod) (frzE (eCall 2 f__law_mix (eCons (eVar 0) (eCons (frzE (eOp2 oAdd (eC (.int 40)) (eVar 5))) eNil)))) (frzE (eOpN (n1 oLen) (eCons (eVar 3) eNil))))))) sNx) (sAct aInsert (qIx (qVar 4) (eVar 7)) (eCons (eOp2 (sc2 gMod) (frzE (eCall 2 f__law_mix (eCons (eVar 0) (eCons (frzE (eOp2 oAdd (eC (.int 60)) (eVar 5))) eNil)))) (frzE (eOp2 oAdd (frzE (eOpN (n1 oLen) (eCons (eIx (eVar 4) (eVar 7)) eNil))) (eC (.int 1))))) (eCons (takE (eVar 6)) eNil)))))
def b1__law_desks : Sm := (sSeq (sSet 10 (takE (eIx (frzE (eOp2 oAdd (eVar 2) (frzE (eLst (eCons (takE (eC (.str ""))) eNil))))) (frzE (eOp2 (sc2 gMod) (frzE (eCall 2 f__law_mix (eCons (eVar 0) (eCons (frzE (eOp2 oAdd (eC (.int 80)) (eVar 5))) eNil)))) (frzE (eOp2 oAdd (frzE (eOpN (n1 oLen) (eCons (eVar 2) eNil))) (eC (.int 1))))))))) (sAct aAppend (qVar 8) (eCons (eTup (eCons (takE (eVar 9)) (eCons (takE (eVar 10)) (eCons (eCall 2 f__law_rule (eCons (frzE (eCall 2 f__law_mix (eCons (eVar 0) (eCons (frzE (eOp2 oAdd (eC (.int 90)) (eVar 5))) eNil)))) (eCons (frzE (eOpN (n1 oLen) (eCons (eIx (eVar 4) (eVar 5)) eNil))) eNil))) (eCons (eOpN (n1 oTuple) (eCons (eIx (eVar 4) (eVar 5)) eNil)) eNil))))) eNil)))
def m__law_desks : Sm := (sSeq (sSet 3 (takE (frzE (eCall 2 f__law_names (eCons (frzE (eCall 2 f__law_mix (eCons (eVar 0) (eCons (eC (.int 31)) eNil)))) (eCons (frzE (eOp2 oAdd (eC (.int 1)) (frzE (eOp2 (sc2 gMod) (frzE (eCall 2 f__law_mix (eCons (eVar 0) (eCons (eC (.int 32)) eNil)))) (frzE (eOpN (n2 oMin2) (eCons (eC (.int 4)) (eCons (frzE (eOpN (n1 oLen) (eCons (eVar 1) eNil))) eNil)))))))) eNil)))))) (sSeq (sSet 4 (eLcN (iLTc (eVar 3)) [9] (gNm 9) yesT c0__law_desks)) (sSeq (sFor (iE (eCons (eVar 1) eNil)) (gTp 2 (gCn (gNm 5) (gCn (gNm 6) gNl))) b0__law_desks) (sSeq (sSet 8 (eLst eNil)) (sSeq (sFor (iE (eCons (eVar 3) eNil)) (gTp 2 (gCn (gNm 5) (gCn (gNm 9) gNl))) b1__law_desks) (sFz 8 (sRet (takE (eVar 8)))))))))
def f__law_desks : Fm := fnM 3 11 m__law_desks
def b0__law_plant : Sm := (sSeq (sSet 7 (takE (frzE (eCall 2 f__law_mix (eCons (eVar 1) (eCons (frzE (eOp2 oAdd (eC (.int 10)) (eVar 5))) eNil)))))) (sAct aAppend (qVar 4) (eCons (eTup (eCons (takE (eVar 6)) (eCons (takE (eIx (frzE (eLst (eCons (takE (eC .non)) (eCons (takE (eC .non)) (eCons (eOp2 oAdd (eC (.int 1)) (frzE (eOp2 (sc2 gMod) (frzE (eOp2 (sc2 gDiv) (eVar 7) (eC (.int 3)))) (eC (.int 30))))) eNil))))) (frzE (eOp2 (sc2 gMod) (eVar 7) (eC (.int 3)))))) eNil))) eNil)))
def c0__law_plant : Em := (eCall 2 f__law_greatest (eCons (eIx (eVar 18) (eC (.int 2))) (eCons (frzE (eOpN (n1 oLen) (eCons (eIx (eVar 18) (eC (.int 3))) eNil))) eNil)))
def ct0__law_plant : VL.Tm := (tst (eOp2 (sc2 gEq) (eIx (eVar 18) (eC (.int 1))) (eVar 6)))
def b1__law_plant : Sm := (sSeq (sSet 15 (frzE (eLcN (iLTc (eVar 13)) [18] (gNm 18) ct0__law_plant c0__law_plant))) (sAct aAppend (qVar 14) (eCons (eTup (eCons (takE (eVar 6)) (eCons (eOp2 oAdd (frzE (eOpN (n1 oMax) (eCons (frzE (eOp2 oAdd (frzE (eLst (eCons (takE (eC (.int 1))) eNil))) (eVar 15))) eNil))) (frzE (eOp2 (sc2 gMod) (frzE (eCall 2 f__law_mix (eCons (eVar 2) (eCons (frzE (eOp2 oAdd (eC (.int 20)) (eVar 5))) eNil)))) (eC (.int 3))))) eNil))) eNil)))
def b3__law_plant : Sm := (sIf (tst (eOp2 (sc2 (gB fun i j => decide (j < i))) (frzE (eOp2 (sc2 gMod) (frzE (eOp2 (sc2 gDiv) (eVar 7) (frzE (eOp2 oAdd (eVar 19) (eC (.int 7)))))) (eC (.int 3)))) (eC (.int 0)))) (sAct aAppend (qVar 16) (eCons (eTup (eCons (takE (eIx (eVar 18) (eC (.int 0)))) (eCons (takE (eIx (eVar 20) (eC (.int 0)))) (eCons (eOp2 oAdd (eC (.int 1)) (frzE (eOp2 (sc2 gMod) (frzE (eOp2 (sc2 gDiv) (eVar 7) (frzE (eOp2 oAdd (frzE (eOp2 oMul (eVar 19) (eVar 19))) (eC (.int 2)))))) (eC (.int 6))))) eNil)))) eNil)) sNx)
def b2__law_plant : Sm := (sSeq (sSet 7 (takE (frzE (eCall 2 f__law_mix (eCons (eVar 3) (eCons (frzE (eOp2 oAdd (eC (.int 110)) (eVar 5))) eNil)))))) (sSeq (sFz 4 (sFor (iE (eCons (eVar 4) eNil)) (gTp 2 (gCn (gNm 19) (gCn (gNm 20) gNl))) b3__law_plant)) (sIf (tst (eOp2 (sc2 gEq) (frzE (eOp2 (sc2 gMod) (frzE (eOp2 (sc2 gDiv) (eVar 7) (eC (.int 5)))) (eC (.int 4)))) (eC (.int 0)))) (sSeq (sAct aAppend (qVar 17) (eCons (eTup (eCons (takE (eIx (eVar 18) (eC (.int 0)))) (eCons (eOp2 (sc2 gMod) (frzE (eOp2 (sc2 gDiv) (eVar 7) (eC (.int 20)))) (eC (.int 9))) (eCons (eOp2 oAdd (eC (.int 9)) (frzE (eOp2 (sc2 gMod) (frzE (eOp2 (sc2 gDiv) (eVar 7) (eC (.int 180)))) (eC (.int 20))))) eNil)))) eNil)) (sAct aAppend (qVar 17) (eCons (eTup (eCons (takE (eIx (eVar 18) (eC (.int 0)))) (eCons (eOp2 oAdd (eC (.int 25)) (frzE (eOp2 (sc2 gMod) (frzE (eOp2 (sc2 gDiv) (eVar 7) (eC (.int 3600)))) (eC (.int 20))))) (eCons (eOp2 oAdd (eC (.int 50)) (frzE (eOp2 (sc2 gMod) (frzE (eOp2 (sc2 gDiv) (eVar 7) (eC (.int 72000)))) (eC (.int 40))))) eNil)))) eNil))) sNx)))
def u0__law_plant : Sm := (sPar3 1 2 3 (eCons (frzE (eCall 2 f__law_cell_at (eCons (eVar 0) (eCons (eC (.int 0)) eNil)))) (eCons (frzE (eCall 2 f__law_cell_at (eCons (eVar 0) (eCons (eC (.int 1)) eNil)))) (eCons (frzE (eCall 2 f__law_cell_at (eCons (eVar 0) (eCons (eC (.int 2)) eNil)))) eNil))))
def u1__law_plant : Sm := (sSet 4 (eLst eNil))
def u2__law_plant : Sm := (sFor (iE (eCons (frzE (eCall 2 f__law_names (eCons (eVar 1) (eCons (frzE (eOp2 oAdd (eC (.int 1)) (frzE (eOp2 (sc2 gMod) (frzE (eCall 2 f__law_mix (eCons (eVar 1) (eCons (eC (.int 1)) eNil)))) (eC (.int 4)))))) eNil)))) eNil)) (gTp 2 (gCn (gNm 5) (gCn (gNm 6) gNl))) b0__law_plant)
def u3__law_plant : Sm := (sSet 8 (takE (frzE (eOp2 oAdd (eC (.int 1)) (frzE (eOp2 (sc2 gMod) (frzE (eCall 2 f__law_mix (eCons (eVar 2) (eCons (eC (.int 2)) eNil)))) (eC (.int 3))))))))
def u4__law_plant : Sm := (sSet 9 (takE (frzE (eCall 2 f__law_names (eCons (frzE (eCall 2 f__law_mix (eCons (eVar 2) (eCons (eC (.int 4)) eNil)))) (eCons (frzE (eOp2 oAdd (eVar 8) (frzE (eOp2 (sc2 gMod) (frzE (eCall 2 f__law_mix (eCons (eVar 2) (eCons (eC (.int 5)) eNil)))) (eC (.int 4)))))) eNil))))))
def u5__law_plant : Sm := (sPar 10 11 (eCons (frzE (eSl (eVar 9) noP (someP (eVar 8)))) (eCons (frzE (eSl (eVar 9) (someP (eVar 8)) noP)) eNil)))
def u6__law_plant : Sm := (sSet 12 (takE (frzE (eOp2 oAdd (frzE (eSl (eVar 9) (someP (frzE (eOp2 (sc2 gMod) (frzE (eCall 2 f__law_mix (eCons (eVar 2) (eCons (eC (.int 6)) eNil)))) (frzE (eOpN (n1 oLen) (eCons (eVar 9) eNil)))))) noP)) (frzE (eSl (eVar 9) noP (someP (frzE (eOp2 (sc2 gMod) (frzE (eCall 2 f__law_mix (eCons (eVar 2) (eCons (eC (.int 6)) eNil)))) (frzE (eOpN (n1 oLen) (eCons (eVar 9) eNil))))))))))))
def u7__law_plant : Sm := (sSet 13 (takE (frzE (eCall 3 f__law_desks (eCons (eVar 3) (eCons (eVar 12) (eCons (eVar 11) eNil)))))))
def u8__law_plant : Sm := (sSet 14 (eLst eNil))
def u9__law_plant : Sm := (sFor (iE (eCons (eVar 11) eNil)) (gTp 2 (gCn (gNm 5) (gCn (gNm 6) gNl))) b1__law_plant)
def u10__law_plant : Sm := (sParO 16 17 (eCons (eLst eNil) (eCons (eLst eNil) eNil)))
def u11__law_plant : Sm := (sFor (iE (eCons (eVar 13) eNil)) (gTp 2 (gCn (gNm 5) (gCn (gNm 18) gNl))) b2__law_plant)
def u12__law_plant : Sm := (sFz 17 (sFz 16 (sFz 14 (sFz 4 (sRet (eDct (("kinds", (takE (eVar 4))) :: (("gates", (takE (eVar 10))) :: (("lines", (takE (eVar 14))) :: (("desks", (takE (eVar 13))) :: (("times", (takE (eVar 16))) :: (("hours", (takE (eVar 17))) :: (("paces", (eLst eNil)) :: [])))))))))))))
def m__law_plant : Sm := (sSeq u0__law_plant (sSeq u1__law_plant (sSeq u2__law_plant (sSeq u3__law_plant (sSeq u4__law_plant (sSeq u5__law_plant (sSeq u6__law_plant (sSeq u7__law_plant (sSeq u8__law_plant (sSeq u9__law_plant (sSeq u10__law_plant (sSeq u11__law_plant u12__law_plant))))))))))))
def f__law_plant : Fm := fnM 1 21 m__law_plant
def c0__law_alike (f__law_alike : Fm) : Em := (eCall 2 f__law_alike (eCons (eIx (eVar 0) (eVar 2)) (eCons (eIx (eVar 1) (eVar 2)) eNil)))
def m__law_alike (f__law_alike : Fm) : Sm := (sSeq (sIf (tst (eOp1 (oIsN false) (eVar 1))) (sRet (eOp1 (oIsN false) (eVar 0))) sNx) (sSeq (sIf (tru (frzE (eIsi "str" (eVar 1)))) (sRet (takE (eAnd (frzE (eIsi "str" (eVar 0))) (frzE (eOp2 (sc2 gEq) (eVar 0) (eVar 1)))))) sNx) (sSeq (sIf (tru (frzE (eIsi "int" (eVar 1)))) (sRet (takE (eAnd (frzE (eIsi "int" (eVar 0))) (eAnd (eNot (frzE (eIsi "bool" (eVar 0)))) (frzE (eOp2 (sc2 gEq) (eVar 0) (eVar 1))))))) sNx) (sSeq (sIf (tOr2 (tst (eOp2 (sc2 gNe) (frzE (eIsi "tuple" (eVar 1))) (frzE (eIsi "tuple" (eVar 0))))) (tst (eOp2 (sc2 gNe) (frzE (eIsi "list" (eVar 1))) (frzE (eIsi "list" (eVar 0)))))) (sRet (takE (eC (.bl false)))) sNx) (sRet (takE (eAnd (frzE (eOp2 (sc2 gEq) (frzE (eOpN (n1 oLen) (eCons (eVar 0) eNil))) (frzE (eOpN (n1 oLen) (eCons (eVar 1) eNil))))) (frzE (eOpN (n1 oAll) (eCons (frzE (eLcN (iR1 (eCons (frzE (eOpN (n1 oLen) (eCons (eVar 1) eNil))) eNil)) [2] (gNm 2) yesT (c0__law_alike f__law_alike))) eNil))))))))))
def r__law_alike : Nat → Fm
  | 0 => f0
  | n + 1 => fnM 2 3 (m__law_alike (r__law_alike n))
def f__law_alike : Fm := r__law_alike 6
def c0__law_entries : Em := (takE (eIx (eVar 11) (eC (.int 0))))
def c1__law_entries : Em := (eOp2 (sc2 gMod) (frzE (eOp2 oAdd (eVar 9) (frzE (eOp2 oMul (frzE (eOp2 oMul (eVar 12) (eVar 12))) (eC (.int 77)))))) (frzE (eOp2 (sc2 gPow) (eC (.int 10)) (eC (.int 6)))))
def b0__law_entries : Sm := (sSeq (sSet 7 (takE (frzE (eCall 2 f__law_mix (eCons (eVar 6) (eCons (eVar 5) eNil)))))) (sSeq (sSet 8 (takE (eIx (frzE (eLst (eCons (eOp2 (sc2 gMod) (frzE (eOp2 (sc2 gDiv) (eVar 7) (eC (.int 40)))) (eC (.int 90))) (eCons (eOp2 (sc2 gMod) (frzE (eOp2 (sc2 gDiv) (eVar 7) (eC (.int 40)))) (frzE (eOp2 (sc2 gPow) (eC (.int 10)) (eC (.int 6))))) eNil)))) (frzE (eOp2 (sc2 gMod) (frzE (eOp2 (sc2 gDiv) (eVar 7) (eC (.int 4)))) (eC (.int 2))))))) (sSeq (sSet 9 (takE (eIx (frzE (eLst (eCons (eOp2 (sc2 gMod) (frzE (eOp2 (sc2 gDiv) (eVar 7) (eC (.int 9)))) (eC (.int 60))) (eCons (eOp2 (sc2 gMod) (frzE (eOp2 (sc2 gDiv) (eVar 7) (eC (.int 9)))) (frzE (eOp2 (sc2 gPow) (eC (.int 10)) (eC (.int 6))))) (eCons (takE (eC (.int 0))) eNil))))) (frzE (eOp2 (sc2 gMod) (frzE (eOp2 (sc2 gDiv) (eVar 7) (eC (.int 8)))) (eC (.int 3))))))) (sIf (tst (eOp2 (sc2 (gB fun i j => decide (i < j))) (frzE (eOp2 (sc2 gMod) (eVar 7) (eC (.int 4)))) (eC (.int 2)))) (sAct aAppend (qVar 4) (eCons (eTup (eCons (takE (eIx (frzE (eLst (eCons (takE (eC (.str "come"))) (eCons (takE (eC (.str "spoil"))) eNil)))) (frzE (eOp2 (sc2 gMod) (eVar 7) (eC (.int 4)))))) (eCons (takE (eVar 8)) (eCons (takE (eVar 9)) eNil)))) eNil)) (sSeq (sSet 10 (frzE (eLcN (iR1 (eCons (frzE (eOp2 oAdd (eC (.int 1)) (frzE (eOp2 (sc2 gMod) (frzE (eOp2 (sc2 gDiv) (eVar 7) (eC (.int 16)))) (eC (.int 6)))))) eNil)) [12] (gNm 12) yesT c1__law_entries))) (sAct aAppend (qVar 4) (eCons (eTup (eCons (takE (eIx (frzE (eLst (eCons (takE (eC (.str "take"))) (eCons (takE (eC (.str "put"))) eNil)))) (frzE (eOp2 (sc2 (gI fun i j => i - j)) (frzE (eOp2 (sc2 gMod) (eVar 7) (eC (.int 4)))) (eC (.int 2)))))) (eCons (takE (eVar 8)) (eCons (takE (eIx (eVar 3) (frzE (eOp2 (sc2 gMod) (frzE (eOp2 (sc2 gDiv) (eVar 7) (eC (.int 96)))) (frzE (eOpN (n1 oLen) (eCons (eVar 3) eNil))))))) (eCons (eOpN (n1 oTuple) (eCons (eVar 10) eNil)) eNil))))) eNil)))))))
def m__law_entries : Sm := (sSeq (sSet 3 (takE (frzE (eOp2 oAdd (frzE (eOp2 oAdd (frzE (eLcN (iLTc (eIx (eVar 1) (eC (.str "desks")))) [11] (gNm 11) yesT c0__law_entries)) (frzE (eLst (eCons (takE (eC (.str "come"))) (eCons (takE (eC (.str "take"))) (eCons (takE (eC (.str "put"))) eNil))))))) (frzE (eCall 2 f__law_names (eCons (eVar 2) (eCons (eC (.int 3)) eNil)))))))) (sSeq (sSet 4 (eLst eNil)) (sSeq (sFor (iE (eCons (eVar 0) eNil)) (gTp 2 (gCn (gNm 5) (gCn (gNm 6) gNl))) b0__law_entries) (sFz 4 (sRet (takE (eVar 4)))))))
def f__law_entries : Fm := fnM 3 13 m__law_entries
def c0__law_entry_row : Em := (eOpN (n1 oStr) (eCons (eVar 1) eNil))
def m__law_entry_row : Sm := (sSeq (sIf (tst (eOp2 (sc2 gEq) (frzE (eOpN (n1 oLen) (eCons (eVar 0) eNil))) (eC (.int 3)))) (sRet (eOpM oJoin (eC (.str " ")) (eCons (frzE (eLst (eCons (eOpN (n1 oStr) (eCons (eIx (eVar 0) (eC (.int 1))) eNil)) (eCons (takE (eIx (eVar 0) (eC (.int 0)))) (eCons (eOpN (n1 oStr) (eCons (eIx (eVar 0) (eC (.int 2))) eNil)) eNil))))) eNil))) sNx) (sRet (eOpM oJoin (eC (.str " ")) (eCons (frzE (eOp2 oAdd (frzE (eLst (eCons (eOpN (n1 oStr) (eCons (eIx (eVar 0) (eC (.int 1))) eNil)) (eCons (takE (eIx (eVar 0) (eC (.int 0)))) (eCons (takE (eIx (eVar 0) (eC (.int 2)))) eNil))))) (frzE (eLcN (iLTc (eIx (eVar 0) (eC (.int 3)))) [1] (gNm 1) yesT c0__law_entry_row)))) eNil))))
def f__law_entry_row : Fm := fnM 1 2 m__law_entry_row
def m__law_is_refused : Sm := (sSeq (sIf (tOr2 (tNot1 (tru (frzE (eOp1 (isE1 "BadBook") (eVar 0))))) (tNot1 (tru (frzE (eOp1 isEV (eVar 0)))))) (sRet (takE (eC (.bl false)))) sNx) (sSeq (sIf (tru (frzE (eOp1 (isET ["BadDay", "BadPlant", "NoBound"]) (eVar 0)))) (sRet (takE (eC (.bl false)))) sNx) (sSeq (sIf (tOr2 (tNot1 (tru (frzE (eIsi "int" (eOp1 (xfO "place") (eVar 0)))))) (tOr2 (tru (frzE (eIsi "bool" (eOp1 (xfO "place") (eVar 0))))) (tNot1 (tru (frzE (eIsi "str" (eOp1 (xfO "word") (eVar 0)))))))) (sRet (takE (eC (.bl false)))) sNx) (sRet (eOp2 (sc2 gEq) (frzE (eTup (eCons (takE (eOp1 (xfO "place") (eVar 0))) (eCons (takE (eOp1 (xfO "word") (eVar 0))) eNil)))) (eVar 1))))))
def f__law_is_refused : Fm := fnM 2 2 m__law_is_refused
def c0__law_is_name : Em := (eOp2 (oIn false) (eVar 1) (eC (.str "abcdefghijklmnopqrstuvwxyz")))
def m__law_is_name : Sm := (sSeq (sIf (tNot1 (tst (eChain (sc2 (gB fun i j => decide (i ≤ j))) (sc2 (gB fun i j => decide (i ≤ j))) (eC (.int 1)) (frzE (eOpN (n1 oLen) (eCons (eVar 0) eNil))) (eC (.int 8))))) (sRet (takE (eC (.bl false)))) sNx) (sRet (eOpN (n1 oAll) (eCons (frzE (eLcN (iLTSc (eVar 0)) [1] (gNm 1) yesT c0__law_is_name)) eNil))))
def f__law_is_name : Fm := fnM 1 2 m__law_is_name
def c0__law_number : Em := (eOp2 (oIn false) (eVar 1) (eC (.str "0123456789")))
def m__law_number : Sm := (sSeq (sIf (tOr2 (tNot1 (tst (eChain (sc2 (gB fun i j => decide (i ≤ j))) (sc2 (gB fun i j => decide (i ≤ j))) (eC (.int 1)) (frzE (eOpN (n1 oLen) (eCons (eVar 0) eNil))) (eC (.int 6))))) (tAnd2 (tst (eOp2 (sc2 gEq) (eIx (eVar 0) (eC (.int 0))) (eC (.str "0")))) (tst (eOp2 (sc2 gNe) (eVar 0) (eC (.str "0")))))) (sRet (takE (eC .non))) sNx) (sSeq (sIf (tNot1 (tru (frzE (eOpN (n1 oAll) (eCons (frzE (eLcN (iLTSc (eVar 0)) [1] (gNm 1) yesT c0__law_number)) eNil))))) (sRet (takE (eC .non))) sNx) (sRet (eOpN (n1 oInt) (eCons (eVar 0) eNil)))))
def f__law_number : Fm := fnM 1 2 m__law_number
def c0__law_otherwise : Em := (takE (eVar 7))
def ct0__law_otherwise : VL.Tm := (tst (eOp2 (sc2 gNe) (eVar 7) (eC (.int 1))))
def u0__law_otherwise : Sm := (sSet 2 (eOpM oSplit (eVar 0) (eCons (eC (.str " ")) eNil)))
def u1__law_otherwise : Sm := (sSet 3 (takE (frzE (eOp2 (sc2 gDiv) (eVar 1) (eC (.int 5))))))
def u2__law_otherwise : Sm := (sSet 4 (takE (frzE (eOp2 (sc2 gMod) (eVar 3) (frzE (eOpN (n1 oLen) (eCons (eVar 2) eNil)))))))
def u3__law_otherwise : Sm := (sSet 5 (takE (frzE (eLst (eCons (takE (eC (.str "-1"))) (eCons (takE (eC (.str "01"))) (eCons (takE (eC (.str "1000000"))) (eCons (takE (eC (.str "x"))) (eCons (takE (eC (.str "+1"))) (eCons (takE (eC (.str "1.0"))) (eCons (takE (eC (.str "-"))) (eCons (takE (eC (.str "00"))) (eCons (takE (eC (.str "0x1"))) eNil)))))))))))))
def u4__law_otherwise : Sm := (sIf (tst (eOp2 (sc2 gEq) (frzE (eOp2 (sc2 gMod) (eVar 1) (eC (.int 5)))) (eC (.int 0)))) (sRet (eOpM oJoin (eC (.str " ")) (eCons (frzE (eOp2 oAdd (frzE (eSl (eVar 2) noP (someP (eVar 4)))) (frzE (eSl (eVar 2) (someP (frzE (eOp2 oAdd (eVar 4) (eC (.int 1))))) noP)))) eNil))) sNx)
def u5__law_otherwise : Sm := (sIf (tst (eOp2 (sc2 gEq) (frzE (eOp2 (sc2 gMod) (eVar 1) (eC (.int 5)))) (eC (.int 1)))) (sRet (eOpM oJoin (eC (.str " ")) (eCons (frzE (eOp2 oAdd (frzE (eOp2 oAdd (frzE (eSl (eVar 2) noP (someP (eVar 4)))) (frzE (eLst (eCons (takE (eIx (eVar 2) (eVar 4))) (eCons (takE (eIx (frzE (eLst (eCons (takE (eC (.str "7"))) (eCons (takE (eC (.str "a"))) eNil)))) (frzE (eOp2 (sc2 gMod) (frzE (eOp2 (sc2 gDiv) (eVar 3) (eC (.int 16)))) (eC (.int 2)))))) eNil)))))) (frzE (eSl (frzE (eSl (eVar 2) (someP (eVar 4)) noP)) (someP (eC (.int 1))) noP)))) eNil))) sNx)
def u6__law_otherwise : Sm := (sIf (tst (eOp2 (sc2 gEq) (frzE (eOp2 (sc2 gMod) (eVar 1) (eC (.int 5)))) (eC (.int 2)))) (sPut (qVar 2) (eC (.int 1)) (takE (eIx (frzE (eLst (eCons (takE (eC (.str "Come"))) (eCons (takE (eC (.str "go"))) (eCons (takE (eC (.str "taken"))) (eCons (takE (eC (.str "come"))) (eCons (takE (eC (.str "spoil"))) (eCons (takE (eC (.str "take"))) (eCons (takE (eC (.str "put"))) (eCons (takE (eC (.str "7"))) eNil)))))))))) (frzE (eOp2 (sc2 gMod) (eVar 3) (eC (.int 8))))))) (sIf (tAnd2 (tst (eOp2 (sc2 gEq) (frzE (eOp2 (sc2 gMod) (eVar 1) (eC (.int 5)))) (eC (.int 3)))) (tst (eOp2 (sc2 (gB fun i j => decide (j < i))) (frzE (eOpN (n1 oLen) (eCons (eVar 2) eNil))) (eC (.int 3))))) (sPut (qVar 2) (eC (.int 2)) (takE (eIx (frzE (eLst (eCons (takE (eC (.str "A"))) (eCons (takE (eC (.str "abcdefghi"))) (eCons (takE (eC (.str "a1"))) (eCons (takE (eC (.str "-"))) (eCons (takE (eC (.str "7"))) (eCons (takE (eC (.str "Desk"))) eNil)))))))) (frzE (eOp2 (sc2 gMod) (eVar 3) (eC (.int 6))))))) (sSeq (sSet 6 (frzE (eLcN (iR1 (eCons (frzE (eOpN (n1 oLen) (eCons (eVar 2) eNil))) eNil)) [7] (gNm 7) ct0__law_otherwise c0__law_otherwise))) (sPut (qVar 2) (eIx (eVar 6) (frzE (eOp2 (sc2 gMod) (eVar 3) (frzE (eOpN (n1 oLen) (eCons (eVar 6) eNil)))))) (takE (eIx (eVar 5) (frzE (eOp2 (sc2 gMod) (frzE (eOp2 (sc2 gDiv) (eVar 3) (eC (.int 16)))) (eC (.int 9))))))))))
def u7__law_otherwise : Sm := (sRet (eOpM oJoin (eC (.str " ")) (eCons (eVar 2) eNil)))
def m__law_otherwise : Sm := (sSeq u0__law_otherwise (sSeq u1__law_otherwise (sSeq u2__law_otherwise (sSeq u3__law_otherwise (sSeq u4__law_otherwise (sSeq u5__law_otherwise (sSeq u6__law_otherwise u7__law_otherwise)))))))
def f__law_otherwise : Fm := fnM 2 8 m__law_otherwise
def c0__law_told : Em := (eCall 1 f__law_number (eCons (eVar 3) eNil))
def m__law_told : Sm := (sSeq (sIf (tOr2 (tst (eOp2 (sc2 (gB fun i j => decide (i < j))) (frzE (eOpN (n1 oLen) (eCons (eVar 0) eNil))) (eC (.int 3)))) (tOr2 (tst (eOp1 (oIsN false) (frzE (eCall 1 f__law_number (eCons (eIx (eVar 0) (eC (.int 0))) eNil))))) (tst (eOp2 (oIn true) (eIx (eVar 0) (eC (.int 1))) (frzE (eTup (eCons (takE (eC (.str "come"))) (eCons (takE (eC (.str "spoil"))) (eCons (takE (eC (.str "take"))) (eCons (takE (eC (.str "put"))) eNil)))))))))) (sRet (takE (eC .non))) sNx) (sSeq (sSet 1 (takE (frzE (eOp2 (oIn false) (eIx (eVar 0) (eC (.int 1))) (frzE (eTup (eCons (takE (eC (.str "take"))) (eCons (takE (eC (.str "put"))) eNil)))))))) (sSeq (sIf (tOr2 (tAnd2 (tru (eVar 1)) (tOr2 (tst (eOp2 (sc2 (gB fun i j => decide (i < j))) (frzE (eOpN (n1 oLen) (eCons (eVar 0) eNil))) (eC (.int 4)))) (tNot1 (tru (frzE (eCall 1 f__law_is_name (eCons (eIx (eVar 0) (eC (.int 2))) eNil))))))) (tAnd2 (tNot1 (tru (eVar 1))) (tst (eOp2 (sc2 (gB fun i j => decide (j < i))) (frzE (eOpN (n1 oLen) (eCons (eVar 0) eNil))) (eC (.int 3)))))) (sRet (takE (eC .non))) sNx) (sSeq (sSet 2 (frzE (eLcN (iLTc (frzE (eSl (eVar 0) (someP (frzE (eOp2 oAdd (eC (.int 2)) (frzE (eOpN (n1 oInt) (eCons (eVar 1) eNil)))))) noP))) [3] (gNm 3) yesT c0__law_told))) (sSeq (sIf (tst (eOp2 (oIn false) (eC .non) (eVar 2))) (sRet (takE (eC .non))) sNx) (sSeq (sIf (tru (eVar 1)) (sRet (eTup (eCons (takE (eIx (eVar 0) (eC (.int 1)))) (eCons (eCall 1 f__law_number (eCons (eIx (eVar 0) (eC (.int 0))) eNil)) (eCons (takE (eIx (eVar 0) (eC (.int 2)))) (eCons (eOpN (n1 oTuple) (eCons (eVar 2) eNil)) eNil)))))) sNx) (sRet (eTup (eCons (takE (eIx (eVar 0) (eC (.int 1)))) (eCons (eCall 1 f__law_number (eCons (eIx (eVar 0) (eC (.int 0))) eNil)) (eCons (takE (eIx (eVar 2) (eC (.int 0)))) eNil)))))))))))
def f__law_told : Fm := fnM 1 4 m__law_told
def c0__law_read : Em := (takE (eVar 6))
def ct0__law_read : VL.Tm := (tst (eOp2 (sc2 gNe) (eVar 6) (eC (.str ""))))
def b0__law_read : Sm := (sSeq (sSet 4 (frzE (eLcN (iLTc (frzE (eOpM oSplit (eVar 3) (eCons (eC (.str " ")) eNil)))) [6] (gNm 6) ct0__law_read c0__law_read))) (sIf (tst (eOp2 (sc2 gNe) (eVar 4) (frzE (eLst eNil)))) (sSeq (sSet 5 (takE (frzE (eCall 1 f__law_told (eCons (eVar 4) eNil))))) (sSeq (sIf (tst (eOp1 (oIsN false) (eVar 5))) (sFz 1 (sRet (eTup (eCons (eTup (eCons (takE (eVar 2)) (eCons (takE (eC (.str "row"))) eNil))) (eCons (takE (eVar 1)) eNil))))) sNx) (sAct aAppend (qVar 1) (eCons (takE (eVar 5)) eNil)))) sNx))
def m__law_read : Sm := (sSeq (sSet 1 (eLst eNil)) (sSeq (sFor (iE (eCons (eVar 0) eNil)) (gTp 2 (gCn (gNm 2) (gCn (gNm 3) gNl))) b0__law_read) (sFz 1 (sRet (eTup (eCons (takE (eC .non)) (eCons (takE (eVar 1)) eNil)))))))
def f__law_read : Fm := fnM 1 7 m__law_read
def b0_law : Sm := (sSeq (sSet 4 (eOp2 oAdd (eVar 4) (frzE (eSl (frzE (eLst (eCons (takE (eC (.str ""))) (eCons (takE (eC (.str " "))) eNil)))) noP (someP (frzE (eOp2 (sc2 gDiv) (frzE (eOp2 (sc2 gMod) (frzE (eCall 2 f__law_mix (eCons (eVar 2) (eCons (frzE (eOp2 oAdd (eVar 5) (eC (.int 5)))) eNil)))) (eC (.int 6)))) (eC (.int 4))))))))) (sAct aAppend (qVar 4) (eCons (eCall 1 f__law_entry_row (eCons (eVar 6) eNil)) eNil)))
def c0_law : Em := (takE (eVar 5))
def ct0_law : VL.Tm := (tst (eOp2 (sc2 (gB fun i j => decide (j < i))) (frzE (eOpN (n1 oLen) (eCons (frzE (eOpM oSplit (eIx (eVar 7) (eVar 5)) (eCons (eC (.str " ")) eNil))) eNil))) (eC (.int 2))))
def b1_law : Sm := (sSeq (sSet 9 (frzE (eLcN (iR1 (eCons (frzE (eOpN (n1 oLen) (eCons (eVar 7) eNil))) eNil)) [5] (gNm 5) ct0_law c0_law))) (sIf (tst (eOp2 (sc2 gNe) (eVar 9) (frzE (eLst eNil)))) (sSeq (sSet 10 (takE (eIx (eVar 9) (frzE (eOp2 (sc2 gMod) (frzE (eOp2 (sc2 gDiv) (eVar 8) (eC (.int 7)))) (frzE (eOpN (n1 oLen) (eCons (eVar 9) eNil)))))))) (sPut (qVar 7) (eVar 10) (eCall 2 f__law_otherwise (eCons (eIx (eVar 7) (eVar 10)) (eCons (frzE (eOp2 (sc2 gDiv) (eVar 8) (eC (.int 640)))) eNil))))) sNx))
def u0_law : Sm := (sSet 1 (takE (frzE (eCall 1 f__law_plant (eCons (eVar 0) eNil)))))
def u1_law : Sm := (sPar 2 3 (eCons (frzE (eCall 2 f__law_mix (eCons (frzE (eCall 2 f__law_cell_at (eCons (eVar 0) (eCons (eC (.int 3)) eNil)))) (eCons (eC (.int 7)) eNil)))) (eCons (frzE (eCall 2 f__law_mix (eCons (frzE (eCall 2 f__law_cell_at (eCons (eVar 0) (eCons (eC (.int 4)) eNil)))) (eCons (eC (.int 8)) eNil)))) eNil)))
def u2_law : Sm := (sSet 4 (eLst eNil))
def u3_law : Sm := (sFor (iE (eCons (frzE (eCall 3 f__law_entries (eCons (frzE (eSl (eVar 0) (someP (eC (.int 5))) (someP (eC (.int 63))))) (eCons (eVar 1) (eCons (eVar 2) eNil))))) eNil)) (gTp 2 (gCn (gNm 5) (gCn (gNm 6) gNl))) b0_law)
def u4_law : Sm := (sSet 7 (eOpN (n1 oList) (eCons (eVar 4) eNil)))
def u5_law : Sm := (sFor (iLT (frzE (eSl (frzE (eLst (eCons (takE (eVar 2)) (eCons (takE (eVar 3)) eNil)))) noP (someP (frzE (eOp2 oAdd (eC (.int 1)) (frzE (eOp2 (sc2 gMod) (frzE (eOp2 (sc2 gDiv) (eVar 3) (eC (.int 3)))) (eC (.int 2)))))))))) (gNm 8) b1_law)
def u6_law : Sm := (sFz 4 (sFz 7 (sAsg (frzE (eCall 1 f__law_read (eCons (eVar 7) eNil))) (gTp 2 (gCn (gNm 11) (gCn (gNm 12) gNl))))))
def u7_law : Sm := (sAsg (frzE (eTup (eCons (takE (eC .non)) (eCons (takE (eC .non)) eNil)))) (gTp 2 (gCn (gNm 13) (gCn (gNm 14) gNl))))
def u8_law : Sm := (sTry 15 (sSet 13 (takE (frzE (eCall 1 f_read_book (eCons (frzE (eOpM oJoin (eC (.str "\n")) (eCons (eVar 7) eNil))) eNil))))) (rCall 1 x_read_book (eCons (frzE (eOpM oJoin (eC (.str "\n")) (eCons (eVar 7) eNil))) eNil)) (sSet 14 (takE (eVar 15))))
def u9_law : Sm := (sIf (tOr2 (tAnd2 (tst (eOp1 (oIsN true) (eVar 11))) (tNot1 (tru (frzE (eCall 2 f__law_is_refused (eCons (eVar 14) (eCons (eVar 11) eNil))))))) (tAnd2 (tst (eOp1 (oIsN false) (eVar 11))) (tNot1 (tru (frzE (eCall 2 f__law_alike (eCons (eVar 13) (eCons (eVar 12) eNil)))))))) (sRet (takE (eC (.bl false)))) sNx)
def u10_law : Sm := (sRet (eCall 2 f__law_alike (eCons (frzE (eCall 1 f_read_book (eCons (frzE (eOpM oJoin (eC (.str "\n")) (eCons (eVar 4) eNil))) eNil))) (eCons (eIx (frzE (eCall 1 f__law_read (eCons (eVar 4) eNil))) (eC (.int 1))) eNil))))
def m_law : Sm := (sSeq u0_law (sSeq u1_law (sSeq u2_law (sSeq u3_law (sSeq u4_law (sSeq u5_law (sSeq u6_law (sSeq u7_law (sSeq u8_law (sSeq u9_law u10_law))))))))))
def f_law : Fm := fnM 1 16 m_law
end Mr
end
namespace Pt
open PySem PySem.Spec PyProof.Rows L2 VL
/-- a text by its signs -/
def tx (l : List Nat) : Str := ⟨l.toArray⟩
def cps (x : Str) : List Nat := x.cps.toList
def wD (w : List Nat) : D := .str (tx w)
@[simp] theorem cps_tx (l : List Nat) : cps (tx l) = l := by simp [cps, tx]
@[simp] theorem tx_cps (x : Str) : tx (cps x) = x := by simp [cps, tx]
theorem tx_inj {a b : List Nat} (h : tx a = tx b) : a = b := by have := congrArg cps h; simpa using this
@[simp] theorem tx_len (l : List Nat) : (tx l).length = l.length := by simp [tx, Str.length]
@[simp] theorem tx_cl (l : List Nat) : (tx l).cps.toList = l := by simp [tx]
theorem lit (s : String) : Str.ofString s = tx (s.toList.map Char.toNat) := Str.ofString_eq_toList s
theorem tx_app (a b : List Nat) : tx a ++ tx b = tx (a ++ b) := by
  have : (tx a ++ tx b : Str) = ⟨(tx a).cps ++ (tx b).cps⟩ := rfl
  rw [this]
  simp [tx]
theorem beq_tx (a b : List Nat) : (tx a == tx b) = (a == b) := by
  by_cases h : a = b
  · rw [h]; simp
  · rw [beq_eq_false_iff_ne.mpr h, beq_eq_false_iff_ne.mpr fun z => h (tx_inj z)]
theorem tl_cps (x : Str) : TL.tl x = cps x := rfl
def joinT (s : Nat) : List (List Nat) → List Nat
  | [] => []
  | [p] => p
  | p :: q :: r => p ++ s :: joinT s (q :: r)
theorem join_tx (s : Nat) (ps : List (List Nat)) : Txt.join (tx [s]) (ps.map tx) = tx (joinT s ps) := by
  have e : cps (Txt.join (tx [s]) (ps.map tx)) = joinT s ps := by
    rw [← tl_cps, TL.join_eq, TL.tl_join]
    have h1 : TL.tl (tx [s]) = [s] := by rw [tl_cps]; simp
    have h2 : (ps.map tx).map TL.tl = ps := by
      rw [List.map_map]
      conv => rhs; rw [← List.map_id ps]
      exact List.map_congr_left fun a _ => by show TL.tl (tx a) = a; rw [tl_cps]; simp
    rw [h1, h2]
    induction ps with
    | nil => rfl
    | cons p ps ih =>
      cases ps with
      | nil => rfl
      | cons q r =>
        show p ++ ([s] ++ TL.joinL [s] (q :: r)) = p ++ s :: joinT s (q :: r)
        rw [ih (by rw [List.map_map]; conv => { rhs; rw [← List.map_id (q :: r)] }; exact List.map_congr_left fun a _ => by show TL.tl (tx a) = a; rw [tl_cps]; simp)]
        rfl
  rw [← e]; simp
def splitT (s : Nat) : List Nat → List (List Nat)
  | [] => [[]]
  | c :: t => if c = s then [] :: splitT s t else match splitT s t with
    | p :: ps => (c :: p) :: ps
    | [] => [[c]]
theorem splitT_ne (s : Nat) : ∀ t : List Nat, splitT s t ≠ []
  | [] => by simp [splitT]
  | c :: t => by
    rw [splitT]
    split
    · simp
    · split <;> simp
theorem splitT_free (s : Nat) : ∀ t : List Nat, ∀ p ∈ splitT s t, s ∉ p
  | [], p, hp => by simp [splitT] at hp; simp [hp]
  | c :: t, p, hp => by
    have ih := splitT_free s t
    rw [splitT] at hp
    split at hp
    · rcases List.mem_cons.mp hp with rfl | hp
      · simp
      · exact ih p hp
    · rename_i hc
      split at hp
      · rename_i q qs hq
        rcases List.mem_cons.mp hp with rfl | hp
        · have := ih q (by rw [hq]; simp)
          simp only [List.mem_cons, not_or]
          exact ⟨fun z => hc z.symm, this⟩
        · exact ih p (by rw [hq]; simp [hp])
      · simp at hp
        subst hp
        simp [Ne.symm hc]
theorem join_splitT (s : Nat) : ∀ t : List Nat, joinT s (splitT s t) = t
  | [] => rfl
  | c :: t => by
    have ih := join_splitT s t
    have hne := splitT_ne s t
    rw [splitT]
    split
    · rename_i hc
      subst hc
      cases h : splitT c t with
      | nil => exact absurd h hne
      | cons q r =>
        rw [h] at ih
        show [] ++ c :: joinT c (q :: r) = _
        rw [ih]; rfl
    · cases h : splitT s t with
      | nil => exact absurd h hne
      | cons q r =>
        rw [h] at ih
        cases r with
        | nil => simp only [joinT] at ih ⊢; rw [ih]
        | cons q2 r =>
          simp only [joinT] at ih ⊢
          rw [← ih]; rfl
theorem split_tx (s : Nat) (hs : s < 256) (t : List Nat) : Txt.split (tx t) (tx [s]) = (splitT s t).map tx := by
  have e : tx t = Txt.join (tx [s]) ((splitT s t).map tx) := by rw [join_tx, join_splitT]
  rw [e]
  refine TL.split_join (s := s) (S := []) (by rw [tl_cps]; simp) ?_ (fun z => splitT_ne s t (List.map_eq_nil_iff.mp z)) fun p hp => ?_
  · simp [tx, hs]
  · obtain ⟨q, hq, rfl⟩ := List.mem_map.mp hp
    rw [tl_cps, cps_tx]
    exact splitT_free s t q hq
theorem splitT_part (s : Nat) : ∀ (p t : List Nat), s ∉ p → splitT s (p ++ s :: t) = p :: splitT s t
  | [], t, _ => by show splitT s (s :: t) = _; rw [splitT, if_pos rfl]
  | c :: p, t, h => by
    simp only [List.mem_cons, not_or] at h
    rw [List.cons_append, splitT, if_neg fun z => h.1 z.symm, splitT_part s p t h.2]
theorem splitT_last (s : Nat) : ∀ (p : List Nat), s ∉ p → splitT s p = [p]
  | [], _ => rfl
  | c :: p, h => by
    simp only [List.mem_cons, not_or] at h
    rw [splitT, if_neg fun z => h.1 z.symm, splitT_last s p h.2]
theorem splitT_join (s : Nat) : ∀ (ps : List (List Nat)), ps ≠ [] → (∀ p ∈ ps, s ∉ p) → splitT s (joinT s ps) = ps
  | [], h, _ => absurd rfl h
  | [p], _, h => splitT_last s p (h p (by simp))
  | p :: q :: r, _, h => by
    show splitT s (p ++ s :: joinT s (q :: r)) = _
    rw [splitT_part s p _ (h p (by simp)), splitT_join s (q :: r) (by simp) fun x hx => h x (by simp [hx])]
theorem splitT_len (s : Nat) : ∀ t : List Nat, (splitT s t).length ≤ t.length + 1
  | [] => by simp [splitT]
  | c :: t => by
    have ih := splitT_len s t
    rw [splitT]
    split
    · simp; exact ih
    · split
      · rename_i q qs h
        rw [h] at ih
        simp at ih ⊢; omega
      · simp
def wordsT (t : List Nat) : List (List Nat) := (splitT 32 t).filter fun w => !w.isEmpty
theorem wordsT_bl (t : List Nat) : wordsT (32 :: t) = wordsT t := by
  unfold wordsT
  rw [splitT, if_pos rfl, List.filter_cons_of_neg (by simp)]
theorem wordsT_bls (t : List Nat) : ∀ n : Nat, wordsT (List.replicate n 32 ++ t) = wordsT t
  | 0 => rfl
  | n + 1 => by rw [List.replicate_succ, List.cons_append, wordsT_bl, wordsT_bls t n]
theorem wordsT_part (w t : List Nat) (h : 32 ∉ w) (hne : w ≠ []) : wordsT (w ++ 32 :: t) = w :: wordsT t := by
  unfold wordsT
  rw [splitT_part 32 w t h, List.filter_cons_of_pos (by cases w <;> simp at hne ⊢)]
theorem wordsT_last (w : List Nat) (h : 32 ∉ w) (hne : w ≠ []) : wordsT w = [w] := by
  unfold wordsT
  rw [splitT_last 32 w h, List.filter_cons_of_pos (by cases w <;> simp at hne ⊢)]
  rfl
theorem wordsT_nil : wordsT [] = [] := rfl
theorem wordsT_rep (n : Nat) : wordsT (List.replicate n 32) = [] := by
  have := wordsT_bls [] n
  rw [List.append_nil] at this
  rw [this]; rfl
/-- words, n + 1 blanks between, m behind -/
def wideT (n : Nat) : List (List Nat) → List Nat
  | [] => []
  | [p] => p
  | p :: q :: r => p ++ (List.replicate (n + 1) 32 ++ wideT n (q :: r))
theorem wordsT_wide (n m : Nat) : ∀ (ws : List (List Nat)), (∀ w ∈ ws, 32 ∉ w ∧ w ≠ []) → wordsT (wideT n ws ++ List.replicate m 32) = ws
  | [], _ => by show wordsT ([] ++ _) = _; rw [List.nil_append, wordsT_rep]
  | [p], h => by
    obtain ⟨h1, h2⟩ := h p (by simp)
    show wordsT (p ++ List.replicate m 32) = _
    cases m with
    | zero => rw [List.replicate_zero, List.append_nil, wordsT_last p h1 h2]
    | succ m => rw [List.replicate_succ, wordsT_part p _ h1 h2, wordsT_rep]
  | p :: q :: r, h => by
    obtain ⟨h1, h2⟩ := h p (by simp)
    show wordsT (p ++ (List.replicate (n + 1) 32 ++ wideT n (q :: r)) ++ List.replicate m 32) = _
    rw [List.replicate_succ, List.cons_append, List.append_assoc, List.cons_append, wordsT_part p _ h1 h2, List.append_assoc, wordsT_bls, wordsT_wide n m (q :: r) fun w hw => h w (by simp [hw])]
theorem wide0 : ∀ ws : List (List Nat), wideT 0 ws = joinT 32 ws
  | [] => rfl
  | [p] => rfl
  | p :: q :: r => by
    show p ++ (List.replicate 1 32 ++ wideT 0 (q :: r)) = p ++ 32 :: joinT 32 (q :: r)
    rw [wide0 (q :: r)]; rfl
def numT (n : Nat) : List Nat := TL.numL n
theorem str_num (n : Nat) : Str.ofString (toString ((n : Nat) : Int)) = tx (numT n) := by
  have := TL.tl_num n
  rw [tl_cps] at this
  rw [← tx_cps (Str.ofString _), this]; rfl
theorem numT_free (n s : Nat) (h : s < 48 ∨ 57 < s) : s ∉ numT n := TL.numL_free h
theorem numT_ne (n : Nat) : numT n ≠ [] := TL.numL_ne n
theorem numT_len (n : Nat) (h : n < 1000000) : (numT n).length ≤ 6 := TL.numL_len (k := 6) (by omega) (by omega)
theorem numT_dig (n : Nat) : ∀ c ∈ numT n, 48 ≤ c ∧ c ≤ 57 := TL.numL_digits n
theorem numT_int (n : Nat) (h : n < 1000000) : intText? (tx (numT n)) = some (n : Int) := by
  rw [← str_num]; exact TL.int_num (by have := numT_len n h; unfold numT at this; omega)
theorem numT_head (n : Nat) (h : n ≠ 0) : ∃ c r, numT n = c :: r ∧ c ≠ 48 := by
  induction n using Nat.strongRecOn with
  | _ n ih =>
    by_cases h10 : n < 10
    · exact ⟨48 + n, [], TL.numL_lt h10, by omega⟩
    · obtain ⟨c, r, e, hc⟩ := ih (n / 10) (by omega) (by omega)
      refine ⟨c, r ++ [48 + n % 10], ?_, hc⟩
      show TL.numL n = _
      rw [TL.numL_step (by omega)]
      show numT (n / 10) ++ _ = _
      rw [e]; rfl
theorem numT_zero : numT 0 = [48] := TL.numL_lt (by omega)
/-- a name -/
def nameT (w : List Nat) : Prop := 1 ≤ w.length ∧ w.length ≤ 8 ∧ ∀ c ∈ w, 97 ≤ c ∧ c ≤ 122
theorem nameT_ne {w : List Nat} (h : nameT w) : w ≠ [] := fun z => by have := h.1; rw [z] at this; simp at this
theorem nameT_free {w : List Nat} (h : nameT w) (s : Nat) (hs : s < 97 ∨ 122 < s) : s ∉ w := fun z => by have := h.2.2 s z; omega
end Pt
namespace Pt
open PySem PySem.Spec PyProof.Rows L2 VL Mr
variable {s : SV} {r : VL.Env} {a b c : Em} {x y : O} {env : VL.Env}
theorem ch_ii {f g : Int → Int → Bool} {i j k : Int} {c : Em} (hc : c (s :: r) = some (.frz (.int k))) (ha : a (s :: r) = some (.frz (.int i))) (hb : b (s :: r) = some (.frz (.int j))) :
    eChain (sc2 (gB f)) (sc2 (gB g)) a b c (s :: r) = some (.frz (.bl (f i j && g j k))) := by
  unfold eChain
  rw [ha]
  show ((b (s :: r)).bind _) = _
  rw [hb]
  simp only [Option.bind_some, sc2_s, toD_frz, gB_i, fr_s]
  cases f i j with
  | true => simp [hc]
  | false => simp
def strI (o : O) : Option (List D) := match o.toD with
  | .str z => some (z.cps.toList.map fun c => .str ⟨#[c]⟩)
  | _ => none
@[simp] theorem iLTSc_c : iLTSc a (s :: r) = it1 (fun o => ((o.litems).or o.titems).or (strI o)) (a (s :: r)) := by
  unfold iLTSc iS
  rw [iLTc_c]
  cases a (s :: r) <;> rfl
theorem str_items (w : List Nat) : (((O.frz (.str (tx w))).litems).or (O.frz (.str (tx w))).titems).or (strI (.frz (.str (tx w)))) = some (w.map fun c => D.str (tx [c])) := by
  have h1 : (O.frz (.str (tx w))).litems = none := rfl
  have h2 : (O.frz (.str (tx w))).titems = none := rfl
  rw [h1, h2, Option.none_or, Option.none_or]
  unfold strI
  rw [toD_frz]
  show some ((tx w).cps.toList.map _) = _
  rw [tx_cl]
  rfl
theorem oIn_sg (neg : Bool) (c : Nat) (z : Str) : oIn neg (.frz (.str (tx [c]))) (.frz (.str z)) = some (.frz (.bl (neg ^^ decide (c ∈ cps z)))) := by
  unfold oIn orO
  rw [sc2_s, sc2_s, toD_frz, toD_frz]
  have h1 : gInS neg (.str (tx [c])) (.str z) = none := rfl
  have h2 : gInT neg (.str (tx [c])) (.str z) = some (.bl (neg ^^ decide (c ∈ cps z))) := rfl
  rw [h1, h2]
  rfl
theorem bl_lit : Str.ofString " " = tx [32] := lit " "
theorem nl_lit : Str.ofString "\n" = tx [10] := lit "\n"
theorem em_lit : Str.ofString "" = tx [] := lit ""
theorem ne_tx (w : List Nat) : (tx w != tx []) = !w.isEmpty := by
  unfold bne; rw [beq_tx]; cases w <;> rfl
theorem strs_wD (ws : List (List Nat)) : ws.map wD = (ws.map tx).map D.str := by rw [List.map_map]; rfl
theorem ev_words (t : List Nat) (h : t.length ≤ 50000) : f_words_of [.frz (.str (tx t))] = some (newL ((wordsT t).map wD), [.frz (.str (tx t))]) := by
  have sp : oSplit (.frz (.str (tx t))) [.frz (.str (tx [32]))] = some (newL ((splitT 32 t).map wD)) := by
    rw [oSplit_s (by simp) (by simp; omega), split_tx 32 (by omega), strs_wD]
  have hl := splitT_len 32 t
  have hc := lc1_fm (m := c0_words_of) (t := ct0_words_of) (g := gNm 1) (vs := [1]) (env := [.frz (.str (tx t)), .dead]) wD (fun w => !w.isEmpty) (fun w => .frz (wD w)) (splitT 32 t) rfl (by omega) fun w hw => by
    refine ⟨[.frz (.str (tx t)), .frz (wD w)], by simp, ?_, fun _ => by simp [c0_words_of]⟩
    simp [ct0_words_of, wD, em_lit, ne_tx]
  refine fn1 (e := [.frz (.str (tx t)), .dead]) ?_
  show m_words_of [.frz (.str (tx t)), .dead] = _
  simp only [m_words_of, sRet_c, eLcN_c, iLTc_c, frzE_c, eOpM_c, eVar_c, List.getElem?_cons_zero, rdS_frz, eCons_c, eC_c, bl_lit, eNil_c, cons2_s, oM_s, sp, fz1_s, toD_newL, it1_s, litems_f, Option.some_or, hc, rt1_s]
  unfold newL wordsT
  rw [List.map_map]
  rfl
theorem cl_words (t : List Nat) (h : t.length ≤ 50000) : cl 1 f_words_of (some [.frz (.str (tx t))]) = some (newL ((wordsT t).map wD)) := cl1 (ev_words t h)
theorem letters : ∀ c, 97 ≤ c → c ≤ 122 → c ∈ cps (Str.ofString "abcdefghijklmnopqrstuvwxyz") := by
  intro c h1 h2
  rw [lit, cps_tx]
  have : ("abcdefghijklmnopqrstuvwxyz".toList.map Char.toNat) = [97,98,99,100,101,102,103,104,105,106,107,108,109,110,111,112,113,114,115,116,117,118,119,120,121,122] := by decide
  rw [this]
  simp only [List.mem_cons, List.not_mem_nil, or_false]
  omega
theorem figures : ∀ c, 48 ≤ c → c ≤ 57 → c ∈ cps (Str.ofString "0123456789") := by
  intro c h1 h2
  rw [lit, cps_tx]
  have : ("0123456789".toList.map Char.toNat) = [48,49,50,51,52,53,54,55,56,57] := by decide
  rw [this]
  simp only [List.mem_cons, List.not_mem_nil, or_false]
  omega
theorem oAll_true (bs : List Bool) (h : bs.all id = true) : oAll (.frz (.lst (bs.map D.bl))) = some (.frz (.bl true)) := by
  unfold oAll; rw [oBls_l]; simp only [Option.map_some, h]
theorem oLen_tx (w : List Nat) (h : w.length ≤ 16777216) : oLen (.frz (.str (tx w))) = some (.frz (.int w.length)) := by
  have hz : sizeLine = 16777216 := sizeLine_eq
  unfold oLen
  rw [sc1_s, toD_frz]
  unfold D.len
  simp only [tx_len]
  rw [if_pos (by rw [hz]; exact h)]
  rfl
theorem all_in (w : List Nat) (z : Str) (hz : ∀ c ∈ w, c ∈ cps z) (m : Em) (env : VL.Env) (e1 e2 : SV) (hm : ∀ c : Nat, m [e1, .frz (.str (tx [c]))] = oIn false (.frz (.str (tx [c]))) (.frz (.str z))) (he : env = [e1, e2]) (hn : noAlsB env = true) (hl : w.length ≤ 100000) (hp : plS e1 = true) :
    (fz1 (lc1 [1] (gNm 1) yesT m env (some (w.map fun c => D.str (tx [c]))))).bind (fun o => oAll o) = some (.frz (.bl true)) := by
  subst he
  have hc := lc1_m (m := m) (g := gNm 1) (vs := [1]) (env := [e1, e2]) (fun (c : Nat) => D.str (tx [c])) (fun _ => O.frz (.bl true)) w hn hl fun c hc => by
    refine ⟨[e1, .frz (.str (tx [c]))], by simp [hp], ?_⟩
    rw [hm, oIn_sg]
    simp [hz c hc]
  rw [hc]
  simp only [fz1_s, toD_lst, Option.bind_some, List.map_map]
  have : (w.map (O.toD ∘ fun _ => O.frz (.bl true))) = (w.map fun _ => true).map D.bl := by
    rw [List.map_map]; exact List.map_congr_left fun _ _ => by simp
  rw [this]
  exact oAll_true _ (by simp)
theorem starts0 (c : Nat) (r : List Nat) (h : c ≠ 48) : Txt.startswith (tx (c :: r)) (tx [48]) = false := by
  unfold Txt.startswith
  have : PySem.Builtin.Str.subAt (tx (c :: r)) (tx [48]) 0 = false := by
    unfold PySem.Builtin.Str.subAt
    simp [tx, h, Str.length]
  rw [this, Bool.and_false]
theorem ze_lit : Str.ofString "0" = tx [48] := lit "0"
theorem ev_num (n : Nat) (h : n < 1000000) : f_number_in [.frz (.str (tx (numT n)))] = some (.frz (.int n), [.frz (.str (tx (numT n)))]) := by
  have h6 := numT_len n h
  have h1 : 1 ≤ (numT n).length := by have := numT_ne n; cases hh : numT n with
    | nil => exact absurd hh this
    | cons _ _ => simp
  have ln := oLen_tx (numT n) (by omega)
  have ch := ch_ii (s := .frz (.str (tx (numT n)))) (r := [.dead]) (f := fun i j => decide (i ≤ j)) (g := fun i j => decide (i ≤ j)) (a := eC (.int 1)) (b := frzE (eOpN (n1 oLen) (eCons (eVar 0) eNil))) (c := eC (.int 6)) (i := 1) (j := (numT n).length) (k := 6) rfl rfl (by simp [ln])
  have cb : (decide ((1 : Int) ≤ (numT n).length) && decide (((numT n).length : Int) ≤ 6)) = true := by simp; omega
  have al := all_in (numT n) (Str.ofString "0123456789") (fun c hc => figures c (numT_dig n c hc).1 (numT_dig n c hc).2) c0_number_in [.frz (.str (tx (numT n))), .dead] (.frz (.str (tx (numT n)))) .dead (fun c => by simp [c0_number_in]) rfl rfl (by omega) rfl
  obtain ⟨ol, e1, e2⟩ := Option.bind_eq_some_iff.mp al
  have oi : oInt (.frz (.str (tx (numT n)))) = some (.frz (.int n)) := by
    unfold oInt
    rw [toD_frz]
    simp only [tx_len]
    rw [if_pos (by omega), numT_int n h]
    rfl
  have t0 : tNot1 (tst (eChain (sc2 (gB fun i j => decide (i ≤ j))) (sc2 (gB fun i j => decide (i ≤ j))) (eC (.int 1)) (frzE (eOpN (n1 oLen) (eCons (eVar 0) eNil))) (eC (.int 6)))) [.frz (.str (tx (numT n))), .dead] = some false := by
    rw [tNot1_c, tst_c, ch, cb]
    simp
  have t1 : tAnd2 (tst (eOp2 (sc2 gNe) (eVar 0) (eC (.str "0")))) (tru (frzE (eOpM oStarts (eVar 0) (eCons (eC (.str "0")) eNil)))) [.frz (.str (tx (numT n))), .dead] = some false := by
    by_cases hn : n = 0
    · subst hn
      have hb : (tx (numT 0) != tx [48]) = false := by rw [numT_zero]; simp
      simp [ze_lit, hb]
    · obtain ⟨c, rr, e, hc⟩ := numT_head n hn
      have hs := starts0 c rr hc
      rw [← e] at hs
      have hb : (tx (numT n) != tx [48]) = true := by
        unfold bne
        rw [beq_tx, e]
        simp
        exact .inl hc
      simp [ze_lit, hb, hs]
  have tt : tOr2 (tNot1 (tst (eChain (sc2 (gB fun i j => decide (i ≤ j))) (sc2 (gB fun i j => decide (i ≤ j))) (eC (.int 1)) (frzE (eOpN (n1 oLen) (eCons (eVar 0) eNil))) (eC (.int 6))))) (tAnd2 (tst (eOp2 (sc2 gNe) (eVar 0) (eC (.str "0")))) (tru (frzE (eOpM oStarts (eVar 0) (eCons (eC (.str "0")) eNil))))) [.frz (.str (tx (numT n))), .dead] = some false := by
    rw [tOr2_c, t0, or2_f, t1]
  have t2 : tNot1 (tru (frzE (eOpN (n1 oAll) (eCons (frzE (eLcN (iLTSc (eVar 0)) [1] (gNm 1) yesT c0_number_in)) eNil)))) [.frz (.str (tx (numT n))), .dead] = some false := by
    simp only [tNot1_c, tru_c, eOpN_c, eCons_c, frzE_c, eLcN_c, iLTSc_c, eVar_c, List.getElem?_cons_zero, rdS_frz, it1_s, str_items, e1, eNil_c, cons2_s, bN_s, n1_s, e2, fz1_s, toD_frz, tru1_b, not1_s, Bool.not_true]
  refine fn1 (e := [.frz (.str (tx (numT n))), .dead]) ?_
  show m_number_in [.frz (.str (tx (numT n))), .dead] = _
  rw [m_number_in, sSeq_c, sIf_c, tt, if1_f, sNx_c, thS_n, sSeq_c, sIf_c, t2, if1_f, sNx_c, thS_n]
  simp only [sRet_c, eOpN_c, eCons_c, eVar_c, List.getElem?_cons_zero, rdS_frz, eNil_c, cons2_s, bN_s, n1_s, oi, rt1_s]
theorem cl_num (n : Nat) (h : n < 1000000) : cl 1 f_number_in (some [.frz (.str (tx (numT n)))]) = some (.frz (.int n)) := cl1 (ev_num n h)
theorem oStr_n (n : Nat) (h : n < 1000000) : oStr (.frz (.int n)) = some (.frz (.str (tx (numT n)))) := by
  have : ((n : Int)).natAbs.log2 < 1920 := by
    rw [Int.natAbs_natCast]
    by_cases h0 : n = 0
    · subst h0; decide
    · have : n.log2 < 20 := (Nat.log2_lt h0).mpr (by omega)
      omega
  unfold oStr
  rw [toD_frz]
  show (if _ then some (O.frz (D.str (Str.ofString (toString (n : Int))))) else none) = _
  rw [if_pos this, str_num]
@[simp] theorem oStr_s (z : Str) : oStr (.frz (.str z)) = some (.frz (.str z)) := by unfold oStr; simp
theorem join_wD (s : Nat) (ws : List (List Nat)) (h : (ws.map List.length).sum + ws.length ≤ 16777216) : oJoin (.frz (.str (tx [s]))) [.frz (.lst (ws.map wD))] = some (.frz (.str (tx (joinT s ws)))) := by
  rw [strs_wD, oJoin_l, join_tx]
  have : ((ws.map tx).map (·.length)) = ws.map List.length := by rw [List.map_map]; exact List.map_congr_left fun _ _ => by simp
  rw [this]
  simpa using h
theorem oJoin_eq {z : Str} {x y : O} (h : oStrs x = oStrs y) : oJoin (.frz (.str z)) [x] = oJoin (.frz (.str z)) [y] := by
  unfold oJoin; simp only [toD_frz, h]
theorem oStrs_n (ds : List D) : oStrs (newL ds) = oStrs (.frz (.lst ds)) := by
  unfold oStrs; simp only [toD_newL, toD_frz]
end Pt
namespace Pt
open PySem PySem.Spec PyProof.Rows L2 VL Mr
inductive Ent where
  | cs (sp : Bool) (t g : Nat) | tp (pu : Bool) (t : Nat) (desk : List Nat) (goods : List Nat)
def kwS : Bool → Str
  | false => Str.ofString "come"
  | true => Str.ofString "spoil"
def kwP : Bool → Str
  | false => Str.ofString "take"
  | true => Str.ofString "put"
def kwSc : Bool → List Nat
  | false => [99, 111, 109, 101]
  | true => [115, 112, 111, 105, 108]
def kwPc : Bool → List Nat
  | false => [116, 97, 107, 101]
  | true => [112, 117, 116]
theorem kwS_tx : ∀ b, kwS b = tx (kwSc b)
  | false => lit "come"
  | true => lit "spoil"
theorem kwP_tx : ∀ b, kwP b = tx (kwPc b)
  | false => lit "take"
  | true => lit "put"
def Ent.d : Ent → D
  | .cs b t g => .tup [.str (kwS b), .int t, .int g]
  | .tp b t k gs => .tup [.str (kwP b), .int t, wD k, .tup (gs.map fun (g : Nat) => D.int g)]
def Ent.ws : Ent → List (List Nat)
  | .cs b t g => [numT t, kwSc b, numT g]
  | .tp b t k gs => numT t :: kwPc b :: k :: gs.map numT
def Ent.ok : Ent → Prop
  | .cs _ t g => t < 1000000 ∧ g < 1000000
  | .tp _ t k gs => t < 1000000 ∧ nameT k ∧ gs ≠ [] ∧ gs.length ≤ 10 ∧ ∀ g ∈ gs, g < 1000000
theorem sum_le (ws : List (List Nat)) (h : ∀ w ∈ ws, w.length ≤ 8) : (ws.map List.length).sum ≤ 8 * ws.length := by
  induction ws with
  | nil => simp
  | cons w ws ih =>
    have := h w (by simp)
    have := ih fun v hv => h v (by simp [hv])
    simp; omega
theorem ws_ok {e : Ent} (h : e.ok) : (∀ w ∈ e.ws, w.length ≤ 8 ∧ 32 ∉ w ∧ 10 ∉ w ∧ w ≠ []) ∧ e.ws.length ≤ 13 ∧ 3 ≤ e.ws.length := by
  have num : ∀ n, n < 1000000 → (numT n).length ≤ 8 ∧ 32 ∉ numT n ∧ 10 ∉ numT n ∧ numT n ≠ [] := fun n hn => ⟨by have := numT_len n hn; omega, numT_free n 32 (by omega), numT_free n 10 (by omega), numT_ne n⟩
  cases e with
  | cs b t g =>
    refine ⟨fun w hw => ?_, by simp [Ent.ws], by simp [Ent.ws]⟩
    simp only [Ent.ws, List.mem_cons, List.not_mem_nil, or_false] at hw
    rcases hw with rfl | rfl | rfl
    · exact num t h.1
    · cases b <;> simp [kwSc]
    · exact num g h.2
  | tp b t k gs =>
    obtain ⟨h1, h2, h3, h4, h5⟩ := h
    have hg : 1 ≤ gs.length := by cases gs with
      | nil => exact absurd rfl h3
      | cons _ _ => simp
    refine ⟨fun w hw => ?_, by simp [Ent.ws]; omega, by simp [Ent.ws]⟩
    simp only [Ent.ws, List.mem_cons, List.mem_map] at hw
    rcases hw with rfl | rfl | rfl | ⟨g, hg, rfl⟩
    · exact num t h1
    · cases b <;> simp [kwPc]
    · exact ⟨h2.2.1, nameT_free h2 32 (by omega), nameT_free h2 10 (by omega), nameT_ne h2⟩
    · exact num g (h5 g hg)
theorem ws_join {e : Ent} (h : e.ok) : oJoin (.frz (.str (tx [32]))) [.frz (.lst (e.ws.map wD))] = some (.frz (.str (tx (joinT 32 e.ws)))) := by
  obtain ⟨h1, h2, _⟩ := ws_ok h
  refine join_wD 32 e.ws ?_
  have := sum_le e.ws fun w hw => (h1 w hw).1
  omega
def rowT (e : Ent) : List Nat := joinT 32 e.ws
theorem joinT_len (s : Nat) : ∀ ws : List (List Nat), (joinT s ws).length ≤ (ws.map List.length).sum + ws.length
  | [] => by simp [joinT]
  | [p] => by simp [joinT]
  | p :: q :: r => by
    have := joinT_len s (q :: r)
    simp only [joinT, List.length_append, List.length_cons, List.map_cons, List.sum_cons] at this ⊢
    omega
theorem rowT_len {e : Ent} (h : e.ok) : (rowT e).length ≤ 200 := by
  obtain ⟨h1, h2, _⟩ := ws_ok h
  have a := joinT_len 32 e.ws
  have b := sum_le e.ws fun w hw => (h1 w hw).1
  unfold rowT; omega
theorem joinT_free (s c : Nat) (hc : c ≠ s) : ∀ ws : List (List Nat), (∀ w ∈ ws, c ∉ w) → c ∉ joinT s ws
  | [], _ => by simp [joinT]
  | [p], h => h p (by simp)
  | p :: q :: r, h => by
    simp only [joinT, List.mem_append, List.mem_cons, not_or]
    exact ⟨h p (by simp), hc, joinT_free s c hc (q :: r) fun w hw => h w (by simp [hw])⟩
theorem rowT_free {e : Ent} (h : e.ok) : 10 ∉ rowT e := joinT_free 32 10 (by omega) _ fun w hw => ((ws_ok h).1 w hw).2.2.1
theorem str_goods (gs : List Nat) (env : VL.Env) (i : Nat) (m : Em) (h : ∀ g ∈ gs, g < 1000000) (hl : gs.length ≤ 100000) (hn : noAlsB env = true)
    (hm : ∀ g ∈ gs, ∃ e, gNm i (.frz (.int (g : Int))) (wipeE env [i]) = some e ∧ m e = some (.frz (wD (numT g)))) : lc1 [i] (gNm i) yesT m env (some (gs.map fun (g : Nat) => D.int g)) = some (newL ((gs.map numT).map wD)) := by
  have hc := lc1_m (m := m) (g := gNm i) (vs := [i]) (env := env) (fun (g : Nat) => D.int g) (fun g => O.frz (wD (numT g))) gs hn hl hm
  rw [hc]
  unfold newL
  rw [List.map_map, List.map_map]
  rfl
end Pt
namespace Pt
open PySem PySem.Spec PyProof.Rows L2 VL Mr
inductive Rds : List (List Nat) → List Ent → Prop
  | nil : Rds [] []
  | skip {r rs es} : wordsT r = [] → r.length ≤ 50000 → Rds rs es → Rds (r :: rs) es
  | take {r rs e es} : wordsT r = e.ws → r.length ≤ 50000 → e.ok → Rds rs es → Rds (r :: rs) (e :: es)
abbrev g_rb : Gm := gTp 2 (gCn (gNm 2) (gCn (gNm 3) gNl))
end Pt
namespace Pt
open PySem PySem.Spec PyProof.Rows L2 VL Mr
theorem ev_lrow (e : Ent) (h : e.ok) : f__law_entry_row [.frz e.d] = some (.frz (.str (tx (rowT e))), [.frz e.d]) := by
  have jn := ws_join h
  cases e with
  | cs b t g =>
    have st := oStr_n t h.1
    have sg := oStr_n g h.2
    have kx := kwS_tx b
    refine fn1 (e := [.frz (Ent.cs b t g).d, .dead]) ?_
    show m__law_entry_row [.frz (Ent.cs b t g).d, .dead] = _
    have jn' : oJoin (.frz (.str (tx [32]))) [.frz (.lst [.str (tx (numT t)), .str (kwS b), .str (tx (numT g))])] = some (.frz (.str (tx (rowT (Ent.cs b t g))))) := by
      rw [kx]; exact jn
    simp [m__law_entry_row, Ent.d, st, sg, bl_lit, jn']
  | tp b t k gs =>
    obtain ⟨h1, h2, h3, h4, h5⟩ := h
    have g1 : 1 ≤ gs.length := by cases gs with
      | nil => exact absurd rfl h3
      | cons _ _ => simp
    have st := oStr_n t h1
    have kx := kwP_tx b
    have sgs := str_goods gs [.frz (Ent.tp b t k gs).d, .dead] 1 c0__law_entry_row h5 (by omega) rfl fun g hg => by
      refine ⟨[.frz (Ent.tp b t k gs).d, .frz (.int g)], by simp, ?_⟩
      simp [c0__law_entry_row, oStr_n g (h5 g hg), wD]
    have i0 : ix2 (some (.frz (Ent.tp b t k gs).d)) (some (.frz (.int 0))) = some (.frz (.str (kwP b))) := ix_t0
    have i1 : ix2 (some (.frz (Ent.tp b t k gs).d)) (some (.frz (.int 1))) = some (.frz (.int t)) := ix_t1
    have i2 : ix2 (some (.frz (Ent.tp b t k gs).d)) (some (.frz (.int 2))) = some (.frz (wD k)) := ix_t2
    have i3 : ix2 (some (.frz (Ent.tp b t k gs).d)) (some (.frz (.int 3))) = some (.frz (.tup (gs.map fun (g : Nat) => D.int g))) := ix_t3
    have lt : ((O.frz (.tup (gs.map fun (g : Nat) => D.int g))).litems).or (O.frz (.tup (gs.map fun (g : Nat) => D.int g))).titems = some (gs.map fun (g : Nat) => D.int g) := rfl
    have ln : oLen (.frz (Ent.tp b t k gs).d) = some (.frz (.int 4)) := rfl
    have ad : oAdd (.frz (.lst [.str (tx (numT t)), .str (kwP b), wD k])) (.frz (.lst ((gs.map numT).map wD))) = some (newL ((Ent.tp b t k gs).ws.map wD)) := by
      rw [oAdd_ll (by simp; omega), kx]; rfl
    have jn' : oJoin (.frz (.str (tx [32]))) [.frz (.lst ((Ent.tp b t k gs).ws.map wD))] = some (.frz (.str (tx (rowT (Ent.tp b t k gs))))) := jn
    refine fn1 (e := [.frz (Ent.tp b t k gs).d, .dead]) ?_
    show m__law_entry_row [.frz (Ent.tp b t k gs).d, .dead] = _
    have tt : tst (eOp2 (sc2 gEq) (frzE (eOpN (n1 oLen) (eCons (eVar 0) eNil))) (eC (.int 3))) [.frz (Ent.tp b t k gs).d, .dead] = some false := by
      simp [ln]
    rw [m__law_entry_row, sSeq_c, sIf_c, tt, if1_f, sNx_c, thS_n]
    simp only [sRet_c, eOpM_c, eC_c, bl_lit, eCons_c, frzE_c, eOp2_c, eLst_c, eOpN_c, eIx_c, eVar_c, List.getElem?_cons_zero, rdS_frz, i0, i1, i2, i3, eNil_c, cons2_s, bN_s, n1_s, st, takE_c, tk1_f, lst1_s, List.length_cons, List.length_nil, fz1_s, toD_lst, List.map_cons, List.map_nil, toD_frz, eLcN_c, iLTc_c, it1_s, lt, sgs, toD_newL, ap2_s, oM_s]
    rw [lst1_s (by simp)]
    simp only [fz1_s, toD_lst, List.map_cons, List.map_nil, toD_frz, ap2_s, ad, toD_newL, cons2_s, oM_s, jn', rt1_s]
theorem cl_lrow (e : Ent) (h : e.ok) : cl 1 f__law_entry_row (some [.frz e.d]) = some (.frz (.str (tx (rowT e)))) := cl1 (ev_lrow e h)
def bookD (es : List Ent) : D := .lst (es.map Ent.d)
def bookT (es : List Ent) : List Nat := joinT 10 (es.map rowT)
def Oks (es : List Ent) : Prop := (∀ e ∈ es, e.ok) ∧ es.length ≤ 60
theorem words_row {e : Ent} (h : e.ok) : wordsT (rowT e) = e.ws := by
  have := wordsT_wide 0 0 e.ws fun w hw => ⟨((ws_ok h).1 w hw).2.1, ((ws_ok h).1 w hw).2.2.2⟩
  rw [List.replicate_zero, List.append_nil, wide0] at this
  exact this
theorem Rds.rows {es : List Ent} (h : ∀ e ∈ es, e.ok) : Rds (es.map rowT) es := by
  induction es with
  | nil => exact .nil
  | cons e es ih =>
    have he := h e (by simp)
    exact .take (words_row he) (by have := rowT_len he; omega) he (ih fun x hx => h x (by simp [hx]))
theorem Rds.text {es : List Ent} (h : Oks es) : Rds (splitT 10 (bookT es)) es := by
  by_cases h0 : es = []
  · subst h0
    exact .skip rfl (by simp) .nil
  · unfold bookT
    rw [splitT_join 10 _ (by simp [h0]) fun p hp => by obtain ⟨e, he, rfl⟩ := List.mem_map.mp hp; exact rowT_free (h.1 e he)]
    exact Rds.rows h.1
end Pt
namespace Pt
open PySem PySem.Spec PyProof.Rows L2 VL Mr
def cellAt (ns : List Int) (k : Nat) : Int := ns.getD k 0
def mix (c k : Int) : Int := ((c % 2147483629 + k * k * 7919 + 11) * 48271 % 2147483647) * ((c % 2147483629 + k * k * 7919 + 11) * 48271 % 2147483647) % 1999999973
theorem mix_nn (c k : Int) : 0 ≤ mix c k := Int.emod_nonneg _ (by decide)
theorem ev_cell (ns : List Int) (k : Nat) : f__law_cell_at [.frz (.scr ns), .frz (.int k)] = some (.frz (.int (cellAt ns k)), [.frz (.scr ns), .frz (.int k)]) := by
  refine fn2 (e := [.frz (.scr ns), .frz (.int k)]) ?_
  by_cases h : k < ns.length
  · have e : ix2 (some (.frz (.scr ns))) (some (.frz (.int k))) = some (.frz (.int (cellAt ns k))) := ix2_s (by rw [atI_pos rfl h]; simp [cellAt, h])
    simp [m__law_cell_at, h, e]
  · have e : cellAt ns k = 0 := by simp [cellAt, h]
    simp [m__law_cell_at, h, e]
theorem cl_cell (ns : List Int) (k : Nat) : cl 2 f__law_cell_at (some [.frz (.scr ns), .frz (.int k)]) = some (.frz (.int (cellAt ns k))) := cl2 (ev_cell ns k)
theorem ev_mix (c k : Int) (h0 : 0 ≤ k) (h1 : k < 2 ^ 64) : f__law_mix [.frz (.int c), .frz (.int k)] = some (.frz (.int (mix c k)), [.frz (.int c), .frz (.int k)]) := by
  have b1 : oMul (.frz (.int k)) (.frz (.int k)) = some (.frz (.int (k * k))) := oMul_i (by omega)
  have b2 : ∀ i : Int, oMul (.frz (.int i)) (.frz (.int 7919)) = some (.frz (.int (i * 7919))) := fun i => oMul_i (by omega)
  have b3 : ∀ i : Int, oMul (.frz (.int i)) (.frz (.int 48271)) = some (.frz (.int (i * 48271))) := fun i => oMul_i (by omega)
  have b4 : ∀ i : Int, oMul (.frz (.int (i % 2147483647))) (.frz (.int (i % 2147483647))) = some (.frz (.int ((i % 2147483647) * (i % 2147483647)))) := fun i => oMul_i (by omega)
  refine fn2 (e := [.frz (.int c), .frz (.int k), .frz (.int ((c % 2147483629 + k * k * 7919 + 11) * 48271 % 2147483647))]) ?_
  simp [m__law_mix, b1, b2, b3, b4, mix]
theorem cl_mix (c k : Int) (h0 : 0 ≤ k) (h1 : k < 2 ^ 64) : cl 2 f__law_mix (some [.frz (.int c), .frz (.int k)]) = some (.frz (.int (mix c k))) := cl2 (ev_mix c k h0 h1)
theorem enumD_go {α : Type} (f : α → D) (xs : List α) (k : Nat) : ((xs.map f).mapIdx fun (i : Nat) d => D.tup [.int ((k + i : Nat) : Int), d]) = (xs.zipIdx k).map fun p => D.tup [.int (p.2 : Int), f p.1] := by
  induction xs generalizing k with
  | nil => rfl
  | cons x xs ih =>
    rw [List.map_cons, List.mapIdx_cons, List.zipIdx_cons, List.map_cons, ← ih (k + 1)]
    congr 1
    apply List.ext_getElem?
    intro j
    simp only [List.getElem?_mapIdx]
    cases (xs.map f)[j]? with
    | none => rfl
    | some d => simp; omega
theorem enumD_map {α : Type} (f : α → D) (xs : List α) : enumD (xs.map f) = (xs.zipIdx).map fun p => D.tup [.int (p.2 : Int), f p.1] := by
  have := enumD_go f xs 0
  simp only [Nat.zero_add] at this
  exact this
theorem it_enum {α : Type} (f : α → D) (xs : List α) : itE seqF (some [.frz (.lst (xs.map f))]) = some ((xs.zipIdx).map fun p => D.tup [.int (p.2 : Int), f p.1]) := by
  show some (enumD (xs.map f)) = _
  rw [enumD_map]
theorem oAdd_tx (a b : List Nat) (h : a.length + b.length ≤ 16777216) : oAdd (.frz (.str (tx a))) (.frz (.str (tx b))) = some (.frz (.str (tx (a ++ b)))) := by
  have e1 : sc2 (gI fun i j => i + j) (.frz (.str (tx a))) (.frz (.str (tx b))) = none := by rw [sc2_s, toD_frz, toD_frz]; rfl
  have e2 : sc2 gCatS (.frz (.str (tx a))) (.frz (.str (tx b))) = some (.frz (.str (tx (a ++ b)))) := by
    rw [sc2_s, toD_frz, toD_frz]
    unfold gCatS
    simp only [tx_len]
    rw [if_pos (by rw [sizeLine_eq]; exact h), tx_app]
    rfl
  unfold oAdd orO
  rw [e1, e2]
  rfl
theorem rep_tx (a : List Nat) (n : Nat) : repS (tx a) (n : Int) = tx (List.replicate n a).flatten := by
  unfold repS
  simp [tx]
theorem oMul_tx (a : List Nat) (n : Nat) (h : n ≤ 1000) (ha : a.length ≤ 1000) : oMul (.frz (.str (tx a))) (.frz (.int n)) = some (.frz (.str (tx (List.replicate n a).flatten))) := by
  have e1 : sc2 gMul (.frz (.str (tx a))) (.frz (.int n)) = none := by rw [sc2_s, toD_frz, toD_frz]; rfl
  have e2 : sc2 gRepS (.frz (.str (tx a))) (.frz (.int n)) = some (.frz (.str (tx (List.replicate n a).flatten))) := by
    rw [sc2_s, toD_frz, toD_frz]
    unfold gRepS
    simp only [tx_len]
    rw [if_pos ⟨by omega, by omega, ha⟩, rep_tx]
    rfl
  unfold oMul orO
  rw [e1, e2]
  rfl
theorem rep1 (c n : Nat) : (List.replicate n [c]).flatten = List.replicate n c := by
  induction n with
  | zero => rfl
  | succ n ih => rw [List.replicate_succ, List.flatten_cons, ih, List.replicate_succ]; rfl
theorem oMul_c (c n : Nat) (h : n ≤ 1000) : oMul (.frz (.str (tx [c]))) (.frz (.int n)) = some (.frz (.str (tx (List.replicate n c)))) := by
  rw [oMul_tx [c] n h (by simp), rep1]
theorem oMul_cI (c : Nat) {k : Int} {n : Nat} (e : k = n) (h : n ≤ 1000) : oMul (.frz (.str (tx [c]))) (.frz (.int k)) = some (.frz (.str (tx (List.replicate n c)))) := by
  rw [e, oMul_c c n h]
/-- a text's sign, by its place; its parts -/
theorem ix_tx (w : List Nat) {k : Int} (i c : Nat) (e : k = i) (h : w[i]? = some c) (hw : w.length ≤ 1000) : ix2 (some (.frz (.str (tx w)))) (some (.frz (.int k))) = some (.frz (.str (tx [c]))) := by
  obtain ⟨h1, h2⟩ := List.getElem?_eq_some_iff.mp h
  have : ixO (.frz (.str (tx w))) (.int k) = some (.frz (.str (tx [c]))) := by
    unfold ixO
    simp only [tx_len, tx_cl]
    rw [if_pos (by rw [sizeLine_eq]; omega), atI_pos e h1, h2]
    rfl
  show (ixO _ (O.frz (.int k)).toD).or _ = _
  rw [toD_frz, this]
  rfl
theorem sl_tx (w : List Nat) (lo hi : Option Int) (hw : w.length ≤ 1000) : sl3 (some (.frz (.str (tx w)))) (some lo) (some hi) = some (.frz (.str (tx (cutA w lo hi)))) := by
  show slO (.frz (.str (tx w))) lo hi = _
  have h1 : (O.frz (.str (tx w))).litems = none := rfl
  have h2 : (O.frz (.str (tx w))).titems = none := rfl
  unfold slO
  rw [h1, h2]
  simp only [tx_len]
  rw [if_pos (by rw [sizeLine_eq]; omega)]
  unfold cutS cutA
  simp only [tx_len, tx_cl]
  rfl
theorem cut_from {α : Type} (xs : List α) (n : Nat) : cutA xs (some (n : Int)) none = xs.drop n := by
  have h0 : HT.sIx xs.length xs.length none = xs.length := rfl
  unfold cutA
  rw [sIx_nat, h0]
  rcases Nat.le_total n xs.length with h | h
  · rw [Nat.min_eq_left h, List.take_of_length_le (by simp)]
  · rw [Nat.min_eq_right h, List.drop_of_length_le (Nat.le_refl _), List.drop_of_length_le h, List.take_nil]
theorem cut_fromI {α : Type} (xs : List α) {k : Int} {n : Nat} (e : k = n) : cutA xs (some k) none = xs.drop n := by rw [e, cut_from]
end Pt
namespace Pt
open PySem PySem.Spec PyProof.Rows L2 VL Mr
def abc : List Nat := [97,98,99,100,101,102,103,104,105,106,107,108,109,110,111,112,113,114,115,116,117,118,119,120,121,122]
theorem abc_lit : Str.ofString "abcdefghijklmnopqrstuvwxyz" = tx abc := by rw [lit]; exact congrArg tx (by decide)
theorem abc_ix : ∀ i, i < 26 → abc[i]? = some (97 + i) := by decide
def namesA (M many : Nat) : List (List Nat) := (List.range many).map fun k => List.replicate (many - k) (97 + M / 3 % 26)
def stemT (M : Nat) : List Nat := List.replicate (1 + M / 78 % 8) (97 + M / 4992 % 26)
def placeT (M : Nat) : Nat := M / 624 % (1 + M / 78 % 8)
def namesB (M many : Nat) : List (List Nat) := (List.range many).map fun k => (stemT M).take (placeT M) ++ [97 + (M / 3 + 5 * k) % 26] ++ (stemT M).drop (placeT M + 1)
def namesM (M many : Nat) : List (List Nat) := if M % 3 = 0 ∧ many < 9 then namesA M many else namesB M many
def namesT (c : Int) (many : Nat) : List (List Nat) := namesM (mix c 3).toNat many
theorem names_len (c : Int) (many : Nat) : (namesT c many).length = many := by
  unfold namesT namesM
  split <;> simp [namesA, namesB]
theorem placeT_lt (M : Nat) : placeT M < 1 + M / 78 % 8 := Nat.mod_lt _ (by omega)
theorem stemT_len (M : Nat) : (stemT M).length = 1 + M / 78 % 8 := List.length_replicate
theorem names_ok (c : Int) (many : Nat) : ∀ w ∈ namesT c many, nameT w := by
  unfold namesT namesM
  split
  · rename_i h
    intro w hw
    obtain ⟨k, hk, rfl⟩ := List.mem_map.mp hw
    rw [List.mem_range] at hk
    refine ⟨by rw [List.length_replicate]; omega, by rw [List.length_replicate]; omega, fun x hx => ?_⟩
    rw [(List.mem_replicate.mp hx).2]; omega
  · intro w hw
    obtain ⟨k, hk, rfl⟩ := List.mem_map.mp hw
    have hp := placeT_lt (mix c 3).toNat
    have hs := stemT_len (mix c 3).toNat
    have hl : ((stemT (mix c 3).toNat).take (placeT (mix c 3).toNat) ++ [97 + ((mix c 3).toNat / 3 + 5 * k) % 26] ++ (stemT (mix c 3).toNat).drop (placeT (mix c 3).toNat + 1)).length = 1 + (mix c 3).toNat / 78 % 8 := by
      rw [List.length_append, List.length_append, List.length_take, List.length_drop, hs]
      simp only [List.length_cons, List.length_nil]; omega
    have hm : ∀ x ∈ stemT (mix c 3).toNat, 97 ≤ x ∧ x ≤ 122 := fun x hx => by rw [(List.mem_replicate.mp hx).2]; omega
    refine ⟨by rw [hl]; omega, by rw [hl]; omega, fun x hx => ?_⟩
    rcases List.mem_append.mp hx with hx | hx
    · rcases List.mem_append.mp hx with hx | hx
      · exact hm x (List.mem_of_mem_take hx)
      · rw [List.mem_singleton.mp hx]; omega
    · exact hm x (List.mem_of_mem_drop hx)
theorem it_range {n : Nat} (h : n ≤ 100000) : itR (some [.frz (.int (n : Int))]) = some ((List.range n).map fun (i : Nat) => D.int i) := by
  rw [itR_i (by omega), Int.toNat_natCast, rng_map]
theorem it_rangeI {k : Int} {n : Nat} (e : k = n) (h : n ≤ 100000) : itR (some [.frz (.int k)]) = some ((List.range n).map fun (i : Nat) => D.int i) := by rw [e, it_range h]
theorem ev_names (c : Int) (many : Nat) (h : many ≤ 100) : f__law_names [.frz (.int c), .frz (.int many)] = some (newL ((namesT c many).map wD), [.frz (.int c), .frz (.int many)]) := by
  have mm : mix c 3 = ((mix c 3).toNat : Int) := (Int.toNat_of_nonneg (mix_nn c 3)).symm
  have cm := cl_mix c 3 (by omega) (by omega)
  rw [mm] at cm
  unfold namesT
  revert cm
  generalize (mix c 3).toNat = M
  intro cm
  have s0 : sSet 2 (takE (eC (.str "abcdefghijklmnopqrstuvwxyz"))) [.frz (.int c), .frz (.int many), .dead, .dead, .dead, .dead, .dead, .dead] = some (.nx [.frz (.int c), .frz (.int many), .frz (.str (tx abc)), .dead, .dead, .dead, .dead, .dead]) := by
    simp [abc_lit]
  have s1 : sSet 3 (takE (frzE (eCall 2 f__law_mix (eCons (eVar 0) (eCons (eC (.int 3)) eNil))))) [.frz (.int c), .frz (.int many), .frz (.str (tx abc)), .dead, .dead, .dead, .dead, .dead] = some (.nx [.frz (.int c), .frz (.int many), .frz (.str (tx abc)), .frz (.int M), .dead, .dead, .dead, .dead]) := by
    simp [cm]
  have te : tAnd2 (tst (eOp2 (sc2 gEq) (frzE (eOp2 (sc2 gMod) (eVar 3) (eC (.int 3)))) (eC (.int 0)))) (tst (eOp2 (sc2 (gB fun i j => decide (i < j))) (eVar 1) (eC (.int 9)))) [.frz (.int c), .frz (.int many), .frz (.str (tx abc)), .frz (.int M), .dead, .dead, .dead, .dead] = some (decide (M % 3 = 0 ∧ many < 9)) := by
    by_cases h3 : M % 3 = 0
    · have : ((M : Int) % 3 == 0) = true := by rw [beq_iff_eq]; omega
      by_cases h9 : many < 9
      · have h9' : (many : Int) < 9 := by omega
        simp [this, h3, h9, h9']
      · have h9' : ¬ (many : Int) < 9 := by omega
        simp [this, h3, h9, h9']
    · have : ((M : Int) % 3 == 0) = false := by rw [beq_eq_false_iff_ne]; omega
      simp [this, h3]
  have lt (k : Nat) (e : Int) (he : e = k) (hk : k < 26) : ix2 (some (.frz (.str (tx abc)))) (some (.frz (.int e))) = some (.frz (.str (tx [97 + k]))) := ix_tx abc k (97 + k) he (abc_ix k hk) (by decide)
  refine fn2 (e := if M % 3 = 0 ∧ many < 9 then [.frz (.int c), .frz (.int many), .frz (.str (tx abc)), .frz (.int M), .dead, .dead, .dead, .dead] else [.frz (.int c), .frz (.int many), .frz (.str (tx abc)), .frz (.int M), .frz (.int ((1 + M / 78 % 8 : Nat) : Int)), .frz (.int (placeT M)), .frz (.str (tx (stemT M))), .dead]) ?_
  show m__law_names [.frz (.int c), .frz (.int many), .dead, .dead, .dead, .dead, .dead, .dead] = _
  rw [m__law_names, sSeq_c, s0, thS_n, sSeq_c, s1, thS_n, sSeq_c, sIf_c, te]
  unfold namesM
  have ir := it_range (n := many) (by omega)
  by_cases hc : M % 3 = 0 ∧ many < 9
  · have hcm := lc1_m (m := c0__law_names) (g := gNm 7) (vs := [7]) (env := [.frz (.int c), .frz (.int many), .frz (.str (tx abc)), .frz (.int M), .dead, .dead, .dead, .dead]) (fun (i : Nat) => D.int i) (fun k => .frz (wD (List.replicate (many - k) (97 + M / 3 % 26)))) (List.range many) rfl (by simp; omega) fun k hk => by
      rw [List.mem_range] at hk
      refine ⟨[.frz (.int c), .frz (.int many), .frz (.str (tx abc)), .frz (.int M), .dead, .dead, .dead, .frz (.int k)], by simp, ?_⟩
      have i1 := lt (M / 3 % 26) ((M : Int) / 3 % 26) (by omega) (by omega)
      have mu := oMul_cI (97 + M / 3 % 26) (k := (many : Int) - (k : Int)) (n := many - k) (by omega) (by omega)
      simp [c0__law_names, i1, mu, wD]
    rw [if_pos hc, if_pos hc, decide_eq_true hc, if1_t, sRet_c]
    simp only [eLcN_c, iR1_c, eCons_c, eVar_c, List.getElem?_cons_succ, List.getElem?_cons_zero, rdS_frz, eNil_c, cons2_s, ir, hcm, rt1_s]
    have nn : (O.lst ((List.range many).map fun k => .frz (wD (List.replicate (many - k) (97 + M / 3 % 26))))) = newL ((namesA M many).map wD) := by
      unfold newL namesA
      rw [List.map_map, List.map_map]
      rfl
    rw [nn]
    rfl
  · rw [if_neg hc, if_neg hc, decide_eq_false hc, if1_f, sNx_c, thS_n]
    have s4 : sSet 4 (takE (frzE (eOp2 oAdd (eC (.int 1)) (frzE (eOp2 (sc2 gMod) (frzE (eOp2 (sc2 gDiv) (eVar 3) (eC (.int 78)))) (eC (.int 8))))))) [.frz (.int c), .frz (.int many), .frz (.str (tx abc)), .frz (.int M), .dead, .dead, .dead, .dead] = some (.nx [.frz (.int c), .frz (.int many), .frz (.str (tx abc)), .frz (.int M), .frz (.int ((1 + M / 78 % 8 : Nat) : Int)), .dead, .dead, .dead]) := by
      have e : (1 : Int) + (M : Int) / 78 % 8 = ((1 + M / 78 % 8 : Nat) : Int) := by omega
      revert e
      generalize 1 + M / 78 % 8 = z
      intro e
      simp [e]
    have hz : (0 : Int) < ((1 + M / 78 % 8 : Nat) : Int) := by omega
    have s5 : sSet 5 (takE (frzE (eOp2 (sc2 gMod) (frzE (eOp2 (sc2 gDiv) (eVar 3) (eC (.int 624)))) (eVar 4)))) [.frz (.int c), .frz (.int many), .frz (.str (tx abc)), .frz (.int M), .frz (.int ((1 + M / 78 % 8 : Nat) : Int)), .dead, .dead, .dead] = some (.nx [.frz (.int c), .frz (.int many), .frz (.str (tx abc)), .frz (.int M), .frz (.int ((1 + M / 78 % 8 : Nat) : Int)), .frz (.int (placeT M)), .dead, .dead]) := by
      have e : (M : Int) / 624 % ((1 + M / 78 % 8 : Nat) : Int) = ((placeT M : Nat) : Int) := by
        unfold placeT
        rw [Int.natCast_emod (M / 624)]
        rfl
      revert hz e
      generalize 1 + M / 78 % 8 = z
      intro hz e
      simp [gMod_i hz, e]
    have s6 : sSet 6 (takE (frzE (eOp2 oMul (eIx (eVar 2) (frzE (eOp2 (sc2 gMod) (frzE (eOp2 (sc2 gDiv) (eVar 3) (eC (.int 4992)))) (eC (.int 26))))) (eVar 4)))) [.frz (.int c), .frz (.int many), .frz (.str (tx abc)), .frz (.int M), .frz (.int ((1 + M / 78 % 8 : Nat) : Int)), .frz (.int (placeT M)), .dead, .dead] = some (.nx [.frz (.int c), .frz (.int many), .frz (.str (tx abc)), .frz (.int M), .frz (.int ((1 + M / 78 % 8 : Nat) : Int)), .frz (.int (placeT M)), .frz (.str (tx (stemT M))), .dead]) := by
      have i1 := lt (M / 4992 % 26) ((M : Int) / 4992 % 26) (by omega) (by omega)
      have mu := oMul_c (97 + M / 4992 % 26) (1 + M / 78 % 8) (by omega)
      unfold stemT
      revert mu
      generalize 1 + M / 78 % 8 = z
      intro mu
      simp [i1, mu]
    have hcm := lc1_m (m := c1__law_names) (g := gNm 7) (vs := [7]) (env := [.frz (.int c), .frz (.int many), .frz (.str (tx abc)), .frz (.int M), .frz (.int ((1 + M / 78 % 8 : Nat) : Int)), .frz (.int (placeT M)), .frz (.str (tx (stemT M))), .dead]) (fun (i : Nat) => D.int i) (fun k => .frz (wD ((stemT M).take (placeT M) ++ [97 + (M / 3 + 5 * k) % 26] ++ (stemT M).drop (placeT M + 1)))) (List.range many) rfl (by simp; omega) fun k hk => by
      rw [List.mem_range] at hk
      refine ⟨[.frz (.int c), .frz (.int many), .frz (.str (tx abc)), .frz (.int M), .frz (.int ((1 + M / 78 % 8 : Nat) : Int)), .frz (.int (placeT M)), .frz (.str (tx (stemT M))), .frz (.int k)], by simp, ?_⟩
      have hs : (stemT M).length ≤ 8 := by rw [stemT_len]; omega
      have i1 := lt ((M / 3 + 5 * k) % 26) (((M : Int) / 3 + 5 * (k : Int)) % 26) (by omega) (by omega)
      have k5 : oMul (.frz (.int 5)) (.frz (.int (k : Int))) = some (.frz (.int (5 * (k : Int)))) := oMul_i (by omega)
      have c1 := sl_tx (stemT M) none (some (placeT M : Int)) (by omega)
      have c2 := sl_tx (stemT M) (some ((placeT M : Int) + 1)) none (by omega)
      rw [cut_to] at c1
      rw [cut_fromI _ (n := placeT M + 1) (by omega)] at c2
      have a1 := oAdd_tx ((stemT M).take (placeT M)) [97 + (M / 3 + 5 * k) % 26] (by rw [List.length_take]; simp; omega)
      have a2 := oAdd_tx ((stemT M).take (placeT M) ++ [97 + (M / 3 + 5 * k) % 26]) ((stemT M).drop (placeT M + 1)) (by rw [List.length_append, List.length_take, List.length_drop]; simp; omega)
      simp only [c1__law_names, eOp2_c, frzE_c, eSl_c, eVar_c, List.getElem?_cons_succ, List.getElem?_cons_zero, rdS_frz, noP_c, someP_c, sp1_i, c1, fz1_s, toD_frz, eIx_c, ap2_s, sc2_s, eC_c, k5, gDiv_i (show (0 : Int) < 3 ∧ (3 : Int) < 1073741824 by omega), gMod_i (show (0 : Int) < 26 by omega), fr_s, oAdd_i, i1, a1, c2, a2, wD]
    have nn : (O.lst ((List.range many).map fun k => .frz (wD ((stemT M).take (placeT M) ++ [97 + (M / 3 + 5 * k) % 26] ++ (stemT M).drop (placeT M + 1))))) = newL ((namesB M many).map wD) := by
      unfold newL namesB
      rw [List.map_map, List.map_map]
      rfl
    rw [sSeq_c, s4, thS_n, sSeq_c, s5, thS_n, sSeq_c, s6, thS_n, sRet_c]
    simp only [eLcN_c, iR1_c, eCons_c, eVar_c, List.getElem?_cons_succ, List.getElem?_cons_zero, rdS_frz, eNil_c, cons2_s, ir, hcm, rt1_s]
    rw [nn]
theorem cl_names (c : Int) (many : Nat) (h : many ≤ 100) : cl 2 f__law_names (some [.frz (.int c), .frz (.int many)]) = some (newL ((namesT c many).map wD)) := cl2 (ev_names c many h)
end Pt
namespace Pt
open PySem PySem.Spec PyProof.Rows L2 VL Mr
inductive Rule where
  | meet | gather (m a : Nat) | many (m : Nat) | rank (b : Option Nat) | turns (sh : List Nat) | eldest
def opD : Option Nat → D
  | none => .non
  | some n => .int n
def Rule.nm : Rule → String
  | .meet => "meet" | .gather _ _ => "gather" | .many _ => "many" | .rank _ => "rank" | .turns _ => "turns" | .eldest => "eldest"
def Rule.d : Rule → D
  | .meet => .tup [.str "meet"]
  | .gather m a => .tup [.str "gather", .int m, .int a]
  | .many m => .tup [.str "many", .int m]
  | .rank b => .tup [.str "rank", opD b]
  | .turns sh => .tup [.str "turns", .tup (sh.map fun (k : Nat) => D.int k)]
  | .eldest => .tup [.str "eldest"]
def sharesT (M many : Nat) : List Nat := (List.range many).map fun k => 1 + M / 6 / (k * k + 1) % 3
def ruleT (M many : Nat) : Rule :=
  if M % 6 = 5 ∧ 1 < many then .meet
  else if M % 6 = 4 then .gather (1 + M / 6 % 4) (M / 6 / 4 % 9)
  else if M % 6 = 3 then .many (1 + M / 6 % 4)
  else if M % 6 = 2 then .rank (if M / 6 % 2 = 0 then none else some (M / 6 / 2 % 9))
  else if M % 6 = 1 then .turns (sharesT M many)
  else .eldest
theorem beqI {a : Int} {x : Nat} (e : a = x) (c : Nat) (k : Int) (hk : k = c) : (a == k) = decide (x = c) := by
  subst e; subst hk
  by_cases h : x = c
  · rw [decide_eq_true h, beq_iff_eq]; exact_mod_cast h
  · rw [decide_eq_false h, beq_eq_false_iff_ne]; exact_mod_cast h
theorem ev_rule (M many : Nat) (hm : many ≤ 100) : f__law_rule [.frz (.int M), .frz (.int many)] = some (.frz (ruleT M many).d, [.frz (.int M), .frz (.int many)]) := by
  have s0 : sSet 2 (takE (frzE (eOp2 (sc2 gDiv) (eVar 0) (eC (.int 6))))) [.frz (.int M), .frz (.int many), .dead, .dead] = some (.nx [.frz (.int M), .frz (.int many), .frz (.int ((M : Int) / 6)), .dead]) := by simp
  have te (c : Nat) (k : Int) (hk : k = c) : tst (eOp2 (sc2 gEq) (frzE (eOp2 (sc2 gMod) (eVar 0) (eC (.int 6)))) (eC (.int k))) [.frz (.int M), .frz (.int many), .frz (.int ((M : Int) / 6)), .dead] = some (decide (M % 6 = c)) := by
    have := beqI (a := (M : Int) % 6) (x := M % 6) (by omega) c k hk
    simp [this]
  have t5 : tAnd2 (tst (eOp2 (sc2 gEq) (frzE (eOp2 (sc2 gMod) (eVar 0) (eC (.int 6)))) (eC (.int 5)))) (tst (eOp2 (sc2 (gB fun i j => decide (j < i))) (eVar 1) (eC (.int 1)))) [.frz (.int M), .frz (.int many), .frz (.int ((M : Int) / 6)), .dead] = some (decide (M % 6 = 5 ∧ 1 < many)) := by
    rw [tAnd2_c, te 5 5 rfl]
    by_cases h : M % 6 = 5
    · by_cases h2 : 1 < many
      · have h3 : (1 : Int) < many := by omega
        simp [h, h2, h3]
      · have h3 : ¬ (1 : Int) < many := by omega
        simp [h, h2, h3]
    · simp [h]
  refine fn2 (e := [.frz (.int M), .frz (.int many), .frz (.int ((M : Int) / 6)), .dead]) ?_
  show m__law_rule [.frz (.int M), .frz (.int many), .dead, .dead] = _
  rw [m__law_rule, sSeq_c, s0, thS_n, sSeq_c, sIf_c, t5]
  unfold ruleT
  by_cases h5 : M % 6 = 5 ∧ 1 < many
  · rw [if_pos h5, decide_eq_true h5, if1_t]
    simp [Rule.d]
  rw [if_neg h5, decide_eq_false h5, if1_f, sNx_c, thS_n, sSeq_c, sIf_c, te 4 4 rfl]
  by_cases h4 : M % 6 = 4
  · rw [if_pos h4, decide_eq_true h4, if1_t]
    simp [Rule.d]
  rw [if_neg h4, decide_eq_false h4, if1_f, sNx_c, thS_n, sSeq_c, sIf_c, te 3 3 rfl]
  by_cases h3 : M % 6 = 3
  · rw [if_pos h3, decide_eq_true h3, if1_t]
    simp [Rule.d]
  rw [if_neg h3, decide_eq_false h3, if1_f, sNx_c, thS_n, sSeq_c, sIf_c, te 2 2 rfl]
  by_cases h2 : M % 6 = 2
  · rw [if_pos h2, decide_eq_true h2, if1_t]
    by_cases hb : M / 6 % 2 = 0
    · have e : (M : Int) / 6 % 2 = 0 := by omega
      simp [Rule.d, hb, e, opD]
    · have e : (M : Int) / 6 % 2 = 1 := by omega
      have hb2 : M / 6 % 2 = 1 := by omega
      simp [Rule.d, hb2, e, opD]
  rw [if_neg h2, decide_eq_false h2, if1_f, sNx_c, thS_n, sSeq_c, sIf_c, te 1 1 rfl]
  by_cases h1 : M % 6 = 1
  · rw [if_pos h1, decide_eq_true h1, if1_t]
    have hc := lc1_m (m := c0__law_rule) (g := gNm 3) (vs := [3]) (env := [.frz (.int M), .frz (.int many), .frz (.int ((M : Int) / 6)), .dead]) (fun (i : Nat) => D.int i) (fun k => .frz (.int ((1 + M / 6 / (k * k + 1) % 3 : Nat) : Int))) (List.range many) rfl (by simp; omega) fun k hk => by
      rw [List.mem_range] at hk
      have mu : oMul (.frz (.int (k : Int))) (.frz (.int (k : Int))) = some (.frz (.int ((k * k : Nat) : Int))) := by rw [oMul_i (by omega)]; rfl
      have kk : k * k ≤ 100 * 100 := Nat.mul_le_mul (by omega) (by omega)
      have dv : gDiv (.int ((M : Int) / 6)) (.int (((k * k : Nat) : Int) + 1)) = some (.int ((M / 6 / (k * k + 1) : Nat) : Int)) := by
        rw [gDiv_i ⟨by omega, by omega⟩]
        congr 1
      have e1 : (1 : Int) + ((M / 6 / (k * k + 1) : Nat) : Int) % 3 = ((1 + M / 6 / (k * k + 1) % 3 : Nat) : Int) := by omega
      refine ⟨[.frz (.int M), .frz (.int many), .frz (.int ((M : Int) / 6)), .frz (.int k)], by simp, ?_⟩
      revert dv e1 mu
      generalize M / 6 / (k * k + 1) = q
      generalize k * k = kk
      intro dv e1 mu
      simp only [c0__law_rule, eOp2_c, eC_c, frzE_c, eVar_c, List.getElem?_cons_succ, List.getElem?_cons_zero, rdS_frz, ap2_s, mu, fz1_s, toD_frz, oAdd_i, sc2_s, dv, fr_s, gMod_i (show (0 : Int) < 3 by omega), e1]
    have hl : ((O.lst ((List.range many).map fun k => .frz (.int ((1 + M / 6 / (k * k + 1) % 3 : Nat) : Int)))).toD) = .lst ((sharesT M many).map fun (k : Nat) => D.int k) := by
      rw [toD_lst]
      unfold sharesT
      rw [List.map_map, List.map_map]
      exact congrArg D.lst (List.map_congr_left fun _ _ => by simp)
    have ir := it_range (n := many) (by omega)
    simp only [sRet_c, eTup_c, eCons_c, takE_c, eC_c, tk1_f, eOpN_c, frzE_c, eLcN_c, iR1_c, eVar_c, List.getElem?_cons_succ, List.getElem?_cons_zero, rdS_frz, eNil_c, cons2_s, ir, hc, fz1_s, hl, bN_s, n1_s, oTuple_l, Rule.d]
    rw [tup1_s (by simp)]
    rfl
  · rw [if_neg h1, decide_eq_false h1, if1_f, sNx_c, thS_n]
    simp [Rule.d]
theorem cl_rule (M many : Nat) (hm : many ≤ 100) : cl 2 f__law_rule (some [.frz (.int M), .frz (.int many)]) = some (.frz (ruleT M many).d) := cl2 (ev_rule M many hm)
def greatestT : Rule → Nat → Nat
  | .many m, _ => m
  | .gather m _, _ => m
  | .meet, n => n
  | _, _ => 1
def dct1 (kms : List (Str × Em)) : Option (List (Key × O)) → Option O
  | some kos => if (kms.map Prod.fst).Nodup ∧ kms.length ≤ 15 then some (.dct kos) else none
  | none => none
theorem eDct_c {kms : List (Str × Em)} {env : VL.Env} : eDct kms env = dct1 kms (eKms kms env) := by
  unfold eDct dct1
  split
  · cases eKms kms env <;> rfl
  · cases eKms kms env <;> rfl
def kms2 (k : Str) : Option O → Option (List (Key × O)) → Option (List (Key × O))
  | some o, some os => some ((.inr k, o) :: os)
  | _, _ => none
theorem eKms_c {k : Str} {m : Em} {r : List (Str × Em)} {env : VL.Env} : eKms ((k, m) :: r) env = kms2 k (m env) (eKms r env) := by
  rw [eKms]
  cases m env with
  | none => rfl
  | some o => cases eKms r env <;> rfl
theorem eKms_n {env : VL.Env} : eKms [] env = some [] := rfl
def get2 : Option O → Option O → Option O → Option O
  | some a, some b, some c => (asFrz a).bind fun a => oGet2 (.frz a) b c
  | _, _, _ => none
theorem eGet2_c {d k x : Em} {env : VL.Env} : eGet2 d k x env = get2 (d env) (k env) (x env) := by
  unfold eGet2 get2
  cases d env with
  | none => rfl
  | some a =>
    cases k env with
    | none => show ((asFrz a).bind fun _ => none) = none; cases asFrz a <;> rfl
    | some b =>
      cases x env with
      | none => show ((asFrz a).bind fun _ => none) = none; cases asFrz a <;> rfl
      | some c => rfl
theorem oAdd_tt (xs ys : List D) (h : xs.length + ys.length ≤ 16777216) : oAdd (.frz (.tup xs)) (.frz (.tup ys)) = some (.frz (.tup (xs ++ ys))) := by
  have e1 : sc2 (gI fun i j => i + j) (.frz (.tup xs)) (.frz (.tup ys)) = none := by rw [sc2_s, toD_frz, toD_frz]; rfl
  have e2 : sc2 gCatS (.frz (.tup xs)) (.frz (.tup ys)) = none := by rw [sc2_s, toD_frz, toD_frz]; rfl
  have e3 : oCatL (.frz (.tup xs)) (.frz (.tup ys)) = none := rfl
  unfold oAdd orO
  rw [e1, e2, e3, Option.none_or, Option.none_or, Option.none_or]
  unfold oCatT
  rw [titems_f, titems_f]
  show (if _ then _ else _) = _
  rw [if_pos (by rw [sizeLine_eq]; exact h)]
theorem toD_dct (kos : List (Key × O)) : (O.dct kos).toD = .dct (kos.map fun ko => (ko.1, ko.2.toD)) := by
  rw [O.toD, O.toDk_map]
theorem ev_greatest (r : Rule) (many : Nat) : f__law_greatest [.frz r.d, .frz (.int many)] = some (.frz (.int (greatestT r many)), [.frz r.d, .frz (.int many)]) := by
  refine fn2 (e := [.frz r.d, .frz (.int many)]) ?_
  show m__law_greatest [.frz r.d, .frz (.int many)] = _
  cases r <;> simp [m__law_greatest, Rule.d, eGet2_c, eDct_c, eKms_c, eKms_n, dct1, kms2, oAdd_tt, get2, toD_dct, oGet2, dGetD, D.key, getA, greatestT]
theorem cl_greatest (r : Rule) (many : Nat) : cl 2 f__law_greatest (some [.frz r.d, .frz (.int many)]) = some (.frz (.int (greatestT r many))) := cl2 (ev_greatest r many)
end Pt
namespace Pt
open PySem PySem.Spec PyProof.Rows L2 VL Mr
theorem em_lit' : Str.ofString "" = tx [] := lit ""
structure Desk where
  (name to : List Nat) (rule : Rule) (places : List (List Nat))
def Desk.d (k : Desk) : D := .tup [wD k.name, wD k.to, k.rule.d, .tup (k.places.map wD)]
def mixN (c : Int) (k : Nat) : Nat := (mix c (k : Int)).toNat
theorem mixN_eq (c : Int) (k : Nat) : mix c (k : Int) = (mixN c k : Int) := (Int.toNat_of_nonneg (mix_nn c k)).symm
theorem cl_mixN (c : Int) {k : Int} (n : Nat) (e : k = n) (h : n < 1000000) : cl 2 f__law_mix (some [.frz (.int c), .frz (.int k)]) = some (.frz (.int (mixN c n))) := by
  rw [e, cl_mix c n (by omega) (by omega), mixN_eq]
def atT (c : Int) (n k : Nat) : Nat := if n ≤ k then mixN c (40 + k) % n else k
theorem atT_lt (c : Int) (n k : Nat) (h : 0 < n) : atT c n k < n := by
  unfold atT
  split
  · exact Nat.mod_lt _ h
  · omega
def takeGo (c : Int) (n : Nat) : Nat → List (List Nat) → List (List (List Nat)) → List (List (List Nat))
  | _, [], T => T
  | k, p :: ps, T =>
    let t := T.getD (atT c n k) []
    let i := mixN c (60 + k) % (t.length + 1)
    takeGo c n (k + 1) ps (T.set (atT c n k) (t.take i ++ [p] ++ t.drop i))
theorem take_len (c : Int) (n : Nat) : ∀ (ps : List (List Nat)) (k : Nat) (T : List (List (List Nat))), (takeGo c n k ps T).length = T.length
  | [], _, _ => rfl
  | p :: ps, k, T => by rw [takeGo, take_len c n ps (k + 1)]; simp
theorem take_each (c : Int) (n B : Nat) : ∀ (ps : List (List Nat)) (k : Nat) (T : List (List (List Nat))), (∀ t ∈ T, t.length + ps.length ≤ B) → ∀ t ∈ takeGo c n k ps T, t.length ≤ B
  | [], _, T, h, t, ht => by have := h t ht; simp at this; exact this
  | p :: ps, k, T, h, t, ht => by
    rw [takeGo] at ht
    refine take_each c n B ps (k + 1) _ (fun u hu => ?_) t ht
    rcases List.mem_or_eq_of_mem_set hu with hu | rfl
    · have := h u hu; simp at this; omega
    · have hg : (T.getD (atT c n k) []).length + (ps.length + 1) ≤ B ∨ T.getD (atT c n k) [] = [] := by
        rw [List.getD_eq_getElem?_getD]
        cases hh : T[atT c n k]? with
        | none => exact .inr rfl
        | some u => exact .inl (h u (List.mem_of_getElem? hh))
      have hlen : ((T.getD (atT c n k) []).take (mixN c (60 + k) % ((T.getD (atT c n k) []).length + 1)) ++ [p] ++ (T.getD (atT c n k) []).drop (mixN c (60 + k) % ((T.getD (atT c n k) []).length + 1))).length = (T.getD (atT c n k) []).length + 1 := by
        simp only [List.length_append, List.length_take, List.length_drop, List.length_singleton]
        have := Nat.mod_lt (mixN c (60 + k)) (show 0 < (T.getD (atT c n k) []).length + 1 by omega)
        omega
      rw [hlen]
      rcases hg with hg | hg
      · omega
      · rw [hg]
        cases T with
        | nil => simp at hu
        | cons u us => have := h u (by simp); simp at this ⊢; omega
/-- what is one's own: lists of texts -/
def tk (t : List (List Nat)) : O := newL (t.map wD)
theorem ix2_o {os : List O} {o : O} {k : Nat} (h : os[k]? = some o) : ix2 (some (.lst os)) (some (.frz (.int (k : Int)))) = some o := by
  obtain ⟨h1, h2⟩ := List.getElem?_eq_some_iff.mp h
  have e : ixO (.lst os) (.int (k : Int)) = some o := by
    show atI os (k : Int) = some o
    rw [atI_pos rfl h1, h2]
  show (ixO _ (O.frz (.int (k : Int))).toD).or _ = _
  rw [toD_frz, e]
  rfl
theorem oTuple_n {ds : List D} : oTuple (newL ds) = some (.frz (.tup ds)) := by
  unfold oTuple; rw [litems_n]
abbrev g_ds : Gm := gTp 2 (gCn (gNm 5) (gCn (gNm 6) gNl))
abbrev g_de : Gm := gTp 2 (gCn (gNm 5) (gCn (gNm 9) gNl))
theorem ds_loop (c : Int) (P L : D) (ns : List (List Nat)) (hn : 0 < ns.length) : ∀ (ps : List (List Nat)) (k : Nat) (T : List (List (List Nat))) (x5 x6 x7 : SV), plS x5 = true → plS x6 = true → plS x7 = true → T.length = ns.length → k + ps.length ≤ 1000 → (∀ t ∈ T, t.length + ps.length ≤ 1000) →
    ∃ y5 y6 y7 : SV, plS y5 = true ∧ plS y6 = true ∧ plS y7 = true ∧
      loop g_ds b0__law_desks ((ps.zipIdx k).map fun p => D.tup [.int (p.2 : Int), wD p.1]) [.frz (.int c), .frz P, .frz L, .frz (.lst (ns.map wD)), .own (.lst (T.map tk)), x5, x6, x7, .dead, .dead, .dead] = some (.nx [.frz (.int c), .frz P, .frz L, .frz (.lst (ns.map wD)), .own (.lst ((takeGo c ns.length k ps T).map tk)), y5, y6, y7, .dead, .dead, .dead])
  | [], k, T, x5, x6, x7, h5, h6, h7, hT, hk, hl => ⟨x5, x6, x7, h5, h6, h7, by simp [takeGo]⟩
  | p :: ps, k, T, x5, x6, x7, h5, h6, h7, hT, hk, hl => by
    simp only [List.length_cons] at hk
    have ha := atT_lt c ns.length k hn
    obtain ⟨a, hadef⟩ : ∃ a, a = atT c ns.length k := ⟨_, rfl⟩
    rw [← hadef] at ha
    obtain ⟨t, htdef⟩ : ∃ t, t = T.getD a [] := ⟨_, rfl⟩
    have hat : T[a]? = some t := by rw [htdef, List.getD_eq_getElem?_getD, List.getElem?_eq_getElem (by omega)]; rfl
    have htm : t ∈ T := List.mem_of_getElem? hat
    have htl := hl t htm
    simp only [List.length_cons] at htl
    obtain ⟨i, hidef⟩ : ∃ i, i = mixN c (60 + k) % (t.length + 1) := ⟨_, rfl⟩
    have hi : i < t.length + 1 := by rw [hidef]; exact Nat.mod_lt _ (by omega)
    obtain ⟨y5, y6, y7, g5, g6, g7, e⟩ := ds_loop c P L ns hn ps (k + 1) (T.set a (t.take i ++ [p] ++ t.drop i)) (.frz (.int k)) (.frz (wD p)) (.frz (.int a)) rfl rfl rfl (by rw [List.length_set]; exact hT) (by omega) (fun u hu => by
      rcases List.mem_or_eq_of_mem_set hu with hu | rfl
      · have := hl u hu; simp at this; omega
      · simp only [List.length_append, List.length_take, List.length_drop, List.length_singleton]; omega)
    refine ⟨y5, y6, y7, g5, g6, g7, ?_⟩
    have st : bdE b0__law_desks (g_ds (.frz (.tup [.int (k : Int), wD p])) [.frz (.int c), .frz P, .frz L, .frz (.lst (ns.map wD)), .own (.lst (T.map tk)), x5, x6, x7, .dead, .dead, .dead]) = some (.nx [.frz (.int c), .frz P, .frz L, .frz (.lst (ns.map wD)), .own (.lst ((T.set a (t.take i ++ [p] ++ t.drop i)).map tk)), .frz (.int k), .frz (wD p), .frz (.int a), .dead, .dead, .dead]) := by
      have tg : g_ds (.frz (.tup [.int (k : Int), wD p])) [.frz (.int c), .frz P, .frz L, .frz (.lst (ns.map wD)), .own (.lst (T.map tk)), x5, x6, x7, .dead, .dead, .dead] = some [.frz (.int c), .frz P, .frz L, .frz (.lst (ns.map wD)), .own (.lst (T.map tk)), .frz (.int k), .frz (wD p), x7, .dead, .dead, .dead] := by simp [h5, h6, h7]
      have s1 : sSet 7 (takE (eVar 5)) [.frz (.int c), .frz P, .frz L, .frz (.lst (ns.map wD)), .own (.lst (T.map tk)), .frz (.int k), .frz (wD p), x7, .dead, .dead, .dead] = some (.nx [.frz (.int c), .frz P, .frz L, .frz (.lst (ns.map wD)), .own (.lst (T.map tk)), .frz (.int k), .frz (wD p), .frz (.int k), .dead, .dead, .dead]) := by simp [h7]
      have s2 : sIf (tst (eOp2 (sc2 (gB fun i j => decide (j ≤ i))) (eVar 5) (frzE (eOpN (n1 oLen) (eCons (eVar 3) eNil))))) (sSet 7 (takE (frzE (eOp2 (sc2 gMod) (frzE (eCall 2 f__law_mix (eCons (eVar 0) (eCons (frzE (eOp2 oAdd (eC (.int 40)) (eVar 5))) eNil)))) (frzE (eOpN (n1 oLen) (eCons (eVar 3) eNil))))))) sNx [.frz (.int c), .frz P, .frz L, .frz (.lst (ns.map wD)), .own (.lst (T.map tk)), .frz (.int k), .frz (wD p), .frz (.int k), .dead, .dead, .dead] = some (.nx [.frz (.int c), .frz P, .frz L, .frz (.lst (ns.map wD)), .own (.lst (T.map tk)), .frz (.int k), .frz (wD p), .frz (.int a), .dead, .dead, .dead]) := by
        have cm := cl_mixN c (k := 40 + (k : Int)) (40 + k) (by omega) (by omega)
        by_cases hkn : ns.length ≤ k
        · have h1 : (ns.length : Int) ≤ (k : Int) := by omega
          have h2 : (0 : Int) < (ns.length : Int) := by omega
          have e1 : (mixN c (40 + k) : Int) % (ns.length : Int) = (a : Int) := by
            rw [hadef]; unfold atT; rw [if_pos hkn]; rfl
          simp [h1, cm, gMod_i h2, e1]
        · have h1 : ¬ (ns.length : Int) ≤ (k : Int) := by omega
          have h2 : a = k := by rw [hadef]; unfold atT; rw [if_neg hkn]
          simp [h1, h2]
      have s3 : sAct aInsert (qIx (qVar 4) (eVar 7)) (eCons (eOp2 (sc2 gMod) (frzE (eCall 2 f__law_mix (eCons (eVar 0) (eCons (frzE (eOp2 oAdd (eC (.int 60)) (eVar 5))) eNil)))) (frzE (eOp2 oAdd (frzE (eOpN (n1 oLen) (eCons (eIx (eVar 4) (eVar 7)) eNil))) (eC (.int 1))))) (eCons (takE (eVar 6)) eNil)) [.frz (.int c), .frz P, .frz L, .frz (.lst (ns.map wD)), .own (.lst (T.map tk)), .frz (.int k), .frz (wD p), .frz (.int a), .dead, .dead, .dead] = some (.nx [.frz (.int c), .frz P, .frz L, .frz (.lst (ns.map wD)), .own (.lst ((T.set a (t.take i ++ [p] ++ t.drop i)).map tk)), .frz (.int k), .frz (wD p), .frz (.int a), .dead, .dead, .dead]) := by
        have cm := cl_mixN c (k := 60 + (k : Int)) (60 + k) (by omega) (by omega)
        have hmap : (T.map tk)[a]? = some (tk t) := by rw [List.getElem?_map, hat]; rfl
        have ixa := ix2_o hmap
        have ln : oLen (tk t) = some (.frz (.int (t.length : Int))) := by unfold tk; rw [oLen_n, List.length_map]
        have hp : (0 : Int) < (t.length : Int) + 1 := by omega
        have em : (mixN c (60 + k) : Int) % ((t.length : Int) + 1) = (i : Int) := by rw [hidef]; rfl
        have q := qi1_own (env := [.frz (.int c), .frz P, .frz L, .frz (.lst (ns.map wD)), .own (.lst (T.map tk)), .frz (.int k), .frz (wD p), .frz (.int a), .dead, .dead, .dead]) (i := 4) (os := T.map tk) (k := a) (v := (a : Int)) rfl rfl (by rw [List.length_map]; omega)
        have ins : aInsert (tk t) [.frz (.int (i : Int)), .frz (wD p)] = some (tk (t.take i ++ [p] ++ t.drop i)) := by
          unfold tk newL aInsert
          simp only [toD_frz]
          rw [if_pos ⟨by simp; omega, by omega, by omega⟩]
          simp
        have il : isLst (tk t) = true := rfl
        have pw : O.putW (.lst (T.map tk)) [.ix a] (tk (t.take i ++ [p] ++ t.drop i)) = .lst ((T.set a (t.take i ++ [p] ++ t.drop i)).map tk) := by
          rw [putW_l hmap, putW_n, List.map_set]
        simp only [sAct_c, qIx_c, qVar_c, eVar_c, List.getElem?_cons_succ, List.getElem?_cons_zero, rdS_frz, qv_o, q, eCons_c, eOp2_c, frzE_c, eCall_c, eC_c, ap2_s, oAdd_i, fz1_s, toD_frz, eNil_c, cons2_s, cm, eOpN_c, eIx_c, rdS_own, ixa, bN_s, n1_s, ln, sc2_s, gMod_i hp, fr_s, em, takE_c, tk1_f, ac2_s, okQ_c, okq_o, walk_c, walk_n, step_l, hmap, Option.bind_some, ac1_s, il, if_true, ins, Option.map_some, mutS_c, mt_o, pw, kP_c, kP_f, kP_o, kP_d, kP_nil, List.set_cons_succ, List.set_cons_zero]
      rw [tg, bdE_s, b0__law_desks, sSeq_c, s1, thS_n, sSeq_c, s2, thS_n, s3]
    rw [List.zipIdx_cons, List.map_cons, loop_cons, st, lp2_n, e]
    rw [takeGo, ← hadef, ← htdef, ← hidef]
def deskT (c : Int) (lines : List (List Nat)) (T : List (List (List Nat))) (k : Nat) (nm : List Nat) : Desk :=
  ⟨nm, (lines ++ [[]]).getD (mixN c (80 + k) % (lines.length + 1)) [], ruleT (mixN c (90 + k)) (T.getD k []).length, T.getD k []⟩
theorem de_loop (c : Int) (P : D) (lines ns : List (List Nat)) (hL : lines.length ≤ 1000) (T : List (List (List Nat))) (hT : ∀ t ∈ T, t.length ≤ 100) (x6 x7 : SV) (h6 : plS x6 = true) (h7 : plS x7 = true) : ∀ (ms : List (List Nat)) (k : Nat) (x5 x9 x10 : SV) (acc : List Desk), plS x5 = true → plS x9 = true → plS x10 = true → k + ms.length ≤ T.length → acc.length + ms.length ≤ 1000 → T.length ≤ 1000 →
    ∃ y5 y9 y10 : SV, plS y5 = true ∧ plS y9 = true ∧ plS y10 = true ∧
      loop g_de b1__law_desks ((ms.zipIdx k).map fun p => D.tup [.int (p.2 : Int), wD p.1]) [.frz (.int c), .frz P, .frz (.lst (lines.map wD)), .frz (.lst (ns.map wD)), .own (.lst (T.map tk)), x5, x6, x7, .own (newL (acc.map Desk.d)), x9, x10] = some (.nx [.frz (.int c), .frz P, .frz (.lst (lines.map wD)), .frz (.lst (ns.map wD)), .own (.lst (T.map tk)), y5, x6, x7, .own (newL ((acc ++ (ms.zipIdx k).map fun p => deskT c lines T p.2 p.1).map Desk.d)), y9, y10])
  | [], k, x5, x9, x10, acc, h5, h9, h10, hk, hl, hT2 => ⟨x5, x9, x10, h5, h9, h10, by simp⟩
  | nm :: ms, k, x5, x9, x10, acc, h5, h9, h10, hk, hl, hT2 => by
    simp only [List.length_cons] at hk hl
    obtain ⟨d, hd⟩ : ∃ d, d = deskT c lines T k nm := ⟨_, rfl⟩
    obtain ⟨y5, y9, y10, g5, g9, g10, e⟩ := de_loop c P lines ns hL T hT x6 x7 h6 h7 ms (k + 1) (.frz (.int k)) (.frz (wD nm)) (.frz (wD d.to)) (acc ++ [d]) rfl rfl rfl (by omega) (by rw [List.length_append, List.length_singleton]; omega) hT2
    refine ⟨y5, y9, y10, g5, g9, g10, ?_⟩
    have hat : T[k]? = some (T.getD k []) := by rw [List.getD_eq_getElem?_getD, List.getElem?_eq_getElem (by omega)]; rfl
    have htl := hT _ (List.mem_of_getElem? hat)
    have st : bdE b1__law_desks (g_de (.frz (.tup [.int (k : Int), wD nm])) [.frz (.int c), .frz P, .frz (.lst (lines.map wD)), .frz (.lst (ns.map wD)), .own (.lst (T.map tk)), x5, x6, x7, .own (newL (acc.map Desk.d)), x9, x10]) = some (.nx [.frz (.int c), .frz P, .frz (.lst (lines.map wD)), .frz (.lst (ns.map wD)), .own (.lst (T.map tk)), .frz (.int k), x6, x7, .own (newL ((acc ++ [d]).map Desk.d)), .frz (wD nm), .frz (wD d.to)]) := by
      have tg : g_de (.frz (.tup [.int (k : Int), wD nm])) [.frz (.int c), .frz P, .frz (.lst (lines.map wD)), .frz (.lst (ns.map wD)), .own (.lst (T.map tk)), x5, x6, x7, .own (newL (acc.map Desk.d)), x9, x10] = some [.frz (.int c), .frz P, .frz (.lst (lines.map wD)), .frz (.lst (ns.map wD)), .own (.lst (T.map tk)), .frz (.int k), x6, x7, .own (newL (acc.map Desk.d)), .frz (wD nm), x10] := by simp [h5, h6, h7, h9, h10]
      have s1 : sSet 10 (takE (eIx (frzE (eOp2 oAdd (eVar 2) (frzE (eLst (eCons (takE (eC (.str ""))) eNil))))) (frzE (eOp2 (sc2 gMod) (frzE (eCall 2 f__law_mix (eCons (eVar 0) (eCons (frzE (eOp2 oAdd (eC (.int 80)) (eVar 5))) eNil)))) (frzE (eOp2 oAdd (frzE (eOpN (n1 oLen) (eCons (eVar 2) eNil))) (eC (.int 1)))))))) [.frz (.int c), .frz P, .frz (.lst (lines.map wD)), .frz (.lst (ns.map wD)), .own (.lst (T.map tk)), .frz (.int k), x6, x7, .own (newL (acc.map Desk.d)), .frz (wD nm), x10] = some (.nx [.frz (.int c), .frz P, .frz (.lst (lines.map wD)), .frz (.lst (ns.map wD)), .own (.lst (T.map tk)), .frz (.int k), x6, x7, .own (newL (acc.map Desk.d)), .frz (wD nm), .frz (wD d.to)]) := by
        have cm := cl_mixN c (k := 80 + (k : Int)) (80 + k) (by omega) (by omega)
        have ad : oAdd (.frz (.lst (lines.map wD))) (.frz (.lst [.str (tx [])])) = some (newL ((lines ++ [[]]).map wD)) := by
          rw [oAdd_ll (by simp; omega), List.map_append]; rfl
        have hp : (0 : Int) < (lines.length : Int) + 1 := by omega
        have hm : mixN c (80 + k) % (lines.length + 1) < lines.length + 1 := Nat.mod_lt _ (by omega)
        have em : (mixN c (80 + k) : Int) % ((lines.length : Int) + 1) = ((mixN c (80 + k) % (lines.length + 1) : Nat) : Int) := rfl
        have ixl : ix2 (some (.frz (.lst ((lines ++ [[]]).map wD)))) (some (.frz (.int ((mixN c (80 + k) % (lines.length + 1) : Nat) : Int)))) = some (.frz (wD d.to)) := by
          refine ix2_l ?_
          rw [atI_pos rfl (by simp; omega), hd]
          unfold deskT
          rw [List.getElem_map]
          show some (wD _) = some (wD ((lines ++ [[]]).getD _ []))
          rw [List.getD_eq_getElem?_getD, List.getElem?_eq_getElem (by simp; omega)]
          rfl
        have ln : oLen (.frz (.lst (lines.map wD))) = some (.frz (.int (lines.length : Int))) := by rw [oLen_l, List.length_map]
        simp only [sSet_c, takE_c, eIx_c, frzE_c, eOp2_c, eVar_c, List.getElem?_cons_succ, List.getElem?_cons_zero, rdS_frz, eLst_c, eCons_c, eC_c, em_lit', tk1_f, eNil_c, cons2_s, lst1_s (show [O.frz (D.str (tx []))].length ≤ 1000 by simp), fz1_s, toD_lst, List.map_cons, List.map_nil, toD_frz, ap2_s, ad, toD_newL, eCall_c, oAdd_i, cm, eOpN_c, bN_s, n1_s, ln, sc2_s, gMod_i hp, fr_s, em, ixl, st1_e, slot_f, setS_c, pE_c, pl_f, pl_o, h6, h7, h10, Bool.and_self, pE_nil, if_true, Option.map_some, List.set_cons_succ, List.set_cons_zero]
      have s2 : sAct aAppend (qVar 8) (eCons (eTup (eCons (takE (eVar 9)) (eCons (takE (eVar 10)) (eCons (eCall 2 f__law_rule (eCons (frzE (eCall 2 f__law_mix (eCons (eVar 0) (eCons (frzE (eOp2 oAdd (eC (.int 90)) (eVar 5))) eNil)))) (eCons (frzE (eOpN (n1 oLen) (eCons (eIx (eVar 4) (eVar 5)) eNil))) eNil))) (eCons (eOpN (n1 oTuple) (eCons (eIx (eVar 4) (eVar 5)) eNil)) eNil))))) eNil) [.frz (.int c), .frz P, .frz (.lst (lines.map wD)), .frz (.lst (ns.map wD)), .own (.lst (T.map tk)), .frz (.int k), x6, x7, .own (newL (acc.map Desk.d)), .frz (wD nm), .frz (wD d.to)] = some (.nx [.frz (.int c), .frz P, .frz (.lst (lines.map wD)), .frz (.lst (ns.map wD)), .own (.lst (T.map tk)), .frz (.int k), x6, x7, .own (newL ((acc ++ [d]).map Desk.d)), .frz (wD nm), .frz (wD d.to)]) := by
        have cm := cl_mixN c (k := 90 + (k : Int)) (90 + k) (by omega) (by omega)
        have hmap : (T.map tk)[k]? = some (tk (T.getD k [])) := by rw [List.getElem?_map, hat]; rfl
        have ixa := ix2_o hmap
        have ln : oLen (tk (T.getD k [])) = some (.frz (.int ((T.getD k []).length : Int))) := by unfold tk; rw [oLen_n, List.length_map]
        have cr := cl_rule (mixN c (90 + k)) (T.getD k []).length htl
        have ot : oTuple (tk (T.getD k [])) = some (.frz (.tup ((T.getD k []).map wD))) := oTuple_n
        have mk : mkT [.frz (wD nm), .frz (wD d.to), .frz (ruleT (mixN c (90 + k)) (T.getD k []).length).d, .frz (.tup ((T.getD k []).map wD))] = .frz d.d := by
          rw [mkT4, hd]; rfl
        have ap := aAppend_n (ds := acc.map Desk.d) (d := d.d) (by rw [List.length_map]; omega)
        have fin : acc.map Desk.d ++ [d.d] = (acc ++ [d]).map Desk.d := by rw [List.map_append]; rfl
        rw [fin] at ap
        simp only [sAct_c, qVar_c, List.getElem?_cons_succ, List.getElem?_cons_zero, qv_o, eCons_c, eTup_c, takE_c, eVar_c, rdS_frz, tk1_f, eCall_c, frzE_c, eOp2_c, eC_c, ap2_s, oAdd_i, fz1_s, toD_frz, eNil_c, cons2_s, cm, eOpN_c, eIx_c, rdS_own, ixa, bN_s, n1_s, ln, cr, ot, tup1_s (show [O.frz (wD nm), .frz (wD d.to), .frz (ruleT (mixN c (90 + k)) (T.getD k []).length).d, .frz (.tup ((T.getD k []).map wD))].length ≤ 1000 by simp), mk, ac2_s, okQ_c, okq_o, walk_n, ac1_s, isLst_n, if_true, ap, Option.map_some, mutS_c, mt_o, putW_n, kP_c, kP_f, kP_o, kP_d, kP_p h6, kP_p h7, kP_nil, List.set_cons_succ, List.set_cons_zero]
      rw [tg, bdE_s, b1__law_desks, sSeq_c, s1, thS_n, s2]
    rw [List.zipIdx_cons, List.map_cons, loop_cons, st, lp2_n, e]
    rw [List.map_cons, hd]
    simp
def dnamesT (c : Int) (n : Nat) : List (List Nat) := namesT (mix c 31) (1 + mixN c 32 % min 4 n)
def takenT (c : Int) (places : List (List Nat)) : List (List (List Nat)) := takeGo c (dnamesT c places.length).length 0 places ((dnamesT c places.length).map fun _ => [])
def desksT (c : Int) (places lines : List (List Nat)) : List Desk := ((dnamesT c places.length).zipIdx).map fun p => deskT c lines (takenT c places) p.2 p.1
theorem ev_desks (c : Int) (places lines : List (List Nat)) (hp : 0 < places.length) (hp2 : places.length ≤ 100) (hl : lines.length ≤ 1000) : f__law_desks [.frz (.int c), .frz (.lst (places.map wD)), .frz (.lst (lines.map wD))] = some (.frz (.lst ((desksT c places lines).map Desk.d)), [.frz (.int c), .frz (.lst (places.map wD)), .frz (.lst (lines.map wD))]) := by
  obtain ⟨ns, hns⟩ : ∃ ns, ns = dnamesT c places.length := ⟨_, rfl⟩
  have nl : ns.length = 1 + mixN c 32 % min 4 places.length := by rw [hns]; unfold dnamesT; rw [names_len]
  have nl2 : ns.length ≤ 4 := by have := Nat.mod_lt (mixN c 32) (show 0 < min 4 places.length by omega); omega
  have c31 := cl_mix c 31 (by omega) (by omega)
  have c32 := cl_mixN c (k := 32) 32 (by omega) (by omega)
  have cn := cl_names (mix c 31) (1 + mixN c 32 % min 4 places.length) (by omega)
  have hnn : namesT (mix c 31) (1 + mixN c 32 % min 4 places.length) = ns := by rw [hns]; rfl
  rw [hnn] at cn
  have s0 : sSet 3 (takE (frzE (eCall 2 f__law_names (eCons (frzE (eCall 2 f__law_mix (eCons (eVar 0) (eCons (eC (.int 31)) eNil)))) (eCons (frzE (eOp2 oAdd (eC (.int 1)) (frzE (eOp2 (sc2 gMod) (frzE (eCall 2 f__law_mix (eCons (eVar 0) (eCons (eC (.int 32)) eNil)))) (frzE (eOpN (n2 oMin2) (eCons (eC (.int 4)) (eCons (frzE (eOpN (n1 oLen) (eCons (eVar 1) eNil))) eNil)))))))) eNil))))) [.frz (.int c), .frz (.lst (places.map wD)), .frz (.lst (lines.map wD)), .dead, .dead, .dead, .dead, .dead, .dead, .dead, .dead] = some (.nx [.frz (.int c), .frz (.lst (places.map wD)), .frz (.lst (lines.map wD)), .frz (.lst (ns.map wD)), .dead, .dead, .dead, .dead, .dead, .dead, .dead]) := by
    have ln : oLen (.frz (.lst (places.map wD))) = some (.frz (.int (places.length : Int))) := by rw [oLen_l, List.length_map]
    have om : oMin2 (.frz (.int 4)) (.frz (.int (places.length : Int))) = some (.frz (.int ((min 4 places.length : Nat) : Int))) := by
      rw [oMin2_i]
      have : (if (places.length : Int) < 4 then (places.length : Int) else 4) = ((min 4 places.length : Nat) : Int) := by split <;> omega
      rw [this]
    have gz : (0 : Int) < ((min 4 places.length : Nat) : Int) := by omega
    have em : (1 : Int) + (mixN c 32 : Int) % ((min 4 places.length : Nat) : Int) = ((1 + mixN c 32 % min 4 places.length : Nat) : Int) := by
      rw [Int.natCast_add, Int.natCast_emod]; rfl
    simp only [sSet_c, takE_c, frzE_c, eCall_c, eCons_c, eVar_c, List.getElem?_cons_succ, List.getElem?_cons_zero, rdS_frz, eC_c, eNil_c, cons2_s, c31, fz1_s, toD_frz, eOp2_c, c32, eOpN_c, bN_s, n1_s, n2_s, ln, om, ap2_s, sc2_s, gMod_i gz, fr_s, oAdd_i, em, cn, toD_newL, tk1_f, st1_e, slot_f, setS_c, pE_c, pl_f, pl_d, Bool.and_self, pE_nil, if_true, Option.map_some, List.set_cons_succ, List.set_cons_zero]
  have s1 : sSet 4 (eLcN (iLTc (eVar 3)) [9] (gNm 9) yesT c0__law_desks) [.frz (.int c), .frz (.lst (places.map wD)), .frz (.lst (lines.map wD)), .frz (.lst (ns.map wD)), .dead, .dead, .dead, .dead, .dead, .dead, .dead] = some (.nx [.frz (.int c), .frz (.lst (places.map wD)), .frz (.lst (lines.map wD)), .frz (.lst (ns.map wD)), .own (.lst ((ns.map fun _ => []).map tk)), .dead, .dead, .dead, .dead, .dead, .dead]) := by
    have hc := lc1_m (m := c0__law_desks) (g := gNm 9) (vs := [9]) (env := [.frz (.int c), .frz (.lst (places.map wD)), .frz (.lst (lines.map wD)), .frz (.lst (ns.map wD)), .dead, .dead, .dead, .dead, .dead, .dead, .dead]) wD (fun _ => O.lst []) ns rfl (by omega) fun w hw => by
      refine ⟨[.frz (.int c), .frz (.lst (places.map wD)), .frz (.lst (lines.map wD)), .frz (.lst (ns.map wD)), .dead, .dead, .dead, .dead, .dead, .frz (wD w), .dead], by simp, ?_⟩
      simp [c0__law_desks]
    have mm : (ns.map fun _ => ([] : List (List Nat))).map tk = ns.map fun _ => O.lst [] := by rw [List.map_map]; rfl
    rw [mm]
    simp [hc]
  have ep : itE seqF (some [.frz (.lst (places.map wD))]) = some ((places.zipIdx).map fun p => D.tup [.int (p.2 : Int), wD p.1]) := it_enum wD places
  have en : itE seqF (some [.frz (.lst (ns.map wD))]) = some ((ns.zipIdx).map fun p => D.tup [.int (p.2 : Int), wD p.1]) := it_enum wD ns
  obtain ⟨y5, y6, y7, g5, g6, g7, e1⟩ := ds_loop c (.lst (places.map wD)) (.lst (lines.map wD)) ns (by omega) places 0 (ns.map fun _ => []) .dead .dead .dead rfl rfl rfl (by simp) (by omega) (fun t ht => by
    obtain ⟨_, _, rfl⟩ := List.mem_map.mp ht; simp; omega)
  obtain ⟨T, hTd⟩ : ∃ T, T = takeGo c ns.length 0 places (ns.map fun _ => []) := ⟨_, rfl⟩
  rw [← hTd] at e1
  have hTl : T.length = ns.length := by rw [hTd, take_len]; simp
  have hTe : ∀ t ∈ T, t.length ≤ 100 := by
    rw [hTd]
    refine take_each c ns.length 100 places 0 _ fun t ht => ?_
    obtain ⟨_, _, rfl⟩ := List.mem_map.mp ht; simp; omega
  obtain ⟨z5, z9, z10, k5, k9, k10, e2⟩ := de_loop c (.lst (places.map wD)) lines ns hl T hTe y6 y7 g6 g7 ns 0 y5 .dead .dead [] g5 rfl rfl (by omega) (by simp; omega) (by omega)
  have hde : ([] ++ (ns.zipIdx 0).map fun p => deskT c lines T p.2 p.1) = desksT c places lines := by
    unfold desksT takenT
    rw [List.nil_append, ← hns, ← hTd]
  rw [hde] at e2
  have s2 : sFor (iE (eCons (eVar 1) eNil)) (gTp 2 (gCn (gNm 5) (gCn (gNm 6) gNl))) b0__law_desks [.frz (.int c), .frz (.lst (places.map wD)), .frz (.lst (lines.map wD)), .frz (.lst (ns.map wD)), .own (.lst ((ns.map fun _ => []).map tk)), .dead, .dead, .dead, .dead, .dead, .dead] = some (.nx [.frz (.int c), .frz (.lst (places.map wD)), .frz (.lst (lines.map wD)), .frz (.lst (ns.map wD)), .own (.lst (T.map tk)), y5, y6, y7, .dead, .dead, .dead]) := by
    simp only [sFor_c, iE_c, eCons_c, eVar_c, List.getElem?_cons_succ, List.getElem?_cons_zero, rdS_frz, eNil_c, cons2_s, ep, lp1_s]
    exact e1
  have s3 : sSet 8 (eLst eNil) [.frz (.int c), .frz (.lst (places.map wD)), .frz (.lst (lines.map wD)), .frz (.lst (ns.map wD)), .own (.lst (T.map tk)), y5, y6, y7, .dead, .dead, .dead] = some (.nx [.frz (.int c), .frz (.lst (places.map wD)), .frz (.lst (lines.map wD)), .frz (.lst (ns.map wD)), .own (.lst (T.map tk)), y5, y6, y7, .own (newL (([] : List Desk).map Desk.d)), .dead, .dead]) := by
    simp [newL, g5, g6, g7]
  have s4 : sFor (iE (eCons (eVar 3) eNil)) (gTp 2 (gCn (gNm 5) (gCn (gNm 9) gNl))) b1__law_desks [.frz (.int c), .frz (.lst (places.map wD)), .frz (.lst (lines.map wD)), .frz (.lst (ns.map wD)), .own (.lst (T.map tk)), y5, y6, y7, .own (newL (([] : List Desk).map Desk.d)), .dead, .dead] = some (.nx [.frz (.int c), .frz (.lst (places.map wD)), .frz (.lst (lines.map wD)), .frz (.lst (ns.map wD)), .own (.lst (T.map tk)), z5, y6, y7, .own (newL ((desksT c places lines).map Desk.d)), z9, z10]) := by
    simp only [sFor_c, iE_c, eCons_c, eVar_c, List.getElem?_cons_succ, List.getElem?_cons_zero, rdS_frz, eNil_c, cons2_s, en, lp1_s]
    exact e2
  have fin : fzS 8 [.frz (.int c), .frz (.lst (places.map wD)), .frz (.lst (lines.map wD)), .frz (.lst (ns.map wD)), .own (.lst (T.map tk)), z5, y6, y7, .own (newL ((desksT c places lines).map Desk.d)), z9, z10] = [.frz (.int c), .frz (.lst (places.map wD)), .frz (.lst (lines.map wD)), .frz (.lst (ns.map wD)), .own (.lst (T.map tk)), z5, y6, y7, .frz (.lst ((desksT c places lines).map Desk.d)), z9, z10] := by
    simp [kS_p k5, kS_p g6, kS_p g7, kS_p k9, kS_p k10, show killA 8 [] = [] from rfl]
  refine fn3 (e := [.frz (.int c), .frz (.lst (places.map wD)), .frz (.lst (lines.map wD)), .frz (.lst (ns.map wD)), .own (.lst (T.map tk)), z5, y6, y7, .frz (.lst ((desksT c places lines).map Desk.d)), z9, z10]) ?_
  show m__law_desks [.frz (.int c), .frz (.lst (places.map wD)), .frz (.lst (lines.map wD)), .dead, .dead, .dead, .dead, .dead, .dead, .dead, .dead] = _
  rw [m__law_desks, sSeq_c, s0, thS_n, sSeq_c, s1, thS_n, sSeq_c, s2, thS_n, sSeq_c, s3, thS_n, sSeq_c, s4, thS_n, sFz_c, fin]
  simp
theorem cl_desks (c : Int) (places lines : List (List Nat)) (hp : 0 < places.length) (hp2 : places.length ≤ 100) (hl : lines.length ≤ 1000) : cl 3 f__law_desks (some [.frz (.int c), .frz (.lst (places.map wD)), .frz (.lst (lines.map wD))]) = some (.frz (.lst ((desksT c places lines).map Desk.d))) := cl3 (ev_desks c places lines hp hp2 hl)
end Pt
namespace Pt
open PySem PySem.Spec PyProof.Rows L2 VL Mr
structure Kind where
  (name : List Nat) (keep : Option Nat)
def Kind.d (k : Kind) : D := .tup [wD k.name, opD k.keep]
def kindT (a : Int) (k : Nat) (nm : List Nat) : Kind := ⟨nm, if mixN a (10 + k) % 3 = 2 then some (1 + mixN a (10 + k) / 3 % 30) else none⟩
def kindsT (a : Int) : List Kind := ((namesT a (1 + mixN a 1 % 4)).zipIdx).map fun p => kindT a p.2 p.1
def manyT (b : Int) : Nat := 1 + mixN b 2 % 3
def placesT (b : Int) : List (List Nat) := namesT (mix b 4) (manyT b + mixN b 5 % 4)
def gatesT (b : Int) : List (List Nat) := (placesT b).take (manyT b)
def linesT (b : Int) : List (List Nat) := (placesT b).drop (manyT b)
def orderT (b : Int) : List (List Nat) := (placesT b).drop (mixN b 6 % (placesT b).length) ++ (placesT b).take (mixN b 6 % (placesT b).length)
structure Room where
  (name : List Nat) (room : Nat)
def Room.d (k : Room) : D := .tup [wD k.name, .int k.room]
def loadsT (ds : List Desk) (nm : List Nat) : List Nat := (ds.filter fun d => d.to == nm).map fun d => greatestT d.rule d.places.length
def maxT : List Nat → Nat := fun ls => ls.foldl max 1
def roomT (b : Int) (ds : List Desk) (k : Nat) (nm : List Nat) : Room := ⟨nm, maxT (loadsT ds nm) + mixN b (20 + k) % 3⟩
def roomsT (b : Int) (ds : List Desk) (ls : List (List Nat)) : List Room := (ls.zipIdx).map fun p => roomT b ds p.2 p.1
structure Work where
  (desk kind : List Nat) (work : Nat)
def Work.d (k : Work) : D := .tup [wD k.desk, wD k.kind, .int k.work]
structure Hour where
  (desk : List Nat) (b e : Nat)
def Hour.d (k : Hour) : D := .tup [wD k.desk, .int k.b, .int k.e]
def worksK (m : Nat) (dn : List Nat) : Nat → List Kind → List Work
  | _, [] => []
  | j, k :: ks => (if 0 < m / (j + 7) % 3 then [⟨dn, k.name, 1 + m / (j * j + 2) % 6⟩] else []) ++ worksK m dn (j + 1) ks
def hoursK (m : Nat) (dn : List Nat) : List Hour := if m / 5 % 4 = 0 then [⟨dn, m / 20 % 9, 9 + m / 180 % 20⟩, ⟨dn, 25 + m / 3600 % 20, 50 + m / 72000 % 40⟩] else []
def worksT (c : Int) (ks : List Kind) : Nat → List Desk → List Work
  | _, [] => []
  | k, d :: ds => worksK (mixN c (110 + k)) d.name 0 ks ++ worksT c ks (k + 1) ds
def hoursT (c : Int) : Nat → List Desk → List Hour
  | _, [] => []
  | k, d :: ds => hoursK (mixN c (110 + k)) d.name ++ hoursT c (k + 1) ds
structure Plant where
  (kinds : List Kind) (gates : List (List Nat)) (lines : List Room) (desks : List Desk) (times : List Work) (hours : List Hour)
def Plant.d (p : Plant) : D := .dct [(.inr (Str.ofString "kinds"), .lst (p.kinds.map Kind.d)), (.inr (Str.ofString "gates"), .lst (p.gates.map wD)), (.inr (Str.ofString "lines"), .lst (p.lines.map Room.d)), (.inr (Str.ofString "desks"), .lst (p.desks.map Desk.d)), (.inr (Str.ofString "times"), .lst (p.times.map Work.d)), (.inr (Str.ofString "hours"), .lst (p.hours.map Hour.d)), (.inr (Str.ofString "paces"), .lst [])]
def plantT (a b c : Int) : Plant :=
  let ds := desksT c (orderT b) (linesT b)
  ⟨kindsT a, gatesT b, roomsT b ds (linesT b), ds, worksT c (kindsT a) 0 ds, hoursT c 0 ds⟩
def plantOf (ns : List Int) : Plant := plantT (cellAt ns 0) (cellAt ns 1) (cellAt ns 2)
theorem places_len (b : Int) : (placesT b).length = manyT b + mixN b 5 % 4 := by unfold placesT; rw [names_len]
theorem many_le (b : Int) : 1 ≤ manyT b ∧ manyT b ≤ 3 := by unfold manyT; omega
theorem places_le (b : Int) : 1 ≤ (placesT b).length ∧ (placesT b).length ≤ 6 := by have := many_le b; rw [places_len]; omega
theorem lines_le (b : Int) : (linesT b).length ≤ 3 := by unfold linesT; rw [List.length_drop, places_len]; omega
theorem order_len (b : Int) : (orderT b).length = (placesT b).length := by
  have := Nat.mod_lt (mixN b 6) (show 0 < (placesT b).length by have := places_le b; omega)
  unfold orderT; rw [List.length_append, List.length_drop, List.length_take]; omega
theorem kinds_len (a : Int) : (kindsT a).length = 1 + mixN a 1 % 4 := by unfold kindsT; rw [List.length_map, List.length_zipIdx, names_len]
theorem dnames_le (c : Int) (n : Nat) (h : 0 < n) : 1 ≤ (dnamesT c n).length ∧ (dnamesT c n).length ≤ 4 := by
  unfold dnamesT; rw [names_len]
  have := Nat.mod_lt (mixN c 32) (show 0 < min 4 n by omega); omega
theorem desks_len (c : Int) (ps ls : List (List Nat)) : (desksT c ps ls).length = (dnamesT c ps.length).length := by unfold desksT; rw [List.length_map, List.length_zipIdx]
theorem desks_le (b c : Int) : (desksT c (orderT b) (linesT b)).length ≤ 4 := by rw [desks_len]; exact (dnames_le c _ (by rw [order_len]; have := places_le b; omega)).2
theorem worksK_len (m : Nat) (dn : List Nat) : ∀ (j : Nat) (ks : List Kind), (worksK m dn j ks).length ≤ ks.length
  | _, [] => by simp [worksK]
  | j, k :: ks => by
    have := worksK_len m dn (j + 1) ks
    rw [worksK, List.length_append, List.length_cons]
    split <;> simp <;> omega
theorem hoursK_len (m : Nat) (dn : List Nat) : (hoursK m dn).length ≤ 2 := by unfold hoursK; split <;> simp
theorem maxI_T (ls : List Nat) : maxI (((1 :: ls).map fun (k : Nat) => (k : Int))) = some ((maxT ls : Nat) : Int) := by
  have h : ∀ (ls : List Nat) (m : Nat), mxL (m : Int) (ls.map fun (k : Nat) => (k : Int)) = ((ls.foldl max m : Nat) : Int) := by
    intro ls
    induction ls with
    | nil => intro m; rfl
    | cons x xs ih =>
      intro m
      rw [List.map_cons, mxL, List.foldl_cons]
      have : (if (x : Int) > (m : Int) then (x : Int) else (m : Int)) = ((max m x : Nat) : Int) := by split <;> omega
      rw [this, ih]
  exact congrArg some (h ls 1)

abbrev g_k : Gm := gTp 2 (gCn (gNm 5) (gCn (gNm 6) gNl))
theorem k_loop (ns : List Int) (a b c : Int) : ∀ (xs : List (List Nat)) (k : Nat) (x5 x6 x7 : SV) (acc : List Kind), plS x5 = true → plS x6 = true → plS x7 = true → k + xs.length ≤ 1000 → acc.length + xs.length ≤ 1000 →
    ∃ y5 y6 y7 : SV, plS y5 = true ∧ plS y6 = true ∧ plS y7 = true ∧
      loop g_k b0__law_plant ((xs.zipIdx k).map fun p => D.tup [.int (p.2 : Int), wD p.1]) [.frz (.scr ns), .frz (.int a), .frz (.int b), .frz (.int c), .own (newL ((acc).map Kind.d)), x5, x6, x7, .dead, .dead, .dead, .dead, .dead, .dead, .dead, .dead, .dead, .dead, .dead, .dead, .dead] = some (.nx [.frz (.scr ns), .frz (.int a), .frz (.int b), .frz (.int c), .own (newL ((acc ++ (xs.zipIdx k).map fun p => kindT a p.2 p.1).map Kind.d)), y5, y6, y7, .dead, .dead, .dead, .dead, .dead, .dead, .dead, .dead, .dead, .dead, .dead, .dead, .dead])
  | [], k, x5, x6, x7, acc, h5, h6, h7, hk, hl => ⟨x5, x6, x7, h5, h6, h7, by simp⟩
  | nm :: xs, k, x5, x6, x7, acc, h5, h6, h7, hk, hl => by
    simp only [List.length_cons] at hk hl
    obtain ⟨y5, y6, y7, g5, g6, g7, e⟩ := k_loop ns a b c xs (k + 1) (.frz (.int k)) (.frz (wD nm)) (.frz (.int (mixN a (10 + k)))) (acc ++ [kindT a k nm]) rfl rfl rfl (by omega) (by rw [List.length_append, List.length_singleton]; omega)
    refine ⟨y5, y6, y7, g5, g6, g7, ?_⟩
    have cm := cl_mixN a (k := 10 + (k : Int)) (10 + k) (by omega) (by omega)
    have ap := aAppend_n (ds := acc.map Kind.d) (d := (kindT a k nm).d) (by rw [List.length_map]; omega)
    have fin : acc.map Kind.d ++ [(kindT a k nm).d] = (acc ++ [kindT a k nm]).map Kind.d := by rw [List.map_append]; rfl
    rw [fin] at ap
    have st : bdE b0__law_plant (g_k (.frz (.tup [.int (k : Int), wD nm])) [.frz (.scr ns), .frz (.int a), .frz (.int b), .frz (.int c), .own (newL ((acc).map Kind.d)), x5, x6, x7, .dead, .dead, .dead, .dead, .dead, .dead, .dead, .dead, .dead, .dead, .dead, .dead, .dead]) = some (.nx [.frz (.scr ns), .frz (.int a), .frz (.int b), .frz (.int c), .own (newL ((acc ++ [kindT a k nm]).map Kind.d)), .frz (.int k), .frz (wD nm), .frz (.int (mixN a (10 + k))), .dead, .dead, .dead, .dead, .dead, .dead, .dead, .dead, .dead, .dead, .dead, .dead, .dead]) := by
      have tg : g_k (.frz (.tup [.int (k : Int), wD nm])) [.frz (.scr ns), .frz (.int a), .frz (.int b), .frz (.int c), .own (newL ((acc).map Kind.d)), x5, x6, x7, .dead, .dead, .dead, .dead, .dead, .dead, .dead, .dead, .dead, .dead, .dead, .dead, .dead] = some [.frz (.scr ns), .frz (.int a), .frz (.int b), .frz (.int c), .own (newL ((acc).map Kind.d)), .frz (.int k), .frz (wD nm), x7, .dead, .dead, .dead, .dead, .dead, .dead, .dead, .dead, .dead, .dead, .dead, .dead, .dead] := by simp [h5, h6, h7]
      have s1 : sSet 7 (takE (frzE (eCall 2 f__law_mix (eCons (eVar 1) (eCons (frzE (eOp2 oAdd (eC (.int 10)) (eVar 5))) eNil))))) [.frz (.scr ns), .frz (.int a), .frz (.int b), .frz (.int c), .own (newL ((acc).map Kind.d)), .frz (.int k), .frz (wD nm), x7, .dead, .dead, .dead, .dead, .dead, .dead, .dead, .dead, .dead, .dead, .dead, .dead, .dead] = some (.nx [.frz (.scr ns), .frz (.int a), .frz (.int b), .frz (.int c), .own (newL ((acc).map Kind.d)), .frz (.int k), .frz (wD nm), .frz (.int (mixN a (10 + k))), .dead, .dead, .dead, .dead, .dead, .dead, .dead, .dead, .dead, .dead, .dead, .dead, .dead]) := by simp [cm, h7]
      have ik : ix2 (some (.frz (.lst [.non, .non, .int (1 + (mixN a (10 + k) : Int) / 3 % 30)]))) (some (.frz (.int ((mixN a (10 + k) : Int) % 3)))) = some (.frz (opD (kindT a k nm).keep)) := by
        unfold kindT
        have h3 : mixN a (10 + k) % 3 = 0 ∨ mixN a (10 + k) % 3 = 1 ∨ mixN a (10 + k) % 3 = 2 := by omega
        rcases h3 with h3 | h3 | h3
        · rw [show (mixN a (10 + k) : Int) % 3 = 0 by omega, ix_l0, if_neg (by omega)]; rfl
        · rw [show (mixN a (10 + k) : Int) % 3 = 1 by omega, ix_l1, if_neg (by omega)]; rfl
        · rw [show (mixN a (10 + k) : Int) % 3 = 2 by omega, if_pos h3]
          exact ix2_l (atI_pos (n := 2) rfl (by simp))
      have mk : mkT [.frz (wD nm), .frz (opD (kindT a k nm).keep)] = .frz (kindT a k nm).d := by rw [mkT2]; rfl
      rw [tg, bdE_s, b0__law_plant, sSeq_c, s1, thS_n]
      simp only [sAct_c, qVar_c, List.getElem?_cons_succ, List.getElem?_cons_zero, qv_o, eCons_c, eTup_c, takE_c, eVar_c, rdS_frz, tk1_f, eIx_c, frzE_c, eLst_c, eC_c, eOp2_c, ap2_s, sc2_s, toD_frz, gDiv_i (show (0 : Int) < 3 ∧ (3 : Int) < 1073741824 by omega), gMod_i (show (0 : Int) < 30 by omega), gMod_i (show (0 : Int) < 3 by omega), fr_s, fz1_s, oAdd_i, eNil_c, cons2_s, lst1_s (show [O.frz .non, .frz .non, .frz (.int (1 + (mixN a (10 + k) : Int) / 3 % 30))].length ≤ 1000 by simp), toD_lst, List.map_cons, List.map_nil, ik, tup1_s (show [O.frz (wD nm), .frz (opD (kindT a k nm).keep)].length ≤ 1000 by simp), mk, ac2_s, okQ_c, okq_o, walk_n, ac1_s, isLst_n, if_true, ap, Option.map_some, mutS_c, mt_o, putW_n, kP_c, kP_f, kP_o, kP_d, kP_nil, List.set_cons_succ, List.set_cons_zero]
    rw [List.zipIdx_cons, List.map_cons, loop_cons, st, lp2_n, e]
    rw [List.map_cons]
    simp

abbrev g_r : Gm := gTp 2 (gCn (gNm 5) (gCn (gNm 6) gNl))
theorem r_loop (ns : List Int) (a b c : Int) (K : List Kind) (x8 x9 x10 x11 x12 : D) (ds : List Desk) (hds : ds.length ≤ 1000) (x7 : SV) (h7 : plS x7 = true) : ∀ (xs : List (List Nat)) (k : Nat) (x5 x6 x15 : SV) (acc : List Room), plS x5 = true → plS x6 = true → plS x15 = true → k + xs.length ≤ 1000 → acc.length + xs.length ≤ 1000 →
    ∃ y5 y6 y15 : SV, plS y5 = true ∧ plS y6 = true ∧ plS y15 = true ∧
      loop g_r b1__law_plant ((xs.zipIdx k).map fun p => D.tup [.int (p.2 : Int), wD p.1]) [.frz (.scr ns), .frz (.int a), .frz (.int b), .frz (.int c), .own (newL (K.map Kind.d)), x5, x6, x7, .frz x8, .frz x9, .frz x10, .frz x11, .frz x12, .frz (.lst (ds.map Desk.d)), .own (newL ((acc).map Room.d)), x15, .dead, .dead, .dead, .dead, .dead] = some (.nx [.frz (.scr ns), .frz (.int a), .frz (.int b), .frz (.int c), .own (newL (K.map Kind.d)), y5, y6, x7, .frz x8, .frz x9, .frz x10, .frz x11, .frz x12, .frz (.lst (ds.map Desk.d)), .own (newL ((acc ++ (xs.zipIdx k).map fun p => roomT b ds p.2 p.1).map Room.d)), y15, .dead, .dead, .dead, .dead, .dead])
  | [], k, x5, x6, x15, acc, h5, h6, h15, hk, hl => ⟨x5, x6, x15, h5, h6, h15, by simp⟩
  | nm :: xs, k, x5, x6, x15, acc, h5, h6, h15, hk, hl => by
    simp only [List.length_cons] at hk hl
    obtain ⟨y5, y6, y15, g5, g6, g15, e⟩ := r_loop ns a b c K x8 x9 x10 x11 x12 ds hds x7 h7 xs (k + 1) (.frz (.int k)) (.frz (wD nm)) (.frz (.lst ((loadsT ds nm).map fun (k : Nat) => D.int k))) (acc ++ [roomT b ds k nm]) rfl rfl rfl (by omega) (by rw [List.length_append, List.length_singleton]; omega)
    refine ⟨y5, y6, y15, g5, g6, g15, ?_⟩
    have cm := cl_mixN b (k := 20 + (k : Int)) (20 + k) (by omega) (by omega)
    have ap := aAppend_n (ds := acc.map Room.d) (d := (roomT b ds k nm).d) (by rw [List.length_map]; omega)
    have fin : acc.map Room.d ++ [(roomT b ds k nm).d] = (acc ++ [roomT b ds k nm]).map Room.d := by rw [List.map_append]; rfl
    rw [fin] at ap
    have st : bdE b1__law_plant (g_r (.frz (.tup [.int (k : Int), wD nm])) [.frz (.scr ns), .frz (.int a), .frz (.int b), .frz (.int c), .own (newL (K.map Kind.d)), x5, x6, x7, .frz x8, .frz x9, .frz x10, .frz x11, .frz x12, .frz (.lst (ds.map Desk.d)), .own (newL ((acc).map Room.d)), x15, .dead, .dead, .dead, .dead, .dead]) = some (.nx [.frz (.scr ns), .frz (.int a), .frz (.int b), .frz (.int c), .own (newL (K.map Kind.d)), .frz (.int k), .frz (wD nm), x7, .frz x8, .frz x9, .frz x10, .frz x11, .frz x12, .frz (.lst (ds.map Desk.d)), .own (newL ((acc ++ [roomT b ds k nm]).map Room.d)), .frz (.lst ((loadsT ds nm).map fun (k : Nat) => D.int k)), .dead, .dead, .dead, .dead, .dead]) := by
      have tg : g_r (.frz (.tup [.int (k : Int), wD nm])) [.frz (.scr ns), .frz (.int a), .frz (.int b), .frz (.int c), .own (newL (K.map Kind.d)), x5, x6, x7, .frz x8, .frz x9, .frz x10, .frz x11, .frz x12, .frz (.lst (ds.map Desk.d)), .own (newL ((acc).map Room.d)), x15, .dead, .dead, .dead, .dead, .dead] = some [.frz (.scr ns), .frz (.int a), .frz (.int b), .frz (.int c), .own (newL (K.map Kind.d)), .frz (.int k), .frz (wD nm), x7, .frz x8, .frz x9, .frz x10, .frz x11, .frz x12, .frz (.lst (ds.map Desk.d)), .own (newL ((acc).map Room.d)), x15, .dead, .dead, .dead, .dead, .dead] := by simp [h5, h6, h7, h15]
      have hc := lc1_fm (m := c0__law_plant) (t := ct0__law_plant) (g := gNm 18) (vs := [18]) (env := [.frz (.scr ns), .frz (.int a), .frz (.int b), .frz (.int c), .own (newL (K.map Kind.d)), .frz (.int k), .frz (wD nm), x7, .frz x8, .frz x9, .frz x10, .frz x11, .frz x12, .frz (.lst (ds.map Desk.d)), .own (newL ((acc).map Room.d)), x15, .dead, .dead, .dead, .dead, .dead]) Desk.d (fun d => d.to == nm) (fun d => .frz (.int ((greatestT d.rule d.places.length : Nat) : Int))) ds (by simp [nS_p h7, nS_p h15]) (by omega) fun d hd => by
        refine ⟨[.frz (.scr ns), .frz (.int a), .frz (.int b), .frz (.int c), .own (newL (K.map Kind.d)), .frz (.int k), .frz (wD nm), x7, .frz x8, .frz x9, .frz x10, .frz x11, .frz x12, .frz (.lst (ds.map Desk.d)), .own (newL ((acc).map Room.d)), x15, .dead, .dead, .frz d.d, .dead, .dead], by simp [h7, h15], ?_, fun _ => ?_⟩
        · have i1 : ix2 (some (.frz d.d)) (some (.frz (.int 1))) = some (.frz (.str (tx d.to))) := ix_t1
          simp [ct0__law_plant, i1, wD, beq_tx]
        · have i2 : ix2 (some (.frz d.d)) (some (.frz (.int 2))) = some (.frz d.rule.d) := ix_t2
          have i3 : ix2 (some (.frz d.d)) (some (.frz (.int 3))) = some (.frz (.tup (d.places.map wD))) := ix_t3
          have ln : oLen (.frz (.tup (d.places.map wD))) = some (.frz (.int (d.places.length : Int))) := by rw [oLen_t, List.length_map]
          have cg := cl_greatest d.rule d.places.length
          simp only [c0__law_plant, eCall_c, eCons_c, eIx_c, eVar_c, List.getElem?_cons_succ, List.getElem?_cons_zero, rdS_frz, eC_c, i2, frzE_c, eOpN_c, i3, eNil_c, cons2_s, bN_s, n1_s, ln, fz1_s, toD_frz, cg]
      have hll : (O.lst ((ds.filter fun d => d.to == nm).map fun d => .frz (.int ((greatestT d.rule d.places.length : Nat) : Int)))).toD = .lst ((loadsT ds nm).map fun (k : Nat) => D.int k) := by
        rw [toD_lst]
        unfold loadsT
        rw [List.map_map, List.map_map]
        exact congrArg D.lst (List.map_congr_left fun _ _ => by simp)
      have s1 : sSet 15 (frzE (eLcN (iLTc (eVar 13)) [18] (gNm 18) ct0__law_plant c0__law_plant)) [.frz (.scr ns), .frz (.int a), .frz (.int b), .frz (.int c), .own (newL (K.map Kind.d)), .frz (.int k), .frz (wD nm), x7, .frz x8, .frz x9, .frz x10, .frz x11, .frz x12, .frz (.lst (ds.map Desk.d)), .own (newL ((acc).map Room.d)), x15, .dead, .dead, .dead, .dead, .dead] = some (.nx [.frz (.scr ns), .frz (.int a), .frz (.int b), .frz (.int c), .own (newL (K.map Kind.d)), .frz (.int k), .frz (wD nm), x7, .frz x8, .frz x9, .frz x10, .frz x11, .frz x12, .frz (.lst (ds.map Desk.d)), .own (newL ((acc).map Room.d)), .frz (.lst ((loadsT ds nm).map fun (k : Nat) => D.int k)), .dead, .dead, .dead, .dead, .dead]) := by
        simp only [sSet_c, frzE_c, eLcN_c, iLTc_c, eVar_c, List.getElem?_cons_succ, List.getElem?_cons_zero, rdS_frz, it1_s, litems_f, Option.some_or, hc, fz1_s, hll, st1_e, slot_f, setS_c, pE_c, pl_f, pl_o, pl_d, h7, h15, Bool.and_self, pE_nil, if_true, Option.map_some, List.set_cons_succ, List.set_cons_zero]
      have ll : (loadsT ds nm).length ≤ 1000 := by
        unfold loadsT; rw [List.length_map]; exact Nat.le_trans (List.length_filter_le _ _) hds
      have ad : oAdd (.frz (.lst [.int 1])) (.frz (.lst ((loadsT ds nm).map fun (k : Nat) => D.int k))) = some (newL (((1 :: loadsT ds nm).map fun (k : Nat) => (k : Int)).map D.int)) := by
        rw [oAdd_ll (by simp; omega), List.map_map]; rfl
      have om : oMax (.frz (.lst (((1 :: loadsT ds nm).map fun (k : Nat) => (k : Int)).map D.int))) = some (.frz (.int ((maxT (loadsT ds nm) : Nat) : Int))) := by
        unfold oMax
        rw [oNums_l]
        rw [Option.bind_some, maxI_T]
        rfl
      have em : ((maxT (loadsT ds nm) : Nat) : Int) + (mixN b (20 + k) : Int) % 3 = ((roomT b ds k nm).room : Int) := rfl
      have mk : mkT [.frz (wD nm), .frz (.int ((roomT b ds k nm).room : Int))] = .frz (roomT b ds k nm).d := by rw [mkT2]; rfl
      rw [tg, bdE_s, b1__law_plant, sSeq_c, s1, thS_n]
      simp only [sAct_c, qVar_c, List.getElem?_cons_succ, List.getElem?_cons_zero, qv_o, eCons_c, eTup_c, takE_c, eVar_c, rdS_frz, tk1_f, eOp2_c, frzE_c, eOpN_c, eLst_c, eC_c, eNil_c, cons2_s, lst1_s (show [O.frz (.int 1)].length ≤ 1000 by simp), fz1_s, toD_lst, List.map_nil, List.map_cons (f := O.toD), toD_frz, ap2_s, ad, toD_newL, bN_s, n1_s, om, eCall_c, oAdd_i, cm, sc2_s, gMod_i (show (0 : Int) < 3 by omega), fr_s, em, tup1_s (show [O.frz (wD nm), .frz (.int ((roomT b ds k nm).room : Int))].length ≤ 1000 by simp), mk, ac2_s, okQ_c, okq_o, walk_n, ac1_s, isLst_n, if_true, ap, Option.map_some, mutS_c, mt_o, putW_n, kP_c, kP_f, kP_o, kP_d, kP_p h7, kP_nil, List.set_cons_succ, List.set_cons_zero]
    rw [List.zipIdx_cons, List.map_cons, loop_cons, st, lp2_n, e]
    rw [List.map_cons]
    simp

abbrev g_w : Gm := gTp 2 (gCn (gNm 19) (gCn (gNm 20) gNl))
theorem w_loop (ns : List Int) (a b c : Int) (K : List Kind) (x5 x8 x9 x10 x11 x12 x13 : D) (x14 x17 : O) (x6 x15 : SV) (h6 : plS x6 = true) (h15 : plS x15 = true) (m : Nat) (d : Desk) : ∀ (xs : List Kind) (j : Nat) (x19 x20 : SV) (acc : List Work), plS x19 = true → plS x20 = true → j + xs.length ≤ 1000 → acc.length + xs.length ≤ 1000 →
    ∃ y19 y20 : SV, plS y19 = true ∧ plS y20 = true ∧
      loop g_w b3__law_plant ((xs.zipIdx j).map fun p => D.tup [.int (p.2 : Int), p.1.d]) [.frz (.scr ns), .frz (.int a), .frz (.int b), .frz (.int c), .frz (.lst (K.map Kind.d)), .frz x5, x6, .frz (.int (m : Int)), .frz x8, .frz x9, .frz x10, .frz x11, .frz x12, .frz x13, .own x14, x15, .own (newL ((acc).map Work.d)), .own x17, .frz d.d, x19, x20] = some (.nx [.frz (.scr ns), .frz (.int a), .frz (.int b), .frz (.int c), .frz (.lst (K.map Kind.d)), .frz x5, x6, .frz (.int (m : Int)), .frz x8, .frz x9, .frz x10, .frz x11, .frz x12, .frz x13, .own x14, x15, .own (newL ((acc ++ worksK m d.name j xs).map Work.d)), .own x17, .frz d.d, y19, y20])
  | [], j, x19, x20, acc, h19, h20, hk, hl => ⟨x19, x20, h19, h20, by simp [worksK]⟩
  | kd :: xs, j, x19, x20, acc, h19, h20, hk, hl => by
    simp only [List.length_cons] at hk hl
    obtain ⟨nw, hnw⟩ : ∃ nw : List Work, nw = if 0 < m / (j + 7) % 3 then [⟨d.name, kd.name, 1 + m / (j * j + 2) % 6⟩] else [] := ⟨_, rfl⟩
    have hnl : nw.length ≤ 1 := by rw [hnw]; split <;> simp
    obtain ⟨y19, y20, g19, g20, e⟩ := w_loop ns a b c K x5 x8 x9 x10 x11 x12 x13 x14 x17 x6 x15 h6 h15 m d xs (j + 1) (.frz (.int j)) (.frz kd.d) (acc ++ nw) rfl rfl (by omega) (by rw [List.length_append]; omega)
    refine ⟨y19, y20, g19, g20, ?_⟩
    have st : bdE b3__law_plant (g_w (.frz (.tup [.int (j : Int), kd.d])) [.frz (.scr ns), .frz (.int a), .frz (.int b), .frz (.int c), .frz (.lst (K.map Kind.d)), .frz x5, x6, .frz (.int (m : Int)), .frz x8, .frz x9, .frz x10, .frz x11, .frz x12, .frz x13, .own x14, x15, .own (newL ((acc).map Work.d)), .own x17, .frz d.d, x19, x20]) = some (.nx [.frz (.scr ns), .frz (.int a), .frz (.int b), .frz (.int c), .frz (.lst (K.map Kind.d)), .frz x5, x6, .frz (.int (m : Int)), .frz x8, .frz x9, .frz x10, .frz x11, .frz x12, .frz x13, .own x14, x15, .own (newL ((acc ++ nw).map Work.d)), .own x17, .frz d.d, .frz (.int j), .frz kd.d]) := by
      have tg : g_w (.frz (.tup [.int (j : Int), kd.d])) [.frz (.scr ns), .frz (.int a), .frz (.int b), .frz (.int c), .frz (.lst (K.map Kind.d)), .frz x5, x6, .frz (.int (m : Int)), .frz x8, .frz x9, .frz x10, .frz x11, .frz x12, .frz x13, .own x14, x15, .own (newL ((acc).map Work.d)), .own x17, .frz d.d, x19, x20] = some [.frz (.scr ns), .frz (.int a), .frz (.int b), .frz (.int c), .frz (.lst (K.map Kind.d)), .frz x5, x6, .frz (.int (m : Int)), .frz x8, .frz x9, .frz x10, .frz x11, .frz x12, .frz x13, .own x14, x15, .own (newL ((acc).map Work.d)), .own x17, .frz d.d, .frz (.int j), .frz kd.d] := by simp [h6, h15, h19, h20]
      have e7 : (j : Int) + 7 = ((j + 7 : Nat) : Int) := rfl
      have dv : gDiv (.int (m : Int)) (.int ((j + 7 : Nat) : Int)) = some (.int ((m / (j + 7) : Nat) : Int)) := by
        rw [gDiv_i ⟨by omega, by omega⟩]; rfl
      have te : tst (eOp2 (sc2 (gB fun i j => decide (j < i))) (frzE (eOp2 (sc2 gMod) (frzE (eOp2 (sc2 gDiv) (eVar 7) (frzE (eOp2 oAdd (eVar 19) (eC (.int 7)))))) (eC (.int 3)))) (eC (.int 0))) [.frz (.scr ns), .frz (.int a), .frz (.int b), .frz (.int c), .frz (.lst (K.map Kind.d)), .frz x5, x6, .frz (.int (m : Int)), .frz x8, .frz x9, .frz x10, .frz x11, .frz x12, .frz x13, .own x14, x15, .own (newL ((acc).map Work.d)), .own x17, .frz d.d, .frz (.int j), .frz kd.d] = some (decide (0 < m / (j + 7) % 3)) := by
        have ee : decide ((0 : Int) < ((m / (j + 7) : Nat) : Int) % 3) = decide (0 < m / (j + 7) % 3) := by
          generalize m / (j + 7) = q
          by_cases h : 0 < q % 3
          · rw [decide_eq_true h, decide_eq_true (by omega)]
          · rw [decide_eq_false h, decide_eq_false (by omega)]
        simp only [tst_c, eOp2_c, frzE_c, eVar_c, List.getElem?_cons_succ, List.getElem?_cons_zero, rdS_frz, eC_c, ap2_s, oAdd_i, fz1_s, toD_frz, e7, sc2_s, dv, fr_s, gMod_i (show (0 : Int) < 3 by omega), gB_i, ee, tst1_b]
      rw [tg, bdE_s, b3__law_plant, sIf_c, te]
      by_cases h : 0 < m / (j + 7) % 3
      · rw [if_pos h] at hnw
        rw [decide_eq_true h, if1_t]
        have jj : oMul (.frz (.int (j : Int))) (.frz (.int (j : Int))) = some (.frz (.int ((j * j : Nat) : Int))) := by rw [oMul_i (by omega)]; rfl
        have kk : j * j ≤ 1000 * 1000 := Nat.mul_le_mul (by omega) (by omega)
        have e2 : ((j * j : Nat) : Int) + 2 = ((j * j + 2 : Nat) : Int) := rfl
        have dv2 : gDiv (.int (m : Int)) (.int ((j * j + 2 : Nat) : Int)) = some (.int ((m / (j * j + 2) : Nat) : Int)) := by
          rw [gDiv_i ⟨by omega, by omega⟩]; rfl
        have e1 : (1 : Int) + ((m / (j * j + 2) : Nat) : Int) % 6 = ((1 + m / (j * j + 2) % 6 : Nat) : Int) := by
          generalize m / (j * j + 2) = q; omega
        have i0 : ix2 (some (.frz d.d)) (some (.frz (.int 0))) = some (.frz (wD d.name)) := ix_t0
        have i1 : ix2 (some (.frz kd.d)) (some (.frz (.int 0))) = some (.frz (wD kd.name)) := ix_t0
        obtain ⟨w, hw⟩ : ∃ w : Work, w = ⟨d.name, kd.name, 1 + m / (j * j + 2) % 6⟩ := ⟨_, rfl⟩
        have mk : mkT [.frz (wD d.name), .frz (wD kd.name), .frz (.int ((1 + m / (j * j + 2) % 6 : Nat) : Int))] = .frz w.d := by rw [mkT3, hw]; rfl
        have ap := aAppend_n (ds := acc.map Work.d) (d := w.d) (by rw [List.length_map]; omega)
        have fin : acc.map Work.d ++ [w.d] = (acc ++ nw).map Work.d := by rw [hnw, ← hw, List.map_append]; rfl
        rw [fin] at ap
        simp only [sAct_c, qVar_c, List.getElem?_cons_succ, List.getElem?_cons_zero, qv_o, eCons_c, eTup_c, takE_c, eIx_c, eVar_c, rdS_frz, eC_c, i0, i1, tk1_f, eOp2_c, frzE_c, ap2_s, jj, fz1_s, toD_frz, oAdd_i, e2, sc2_s, dv2, fr_s, gMod_i (show (0 : Int) < 6 by omega), e1, eNil_c, cons2_s, tup1_s (show [O.frz (wD d.name), .frz (wD kd.name), .frz (.int ((1 + m / (j * j + 2) % 6 : Nat) : Int))].length ≤ 1000 by simp), mk, ac2_s, okQ_c, okq_o, walk_n, ac1_s, isLst_n, if_true, ap, Option.map_some, mutS_c, mt_o, putW_n, kP_c, kP_f, kP_o, kP_d, kP_p h6, kP_p h15, kP_nil, List.set_cons_succ, List.set_cons_zero]
      · rw [if_neg h] at hnw
        rw [decide_eq_false h, if1_f, sNx_c, hnw, List.append_nil]
    rw [List.zipIdx_cons, List.map_cons, loop_cons, st, lp2_n, e]
    rw [worksK, ← hnw, List.append_assoc]

abbrev g_p : Gm := gTp 2 (gCn (gNm 5) (gCn (gNm 18) gNl))
theorem d_loop (ns : List Int) (a b c : Int) (K : List Kind) (hK : K.length ≤ 10) (x8 x9 x10 x11 x12 x13 : D) (x14 : O) (x6 x15 : SV) (h6 : plS x6 = true) (h15 : plS x15 = true) : ∀ (xs : List Desk) (k : Nat) (x4 x5 x7 x18 x19 x20 : SV) (wa : List Work) (ha : List Hour), (x4 = .own (newL (K.map Kind.d)) ∨ x4 = .frz (.lst (K.map Kind.d))) → plS x5 = true → plS x7 = true → plS x18 = true → plS x19 = true → plS x20 = true → k + xs.length ≤ 100 → wa.length ≤ 10 * k → ha.length ≤ 2 * k →
    ∃ y4 y5 y7 y18 y19 y20 : SV, (y4 = .own (newL (K.map Kind.d)) ∨ y4 = .frz (.lst (K.map Kind.d))) ∧ plS y5 = true ∧ plS y7 = true ∧ plS y18 = true ∧ plS y19 = true ∧ plS y20 = true ∧
      loop g_p b2__law_plant ((xs.zipIdx k).map fun p => D.tup [.int (p.2 : Int), p.1.d]) [.frz (.scr ns), .frz (.int a), .frz (.int b), .frz (.int c), x4, x5, x6, x7, .frz x8, .frz x9, .frz x10, .frz x11, .frz x12, .frz x13, .own x14, x15, .own (newL ((wa).map Work.d)), .own (newL ((ha).map Hour.d)), x18, x19, x20] = some (.nx [.frz (.scr ns), .frz (.int a), .frz (.int b), .frz (.int c), y4, y5, x6, y7, .frz x8, .frz x9, .frz x10, .frz x11, .frz x12, .frz x13, .own x14, x15, .own (newL ((wa ++ worksT c K k xs).map Work.d)), .own (newL ((ha ++ hoursT c k xs).map Hour.d)), y18, y19, y20])
  | [], k, x4, x5, x7, x18, x19, x20, wa, ha, h4, h5, h7, h18, h19, h20, hk, hw, hh => ⟨x4, x5, x7, x18, x19, x20, h4, h5, h7, h18, h19, h20, by simp [worksT, hoursT]⟩
  | d :: xs, k, x4, x5, x7, x18, x19, x20, wa, ha, h4, h5, h7, h18, h19, h20, hk, hw, hh => by
    simp only [List.length_cons] at hk
    have p4 : plS x4 = true := by rcases h4 with rfl | rfl <;> rfl
    have wl := worksK_len (mixN c (110 + k)) d.name 0 K
    have hl2 := hoursK_len (mixN c (110 + k)) d.name
    obtain ⟨z19, z20, q19, q20, e1⟩ := w_loop ns a b c K (.int k) x8 x9 x10 x11 x12 x13 x14 (newL (ha.map Hour.d)) x6 x15 h6 h15 (mixN c (110 + k)) d K 0 x19 x20 wa h19 h20 (by omega) (by omega)
    obtain ⟨y4, y5, y7, y18, y19, y20, g4, g5, g7, g18, g19, g20, e⟩ := d_loop ns a b c K hK x8 x9 x10 x11 x12 x13 x14 x6 x15 h6 h15 xs (k + 1) (.frz (.lst (K.map Kind.d))) (.frz (.int k)) (.frz (.int (mixN c (110 + k) : Int))) (.frz d.d) z19 z20 (wa ++ worksK (mixN c (110 + k)) d.name 0 K) (ha ++ hoursK (mixN c (110 + k)) d.name) (.inr rfl) rfl rfl rfl q19 q20 (by omega) (by rw [List.length_append]; omega) (by rw [List.length_append]; omega)
    refine ⟨y4, y5, y7, y18, y19, y20, g4, g5, g7, g18, g19, g20, ?_⟩
    have st : bdE b2__law_plant (g_p (.frz (.tup [.int (k : Int), d.d])) [.frz (.scr ns), .frz (.int a), .frz (.int b), .frz (.int c), x4, x5, x6, x7, .frz x8, .frz x9, .frz x10, .frz x11, .frz x12, .frz x13, .own x14, x15, .own (newL ((wa).map Work.d)), .own (newL ((ha).map Hour.d)), x18, x19, x20]) = some (.nx [.frz (.scr ns), .frz (.int a), .frz (.int b), .frz (.int c), .frz (.lst (K.map Kind.d)), .frz (.int k), x6, .frz (.int (mixN c (110 + k) : Int)), .frz x8, .frz x9, .frz x10, .frz x11, .frz x12, .frz x13, .own x14, x15, .own (newL ((wa ++ worksK (mixN c (110 + k)) d.name 0 K).map Work.d)), .own (newL ((ha ++ hoursK (mixN c (110 + k)) d.name).map Hour.d)), .frz d.d, z19, z20]) := by
      have tg : g_p (.frz (.tup [.int (k : Int), d.d])) [.frz (.scr ns), .frz (.int a), .frz (.int b), .frz (.int c), x4, x5, x6, x7, .frz x8, .frz x9, .frz x10, .frz x11, .frz x12, .frz x13, .own x14, x15, .own (newL ((wa).map Work.d)), .own (newL ((ha).map Hour.d)), x18, x19, x20] = some [.frz (.scr ns), .frz (.int a), .frz (.int b), .frz (.int c), x4, .frz (.int k), x6, x7, .frz x8, .frz x9, .frz x10, .frz x11, .frz x12, .frz x13, .own x14, x15, .own (newL ((wa).map Work.d)), .own (newL ((ha).map Hour.d)), .frz d.d, x19, x20] := by simp [p4, h5, h6, h7, h15, h18, h19, h20]
      have cm := cl_mixN c (k := 110 + (k : Int)) (110 + k) (by omega) (by omega)
      have s1 : sSet 7 (takE (frzE (eCall 2 f__law_mix (eCons (eVar 3) (eCons (frzE (eOp2 oAdd (eC (.int 110)) (eVar 5))) eNil))))) [.frz (.scr ns), .frz (.int a), .frz (.int b), .frz (.int c), x4, .frz (.int k), x6, x7, .frz x8, .frz x9, .frz x10, .frz x11, .frz x12, .frz x13, .own x14, x15, .own (newL ((wa).map Work.d)), .own (newL ((ha).map Hour.d)), .frz d.d, x19, x20] = some (.nx [.frz (.scr ns), .frz (.int a), .frz (.int b), .frz (.int c), x4, .frz (.int k), x6, .frz (.int (mixN c (110 + k) : Int)), .frz x8, .frz x9, .frz x10, .frz x11, .frz x12, .frz x13, .own x14, x15, .own (newL ((wa).map Work.d)), .own (newL ((ha).map Hour.d)), .frz d.d, x19, x20]) := by
        simp [cm, p4, h5, h6, h7, h15, h18, h19, h20]
      have fz : fzS 4 [.frz (.scr ns), .frz (.int a), .frz (.int b), .frz (.int c), x4, .frz (.int k), x6, .frz (.int (mixN c (110 + k) : Int)), .frz x8, .frz x9, .frz x10, .frz x11, .frz x12, .frz x13, .own x14, x15, .own (newL ((wa).map Work.d)), .own (newL ((ha).map Hour.d)), .frz d.d, x19, x20] = [.frz (.scr ns), .frz (.int a), .frz (.int b), .frz (.int c), .frz (.lst (K.map Kind.d)), .frz (.int k), x6, .frz (.int (mixN c (110 + k) : Int)), .frz x8, .frz x9, .frz x10, .frz x11, .frz x12, .frz x13, .own x14, x15, .own (newL ((wa).map Work.d)), .own (newL ((ha).map Hour.d)), .frz d.d, x19, x20] := by
        rcases h4 with rfl | rfl
        · simp [kS_p h6, kS_p h15, kS_p h19, kS_p h20]
        · simp
      have ek : itE seqF (some [.frz (.lst (K.map Kind.d))]) = some ((K.zipIdx).map fun p => D.tup [.int (p.2 : Int), p.1.d]) := it_enum Kind.d K
      have s2 : sFor (iE (eCons (eVar 4) eNil)) (gTp 2 (gCn (gNm 19) (gCn (gNm 20) gNl))) b3__law_plant [.frz (.scr ns), .frz (.int a), .frz (.int b), .frz (.int c), .frz (.lst (K.map Kind.d)), .frz (.int k), x6, .frz (.int (mixN c (110 + k) : Int)), .frz x8, .frz x9, .frz x10, .frz x11, .frz x12, .frz x13, .own x14, x15, .own (newL ((wa).map Work.d)), .own (newL ((ha).map Hour.d)), .frz d.d, x19, x20] = some (.nx [.frz (.scr ns), .frz (.int a), .frz (.int b), .frz (.int c), .frz (.lst (K.map Kind.d)), .frz (.int k), x6, .frz (.int (mixN c (110 + k) : Int)), .frz x8, .frz x9, .frz x10, .frz x11, .frz x12, .frz x13, .own x14, x15, .own (newL ((wa ++ worksK (mixN c (110 + k)) d.name 0 K).map Work.d)), .own (newL ((ha).map Hour.d)), .frz d.d, z19, z20]) := by
        simp only [sFor_c, iE_c, eCons_c, eVar_c, List.getElem?_cons_succ, List.getElem?_cons_zero, rdS_frz, eNil_c, cons2_s, ek, lp1_s]
        exact e1
      rw [tg, bdE_s, b2__law_plant, sSeq_c, s1, thS_n, sSeq_c, sFz_c, fz, s2, thS_n]
      obtain ⟨M, hM⟩ : ∃ M, M = mixN c (110 + k) := ⟨_, rfl⟩
      rw [← hM]
      have te : tst (eOp2 (sc2 gEq) (frzE (eOp2 (sc2 gMod) (frzE (eOp2 (sc2 gDiv) (eVar 7) (eC (.int 5)))) (eC (.int 4)))) (eC (.int 0))) [.frz (.scr ns), .frz (.int a), .frz (.int b), .frz (.int c), .frz (.lst (K.map Kind.d)), .frz (.int k), x6, .frz (.int (M : Int)), .frz x8, .frz x9, .frz x10, .frz x11, .frz x12, .frz x13, .own x14, x15, .own (newL ((wa ++ worksK (M) d.name 0 K).map Work.d)), .own (newL ((ha).map Hour.d)), .frz d.d, z19, z20] = some (decide (M / 5 % 4 = 0)) := by
        have := beqI (a := (M : Int) / 5 % 4) (x := M / 5 % 4) (by omega) 0 0 rfl
        simp only [tst_c, eOp2_c, frzE_c, eVar_c, List.getElem?_cons_succ, List.getElem?_cons_zero, rdS_frz, eC_c, ap2_s, sc2_s, toD_frz, gDiv_i (show (0 : Int) < 5 ∧ (5 : Int) < 1073741824 by omega), fr_s, fz1_s, gMod_i (show (0 : Int) < 4 by omega), gEq_ii, this, tst1_b]
      rw [sIf_c, te]
      unfold hoursK
      by_cases h : M / 5 % 4 = 0
      · rw [if_pos h, decide_eq_true h, if1_t, sSeq_c]
        have i0 : ix2 (some (.frz d.d)) (some (.frz (.int 0))) = some (.frz (wD d.name)) := ix_t0
        have n1 : (M : Int) / 20 % 9 = ((M / 20 % 9 : Nat) : Int) := by omega
        have n2 : (9 : Int) + (M : Int) / 180 % 20 = ((9 + M / 180 % 20 : Nat) : Int) := by omega
        have n3 : (25 : Int) + (M : Int) / 3600 % 20 = ((25 + M / 3600 % 20 : Nat) : Int) := by omega
        have n4 : (50 : Int) + (M : Int) / 72000 % 40 = ((50 + M / 72000 % 40 : Nat) : Int) := by omega
        obtain ⟨u, hu⟩ : ∃ u : Hour, u = ⟨d.name, M / 20 % 9, 9 + M / 180 % 20⟩ := ⟨_, rfl⟩
        obtain ⟨v, hv⟩ : ∃ v : Hour, v = ⟨d.name, 25 + M / 3600 % 20, 50 + M / 72000 % 40⟩ := ⟨_, rfl⟩
        have mk1 : mkT [.frz (wD d.name), .frz (.int ((M / 20 % 9 : Nat) : Int)), .frz (.int ((9 + M / 180 % 20 : Nat) : Int))] = .frz u.d := by rw [mkT3, hu]; rfl
        have mk2 : mkT [.frz (wD d.name), .frz (.int ((25 + M / 3600 % 20 : Nat) : Int)), .frz (.int ((50 + M / 72000 % 40 : Nat) : Int))] = .frz v.d := by rw [mkT3, hv]; rfl
        have ap1 := aAppend_n (ds := ha.map Hour.d) (d := u.d) (by rw [List.length_map]; omega)
        have fin1 : ha.map Hour.d ++ [u.d] = (ha ++ [u]).map Hour.d := by rw [List.map_append]; rfl
        rw [fin1] at ap1
        have ap2 := aAppend_n (ds := (ha ++ [u]).map Hour.d) (d := v.d) (by rw [List.length_map, List.length_append, List.length_singleton]; omega)
        have fin2 : (ha ++ [u]).map Hour.d ++ [v.d] = (ha ++ [u, v]).map Hour.d := by rw [← List.map_singleton (f := Hour.d), ← List.map_append, List.append_assoc]; rfl
        rw [fin2] at ap2
        rw [← hu, ← hv]
        simp only [sAct_c, qVar_c, List.getElem?_cons_succ, List.getElem?_cons_zero, qv_o, eCons_c, eTup_c, takE_c, eIx_c, eVar_c, rdS_frz, eC_c, i0, tk1_f, eOp2_c, frzE_c, ap2_s, sc2_s, toD_frz, gDiv_i (show (0 : Int) < 20 ∧ (20 : Int) < 1073741824 by omega), gDiv_i (show (0 : Int) < 180 ∧ (180 : Int) < 1073741824 by omega), fr_s, fz1_s, gMod_i (show (0 : Int) < 9 by omega), gMod_i (show (0 : Int) < 20 by omega), oAdd_i, n1, n2, eNil_c, cons2_s, tup1_s (show [O.frz (wD d.name), .frz (.int ((M / 20 % 9 : Nat) : Int)), .frz (.int ((9 + M / 180 % 20 : Nat) : Int))].length ≤ 1000 by simp), mk1, ac2_s, okQ_c, okq_o, walk_n, ac1_s, isLst_n, if_true, ap1, Option.map_some, mutS_c, mt_o, putW_n, kP_c, kP_f, kP_o, kP_d, kP_p h6, kP_p h15, kP_p q19, kP_p q20, kP_nil, List.set_cons_succ, List.set_cons_zero, thS_n]
        simp only [sAct_c, qVar_c, List.getElem?_cons_succ, List.getElem?_cons_zero, qv_o, eCons_c, eTup_c, takE_c, eIx_c, eVar_c, rdS_frz, eC_c, i0, tk1_f, eOp2_c, frzE_c, ap2_s, sc2_s, toD_frz, gDiv_i (show (0 : Int) < 3600 ∧ (3600 : Int) < 1073741824 by omega), gDiv_i (show (0 : Int) < 72000 ∧ (72000 : Int) < 1073741824 by omega), fr_s, fz1_s, gMod_i (show (0 : Int) < 40 by omega), gMod_i (show (0 : Int) < 20 by omega), oAdd_i, n3, n4, eNil_c, cons2_s, tup1_s (show [O.frz (wD d.name), .frz (.int ((25 + M / 3600 % 20 : Nat) : Int)), .frz (.int ((50 + M / 72000 % 40 : Nat) : Int))].length ≤ 1000 by simp), mk2, ac2_s, okQ_c, okq_o, walk_n, ac1_s, isLst_n, if_true, ap2, Option.map_some, mutS_c, mt_o, putW_n, kP_c, kP_f, kP_o, kP_d, kP_p h6, kP_p h15, kP_p q19, kP_p q20, kP_nil, List.set_cons_succ, List.set_cons_zero]
      · rw [if_neg h, decide_eq_false h, if1_f, sNx_c, List.append_nil]
    rw [List.zipIdx_cons, List.map_cons, loop_cons, st, lp2_n, e]
    rw [worksT, hoursT, List.append_assoc, List.append_assoc]

end Pt
namespace Pt
open PySem PySem.Spec PyProof.Rows L2 VL Mr
def Plant.o (p : Plant) : O := .dct [(.inr (Str.ofString "kinds"), .frz (.lst (p.kinds.map Kind.d))), (.inr (Str.ofString "gates"), .frz (.lst (p.gates.map wD))), (.inr (Str.ofString "lines"), .frz (.lst (p.lines.map Room.d))), (.inr (Str.ofString "desks"), .frz (.lst (p.desks.map Desk.d))), (.inr (Str.ofString "times"), .frz (.lst (p.times.map Work.d))), (.inr (Str.ofString "hours"), .frz (.lst (p.hours.map Hour.d))), (.inr (Str.ofString "paces"), .lst [])]
theorem Plant.toD (p : Plant) : p.o.toD = p.d := by
  unfold Plant.o
  rw [toD_dct]
  simp only [List.map_cons, List.map_nil, toD_frz, toD_lst]
  rfl
theorem ev_plantO (ns : List Int) : f__law_plant [.frz (.scr ns)] = some ((plantOf ns).o, [.frz (.scr ns)]) := by
  obtain ⟨a, ha⟩ : ∃ a, a = cellAt ns 0 := ⟨_, rfl⟩
  obtain ⟨b, hb⟩ : ∃ b, b = cellAt ns 1 := ⟨_, rfl⟩
  obtain ⟨c, hc⟩ : ∃ c, c = cellAt ns 2 := ⟨_, rfl⟩
  have c0 := cl_cell ns 0
  have c1 := cl_cell ns 1
  have c2 := cl_cell ns 2
  rw [← ha] at c0; rw [← hb] at c1; rw [← hc] at c2
  have s0 : u0__law_plant [.frz (.scr ns), .dead, .dead, .dead, .dead, .dead, .dead, .dead, .dead, .dead, .dead, .dead, .dead, .dead, .dead, .dead, .dead, .dead, .dead, .dead, .dead] = some (.nx [.frz (.scr ns), .frz (.int a), .frz (.int b), .frz (.int c), .dead, .dead, .dead, .dead, .dead, .dead, .dead, .dead, .dead, .dead, .dead, .dead, .dead, .dead, .dead, .dead, .dead]) := by
    have c0' : cl 2 f__law_cell_at (some [.frz (.scr ns), .frz (.int 0)]) = some (.frz (.int a)) := c0
    have c1' : cl 2 f__law_cell_at (some [.frz (.scr ns), .frz (.int 1)]) = some (.frz (.int b)) := c1
    have c2' : cl 2 f__law_cell_at (some [.frz (.scr ns), .frz (.int 2)]) = some (.frz (.int c)) := c2
    rw [u0__law_plant, sPar3_c]
    simp [c0', c1', c2']
  have s1 : u1__law_plant [.frz (.scr ns), .frz (.int a), .frz (.int b), .frz (.int c), .dead, .dead, .dead, .dead, .dead, .dead, .dead, .dead, .dead, .dead, .dead, .dead, .dead, .dead, .dead, .dead, .dead] = some (.nx [.frz (.scr ns), .frz (.int a), .frz (.int b), .frz (.int c), .own (newL (([] : List Kind).map Kind.d)), .dead, .dead, .dead, .dead, .dead, .dead, .dead, .dead, .dead, .dead, .dead, .dead, .dead, .dead, .dead, .dead]) := by
    simp [u1__law_plant, newL]
  have kl := kinds_len a
  obtain ⟨y5, y6, y7, g5, g6, g7, ek⟩ := k_loop ns a b c (namesT a (1 + mixN a 1 % 4)) 0 .dead .dead .dead [] rfl rfl rfl (by rw [names_len]; omega) (by rw [names_len, List.length_nil]; omega)
  have s2 : u2__law_plant [.frz (.scr ns), .frz (.int a), .frz (.int b), .frz (.int c), .own (newL (([] : List Kind).map Kind.d)), .dead, .dead, .dead, .dead, .dead, .dead, .dead, .dead, .dead, .dead, .dead, .dead, .dead, .dead, .dead, .dead] = some (.nx [.frz (.scr ns), .frz (.int a), .frz (.int b), .frz (.int c), .own (newL ((kindsT a).map Kind.d)), y5, y6, y7, .dead, .dead, .dead, .dead, .dead, .dead, .dead, .dead, .dead, .dead, .dead, .dead, .dead]) := by
    have cm := cl_mixN a (k := 1) 1 (by omega) (by omega)
    have em : (1 : Int) + (mixN a 1 : Int) % 4 = ((1 + mixN a 1 % 4 : Nat) : Int) := by omega
    have cn := cl_names a (1 + mixN a 1 % 4) (by omega)
    have en : itE seqF (some [.frz (.lst ((namesT a (1 + mixN a 1 % 4)).map wD))]) = some (((namesT a (1 + mixN a 1 % 4)).zipIdx).map fun p => D.tup [.int (p.2 : Int), wD p.1]) := it_enum wD _
    rw [u2__law_plant]
    simp only [sFor_c, iE_c, eCons_c, frzE_c, eCall_c, eVar_c, List.getElem?_cons_succ, List.getElem?_cons_zero, rdS_frz, eOp2_c, eC_c, eNil_c, cons2_s, cm, fz1_s, toD_frz, ap2_s, sc2_s, gMod_i (show (0 : Int) < 4 by omega), fr_s, oAdd_i, em, cn, toD_newL, en, lp1_s]
    exact ek
  have s3 : u3__law_plant [.frz (.scr ns), .frz (.int a), .frz (.int b), .frz (.int c), .own (newL ((kindsT a).map Kind.d)), y5, y6, y7, .dead, .dead, .dead, .dead, .dead, .dead, .dead, .dead, .dead, .dead, .dead, .dead, .dead] = some (.nx [.frz (.scr ns), .frz (.int a), .frz (.int b), .frz (.int c), .own (newL ((kindsT a).map Kind.d)), y5, y6, y7, .frz (.int (manyT b : Int)), .dead, .dead, .dead, .dead, .dead, .dead, .dead, .dead, .dead, .dead, .dead, .dead]) := by
    have cm := cl_mixN b (k := 2) 2 (by omega) (by omega)
    have em : (1 : Int) + (mixN b 2 : Int) % 3 = (manyT b : Int) := rfl
    rw [u3__law_plant]
    simp only [sSet_c, takE_c, eCons_c, frzE_c, eCall_c, eVar_c, List.getElem?_cons_succ, List.getElem?_cons_zero, rdS_frz, eOp2_c, eC_c, eNil_c, cons2_s, cm, fz1_s, toD_frz, ap2_s, sc2_s, gMod_i (show (0 : Int) < 3 by omega), fr_s, oAdd_i, em, tk1_f, g5, g6, g7, st1_e, slot_f, setS_c, pE_c, pl_f, pl_o, pl_d, Bool.and_self, pE_nil, if_true, Option.map_some, List.set_cons_succ, List.set_cons_zero]
  have pl := places_le b
  have s4 : u4__law_plant [.frz (.scr ns), .frz (.int a), .frz (.int b), .frz (.int c), .own (newL ((kindsT a).map Kind.d)), y5, y6, y7, .frz (.int (manyT b : Int)), .dead, .dead, .dead, .dead, .dead, .dead, .dead, .dead, .dead, .dead, .dead, .dead] = some (.nx [.frz (.scr ns), .frz (.int a), .frz (.int b), .frz (.int c), .own (newL ((kindsT a).map Kind.d)), y5, y6, y7, .frz (.int (manyT b : Int)), .frz (.lst ((placesT b).map wD)), .dead, .dead, .dead, .dead, .dead, .dead, .dead, .dead, .dead, .dead, .dead]) := by
    have cm := cl_mix b 4 (by omega) (by omega)
    have cm5 := cl_mixN b (k := 5) 5 (by omega) (by omega)
    have em : (manyT b : Int) + (mixN b 5 : Int) % 4 = ((manyT b + mixN b 5 % 4 : Nat) : Int) := by omega
    have cn := cl_names (mix b 4) (manyT b + mixN b 5 % 4) (by have := many_le b; omega)
    have pp : namesT (mix b 4) (manyT b + mixN b 5 % 4) = placesT b := rfl
    rw [pp] at cn
    rw [u4__law_plant]
    simp only [sSet_c, takE_c, eCons_c, frzE_c, eCall_c, eVar_c, List.getElem?_cons_succ, List.getElem?_cons_zero, rdS_frz, eOp2_c, eC_c, eNil_c, cons2_s, cm, cm5, fz1_s, toD_frz, ap2_s, sc2_s, gMod_i (show (0 : Int) < 4 by omega), fr_s, oAdd_i, em, cn, toD_newL, tk1_f, g5, g6, g7, st1_e, slot_f, setS_c, pE_c, pl_f, pl_o, pl_d, Bool.and_self, pE_nil, if_true, Option.map_some, List.set_cons_succ, List.set_cons_zero]
  have s5 : u5__law_plant [.frz (.scr ns), .frz (.int a), .frz (.int b), .frz (.int c), .own (newL ((kindsT a).map Kind.d)), y5, y6, y7, .frz (.int (manyT b : Int)), .frz (.lst ((placesT b).map wD)), .dead, .dead, .dead, .dead, .dead, .dead, .dead, .dead, .dead, .dead, .dead] = some (.nx [.frz (.scr ns), .frz (.int a), .frz (.int b), .frz (.int c), .own (newL ((kindsT a).map Kind.d)), y5, y6, y7, .frz (.int (manyT b : Int)), .frz (.lst ((placesT b).map wD)), .frz (.lst ((gatesT b).map wD)), .frz (.lst ((linesT b).map wD)), .dead, .dead, .dead, .dead, .dead, .dead, .dead, .dead, .dead]) := by
    have q1 : cutA ((placesT b).map wD) none (some (manyT b : Int)) = (gatesT b).map wD := by rw [cut_to, gatesT, List.map_take]
    have q2 : cutA ((placesT b).map wD) (some (manyT b : Int)) none = (linesT b).map wD := by rw [cut_from, linesT, List.map_drop]
    rw [u5__law_plant, sPar_c]
    simp only [eCons_c, frzE_c, eSl_c, eVar_c, List.getElem?_cons_succ, List.getElem?_cons_zero, rdS_frz, noP_c, someP_c, sp1_i, sl3_l, q1, q2, fz1_s, toD_newL, eNil_c, cons2_s, Option.bind_some, asFrz_f, List.length_cons, List.length_nil]
    simp [g5, g6, g7]
  have s6 : u6__law_plant [.frz (.scr ns), .frz (.int a), .frz (.int b), .frz (.int c), .own (newL ((kindsT a).map Kind.d)), y5, y6, y7, .frz (.int (manyT b : Int)), .frz (.lst ((placesT b).map wD)), .frz (.lst ((gatesT b).map wD)), .frz (.lst ((linesT b).map wD)), .dead, .dead, .dead, .dead, .dead, .dead, .dead, .dead, .dead] = some (.nx [.frz (.scr ns), .frz (.int a), .frz (.int b), .frz (.int c), .own (newL ((kindsT a).map Kind.d)), y5, y6, y7, .frz (.int (manyT b : Int)), .frz (.lst ((placesT b).map wD)), .frz (.lst ((gatesT b).map wD)), .frz (.lst ((linesT b).map wD)), .frz (.lst ((orderT b).map wD)), .dead, .dead, .dead, .dead, .dead, .dead, .dead, .dead]) := by
    have cm := cl_mixN b (k := 6) 6 (by omega) (by omega)
    have ln : oLen (.frz (.lst ((placesT b).map wD))) = some (.frz (.int ((placesT b).length : Int))) := by rw [oLen_l, List.length_map]
    have hp : (0 : Int) < ((placesT b).length : Int) := by omega
    have em : (mixN b 6 : Int) % ((placesT b).length : Int) = ((mixN b 6 % (placesT b).length : Nat) : Int) := rfl
    have q1 : cutA ((placesT b).map wD) (some ((mixN b 6 % (placesT b).length : Nat) : Int)) none = ((placesT b).drop (mixN b 6 % (placesT b).length)).map wD := by rw [cut_from, List.map_drop]
    have q2 : cutA ((placesT b).map wD) none (some ((mixN b 6 % (placesT b).length : Nat) : Int)) = ((placesT b).take (mixN b 6 % (placesT b).length)).map wD := by rw [cut_to, List.map_take]
    have ad : oAdd (.frz (.lst (((placesT b).drop (mixN b 6 % (placesT b).length)).map wD))) (.frz (.lst (((placesT b).take (mixN b 6 % (placesT b).length)).map wD))) = some (newL ((orderT b).map wD)) := by
      rw [oAdd_ll (by simp; omega), ← List.map_append]; rfl
    rw [u6__law_plant]
    simp only [sSet_c, takE_c, frzE_c, eOp2_c, eSl_c, eVar_c, List.getElem?_cons_succ, List.getElem?_cons_zero, rdS_frz, someP_c, eCall_c, eCons_c, eC_c, eNil_c, cons2_s, cm, fz1_s, toD_frz, eOpN_c, bN_s, n1_s, ln, ap2_s, sc2_s, gMod_i hp, fr_s, em, sp1_i, noP_c, sl3_l, q1, q2, toD_newL, ad, tk1_f, g5, g6, g7, st1_e, slot_f, setS_c, pE_c, pl_f, pl_o, pl_d, Bool.and_self, pE_nil, if_true, Option.map_some, List.set_cons_succ, List.set_cons_zero]
  obtain ⟨ds, hds⟩ : ∃ ds, ds = desksT c (orderT b) (linesT b) := ⟨_, rfl⟩
  have dl := desks_le b c
  rw [← hds] at dl
  have s7 : u7__law_plant [.frz (.scr ns), .frz (.int a), .frz (.int b), .frz (.int c), .own (newL ((kindsT a).map Kind.d)), y5, y6, y7, .frz (.int (manyT b : Int)), .frz (.lst ((placesT b).map wD)), .frz (.lst ((gatesT b).map wD)), .frz (.lst ((linesT b).map wD)), .frz (.lst ((orderT b).map wD)), .dead, .dead, .dead, .dead, .dead, .dead, .dead, .dead] = some (.nx [.frz (.scr ns), .frz (.int a), .frz (.int b), .frz (.int c), .own (newL ((kindsT a).map Kind.d)), y5, y6, y7, .frz (.int (manyT b : Int)), .frz (.lst ((placesT b).map wD)), .frz (.lst ((gatesT b).map wD)), .frz (.lst ((linesT b).map wD)), .frz (.lst ((orderT b).map wD)), .frz (.lst (ds.map Desk.d)), .dead, .dead, .dead, .dead, .dead, .dead, .dead]) := by
    have cd := cl_desks c (orderT b) (linesT b) (by rw [order_len]; omega) (by rw [order_len]; omega) (by have := lines_le b; omega)
    rw [← hds] at cd
    rw [u7__law_plant]
    simp only [sSet_c, takE_c, frzE_c, eCall_c, eCons_c, eVar_c, List.getElem?_cons_succ, List.getElem?_cons_zero, rdS_frz, eNil_c, cons2_s, cd, fz1_s, toD_frz, tk1_f, g5, g6, g7, st1_e, slot_f, setS_c, pE_c, pl_f, pl_o, pl_d, Bool.and_self, pE_nil, if_true, Option.map_some, List.set_cons_succ, List.set_cons_zero]
  have s8 : u8__law_plant [.frz (.scr ns), .frz (.int a), .frz (.int b), .frz (.int c), .own (newL ((kindsT a).map Kind.d)), y5, y6, y7, .frz (.int (manyT b : Int)), .frz (.lst ((placesT b).map wD)), .frz (.lst ((gatesT b).map wD)), .frz (.lst ((linesT b).map wD)), .frz (.lst ((orderT b).map wD)), .frz (.lst (ds.map Desk.d)), .dead, .dead, .dead, .dead, .dead, .dead, .dead] = some (.nx [.frz (.scr ns), .frz (.int a), .frz (.int b), .frz (.int c), .own (newL ((kindsT a).map Kind.d)), y5, y6, y7, .frz (.int (manyT b : Int)), .frz (.lst ((placesT b).map wD)), .frz (.lst ((gatesT b).map wD)), .frz (.lst ((linesT b).map wD)), .frz (.lst ((orderT b).map wD)), .frz (.lst (ds.map Desk.d)), .own (newL (([] : List Room).map Room.d)), .dead, .dead, .dead, .dead, .dead, .dead]) := by
    simp [u8__law_plant, newL, g5, g6, g7]
  have ll := lines_le b
  obtain ⟨z5, z6, z15, k5, k6, k15, er⟩ := r_loop ns a b c (kindsT a) (.int (manyT b : Int)) (.lst ((placesT b).map wD)) (.lst ((gatesT b).map wD)) (.lst ((linesT b).map wD)) (.lst ((orderT b).map wD)) ds (by omega) y7 g7 (linesT b) 0 y5 y6 .dead [] g5 g6 rfl (by omega) (by rw [List.length_nil]; omega)
  have s9 : u9__law_plant [.frz (.scr ns), .frz (.int a), .frz (.int b), .frz (.int c), .own (newL ((kindsT a).map Kind.d)), y5, y6, y7, .frz (.int (manyT b : Int)), .frz (.lst ((placesT b).map wD)), .frz (.lst ((gatesT b).map wD)), .frz (.lst ((linesT b).map wD)), .frz (.lst ((orderT b).map wD)), .frz (.lst (ds.map Desk.d)), .own (newL (([] : List Room).map Room.d)), .dead, .dead, .dead, .dead, .dead, .dead] = some (.nx [.frz (.scr ns), .frz (.int a), .frz (.int b), .frz (.int c), .own (newL ((kindsT a).map Kind.d)), z5, z6, y7, .frz (.int (manyT b : Int)), .frz (.lst ((placesT b).map wD)), .frz (.lst ((gatesT b).map wD)), .frz (.lst ((linesT b).map wD)), .frz (.lst ((orderT b).map wD)), .frz (.lst (ds.map Desk.d)), .own (newL ((roomsT b ds (linesT b)).map Room.d)), z15, .dead, .dead, .dead, .dead, .dead]) := by
    have en : itE seqF (some [.frz (.lst ((linesT b).map wD))]) = some (((linesT b).zipIdx).map fun p => D.tup [.int (p.2 : Int), wD p.1]) := it_enum wD _
    rw [u9__law_plant]
    simp only [sFor_c, iE_c, eCons_c, eVar_c, List.getElem?_cons_succ, List.getElem?_cons_zero, rdS_frz, eNil_c, cons2_s, en, lp1_s]
    exact er
  have s10 : u10__law_plant [.frz (.scr ns), .frz (.int a), .frz (.int b), .frz (.int c), .own (newL ((kindsT a).map Kind.d)), z5, z6, y7, .frz (.int (manyT b : Int)), .frz (.lst ((placesT b).map wD)), .frz (.lst ((gatesT b).map wD)), .frz (.lst ((linesT b).map wD)), .frz (.lst ((orderT b).map wD)), .frz (.lst (ds.map Desk.d)), .own (newL ((roomsT b ds (linesT b)).map Room.d)), z15, .dead, .dead, .dead, .dead, .dead] = some (.nx [.frz (.scr ns), .frz (.int a), .frz (.int b), .frz (.int c), .own (newL ((kindsT a).map Kind.d)), z5, z6, y7, .frz (.int (manyT b : Int)), .frz (.lst ((placesT b).map wD)), .frz (.lst ((gatesT b).map wD)), .frz (.lst ((linesT b).map wD)), .frz (.lst ((orderT b).map wD)), .frz (.lst (ds.map Desk.d)), .own (newL ((roomsT b ds (linesT b)).map Room.d)), z15, .own (newL (([] : List Work).map Work.d)), .own (newL (([] : List Hour).map Hour.d)), .dead, .dead, .dead]) := by
    rw [u10__law_plant, sParO_c]
    simp [newL, k5, k6, k15, g7]
  obtain ⟨w4, w5, w7, w18, w19, w20, m4, m5, m7, m18, m19, m20, ed⟩ := d_loop ns a b c (kindsT a) (by omega) (.int (manyT b : Int)) (.lst ((placesT b).map wD)) (.lst ((gatesT b).map wD)) (.lst ((linesT b).map wD)) (.lst ((orderT b).map wD)) (.lst (ds.map Desk.d)) (newL ((roomsT b ds (linesT b)).map Room.d)) z6 z15 k6 k15 ds 0 (.own (newL ((kindsT a).map Kind.d))) z5 y7 .dead .dead .dead [] [] (.inl rfl) k5 g7 rfl rfl rfl (by omega) (by simp) (by simp)
  have s11 : u11__law_plant [.frz (.scr ns), .frz (.int a), .frz (.int b), .frz (.int c), .own (newL ((kindsT a).map Kind.d)), z5, z6, y7, .frz (.int (manyT b : Int)), .frz (.lst ((placesT b).map wD)), .frz (.lst ((gatesT b).map wD)), .frz (.lst ((linesT b).map wD)), .frz (.lst ((orderT b).map wD)), .frz (.lst (ds.map Desk.d)), .own (newL ((roomsT b ds (linesT b)).map Room.d)), z15, .own (newL (([] : List Work).map Work.d)), .own (newL (([] : List Hour).map Hour.d)), .dead, .dead, .dead] = some (.nx [.frz (.scr ns), .frz (.int a), .frz (.int b), .frz (.int c), w4, w5, z6, w7, .frz (.int (manyT b : Int)), .frz (.lst ((placesT b).map wD)), .frz (.lst ((gatesT b).map wD)), .frz (.lst ((linesT b).map wD)), .frz (.lst ((orderT b).map wD)), .frz (.lst (ds.map Desk.d)), .own (newL ((roomsT b ds (linesT b)).map Room.d)), z15, .own (newL ((worksT c (kindsT a) 0 ds).map Work.d)), .own (newL ((hoursT c 0 ds).map Hour.d)), w18, w19, w20]) := by
    have en : itE seqF (some [.frz (.lst (ds.map Desk.d))]) = some ((ds.zipIdx).map fun p => D.tup [.int (p.2 : Int), p.1.d]) := it_enum Desk.d _
    rw [u11__law_plant]
    simp only [sFor_c, iE_c, eCons_c, eVar_c, List.getElem?_cons_succ, List.getElem?_cons_zero, rdS_frz, eNil_c, cons2_s, en, lp1_s]
    exact ed
  have fz : fzS 4 (fzS 14 (fzS 16 (fzS 17 [.frz (.scr ns), .frz (.int a), .frz (.int b), .frz (.int c), w4, w5, z6, w7, .frz (.int (manyT b : Int)), .frz (.lst ((placesT b).map wD)), .frz (.lst ((gatesT b).map wD)), .frz (.lst ((linesT b).map wD)), .frz (.lst ((orderT b).map wD)), .frz (.lst (ds.map Desk.d)), .own (newL ((roomsT b ds (linesT b)).map Room.d)), z15, .own (newL ((worksT c (kindsT a) 0 ds).map Work.d)), .own (newL ((hoursT c 0 ds).map Hour.d)), w18, w19, w20]))) = [.frz (.scr ns), .frz (.int a), .frz (.int b), .frz (.int c), .frz (.lst ((kindsT a).map Kind.d)), w5, z6, w7, .frz (.int (manyT b : Int)), .frz (.lst ((placesT b).map wD)), .frz (.lst ((gatesT b).map wD)), .frz (.lst ((linesT b).map wD)), .frz (.lst ((orderT b).map wD)), .frz (.lst (ds.map Desk.d)), .frz (.lst ((roomsT b ds (linesT b)).map Room.d)), z15, .frz (.lst ((worksT c (kindsT a) 0 ds).map Work.d)), .frz (.lst ((hoursT c 0 ds).map Hour.d)), w18, w19, w20] := by
    rcases m4 with rfl | rfl
    · simp [kS_p k6, kS_p k15, kS_p m5, kS_p m7, kS_p m18, kS_p m19, kS_p m20]
    · simp [kS_p k6, kS_p k15, kS_p m5, kS_p m7, kS_p m18, kS_p m19, kS_p m20]
  have s12 : u12__law_plant [.frz (.scr ns), .frz (.int a), .frz (.int b), .frz (.int c), w4, w5, z6, w7, .frz (.int (manyT b : Int)), .frz (.lst ((placesT b).map wD)), .frz (.lst ((gatesT b).map wD)), .frz (.lst ((linesT b).map wD)), .frz (.lst ((orderT b).map wD)), .frz (.lst (ds.map Desk.d)), .own (newL ((roomsT b ds (linesT b)).map Room.d)), z15, .own (newL ((worksT c (kindsT a) 0 ds).map Work.d)), .own (newL ((hoursT c 0 ds).map Hour.d)), w18, w19, w20] = some (.ret (.dct [(.inr (Str.ofString "kinds"), .frz (.lst ((kindsT a).map Kind.d))), (.inr (Str.ofString "gates"), .frz (.lst ((gatesT b).map wD))), (.inr (Str.ofString "lines"), .frz (.lst ((roomsT b ds (linesT b)).map Room.d))), (.inr (Str.ofString "desks"), .frz (.lst (ds.map Desk.d))), (.inr (Str.ofString "times"), .frz (.lst ((worksT c (kindsT a) 0 ds).map Work.d))), (.inr (Str.ofString "hours"), .frz (.lst ((hoursT c 0 ds).map Hour.d))), (.inr (Str.ofString "paces"), .lst [])]) [.frz (.scr ns), .frz (.int a), .frz (.int b), .frz (.int c), .frz (.lst ((kindsT a).map Kind.d)), w5, z6, w7, .frz (.int (manyT b : Int)), .frz (.lst ((placesT b).map wD)), .frz (.lst ((gatesT b).map wD)), .frz (.lst ((linesT b).map wD)), .frz (.lst ((orderT b).map wD)), .frz (.lst (ds.map Desk.d)), .frz (.lst ((roomsT b ds (linesT b)).map Room.d)), z15, .frz (.lst ((worksT c (kindsT a) 0 ds).map Work.d)), .frz (.lst ((hoursT c 0 ds).map Hour.d)), w18, w19, w20]) := by
    rw [u12__law_plant, sFz_c]
    show sFz 16 _ (fzS 17 _) = _
    show sRet _ (fzS 4 (fzS 14 (fzS 16 (fzS 17 _)))) = _
    rw [fz, sRet_c]
    simp [eDct_c, eKms_c, eKms_n, dct1, kms2]
  have po : (plantOf ns).o = .dct [(.inr (Str.ofString "kinds"), .frz (.lst ((kindsT a).map Kind.d))), (.inr (Str.ofString "gates"), .frz (.lst ((gatesT b).map wD))), (.inr (Str.ofString "lines"), .frz (.lst ((roomsT b ds (linesT b)).map Room.d))), (.inr (Str.ofString "desks"), .frz (.lst (ds.map Desk.d))), (.inr (Str.ofString "times"), .frz (.lst ((worksT c (kindsT a) 0 ds).map Work.d))), (.inr (Str.ofString "hours"), .frz (.lst ((hoursT c 0 ds).map Hour.d))), (.inr (Str.ofString "paces"), .lst [])] := by
    unfold Plant.o plantOf plantT
    rw [← ha, ← hb, ← hc, ← hds]
  rw [po]
  refine fn1 (e := [.frz (.scr ns), .frz (.int a), .frz (.int b), .frz (.int c), .frz (.lst ((kindsT a).map Kind.d)), w5, z6, w7, .frz (.int (manyT b : Int)), .frz (.lst ((placesT b).map wD)), .frz (.lst ((gatesT b).map wD)), .frz (.lst ((linesT b).map wD)), .frz (.lst ((orderT b).map wD)), .frz (.lst (ds.map Desk.d)), .frz (.lst ((roomsT b ds (linesT b)).map Room.d)), z15, .frz (.lst ((worksT c (kindsT a) 0 ds).map Work.d)), .frz (.lst ((hoursT c 0 ds).map Hour.d)), w18, w19, w20]) ?_
  show m__law_plant [.frz (.scr ns), .dead, .dead, .dead, .dead, .dead, .dead, .dead, .dead, .dead, .dead, .dead, .dead, .dead, .dead, .dead, .dead, .dead, .dead, .dead, .dead] = _
  rw [m__law_plant, sSeq_c, s0, thS_n, sSeq_c, s1, thS_n, sSeq_c, s2, thS_n, sSeq_c, s3, thS_n, sSeq_c, s4, thS_n, sSeq_c, s5, thS_n, sSeq_c, s6, thS_n, sSeq_c, s7, thS_n, sSeq_c, s8, thS_n, sSeq_c, s9, thS_n, sSeq_c, s10, thS_n, sSeq_c, s11, thS_n, s12]
theorem ev_plant (ns : List Int) : ∃ o, f__law_plant [.frz (.scr ns)] = some (o, [.frz (.scr ns)]) ∧ o.toD = (plantOf ns).d := ⟨_, ev_plantO ns, Plant.toD _⟩
theorem cl_plant (ns : List Int) : ∃ o, cl 1 f__law_plant (some [.frz (.scr ns)]) = some o ∧ o.toD = (plantOf ns).d := by
  obtain ⟨o, e1, e2⟩ := ev_plant ns
  exact ⟨o, cl1 e1, e2⟩
end Pt
namespace Pt
open PySem PySem.Spec PyProof.Rows L2 VL Mr
/-- plain data: none, texts, numbers, tuples and lists of such -/
inductive Pl : Nat → D → Prop
  | non {n} : Pl n .non
  | int {n i} : Pl n (.int i)
  | str {n z} : Pl n (.str z)
  | tup {n ds} : ds.length ≤ 100000 → (∀ d ∈ ds, Pl n d) → Pl (n + 1) (.tup ds)
  | lst {n ds} : ds.length ≤ 100000 → (∀ d ∈ ds, Pl n d) → Pl (n + 1) (.lst ds)
theorem is_si {n : Int} : isi1 "str" (some (.frz (.int n))) = some (.frz (.bl false)) := by simp [isi1, D.tyN]; decide
theorem is_ss {n : Str} : isi1 "str" (some (.frz (.str n))) = some (.frz (.bl true)) := by simp [isi1, D.tyN]; decide
theorem is_st {n : List D} : isi1 "str" (some (.frz (.tup n))) = some (.frz (.bl false)) := by simp [isi1, D.tyN]; decide
theorem is_sl {n : List D} : isi1 "str" (some (.frz (.lst n))) = some (.frz (.bl false)) := by simp [isi1, D.tyN]; decide
theorem is_it {n : List D} : isi1 "int" (some (.frz (.tup n))) = some (.frz (.bl false)) := by simp [isi1, D.tyN]; decide
theorem is_il {n : List D} : isi1 "int" (some (.frz (.lst n))) = some (.frz (.bl false)) := by simp [isi1, D.tyN]; decide
theorem is_tl {n : List D} : isi1 "tuple" (some (.frz (.lst n))) = some (.frz (.bl false)) := by simp [isi1, D.tyN]; decide
theorem is_lt {n : List D} : isi1 "list" (some (.frz (.tup n))) = some (.frz (.bl false)) := by simp [isi1, D.tyN]; decide
theorem ne_bl (b : Bool) : gNe (.bl b) (.bl b) = some (.bl false) := gNe_self (n := 0) PyOk.bl (by omega)
theorem oAll_true' (bs : List Bool) (h : bs.all id = true) : oAll (.frz (.lst (bs.map D.bl))) = some (.frz (.bl true)) := by
  unfold oAll; rw [oBls_l]; simp only [Option.map_some, h]
theorem alike_seq (n : Nat) (f : Fm) (d : D) (ds : List D) (hl : ds.length ≤ 100000) (hix : ∀ (k : Nat) (x : D), ds[k]? = some x → ix2 (some (.frz d)) (some (.frz (.int (k : Int)))) = some (.frz x))
    (hf : ∀ x ∈ ds, cl 2 f (some [.frz x, .frz x]) = some (.frz (.bl true))) :
    (fz1 (lc1 [2] (gNm 2) yesT (c0__law_alike f) [.frz d, .frz d, .dead] (itR (some [.frz (.int ds.length)])))).bind (fun o => oAll o) = some (.frz (.bl true)) := by
  rw [it_range hl]
  have hc := lc1_m (m := c0__law_alike f) (g := gNm 2) (vs := [2]) (env := [.frz d, .frz d, .dead]) (fun (i : Nat) => D.int i) (fun _ => O.frz (.bl true)) (List.range ds.length) rfl (by simpa using hl) fun k hk => by
    rw [List.mem_range] at hk
    have hx := hix k ds[k] (List.getElem?_eq_getElem hk)
    have hy := hf ds[k] (List.getElem_mem hk)
    refine ⟨[.frz d, .frz d, .frz (.int k)], by simp, ?_⟩
    simp [c0__law_alike, hx, hy]
  rw [hc]
  simp only [fz1_s, toD_lst, Option.bind_some, List.map_map]
  have : ((List.range ds.length).map (O.toD ∘ fun _ => O.frz (.bl true))) = ((List.range ds.length).map fun _ => true).map D.bl := by
    rw [List.map_map]; exact List.map_congr_left fun _ _ => by simp
  rw [this]
  exact oAll_true' _ (by simp)
theorem ev_alike : ∀ (n : Nat) (d : D), Pl n d → r__law_alike (n + 1) [.frz d, .frz d] = some (.frz (.bl true), [.frz d, .frz d])
  | n, _, .non => by
    refine fn2 (e := [.frz .non, .frz .non, .dead]) ?_
    show m__law_alike _ [.frz .non, .frz .non, .dead] = _
    simp [m__law_alike]
  | n, _, .int => by
    rename_i i
    refine fn2 (e := [.frz (.int i), .frz (.int i), .dead]) ?_
    show m__law_alike _ [.frz (.int i), .frz (.int i), .dead] = _
    simp [m__law_alike, is_si]
  | n, _, .str => by
    rename_i z
    refine fn2 (e := [.frz (.str z), .frz (.str z), .dead]) ?_
    show m__law_alike _ [.frz (.str z), .frz (.str z), .dead] = _
    simp [m__law_alike, is_ss]
  | n + 1, _, .tup hl h => by
    rename_i ds
    obtain ⟨o, e1, e2⟩ := Option.bind_eq_some_iff.mp (alike_seq n (r__law_alike (n + 1)) (.tup ds) ds hl (fun k x hx => ix2_t (by obtain ⟨a, b⟩ := List.getElem?_eq_some_iff.mp hx; rw [atI_pos rfl a, b])) fun x hx => cl2 (ev_alike n x (h x hx)))
    refine fn2 (e := [.frz (.tup ds), .frz (.tup ds), .dead]) ?_
    show m__law_alike _ [.frz (.tup ds), .frz (.tup ds), .dead] = _
    simp [m__law_alike, is_st, is_it, is_lt, ne_bl, e1, e2]
  | n + 1, _, .lst hl h => by
    rename_i ds
    obtain ⟨o, e1, e2⟩ := Option.bind_eq_some_iff.mp (alike_seq n (r__law_alike (n + 1)) (.lst ds) ds hl (fun k x hx => ix2_l (by obtain ⟨a, b⟩ := List.getElem?_eq_some_iff.mp hx; rw [atI_pos rfl a, b])) fun x hx => cl2 (ev_alike n x (h x hx)))
    refine fn2 (e := [.frz (.lst ds), .frz (.lst ds), .dead]) ?_
    show m__law_alike _ [.frz (.lst ds), .frz (.lst ds), .dead] = _
    simp [m__law_alike, is_sl, is_il, is_tl, ne_bl, e1, e2]
theorem Pl.mono {n k : Nat} {d : D} (h : Pl n d) (hk : n ≤ k) : Pl k d := by
  induction h generalizing k with
  | non => exact .non
  | int => exact .int
  | str => exact .str
  | tup hl _ ih =>
    cases k with
    | zero => omega
    | succ k => exact .tup hl fun d hd => ih d hd (by omega)
  | lst hl _ ih =>
    cases k with
    | zero => omega
    | succ k => exact .lst hl fun d hd => ih d hd (by omega)
theorem cl_alike {d : D} (h : Pl 5 d) : cl 2 f__law_alike (some [.frz d, .frz d]) = some (.frz (.bl true)) := cl2 (ev_alike 5 d h)
end Pt
namespace Pt
open PySem PySem.Spec PyProof.Rows L2 VL Mr
def timeN (n : Nat) : Nat := if n / 4 % 2 = 0 then n / 40 % 90 else n / 40 % 1000000
def goodN (n : Nat) : Nat := if n / 8 % 3 = 0 then n / 9 % 60 else if n / 8 % 3 = 1 then n / 9 % 1000000 else 0
def goodsN (n : Nat) : List Nat := (List.range (1 + n / 16 % 6)).map fun j => (goodN n + j * j * 77) % 1000000
def entN (D3 : List (List Nat)) (n : Nat) : Ent :=
  if n % 4 < 2 then .cs (n % 4 == 1) (timeN n) (goodN n)
  else .tp (n % 4 == 3) (timeN n) (D3.getD (n / 96 % D3.length) []) (goodsN n)
def entsT (D3 : List (List Nat)) : Nat → List Int → List Ent
  | _, [] => []
  | k, c :: cs => entN D3 (mixN c k) :: entsT D3 (k + 1) cs
theorem timeN_lt (n : Nat) : timeN n < 1000000 := by unfold timeN; split <;> omega
theorem goodN_lt (n : Nat) : goodN n < 1000000 := by
  unfold goodN
  split
  · omega
  · split <;> omega
theorem entN_ok (D3 : List (List Nat)) (h : ∀ w ∈ D3, nameT w) (h0 : D3 ≠ []) (n : Nat) : (entN D3 n).ok := by
  have h1 := timeN_lt n
  have h2 := goodN_lt n
  unfold entN
  split
  · exact ⟨h1, h2⟩
  · have hp : 0 < D3.length := by cases D3 with
      | nil => exact absurd rfl h0
      | cons _ _ => simp
    have hi := Nat.mod_lt (n / 96) hp
    refine ⟨h1, ?_, ?_, ?_, ?_⟩
    · rw [List.getD_eq_getElem?_getD, List.getElem?_eq_getElem hi]
      exact h _ (List.getElem_mem hi)
    · intro z
      have := congrArg List.length z
      unfold goodsN at this
      rw [List.length_map, List.length_range, List.length_nil] at this
      omega
    · unfold goodsN; rw [List.length_map, List.length_range]; omega
    · intro g hg
      obtain ⟨j, _, rfl⟩ := List.mem_map.mp hg
      omega
theorem ents_ok (D3 : List (List Nat)) (h : ∀ w ∈ D3, nameT w) (h0 : D3 ≠ []) : ∀ (k : Nat) (cs : List Int), ∀ e ∈ entsT D3 k cs, e.ok
  | _, [], e, he => by simp [entsT] at he
  | k, c :: cs, e, he => by
    rw [entsT] at he
    rcases List.mem_cons.mp he with rfl | he
    · exact entN_ok D3 h h0 _
    · exact ents_ok D3 h h0 (k + 1) cs e he
theorem ents_len (D3 : List (List Nat)) : ∀ (k : Nat) (cs : List Int), (entsT D3 k cs).length = cs.length
  | _, [] => rfl
  | k, c :: cs => by rw [entsT, List.length_cons, List.length_cons, ents_len D3 (k + 1) cs]
theorem pow106 : gPow (.int 10) (.int 6) = some (.int 1000000) := by
  have h : (0 : Int) ≤ 6 ∧ (6 : Int) ≤ 1000000 ∧ (10 : Int).natAbs < 2 ^ 64 := by decide
  show (if (0 : Int) ≤ 6 ∧ (6 : Int) ≤ 1000000 ∧ (10 : Int).natAbs < 2 ^ 64 then some (D.int (10 ^ (6 : Int).toNat)) else none) = _
  rw [if_pos h]
  rfl
theorem ix2_li {ds : List D} {d : D} {k : Int} (n : Nat) (e : k = n) (h : ds[n]? = some d) : ix2 (some (.frz (.lst ds))) (some (.frz (.int k))) = some (.frz d) := by
  obtain ⟨h1, h2⟩ := List.getElem?_eq_some_iff.mp h
  exact ix2_l (by rw [atI_pos e h1, h2])
abbrev g_en : Gm := gTp 2 (gCn (gNm 5) (gCn (gNm 6) gNl))
theorem en_loop (C P M : D) (D3 : List (List Nat)) (h0 : D3 ≠ []) : ∀ (cs : List Int) (k : Nat) (x5 x6 x7 x8 x9 x10 : SV) (acc : List Ent), plS x5 = true → plS x6 = true → plS x7 = true → plS x8 = true → plS x9 = true → plS x10 = true → k + cs.length ≤ 1000 → acc.length + cs.length ≤ 1000 →
    ∃ y5 y6 y7 y8 y9 y10 : SV, plS y5 = true ∧ plS y6 = true ∧ plS y7 = true ∧ plS y8 = true ∧ plS y9 = true ∧ plS y10 = true ∧
      loop g_en b0__law_entries ((cs.zipIdx k).map fun p => D.tup [.int (p.2 : Int), .int p.1]) [.frz C, .frz P, .frz M, .frz (.lst (D3.map wD)), .own (newL (acc.map Ent.d)), x5, x6, x7, x8, x9, x10, .dead, .dead] = some (.nx [.frz C, .frz P, .frz M, .frz (.lst (D3.map wD)), .own (newL ((acc ++ entsT D3 k cs).map Ent.d)), y5, y6, y7, y8, y9, y10, .dead, .dead])
  | [], k, x5, x6, x7, x8, x9, x10, acc, h5, h6, h7, h8, h9, h10, hk, hl => ⟨x5, x6, x7, x8, x9, x10, h5, h6, h7, h8, h9, h10, by simp [entsT]⟩
  | c :: cs, k, x5, x6, x7, x8, x9, x10, acc, h5, h6, h7, h8, h9, h10, hk, hl => by
    simp only [List.length_cons] at hk hl
    obtain ⟨n, hn⟩ : ∃ n, n = mixN c k := ⟨_, rfl⟩
    obtain ⟨z10, hz⟩ : ∃ z10 : SV, z10 = if n % 4 < 2 then x10 else .frz (.lst ((goodsN n).map fun (k : Nat) => D.int k)) := ⟨_, rfl⟩
    have hz10 : plS z10 = true := by
      rw [hz]
      split
      · exact h10
      · rfl
    obtain ⟨y5, y6, y7, y8, y9, y10, g5, g6, g7, g8, g9, g10, e⟩ := en_loop C P M D3 h0 cs (k + 1) (.frz (.int k)) (.frz (.int c)) (.frz (.int n)) (.frz (.int (timeN n))) (.frz (.int (goodN n))) z10 (acc ++ [entN D3 n]) rfl rfl rfl rfl rfl hz10 (by omega) (by rw [List.length_append, List.length_singleton]; omega)
    refine ⟨y5, y6, y7, y8, y9, y10, g5, g6, g7, g8, g9, g10, ?_⟩
    have cm := cl_mixN c (k := (k : Int)) k rfl (by omega)
    rw [← hn] at cm
    have ap := aAppend_n (ds := acc.map Ent.d) (d := (entN D3 n).d) (by rw [List.length_map]; omega)
    have fin : acc.map Ent.d ++ [(entN D3 n).d] = (acc ++ [entN D3 n]).map Ent.d := by rw [List.map_append]; rfl
    rw [fin] at ap
    have st : bdE b0__law_entries (g_en (.frz (.tup [.int (k : Int), .int c])) [.frz C, .frz P, .frz M, .frz (.lst (D3.map wD)), .own (newL (acc.map Ent.d)), x5, x6, x7, x8, x9, x10, .dead, .dead]) = some (.nx [.frz C, .frz P, .frz M, .frz (.lst (D3.map wD)), .own (newL ((acc ++ [entN D3 n]).map Ent.d)), .frz (.int k), .frz (.int c), .frz (.int n), .frz (.int (timeN n)), .frz (.int (goodN n)), z10, .dead, .dead]) := by
      have tg : g_en (.frz (.tup [.int (k : Int), .int c])) [.frz C, .frz P, .frz M, .frz (.lst (D3.map wD)), .own (newL (acc.map Ent.d)), x5, x6, x7, x8, x9, x10, .dead, .dead] = some [.frz C, .frz P, .frz M, .frz (.lst (D3.map wD)), .own (newL (acc.map Ent.d)), .frz (.int k), .frz (.int c), x7, x8, x9, x10, .dead, .dead] := by simp [h5, h6, h7, h8, h9, h10]
      have s7 : sSet 7 (takE (frzE (eCall 2 f__law_mix (eCons (eVar 6) (eCons (eVar 5) eNil))))) [.frz C, .frz P, .frz M, .frz (.lst (D3.map wD)), .own (newL (acc.map Ent.d)), .frz (.int k), .frz (.int c), x7, x8, x9, x10, .dead, .dead] = some (.nx [.frz C, .frz P, .frz M, .frz (.lst (D3.map wD)), .own (newL (acc.map Ent.d)), .frz (.int k), .frz (.int c), .frz (.int n), x8, x9, x10, .dead, .dead]) := by
        simp [cm, h7, h8, h9, h10]
      have i8 : ix2 (some (.frz (.lst [.int ((n : Int) / 40 % 90), .int ((n : Int) / 40 % 1000000)]))) (some (.frz (.int ((n : Int) / 4 % 2)))) = some (.frz (.int (timeN n : Int))) := by
        unfold timeN
        by_cases hh : n / 4 % 2 = 0
        · rw [if_pos hh, show (n : Int) / 4 % 2 = 0 by omega, ix_l0, show (n : Int) / 40 % 90 = ((n / 40 % 90 : Nat) : Int) by omega]
        · rw [if_neg hh, show (n : Int) / 4 % 2 = 1 by omega, ix_l1, show (n : Int) / 40 % 1000000 = ((n / 40 % 1000000 : Nat) : Int) by omega]
      have s8 : sSet 8 (takE (eIx (frzE (eLst (eCons (eOp2 (sc2 gMod) (frzE (eOp2 (sc2 gDiv) (eVar 7) (eC (.int 40)))) (eC (.int 90))) (eCons (eOp2 (sc2 gMod) (frzE (eOp2 (sc2 gDiv) (eVar 7) (eC (.int 40)))) (frzE (eOp2 (sc2 gPow) (eC (.int 10)) (eC (.int 6))))) eNil)))) (frzE (eOp2 (sc2 gMod) (frzE (eOp2 (sc2 gDiv) (eVar 7) (eC (.int 4)))) (eC (.int 2)))))) [.frz C, .frz P, .frz M, .frz (.lst (D3.map wD)), .own (newL (acc.map Ent.d)), .frz (.int k), .frz (.int c), .frz (.int n), x8, x9, x10, .dead, .dead] = some (.nx [.frz C, .frz P, .frz M, .frz (.lst (D3.map wD)), .own (newL (acc.map Ent.d)), .frz (.int k), .frz (.int c), .frz (.int n), .frz (.int (timeN n)), x9, x10, .dead, .dead]) := by
        simp [pow106, i8, h8, h9, h10]
      have i9 : ix2 (some (.frz (.lst [.int ((n : Int) / 9 % 60), .int ((n : Int) / 9 % 1000000), .int 0]))) (some (.frz (.int ((n : Int) / 8 % 3)))) = some (.frz (.int (goodN n : Int))) := by
        unfold goodN
        by_cases hh : n / 8 % 3 = 0
        · rw [if_pos hh, show (n : Int) / 8 % 3 = 0 by omega, ix_l0, show (n : Int) / 9 % 60 = ((n / 9 % 60 : Nat) : Int) by omega]
        · rw [if_neg hh]
          by_cases h1 : n / 8 % 3 = 1
          · rw [if_pos h1, show (n : Int) / 8 % 3 = 1 by omega, ix_l1, show (n : Int) / 9 % 1000000 = ((n / 9 % 1000000 : Nat) : Int) by omega]
          · rw [if_neg h1]
            exact ix2_li 2 (by omega) rfl
      have s9 : sSet 9 (takE (eIx (frzE (eLst (eCons (eOp2 (sc2 gMod) (frzE (eOp2 (sc2 gDiv) (eVar 7) (eC (.int 9)))) (eC (.int 60))) (eCons (eOp2 (sc2 gMod) (frzE (eOp2 (sc2 gDiv) (eVar 7) (eC (.int 9)))) (frzE (eOp2 (sc2 gPow) (eC (.int 10)) (eC (.int 6))))) (eCons (takE (eC (.int 0))) eNil))))) (frzE (eOp2 (sc2 gMod) (frzE (eOp2 (sc2 gDiv) (eVar 7) (eC (.int 8)))) (eC (.int 3)))))) [.frz C, .frz P, .frz M, .frz (.lst (D3.map wD)), .own (newL (acc.map Ent.d)), .frz (.int k), .frz (.int c), .frz (.int n), .frz (.int (timeN n)), x9, x10, .dead, .dead] = some (.nx [.frz C, .frz P, .frz M, .frz (.lst (D3.map wD)), .own (newL (acc.map Ent.d)), .frz (.int k), .frz (.int c), .frz (.int n), .frz (.int (timeN n)), .frz (.int (goodN n)), x10, .dead, .dead]) := by
        simp [pow106, i9, h9, h10]
      have te : tst (eOp2 (sc2 (gB fun i j => decide (i < j))) (frzE (eOp2 (sc2 gMod) (eVar 7) (eC (.int 4)))) (eC (.int 2))) [.frz C, .frz P, .frz M, .frz (.lst (D3.map wD)), .own (newL (acc.map Ent.d)), .frz (.int k), .frz (.int c), .frz (.int n), .frz (.int (timeN n)), .frz (.int (goodN n)), x10, .dead, .dead] = some (decide (n % 4 < 2)) := by
        have ee : decide ((n : Int) % 4 < 2) = decide (n % 4 < 2) := by
          by_cases hh : n % 4 < 2
          · rw [decide_eq_true hh, decide_eq_true (by omega)]
          · rw [decide_eq_false hh, decide_eq_false (by omega)]
        simp only [tst_c, eOp2_c, frzE_c, eVar_c, List.getElem?_cons_succ, List.getElem?_cons_zero, rdS_frz, eC_c, ap2_s, sc2_s, toD_frz, gMod_i (show (0 : Int) < 4 by omega), fr_s, fz1_s, gB_i, ee, tst1_b]
      rw [tg, bdE_s, b0__law_entries, sSeq_c, s7, thS_n, sSeq_c, s8, thS_n, sSeq_c, s9, thS_n, sIf_c, te]
      by_cases hh : n % 4 < 2
      · rw [if_pos hh] at hz
        rw [decide_eq_true hh, if1_t, hz]
        have ec : entN D3 n = .cs (n % 4 == 1) (timeN n) (goodN n) := if_pos hh
        have ii : ix2 (some (.frz (.lst [.str (Str.ofString "come"), .str (Str.ofString "spoil")]))) (some (.frz (.int ((n : Int) % 4)))) = some (.frz (.str (kwS (n % 4 == 1)))) := by
          have : n % 4 = 0 ∨ n % 4 = 1 := by omega
          rcases this with h | h
          · rw [show (n : Int) % 4 = 0 by omega, ix_l0, h]; rfl
          · rw [show (n : Int) % 4 = 1 by omega, ix_l1, h]; rfl
        have mk : mkT [.frz (.str (kwS (n % 4 == 1))), .frz (.int (timeN n : Int)), .frz (.int (goodN n : Int))] = .frz (entN D3 n).d := by rw [mkT3, ec]; rfl
        simp only [sAct_c, qVar_c, List.getElem?_cons_succ, List.getElem?_cons_zero, qv_o, eCons_c, eTup_c, takE_c, eIx_c, frzE_c, eLst_c, eC_c, tk1_f, eNil_c, cons2_s, lst1_s (show [O.frz (.str (Str.ofString "come")), .frz (.str (Str.ofString "spoil"))].length ≤ 1000 by simp), fz1_s, toD_lst, List.map_cons (f := O.toD), List.map_nil (f := O.toD), toD_frz, eOp2_c, eVar_c, rdS_frz, ap2_s, sc2_s, gMod_i (show (0 : Int) < 4 by omega), fr_s, ii, tup1_s (show [O.frz (.str (kwS (n % 4 == 1))), .frz (.int (timeN n : Int)), .frz (.int (goodN n : Int))].length ≤ 1000 by simp), mk, ac2_s, okQ_c, okq_o, walk_n, ac1_s, isLst_n, if_true, ap, Option.map_some, mutS_c, mt_o, putW_n, kP_c, kP_f, kP_o, kP_d, kP_p h10, kP_nil, List.set_cons_succ, List.set_cons_zero]
      · rw [if_neg hh] at hz
        rw [decide_eq_false hh, if1_f, sSeq_c, hz]
        have ec : entN D3 n = .tp (n % 4 == 3) (timeN n) (D3.getD (n / 96 % D3.length) []) (goodsN n) := if_neg hh
        have hp : 0 < D3.length := by cases D3 with
          | nil => exact absurd rfl h0
          | cons _ _ => simp
        have hi := Nat.mod_lt (n / 96) hp
        have gl := goodN_lt n
        have hc := lc1_m (m := c1__law_entries) (g := gNm 12) (vs := [12]) (env := [.frz C, .frz P, .frz M, .frz (.lst (D3.map wD)), .own (newL (acc.map Ent.d)), .frz (.int k), .frz (.int c), .frz (.int n), .frz (.int (timeN n)), .frz (.int (goodN n)), x10, .dead, .dead]) (fun (i : Nat) => D.int i) (fun j => .frz (.int (((goodN n + j * j * 77) % 1000000 : Nat) : Int))) (List.range (1 + n / 16 % 6)) (by simp [nS_p h10]) (by simp; omega) fun j hj => by
          rw [List.mem_range] at hj
          refine ⟨[.frz C, .frz P, .frz M, .frz (.lst (D3.map wD)), .own (newL (acc.map Ent.d)), .frz (.int k), .frz (.int c), .frz (.int n), .frz (.int (timeN n)), .frz (.int (goodN n)), x10, .dead, .frz (.int j)], by simp [h10], ?_⟩
          have m1 : oMul (.frz (.int (j : Int))) (.frz (.int (j : Int))) = some (.frz (.int ((j * j : Nat) : Int))) := by rw [oMul_i (by omega)]; rfl
          have m2 : oMul (.frz (.int ((j * j : Nat) : Int))) (.frz (.int 77)) = some (.frz (.int ((j * j * 77 : Nat) : Int))) := by rw [oMul_i (by omega)]; rfl
          have m3 : ((goodN n : Int) + ((j * j * 77 : Nat) : Int)) % 1000000 = (((goodN n + j * j * 77) % 1000000 : Nat) : Int) := by omega
          simp only [c1__law_entries, eOp2_c, frzE_c, eVar_c, List.getElem?_cons_succ, List.getElem?_cons_zero, rdS_frz, ap2_s, m1, fz1_s, toD_frz, eC_c, m2, oAdd_i, sc2_s, pow106, fr_s, gMod_i (show (0 : Int) < 1000000 by omega), m3]
        have hll : (O.lst ((List.range (1 + n / 16 % 6)).map fun j => .frz (.int (((goodN n + j * j * 77) % 1000000 : Nat) : Int)))).toD = .lst ((goodsN n).map fun (k : Nat) => D.int k) := by
          rw [toD_lst]
          unfold goodsN
          rw [List.map_map, List.map_map]
          exact congrArg D.lst (List.map_congr_left fun _ _ => by simp)
        have ir := it_rangeI (k := 1 + (n : Int) / 16 % 6) (n := 1 + n / 16 % 6) (by omega) (by omega)
        have s10 : sSet 10 (frzE (eLcN (iR1 (eCons (frzE (eOp2 oAdd (eC (.int 1)) (frzE (eOp2 (sc2 gMod) (frzE (eOp2 (sc2 gDiv) (eVar 7) (eC (.int 16)))) (eC (.int 6)))))) eNil)) [12] (gNm 12) yesT c1__law_entries)) [.frz C, .frz P, .frz M, .frz (.lst (D3.map wD)), .own (newL (acc.map Ent.d)), .frz (.int k), .frz (.int c), .frz (.int n), .frz (.int (timeN n)), .frz (.int (goodN n)), x10, .dead, .dead] = some (.nx [.frz C, .frz P, .frz M, .frz (.lst (D3.map wD)), .own (newL (acc.map Ent.d)), .frz (.int k), .frz (.int c), .frz (.int n), .frz (.int (timeN n)), .frz (.int (goodN n)), .frz (.lst ((goodsN n).map fun (k : Nat) => D.int k)), .dead, .dead]) := by
          simp only [sSet_c, frzE_c, eLcN_c, iR1_c, eCons_c, eOp2_c, eC_c, eVar_c, List.getElem?_cons_succ, List.getElem?_cons_zero, rdS_frz, ap2_s, sc2_s, toD_frz, gDiv_i (show (0 : Int) < 16 ∧ (16 : Int) < 1073741824 by omega), fr_s, fz1_s, gMod_i (show (0 : Int) < 6 by omega), oAdd_i, eNil_c, cons2_s, ir, hc, hll, st1_e, slot_f, setS_c, pE_c, pl_f, pl_o, pl_d, h10, Bool.and_self, pE_nil, if_true, Option.map_some, List.set_cons_succ, List.set_cons_zero]
        have ii : ix2 (some (.frz (.lst [.str (Str.ofString "take"), .str (Str.ofString "put")]))) (some (.frz (.int ((n : Int) % 4 - 2)))) = some (.frz (.str (kwP (n % 4 == 3)))) := by
          have : n % 4 = 2 ∨ n % 4 = 3 := by omega
          rcases this with h | h
          · rw [show (n : Int) % 4 - 2 = 0 by omega, ix_l0, h]; rfl
          · rw [show (n : Int) % 4 - 2 = 1 by omega, ix_l1, h]; rfl
        have ln : oLen (.frz (.lst (D3.map wD))) = some (.frz (.int (D3.length : Int))) := by rw [oLen_l, List.length_map]
        have hpI : (0 : Int) < (D3.length : Int) := by omega
        have em : (n : Int) / 96 % (D3.length : Int) = ((n / 96 % D3.length : Nat) : Int) := by
          rw [Int.natCast_emod (n / 96)]; rfl
        have id : ix2 (some (.frz (.lst (D3.map wD)))) (some (.frz (.int ((n / 96 % D3.length : Nat) : Int)))) = some (.frz (wD (D3.getD (n / 96 % D3.length) []))) := by
          refine ix2_li _ rfl ?_
          rw [List.getElem?_map, List.getD_eq_getElem?_getD, List.getElem?_eq_getElem hi]; rfl
        have ot : oTuple (.frz (.lst ((goodsN n).map fun (k : Nat) => D.int k))) = some (.frz (.tup ((goodsN n).map fun (k : Nat) => D.int k))) := rfl
        have mk : mkT [.frz (.str (kwP (n % 4 == 3))), .frz (.int (timeN n : Int)), .frz (wD (D3.getD (n / 96 % D3.length) [])), .frz (.tup ((goodsN n).map fun (k : Nat) => D.int k))] = .frz (entN D3 n).d := by rw [mkT4, ec]; rfl
        rw [s10, thS_n]
        simp only [sAct_c, qVar_c, List.getElem?_cons_succ, List.getElem?_cons_zero, qv_o, eCons_c, eTup_c, takE_c, eIx_c, frzE_c, eLst_c, eC_c, tk1_f, eNil_c, cons2_s, lst1_s (show [O.frz (.str (Str.ofString "take")), .frz (.str (Str.ofString "put"))].length ≤ 1000 by simp), fz1_s, toD_lst, List.map_cons (f := O.toD), List.map_nil (f := O.toD), toD_frz, eOp2_c, eVar_c, rdS_frz, ap2_s, sc2_s, gMod_i (show (0 : Int) < 4 by omega), fr_s, gI_i, ii, gDiv_i (show (0 : Int) < 96 ∧ (96 : Int) < 1073741824 by omega), eOpN_c, bN_s, n1_s, ln, gMod_i hpI, em, id, ot, tup1_s (show [O.frz (.str (kwP (n % 4 == 3))), .frz (.int (timeN n : Int)), .frz (wD (D3.getD (n / 96 % D3.length) [])), .frz (.tup ((goodsN n).map fun (k : Nat) => D.int k))].length ≤ 1000 by simp), mk, ac2_s, okQ_c, okq_o, walk_n, ac1_s, isLst_n, if_true, ap, Option.map_some, mutS_c, mt_o, putW_n, kP_c, kP_f, kP_o, kP_d, kP_nil, List.set_cons_succ, List.set_cons_zero]
    rw [List.zipIdx_cons, List.map_cons, loop_cons, st, lp2_n, e]
    rw [entsT, ← hn]
    simp
def kwL : List (List Nat) := [[99, 111, 109, 101], [116, 97, 107, 101], [112, 117, 116]]
def deskNames (p : Plant) (m : Int) : List (List Nat) := p.desks.map Desk.name ++ kwL ++ namesT m 3
theorem ix_desks (p : Plant) : ix2 (some (.frz p.d)) (some (.frz (.str (Str.ofString "desks")))) = some (.frz (.lst (p.desks.map Desk.d))) := by
  have e1 : ixO (.frz p.d) (.str (Str.ofString "desks")) = none := rfl
  show (ixO (.frz p.d) (O.frz (.str (Str.ofString "desks"))).toD).or (ixD (.frz p.d) (O.frz (.str (Str.ofString "desks"))).toD) = _
  rw [toD_frz, e1, Option.none_or]
  simp [ixD, Plant.d, D.key, dGetD, getA]
theorem ev_entries (cs : List Int) (p : Plant) (m : Int) (hcs : cs.length ≤ 100) (hp : p.desks.length ≤ 100) : f__law_entries [.frz (.lst (cs.map D.int)), .frz p.d, .frz (.int m)] = some (.frz (bookD (entsT (deskNames p m) 0 cs)), [.frz (.lst (cs.map D.int)), .frz p.d, .frz (.int m)]) := by
  have h0 : deskNames p m ≠ [] := by
    intro z
    have := congrArg List.length z
    unfold deskNames kwL at this
    simp at this
  have hc := lc1_m (m := c0__law_entries) (g := gNm 11) (vs := [11]) (env := [.frz (.lst (cs.map D.int)), .frz p.d, .frz (.int m), .dead, .dead, .dead, .dead, .dead, .dead, .dead, .dead, .dead, .dead]) Desk.d (fun d => .frz (wD d.name)) p.desks rfl (by omega) fun d hd => by
    refine ⟨[.frz (.lst (cs.map D.int)), .frz p.d, .frz (.int m), .dead, .dead, .dead, .dead, .dead, .dead, .dead, .dead, .frz d.d, .dead], by simp, ?_⟩
    have i0 : ix2 (some (.frz d.d)) (some (.frz (.int 0))) = some (.frz (wD d.name)) := ix_t0
    simp [c0__law_entries, i0]
  have hll : (O.lst (p.desks.map fun d => .frz (wD d.name))).toD = .lst ((p.desks.map Desk.name).map wD) := by
    rw [toD_lst, List.map_map, List.map_map]
    exact congrArg D.lst (List.map_congr_left fun _ _ => by simp)
  have cn := cl_names m 3 (by omega)
  have nl := names_len m 3
  have kws : [D.str (Str.ofString "come"), D.str (Str.ofString "take"), D.str (Str.ofString "put")] = kwL.map wD := by
    rw [lit, lit, lit]; rfl
  have a1 : oAdd (.frz (.lst ((p.desks.map Desk.name).map wD))) (.frz (.lst (kwL.map wD))) = some (newL ((p.desks.map Desk.name ++ kwL).map wD)) := by
    rw [oAdd_ll (by simp [kwL]; omega), ← List.map_append]
  have a2 : oAdd (.frz (.lst ((p.desks.map Desk.name ++ kwL).map wD))) (.frz (.lst ((namesT m 3).map wD))) = some (newL ((deskNames p m).map wD)) := by
    rw [oAdd_ll (by simp [kwL, nl]; omega), ← List.map_append]; rfl
  have s0 : sSet 3 (takE (frzE (eOp2 oAdd (frzE (eOp2 oAdd (frzE (eLcN (iLTc (eIx (eVar 1) (eC (.str "desks")))) [11] (gNm 11) yesT c0__law_entries)) (frzE (eLst (eCons (takE (eC (.str "come"))) (eCons (takE (eC (.str "take"))) (eCons (takE (eC (.str "put"))) eNil))))))) (frzE (eCall 2 f__law_names (eCons (eVar 2) (eCons (eC (.int 3)) eNil))))))) [.frz (.lst (cs.map D.int)), .frz p.d, .frz (.int m), .dead, .dead, .dead, .dead, .dead, .dead, .dead, .dead, .dead, .dead] = some (.nx [.frz (.lst (cs.map D.int)), .frz p.d, .frz (.int m), .frz (.lst ((deskNames p m).map wD)), .dead, .dead, .dead, .dead, .dead, .dead, .dead, .dead, .dead]) := by
    have cn' : cl 2 f__law_names (some [.frz (.int m), .frz (.int 3)]) = some (newL ((namesT m 3).map wD)) := cn
    simp only [sSet_c, takE_c, frzE_c, eOp2_c, eLcN_c, iLTc_c, eIx_c, eVar_c, List.getElem?_cons_succ, List.getElem?_cons_zero, rdS_frz, eC_c, ix_desks, it1_s, litems_f, Option.some_or, hc, fz1_s, hll, eLst_c, eCons_c, tk1_f, eNil_c, cons2_s, lst1_s (show [O.frz (.str (Str.ofString "come")), .frz (.str (Str.ofString "take")), .frz (.str (Str.ofString "put"))].length ≤ 1000 by simp), toD_lst, List.map_cons (f := O.toD), List.map_nil (f := O.toD), toD_frz, kws, ap2_s, a1, toD_newL, eCall_c, cn', a2, st1_e, slot_f, setS_c, pE_c, pl_f, pl_d, Bool.and_self, pE_nil, if_true, Option.map_some, List.set_cons_succ, List.set_cons_zero]
  have s1 : sSet 4 (eLst eNil) [.frz (.lst (cs.map D.int)), .frz p.d, .frz (.int m), .frz (.lst ((deskNames p m).map wD)), .dead, .dead, .dead, .dead, .dead, .dead, .dead, .dead, .dead] = some (.nx [.frz (.lst (cs.map D.int)), .frz p.d, .frz (.int m), .frz (.lst ((deskNames p m).map wD)), .own (newL (([] : List Ent).map Ent.d)), .dead, .dead, .dead, .dead, .dead, .dead, .dead, .dead]) := by
    simp [newL]
  obtain ⟨y5, y6, y7, y8, y9, y10, g5, g6, g7, g8, g9, g10, e⟩ := en_loop (.lst (cs.map D.int)) p.d (.int m) (deskNames p m) h0 cs 0 .dead .dead .dead .dead .dead .dead [] rfl rfl rfl rfl rfl rfl (by omega) (by rw [List.length_nil]; omega)
  have s2 : sFor (iE (eCons (eVar 0) eNil)) (gTp 2 (gCn (gNm 5) (gCn (gNm 6) gNl))) b0__law_entries [.frz (.lst (cs.map D.int)), .frz p.d, .frz (.int m), .frz (.lst ((deskNames p m).map wD)), .own (newL (([] : List Ent).map Ent.d)), .dead, .dead, .dead, .dead, .dead, .dead, .dead, .dead] = some (.nx [.frz (.lst (cs.map D.int)), .frz p.d, .frz (.int m), .frz (.lst ((deskNames p m).map wD)), .own (newL ((entsT (deskNames p m) 0 cs).map Ent.d)), y5, y6, y7, y8, y9, y10, .dead, .dead]) := by
    have en : itE seqF (some [.frz (.lst (cs.map D.int))]) = some ((cs.zipIdx).map fun p => D.tup [.int (p.2 : Int), .int p.1]) := it_enum D.int cs
    simp only [sFor_c, iE_c, eCons_c, eVar_c, List.getElem?_cons_succ, List.getElem?_cons_zero, rdS_frz, eNil_c, cons2_s, en, lp1_s]
    exact e
  have fz : fzS 4 [.frz (.lst (cs.map D.int)), .frz p.d, .frz (.int m), .frz (.lst ((deskNames p m).map wD)), .own (newL ((entsT (deskNames p m) 0 cs).map Ent.d)), y5, y6, y7, y8, y9, y10, .dead, .dead] = [.frz (.lst (cs.map D.int)), .frz p.d, .frz (.int m), .frz (.lst ((deskNames p m).map wD)), .frz (bookD (entsT (deskNames p m) 0 cs)), y5, y6, y7, y8, y9, y10, .dead, .dead] := by
    simp [kS_p g5, kS_p g6, kS_p g7, kS_p g8, kS_p g9, kS_p g10, bookD]
  refine fn3 (e := [.frz (.lst (cs.map D.int)), .frz p.d, .frz (.int m), .frz (.lst ((deskNames p m).map wD)), .frz (bookD (entsT (deskNames p m) 0 cs)), y5, y6, y7, y8, y9, y10, .dead, .dead]) ?_
  show m__law_entries [.frz (.lst (cs.map D.int)), .frz p.d, .frz (.int m), .dead, .dead, .dead, .dead, .dead, .dead, .dead, .dead, .dead, .dead] = _
  rw [m__law_entries, sSeq_c, s0, thS_n, sSeq_c, s1, thS_n, sSeq_c, s2, thS_n, sFz_c, fz]
  simp
theorem cl_entries (cs : List Int) (p : Plant) (m : Int) (hcs : cs.length ≤ 100) (hp : p.desks.length ≤ 100) : cl 3 f__law_entries (some [.frz (.lst (cs.map D.int)), .frz p.d, .frz (.int m)]) = some (.frz (bookD (entsT (deskNames p m) 0 cs))) := cl3 (ev_entries cs p m hcs hp)
theorem deskNames_ok (ns : List Int) (m : Int) : (∀ w ∈ deskNames (plantOf ns) m, nameT w) ∧ deskNames (plantOf ns) m ≠ [] ∧ (plantOf ns).desks.length ≤ 4 := by
  refine ⟨fun w hw => ?_, fun z => ?_, desks_le _ _⟩
  · unfold deskNames at hw
    rcases List.mem_append.mp hw with hw | hw
    · rcases List.mem_append.mp hw with hw | hw
      · obtain ⟨d, hd, rfl⟩ := List.mem_map.mp hw
        obtain ⟨q, hq, rfl⟩ := List.mem_map.mp hd
        have := List.mem_zipIdx hq
        exact names_ok _ _ q.1 (by rw [this.2.2]; exact List.getElem_mem _)
      · unfold kwL at hw
        simp only [List.mem_cons, List.not_mem_nil, or_false] at hw
        rcases hw with rfl | rfl | rfl <;> exact ⟨by decide, by decide, by decide⟩
    · exact names_ok _ _ w hw
  · have := congrArg List.length z
    unfold deskNames kwL at this
    simp at this
end Pt
namespace Pt
open PySem PySem.Spec PyProof.Rows L2 VL Mr
variable {s : SV} {r : VL.Env} {env : VL.Env} {d0 d1 d2 d3 d : D} {ds : List D}
theorem ix_l2 : ix2 (some (.frz (.lst (d0 :: d1 :: d :: ds)))) (some (.frz (.int 2))) = some (.frz d) := ix2_l (atI_pos (n := 2) rfl (by simp))
theorem ix_l3 : ix2 (some (.frz (.lst (d0 :: d1 :: d2 :: d :: ds)))) (some (.frz (.int 3))) = some (.frz d) := ix2_l (atI_pos (n := 3) rfl (by simp))
theorem ix_t4 : ix2 (some (.frz (.tup (d0 :: d1 :: d2 :: d3 :: d :: ds)))) (some (.frz (.int 4))) = some (.frz d) := ix2_t (atI_pos (n := 4) rfl (by simp))
theorem kms2_s {k : Str} {o : O} {kos : List (Key × O)} : kms2 k (some o) (some kos) = some ((.inr k, o) :: kos) := id rfl
theorem mkT0 : mkT [] = .frz (.tup []) := id rfl
theorem gEq_tw (a b : List Nat) : gEq (wD a) (wD b) = some (.bl (decide (a = b))) := by
  show gEq (.str (tx a)) (.str (tx b)) = _
  rw [gEq_ss, beq_tx]
  by_cases h : a = b
  · rw [h]; simp
  · rw [beq_eq_false_iff_ne.mpr h, decide_eq_false h]
theorem gNe_tw (a b : List Nat) : gNe (wD a) (wD b) = some (.bl (!decide (a = b))) := by
  show gNe (.str (tx a)) (.str (tx b)) = _
  rw [gNe_ss]
  unfold bne
  rw [beq_tx]
  by_cases h : a = b
  · rw [h]; simp
  · rw [beq_eq_false_iff_ne.mpr h, decide_eq_false h]
theorem neC {n : Nat} {x : D} {xs : List D} (h : PysOk n (x :: xs)) : gNe (.lst (x :: xs)) (.lst []) = some (.bl true) := gNe_nil h
theorem oAll_b (bs : List Bool) : oAll (.frz (.lst (bs.map D.bl))) = some (.frz (.bl (bs.all id))) := by
  unfold oAll; rw [oBls_l]; rfl
end Pt
local macro_rules | `(tactic| simp_arith [$xs,*] $[$l:location]?) => `(tactic| simp only [VL.eVar_c, VL.eC_c, VL.eNil_c, VL.eCons_c, VL.cons2_s, VL.frzE_c, VL.fz1_s, VL.takE_c, VL.tk1_f, VL.eOp1_c, VL.ap1_s, VL.eOp2_c, VL.ap2_s, VL.sc1_s, VL.sc2_s, VL.fr_s, VL.toD_frz, VL.toD_newL, VL.toD_lst, VL.toD_tup, VL.gI_i, VL.gB_i, VL.gDiv_i, VL.gMod_i, VL.gNeg_i, VL.oAdd_i, VL.oMul_i, VL.eIx_c, VL.eSl_c, VL.someP_c, VL.sp1_i, VL.noP_c, VL.sl3_l, VL.sl3_t, VL.sl3_s, VL.eTup_c, VL.tup1_s, VL.eLst_c, VL.lst1_s, VL.mkT1, VL.mkT2, VL.mkT3, VL.mkT4, VL.eOpN_c, VL.bN_s, VL.n1_s, VL.n2_s, VL.eIsi_c, VL.isi1_ii, VL.isi1_ib, VL.isi1_tt, VL.isi1_ll, VL.eCall_c, VL.tst_c, VL.tst1_b, VL.tru_c, VL.tru1_b, VL.tru1_i, VL.tru1_l, VL.tAnd2_c, VL.and2_t, VL.and2_f, VL.tOr2_c, VL.or2_t, VL.or2_f, VL.tNot1_c, VL.not1_s, VL.yesT_c, VL.eNot_c, VL.eNot1_b, VL.eAnd_c, VL.eOr_c, VL.eAnd1_t, VL.eAnd1_f, VL.eOr1_t, VL.eOr1_f, VL.eIf_c, VL.eIf1_t, VL.eIf1_f, VL.oIsN_s, VL.isN_non, VL.isN_int, VL.isN_str, VL.isN_tup, VL.isN_lst, VL.ix_t0, VL.ix_t1, VL.ix_t2, VL.ix_t3, VL.ix_l0, VL.ix_l1, VL.gEq_ii, VL.gEq_ss, VL.gNe_ii, VL.gNe_ss, VL.oLen_l, VL.oLen_t, VL.oLen_s, VL.oLen_n, VL.oLen_o, VL.oList_l, VL.oTuple_l, VL.sSeq_c, VL.thS_n, VL.thS_r, VL.thS_b, VL.thS_c, VL.sNx_c, VL.sBk_c, VL.sCt_c, VL.sSet_c, VL.st1_e, VL.slot_f, VL.slot_l, VL.slot_n, VL.setS_c, VL.pE_c, VL.pl_f, VL.pl_o, VL.pl_d, VL.pl_a, VL.pl_i, VL.pE_nil, VL.kA_nil, VL.kA_c, VL.kS_f, VL.kS_o, VL.kS_d, VL.kS_i, VL.kS_a, VL.isIo_n, VL.isIo_f, VL.isIo_o, VL.isIo_i, VL.isIo_d, VL.isIo_a, VL.sRet_c, VL.rt1_s, VL.sIf_c, VL.if1_t, VL.if1_f, VL.sAsg_c, VL.asg1_s, VL.gNm_f, VL.gTp_f, VL.gCn_s, VL.gNl_s, VL.sFz_c, VL.fzS_c, VL.fzo_o, VL.fzo_f, VL.fzo_d, VL.sFor_c, VL.lp1_s, VL.loop_nil, VL.bdE_s, VL.lp2_n, VL.lp2_c, VL.lp2_b, VL.lp2_r, VL.iLT_c, VL.iLTc_c, VL.it1_s, VL.seqF_l, VL.seqF_t, VL.seqF_s, VL.litems_f, VL.litems_n, VL.litems_t, VL.litems_s, VL.titems_f, VL.titems_l, VL.iE_c, VL.iEc_c, VL.iR1_c, VL.sAct_c, VL.qVar_c, VL.qv_o, VL.qv_i, VL.qv_a, VL.okQ_c, VL.okq_o, VL.okq_i, VL.walk_n, VL.ac2_s, VL.ac1_s, VL.isLst_l, VL.isLst_n, VL.mutS_c, VL.mt_o, VL.mt_i, VL.putW_n, VL.kP_nil, VL.kP_c, VL.kP_f, VL.kP_o, VL.kP_d, VL.kP_i, VL.kP_a, VL.rdS_frz, VL.rdS_own, VL.rdS_io, VL.rdS_als, VL.nA_c, VL.nA_nil, VL.nS_f, VL.nS_o, VL.nS_d, VL.nS_i, VL.wipe_n, VL.wipe_cc, VL.zz_div, VL.zz_divl, VL.zz_mod, VL.zz_modl, VL.zz_add, VL.zz_addl, VL.zz_addr, VL.zz_mul, VL.zz_mull, VL.zz_mulr, VL.zz_beq, VL.zz_beql, VL.zz_bne, VL.zz_bnel, VL.zz_lt, VL.zz_ltl, VL.zz_ltr, VL.zz_le, VL.zz_lel, VL.zz_ler, List.getElem?_cons_succ, List.getElem?_cons_zero, List.set_cons_succ, List.set_cons_zero, List.length_cons, List.length_nil, List.map_cons, List.map_nil, Option.map_some, Option.bind_some, Option.some_or, Option.none_or, if_true, if_false, ite_true, ite_false, Bool.and_self, Bool.and_true, Bool.true_and, Bool.and_false, Bool.false_and, Bool.or_true, Bool.true_or, Bool.or_false, Bool.false_or, Bool.not_true, Bool.not_false, Bool.true_xor, Bool.false_xor, Bool.false_eq_true, beq_self_eq_true, bne_self_eq_false, decide_true, decide_false, and_self, and_true, true_and, or_true, true_or, or_self, not_true, not_false_eq_true, VL.eChain_c, VL.ch3_i, VL.iZA_c, VL.zp2_ll, VL.zp2_tt, Int.reduceLT, Int.reduceLE, Int.reduceAdd, Int.reduceSub, Int.reduceMul, Int.reduceNeg, Int.reducePow, Int.reduceDiv, Int.reduceMod, Int.reduceEq, Int.reduceBEq, Int.reduceBNe, Int.reduceToNat, Nat.reduceAdd, Nat.reduceSub, Nat.reduceMul, Nat.reduceLT, Nat.reduceLeDiff, Nat.reduceEqDiff, Nat.reduceBEq, Nat.reduceBneDiff, reduceIte, reduceDIte, reduceCtorEq, VL.sPar_c, VL.asFrz_f, VL.sl3_nl, VL.ofS_beq, VL.ofS_bne, VL.ofS_eq, String.reduceBEq, String.reduceBNe, String.reduceEq, VL.sParO_c, Pt.ix_l2, Pt.ix_l3, Pt.ix_t4, Pt.eDct_c, Pt.eKms_c, Pt.eKms_n, Pt.kms2_s, VL.eLcN_c, Pt.mkT0, Pt.gEq_tw, Pt.gNe_tw, $xs,*] $[$l:location]?)
namespace Pt
open PySem PySem.Spec PyProof.Rows L2 VL Mr
/-- a name, for any word -/
def nmB (w : List Nat) : Bool := (decide ((1 : Int) ≤ w.length) && decide ((w.length : Int) ≤ 8)) && w.all fun c => decide (c ∈ cps (Str.ofString "abcdefghijklmnopqrstuvwxyz"))
theorem nm_all (w : List Nat) (m : Em) (hm : ∀ (e : SV) (c : Nat), m [e, .frz (.str (tx [c]))] = oIn false (.frz (.str (tx [c]))) (.frz (.str "abcdefghijklmnopqrstuvwxyz"))) (e1 : SV) (hn : noAlsB [e1, .dead] = true) (hp : plS e1 = true) (hl : w.length ≤ 100000) :
    (fz1 (lc1 [1] (gNm 1) yesT m [e1, .dead] (some (w.map fun c => D.str (tx [c]))))).bind (fun o => oAll o) = some (.frz (.bl (w.all fun c => decide (c ∈ cps (Str.ofString "abcdefghijklmnopqrstuvwxyz"))))) := by
  have hc := lc1_m (m := m) (g := gNm 1) (vs := [1]) (env := [e1, .dead]) (fun (c : Nat) => D.str (tx [c])) (fun c => O.frz (.bl (decide (c ∈ cps (Str.ofString "abcdefghijklmnopqrstuvwxyz"))))) w hn hl fun c hc => by
    refine ⟨[e1, .frz (.str (tx [c]))], by simp [hp], ?_⟩
    rw [hm, oIn_sg, Bool.false_xor]
  rw [hc]
  simp only [fz1_s, toD_lst, Option.bind_some, List.map_map]
  have : (w.map (O.toD ∘ fun c => O.frz (.bl (decide (c ∈ cps (Str.ofString "abcdefghijklmnopqrstuvwxyz")))))) = (w.map fun c => decide (c ∈ cps (Str.ofString "abcdefghijklmnopqrstuvwxyz"))).map D.bl := by
    rw [List.map_map]; exact List.map_congr_left fun _ _ => by simp
  rw [this, oAll_b, List.all_map]
  rfl
theorem ev_isname (w : List Nat) (hl : w.length ≤ 100000) : f_is_name [.frz (.str (tx w))] = some (.frz (.bl (nmB w)), [.frz (.str (tx w))]) := by
  have ln := oLen_tx w (by omega)
  have ch := ch_ii (s := .frz (.str (tx w))) (r := [.dead]) (f := fun i j => decide (i ≤ j)) (g := fun i j => decide (i ≤ j)) (a := eC (.int 1)) (b := frzE (eOpN (n1 oLen) (eCons (eVar 0) eNil))) (c := eC (.int 8)) (i := 1) (j := w.length) (k := 8) rfl rfl (by simp [ln])
  have al := nm_all w c0_is_name (fun e c => by simp [c0_is_name]) (.frz (.str (tx w))) rfl rfl hl
  obtain ⟨ol, e1, e2⟩ := Option.bind_eq_some_iff.mp al
  refine fn1 (e := [.frz (.str (tx w)), .dead]) ?_
  show m_is_name [.frz (.str (tx w)), .dead] = _
  cases cb : (decide ((1 : Int) ≤ w.length) && decide ((w.length : Int) ≤ 8)) with
  | true =>
    have t0 : tNot1 (tst (eChain (sc2 (gB fun i j => decide (i ≤ j))) (sc2 (gB fun i j => decide (i ≤ j))) (eC (.int 1)) (frzE (eOpN (n1 oLen) (eCons (eVar 0) eNil))) (eC (.int 8)))) [.frz (.str (tx w)), .dead] = some false := by
      rw [tNot1_c, tst_c, ch, cb]
      simp
    rw [m_is_name, sSeq_c, sIf_c, t0, if1_f, sNx_c, thS_n]
    simp only [sRet_c, eOpN_c, eCons_c, frzE_c, eLcN_c, iLTSc_c, eVar_c, List.getElem?_cons_zero, rdS_frz, it1_s, str_items, e1, eNil_c, cons2_s, bN_s, n1_s, e2, rt1_s]
    unfold nmB
    rw [cb, Bool.true_and]
  | false =>
    have t0 : tNot1 (tst (eChain (sc2 (gB fun i j => decide (i ≤ j))) (sc2 (gB fun i j => decide (i ≤ j))) (eC (.int 1)) (frzE (eOpN (n1 oLen) (eCons (eVar 0) eNil))) (eC (.int 8)))) [.frz (.str (tx w)), .dead] = some true := by
      rw [tNot1_c, tst_c, ch, cb]
      simp
    rw [m_is_name, sSeq_c, sIf_c, t0]
    unfold nmB
    rw [cb, Bool.false_and]
    simp
theorem cl_isname (w : List Nat) (hl : w.length ≤ 100000) : cl 1 f_is_name (some [.frz (.str (tx w))]) = some (.frz (.bl (nmB w))) := cl1 (ev_isname w hl)
theorem ev_lisname (w : List Nat) (hl : w.length ≤ 100000) : f__law_is_name [.frz (.str (tx w))] = some (.frz (.bl (nmB w)), [.frz (.str (tx w))]) := by
  have ln := oLen_tx w (by omega)
  have ch := ch_ii (s := .frz (.str (tx w))) (r := [.dead]) (f := fun i j => decide (i ≤ j)) (g := fun i j => decide (i ≤ j)) (a := eC (.int 1)) (b := frzE (eOpN (n1 oLen) (eCons (eVar 0) eNil))) (c := eC (.int 8)) (i := 1) (j := w.length) (k := 8) rfl rfl (by simp [ln])
  have al := nm_all w c0__law_is_name (fun e c => by simp [c0__law_is_name]) (.frz (.str (tx w))) rfl rfl hl
  obtain ⟨ol, e1, e2⟩ := Option.bind_eq_some_iff.mp al
  refine fn1 (e := [.frz (.str (tx w)), .dead]) ?_
  show m__law_is_name [.frz (.str (tx w)), .dead] = _
  cases cb : (decide ((1 : Int) ≤ w.length) && decide ((w.length : Int) ≤ 8)) with
  | true =>
    have t0 : tNot1 (tst (eChain (sc2 (gB fun i j => decide (i ≤ j))) (sc2 (gB fun i j => decide (i ≤ j))) (eC (.int 1)) (frzE (eOpN (n1 oLen) (eCons (eVar 0) eNil))) (eC (.int 8)))) [.frz (.str (tx w)), .dead] = some false := by
      rw [tNot1_c, tst_c, ch, cb]
      simp
    rw [m__law_is_name, sSeq_c, sIf_c, t0, if1_f, sNx_c, thS_n]
    simp only [sRet_c, eOpN_c, eCons_c, frzE_c, eLcN_c, iLTSc_c, eVar_c, List.getElem?_cons_zero, rdS_frz, it1_s, str_items, e1, eNil_c, cons2_s, bN_s, n1_s, e2, rt1_s]
    unfold nmB
    rw [cb, Bool.true_and]
  | false =>
    have t0 : tNot1 (tst (eChain (sc2 (gB fun i j => decide (i ≤ j))) (sc2 (gB fun i j => decide (i ≤ j))) (eC (.int 1)) (frzE (eOpN (n1 oLen) (eCons (eVar 0) eNil))) (eC (.int 8)))) [.frz (.str (tx w)), .dead] = some true := by
      rw [tNot1_c, tst_c, ch, cb]
      simp
    rw [m__law_is_name, sSeq_c, sIf_c, t0]
    unfold nmB
    rw [cb, Bool.false_and]
    simp
theorem cl_lisname (w : List Nat) (hl : w.length ≤ 100000) : cl 1 f__law_is_name (some [.frz (.str (tx w))]) = some (.frz (.bl (nmB w))) := cl1 (ev_lisname w hl)

theorem num_of : ∀ (k : Nat) (w : List Nat), w.length = k → w ≠ [] → (∀ c ∈ w, 48 ≤ c ∧ c ≤ 57) → (w = [48] ∨ w.head? ≠ some 48) → ∃ n, n < 10 ^ k ∧ w = numT n := by
  intro k
  induction k with
  | zero => intro w h hn; exact absurd (List.length_eq_zero_iff.mp h) hn
  | succ k ih =>
    intro w hl hn hd h0
    obtain ⟨v, c, rfl⟩ : ∃ v c, w = v ++ [c] := ⟨w.dropLast, w.getLast hn, (List.dropLast_concat_getLast hn).symm⟩
    have hc := hd c (by simp)
    rw [List.length_append, List.length_singleton] at hl
    by_cases hv : v = []
    · subst hv
      have hk : k = 0 := by simp at hl; omega
      subst hk
      refine ⟨c - 48, by omega, ?_⟩
      show [c] = TL.numL (c - 48)
      rw [TL.numL_lt (by omega), show 48 + (c - 48) = c by omega]
    · have hh : v.head? ≠ some 48 := by
        rcases h0 with z | z
        · exfalso
          have := congrArg List.length z
          rw [List.length_append] at this
          simp at this
          exact hv this
        · intro y
          apply z
          cases v with
          | nil => exact absurd rfl hv
          | cons a r => simpa using y
      obtain ⟨m, hm, e⟩ := ih v (by omega) hv (fun x hx => hd x (by simp [hx])) (.inr hh)
      have m0 : m ≠ 0 := fun z => by
        rw [z, numT_zero] at e
        rw [e] at hh
        exact hh rfl
      refine ⟨10 * m + (c - 48), by rw [Nat.pow_succ]; omega, ?_⟩
      show v ++ [c] = TL.numL (10 * m + (c - 48))
      rw [TL.numL_step (by omega), show (10 * m + (c - 48)) / 10 = m by omega, show 48 + (10 * m + (c - 48)) % 10 = c by omega, e]
      rfl
/-- what a number's word must be -/
def lnB (w : List Nat) : Bool := decide ((1 : Int) ≤ w.length) && decide ((w.length : Int) ≤ 6)
def zeB (w : List Nat) : Bool := decide (w.head? = some 48) && !decide (w = [48])
def fgB (w : List Nat) : Bool := w.all fun c => decide (c ∈ cps (Str.ofString "0123456789"))
theorem figs_mem (c : Nat) (h : c ∈ cps (Str.ofString "0123456789")) : 48 ≤ c ∧ c ≤ 57 := by
  rw [lit "0123456789", cps_tx] at h
  have e : ("0123456789".toList.map Char.toNat) = [48, 49, 50, 51, 52, 53, 54, 55, 56, 57] := by decide
  rw [e] at h
  simp only [List.mem_cons, List.not_mem_nil, or_false] at h
  omega
theorem num_word {w : List Nat} (h1 : lnB w = true) (h2 : zeB w = false) (h3 : fgB w = true) : ∃ n, n < 1000000 ∧ w = numT n := by
  unfold lnB at h1
  simp only [Bool.and_eq_true, decide_eq_true_eq] at h1
  have ne : w ≠ [] := fun z => by rw [z] at h1; simp at h1
  obtain ⟨n, hn, e⟩ := num_of w.length w rfl ne (fun c hc => figs_mem c (by
    unfold fgB at h3
    exact of_decide_eq_true (List.all_eq_true.mp h3 c hc))) (by
    unfold zeB at h2
    by_cases q : w = [48]
    · exact .inl q
    · refine .inr fun z => ?_
      rw [decide_eq_true z, decide_eq_false q] at h2
      cases h2)
  refine ⟨n, Nat.lt_of_lt_of_le hn ?_, e⟩
  exact Nat.pow_le_pow_right (by omega) (by omega : w.length ≤ 6)
theorem all_w (z : String) (w : List Nat) (m : Em) (hm : ∀ (e : SV) (c : Nat), m [e, .frz (.str (tx [c]))] = oIn false (.frz (.str (tx [c]))) (.frz (.str (Str.ofString z)))) (e1 : SV) (hn : noAlsB [e1, .dead] = true) (hp : plS e1 = true) (hl : w.length ≤ 100000) :
    (fz1 (lc1 [1] (gNm 1) yesT m [e1, .dead] (some (w.map fun c => D.str (tx [c]))))).bind (fun o => oAll o) = some (.frz (.bl (w.all fun c => decide (c ∈ cps (Str.ofString z))))) := by
  have hc := lc1_m (m := m) (g := gNm 1) (vs := [1]) (env := [e1, .dead]) (fun (c : Nat) => D.str (tx [c])) (fun c => O.frz (.bl (decide (c ∈ cps (Str.ofString z))))) w hn hl fun c hc => by
    refine ⟨[e1, .frz (.str (tx [c]))], by simp [hp], ?_⟩
    rw [hm, oIn_sg, Bool.false_xor]
  rw [hc]
  simp only [fz1_s, toD_lst, Option.bind_some, List.map_map]
  have : (w.map (O.toD ∘ fun c => O.frz (.bl (decide (c ∈ cps (Str.ofString z)))))) = (w.map fun c => decide (c ∈ cps (Str.ofString z))).map D.bl := by
    rw [List.map_map]; exact List.map_congr_left fun _ _ => by simp
  rw [this, oAll_b, List.all_map]
  rfl
theorem starts1 (r : List Nat) : Txt.startswith (tx (48 :: r)) (tx [48]) = true := by
  unfold Txt.startswith PySem.Builtin.Str.subAt
  simp [tx, Str.length]
/-- no number: None -/
theorem ev_numN (w : List Nat) (hl : w.length ≤ 100000) (h : (lnB w && (!zeB w && fgB w)) = false) : f_number_in [.frz (.str (tx w))] = some (.frz .non, [.frz (.str (tx w))]) := by
  have ln := oLen_tx w (by omega)
  have ch := ch_ii (s := .frz (.str (tx w))) (r := [.dead]) (f := fun i j => decide (i ≤ j)) (g := fun i j => decide (i ≤ j)) (a := eC (.int 1)) (b := frzE (eOpN (n1 oLen) (eCons (eVar 0) eNil))) (c := eC (.int 6)) (i := 1) (j := w.length) (k := 6) rfl rfl (by simp [ln])
  have al := all_w "0123456789" w c0_number_in (fun e c => by simp [c0_number_in]) (.frz (.str (tx w))) rfl rfl hl
  obtain ⟨ol, e1, e2⟩ := Option.bind_eq_some_iff.mp al
  have t0 : tNot1 (tst (eChain (sc2 (gB fun i j => decide (i ≤ j))) (sc2 (gB fun i j => decide (i ≤ j))) (eC (.int 1)) (frzE (eOpN (n1 oLen) (eCons (eVar 0) eNil))) (eC (.int 6)))) [.frz (.str (tx w)), .dead] = some (!lnB w) := by
    rw [tNot1_c, tst_c, ch]
    simp [lnB]
  have main : ∃ e, m_number_in [.frz (.str (tx w)), .dead] = some (.ret (.frz .non) e) := by
    rw [m_number_in, sSeq_c, sIf_c, tOr2_c, t0]
    cases c1 : lnB w with
    | false => exact ⟨_, rfl⟩
    | true =>
      rw [c1, Bool.true_and] at h
      have t1 : tAnd2 (tst (eOp2 (sc2 gNe) (eVar 0) (eC (.str "0")))) (tru (frzE (eOpM oStarts (eVar 0) (eCons (eC (.str "0")) eNil)))) [.frz (.str (tx w)), .dead] = some (zeB w) := by
        by_cases q : w = [48]
        · subst q
          have hb : (tx [48] != tx [48]) = false := by simp
          simp [ze_lit, hb, zeB]
        · have hb : (tx w != tx [48]) = true := by
            unfold bne
            rw [beq_tx, beq_eq_false_iff_ne.mpr q]
            rfl
          have hs : Txt.startswith (tx w) (tx [48]) = decide (w.head? = some 48) := by
            cases w with
            | nil =>
              unfold lnB at c1
              simp at c1
            | cons c r =>
              by_cases z : c = 48
              · subst z
                rw [starts1]
                simp
              · rw [starts0 c r z]
                simp [z]
          simp [ze_lit, hb, hs, zeB, q]
      rw [Bool.not_true, or2_f, t1]
      cases c2 : zeB w with
      | true => exact ⟨_, rfl⟩
      | false =>
        rw [c2, Bool.not_false, Bool.true_and] at h
        have h' : (w.all fun c => decide (c ∈ cps (Str.ofString "0123456789"))) = false := h
        rw [h'] at e2
        have t2 : tNot1 (tru (frzE (eOpN (n1 oAll) (eCons (frzE (eLcN (iLTSc (eVar 0)) [1] (gNm 1) yesT c0_number_in)) eNil)))) [.frz (.str (tx w)), .dead] = some true := by
          simp only [tNot1_c, tru_c, eOpN_c, eCons_c, frzE_c, eLcN_c, iLTSc_c, eVar_c, List.getElem?_cons_zero, rdS_frz, it1_s, str_items, e1, eNil_c, cons2_s, bN_s, n1_s, e2, fz1_s, toD_frz, tru1_b, not1_s, Bool.not_false]
        rw [if1_f, sNx_c, thS_n, sSeq_c, sIf_c, t2]
        exact ⟨_, rfl⟩
  obtain ⟨e, he⟩ := main
  exact fn1 (e := e) he
theorem cl_numN (w : List Nat) (hl : w.length ≤ 100000) (h : (lnB w && (!zeB w && fgB w)) = false) : cl 1 f_number_in (some [.frz (.str (tx w))]) = some (.frz .non) := cl1 (ev_numN w hl h)
theorem ix_sh (c : Nat) (r : List Nat) (hl : r.length ≤ 100000) : ix2 (some (.frz (.str (tx (c :: r))))) (some (.frz (.int 0))) = some (.frz (.str (tx [c]))) := by
  have e : ixO (.frz (.str (tx (c :: r)))) (.int 0) = some (.frz (.str (tx [c]))) := by
    show (if (tx (c :: r)).length ≤ sizeLine then (atI (tx (c :: r)).cps.toList 0).map (fun c => O.frz (.str ⟨#[c]⟩)) else none) = _
    rw [if_pos (by rw [sizeLine_eq, tx_len]; simp; omega)]
    have : atI (tx (c :: r)).cps.toList 0 = some c := (atI_pos (n := 0) rfl (by simp [tx])).trans (by simp [tx])
    rw [this]
    rfl
  show (ixO (.frz (.str (tx (c :: r)))) (.int 0)).or (ixD (.frz (.str (tx (c :: r)))) (.int 0)) = _
  rw [e]
  rfl
theorem lnum_head (w : List Nat) (hl : w.length ≤ 100000) (c1 : lnB w = true) :
    tAnd2 (tst (eOp2 (sc2 gEq) (eIx (eVar 0) (eC (.int 0))) (eC (.str "0")))) (tst (eOp2 (sc2 gNe) (eVar 0) (eC (.str "0")))) [.frz (.str (tx w)), .dead] = some (zeB w) := by
  cases w with
  | nil =>
    unfold lnB at c1
    simp at c1
  | cons c r =>
    have ix := ix_sh c r (by simp at hl; omega)
    have q1 : (tx [c] == tx [48]) = decide (c = 48) := by
      rw [beq_tx]
      by_cases z : c = 48
      · subst z; decide
      · simp [z]
    have q2 : (tx (c :: r) != tx [48]) = !decide (c :: r = [48]) := by
      unfold bne
      rw [beq_tx]
      by_cases z : c :: r = [48]
      · rw [z]; decide
      · rw [beq_eq_false_iff_ne.mpr z, decide_eq_false z]
    generalize hX : tx (c :: r) = X at ix q2 ⊢
    have hz : zeB (c :: r) = (decide (c = 48) && !decide (c :: r = [48])) := by
      unfold zeB
      simp
    rw [hz]
    by_cases z : c = 48
    · rw [decide_eq_true z] at q1 ⊢
      rw [Bool.true_and, ← q2]
      simp_arith [ix, ze_lit, q1]
    · rw [decide_eq_false z] at q1 ⊢
      rw [Bool.false_and]
      simp_arith [ix, ze_lit, q1]
theorem ev_lnumN (w : List Nat) (hl : w.length ≤ 100000) (h : (lnB w && (!zeB w && fgB w)) = false) : f__law_number [.frz (.str (tx w))] = some (.frz .non, [.frz (.str (tx w))]) := by
  have ln := oLen_tx w (by omega)
  have ch := ch_ii (s := .frz (.str (tx w))) (r := [.dead]) (f := fun i j => decide (i ≤ j)) (g := fun i j => decide (i ≤ j)) (a := eC (.int 1)) (b := frzE (eOpN (n1 oLen) (eCons (eVar 0) eNil))) (c := eC (.int 6)) (i := 1) (j := w.length) (k := 6) rfl rfl (by simp [ln])
  have al := all_w "0123456789" w c0__law_number (fun e c => by simp [c0__law_number]) (.frz (.str (tx w))) rfl rfl hl
  obtain ⟨ol, e1, e2⟩ := Option.bind_eq_some_iff.mp al
  have t0 : tNot1 (tst (eChain (sc2 (gB fun i j => decide (i ≤ j))) (sc2 (gB fun i j => decide (i ≤ j))) (eC (.int 1)) (frzE (eOpN (n1 oLen) (eCons (eVar 0) eNil))) (eC (.int 6)))) [.frz (.str (tx w)), .dead] = some (!lnB w) := by
    rw [tNot1_c, tst_c, ch]
    simp [lnB]
  have main : ∃ e, m__law_number [.frz (.str (tx w)), .dead] = some (.ret (.frz .non) e) := by
    rw [m__law_number, sSeq_c, sIf_c, tOr2_c, t0]
    cases c1 : lnB w with
    | false => exact ⟨_, rfl⟩
    | true =>
      rw [c1, Bool.true_and] at h
      rw [Bool.not_true, or2_f, lnum_head w hl c1]
      cases c2 : zeB w with
      | true => exact ⟨_, rfl⟩
      | false =>
        rw [c2, Bool.not_false, Bool.true_and] at h
        have h' : (w.all fun c => decide (c ∈ cps (Str.ofString "0123456789"))) = false := h
        rw [h'] at e2
        have t2 : tNot1 (tru (frzE (eOpN (n1 oAll) (eCons (frzE (eLcN (iLTSc (eVar 0)) [1] (gNm 1) yesT c0__law_number)) eNil)))) [.frz (.str (tx w)), .dead] = some true := by
          simp only [tNot1_c, tru_c, eOpN_c, eCons_c, frzE_c, eLcN_c, iLTSc_c, eVar_c, List.getElem?_cons_zero, rdS_frz, it1_s, str_items, e1, eNil_c, cons2_s, bN_s, n1_s, e2, fz1_s, toD_frz, tru1_b, not1_s, Bool.not_false]
        rw [if1_f, sNx_c, thS_n, sSeq_c, sIf_c, t2]
        exact ⟨_, rfl⟩
  obtain ⟨e, he⟩ := main
  exact fn1 (e := e) he
theorem numT_good (n : Nat) (h : n < 1000000) : lnB (numT n) = true ∧ zeB (numT n) = false ∧ fgB (numT n) = true := by
  have h6 := numT_len n h
  have hne := numT_ne n
  have h1 : 1 ≤ (numT n).length := by
    cases hh : numT n with
    | nil => exact absurd hh hne
    | cons _ _ => simp
  refine ⟨?_, ?_, ?_⟩
  · unfold lnB
    simp
    omega
  · unfold zeB
    by_cases z : n = 0
    · subst z
      rw [numT_zero]
      decide
    · obtain ⟨c, r, e, hc⟩ := numT_head n z
      rw [e]
      simp [hc]
  · unfold fgB
    exact List.all_eq_true.mpr fun c hc => decide_eq_true (figures c (numT_dig n c hc).1 (numT_dig n c hc).2)
theorem ev_lnum (n : Nat) (h : n < 1000000) : f__law_number [.frz (.str (tx (numT n)))] = some (.frz (.int n), [.frz (.str (tx (numT n)))]) := by
  have h6 := numT_len n h
  obtain ⟨c1, c2, c3⟩ := numT_good n h
  have ln := oLen_tx (numT n) (by omega)
  have ch := ch_ii (s := .frz (.str (tx (numT n)))) (r := [.dead]) (f := fun i j => decide (i ≤ j)) (g := fun i j => decide (i ≤ j)) (a := eC (.int 1)) (b := frzE (eOpN (n1 oLen) (eCons (eVar 0) eNil))) (c := eC (.int 6)) (i := 1) (j := (numT n).length) (k := 6) rfl rfl (by simp [ln])
  have al := all_w "0123456789" (numT n) c0__law_number (fun e c => by simp [c0__law_number]) (.frz (.str (tx (numT n)))) rfl rfl (by omega)
  obtain ⟨ol, e1, e2⟩ := Option.bind_eq_some_iff.mp al
  have c3' : ((numT n).all fun c => decide (c ∈ cps (Str.ofString "0123456789"))) = true := c3
  rw [c3'] at e2
  have oi : oInt (.frz (.str (tx (numT n)))) = some (.frz (.int n)) := by
    unfold oInt
    rw [toD_frz]
    simp only [tx_len]
    rw [if_pos (by omega), numT_int n h]
    rfl
  have t0 : tNot1 (tst (eChain (sc2 (gB fun i j => decide (i ≤ j))) (sc2 (gB fun i j => decide (i ≤ j))) (eC (.int 1)) (frzE (eOpN (n1 oLen) (eCons (eVar 0) eNil))) (eC (.int 6)))) [.frz (.str (tx (numT n))), .dead] = some false := by
    rw [tNot1_c, tst_c, ch, show (decide ((1 : Int) ≤ (numT n).length) && decide (((numT n).length : Int) ≤ 6)) = true from c1]
    rfl
  have t2 : tNot1 (tru (frzE (eOpN (n1 oAll) (eCons (frzE (eLcN (iLTSc (eVar 0)) [1] (gNm 1) yesT c0__law_number)) eNil)))) [.frz (.str (tx (numT n))), .dead] = some false := by
    simp only [tNot1_c, tru_c, eOpN_c, eCons_c, frzE_c, eLcN_c, iLTSc_c, eVar_c, List.getElem?_cons_zero, rdS_frz, it1_s, str_items, e1, eNil_c, cons2_s, bN_s, n1_s, e2, fz1_s, toD_frz, tru1_b, not1_s, Bool.not_true]
  refine fn1 (e := [.frz (.str (tx (numT n))), .dead]) ?_
  show m__law_number [.frz (.str (tx (numT n))), .dead] = _
  rw [m__law_number, sSeq_c, sIf_c, tOr2_c, t0, or2_f, lnum_head (numT n) (by omega) c1, c2, if1_f, sNx_c, thS_n, sSeq_c, sIf_c, t2, if1_f, sNx_c, thS_n]
  simp only [sRet_c, eOpN_c, eCons_c, eVar_c, List.getElem?_cons_zero, rdS_frz, eNil_c, cons2_s, bN_s, n1_s, oi, rt1_s]
theorem cl_lnumN (w : List Nat) (hl : w.length ≤ 100000) (h : (lnB w && (!zeB w && fgB w)) = false) : cl 1 f__law_number (some [.frz (.str (tx w))]) = some (.frz .non) := cl1 (ev_lnumN w hl h)
theorem cl_lnum (n : Nat) (h : n < 1000000) : cl 1 f__law_number (some [.frz (.str (tx (numT n)))]) = some (.frz (.int n)) := cl1 (ev_lnum n h)
/-- a word is a number of both, or of none -/
theorem num_both (w : List Nat) (hl : w.length ≤ 100000) : (∃ n, n < 1000000 ∧ w = numT n) ∨ (lnB w && (!zeB w && fgB w)) = false := by
  cases h : (lnB w && (!zeB w && fgB w)) with
  | false => exact .inr rfl
  | true =>
    simp only [Bool.and_eq_true, Bool.not_eq_true'] at h
    exact .inl (num_word h.1 h.2.1 h.2.2)
def numO (w : List Nat) : Option Nat := if (lnB w && (!zeB w && fgB w)) = true then some (NumText.digitsVal w) else none
theorem numO_t (n : Nat) (h : n < 1000000) : numO (numT n) = some n := by
  obtain ⟨h1, h2, h3⟩ := numT_good n h
  unfold numO
  rw [h1, h2, h3]
  show some (NumText.digitsVal (TL.numL n)) = _
  rw [TL.numL_val]
theorem numO_b (w : List Nat) (h : (lnB w && (!zeB w && fgB w)) = false) : numO w = none := by
  unfold numO
  rw [h]
  rfl
def onD : Option Nat → D
  | none => .non
  | some n => .int n
theorem cl_numG (w : List Nat) (hl : w.length ≤ 100000) : cl 1 f_number_in (some [.frz (wD w)]) = some (.frz (onD (numO w))) := by
  rcases num_both w hl with ⟨n, hn, e⟩ | h
  · subst e
    rw [numO_t n hn]
    exact cl_num n hn
  · rw [numO_b w h]
    exact cl_numN w hl h
theorem cl_lnumG (w : List Nat) (hl : w.length ≤ 100000) : cl 1 f__law_number (some [.frz (wD w)]) = some (.frz (onD (numO w))) := by
  rcases num_both w hl with ⟨n, hn, e⟩ | h
  · subst e
    rw [numO_t n hn]
    exact cl_lnum n hn
  · rw [numO_b w h]
    exact cl_lnumN w hl h
end Pt
namespace Pt
open PySem PySem.Spec PyProof.Rows L2 VL Mr
def numsO : List (List Nat) → Option (List Nat)
  | [] => some []
  | w :: ws => (numO w).bind fun n => (numsO ws).map (n :: ·)
def tolE : List (List Nat) → Option Ent
  | a :: b :: c :: rest => (numO a).bind fun t =>
      if b = kwSc false ∨ b = kwSc true then
        if rest = [] then (numO c).map fun g => .cs (decide (b = kwSc true)) t g else none
      else if b = kwPc false ∨ b = kwPc true then
        if rest ≠ [] ∧ nmB c = true then (numsO rest).map fun gs => .tp (decide (b = kwPc true)) t c gs else none
      else none
  | _ => none
def oeD : Option Ent → D
  | none => .non
  | some b => b.d
theorem nums_cases : ∀ ws : List (List Nat), (numsO ws = none ∧ (ws.any fun w => (numO w).isNone) = true) ∨ ∃ gs, numsO ws = some gs ∧ (ws.any fun w => (numO w).isNone) = false ∧ (ws.map fun w => onD (numO w)) = (gs.map fun (g : Nat) => D.int g) ∧ gs.length = ws.length
  | [] => .inr ⟨[], rfl, rfl, rfl, rfl⟩
  | w :: ws => by
    rw [numsO, List.any_cons, List.map_cons]
    cases h : numO w with
    | none => exact .inl ⟨rfl, rfl⟩
    | some n =>
      rcases nums_cases ws with ⟨a, b⟩ | ⟨gs, a, b, c, d⟩
      · exact .inl ⟨by rw [a]; rfl, by rw [b]; simp⟩
      · exact .inr ⟨n :: gs, by rw [a]; rfl, by rw [b]; rfl, by rw [c]; rfl, by simp [d]⟩
theorem none_in (ws : List (List Nat)) : oIn false (.frz .non) (.frz (.lst (ws.map fun w => onD (numO w)))) = some (.frz (.bl (ws.any fun w => (numO w).isNone))) := by
  rw [oIn_l (d := .non) (f := fun w => onD (numO w)) (P := fun w => (numO w).isNone) (x := .none) rfl (by rw [PyData.depth]; omega) fun y _ => by
    cases h : numO y with
    | none => exact ⟨.none, rfl, rfl⟩
    | some n => exact ⟨.int n, rfl, rfl⟩]
  simp
theorem eq_w {b c : List Nat} {s : String} (h : Str.ofString s = tx c) : (Str.ofString s == tx b) = decide (b = c) := by
  rw [h, beq_tx]
  by_cases z : b = c
  · rw [z]; simp
  · rw [decide_eq_false z, beq_eq_false_iff_ne]
    exact fun y => z y.symm
theorem in_tpG (neg : Bool) (b : List Nat) : oIn neg (.frz (wD b)) (.frz (.tup [.str (Str.ofString "take"), .str (Str.ofString "put")])) = some (.frz (.bl (neg ^^ decide (b = kwPc false ∨ b = kwPc true)))) := by
  show oIn neg (.frz (.str (tx b))) _ = _
  rw [oIn_ts2, eq_w (b := b) (kwP_tx false), eq_w (b := b) (kwP_tx true)]
  by_cases z : b = kwPc false <;> by_cases y : b = kwPc true <;> simp [z, y]
theorem in_csG (neg : Bool) (b : List Nat) : oIn neg (.frz (wD b)) (.frz (.tup [.str (Str.ofString "come"), .str (Str.ofString "spoil")])) = some (.frz (.bl (neg ^^ decide (b = kwSc false ∨ b = kwSc true)))) := by
  show oIn neg (.frz (.str (tx b))) _ = _
  rw [oIn_ts2, eq_w (b := b) (kwS_tx false), eq_w (b := b) (kwS_tx true)]
  by_cases z : b = kwSc false <;> by_cases y : b = kwSc true <;> simp [z, y]
theorem in_4G (neg : Bool) (b : List Nat) : oIn neg (.frz (wD b)) (.frz (.tup [.str (Str.ofString "come"), .str (Str.ofString "spoil"), .str (Str.ofString "take"), .str (Str.ofString "put")])) = some (.frz (.bl (neg ^^ decide ((b = kwSc false ∨ b = kwSc true) ∨ b = kwPc false ∨ b = kwPc true)))) := by
  have := oIn_ts (neg := neg) (x := tx b) (ys := [Str.ofString "come", Str.ofString "spoil", Str.ofString "take", Str.ofString "put"])
  refine Eq.trans this ?_
  rw [List.any_cons, List.any_cons, List.any_cons, List.any_cons, List.any_nil, eq_w (b := b) (kwS_tx false), eq_w (b := b) (kwS_tx true), eq_w (b := b) (kwP_tx false), eq_w (b := b) (kwP_tx true)]
  by_cases z : b = kwSc false <;> by_cases y : b = kwSc true <;> by_cases z2 : b = kwPc false <;> by_cases y2 : b = kwPc true <;> simp [z, y, z2, y2]
theorem kwS_of {b : List Nat} (h : b = kwSc false ∨ b = kwSc true) : wD b = .str (kwS (decide (b = kwSc true))) := by
  rcases h with rfl | rfl
  · rw [show decide (kwSc false = kwSc true) = false from by decide, kwS_tx]
    rfl
  · rw [show decide (kwSc true = kwSc true) = true from by decide, kwS_tx]
    rfl
theorem kwP_of {b : List Nat} (h : b = kwPc false ∨ b = kwPc true) : wD b = .str (kwP (decide (b = kwPc true))) := by
  rcases h with rfl | rfl
  · rw [show decide (kwPc false = kwPc true) = false from by decide, kwP_tx]
    rfl
  · rw [show decide (kwPc true = kwPc true) = true from by decide, kwP_tx]
    rfl
theorem w3 (a b c : List Nat) (r : List (List Nat)) : (.lst ((a :: b :: c :: r).map wD) : D) = .lst (wD a :: wD b :: wD c :: r.map wD) := rfl
/-- numbers in a slice, the program -/
theorem nums_p (e0 e1 : SV) (h0 : plS e0 = true) (h1 : plS e1 = true) (ha : noAlsB [e0, e1, .dead, .dead] = true) (rest : List (List Nat)) (hl : rest.length ≤ 60000) (hw : ∀ w ∈ rest, w.length ≤ 100000) :
    lc1 [3] (gNm 3) yesT c0_load_told [e0, e1, .dead, .dead] (some (rest.map wD)) = some (.lst (rest.map fun w => .frz (onD (numO w)))) := by
  refine lc1_m (m := c0_load_told) (g := gNm 3) (vs := [3]) wD (fun w => .frz (onD (numO w))) rest ha (by omega) fun w hm => ?_
  have cm := cl_numG w (hw w hm)
  refine ⟨[e0, e1, .dead, .frz (wD w)], by simp [h0, h1], ?_⟩
  rw [c0_load_told]
  simp_arith [cm]
theorem nums_l (e0 e1 : SV) (h0 : plS e0 = true) (h1 : plS e1 = true) (ha : noAlsB [e0, e1, .dead, .dead] = true) (rest : List (List Nat)) (hl : rest.length ≤ 60000) (hw : ∀ w ∈ rest, w.length ≤ 100000) :
    lc1 [3] (gNm 3) yesT c0__law_told [e0, e1, .dead, .dead] (some (rest.map wD)) = some (.lst (rest.map fun w => .frz (onD (numO w)))) := by
  refine lc1_m (m := c0__law_told) (g := gNm 3) (vs := [3]) wD (fun w => .frz (onD (numO w))) rest ha (by omega) fun w hm => ?_
  have cm := cl_lnumG w (hw w hm)
  refine ⟨[e0, e1, .dead, .frz (wD w)], by simp [h0, h1], ?_⟩
  rw [c0__law_told]
  simp_arith [cm]
theorem td_map {α : Type} (f : α → D) (xs : List α) : (O.lst (xs.map fun x => .frz (f x))).toD = .lst (xs.map f) := by
  rw [toD_lst, List.map_map]
  exact congrArg D.lst (List.map_congr_left fun z _ => toD_frz)
theorem ev_loadG (t : Nat) (a b c : List Nat) (rest : List (List Nat)) (hl : rest.length ≤ 60000) (hw : ∀ w ∈ rest, w.length ≤ 100000) (hc : c.length ≤ 100000) :
    f_load_told [.frz (.lst ((a :: b :: c :: rest).map wD)), .frz (.int (t : Int))] = some (.frz (oeD (if b = kwPc false ∨ b = kwPc true then if rest ≠ [] ∧ nmB c = true then (numsO rest).map fun gs => .tp (decide (b = kwPc true)) t c gs else none else none)), [.frz (.lst ((a :: b :: c :: rest).map wD)), .frz (.int (t : Int))]) := by
  have i1 : ix2 (some (.frz (.lst ((a :: b :: c :: rest).map wD)))) (some (.frz (.int 1))) = some (.frz (wD b)) := ix_l1
  have i2 : ix2 (some (.frz (.lst ((a :: b :: c :: rest).map wD)))) (some (.frz (.int 2))) = some (.frz (wD c)) := ix_l2
  have ln : oLen (.frz (.lst ((a :: b :: c :: rest).map wD))) = some (.frz (.int ((rest.length + 3 : Nat) : Int))) := by
    rw [oLen_l, List.length_map, List.length_cons, List.length_cons, List.length_cons]
  have sl : sl3 (some (.frz (.lst ((a :: b :: c :: rest).map wD)))) (some (some 3)) (some none) = some (newL (rest.map wD)) := by
    rw [sl3_l]
    have := cut_from ((a :: b :: c :: rest).map wD) 3
    rw [show ((3 : Nat) : Int) = 3 from rfl] at this
    rw [this]
    rfl
  have tp1 := in_tpG true b
  have cn : cl 1 f_is_name (some [.frz (wD c)]) = some (.frz (.bl (nmB c))) := cl_isname c hc
  have np := nums_p (.frz (.lst ((a :: b :: c :: rest).map wD))) (.frz (.int (t : Int))) rfl rfl rfl rest hl hw
  have td := td_map (fun w => onD (numO w)) rest
  have nn := none_in rest
  have kb := fun h => kwP_of (b := b) h
  have hr : (rest = []) = (rest.length = 0) := propext List.length_eq_zero_iff.symm
  generalize hL : D.lst ((a :: b :: c :: rest).map wD) = L at *
  have main : ∃ e, m_load_told [.frz L, .frz (.int (t : Int)), .dead, .dead] = some (.ret (.frz (oeD (if b = kwPc false ∨ b = kwPc true then if rest ≠ [] ∧ nmB c = true then (numsO rest).map fun gs => .tp (decide (b = kwPc true)) t c gs else none else none))) e) := by
    rw [m_load_told]
    by_cases h1 : b = kwPc false ∨ b = kwPc true
    · rw [decide_eq_true h1] at tp1
      rw [if_pos h1]
      by_cases h2 : rest = []
      · rw [if_neg fun z => z.1 h2]
        have n0 : rest.length = 0 := by rw [h2]; rfl
        rw [n0] at ln
        apply Exists.intro
        simp_arith [i1, i2, ln, tp1]
        rfl
      · have l1 : ¬ (rest.length + 3 < 4) := fun z => h2 (List.length_eq_zero_iff.mp (by omega))
        cases hn : nmB c with
        | false =>
          rw [if_neg fun z => by cases z.2]
          rw [hn] at cn
          apply Exists.intro
          simp_arith [i1, i2, ln, tp1, l1, cn]
          rfl
        | true =>
          rw [if_pos ⟨h2, rfl⟩]
          rw [hn] at cn
          have wb := kb h1
          rcases nums_cases rest with ⟨x1, x2⟩ | ⟨gs, x1, x2, x3, x4⟩
          · rw [x1]
            rw [x2] at nn
            generalize D.lst (rest.map fun w => onD (numO w)) = NL at *
            apply Exists.intro
            simp_arith [i1, i2, ln, tp1, l1, cn, sl, np, td, nn]
            rfl
          · rw [x1]
            rw [x2, x3] at nn
            rw [x3] at td
            have ot : oTuple (.frz (.lst (gs.map fun (g : Nat) => D.int g))) = some (.frz (.tup (gs.map fun (g : Nat) => D.int g))) := rfl
            show ∃ e, _ = some (Out.ret (.frz (.tup [.str (kwP (decide (b = kwPc true))), .int t, wD c, .tup (gs.map fun (g : Nat) => D.int g)])) e)
            rw [← wb]
            generalize D.lst (gs.map fun (g : Nat) => D.int g) = NL at *
            apply Exists.intro
            simp_arith [i1, i2, ln, tp1, l1, cn, sl, np, td, nn, ot]
            rfl
    · rw [decide_eq_false h1] at tp1
      rw [if_neg h1]
      apply Exists.intro
      simp_arith [i1, i2, ln, tp1]
      rfl
  obtain ⟨e, he⟩ := main
  exact fn2 (e := e) he
end Pt
namespace Pt
open PySem PySem.Spec PyProof.Rows L2 VL Mr
theorem tolE_short {ws : List (List Nat)} (h : ws.length < 3) : tolE ws = none := by
  match ws, h with
  | [], _ => rfl
  | [_], _ => rfl
  | [_, _], _ => rfl
  | _ :: _ :: _ :: _, h => simp at h; omega
theorem tolE_3 (a b c : List Nat) (r : List (List Nat)) : tolE (a :: b :: c :: r) = (numO a).bind fun t =>
      if b = kwSc false ∨ b = kwSc true then
        if r = [] then (numO c).map fun g => .cs (decide (b = kwSc true)) t g else none
      else if b = kwPc false ∨ b = kwPc true then
        if r ≠ [] ∧ nmB c = true then (numsO r).map fun gs => .tp (decide (b = kwPc true)) t c gs else none
      else none := rfl
theorem three {ws : List (List Nat)} (h : ¬ ws.length < 3) : ∃ a b c r, ws = a :: b :: c :: r := by
  match ws, h with
  | [], h => simp at h
  | [_], h => simp at h
  | [_, _], h => simp at h
  | a :: b :: c :: r, _ => exact ⟨a, b, c, r, rfl⟩
theorem ev_etold (ws : List (List Nat)) (hl : ws.length ≤ 60000) (hw : ∀ w ∈ ws, w.length ≤ 100000) : f_entry_told [.frz (.lst (ws.map wD))] = some (.frz (oeD (tolE ws)), [.frz (.lst (ws.map wD))]) := by
  have main : ∃ e, m_entry_told [.frz (.lst (ws.map wD)), .dead] = some (.ret (.frz (oeD (tolE ws))) e) := by
    by_cases h3 : ws.length < 3
    · rw [tolE_short h3]
      have ln : oLen (.frz (.lst (ws.map wD))) = some (.frz (.int (ws.length : Int))) := by rw [oLen_l, List.length_map]
      generalize D.lst (ws.map wD) = L at *
      rw [m_entry_told]
      apply Exists.intro
      simp_arith [ln, h3]
      rfl
    · obtain ⟨a, b, c, r, rfl⟩ := three h3
      have hr : r.length ≤ 60000 := by simp at hl; omega
      have hrw : ∀ w ∈ r, w.length ≤ 100000 := fun w h => hw w (by simp [h])
      have ca := cl_numG a (hw a (by simp))
      have cc := cl_numG c (hw c (by simp))
      have i0 : ix2 (some (.frz (.lst ((a :: b :: c :: r).map wD)))) (some (.frz (.int 0))) = some (.frz (wD a)) := ix_l0
      have i1 : ix2 (some (.frz (.lst ((a :: b :: c :: r).map wD)))) (some (.frz (.int 1))) = some (.frz (wD b)) := ix_l1
      have i2 : ix2 (some (.frz (.lst ((a :: b :: c :: r).map wD)))) (some (.frz (.int 2))) = some (.frz (wD c)) := ix_l2
      have ln : oLen (.frz (.lst ((a :: b :: c :: r).map wD))) = some (.frz (.int ((r.length + 3 : Nat) : Int))) := by
        rw [oLen_l, List.length_map, List.length_cons, List.length_cons, List.length_cons]
      have l3 : ¬ (r.length + 3 < 3) := by omega
      have ic := in_csG true b
      have kb := fun h => kwS_of (b := b) h
      rw [tolE_3]
      cases ha : numO a with
      | none =>
        rw [Option.bind_none]
        rw [ha] at ca
        replace ca : cl 1 f_number_in (some [.frz (wD a)]) = some (.frz .non) := ca
        generalize D.lst ((a :: b :: c :: r).map wD) = L at *
        rw [m_entry_told]
        apply Exists.intro
        simp_arith [ln, l3, i0, ca]
        rfl
      | some t =>
        rw [ha] at ca
        replace ca : cl 1 f_number_in (some [.frz (wD a)]) = some (.frz (.int t)) := ca
        rw [Option.bind_some]
        by_cases h1 : b = kwSc false ∨ b = kwSc true
        · rw [if_pos h1]
          rw [decide_eq_true h1] at ic
          by_cases h2 : r = []
          · rw [if_pos h2]
            have n0 : r.length = 0 := by rw [h2]; rfl
            rw [n0] at ln
            cases hc : numO c with
            | none =>
              rw [hc] at cc
              replace cc : cl 1 f_number_in (some [.frz (wD c)]) = some (.frz .non) := cc
              generalize D.lst ((a :: b :: c :: r).map wD) = L at *
              rw [m_entry_told]
              apply Exists.intro
              simp_arith [ln, i0, i1, i2, ca, cc, ic]
              rfl
            | some g =>
              rw [hc] at cc
              replace cc : cl 1 f_number_in (some [.frz (wD c)]) = some (.frz (.int g)) := cc
              show ∃ e, _ = some (Out.ret (.frz (.tup [.str (kwS (decide (b = kwSc true))), .int t, .int g])) e)
              rw [← kb h1]
              generalize D.lst ((a :: b :: c :: r).map wD) = L at *
              rw [m_entry_told]
              apply Exists.intro
              simp_arith [ln, i0, i1, i2, ca, cc, ic]
              rfl
          · rw [if_neg h2]
            have n0 : ¬ ((r.length + 3 : Nat) = 3) := fun z => h2 (List.length_eq_zero_iff.mp (by omega))
            have n1 : ((r.length + 3 : Nat) != 3) = true := bne_iff_ne.mpr n0
            generalize D.lst ((a :: b :: c :: r).map wD) = L at *
            rw [m_entry_told]
            apply Exists.intro
            simp_arith [ln, l3, i0, i1, i2, ca, ic, n1]
            rfl
        · rw [if_neg h1]
          rw [decide_eq_false h1] at ic
          have cload := cl2 (ev_loadG t a b c r hr hrw (hw c (by simp)))
          generalize D.lst ((a :: b :: c :: r).map wD) = L at *
          generalize (if b = kwPc false ∨ b = kwPc true then if r ≠ [] ∧ nmB c = true then (numsO r).map fun gs => Ent.tp (decide (b = kwPc true)) t c gs else none else none) = X at *
          generalize oeD X = Y at *
          rw [m_entry_told]
          apply Exists.intro
          simp_arith [ln, l3, i0, i1, ca, ic, cload]
          rfl
  obtain ⟨e, he⟩ := main
  exact fn1 (e := e) he
theorem ev_letold (ws : List (List Nat)) (hl : ws.length ≤ 60000) (hw : ∀ w ∈ ws, w.length ≤ 100000) : f__law_told [.frz (.lst (ws.map wD))] = some (.frz (oeD (tolE ws)), [.frz (.lst (ws.map wD))]) := by
  have main : ∃ e, m__law_told [.frz (.lst (ws.map wD)), .dead, .dead, .dead] = some (.ret (.frz (oeD (tolE ws))) e) := by
    by_cases h3 : ws.length < 3
    · rw [tolE_short h3]
      have ln : oLen (.frz (.lst (ws.map wD))) = some (.frz (.int (ws.length : Int))) := by rw [oLen_l, List.length_map]
      generalize D.lst (ws.map wD) = L at *
      rw [m__law_told]
      apply Exists.intro
      simp_arith [ln, h3]
      rfl
    · obtain ⟨a, b, c, r, rfl⟩ := three h3
      have hr : r.length ≤ 60000 := by simp at hl; omega
      have hrw : ∀ w ∈ r, w.length ≤ 100000 := fun w h => hw w (by simp [h])
      have ca := cl_lnumG a (hw a (by simp))
      have cn : cl 1 f__law_is_name (some [.frz (wD c)]) = some (.frz (.bl (nmB c))) := cl_lisname c (hw c (by simp))
      have i0 : ix2 (some (.frz (.lst ((a :: b :: c :: r).map wD)))) (some (.frz (.int 0))) = some (.frz (wD a)) := ix_l0
      have i1 : ix2 (some (.frz (.lst ((a :: b :: c :: r).map wD)))) (some (.frz (.int 1))) = some (.frz (wD b)) := ix_l1
      have i2 : ix2 (some (.frz (.lst ((a :: b :: c :: r).map wD)))) (some (.frz (.int 2))) = some (.frz (wD c)) := ix_l2
      have ln : oLen (.frz (.lst ((a :: b :: c :: r).map wD))) = some (.frz (.int ((r.length + 3 : Nat) : Int))) := by
        rw [oLen_l, List.length_map, List.length_cons, List.length_cons, List.length_cons]
      have s2 : sl3 (some (.frz (.lst ((a :: b :: c :: r).map wD)))) (some (some 2)) (some none) = some (newL ((c :: r).map wD)) := by
        rw [sl3_l]
        have := cut_from ((a :: b :: c :: r).map wD) 2
        rw [show ((2 : Nat) : Int) = 2 from rfl] at this
        rw [this]
        rfl
      have s3 : sl3 (some (.frz (.lst ((a :: b :: c :: r).map wD)))) (some (some 3)) (some none) = some (newL (r.map wD)) := by
        rw [sl3_l]
        have := cut_from ((a :: b :: c :: r).map wD) 3
        rw [show ((3 : Nat) : Int) = 3 from rfl] at this
        rw [this]
        rfl
      have l3 : ¬ (r.length + 3 < 3) := by omega
      have i4 := in_4G true b
      have it := in_tpG false b
      have oi1 : oInt (.frz (.bl true)) = some (.frz (.int 1)) := rfl
      have oi0 : oInt (.frz (.bl false)) = some (.frz (.int 0)) := rfl
      rw [tolE_3]
      cases ha : numO a with
      | none =>
        rw [Option.bind_none]
        rw [ha] at ca
        replace ca : cl 1 f__law_number (some [.frz (wD a)]) = some (.frz .non) := ca
        generalize D.lst ((a :: b :: c :: r).map wD) = L at *
        rw [m__law_told]
        apply Exists.intro
        simp_arith [ln, l3, i0, ca]
        rfl
      | some t =>
        rw [ha] at ca
        replace ca : cl 1 f__law_number (some [.frz (wD a)]) = some (.frz (.int t)) := ca
        rw [Option.bind_some]
        by_cases h1 : b = kwSc false ∨ b = kwSc true
        · rw [if_pos h1]
          rw [decide_eq_true (Or.inl h1)] at i4
          have nt : ¬ (b = kwPc false ∨ b = kwPc true) := by
            rintro (z | z) <;> rcases h1 with y | y <;> rw [y] at z <;> revert z <;> decide
          rw [decide_eq_false nt] at it
          by_cases h2 : r = []
          · rw [if_pos h2]
            subst h2
            have n0 : ([] : List (List Nat)).length = 0 := rfl
            rw [n0] at ln
            have np := nums_l (.frz (.lst ((a :: b :: c :: []).map wD))) (.frz (.bl false)) rfl rfl rfl [c] (by simp) (fun w h => hw w (by rw [List.mem_singleton.mp h]; simp))
            have td := td_map (fun w => onD (numO w)) [c]
            obtain ⟨OL, hOL⟩ : ∃ OL, OL = O.lst ([c].map fun w => .frz (onD (numO w))) := ⟨_, rfl⟩
            rw [← hOL] at np td
            replace np : lc1 [3] (gNm 3) yesT c0__law_told [.frz (.lst ((a :: b :: c :: []).map wD)), .frz (.bl false), .dead, .dead] (some [wD c]) = some OL := np
            clear hOL
            have nn := none_in [c]
            have g0 : ix2 (some (.frz (.lst ([c].map fun w => onD (numO w))))) (some (.frz (.int 0))) = some (.frz (onD (numO c))) := ix_l0
            have kb := kwS_of h1
            cases hc : numO c with
            | none =>
              have x2 : ([c].any fun w => (numO w).isNone) = true := by simp [hc]
              rw [x2] at nn
              generalize D.lst ([c].map fun w => onD (numO w)) = NL at *
              generalize hL : D.lst ((a :: b :: c :: []).map wD) = L at *
              rw [m__law_told]
              apply Exists.intro
              simp_arith [ln, i0, i1, i2, ca, i4, it, oi0, s2, np, td, nn]
              rfl
            | some g =>
              have x2 : ([c].any fun w => (numO w).isNone) = false := by simp [hc]
              rw [x2] at nn
              rw [hc] at g0
              replace g0 : ix2 (some (.frz (.lst ([c].map fun w => onD (numO w))))) (some (.frz (.int 0))) = some (.frz (.int g)) := g0
              show ∃ e, _ = some (Out.ret (.frz (.tup [.str (kwS (decide (b = kwSc true))), .int t, .int g])) e)
              rw [← kb]
              generalize D.lst ([c].map fun w => onD (numO w)) = NL at *
              generalize hL : D.lst ((a :: b :: c :: []).map wD) = L at *
              rw [m__law_told]
              apply Exists.intro
              simp_arith [ln, i0, i1, i2, ca, i4, it, oi0, s2, np, td, nn, g0]
              rfl
          · rw [if_neg h2]
            have n0 : 3 < r.length + 3 := by have := List.length_pos_iff.mpr h2; omega
            generalize D.lst ((a :: b :: c :: r).map wD) = L at *
            rw [m__law_told]
            apply Exists.intro
            simp_arith [ln, l3, i0, i1, i2, ca, i4, it, n0]
            rfl
        · rw [if_neg h1]
          by_cases h5 : b = kwPc false ∨ b = kwPc true
          · rw [if_pos h5]
            rw [decide_eq_true (Or.inr h5)] at i4
            rw [decide_eq_true h5] at it
            by_cases h2 : r = []
            · rw [if_neg fun z => z.1 h2]
              have n0 : r.length = 0 := by rw [h2]; rfl
              rw [n0] at ln
              generalize D.lst ((a :: b :: c :: r).map wD) = L at *
              rw [m__law_told]
              apply Exists.intro
              simp_arith [ln, i0, i1, i2, ca, i4, it]
              rfl
            · have l1 : ¬ (r.length + 3 < 4) := fun z => h2 (List.length_eq_zero_iff.mp (by omega))
              cases hn : nmB c with
              | false =>
                rw [if_neg fun z => by cases z.2]
                rw [hn] at cn
                generalize D.lst ((a :: b :: c :: r).map wD) = L at *
                rw [m__law_told]
                apply Exists.intro
                simp_arith [ln, l3, l1, i0, i1, i2, ca, i4, it, cn]
                rfl
              | true =>
                rw [if_pos ⟨h2, rfl⟩]
                rw [hn] at cn
                have wb := kwP_of h5
                have np := nums_l (.frz (.lst ((a :: b :: c :: r).map wD))) (.frz (.bl true)) rfl rfl rfl r hr hrw
                have td := td_map (fun w => onD (numO w)) r
                have nn := none_in r
                rcases nums_cases r with ⟨x1, x2⟩ | ⟨gs, x1, x2, x3, x4⟩
                · rw [x1]
                  rw [x2] at nn
                  generalize D.lst (r.map fun w => onD (numO w)) = NL at *
                  generalize hL : D.lst ((a :: b :: c :: r).map wD) = L at *
                  rw [m__law_told]
                  apply Exists.intro
                  simp_arith [ln, l3, l1, i0, i1, i2, ca, i4, it, cn, oi1, s3, np, td, nn]
                  rfl
                · rw [x1]
                  rw [x2, x3] at nn
                  rw [x3] at td
                  have ot : oTuple (.frz (.lst (gs.map fun (g : Nat) => D.int g))) = some (.frz (.tup (gs.map fun (g : Nat) => D.int g))) := rfl
                  show ∃ e, _ = some (Out.ret (.frz (.tup [.str (kwP (decide (b = kwPc true))), .int t, wD c, .tup (gs.map fun (g : Nat) => D.int g)])) e)
                  rw [← wb]
                  generalize D.lst (gs.map fun (g : Nat) => D.int g) = NL at *
                  generalize hL : D.lst ((a :: b :: c :: r).map wD) = L at *
                  rw [m__law_told]
                  apply Exists.intro
                  simp_arith [ln, l3, l1, i0, i1, i2, ca, i4, it, cn, oi1, s3, np, td, nn, ot]
                  rfl
          · rw [if_neg h5]
            rw [decide_eq_false (fun z => z.elim h1 h5)] at i4
            generalize D.lst ((a :: b :: c :: r).map wD) = L at *
            rw [m__law_told]
            apply Exists.intro
            simp_arith [ln, l3, i0, i1, i2, ca, i4]
            rfl
  obtain ⟨e, he⟩ := main
  exact fn1 (e := e) he
end Pt
namespace Pt
open PySem PySem.Spec PyProof.Rows L2 VL Mr
theorem wordsT_cnt (r : List Nat) (hr : r.length ≤ 50000) : (wordsT r).length ≤ 60000 := by
  have a := splitT_len 32 r
  have b : (wordsT r).length ≤ (splitT 32 r).length := by unfold wordsT; exact List.length_filter_le _ _
  omega
theorem cl_etold (ws : List (List Nat)) (hl : ws.length ≤ 60000) (hw : ∀ w ∈ ws, w.length ≤ 100000) : cl 1 f_entry_told (some [.frz (.lst (ws.map wD))]) = some (.frz (oeD (tolE ws))) := cl1 (ev_etold ws hl hw)
theorem cl_letold (ws : List (List Nat)) (hl : ws.length ≤ 60000) (hw : ∀ w ∈ ws, w.length ≤ 100000) : cl 1 f__law_told (some [.frz (.lst (ws.map wD))]) = some (.frz (oeD (tolE ws))) := cl1 (ev_letold ws hl hw)
theorem sPut_e {q : Qm} {mi m : Em} {env : VL.Env} {o oi n n' : O} {rp : Nat × List Stp} (hm : m env = some o) (hq : q env = some rp) (hk : okQ env rp = some n) (hi : mi env = some oi) (hp : putN n oi.toD o = some n') : sPut q mi m env = some (.nx (mutS env rp.1 rp.2 n')) := by
  unfold sPut
  rw [hm, Option.bind_some, hq, Option.bind_some, hk, Option.bind_some, hi, Option.bind_some, hp]
  rfl
theorem sAct_e {f : O → List O → Option O} {q : Qm} {m : Es} {env : VL.Env} {n n' : O} {os : List O} {rp : Nat × List Stp} (hq : q env = some rp) (hk : okQ env rp = some n) (hl : isLst n = true) (hm : m env = some os) (hf : f n os = some n') : sAct f q m env = some (.nx (mutS env rp.1 rp.2 n')) := by
  unfold sAct
  rw [hq, Option.bind_some, hk, Option.bind_some, if_pos hl, hm, Option.bind_some, hf]
  rfl
/-- a refusal at a place with a word -/
def exPW (C : Str) (k : Nat) (w : Str) : Exn := (C, [(("word" : Str), .str w), (("place" : Str), .int k)])
theorem isE1_x {C C0 : Str} {fs : List (Str × D)} (h : C ∈ exN) : isE1 C0 (.frz (.exc C fs)) = some (.frz (.bl (decide (C = C0)))) := by
  unfold isE1
  rw [toD_frz, D.kd, if_pos h]
  rfl
theorem isEV_x {C : Str} {fs : List (Str × D)} (h : C ∈ exN) : isEV (.frz (.exc C fs)) = some (.frz (.bl true)) := by
  unfold isEV
  rw [toD_frz, D.kd, if_pos h]
  rfl
theorem isET_x {C : Str} {Cs : List Str} {fs : List (Str × D)} (h : C ∈ exN) : isET Cs (.frz (.exc C fs)) = some (.frz (.bl (Cs.any fun C0 => decide (C = C0)))) := by
  unfold isET
  rw [toD_frz, D.kd, if_pos h]
  rfl
theorem xfO_x {C f : Str} {fs : List (Str × D)} {d : D} (h : C ∈ exN) (l : fs.lookup f = some d) : xfO f (.frz (.exc C fs)) = some (.frz d) := by
  unfold xfO
  show (if C ∈ exN then _ else none) = _
  rw [if_pos h, l]
  rfl
abbrev pwF (k : Nat) (w : Str) : List (Str × D) := [(("word" : Str), D.str w), (("place" : Str), D.int k)]
theorem pw_place (k : Nat) (w : Str) : (pwF k w).lookup ("place" : Str) = some (.int k) := by
  have h1 : ((("place" : Str)) == ("word" : Str)) = false := by decide
  have h2 : ((("place" : Str)) == ("place" : Str)) = true := by decide
  simp only [pwF, List.lookup, h1, h2]
theorem pw_word (k : Nat) (w : Str) : (pwF k w).lookup ("word" : Str) = some (.str w) := by
  have h2 : ((("word" : Str)) == ("word" : Str)) = true := by decide
  simp only [pwF, List.lookup, h2]
abbrev exPD (C : Str) (k : Nat) (w : Str) : D := .exc C (pwF k w)
theorem isi1_sS {z : Str} : isi1 "str" (some (.frz (.str z))) = some (.frz (.bl true)) := rfl
theorem ev_refused (k : Nat) (w : Str) : f__law_is_refused [.frz (exPD "BadBook" k w), .frz (.tup [.int k, .str w])] = some (.frz (.bl true), [.frz (exPD "BadBook" k w), .frz (.tup [.int k, .str w])]) := by
  have a1 : isE1 "BadBook" (.frz (exPD "BadBook" k w)) = some (.frz (.bl true)) := by rw [isE1_x ex_BadBook, decide_eq_true rfl]
  have a2 : isEV (.frz (exPD "BadBook" k w)) = some (.frz (.bl true)) := isEV_x ex_BadBook
  have a3 : isET ["BadDay", "BadPlant", "NoBound"] (.frz (exPD "BadBook" k w)) = some (.frz (.bl false)) := by
    rw [isET_x ex_BadBook]
    rfl
  have a4 : xfO "place" (.frz (exPD "BadBook" k w)) = some (.frz (.int k)) := xfO_x ex_BadBook (pw_place k w)
  have a5 : xfO "word" (.frz (exPD "BadBook" k w)) = some (.frz (.str w)) := xfO_x ex_BadBook (pw_word k w)
  have pk : PyOk 2 (.tup [.int k, .str w]) := .tup (.cons .int (.cons .str .nil))
  have ge := gEq_self pk (by decide)
  generalize exPD "BadBook" k w = X at *
  have main : ∃ e, m__law_is_refused [.frz X, .frz (.tup [.int k, .str w])] = some (.ret (.frz (.bl true)) e) := by
    apply Exists.intro
    rw [m__law_is_refused]
    simp_arith [a1, a2, a3, a4, a5, isi1_sS, ge]
    rfl
  obtain ⟨e, he⟩ := main
  exact fn2 (e := e) he
/-- the first row at fault, and the goods ahead of it -/
def rdE : List (List Nat) → Nat → List Ent → Option Nat × List Ent
  | [], _, acc => (none, acc)
  | r :: rs, k, acc => if wordsT r = [] then rdE rs (k + 1) acc else match tolE (wordsT r) with
    | none => (some k, acc)
    | some b => rdE rs (k + 1) (acc ++ [b])
theorem part_len (s : Nat) : ∀ (t : List Nat), ∀ w ∈ splitT s t, w.length ≤ t.length := by
  intro t
  induction t with
  | nil => intro w hw; simp [splitT] at hw; rw [hw]; simp
  | cons c t ih =>
    intro w hw
    rw [splitT] at hw
    split at hw
    · rcases List.mem_cons.mp hw with z | z
      · rw [z]; simp
      · have := ih w z; simp; omega
    · split at hw
      · rename_i p ps e
        rcases List.mem_cons.mp hw with z | z
        · have := ih p (by rw [e]; simp)
          rw [z]; simp; omega
        · have := ih w (by rw [e]; exact List.mem_cons_of_mem _ z)
          simp; omega
      · rw [List.mem_singleton.mp hw]; simp
theorem word_len (t : List Nat) : ∀ w ∈ wordsT t, w.length ≤ t.length := fun w hw => part_len 32 t w (by unfold wordsT at hw; exact (List.mem_filter.mp hw).1)
abbrev enW (rs : List (List Nat)) (k : Nat) : List D := (rs.zipIdx k).map fun p => D.tup [.int (p.2 : Int), wD p.1]
theorem oeD_n {b : Ent} : (oeD (some b)).isN = false := by cases b <;> rfl
theorem rb_step (tt : D) (r : List Nat) (k : Nat) (x3 x4 x5 x6 : SV) (acc : List Ent) (hr : r.length ≤ 50000) (h3 : plS x3 = true) (h4 : plS x4 = true) (h5 : plS x5 = true) (h6 : plS x6 = true) (ha : acc.length < 100000) :
    g_rb (.frz (.tup [.int (k : Int), wD r])) [.frz tt, .own (newL (acc.map Ent.d)), x3, x4, x5, x6] = some [.frz tt, .own (newL (acc.map Ent.d)), .frz (.int k), .frz (wD r), x5, x6] ∧
    (wordsT r = [] → b0_read_book [.frz tt, .own (newL (acc.map Ent.d)), .frz (.int k), .frz (wD r), x5, x6] = some (.nx [.frz tt, .own (newL (acc.map Ent.d)), .frz (.int k), .frz (wD r), .frz (.lst []), x6]) ∧ q0_read_book [.frz tt, .own (newL (acc.map Ent.d)), .frz (.int k), .frz (wD r), x5, x6] = none) ∧
    (wordsT r ≠ [] → ∀ b, tolE (wordsT r) = some b → b0_read_book [.frz tt, .own (newL (acc.map Ent.d)), .frz (.int k), .frz (wD r), x5, x6] = some (.nx [.frz tt, .own (newL ((acc ++ [b]).map Ent.d)), .frz (.int k), .frz (wD r), .frz (.lst ((wordsT r).map wD)), .frz b.d]) ∧ q0_read_book [.frz tt, .own (newL (acc.map Ent.d)), .frz (.int k), .frz (wD r), x5, x6] = none) ∧
    (wordsT r ≠ [] → tolE (wordsT r) = none → q0_read_book [.frz tt, .own (newL (acc.map Ent.d)), .frz (.int k), .frz (wD r), x5, x6] = some (exPW "BadBook" k "row")) := by
  have cw : cl 1 f_words_of (some [.frz (wD r)]) = some (newL ((wordsT r).map wD)) := cl_words r hr
  have ct := cl_etold (wordsT r) (wordsT_cnt r hr) fun w hw => by have := word_len r w hw; omega
  have ln : oLen (.frz (.lst ((wordsT r).map wD))) = some (.frz (.int ((wordsT r).length : Nat))) := by rw [oLen_l, List.length_map]
  have tW : (newL ((wordsT r).map wD)).toD = .lst ((wordsT r).map wD) := toD_newL
  refine ⟨by simp [h3, h4, h5, h6], fun hw => ?_, fun hw b hb => ?_, fun hw hb => ?_⟩
  · rw [hw] at cw
    generalize newL (acc.map Ent.d) = A
    generalize wD r = R at *
    have t1 : sSet 4 (takE (frzE (eCall 1 f_words_of (eCons (eVar 3) eNil)))) [.frz tt, .own A, .frz (.int k), .frz R, x5, x6] = some (.nx [.frz tt, .own A, .frz (.int k), .frz R, .frz (.lst []), x6]) := by
      simp_arith [cw, List.map_nil, h5, io_pl h5, kS_p h5, nS_p h5, kP_p h5, h6, io_pl h6, kS_p h6, nS_p h6, kP_p h6]
    have l0 : oLen (.frz (.lst [])) = some (.frz (.int 0)) := oLen_l
    have z0 : decide ((0 : Int) < 0) = false := by decide
    have t2 : tst (eOp2 (sc2 (gB fun i j => decide (j < i))) (frzE (eOpN (n1 oLen) (eCons (eVar 4) eNil))) (eC (.int 0))) [.frz tt, .own A, .frz (.int k), .frz R, .frz (.lst []), x6] = some false := by
      simp only [tst_c, eOp2_c, frzE_c, eOpN_c, eCons_c, eVar_c, List.getElem?_cons_succ, List.getElem?_cons_zero, rdS_frz, eNil_c, cons2_s, bN_s, n1_s, l0, fz1_s, toD_frz, eC_c, ap2_s, sc2_s, gB_i, z0, fr_s, tst1_b]
    refine ⟨?_, ?_⟩
    · rw [b0_read_book, sSeq_c, t1, thS_n, sIf_c, t2, if1_f, sNx_c]
    · rw [q0_read_book, rSeq_no t1, rIf_f t2]
      rfl
  · have lp : (0 : Int) < ((wordsT r).length : Int) := by
      have : 0 < (wordsT r).length := List.length_pos_iff.mpr hw
      omega
    rw [hb] at ct
    have ap : aAppend (newL (acc.map Ent.d)) [.frz (oeD (some b))] = some (newL (acc.map Ent.d ++ [b.d])) := aAppend_n (ds := acc.map Ent.d) (d := b.d) (by rw [List.length_map]; omega)
    have e1 : (acc ++ [b]).map Ent.d = acc.map Ent.d ++ [b.d] := by rw [List.map_append]; rfl
    rw [e1]
    have nn := oeD_n (b := b)
    have eb : b.d = oeD (some b) := rfl
    rw [eb] at ap ⊢
    generalize oeD (some b) = B at *
    generalize newL (acc.map Ent.d ++ [B]) = A2 at *
    have lst : isLst (newL (acc.map Ent.d)) = true := rfl
    generalize newL (acc.map Ent.d) = A at *
    generalize wD r = R at *
    generalize newL ((wordsT r).map wD) = WN at *
    generalize D.lst ((wordsT r).map wD) = W at *
    have t1 : sSet 4 (takE (frzE (eCall 1 f_words_of (eCons (eVar 3) eNil)))) [.frz tt, .own A, .frz (.int k), .frz R, x5, x6] = some (.nx [.frz tt, .own A, .frz (.int k), .frz R, .frz W, x6]) := by
      simp_arith [cw, tW, h5, io_pl h5, kS_p h5, nS_p h5, kP_p h5, h6, io_pl h6, kS_p h6, nS_p h6, kP_p h6]
    have z0 : decide ((0 : Int) < ((wordsT r).length : Int)) = true := decide_eq_true lp
    have t2 : tst (eOp2 (sc2 (gB fun i j => decide (j < i))) (frzE (eOpN (n1 oLen) (eCons (eVar 4) eNil))) (eC (.int 0))) [.frz tt, .own A, .frz (.int k), .frz R, .frz W, x6] = some true := by
      simp only [tst_c, eOp2_c, frzE_c, eOpN_c, eCons_c, eVar_c, List.getElem?_cons_succ, List.getElem?_cons_zero, rdS_frz, eNil_c, cons2_s, bN_s, n1_s, ln, fz1_s, toD_frz, eC_c, ap2_s, sc2_s, gB_i, z0, fr_s, tst1_b]
    have t3 : sSet 5 (takE (frzE (eCall 1 f_entry_told (eCons (eVar 4) eNil)))) [.frz tt, .own A, .frz (.int k), .frz R, .frz W, x6] = some (.nx [.frz tt, .own A, .frz (.int k), .frz R, .frz W, .frz B]) := by
      simp_arith [ct, h6, io_pl h6, kS_p h6, nS_p h6, kP_p h6]
    have t4 : tst (eOp1 (oIsN false) (eVar 5)) [.frz tt, .own A, .frz (.int k), .frz R, .frz W, .frz B] = some false := by
      simp_arith [nn, Bool.false_xor]
    refine ⟨?_, ?_⟩
    · rw [b0_read_book, sSeq_c, t1, thS_n, sIf_c, t2, if1_t, sSeq_c, t3, thS_n, sSeq_c, sIf_c, t4, if1_f, sNx_c, thS_n]
      rw [sAct_e (n := A) (rp := (1, [])) (os := [.frz B]) (n' := A2) rfl rfl lst rfl ap]
      simp_arith [ap]
    · rw [q0_read_book, rSeq_no t1, rIf_t t2, rSeq_no t3, rSeq_n (e := [.frz tt, .own A, .frz (.int k), .frz R, .frz W, .frz B]) ?_ ?_]
      · rfl
      · rw [rIf_f t4]; rfl
      · rw [sIf_c, t4, if1_f, sNx_c]
  · have lp : (0 : Int) < ((wordsT r).length : Int) := by
      have : 0 < (wordsT r).length := List.length_pos_iff.mpr hw
      omega
    rw [hb] at ct
    replace ct : cl 1 f_entry_told (some [.frz (.lst ((wordsT r).map wD))]) = some (.frz .non) := ct
    generalize newL (acc.map Ent.d) = A at *
    generalize wD r = R at *
    generalize newL ((wordsT r).map wD) = WN at *
    generalize D.lst ((wordsT r).map wD) = W at *
    have t1 : sSet 4 (takE (frzE (eCall 1 f_words_of (eCons (eVar 3) eNil)))) [.frz tt, .own A, .frz (.int k), .frz R, x5, x6] = some (.nx [.frz tt, .own A, .frz (.int k), .frz R, .frz W, x6]) := by
      simp_arith [cw, tW, h5, io_pl h5, kS_p h5, nS_p h5, kP_p h5, h6, io_pl h6, kS_p h6, nS_p h6, kP_p h6]
    have z0 : decide ((0 : Int) < ((wordsT r).length : Int)) = true := decide_eq_true lp
    have t2 : tst (eOp2 (sc2 (gB fun i j => decide (j < i))) (frzE (eOpN (n1 oLen) (eCons (eVar 4) eNil))) (eC (.int 0))) [.frz tt, .own A, .frz (.int k), .frz R, .frz W, x6] = some true := by
      simp only [tst_c, eOp2_c, frzE_c, eOpN_c, eCons_c, eVar_c, List.getElem?_cons_succ, List.getElem?_cons_zero, rdS_frz, eNil_c, cons2_s, bN_s, n1_s, ln, fz1_s, toD_frz, eC_c, ap2_s, sc2_s, gB_i, z0, fr_s, tst1_b]
    have t3 : sSet 5 (takE (frzE (eCall 1 f_entry_told (eCons (eVar 4) eNil)))) [.frz tt, .own A, .frz (.int k), .frz R, .frz W, x6] = some (.nx [.frz tt, .own A, .frz (.int k), .frz R, .frz W, .frz .non]) := by
      simp_arith [ct, h6, io_pl h6, kS_p h6, nS_p h6, kP_p h6]
    have t4 : tst (eOp1 (oIsN false) (eVar 5)) [.frz tt, .own A, .frz (.int k), .frz R, .frz W, .frz .non] = some true := by
      simp_arith [Bool.false_xor]
    have t5 : (eCons (eVar 2) (eCons (eC (.str "row")) eNil)) [.frz tt, .own A, .frz (.int k), .frz R, .frz W, .frz .non] = some [.frz (.int k), .frz (.str "row")] := by
      simp_arith [ct]
    rw [q0_read_book, rSeq_no t1, rIf_t t2, rSeq_no t3, rSeq_x]
    rw [rIf_t t4, rMk_s t5 rfl rfl]
    rfl
theorem rbk_loop (tt : D) : ∀ (rs : List (List Nat)) (k : Nat) (x3 x4 x5 x6 : SV) (acc : List Ent), (∀ r ∈ rs, r.length ≤ 50000) → plS x3 = true → plS x4 = true → plS x5 = true → plS x6 = true → acc.length + rs.length < 100000 →
    ((rdE rs k acc).1 = none → (∃ y3 y4 y5 y6 : SV, plS y3 = true ∧ plS y4 = true ∧ plS y5 = true ∧ plS y6 = true ∧ loop g_rb b0_read_book (enW rs k) [.frz tt, .own (newL (acc.map Ent.d)), x3, x4, x5, x6] = some (.nx [.frz tt, .own (newL ((rdE rs k acc).2.map Ent.d)), y3, y4, y5, y6])) ∧
      rloop g_rb b0_read_book q0_read_book (enW rs k) [.frz tt, .own (newL (acc.map Ent.d)), x3, x4, x5, x6] = none) ∧
    ∀ k', (rdE rs k acc).1 = some k' → rloop g_rb b0_read_book q0_read_book (enW rs k) [.frz tt, .own (newL (acc.map Ent.d)), x3, x4, x5, x6] = some (exPW "BadBook" k' "row")
  | [], k, x3, x4, x5, x6, acc, _, h3, h4, h5, h6, _ => ⟨fun _ => ⟨⟨x3, x4, x5, x6, h3, h4, h5, h6, loop_nil⟩, rl_nil⟩, fun k' h => by cases h⟩
  | r :: rs, k, x3, x4, x5, x6, acc, hb, h3, h4, h5, h6, hl => by
    rw [List.length_cons] at hl
    obtain ⟨tg, s1, s2, s3⟩ := rb_step tt r k x3 x4 x5 x6 acc (hb r (by simp)) h3 h4 h5 h6 (by omega)
    have e : enW (r :: rs) k = .tup [.int (k : Int), wD r] :: enW rs (k + 1) := by
      show List.map _ (List.zipIdx (r :: rs) k) = _
      rw [List.zipIdx_cons, List.map_cons]
    rw [e]
    by_cases hw : wordsT r = []
    · obtain ⟨o1, o2⟩ := s1 hw
      have hd : rdE (r :: rs) k acc = rdE rs (k + 1) acc := by rw [rdE, if_pos hw]
      rw [hd, rl_n tg o2 o1, loop_cons, tg, bdE_s, o1, lp2_n]
      exact rbk_loop tt rs (k + 1) _ _ _ _ acc (fun c hc => hb c (by simp [hc])) rfl rfl rfl h6 (by omega)
    · cases ht : tolE (wordsT r) with
      | none =>
        have hd : rdE (r :: rs) k acc = (some k, acc) := by rw [rdE, if_neg hw, ht]
        rw [hd]
        refine ⟨fun z => (by cases z), fun k' z => ?_⟩
        cases z
        rw [rl_x tg (s3 hw ht)]
      | some b =>
        obtain ⟨o1, o2⟩ := s2 hw b ht
        have hd : rdE (r :: rs) k acc = rdE rs (k + 1) (acc ++ [b]) := by rw [rdE, if_neg hw, ht]
        rw [hd, rl_n tg o2 o1, loop_cons, tg, bdE_s, o1, lp2_n]
        exact rbk_loop tt rs (k + 1) _ _ _ _ (acc ++ [b]) (fun c hc => hb c (by simp [hc])) rfl rfl rfl rfl (by rw [List.length_append, List.length_singleton]; omega)
end Pt
namespace Pt
open PySem PySem.Spec PyProof.Rows L2 VL Mr
theorem lw_wordsB (L : D) (A : O) (k : Int) (r : List Nat) (x5 x6 : SV) (hr : r.length ≤ 50000) (h5 : plS x5 = true) (h6 : plS x6 = true) :
    frzE (eLcN (iLTc (frzE (eOpM oSplit (eVar 3) (eCons (eC (.str " ")) eNil)))) [6] (gNm 6) ct0__law_read c0__law_read) [.frz L, .own A, .frz (.int k), .frz (wD r), x5, x6, .dead] = some (.frz (.lst ((wordsT r).map wD))) := by
  have sp : oSplit (.frz (.str (tx r))) [.frz (.str (tx [32]))] = some (newL ((splitT 32 r).map wD)) := by
    rw [oSplit_s (by simp) (by simp; omega), split_tx 32 (by omega), strs_wD]
  have sp' : oM oSplit (some (.frz (wD r))) (some [.frz (.str (tx [32]))]) = some (newL ((splitT 32 r).map wD)) := by
    show oM oSplit (some (.frz (.str (tx r)))) _ = _
    rw [oM_s]
    exact sp
  have hl := splitT_len 32 r
  have hna : noAlsB [.frz L, .own A, .frz (.int k), .frz (wD r), x5, x6, .dead] = true := by
    cases x5 <;> cases x6 <;> first | rfl | (exact Bool.noConfusion h6) | (exact Bool.noConfusion h5)
  have hc := lc1_fm (m := c0__law_read) (t := ct0__law_read) (g := gNm 6) (vs := [6]) (env := [.frz L, .own A, .frz (.int k), .frz (wD r), x5, x6, .dead]) wD (fun w => !w.isEmpty) (fun w => .frz (wD w)) (splitT 32 r) hna (by omega) fun w hw => by
    refine ⟨[.frz L, .own A, .frz (.int k), .frz (wD r), x5, x6, .frz (wD w)], by simp [h5, h6], ?_, fun _ => by simp [c0__law_read]⟩
    simp [ct0__law_read, wD, em_lit, ne_tx]
  simp only [frzE_c, eLcN_c, iLTc_c, eOpM_c, eVar_c, List.getElem?_cons_succ, List.getElem?_cons_zero, rdS_frz, eCons_c, eC_c, bl_lit, eNil_c, cons2_s, sp', fz1_s, toD_newL, it1_s, litems_f, Option.some_or, hc, toD_lst, List.map_map]
  unfold wordsT
  rfl
theorem wne (ws : List (List Nat)) : gNe (.lst (ws.map wD)) (.lst []) = some (.bl (!decide (ws = []))) := by
  cases ws with
  | nil => rfl
  | cons w ws =>
    rw [List.map_cons, neC (n := 0) (PysOk.map (f := wD) (xs := w :: ws) fun _ _ => .str)]
    rfl
theorem lb_step (L : D) (r : List Nat) (k : Nat) (x3 x4 x5 x6 : SV) (acc : List Ent) (hr : r.length ≤ 50000) (h3 : plS x3 = true) (h4 : plS x4 = true) (h5 : plS x5 = true) (h6 : plS x6 = true) (ha : acc.length < 100000) :
    g_rb (.frz (.tup [.int (k : Int), wD r])) [.frz L, .own (newL (acc.map Ent.d)), x3, x4, x5, x6, .dead] = some [.frz L, .own (newL (acc.map Ent.d)), .frz (.int k), .frz (wD r), x5, x6, .dead] ∧
    (wordsT r = [] → b0__law_read [.frz L, .own (newL (acc.map Ent.d)), .frz (.int k), .frz (wD r), x5, x6, .dead] = some (.nx [.frz L, .own (newL (acc.map Ent.d)), .frz (.int k), .frz (wD r), .frz (.lst ((wordsT r).map wD)), x6, .dead])) ∧
    (wordsT r ≠ [] → ∀ b, tolE (wordsT r) = some b → b0__law_read [.frz L, .own (newL (acc.map Ent.d)), .frz (.int k), .frz (wD r), x5, x6, .dead] = some (.nx [.frz L, .own (newL ((acc ++ [b]).map Ent.d)), .frz (.int k), .frz (wD r), .frz (.lst ((wordsT r).map wD)), .frz b.d, .dead])) ∧
    (wordsT r ≠ [] → tolE (wordsT r) = none → ∃ e, b0__law_read [.frz L, .own (newL (acc.map Ent.d)), .frz (.int k), .frz (wD r), x5, x6, .dead] = some (.ret (.frz (.tup [.tup [.int k, .str "row"], .lst (acc.map Ent.d)])) e)) := by
  have ct := cl_letold (wordsT r) (wordsT_cnt r hr) fun w hw => by have := word_len r w hw; omega
  have wn := wne (wordsT r)
  have lw := lw_wordsB L (newL (acc.map Ent.d)) k r x5 x6 hr h5 h6
  have t1 : sSet 4 (frzE (eLcN (iLTc (frzE (eOpM oSplit (eVar 3) (eCons (eC (.str " ")) eNil)))) [6] (gNm 6) ct0__law_read c0__law_read)) [.frz L, .own (newL (acc.map Ent.d)), .frz (.int k), .frz (wD r), x5, x6, .dead] = some (.nx [.frz L, .own (newL (acc.map Ent.d)), .frz (.int k), .frz (wD r), .frz (.lst ((wordsT r).map wD)), x6, .dead]) := by
    rw [sSet_c, lw]
    generalize newL (acc.map Ent.d) = A
    generalize wD r = R
    generalize D.lst ((wordsT r).map wD) = W
    simp_arith [h5, io_pl h5, kS_p h5, nS_p h5, kP_p h5, h6, io_pl h6, kS_p h6, nS_p h6, kP_p h6]
  refine ⟨by simp [h3, h4, h5, h6], fun hw => ?_, fun hw b hb => ?_, fun hw hb => ?_⟩
  · rw [decide_eq_true hw] at wn
    rw [b0__law_read, sSeq_c, t1, thS_n]
    generalize newL (acc.map Ent.d) = A
    generalize wD r = R
    generalize D.lst ((wordsT r).map wD) = W at *
    simp_arith [wn, Bool.not_true]
  · rw [decide_eq_false hw] at wn
    rw [hb] at ct
    have ap : aAppend (newL (acc.map Ent.d)) [.frz (oeD (some b))] = some (newL (acc.map Ent.d ++ [b.d])) := aAppend_n (ds := acc.map Ent.d) (d := b.d) (by rw [List.length_map]; omega)
    have e1 : (acc ++ [b]).map Ent.d = acc.map Ent.d ++ [b.d] := by rw [List.map_append]; rfl
    rw [e1]
    have nn := oeD_n (b := b)
    have eb : b.d = oeD (some b) := rfl
    rw [eb] at ap ⊢
    rw [b0__law_read, sSeq_c, t1, thS_n]
    clear t1 lw
    generalize oeD (some b) = B at *
    generalize newL (acc.map Ent.d ++ [B]) = A2 at *
    have lst : isLst (newL (acc.map Ent.d)) = true := rfl
    generalize newL (acc.map Ent.d) = A at *
    generalize wD r = R at *
    generalize D.lst ((wordsT r).map wD) = W at *
    have t2 : tst (eOp2 (sc2 gNe) (eVar 4) (frzE (eLst eNil))) [.frz L, .own A, .frz (.int k), .frz R, .frz W, x6, .dead] = some true := by
      simp_arith [wn, Bool.not_false]
    have t3 : sSet 5 (takE (frzE (eCall 1 f__law_told (eCons (eVar 4) eNil)))) [.frz L, .own A, .frz (.int k), .frz R, .frz W, x6, .dead] = some (.nx [.frz L, .own A, .frz (.int k), .frz R, .frz W, .frz B, .dead]) := by
      simp_arith [ct, h6, io_pl h6, kS_p h6, nS_p h6, kP_p h6]
    have t4 : tst (eOp1 (oIsN false) (eVar 5)) [.frz L, .own A, .frz (.int k), .frz R, .frz W, .frz B, .dead] = some false := by
      simp_arith [nn, Bool.false_xor]
    rw [sIf_c, t2, if1_t, sSeq_c, t3, thS_n, sSeq_c, sIf_c, t4, if1_f, sNx_c, thS_n]
    rw [sAct_e (n := A) (rp := (1, [])) (os := [.frz B]) (n' := A2) rfl rfl lst rfl ap]
    simp_arith [ap]
  · rw [decide_eq_false hw] at wn
    rw [hb] at ct
    replace ct : cl 1 f__law_told (some [.frz (.lst ((wordsT r).map wD))]) = some (.frz .non) := ct
    rw [b0__law_read, sSeq_c, t1, thS_n]
    have tA : (newL (acc.map Ent.d)).toD = .lst (acc.map Ent.d) := toD_newL
    clear t1 lw
    generalize newL (acc.map Ent.d) = A at *
    generalize D.lst (acc.map Ent.d) = AD at *
    generalize wD r = R at *
    generalize D.lst ((wordsT r).map wD) = W at *
    have t2 : tst (eOp2 (sc2 gNe) (eVar 4) (frzE (eLst eNil))) [.frz L, .own A, .frz (.int k), .frz R, .frz W, x6, .dead] = some true := by
      simp_arith [wn, Bool.not_false]
    have t3 : sSet 5 (takE (frzE (eCall 1 f__law_told (eCons (eVar 4) eNil)))) [.frz L, .own A, .frz (.int k), .frz R, .frz W, x6, .dead] = some (.nx [.frz L, .own A, .frz (.int k), .frz R, .frz W, .frz .non, .dead]) := by
      simp_arith [ct, h6, io_pl h6, kS_p h6, nS_p h6, kP_p h6]
    have t4 : tst (eOp1 (oIsN false) (eVar 5)) [.frz L, .own A, .frz (.int k), .frz R, .frz W, .frz .non, .dead] = some true := by
      simp_arith [Bool.false_xor]
    rw [sIf_c, t2, if1_t, sSeq_c, t3, thS_n, sSeq_c, sIf_c, t4, if1_t]
    apply Exists.intro
    simp_arith [tA]
    rfl
theorem lb_loop (L : D) : ∀ (rs : List (List Nat)) (k : Nat) (x3 x4 x5 x6 : SV) (acc : List Ent), (∀ r ∈ rs, r.length ≤ 50000) → plS x3 = true → plS x4 = true → plS x5 = true → plS x6 = true → acc.length + rs.length < 100000 →
    ((rdE rs k acc).1 = none → ∃ y3 y4 y5 y6 : SV, plS y3 = true ∧ plS y4 = true ∧ plS y5 = true ∧ plS y6 = true ∧ loop g_rb b0__law_read (enW rs k) [.frz L, .own (newL (acc.map Ent.d)), x3, x4, x5, x6, .dead] = some (.nx [.frz L, .own (newL ((rdE rs k acc).2.map Ent.d)), y3, y4, y5, y6, .dead])) ∧
    ∀ k', (rdE rs k acc).1 = some k' → ∃ e, loop g_rb b0__law_read (enW rs k) [.frz L, .own (newL (acc.map Ent.d)), x3, x4, x5, x6, .dead] = some (.ret (.frz (.tup [.tup [.int (k' : Nat), .str "row"], .lst ((rdE rs k acc).2.map Ent.d)])) e)
  | [], k, x3, x4, x5, x6, acc, _, h3, h4, h5, h6, _ => ⟨fun _ => ⟨x3, x4, x5, x6, h3, h4, h5, h6, loop_nil⟩, fun k' h => by cases h⟩
  | r :: rs, k, x3, x4, x5, x6, acc, hb, h3, h4, h5, h6, hl => by
    rw [List.length_cons] at hl
    obtain ⟨tg, s1, s2, s3⟩ := lb_step L r k x3 x4 x5 x6 acc (hb r (by simp)) h3 h4 h5 h6 (by omega)
    have e : enW (r :: rs) k = .tup [.int (k : Int), wD r] :: enW rs (k + 1) := by
      show List.map _ (List.zipIdx (r :: rs) k) = _
      rw [List.zipIdx_cons, List.map_cons]
    rw [e, loop_cons, tg, bdE_s]
    by_cases hw : wordsT r = []
    · have hd : rdE (r :: rs) k acc = rdE rs (k + 1) acc := by rw [rdE, if_pos hw]
      rw [hd, s1 hw, lp2_n]
      exact lb_loop L rs (k + 1) _ _ _ _ acc (fun c hc => hb c (by simp [hc])) rfl rfl rfl h6 (by omega)
    · cases ht : tolE (wordsT r) with
      | none =>
        have hd : rdE (r :: rs) k acc = (some k, acc) := by rw [rdE, if_neg hw, ht]
        rw [hd]
        refine ⟨fun z => (by cases z), fun k' z => ?_⟩
        cases z
        obtain ⟨e1, h1⟩ := s3 hw ht
        exact ⟨e1, by rw [h1, lp2_r]⟩
      | some b =>
        have hd : rdE (r :: rs) k acc = rdE rs (k + 1) (acc ++ [b]) := by rw [rdE, if_neg hw, ht]
        rw [hd, s2 hw b ht, lp2_n]
        exact lb_loop L rs (k + 1) _ _ _ _ (acc ++ [b]) (fun c hc => hb c (by simp [hc])) rfl rfl rfl rfl (by rw [List.length_append, List.length_singleton]; omega)
end Pt
namespace Pt
open PySem PySem.Spec PyProof.Rows L2 VL Mr
theorem part_sub (s : Nat) : ∀ (t : List Nat), ∀ w ∈ splitT s t, ∀ c ∈ w, c ∈ t := by
  intro t
  induction t with
  | nil => intro w hw; simp [splitT] at hw; rw [hw]; simp
  | cons x t ih =>
    intro w hw c hc
    rw [splitT] at hw
    split at hw
    · rcases List.mem_cons.mp hw with z | z
      · rw [z] at hc; cases hc
      · exact List.mem_cons_of_mem _ (ih w z c hc)
    · split at hw
      · rename_i p ps e
        rcases List.mem_cons.mp hw with z | z
        · rw [z] at hc
          rcases List.mem_cons.mp hc with y | y
          · rw [y]; simp
          · exact List.mem_cons_of_mem _ (ih p (by rw [e]; simp) c y)
        · exact List.mem_cons_of_mem _ (ih w (by rw [e]; exact List.mem_cons_of_mem _ z) c hc)
      · rw [List.mem_singleton.mp hw] at hc
        rw [List.mem_singleton.mp hc]; simp
theorem join_mem (s : Nat) : ∀ (ws : List (List Nat)) (c : Nat), c ∈ joinT s ws → c = s ∨ ∃ w ∈ ws, c ∈ w
  | [], c, h => by cases h
  | [w], c, h => .inr ⟨w, by simp, h⟩
  | w :: v :: ws, c, h => by
    have h : c ∈ w ++ s :: joinT s (v :: ws) := h
    rcases List.mem_append.mp h with z | z
    · exact .inr ⟨w, by simp, z⟩
    · rcases List.mem_cons.mp z with y | y
      · exact .inl y
      · rcases join_mem s (v :: ws) c y with q | ⟨u, q1, q2⟩
        · exact .inl q
        · exact .inr ⟨u, List.mem_cons_of_mem _ q1, q2⟩
/-- a row: short, one line -/
def Rw (n : Nat) (r : List Nat) : Prop := r.length ≤ n ∧ 10 ∉ r
theorem split_rw {n : Nat} {r : List Nat} (h : Rw n r) : ∀ w ∈ splitT 32 r, Rw n w := fun w hw =>
  ⟨by have := part_len 32 r w hw; have := h.1; omega, fun z => h.2 (part_sub 32 r w hw 10 z)⟩
theorem pick_w (ws : List (List Nat)) (i : Nat) (hi : i < ws.length) : ix2 (some (.frz (.lst (ws.map wD)))) (some (.frz (.int (i : Int)))) = some (.frz (wD ws[i])) := by
  have := ix2_l (ds := ws.map wD) (k := (i : Int)) (d := wD ws[i]) (by rw [atI_pos (n := i) rfl (by simpa using hi)]; simp)
  exact this
abbrev wz (z : String) : List Nat := z.toList.map Char.toNat
theorem lits (zs : List String) : zs.map (fun z => D.str (Str.ofString z)) = (zs.map wz).map wD := by
  rw [List.map_map]
  exact List.map_congr_left fun z _ => by show D.str _ = D.str (tx _); rw [lit]
/-- one of some words is picked -/
theorem pick_z (zs : List String) (h : ∀ z ∈ zs, Rw 9 (wz z)) (M : Nat) (hz : 0 < zs.length) : ∃ w, Rw 9 w ∧ ix2 (some (.frz (.lst (zs.map fun z => D.str (Str.ofString z))))) (some (.frz (.int ((M % zs.length : Nat) : Int)))) = some (.frz (wD w)) := by
  have lt : M % zs.length < (zs.map wz).length := by rw [List.length_map]; exact Nat.mod_lt _ hz
  refine ⟨(zs.map wz)[M % zs.length], ?_, by rw [lits]; exact pick_w _ _ lt⟩
  have := List.getElem_mem lt
  obtain ⟨z, hz, e⟩ := List.mem_map.mp this
  rw [← e]
  exact h z hz
theorem putN_nl (ds : List D) (k : Nat) (d : D) (h : k < ds.length) : putN (newL ds) (.int (k : Int)) (.frz d) = some (newL (ds.set k d)) := by
  show (ixN (ds.map O.frz).length (k : Int)).map (fun j => O.lst ((ds.map O.frz).set j (.frz d))) = _
  have : ixN (ds.map O.frz).length (k : Int) = some k := by
    unfold ixN
    rw [if_pos (by omega), if_pos (by rw [List.length_map]; omega)]
    rfl
  rw [this, Option.map_some, ← List.map_set]
  rfl
theorem Rw.mono {n m : Nat} {r : List Nat} (h : Rw n r) (hm : n ≤ m) : Rw m r := ⟨Nat.le_trans h.1 hm, h.2⟩
theorem map_set_w (ws : List (List Nat)) (k : Nat) (w : List Nat) : (ws.map wD).set k (wD w) = (ws.set k w).map wD := by rw [List.map_set]
theorem set_rw {n : Nat} {ws : List (List Nat)} (h : ∀ w ∈ ws, Rw n w) (k : Nat) {w : List Nat} (hw : Rw n w) : ∀ x ∈ ws.set k w, Rw n x := fun x hx => by
  rcases List.mem_or_eq_of_mem_set hx with z | z
  · exact h x z
  · rw [z]; exact hw
theorem atI_get {α : Type} {xs : List α} {k : Nat} {x : α} (h : xs[k]? = some x) : atI xs (k : Int) = some x := by
  obtain ⟨a, b⟩ := List.getElem?_eq_some_iff.mp h
  rw [atI_pos (n := k) rfl a, b]
theorem ix2_nl {ds : List D} {k : Int} {d : D} (h : atI ds k = some d) : ix2 (some (newL ds)) (some (.frz (.int k))) = some (.frz d) := by
  unfold newL
  simp [ix2, ixO, atI_map, h]
theorem oList_nl {ds : List D} : oList (newL ds) = some (newL ds) := by
  unfold oList
  simp
theorem joinT_split (s : Nat) : ∀ t : List Nat, joinT s (splitT s t) = t
  | [] => rfl
  | c :: t => by
    have ih := joinT_split s t
    rw [splitT]
    split
    · rename_i h
      cases e : splitT s t with
      | nil => exact absurd e (splitT_ne s t)
      | cons p ps =>
        rw [e] at ih
        show [] ++ s :: joinT s (p :: ps) = _
        rw [ih, h]
        rfl
    · cases e : splitT s t with
      | nil => exact absurd e (splitT_ne s t)
      | cons p ps =>
        rw [e] at ih
        cases ps with
        | nil =>
          show c :: p = _
          rw [show p = t from ih]
        | cons q qs =>
          show (c :: p) ++ s :: joinT s (q :: qs) = _
          have ih : p ++ s :: joinT s (q :: qs) = t := ih
          rw [← ih]
          rfl
def tsum (ws : List (List Nat)) : Nat := (ws.map List.length).sum + ws.length
theorem tsum_app (a b : List (List Nat)) : tsum (a ++ b) = tsum a + tsum b := by
  unfold tsum
  rw [List.map_append, List.sum_append, List.length_append]
  omega
theorem tsum_cut (a : List (List Nat)) (k : Nat) : tsum (a.take k) + tsum (a.drop k) = tsum a := by
  rw [← tsum_app, List.take_append_drop]
theorem tsum_set : ∀ (ws : List (List Nat)) (k : Nat) (w : List Nat), tsum (ws.set k w) ≤ tsum ws + w.length
  | [], k, w => by simp [tsum]
  | a :: ws, 0, w => by
    simp only [tsum, List.set_cons_zero, List.map_cons, List.sum_cons, List.length_cons]
    omega
  | a :: ws, k + 1, w => by
    have := tsum_set ws k w
    simp only [tsum, List.set_cons_succ, List.map_cons, List.sum_cons, List.length_cons] at this ⊢
    omega
theorem tsum_drop (ws : List (List Nat)) (k : Nat) : tsum (ws.drop k) ≤ tsum ws := by have := tsum_cut ws k; omega
theorem joinT_tsum (s : Nat) : ∀ ws : List (List Nat), ws ≠ [] → (joinT s ws).length + 1 = tsum ws
  | [], h => absurd rfl h
  | [p], _ => by simp [joinT, tsum]
  | p :: q :: r, _ => by
    have := joinT_tsum s (q :: r) (by simp)
    simp only [joinT, tsum, List.map_cons, List.sum_cons, List.length_cons, List.length_append] at this ⊢
    omega
theorem joinT_le (s : Nat) (ws : List (List Nat)) : (joinT s ws).length ≤ tsum ws := by
  cases ws with
  | nil => simp [joinT]
  | cons p ps => have := joinT_tsum s (p :: ps) (by simp); omega
theorem split_tsum (s : Nat) (r : List Nat) : tsum (splitT s r) = r.length + 1 := by
  have := joinT_tsum s (splitT s r) (splitT_ne s r)
  rw [joinT_split] at this
  omega
/-- a row of such words -/
theorem join_rwB {N : Nat} (ws : List (List Nat)) (h : ∀ w ∈ ws, 10 ∉ w) (ht : tsum ws ≤ N) (hn : N ≤ 16777216) : Rw N (joinT 32 ws) ∧ oJoin (.frz (.str (tx [32]))) [.frz (.lst (ws.map wD))] = some (.frz (wD (joinT 32 ws))) := by
  refine ⟨⟨Nat.le_trans (joinT_le 32 ws) ht, fun z => ?_⟩, join_wD 32 ws (by unfold tsum at ht; omega)⟩
  rcases join_mem 32 ws 10 z with q | ⟨w, q1, q2⟩
  · omega
  · exact h w q1 q2
end Pt
namespace Pt
open PySem PySem.Spec PyProof.Rows L2 VL Mr
theorem put_zB (R OD : D) (M : Int) (j at_ : Nat) (x6 x7 : SV) (h6 : plS x6 = true) (h7 : plS x7 = true) (ws : List (List Nat)) (w : List Nat) (i : Nat) (hi : i < ws.length) (mi m : Em)
    (hm : m [.frz R, .frz (.int M), .own (newL (ws.map wD)), .frz (.int (j : Int)), .frz (.int (at_ : Int)), .frz OD, x6, x7] = some (.frz (wD w)))
    (hmi : mi [.frz R, .frz (.int M), .own (newL (ws.map wD)), .frz (.int (j : Int)), .frz (.int (at_ : Int)), .frz OD, x6, x7] = some (.frz (.int (i : Int)))) :
    sPut (qVar 2) mi m [.frz R, .frz (.int M), .own (newL (ws.map wD)), .frz (.int (j : Int)), .frz (.int (at_ : Int)), .frz OD, x6, x7] = some (.nx [.frz R, .frz (.int M), .own (newL ((ws.set i w).map wD)), .frz (.int (j : Int)), .frz (.int (at_ : Int)), .frz OD, x6, x7]) := by
  have pn := putN_nl (ws.map wD) i (wD w) (by rw [List.length_map]; exact hi)
  rw [map_set_w] at pn
  refine (sPut_e (o := .frz (wD w)) (oi := .frz (.int (i : Int))) (rp := (2, [])) (n := newL (ws.map wD)) (n' := newL ((ws.set i w).map wD)) hm rfl rfl hmi (by rw [toD_frz]; exact pn)).trans ?_
  generalize newL (ws.map wD) = A at *
  generalize newL ((ws.set i w).map wD) = A2 at *
  simp [h6, h7, io_pl h6, kS_p h6, nS_p h6, kP_p h6, io_pl h7, kS_p h7, nS_p h7, kP_p h7]
/-- one of some words, by a number of the row -/
theorem pick_e (zs : List String) (h : ∀ z ∈ zs, Rw 9 (wz z)) (hz : 0 < zs.length) (hz2 : zs.length ≤ 100) (env : VL.Env) (s : SV) (r : VL.Env) (henv : env = s :: r) (ms : Es) (hms : ms env = some (zs.map fun z => O.frz (D.str (Str.ofString z)))) (j : Nat) (me : Em) (hme : me env = some (.frz (.int (j : Int)))) (zl : Int) (hzl : zl = (zs.length : Int)) :
    ∃ w, Rw 9 w ∧ takE (eIx (frzE (eLst ms)) (frzE (eOp2 (sc2 gMod) me (eC (.int zl))))) env = some (.frz (wD w)) := by
  obtain ⟨w, hw, pz⟩ := pick_z zs h j hz
  refine ⟨w, hw, ?_⟩
  have md : gMod (.int (j : Int)) (.int zl) = some (.int ((j % zs.length : Nat) : Int)) := by
    rw [hzl, gMod_i (by omega)]
    rfl
  have l1 : lst1 (some (zs.map fun z => O.frz (D.str (Str.ofString z)))) = some (.lst (zs.map fun z => O.frz (D.str (Str.ofString z)))) := lst1_s (by rw [List.length_map]; omega)
  have td := td_map (fun z => D.str (Str.ofString z)) zs
  subst henv
  simp only [takE_c, eIx_c, frzE_c, eLst_c, hms, l1, fz1_s, td, eOp2_c, hme, eC_c, ap2_s, sc2_s, toD_frz, md, fr_s, pz, tk1_f]
theorem ev_otherwiseB {N : Nat} (hN : N ≤ 50000) (r : List Nat) (hr : Rw N r) (h4 : 2 < (splitT 32 r).length) (M : Nat) : ∃ r', Rw (N + 12) r' ∧ f__law_otherwise [.frz (wD r), .frz (.int (M : Int))] = some (.frz (wD r'), [.frz (wD r), .frz (.int (M : Int))]) := by
  have hw : ∀ w ∈ splitT 32 r, 10 ∉ w := fun w h => (split_rw hr w h).2
  have ts : tsum (splitT 32 r) ≤ N + 1 := by rw [split_tsum]; have := hr.1; omega
  have wl : (splitT 32 r).length ≤ 50001 := by have := splitT_len 32 r; have := hr.1; omega
  have sp : oSplit (.frz (.str (tx r))) [.frz (.str (tx [32]))] = some (newL ((splitT 32 r).map wD)) := by
    have := hr.1
    rw [oSplit_s (by simp) (by simp; omega), split_tx 32 (by omega), strs_wD]
  have sp' : oM oSplit (some (.frz (wD r))) (some [.frz (.str (tx [32]))]) = some (newL ((splitT 32 r).map wD)) := by
    show oM oSplit (some (.frz (.str (tx r)))) _ = _
    rw [oM_s]
    exact sp
  obtain ⟨ws, hws⟩ : ∃ ws, ws = splitT 32 r := ⟨_, rfl⟩
  rw [← hws] at hw sp sp' h4 ts wl
  obtain ⟨at_, hat⟩ : ∃ k, k = M / 5 % ws.length := ⟨_, rfl⟩
  have atl : at_ < ws.length := by rw [hat]; exact Nat.mod_lt _ (by omega)
  have oj : ∀ vs : List (List Nat), (∀ v ∈ vs, 10 ∉ v) → tsum vs ≤ N + 12 → oJoin (.frz (.str (tx [32]))) [.frz (.lst (vs.map wD))] = some (.frz (wD (joinT 32 vs))) := fun vs h h6 => (join_rwB vs h h6 (by omega)).2
  have ln : oLen (newL (ws.map wD)) = some (.frz (.int (ws.length : Int))) := by rw [oLen_n, List.length_map]
  have cT : ∀ k : Nat, sl3 (some (newL (ws.map wD))) (some none) (some (some (k : Int))) = some (newL ((ws.take k).map wD)) := fun k => by rw [sl3_nl, cut_to, List.map_take]
  have cF : ∀ k : Nat, sl3 (some (newL (ws.map wD))) (some (some (k : Int))) (some none) = some (newL ((ws.drop k).map wD)) := fun k => by rw [sl3_nl, cut_from, List.map_drop]
  have oa : ∀ us vs : List (List Nat), us.length + vs.length ≤ 200000 → oAdd (.frz (.lst (us.map wD))) (.frz (.lst (vs.map wD))) = some (newL ((us ++ vs).map wD)) := fun us vs h => by
    rw [oAdd_ll (by rw [List.length_map, List.length_map]; omega), List.map_append]
  have tkl : ∀ k, (ws.take k).length ≤ 50001 := fun k => by rw [List.length_take]; omega
  have dkl : ∀ k, (ws.drop k).length ≤ 50001 := fun k => by rw [List.length_drop]; omega
  have mem : ∀ k, (∀ v ∈ ws.take k, 10 ∉ v) ∧ (∀ v ∈ ws.drop k, 10 ∉ v) := fun k => ⟨fun v h => hw v (List.mem_of_mem_take h), fun v h => hw v (List.mem_of_mem_drop h)⟩
  obtain ⟨OD, hOD⟩ : ∃ OD, OD = D.lst (["-1", "01", "1000000", "x", "+1", "1.0", "-", "00", "0x1"].map fun z => D.str (Str.ofString z)) := ⟨_, rfl⟩
  generalize hR : wD r = R at *
  have main : ∃ r', Rw (N + 12) r' ∧ ∃ e, m__law_otherwise [.frz R, .frz (.int (M : Int)), .dead, .dead, .dead, .dead, .dead, .dead] = some (.ret (.frz (wD r')) e) := by
    have s0 : u0__law_otherwise [.frz R, .frz (.int (M : Int)), .dead, .dead, .dead, .dead, .dead, .dead] = some (.nx [.frz R, .frz (.int (M : Int)), .own (newL (ws.map wD)), .dead, .dead, .dead, .dead, .dead]) := by
      rw [u0__law_otherwise]
      simp_arith [VL.eOpM_c, bl_lit, sp']
    have s1 : u1__law_otherwise [.frz R, .frz (.int (M : Int)), .own (newL (ws.map wD)), .dead, .dead, .dead, .dead, .dead] = some (.nx [.frz R, .frz (.int (M : Int)), .own (newL (ws.map wD)), .frz (.int ((M / 5 : Nat) : Int)), .dead, .dead, .dead, .dead]) := by
      rw [u1__law_otherwise]
      generalize newL (ws.map wD) = A
      simp_arith [hR]
    have s2 : u2__law_otherwise [.frz R, .frz (.int (M : Int)), .own (newL (ws.map wD)), .frz (.int ((M / 5 : Nat) : Int)), .dead, .dead, .dead, .dead] = some (.nx [.frz R, .frz (.int (M : Int)), .own (newL (ws.map wD)), .frz (.int ((M / 5 : Nat) : Int)), .frz (.int (at_ : Int)), .dead, .dead, .dead]) := by
      rw [hat, u2__law_otherwise]
      have md : gMod (.int ((M / 5 : Nat) : Int)) (.int (ws.length : Int)) = some (.int ((M / 5 % ws.length : Nat) : Int)) := by
        rw [gMod_i (by omega)]
        rfl
      generalize newL (ws.map wD) = A at *
      rw [sSet_c]
      have e : takE (frzE (eOp2 (sc2 gMod) (eVar 3) (frzE (eOpN (n1 oLen) (eCons (eVar 2) eNil))))) [.frz R, .frz (.int (M : Int)), .own A, .frz (.int ((M / 5 : Nat) : Int)), .dead, .dead, .dead, .dead] = some (.frz (.int ((M / 5 % ws.length : Nat) : Int))) := by
        simp only [takE_c, frzE_c, eOp2_c, eVar_c, List.getElem?_cons_succ, List.getElem?_cons_zero, rdS_frz, rdS_own, eOpN_c, eCons_c, eNil_c, cons2_s, bN_s, n1_s, ln, fz1_s, toD_frz, ap2_s, sc2_s, md, fr_s, tk1_f]
      rw [e]
      simp_arith [hR]
    have s3 : u3__law_otherwise [.frz R, .frz (.int (M : Int)), .own (newL (ws.map wD)), .frz (.int ((M / 5 : Nat) : Int)), .frz (.int (at_ : Int)), .dead, .dead, .dead] = some (.nx [.frz R, .frz (.int (M : Int)), .own (newL (ws.map wD)), .frz (.int ((M / 5 : Nat) : Int)), .frz (.int (at_ : Int)), .frz OD, .dead, .dead]) := by
      rw [u3__law_otherwise, hOD]
      generalize newL (ws.map wD) = A
      simp_arith [hR]
    rw [m__law_otherwise, sSeq_c, s0, thS_n, sSeq_c, s1, thS_n, sSeq_c, s2, thS_n, sSeq_c, s3, thS_n]
    obtain ⟨x, hx⟩ : ∃ x, x = M % 5 := ⟨_, rfl⟩
    have tq : ∀ (J : Int) (j : Nat) (hJ : J = (j : Int)), tst (eOp2 (sc2 gEq) (frzE (eOp2 (sc2 gMod) (eVar 1) (eC (.int 5)))) (eC (.int J))) [.frz R, .frz (.int (M : Int)), .own (newL (ws.map wD)), .frz (.int ((M / 5 : Nat) : Int)), .frz (.int (at_ : Int)), .frz OD, .dead, .dead] = some (x == j) := fun J j hJ => by
      rw [hx, hJ]
      generalize newL (ws.map wD) = A at *
      simp_arith [hR]
    have t0 := tq 0 0 rfl
    have t1 := tq 1 1 rfl
    have t2 := tq 2 2 rfl
    have t3 := tq 3 3 rfl
    clear tq
    have v3 : (eVar 3) [.frz R, .frz (.int (M : Int)), .own (newL (ws.map wD)), .frz (.int ((M / 5 : Nat) : Int)), .frz (.int (at_ : Int)), .frz OD, .dead, .dead] = some (.frz (.int ((M / 5 : Nat) : Int))) := by
      generalize newL (ws.map wD) = A
      simp only [eVar_c, List.getElem?_cons_succ, List.getElem?_cons_zero, rdS_frz]
    have lt3 : tst (eOp2 (sc2 (gB fun i j => decide (j < i))) (frzE (eOpN (n1 oLen) (eCons (eVar 2) eNil))) (eC (.int 3))) [.frz R, .frz (.int (M : Int)), .own (newL (ws.map wD)), .frz (.int ((M / 5 : Nat) : Int)), .frz (.int (at_ : Int)), .frz OD, .dead, .dead] = some (decide (3 < ws.length)) := by
      generalize newL (ws.map wD) = A at *
      simp_arith [ln]
    have fin : ∀ (vs : List (List Nat)) (x6 x7 : SV), (∀ v ∈ vs, 10 ∉ v) → tsum vs ≤ N + 12 → plS x6 = true → plS x7 = true → ∃ e, u7__law_otherwise [.frz R, .frz (.int (M : Int)), .own (newL (vs.map wD)), .frz (.int ((M / 5 : Nat) : Int)), .frz (.int (at_ : Int)), .frz OD, x6, x7] = some (.ret (.frz (wD (joinT 32 vs))) e) := fun vs x6 x7 h1 h2 h6 h7 => by
      have o1 := (oJoin_eq (oStrs_n _)).trans (oj _ h1 h2)
      rw [u7__law_otherwise]
      generalize newL (vs.map wD) = A1 at *
      apply Exists.intro
      simp_arith [VL.eOpM_c, bl_lit, VL.oM_s, o1]
      rfl
    by_cases c0 : x = 0
    · rw [c0] at t0
      replace t0 := t0.trans (show some ((0 : Nat) == 0) = some true from rfl)
      have hh : ∀ v ∈ ws.take at_ ++ ws.drop (at_ + 1), 10 ∉ v := fun v hv => by
        rcases List.mem_append.mp hv with z | z
        · exact (mem at_).1 v z
        · exact (mem _).2 v z
      have ht : tsum (ws.take at_ ++ ws.drop (at_ + 1)) ≤ N + 12 := by
        have e1 := tsum_cut ws at_
        have e2 := tsum_drop (ws.drop at_) 1
        rw [List.drop_drop] at e2
        rw [tsum_app]
        omega
      refine ⟨_, (join_rwB _ hh ht (by omega)).1, ?_⟩
      have o1 := oj _ hh ht
      have a1 := oa (ws.take at_) (ws.drop (at_ + 1)) (by have := tkl at_; have := dkl (at_ + 1); omega)
      have c1 := cT at_
      have c2 := cF (at_ + 1)
      have q4 : ∃ e, u4__law_otherwise [.frz R, .frz (.int (M : Int)), .own (newL (ws.map wD)), .frz (.int ((M / 5 : Nat) : Int)), .frz (.int (at_ : Int)), .frz OD, .dead, .dead] = some (.ret (.frz (wD (joinT 32 (ws.take at_ ++ ws.drop (at_ + 1))))) e) := by
        rw [u4__law_otherwise, sIf_c, t0, if1_t]
        generalize newL (ws.map wD) = A at *
        apply Exists.intro
        simp_arith [VL.eOpM_c, bl_lit, VL.oM_s, c1, c2, a1, o1]
        rfl
      obtain ⟨e, q4⟩ := q4
      exact ⟨e, by rw [sSeq_c, q4, thS_r]⟩
    replace t0 := t0.trans (show some (x == 0) = some false from by rw [beq_eq_false_iff_ne.mpr c0])
    have q4 : u4__law_otherwise [.frz R, .frz (.int (M : Int)), .own (newL (ws.map wD)), .frz (.int ((M / 5 : Nat) : Int)), .frz (.int (at_ : Int)), .frz OD, .dead, .dead] = some (.nx [.frz R, .frz (.int (M : Int)), .own (newL (ws.map wD)), .frz (.int ((M / 5 : Nat) : Int)), .frz (.int (at_ : Int)), .frz OD, .dead, .dead]) := by
      rw [u4__law_otherwise, sIf_c, t0, if1_f, sNx_c]
    rw [sSeq_c, q4, thS_n]
    by_cases c1 : x = 1
    · rw [c1] at t1
      replace t1 := t1.trans (show some ((1 : Nat) == 1) = some true from rfl)
      obtain ⟨z, hz, pz⟩ := pick_z ["7", "a"] (by unfold Rw; decide) (M / 5 / 16) (by decide)
      obtain ⟨w, hwa⟩ : ∃ w, ws[at_]? = some w := ⟨_, List.getElem?_eq_getElem atl⟩
      have wm : w ∈ ws := List.mem_of_getElem? hwa
      have ix : ix2 (some (newL (ws.map wD))) (some (.frz (.int (at_ : Int)))) = some (.frz (wD w)) := ix2_nl (atI_get (by rw [List.getElem?_map, hwa]; rfl))
      have dd : ws.drop at_ = w :: ws.drop (at_ + 1) := by
        obtain ⟨h1, h2⟩ := List.getElem?_eq_some_iff.mp hwa
        rw [← h2, List.drop_eq_getElem_cons h1]
      have hh : ∀ v ∈ ws.take at_ ++ [w, z] ++ ws.drop (at_ + 1), 10 ∉ v := fun v hv => by
        rcases List.mem_append.mp hv with y | y
        · rcases List.mem_append.mp y with y | y
          · exact (mem at_).1 v y
          · rcases List.mem_cons.mp y with y | y
            · rw [y]; exact hw w wm
            · rw [List.mem_singleton.mp y]; exact hz.2
        · exact (mem _).2 v y
      have ht : tsum (ws.take at_ ++ [w, z] ++ ws.drop (at_ + 1)) ≤ N + 12 := by
        have e1 := tsum_cut ws at_
        rw [dd] at e1
        have e2 : tsum (w :: ws.drop (at_ + 1)) = w.length + 1 + tsum (ws.drop (at_ + 1)) := by
          show tsum ([w] ++ ws.drop (at_ + 1)) = _
          rw [tsum_app]
          simp [tsum]
        have e3 : tsum [w, z] = w.length + z.length + 2 := by simp [tsum]
        have := hz.1
        rw [tsum_app, tsum_app]
        omega
      refine ⟨_, (join_rwB _ hh ht (by omega)).1, ?_⟩
      have o1 := oj _ hh ht
      have a1 := oa (ws.take at_) [w, z] (by have := tkl at_; simp; omega)
      have a2 := oa (ws.take at_ ++ [w, z]) (ws.drop (at_ + 1)) (by have := tkl at_; have := dkl (at_ + 1); rw [List.length_append]; simp; omega)
      have d1 := cT at_
      have d2 := cF at_
      have d3 : sl3 (some (.frz (.lst ((ws.drop at_).map wD)))) (some (some 1)) (some none) = some (newL ((ws.drop (at_ + 1)).map wD)) := by
        have := cut_from ((ws.drop at_).map wD) 1
        rw [sl3_l]
        rw [show ((1 : Nat) : Int) = 1 from rfl] at this
        rw [this, ← List.map_drop, List.drop_drop]
      replace pz : ix2 (some (.frz (.lst [D.str (Str.ofString "7"), D.str (Str.ofString "a")]))) (some (.frz (.int ((M / 5 / 16 % 2 : Nat) : Int)))) = some (.frz (wD z)) := pz
      have l1 : ([w, z] : List (List Nat)).map wD = [wD w, wD z] := rfl
      rw [l1] at a1
      have tA1 : (newL ((ws.take at_ ++ [w, z]).map wD)).toD = .lst ((ws.take at_ ++ [w, z]).map wD) := toD_newL
      have q5 : ∃ e, u5__law_otherwise [.frz R, .frz (.int (M : Int)), .own (newL (ws.map wD)), .frz (.int ((M / 5 : Nat) : Int)), .frz (.int (at_ : Int)), .frz OD, .dead, .dead] = some (.ret (.frz (wD (joinT 32 (ws.take at_ ++ [w, z] ++ ws.drop (at_ + 1))))) e) := by
        rw [u5__law_otherwise, sIf_c, t1, if1_t]
        have td0 : (newL ((ws.drop at_).map wD)).toD = .lst ((ws.drop at_).map wD) := toD_newL
        generalize newL ((ws.drop at_).map wD) = B at *
        generalize newL (ws.map wD) = A at *
        generalize newL ((ws.take at_ ++ [w, z]).map wD) = A1 at *
        apply Exists.intro
        simp_arith [VL.eOpM_c, bl_lit, VL.oM_s, d1, d2, td0, d3, ix, pz, a1, tA1, a2, o1]
        rfl
      obtain ⟨e, q5⟩ := q5
      exact ⟨e, by rw [sSeq_c, q5, thS_r]⟩
    replace t1 := t1.trans (show some (x == 1) = some false from by rw [beq_eq_false_iff_ne.mpr c1])
    have q5 : u5__law_otherwise [.frz R, .frz (.int (M : Int)), .own (newL (ws.map wD)), .frz (.int ((M / 5 : Nat) : Int)), .frz (.int (at_ : Int)), .frz OD, .dead, .dead] = some (.nx [.frz R, .frz (.int (M : Int)), .own (newL (ws.map wD)), .frz (.int ((M / 5 : Nat) : Int)), .frz (.int (at_ : Int)), .frz OD, .dead, .dead]) := by
      rw [u5__law_otherwise, sIf_c, t1, if1_f, sNx_c]
    rw [sSeq_c, q5, thS_n]
    by_cases c2 : x = 2
    · rw [c2] at t2
      replace t2 := t2.trans (show some ((2 : Nat) == 2) = some true from rfl)
      obtain ⟨w, hw9, pw⟩ := pick_e ["Come", "go", "taken", "come", "spoil", "take", "put", "7"] (by unfold Rw; decide) (by decide) (by decide) [.frz R, .frz (.int (M : Int)), .own (newL (ws.map wD)), .frz (.int ((M / 5 : Nat) : Int)), .frz (.int (at_ : Int)), .frz OD, .dead, .dead] _ _ rfl (eCons (takE (eC (.str "Come"))) (eCons (takE (eC (.str "go"))) (eCons (takE (eC (.str "taken"))) (eCons (takE (eC (.str "come"))) (eCons (takE (eC (.str "spoil"))) (eCons (takE (eC (.str "take"))) (eCons (takE (eC (.str "put"))) (eCons (takE (eC (.str "7"))) eNil)))))))) (by generalize newL (ws.map wD) = A; simp_arith [hR]) (M / 5) (eVar 3) v3 8 rfl
      have pp := put_zB R OD M (M / 5) at_ .dead .dead rfl rfl ws w 1 (by omega) (eC (.int 1)) _ pw rfl
      have hh : ∀ v ∈ ws.set 1 w, 10 ∉ v := fun v hv => by
        rcases List.mem_or_eq_of_mem_set hv with y | y
        · exact hw v y
        · rw [y]; exact hw9.2
      have ht : tsum (ws.set 1 w) ≤ N + 12 := by have := tsum_set ws 1 w; have := hw9.1; omega
      obtain ⟨e, f⟩ := fin _ .dead .dead hh ht rfl rfl
      refine ⟨_, (join_rwB _ hh ht (by omega)).1, e, ?_⟩
      rw [sSeq_c, u6__law_otherwise, sIf_c, t2, if1_t, pp, thS_n, f]
    replace t2 := t2.trans (show some (x == 2) = some false from by rw [beq_eq_false_iff_ne.mpr c2])
    by_cases c3 : x = 3 ∧ 3 < ws.length
    · rw [c3.1] at t3
      replace t3 := t3.trans (show some ((3 : Nat) == 3) = some true from rfl)
      rw [decide_eq_true c3.2] at lt3
      obtain ⟨w, hw9, pw⟩ := pick_e ["A", "abcdefghi", "a1", "-", "7", "Desk"] (by unfold Rw; decide) (by decide) (by decide) [.frz R, .frz (.int (M : Int)), .own (newL (ws.map wD)), .frz (.int ((M / 5 : Nat) : Int)), .frz (.int (at_ : Int)), .frz OD, .dead, .dead] _ _ rfl (eCons (takE (eC (.str "A"))) (eCons (takE (eC (.str "abcdefghi"))) (eCons (takE (eC (.str "a1"))) (eCons (takE (eC (.str "-"))) (eCons (takE (eC (.str "7"))) (eCons (takE (eC (.str "Desk"))) eNil)))))) (by generalize newL (ws.map wD) = A; simp_arith [hR]) (M / 5) (eVar 3) v3 6 rfl
      have pp := put_zB R OD M (M / 5) at_ .dead .dead rfl rfl ws w 2 (by omega) (eC (.int 2)) _ pw rfl
      have hh : ∀ v ∈ ws.set 2 w, 10 ∉ v := fun v hv => by
        rcases List.mem_or_eq_of_mem_set hv with y | y
        · exact hw v y
        · rw [y]; exact hw9.2
      have ht : tsum (ws.set 2 w) ≤ N + 12 := by have := tsum_set ws 2 w; have := hw9.1; omega
      obtain ⟨e, f⟩ := fin _ .dead .dead hh ht rfl rfl
      refine ⟨_, (join_rwB _ hh ht (by omega)).1, e, ?_⟩
      rw [sSeq_c, u6__law_otherwise, sIf_c, t2, if1_f, sIf_c, tAnd2_c, t3, and2_t, lt3, if1_t, pp, thS_n, f]
    have ta : tAnd2 (tst (eOp2 (sc2 gEq) (frzE (eOp2 (sc2 gMod) (eVar 1) (eC (.int 5)))) (eC (.int 3)))) (tst (eOp2 (sc2 (gB fun i j => decide (j < i))) (frzE (eOpN (n1 oLen) (eCons (eVar 2) eNil))) (eC (.int 3)))) [.frz R, .frz (.int (M : Int)), .own (newL (ws.map wD)), .frz (.int ((M / 5 : Nat) : Int)), .frz (.int (at_ : Int)), .frz OD, .dead, .dead] = some false := by
      rw [tAnd2_c, t3]
      by_cases y : x = 3
      · rw [y]
        show and2 (some ((3 : Nat) == 3)) _ _ = _
        rw [show ((3 : Nat) == 3) = true from rfl, and2_t, lt3, decide_eq_false fun q => c3 ⟨y, q⟩]
      · rw [beq_eq_false_iff_ne.mpr y, and2_f]
    obtain ⟨idx, hidx⟩ : ∃ idx, idx = (List.range ws.length).filter fun k => k != 1 := ⟨_, rfl⟩
    have i0 : 0 ∈ idx := by rw [hidx]; exact List.mem_filter.mpr ⟨List.mem_range.mpr (by omega), rfl⟩
    have il : 0 < idx.length := List.length_pos_of_mem i0
    obtain ⟨k, hk⟩ : ∃ k, idx[M / 5 % idx.length]? = some k := ⟨_, List.getElem?_eq_getElem (Nat.mod_lt _ il)⟩
    have km : k ∈ (List.range ws.length).filter fun k => k != 1 := by rw [← hidx]; exact List.mem_of_getElem? hk
    have kl := List.mem_range.mp (List.mem_filter.mp km).1
    have it : itR (some [.frz (.int (ws.length : Int))]) = some ((List.range ws.length).map fun (i : Nat) => D.int i) := by
      rw [itR_i (by omega), rng_map, Int.toNat_natCast]
    have hc := lc1_fm (m := c0__law_otherwise) (t := ct0__law_otherwise) (g := gNm 7) (vs := [7]) (env := [.frz R, .frz (.int (M : Int)), .own (newL (ws.map wD)), .frz (.int ((M / 5 : Nat) : Int)), .frz (.int (at_ : Int)), .frz OD, .dead, .dead]) (fun (i : Nat) => D.int i) (fun k => k != 1) (fun (i : Nat) => .frz (.int (i : Int))) (List.range ws.length) rfl (by rw [List.length_range]; omega) fun k hk => by
      refine ⟨[.frz R, .frz (.int (M : Int)), .own (newL (ws.map wD)), .frz (.int ((M / 5 : Nat) : Int)), .frz (.int (at_ : Int)), .frz OD, .dead, .frz (.int (k : Int))], ?_, ?_, fun _ => ?_⟩
      · generalize newL (ws.map wD) = A
        simp
      · generalize newL (ws.map wD) = A
        rw [ct0__law_otherwise]
        simp_arith [hR]
      · generalize newL (ws.map wD) = A
        rw [c0__law_otherwise]
        simp_arith [hR]
    rw [← hidx] at hc
    have td := td_map (fun (i : Nat) => D.int i) idx
    have e6 : sSet 6 (frzE (eLcN (iR1 (eCons (frzE (eOpN (n1 oLen) (eCons (eVar 2) eNil))) eNil)) [7] (gNm 7) ct0__law_otherwise c0__law_otherwise)) [.frz R, .frz (.int (M : Int)), .own (newL (ws.map wD)), .frz (.int ((M / 5 : Nat) : Int)), .frz (.int (at_ : Int)), .frz OD, .dead, .dead] = some (.nx [.frz R, .frz (.int (M : Int)), .own (newL (ws.map wD)), .frz (.int ((M / 5 : Nat) : Int)), .frz (.int (at_ : Int)), .frz OD, .frz (.lst (idx.map fun (i : Nat) => D.int i)), .dead]) := by
      rw [sSet_c]
      have e : frzE (eLcN (iR1 (eCons (frzE (eOpN (n1 oLen) (eCons (eVar 2) eNil))) eNil)) [7] (gNm 7) ct0__law_otherwise c0__law_otherwise) [.frz R, .frz (.int (M : Int)), .own (newL (ws.map wD)), .frz (.int ((M / 5 : Nat) : Int)), .frz (.int (at_ : Int)), .frz OD, .dead, .dead] = some (.frz (.lst (idx.map fun (i : Nat) => D.int i))) := by
        rw [frzE_c, eLcN_c]
        have iv : iR1 (eCons (frzE (eOpN (n1 oLen) (eCons (eVar 2) eNil))) eNil) [.frz R, .frz (.int (M : Int)), .own (newL (ws.map wD)), .frz (.int ((M / 5 : Nat) : Int)), .frz (.int (at_ : Int)), .frz OD, .dead, .dead] = some ((List.range ws.length).map fun (i : Nat) => D.int i) := by
          generalize newL (ws.map wD) = A at *
          simp only [iR1_c, eCons_c, frzE_c, eOpN_c, eVar_c, List.getElem?_cons_succ, List.getElem?_cons_zero, rdS_own, eNil_c, cons2_s, bN_s, n1_s, ln, fz1_s, toD_frz, it]
        rw [iv, hc, fz1_s, td]
      rw [e]
      generalize newL (ws.map wD) = A
      generalize D.lst (idx.map fun (i : Nat) => D.int i) = W
      simp_arith [hR]
    have ixi : ix2 (some (.frz (.lst (idx.map fun (i : Nat) => D.int i)))) (some (.frz (.int ((M / 5 % idx.length : Nat) : Int)))) = some (.frz (.int (k : Int))) := ix2_l (atI_get (by rw [List.getElem?_map, hk]; rfl))
    have lni : oLen (.frz (.lst (idx.map fun (i : Nat) => D.int i))) = some (.frz (.int (idx.length : Int))) := by rw [oLen_l, List.length_map]
    have md : gMod (.int ((M / 5 : Nat) : Int)) (.int (idx.length : Int)) = some (.int ((M / 5 % idx.length : Nat) : Int)) := by
      rw [gMod_i (by omega)]
      rfl
    have mi : (eIx (eVar 6) (frzE (eOp2 (sc2 gMod) (eVar 3) (frzE (eOpN (n1 oLen) (eCons (eVar 6) eNil)))))) [.frz R, .frz (.int (M : Int)), .own (newL (ws.map wD)), .frz (.int ((M / 5 : Nat) : Int)), .frz (.int (at_ : Int)), .frz OD, .frz (.lst (idx.map fun (i : Nat) => D.int i)), .dead] = some (.frz (.int (k : Int))) := by
      generalize newL (ws.map wD) = A
      generalize D.lst (idx.map fun (i : Nat) => D.int i) = W at *
      simp only [eIx_c, frzE_c, eOp2_c, eVar_c, List.getElem?_cons_succ, List.getElem?_cons_zero, rdS_frz, ap2_s, sc2_s, toD_frz, eOpN_c, eCons_c, eNil_c, cons2_s, bN_s, n1_s, lni, fz1_s, md, fr_s, ixi]
    obtain ⟨w, hw9, pz⟩ := pick_z ["-1", "01", "1000000", "x", "+1", "1.0", "-", "00", "0x1"] (by unfold Rw; decide) (M / 5 / 16) (by decide)
    rw [← hOD] at pz
    replace pz : ix2 (some (.frz OD)) (some (.frz (.int ((M / 5 / 16 % 9 : Nat) : Int)))) = some (.frz (wD w)) := pz
    have mw : (takE (eIx (eVar 5) (frzE (eOp2 (sc2 gMod) (frzE (eOp2 (sc2 gDiv) (eVar 3) (eC (.int 16)))) (eC (.int 9)))))) [.frz R, .frz (.int (M : Int)), .own (newL (ws.map wD)), .frz (.int ((M / 5 : Nat) : Int)), .frz (.int (at_ : Int)), .frz OD, .frz (.lst (idx.map fun (i : Nat) => D.int i)), .dead] = some (.frz (wD w)) := by
      generalize newL (ws.map wD) = A
      generalize D.lst (idx.map fun (i : Nat) => D.int i) = W at *
      generalize wD w = WW at *
      simp_arith [pz]
    have pp := put_zB R OD M (M / 5) at_ (.frz (.lst (idx.map fun (i : Nat) => D.int i))) .dead rfl rfl ws w k kl _ _ mw mi
    have hh : ∀ v ∈ ws.set k w, 10 ∉ v := fun v hv => by
      rcases List.mem_or_eq_of_mem_set hv with y | y
      · exact hw v y
      · rw [y]; exact hw9.2
    have ht : tsum (ws.set k w) ≤ N + 12 := by have := tsum_set ws k w; have := hw9.1; omega
    obtain ⟨e, f⟩ := fin _ (.frz (.lst (idx.map fun (i : Nat) => D.int i))) .dead hh ht rfl rfl
    refine ⟨_, (join_rwB _ hh ht (by omega)).1, e, ?_⟩
    rw [sSeq_c, u6__law_otherwise, sIf_c, t2, if1_f, sIf_c, ta, if1_f, sSeq_c, e6, thS_n, pp, thS_n, f]
  obtain ⟨r', h1, e, h2⟩ := main
  exact ⟨r', h1, fn2 (e := e) h2⟩
end Pt
namespace Pt
open PySem PySem.Spec PyProof.Rows L2 VL Mr
theorem wrB_step {N : Nat} (hN : N ≤ 50000) (s0 s1 s2 s3 : D) (G : O) (rows : List (List Nat)) (hr : ∀ r ∈ rows, Rw N r) (hl : rows.length ≤ 1000) (num : Nat) (x6 x7 x10 x11 : SV) (h6 : plS x6 = true) (h7 : plS x7 = true) (h10 : plS x10 = true) (h11 : plS x11 = true) :
    ∃ (rows' : List (List Nat)) (y6 y10 y11 : SV), (∀ r ∈ rows', Rw (N + 12) r) ∧ rows'.length = rows.length ∧ plS y6 = true ∧ plS y10 = true ∧ plS y11 = true ∧
      b1_law [.frz s0, .frz s1, .frz s2, .frz s3, .own G, x6, x7, .own (newL (rows.map wD)), .frz (.int (num : Int)), x10, x11, .dead, .dead, .dead, .dead, .dead] =
        some (.nx [.frz s0, .frz s1, .frz s2, .frz s3, .own G, y6, x7, .own (newL (rows'.map wD)), .frz (.int (num : Int)), y10, y11, .dead, .dead, .dead, .dead, .dead]) := by
  obtain ⟨idx, hidx⟩ : ∃ idx, idx = (List.range rows.length).filter fun k => decide (2 < (splitT 32 (rows.getD k [])).length) := ⟨_, rfl⟩
  have hna : noAlsB [.frz s0, .frz s1, .frz s2, .frz s3, .own G, x6, x7, .own (newL (rows.map wD)), .frz (.int (num : Int)), x10, x11, .dead, .dead, .dead, .dead, .dead] = true := by
    cases x6 <;> cases x7 <;> cases x10 <;> cases x11 <;> first | rfl | (exact Bool.noConfusion h6) | (exact Bool.noConfusion h7) | (exact Bool.noConfusion h10) | (exact Bool.noConfusion h11)
  have lr : oLen (newL (rows.map wD)) = some (.frz (.int (rows.length : Int))) := by rw [oLen_n, List.length_map]
  have it : itR (some [.frz (.int (rows.length : Int))]) = some ((List.range rows.length).map fun (i : Nat) => D.int i) := by
    rw [itR_i (by omega), rng_map, Int.toNat_natCast]
  have ixr : ∀ (k : Nat) (r : List Nat), rows[k]? = some r → ix2 (some (newL (rows.map wD))) (some (.frz (.int (k : Int)))) = some (.frz (wD r)) := fun k r h => ix2_nl (atI_get (by rw [List.getElem?_map, h]; rfl))
  have hc := lc1_fm (m := c0_law) (t := ct0_law) (g := gNm 5) (vs := [5]) (env := [.frz s0, .frz s1, .frz s2, .frz s3, .own G, x6, x7, .own (newL (rows.map wD)), .frz (.int (num : Int)), x10, x11, .dead, .dead, .dead, .dead, .dead]) (fun (i : Nat) => D.int i) (fun k => decide (2 < (splitT 32 (rows.getD k [])).length)) (fun (i : Nat) => .frz (.int (i : Int))) (List.range rows.length) hna (by rw [List.length_range]; omega) fun k hk => by
    have kl := List.mem_range.mp hk
    obtain ⟨r, hrk⟩ : ∃ r, rows[k]? = some r := ⟨_, List.getElem?_eq_getElem kl⟩
    have rr := hr r (List.mem_of_getElem? hrk)
    have gd : rows.getD k [] = r := by rw [List.getD_eq_getElem?_getD, hrk]; rfl
    have sp : oSplit (.frz (.str (tx r))) [.frz (.str (tx [32]))] = some (newL ((splitT 32 r).map wD)) := by
      have := rr.1
      rw [oSplit_s (by simp) (by simp; omega), split_tx 32 (by omega), strs_wD]
    have sp' : oM oSplit (some (.frz (wD r))) (some [.frz (.str (tx [32]))]) = some (newL ((splitT 32 r).map wD)) := by
      show oM oSplit (some (.frz (.str (tx r)))) _ = _
      rw [oM_s]
      exact sp
    have ix := ixr k r hrk
    have ln : oLen (.frz (.lst ((splitT 32 r).map wD))) = some (.frz (.int ((splitT 32 r).length : Int))) := by rw [oLen_l, List.length_map]
    have tS : (newL ((splitT 32 r).map wD)).toD = .lst ((splitT 32 r).map wD) := toD_newL
    refine ⟨[.frz s0, .frz s1, .frz s2, .frz s3, .own G, .frz (.int (k : Int)), x7, .own (newL (rows.map wD)), .frz (.int (num : Int)), x10, x11, .dead, .dead, .dead, .dead, .dead], ?_, ?_, fun _ => ?_⟩
    · generalize newL (rows.map wD) = A
      simp [h7, h10, h11]
    · rw [gd]
      generalize newL (rows.map wD) = A at *
      generalize newL ((splitT 32 r).map wD) = B at *
      generalize wD r = R at *
      rw [ct0_law]
      simp_arith [ix, VL.eOpM_c, bl_lit, sp', tS, ln]
    · generalize newL (rows.map wD) = A
      rw [c0_law]
      simp_arith [h7]
  rw [← hidx] at hc
  have e10 : frzE (eLcN (iR1 (eCons (frzE (eOpN (n1 oLen) (eCons (eVar 7) eNil))) eNil)) [5] (gNm 5) ct0_law c0_law) [.frz s0, .frz s1, .frz s2, .frz s3, .own G, x6, x7, .own (newL (rows.map wD)), .frz (.int (num : Int)), x10, x11, .dead, .dead, .dead, .dead, .dead] = some (.frz (.lst (idx.map fun (i : Nat) => D.int i))) := by
    have td : (O.lst (idx.map fun (i : Nat) => O.frz (.int (i : Int)))).toD = .lst (idx.map fun (i : Nat) => D.int i) := by
      rw [toD_lst, List.map_map]
      exact congrArg D.lst (List.map_congr_left fun z _ => toD_frz)
    rw [frzE_c, eLcN_c]
    have iv : iR1 (eCons (frzE (eOpN (n1 oLen) (eCons (eVar 7) eNil))) eNil) [.frz s0, .frz s1, .frz s2, .frz s3, .own G, x6, x7, .own (newL (rows.map wD)), .frz (.int (num : Int)), x10, x11, .dead, .dead, .dead, .dead, .dead] = some ((List.range rows.length).map fun (i : Nat) => D.int i) := by
      generalize newL (rows.map wD) = A at *
      simp only [iR1_c, eCons_c, frzE_c, eOpN_c, eVar_c, List.getElem?_cons_succ, List.getElem?_cons_zero, rdS_own, eNil_c, cons2_s, bN_s, n1_s, lr, fz1_s, toD_frz, it]
    rw [iv, hc, fz1_s, td]
  have t10 : sSet 9 (frzE (eLcN (iR1 (eCons (frzE (eOpN (n1 oLen) (eCons (eVar 7) eNil))) eNil)) [5] (gNm 5) ct0_law c0_law)) [.frz s0, .frz s1, .frz s2, .frz s3, .own G, x6, x7, .own (newL (rows.map wD)), .frz (.int (num : Int)), x10, x11, .dead, .dead, .dead, .dead, .dead] = some (.nx [.frz s0, .frz s1, .frz s2, .frz s3, .own G, x6, x7, .own (newL (rows.map wD)), .frz (.int (num : Int)), .frz (.lst (idx.map fun (i : Nat) => D.int i)), x11, .dead, .dead, .dead, .dead, .dead]) := by
    rw [sSet_c, e10]
    generalize newL (rows.map wD) = A
    generalize D.lst (idx.map fun (i : Nat) => D.int i) = W
    simp_arith [h6, io_pl h6, kS_p h6, nS_p h6, kP_p h6, h7, io_pl h7, kS_p h7, nS_p h7, kP_p h7, h10, io_pl h10, kS_p h10, nS_p h10, kP_p h10, h11, io_pl h11, kS_p h11, nS_p h11, kP_p h11]
  rw [b1_law, sSeq_c, t10, thS_n]
  by_cases hi : idx = []
  · refine ⟨rows, x6, .frz (.lst (idx.map fun (i : Nat) => D.int i)), x11, fun r h => (hr r h).mono (by omega), rfl, h6, rfl, h11, ?_⟩
    · have gn : gNe (.lst (idx.map fun (i : Nat) => D.int i)) (.lst []) = some (.bl false) := by rw [hi]; rfl
      generalize newL (rows.map wD) = A
      generalize D.lst (idx.map fun (i : Nat) => D.int i) = W at *
      simp_arith [gn]
  · have gn : gNe (.lst (idx.map fun (i : Nat) => D.int i)) (.lst []) = some (.bl true) := by
      cases idx with
      | nil => exact absurd rfl hi
      | cons z zs =>
        rw [List.map_cons]
        exact neC (n := 0) (PysOk.map (f := fun (x : Nat) => D.int (x : Int)) (xs := z :: zs) fun _ _ => .int)
    have il : 0 < idx.length := List.length_pos_iff.mpr hi
    obtain ⟨k, hk⟩ : ∃ k, idx[num / 7 % idx.length]? = some k := ⟨_, List.getElem?_eq_getElem (Nat.mod_lt _ il)⟩
    have km : k ∈ (List.range rows.length).filter fun k => decide (2 < (splitT 32 (rows.getD k [])).length) := by rw [← hidx]; exact List.mem_of_getElem? hk
    obtain ⟨k1, k2⟩ := List.mem_filter.mp km
    have kl := List.mem_range.mp k1
    obtain ⟨r, hrk⟩ : ∃ r, rows[k]? = some r := ⟨_, List.getElem?_eq_getElem kl⟩
    have gd : rows.getD k [] = r := by rw [List.getD_eq_getElem?_getD, hrk]; rfl
    rw [gd] at k2
    obtain ⟨r', g1, g2⟩ := ev_otherwiseB hN r (hr r (List.mem_of_getElem? hrk)) (by simpa using k2) (num / 640)
    have co : cl 2 f__law_otherwise (some [.frz (wD r), .frz (.int ((num / 640 : Nat) : Int))]) = some (.frz (wD r')) := cl2 g2
    have pn := putN_nl (rows.map wD) k (wD r') (by rw [List.length_map]; exact kl)
    rw [map_set_w] at pn
    have ixi : ix2 (some (.frz (.lst (idx.map fun (i : Nat) => D.int i)))) (some (.frz (.int ((num / 7 % idx.length : Nat) : Int)))) = some (.frz (.int (k : Int))) := ix2_l (atI_get (by rw [List.getElem?_map, hk]; rfl))
    have lni : oLen (.frz (.lst (idx.map fun (i : Nat) => D.int i))) = some (.frz (.int (idx.length : Int))) := by rw [oLen_l, List.length_map]
    have ix := ixr k r hrk
    have md : gMod (.int ((num / 7 : Nat) : Int)) (.int (idx.length : Int)) = some (.int ((num / 7 % idx.length : Nat) : Int)) := by
      rw [gMod_i (by omega)]
      rfl
    refine ⟨rows.set k r', x6, .frz (.lst (idx.map fun (i : Nat) => D.int i)), .frz (.int (k : Int)), set_rw (fun r h => (hr r h).mono (by omega)) k g1, by rw [List.length_set], h6, rfl, rfl, ?_⟩
    have t1 : tst (eOp2 (sc2 gNe) (eVar 9) (frzE (eLst eNil))) [.frz s0, .frz s1, .frz s2, .frz s3, .own G, x6, x7, .own (newL (rows.map wD)), .frz (.int (num : Int)), .frz (.lst (idx.map fun (i : Nat) => D.int i)), x11, .dead, .dead, .dead, .dead, .dead] = some true := by
      generalize newL (rows.map wD) = A
      generalize D.lst (idx.map fun (i : Nat) => D.int i) = W at *
      simp_arith [gn]
    have t2 : sSet 10 (takE (eIx (eVar 9) (frzE (eOp2 (sc2 gMod) (frzE (eOp2 (sc2 gDiv) (eVar 8) (eC (.int 7)))) (frzE (eOpN (n1 oLen) (eCons (eVar 9) eNil))))))) [.frz s0, .frz s1, .frz s2, .frz s3, .own G, x6, x7, .own (newL (rows.map wD)), .frz (.int (num : Int)), .frz (.lst (idx.map fun (i : Nat) => D.int i)), x11, .dead, .dead, .dead, .dead, .dead] = some (.nx [.frz s0, .frz s1, .frz s2, .frz s3, .own G, x6, x7, .own (newL (rows.map wD)), .frz (.int (num : Int)), .frz (.lst (idx.map fun (i : Nat) => D.int i)), .frz (.int (k : Int)), .dead, .dead, .dead, .dead, .dead]) := by
      generalize newL (rows.map wD) = A at *
      generalize D.lst (idx.map fun (i : Nat) => D.int i) = W at *
      rw [sSet_c]
      have e : takE (eIx (eVar 9) (frzE (eOp2 (sc2 gMod) (frzE (eOp2 (sc2 gDiv) (eVar 8) (eC (.int 7)))) (frzE (eOpN (n1 oLen) (eCons (eVar 9) eNil)))))) [.frz s0, .frz s1, .frz s2, .frz s3, .own G, x6, x7, .own A, .frz (.int (num : Int)), .frz W, x11, .dead, .dead, .dead, .dead, .dead] = some (.frz (.int (k : Int))) := by
        simp only [takE_c, eIx_c, frzE_c, eOp2_c, eVar_c, List.getElem?_cons_succ, List.getElem?_cons_zero, rdS_frz, eC_c, ap2_s, sc2_s, toD_frz, gDiv_i (show (0 : Int) < 7 ∧ (7 : Int) < 1073741824 by omega), zz_divl, fr_s, fz1_s, eOpN_c, eCons_c, eNil_c, cons2_s, bN_s, n1_s, lni, md, ixi, tk1_f]
      rw [e]
      simp_arith [h6, io_pl h6, kS_p h6, nS_p h6, kP_p h6, h7, io_pl h7, kS_p h7, nS_p h7, kP_p h7, h11, io_pl h11, kS_p h11, nS_p h11, kP_p h11]
    have t3 : sPut (qVar 7) (eVar 10) (eCall 2 f__law_otherwise (eCons (eIx (eVar 7) (eVar 10)) (eCons (frzE (eOp2 (sc2 gDiv) (eVar 8) (eC (.int 640)))) eNil))) [.frz s0, .frz s1, .frz s2, .frz s3, .own G, x6, x7, .own (newL (rows.map wD)), .frz (.int (num : Int)), .frz (.lst (idx.map fun (i : Nat) => D.int i)), .frz (.int (k : Int)), .dead, .dead, .dead, .dead, .dead] = some (.nx [.frz s0, .frz s1, .frz s2, .frz s3, .own G, x6, x7, .own (newL ((rows.set k r').map wD)), .frz (.int (num : Int)), .frz (.lst (idx.map fun (i : Nat) => D.int i)), .frz (.int (k : Int)), .dead, .dead, .dead, .dead, .dead]) := by
      refine (sPut_e (o := .frz (wD r')) (oi := .frz (.int (k : Int))) (rp := (7, [])) (n := newL (rows.map wD)) (n' := newL ((rows.set k r').map wD)) ?_ rfl rfl rfl (by rw [toD_frz]; exact pn)).trans ?_
      · generalize newL (rows.map wD) = A at *
        simp only [eCall_c, eCons_c, eIx_c, frzE_c, eOp2_c, eVar_c, List.getElem?_cons_succ, List.getElem?_cons_zero, rdS_frz, rdS_own, eC_c, ap2_s, sc2_s, toD_frz, gDiv_i (show (0 : Int) < 640 ∧ (640 : Int) < 1073741824 by omega), zz_divl, fr_s, fz1_s, eNil_c, cons2_s, ix, co]
      · generalize newL (rows.map wD) = A at *
        generalize newL ((rows.set k r').map wD) = A2 at *
        simp [h6, h7, io_pl h6, kS_p h6, nS_p h6, kP_p h6, io_pl h7, kS_p h7, nS_p h7, kP_p h7]
    rw [sIf_c, t1, if1_t, sSeq_c, t2, thS_n, t3]
/-- the loop over the rows spoilt -/
theorem wrB_loop (s0 s1 s2 s3 : D) (G : O) (rows : List (List Nat)) (hr : ∀ r ∈ rows, Rw 1000 r) (hl : rows.length ≤ 1000) (m n : Nat) (x6 x7 : SV) (h6 : plS x6 = true) (h7 : plS x7 = true) (b : Nat) (hb : b = 0 ∨ b = 1) :
    ∃ (rows' : List (List Nat)) (y6 y9 y10 y11 : SV), (∀ r ∈ rows', Rw 1024 r) ∧ rows'.length = rows.length ∧ plS y6 = true ∧ plS y9 = true ∧ plS y10 = true ∧ plS y11 = true ∧
      loop (gNm 8) b1_law (([D.int m, .int n] : List D).take (1 + b)) [.frz s0, .frz s1, .frz s2, .frz s3, .own G, x6, x7, .own (newL (rows.map wD)), .dead, .dead, .dead, .dead, .dead, .dead, .dead, .dead] =
        some (.nx [.frz s0, .frz s1, .frz s2, .frz s3, .own G, y6, x7, .own (newL (rows'.map wD)), y9, y10, y11, .dead, .dead, .dead, .dead, .dead]) := by
  obtain ⟨r1, y6, y10, y11, a1, a2, a3, a4, a5, a6⟩ := wrB_step (by omega) s0 s1 s2 s3 G rows hr hl m x6 x7 .dead .dead h6 h7 rfl rfl
  have g1 : gNm 8 (.frz (.int (m : Int))) [.frz s0, .frz s1, .frz s2, .frz s3, .own G, x6, x7, .own (newL (rows.map wD)), .dead, .dead, .dead, .dead, .dead, .dead, .dead, .dead] = some [.frz s0, .frz s1, .frz s2, .frz s3, .own G, x6, x7, .own (newL (rows.map wD)), .frz (.int (m : Int)), .dead, .dead, .dead, .dead, .dead, .dead, .dead] := by
    generalize newL (rows.map wD) = A
    simp [h6, h7]
  rcases hb with rfl | rfl
  · refine ⟨r1, y6, .frz (.int m), y10, y11, fun r h => (a1 r h).mono (by omega), a2, a3, rfl, a4, a5, ?_⟩
    show loop (gNm 8) b1_law [D.int m] _ = _
    rw [loop_cons, g1, bdE_s, a6, lp2_n, loop_nil]
  · obtain ⟨r2, z6, z10, z11, c1, c2, c3, c4, c5, c6⟩ := wrB_step (by omega) s0 s1 s2 s3 G r1 a1 (by omega) n y6 x7 y10 y11 a3 h7 a4 a5
    have g2 : gNm 8 (.frz (.int (n : Int))) [.frz s0, .frz s1, .frz s2, .frz s3, .own G, y6, x7, .own (newL (r1.map wD)), .frz (.int (m : Int)), y10, y11, .dead, .dead, .dead, .dead, .dead] = some [.frz s0, .frz s1, .frz s2, .frz s3, .own G, y6, x7, .own (newL (r1.map wD)), .frz (.int (n : Int)), y10, y11, .dead, .dead, .dead, .dead, .dead] := by
      generalize newL (r1.map wD) = A
      simp [a3, h7, a4, a5]
    refine ⟨r2, z6, .frz (.int n), z10, z11, fun r h => (c1 r h).mono (by omega), by omega, c3, rfl, c4, c5, ?_⟩
    show loop (gNm 8) b1_law [D.int m, D.int n] _ = _
    rw [loop_cons, g1, bdE_s, a6, lp2_n, loop_cons, g2, bdE_s, c6, lp2_n, loop_nil]
end Pt
namespace Pt
open PySem PySem.Spec PyProof.Rows L2 VL Mr
theorem nmB_name {w : List Nat} (h : nameT w) : nmB w = true := by
  obtain ⟨h1, h2, h3⟩ := h
  unfold nmB
  rw [List.all_eq_true.mpr fun c hc => decide_eq_true (letters c (h3 c hc).1 (h3 c hc).2)]
  simp
  omega
theorem nums_good : ∀ gs : List Nat, (∀ g ∈ gs, g < 1000000) → numsO (gs.map numT) = some gs
  | [], _ => rfl
  | g :: gs, h => by
    rw [List.map_cons, numsO, numO_t g (h g (by simp)), Option.bind_some, nums_good gs fun x hx => h x (by simp [hx])]
    rfl
theorem tolE_good {e : Ent} (h : e.ok) : tolE e.ws = some e := by
  cases e with
  | cs b t g =>
    show tolE [numT t, kwSc b, numT g] = _
    rw [tolE_3, numO_t t h.1, Option.bind_some, if_pos (by cases b <;> simp), if_pos rfl, numO_t g h.2]
    cases b <;> rfl
  | tp b t k gs =>
    obtain ⟨h1, h2, h3, h4, h5⟩ := h
    show tolE (numT t :: kwPc b :: k :: gs.map numT) = _
    rw [tolE_3, numO_t t h1, Option.bind_some, if_neg (by cases b <;> decide), if_pos (by cases b <;> simp), if_pos ⟨by simpa using h3, nmB_name h2⟩, nums_good gs h5]
    cases b <;> rfl
theorem rdE_good : ∀ {rs : List (List Nat)} {es : List Ent}, Rds rs es → ∀ (k : Nat) (acc : List Ent), rdE rs k acc = (none, acc ++ es)
  | _, _, .nil, k, acc => by rw [rdE]; simp
  | _, _, .skip hw _ t, k, acc => by
    rw [rdE, if_pos hw]
    exact rdE_good t (k + 1) acc
  | _, _, .take (e := e) hw _ ok t, k, acc => by
    have ne : e.ws ≠ [] := by cases e <;> simp [Ent.ws]
    rw [rdE, hw, if_neg ne, tolE_good ok]
    show rdE _ (k + 1) (acc ++ [e]) = _
    rw [rdE_good t (k + 1) (acc ++ [e])]
    simp
theorem rowT_rw {e : Ent} (h : e.ok) : (rowT e).length ≤ 200 ∧ 10 ∉ rowT e := by
  obtain ⟨h1, h2, _⟩ := ws_ok h
  have a := sum_le e.ws fun w hw => (h1 w hw).1
  have b := joinT_len 32 e.ws
  refine ⟨by unfold rowT; omega, fun z => ?_⟩
  rcases join_mem 32 e.ws 10 z with q | ⟨w, q1, q2⟩
  · omega
  · exact (h1 w q1).2.2.1 q2
theorem gbB_step (Z H1 N0 : D) (m : Nat) (acc : List (List Nat)) (k : Nat) (g : Ent) (hg : g.ok) (hk : k < 1000) (ha : acc.length < 100000) :
    ∃ rs : List (List Nat), (rs = [] ∨ rs = [[]]) ∧
      b0_law [.frz Z, .frz H1, .frz (.int m), .frz N0, .own (newL (acc.map wD)), .frz (.int k), .frz g.d, .dead, .dead, .dead, .dead, .dead, .dead, .dead, .dead, .dead] =
        some (.nx [.frz Z, .frz H1, .frz (.int m), .frz N0, .own (newL ((acc ++ rs ++ [rowT g]).map wD)), .frz (.int k), .frz g.d, .dead, .dead, .dead, .dead, .dead, .dead, .dead, .dead, .dead]) := by
  have cm := cl_mixN (m : Int) (k := ((k + 5 : Nat) : Int)) (k + 5) rfl (by omega)
  have cr := cl_lrow g hg
  obtain ⟨x, hx⟩ : ∃ x, x = mixN (m : Int) (k + 5) := ⟨_, rfl⟩
  rw [← hx] at cm
  generalize hA : newL (acc.map wD) = A
  generalize g.d = B at *
  have cut : ∃ rs : List (List Nat), (rs = [] ∨ rs = [[]]) ∧ cutA [D.str (Str.ofString ""), .str (Str.ofString " ")] none (some ((x % 6 / 4 : Nat) : Int)) = rs.map wD := by
    have hj : x % 6 / 4 = 0 ∨ x % 6 / 4 = 1 := by omega
    rcases hj with h | h
    · rw [h]; exact ⟨[], .inl rfl, rfl⟩
    · rw [h]
      refine ⟨[[]], .inr rfl, ?_⟩
      show [D.str (Str.ofString "")] = [wD []]
      rw [em_lit]
      rfl
  obtain ⟨rs, hrs, cut⟩ := cut
  refine ⟨rs, hrs, ?_⟩
  have e1 : oAdd A (.frz (.lst (rs.map wD))) = some (newL ((acc ++ rs).map wD)) := by
    rw [← hA, List.map_append]
    exact oAdd_nl (by rcases hrs with z | z <;> rw [z] <;> simp <;> omega)
  have e2 : aAppend (newL ((acc ++ rs).map wD)) [.frz (.str (tx (rowT g)))] = some (newL ((acc ++ rs ++ [rowT g]).map wD)) := by
    rw [List.map_append (l₂ := [rowT g])]
    exact aAppend_n (ds := (acc ++ rs).map wD) (d := wD (rowT g)) (by rcases hrs with z | z <;> rw [z] <;> simp <;> omega)
  have l2 : isLst (newL ((acc ++ rs).map wD)) = true := rfl
  have sA : slotOf (newL ((acc ++ rs).map wD)) = .own (newL ((acc ++ rs).map wD)) := rfl
  generalize newL ((acc ++ rs).map wD) = A2 at *
  generalize newL ((acc ++ rs ++ [rowT g]).map wD) = A3 at *
  have t1 : sSet 4 (eOp2 oAdd (eVar 4) (frzE (eSl (frzE (eLst (eCons (takE (eC (.str ""))) (eCons (takE (eC (.str " "))) eNil)))) noP (someP (frzE (eOp2 (sc2 gDiv) (frzE (eOp2 (sc2 gMod) (frzE (eCall 2 f__law_mix (eCons (eVar 2) (eCons (frzE (eOp2 oAdd (eVar 5) (eC (.int 5)))) eNil)))) (eC (.int 6)))) (eC (.int 4)))))))) [.frz Z, .frz H1, .frz (.int m), .frz N0, .own A, .frz (.int k), .frz B, .dead, .dead, .dead, .dead, .dead, .dead, .dead, .dead, .dead] = some (.nx [.frz Z, .frz H1, .frz (.int m), .frz N0, .own A2, .frz (.int k), .frz B, .dead, .dead, .dead, .dead, .dead, .dead, .dead, .dead, .dead]) := by
    simp_arith [cm, cut, e1, sA]
  have t2 : (eCons (eCall 1 f__law_entry_row (eCons (eVar 6) eNil)) eNil) [.frz Z, .frz H1, .frz (.int m), .frz N0, .own A2, .frz (.int k), .frz B, .dead, .dead, .dead, .dead, .dead, .dead, .dead, .dead, .dead] = some [.frz (.str (tx (rowT g)))] := by
    simp_arith [cr]
  rw [b0_law, sSeq_c, t1, thS_n, sAct_e (n := A2) (rp := (4, [])) (os := [.frz (.str (tx (rowT g)))]) (n' := A3) rfl rfl l2 t2 e2]
  simp_arith [e2]
abbrev enE (gs : List Ent) (k : Nat) : List D := (gs.zipIdx k).map fun p => D.tup [.int (p.2 : Int), p.1.d]
theorem gbB_loop (Z H1 N0 : D) (m : Nat) : ∀ (gs : List Ent) (k : Nat) (acc : List (List Nat)) (x6 x7 : SV), (∀ g ∈ gs, g.ok) → k + gs.length < 1000 → acc.length + 2 * gs.length < 100000 → plS x6 = true → plS x7 = true →
    ∃ (rs : List (List Nat)) (y6 y7 : SV), Rds rs gs ∧ (∀ r ∈ rs, r.length ≤ 1000 ∧ 10 ∉ r) ∧ rs.length ≤ 2 * gs.length ∧ plS y6 = true ∧ plS y7 = true ∧
      loop (gTp 2 (gCn (gNm 5) (gCn (gNm 6) gNl))) b0_law (enE gs k) [.frz Z, .frz H1, .frz (.int m), .frz N0, .own (newL (acc.map wD)), x6, x7, .dead, .dead, .dead, .dead, .dead, .dead, .dead, .dead, .dead] =
        some (.nx [.frz Z, .frz H1, .frz (.int m), .frz N0, .own (newL ((acc ++ rs).map wD)), y6, y7, .dead, .dead, .dead, .dead, .dead, .dead, .dead, .dead, .dead])
  | [], k, acc, x6, x7, _, _, _, h6, h7 => ⟨[], x6, x7, .nil, fun r hr => (by cases hr), by simp, h6, h7, by rw [List.append_nil]; exact loop_nil⟩
  | g :: gs, k, acc, x6, x7, hg, hk, ha, h6, h7 => by
    rw [List.length_cons] at hk ha
    have ok := hg g (by simp)
    obtain ⟨r1, hr1, e1⟩ := gbB_step Z H1 N0 m acc k g ok (by omega) (by omega)
    have l1 : r1.length ≤ 1 := by rcases hr1 with z | z <;> rw [z] <;> simp
    obtain ⟨rs, y6, y7, q1, q2, q3, q4, q5, e2⟩ := gbB_loop Z H1 N0 m gs (k + 1) (acc ++ r1 ++ [rowT g]) (.frz (.int k)) (.frz g.d) (fun x hx => hg x (by simp [hx])) (by omega) (by simp; omega) rfl rfl
    have gl := rowT_rw ok
    have tk : Rds (rowT g :: rs) (g :: gs) := .take (words_row ok) (by omega) ok q1
    refine ⟨r1 ++ rowT g :: rs, y6, y7, ?_, ?_, by simp; omega, q4, q5, ?_⟩
    · rcases hr1 with z | z
      · rw [z]; exact tk
      · rw [z]; exact .skip wordsT_nil (by simp) tk
    · intro r hr
      rcases List.mem_append.mp hr with z | z
      · rcases hr1 with y | y
        · rw [y] at z; cases z
        · rw [y] at z
          rw [List.mem_singleton.mp z]
          simp
      · rcases List.mem_cons.mp z with y | y
        · rw [y]; exact ⟨by omega, gl.2⟩
        · exact q2 r y
    · have tg : gTp 2 (gCn (gNm 5) (gCn (gNm 6) gNl)) (.frz (.tup [.int (k : Int), g.d])) [.frz Z, .frz H1, .frz (.int m), .frz N0, .own (newL (acc.map wD)), x6, x7, .dead, .dead, .dead, .dead, .dead, .dead, .dead, .dead, .dead] = some [.frz Z, .frz H1, .frz (.int m), .frz N0, .own (newL (acc.map wD)), .frz (.int k), .frz g.d, .dead, .dead, .dead, .dead, .dead, .dead, .dead, .dead, .dead] := by
        generalize newL (acc.map wD) = A
        generalize g.d = B
        simp [h6, h7]
      have e : enE (g :: gs) k = .tup [.int (k : Int), g.d] :: enE gs (k + 1) := by
        show List.map _ (List.zipIdx (g :: gs) k) = _
        rw [List.zipIdx_cons, List.map_cons]
      rw [e, loop_cons, tg, bdE_s, e1, lp2_n, e2]
      simp
def dueF : Option Nat → D
  | none => .non
  | some k => .tup [.int k, .str "row"]
theorem ev_lbread (rs : List (List Nat)) (hr : ∀ r ∈ rs, r.length ≤ 50000) (hn : rs.length < 100000) :
    f__law_read [.frz (.lst (rs.map wD))] = some (.frz (.tup [dueF (rdE rs 0 []).1, .lst ((rdE rs 0 []).2.map Ent.d)]), [.frz (.lst (rs.map wD))]) := by
  obtain ⟨r1, r2⟩ := lb_loop (.lst (rs.map wD)) rs 0 .dead .dead .dead .dead [] hr rfl rfl rfl rfl (by simpa using hn)
  have en : itE seqF (some [.frz (.lst (rs.map wD))]) = some (enW rs 0) := it_enum wD _
  generalize rdE rs 0 [] = R at *
  have t0 : sSet 1 (eLst eNil) [.frz (.lst (rs.map wD)), .dead, .dead, .dead, .dead, .dead, .dead] = some (.nx [.frz (.lst (rs.map wD)), .own (newL (([] : List Ent).map Ent.d)), .dead, .dead, .dead, .dead, .dead]) := by
    generalize D.lst (rs.map wD) = L
    simp [newL]
  have it : iE (eCons (eVar 0) eNil) [.frz (.lst (rs.map wD)), .own (newL (([] : List Ent).map Ent.d)), .dead, .dead, .dead, .dead, .dead] = some (enW rs 0) := by
    rw [← en]
    generalize D.lst (rs.map wD) = L
    simp only [iE_c, eCons_c, eVar_c, List.getElem?_cons_succ, List.getElem?_cons_zero, rdS_frz, eNil_c, cons2_s]
  have main : ∃ e, m__law_read [.frz (.lst (rs.map wD)), .dead, .dead, .dead, .dead, .dead, .dead] = some (.ret (.frz (.tup [dueF R.1, .lst (R.2.map Ent.d)])) e) := by
    rw [m__law_read, sSeq_c, t0, thS_n, sSeq_c, sFor_c, it, lp1_s]
    cases hR : R.1 with
    | none =>
      obtain ⟨y3, y4, y5, y6, g3, g4, g5, g6, e1⟩ := r1 hR
      rw [e1, thS_n]
      have tA : (newL (R.2.map Ent.d)).toD = .lst (R.2.map Ent.d) := toD_newL
      generalize newL (R.2.map Ent.d) = A at *
      generalize D.lst (R.2.map Ent.d) = AD at *
      generalize D.lst (rs.map wD) = L
      rw [dueF]
      apply Exists.intro
      simp_arith [tA, g3, g4, g5, g6, io_pl g3, kS_p g3, nS_p g3, kP_p g3, io_pl g4, kS_p g4, nS_p g4, kP_p g4, io_pl g5, kS_p g5, nS_p g5, kP_p g5, io_pl g6, kS_p g6, nS_p g6, kP_p g6]
      rfl
    | some k =>
      obtain ⟨e, e1⟩ := r2 k hR
      rw [e1, thS_r]
      exact ⟨_, rfl⟩
  obtain ⟨e, he⟩ := main
  exact fn1 (e := e) he
theorem rb_text (t : List Nat) (hl : t.length ≤ 10000000) (hr : ∀ r ∈ splitT 10 t, r.length ≤ 50000) (hn : (splitT 10 t).length < 100000) :
    ((rdE (splitT 10 t) 0 []).1 = none → f_read_book [.frz (.str (tx t))] = some (newL ((rdE (splitT 10 t) 0 []).2.map Ent.d), [.frz (.str (tx t))]) ∧ x_read_book [.frz (.str (tx t))] = none) ∧
    ∀ k, (rdE (splitT 10 t) 0 []).1 = some k → x_read_book [.frz (.str (tx t))] = some (exPW "BadBook" k "row") := by
  obtain ⟨r1, r2⟩ := rbk_loop (.str (tx t)) (splitT 10 t) 0 .dead .dead .dead .dead [] hr rfl rfl rfl rfl (by simpa using hn)
  have sp : oSplit (.frz (.str (tx t))) [.frz (.str (tx [10]))] = some (newL ((splitT 10 t).map wD)) := by
    rw [oSplit_s (by simp) (by simp; omega), split_tx 10 (by omega), strs_wD]
  have ie : itE seqF (some [.frz (.lst ((splitT 10 t).map wD))]) = some (enW (splitT 10 t) 0) := it_enum wD _
  generalize rdE (splitT 10 t) 0 [] = R at *
  have s0 : sSet 1 (eLst eNil) [.frz (.str (tx t)), .dead, .dead, .dead, .dead, .dead] = some (.nx [.frz (.str (tx t)), .own (newL (([] : List Ent).map Ent.d)), .dead, .dead, .dead, .dead]) := by
    simp [newL]
  have it : iE (eCons (frzE (eOpM oSplit (eVar 0) (eCons (eC (.str "\n")) eNil))) eNil) [.frz (.str (tx t)), .own (newL (([] : List Ent).map Ent.d)), .dead, .dead, .dead, .dead] = some (enW (splitT 10 t) 0) := by
    generalize newL (([] : List Ent).map Ent.d) = A
    simp only [iE_c, eCons_c, frzE_c, eOpM_c, eVar_c, List.getElem?_cons_succ, List.getElem?_cons_zero, rdS_frz, eC_c, nl_lit, eNil_c, cons2_s, oM_s, sp, fz1_s, toD_newL, ie]
  refine ⟨fun hR => ?_, fun k hR => ?_⟩
  · obtain ⟨⟨y3, y4, y5, y6, g3, g4, g5, g6, e1⟩, e2⟩ := r1 hR
    have s1 : sFor (iE (eCons (frzE (eOpM oSplit (eVar 0) (eCons (eC (.str "\n")) eNil))) eNil)) (gTp 2 (gCn (gNm 2) (gCn (gNm 3) gNl))) b0_read_book [.frz (.str (tx t)), .own (newL (([] : List Ent).map Ent.d)), .dead, .dead, .dead, .dead] = some (.nx [.frz (.str (tx t)), .own (newL (R.2.map Ent.d)), y3, y4, y5, y6]) := by
      rw [sFor_c, it, lp1_s]
      exact e1
    refine ⟨?_, ?_⟩
    · refine fn1 (e := [.frz (.str (tx t)), .dead, kS 1 y3, kS 1 y4, kS 1 y5, kS 1 y6]) ?_
      show m_read_book [.frz (.str (tx t)), .dead, .dead, .dead, .dead, .dead] = _
      have s3 : sRetV 1 [.frz (.str (tx t)), .own (newL (R.2.map Ent.d)), y3, y4, y5, y6] = some (.ret (newL (R.2.map Ent.d)) [.frz (.str (tx t)), .dead, kS 1 y3, kS 1 y4, kS 1 y5, kS 1 y6]) := by
        show some (Out.ret _ ((killA 1 [.frz (.str (tx t)), .own (newL (R.2.map Ent.d)), y3, y4, y5, y6]).set 1 .dead)) = _
        simp
      rw [m_read_book, sSeq_c, s0, thS_n, sSeq_c, s1, thS_n, s3]
    · show q_read_book [.frz (.str (tx t)), .dead, .dead, .dead, .dead, .dead] = _
      rw [q_read_book, rSeq_no s0, rSeq_n ?_ s1]
      · rfl
      · rw [rFor_s it]; exact e2
  · show q_read_book [.frz (.str (tx t)), .dead, .dead, .dead, .dead, .dead] = _
    rw [q_read_book, rSeq_no s0, rSeq_x]
    rw [rFor_s it]
    exact r2 k hR
theorem rdE_sj (rows : List (List Nat)) (h : ∀ r ∈ rows, 10 ∉ r) : rdE (splitT 10 (joinT 10 rows)) 0 [] = rdE rows 0 [] := by
  by_cases hr : rows = []
  · subst hr; rfl
  · rw [splitT_join 10 rows hr h]
end Pt
namespace Pt
open PySem PySem.Spec PyProof.Rows L2 VL Mr
def glE : Ent → Nat
  | .cs _ _ _ => 0
  | .tp _ _ _ gs => gs.length
theorem Ent.plG {e : Ent} (h : glE e ≤ 60000) : Pl 2 e.d := by
  cases e with
  | cs b t g =>
    refine .tup (by simp) fun d hd => ?_
    simp only [List.mem_cons, List.not_mem_nil, or_false] at hd
    rcases hd with rfl | rfl | rfl
    · exact .str
    · exact .int
    · exact .int
  | tp b t k gs =>
    refine .tup (by simp) fun d hd => ?_
    simp only [List.mem_cons, List.not_mem_nil, or_false] at hd
    rcases hd with rfl | rfl | rfl | rfl
    · exact .str
    · exact .int
    · exact .str
    · refine .tup (by rw [List.length_map]; have h : gs.length ≤ 60000 := h; omega) fun d hd => ?_
      obtain ⟨g, _, rfl⟩ := List.mem_map.mp hd
      exact .int
theorem tolE_gl {ws : List (List Nat)} {e : Ent} (h : tolE ws = some e) (hl : ws.length ≤ 60000) : glE e ≤ 60000 := by
  by_cases h3 : ws.length < 3
  · rw [tolE_short h3] at h; cases h
  · obtain ⟨a, b, c, r, rfl⟩ := three h3
    rw [tolE_3] at h
    obtain ⟨t, _, h⟩ := Option.bind_eq_some_iff.mp h
    split at h
    · split at h
      · obtain ⟨g, _, rfl⟩ := Option.map_eq_some_iff.mp h
        exact Nat.zero_le _
      · cases h
    · split at h
      · split at h
        · obtain ⟨gs, q, rfl⟩ := Option.map_eq_some_iff.mp h
          rcases nums_cases r with ⟨x1, _⟩ | ⟨gs', x1, _, _, x4⟩
          · rw [x1] at q; cases q
          · rw [x1] at q
            cases q
            show gs.length ≤ 60000
            simp at hl
            omega
        · cases h
      · cases h
theorem rdE_gl : ∀ (rs : List (List Nat)) (k : Nat) (acc : List Ent), (∀ r ∈ rs, r.length ≤ 50000) → (∀ e ∈ acc, glE e ≤ 60000) → (∀ e ∈ (rdE rs k acc).2, glE e ≤ 60000) ∧ (rdE rs k acc).2.length ≤ acc.length + rs.length
  | [], _, acc, _, h => ⟨h, by simp [rdE]⟩
  | r :: rs, k, acc, hb, h => by
    rw [rdE]
    split
    · obtain ⟨a, b⟩ := rdE_gl rs (k + 1) acc (fun c hc => hb c (by simp [hc])) h
      exact ⟨a, by simp; omega⟩
    · split
      · exact ⟨h, by simp⟩
      · rename_i e q
        obtain ⟨a, b⟩ := rdE_gl rs (k + 1) (acc ++ [e]) (fun c hc => hb c (by simp [hc])) fun x hx => by
          rcases List.mem_append.mp hx with z | z
          · exact h x z
          · rw [List.mem_singleton.mp z]
            exact tolE_gl q (wordsT_cnt r (hb r (by simp)))
        exact ⟨a, by simp at b ⊢; omega⟩
theorem bk_pl {es : List Ent} (h : ∀ e ∈ es, glE e ≤ 60000) (hl : es.length ≤ 100000) : Pl 5 (.lst (es.map Ent.d)) := by
  refine .lst (by rw [List.length_map]; omega) fun d hd => ?_
  obtain ⟨e, he, rfl⟩ := List.mem_map.mp hd
  exact (Ent.plG (h e he)).mono (by omega)
theorem len_sumB (n : Nat) : ∀ ws : List (List Nat), (∀ w ∈ ws, w.length ≤ n) → (ws.map List.length).sum ≤ n * ws.length
  | [], _ => by simp
  | w :: ws, h => by
    have a := h w (by simp)
    have b := len_sumB n ws fun x hx => h x (by simp [hx])
    simp only [List.map_cons, List.sum_cons, List.length_cons, Nat.mul_add, Nat.mul_one]
    omega
theorem plain44 (ns : List Int) : ∃ o svs, f_law [.frz (.scr ns)] = some (o, svs) ∧ o.toD = .bl true := by
  obtain ⟨po, cp, hp⟩ := cl_plant ns
  obtain ⟨P, hP⟩ : ∃ P, P = plantOf ns := ⟨_, rfl⟩
  rw [← hP] at hp
  obtain ⟨m, hm⟩ : ∃ m, m = mixN (cellAt ns 3) 7 := ⟨_, rfl⟩
  obtain ⟨n, hn⟩ : ∃ n, n = mixN (cellAt ns 4) 8 := ⟨_, rfl⟩
  obtain ⟨dk1, dk2, dk3⟩ := deskNames_ok ns (m : Int)
  rw [← hP] at dk1 dk2 dk3
  obtain ⟨cs, hcs⟩ : ∃ cs, cs = (ns.drop 5).take 58 := ⟨_, rfl⟩
  have csl : cs.length ≤ 58 := by rw [hcs, List.length_take]; omega
  obtain ⟨gs, hgs⟩ : ∃ gs, gs = entsT (deskNames P (m : Int)) 0 cs := ⟨_, rfl⟩
  have gsl : gs.length = cs.length := by rw [hgs, ents_len]
  have dok : ∀ e ∈ gs, e.ok := by rw [hgs]; exact ents_ok _ dk1 dk2 0 cs
  have cg := cl_entries cs P (m : Int) (by omega) (by omega)
  rw [← hgs] at cg
  have c3 : cl 2 f__law_cell_at (some [.frz (.scr ns), .frz (.int 3)]) = some (.frz (.int (cellAt ns 3))) := cl_cell ns 3
  have c4 : cl 2 f__law_cell_at (some [.frz (.scr ns), .frz (.int 4)]) = some (.frz (.int (cellAt ns 4))) := cl_cell ns 4
  have c7 := cl_mixN (cellAt ns 3) (k := 7) 7 rfl (by omega)
  have c8 := cl_mixN (cellAt ns 4) (k := 8) 8 rfl (by omega)
  rw [← hm] at c7
  rw [← hn] at c8
  have cut : cutA (ns.map D.int) (some 5) (some 63) = cs.map D.int := by
    have := cut_ft (ns.map D.int) 5 63
    rw [hcs, List.map_take, List.map_drop]
    exact this
  obtain ⟨rs, y6, y7, q1, q2, q3, q4, q5, lp⟩ := gbB_loop (.scr ns) P.d (.int n) m gs 0 [] .dead .dead dok (by omega) (by simp; omega) rfl rfl
  have rsl : rs.length ≤ 116 := by omega
  obtain ⟨rows, z6, z9, z10, z11, w1, w2, w3, w4, w5, w6, wl⟩ := wrB_loop (.scr ns) P.d (.int m) (.int n) (newL (rs.map wD)) rs (fun r h => q2 r h) (by omega) m n y6 y7 q4 q5 (n / 3 % 2) (by omega)
  have lr := ev_lbread rows (fun r h => by have := (w1 r h).1; omega) (by omega)
  have lg := ev_lbread rs (fun r h => by have := (q2 r h).1; omega) (by omega)
  have tl : (joinT 10 rows).length ≤ 10000000 := by
    have a := len_sumB 1024 rows fun w hw => (w1 w hw).1
    have b := joinT_len 10 rows
    have c : 1024 * rows.length ≤ 1024 * 116 := Nat.mul_le_mul_left _ (by omega)
    omega
  have tlg : (joinT 10 rs).length ≤ 10000000 := by
    have a := len_sumB 1000 rs fun w hw => (q2 w hw).1
    have b := joinT_len 10 rs
    have c : 1000 * rs.length ≤ 1000 * 116 := Nat.mul_le_mul_left _ (by omega)
    omega
  have sl : ∀ {N : Nat} {ws : List (List Nat)}, N ≤ 50000 → ws.length ≤ 116 → (∀ r ∈ ws, Rw N r) → (∀ r ∈ splitT 10 (joinT 10 ws), r.length ≤ 50000) ∧ (splitT 10 (joinT 10 ws)).length < 100000 := fun {N ws} hN hl h => by
    by_cases z : ws = []
    · subst z
      exact ⟨fun r hr => by simp [joinT, splitT] at hr; rw [hr]; simp, by simp [joinT, splitT]⟩
    · rw [splitT_join 10 ws z fun r hr => (h r hr).2]
      exact ⟨fun r hr => by have := (h r hr).1; omega, by omega⟩
  obtain ⟨l1, l2⟩ := sl (by omega) (by omega) w1
  obtain ⟨l3, l4⟩ := sl (N := 1000) (by omega) rsl fun r h => q2 r h
  obtain ⟨e1, e3⟩ := rb_text (joinT 10 rows) tl l1 l2
  obtain ⟨g1, _⟩ := rb_text (joinT 10 rs) tlg l3 l4
  rw [rdE_sj rows fun r h => (w1 r h).2] at e1 e3
  rw [rdE_sj rs fun r h => (q2 r h).2] at g1
  have gR := rdE_good q1 0 []
  rw [List.nil_append] at gR
  rw [gR] at g1 lg
  obtain ⟨rdg, _⟩ := g1 rfl
  obtain ⟨rg, rl⟩ := rdE_gl rows 0 [] (fun r h => by have := (w1 r h).1; omega) (fun e h => by cases h)
  rw [List.length_nil, Nat.zero_add] at rl
  generalize rdE rows 0 [] = R at *
  have cL : cl 1 f__law_read (some [.frz (.lst (rows.map wD))]) = some (.frz (.tup [dueF R.1, .lst (R.2.map Ent.d)])) := cl1 lr
  have cG : ∃ x, cl 1 f__law_read (some [.frz (.lst (rs.map wD))]) = some (.frz (.tup [x, .lst (gs.map Ent.d)])) := ⟨_, cl1 lg⟩
  obtain ⟨gx, cG⟩ := cG
  have jr : oJoin (.frz (.str (tx [10]))) [newL (rows.map wD)] = some (.frz (.str (tx (joinT 10 rows)))) := (oJoin_eq (oStrs_n _)).trans (join_wD 10 rows (by
    have a := len_sumB 1024 rows fun w hw => (w1 w hw).1
    have c : 1024 * rows.length ≤ 1024 * 116 := Nat.mul_le_mul_left _ (by omega)
    omega))
  have jg : oJoin (.frz (.str (tx [10]))) [newL (rs.map wD)] = some (.frz (.str (tx (joinT 10 rs)))) := (oJoin_eq (oStrs_n _)).trans (join_wD 10 rs (by
    have a := len_sumB 1000 rs fun w hw => (q2 w hw).1
    have c : 1000 * rs.length ≤ 1000 * 116 := Nat.mul_le_mul_left _ (by omega)
    omega))
  have aR : cl 2 f__law_alike (some [.frz (.lst (R.2.map Ent.d)), .frz (.lst (R.2.map Ent.d))]) = some (.frz (.bl true)) := cl_alike (bk_pl rg (by omega))
  have aG : cl 2 f__law_alike (some [.frz (.lst (gs.map Ent.d)), .frz (.lst (gs.map Ent.d))]) = some (.frz (.bl true)) := cl_alike (bk_pl (fun e h => by
    have := dok e h
    cases e with
    | cs => exact Nat.zero_le _
    | tp b t k g => have := this.2.2.2.1; show g.length ≤ 60000; omega) (by omega))
  have cRG : cl 1 f_read_book (some [.frz (.str (tx (joinT 10 rs)))]) = some (newL (gs.map Ent.d)) := cl1 rdg
  have olG : oList (newL (rs.map wD)) = some (newL (rs.map wD)) := oList_nl
  have tG : (newL (rs.map wD)).toD = .lst (rs.map wD) := toD_newL
  have tR : (newL (rows.map wD)).toD = .lst (rows.map wD) := toD_newL
  have tRG : (newL (gs.map Ent.d)).toD = .lst (gs.map Ent.d) := toD_newL
  have itG : itE seqF (some [.frz (bookD gs)]) = some (enE gs 0) := it_enum Ent.d gs
  have cRR : (R.1 = none → cl 1 f_read_book (some [.frz (.str (tx (joinT 10 rows)))]) = some (newL (R.2.map Ent.d)) ∧ x_read_book [.frz (.str (tx (joinT 10 rows)))] = none) := fun h1 => ⟨cl1 (e1 h1).1, (e1 h1).2⟩
  have tRR : (newL (R.2.map Ent.d)).toD = .lst (R.2.map Ent.d) := toD_newL
  clear lr lg g1 e1 gR rdg w1 q2 l1 l2 l3 l4 sl
  have cut2 : cutA [D.int (m : Int), .int (n : Int)] none (some ((1 + n / 3 % 2 : Nat) : Int)) = [D.int (m : Int), .int (n : Int)].take (1 + n / 3 % 2) := cut_to _ _
  have h4 : (u0_law [.frz (.scr ns), .dead, .dead, .dead, .dead, .dead, .dead, .dead, .dead, .dead, .dead, .dead, .dead, .dead, .dead, .dead] = some (.nx [.frz (.scr ns), .frz P.d, .dead, .dead, .dead, .dead, .dead, .dead, .dead, .dead, .dead, .dead, .dead, .dead, .dead, .dead])) ∧ (u1_law [.frz (.scr ns), .frz P.d, .dead, .dead, .dead, .dead, .dead, .dead, .dead, .dead, .dead, .dead, .dead, .dead, .dead, .dead] = some (.nx [.frz (.scr ns), .frz P.d, .frz (.int m), .frz (.int n), .dead, .dead, .dead, .dead, .dead, .dead, .dead, .dead, .dead, .dead, .dead, .dead])) ∧ (u2_law [.frz (.scr ns), .frz P.d, .frz (.int m), .frz (.int n), .dead, .dead, .dead, .dead, .dead, .dead, .dead, .dead, .dead, .dead, .dead, .dead] = some (.nx [.frz (.scr ns), .frz P.d, .frz (.int m), .frz (.int n), .own (newL (([] : List (List Nat)).map wD)), .dead, .dead, .dead, .dead, .dead, .dead, .dead, .dead, .dead, .dead, .dead])) ∧ (iE (eCons (frzE (eCall 3 f__law_entries (eCons (frzE (eSl (eVar 0) (someP (eC (.int 5))) (someP (eC (.int 63))))) (eCons (eVar 1) (eCons (eVar 2) eNil))))) eNil) [.frz (.scr ns), .frz P.d, .frz (.int m), .frz (.int n), .own (newL (([] : List (List Nat)).map wD)), .dead, .dead, .dead, .dead, .dead, .dead, .dead, .dead, .dead, .dead, .dead] = some (enE gs 0)) := by
    generalize P.d = D1 at *
    generalize bookD gs = DG at *
    refine ⟨?_, ?_, ?_, ?_⟩
    · rw [u0_law]; simp_arith [cp, hp]
    · rw [u1_law]; simp_arith [c3, c4, c7, c8]
    · rw [u2_law]; simp [newL]
    · generalize newL (([] : List (List Nat)).map wD) = A
      simp_arith [cut, cg, itG]
  obtain ⟨t0, t1, t2, i4⟩ := h4
  have t4 : u3_law [.frz (.scr ns), .frz P.d, .frz (.int m), .frz (.int n), .own (newL (([] : List (List Nat)).map wD)), .dead, .dead, .dead, .dead, .dead, .dead, .dead, .dead, .dead, .dead, .dead] = some (.nx [.frz (.scr ns), .frz P.d, .frz (.int m), .frz (.int n), .own (newL (rs.map wD)), y6, y7, .dead, .dead, .dead, .dead, .dead, .dead, .dead, .dead, .dead]) := by
    rw [u3_law, sFor_c, i4, lp1_s]
    exact lp
  have t5 : u4_law [.frz (.scr ns), .frz P.d, .frz (.int m), .frz (.int n), .own (newL (rs.map wD)), y6, y7, .dead, .dead, .dead, .dead, .dead, .dead, .dead, .dead, .dead] = some (.nx [.frz (.scr ns), .frz P.d, .frz (.int m), .frz (.int n), .own (newL (rs.map wD)), y6, y7, .own (newL (rs.map wD)), .dead, .dead, .dead, .dead, .dead, .dead, .dead, .dead]) := by
    have sA : slotOf (newL (rs.map wD)) = .own (newL (rs.map wD)) := rfl
    rw [u4_law]
    generalize newL (rs.map wD) = A at *
    generalize P.d = D1 at *
    simp_arith [olG, sA, q4, io_pl q4, kS_p q4, nS_p q4, kP_p q4, q5, io_pl q5, kS_p q5, nS_p q5, kP_p q5]
  have t6 : u5_law [.frz (.scr ns), .frz P.d, .frz (.int m), .frz (.int n), .own (newL (rs.map wD)), y6, y7, .own (newL (rs.map wD)), .dead, .dead, .dead, .dead, .dead, .dead, .dead, .dead] = some (.nx [.frz (.scr ns), .frz P.d, .frz (.int m), .frz (.int n), .own (newL (rs.map wD)), z6, y7, .own (newL (rows.map wD)), z9, z10, z11, .dead, .dead, .dead, .dead, .dead]) := by
    have it : iLT (frzE (eSl (frzE (eLst (eCons (takE (eVar 2)) (eCons (takE (eVar 3)) eNil)))) noP (someP (frzE (eOp2 oAdd (eC (.int 1)) (frzE (eOp2 (sc2 gMod) (frzE (eOp2 (sc2 gDiv) (eVar 3) (eC (.int 3)))) (eC (.int 2))))))))) [.frz (.scr ns), .frz P.d, .frz (.int m), .frz (.int n), .own (newL (rs.map wD)), y6, y7, .own (newL (rs.map wD)), .dead, .dead, .dead, .dead, .dead, .dead, .dead, .dead] = some ([D.int (m : Int), .int (n : Int)].take (1 + n / 3 % 2)) := by
      generalize newL (rs.map wD) = A at *
      generalize P.d = D1 at *
      simp_arith [cut2]
    rw [u5_law, sFor_c, it, lp1_s]
    exact wl
  have t7 : u6_law [.frz (.scr ns), .frz P.d, .frz (.int m), .frz (.int n), .own (newL (rs.map wD)), z6, y7, .own (newL (rows.map wD)), z9, z10, z11, .dead, .dead, .dead, .dead, .dead] = some (.nx [.frz (.scr ns), .frz P.d, .frz (.int m), .frz (.int n), .frz (.lst (rs.map wD)), z6, y7, .frz (.lst (rows.map wD)), z9, z10, z11, .frz (dueF R.1), .frz (.lst (R.2.map Ent.d)), .dead, .dead, .dead]) := by
    rw [u6_law]
    clear lp wl t0 t1 t2 i4 t4 t5 t6 cRR jr jg aG cRG olG tRG itG cut2 tRR aR cG
    generalize newL (rs.map wD) = A at *
    generalize newL (rows.map wD) = B at *
    generalize D.lst (rows.map wD) = BD at *
    generalize D.lst (rs.map wD) = AD at *
    generalize D.lst (R.2.map Ent.d) = RD at *
    generalize P.d = D1 at *
    generalize dueF R.1 = DD at *
    simp_arith [cL, tG, tR, w3, io_pl w3, kS_p w3, nS_p w3, kP_p w3, w4, io_pl w4, kS_p w4, nS_p w4, kP_p w4, w5, io_pl w5, kS_p w5, nS_p w5, kP_p w5, w6, io_pl w6, kS_p w6, nS_p w6, kP_p w6, q5, io_pl q5, kS_p q5, nS_p q5, kP_p q5]
  have jrD : oM oJoin (some (.frz (.str (tx [10])))) (some [.frz (.lst (rows.map wD))]) = some (.frz (.str (tx (joinT 10 rows)))) := by rw [oM_s]; exact (oJoin_eq (oStrs_n _)).symm.trans jr
  have jgD : oM oJoin (some (.frz (.str (tx [10])))) (some [.frz (.lst (rs.map wD))]) = some (.frz (.str (tx (joinT 10 rs)))) := by rw [oM_s]; exact (oJoin_eq (oStrs_n _)).symm.trans jg
  clear lp wl jr jg olG cut2 cp hp c3 c4 c7 c8 cut cg itG
  generalize tx (joinT 10 rows) = TX at *
  generalize tx (joinT 10 rs) = TG at *
  have main : ∃ e, m_law [.frz (.scr ns), .dead, .dead, .dead, .dead, .dead, .dead, .dead, .dead, .dead, .dead, .dead, .dead, .dead, .dead, .dead] = some (.ret (.frz (.bl true)) e) := by
    rw [m_law, sSeq_c, t0, thS_n, sSeq_c, t1, thS_n, sSeq_c, t2, thS_n, sSeq_c, t4, thS_n, sSeq_c, t5, thS_n, sSeq_c, t6, thS_n, sSeq_c, t7, thS_n]
    clear t0 t1 t2 i4 t4 t5 t6 t7
    generalize newL (rs.map wD) = A at *
    generalize newL (rows.map wD) = B at *
    generalize D.lst (rows.map wD) = BD at *
    generalize D.lst (rs.map wD) = AD at *
    generalize newL (R.2.map Ent.d) = RN at *
    generalize D.lst (R.2.map Ent.d) = RD at *
    generalize newL (gs.map Ent.d) = GN at *
    generalize D.lst (gs.map Ent.d) = GD at *
    generalize P.d = D1 at *
    have t8 : u7_law [.frz (.scr ns), .frz D1, .frz (.int m), .frz (.int n), .frz AD, z6, y7, .frz BD, z9, z10, z11, .frz (dueF R.1), .frz RD, .dead, .dead, .dead] = some (.nx [.frz (.scr ns), .frz D1, .frz (.int m), .frz (.int n), .frz AD, z6, y7, .frz BD, z9, z10, z11, .frz (dueF R.1), .frz RD, .frz .non, .frz .non, .dead]) := by
      rw [u7_law]
      generalize dueF R.1 = DD at *
      simp_arith [w3, io_pl w3, kS_p w3, nS_p w3, kP_p w3, w4, io_pl w4, kS_p w4, nS_p w4, kP_p w4, w5, io_pl w5, kS_p w5, nS_p w5, kP_p w5, w6, io_pl w6, kS_p w6, nS_p w6, kP_p w6, q5, io_pl q5, kS_p q5, nS_p q5, kP_p q5]
    rw [sSeq_c, t8, thS_n]
    have e9 : (eCons (frzE (eOpM oJoin (eC (.str "\n")) (eCons (eVar 7) eNil))) eNil) [.frz (.scr ns), .frz D1, .frz (.int m), .frz (.int n), .frz AD, z6, y7, .frz BD, z9, z10, z11, .frz (dueF R.1), .frz RD, .frz .non, .frz .non, .dead] = some [.frz (.str TX)] := by
      generalize dueF R.1 = DD at *
      simp_arith [VL.eOpM_c, nl_lit, jrD]
    cases hR : R.1 with
    | some k =>
      have hx := e3 k hR
      rw [hR, dueF] at e9
      rw [dueF]
      have crf : cl 2 f__law_is_refused (some [.frz (exPD "BadBook" k "row"), .frz (.tup [.int k, .str "row"])]) = some (.frz (.bl true)) :=
        cl_imm rfl (by rw [List.map_cons, List.map_cons, List.map_nil, toD_frz, toD_frz]; exact ev_refused k "row") rfl
      have t9 : u8_law [.frz (.scr ns), .frz D1, .frz (.int m), .frz (.int n), .frz AD, z6, y7, .frz BD, z9, z10, z11, .frz (.tup [.int k, .str "row"]), .frz RD, .frz .non, .frz .non, .dead] = some (.nx [.frz (.scr ns), .frz D1, .frz (.int m), .frz (.int n), .frz AD, z6, y7, .frz BD, z9, z10, z11, .frz (.tup [.int k, .str "row"]), .frz RD, .frz .non, .frz (exPD "BadBook" k "row"), .dead]) := by
        rw [u8_law]
        have r9 := rCall_s (np := 1) e9 rfl (by rw [List.map_cons, List.map_nil, toD_frz]; exact hx) rfl
        refine sTry_x (e := [.frz (.scr ns), .frz D1, .frz (.int m), .frz (.int n), .frz AD, z6, y7, .frz BD, z9, z10, z11, .frz (.tup [.int k, .str "row"]), .frz RD, .frz .non, .frz .non, .frz (exPD "BadBook" k "row")]) (e2 := [.frz (.scr ns), .frz D1, .frz (.int m), .frz (.int n), .frz AD, z6, y7, .frz BD, z9, z10, z11, .frz (.tup [.int k, .str "row"]), .frz RD, .frz .non, .frz (exPD "BadBook" k "row"), .frz (exPD "BadBook" k "row")]) r9 ex_BadBook (by simp) ?_ ?_ ?_
        · show setS _ 15 (.frz (exPD "BadBook" k "row")) = _
          generalize exPD "BadBook" k "row" = X
          simp_arith [w3, io_pl w3, kS_p w3, nS_p w3, kP_p w3, w4, io_pl w4, kS_p w4, nS_p w4, kP_p w4, w5, io_pl w5, kS_p w5, nS_p w5, kP_p w5, w6, io_pl w6, kS_p w6, nS_p w6, kP_p w6, q5, io_pl q5, kS_p q5, nS_p q5, kP_p q5]
        · generalize exPD "BadBook" k "row" = X
          simp_arith [w3, io_pl w3, kS_p w3, nS_p w3, kP_p w3, w4, io_pl w4, kS_p w4, nS_p w4, kP_p w4, w5, io_pl w5, kS_p w5, nS_p w5, kP_p w5, w6, io_pl w6, kS_p w6, nS_p w6, kP_p w6, q5, io_pl q5, kS_p q5, nS_p q5, kP_p q5]
        · generalize exPD "BadBook" k "row" = X
          unfold delS
          simp_arith [w3, io_pl w3, kS_p w3, nS_p w3, kP_p w3, w4, io_pl w4, kS_p w4, nS_p w4, kP_p w4, w5, io_pl w5, kS_p w5, nS_p w5, kP_p w5, w6, io_pl w6, kS_p w6, nS_p w6, kP_p w6, q5, io_pl q5, kS_p q5, nS_p q5, kP_p q5]
      rw [sSeq_c, t9, thS_n, u9_law, u10_law]
      generalize exPD "BadBook" k "row" = X at *
      apply Exists.intro
      simp_arith [crf, cRG, tRG, cG, aG, VL.eOpM_c, nl_lit, jgD]
      rfl
    | none =>
      obtain ⟨k1, k2⟩ := cRR hR
      rw [hR, dueF] at e9
      rw [dueF]
      have r9 : rCall 1 x_read_book (eCons (frzE (eOpM oJoin (eC (.str "\n")) (eCons (eVar 7) eNil))) eNil) [.frz (.scr ns), .frz D1, .frz (.int m), .frz (.int n), .frz AD, z6, y7, .frz BD, z9, z10, z11, .frz (.non), .frz RD, .frz .non, .frz .non, .dead] = none := rCall_n e9 (by rw [List.map_cons, List.map_nil, toD_frz]; exact k2)
      rw [sSeq_c, u8_law, sTry_n r9, u9_law, u10_law]
      apply Exists.intro
      simp_arith [VL.eOpM_c, nl_lit, jrD, jgD, k1, tRR, aR, cRG, tRG, cG, aG, w3, io_pl w3, kS_p w3, nS_p w3, kP_p w3, w4, io_pl w4, kS_p w4, nS_p w4, kP_p w4, w5, io_pl w5, kS_p w5, nS_p w5, kP_p w5, w6, io_pl w6, kS_p w6, nS_p w6, kP_p w6, q5, io_pl q5, kS_p q5, nS_p q5, kP_p q5]
      rfl
  obtain ⟨e, he⟩ := main
  exact ⟨.frz (.bl true), _, fn1 (e := e) he, toD_frz⟩
end Pt
namespace K44
open PySem PySem.Spec PyProof.Rows L2 VL Mr
/-! ### the text and its defs -/
structure Ctx (K : PySem.W.Frag) (mg : Str → Option Value) (fd : Nat → FuncData) : Prop where
  d_words_of : FunD K "words_of" "words_of" (defArgs s_words_of) (defBody s_words_of) (defScope s_words_of) [] [] (He.fAd K ("words_of", none)) (fd 0)
  g_words_of : mg "words_of" = some (.ref (He.fAd K ("words_of", none)))
  d_is_name : FunD K "is_name" "is_name" (defArgs s_is_name) (defBody s_is_name) (defScope s_is_name) [] [] (He.fAd K ("is_name", none)) (fd 1)
  g_is_name : mg "is_name" = some (.ref (He.fAd K ("is_name", none)))
  d_number_in : FunD K "number_in" "number_in" (defArgs s_number_in) (defBody s_number_in) (defScope s_number_in) [] [] (He.fAd K ("number_in", none)) (fd 2)
  g_number_in : mg "number_in" = some (.ref (He.fAd K ("number_in", none)))
  d_load_told : FunD K "load_told" "load_told" (defArgs s_load_told) (defBody s_load_told) (defScope s_load_told) [] [] (He.fAd K ("load_told", none)) (fd 3)
  g_load_told : mg "load_told" = some (.ref (He.fAd K ("load_told", none)))
  d_entry_told : FunD K "entry_told" "entry_told" (defArgs s_entry_told) (defBody s_entry_told) (defScope s_entry_told) [] [] (He.fAd K ("entry_told", none)) (fd 4)
  g_entry_told : mg "entry_told" = some (.ref (He.fAd K ("entry_told", none)))
  d_BadBook___init__ : FunD K "__init__" "BadBook.__init__" (defArgs s_BadBook___init__) (defBody s_BadBook___init__) (defScope s_BadBook___init__) [] [] (He.fAd K ("BadBook", some "__init__")) (fd 5)
  d_read_book : FunD K "read_book" "read_book" (defArgs s_read_book) (defBody s_read_book) (defScope s_read_book) [] [] (He.fAd K ("read_book", none)) (fd 6)
  g_read_book : mg "read_book" = some (.ref (He.fAd K ("read_book", none)))
  d__law_cell_at : FunD K "_law_cell_at" "_law_cell_at" (defArgs s__law_cell_at) (defBody s__law_cell_at) (defScope s__law_cell_at) [] [] (He.fAd K ("_law_cell_at", none)) (fd 7)
  g__law_cell_at : mg "_law_cell_at" = some (.ref (He.fAd K ("_law_cell_at", none)))
  d__law_mix : FunD K "_law_mix" "_law_mix" (defArgs s__law_mix) (defBody s__law_mix) (defScope s__law_mix) [] [] (He.fAd K ("_law_mix", none)) (fd 8)
  g__law_mix : mg "_law_mix" = some (.ref (He.fAd K ("_law_mix", none)))
  d__law_names : FunD K "_law_names" "_law_names" (defArgs s__law_names) (defBody s__law_names) (defScope s__law_names) [] [] (He.fAd K ("_law_names", none)) (fd 9)
  g__law_names : mg "_law_names" = some (.ref (He.fAd K ("_law_names", none)))
  d__law_rule : FunD K "_law_rule" "_law_rule" (defArgs s__law_rule) (defBody s__law_rule) (defScope s__law_rule) [] [] (He.fAd K ("_law_rule", none)) (fd 10)
  g__law_rule : mg "_law_rule" = some (.ref (He.fAd K ("_law_rule", none)))
  d__law_greatest : FunD K "_law_greatest" "_law_greatest" (defArgs s__law_greatest) (defBody s__law_greatest) (defScope s__law_greatest) [] [] (He.fAd K ("_law_greatest", none)) (fd 11)
  g__law_greatest : mg "_law_greatest" = some (.ref (He.fAd K ("_law_greatest", none)))
  d__law_desks : FunD K "_law_desks" "_law_desks" (defArgs s__law_desks) (defBody s__law_desks) (defScope s__law_desks) [] [] (He.fAd K ("_law_desks", none)) (fd 12)
  g__law_desks : mg "_law_desks" = some (.ref (He.fAd K ("_law_desks", none)))
  d__law_plant : FunD K "_law_plant" "_law_plant" (defArgs s__law_plant) (defBody s__law_plant) (defScope s__law_plant) [] [] (He.fAd K ("_law_plant", none)) (fd 13)
  g__law_plant : mg "_law_plant" = some (.ref (He.fAd K ("_law_plant", none)))
  d__law_alike : FunD K "_law_alike" "_law_alike" (defArgs s__law_alike) (defBody s__law_alike) (defScope s__law_alike) [] [] (He.fAd K ("_law_alike", none)) (fd 14)
  g__law_alike : mg "_law_alike" = some (.ref (He.fAd K ("_law_alike", none)))
  d__law_entries : FunD K "_law_entries" "_law_entries" (defArgs s__law_entries) (defBody s__law_entries) (defScope s__law_entries) [] [] (He.fAd K ("_law_entries", none)) (fd 15)
  g__law_entries : mg "_law_entries" = some (.ref (He.fAd K ("_law_entries", none)))
  d__law_entry_row : FunD K "_law_entry_row" "_law_entry_row" (defArgs s__law_entry_row) (defBody s__law_entry_row) (defScope s__law_entry_row) [] [] (He.fAd K ("_law_entry_row", none)) (fd 16)
  g__law_entry_row : mg "_law_entry_row" = some (.ref (He.fAd K ("_law_entry_row", none)))
  d__law_is_refused : FunD K "_law_is_refused" "_law_is_refused" (defArgs s__law_is_refused) (defBody s__law_is_refused) (defScope s__law_is_refused) [] [] (He.fAd K ("_law_is_refused", none)) (fd 17)
  g__law_is_refused : mg "_law_is_refused" = some (.ref (He.fAd K ("_law_is_refused", none)))
  d__law_is_name : FunD K "_law_is_name" "_law_is_name" (defArgs s__law_is_name) (defBody s__law_is_name) (defScope s__law_is_name) [] [] (He.fAd K ("_law_is_name", none)) (fd 18)
  g__law_is_name : mg "_law_is_name" = some (.ref (He.fAd K ("_law_is_name", none)))
  d__law_number : FunD K "_law_number" "_law_number" (defArgs s__law_number) (defBody s__law_number) (defScope s__law_number) [] [] (He.fAd K ("_law_number", none)) (fd 19)
  g__law_number : mg "_law_number" = some (.ref (He.fAd K ("_law_number", none)))
  d__law_otherwise : FunD K "_law_otherwise" "_law_otherwise" (defArgs s__law_otherwise) (defBody s__law_otherwise) (defScope s__law_otherwise) [] [] (He.fAd K ("_law_otherwise", none)) (fd 20)
  g__law_otherwise : mg "_law_otherwise" = some (.ref (He.fAd K ("_law_otherwise", none)))
  d__law_told : FunD K "_law_told" "_law_told" (defArgs s__law_told) (defBody s__law_told) (defScope s__law_told) [] [] (He.fAd K ("_law_told", none)) (fd 21)
  g__law_told : mg "_law_told" = some (.ref (He.fAd K ("_law_told", none)))
  d__law_read : FunD K "_law_read" "_law_read" (defArgs s__law_read) (defBody s__law_read) (defScope s__law_read) [] [] (He.fAd K ("_law_read", none)) (fd 22)
  g__law_read : mg "_law_read" = some (.ref (He.fAd K ("_law_read", none)))
  d_law : FunD K "law" "law" (defArgs s_law) (defBody s_law) (defScope s_law) [] [] (He.fAd K ("law", none)) (fd 23)
  g_law : mg "law" = some (.ref (He.fAd K ("law", none)))
  n_ValueError : mg "ValueError" = none
  n_all : mg "all" = none
  n_bool : mg "bool" = none
  n_enumerate : mg "enumerate" = none
  n_int : mg "int" = none
  n_isinstance : mg "isinstance" = none
  n_len : mg "len" = none
  n_list : mg "list" = none
  n_max : mg "max" = none
  n_min : mg "min" = none
  n_range : mg "range" = none
  n_str : mg "str" = none
  n_tuple : mg "tuple" = none
  exf : ExF K
  gc_MergeError : mg "MergeError" = some (.ref (He.ga K "MergeError"))
  gc_BadBook : mg "BadBook" = some (.ref (He.ga K "BadBook"))
  gc_BadDay : mg "BadDay" = some (.ref (He.ga K "BadDay"))
  gc_BadPlant : mg "BadPlant" = some (.ref (He.ga K "BadPlant"))
  gc_NoBound : mg "NoBound" = some (.ref (He.ga K "NoBound"))
  s_FIGURES : ∃ t, mg "FIGURES" = some (.str ("0123456789" : Str) t)
  s_LETTERS : ∃ t, mg "LETTERS" = some (.str ("abcdefghijklmnopqrstuvwxyz" : Str) t)
def tabs (K : PySem.W.Frag) : List (Addr × Str) := []
structure Lam (K : PySem.W.Frag) (mg : Str → Option Value) (base : Heap) (T : Tab) : Prop where
  ok : True
section
variable {P : Program} {w : World} {K : PySem.W.Frag} {mg : Str → Option Value} {base : Heap} {T : Tab} {fd : Nat → FuncData}
theorem sc_words_of : FnScope n_words_of p_words_of (defScope s_words_of) := ⟨rfl, rfl, rfl, by decide +kernel, rfl, by decide +kernel, by decide +kernel⟩
theorem b_words_of (C : Ctx K mg fd) : Binds K (fd 0) p_words_of [] := C.d_words_of.bindsN fun _ _ _ _ _ _ us hl => match us, hl with | [_], _ => rfl
theorem sc_is_name : FnScope n_is_name p_is_name (defScope s_is_name) := ⟨rfl, rfl, rfl, by decide +kernel, rfl, by decide +kernel, by decide +kernel⟩
theorem b_is_name (C : Ctx K mg fd) : Binds K (fd 1) p_is_name [] := C.d_is_name.bindsN fun _ _ _ _ _ _ us hl => match us, hl with | [_], _ => rfl
theorem sc_number_in : FnScope n_number_in p_number_in (defScope s_number_in) := ⟨rfl, rfl, rfl, by decide +kernel, rfl, by decide +kernel, by decide +kernel⟩
theorem b_number_in (C : Ctx K mg fd) : Binds K (fd 2) p_number_in [] := C.d_number_in.bindsN fun _ _ _ _ _ _ us hl => match us, hl with | [_], _ => rfl
theorem sc_load_told : FnScope n_load_told p_load_told (defScope s_load_told) := ⟨rfl, rfl, rfl, by decide +kernel, rfl, by decide +kernel, by decide +kernel⟩
theorem b_load_told (C : Ctx K mg fd) : Binds K (fd 3) p_load_told [] := C.d_load_told.bindsN fun _ _ _ _ _ _ us hl => match us, hl with | [_, _], _ => rfl
theorem sc_entry_told : FnScope n_entry_told p_entry_told (defScope s_entry_told) := ⟨rfl, rfl, rfl, by decide +kernel, rfl, by decide +kernel, by decide +kernel⟩
theorem b_entry_told (C : Ctx K mg fd) : Binds K (fd 4) p_entry_told [] := C.d_entry_told.bindsN fun _ _ _ _ _ _ us hl => match us, hl with | [_], _ => rfl
theorem sc_BadBook___init__ : FnScope n_BadBook___init__ p_BadBook___init__ (defScope s_BadBook___init__) := ⟨rfl, rfl, rfl, by decide +kernel, rfl, by decide +kernel, by decide +kernel⟩
theorem b_BadBook___init__ (C : Ctx K mg fd) : Binds K (fd 5) p_BadBook___init__ [] := C.d_BadBook___init__.bindsN fun _ _ _ _ _ _ us hl => match us, hl with | [_, _, _], _ => rfl
theorem sc_read_book : FnScope n_read_book p_read_book (defScope s_read_book) := ⟨rfl, rfl, rfl, by decide +kernel, rfl, by decide +kernel, by decide +kernel⟩
theorem b_read_book (C : Ctx K mg fd) : Binds K (fd 6) p_read_book [] := C.d_read_book.bindsN fun _ _ _ _ _ _ us hl => match us, hl with | [_], _ => rfl
theorem sc__law_cell_at : FnScope n__law_cell_at p__law_cell_at (defScope s__law_cell_at) := ⟨rfl, rfl, rfl, by decide +kernel, rfl, by decide +kernel, by decide +kernel⟩
theorem b__law_cell_at (C : Ctx K mg fd) : Binds K (fd 7) p__law_cell_at [] := C.d__law_cell_at.bindsN fun _ _ _ _ _ _ us hl => match us, hl with | [_, _], _ => rfl
theorem sc__law_mix : FnScope n__law_mix p__law_mix (defScope s__law_mix) := ⟨rfl, rfl, rfl, by decide +kernel, rfl, by decide +kernel, by decide +kernel⟩
theorem b__law_mix (C : Ctx K mg fd) : Binds K (fd 8) p__law_mix [] := C.d__law_mix.bindsN fun _ _ _ _ _ _ us hl => match us, hl with | [_, _], _ => rfl
theorem sc__law_names : FnScope n__law_names p__law_names (defScope s__law_names) := ⟨rfl, rfl, rfl, by decide +kernel, rfl, by decide +kernel, by decide +kernel⟩
theorem b__law_names (C : Ctx K mg fd) : Binds K (fd 9) p__law_names [] := C.d__law_names.bindsN fun _ _ _ _ _ _ us hl => match us, hl with | [_, _], _ => rfl
theorem sc__law_rule : FnScope n__law_rule p__law_rule (defScope s__law_rule) := ⟨rfl, rfl, rfl, by decide +kernel, rfl, by decide +kernel, by decide +kernel⟩
theorem b__law_rule (C : Ctx K mg fd) : Binds K (fd 10) p__law_rule [] := C.d__law_rule.bindsN fun _ _ _ _ _ _ us hl => match us, hl with | [_, _], _ => rfl
theorem sc__law_greatest : FnScope n__law_greatest p__law_greatest (defScope s__law_greatest) := ⟨rfl, rfl, rfl, by decide +kernel, rfl, by decide +kernel, by decide +kernel⟩
theorem b__law_greatest (C : Ctx K mg fd) : Binds K (fd 11) p__law_greatest [] := C.d__law_greatest.bindsN fun _ _ _ _ _ _ us hl => match us, hl with | [_, _], _ => rfl
theorem sc__law_desks : FnScope n__law_desks p__law_desks (defScope s__law_desks) := ⟨rfl, rfl, rfl, by decide +kernel, rfl, by decide +kernel, by decide +kernel⟩
theorem b__law_desks (C : Ctx K mg fd) : Binds K (fd 12) p__law_desks [] := C.d__law_desks.bindsN fun _ _ _ _ _ _ us hl => match us, hl with | [_, _, _], _ => rfl
theorem sc__law_plant : FnScope n__law_plant p__law_plant (defScope s__law_plant) := ⟨rfl, rfl, rfl, by decide +kernel, rfl, by decide +kernel, by decide +kernel⟩
theorem b__law_plant (C : Ctx K mg fd) : Binds K (fd 13) p__law_plant [] := C.d__law_plant.bindsN fun _ _ _ _ _ _ us hl => match us, hl with | [_], _ => rfl
theorem sc__law_alike : FnScope n__law_alike p__law_alike (defScope s__law_alike) := ⟨rfl, rfl, rfl, by decide +kernel, rfl, by decide +kernel, by decide +kernel⟩
theorem b__law_alike (C : Ctx K mg fd) : Binds K (fd 14) p__law_alike [] := C.d__law_alike.bindsN fun _ _ _ _ _ _ us hl => match us, hl with | [_, _], _ => rfl
theorem sc__law_entries : FnScope n__law_entries p__law_entries (defScope s__law_entries) := ⟨rfl, rfl, rfl, by decide +kernel, rfl, by decide +kernel, by decide +kernel⟩
theorem b__law_entries (C : Ctx K mg fd) : Binds K (fd 15) p__law_entries [] := C.d__law_entries.bindsN fun _ _ _ _ _ _ us hl => match us, hl with | [_, _, _], _ => rfl
theorem sc__law_entry_row : FnScope n__law_entry_row p__law_entry_row (defScope s__law_entry_row) := ⟨rfl, rfl, rfl, by decide +kernel, rfl, by decide +kernel, by decide +kernel⟩
theorem b__law_entry_row (C : Ctx K mg fd) : Binds K (fd 16) p__law_entry_row [] := C.d__law_entry_row.bindsN fun _ _ _ _ _ _ us hl => match us, hl with | [_], _ => rfl
theorem sc__law_is_refused : FnScope n__law_is_refused p__law_is_refused (defScope s__law_is_refused) := ⟨rfl, rfl, rfl, by decide +kernel, rfl, by decide +kernel, by decide +kernel⟩
theorem b__law_is_refused (C : Ctx K mg fd) : Binds K (fd 17) p__law_is_refused [] := C.d__law_is_refused.bindsN fun _ _ _ _ _ _ us hl => match us, hl with | [_, _], _ => rfl
theorem sc__law_is_name : FnScope n__law_is_name p__law_is_name (defScope s__law_is_name) := ⟨rfl, rfl, rfl, by decide +kernel, rfl, by decide +kernel, by decide +kernel⟩
theorem b__law_is_name (C : Ctx K mg fd) : Binds K (fd 18) p__law_is_name [] := C.d__law_is_name.bindsN fun _ _ _ _ _ _ us hl => match us, hl with | [_], _ => rfl
theorem sc__law_number : FnScope n__law_number p__law_number (defScope s__law_number) := ⟨rfl, rfl, rfl, by decide +kernel, rfl, by decide +kernel, by decide +kernel⟩
theorem b__law_number (C : Ctx K mg fd) : Binds K (fd 19) p__law_number [] := C.d__law_number.bindsN fun _ _ _ _ _ _ us hl => match us, hl with | [_], _ => rfl
theorem sc__law_otherwise : FnScope n__law_otherwise p__law_otherwise (defScope s__law_otherwise) := ⟨rfl, rfl, rfl, by decide +kernel, rfl, by decide +kernel, by decide +kernel⟩
theorem b__law_otherwise (C : Ctx K mg fd) : Binds K (fd 20) p__law_otherwise [] := C.d__law_otherwise.bindsN fun _ _ _ _ _ _ us hl => match us, hl with | [_, _], _ => rfl
theorem sc__law_told : FnScope n__law_told p__law_told (defScope s__law_told) := ⟨rfl, rfl, rfl, by decide +kernel, rfl, by decide +kernel, by decide +kernel⟩
theorem b__law_told (C : Ctx K mg fd) : Binds K (fd 21) p__law_told [] := C.d__law_told.bindsN fun _ _ _ _ _ _ us hl => match us, hl with | [_], _ => rfl
theorem sc__law_read : FnScope n__law_read p__law_read (defScope s__law_read) := ⟨rfl, rfl, rfl, by decide +kernel, rfl, by decide +kernel, by decide +kernel⟩
theorem b__law_read (C : Ctx K mg fd) : Binds K (fd 22) p__law_read [] := C.d__law_read.bindsN fun _ _ _ _ _ _ us hl => match us, hl with | [_], _ => rfl
theorem sc_law : FnScope n_law p_law (defScope s_law) := ⟨rfl, rfl, rfl, by decide +kernel, rfl, by decide +kernel, by decide +kernel⟩
theorem b_law (C : Ctx K mg fd) : Binds K (fd 23) p_law [] := C.d_law.bindsN fun _ _ _ _ _ _ us hl => match us, hl with | [_], _ => rfl
theorem ok_words_of (C : Ctx K mg fd) (L : Lam K mg base T) : FnOk P w K mg base CX0 1 (He.fAd K ("words_of", none)) (fd 0) p_words_of (spF K T 1 f_words_of) := by
  refine fn_ok (k := 0) (N := n_words_of) (ps := p_words_of) (sm := m_words_of) C.d_words_of sc_words_of fun cdv A outer s H E hr => ?_
  have hu := hr.units
  exact (sb_one (ss_ret (fe_lc (own := [("word", 1)]) (g := (gNm 1)) (t := ct0_words_of) (m := c0_words_of) rfl sc_words_of.nd (ic_lt (be_fe (fe_sm op_split PySem.F.slot_str_split PySem.F.type_str_split mt_split (be_var 0) (ba_cons be_str ba_nil)))) (blkOk_by (N := n_words_of) (sc := defScope s_words_of) (by decide +kernel)) (fun _ _ _ _ _ => (gs_name sc_words_of.nd rfl (Or.inl rfl))) (fun _ _ _ _ _ => ics_one (bt_cmp (op_neP hu) op_gNe (be_var 1) be_str (nomark _))) (fun _ _ _ _ _ => (fe_be (be_var 1))) (by decide))))
theorem ok_is_name (C : Ctx K mg fd) (L : Lam K mg base T) : FnOk P w K mg base CX0 1 (He.fAd K ("is_name", none)) (fd 1) p_is_name (spF K T 1 f_is_name) := by
  refine fn_ok (k := 0) (N := n_is_name) (ps := p_is_name) (sm := m_is_name) C.d_is_name sc_is_name fun cdv A outer s H E hr => ?_
  have hu := hr.units
  exact (sb_cons (ss_if (bt_not (bt_chain op_le op_le (op_gB fun i j => decide (i ≤ j)) (op_gB fun i j => decide (i ≤ j)) be_int (be_fe (fe_callB call_len op_len rfl C.n_len boot_len (ba_cons (be_var 0) ba_nil))) be_int)) (sb_one (ss_ret (fe_be be_bl))) sb_nil)
    (sb_one (ss_ret (fe_callB (cr_all rfl) op_all rfl C.n_all boot_all (ba_cons (be_fe (fe_lc (own := [("sign", 1)]) (g := (gNm 1)) (t := yesT) (m := c0_is_name) rfl sc_is_name.nd (ic_lts (be_var 0)) (blkOk_by (N := n_is_name) (sc := defScope s_is_name) (by decide +kernel)) (fun _ _ _ _ _ => (gs_name sc_is_name.nd rfl (Or.inl rfl))) (fun _ _ _ _ _ => ics_nil) (fun _ _ _ _ _ => (fe_in hu (be_var 1) (be_gs rfl C.s_LETTERS) (by rfl))) (by decide))) ba_nil)))))
theorem ok_number_in (C : Ctx K mg fd) (L : Lam K mg base T) : FnOk P w K mg base CX0 1 (He.fAd K ("number_in", none)) (fd 2) p_number_in (spF K T 1 f_number_in) := by
  refine fn_ok (k := 0) (N := n_number_in) (ps := p_number_in) (sm := m_number_in) C.d_number_in sc_number_in fun cdv A outer s H E hr => ?_
  have hu := hr.units
  exact (sb_cons (ss_if (bt_w (wt_or (bt_not (bt_chain op_le op_le (op_gB fun i j => decide (i ≤ j)) (op_gB fun i j => decide (i ≤ j)) be_int (be_fe (fe_callB call_len op_len rfl C.n_len boot_len (ba_cons (be_var 0) ba_nil))) be_int)) (wt_or1 (bt_w (wt_and (bt_cmp (op_neP hu) op_gNe (be_var 0) be_str (nomark _)) (wt_and1 (bt_tru (be_fe (fe_sm op_starts PySem.F.slot_str_startswith PySem.F.type_str_startswith mt_startswith (be_var 0) (ba_cons be_str ba_nil)))))))))) (sb_one (ss_ret (fe_be be_non))) sb_nil)
    (sb_cons (ss_if (bt_not (bt_tru (be_fe (fe_callB (cr_all rfl) op_all rfl C.n_all boot_all (ba_cons (be_fe (fe_lc (own := [("sign", 1)]) (g := (gNm 1)) (t := yesT) (m := c0_number_in) rfl sc_number_in.nd (ic_lts (be_var 0)) (blkOk_by (N := n_number_in) (sc := defScope s_number_in) (by decide +kernel)) (fun _ _ _ _ _ => (gs_name sc_number_in.nd rfl (Or.inl rfl))) (fun _ _ _ _ _ => ics_nil) (fun _ _ _ _ _ => (fe_in hu (be_var 1) (be_gs rfl C.s_FIGURES) (by rfl))) (by decide))) ba_nil))))) (sb_one (ss_ret (fe_be be_non))) sb_nil)
    (sb_one (ss_ret (fe_callTy cr_int op_int rfl C.n_int boot_int (ba_cons (be_var 0) ba_nil))))))
theorem ok_load_told (C : Ctx K mg fd) (L : Lam K mg base T) : FnOk P w K mg base CX0 2 (He.fAd K ("load_told", none)) (fd 3) p_load_told (spF K T 2 f_load_told) := by
  have k_is_name : FnOk P w K mg base CX0 1 (He.fAd K ("is_name", none)) (fd 1) p_is_name (spF K T 1 f_is_name) := ok_is_name C L
  have k_number_in : FnOk P w K mg base CX0 1 (He.fAd K ("number_in", none)) (fd 2) p_number_in (spF K T 1 f_number_in) := ok_number_in C L
  refine fn_ok (k := 1) (N := n_load_told) (ps := p_load_told) (sm := m_load_told) C.d_load_told sc_load_told fun cdv A outer s H E hr => ?_
  have hu := hr.units
  exact (sb_cons (ss_if (bt_w (wt_or (bt_notin hu (be_ix hu (be_var 0) be_int) (be_fe (fe_tup (fa_cons (fe_be be_str) (fa_cons (fe_be be_str) fa_nil)))) (by rfl)) (wt_or (bt_cmp op_lt (op_gB fun i j => decide (i < j)) (be_fe (fe_callB call_len op_len rfl C.n_len boot_len (ba_cons (be_var 0) ba_nil))) be_int (nomark _)) (wt_or1 (bt_not (bt_tru (be_fe (fe_call k_is_name (hr.mono (by decide)) rfl C.g_is_name C.d_is_name.kp (b_is_name C) (ba_cons (be_ix hu (be_var 0) be_int) ba_nil))))))))) (sb_one (ss_ret (fe_be be_non))) sb_nil)
    (sb_cons (ss_setLcF (i := 2) (own := [("word", 3)]) (g := (gNm 3)) (t := yesT) (m := c0_load_told) rfl sc_load_told.nd rfl rfl (sw_true rfl rfl rfl (by decide +kernel)) (ic_lt (be_fe (fe_sl (be_var 0) (bo_some be_int) bo_none))) (blkOk_by (N := n_load_told) (sc := defScope s_load_told) (by decide +kernel)) (fun _ _ _ _ _ => (gs_name sc_load_told.nd rfl (Or.inl rfl))) (fun _ _ _ _ _ => ics_nil) (fun _ _ _ _ _ => (fe_call k_number_in (hr.mono (by decide)) rfl C.g_number_in C.d_number_in.kp (b_number_in C) (ba_cons (be_var 3) ba_nil))) (by decide))
    (sb_cons (ss_if (bt_in hu be_non (be_var 2) (by rfl)) (sb_one (ss_ret (fe_be be_non))) sb_nil)
    (sb_one (ss_ret (fe_tup (fa_cons (fe_be (be_ix hu (be_var 0) be_int)) (fa_cons (fe_be (be_var 1)) (fa_cons (fe_be (be_ix hu (be_var 0) be_int)) (fa_cons (fe_callTy call_tuple_of op_tuple rfl C.n_tuple boot_tuple (ba_cons (be_var 2) ba_nil)) fa_nil))))))))))
theorem ok_entry_told (C : Ctx K mg fd) (L : Lam K mg base T) : FnOk P w K mg base CX0 3 (He.fAd K ("entry_told", none)) (fd 4) p_entry_told (spF K T 1 f_entry_told) := by
  have k_number_in : FnOk P w K mg base CX0 1 (He.fAd K ("number_in", none)) (fd 2) p_number_in (spF K T 1 f_number_in) := ok_number_in C L
  have k_load_told : FnOk P w K mg base CX0 2 (He.fAd K ("load_told", none)) (fd 3) p_load_told (spF K T 2 f_load_told) := ok_load_told C L
  refine fn_ok (k := 2) (N := n_entry_told) (ps := p_entry_told) (sm := m_entry_told) C.d_entry_told sc_entry_told fun cdv A outer s H E hr => ?_
  have hu := hr.units
  exact (sb_cons (ss_if (bt_w (wt_or (bt_cmp op_lt (op_gB fun i j => decide (i < j)) (be_fe (fe_callB call_len op_len rfl C.n_len boot_len (ba_cons (be_var 0) ba_nil))) be_int (nomark _)) (wt_or1 (bt_isN (be_fe (fe_call k_number_in (hr.mono (by decide)) rfl C.g_number_in C.d_number_in.kp (b_number_in C) (ba_cons (be_ix hu (be_var 0) be_int) ba_nil))))))) (sb_one (ss_ret (fe_be be_non))) sb_nil)
    (sb_cons (ss_set sc_entry_told.nd rfl (Or.inl rfl) (fe_be (be_fe (fe_call k_number_in (hr.mono (by decide)) rfl C.g_number_in C.d_number_in.kp (b_number_in C) (ba_cons (be_ix hu (be_var 0) be_int) ba_nil)))))
    (sb_cons (ss_if (bt_notin hu (be_ix hu (be_var 0) be_int) (be_fe (fe_tup (fa_cons (fe_be be_str) (fa_cons (fe_be be_str) fa_nil)))) (by rfl)) (sb_one (ss_ret (fe_call k_load_told (hr.mono (by decide)) rfl C.g_load_told C.d_load_told.kp (b_load_told C) (ba_cons (be_var 0) (ba_cons (be_var 1) ba_nil))))) sb_nil)
    (sb_cons (ss_if (bt_w (wt_or (bt_cmp (op_neP hu) op_gNe (be_fe (fe_callB call_len op_len rfl C.n_len boot_len (ba_cons (be_var 0) ba_nil))) be_int (nomark _)) (wt_or1 (bt_isN (be_fe (fe_call k_number_in (hr.mono (by decide)) rfl C.g_number_in C.d_number_in.kp (b_number_in C) (ba_cons (be_ix hu (be_var 0) be_int) ba_nil))))))) (sb_one (ss_ret (fe_be be_non))) sb_nil)
    (sb_one (ss_ret (fe_tup (fa_cons (fe_be (be_ix hu (be_var 0) be_int)) (fa_cons (fe_be (be_var 1)) (fa_cons (fe_call k_number_in (hr.mono (by decide)) rfl C.g_number_in C.d_number_in.kp (b_number_in C) (ba_cons (be_ix hu (be_var 0) be_int) ba_nil)) fa_nil))))))))))
theorem i_BadBook (C : Ctx K mg fd) (L : Lam K mg base T) : FnOk P w K mg base CX0 1 (He.fAd K ("BadBook", some "__init__")) (fd 5) p_BadBook___init__ (spIn K ["place", "word"]) :=
  in2_ok C.d_BadBook___init__ sc_BadBook___init__ fun cdv A outer s H E => pss_in2 rfl (Or.inl rfl) rfl (Or.inl rfl) rfl (Or.inl rfl) (by decide) (by decide) (by decide) (by decide) (pe_binit C.exf.eb rfl C.gc_MergeError (pa_cons (pe_var rfl (Or.inl rfl)) (pa_cons pe_str pa_nil))) rfl
theorem ok_read_book (C : Ctx K mg fd) (L : Lam K mg base T) : FnOk P w K mg base CX0 4 (He.fAd K ("read_book", none)) (fd 6) p_read_book (spF K T 1 f_read_book) := by
  have k_words_of : FnOk P w K mg base CX0 1 (He.fAd K ("words_of", none)) (fd 0) p_words_of (spF K T 1 f_words_of) := ok_words_of C L
  have k_entry_told : FnOk P w K mg base CX0 3 (He.fAd K ("entry_told", none)) (fd 4) p_entry_told (spF K T 1 f_entry_told) := ok_entry_told C L
  refine fn_ok (k := 3) (N := n_read_book) (ps := p_read_book) (sm := m_read_book) C.d_read_book sc_read_book fun cdv A outer s H E hr => ?_
  have hu := hr.units
  exact (sb_cons (ss_set sc_read_book.nd rfl (Or.inl rfl) (fe_lst fa_nil))
    (sb_cons (ss_for PassesOwn.never rfl (it_enum rfl C.n_enumerate (ba_cons (be_fe (fe_sm op_split PySem.F.slot_str_split PySem.F.type_str_split mt_split (be_var 0) (ba_cons be_str ba_nil))) ba_nil)) (gs_tup rfl (gss_cons (gs_name sc_read_book.nd rfl (Or.inl rfl)) (gss_cons (gs_name sc_read_book.nd rfl (Or.inl rfl)) gss_nil))) (sb_cons (ss_set sc_read_book.nd rfl (Or.inl rfl) (fe_be (be_fe (fe_call k_words_of (hr.mono (by decide)) rfl C.g_words_of C.d_words_of.kp (b_words_of C) (ba_cons (be_var 3) ba_nil)))))
    (sb_one (ss_if (bt_cmp op_gt (op_gB fun i j => decide (j < i)) (be_fe (fe_callB call_len op_len rfl C.n_len boot_len (ba_cons (be_var 4) ba_nil))) be_int (nomark _)) (sb_cons (ss_set sc_read_book.nd rfl (Or.inl rfl) (fe_be (be_fe (fe_call k_entry_told (hr.mono (by decide)) rfl C.g_entry_told C.d_entry_told.kp (b_entry_told C) (ba_cons (be_var 4) ba_nil)))))
    (sb_cons (ss_if (bt_isN (be_var 5)) (sb_one ss_no) sb_nil)
    (sb_one (ss_pm (q_var 1) (fa_cons (fe_be (be_var 5)) fa_nil) act_append PySem.F.slot_list_append PySem.F.type_list_append mt_append)))) sb_nil))))
    (sb_one (ss_retV 1))))
theorem okx_read_book (C : Ctx K mg fd) (L : Lam K mg base T) : FnOk P w K mg base (L2.CX P w) 4 (He.fAd K ("read_book", none)) (fd 6) p_read_book (spX K T 1 x_read_book) := by
  have k_words_of : FnOk P w K mg base CX0 1 (He.fAd K ("words_of", none)) (fd 0) p_words_of (spF K T 1 f_words_of) := ok_words_of C L
  have k_entry_told : FnOk P w K mg base CX0 3 (He.fAd K ("entry_told", none)) (fd 4) p_entry_told (spF K T 1 f_entry_told) := ok_entry_told C L
  have i_BadBook : FnOk P w K mg base CX0 1 (He.fAd K ("BadBook", some "__init__")) (fd 5) p_BadBook___init__ (spIn K ["place", "word"]) := i_BadBook C L
  refine fnX_ok (k := 3) (N := n_read_book) (ps := p_read_book) (rz := q_read_book) C.d_read_book sc_read_book fun cdv A outer s H E hr tk hp => ?_
  have hu := hr.units
  exact (rb_cons (ss_set sc_read_book.nd rfl (Or.inl rfl) (fe_lst fa_nil)) rs_no (rb_cons (ss_for hp rfl (it_enum rfl C.n_enumerate (ba_cons (be_fe (fe_sm op_split PySem.F.slot_str_split PySem.F.type_str_split mt_split (be_var 0) (ba_cons be_str ba_nil))) ba_nil)) (gs_tup rfl (gss_cons (gs_name sc_read_book.nd rfl (Or.inl rfl)) (gss_cons (gs_name sc_read_book.nd rfl (Or.inl rfl)) gss_nil))) (sb_cons (ss_set sc_read_book.nd rfl (Or.inl rfl) (fe_be (be_fe (fe_call k_words_of (hr.mono (by decide)) rfl C.g_words_of C.d_words_of.kp (b_words_of C) (ba_cons (be_var 3) ba_nil)))))
    (sb_one (ss_if (bt_cmp op_gt (op_gB fun i j => decide (j < i)) (be_fe (fe_callB call_len op_len rfl C.n_len boot_len (ba_cons (be_var 4) ba_nil))) be_int (nomark _)) (sb_cons (ss_set sc_read_book.nd rfl (Or.inl rfl) (fe_be (be_fe (fe_call k_entry_told (hr.mono (by decide)) rfl C.g_entry_told C.d_entry_told.kp (b_entry_told C) (ba_cons (be_var 4) ba_nil)))))
    (sb_cons (ss_if (bt_isN (be_var 5)) (sb_one ss_no) sb_nil)
    (sb_one (ss_pm (q_var 1) (fa_cons (fe_be (be_var 5)) fa_nil) act_append PySem.F.slot_list_append PySem.F.type_list_append mt_append)))) sb_nil)))) (rs_for hp rfl (it_enum rfl C.n_enumerate (ba_cons (be_fe (fe_sm op_split PySem.F.slot_str_split PySem.F.type_str_split mt_split (be_var 0) (ba_cons be_str ba_nil))) ba_nil)) (gs_tup rfl (gss_cons (gs_name sc_read_book.nd rfl (Or.inl rfl)) (gss_cons (gs_name sc_read_book.nd rfl (Or.inl rfl)) gss_nil))) (sb_cons (ss_set sc_read_book.nd rfl (Or.inl rfl) (fe_be (be_fe (fe_call k_words_of (hr.mono (by decide)) rfl C.g_words_of C.d_words_of.kp (b_words_of C) (ba_cons (be_var 3) ba_nil)))))
    (sb_one (ss_if (bt_cmp op_gt (op_gB fun i j => decide (j < i)) (be_fe (fe_callB call_len op_len rfl C.n_len boot_len (ba_cons (be_var 4) ba_nil))) be_int (nomark _)) (sb_cons (ss_set sc_read_book.nd rfl (Or.inl rfl) (fe_be (be_fe (fe_call k_entry_told (hr.mono (by decide)) rfl C.g_entry_told C.d_entry_told.kp (b_entry_told C) (ba_cons (be_var 4) ba_nil)))))
    (sb_cons (ss_if (bt_isN (be_var 5)) (sb_one ss_no) sb_nil)
    (sb_one (ss_pm (q_var 1) (fa_cons (fe_be (be_var 5)) fa_nil) act_append PySem.F.slot_list_append PySem.F.type_list_append mt_append)))) sb_nil))) (rb_cons (ss_set sc_read_book.nd rfl (Or.inl rfl) (fe_be (be_fe (fe_call k_words_of (hr.mono (by decide)) rfl C.g_words_of C.d_words_of.kp (b_words_of C) (ba_cons (be_var 3) ba_nil))))) rs_no (rb_one (rs_if (bt_cmp op_gt (op_gB fun i j => decide (j < i)) (be_fe (fe_callB call_len op_len rfl C.n_len boot_len (ba_cons (be_var 4) ba_nil))) be_int (nomark _)) (rb_cons (ss_set sc_read_book.nd rfl (Or.inl rfl) (fe_be (be_fe (fe_call k_entry_told (hr.mono (by decide)) rfl C.g_entry_told C.d_entry_told.kp (b_entry_told C) (ba_cons (be_var 4) ba_nil))))) rs_no (rb_cons (ss_if (bt_isN (be_var 5)) (sb_one ss_no) sb_nil) (rs_if (bt_isN (be_var 5)) (rb_one (rs_raise (C := "BadBook") (fds := ["place", "word"]) rfl tk (C.exf.ec _ ex_BadBook) (C.exf.nf _ ex_BadBook) (C.exf.ini _ ex_BadBook).1 (C.exf.ini _ ex_BadBook).2 i_BadBook (hr.mono (by decide)) (b_BadBook___init__ C) rfl C.gc_BadBook (ba_cons (be_var 2) (ba_cons be_str ba_nil)))) rb_no) rb_no)) rb_no)))) rb_no))
theorem ok__law_cell_at (C : Ctx K mg fd) (L : Lam K mg base T) : FnOk P w K mg base CX0 1 (He.fAd K ("_law_cell_at", none)) (fd 7) p__law_cell_at (spF K T 2 f__law_cell_at) := by
  refine fn_ok (k := 0) (N := n__law_cell_at) (ps := p__law_cell_at) (sm := m__law_cell_at) C.d__law_cell_at sc__law_cell_at fun cdv A outer s H E hr => ?_
  have hu := hr.units
  exact (sb_cons (ss_if (bt_cmp op_lt (op_gB fun i j => decide (i < j)) (be_var 1) (be_fe (fe_callB call_len op_len rfl C.n_len boot_len (ba_cons (be_var 0) ba_nil))) (nomark _)) (sb_one (ss_ret (fe_be (be_ix hu (be_var 0) (be_var 1))))) sb_nil)
    (sb_one (ss_ret (fe_be be_int))))
theorem ok__law_mix (C : Ctx K mg fd) (L : Lam K mg base T) : FnOk P w K mg base CX0 1 (He.fAd K ("_law_mix", none)) (fd 8) p__law_mix (spF K T 2 f__law_mix) := by
  refine fn_ok (k := 0) (N := n__law_mix) (ps := p__law_mix) (sm := m__law_mix) C.d__law_mix sc__law_mix fun cdv A outer s H E hr => ?_
  have hu := hr.units
  exact (sb_cons (ss_set sc__law_mix.nd rfl (Or.inl rfl) (fe_be (be_fe (fe_mod (be_fe (fe_mul (be_fe (fe_add (be_fe (fe_add (be_fe (fe_mod (be_var 0) be_int)) (be_fe (fe_mul (be_fe (fe_mul (be_var 1) (be_var 1))) be_int)))) be_int)) be_int)) be_int))))
    (sb_one (ss_ret (fe_mod (be_fe (fe_mul (be_var 2) (be_var 2))) be_int))))
theorem ok__law_names (C : Ctx K mg fd) (L : Lam K mg base T) : FnOk P w K mg base CX0 2 (He.fAd K ("_law_names", none)) (fd 9) p__law_names (spF K T 2 f__law_names) := by
  have k__law_mix : FnOk P w K mg base CX0 1 (He.fAd K ("_law_mix", none)) (fd 8) p__law_mix (spF K T 2 f__law_mix) := ok__law_mix C L
  refine fn_ok (k := 1) (N := n__law_names) (ps := p__law_names) (sm := m__law_names) C.d__law_names sc__law_names fun cdv A outer s H E hr => ?_
  have hu := hr.units
  exact (sb_cons (ss_set sc__law_names.nd rfl (Or.inr rfl) (fe_be be_str))
    (sb_cons (ss_set sc__law_names.nd rfl (Or.inr rfl) (fe_be (be_fe (fe_call k__law_mix (hr.mono (by decide)) rfl C.g__law_mix C.d__law_mix.kp (b__law_mix C) (ba_cons (be_var 0) (ba_cons be_int ba_nil))))))
    (sb_cons (ss_if (bt_w (wt_and (bt_cmp (op_eqP hu) op_gEq (be_fe (fe_mod (be_var 3) be_int)) be_int (nomark _)) (wt_and1 (bt_cmp op_lt (op_gB fun i j => decide (i < j)) (be_var 1) be_int (nomark _))))) (sb_one (ss_ret (fe_lc (own := [("_law_k", 7)]) (g := (gNm 7)) (t := yesT) (m := c0__law_names) rfl sc__law_names.nd (ic_it (it_r1 rfl C.n_range (ba_cons (be_var 1) ba_nil))) (blkOk_by (N := n__law_names) (sc := defScope s__law_names) (by decide +kernel)) (fun _ _ _ _ _ => (gs_name sc__law_names.nd rfl (Or.inl rfl))) (fun _ _ _ _ _ => ics_nil) (fun _ _ _ _ _ => (fe_mul (be_ix hu (be_var 2) (be_fe (fe_mod (be_fe (fe_div (be_var 3) be_int)) be_int))) (be_fe (fe_sub (be_var 1) (be_var 7))))) (by decide)))) sb_nil)
    (sb_cons (ss_set sc__law_names.nd rfl (Or.inl rfl) (fe_be (be_fe (fe_add be_int (be_fe (fe_mod (be_fe (fe_div (be_var 3) be_int)) be_int))))))
    (sb_cons (ss_set sc__law_names.nd rfl (Or.inr rfl) (fe_be (be_fe (fe_mod (be_fe (fe_div (be_var 3) be_int)) (be_var 4)))))
    (sb_cons (ss_set sc__law_names.nd rfl (Or.inr rfl) (fe_be (be_fe (fe_mul (be_ix hu (be_var 2) (be_fe (fe_mod (be_fe (fe_div (be_var 3) be_int)) be_int))) (be_var 4)))))
    (sb_one (ss_ret (fe_lc (own := [("_law_k", 7)]) (g := (gNm 7)) (t := yesT) (m := c1__law_names) rfl sc__law_names.nd (ic_it (it_r1 rfl C.n_range (ba_cons (be_var 1) ba_nil))) (blkOk_by (N := n__law_names) (sc := defScope s__law_names) (by decide +kernel)) (fun _ _ _ _ _ => (gs_name sc__law_names.nd rfl (Or.inl rfl))) (fun _ _ _ _ _ => ics_nil) (fun _ _ _ _ _ => (fe_add (be_fe (fe_add (be_fe (fe_sl (be_var 6) bo_none (bo_some (be_var 5)))) (be_ix hu (be_var 2) (be_fe (fe_mod (be_fe (fe_add (be_fe (fe_div (be_var 3) be_int)) (be_fe (fe_mul be_int (be_var 7))))) be_int))))) (be_fe (fe_sl (be_var 6) (bo_some (be_fe (fe_add (be_var 5) be_int))) bo_none)))) (by decide))))))))))
theorem ok__law_rule (C : Ctx K mg fd) (L : Lam K mg base T) : FnOk P w K mg base CX0 1 (He.fAd K ("_law_rule", none)) (fd 10) p__law_rule (spF K T 2 f__law_rule) := by
  refine fn_ok (k := 0) (N := n__law_rule) (ps := p__law_rule) (sm := m__law_rule) C.d__law_rule sc__law_rule fun cdv A outer s H E hr => ?_
  have hu := hr.units
  exact (sb_cons (ss_set sc__law_rule.nd rfl (Or.inr rfl) (fe_be (be_fe (fe_div (be_var 0) be_int))))
    (sb_cons (ss_if (bt_w (wt_and (bt_cmp (op_eqP hu) op_gEq (be_fe (fe_mod (be_var 0) be_int)) be_int (nomark _)) (wt_and1 (bt_cmp op_gt (op_gB fun i j => decide (j < i)) (be_var 1) be_int (nomark _))))) (sb_one (ss_ret (fe_tup (fa_cons (fe_be be_str) fa_nil)))) sb_nil)
    (sb_cons (ss_if (bt_cmp (op_eqP hu) op_gEq (be_fe (fe_mod (be_var 0) be_int)) be_int (nomark _)) (sb_one (ss_ret (fe_tup (fa_cons (fe_be be_str) (fa_cons (fe_add be_int (be_fe (fe_mod (be_var 2) be_int))) (fa_cons (fe_mod (be_fe (fe_div (be_var 2) be_int)) be_int) fa_nil)))))) sb_nil)
    (sb_cons (ss_if (bt_cmp (op_eqP hu) op_gEq (be_fe (fe_mod (be_var 0) be_int)) be_int (nomark _)) (sb_one (ss_ret (fe_tup (fa_cons (fe_be be_str) (fa_cons (fe_add be_int (be_fe (fe_mod (be_var 2) be_int))) fa_nil))))) sb_nil)
    (sb_cons (ss_if (bt_cmp (op_eqP hu) op_gEq (be_fe (fe_mod (be_var 0) be_int)) be_int (nomark _)) (sb_one (ss_ret (fe_tup (fa_cons (fe_be be_str) (fa_cons (fe_be (be_ix hu (be_fe (fe_lst (fa_cons (fe_be be_non) (fa_cons (fe_mod (be_fe (fe_div (be_var 2) be_int)) be_int) fa_nil)))) (be_fe (fe_mod (be_var 2) be_int)))) fa_nil))))) sb_nil)
    (sb_cons (ss_if (bt_cmp (op_eqP hu) op_gEq (be_fe (fe_mod (be_var 0) be_int)) be_int (nomark _)) (sb_one (ss_ret (fe_tup (fa_cons (fe_be be_str) (fa_cons (fe_callTy call_tuple_of op_tuple rfl C.n_tuple boot_tuple (ba_cons (be_fe (fe_lc (own := [("_law_k", 3)]) (g := (gNm 3)) (t := yesT) (m := c0__law_rule) rfl sc__law_rule.nd (ic_it (it_r1 rfl C.n_range (ba_cons (be_var 1) ba_nil))) (blkOk_by (N := n__law_rule) (sc := defScope s__law_rule) (by decide +kernel)) (fun _ _ _ _ _ => (gs_name sc__law_rule.nd rfl (Or.inl rfl))) (fun _ _ _ _ _ => ics_nil) (fun _ _ _ _ _ => (fe_add be_int (be_fe (fe_mod (be_fe (fe_div (be_var 2) (be_fe (fe_add (be_fe (fe_mul (be_var 3) (be_var 3))) be_int)))) be_int)))) (by decide))) ba_nil)) fa_nil))))) sb_nil)
    (sb_one (ss_ret (fe_tup (fa_cons (fe_be be_str) fa_nil))))))))))
theorem ok__law_greatest (C : Ctx K mg fd) (L : Lam K mg base T) : FnOk P w K mg base CX0 1 (He.fAd K ("_law_greatest", none)) (fd 11) p__law_greatest (spF K T 2 f__law_greatest) := by
  refine fn_ok (k := 0) (N := n__law_greatest) (ps := p__law_greatest) (sm := m__law_greatest) C.d__law_greatest sc__law_greatest fun cdv A outer s H E hr => ?_
  have hu := hr.units
  exact (sb_one (ss_ret (fe_get2 hu (be_fe (fe_dict (fd_cons (fe_be (be_ix hu (be_fe (fe_add (be_var 0) (be_fe (fe_tup (fa_cons (fe_be be_int) fa_nil))))) be_int)) (fd_cons (fe_be (be_ix hu (be_fe (fe_add (be_var 0) (be_fe (fe_tup (fa_cons (fe_be be_int) fa_nil))))) be_int)) (fd_cons (fe_be (be_var 1)) fd_nil))))) (be_ix hu (be_var 0) be_int) be_int)))
theorem ok__law_desks (C : Ctx K mg fd) (L : Lam K mg base T) : FnOk P w K mg base CX0 3 (He.fAd K ("_law_desks", none)) (fd 12) p__law_desks (spF K T 3 f__law_desks) := by
  have k__law_names : FnOk P w K mg base CX0 2 (He.fAd K ("_law_names", none)) (fd 9) p__law_names (spF K T 2 f__law_names) := ok__law_names C L
  have k__law_mix : FnOk P w K mg base CX0 1 (He.fAd K ("_law_mix", none)) (fd 8) p__law_mix (spF K T 2 f__law_mix) := ok__law_mix C L
  have k__law_rule : FnOk P w K mg base CX0 1 (He.fAd K ("_law_rule", none)) (fd 10) p__law_rule (spF K T 2 f__law_rule) := ok__law_rule C L
  refine fn_ok (k := 2) (N := n__law_desks) (ps := p__law_desks) (sm := m__law_desks) C.d__law_desks sc__law_desks fun cdv A outer s H E hr => ?_
  have hu := hr.units
  exact (sb_cons (ss_set sc__law_desks.nd rfl (Or.inl rfl) (fe_be (be_fe (fe_call k__law_names (hr.mono (by decide)) rfl C.g__law_names C.d__law_names.kp (b__law_names C) (ba_cons (be_fe (fe_call k__law_mix (hr.mono (by decide)) rfl C.g__law_mix C.d__law_mix.kp (b__law_mix C) (ba_cons (be_var 0) (ba_cons be_int ba_nil)))) (ba_cons (be_fe (fe_add be_int (be_fe (fe_mod (be_fe (fe_call k__law_mix (hr.mono (by decide)) rfl C.g__law_mix C.d__law_mix.kp (b__law_mix C) (ba_cons (be_var 0) (ba_cons be_int ba_nil)))) (be_fe (fe_callB (call_min2 rfl) op_min2 rfl C.n_min boot_min (ba_cons be_int (ba_cons (be_fe (fe_callB call_len op_len rfl C.n_len boot_len (ba_cons (be_var 1) ba_nil))) ba_nil)))))))) ba_nil))))))
    (sb_cons (ss_setLc (i := 4) (own := [("_law_name", 9)]) (g := (gNm 9)) (t := yesT) (m := c0__law_desks) rfl sc__law_desks.nd rfl rfl (sw_true rfl rfl rfl (by decide +kernel)) (ic_lt (be_var 3)) (blkOk_by (N := n__law_desks) (sc := defScope s__law_desks) (by decide +kernel)) (fun _ _ _ _ _ => (gs_name sc__law_desks.nd rfl (Or.inl rfl))) (fun _ _ _ _ _ => ics_nil) (fun _ _ _ _ _ => (fe_lst fa_nil)) (by decide))
    (sb_cons (ss_for PassesOwn.never rfl (it_enum rfl C.n_enumerate (ba_cons (be_var 1) ba_nil)) (gs_tup rfl (gss_cons (gs_name sc__law_desks.nd rfl (Or.inl rfl)) (gss_cons (gs_name sc__law_desks.nd rfl (Or.inl rfl)) gss_nil))) (sb_cons (ss_set sc__law_desks.nd rfl (Or.inl rfl) (fe_be (be_var 5)))
    (sb_cons (ss_if (bt_cmp op_ge (op_gB fun i j => decide (j ≤ i)) (be_var 5) (be_fe (fe_callB call_len op_len rfl C.n_len boot_len (ba_cons (be_var 3) ba_nil))) (nomark _)) (sb_one (ss_set sc__law_desks.nd rfl (Or.inl rfl) (fe_be (be_fe (fe_mod (be_fe (fe_call k__law_mix (hr.mono (by decide)) rfl C.g__law_mix C.d__law_mix.kp (b__law_mix C) (ba_cons (be_var 0) (ba_cons (be_fe (fe_add be_int (be_var 5))) ba_nil)))) (be_fe (fe_callB call_len op_len rfl C.n_len boot_len (ba_cons (be_var 3) ba_nil)))))))) sb_nil)
    (sb_one (ss_pm (q_ix hu (q_var 4) (be_var 7)) (fa_cons (fe_mod (be_fe (fe_call k__law_mix (hr.mono (by decide)) rfl C.g__law_mix C.d__law_mix.kp (b__law_mix C) (ba_cons (be_var 0) (ba_cons (be_fe (fe_add be_int (be_var 5))) ba_nil)))) (be_fe (fe_add (be_fe (fe_callB call_len op_len rfl C.n_len boot_len (ba_cons (be_ix hu (be_var 4) (be_var 7)) ba_nil))) be_int))) (fa_cons (fe_be (be_var 6)) fa_nil)) act_insert PySem.F.slot_list_insert PySem.F.type_list_insert mt_insert)))))
    (sb_cons (ss_set sc__law_desks.nd rfl (Or.inl rfl) (fe_lst fa_nil))
    (sb_cons (ss_for PassesOwn.never rfl (it_enum rfl C.n_enumerate (ba_cons (be_var 3) ba_nil)) (gs_tup rfl (gss_cons (gs_name sc__law_desks.nd rfl (Or.inl rfl)) (gss_cons (gs_name sc__law_desks.nd rfl (Or.inl rfl)) gss_nil))) (sb_cons (ss_set sc__law_desks.nd rfl (Or.inl rfl) (fe_be (be_ix hu (be_fe (fe_add (be_var 2) (be_fe (fe_lst (fa_cons (fe_be be_str) fa_nil))))) (be_fe (fe_mod (be_fe (fe_call k__law_mix (hr.mono (by decide)) rfl C.g__law_mix C.d__law_mix.kp (b__law_mix C) (ba_cons (be_var 0) (ba_cons (be_fe (fe_add be_int (be_var 5))) ba_nil)))) (be_fe (fe_add (be_fe (fe_callB call_len op_len rfl C.n_len boot_len (ba_cons (be_var 2) ba_nil))) be_int)))))))
    (sb_one (ss_pm (q_var 8) (fa_cons (fe_tup (fa_cons (fe_be (be_var 9)) (fa_cons (fe_be (be_var 10)) (fa_cons (fe_call k__law_rule (hr.mono (by decide)) rfl C.g__law_rule C.d__law_rule.kp (b__law_rule C) (ba_cons (be_fe (fe_call k__law_mix (hr.mono (by decide)) rfl C.g__law_mix C.d__law_mix.kp (b__law_mix C) (ba_cons (be_var 0) (ba_cons (be_fe (fe_add be_int (be_var 5))) ba_nil)))) (ba_cons (be_fe (fe_callB call_len op_len rfl C.n_len boot_len (ba_cons (be_ix hu (be_var 4) (be_var 5)) ba_nil))) ba_nil))) (fa_cons (fe_callTy call_tuple_of op_tuple rfl C.n_tuple boot_tuple (ba_cons (be_ix hu (be_var 4) (be_var 5)) ba_nil)) fa_nil))))) fa_nil) act_append PySem.F.slot_list_append PySem.F.type_list_append mt_append))))
    (sb_one (ss_fz 8 (ss_ret (fe_be (be_var 8))))))))))
theorem ok__law_plant (C : Ctx K mg fd) (L : Lam K mg base T) : FnOk P w K mg base CX0 4 (He.fAd K ("_law_plant", none)) (fd 13) p__law_plant (spF K T 1 f__law_plant) := by
  have k__law_cell_at : FnOk P w K mg base CX0 1 (He.fAd K ("_law_cell_at", none)) (fd 7) p__law_cell_at (spF K T 2 f__law_cell_at) := ok__law_cell_at C L
  have k__law_names : FnOk P w K mg base CX0 2 (He.fAd K ("_law_names", none)) (fd 9) p__law_names (spF K T 2 f__law_names) := ok__law_names C L
  have k__law_mix : FnOk P w K mg base CX0 1 (He.fAd K ("_law_mix", none)) (fd 8) p__law_mix (spF K T 2 f__law_mix) := ok__law_mix C L
  have k__law_desks : FnOk P w K mg base CX0 3 (He.fAd K ("_law_desks", none)) (fd 12) p__law_desks (spF K T 3 f__law_desks) := ok__law_desks C L
  have k__law_greatest : FnOk P w K mg base CX0 1 (He.fAd K ("_law_greatest", none)) (fd 11) p__law_greatest (spF K T 2 f__law_greatest) := ok__law_greatest C L
  refine fn_ok (k := 3) (N := n__law_plant) (ps := p__law_plant) (sm := m__law_plant) C.d__law_plant sc__law_plant fun cdv A outer s H E hr => ?_
  have hu := hr.units
  exact (sb_cons (ss_par3 (i := 1) (j := 2) (l := 3) rfl sc__law_plant.nd rfl rfl rfl (by decide) (by decide) (by decide) rfl rfl rfl (ba_cons (be_fe (fe_call k__law_cell_at (hr.mono (by decide)) rfl C.g__law_cell_at C.d__law_cell_at.kp (b__law_cell_at C) (ba_cons (be_var 0) (ba_cons be_int ba_nil)))) (ba_cons (be_fe (fe_call k__law_cell_at (hr.mono (by decide)) rfl C.g__law_cell_at C.d__law_cell_at.kp (b__law_cell_at C) (ba_cons (be_var 0) (ba_cons be_int ba_nil)))) (ba_cons (be_fe (fe_call k__law_cell_at (hr.mono (by decide)) rfl C.g__law_cell_at C.d__law_cell_at.kp (b__law_cell_at C) (ba_cons (be_var 0) (ba_cons be_int ba_nil)))) ba_nil))))
    (sb_cons (ss_set sc__law_plant.nd rfl (Or.inl rfl) (fe_lst fa_nil))
    (sb_cons (ss_for PassesOwn.never rfl (it_enum rfl C.n_enumerate (ba_cons (be_fe (fe_call k__law_names (hr.mono (by decide)) rfl C.g__law_names C.d__law_names.kp (b__law_names C) (ba_cons (be_var 1) (ba_cons (be_fe (fe_add be_int (be_fe (fe_mod (be_fe (fe_call k__law_mix (hr.mono (by decide)) rfl C.g__law_mix C.d__law_mix.kp (b__law_mix C) (ba_cons (be_var 1) (ba_cons be_int ba_nil)))) be_int)))) ba_nil)))) ba_nil)) (gs_tup rfl (gss_cons (gs_name sc__law_plant.nd rfl (Or.inl rfl)) (gss_cons (gs_name sc__law_plant.nd rfl (Or.inr rfl)) gss_nil))) (sb_cons (ss_set sc__law_plant.nd rfl (Or.inl rfl) (fe_be (be_fe (fe_call k__law_mix (hr.mono (by decide)) rfl C.g__law_mix C.d__law_mix.kp (b__law_mix C) (ba_cons (be_var 1) (ba_cons (be_fe (fe_add be_int (be_var 5))) ba_nil))))))
    (sb_one (ss_pm (q_var 4) (fa_cons (fe_tup (fa_cons (fe_be (be_var 6)) (fa_cons (fe_be (be_ix hu (be_fe (fe_lst (fa_cons (fe_be be_non) (fa_cons (fe_be be_non) (fa_cons (fe_add be_int (be_fe (fe_mod (be_fe (fe_div (be_var 7) be_int)) be_int))) fa_nil))))) (be_fe (fe_mod (be_var 7) be_int)))) fa_nil))) fa_nil) act_append PySem.F.slot_list_append PySem.F.type_list_append mt_append))))
    (sb_cons (ss_set sc__law_plant.nd rfl (Or.inl rfl) (fe_be (be_fe (fe_add be_int (be_fe (fe_mod (be_fe (fe_call k__law_mix (hr.mono (by decide)) rfl C.g__law_mix C.d__law_mix.kp (b__law_mix C) (ba_cons (be_var 2) (ba_cons be_int ba_nil)))) be_int))))))
    (sb_cons (ss_set sc__law_plant.nd rfl (Or.inl rfl) (fe_be (be_fe (fe_call k__law_names (hr.mono (by decide)) rfl C.g__law_names C.d__law_names.kp (b__law_names C) (ba_cons (be_fe (fe_call k__law_mix (hr.mono (by decide)) rfl C.g__law_mix C.d__law_mix.kp (b__law_mix C) (ba_cons (be_var 2) (ba_cons be_int ba_nil)))) (ba_cons (be_fe (fe_add (be_var 8) (be_fe (fe_mod (be_fe (fe_call k__law_mix (hr.mono (by decide)) rfl C.g__law_mix C.d__law_mix.kp (b__law_mix C) (ba_cons (be_var 2) (ba_cons be_int ba_nil)))) be_int)))) ba_nil))))))
    (sb_cons (ss_par (i := 10) (j := 11) rfl sc__law_plant.nd rfl rfl (by decide) rfl rfl (ba_cons (be_fe (fe_sl (be_var 9) bo_none (bo_some (be_var 8)))) (ba_cons (be_fe (fe_sl (be_var 9) (bo_some (be_var 8)) bo_none)) ba_nil)))
    (sb_cons (ss_set sc__law_plant.nd rfl (Or.inl rfl) (fe_be (be_fe (fe_add (be_fe (fe_sl (be_var 9) (bo_some (be_fe (fe_mod (be_fe (fe_call k__law_mix (hr.mono (by decide)) rfl C.g__law_mix C.d__law_mix.kp (b__law_mix C) (ba_cons (be_var 2) (ba_cons be_int ba_nil)))) (be_fe (fe_callB call_len op_len rfl C.n_len boot_len (ba_cons (be_var 9) ba_nil)))))) bo_none)) (be_fe (fe_sl (be_var 9) bo_none (bo_some (be_fe (fe_mod (be_fe (fe_call k__law_mix (hr.mono (by decide)) rfl C.g__law_mix C.d__law_mix.kp (b__law_mix C) (ba_cons (be_var 2) (ba_cons be_int ba_nil)))) (be_fe (fe_callB call_len op_len rfl C.n_len boot_len (ba_cons (be_var 9) ba_nil))))))))))))
    (sb_cons (ss_set sc__law_plant.nd rfl (Or.inl rfl) (fe_be (be_fe (fe_call k__law_desks (hr.mono (by decide)) rfl C.g__law_desks C.d__law_desks.kp (b__law_desks C) (ba_cons (be_var 3) (ba_cons (be_var 12) (ba_cons (be_var 11) ba_nil)))))))
    (sb_cons (ss_set sc__law_plant.nd rfl (Or.inl rfl) (fe_lst fa_nil))
    (sb_cons (ss_for PassesOwn.never rfl (it_enum rfl C.n_enumerate (ba_cons (be_var 11) ba_nil)) (gs_tup rfl (gss_cons (gs_name sc__law_plant.nd rfl (Or.inl rfl)) (gss_cons (gs_name sc__law_plant.nd rfl (Or.inr rfl)) gss_nil))) (sb_cons (ss_setLcF (i := 15) (own := [("_law_desk", 18)]) (g := (gNm 18)) (t := ct0__law_plant) (m := c0__law_plant) rfl sc__law_plant.nd rfl rfl (sw_true rfl rfl rfl (by decide +kernel)) (ic_lt (be_var 13)) (blkOk_by (N := n__law_plant) (sc := defScope s__law_plant) (by decide +kernel)) (fun _ _ _ _ _ => (gs_name sc__law_plant.nd rfl (Or.inl rfl))) (fun _ _ _ _ _ => ics_one (bt_cmp (op_eqP hu) op_gEq (be_ix hu (be_var 18) be_int) (be_var 6) (nomark _))) (fun _ _ _ _ _ => (fe_call k__law_greatest (hr.mono (by decide)) rfl C.g__law_greatest C.d__law_greatest.kp (b__law_greatest C) (ba_cons (be_ix hu (be_var 18) be_int) (ba_cons (be_fe (fe_callB call_len op_len rfl C.n_len boot_len (ba_cons (be_ix hu (be_var 18) be_int) ba_nil))) ba_nil)))) (by decide))
    (sb_one (ss_pm (q_var 14) (fa_cons (fe_tup (fa_cons (fe_be (be_var 6)) (fa_cons (fe_add (be_fe (fe_callB (cr_max rfl) op_max rfl C.n_max boot_max (ba_cons (be_fe (fe_add (be_fe (fe_lst (fa_cons (fe_be be_int) fa_nil))) (be_var 15))) ba_nil))) (be_fe (fe_mod (be_fe (fe_call k__law_mix (hr.mono (by decide)) rfl C.g__law_mix C.d__law_mix.kp (b__law_mix C) (ba_cons (be_var 2) (ba_cons (be_fe (fe_add be_int (be_var 5))) ba_nil)))) be_int))) fa_nil))) fa_nil) act_append PySem.F.slot_list_append PySem.F.type_list_append mt_append))))
    (sb_cons (ss_parO (i := 16) (j := 17) rfl sc__law_plant.nd rfl rfl (by decide) rfl rfl (fa_cons (fe_lst fa_nil) (fa_cons (fe_lst fa_nil) fa_nil)))
    (sb_cons (ss_for PassesOwn.never rfl (it_enum rfl C.n_enumerate (ba_cons (be_var 13) ba_nil)) (gs_tup rfl (gss_cons (gs_name sc__law_plant.nd rfl (Or.inl rfl)) (gss_cons (gs_name sc__law_plant.nd rfl (Or.inl rfl)) gss_nil))) (sb_cons (ss_set sc__law_plant.nd rfl (Or.inl rfl) (fe_be (be_fe (fe_call k__law_mix (hr.mono (by decide)) rfl C.g__law_mix C.d__law_mix.kp (b__law_mix C) (ba_cons (be_var 3) (ba_cons (be_fe (fe_add be_int (be_var 5))) ba_nil))))))
    (sb_cons (ss_fz 4 (ss_for PassesOwn.never rfl (it_enum rfl C.n_enumerate (ba_cons (be_var 4) ba_nil)) (gs_tup rfl (gss_cons (gs_name sc__law_plant.nd rfl (Or.inl rfl)) (gss_cons (gs_name sc__law_plant.nd rfl (Or.inl rfl)) gss_nil))) (sb_one (ss_if (bt_cmp op_gt (op_gB fun i j => decide (j < i)) (be_fe (fe_mod (be_fe (fe_div (be_var 7) (be_fe (fe_add (be_var 19) be_int)))) be_int)) be_int (nomark _)) (sb_one (ss_pm (q_var 16) (fa_cons (fe_tup (fa_cons (fe_be (be_ix hu (be_var 18) be_int)) (fa_cons (fe_be (be_ix hu (be_var 20) be_int)) (fa_cons (fe_add be_int (be_fe (fe_mod (be_fe (fe_div (be_var 7) (be_fe (fe_add (be_fe (fe_mul (be_var 19) (be_var 19))) be_int)))) be_int))) fa_nil)))) fa_nil) act_append PySem.F.slot_list_append PySem.F.type_list_append mt_append)) sb_nil))))
    (sb_one (ss_if (bt_cmp (op_eqP hu) op_gEq (be_fe (fe_mod (be_fe (fe_div (be_var 7) be_int)) be_int)) be_int (nomark _)) (sb_cons (ss_pm (q_var 17) (fa_cons (fe_tup (fa_cons (fe_be (be_ix hu (be_var 18) be_int)) (fa_cons (fe_mod (be_fe (fe_div (be_var 7) be_int)) be_int) (fa_cons (fe_add be_int (be_fe (fe_mod (be_fe (fe_div (be_var 7) be_int)) be_int))) fa_nil)))) fa_nil) act_append PySem.F.slot_list_append PySem.F.type_list_append mt_append)
    (sb_one (ss_pm (q_var 17) (fa_cons (fe_tup (fa_cons (fe_be (be_ix hu (be_var 18) be_int)) (fa_cons (fe_add be_int (be_fe (fe_mod (be_fe (fe_div (be_var 7) be_int)) be_int))) (fa_cons (fe_add be_int (be_fe (fe_mod (be_fe (fe_div (be_var 7) be_int)) be_int))) fa_nil)))) fa_nil) act_append PySem.F.slot_list_append PySem.F.type_list_append mt_append))) sb_nil)))))
    (sb_one (ss_fz 17 (ss_fz 16 (ss_fz 14 (ss_fz 4 (ss_ret (fe_dict (fd_cons (fe_be (be_var 4)) (fd_cons (fe_be (be_var 10)) (fd_cons (fe_be (be_var 14)) (fd_cons (fe_be (be_var 13)) (fd_cons (fe_be (be_var 16)) (fd_cons (fe_be (be_var 17)) (fd_cons (fe_lst fa_nil) fd_nil))))))))))))))))))))))))))
theorem ok__law_alike (C : Ctx K mg fd) (L : Lam K mg base T) : ∀ n : Nat, FnOk P w K mg base CX0 (1 + n) (He.fAd K ("_law_alike", none)) (fd 14) p__law_alike (spF K T 2 (r__law_alike n))
  | 0 => fn_zero (k := 0) (N := n__law_alike) (ps := p__law_alike) C.d__law_alike sc__law_alike
  | n + 1 => by
    have k__law_alike := ok__law_alike C L n
    refine fn_ok (k := 1 + n) (N := n__law_alike) (ps := p__law_alike) (sm := m__law_alike (r__law_alike n)) C.d__law_alike sc__law_alike fun cdv A outer s H E hr => ?_
    have hu := hr.units
    exact (sb_cons (ss_if (bt_isN (be_var 1)) (sb_one (ss_ret (fe_isN (be_var 0)))) sb_nil)
    (sb_cons (ss_if (bt_tru (be_fe (fe_isi (be_var 1) kit_str boot_str rfl C.n_isinstance rfl C.n_str boot_isinstance))) (sb_one (ss_ret (fe_be (be_and (be_fe (fe_isi (be_var 0) kit_str boot_str rfl C.n_isinstance rfl C.n_str boot_isinstance)) (be_one (be_fe (fe_cmp (op_eqP hu) op_gEq (be_var 0) (be_var 1) (nomark _)))))))) sb_nil)
    (sb_cons (ss_if (bt_tru (be_fe (fe_isi (be_var 1) kit_int boot_int rfl C.n_isinstance rfl C.n_int boot_isinstance))) (sb_one (ss_ret (fe_be (be_and (be_fe (fe_isi (be_var 0) kit_int boot_int rfl C.n_isinstance rfl C.n_int boot_isinstance)) (be_and (be_not (be_fe (fe_isi (be_var 0) kit_bool boot_bool rfl C.n_isinstance rfl C.n_bool boot_isinstance))) (be_one (be_fe (fe_cmp (op_eqP hu) op_gEq (be_var 0) (be_var 1) (nomark _))))))))) sb_nil)
    (sb_cons (ss_if (bt_w (wt_or (bt_cmp (op_neP hu) op_gNe (be_fe (fe_isi (be_var 1) kit_tuple boot_tuple rfl C.n_isinstance rfl C.n_tuple boot_isinstance)) (be_fe (fe_isi (be_var 0) kit_tuple boot_tuple rfl C.n_isinstance rfl C.n_tuple boot_isinstance)) (nomark _)) (wt_or1 (bt_cmp (op_neP hu) op_gNe (be_fe (fe_isi (be_var 1) kit_list boot_list rfl C.n_isinstance rfl C.n_list boot_isinstance)) (be_fe (fe_isi (be_var 0) kit_list boot_list rfl C.n_isinstance rfl C.n_list boot_isinstance)) (nomark _))))) (sb_one (ss_ret (fe_be be_bl))) sb_nil)
    (sb_one (ss_ret (fe_be (be_and (be_fe (fe_cmp (op_eqP hu) op_gEq (be_fe (fe_callB call_len op_len rfl C.n_len boot_len (ba_cons (be_var 0) ba_nil))) (be_fe (fe_callB call_len op_len rfl C.n_len boot_len (ba_cons (be_var 1) ba_nil))) (nomark _))) (be_one (be_fe (fe_callB (cr_all rfl) op_all rfl C.n_all boot_all (ba_cons (be_fe (fe_lc (own := [("_law_k", 2)]) (g := (gNm 2)) (t := yesT) (m := (c0__law_alike (r__law_alike n))) rfl sc__law_alike.nd (ic_it (it_r1 rfl C.n_range (ba_cons (be_fe (fe_callB call_len op_len rfl C.n_len boot_len (ba_cons (be_var 1) ba_nil))) ba_nil))) (blkOk_by (N := n__law_alike) (sc := defScope s__law_alike) (by decide +kernel)) (fun _ _ _ _ _ => (gs_name sc__law_alike.nd rfl (Or.inl rfl))) (fun _ _ _ _ _ => ics_nil) (fun _ _ _ _ _ => (fe_call k__law_alike (hr.mono (by omega)) rfl C.g__law_alike C.d__law_alike.kp (b__law_alike C) (ba_cons (be_ix hu (be_var 0) (be_var 2)) (ba_cons (be_ix hu (be_var 1) (be_var 2)) ba_nil)))) (by decide))) ba_nil))))))))))))
theorem ok__law_entries (C : Ctx K mg fd) (L : Lam K mg base T) : FnOk P w K mg base CX0 3 (He.fAd K ("_law_entries", none)) (fd 15) p__law_entries (spF K T 3 f__law_entries) := by
  have k__law_names : FnOk P w K mg base CX0 2 (He.fAd K ("_law_names", none)) (fd 9) p__law_names (spF K T 2 f__law_names) := ok__law_names C L
  have k__law_mix : FnOk P w K mg base CX0 1 (He.fAd K ("_law_mix", none)) (fd 8) p__law_mix (spF K T 2 f__law_mix) := ok__law_mix C L
  refine fn_ok (k := 2) (N := n__law_entries) (ps := p__law_entries) (sm := m__law_entries) C.d__law_entries sc__law_entries fun cdv A outer s H E hr => ?_
  have hu := hr.units
  exact (sb_cons (ss_set sc__law_entries.nd rfl (Or.inl rfl) (fe_be (be_fe (fe_add (be_fe (fe_add (be_fe (fe_lc (own := [("_law_desk", 11)]) (g := (gNm 11)) (t := yesT) (m := c0__law_entries) rfl sc__law_entries.nd (ic_lt (be_ix hu (be_var 1) be_str)) (blkOk_by (N := n__law_entries) (sc := defScope s__law_entries) (by decide +kernel)) (fun _ _ _ _ _ => (gs_name sc__law_entries.nd rfl (Or.inl rfl))) (fun _ _ _ _ _ => ics_nil) (fun _ _ _ _ _ => (fe_be (be_ix hu (be_var 11) be_int))) (by decide))) (be_fe (fe_lst (fa_cons (fe_be be_str) (fa_cons (fe_be be_str) (fa_cons (fe_be be_str) fa_nil))))))) (be_fe (fe_call k__law_names (hr.mono (by decide)) rfl C.g__law_names C.d__law_names.kp (b__law_names C) (ba_cons (be_var 2) (ba_cons be_int ba_nil))))))))
    (sb_cons (ss_set sc__law_entries.nd rfl (Or.inl rfl) (fe_lst fa_nil))
    (sb_cons (ss_for PassesOwn.never rfl (it_enum rfl C.n_enumerate (ba_cons (be_var 0) ba_nil)) (gs_tup rfl (gss_cons (gs_name sc__law_entries.nd rfl (Or.inl rfl)) (gss_cons (gs_name sc__law_entries.nd rfl (Or.inl rfl)) gss_nil))) (sb_cons (ss_set sc__law_entries.nd rfl (Or.inl rfl) (fe_be (be_fe (fe_call k__law_mix (hr.mono (by decide)) rfl C.g__law_mix C.d__law_mix.kp (b__law_mix C) (ba_cons (be_var 6) (ba_cons (be_var 5) ba_nil))))))
    (sb_cons (ss_set sc__law_entries.nd rfl (Or.inl rfl) (fe_be (be_ix hu (be_fe (fe_lst (fa_cons (fe_mod (be_fe (fe_div (be_var 7) be_int)) be_int) (fa_cons (fe_mod (be_fe (fe_div (be_var 7) be_int)) (be_fe (fe_pow be_int be_int))) fa_nil)))) (be_fe (fe_mod (be_fe (fe_div (be_var 7) be_int)) be_int)))))
    (sb_cons (ss_set sc__law_entries.nd rfl (Or.inr rfl) (fe_be (be_ix hu (be_fe (fe_lst (fa_cons (fe_mod (be_fe (fe_div (be_var 7) be_int)) be_int) (fa_cons (fe_mod (be_fe (fe_div (be_var 7) be_int)) (be_fe (fe_pow be_int be_int))) (fa_cons (fe_be be_int) fa_nil))))) (be_fe (fe_mod (be_fe (fe_div (be_var 7) be_int)) be_int)))))
    (sb_one (ss_if (bt_cmp op_lt (op_gB fun i j => decide (i < j)) (be_fe (fe_mod (be_var 7) be_int)) be_int (nomark _)) (sb_one (ss_pm (q_var 4) (fa_cons (fe_tup (fa_cons (fe_be (be_ix hu (be_fe (fe_lst (fa_cons (fe_be be_str) (fa_cons (fe_be be_str) fa_nil)))) (be_fe (fe_mod (be_var 7) be_int)))) (fa_cons (fe_be (be_var 8)) (fa_cons (fe_be (be_var 9)) fa_nil)))) fa_nil) act_append PySem.F.slot_list_append PySem.F.type_list_append mt_append)) (sb_cons (ss_setLcF (i := 10) (own := [("_law_j", 12)]) (g := (gNm 12)) (t := yesT) (m := c1__law_entries) rfl sc__law_entries.nd rfl rfl (sw_true rfl rfl rfl (by decide +kernel)) (ic_it (it_r1 rfl C.n_range (ba_cons (be_fe (fe_add be_int (be_fe (fe_mod (be_fe (fe_div (be_var 7) be_int)) be_int)))) ba_nil))) (blkOk_by (N := n__law_entries) (sc := defScope s__law_entries) (by decide +kernel)) (fun _ _ _ _ _ => (gs_name sc__law_entries.nd rfl (Or.inl rfl))) (fun _ _ _ _ _ => ics_nil) (fun _ _ _ _ _ => (fe_mod (be_fe (fe_add (be_var 9) (be_fe (fe_mul (be_fe (fe_mul (be_var 12) (be_var 12))) be_int)))) (be_fe (fe_pow be_int be_int)))) (by decide))
    (sb_one (ss_pm (q_var 4) (fa_cons (fe_tup (fa_cons (fe_be (be_ix hu (be_fe (fe_lst (fa_cons (fe_be be_str) (fa_cons (fe_be be_str) fa_nil)))) (be_fe (fe_sub (be_fe (fe_mod (be_var 7) be_int)) be_int)))) (fa_cons (fe_be (be_var 8)) (fa_cons (fe_be (be_ix hu (be_var 3) (be_fe (fe_mod (be_fe (fe_div (be_var 7) be_int)) (be_fe (fe_callB call_len op_len rfl C.n_len boot_len (ba_cons (be_var 3) ba_nil))))))) (fa_cons (fe_callTy call_tuple_of op_tuple rfl C.n_tuple boot_tuple (ba_cons (be_var 10) ba_nil)) fa_nil))))) fa_nil) act_append PySem.F.slot_list_append PySem.F.type_list_append mt_append)))))))))
    (sb_one (ss_fz 4 (ss_ret (fe_be (be_var 4))))))))
theorem ok__law_entry_row (C : Ctx K mg fd) (L : Lam K mg base T) : FnOk P w K mg base CX0 1 (He.fAd K ("_law_entry_row", none)) (fd 16) p__law_entry_row (spF K T 1 f__law_entry_row) := by
  refine fn_ok (k := 0) (N := n__law_entry_row) (ps := p__law_entry_row) (sm := m__law_entry_row) C.d__law_entry_row sc__law_entry_row fun cdv A outer s H E hr => ?_
  have hu := hr.units
  exact (sb_cons (ss_if (bt_cmp (op_eqP hu) op_gEq (be_fe (fe_callB call_len op_len rfl C.n_len boot_len (ba_cons (be_var 0) ba_nil))) be_int (nomark _)) (sb_one (ss_ret (fe_sm op_join PySem.F.slot_str_join PySem.F.type_str_join mt_join be_str (ba_cons (be_fe (fe_lst (fa_cons (fe_callTy cr_str op_str rfl C.n_str boot_str (ba_cons (be_ix hu (be_var 0) be_int) ba_nil)) (fa_cons (fe_be (be_ix hu (be_var 0) be_int)) (fa_cons (fe_callTy cr_str op_str rfl C.n_str boot_str (ba_cons (be_ix hu (be_var 0) be_int) ba_nil)) fa_nil))))) ba_nil)))) sb_nil)
    (sb_one (ss_ret (fe_sm op_join PySem.F.slot_str_join PySem.F.type_str_join mt_join be_str (ba_cons (be_fe (fe_add (be_fe (fe_lst (fa_cons (fe_callTy cr_str op_str rfl C.n_str boot_str (ba_cons (be_ix hu (be_var 0) be_int) ba_nil)) (fa_cons (fe_be (be_ix hu (be_var 0) be_int)) (fa_cons (fe_be (be_ix hu (be_var 0) be_int)) fa_nil))))) (be_fe (fe_lc (own := [("_law_good", 1)]) (g := (gNm 1)) (t := yesT) (m := c0__law_entry_row) rfl sc__law_entry_row.nd (ic_lt (be_ix hu (be_var 0) be_int)) (blkOk_by (N := n__law_entry_row) (sc := defScope s__law_entry_row) (by decide +kernel)) (fun _ _ _ _ _ => (gs_name sc__law_entry_row.nd rfl (Or.inl rfl))) (fun _ _ _ _ _ => ics_nil) (fun _ _ _ _ _ => (fe_callTy cr_str op_str rfl C.n_str boot_str (ba_cons (be_var 1) ba_nil))) (by decide))))) ba_nil)))))
theorem ok__law_is_refused (C : Ctx K mg fd) (L : Lam K mg base T) : FnOk P w K mg base CX0 1 (He.fAd K ("_law_is_refused", none)) (fd 17) p__law_is_refused (spF K T 2 f__law_is_refused) := by
  refine fn_ok (k := 0) (N := n__law_is_refused) (ps := p__law_is_refused) (sm := m__law_is_refused) C.d__law_is_refused sc__law_is_refused fun cdv A outer s H E hr => ?_
  have hu := hr.units
  exact (sb_cons (ss_if (bt_w (wt_or (bt_not (bt_tru (be_fe (fe_isE1 C.exf (be_var 0) ex_BadBook rfl C.n_isinstance rfl C.gc_BadBook boot_isinstance)))) (wt_or1 (bt_not (bt_tru (be_fe (fe_isEV C.exf (be_var 0) rfl C.n_isinstance rfl C.n_ValueError boot_isinstance PyProof.Rows.Boot.«ValueError»))))))) (sb_one (ss_ret (fe_be be_bl))) sb_nil)
    (sb_cons (ss_if (bt_tru (be_fe (fe_isE3 C.exf (be_var 0) (ex_cons ex_BadDay (ex_cons ex_BadPlant (ex_cons ex_NoBound ex_nil))) rfl C.n_isinstance rfl C.gc_BadDay rfl C.gc_BadPlant rfl C.gc_NoBound boot_isinstance))) (sb_one (ss_ret (fe_be be_bl))) sb_nil)
    (sb_cons (ss_if (bt_w (wt_or (bt_not (bt_tru (be_fe (fe_isi (be_xv C.exf (be_var 0) fd_place) kit_int boot_int rfl C.n_isinstance rfl C.n_int boot_isinstance)))) (wt_or (bt_tru (be_fe (fe_isi (be_xv C.exf (be_var 0) fd_place) kit_bool boot_bool rfl C.n_isinstance rfl C.n_bool boot_isinstance))) (wt_or1 (bt_not (bt_tru (be_fe (fe_isi (be_xv C.exf (be_var 0) fd_word) kit_str boot_str rfl C.n_isinstance rfl C.n_str boot_isinstance)))))))) (sb_one (ss_ret (fe_be be_bl))) sb_nil)
    (sb_one (ss_ret (fe_cmp (op_eqP hu) op_gEq (be_fe (fe_tup (fa_cons (fe_be (be_xv C.exf (be_var 0) fd_place)) (fa_cons (fe_be (be_xv C.exf (be_var 0) fd_word)) fa_nil)))) (be_var 1) (nomark _)))))))
theorem ok__law_is_name (C : Ctx K mg fd) (L : Lam K mg base T) : FnOk P w K mg base CX0 1 (He.fAd K ("_law_is_name", none)) (fd 18) p__law_is_name (spF K T 1 f__law_is_name) := by
  refine fn_ok (k := 0) (N := n__law_is_name) (ps := p__law_is_name) (sm := m__law_is_name) C.d__law_is_name sc__law_is_name fun cdv A outer s H E hr => ?_
  have hu := hr.units
  exact (sb_cons (ss_if (bt_not (bt_chain op_le op_le (op_gB fun i j => decide (i ≤ j)) (op_gB fun i j => decide (i ≤ j)) be_int (be_fe (fe_callB call_len op_len rfl C.n_len boot_len (ba_cons (be_var 0) ba_nil))) be_int)) (sb_one (ss_ret (fe_be be_bl))) sb_nil)
    (sb_one (ss_ret (fe_callB (cr_all rfl) op_all rfl C.n_all boot_all (ba_cons (be_fe (fe_lc (own := [("_law_sign", 1)]) (g := (gNm 1)) (t := yesT) (m := c0__law_is_name) rfl sc__law_is_name.nd (ic_lts (be_var 0)) (blkOk_by (N := n__law_is_name) (sc := defScope s__law_is_name) (by decide +kernel)) (fun _ _ _ _ _ => (gs_name sc__law_is_name.nd rfl (Or.inl rfl))) (fun _ _ _ _ _ => ics_nil) (fun _ _ _ _ _ => (fe_in hu (be_var 1) be_str (by rfl))) (by decide))) ba_nil)))))
theorem ok__law_number (C : Ctx K mg fd) (L : Lam K mg base T) : FnOk P w K mg base CX0 1 (He.fAd K ("_law_number", none)) (fd 19) p__law_number (spF K T 1 f__law_number) := by
  refine fn_ok (k := 0) (N := n__law_number) (ps := p__law_number) (sm := m__law_number) C.d__law_number sc__law_number fun cdv A outer s H E hr => ?_
  have hu := hr.units
  exact (sb_cons (ss_if (bt_w (wt_or (bt_not (bt_chain op_le op_le (op_gB fun i j => decide (i ≤ j)) (op_gB fun i j => decide (i ≤ j)) be_int (be_fe (fe_callB call_len op_len rfl C.n_len boot_len (ba_cons (be_var 0) ba_nil))) be_int)) (wt_or1 (bt_w (wt_and (bt_cmp (op_eqP hu) op_gEq (be_ix hu (be_var 0) be_int) be_str (nomark _)) (wt_and1 (bt_cmp (op_neP hu) op_gNe (be_var 0) be_str (nomark _)))))))) (sb_one (ss_ret (fe_be be_non))) sb_nil)
    (sb_cons (ss_if (bt_not (bt_tru (be_fe (fe_callB (cr_all rfl) op_all rfl C.n_all boot_all (ba_cons (be_fe (fe_lc (own := [("_law_sign", 1)]) (g := (gNm 1)) (t := yesT) (m := c0__law_number) rfl sc__law_number.nd (ic_lts (be_var 0)) (blkOk_by (N := n__law_number) (sc := defScope s__law_number) (by decide +kernel)) (fun _ _ _ _ _ => (gs_name sc__law_number.nd rfl (Or.inl rfl))) (fun _ _ _ _ _ => ics_nil) (fun _ _ _ _ _ => (fe_in hu (be_var 1) be_str (by rfl))) (by decide))) ba_nil))))) (sb_one (ss_ret (fe_be be_non))) sb_nil)
    (sb_one (ss_ret (fe_callTy cr_int op_int rfl C.n_int boot_int (ba_cons (be_var 0) ba_nil))))))
theorem ok__law_otherwise (C : Ctx K mg fd) (L : Lam K mg base T) : FnOk P w K mg base CX0 1 (He.fAd K ("_law_otherwise", none)) (fd 20) p__law_otherwise (spF K T 2 f__law_otherwise) := by
  refine fn_ok (k := 0) (N := n__law_otherwise) (ps := p__law_otherwise) (sm := m__law_otherwise) C.d__law_otherwise sc__law_otherwise fun cdv A outer s H E hr => ?_
  have hu := hr.units
  exact (sb_cons (ss_set sc__law_otherwise.nd rfl (Or.inl rfl) (fe_sm op_split PySem.F.slot_str_split PySem.F.type_str_split mt_split (be_var 0) (ba_cons be_str ba_nil)))
    (sb_cons (ss_set sc__law_otherwise.nd rfl (Or.inl rfl) (fe_be (be_fe (fe_div (be_var 1) be_int))))
    (sb_cons (ss_set sc__law_otherwise.nd rfl (Or.inl rfl) (fe_be (be_fe (fe_mod (be_var 3) (be_fe (fe_callB call_len op_len rfl C.n_len boot_len (ba_cons (be_var 2) ba_nil)))))))
    (sb_cons (ss_set sc__law_otherwise.nd rfl (Or.inl rfl) (fe_be (be_fe (fe_lst (fa_cons (fe_be be_str) (fa_cons (fe_be be_str) (fa_cons (fe_be be_str) (fa_cons (fe_be be_str) (fa_cons (fe_be be_str) (fa_cons (fe_be be_str) (fa_cons (fe_be be_str) (fa_cons (fe_be be_str) (fa_cons (fe_be be_str) fa_nil)))))))))))))
    (sb_cons (ss_if (bt_cmp (op_eqP hu) op_gEq (be_fe (fe_mod (be_var 1) be_int)) be_int (nomark _)) (sb_one (ss_ret (fe_sm op_join PySem.F.slot_str_join PySem.F.type_str_join mt_join be_str (ba_cons (be_fe (fe_add (be_fe (fe_sl (be_var 2) bo_none (bo_some (be_var 4)))) (be_fe (fe_sl (be_var 2) (bo_some (be_fe (fe_add (be_var 4) be_int))) bo_none)))) ba_nil)))) sb_nil)
    (sb_cons (ss_if (bt_cmp (op_eqP hu) op_gEq (be_fe (fe_mod (be_var 1) be_int)) be_int (nomark _)) (sb_one (ss_ret (fe_sm op_join PySem.F.slot_str_join PySem.F.type_str_join mt_join be_str (ba_cons (be_fe (fe_add (be_fe (fe_add (be_fe (fe_sl (be_var 2) bo_none (bo_some (be_var 4)))) (be_fe (fe_lst (fa_cons (fe_be (be_ix hu (be_var 2) (be_var 4))) (fa_cons (fe_be (be_ix hu (be_fe (fe_lst (fa_cons (fe_be be_str) (fa_cons (fe_be be_str) fa_nil)))) (be_fe (fe_mod (be_fe (fe_div (be_var 3) be_int)) be_int)))) fa_nil)))))) (be_fe (fe_sl (be_fe (fe_sl (be_var 2) (bo_some (be_var 4)) bo_none)) (bo_some be_int) bo_none)))) ba_nil)))) sb_nil)
    (sb_cons (ss_if (bt_cmp (op_eqP hu) op_gEq (be_fe (fe_mod (be_var 1) be_int)) be_int (nomark _)) (sb_one (ss_put hu (fe_be (be_ix hu (be_fe (fe_lst (fa_cons (fe_be be_str) (fa_cons (fe_be be_str) (fa_cons (fe_be be_str) (fa_cons (fe_be be_str) (fa_cons (fe_be be_str) (fa_cons (fe_be be_str) (fa_cons (fe_be be_str) (fa_cons (fe_be be_str) fa_nil)))))))))) (be_fe (fe_mod (be_var 3) be_int)))) (q_var 2) be_int)) (sb_one (ss_if (bt_w (wt_and (bt_cmp (op_eqP hu) op_gEq (be_fe (fe_mod (be_var 1) be_int)) be_int (nomark _)) (wt_and1 (bt_cmp op_gt (op_gB fun i j => decide (j < i)) (be_fe (fe_callB call_len op_len rfl C.n_len boot_len (ba_cons (be_var 2) ba_nil))) be_int (nomark _))))) (sb_one (ss_put hu (fe_be (be_ix hu (be_fe (fe_lst (fa_cons (fe_be be_str) (fa_cons (fe_be be_str) (fa_cons (fe_be be_str) (fa_cons (fe_be be_str) (fa_cons (fe_be be_str) (fa_cons (fe_be be_str) fa_nil)))))))) (be_fe (fe_mod (be_var 3) be_int)))) (q_var 2) be_int)) (sb_cons (ss_setLcF (i := 6) (own := [("_law_k", 7)]) (g := (gNm 7)) (t := ct0__law_otherwise) (m := c0__law_otherwise) rfl sc__law_otherwise.nd rfl rfl (sw_true rfl rfl rfl (by decide +kernel)) (ic_it (it_r1 rfl C.n_range (ba_cons (be_fe (fe_callB call_len op_len rfl C.n_len boot_len (ba_cons (be_var 2) ba_nil))) ba_nil))) (blkOk_by (N := n__law_otherwise) (sc := defScope s__law_otherwise) (by decide +kernel)) (fun _ _ _ _ _ => (gs_name sc__law_otherwise.nd rfl (Or.inl rfl))) (fun _ _ _ _ _ => ics_one (bt_cmp (op_neP hu) op_gNe (be_var 7) be_int (nomark _))) (fun _ _ _ _ _ => (fe_be (be_var 7))) (by decide))
    (sb_one (ss_put hu (fe_be (be_ix hu (be_var 5) (be_fe (fe_mod (be_fe (fe_div (be_var 3) be_int)) be_int)))) (q_var 2) (be_ix hu (be_var 6) (be_fe (fe_mod (be_var 3) (be_fe (fe_callB call_len op_len rfl C.n_len boot_len (ba_cons (be_var 6) ba_nil))))))))))))
    (sb_one (ss_ret (fe_sm op_join PySem.F.slot_str_join PySem.F.type_str_join mt_join be_str (ba_cons (be_var 2) ba_nil)))))))))))
theorem ok__law_told (C : Ctx K mg fd) (L : Lam K mg base T) : FnOk P w K mg base CX0 2 (He.fAd K ("_law_told", none)) (fd 21) p__law_told (spF K T 1 f__law_told) := by
  have k__law_number : FnOk P w K mg base CX0 1 (He.fAd K ("_law_number", none)) (fd 19) p__law_number (spF K T 1 f__law_number) := ok__law_number C L
  have k__law_is_name : FnOk P w K mg base CX0 1 (He.fAd K ("_law_is_name", none)) (fd 18) p__law_is_name (spF K T 1 f__law_is_name) := ok__law_is_name C L
  refine fn_ok (k := 1) (N := n__law_told) (ps := p__law_told) (sm := m__law_told) C.d__law_told sc__law_told fun cdv A outer s H E hr => ?_
  have hu := hr.units
  exact (sb_cons (ss_if (bt_w (wt_or (bt_cmp op_lt (op_gB fun i j => decide (i < j)) (be_fe (fe_callB call_len op_len rfl C.n_len boot_len (ba_cons (be_var 0) ba_nil))) be_int (nomark _)) (wt_or (bt_isN (be_fe (fe_call k__law_number (hr.mono (by decide)) rfl C.g__law_number C.d__law_number.kp (b__law_number C) (ba_cons (be_ix hu (be_var 0) be_int) ba_nil)))) (wt_or1 (bt_notin hu (be_ix hu (be_var 0) be_int) (be_fe (fe_tup (fa_cons (fe_be be_str) (fa_cons (fe_be be_str) (fa_cons (fe_be be_str) (fa_cons (fe_be be_str) fa_nil)))))) (by rfl)))))) (sb_one (ss_ret (fe_be be_non))) sb_nil)
    (sb_cons (ss_set sc__law_told.nd rfl (Or.inl rfl) (fe_be (be_fe (fe_in hu (be_ix hu (be_var 0) be_int) (be_fe (fe_tup (fa_cons (fe_be be_str) (fa_cons (fe_be be_str) fa_nil)))) (by rfl)))))
    (sb_cons (ss_if (bt_w (wt_or (bt_w (wt_and (bt_tru (be_var 1)) (wt_and1 (bt_w (wt_or (bt_cmp op_lt (op_gB fun i j => decide (i < j)) (be_fe (fe_callB call_len op_len rfl C.n_len boot_len (ba_cons (be_var 0) ba_nil))) be_int (nomark _)) (wt_or1 (bt_not (bt_tru (be_fe (fe_call k__law_is_name (hr.mono (by decide)) rfl C.g__law_is_name C.d__law_is_name.kp (b__law_is_name C) (ba_cons (be_ix hu (be_var 0) be_int) ba_nil))))))))))) (wt_or1 (bt_w (wt_and (bt_not (bt_tru (be_var 1))) (wt_and1 (bt_cmp op_gt (op_gB fun i j => decide (j < i)) (be_fe (fe_callB call_len op_len rfl C.n_len boot_len (ba_cons (be_var 0) ba_nil))) be_int (nomark _)))))))) (sb_one (ss_ret (fe_be be_non))) sb_nil)
    (sb_cons (ss_setLcF (i := 2) (own := [("_law_word", 3)]) (g := (gNm 3)) (t := yesT) (m := c0__law_told) rfl sc__law_told.nd rfl rfl (sw_true rfl rfl rfl (by decide +kernel)) (ic_lt (be_fe (fe_sl (be_var 0) (bo_some (be_fe (fe_add be_int (be_fe (fe_callTy cr_int op_int rfl C.n_int boot_int (ba_cons (be_var 1) ba_nil)))))) bo_none))) (blkOk_by (N := n__law_told) (sc := defScope s__law_told) (by decide +kernel)) (fun _ _ _ _ _ => (gs_name sc__law_told.nd rfl (Or.inl rfl))) (fun _ _ _ _ _ => ics_nil) (fun _ _ _ _ _ => (fe_call k__law_number (hr.mono (by decide)) rfl C.g__law_number C.d__law_number.kp (b__law_number C) (ba_cons (be_var 3) ba_nil))) (by decide))
    (sb_cons (ss_if (bt_in hu be_non (be_var 2) (by rfl)) (sb_one (ss_ret (fe_be be_non))) sb_nil)
    (sb_cons (ss_if (bt_tru (be_var 1)) (sb_one (ss_ret (fe_tup (fa_cons (fe_be (be_ix hu (be_var 0) be_int)) (fa_cons (fe_call k__law_number (hr.mono (by decide)) rfl C.g__law_number C.d__law_number.kp (b__law_number C) (ba_cons (be_ix hu (be_var 0) be_int) ba_nil)) (fa_cons (fe_be (be_ix hu (be_var 0) be_int)) (fa_cons (fe_callTy call_tuple_of op_tuple rfl C.n_tuple boot_tuple (ba_cons (be_var 2) ba_nil)) fa_nil))))))) sb_nil)
    (sb_one (ss_ret (fe_tup (fa_cons (fe_be (be_ix hu (be_var 0) be_int)) (fa_cons (fe_call k__law_number (hr.mono (by decide)) rfl C.g__law_number C.d__law_number.kp (b__law_number C) (ba_cons (be_ix hu (be_var 0) be_int) ba_nil)) (fa_cons (fe_be (be_ix hu (be_var 2) be_int)) fa_nil))))))))))))
theorem ok__law_read (C : Ctx K mg fd) (L : Lam K mg base T) : FnOk P w K mg base CX0 3 (He.fAd K ("_law_read", none)) (fd 22) p__law_read (spF K T 1 f__law_read) := by
  have k__law_told : FnOk P w K mg base CX0 2 (He.fAd K ("_law_told", none)) (fd 21) p__law_told (spF K T 1 f__law_told) := ok__law_told C L
  refine fn_ok (k := 2) (N := n__law_read) (ps := p__law_read) (sm := m__law_read) C.d__law_read sc__law_read fun cdv A outer s H E hr => ?_
  have hu := hr.units
  exact (sb_cons (ss_set sc__law_read.nd rfl (Or.inl rfl) (fe_lst fa_nil))
    (sb_cons (ss_for PassesOwn.never rfl (it_enum rfl C.n_enumerate (ba_cons (be_var 0) ba_nil)) (gs_tup rfl (gss_cons (gs_name sc__law_read.nd rfl (Or.inl rfl)) (gss_cons (gs_name sc__law_read.nd rfl (Or.inl rfl)) gss_nil))) (sb_cons (ss_setLcF (i := 4) (own := [("_law_word", 6)]) (g := (gNm 6)) (t := ct0__law_read) (m := c0__law_read) rfl sc__law_read.nd rfl rfl (sw_true rfl rfl rfl (by decide +kernel)) (ic_lt (be_fe (fe_sm op_split PySem.F.slot_str_split PySem.F.type_str_split mt_split (be_var 3) (ba_cons be_str ba_nil)))) (blkOk_by (N := n__law_read) (sc := defScope s__law_read) (by decide +kernel)) (fun _ _ _ _ _ => (gs_name sc__law_read.nd rfl (Or.inl rfl))) (fun _ _ _ _ _ => ics_one (bt_cmp (op_neP hu) op_gNe (be_var 6) be_str (nomark _))) (fun _ _ _ _ _ => (fe_be (be_var 6))) (by decide))
    (sb_one (ss_if (bt_cmp (op_neP hu) op_gNe (be_var 4) (be_fe (fe_lst fa_nil)) (nomark _)) (sb_cons (ss_set sc__law_read.nd rfl (Or.inl rfl) (fe_be (be_fe (fe_call k__law_told (hr.mono (by decide)) rfl C.g__law_told C.d__law_told.kp (b__law_told C) (ba_cons (be_var 4) ba_nil)))))
    (sb_cons (ss_if (bt_isN (be_var 5)) (sb_one (ss_fz 1 (ss_ret (fe_tup (fa_cons (fe_tup (fa_cons (fe_be (be_var 2)) (fa_cons (fe_be be_str) fa_nil))) (fa_cons (fe_be (be_var 1)) fa_nil)))))) sb_nil)
    (sb_one (ss_pm (q_var 1) (fa_cons (fe_be (be_var 5)) fa_nil) act_append PySem.F.slot_list_append PySem.F.type_list_append mt_append)))) sb_nil))))
    (sb_one (ss_fz 1 (ss_ret (fe_tup (fa_cons (fe_be be_non) (fa_cons (fe_be (be_var 1)) fa_nil))))))))
theorem ok_law (C : Ctx K mg fd) (L : Lam K mg base T) : FnOk P w K mg base CX0 8 (He.fAd K ("law", none)) (fd 23) p_law (spF K T 1 f_law) := by
  have kx_read_book : FnOk P w K mg base (L2.CX P w) 4 (He.fAd K ("read_book", none)) (fd 6) p_read_book (spX K T 1 x_read_book) := okx_read_book C L
  have k__law_plant : FnOk P w K mg base CX0 4 (He.fAd K ("_law_plant", none)) (fd 13) p__law_plant (spF K T 1 f__law_plant) := ok__law_plant C L
  have k__law_mix : FnOk P w K mg base CX0 1 (He.fAd K ("_law_mix", none)) (fd 8) p__law_mix (spF K T 2 f__law_mix) := ok__law_mix C L
  have k__law_cell_at : FnOk P w K mg base CX0 1 (He.fAd K ("_law_cell_at", none)) (fd 7) p__law_cell_at (spF K T 2 f__law_cell_at) := ok__law_cell_at C L
  have k__law_entries : FnOk P w K mg base CX0 3 (He.fAd K ("_law_entries", none)) (fd 15) p__law_entries (spF K T 3 f__law_entries) := ok__law_entries C L
  have k__law_entry_row : FnOk P w K mg base CX0 1 (He.fAd K ("_law_entry_row", none)) (fd 16) p__law_entry_row (spF K T 1 f__law_entry_row) := ok__law_entry_row C L
  have k__law_otherwise : FnOk P w K mg base CX0 1 (He.fAd K ("_law_otherwise", none)) (fd 20) p__law_otherwise (spF K T 2 f__law_otherwise) := ok__law_otherwise C L
  have k__law_read : FnOk P w K mg base CX0 3 (He.fAd K ("_law_read", none)) (fd 22) p__law_read (spF K T 1 f__law_read) := ok__law_read C L
  have k_read_book : FnOk P w K mg base CX0 4 (He.fAd K ("read_book", none)) (fd 6) p_read_book (spF K T 1 f_read_book) := ok_read_book C L
  have k__law_is_refused : FnOk P w K mg base CX0 1 (He.fAd K ("_law_is_refused", none)) (fd 17) p__law_is_refused (spF K T 2 f__law_is_refused) := ok__law_is_refused C L
  have k__law_alike : FnOk P w K mg base CX0 7 (He.fAd K ("_law_alike", none)) (fd 14) p__law_alike (spF K T 2 f__law_alike) := ok__law_alike C L 6
  refine fn_ok (k := 7) (N := n_law) (ps := p_law) (sm := m_law) C.d_law sc_law fun cdv A outer s H E hr => ?_
  have hu := hr.units
  exact (sb_cons (ss_set sc_law.nd rfl (Or.inl rfl) (fe_be (be_fe (fe_call k__law_plant (hr.mono (by decide)) rfl C.g__law_plant C.d__law_plant.kp (b__law_plant C) (ba_cons (be_var 0) ba_nil)))))
    (sb_cons (ss_par (i := 2) (j := 3) rfl sc_law.nd rfl rfl (by decide) rfl rfl (ba_cons (be_fe (fe_call k__law_mix (hr.mono (by decide)) rfl C.g__law_mix C.d__law_mix.kp (b__law_mix C) (ba_cons (be_fe (fe_call k__law_cell_at (hr.mono (by decide)) rfl C.g__law_cell_at C.d__law_cell_at.kp (b__law_cell_at C) (ba_cons (be_var 0) (ba_cons be_int ba_nil)))) (ba_cons be_int ba_nil)))) (ba_cons (be_fe (fe_call k__law_mix (hr.mono (by decide)) rfl C.g__law_mix C.d__law_mix.kp (b__law_mix C) (ba_cons (be_fe (fe_call k__law_cell_at (hr.mono (by decide)) rfl C.g__law_cell_at C.d__law_cell_at.kp (b__law_cell_at C) (ba_cons (be_var 0) (ba_cons be_int ba_nil)))) (ba_cons be_int ba_nil)))) ba_nil)))
    (sb_cons (ss_set sc_law.nd rfl (Or.inl rfl) (fe_lst fa_nil))
    (sb_cons (ss_for PassesOwn.never rfl (it_enum rfl C.n_enumerate (ba_cons (be_fe (fe_call k__law_entries (hr.mono (by decide)) rfl C.g__law_entries C.d__law_entries.kp (b__law_entries C) (ba_cons (be_fe (fe_sl (be_var 0) (bo_some be_int) (bo_some be_int))) (ba_cons (be_var 1) (ba_cons (be_var 2) ba_nil))))) ba_nil)) (gs_tup rfl (gss_cons (gs_name sc_law.nd rfl (Or.inl rfl)) (gss_cons (gs_name sc_law.nd rfl (Or.inl rfl)) gss_nil))) (sb_cons (ss_set sc_law.nd rfl (Or.inl rfl) (fe_add (be_var 4) (be_fe (fe_sl (be_fe (fe_lst (fa_cons (fe_be be_str) (fa_cons (fe_be be_str) fa_nil)))) bo_none (bo_some (be_fe (fe_div (be_fe (fe_mod (be_fe (fe_call k__law_mix (hr.mono (by decide)) rfl C.g__law_mix C.d__law_mix.kp (b__law_mix C) (ba_cons (be_var 2) (ba_cons (be_fe (fe_add (be_var 5) be_int)) ba_nil)))) be_int)) be_int)))))))
    (sb_one (ss_pm (q_var 4) (fa_cons (fe_call k__law_entry_row (hr.mono (by decide)) rfl C.g__law_entry_row C.d__law_entry_row.kp (b__law_entry_row C) (ba_cons (be_var 6) ba_nil)) fa_nil) act_append PySem.F.slot_list_append PySem.F.type_list_append mt_append))))
    (sb_cons (ss_set sc_law.nd rfl (Or.inr rfl) (fe_callTy call_list_of op_list rfl C.n_list boot_list (ba_cons (be_var 4) ba_nil)))
    (sb_cons (ss_for PassesOwn.never rfl (it_lt (be_fe (fe_sl (be_fe (fe_lst (fa_cons (fe_be (be_var 2)) (fa_cons (fe_be (be_var 3)) fa_nil)))) bo_none (bo_some (be_fe (fe_add be_int (be_fe (fe_mod (be_fe (fe_div (be_var 3) be_int)) be_int)))))))) (gs_name sc_law.nd rfl (Or.inl rfl)) (sb_cons (ss_setLcF (i := 9) (own := [("_law_k", 5)]) (g := (gNm 5)) (t := ct0_law) (m := c0_law) rfl sc_law.nd rfl rfl (sw_true rfl rfl rfl (by decide +kernel)) (ic_it (it_r1 rfl C.n_range (ba_cons (be_fe (fe_callB call_len op_len rfl C.n_len boot_len (ba_cons (be_var 7) ba_nil))) ba_nil))) (blkOk_by (N := n_law) (sc := defScope s_law) (by decide +kernel)) (fun _ _ _ _ _ => (gs_name sc_law.nd rfl (Or.inl rfl))) (fun _ _ _ _ _ => ics_one (bt_cmp op_gt (op_gB fun i j => decide (j < i)) (be_fe (fe_callB call_len op_len rfl C.n_len boot_len (ba_cons (be_fe (fe_sm op_split PySem.F.slot_str_split PySem.F.type_str_split mt_split (be_ix hu (be_var 7) (be_var 5)) (ba_cons be_str ba_nil))) ba_nil))) be_int (nomark _))) (fun _ _ _ _ _ => (fe_be (be_var 5))) (by decide))
    (sb_one (ss_if (bt_cmp (op_neP hu) op_gNe (be_var 9) (be_fe (fe_lst fa_nil)) (nomark _)) (sb_cons (ss_set sc_law.nd rfl (Or.inl rfl) (fe_be (be_ix hu (be_var 9) (be_fe (fe_mod (be_fe (fe_div (be_var 8) be_int)) (be_fe (fe_callB call_len op_len rfl C.n_len boot_len (ba_cons (be_var 9) ba_nil))))))))
    (sb_one (ss_put hu (fe_call k__law_otherwise (hr.mono (by decide)) rfl C.g__law_otherwise C.d__law_otherwise.kp (b__law_otherwise C) (ba_cons (be_ix hu (be_var 7) (be_var 10)) (ba_cons (be_fe (fe_div (be_var 8) be_int)) ba_nil))) (q_var 7) (be_var 10)))) sb_nil))))
    (sb_cons (ss_fz 4 (ss_fz 7 (ss_asg (be_fe (fe_call k__law_read (hr.mono (by decide)) rfl C.g__law_read C.d__law_read.kp (b__law_read C) (ba_cons (be_var 7) ba_nil))) (gs_tup rfl (gss_cons (gs_name sc_law.nd rfl (Or.inl rfl)) (gss_cons (gs_name sc_law.nd rfl (Or.inl rfl)) gss_nil))))))
    (sb_cons (ss_asg (be_fe (fe_tup (fa_cons (fe_be be_non) (fa_cons (fe_be be_non) fa_nil)))) (gs_tup rfl (gss_cons (gs_name sc_law.nd rfl (Or.inl rfl)) (gss_cons (gs_name sc_law.nd rfl (Or.inl rfl)) gss_nil))))
    (sb_cons (ss_try (i := 15) C.exf rfl rfl sc_law.nd rfl rfl rfl C.gc_MergeError (fun pn xe hp => (ss_set sc_law.nd rfl (Or.inl rfl) (fe_be (be_fe (fe_call k_read_book (hr.mono (by decide)) rfl C.g_read_book C.d_read_book.kp (b_read_book C) (ba_cons (be_fe (fe_sm op_join PySem.F.slot_str_join PySem.F.type_str_join mt_join be_str (ba_cons (be_var 7) ba_nil))) ba_nil)))))) (fun W pn xe tk => rt_set (i := 13) sc_law.nd rfl (Or.inl rfl) (re_call kx_read_book tk (hr.mono (by decide)) rfl C.g_read_book C.d_read_book.kp (b_read_book C) (ba_cons (be_fe (fe_sm op_join PySem.F.slot_str_join PySem.F.type_str_join mt_join be_str (ba_cons (be_var 7) ba_nil))) ba_nil))) (fun a pn => (sb_one (ss_set sc_law.nd rfl (Or.inl rfl) (fe_be (be_var 15))))))
    (sb_cons (ss_if (bt_w (wt_or (bt_w (wt_and (bt_notN (be_var 11)) (wt_and1 (bt_not (bt_tru (be_fe (fe_call k__law_is_refused (hr.mono (by decide)) rfl C.g__law_is_refused C.d__law_is_refused.kp (b__law_is_refused C) (ba_cons (be_var 14) (ba_cons (be_var 11) ba_nil))))))))) (wt_or1 (bt_w (wt_and (bt_isN (be_var 11)) (wt_and1 (bt_not (bt_tru (be_fe (fe_call k__law_alike (hr.mono (by decide)) rfl C.g__law_alike C.d__law_alike.kp (b__law_alike C) (ba_cons (be_var 13) (ba_cons (be_var 12) ba_nil)))))))))))) (sb_one (ss_ret (fe_be be_bl))) sb_nil)
    (sb_one (ss_ret (fe_call k__law_alike (hr.mono (by decide)) rfl C.g__law_alike C.d__law_alike.kp (b__law_alike C) (ba_cons (be_fe (fe_call k_read_book (hr.mono (by decide)) rfl C.g_read_book C.d_read_book.kp (b_read_book C) (ba_cons (be_fe (fe_sm op_join PySem.F.slot_str_join PySem.F.type_str_join mt_join be_str (ba_cons (be_var 4) ba_nil))) ba_nil))) (ba_cons (be_ix hu (be_fe (fe_call k__law_read (hr.mono (by decide)) rfl C.g__law_read C.d__law_read.kp (b__law_read C) (ba_cons (be_var 4) ba_nil))) be_int) ba_nil)))))))))))))))
end
end K44
namespace K44
open PySem PySem.Spec PyProof.Rows L2 VL Mr
section
variable {w : World} {K : PySem.W.Frag} {h : Heap} {mg : Str → Option Value}
theorem facts (X : K.In h) (G : h.Ns mainGlobals mg) (c : He.SaysD fa fn K) (exf : ExF K) : ∃ fd : Nat → FuncData, Ctx K mg fd := by
  obtain ⟨fd0, F0⟩ := c.def_ 0 (d := dd_words_of) rfl
  obtain ⟨fd1, F1⟩ := c.def_ 1 (d := dd_is_name) rfl
  obtain ⟨fd2, F2⟩ := c.def_ 2 (d := dd_number_in) rfl
  obtain ⟨fd3, F3⟩ := c.def_ 3 (d := dd_load_told) rfl
  obtain ⟨fd4, F4⟩ := c.def_ 4 (d := dd_entry_told) rfl
  obtain ⟨fd5, F5⟩ := c.def_ 5 (d := dd_BadBook___init__) rfl
  obtain ⟨fd6, F6⟩ := c.def_ 6 (d := dd_read_book) rfl
  obtain ⟨fd7, F7⟩ := c.def_ 7 (d := dd__law_cell_at) rfl
  obtain ⟨fd8, F8⟩ := c.def_ 8 (d := dd__law_mix) rfl
  obtain ⟨fd9, F9⟩ := c.def_ 9 (d := dd__law_names) rfl
  obtain ⟨fd10, F10⟩ := c.def_ 10 (d := dd__law_rule) rfl
  obtain ⟨fd11, F11⟩ := c.def_ 11 (d := dd__law_greatest) rfl
  obtain ⟨fd12, F12⟩ := c.def_ 12 (d := dd__law_desks) rfl
  obtain ⟨fd13, F13⟩ := c.def_ 13 (d := dd__law_plant) rfl
  obtain ⟨fd14, F14⟩ := c.def_ 14 (d := dd__law_alike) rfl
  obtain ⟨fd15, F15⟩ := c.def_ 15 (d := dd__law_entries) rfl
  obtain ⟨fd16, F16⟩ := c.def_ 16 (d := dd__law_entry_row) rfl
  obtain ⟨fd17, F17⟩ := c.def_ 17 (d := dd__law_is_refused) rfl
  obtain ⟨fd18, F18⟩ := c.def_ 18 (d := dd__law_is_name) rfl
  obtain ⟨fd19, F19⟩ := c.def_ 19 (d := dd__law_number) rfl
  obtain ⟨fd20, F20⟩ := c.def_ 20 (d := dd__law_otherwise) rfl
  obtain ⟨fd21, F21⟩ := c.def_ 21 (d := dd__law_told) rfl
  obtain ⟨fd22, F22⟩ := c.def_ 22 (d := dd__law_read) rfl
  obtain ⟨fd23, F23⟩ := c.def_ 23 (d := dd_law) rfl
  refine ⟨fun i => [fd0, fd1, fd2, fd3, fd4, fd5, fd6, fd7, fd8, fd9, fd10, fd11, fd12, fd13, fd14, fd15, fd16, fd17, fd18, fd19, fd20, fd21, fd22, fd23].getD i fd0, ?_⟩
  exact {
    d_words_of := F0
    g_words_of := He.glo_ok X G (c.fact 0 (f := .glo "words_of") rfl)
    d_is_name := F1
    g_is_name := He.glo_ok X G (c.fact 1 (f := .glo "is_name") rfl)
    d_number_in := F2
    g_number_in := He.glo_ok X G (c.fact 2 (f := .glo "number_in") rfl)
    d_load_told := F3
    g_load_told := He.glo_ok X G (c.fact 3 (f := .glo "load_told") rfl)
    d_entry_told := F4
    g_entry_told := He.glo_ok X G (c.fact 4 (f := .glo "entry_told") rfl)
    d_BadBook___init__ := F5
    d_read_book := F6
    g_read_book := He.glo_ok X G (c.fact 5 (f := .glo "read_book") rfl)
    d__law_cell_at := F7
    g__law_cell_at := He.glo_ok X G (c.fact 6 (f := .glo "_law_cell_at") rfl)
    d__law_mix := F8
    g__law_mix := He.glo_ok X G (c.fact 7 (f := .glo "_law_mix") rfl)
    d__law_names := F9
    g__law_names := He.glo_ok X G (c.fact 8 (f := .glo "_law_names") rfl)
    d__law_rule := F10
    g__law_rule := He.glo_ok X G (c.fact 9 (f := .glo "_law_rule") rfl)
    d__law_greatest := F11
    g__law_greatest := He.glo_ok X G (c.fact 10 (f := .glo "_law_greatest") rfl)
    d__law_desks := F12
    g__law_desks := He.glo_ok X G (c.fact 11 (f := .glo "_law_desks") rfl)
    d__law_plant := F13
    g__law_plant := He.glo_ok X G (c.fact 12 (f := .glo "_law_plant") rfl)
    d__law_alike := F14
    g__law_alike := He.glo_ok X G (c.fact 13 (f := .glo "_law_alike") rfl)
    d__law_entries := F15
    g__law_entries := He.glo_ok X G (c.fact 14 (f := .glo "_law_entries") rfl)
    d__law_entry_row := F16
    g__law_entry_row := He.glo_ok X G (c.fact 15 (f := .glo "_law_entry_row") rfl)
    d__law_is_refused := F17
    g__law_is_refused := He.glo_ok X G (c.fact 16 (f := .glo "_law_is_refused") rfl)
    d__law_is_name := F18
    g__law_is_name := He.glo_ok X G (c.fact 17 (f := .glo "_law_is_name") rfl)
    d__law_number := F19
    g__law_number := He.glo_ok X G (c.fact 18 (f := .glo "_law_number") rfl)
    d__law_otherwise := F20
    g__law_otherwise := He.glo_ok X G (c.fact 19 (f := .glo "_law_otherwise") rfl)
    d__law_told := F21
    g__law_told := He.glo_ok X G (c.fact 20 (f := .glo "_law_told") rfl)
    d__law_read := F22
    g__law_read := He.glo_ok X G (c.fact 21 (f := .glo "_law_read") rfl)
    d_law := F23
    g_law := He.glo_ok X G (c.fact 22 (f := .glo "law") rfl)
    n_ValueError := He.free_ok X G (c.fact 23 (f := .free "ValueError") rfl)
    n_all := He.free_ok X G (c.fact 24 (f := .free "all") rfl)
    n_bool := He.free_ok X G (c.fact 25 (f := .free "bool") rfl)
    n_enumerate := He.free_ok X G (c.fact 26 (f := .free "enumerate") rfl)
    n_int := He.free_ok X G (c.fact 27 (f := .free "int") rfl)
    n_isinstance := He.free_ok X G (c.fact 28 (f := .free "isinstance") rfl)
    n_len := He.free_ok X G (c.fact 29 (f := .free "len") rfl)
    n_list := He.free_ok X G (c.fact 30 (f := .free "list") rfl)
    n_max := He.free_ok X G (c.fact 31 (f := .free "max") rfl)
    n_min := He.free_ok X G (c.fact 32 (f := .free "min") rfl)
    n_range := He.free_ok X G (c.fact 33 (f := .free "range") rfl)
    n_str := He.free_ok X G (c.fact 34 (f := .free "str") rfl)
    n_tuple := He.free_ok X G (c.fact 35 (f := .free "tuple") rfl)
    exf := exf
    s_FIGURES := He.str_ok X G (c.fact 36 (f := .str "FIGURES" "0123456789") rfl)
    s_LETTERS := He.str_ok X G (c.fact 37 (f := .str "LETTERS" "abcdefghijklmnopqrstuvwxyz") rfl)
    gc_MergeError := He.glo_ok X G (c.fact 38 (f := .glo "MergeError") rfl)
    gc_BadBook := He.glo_ok X G (c.fact 39 (f := .glo "BadBook") rfl)
    gc_BadDay := He.glo_ok X G (c.fact 40 (f := .glo "BadDay") rfl)
    gc_BadPlant := He.glo_ok X G (c.fact 41 (f := .glo "BadPlant") rfl)
    gc_NoBound := He.glo_ok X G (c.fact 42 (f := .glo "NoBound") rfl)
  }
theorem lam {base : Heap} (TB : ∀ p ∈ tf.map (He.cT K), LamX.TabB base mg p.1 p.2) : Lam K mg base (tabs K) := {
    ok := trivial
  }
theorem tbs {H : Hp} (hT : ∀ p ∈ tf.map (He.cT K), H p.2 = some (.tbl #[])) : LamX.Tabs (tabs K) H := fun p hp => by
  have : ∃ q ∈ tf, p.1 = (He.cT K q).2 := by
    unfold tabs at hp
    simp at hp
  obtain ⟨q, h1, h2⟩ := this
  exact .nil (by rw [h2]; exact hT _ (List.mem_map.mpr ⟨q, h1, rfl⟩))
end
end K44
namespace K44
theorem plain (ns : List Int) (hl : ns.length ≤ 63) (hb : ∀ z ∈ ns, PySem.Builtin.Int.intBits z ≤ 1048576) : ∃ o svs, Mr.f_law [.frz (.scr ns)] = some (o, svs) ∧ o.toD = .bl true := Pt.plain44 ns
end K44
open PySem PySem.W PySem.Calls PyProof.Rows
theorem PySem.Challenge.cw_mergeline_k44_book_rows_refused_holds : PySem.Challenge.rw_mergeline_k44_book_rows_refused.Holds := by
  w_on; o_law
  refine HandSHeadRun.head_any (r := OpenLaw.row PySem.Challenge.rw_mergeline_k44_book_rows_refused) (q := view (OpenLaw.row PySem.Challenge.rw_mergeline_k44_book_rows_refused).prog [37]) (H := K44.hk) (ob := K44.ob) (M := 4000) (loose := K44.loose) (d := HandSHeadRun.topDef (OpenLaw.row PySem.Challenge.rw_mergeline_k44_book_rows_refused).prog 37) (kwd := []) K44.ob_eq
    (by kernel_rfl) (fun s => by kernel_rfl) K44.run (by kernel_rfl) (by kernel_rfl) (by kernel_rfl) (by rfl) (by first | assumption | decide +kernel) (by decide +kernel) ⟨rfl, rfl, rfl, rfl, rfl, by decide +kernel⟩ ?hw ?hc
  case hw => w_witness2
  case hc =>
    refine LamX.walk_ofTsE (l := PySem.Challenge.rw_mergeline_k44_book_rows_refused) (n := 63) (k := 8) (x := "_law_script") (CX := fun _ => L2.CX0) rfl (by decide) (by kernel_rfl) ⟨rfl, by decide, by decide⟩ ?F (fun _ _ _ _ _ z => z)
    intro w mg fa h Y G hmg0
    obtain ⟨K, KX, c⟩ := Y
    have hmg : mg ("law" : PySem.Str) = some (.ref fa) := by
      have e : (HandSHeadRun.topDef (OpenLaw.row PySem.Challenge.rw_mergeline_k44_book_rows_refused).prog 37).name = ("law" : PySem.Str) := by kernel_rfl
      rw [← e]
      exact hmg0
    obtain ⟨fd, C⟩ := K44.facts KX G c.t.d (VL.exB_ok c.more)
    have e := hmg.symm.trans C.g_law
    cases e
    have b := L2.FunD.bindsA (ps := ["_law_script"]) C.d_law fun _ _ _ _ _ _ us hl => match us, hl with | [_], _ => rfl
    refine ⟨K, KX, fd 23, K44.tf.map (He.cT K), VL.spF K (K44.tabs K) 1 Mr.f_law, fun p hp => ?_, fun p hp => ?_, fun p hp => ?_, fun s v => b s [v] rfl, fun H a ns hl hbits hT hS => ?_, fun base _ _ TB => K44.ok_law C (K44.lam TB)⟩
    · obtain ⟨q, h1, rfl⟩ := List.mem_map.mp hp
      exact c.empty q h1
    · obtain ⟨q, h1, rfl⟩ := List.mem_map.mp hp
      exact c.out q h1
    · obtain ⟨q, h1, rfl⟩ := List.mem_map.mp hp
      exact codeHd_of_K KX (c.hd q h1)
    · obtain ⟨o, svs, e1, e2⟩ := K44.plain ns hl hbits
      exact VL.law_sp (K44.tbs hT) hS e1 e2

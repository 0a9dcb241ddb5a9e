import PyProof.Rows.All
import Wide.All
import OpenK.AllK
import Wide.FinOn
import HandS.ForMost
import HandS.Walk
import HandS.Lambda
import HandS.HeadHook2
import HandS.Style
import HandS.TupAny
import HandS.Deep
import HandS.Codes
import HandS.Conv
import HandS.IsInst
import KE.DataEq
import HandS.SortKw
import HandS.Small
import HandS.RaiseMore
import KE.SortUse
import KE.KLam
import HandS.HeadHook4
import HandS.HeadWalk
import KE.SortData
import HandS.Text
import HandS.Dict
import HandS.More
import HandS.Strs
import HandS.BoundDict
import KE.KDictPairs
import KE.KEqNest
import KE.KDictLaw
import PyProof.EqKinds
import HandS.ListItems
import HandS.List
import KE.DataMinMax
import KE.DataCmp
import HandS.TupSets
import PyProof.Claim2Refuses
import HandS.Head0
import HandS.Head1
import HandS.Head2
import HandS.HeadEnd
import HandS.HeadHook1
import HandS.EndTab
import PySem.Challenge.RW_mergeline_k27_elders_first
set_option Elab.async false
set_option linter.all false
set_option maxRecDepth 100000
set_option maxHeartbeats 0
namespace K27
open PySem PySem.Spec PyProof.Rows L2
def top (i : Nat) : Stmt := PySem.Challenge.pw_mergeline_k27_elders_first.main.body.getD i (.Pass ⟨0, 0, 0, 0⟩)
def clsBody : Stmt → List Stmt
  | .ClassDef _ _ _ body .. => body
  | _ => []
abbrev s_by_age : Stmt := top 1
abbrev n_by_age : List Str := ["rows", "found", "place", "row", "number", "good"]
abbrev p_by_age : List Str := ["rows"]
abbrev s_spots_of : Stmt := top 2
abbrev n_spots_of : List Str := ["found", "since", "place", "number", "good"]
abbrev p_spots_of : List Str := ["found"]
abbrev s_by_turns : Stmt := top 3
abbrev n_by_turns : List Str := ["shares", "rows", "turn", "place", "taken"]
abbrev p_by_turns : List Str := ["shares", "rows", "turn"]
abbrev s_by_rank : Stmt := top 4
abbrev n_by_rank : List Str := ["bound", "rows", "now", "found", "first", "since", "place", "number", "good"]
abbrev p_by_rank : List Str := ["bound", "rows", "now"]
abbrev s_of_one_kind : Stmt := top 5
abbrev n_of_one_kind : List Str := ["most", "rows", "found", "told"]
abbrev p_of_one_kind : List Str := ["most", "rows"]
abbrev s_gathered : Stmt := top 6
abbrev n_gathered : List Str := ["most", "age", "rows", "now", "found"]
abbrev p_gathered : List Str := ["most", "age", "rows", "now"]
abbrev s_first_of : Stmt := top 7
abbrev n_first_of : List Str := ["row", "parcel", "number", "good"]
abbrev p_first_of : List Str := ["row", "parcel"]
abbrev s_met : Stmt := top 8
abbrev n_met : List Str := ["rows", "since", "place", "number", "good", "parcel", "numbers", "row", "at", "first"]
abbrev p_met : List Str := ["rows"]
abbrev s_load_of : Stmt := top 9
abbrev n_load_of : List Str := ["rule", "rows", "turn", "now", "word"]
abbrev p_load_of : List Str := ["rule", "rows", "turn", "now"]
abbrev s__law_cell_at : Stmt := top 11
abbrev n__law_cell_at : List Str := ["_law_script", "_law_k"]
abbrev p__law_cell_at : List Str := ["_law_script", "_law_k"]
abbrev s__law_mix : Stmt := top 12
abbrev n__law_mix : List Str := ["_law_cell", "_law_k", "_law_m"]
abbrev p__law_mix : List Str := ["_law_cell", "_law_k"]
abbrev s__law_rows : Stmt := top 13
abbrev n__law_rows : List Str := ["_law_cells", "_law_many", "_law_rows_here", "_law_k", "_law_cell", "_law_m", "_law_row", "_law_since", "_law_kind"]
abbrev p__law_rows : List Str := ["_law_cells", "_law_many"]
abbrev s__law_latest : Stmt := top 14
abbrev n__law_latest : List Str := ["_law_rows_here", "_law_row"]
abbrev p__law_latest : List Str := ["_law_rows_here"]
abbrev s__law_age : Stmt := top 15
abbrev n__law_age : List Str := ["_law_rows_here", "_law_spot"]
abbrev p__law_age : List Str := ["_law_rows_here", "_law_spot"]
abbrev s__law_stands : Stmt := top 16
abbrev n__law_stands : List Str := ["_law_rows_here", "_law_spots", "_law_spot"]
abbrev p__law_stands : List Str := ["_law_rows_here", "_law_spots"]
abbrev s__law_eldest_so : Stmt := top 17
abbrev n__law_eldest_so : List Str := ["_law_rows_here", "_law_spots", "_law_kind", "_law_ages", "_law_place", "_law_row", "_law_number", "_law_one", "_law_left", "_law_spot"]
abbrev p__law_eldest_so : List Str := ["_law_rows_here", "_law_spots", "_law_kind"]
abbrev s__law_first_of_all : Stmt := top 18
abbrev n__law_first_of_all : List Str := ["_law_rows_here", "_law_ages", "_law_place", "_law_row", "_law_number", "_law_one"]
abbrev p__law_first_of_all : List Str := ["_law_rows_here"]
abbrev s__law_one_parcel : Stmt := top 19
abbrev n__law_one_parcel : List Str := ["_law_rows_here", "_law_spots", "_law_names", "_law_place", "_law_number"]
abbrev p__law_one_parcel : List Str := ["_law_rows_here", "_law_spots"]
abbrev s__law_none_due : Stmt := top 20
abbrev n__law_none_due : List Str := ["_law_rule", "_law_rows_here", "_law_now", "_law_one", "_law_row", "_law_other"]
abbrev p__law_none_due : List Str := ["_law_rule", "_law_rows_here", "_law_now"]
abbrev s__law_right : Stmt := top 21
abbrev n__law_right : List Str := ["_law_rule", "_law_rows_here", "_law_spots", "_law_now", "_law_kind", "_law_kinds", "_law_place", "_law_number"]
abbrev p__law_right : List Str := ["_law_rule", "_law_rows_here", "_law_spots", "_law_now"]
abbrev s_law : Stmt := top 22
abbrev n_law : List Str := ["_law_script", "_law_many", "_law_m", "_law_shares", "_law_rules", "_law_rows_here", "_law_now", "_law_turn", "_law_rule", "_law_found", "_law_k", "_law_row"]
abbrev p_law : List Str := ["_law_script"]
def dd_by_age : He.DefD := ⟨("by_age", none), "by_age", "by_age", defArgs s_by_age, defBody s_by_age, defScope s_by_age, [], []⟩
def dd_spots_of : He.DefD := ⟨("spots_of", none), "spots_of", "spots_of", defArgs s_spots_of, defBody s_spots_of, defScope s_spots_of, [], []⟩
def dd_by_turns : He.DefD := ⟨("by_turns", none), "by_turns", "by_turns", defArgs s_by_turns, defBody s_by_turns, defScope s_by_turns, [], []⟩
def dd_by_rank : He.DefD := ⟨("by_rank", none), "by_rank", "by_rank", defArgs s_by_rank, defBody s_by_rank, defScope s_by_rank, [], []⟩
def dd_of_one_kind : He.DefD := ⟨("of_one_kind", none), "of_one_kind", "of_one_kind", defArgs s_of_one_kind, defBody s_of_one_kind, defScope s_of_one_kind, [], []⟩
def dd_gathered : He.DefD := ⟨("gathered", none), "gathered", "gathered", defArgs s_gathered, defBody s_gathered, defScope s_gathered, [], []⟩
def dd_first_of : He.DefD := ⟨("first_of", none), "first_of", "first_of", defArgs s_first_of, defBody s_first_of, defScope s_first_of, [], []⟩
def dd_met : He.DefD := ⟨("met", none), "met", "met", defArgs s_met, defBody s_met, defScope s_met, [], []⟩
def dd_load_of : He.DefD := ⟨("load_of", none), "load_of", "load_of", defArgs s_load_of, defBody s_load_of, defScope s_load_of, [], []⟩
def dd__law_cell_at : He.DefD := ⟨("_law_cell_at", none), "_law_cell_at", "_law_cell_at", defArgs s__law_cell_at, defBody s__law_cell_at, defScope s__law_cell_at, [], []⟩
def dd__law_mix : He.DefD := ⟨("_law_mix", none), "_law_mix", "_law_mix", defArgs s__law_mix, defBody s__law_mix, defScope s__law_mix, [], []⟩
def dd__law_rows : He.DefD := ⟨("_law_rows", none), "_law_rows", "_law_rows", defArgs s__law_rows, defBody s__law_rows, defScope s__law_rows, [], []⟩
def dd__law_latest : He.DefD := ⟨("_law_latest", none), "_law_latest", "_law_latest", defArgs s__law_latest, defBody s__law_latest, defScope s__law_latest, [], []⟩
def dd__law_age : He.DefD := ⟨("_law_age", none), "_law_age", "_law_age", defArgs s__law_age, defBody s__law_age, defScope s__law_age, [], []⟩
def dd__law_stands : He.DefD := ⟨("_law_stands", none), "_law_stands", "_law_stands", defArgs s__law_stands, defBody s__law_stands, defScope s__law_stands, [], []⟩
def dd__law_eldest_so : He.DefD := ⟨("_law_eldest_so", none), "_law_eldest_so", "_law_eldest_so", defArgs s__law_eldest_so, defBody s__law_eldest_so, defScope s__law_eldest_so, [], []⟩
def dd__law_first_of_all : He.DefD := ⟨("_law_first_of_all", none), "_law_first_of_all", "_law_first_of_all", defArgs s__law_first_of_all, defBody s__law_first_of_all, defScope s__law_first_of_all, [], []⟩
def dd__law_one_parcel : He.DefD := ⟨("_law_one_parcel", none), "_law_one_parcel", "_law_one_parcel", defArgs s__law_one_parcel, defBody s__law_one_parcel, defScope s__law_one_parcel, [], []⟩
def dd__law_none_due : He.DefD := ⟨("_law_none_due", none), "_law_none_due", "_law_none_due", defArgs s__law_none_due, defBody s__law_none_due, defScope s__law_none_due, [], []⟩
def dd__law_right : He.DefD := ⟨("_law_right", none), "_law_right", "_law_right", defArgs s__law_right, defBody s__law_right, defScope s__law_right, [], []⟩
def dd_law : He.DefD := ⟨("law", none), "law", "law", defArgs s_law, defBody s_law, defScope s_law, [], []⟩
def fn : List He.DefD := [dd_by_age, dd_spots_of, dd_by_turns, dd_by_rank, dd_of_one_kind, dd_gathered, dd_first_of, dd_met, dd_load_of, dd__law_cell_at, dd__law_mix, dd__law_rows, dd__law_latest, dd__law_age, dd__law_stands, dd__law_eldest_so, dd__law_first_of_all, dd__law_one_parcel, dd__law_none_due, dd__law_right, dd_law]
def fa : List He.Fa := [.glo "by_age", .glo "spots_of", .glo "by_turns", .glo "by_rank", .glo "of_one_kind", .glo "gathered", .glo "first_of", .glo "met", .glo "load_of", .glo "_law_cell_at", .glo "_law_mix", .glo "_law_rows", .glo "_law_latest", .glo "_law_age", .glo "_law_stands", .glo "_law_eldest_so", .glo "_law_first_of_all", .glo "_law_one_parcel", .glo "_law_none_due", .glo "_law_right", .glo "law", .free "all", .free "enumerate", .free "isinstance", .free "len", .free "list", .free "max", .free "min", .free "range", .free "set", .free "sorted", .free "sum", .free "tuple"]
def tf : List He.Defn := [("by_age", none)]
abbrev R : PySem.W.OpenRow := PySem.W.OpenLaw.row PySem.Challenge.rw_mergeline_k27_elders_first
abbrev hk : PySem.W.Hook := He.hookX 4 fa fn [] tf (fun _ => true)
def ob (s : PySem.W.SharedT) : He.AlX := He.obsX 4 fa fn [] tf (fun _ => true) (HandSHeadRun.getT s)
theorem ob_eq (s : PySem.W.SharedT) : ob s = hk.obs s.abs := He.obsX_eq (HandSHeadRun.getT_eq s)
def loose : List Str := (["by_age", "spots_of", "by_turns", "by_rank", "of_one_kind", "gathered", "first_of", "met", "load_of", "_law_cell_at", "_law_mix", "_law_rows", "_law_latest", "_law_age", "_law_stands", "_law_eldest_so"] : List Str) ++ (["_law_first_of_all", "_law_one_parcel", "_law_none_due", "_law_right"] : List Str)
theorem run (w : World) : HandSHeadRun.RunEq R (PySem.W.view R.prog [22]) hk ob 4000 loose w := by
  intro os
  kernel_rfl
end K27
namespace VL
open PySem PySem.Spec PyProof.Rows L2
/-- plain data -/
inductive D where
  | non | bl (b : Bool) | int (i : Int) | str (x : Str)
  | tup (ds : List D) | lst (ds : List D)
  | dct (kds : List (Key × D)) | dtt (kds : List (List Key × D))
  | ins (C : Str) (fds : List (Str × D))
  | scr (ns : List Int)

/-- data of which some lists, dicts, instances are one's own (may be changed) -/
inductive O where
  | frz (d : D)
  | tup (os : List O) | lst (os : List O)
  | dct (kos : List (Key × O)) | dtt (kos : List (List Key × O))
  | ins (C : Str) (fos : List (Str × O))

mutual
def O.toD : O → D
  | .frz d => d
  | .tup os => .tup (O.toDs os)
  | .lst os => .lst (O.toDs os)
  | .dct kos => .dct (O.toDk kos)
  | .dtt kos => .dtt (O.toDt kos)
  | .ins C fos => .ins C (O.toDf fos)
def O.toDs : List O → List D
  | [] => []
  | o :: os => o.toD :: O.toDs os
def O.toDk : List (Key × O) → List (Key × D)
  | [] => []
  | (k, o) :: os => (k, o.toD) :: O.toDk os
def O.toDt : List (List Key × O) → List (List Key × D)
  | [] => []
  | (k, o) :: os => (k, o.toD) :: O.toDt os
def O.toDf : List (Str × O) → List (Str × D)
  | [] => []
  | (k, o) :: os => (k, o.toD) :: O.toDf os
end
theorem O.toDs_map (os : List O) : O.toDs os = os.map O.toD := by
  induction os with
  | nil => rw [O.toDs]; rfl
  | cons o os ih => rw [O.toDs, ih]; rfl
theorem O.toDk_map (os : List (Key × O)) : O.toDk os = os.map fun p => (p.1, p.2.toD) := by
  induction os with
  | nil => rw [O.toDk]; rfl
  | cons o os ih => obtain ⟨k, o⟩ := o; rw [O.toDk, ih]; rfl
theorem O.toDt_map (os : List (List Key × O)) : O.toDt os = os.map fun p => (p.1, p.2.toD) := by
  induction os with
  | nil => rw [O.toDt]; rfl
  | cons o os ih => obtain ⟨k, o⟩ := o; rw [O.toDt, ih]; rfl
theorem O.toDf_map (os : List (Str × O)) : O.toDf os = os.map fun p => (p.1, p.2.toD) := by
  induction os with
  | nil => rw [O.toDf]; rfl
  | cons o os ih => obtain ⟨k, o⟩ := o; rw [O.toDf, ih]; rfl

mutual
/-- d can be seen at v in H -/
inductive Vw (K : PySem.W.Frag) (H : Hp) : V → D → Prop
  | non : Vw K H .non .non
  | bl (b : Bool) : Vw K H (.bl b) (.bl b)
  | int (i : Int) : Vw K H (.int i) (.int i)
  | str (x : Str) : Vw K H (.str x) (.str x)
  | tup {a : Addr} {vs : List V} {ds : List D} : H a = some (.tup vs) → VwL K H vs ds → Vw K H (.ref a) (.tup ds)
  | lst {a : Addr} {vs : List V} {ds : List D} : H a = some (.lst vs) → VwL K H vs ds → Vw K H (.ref a) (.lst ds)
  | dct {a : Addr} {kvs : List (Key × V)} {kds : List (Key × D)} : Rd H a (.dK kvs) → kvs.map Prod.fst = kds.map Prod.fst → VwL K H (kvs.map Prod.snd) (kds.map Prod.snd) → Vw K H (.ref a) (.dct kds)
  | dtt {a : Addr} {kvs : List (List Key × V)} {kds : List (List Key × D)} : Rd H a (.dT kvs) → kvs.map Prod.fst = kds.map Prod.fst → VwL K H (kvs.map Prod.snd) (kds.map Prod.snd) → Vw K H (.ref a) (.dtt kds)
  | ins {a dx : Addr} {C : Str} {fs : List (Str × V)} {fds : List (Str × D)} : H a = some (.ins (He.ga K C) dx fs) → fs.map Prod.fst = fds.map Prod.fst → VwL K H (fs.map Prod.snd) (fds.map Prod.snd) → Vw K H (.ref a) (.ins C fds)
  | scr {a : Addr} {ns : List Int} : SqL K H a (ns.map V.int) → Vw K H (.ref a) (.scr ns)
inductive VwL (K : PySem.W.Frag) (H : Hp) : List V → List D → Prop
  | nil : VwL K H [] []
  | cons {v : V} {vs : List V} {d : D} {ds : List D} : Vw K H v d → VwL K H vs ds → VwL K H (v :: vs) (d :: ds)
end
def isDict : HO → Bool
  | .dK _ => true
  | .dT _ => true
  | _ => false
/-- what F holds is to be read in H: a dict may be locked there -/
def SubN (F H : Hp) : Prop := ∀ a u, F a = some u → (∀ ps, u ≠ .tbl ps) → H a = some u ∨ (isDict u = true ∧ ∃ o, H a = some (.frz o u))
theorem SubN.refl (H : Hp) : SubN H H := fun _ _ e _ => .inl e
theorem SubN.of {F H : Hp} (h : ∀ a u, F a = some u → H a = some u) : SubN F H := fun a u e _ => .inl (h a u e)
theorem SubN.ext {F H : Hp} (h : LamX.ExtN F H) : SubN F H := fun a u e n => .inl (h a u e n)
theorem SubN.trans {F G H : Hp} (x : SubN F G) (y : SubN G H) : SubN F H := fun a u e n => by
  rcases x a u e n with e1 | ⟨d, o, e1⟩
  · exact y a u e1 n
  · rcases y a _ e1 (fun ps z => by cases z) with e2 | ⟨d2, _⟩
    · exact .inr ⟨d, o, e2⟩
    · cases d2
theorem SubN.at {F H : Hp} (x : SubN F H) {a : Addr} {u : HO} (e : F a = some u) (n : ∀ ps, u ≠ .tbl ps) (nd : isDict u = false) : H a = some u := by
  rcases x a u e n with h | ⟨d, _⟩
  · exact h
  · rw [nd] at d; cases d
theorem SubN.rd {F H : Hp} (x : SubN F H) {a : Addr} {u : HO} (e : Rd F a u) (n : ∀ ps, u ≠ .tbl ps) : Rd H a u := by
  rcases e with e | ⟨o, e⟩
  · rcases x a u e n with h | ⟨_, h⟩
    · exact .inl h
    · exact .inr h
  · exact .inr ⟨o, x.at e (fun ps z => by cases z) rfl⟩

theorem SubN.sql {K : PySem.W.Frag} {F H : Hp} (x : SubN F H) {a : Addr} {xs : List V} (h : SqL K F a xs) : SqL K H a xs := h.imp (fun h => x.rd h (fun _ z => by cases z)) id
section
variable {K : PySem.W.Frag} {F H : Hp}
mutual
theorem Vw.sub (s : SubN F H) : ∀ {v : V} {d : D}, Vw K F v d → Vw K H v d
  | _, _, .non => .non
  | _, _, .bl b => .bl b
  | _, _, .int i => .int i
  | _, _, .str x => .str x
  | _, _, .tup h l => .tup (s.at h (fun _ z => by cases z) rfl) (VwL.sub s l)
  | _, _, .lst h l => .lst (s.at h (fun _ z => by cases z) rfl) (VwL.sub s l)
  | _, _, .dct h e l => .dct (s.rd h (fun _ z => by cases z)) e (VwL.sub s l)
  | _, _, .dtt h e l => .dtt (s.rd h (fun _ z => by cases z)) e (VwL.sub s l)
  | _, _, .ins h e l => .ins (s.at h (fun _ z => by cases z) rfl) e (VwL.sub s l)
  | _, _, .scr h => .scr (s.sql h)
theorem VwL.sub (s : SubN F H) : ∀ {vs : List V} {ds : List D}, VwL K F vs ds → VwL K H vs ds
  | _, _, .nil => .nil
  | _, _, .cons h l => .cons (Vw.sub s h) (VwL.sub s l)
end
theorem VwL.length : ∀ {vs : List V} {ds : List D}, VwL K H vs ds → vs.length = ds.length
  | _, _, .nil => rfl
  | _, _, .cons _ l => by rw [List.length_cons, List.length_cons, VwL.length l]
theorem VwL.get : ∀ {vs : List V} {ds : List D} {i : Nat} {d : D}, VwL K H vs ds → ds[i]? = some d → ∃ v, vs[i]? = some v ∧ Vw K H v d
  | _, _, _, _, .nil, e => by simp at e
  | _, _, 0, _, .cons h _, e => by simp at e; subst e; exact ⟨_, rfl, h⟩
  | _, _, i + 1, _, .cons _ l, e => by simpa using VwL.get (i := i) l (by simpa using e)
theorem VwL.get' : ∀ {vs : List V} {ds : List D} {i : Nat} {v : V}, VwL K H vs ds → vs[i]? = some v → ∃ d, ds[i]? = some d ∧ Vw K H v d
  | _, _, _, _, .nil, e => by simp at e
  | _, _, 0, _, .cons h _, e => by simp at e; subst e; exact ⟨_, rfl, h⟩
  | _, _, i + 1, _, .cons _ l, e => by simpa using VwL.get' (i := i) l (by simpa using e)
theorem VwL.append : ∀ {vs ws : List V} {ds es : List D}, VwL K H vs ds → VwL K H ws es → VwL K H (vs ++ ws) (ds ++ es)
  | _, _, _, _, .nil, s => s
  | _, _, _, _, .cons r t, s => .cons r (VwL.append t s)
theorem VwL.take : ∀ {vs : List V} {ds : List D} (n : Nat), VwL K H vs ds → VwL K H (vs.take n) (ds.take n)
  | _, _, 0, _ => .nil
  | _, _, _ + 1, .nil => .nil
  | _, _, n + 1, .cons r t => .cons r (VwL.take n t)
theorem VwL.drop : ∀ {vs : List V} {ds : List D} (n : Nat), VwL K H vs ds → VwL K H (vs.drop n) (ds.drop n)
  | _, _, 0, r => r
  | _, _, _ + 1, .nil => .nil
  | _, _, n + 1, .cons _ t => VwL.drop n t
theorem VwL.ints : ∀ {vs : List V} {ns : List Int}, VwL K H vs (ns.map D.int) → vs = ns.map V.int
  | _, [], .nil => rfl
  | _, n :: ns, .cons (.int _) t => by rw [List.map_cons, VwL.ints (ns := ns) t]
theorem VwL.of_ints : ∀ ns : List Int, VwL K H (ns.map V.int) (ns.map D.int)
  | [] => .nil
  | n :: ns => .cons (.int n) (VwL.of_ints ns)
theorem VwL.strs : ∀ {vs : List V} {ns : List Str}, VwL K H vs (ns.map D.str) → vs = ns.map V.str
  | _, [], .nil => rfl
  | _, n :: ns, .cons (.str _) t => by rw [List.map_cons, VwL.strs (ns := ns) t]
theorem VwL.bls : ∀ {vs : List V} {ns : List Bool}, VwL K H vs (ns.map D.bl) → vs = ns.map V.bl
  | _, [], .nil => rfl
  | _, n :: ns, .cons (.bl _) t => by rw [List.map_cons, VwL.bls (ns := ns) t]
end
mutual
/-- never changed: no list, dict, instance within -/
def D.imm : D → Bool
  | .non => true
  | .bl _ => true
  | .int _ => true
  | .str _ => true
  | .tup ds => D.imms ds
  | .lst _ => false
  | .dct _ => false
  | .dtt _ => false
  | .ins _ _ => false
  | .scr _ => false
def D.imms : List D → Bool
  | [] => true
  | d :: ds => d.imm && D.imms ds
end
/-- the same keys, each once -/
structure KyEq {κ : Type} (kvs : List (κ × V)) (kos : List (κ × O)) : Prop where
  eq : kvs.map Prod.fst = kos.map Prod.fst
  nd : (kos.map Prod.fst).Nodup
mutual
/-- o lies at v: what is frozen stands in F, what is owned in H at the addresses A -/
inductive Ro (K : PySem.W.Frag) (F H : Hp) : V → O → List Addr → Prop
  | frz {v : V} {d : D} : Vw K F v d → Ro K F H v (.frz d) []
  | tup {a : Addr} {vs : List V} {os : List O} {A : List Addr} : F a = some (.tup vs) → RoL K F H vs os A → Ro K F H (.ref a) (.tup os) A
  | lst {a : Addr} {vs : List V} {os : List O} {A : List Addr} : F a = none → H a = some (.lst vs) → RoL K F H vs os A → Ro K F H (.ref a) (.lst os) (a :: A)
  | dct {a : Addr} {kvs : List (Key × V)} {kos : List (Key × O)} {A : List Addr} : F a = none → H a = some (.dK kvs) → KyEq kvs kos → RoL K F H (kvs.map Prod.snd) (kos.map Prod.snd) A → Ro K F H (.ref a) (.dct kos) (a :: A)
  | dtt {a : Addr} {kvs : List (List Key × V)} {kos : List (List Key × O)} {A : List Addr} : F a = none → H a = some (.dT kvs) → KyEq kvs kos → RoL K F H (kvs.map Prod.snd) (kos.map Prod.snd) A → Ro K F H (.ref a) (.dtt kos) (a :: A)
  | ins {a dx : Addr} {C : Str} {fs : List (Str × V)} {fos : List (Str × O)} {A : List Addr} : F a = none → H a = some (.ins (He.ga K C) dx fs) → fs.map Prod.fst = fos.map Prod.fst → RoL K F H (fs.map Prod.snd) (fos.map Prod.snd) A → Ro K F H (.ref a) (.ins C fos) (a :: A)
inductive RoL (K : PySem.W.Frag) (F H : Hp) : List V → List O → List Addr → Prop
  | nil : RoL K F H [] [] []
  | cons {v : V} {vs : List V} {o : O} {os : List O} {A B : List Addr} : Ro K F H v o A → RoL K F H vs os B → RoL K F H (v :: vs) (o :: os) (A ++ B)
end
section
variable {K : PySem.W.Frag} {F H F' H' : Hp}
theorem toDk_fst (kos : List (Key × O)) : (O.toDk kos).map Prod.fst = kos.map Prod.fst := by rw [O.toDk_map, List.map_map]; rfl
theorem toDk_snd (kos : List (Key × O)) : (O.toDk kos).map Prod.snd = O.toDs (kos.map Prod.snd) := by rw [O.toDk_map, O.toDs_map, List.map_map, List.map_map]; rfl
theorem toDt_fst (kos : List (List Key × O)) : (O.toDt kos).map Prod.fst = kos.map Prod.fst := by rw [O.toDt_map, List.map_map]; rfl
theorem toDt_snd (kos : List (List Key × O)) : (O.toDt kos).map Prod.snd = O.toDs (kos.map Prod.snd) := by rw [O.toDt_map, O.toDs_map, List.map_map, List.map_map]; rfl
theorem toDf_fst (kos : List (Str × O)) : (O.toDf kos).map Prod.fst = kos.map Prod.fst := by rw [O.toDf_map, List.map_map]; rfl
theorem toDf_snd (kos : List (Str × O)) : (O.toDf kos).map Prod.snd = O.toDs (kos.map Prod.snd) := by rw [O.toDf_map, O.toDs_map, List.map_map, List.map_map]; rfl
mutual
/-- what is owned can be seen -/
theorem Ro.vw (s : SubN F H) : ∀ {v : V} {o : O} {A : List Addr}, Ro K F H v o A → Vw K H v o.toD
  | _, _, _, .frz h => by rw [O.toD]; exact h.sub s
  | _, _, _, .tup h l => by rw [O.toD]; exact .tup (s.at h (fun _ z => by cases z) rfl) (RoL.vw s l)
  | _, _, _, .lst _ h l => by rw [O.toD]; exact .lst h (RoL.vw s l)
  | _, _, _, .dct _ h e l => by rw [O.toD]; exact .dct (.inl h) (by rw [toDk_fst]; exact e.eq) (by rw [toDk_snd]; exact RoL.vw s l)
  | _, _, _, .dtt _ h e l => by rw [O.toD]; exact .dtt (.inl h) (by rw [toDt_fst]; exact e.eq) (by rw [toDt_snd]; exact RoL.vw s l)
  | _, _, _, .ins _ h e l => by rw [O.toD]; exact .ins h (by rw [toDf_fst]; exact e) (by rw [toDf_snd]; exact RoL.vw s l)
theorem RoL.vw (s : SubN F H) : ∀ {vs : List V} {os : List O} {A : List Addr}, RoL K F H vs os A → VwL K H vs (O.toDs os)
  | _, _, _, .nil => by rw [O.toDs]; exact .nil
  | _, _, _, .cons h l => by rw [O.toDs]; exact .cons (Ro.vw s h) (RoL.vw s l)
end
mutual
/-- the frozen part grows elsewhere, the owned objects stay -/
theorem Ro.keep (f : ∀ a u, F a = some u → F' a = some u) : ∀ {v : V} {o : O} {A : List Addr}, Ro K F H v o A → (∀ a ∈ A, F' a = none ∧ H' a = H a) → Ro K F' H' v o A
  | _, _, _, .frz h, _ => .frz (h.sub (.of f))
  | _, _, _, .tup h l, k => .tup (f _ _ h) (RoL.keep f l k)
  | _, _, _, .lst _ h l, k => .lst (k _ List.mem_cons_self).1 ((k _ List.mem_cons_self).2.trans h) (RoL.keep f l fun b hb => k b (List.mem_cons_of_mem _ hb))
  | _, _, _, .dct _ h e l, k => .dct (k _ List.mem_cons_self).1 ((k _ List.mem_cons_self).2.trans h) e (RoL.keep f l fun b hb => k b (List.mem_cons_of_mem _ hb))
  | _, _, _, .dtt _ h e l, k => .dtt (k _ List.mem_cons_self).1 ((k _ List.mem_cons_self).2.trans h) e (RoL.keep f l fun b hb => k b (List.mem_cons_of_mem _ hb))
  | _, _, _, .ins _ h e l, k => .ins (k _ List.mem_cons_self).1 ((k _ List.mem_cons_self).2.trans h) e (RoL.keep f l fun b hb => k b (List.mem_cons_of_mem _ hb))
theorem RoL.keep (f : ∀ a u, F a = some u → F' a = some u) : ∀ {vs : List V} {os : List O} {A : List Addr}, RoL K F H vs os A → (∀ a ∈ A, F' a = none ∧ H' a = H a) → RoL K F' H' vs os A
  | _, _, _, .nil, _ => .nil
  | _, _, _, .cons h l, k => .cons (Ro.keep f h fun b hb => k b (List.mem_append_left _ hb)) (RoL.keep f l fun b hb => k b (List.mem_append_right _ hb))
end
/-- an object of one's own -/
def ownable : HO → Bool
  | .lst _ => true
  | .dK _ => true
  | .dT _ => true
  | .ins _ _ _ => true
  | _ => false
mutual
theorem Ro.mem : ∀ {v : V} {o : O} {A : List Addr}, Ro K F H v o A → ∀ a ∈ A, F a = none ∧ ∃ u, H a = some u ∧ ownable u = true
  | _, _, _, .frz _, _, hb => by cases hb
  | _, _, _, .tup _ l, _, hb => RoL.mem l _ hb
  | _, _, _, .lst f h l, b, hb => by
    rcases List.mem_cons.mp hb with e | hb
    · rw [e]; exact ⟨f, _, h, rfl⟩
    · exact RoL.mem l _ hb
  | _, _, _, .dct f h _ l, b, hb => by
    rcases List.mem_cons.mp hb with e | hb
    · rw [e]; exact ⟨f, _, h, rfl⟩
    · exact RoL.mem l _ hb
  | _, _, _, .dtt f h _ l, b, hb => by
    rcases List.mem_cons.mp hb with e | hb
    · rw [e]; exact ⟨f, _, h, rfl⟩
    · exact RoL.mem l _ hb
  | _, _, _, .ins f h _ l, b, hb => by
    rcases List.mem_cons.mp hb with e | hb
    · rw [e]; exact ⟨f, _, h, rfl⟩
    · exact RoL.mem l _ hb
theorem RoL.mem : ∀ {vs : List V} {os : List O} {A : List Addr}, RoL K F H vs os A → ∀ a ∈ A, F a = none ∧ ∃ u, H a = some u ∧ ownable u = true
  | _, _, _, .nil, _, hb => by cases hb
  | _, _, _, .cons h l, b, hb => (List.mem_append.mp hb).elim (Ro.mem h b) (RoL.mem l b)
end
/-- all that is owned at A is laid into the frozen part -/
def fz (F H : Hp) (A : List Addr) : Hp := fun a => if a ∈ A then H a else F a
theorem fz_in {A : List Addr} {a : Addr} (h : a ∈ A) : fz F H A a = H a := if_pos h
theorem fz_out {A : List Addr} {a : Addr} (h : a ∉ A) : fz F H A a = F a := if_neg h
mutual
theorem Ro.fzn {G : Hp} (f : ∀ a u, F a = some u → G a = some u) : ∀ {v : V} {o : O} {A : List Addr}, Ro K F H v o A → (∀ a ∈ A, G a = H a) → Vw K G v o.toD
  | _, _, _, .frz h, _ => by rw [O.toD]; exact h.sub (.of f)
  | _, _, _, .tup h l, k => by rw [O.toD]; exact .tup (f _ _ h) (RoL.fzn f l k)
  | _, _, _, .lst _ h l, k => by rw [O.toD]; exact .lst ((k _ List.mem_cons_self).trans h) (RoL.fzn f l fun b hb => k b (List.mem_cons_of_mem _ hb))
  | _, _, _, .dct _ h e l, k => by rw [O.toD]; exact .dct (.inl ((k _ List.mem_cons_self).trans h)) (by rw [toDk_fst]; exact e.eq) (by rw [toDk_snd]; exact RoL.fzn f l fun b hb => k b (List.mem_cons_of_mem _ hb))
  | _, _, _, .dtt _ h e l, k => by rw [O.toD]; exact .dtt (.inl ((k _ List.mem_cons_self).trans h)) (by rw [toDt_fst]; exact e.eq) (by rw [toDt_snd]; exact RoL.fzn f l fun b hb => k b (List.mem_cons_of_mem _ hb))
  | _, _, _, .ins _ h e l, k => by rw [O.toD]; exact .ins ((k _ List.mem_cons_self).trans h) (by rw [toDf_fst]; exact e) (by rw [toDf_snd]; exact RoL.fzn f l fun b hb => k b (List.mem_cons_of_mem _ hb))
theorem RoL.fzn {G : Hp} (f : ∀ a u, F a = some u → G a = some u) : ∀ {vs : List V} {os : List O} {A : List Addr}, RoL K F H vs os A → (∀ a ∈ A, G a = H a) → VwL K G vs (O.toDs os)
  | _, _, _, .nil, _ => by rw [O.toDs]; exact .nil
  | _, _, _, .cons h l, k => by rw [O.toDs]; exact .cons (Ro.fzn f h fun b hb => k b (List.mem_append_left _ hb)) (RoL.fzn f l fun b hb => k b (List.mem_append_right _ hb))
end
mutual
/-- what is never changed is read in whatever holds the tuples -/
theorem Vw.immv {G : Hp} (t : ∀ a vs, H a = some (.tup vs) → G a = some (.tup vs)) : ∀ {v : V} {d : D}, Vw K H v d → d.imm = true → Vw K G v d
  | _, _, .non, _ => .non
  | _, _, .bl b, _ => .bl b
  | _, _, .int i, _ => .int i
  | _, _, .str x, _ => .str x
  | _, _, .tup h l, e => .tup (t _ _ h) (VwL.immv t l (by rw [D.imm] at e; exact e))
  | _, _, .lst _ _, e => by rw [D.imm] at e; cases e
  | _, _, .dct _ _ _, e => by rw [D.imm] at e; cases e
  | _, _, .dtt _ _ _, e => by rw [D.imm] at e; cases e
  | _, _, .ins _ _ _, e => by rw [D.imm] at e; cases e
  | _, _, .scr _, e => by rw [D.imm] at e; cases e
theorem VwL.immv {G : Hp} (t : ∀ a vs, H a = some (.tup vs) → G a = some (.tup vs)) : ∀ {vs : List V} {ds : List D}, VwL K H vs ds → D.imms ds = true → VwL K G vs ds
  | _, _, .nil, _ => .nil
  | _, _, .cons h l, e => by
    rw [D.imms] at e
    obtain ⟨e1, e2⟩ := Bool.and_eq_true_iff.mp e
    exact .cons (Vw.immv t h e1) (VwL.immv t l e2)
end
theorem RoL.length : ∀ {vs : List V} {os : List O} {A : List Addr}, RoL K F H vs os A → vs.length = os.length
  | _, _, _, .nil => rfl
  | _, _, _, .cons _ l => by rw [List.length_cons, List.length_cons, RoL.length l]
/-- the i-th, and the rest -/
theorem RoL.at : ∀ {vs : List V} {os : List O} {A : List Addr} {i : Nat} {o : O}, RoL K F H vs os A → os[i]? = some o →
    ∃ v A1 B A2, vs[i]? = some v ∧ A = A1 ++ B ++ A2 ∧ Ro K F H v o B ∧ ∀ (F' H' : Hp) (v' : V) (o' : O) (B' : List Addr), (∀ a u, F a = some u → F' a = some u) → (∀ a ∈ A1 ++ A2, F' a = none ∧ H' a = H a) → Ro K F' H' v' o' B' → RoL K F' H' (vs.set i v') (os.set i o') (A1 ++ B' ++ A2)
  | _, _, _, _, _, .nil, e => by simp at e
  | _, _, _, 0, _, .cons (B := B) (A := A) h l, e => by
    simp at e; subst e
    refine ⟨_, [], A, B, rfl, by simp, h, fun F' H' v' o' B' f k r => ?_⟩
    simp only [List.set_cons_zero, List.nil_append]
    exact .cons r (l.keep f (by simpa using k))
  | _, _, _, i + 1, _, .cons (A := A) h l, e => by
    obtain ⟨v, A1, B, A2, e1, e2, r, w⟩ := RoL.at (i := i) l (by simpa using e)
    refine ⟨v, A ++ A1, B, A2, by simpa using e1, by simp [e2], r, fun F' H' v' o' B' f k r' => ?_⟩
    simp only [List.set_cons_succ, List.append_assoc]
    have k1 : ∀ a ∈ A, F' a = none ∧ H' a = H a := fun a ha => k a (by simp [ha])
    have k2 : ∀ a ∈ A1 ++ A2, F' a = none ∧ H' a = H a := fun a ha => k a (by simp only [List.append_assoc]; exact List.mem_append_right _ ha)
    have := w F' H' v' o' B' f k2 r'
    rw [List.append_assoc] at this
    exact .cons (h.keep f k1) this
theorem RoL.append : ∀ {vs ws : List V} {os ps : List O} {A B : List Addr}, RoL K F H vs os A → RoL K F H ws ps B → RoL K F H (vs ++ ws) (os ++ ps) (A ++ B)
  | _, _, _, _, _, _, .nil, s => s
  | _, _, _, _, _, _, .cons r t, s => by rw [List.append_assoc]; exact .cons r (RoL.append t s)
theorem RoL.one {v : V} {o : O} {A : List Addr} (h : Ro K F H v o A) : RoL K F H [v] [o] A := by
  have := RoL.cons h .nil
  rw [List.append_nil] at this
  exact this
theorem RoL.frz : ∀ {vs : List V} {ds : List D}, VwL K F vs ds → RoL K F H vs (ds.map O.frz) []
  | _, _, .nil => .nil
  | _, _, .cons h l => .cons (A := []) (.frz h) (RoL.frz l)
end
end VL
namespace VL
open PySem PySem.Spec PyProof.Rows L2
abbrev Tab := List (Addr × Str)
/-- what holds of the frozen part and the heap at all times -/
structure Gl (T : Tab) (F H : Hp) : Prop where
  sub : SubN F H
  notbl : ∀ a ps, F a ≠ some (.tbl ps)
  tup : ∀ a vs, H a = some (.tup vs) → F a = some (.tup vs)
  tab : LamX.Tabs T H
/-- pure growth -/
structure PX (T : Tab) (F H F' H' : Hp) : Prop where
  f : ∀ a u, F a = some u → F' a = some u
  h : LamX.ExtN H H'
  new : ∀ a, F a = none → H a ≠ none → F' a = none
  trk : ∀ a ps, H a = some (.tbl ps) → ∃ ps', H' a = some (.tbl ps')
  gl : Gl T F' H'
section
variable {T : Tab} {F H F' H' F1 H1 F2 H2 : Hp}
theorem PX.refl (g : Gl T F H) : PX T F H F H := ⟨fun _ _ e => e, .refl H, fun _ e _ => e, fun _ ps e => ⟨ps, e⟩, g⟩
theorem PX.trk' (p : PX T F H F' H') {a : Addr} (h : H a ≠ none) : H' a ≠ none := by
  cases e : H a with
  | none => exact absurd e h
  | some u =>
    by_cases z : ∃ ps, u = .tbl ps
    · obtain ⟨ps, rfl⟩ := z
      obtain ⟨ps', e'⟩ := p.trk a ps e
      rw [e']; exact fun q => by cases q
    · rw [p.h a u e fun ps q => z ⟨ps, q⟩]; exact fun q => by cases q
theorem PX.free (p : PX T F H F' H') {a : Addr} (h : H' a = none) : H a = none := by
  cases e : H a with
  | none => rfl
  | some u => exact absurd h (p.trk' (by rw [e]; exact fun q => by cases q))
theorem PX.trans (p : PX T F H F1 H1) (q : PX T F1 H1 F2 H2) : PX T F H F2 H2 :=
  ⟨fun a u e => q.f a u (p.f a u e), p.h.trans q.h, fun a e h => q.new a (p.new a e h) (p.trk' h), fun a ps e => by
    obtain ⟨ps1, e1⟩ := p.trk a ps e
    exact q.trk a ps1 e1, q.gl⟩
theorem own_ntbl {u : HO} (o : ownable u = true) : ∀ ps, u ≠ .tbl ps := fun ps z => by rw [z] at o; cases o
theorem Ro.px {K : PySem.W.Frag} {v : V} {o : O} {A : List Addr} (r : Ro K F H v o A) (p : PX T F H F' H') : Ro K F' H' v o A :=
  r.keep p.f fun a ha => by
    obtain ⟨h1, u, h2, h3⟩ := r.mem a ha
    exact ⟨p.new a h1 (by rw [h2]; exact fun q => by cases q), by rw [h2, p.h a u h2 (own_ntbl h3)]⟩
/-- a new object that is frozen at once -/
theorem PX.laid (g : Gl T F H) {p : Addr} {u : HO} (hp : H p = none) (nt : ∀ ps, u ≠ .tbl ps) (nd : isDict u = false ∨ True) : PX T F H (upd F p u) (upd H p u) := by
  have hF : F p = none := by
    cases e : F p with
    | none => rfl
    | some w =>
      rcases g.sub p w e (fun ps z => g.notbl p ps (by rw [e, z])) with h | ⟨_, o, h⟩
      · rw [hp] at h; cases h
      · rw [hp] at h; cases h
  have nF : ∀ a w, F a = some w → a ≠ p := fun a w e => ne_of_none e hF
  have nH : ∀ a w, H a = some w → a ≠ p := fun a w e => ne_of_none e hp
  refine ⟨fun a w e => by rw [upd_ne (nF a w e)]; exact e, fun a w e _ => by rw [upd_ne (nH a w e)]; exact e, fun a e h => ?_, fun a ps e => ⟨ps, by rw [upd_ne (nH a _ e)]; exact e⟩, ⟨fun a w e n => ?_, fun a ps e => ?_, fun a vs e => ?_, g.tab.ext fun b o e => by rw [upd_ne (nH b o e)]; exact e⟩⟩
  · rw [upd_ne]
    · exact e
    · intro z; rw [z] at h; exact h hp
  · by_cases z : a = p
    · rw [z, upd_same] at e; cases e
      exact .inl (by rw [z]; exact upd_same)
    · rw [upd_ne z] at e ⊢
      exact g.sub a w e n
  · by_cases z : a = p
    · rw [z, upd_same] at e; cases e; exact nt ps rfl
    · rw [upd_ne z] at e; exact g.notbl a ps e
  · by_cases z : a = p
    · rw [z, upd_same] at e; cases e; rw [z]; exact upd_same
    · rw [upd_ne z] at e ⊢; exact g.tup a vs e
/-- a new object that is not frozen -/
theorem PX.owned (g : Gl T F H) {p : Addr} {u : HO} (hp : H p = none) (nt : ∀ xs, u ≠ .tup xs) : PX T F H F (upd H p u) := by
  have nH : ∀ a w, H a = some w → a ≠ p := fun a w e => ne_of_none e hp
  refine ⟨fun a w e => e, fun a w e _ => by rw [upd_ne (nH a w e)]; exact e, fun a e h => e, fun a ps e => ⟨ps, by rw [upd_ne (nH a _ e)]; exact e⟩, ⟨fun a w e n => ?_, g.notbl, fun a vs e => ?_, g.tab.ext fun b o e => by rw [upd_ne (nH b o e)]; exact e⟩⟩
  · have z : a ≠ p := fun z => by
      rcases g.sub a w e n with h | ⟨_, o, h⟩
      · rw [z, hp] at h; cases h
      · rw [z, hp] at h; cases h
    rw [upd_ne z]
    exact g.sub a w e n
  · by_cases z : a = p
    · rw [z, upd_same] at e; cases e; exact absurd rfl (nt vs)
    · rw [upd_ne z] at e; exact g.tup a vs e
theorem Gl.free (g : Gl T F H) {p : Addr} (hp : H p = none) : F p = none := by
  cases e : F p with
  | none => rfl
  | some w =>
    rcases g.sub p w e (fun ps z => g.notbl p ps (by rw [e, z])) with h | ⟨_, o, h⟩
    · rw [hp] at h; cases h
    · rw [hp] at h; cases h
end
/-- a step of a path -/
inductive Stp where
  | ix (i : Nat) | key (k : Key) | fld (f : Str)
/-- what a slot holds -/
inductive SV where
  | dead | frz (d : D) | own (o : O) | io (o : O) | als (r : Nat) (p : List Stp)
abbrev Env := List SV

def getA {κ α : Type} [DecidableEq κ] (kvs : List (κ × α)) (k : κ) : Option α := (kvs.find? fun kv => decide (kv.1 = k)).map (·.2)
/-- one step down, of what is one's own -/
def O.step : O → Stp → Option O
  | .lst os, .ix i => os[i]?
  | .tup os, .ix i => os[i]?
  | .dct kos, .key k => getA kos k
  | .ins _ fos, .fld f => fos.lookup f
  | _, _ => none
def O.walk : O → List Stp → Option O
  | o, [] => some o
  | o, s :: p => (o.step s).bind fun o' => o'.walk p
/-- the value one step down -/
def vStep (H : Hp) : V → Stp → Option V
  | .ref a, .ix i => match H a with
    | some (.lst vs) => vs[i]?
    | some (.tup vs) => vs[i]?
    | _ => none
  | .ref a, .key k => match H a with
    | some (.dK kvs) => valV kvs k
    | some (.frz _ (.dK kvs)) => valV kvs k
    | _ => none
  | .ref a, .fld f => match H a with
    | some (.ins _ _ fs) => fs.lookup f
    | _ => none
  | _, _ => none
def vWalk (H : Hp) : V → List Stp → Option V
  | v, [] => some v
  | v, s :: p => (vStep H v s).bind fun v' => vWalk H v' p

/-- slot i is as it is told; ω: the owner of an address -/
def SlotOk (K : PySem.W.Frag) (F H : Hp) (σ : L2.St) (ω : Addr → Option Nat) (i : Nat) : SV → Prop
  | .dead => True
  | .frz d => ∃ v, σ[i]? = some (some v) ∧ Vw K F v d
  | .own o => ∃ v A, σ[i]? = some (some v) ∧ Ro K F H v o A ∧ A.Nodup ∧ ∀ a ∈ A, ω a = some i
  | .io o => ∃ v A, σ[i]? = some (some v) ∧ Ro K F H v o A ∧ A.Nodup ∧ ∀ a ∈ A, ω a = some i
  | .als r p => ∃ v w o A, σ[i]? = some (some v) ∧ σ[r]? = some (some w) ∧ vWalk H w p = some v ∧ Ro K F H w o A ∧ (∀ a ∈ A, ω a = some r) ∧ ∃ o', o.walk p = some o'
structure Sta (K : PySem.W.Frag) (T : Tab) (F H : Hp) (σ : L2.St) (env : Env) (ω : Addr → Option Nat) : Prop where
  gl : Gl T F H
  len : σ.length = env.length
  slot : ∀ i s, env[i]? = some s → SlotOk K F H σ ω i s
  og : ∀ a i, ω a = some i → F a = none ∧ ∃ u, H a = some u ∧ ownable u = true

section
variable {K : PySem.W.Frag} {T : Tab} {F H F' H' : Hp} {σ : L2.St} {env : Env} {ω : Addr → Option Nat}
theorem vStep_ext (h : LamX.ExtN H H') : ∀ {v : V} {s : Stp} {w : V}, vStep H v s = some w → vStep H' v s = some w := by
  intro v s w e
  cases v with
  | ref a =>
    cases q : H a with
    | none => cases s <;> simp [vStep, q] at e
    | some u =>
      by_cases z : ∃ ps, u = .tbl ps
      · obtain ⟨ps, rfl⟩ := z
        cases s <;> simp [vStep, q] at e
      · have q' := h a u q fun ps y => z ⟨ps, y⟩
        cases s <;> simpa [vStep, q, q'] using e
  | _ => cases s <;> simp [vStep] at e
theorem vWalk_ext (h : LamX.ExtN H H') : ∀ {p : List Stp} {v w : V}, vWalk H v p = some w → vWalk H' v p = some w
  | [], _, _, e => e
  | s :: p, v, w, e => by
    unfold vWalk at e ⊢
    obtain ⟨u, e1, e2⟩ := Option.bind_eq_some_iff.mp e
    rw [vStep_ext h e1]
    exact vWalk_ext h e2
theorem Sta.px (s : Sta K T F H σ env ω) (p : PX T F H F' H') : Sta K T F' H' σ env ω := by
  refine ⟨p.gl, s.len, fun i sv e => ?_, fun a i e => ?_⟩
  · have := s.slot i sv e
    cases sv with
    | dead => trivial
    | frz d =>
      obtain ⟨v, h1, h2⟩ := this
      exact ⟨v, h1, h2.sub (.of p.f)⟩
    | own o =>
      obtain ⟨v, A, h1, h2, h3, h4⟩ := this
      exact ⟨v, A, h1, h2.px p, h3, h4⟩
    | io o =>
      obtain ⟨v, A, h1, h2, h3, h4⟩ := this
      exact ⟨v, A, h1, h2.px p, h3, h4⟩
    | als r q =>
      obtain ⟨v, w, o, A, h1, h2, h3, h4, h5⟩ := this
      exact ⟨v, w, o, A, h1, h2, vWalk_ext p.h h3, h4.px p, h5⟩
  · obtain ⟨h1, u, h2, h3⟩ := s.og a i e
    exact ⟨p.new a h1 (by rw [h2]; exact fun q => by cases q), u, p.h a u h2 (own_ntbl h3), h3⟩
end
/-- o is seen at v -/
def VwO (K : PySem.W.Frag) (F H : Hp) (v : V) (o : O) : Prop := ∃ A, Ro K F H v o A
section
variable {K : PySem.W.Frag} {T : Tab} {F H F' H' : Hp} {v : V} {o : O} {d : D}
theorem VwO.px (h : VwO K F H v o) (p : PX T F H F' H') : VwO K F' H' v o := let ⟨A, r⟩ := h; ⟨A, r.px p⟩
theorem VwO.vw (h : VwO K F H v o) (g : Gl T F H) : Vw K H v o.toD := let ⟨_, r⟩ := h; r.vw g.sub
theorem VwO.frz (h : Vw K F v d) : VwO K F H v (.frz d) := ⟨[], .frz h⟩
/-- frozen, or never changed -/
def asFrz : O → Option D
  | .frz d => some d
  | o => if o.toD.imm then some o.toD else none
theorem asFrz_toD {d : D} (h : asFrz o = some d) : o.toD = d := by
  cases o with
  | frz e => simp [asFrz] at h; rw [O.toD]; exact h
  | _ =>
    unfold asFrz at h
    split at h
    · rename_i q; cases q
    · split at h
      · exact Option.some.inj h
      · cases h
theorem VwO.asFrz (h : VwO K F H v o) (g : Gl T F H) (e : VL.asFrz o = some d) : Vw K F v d := by
  have e2 := asFrz_toD e
  have hv := h.vw g
  cases o with
  | frz d' =>
    obtain ⟨A, r⟩ := h
    simp [VL.asFrz] at e
    subst e
    cases r with
    | frz h => exact h
  | _ =>
    unfold VL.asFrz at e
    split at e
    · rename_i q; cases q
    · split at e
      · rename_i q
        rw [← e2]
        exact hv.immv g.tup q
      · cases e
end
abbrev Em := Env → Option O
abbrev Es := Env → Option (List O)
def tB (K : PySem.W.Frag) (T : Tab) (m : Em) : TE := fun σ H Q => ∃ F env ω, Sta K T F H σ env ω ∧ ∃ o, m env = some o ∧ ∀ v F' H', PX T F H F' H' → VwO K F' H' v o → Q v H'
/-- e changes nothing; its value is told by m -/
def BE (X : Cx) (T : Tab) (e : Expr) (m : Em) : Prop := PE X e (tB X.K T m)
theorem peI {X : Cx} {e : Expr} {t t' : TE} (h : PE X e t) (w : ∀ σ H Q, t' σ H Q → t σ H Q) : PE X e t' := ⟨fun pins s σ H Q I q => h.run pins s σ H Q I (w σ H Q q)⟩
theorem peOr {X : Cx} {e : Expr} {t t' : TE} (h : PE X e t) (h' : PE X e t') : PE X e (fun σ H Q => t σ H Q ∨ t' σ H Q) :=
  ⟨fun pins s σ H Q I q => q.elim (h.run pins s σ H Q I) (h'.run pins s σ H Q I)⟩
def tBs (K : PySem.W.Frag) (T : Tab) (m : Es) : TA := fun σ H Q => ∃ F env ω, Sta K T F H σ env ω ∧ ∃ os, m env = some os ∧ ∀ vs F' H', PX T F H F' H' → Paired (VwO K F' H') vs os → Q vs H'
def BA (X : Cx) (T : Tab) (es : List Expr) (m : Es) : Prop := PA X es (tBs X.K T m)
theorem paI {X : Cx} {e : List Expr} {t t' : TA} (h : PA X e t) (w : ∀ σ H Q, t' σ H Q → t σ H Q) : PA X e t' := ⟨fun pos pins s σ H Q I q => h.run pos pins s σ H Q I (w σ H Q q)⟩

def eVar (i : Nat) : Em := fun env => match env[i]? with
  | some (.frz d) => some (.frz d)
  | some (.own o) => some o
  | some (.io o) => some o
  | some (.als r p) => (match env[r]? with
    | some (.own o) => o.walk p
    | some (.io o) => o.walk p
    | _ => none)
  | _ => none
def eC (d : D) : Em := fun _ => some (.frz d)
def eNil : Es := fun _ => some []
def eCons (a : Em) (r : Es) : Es := fun env => (a env).bind fun o => (r env).bind fun os => some (o :: os)

section
variable {K : PySem.W.Frag} {T : Tab} {F H : Hp} {v : V} {o : O}
theorem step_ro {A : List Addr} (r : Ro K F H v o A) (sub : SubN F H) {s : Stp} {o' : O} (e : o.step s = some o') : ∃ v' B, vStep H v s = some v' ∧ Ro K F H v' o' B := by
  cases r with
  | frz h => cases s <;> simp [O.step] at e
  | tup h l =>
    cases s with
    | ix i =>
      obtain ⟨v', A1, B, A2, e1, _, r', _⟩ := l.at (i := i) (o := o') (by simpa [O.step] using e)
      exact ⟨v', B, by simp [vStep, sub.at h (fun _ z => by cases z) rfl, e1], r'⟩
    | key k => simp [O.step] at e
    | fld f => simp [O.step] at e
  | lst f h l =>
    cases s with
    | ix i =>
      obtain ⟨v', A1, B, A2, e1, _, r', _⟩ := l.at (i := i) (o := o') (by simpa [O.step] using e)
      exact ⟨v', B, by simp [vStep, h, e1], r'⟩
    | key k => simp [O.step] at e
    | fld f => simp [O.step] at e
  | @dct a kvs kos A f h ek0 l =>
    have ek := ek0.eq
    clear ek0
    cases s with
    | key k =>
      have e' : getA kos k = some o' := by simpa [O.step] using e
      have : ∃ v' B, valV kvs k = some v' ∧ Ro K F H v' o' B := by
        clear h e
        induction kvs generalizing kos A with
        | nil => cases kos with
          | nil => simp [getA] at e'
          | cons _ _ => simp at ek
        | cons p kvs ih => cases kos with
          | nil => simp at ek
          | cons q kos =>
            obtain ⟨pk, pv⟩ := p
            obtain ⟨qk, qo⟩ := q
            simp only [List.map_cons, List.cons.injEq] at ek
            obtain ⟨e1, e2⟩ := ek
            subst e1
            simp only [List.map_cons] at l
            cases l with
            | cons h1 h2 =>
              by_cases z : pk = k
              · simp [getA, List.find?_cons, z] at e'
                subst e'
                exact ⟨pv, _, by simp [valV, List.find?_cons, z], h1⟩
              · have e3 : getA kos k = some o' := by simpa [getA, List.find?_cons, z] using e'
                obtain ⟨v', B, h3, h4⟩ := ih h2 e2 e3
                exact ⟨v', B, by simpa [valV, List.find?_cons, z] using h3, h4⟩
      obtain ⟨v', B, h1, h2⟩ := this
      exact ⟨v', B, by simp [vStep, h, h1], h2⟩
    | ix i => simp [O.step] at e
    | fld f => simp [O.step] at e
  | dtt f h ek l => cases s <;> simp [O.step] at e
  | @ins a dx C fs fos A f h ek l =>
    cases s with
    | fld g =>
      have e' : fos.lookup g = some o' := by simpa [O.step] using e
      have : ∃ v' B, fs.lookup g = some v' ∧ Ro K F H v' o' B := by
        clear h e
        induction fs generalizing fos A with
        | nil => cases fos with
          | nil => simp at e'
          | cons _ _ => simp at ek
        | cons p fs ih => cases fos with
          | nil => simp at ek
          | cons q fos =>
            obtain ⟨pk, pv⟩ := p
            obtain ⟨qk, qo⟩ := q
            simp only [List.map_cons, List.cons.injEq] at ek
            obtain ⟨e1, e2⟩ := ek
            subst e1
            simp only [List.map_cons] at l
            cases l with
            | cons h1 h2 =>
              cases z : (g == pk) with
              | true =>
                simp [List.lookup, z] at e'
                subst e'
                exact ⟨pv, _, by simp [List.lookup, z], h1⟩
              | false =>
                have e3 : fos.lookup g = some o' := by simpa [List.lookup, z] using e'
                obtain ⟨v', B, h3, h4⟩ := ih e2 h2 e3
                exact ⟨v', B, by simpa [List.lookup, z] using h3, h4⟩
      obtain ⟨v', B, h1, h2⟩ := this
      exact ⟨v', B, by simp [vStep, h, h1], h2⟩
    | ix i => simp [O.step] at e
    | key k => simp [O.step] at e
theorem walk_ro (sub : SubN F H) : ∀ {p : List Stp} {v : V} {o o' : O} {A : List Addr}, Ro K F H v o A → o.walk p = some o' → ∃ v' B, vWalk H v p = some v' ∧ Ro K F H v' o' B
  | [], v, o, o', A, r, e => by
    have e : o = o' := by simpa [O.walk] using e
    subst e
    exact ⟨v, A, rfl, r⟩
  | s :: p, v, o, o', A, r, e => by
    unfold O.walk at e
    obtain ⟨o1, e1, e2⟩ := Option.bind_eq_some_iff.mp e
    obtain ⟨v1, B, e3, r1⟩ := step_ro r sub e1
    obtain ⟨v', B', e4, r2⟩ := walk_ro sub r1 e2
    exact ⟨v', B', by unfold vWalk; rw [e3]; exact e4, r2⟩
end
section
variable {X : Cx} {T : Tab} {a b c : Expr} {ma mb mc : Em} {pos : Pos}
theorem Sta.var {K : PySem.W.Frag} {F H : Hp} {σ : L2.St} {env : Env} {ω : Addr → Option Nat} (s : Sta K T F H σ env ω) {i : Nat} {o : O} (e : eVar i env = some o) : ∃ v, σ[i]? = some (some v) ∧ VwO K F H v o := by
  unfold eVar at e
  split at e
  · rename_i d q
    obtain ⟨v, h1, h2⟩ := s.slot i _ q
    cases e
    exact ⟨v, h1, .frz h2⟩
  · rename_i o' q
    obtain ⟨v, A, h1, h2, _, _⟩ := s.slot i _ q
    cases e
    exact ⟨v, h1, A, h2⟩
  · rename_i o' q
    obtain ⟨v, A, h1, h2, _, _⟩ := s.slot i _ q
    cases e
    exact ⟨v, h1, A, h2⟩
  · rename_i r p q
    obtain ⟨v, w, _, _, h1, h2, h3, _⟩ := s.slot i _ q
    split at e
    · rename_i o' q'
      obtain ⟨v', A, g1, g2, _, _⟩ := s.slot r _ q'
      rw [g1] at h2; cases h2
      obtain ⟨v2, B, e1, r2⟩ := walk_ro s.gl.sub g2 e
      rw [h3] at e1; cases e1
      exact ⟨v, h1, B, r2⟩
    · rename_i o' q'
      obtain ⟨v', A, g1, g2, _, _⟩ := s.slot r _ q'
      rw [g1] at h2; cases h2
      obtain ⟨v2, B, e1, r2⟩ := walk_ro s.gl.sub g2 e
      rw [h3] at e1; cases e1
      exact ⟨v, h1, B, r2⟩
    · cases e
  · cases e
theorem be_var (i : Nat) {x : Str} (hN : X.N[i]? = some x := by rfl) (hv : Vis X.env.scope x := by first | exact Or.inl rfl | exact Or.inr (Or.inl rfl) | exact Or.inr (Or.inr rfl)) (hd : (x == ("__debug__" : Str)) = false := by decide)
    (hcd : (x == ("__classdict__" : Str)) = false := by decide) : BE X T (.Name x pos) (eVar i) := by
  refine peI (pe_var hN hv hd hcd) fun σ H Q h => ?_
  obtain ⟨F, env, ω, s, o, e, k⟩ := h
  obtain ⟨v, h1, h2⟩ := s.var e
  exact ⟨v, h1, k v F H (.refl s.gl) h2⟩
theorem be_C {d : D} {v : V} {e : Expr} (h : PE X e (tC v)) (hv : ∀ F, Vw X.K F v d) : BE X T e (eC d) := by
  refine peI h fun σ H Q h => ?_
  obtain ⟨F, env, ω, s, o, e, k⟩ := h
  cases e
  exact k v F H (.refl s.gl) (.frz (hv F))
theorem be_int {i j} : BE X T (.Constant (.int i) j pos) (eC (.int i)) := be_C pe_int fun _ => .int i
theorem be_bl {i j} : BE X T (.Constant (.bool i) j pos) (eC (.bl i)) := be_C pe_bl fun _ => .bl i
theorem be_non {j} : BE X T (.Constant .none j pos) (eC .non) := be_C pe_non fun _ => .non
theorem be_str {i j} : BE X T (.Constant (.str i) j pos) (eC (.str i)) := be_C pe_str fun _ => .str i
theorem ba_nil : BA X T [] eNil := by
  refine paI pa_nil fun σ H Q h => ?_
  obtain ⟨F, env, ω, s, o, e, k⟩ := h
  cases e
  exact k [] F H (.refl s.gl) .nil
theorem ba_cons {es : List Expr} {m : Es} (ha : BE X T a ma) (hr : BA X T es m) (hs : starEach (a :: es) X.env = (false, eval a X.env) :: starEach es X.env := by rfl) : BA X T (a :: es) (eCons ma m) := by
  refine paI (pa_cons ha hr hs) fun σ H Q h => ?_
  obtain ⟨F, env, ω, s, o, e, k⟩ := h
  obtain ⟨x, e1, e⟩ := Option.bind_eq_some_iff.mp e
  obtain ⟨xs, e2, e⟩ := Option.bind_eq_some_iff.mp e
  cases e
  refine ⟨F, env, ω, s, x, e1, fun v F1 H1 p1 h1 => ⟨F1, env, ω, s.px p1, xs, e2, fun vs F2 H2 p2 h2 => ?_⟩⟩
  exact k _ F2 H2 (p1.trans p2) (.cons (h1.px p2) h2)

end
end VL
namespace VL
open PySem PySem.Spec PyProof.Rows L2
/-- o is new at v: its own objects were not there in H -/
structure Fresh (K : PySem.W.Frag) (H F' H' : Hp) (v : V) (o : O) (A : List Addr) : Prop where
  ro : Ro K F' H' v o A
  nd : A.Nodup
  new : ∀ a ∈ A, H a = none
def tF (K : PySem.W.Frag) (T : Tab) (m : Em) : TE := fun σ H Q => ∃ F env ω, Sta K T F H σ env ω ∧ ∃ o, m env = some o ∧ ∀ v F' H' A, PX T F H F' H' → Fresh K H F' H' v o A → Q v H'
/-- e changes nothing; its value is new, and one's own -/
def FE (X : Cx) (T : Tab) (e : Expr) (m : Em) : Prop := PE X e (tF X.K T m)
/-- frozen at once -/
def frzE (m : Em) : Em := fun env => (m env).map fun o => .frz o.toD
/-- .. where it need not be one's own -/
def takE (m : Em) : Em := fun env => (m env).bind fun o => (asFrz o).map .frz
section
variable {K : PySem.W.Frag} {T : Tab} {F H F' H' : Hp} {v : V} {o : O} {A : List Addr}
theorem fz_gl (g : Gl T F' H') (r : Ro K F' H' v o A) : Gl T (fz F' H' A) H' := by
  refine ⟨fun a u e n => ?_, fun a ps e => ?_, fun a vs e => ?_, g.tab⟩
  · by_cases z : a ∈ A
    · rw [fz_in z] at e; exact .inl e
    · rw [fz_out z] at e; exact g.sub a u e n
  · by_cases z : a ∈ A
    · rw [fz_in z] at e
      obtain ⟨_, u, h2, h3⟩ := r.mem a z
      rw [e] at h2; cases h2; cases h3
    · rw [fz_out z] at e; exact g.notbl a ps e
  · have h := g.tup a vs e
    rw [fz_out fun z => by rw [(r.mem a z).1] at h; cases h]
    exact h
theorem fz_px (p : PX T F H F' H') (f : Fresh K H F' H' v o A) : PX T F H (fz F' H' A) H' := by
  refine ⟨fun a u e => ?_, p.h, fun a e h => ?_, p.trk, fz_gl p.gl f.ro⟩
  · have h := p.f a u e
    rw [fz_out fun z => by rw [(f.ro.mem a z).1] at h; cases h]
    exact h
  · rw [fz_out fun z => h (f.new a z)]
    exact p.new a e h
theorem fz_vw (p : PX T F H F' H') (f : Fresh K H F' H' v o A) : Vw K (fz F' H' A) v o.toD := by
  refine f.ro.fzn (fun a u e => ?_) fun a h => fz_in h
  rw [fz_out fun z => by rw [(f.ro.mem a z).1] at e; cases e]
  exact e
theorem Fresh.frz {d : D} (h : Vw K F' v d) : Fresh K H F' H' v (.frz d) [] := ⟨.frz h, .nil, fun _ z => by cases z⟩
end
section
variable {X : Cx} {T : Tab} {e : Expr} {m : Em}
theorem be_fe (h : FE X T e m) : BE X T e (frzE m) := by
  refine peI h fun σ H Q q => ?_
  obtain ⟨F, env, ω, s, o, e, k⟩ := q
  obtain ⟨o', e1, e2⟩ := Option.map_eq_some_iff.mp e
  subst e2
  exact ⟨F, env, ω, s, o', e1, fun v F' H' A p f => k v _ H' (fz_px p f) (.frz (fz_vw p f))⟩
theorem fe_be (h : BE X T e m) : FE X T e (takE m) := by
  refine peI h fun σ H Q q => ?_
  obtain ⟨F, env, ω, s, o, e, k⟩ := q
  obtain ⟨o', e1, e2⟩ := Option.bind_eq_some_iff.mp e
  obtain ⟨d, e3, e4⟩ := Option.map_eq_some_iff.mp e2
  subst e4
  exact ⟨F, env, ω, s, o', e1, fun v F' H' p h => k v F' H' [] p (.frz (h.asFrz p.gl e3))⟩
end
def eOp1 (f : O → Option O) (a : Em) : Em := fun env => (a env).bind f
def eOp2 (f : O → O → Option O) (a b : Em) : Em := fun env => (a env).bind fun x => (b env).bind fun y => f x y
/-- by plain values -/
def sc1 (g : D → Option D) : O → Option O := fun a => (g a.toD).map .frz
def sc2 (g : D → D → Option D) : O → O → Option O := fun a b => (g a.toD b.toD).map .frz

/-- what a two-place rule asks is given where f tells a value -/
def Op2 (K : PySem.W.Frag) (T : Tab) (r : R2) (f : O → O → Option O) : Prop := ∀ (F H : Hp) (x y : V) (a b o : O) (Q : VK), Gl T F H → VwO K F H x a → VwO K F H y b → f a b = some o →
  (∀ v F' H' A, PX T F H F' H' → Fresh K H F' H' v o A → Q v H') → r x y H Q
def Op1 (K : PySem.W.Frag) (T : Tab) (r : V → Hp → VK → Prop) (f : O → Option O) : Prop := ∀ (F H : Hp) (x : V) (a o : O) (Q : VK), Gl T F H → VwO K F H x a → f a = some o →
  (∀ v F' H' A, PX T F H F' H' → Fresh K H F' H' v o A → Q v H') → r x H Q
section
variable {K : PySem.W.Frag} {T : Tab} {H F1 F2 F' H1 H2 H' : Hp} {v : V} {o : O} {A : List Addr} {F : Hp}
theorem Fresh.back (f : Fresh K H1 F' H' v o A) (p : PX T F H F1 H1) : Fresh K H F' H' v o A := ⟨f.ro, f.nd, fun a h => p.free (f.new a h)⟩
end
section
variable {X : Cx} {T : Tab} {a b c : Expr} {ma mb mc : Em} {pos : Pos}
theorem tOp_of {r : R2} {f : O → O → Option O} (hf : Op2 X.K T r f) {σ : L2.St} {H : Hp} {Q : VK} (h : tF X.K T (eOp2 f ma mb) σ H Q) : tOp r (tB X.K T ma) (tB X.K T mb) σ H Q := by
  obtain ⟨F, env, ω, s, o, e, k⟩ := h
  obtain ⟨x, e1, e⟩ := Option.bind_eq_some_iff.mp e
  obtain ⟨y, e2, e⟩ := Option.bind_eq_some_iff.mp e
  refine ⟨F, env, ω, s, x, e1, fun v F1 H1 p1 h1 => ⟨F1, env, ω, s.px p1, y, e2, fun u F2 H2 p2 h2 => ?_⟩⟩
  exact hf F2 H2 v u _ _ o Q p2.gl (h1.px p2) h2 e fun w F3 H3 A p3 h3 => k w F3 H3 A ((p1.trans p2).trans p3) (h3.back (p1.trans p2))
theorem fe_op2 {op : Operator} {r : R2} {f : O → O → Option O} (ho : OpR X (binaryOp op) r) (hf : Op2 X.K T r f) (ha : BE X T a ma) (hb : BE X T b mb) : FE X T (.BinOp a op b pos) (eOp2 f ma mb) :=
  peI (pe_op ho ha hb) fun _ _ _ h => tOp_of hf h
theorem fe_cmp {op : CmpOp} {r : R2} {f : O → O → Option O} (ho : OpR X (compareOp op) r) (hf : Op2 X.K T r f) (ha : BE X T a ma) (hb : BE X T b mb) (hm : behindInMarks op b = false) : FE X T (.Compare a [op] [b] pos) (eOp2 f ma mb) :=
  peI (pe_cmpR ho ha hb hm) fun _ _ _ h => tOp_of hf h
theorem fe_un {op : UnaryOp} {r : V → Hp → VK → Prop} {f : O → Option O} (ho : UnR X (unaryOp op) r) (hf : Op1 X.K T r f) (ha : BE X T a ma) : FE X T (.UnaryOp op a pos) (eOp1 f ma) := by
  refine peI (pe_un ho ha) fun σ H Q h => ?_
  obtain ⟨F, env, ω, s, o, e, k⟩ := h
  obtain ⟨x, e1, e⟩ := Option.bind_eq_some_iff.mp e
  exact ⟨F, env, ω, s, x, e1, fun v F1 H1 p1 h1 => hf F1 H1 v _ o Q p1.gl h1 e fun w F3 H3 A p3 h3 => k w F3 H3 A (p1.trans p3) (h3.back p1)⟩
end
section
variable {K : PySem.W.Frag} {T : Tab}
theorem Op2.sc {r : R2} {g : D → D → Option D} (h : ∀ (F H : Hp) (x y : V) (a b d : D) (Q : VK), Gl T F H → Vw K H x a → Vw K H y b → g a b = some d → (∀ v, Vw K F v d → Q v H) → r x y H Q) : Op2 K T r (sc2 g) := by
  intro F H x y a b o Q gl hx hy e k
  obtain ⟨d, e1, e2⟩ := Option.map_eq_some_iff.mp e
  subst e2
  exact h F H x y _ _ d Q gl (hx.vw gl) (hy.vw gl) e1 fun v hv => k v F H [] (.refl gl) (.frz hv)
theorem Op1.sc {r : V → Hp → VK → Prop} {g : D → Option D} (h : ∀ (F H : Hp) (x : V) (a d : D) (Q : VK), Gl T F H → Vw K H x a → g a = some d → (∀ v, Vw K F v d → Q v H) → r x H Q) : Op1 K T r (sc1 g) := by
  intro F H x a o Q gl hx e k
  obtain ⟨d, e1, e2⟩ := Option.map_eq_some_iff.mp e
  subst e2
  exact h F H x _ d Q gl (hx.vw gl) e1 fun v hv => k v F H [] (.refl gl) (.frz hv)
def orO (f g : O → O → Option O) : O → O → Option O := fun a b => (f a b).or (g a b)
theorem Op2.or {r r' : R2} {f g : O → O → Option O} (h : Op2 K T r f) (h' : Op2 K T r' g) : Op2 K T (fun x y H Q => r x y H Q ∨ r' x y H Q) (orO f g) := by
  intro F H x y a b d Q gl hx hy e k
  have e : (f a b).or (g a b) = some d := e
  cases q : f a b with
  | some z =>
    rw [q] at e
    have e : z = d := by simpa using e
    subst e
    exact .inl (h F H x y a b z Q gl hx hy q k)
  | none =>
    rw [q] at e
    exact .inr (h' F H x y a b d Q gl hx hy (by simpa using e) k)
end
def gI (f : Int → Int → Int) : D → D → Option D
  | .int i, .int j => some (.int (f i j))
  | _, _ => none
def gB (f : Int → Int → Bool) : D → D → Option D
  | .int i, .int j => some (.bl (f i j))
  | _, _ => none
def gMul : D → D → Option D
  | .int i, .int j => if (-(2 ^ 64) < i ∧ i < 2 ^ 64) ∨ (-(2 ^ 64) < j ∧ j < 2 ^ 64) then some (.int (i * j)) else none
  | _, _ => none
def gDiv : D → D → Option D
  | .int i, .int j => if 0 < j ∧ j < 1073741824 then some (.int (i / j)) else none
  | _, _ => none
def gMod : D → D → Option D
  | .int i, .int j => if 0 < j then some (.int (i % j)) else none
  | _, _ => none
def gNeg : D → Option D
  | .int i => some (.int (-i))
  | _ => none
def gCatS : D → D → Option D
  | .str x, .str y => if x.length + y.length ≤ sizeLine then some (.str (x ++ y)) else none
  | _, _ => none
/-- the items of a list, each frozen -/
def O.litems : O → Option (List D)
  | .frz (.lst ds) => some ds
  | .frz (.scr ns) => some (ns.map D.int)
  | .lst os => os.mapM asFrz
  | _ => none
/-- .. of a list that is not the script -/
def O.plitems : O → Option (List D)
  | .frz (.lst ds) => some ds
  | .lst os => os.mapM asFrz
  | _ => none
def O.titems : O → Option (List D)
  | .frz (.tup ds) => some ds
  | .tup os => os.mapM asFrz
  | _ => none
def newL (ds : List D) : O := .lst (ds.map O.frz)
def oCatL : O → O → Option O := fun a b => a.plitems.bind fun xs => b.plitems.bind fun ys => if xs.length + ys.length ≤ sizeLine then some (newL (xs ++ ys)) else none
def oCatT : O → O → Option O := fun a b => a.titems.bind fun xs => b.titems.bind fun ys => if xs.length + ys.length ≤ sizeLine then some (.frz (.tup (xs ++ ys))) else none
section
variable {K : PySem.W.Frag} {T : Tab} {F H : Hp} {v : V} {o : O}
theorem ro_mapM (g : Gl T F H) : ∀ {vs : List V} {os : List O} {A : List Addr} {ds : List D}, RoL K F H vs os A → os.mapM asFrz = some ds → VwL K F vs ds
  | _, _, _, ds, .nil, e => by
    have : ds = [] := by simpa using e.symm
    rw [this]; exact .nil
  | _, _, _, ds, .cons (o := o) (os := os) h l, e => by
    rw [List.mapM_cons] at e
    obtain ⟨d, e1, e⟩ := Option.bind_eq_some_iff.mp e
    obtain ⟨ds', e2, e⟩ := Option.bind_eq_some_iff.mp e
    cases e
    exact .cons (VwO.asFrz ⟨_, h⟩ g e1) (ro_mapM g l e2)
theorem VwO.litems (h : VwO K F H v o) (g : Gl T F H) {ds : List D} (e : o.litems = some ds) : ∃ a vs, v = .ref a ∧ SqL K H a vs ∧ VwL K F vs ds := by
  obtain ⟨A, r⟩ := h
  unfold O.litems at e
  split at e
  · cases e
    cases r with
    | frz r => cases r with
      | lst h l => exact ⟨_, _, rfl, .of (g.sub.at h (fun _ z => by cases z) rfl), l⟩
  · cases e
    cases r with
    | frz r => cases r with
      | scr h => exact ⟨_, _, rfl, g.sub.sql h, VwL.of_ints _⟩
  · cases r with
    | lst f h l => exact ⟨_, _, rfl, .of h, ro_mapM g l e⟩
  · cases e
theorem VwO.plitems (h : VwO K F H v o) (g : Gl T F H) {ds : List D} (e : o.plitems = some ds) : ∃ a vs, v = .ref a ∧ H a = some (.lst vs) ∧ VwL K F vs ds := by
  obtain ⟨A, r⟩ := h
  unfold O.plitems at e
  split at e
  · cases e
    cases r with
    | frz r => cases r with
      | lst h l => exact ⟨_, _, rfl, g.sub.at h (fun _ z => by cases z) rfl, l⟩
  · cases r with
    | lst f h l => exact ⟨_, _, rfl, h, ro_mapM g l e⟩
  · cases e
theorem VwO.titems (h : VwO K F H v o) (g : Gl T F H) {ds : List D} (e : o.titems = some ds) : ∃ a vs, v = .ref a ∧ F a = some (.tup vs) ∧ H a = some (.tup vs) ∧ VwL K F vs ds := by
  obtain ⟨A, r⟩ := h
  unfold O.titems at e
  split at e
  · cases e
    cases r with
    | frz r => cases r with
      | tup h l => exact ⟨_, _, rfl, h, g.sub.at h (fun _ z => by cases z) rfl, l⟩
  · cases r with
    | tup h l => exact ⟨_, _, rfl, h, g.sub.at h (fun _ z => by cases z) rfl, ro_mapM g l e⟩
  · cases e
/-- a new list of frozen items -/
theorem new_lst (g : Gl T F H) {p : Addr} {vs : List V} {ds : List D} (hp : H p = none) (l : VwL K F vs ds) : PX T F H F (upd H p (.lst vs)) ∧ Fresh K H F (upd H p (.lst vs)) (.ref p) (newL ds) [p] := by
  have px : PX T F H F (upd H p (.lst vs)) := .owned g hp fun _ z => by cases z
  refine ⟨px, ⟨.lst (g.free hp) upd_same (RoL.frz l), by simp, fun a z => ?_⟩⟩
  have : a = p := by simpa using z
  rw [this]; exact hp
/-- a new tuple -/
theorem new_tup (g : Gl T F H) {p : Addr} {vs : List V} {ds : List D} (hp : H p = none) (l : VwL K F vs ds) : PX T F H (upd F p (.tup vs)) (upd H p (.tup vs)) ∧ Vw K (upd F p (.tup vs)) (.ref p) (.tup ds) := by
  have px : PX T F H (upd F p (.tup vs)) (upd H p (.tup vs)) := .laid g hp (fun _ z => by cases z) (.inr trivial)
  exact ⟨px, .tup upd_same (l.sub (.of px.f))⟩
theorem op_gI (f : Int → Int → Int) : Op2 K T (rI0 fun i j => .int (f i j)) (sc2 (gI f)) := .sc fun F H x y a b d Q gl hx hy e k => by
  unfold gI at e
  split at e
  · cases e; cases hx; cases hy
    exact ⟨_, _, rfl, rfl, k _ (.int _)⟩
  · cases e
theorem op_gB (f : Int → Int → Bool) : Op2 K T (rI0 fun i j => .bl (f i j)) (sc2 (gB f)) := .sc fun F H x y a b d Q gl hx hy e k => by
  unfold gB at e
  split at e
  · cases e; cases hx; cases hy
    exact ⟨_, _, rfl, rfl, k _ (.bl _)⟩
  · cases e
theorem op_gMul : Op2 K T (rI CMul fun i j => .int (i * j)) (sc2 gMul) := .sc fun F H x y a b d Q gl hx hy e k => by
  unfold gMul at e
  split at e
  · split at e
    · cases e; cases hx; cases hy
      exact ⟨_, _, rfl, rfl, by assumption, k _ (.int _)⟩
    · cases e
  · cases e
theorem op_gDiv : Op2 K T (rI CDiv fun i j => .int (i / j)) (sc2 gDiv) := .sc fun F H x y a b d Q gl hx hy e k => by
  unfold gDiv at e
  split at e
  · split at e
    · cases e; cases hx; cases hy
      exact ⟨_, _, rfl, rfl, by assumption, k _ (.int _)⟩
    · cases e
  · cases e
theorem op_gMod : Op2 K T (rI (fun _ j => 0 < j) fun i j => .int (i % j)) (sc2 gMod) := .sc fun F H x y a b d Q gl hx hy e k => by
  unfold gMod at e
  split at e
  · split at e
    · cases e; cases hx; cases hy
      exact ⟨_, _, rfl, rfl, by assumption, k _ (.int _)⟩
    · cases e
  · cases e
theorem op_gNeg : Op1 K T (rU fun i => .int (-i)) (sc1 gNeg) := .sc fun F H x a d Q gl hx e k => by
  unfold gNeg at e
  split at e
  · cases e; cases hx
    exact ⟨_, rfl, k _ (.int _)⟩
  · cases e
def rCatS : R2 := fun x y H Q => ∃ i j, x = .str i ∧ y = .str j ∧ i.length + j.length ≤ sizeLine ∧ Q (.str (i ++ j)) H
theorem op_gCatS : Op2 K T rCatS (sc2 gCatS) := .sc fun F H x y a b d Q gl hx hy e k => by
  unfold gCatS at e
  split at e
  · split at e
    · cases e; cases hx; cases hy
      exact ⟨_, _, rfl, rfl, by assumption, k _ (.str _)⟩
    · cases e
  · cases e
theorem op_oCatL : Op2 K T rCat oCatL := by
  intro F H x y a b o Q gl hx hy e k
  obtain ⟨xs, e1, e⟩ := Option.bind_eq_some_iff.mp e
  obtain ⟨ys, e2, e⟩ := Option.bind_eq_some_iff.mp e
  split at e
  · cases e
    obtain ⟨p, vs, rfl, h1, l1⟩ := hx.plitems gl e1
    obtain ⟨q, ws, rfl, h2, l2⟩ := hy.plitems gl e2
    refine ⟨p, q, vs, ws, rfl, rfl, h1, h2, by rw [l1.length, l2.length]; assumption, fun r hr => ?_⟩
    obtain ⟨px, f⟩ := new_lst gl hr (l1.append l2)
    exact k _ _ _ _ px f
  · cases e
theorem op_oCatT : Op2 K T (rCatA K) oCatT := by
  intro F H x y a b o Q gl hx hy e k
  obtain ⟨xs, e1, e⟩ := Option.bind_eq_some_iff.mp e
  obtain ⟨ys, e2, e⟩ := Option.bind_eq_some_iff.mp e
  split at e
  · cases e
    obtain ⟨p, vs, rfl, f1, h1, l1⟩ := hx.titems gl e1
    obtain ⟨q, ws, rfl, f2, h2, l2⟩ := hy.titems gl e2
    refine ⟨p, q, vs, ws, rfl, rfl, .of h1, .of h2, by rw [l1.length, l2.length]; assumption, fun z => ?_, fun z1 z => ?_, fun z1 z2 r hr => ?_⟩
    · subst z
      cases l1
      exact k _ F H [] (.refl gl) (.frz (.tup f2 l2))
    · subst z
      cases l2
      rw [List.append_nil] at *
      exact k _ F H [] (.refl gl) (.frz (.tup f1 l1))
    · obtain ⟨px, f⟩ := new_tup gl hr (l1.append l2)
      exact k _ _ _ [] px (.frz f)
  · cases e
end
section
variable {X : Cx} {T : Tab} {a b c : Expr} {ma mb mc : Em} {pos : Pos}
def oAdd : O → O → Option O := orO (sc2 (gI fun i j => i + j)) (orO (sc2 gCatS) (orO oCatL oCatT))
theorem fe_add (ha : BE X T a ma) (hb : BE X T b mb) : FE X T (.BinOp a .Add b pos) (eOp2 oAdd ma mb) :=
  fe_op2 (op_add.or (op_add_str.or (op_cat.or op_catA))) ((op_gI _).or (op_gCatS.or (op_oCatL.or op_oCatT))) ha hb
theorem fe_sub (ha : BE X T a ma) (hb : BE X T b mb) : FE X T (.BinOp a .Sub b pos) (eOp2 (sc2 (gI fun i j => i - j)) ma mb) := fe_op2 op_sub (op_gI _) ha hb
theorem fe_div (ha : BE X T a ma) (hb : BE X T b mb) : FE X T (.BinOp a .FloorDiv b pos) (eOp2 (sc2 gDiv) ma mb) := fe_op2 op_fdiv op_gDiv ha hb
theorem fe_mod (ha : BE X T a ma) (hb : BE X T b mb) : FE X T (.BinOp a .Mod b pos) (eOp2 (sc2 gMod) ma mb) := fe_op2 op_mod op_gMod ha hb
theorem fe_neg (ha : BE X T a ma) : FE X T (.UnaryOp .USub a pos) (eOp1 (sc1 gNeg) ma) := fe_un un_neg op_gNeg ha
end
end VL
namespace VL
open PySem PySem.Spec PyProof.Rows L2
def repS (z : Str) (k : Int) : Str := ⟨(List.replicate k.toNat z.cps.toList).flatten.toArray⟩
theorem foldl_app (xs : Array Nat) : ∀ (n : Nat) (acc : Array Nat), (List.replicate n xs).foldl (· ++ ·) acc = acc ++ ((List.replicate n xs.toList).flatten.toArray)
  | 0, acc => by simp
  | n + 1, acc => by
    rw [List.replicate_succ, List.foldl_cons, foldl_app xs n, List.replicate_succ, List.flatten_cons]
    apply Array.ext'
    simp
def rRepS : R2 := fun x y H Q => ∃ z k, x = .str z ∧ y = .int k ∧ 0 ≤ k ∧ k ≤ 1000 ∧ z.length ≤ 1000 ∧ Q (.str (repS z k)) H
theorem op_repS {X : Cx} : OpR X (binaryOp .Mult) rRepS := by
  intro pins s σ H x y v u Q I rx ry h
  obtain ⟨z, k, rfl, rfl, h0, h1, h2, q⟩ := h
  obtain ⟨t, rfl⟩ := rx
  obtain ⟨t', rfl⟩ := ry
  have hsz : sizeLine = 16777216 := sizeLine_eq
  have e1 : decide (k < -(2 ^ 63 : Int)) = false := decide_eq_false (by omega)
  have e2 : decide (k ≥ 2 ^ 63) = false := decide_eq_false (by omega)
  have hm : z.length * k.toNat ≤ 1000 * 1000 := Nat.mul_le_mul h2 (by omega)
  refine PySem.P.mul_str (by rw [e1, e2]; rfl) (fun a b => ?_) (fun a b => ?_) ?_
  · have hk : 0 < k := by omega
    have : ((2 ^ 63 - 1 : Int) / k) ≥ (2 ^ 63 - 1) / 1000 := by
      refine (Int.le_ediv_iff_mul_le hk).mpr ?_
      have : ((2 ^ 63 - 1 : Int) / 1000) * k ≤ ((2 ^ 63 - 1) / 1000) * 1000 := Int.mul_le_mul_of_nonneg_left h1 (by decide)
      omega
    omega
  · exact decide_eq_false (by rw [hsz]; omega)
  · by_cases c : k < 1
    · rw [if_pos c]
      have e : repS z k = Str.empty := by
        have : k.toNat = 0 := by omega
        unfold repS
        rw [this]
        rfl
      refine ⟨by show (0 : Nat) ≤ sizeLine; rw [hsz]; omega, .str Str.empty, H, I.tok _, ⟨_, rfl⟩, by rw [← e]; exact q⟩
    · rw [if_neg c]
      by_cases c2 : (k == 1 || z.length == 0) = true
      · rw [if_pos c2]
        have e : repS z k = z := by
          rcases Bool.or_eq_true_iff.mp c2 with c3 | c3
          · have : k = 1 := by simpa using c3
            subst this
            unfold repS
            simp
          · have : z.cps = #[] := by
              have : z.cps.size = 0 := by simpa [Str.length] using c3
              exact Array.eq_empty_of_size_eq_zero this
            obtain ⟨c⟩ := z
            simp only at this
            subst this
            unfold repS
            simp
        exact ⟨.str z, H, I, ⟨t, rfl⟩, by rw [e] at q; exact q⟩
      · rw [if_neg c2]
        have e : (⟨(List.replicate k.toNat z.cps).foldl (· ++ ·) #[]⟩ : Str) = repS z k := by
          rw [foldl_app]
          unfold repS
          simp
        rw [e]
        refine ⟨?_, .str _, H, I.tok _, ⟨_, rfl⟩, q⟩
        show (repS z k).cps.size ≤ sizeLine
        unfold repS
        simp only [List.size_toArray, PyProof.Rows.lm_len_rep_flat]
        rw [hsz, Nat.mul_comm]
        have : z.cps.toList.length = z.length := by simp [Str.length]
        rw [this]
        omega
def gRepS : D → D → Option D
  | .str z, .int k => if 0 ≤ k ∧ k ≤ 1000 ∧ z.length ≤ 1000 then some (.str (repS z k)) else none
  | _, _ => none
def oRepL : O → O → Option O := fun a b => a.plitems.bind fun xs => match b.toD with
  | .int k => if 0 ≤ k ∧ k ≤ 1000000 ∧ xs.length * k.toNat ≤ sizeLine then some (newL (List.replicate k.toNat xs).flatten) else none
  | _ => none
section
variable {K : PySem.W.Frag} {T : Tab} {F H : Hp}
theorem op_gRepS : Op2 K T rRepS (sc2 gRepS) := .sc fun F H x y a b d Q gl hx hy e k => by
  unfold gRepS at e
  split at e
  · split at e
    · rename_i c
      cases e; cases hx; cases hy
      exact ⟨_, _, rfl, rfl, c.1, c.2.1, c.2.2, k _ (.str _)⟩
    · cases e
  · cases e
theorem VwL.rep {vs : List V} {ds : List D} (l : VwL K F vs ds) : ∀ n : Nat, VwL K F (List.replicate n vs).flatten (List.replicate n ds).flatten
  | 0 => .nil
  | n + 1 => by
    rw [List.replicate_succ, List.replicate_succ, List.flatten_cons, List.flatten_cons]
    exact l.append (VwL.rep l n)
theorem op_oRepL : Op2 K T rRep oRepL := by
  intro F H x y a b o Q gl hx hy e k
  obtain ⟨xs, e1, e⟩ := Option.bind_eq_some_iff.mp e
  have hy := hy.vw gl
  split at e
  · rename_i j q
    split at e
    · rename_i c
      cases e
      rw [q] at hy
      cases hy
      obtain ⟨p, vs, rfl, h1, l1⟩ := hx.plitems gl e1
      refine ⟨p, j, vs, rfl, rfl, h1, by omega, by omega, by rw [l1.length]; exact c.2.2, fun r hr => ?_⟩
      obtain ⟨px, f⟩ := new_lst gl hr (l1.rep j.toNat)
      exact k _ _ _ _ px f
    · cases e
  · cases e
end
section
variable {X : Cx} {T : Tab} {a b c : Expr} {ma mb mc : Em} {pos : Pos}
def oMul : O → O → Option O := orO (sc2 gMul) (orO (sc2 gRepS) oRepL)
theorem fe_mul (ha : BE X T a ma) (hb : BE X T b mb) : FE X T (.BinOp a .Mult b pos) (eOp2 oMul ma mb) :=
  fe_op2 (op_mul.or (op_repS.or op_rep)) (op_gMul.or (op_gRepS.or op_oRepL)) ha hb
end
mutual
def D.py : D → Option PyData
  | .non => some .none
  | .bl b => some (.bool b)
  | .int i => some (.int i)
  | .str x => some (.str x)
  | .tup ds => (D.pys ds).map .tuple
  | .lst ds => (D.pys ds).map .list
  | .dct _ => none
  | .dtt _ => none
  | .ins _ _ => none
  | .scr ns => some (.list (ns.map .int))
def D.pys : List D → Option (List PyData)
  | [] => some []
  | d :: ds => (d.py).bind fun x => (D.pys ds).map fun xs => x :: xs
end
mutual
theorem py_plain : ∀ (d : D) (x : PyData), d.py = some x → x.plain = true
  | .non, x, e => by rw [D.py] at e; cases e; rfl
  | .bl b, x, e => by rw [D.py] at e; cases e; rfl
  | .int i, x, e => by rw [D.py] at e; cases e; rfl
  | .str z, x, e => by rw [D.py] at e; cases e; rfl
  | .tup ds, x, e => by
    rw [D.py] at e
    obtain ⟨xs, e1, e2⟩ := Option.map_eq_some_iff.mp e
    subst e2
    rw [PyData.plain]
    exact pys_plain ds xs e1
  | .lst ds, x, e => by
    rw [D.py] at e
    obtain ⟨xs, e1, e2⟩ := Option.map_eq_some_iff.mp e
    subst e2
    rw [PyData.plain]
    exact pys_plain ds xs e1
  | .dct _, x, e => by rw [D.py] at e; cases e
  | .dtt _, x, e => by rw [D.py] at e; cases e
  | .ins _ _, x, e => by rw [D.py] at e; cases e
  | .scr ns, x, e => by
    rw [D.py] at e; cases e
    rw [PyData.plain]
    induction ns with
    | nil => rfl
    | cons n ns ih => rw [List.map_cons, PyData.plainAll, ih]; rfl
theorem pys_plain : ∀ (ds : List D) (xs : List PyData), D.pys ds = some xs → PyData.plainAll xs = true
  | [], xs, e => by rw [D.pys] at e; cases e; rfl
  | d :: ds, xs, e => by
    rw [D.pys] at e
    obtain ⟨x, e1, e⟩ := Option.bind_eq_some_iff.mp e
    obtain ⟨ys, e2, e3⟩ := Option.map_eq_some_iff.mp e
    subst e3
    rw [PyData.plainAll, py_plain d x e1, pys_plain ds ys e2]
    rfl
end
section
variable {K : PySem.W.Frag} {H : Hp}
theorem dpAll_ints : ∀ ns : List Int, DpAll K H (ns.map V.int) (ns.map PyData.int)
  | [] => .nil
  | n :: ns => .cons (.int n) (dpAll_ints ns)
mutual
theorem Vw.dp : ∀ {v : V} {d : D} {x : PyData}, Vw K H v d → d.py = some x → Dp K H v x
  | _, _, _, .non, e => by rw [D.py] at e; cases e; exact .non
  | _, _, _, .bl b, e => by rw [D.py] at e; cases e; exact .bl b
  | _, _, _, .int i, e => by rw [D.py] at e; cases e; exact .int i
  | _, _, _, .str z, e => by rw [D.py] at e; cases e; exact .str z
  | _, _, _, .tup h l, e => by
    rw [D.py] at e
    obtain ⟨xs, e1, e2⟩ := Option.map_eq_some_iff.mp e
    subst e2
    exact .tup (.of h) (VwL.dp l e1)
  | _, _, _, .lst h l, e => by
    rw [D.py] at e
    obtain ⟨xs, e1, e2⟩ := Option.map_eq_some_iff.mp e
    subst e2
    exact .lst (.of h) (VwL.dp l e1)
  | _, _, _, .dct _ _ _, e => by rw [D.py] at e; cases e
  | _, _, _, .dtt _ _ _, e => by rw [D.py] at e; cases e
  | _, _, _, .ins _ _ _, e => by rw [D.py] at e; cases e
  | _, _, _, .scr h, e => by rw [D.py] at e; cases e; exact .lst h (dpAll_ints _)
theorem VwL.dp : ∀ {vs : List V} {ds : List D} {xs : List PyData}, VwL K H vs ds → D.pys ds = some xs → DpAll K H vs xs
  | _, _, _, .nil, e => by rw [D.pys] at e; cases e; exact .nil
  | _, _, _, .cons h l, e => by
    rw [D.pys] at e
    obtain ⟨x, e1, e⟩ := Option.bind_eq_some_iff.mp e
    obtain ⟨ys, e2, e3⟩ := Option.map_eq_some_iff.mp e
    subst e3
    exact .cons (Vw.dp h e1) (VwL.dp l e2)
end
end
/-- a == b of two plain data, not too deep -/
def eqP (x y : PyData) : Option Bool := if min x.depth y.depth ≤ 30 then some (PyData.eqv x y) else none
def gEq : D → D → Option D := fun a b => (a.py).bind fun x => (b.py).bind fun y => (eqP x y).map fun r => .bl r
def gNe : D → D → Option D := fun a b => (a.py).bind fun x => (b.py).bind fun y => (eqP x y).map fun r => .bl (!r)
def rEqP (K : PySem.W.Frag) : R2 := fun x y H Q => ∃ d e, Dp K H x d ∧ Dp K H y e ∧ d.plain = true ∧ e.plain = true ∧ min d.depth e.depth ≤ 30 ∧ Q (.bl (PyData.eqv d e)) H
def rNeP (K : PySem.W.Frag) : R2 := fun x y H Q => ∃ d e, Dp K H x d ∧ Dp K H y e ∧ d.plain = true ∧ e.plain = true ∧ min d.depth e.depth ≤ 30 ∧ Q (.bl (!PyData.eqv d e)) H
section
variable {X : Cx}
theorem op_eqP (hu : X.A.units + 64 < cLine) : OpR X (compareOp .Eq) (rEqP X.K) := by
  intro pins s σ H x y v u Q I rx ry h
  obtain ⟨d, e, hd, he, sd, se, hm, q⟩ := h
  obtain ⟨as, r1⟩ := Dp.reads I d x v hd rx
  obtain ⟨bs, r2⟩ := Dp.reads I e y u he ry
  exact SeqAt.eq_plain r1 r2 sd se (by omega) ⟨.bl _, H, I, rfl, q⟩
theorem op_neP (hu : X.A.units + 64 < cLine) : OpR X (compareOp .NotEq) (rNeP X.K) := by
  intro pins s σ H x y v u Q I rx ry h
  obtain ⟨d, e, hd, he, sd, se, hm, q⟩ := h
  obtain ⟨as, r1⟩ := Dp.reads I d x v hd rx
  obtain ⟨bs, r2⟩ := Dp.reads I e y u he ry
  exact SeqAt.ne_plain r1 r2 sd se (by omega) ⟨.bl _, H, I, rfl, q⟩
end
section
variable {K : PySem.W.Frag} {T : Tab}
theorem op_gEq : Op2 K T (rEqP K) (sc2 gEq) := .sc fun F H x y a b d Q gl hx hy e k => by
  obtain ⟨p, e1, e⟩ := Option.bind_eq_some_iff.mp e
  obtain ⟨q, e2, e⟩ := Option.bind_eq_some_iff.mp e
  obtain ⟨r, e3, e⟩ := Option.map_eq_some_iff.mp e
  subst e
  unfold eqP at e3
  split at e3
  · cases e3
    exact ⟨p, q, hx.dp e1, hy.dp e2, py_plain _ _ e1, py_plain _ _ e2, by assumption, k _ (.bl _)⟩
  · cases e3
theorem op_gNe : Op2 K T (rNeP K) (sc2 gNe) := .sc fun F H x y a b d Q gl hx hy e k => by
  obtain ⟨p, e1, e⟩ := Option.bind_eq_some_iff.mp e
  obtain ⟨q, e2, e⟩ := Option.bind_eq_some_iff.mp e
  obtain ⟨r, e3, e⟩ := Option.map_eq_some_iff.mp e
  subst e
  unfold eqP at e3
  split at e3
  · cases e3
    exact ⟨p, q, hx.dp e1, hy.dp e2, py_plain _ _ e1, py_plain _ _ e2, by assumption, k _ (.bl _)⟩
  · cases e3
end
def inP (neg : Bool) (x : PyData) (ys : List PyData) : Option D := if x.depth ≤ 30 then some (.bl (neg ^^ ys.any fun y => PyData.eqv y x)) else none
/-- x in a list or tuple -/
def gInS (neg : Bool) : D → D → Option D := fun a b => (a.py).bind fun x => match b with
  | .lst ds => (D.pys ds).bind (inP neg x)
  | .tup ds => (D.pys ds).bind (inP neg x)
  | _ => none
/-- one sign in a text -/
def gInT (neg : Bool) : D → D → Option D
  | .str c, .str z => match c.cps.toList with
    | [n] => some (.bl (neg ^^ decide (n ∈ z.cps.toList)))
    | _ => none
  | _, _ => none
def D.key : D → Option Key
  | .int i => some (.inl i)
  | .str x => some (.inr x)
  | _ => none
def D.keys : List D → Option (List Key)
  | [] => some []
  | d :: ds => (d.key).bind fun k => (D.keys ds).map fun ks => k :: ks
def rInP (K : PySem.W.Frag) (neg : Bool) : R2 := fun x y H Q => ∃ d ds, Dp K H x d ∧ (Dp K H y (.list ds) ∨ Dp K H y (.tuple ds)) ∧ d.plain = true ∧ PyData.plainAll ds = true ∧ d.depth ≤ 30 ∧ Q (.bl (neg ^^ ds.any fun z => PyData.eqv z d)) H
section
variable {X : Cx}
theorem op_inP (hu : X.A.units + 64 < cLine) : OpR X (compareOp .In) (rInP X.K false) := by
  intro pins s σ H x y v u Q I rx ry h
  obtain ⟨d, ds, hd, he, sd, se, hm, q⟩ := h
  rw [Bool.false_xor] at q
  obtain ⟨as, r1⟩ := Dp.reads I d x v hd rx
  rcases he with he | he
  · obtain ⟨bs, r2⟩ := Dp.reads I _ y u he ry
    exact SeqAt.in_list_data r2 r1 se sd (by omega) ⟨.bl _, H, I, rfl, q⟩
  · obtain ⟨bs, r2⟩ := Dp.reads I _ y u he ry
    exact SeqAt.in_tuple_data r2 r1 se sd (by omega) ⟨.bl _, H, I, rfl, q⟩
theorem op_notInP (hu : X.A.units + 64 < cLine) : OpR X (compareOp .NotIn) (rInP X.K true) := by
  intro pins s σ H x y v u Q I rx ry h
  obtain ⟨d, ds, hd, he, sd, se, hm, q⟩ := h
  rw [Bool.true_xor] at q
  obtain ⟨as, r1⟩ := Dp.reads I d x v hd rx
  rcases he with he | he
  · obtain ⟨bs, r2⟩ := Dp.reads I _ y u he ry
    exact SeqAt.notIn_list_data r2 r1 se sd (by omega) ⟨.bl _, H, I, rfl, q⟩
  · obtain ⟨bs, r2⟩ := Dp.reads I _ y u he ry
    exact SeqAt.notIn_tuple_data r2 r1 se sd (by omega) ⟨.bl _, H, I, rfl, q⟩
end
section
variable {K : PySem.W.Frag} {T : Tab}
theorem inP_of {neg : Bool} {x : PyData} {ys : List PyData} {d : D} (h : inP neg x ys = some d) : x.depth ≤ 30 ∧ d = .bl (neg ^^ ys.any fun y => PyData.eqv y x) := by
  unfold inP at h
  split at h
  · cases h; exact ⟨by assumption, rfl⟩
  · cases h
theorem op_gInS (neg : Bool) : Op2 K T (rInP K neg) (sc2 (gInS neg)) := .sc fun F H x y a b d Q gl hx hy e k => by
  obtain ⟨p, e1, e⟩ := Option.bind_eq_some_iff.mp e
  split at e
  · obtain ⟨ys, e2, e⟩ := Option.bind_eq_some_iff.mp e
    obtain ⟨h1, h2⟩ := inP_of e
    subst h2
    cases hy with
    | lst h l => exact ⟨p, ys, hx.dp e1, .inl (.lst (.of h) (l.dp e2)), py_plain _ _ e1, pys_plain _ _ e2, h1, k _ (.bl _)⟩
  · obtain ⟨ys, e2, e⟩ := Option.bind_eq_some_iff.mp e
    obtain ⟨h1, h2⟩ := inP_of e
    subst h2
    cases hy with
    | tup h l => exact ⟨p, ys, hx.dp e1, .inr (.tup (.of h) (l.dp e2)), py_plain _ _ e1, pys_plain _ _ e2, h1, k _ (.bl _)⟩
  · cases e
end
end VL
namespace VL
open PySem PySem.Spec PyProof.Rows L2
section
variable {K : PySem.W.Frag} {F H : Hp} {κ : Type} [DecidableEq κ]
/-- a dict's entry -/
theorem getA_vw : ∀ {kvs : List (κ × V)} {kds : List (κ × D)} {k : κ}, kvs.map Prod.fst = kds.map Prod.fst → VwL K H (kvs.map Prod.snd) (kds.map Prod.snd) →
    (valV kvs k).isSome = (getA kds k).isSome ∧ ∀ d, getA kds k = some d → ∃ v, valV kvs k = some v ∧ Vw K H v d
  | [], [], k, _, _ => ⟨rfl, fun d e => by simp [getA] at e⟩
  | [], _ :: _, _, e, _ => by simp at e
  | _ :: _, [], _, e, _ => by simp at e
  | (pk, pv) :: kvs, (qk, qd) :: kds, k, e, l => by
    simp only [List.map_cons, List.cons.injEq] at e
    obtain ⟨e1, e2⟩ := e
    subst e1
    simp only [List.map_cons] at l
    cases l with
    | cons h1 h2 =>
      obtain ⟨g1, g2⟩ := getA_vw (k := k) e2 h2
      by_cases z : pk = k
      · refine ⟨by simp [valV, getA, List.find?_cons, z], fun d e => ?_⟩
        have : qd = d := by simpa [getA, List.find?_cons, z] using e
        subst this
        exact ⟨pv, by simp [valV, List.find?_cons, z], h1⟩
      · have w1 : valV ((pk, pv) :: kvs) k = valV kvs k := by simp [valV, List.find?_cons, z]
        have w2 : getA ((pk, qd) :: kds) k = getA kds k := by simp [getA, List.find?_cons, z]
        rw [w1, w2]
        exact ⟨g1, g2⟩
theorem getA_ro : ∀ {kvs : List (κ × V)} {kos : List (κ × O)} {k : κ} {o : O} {A : List Addr}, kvs.map Prod.fst = kos.map Prod.fst → RoL K F H (kvs.map Prod.snd) (kos.map Prod.snd) A → getA kos k = some o →
    ∃ v B, valV kvs k = some v ∧ Ro K F H v o B
  | [], [], k, _, _, _, _, e => by simp [getA] at e
  | [], _ :: _, _, _, _, e, _, _ => by simp at e
  | _ :: _, [], _, _, _, e, _, _ => by simp at e
  | (pk, pv) :: kvs, (qk, qd) :: kos, k, o, A, e, l, e3 => by
    simp only [List.map_cons, List.cons.injEq] at e
    obtain ⟨e1, e2⟩ := e
    subst e1
    simp only [List.map_cons] at l
    cases l with
    | cons h1 h2 =>
      by_cases z : pk = k
      · have : qd = o := by simpa [getA, List.find?_cons, z] using e3
        subst this
        exact ⟨pv, _, by simp [valV, List.find?_cons, z], h1⟩
      · obtain ⟨v, B, g1, g2⟩ := getA_ro (k := k) e2 h2 (by simpa [getA, List.find?_cons, z] using e3)
        exact ⟨v, B, by simpa [valV, List.find?_cons, z] using g1, g2⟩
end
section
variable {K : PySem.W.Frag} {T : Tab} {F H : Hp}
theorem Vw.key {v : V} {d : D} {k : Key} (h : Vw K H v d) (e : d.key = some k) : v = kV k := by
  cases h <;> simp [D.key] at e
  all_goals subst e; rfl
theorem VwL.keys : ∀ {vs : List V} {ds : List D} {ks : List Key}, VwL K H vs ds → D.keys ds = some ks → vs = ks.map kV
  | _, _, ks, .nil, e => by rw [D.keys] at e; cases e; rfl
  | _, _, ks, .cons h l, e => by
    rw [D.keys] at e
    obtain ⟨k, e1, e⟩ := Option.bind_eq_some_iff.mp e
    obtain ⟨ks', e2, e3⟩ := Option.map_eq_some_iff.mp e
    subst e3
    rw [List.map_cons, h.key e1, VwL.keys l e2]
/-- the key that d writes, for a dict of one of the two kinds -/
def dGetD (a : D) (k : D) : Option (Option D) := match a with
  | .dct kds => (k.key).map fun k => getA kds k
  | .dtt kds => (match k with
    | .tup ds => (D.keys ds).map fun k => getA kds k
    | _ => none)
  | _ => none
end
def tT (K : PySem.W.Frag) (T : Tab) (t : Env → Option Bool) : TT := fun σ H Q => ∃ F env ω, Sta K T F H σ env ω ∧ ∃ b, t env = some b ∧ ∀ F' H', PX T F H F' H' → Q b H'
def BT (X : Cx) (T : Tab) (e : Expr) (t : Env → Option Bool) : Prop := PT X e (tT X.K T t)
theorem ptI {X : Cx} {e : Expr} {t t' : TT} (h : PT X e t) (w : ∀ σ H Q, t' σ H Q → t σ H Q) : PT X e t' := ⟨fun pins s σ H Q I q => h.run pins s σ H Q I (w σ H Q q)⟩
theorem pwI {X : Cx} {e : Expr} {t t' : TT} (h : PW X e t) (w : ∀ σ H Q, t' σ H Q → t σ H Q) : PW X e t' := ⟨fun wh pins s σ H Q I q => h.run wh pins s σ H Q I (w σ H Q q)⟩
abbrev Tm := Env → Option Bool
def tst (m : Em) : Tm := fun env => (m env).bind fun o => match o.toD with
  | .bl b => some b
  | _ => none
section
variable {X : Cx} {T : Tab} {a b c e : Expr} {ma mb mc m : Em} {pos : Pos} {t u : Tm}
theorem Ro.bl {K : PySem.W.Frag} {F H : Hp} {v : V} {o : O} {A : List Addr} {b : Bool} (r : Ro K F H v o A) (e : o.toD = .bl b) : v = .bl b := by
  cases r with
  | frz h => rw [O.toD] at e; subst e; cases h; rfl
  | _ => rw [O.toD] at e; cases e
theorem tTest_of {K : PySem.W.Frag} {σ : L2.St} {H : Hp} {Q : Bool → Hp → Prop} (h : tT K T (tst m) σ H Q) : tF K T m σ H fun x H' => ∃ k, x = .bl k ∧ Q k H' := by
  obtain ⟨F, env, ω, s, b, e, k⟩ := h
  obtain ⟨o, e1, e⟩ := Option.bind_eq_some_iff.mp e
  refine ⟨F, env, ω, s, o, e1, fun v F' H' A p f => ?_⟩
  split at e
  · rename_i c q
    cases e
    exact ⟨_, f.ro.bl q, k F' H' p⟩
  · cases e
theorem bt_cmp {op : CmpOp} {r : R2} {f : O → O → Option O} (ho : OpR X (compareOp op) r) (hf : Op2 X.K T r f) (ha : BE X T a ma) (hb : BE X T b mb) (hm : behindInMarks op b = false) : BT X T (.Compare a [op] [b] pos) (tst (eOp2 f ma mb)) :=
  ptI (pt_cmpR ho ha hb hm) fun _ _ _ h => tOp_of hf (tTest_of h)
/-- a PC rule -/
theorem bt_pc {op : CmpOp} {t : TE} {m : Em} (h : PC X op a b t) (hw : ∀ σ H Q, tF X.K T m σ H Q → t σ H Q) (h1 : behindInMarks op b = false) : BT X T (.Compare a [op] [b] pos) (tst m) :=
  ptI (pt_cmp h h1) fun σ H Q q => hw σ H _ (tTest_of q)
theorem fe_pc {op : CmpOp} {t : TE} {m : Em} (h : PC X op a b t) (hw : ∀ σ H Q, tF X.K T m σ H Q → t σ H Q) (h1 : behindInMarks op b = false) : FE X T (.Compare a [op] [b] pos) m :=
  peI (L2.pe_cmp h h1) fun σ H Q q => hw σ H Q q
/-- truth of what is no bool -/
def D.tru : D → Option Bool
  | .non => some false
  | .bl b => some b
  | .int i => some (i != 0)
  | .lst ds => some (!ds.isEmpty)
  | .tup ds => some (!ds.isEmpty)
  | _ => none
def tru (m : Em) : Tm := fun env => (m env).bind fun o => o.toD.tru
theorem bt_tru (h : BE X T e m) (he : ∀ whole, isTrue e X.env whole = (do let v ← whole; standAt e.pos; holding [v] (truthy v)) := by intro _; rfl) : BT X T e (tru m) := by
  refine ptI (pt_truth h he) fun σ H Q q => ?_
  obtain ⟨F, env, ω, s, b, e, k⟩ := q
  obtain ⟨o, e1, e⟩ := Option.bind_eq_some_iff.mp e
  refine ⟨F, env, ω, s, o, e1, fun v F' H' p f => ⟨b, ?_, k F' H' p⟩⟩
  have hv := f.vw p.gl
  generalize o.toD = d at hv e
  have nil_iff : ∀ {vs : List V} {ds : List D}, VwL X.K H' vs ds → vs.isEmpty = ds.isEmpty := fun l => by cases l <;> rfl
  cases hv with
  | non => cases e; rfl
  | bl b => cases e; rfl
  | int i => cases e; rfl
  | str x => cases e
  | tup h l => cases e; exact .inr (.inl ⟨_, .of h, by rw [nil_iff l]⟩)
  | lst h l => cases e; exact .inl ⟨_, .of h, by rw [nil_iff l]⟩
  | dct _ _ _ => cases e
  | dtt _ _ _ => cases e
  | ins _ _ _ => cases e
  | scr _ => cases e
def tAnd2 (t u : Tm) : Tm := fun env => (t env).bind fun b => if b = true then u env else some false
def tOr2 (t u : Tm) : Tm := fun env => (t env).bind fun b => if b = true then some true else u env
def tNot1 (t : Tm) : Tm := fun env => (t env).map fun b => !b
def WT (X : Cx) (T : Tab) (e : Expr) (t : Tm) : Prop := PW X e (tT X.K T t)
theorem wt_and1 (ha : BT X T a t) : WT X T (.BoolOp .And [a] pos) t := pw_and1 ha
theorem wt_or1 (ha : BT X T a t) : WT X T (.BoolOp .Or [a] pos) t := pw_or1 ha
theorem wt_and {rest : List Expr} (ha : BT X T a t) (hb : WT X T (.BoolOp .And (b :: rest) pos) u) : WT X T (.BoolOp .And (a :: b :: rest) pos) (tAnd2 t u) := by
  refine pwI (pw_and ha hb) fun σ H Q q => ?_
  obtain ⟨F, env, ω, s, r, e, k⟩ := q
  obtain ⟨x, e1, e⟩ := Option.bind_eq_some_iff.mp e
  refine ⟨F, env, ω, s, x, e1, fun F1 H1 p => ?_⟩
  cases x with
  | true => rw [if_pos rfl] at e ⊢; exact ⟨F1, env, ω, s.px p, r, e, fun F2 H2 p2 => k F2 H2 (p.trans p2)⟩
  | false => rw [if_neg Bool.false_ne_true] at e ⊢; cases e; exact k F1 H1 p
theorem wt_or {rest : List Expr} (ha : BT X T a t) (hb : WT X T (.BoolOp .Or (b :: rest) pos) u) : WT X T (.BoolOp .Or (a :: b :: rest) pos) (tOr2 t u) := by
  refine pwI (pw_or ha hb) fun σ H Q q => ?_
  obtain ⟨F, env, ω, s, r, e, k⟩ := q
  obtain ⟨x, e1, e⟩ := Option.bind_eq_some_iff.mp e
  refine ⟨F, env, ω, s, x, e1, fun F1 H1 p => ?_⟩
  cases x with
  | false => rw [if_neg Bool.false_ne_true] at e ⊢; exact ⟨F1, env, ω, s.px p, r, e, fun F2 H2 p2 => k F2 H2 (p.trans p2)⟩
  | true => rw [if_pos rfl] at e ⊢; cases e; exact k F1 H1 p
theorem bt_w (h : WT X T e t) : BT X T e t := PW.pt h
theorem bt_not (ha : BT X T a t) : BT X T (.UnaryOp .Not a pos) (tNot1 t) := by
  refine ptI (pt_not ha) fun σ H Q q => ?_
  obtain ⟨F, env, ω, s, r, e, k⟩ := q
  obtain ⟨x, e1, e⟩ := Option.map_eq_some_iff.mp e
  subst e
  exact ⟨F, env, ω, s, x, e1, fun F1 H1 p => k F1 H1 p⟩
def eAnd (a b : Em) : Em := fun env => (a env).bind fun o => match o.toD with
  | .bl true => b env
  | .bl false => some (.frz (.bl false))
  | _ => none
def eOr (a b : Em) : Em := fun env => (a env).bind fun o => match o.toD with
  | .bl true => some (.frz (.bl true))
  | .bl false => b env
  | _ => none
def eNot (a : Em) : Em := fun env => (a env).bind fun o => match o.toD with
  | .bl b => some (.frz (.bl (!b)))
  | _ => none
theorem be_one {op} (h : BE X T a ma) : BE X T (.BoolOp op [a] pos) ma := pe_one h
theorem be_and {rest : List Expr} (ha : BE X T a ma) (hb : BE X T (.BoolOp .And (b :: rest) pos) mb) : BE X T (.BoolOp .And (a :: b :: rest) pos) (eAnd ma mb) := by
  refine peI (pe_and ha hb) fun σ H Q q => ?_
  obtain ⟨F, env, ω, s, r, e, k⟩ := q
  obtain ⟨x, e1, e⟩ := Option.bind_eq_some_iff.mp e
  refine ⟨F, env, ω, s, x, e1, fun v F1 H1 p ⟨A, h⟩ => ?_⟩
  split at e
  · rename_i q
    exact ⟨true, h.bl q, by rw [if_pos rfl]; exact ⟨F1, env, ω, s.px p, r, e, fun v F2 H2 p2 h2 => k v F2 H2 (p.trans p2) h2⟩⟩
  · rename_i q
    cases e
    exact ⟨false, h.bl q, by rw [if_neg Bool.false_ne_true]; exact k _ F1 H1 p (.frz (.bl false))⟩
  · cases e
theorem be_or {rest : List Expr} (ha : BE X T a ma) (hb : BE X T (.BoolOp .Or (b :: rest) pos) mb) : BE X T (.BoolOp .Or (a :: b :: rest) pos) (eOr ma mb) := by
  refine peI (pe_or ha hb) fun σ H Q q => ?_
  obtain ⟨F, env, ω, s, r, e, k⟩ := q
  obtain ⟨x, e1, e⟩ := Option.bind_eq_some_iff.mp e
  refine ⟨F, env, ω, s, x, e1, fun v F1 H1 p ⟨A, h⟩ => ?_⟩
  split at e
  · rename_i q
    cases e
    exact ⟨true, h.bl q, by rw [if_pos rfl]; exact k _ F1 H1 p (.frz (.bl true))⟩
  · rename_i q
    exact ⟨false, h.bl q, by rw [if_neg Bool.false_ne_true]; exact ⟨F1, env, ω, s.px p, r, e, fun v F2 H2 p2 h2 => k v F2 H2 (p.trans p2) h2⟩⟩
  · cases e
def eIf (t : Tm) (a b : Em) : Em := fun env => (t env).bind fun c => if c = true then a env else b env
def eChain (f g : O → O → Option O) (a b c : Em) : Em := fun env => (a env).bind fun x => (b env).bind fun y => (f x y).bind fun z => match z.toD with
  | .bl true => (c env).bind fun w => g y w
  | .bl false => some (.frz (.bl false))
  | _ => none
theorem tChain_of {r r' : R2} {f g : O → O → Option O} (hf : Op2 X.K T r f) (hg : Op2 X.K T r' g) {σ : L2.St} {H : Hp} {Q : VK} (h : tF X.K T (eChain f g ma mb mc) σ H Q) : tChain r r' (tB X.K T ma) (tB X.K T mb) (tB X.K T mc) σ H Q := by
  obtain ⟨F, env, ω, s, o, e, k⟩ := h
  obtain ⟨x, e1, e⟩ := Option.bind_eq_some_iff.mp e
  obtain ⟨y, e2, e⟩ := Option.bind_eq_some_iff.mp e
  obtain ⟨z, e3, e⟩ := Option.bind_eq_some_iff.mp e
  refine ⟨F, env, ω, s, x, e1, fun v F1 H1 p1 h1 => ⟨F1, env, ω, s.px p1, y, e2, fun u F2 H2 p2 h2 => ?_⟩⟩
  refine hf F2 H2 v u _ _ z _ p2.gl (h1.px p2) h2 e3 fun w F3 H3 A p3 h3 => ?_
  have p := (p1.trans p2).trans p3
  split at e
  · rename_i q
    obtain ⟨w', e4, e⟩ := Option.bind_eq_some_iff.mp e
    refine ⟨true, h3.ro.bl q, ?_⟩
    rw [if_pos rfl]
    refine ⟨F3, env, ω, s.px p, w', e4, fun u' F4 H4 p4 h4 => ?_⟩
    exact hg F4 H4 u u' _ _ o Q p4.gl ((h2.px p3).px p4) h4 e fun w2 F5 H5 A5 p5 h5 => k w2 F5 H5 A5 ((p.trans p4).trans p5) (h5.back (p.trans p4))
  · rename_i q
    cases e
    refine ⟨false, h3.ro.bl q, ?_⟩
    rw [if_neg Bool.false_ne_true]
    exact k _ F3 H3 [] p (.frz (.bl false))
  · cases e
theorem bt_chain {op op' : CmpOp} {r r' : R2} {f g : O → O → Option O} (ho : OpR X (compareOp op) r) (ho' : OpR X (compareOp op') r') (hf : Op2 X.K T r f) (hg : Op2 X.K T r' g) (ha : BE X T a ma) (hb : BE X T b mb) (hc : BE X T c mc)
    (hm : lastMarks [op, op'] [b, c] = false := by with_unfolding_all rfl) : BT X T (.Compare a [op, op'] [b, c] pos) (tst (eChain f g ma mb mc)) :=
  ptI (pt_chain ho ho' ha hb hc hm) fun _ _ _ h => tChain_of hf hg (tTest_of h)
def D.isN : D → Bool
  | .non => true
  | _ => false
def oIsN (neg : Bool) : O → Option O := fun o => some (.frz (.bl (neg ^^ o.toD.isN)))
theorem vw_non {K : PySem.W.Frag} {H : Hp} {v : V} {d : D} (h : Vw K H v d) : decide (v = V.non) = d.isN := by
  cases h <;> simp [D.isN]
theorem isN_w : ∀ σ H Q, tF X.K T (eOp1 (oIsN false) ma) σ H Q → tIsN (tB X.K T ma) σ H Q := by
  intro σ H Q q
  obtain ⟨F, env, ω, s, o, e, k⟩ := q
  obtain ⟨x, e1, e⟩ := Option.bind_eq_some_iff.mp e
  refine ⟨F, env, ω, s, x, e1, fun v F1 H1 p h => ?_⟩
  cases e
  show Q (.bl (decide (v = V.non))) H1
  rw [vw_non (h.vw p.gl)]
  have q := k (.bl (false ^^ x.toD.isN)) F1 H1 [] p (.frz (.bl _))
  rw [Bool.false_xor] at q
  exact q
theorem notN_w : ∀ σ H Q, tF X.K T (eOp1 (oIsN true) ma) σ H Q → tNotN (tB X.K T ma) σ H Q := by
  intro σ H Q q
  obtain ⟨F, env, ω, s, o, e, k⟩ := q
  obtain ⟨x, e1, e⟩ := Option.bind_eq_some_iff.mp e
  refine ⟨F, env, ω, s, x, e1, fun v F1 H1 p h => ?_⟩
  cases e
  show Q (.bl (!decide (v = V.non))) H1
  rw [vw_non (h.vw p.gl)]
  have q := k (.bl (true ^^ x.toD.isN)) F1 H1 [] p (.frz (.bl _))
  rw [Bool.true_xor] at q
  exact q
theorem fe_isN {j pos'} (ha : BE X T a ma) : FE X T (.Compare a [.Is] [.Constant .none j pos'] pos) (eOp1 (oIsN false) ma) := fe_pc (pc_isN ha) isN_w rfl
theorem bt_notN {j pos'} (ha : BE X T a ma) : BT X T (.Compare a [.IsNot] [.Constant .none j pos'] pos) (tst (eOp1 (oIsN true) ma)) := bt_pc (pc_notN ha) notN_w rfl
end
end VL
namespace VL
open PySem PySem.Spec PyProof.Rows L2
def rInT (neg : Bool) : R2 := fun x y H Q => ∃ (c : Nat) (z : Str), x = .str ⟨#[c]⟩ ∧ y = .str z ∧ Q (.bl (neg ^^ decide (c ∈ z.cps.toList))) H
section
variable {X : Cx} {K : PySem.W.Frag} {T : Tab} {a b c e : Expr} {ma mb mc m : Em} {pos : Pos}
theorem op_inT : OpR X (compareOp .In) (rInT false) := by
  intro pins s σ H x y v u Q I rx ry ⟨c, z, h1, h2, q⟩
  rw [Bool.false_xor] at q
  exact op_in_sign pins s σ H x y v u Q I rx ry ⟨c, z, h1, h2, q⟩
theorem op_notInT : OpR X (compareOp .NotIn) (rInT true) := by
  intro pins s σ H x y v u Q I rx ry ⟨c, z, h1, h2, q⟩
  rw [Bool.true_xor] at q
  exact op_notIn_sign pins s σ H x y v u Q I rx ry ⟨c, z, h1, h2, q⟩
theorem op_gInT (neg : Bool) : Op2 K T (rInT neg) (sc2 (gInT neg)) := .sc fun F H x y a b d Q gl hx hy e k => by
  unfold gInT at e
  split at e
  · rename_i c z
    split at e
    · rename_i n q
      cases e; cases hx; cases hy
      refine ⟨n, z, ?_, rfl, k _ (.bl _)⟩
      obtain ⟨c⟩ := c
      simp only at q
      have : c = #[n] := by rw [← Array.toArray_toList (xs := c), q]
      rw [this]
    · cases e
  · cases e
/-- in a list, tuple, text -/
def oIn (neg : Bool) : O → O → Option O := orO (sc2 (gInS neg)) (sc2 (gInT neg))
theorem fe_in (hu : X.A.units + 64 < cLine) (ha : BE X T a ma) (hb : BE X T b mb) (hm : behindInMarks .In b = false) : FE X T (.Compare a [.In] [b] pos) (eOp2 (oIn false) ma mb) :=
  fe_cmp ((op_inP hu).or op_inT) ((op_gInS _).or (op_gInT _)) ha hb hm
theorem bt_in (hu : X.A.units + 64 < cLine) (ha : BE X T a ma) (hb : BE X T b mb) (hm : behindInMarks .In b = false) : BT X T (.Compare a [.In] [b] pos) (tst (eOp2 (oIn false) ma mb)) :=
  bt_cmp ((op_inP hu).or op_inT) ((op_gInS _).or (op_gInT _)) ha hb hm
theorem fe_notin (hu : X.A.units + 64 < cLine) (ha : BE X T a ma) (hb : BE X T b mb) (hm : behindInMarks .NotIn b = false) : FE X T (.Compare a [.NotIn] [b] pos) (eOp2 (oIn true) ma mb) :=
  fe_cmp ((op_notInP hu).or op_notInT) ((op_gInS _).or (op_gInT _)) ha hb hm
theorem bt_notin (hu : X.A.units + 64 < cLine) (ha : BE X T a ma) (hb : BE X T b mb) (hm : behindInMarks .NotIn b = false) : BT X T (.Compare a [.NotIn] [b] pos) (tst (eOp2 (oIn true) ma mb)) :=
  bt_cmp ((op_notInP hu).or op_notInT) ((op_gInS _).or (op_gInT _)) ha hb hm
end
def ixO : O → D → Option O
  | .lst os, .int i => atI os i
  | .tup os, .int i => atI os i
  | .frz (.lst ds), .int i => (atI ds i).map .frz
  | .frz (.tup ds), .int i => (atI ds i).map .frz
  | .frz (.scr ns), .int i => (atI ns i).map fun n => .frz (.int n)
  | .frz (.str z), .int i => if z.length ≤ sizeLine then (atI z.cps.toList i).map fun c => .frz (.str ⟨#[c]⟩) else none
  | _, _ => none
def ixD : O → D → Option O
  | .dct kos, k => (k.key).bind (getA kos)
  | .frz d, k => (dGetD d k).bind fun r => r.map .frz
  | _, _ => none
def eIx (a i : Em) : Em := fun env => (a env).bind fun x => (i env).bind fun y => (ixO x y.toD).or (ixD x y.toD)
section
variable {X : Cx} {K : PySem.W.Frag} {T : Tab} {F H : Hp} {a b c e i : Expr} {ma mb mc m mi : Em} {pos : Pos}
theorem atI_vw {vs : List V} {ds : List D} {j : Int} {d : D} (l : VwL K F vs ds) (e : atI ds j = some d) : ∃ v, atI vs j = some v ∧ Vw K F v d := by
  unfold atI at e ⊢
  obtain ⟨n, e1, e2⟩ := Option.bind_eq_some_iff.mp e
  obtain ⟨v, h1, h2⟩ := l.get e2
  refine ⟨v, ?_, h2⟩
  rw [l.length, e1]
  exact h1
theorem atI_ro {vs : List V} {os : List O} {A : List Addr} {j : Int} {o : O} (l : RoL K F H vs os A) (e : atI os j = some o) : ∃ v B, atI vs j = some v ∧ Ro K F H v o B := by
  unfold atI at e ⊢
  obtain ⟨n, e1, e2⟩ := Option.bind_eq_some_iff.mp e
  obtain ⟨v, A1, B, A2, h1, _, h2, _⟩ := l.at e2
  refine ⟨v, B, ?_, h2⟩
  rw [l.length, e1]
  exact h1
theorem atI_map {α β : Type} (f : α → β) (xs : List α) (j : Int) : atI (xs.map f) j = (atI xs j).map f := by
  unfold atI
  rw [List.length_map]
  cases ixN xs.length j with
  | none => rfl
  | some n => simp
theorem ixO_of {x y : V} {o o' : O} {d : D} {Q : VK} (gl : Gl T F H) (hx : VwO K F H x o) (hy : Vw K H y d) (e : ixO o d = some o') (k : ∀ v, VwO K F H v o' → Q v H) : rIx K x y H Q := by
  obtain ⟨A, r⟩ := hx
  unfold ixO at e
  split at e
  · cases hy
    cases r with
    | lst f h l =>
      obtain ⟨v, B, h1, h2⟩ := atI_ro l e
      exact .inl ⟨_, _, _, _, rfl, rfl, .of h, h1, k v ⟨B, h2⟩⟩
  · cases hy
    cases r with
    | tup h l =>
      obtain ⟨v, B, h1, h2⟩ := atI_ro l e
      exact .inr (.inl ⟨_, _, _, _, rfl, rfl, .of (gl.sub.at h (fun _ z => by cases z) rfl), h1, k v ⟨B, h2⟩⟩)
  · obtain ⟨d', e1, e2⟩ := Option.map_eq_some_iff.mp e
    subst e2
    cases hy
    cases r with
    | frz r => cases r with
      | lst h l =>
        obtain ⟨v, h1, h2⟩ := atI_vw l e1
        exact .inl ⟨_, _, _, _, rfl, rfl, .of (gl.sub.at h (fun _ z => by cases z) rfl), h1, k v (.frz h2)⟩
  · obtain ⟨d', e1, e2⟩ := Option.map_eq_some_iff.mp e
    subst e2
    cases hy
    cases r with
    | frz r => cases r with
      | tup h l =>
        obtain ⟨v, h1, h2⟩ := atI_vw l e1
        exact .inr (.inl ⟨_, _, _, _, rfl, rfl, .of (gl.sub.at h (fun _ z => by cases z) rfl), h1, k v (.frz h2)⟩)
  · obtain ⟨d', e1, e2⟩ := Option.map_eq_some_iff.mp e
    subst e2
    cases hy
    cases r with
    | frz r => cases r with
      | scr h =>
        refine .inl ⟨_, _, _, .int d', rfl, rfl, gl.sub.sql h, ?_, k _ (.frz (.int _))⟩
        rw [atI_map, e1]
        rfl
  · split at e
    · obtain ⟨d', e1, e2⟩ := Option.map_eq_some_iff.mp e
      subst e2
      cases hy
      cases r with
      | frz r => cases r with
        | str z => exact .inr (.inr ⟨_, _, _, rfl, rfl, by assumption, e1, k _ (.frz (.str _))⟩)
    · cases e
  · cases e
theorem ixD_of {x y : V} {o o' : O} {d : D} (gl : Gl T F H) (hx : VwO K F H x o) (hy : Vw K H y d) (e : ixD o d = some o') : ∃ p v, x = .ref p ∧ DGet H p y (some v) ∧ VwO K F H v o' := by
  obtain ⟨A, r⟩ := hx
  unfold ixD at e
  split at e
  · obtain ⟨kk, e1, e2⟩ := Option.bind_eq_some_iff.mp e
    cases r with
    | dct f h ek l =>
      obtain ⟨v, B, h1, h2⟩ := getA_ro ek.eq l e2
      exact ⟨_, v, rfl, .inl ⟨_, kk, .inl h, hy.key e1, h1.symm⟩, B, h2⟩
  · obtain ⟨rr, e1, e2⟩ := Option.bind_eq_some_iff.mp e
    obtain ⟨d', e3, e4⟩ := Option.map_eq_some_iff.mp e2
    subst e3 e4
    cases r with
    | frz r =>
      -- the entry as it stands in the frozen part
      unfold dGetD at e1
      split at e1
      · obtain ⟨kk, e5, e6⟩ := Option.map_eq_some_iff.mp e1
        cases r with
        | dct h ek l =>
          obtain ⟨v, h1, h2⟩ := (getA_vw (k := kk) ek l).2 _ e6
          exact ⟨_, v, rfl, .inl ⟨_, kk, gl.sub.rd h (fun _ z => by cases z), hy.key e5, h1.symm⟩, .frz h2⟩
      · split at e1
        · obtain ⟨kk, e5, e6⟩ := Option.map_eq_some_iff.mp e1
          cases r with
          | dtt h ek l =>
            cases hy with
            | tup h3 l3 =>
              obtain ⟨v, h1, h2⟩ := (getA_vw (k := kk) ek l).2 _ e6
              exact ⟨_, v, rfl, .inr ⟨_, kk, _, gl.sub.rd h (fun _ z => by cases z), rfl, by rw [h3, l3.keys e5], h1.symm⟩, .frz h2⟩
        · cases e1
      · cases e1
  · cases e
theorem be_ix (hu : X.A.units + 64 < cLine) (ha : BE X T a ma) (hi : BE X T i mi) (hs : PlainIx i := by exact fun _ _ => rfl) : BE X T (.Subscript a i pos) (eIx ma mi) := by
  refine peI (peOr (pe_ix ix_seq ha hi hs) (pe_dget (by omega) ha hi hs)) fun σ H Q q => ?_
  obtain ⟨F, env, ω, s, o, e, k⟩ := q
  obtain ⟨x, e1, e⟩ := Option.bind_eq_some_iff.mp e
  obtain ⟨y, e2, e⟩ := Option.bind_eq_some_iff.mp e
  cases q : ixO x y.toD with
  | some z =>
    rw [q] at e
    have e : z = o := by simpa using e
    subst e
    refine .inl ⟨F, env, ω, s, x, e1, fun v F1 H1 p1 h1 => ⟨F1, env, ω, s.px p1, y, e2, fun u F2 H2 p2 h2 => ?_⟩⟩
    exact ixO_of p2.gl (h1.px p2) (h2.vw p2.gl) q fun w hw => k w F2 H2 (p1.trans p2) hw
  | none =>
    rw [q] at e
    refine .inr ⟨F, env, ω, s, x, e1, fun v F1 H1 p1 h1 => ⟨F1, env, ω, s.px p1, y, e2, fun u F2 H2 p2 h2 => ?_⟩⟩
    obtain ⟨p, w, h3, h4, h5⟩ := ixD_of p2.gl (h1.px p2) (h2.vw p2.gl) (show ixD x y.toD = some o by simpa using e)
    exact ⟨p, w, h3, h4, k w F2 H2 (p1.trans p2) h5⟩

abbrev Om := Env → Option (Option Int)
def tBo (K : PySem.W.Frag) (T : Tab) (m : Om) : TO := fun σ H Q => ∃ F env ω, Sta K T F H σ env ω ∧ ∃ o, m env = some o ∧ ∀ F' H', PX T F H F' H' → Q o H'
def BO (X : Cx) (T : Tab) (e : Option Expr) (m : Om) : Prop := PO X e (tBo X.K T m)
def noP : Om := fun _ => some none
def someP (m : Em) : Om := fun env => (m env).bind fun o => match o.toD with
  | .int i => some (some i)
  | _ => none
theorem poI {e : Option Expr} {t t' : TO} (h : PO X e t) (w : ∀ σ H Q, t' σ H Q → t σ H Q) : PO X e t' := ⟨fun pins s σ H Q I q => h.run pins s σ H Q I (w σ H Q q)⟩
theorem bo_none : BO X T none noP := poI po_none fun σ H Q q => by
  obtain ⟨F, env, ω, s, o, e, k⟩ := q
  cases e
  exact k F H (.refl s.gl)
theorem bo_some (h : BE X T e m) : BO X T (some e) (someP m) := poI (po_some h) fun σ H Q q => by
  obtain ⟨F, env, ω, s, o, e, k⟩ := q
  obtain ⟨x, e1, e⟩ := Option.bind_eq_some_iff.mp e
  refine ⟨F, env, ω, s, x, e1, fun v F1 H1 p1 h1 => ?_⟩
  have hv := h1.vw p1.gl
  split at e
  · rename_i i q
    rw [q] at hv
    cases hv
    cases e
    exact ⟨_, rfl, k F1 H1 p1⟩
  · cases e
def cutA {α : Type} (xs : List α) (lo hi : Option Int) : List α := (xs.drop (HT.sIx xs.length 0 lo)).take (HT.sIx xs.length xs.length hi - HT.sIx xs.length 0 lo)
def slO (o : O) (lo hi : Option Int) : Option O :=
  match o.litems with
  | some ds => some (newL (cutA ds lo hi))
  | none => match o.titems with
    | some ds => some (.frz (.tup (cutA ds lo hi)))
    | none => match o with
      | .frz (.str z) => if z.length ≤ sizeLine then some (.frz (.str (cutS z lo hi))) else none
      | _ => none
def eSl (a : Em) (lo hi : Om) : Em := fun env => (a env).bind fun x => (lo env).bind fun l => (hi env).bind fun h => slO x l h
theorem VwL.cut {vs : List V} {ds : List D} (l : VwL K F vs ds) (lo hi : Option Int) : VwL K F (cutV vs lo hi) (cutA ds lo hi) := by
  unfold cutV cutA
  rw [l.length]
  exact (l.drop _).take _
theorem slO_of {x : V} {o o' : O} {lo hi : Option Int} {Q : VK} (gl : Gl T F H) (hx : VwO K F H x o) (e : slO o lo hi = some o') (k : ∀ v F' H' A, PX T F H F' H' → Fresh K H F' H' v o' A → Q v H') :
    rSlL K x lo hi H Q ∨ rSlA K x lo hi H Q ∨ rSlS x lo hi H Q := by
  unfold slO at e
  split at e
  · rename_i ds q
    cases e
    obtain ⟨p, vs, rfl, h, l⟩ := hx.litems gl q
    refine .inl ⟨p, vs, rfl, h, fun r hr => ?_⟩
    obtain ⟨px, f⟩ := new_lst gl hr (l.cut lo hi)
    exact k _ _ _ _ px f
  · split at e
    · rename_i ds q
      cases e
      obtain ⟨p, vs, rfl, hF, h, l⟩ := hx.titems gl q
      refine .inr (.inl ⟨p, vs, rfl, .of h, fun w => ?_, fun w r hr => ?_⟩)
      · have : cutA ds lo hi = ds := by
          rw [l.length] at w
          unfold cutA
          rw [w.1, w.2]
          simp
        rw [this] at k
        exact k _ F H [] (.refl gl) (.frz (.tup hF l))
      · obtain ⟨px, f⟩ := new_tup gl hr (l.cut lo hi)
        exact k _ _ _ [] px (.frz f)
    · split at e
      · split at e
        · cases e
          obtain ⟨A, r⟩ := hx
          cases r with
          | frz r => cases r with
            | str z => exact .inr (.inr ⟨_, rfl, by assumption, k _ F H [] (.refl gl) (.frz (.str _))⟩)
        · cases e
      · cases e
theorem fe_sl {lo hi : Option Expr} {ml mh : Om} {p2 : Pos} (ha : BE X T a ma) (hl : BO X T lo ml) (hh : BO X T hi mh) : FE X T (.Subscript a (.Slice lo hi none p2) pos) (eSl ma ml mh) := by
  refine peI (pe_slice (sl_list.or (sl_tupA.or sl_str)) ha hl hh) fun σ H Q q => ?_
  obtain ⟨F, env, ω, s, o, e, k⟩ := q
  obtain ⟨x, e1, e⟩ := Option.bind_eq_some_iff.mp e
  obtain ⟨l, e2, e⟩ := Option.bind_eq_some_iff.mp e
  obtain ⟨h, e3, e⟩ := Option.bind_eq_some_iff.mp e
  refine ⟨F, env, ω, s, x, e1, fun v F1 H1 p1 h1 => ⟨F1, env, ω, s.px p1, l, e2, fun F2 H2 p2 => ⟨F2, env, ω, (s.px p1).px p2, h, e3, fun F3 H3 p3 => ?_⟩⟩⟩
  have p := (p1.trans p2).trans p3
  exact slO_of p3.gl ((h1.px p2).px p3) e fun w F4 H4 A p4 f => k w F4 H4 A (p.trans p4) (f.back p)
def tFs (K : PySem.W.Frag) (T : Tab) (m : Es) : TA := fun σ H Q => ∃ F env ω, Sta K T F H σ env ω ∧ ∃ os, m env = some os ∧ ∀ vs F' H' A, PX T F H F' H' → RoL K F' H' vs os A → A.Nodup → (∀ a ∈ A, H a = none) → Q vs H'
def FA (X : Cx) (T : Tab) (es : List Expr) (m : Es) : Prop := PA X es (tFs X.K T m)
theorem fa_nil : FA X T [] eNil := by
  refine paI pa_nil fun σ H Q h => ?_
  obtain ⟨F, env, ω, s, o, e, k⟩ := h
  cases e
  exact k [] F H [] (.refl s.gl) .nil .nil fun _ z => by cases z
theorem nodup_app {A B : List Addr} (h1 : A.Nodup) (h2 : B.Nodup) (h3 : ∀ a ∈ A, a ∉ B) : (A ++ B).Nodup := by
  rw [List.nodup_append]
  exact ⟨h1, h2, fun a ha b hb e => h3 a ha (by rw [e]; exact hb)⟩
theorem fa_cons {es : List Expr} {m : Es} (ha : FE X T a ma) (hr : FA X T es m) (hs : starEach (a :: es) X.env = (false, eval a X.env) :: starEach es X.env := by rfl) : FA X T (a :: es) (eCons ma m) := by
  refine paI (pa_cons ha hr hs) fun σ H Q h => ?_
  obtain ⟨F, env, ω, s, o, e, k⟩ := h
  obtain ⟨x, e1, e⟩ := Option.bind_eq_some_iff.mp e
  obtain ⟨xs, e2, e⟩ := Option.bind_eq_some_iff.mp e
  cases e
  refine ⟨F, env, ω, s, x, e1, fun v F1 H1 A p1 h1 => ⟨F1, env, ω, s.px p1, xs, e2, fun vs F2 H2 B p2 h2 n2 f2 => ?_⟩⟩
  refine k _ F2 H2 (A ++ B) (p1.trans p2) (.cons (h1.ro.px p2) h2) (nodup_app h1.nd n2 fun a ha hb => ?_) fun a ha => ?_
  · obtain ⟨_, u, h3, _⟩ := h1.ro.mem a ha
    rw [f2 a hb] at h3
    cases h3
  · rcases List.mem_append.mp ha with ha | ha
    · exact h1.new a ha
    · exact p1.free (f2 a ha)
/-- a tuple: frozen where its parts are -/
def mkT (os : List O) : O := match os.mapM asFrz with
  | some ds => .frz (.tup ds)
  | none => .tup os
def eTup (m : Es) : Em := fun env => (m env).bind fun os => if os.length ≤ 1000 then some (mkT os) else none
def eLst (m : Es) : Em := fun env => (m env).bind fun os => if os.length ≤ 1000 then some (.lst os) else none
theorem thousand {n : Nat} (h : n ≤ 1000) : n ≤ sizeLine := by rw [sizeLine_eq]; omega
theorem fe_lst {es : List Expr} {m : Es} (h : FA X T es m) : FE X T (.List es pos) (eLst m) := by
  refine peI (pe_lst h) fun σ H Q q => ?_
  obtain ⟨F, env, ω, s, o, e, k⟩ := q
  obtain ⟨xs, e1, e⟩ := Option.bind_eq_some_iff.mp e
  split at e
  · cases e
    refine ⟨F, env, ω, s, xs, e1, fun vs F1 H1 A p1 h1 n1 f1 => ⟨by rw [h1.length]; exact thousand (by assumption), fun p hp => ?_⟩⟩
    have px : PX T F1 H1 F1 (upd H1 p (.lst vs)) := .owned p1.gl hp fun _ z => by cases z
    have hA : ∀ a ∈ A, a ≠ p := fun a ha z => by
      obtain ⟨_, u, h3, _⟩ := h1.mem a ha
      rw [z, hp] at h3
      cases h3
    refine k _ F1 _ (p :: A) (p1.trans px) ⟨.lst (p1.gl.free hp) upd_same ?_, List.nodup_cons.mpr ⟨fun z => hA p z rfl, n1⟩, fun a ha => ?_⟩
    · exact h1.keep (fun _ _ e => e) fun a ha => ⟨(h1.mem a ha).1, upd_ne (hA a ha)⟩
    · rcases List.mem_cons.mp ha with e | ha
      · rw [e]; exact p1.free hp
      · exact f1 a ha
  · cases e
theorem fe_tup {es : List Expr} {m : Es} {kk} (h : FA X T es m) : FE X T (.Tuple es kk pos) (eTup m) := by
  refine peI (pe_tup h) fun σ H Q q => ?_
  obtain ⟨F, env, ω, s, o, e, k⟩ := q
  obtain ⟨xs, e1, e⟩ := Option.bind_eq_some_iff.mp e
  split at e
  · cases e
    refine ⟨F, env, ω, s, xs, e1, fun vs F1 H1 A p1 h1 n1 f1 => ⟨by rw [h1.length]; exact thousand (by assumption), fun p hp => ?_⟩⟩
    have px : PX T F1 H1 (upd F1 p (.tup vs)) (upd H1 p (.tup vs)) := .laid p1.gl hp (fun _ z => by cases z) (.inr trivial)
    unfold mkT at k
    split at k
    · rename_i ds q
      exact k _ _ _ [] (p1.trans px) (.frz (.tup upd_same ((ro_mapM p1.gl h1 q).sub (.of px.f))))
    · have hA : ∀ a ∈ A, a ≠ p := fun a ha z => by
        obtain ⟨_, u, h3, _⟩ := h1.mem a ha
        rw [z, hp] at h3
        cases h3
      refine k _ _ _ A (p1.trans px) ⟨.tup upd_same ?_, n1, f1⟩
      exact h1.keep px.f fun a ha => ⟨by rw [upd_ne (hA a ha)]; exact (h1.mem a ha).1, upd_ne (hA a ha)⟩
  · cases e
end
def OpN (K : PySem.W.Frag) (T : Tab) (r : List V → Hp → VK → Prop) (f : List O → Option O) : Prop := ∀ (F H : Hp) (xs : List V) (os : List O) (o : O) (Q : VK), Gl T F H → Paired (VwO K F H) xs os → f os = some o →
  (∀ v F' H' A, PX T F H F' H' → Fresh K H F' H' v o A → Q v H') → r xs H Q
def eOpN (f : List O → Option O) (m : Es) : Em := fun env => (m env).bind f
section
variable {X : Cx} {K : PySem.W.Frag} {T : Tab} {F H : Hp} {e : Expr} {es : List Expr} {m : Es} {pos p : Pos} {x : Str} {id Ty : String} {r : List V → Hp → VK → Prop} {f : List O → Option O}
theorem opN_of (hf : OpN X.K T r f) {σ : L2.St} {H : Hp} {Q : VK} (h : tF X.K T (eOpN f m) σ H Q) : tCB r (tBs X.K T m) σ H Q := by
  obtain ⟨F, env, ω, s, o, e, k⟩ := h
  obtain ⟨xs, e1, e⟩ := Option.bind_eq_some_iff.mp e
  exact ⟨F, env, ω, s, xs, e1, fun vs F1 H1 p1 h1 => hf F1 H1 vs xs o Q p1.gl h1 e fun v F2 H2 A p2 f => k v F2 H2 A (p1.trans p2) (f.back p1)⟩
theorem fe_callB (hc : CallR X (.builtin id) r) (hf : OpN X.K T r f) (hg : L2.Gl X x) (hm : X.mg x = none) (hv : bootBuiltins x = some (.builtin id)) (ha : BA X T (e :: es) m) (hn : x ≠ "__name__" := by decide) (hdb : (x == ("__debug__" : Str)) = false := by decide)
    (he : starEach (e :: es) X.env = (false, eval e X.env) :: starEach es X.env := by rfl) (hpl : (backTo pos (starEach es X.env)).any (·.1) = false := by rfl) : FE X T (.Call (.Name x p) (e :: es) [] pos) (eOpN f m) :=
  peI (pe_callB hc hg hm hv ha hn hdb he hpl) fun _ _ _ h => opN_of hf h
theorem fe_callTy (hc : CallR X (.type Ty) r) (hf : OpN X.K T r f) (hg : L2.Gl X x) (hm : X.mg x = none) (hv : bootBuiltins x = some (.type Ty)) (ha : BA X T (e :: es) m) (hn : x ≠ "__name__" := by decide) (hdb : (x == ("__debug__" : Str)) = false := by decide)
    (he : starEach (e :: es) X.env = (false, eval e X.env) :: starEach es X.env := by rfl) (hpl : (backTo pos (starEach es X.env)).any (·.1) = false := by rfl) : FE X T (.Call (.Name x p) (e :: es) [] pos) (eOpN f m) :=
  peI (pe_callTy hc hg hm hv ha hn hdb he hpl) fun _ _ _ h => opN_of hf h
def n1 (g : O → Option O) : List O → Option O
  | [o] => g o
  | _ => none
def n2 (g : O → O → Option O) : List O → Option O
  | [o, q] => g o q
  | _ => none
theorem OpN.one {g : O → Option O} (h : ∀ (F H : Hp) (x : V) (a o : O) (Q : VK), Gl T F H → VwO K F H x a → g a = some o → (∀ v F' H' A, PX T F H F' H' → Fresh K H F' H' v o A → Q v H') → r [x] H Q) : OpN K T r (n1 g) := by
  intro F H xs os o Q gl hp e k
  unfold n1 at e
  split at e
  · cases hp with
    | cons h1 t => cases t; exact h F H _ _ o Q gl h1 e k
  · cases e
theorem OpN.two {g : O → O → Option O} (h : ∀ (F H : Hp) (x y : V) (a b o : O) (Q : VK), Gl T F H → VwO K F H x a → VwO K F H y b → g a b = some o → (∀ v F' H' A, PX T F H F' H' → Fresh K H F' H' v o A → Q v H') → r [x, y] H Q) : OpN K T r (n2 g) := by
  intro F H xs os o Q gl hp e k
  unfold n2 at e
  split at e
  · cases hp with
    | cons h1 t => cases t with
      | cons h2 t => cases t; exact h F H _ _ _ _ o Q gl h1 h2 e k
  · cases e
def D.len : D → Option Nat
  | .str z => if z.length ≤ sizeLine then some z.length else none
  | .lst ds => some ds.length
  | .tup ds => some ds.length
  | .scr ns => some ns.length
  | _ => none
def oLen : O → Option O := sc1 fun d => (d.len).map fun (n : Nat) => .int (n : Int)
theorem len_of {x : V} {d : D} {n : Nat} (h : Vw K H x d) (e : d.len = some n) : LenV K x H n := by
  cases h with
  | str z =>
    unfold D.len at e
    simp only at e
    split at e
    · cases e; exact ⟨by assumption, rfl⟩
    · cases e
  | tup h l => cases e; exact .inr ⟨_, .of h, l.length.symm⟩
  | lst h l => cases e; exact .inl ⟨_, .of h, l.length.symm⟩
  | scr h => cases e; exact .inl ⟨_, h, by simp⟩
  | _ => cases e
theorem op_len : OpN K T (fun xs H Q => ∃ x n, xs = [x] ∧ LenV K x H n ∧ Q (.int n) H) (n1 oLen) := .one fun F H x a o Q gl hx e k => by
  obtain ⟨d, e1, e2⟩ := Option.map_eq_some_iff.mp e
  obtain ⟨n, e3, e4⟩ := Option.map_eq_some_iff.mp e1
  subst e4 e2
  exact ⟨x, n, rfl, len_of (hx.vw gl) e3, k _ F H [] (.refl gl) (.frz (.int _))⟩
end
end VL
namespace VL
open PySem PySem.Spec PyProof.Rows L2
abbrev Own := Addr → Option Nat
/-- growth with what is owned changed -/
structure EX (F H : Hp) (ω : Own) (F' H' : Hp) (ω' : Own) : Prop where
  f : ∀ a u, F a = some u → F' a = some u
  h : ∀ a u, H a = some u → ω a = none → (∀ ps, u ≠ .tbl ps) → H' a = some u
  new : ∀ a, F a = none → H a ≠ none → ω a = none → F' a = none
  own : ∀ a i, ω' a = some i → ω a ≠ none ∨ H a = none
  trk : ∀ a, H a ≠ none → H' a ≠ none
  tb : ∀ a ps, H a = some (.tbl ps) → ∃ ps', H' a = some (.tbl ps')
/-- the in-and-out parameters stay in their slots -/
def Io (env : Env) (σ : L2.St) (env' : Env) (σ' : L2.St) : Prop := ∀ (i : Nat) (o : O), env[i]? = some (SV.io o) → σ'[i]? = σ[i]? ∧ ∃ o' : O, env'[i]? = some (SV.io o')
structure Go (K : PySem.W.Frag) (T : Tab) (F H : Hp) (σ : L2.St) (env : Env) (ω : Own) (F' H' : Hp) (σ' : L2.St) (env' : Env) (ω' : Own) : Prop where
  sta : Sta K T F' H' σ' env' ω'
  ex : EX F H ω F' H' ω'
  io : Io env σ env' σ'
section
variable {K : PySem.W.Frag} {T : Tab} {F H F1 H1 F2 H2 F' H' : Hp} {σ σ1 σ2 : L2.St} {env e1 e2 : Env} {ω ω1 ω2 : Own}
theorem EX.trans (x : EX F H ω F1 H1 ω1) (y : EX F1 H1 ω1 F2 H2 ω2) : EX F H ω F2 H2 ω2 := by
  have own1 : ∀ a, H a ≠ none → ω a = none → ω1 a = none := fun a h w => by
    cases e : ω1 a with
    | none => rfl
    | some i => rcases x.own a i e with q | q
                · exact absurd w q
                · exact absurd q h
  refine ⟨fun a u e => y.f a u (x.f a u e), fun a u e w n => y.h a u (x.h a u e w n) (own1 a (by rw [e]; exact fun z => by cases z) w) n, fun a e h w => y.new a (x.new a e h w) (x.trk a h) (own1 a h w), fun a i e => ?_, fun a h => y.trk a (x.trk a h), fun a ps e => by
    obtain ⟨ps1, e1⟩ := x.tb a ps e
    exact y.tb a ps1 e1⟩
  rcases y.own a i e with q | q
  · cases e1 : ω1 a with
    | none => exact absurd e1 q
    | some j => exact x.own a j e1
  · cases e1 : H a with
    | none => exact .inr rfl
    | some u => exact absurd q (x.trk a (by rw [e1]; exact fun z => by cases z))
theorem EX.refl : EX F H ω F H ω := ⟨fun _ _ e => e, fun _ _ e _ _ => e, fun _ e _ _ => e, fun a i e => .inl (by rw [e]; exact fun z => by cases z), fun _ h => h, fun a ps e => ⟨ps, e⟩⟩
theorem EX.px (p : PX T F H F' H') : EX F H ω F' H' ω := ⟨p.f, fun a u e _ n => p.h a u e n, fun a e h _ => p.new a e h, fun a i e => .inl (by rw [e]; exact fun z => by cases z), fun _ h => p.trk' h, p.trk⟩
theorem Io.refl : Io env σ env σ := fun i o e => ⟨rfl, o, e⟩
theorem Io.trans (x : Io env σ e1 σ1) (y : Io e1 σ1 e2 σ2) : Io env σ e2 σ2 := fun i o e => by
  obtain ⟨h1, o1, h2⟩ := x i o e
  obtain ⟨h3, o2, h4⟩ := y i o1 h2
  exact ⟨h3.trans h1, o2, h4⟩
theorem Go.trans (x : Go K T F H σ env ω F1 H1 σ1 e1 ω1) (y : Go K T F1 H1 σ1 e1 ω1 F2 H2 σ2 e2 ω2) : Go K T F H σ env ω F2 H2 σ2 e2 ω2 := ⟨y.sta, x.ex.trans y.ex, x.io.trans y.io⟩
theorem Go.refl (s : Sta K T F H σ env ω) : Go K T F H σ env ω F H σ env ω := ⟨s, .refl, .refl⟩
theorem Go.px (s : Sta K T F H σ env ω) (p : PX T F H F' H') : Go K T F H σ env ω F' H' σ env ω := ⟨s.px p, .px p, .refl⟩
end
inductive Out where
  | nx (e : Env) | ret (o : O) (e : Env) | bk (e : Env) | ct (e : Env)
abbrev Sm := Env → Option Out
/-- a returned value -/
structure Rt (K : PySem.W.Frag) (H : Hp) (ω : Own) (F' H' : Hp) (ω' : Own) (v : V) (o : O) (A : List Addr) : Prop where
  ro : Ro K F' H' v o A
  nd : A.Nodup
  new : ∀ a ∈ A, ω' a = none ∧ (ω a ≠ none ∨ H a = none)
def End (K : PySem.W.Frag) (T : Tab) (F H : Hp) (σ : L2.St) (env : Env) (ω : Own) (D : Ends) : Out → Prop
  | .nx e => ∀ F' H' σ' ω', Go K T F H σ env ω F' H' σ' e ω' → D.nx σ' H'
  | .bk e => ∀ F' H' σ' ω', Go K T F H σ env ω F' H' σ' e ω' → D.bk σ' H'
  | .ct e => ∀ F' H' σ' ω', Go K T F H σ env ω F' H' σ' e ω' → D.ct σ' H'
  | .ret o e => ∀ F' H' σ' ω' v A, Go K T F H σ env ω F' H' σ' e ω' → Rt K H ω F' H' ω' v o A → D.rt v H'
def tS (K : PySem.W.Frag) (T : Tab) (s : Sm) : TS := fun D σ H => ∃ F env ω, Sta K T F H σ env ω ∧ ∃ out, s env = some out ∧ End K T F H σ env ω D out
def SS (X : Cx) (T : Tab) (st : Stmt) (s : Sm) : Prop := PS X st (tS X.K T s)
def SB (X : Cx) (T : Tab) (st : List Stmt) (s : Sm) : Prop := PSs X st (tS X.K T s)
theorem psI {X : Cx} {st : Stmt} {t t' : TS} (h : PS X st t) (w : ∀ D σ H, t' D σ H → t D σ H) : PS X st t' := ⟨fun pins s σ H D I q => h.run pins s σ H D I (w D σ H q)⟩
theorem pssI {X : Cx} {st : List Stmt} {t t' : TS} (h : PSs X st t) (w : ∀ D σ H, t' D σ H → t D σ H) : PSs X st t' := ⟨fun pins s σ H D I q => h.run pins s σ H D I (w D σ H q)⟩
section
variable {K : PySem.W.Frag} {T : Tab} {F H F1 H1 F' H' : Hp} {σ σ1 : L2.St} {env e1 : Env} {ω ω1 ω' : Own} {D : Ends} {out : Out} {v : V} {o : O} {A : List Addr}
theorem Rt.back (x : EX F H ω F1 H1 ω1) (r : Rt K H1 ω1 F' H' ω' v o A) : Rt K H ω F' H' ω' v o A := by
  refine ⟨r.ro, r.nd, fun a h => ⟨(r.new a h).1, ?_⟩⟩
  rcases (r.new a h).2 with q | q
  · cases e : ω1 a with
    | none => exact absurd e q
    | some i => exact x.own a i e
  · cases e : H a with
    | none => exact .inr rfl
    | some u => exact absurd q (x.trk a (by rw [e]; exact fun z => by cases z))
theorem End.go (g : Go K T F H σ env ω F1 H1 σ1 e1 ω1) (h : End K T F H σ env ω D out) : End K T F1 H1 σ1 e1 ω1 D out := by
  cases out with
  | nx e => exact fun F' H' σ' ω' g' => h F' H' σ' ω' (g.trans g')
  | bk e => exact fun F' H' σ' ω' g' => h F' H' σ' ω' (g.trans g')
  | ct e => exact fun F' H' σ' ω' g' => h F' H' σ' ω' (g.trans g')
  | ret o e => exact fun F' H' σ' ω' v A g' r => h F' H' σ' ω' v A (g.trans g') (r.back g.ex)
end
def repA {κ α : Type} [DecidableEq κ] : List (κ × α) → κ → α → List (κ × α)
  | [], _, _ => []
  | (j, x) :: r, k, v => if j = k then (j, v) :: r else (j, x) :: repA r k v
def O.put : O → Stp → O → O
  | .lst os, .ix i, n => .lst (os.set i n)
  | .tup os, .ix i, n => .tup (os.set i n)
  | .dct kos, .key k, n => .dct (repA kos k n)
  | .ins C fos, .fld f, n => .ins C (repA fos f n)
  | o, _, _ => o
def O.putW : O → List Stp → O → O
  | _, [], n => n
  | o, s :: p, n => match o.step s with
    | some o' => o.put s (o'.putW p n)
    | none => o
section
variable {κ α : Type} [DecidableEq κ]
theorem keyIx : ∀ {kvs : List (κ × V)} {kos : List (κ × α)} {k : κ} {n : α}, kvs.map Prod.fst = kos.map Prod.fst → getA kos k = some n →
    ∃ i, (kos.map Prod.snd)[i]? = some n ∧ (∀ n', (repA kos k n').map Prod.snd = (kos.map Prod.snd).set i n') ∧ (∀ n', (repA kos k n').map Prod.fst = kos.map Prod.fst) ∧ ∀ v, (kvs.map Prod.snd)[i]? = some v → valV kvs k = some v
  | _, [], k, n, _, e => by simp [getA] at e
  | [], _ :: _, _, _, e, _ => by simp at e
  | (pk, pv) :: kvs, (qk, qd) :: kos, k, n, e, e3 => by
    simp only [List.map_cons, List.cons.injEq] at e
    obtain ⟨e1, e2⟩ := e
    subst e1
    by_cases z : pk = k
    · have : qd = n := by simpa [getA, List.find?_cons, z] using e3
      subst this
      exact ⟨0, rfl, fun n' => by simp [repA, z], fun n' => by simp [repA, z], fun v h => by simpa [valV, List.find?_cons, z] using h⟩
    · obtain ⟨i, h1, h2, h3, h4⟩ := keyIx (k := k) e2 (by simpa [getA, List.find?_cons, z] using e3)
      exact ⟨i + 1, by simpa using h1, fun n' => by simp [repA, z, h2], fun n' => by simp [repA, z, h3], fun v h => by simpa [valV, List.find?_cons, z] using h4 v (by simpa using h)⟩
theorem fldIx : ∀ {kvs : List (Str × V)} {kos : List (Str × α)} {k : Str} {n : α}, kvs.map Prod.fst = kos.map Prod.fst → kos.lookup k = some n →
    ∃ i, (kos.map Prod.snd)[i]? = some n ∧ (∀ n', (repA kos k n').map Prod.snd = (kos.map Prod.snd).set i n') ∧ (∀ n', (repA kos k n').map Prod.fst = kos.map Prod.fst) ∧ ∀ v, (kvs.map Prod.snd)[i]? = some v → kvs.lookup k = some v
  | _, [], k, n, _, e => by simp at e
  | [], _ :: _, _, _, e, _ => by simp at e
  | (pk, pv) :: kvs, (qk, qd) :: kos, k, n, e, e3 => by
    simp only [List.map_cons, List.cons.injEq] at e
    obtain ⟨e1, e2⟩ := e
    subst e1
    by_cases z : pk = k
    · subst z
      have : qd = n := by simpa [List.lookup] using e3
      subst this
      exact ⟨0, rfl, fun n' => by simp [repA], fun n' => by simp [repA], fun v h => by simpa [List.lookup] using h⟩
    · have zb : (k == pk) = false := beq_eq_false_iff_ne.mpr (Ne.symm z)
      obtain ⟨i, h1, h2, h3, h4⟩ := fldIx (k := k) e2 (by simpa [List.lookup, zb] using e3)
      exact ⟨i + 1, by simpa using h1, fun n' => by simp [repA, z, h2], fun n' => by simp [repA, z, h3], fun v h => by simpa [List.lookup, zb] using h4 v (by simpa using h)⟩
end
section
variable {K : PySem.W.Frag} {F H : Hp} {v : V} {o : O} {A : List Addr}
theorem set_same {α : Type} {xs : List α} {i : Nat} {x : α} (h : xs[i]? = some x) : xs.set i x = xs := by
  apply List.ext_getElem?
  intro j
  by_cases hj : i = j
  · subst hj
    rw [List.getElem?_set_self (List.getElem?_eq_some_iff.mp h).1, h]
  · rw [List.getElem?_set_ne hj]
/-- one step: the part, and the whole put together again when the part has changed in its place -/
theorem focus1 (sub : SubN F H) (r : Ro K F H v o A) {s : Stp} {n : O} (e : o.step s = some n) :
    ∃ v' A1 B A2, vStep H v s = some v' ∧ A = A1 ++ B ++ A2 ∧ Ro K F H v' n B ∧ (∀ (F' H' : Hp) (n' : O) (B' : List Addr), (∀ a u, F a = some u → F' a = some u) → (∀ a ∈ A1 ++ A2, F' a = none ∧ H' a = H a) → Ro K F' H' v' n' B' →
      Ro K F' H' v (o.put s n') (A1 ++ B' ++ A2)) ∧ ∀ H' : Hp, SubN F H' → (∀ a ∈ A1 ++ A2, H' a = H a) → vStep H' v s = some v' := by
  cases r with
  | frz h => cases s <;> simp [O.step] at e
  | tup h l =>
    cases s with
    | ix i =>
      obtain ⟨v', A1, B, A2, e1, e2, r', w⟩ := l.at (i := i) (o := n) (by simpa [O.step] using e)
      refine ⟨v', A1, B, A2, by simp [vStep, sub.at h (fun _ z => by cases z) rfl, e1], e2, r', fun F' H' n' B' f k r => ?_, fun H' sub' k => by simp [vStep, sub'.at h (fun _ z => by cases z) rfl, e1]⟩
      have := w F' H' v' n' B' f k r
      rw [set_same e1] at this
      exact .tup (f _ _ h) this
    | key k => simp [O.step] at e
    | fld f => simp [O.step] at e
  | @lst a vs os A f h l =>
    cases s with
    | ix i =>
      obtain ⟨v', A1, B, A2, e1, e2, r', w⟩ := l.at (i := i) (o := n) (by simpa [O.step] using e)
      refine ⟨v', a :: A1, B, A2, by simp [vStep, h, e1], by rw [e2]; rfl, r', fun F' H' n' B' f k r => ?_, fun H' sub' k => by simp [vStep, (k a (by simp)).trans h, e1]⟩
      have := w F' H' v' n' B' f (fun b hb => k b (List.mem_cons_of_mem _ hb)) r
      rw [set_same e1] at this
      obtain ⟨k1, k2⟩ := k a List.mem_cons_self
      exact .lst k1 (k2.trans h) this
    | key k => simp [O.step] at e
    | fld f => simp [O.step] at e
  | @dct a kvs kos A f h ek l =>
    cases s with
    | key k =>
      obtain ⟨i, h1, h2, h3, h4⟩ := keyIx (kvs := kvs) ek.eq (show getA kos k = some n by simpa [O.step] using e)
      obtain ⟨v', A1, B, A2, e1, e2, r', w⟩ := l.at (i := i) (o := n) h1
      refine ⟨v', a :: A1, B, A2, by simp [vStep, h, h4 v' e1], by rw [e2]; rfl, r', fun F' H' n' B' f k' r => ?_, fun H' sub' k' => by simp [vStep, (k' a (by simp)).trans h, h4 v' e1]⟩
      have := w F' H' v' n' B' f (fun b hb => k' b (List.mem_cons_of_mem _ hb)) r
      rw [set_same e1, ← h2 n'] at this
      obtain ⟨k1, k2⟩ := k' a List.mem_cons_self
      exact .dct k1 (k2.trans h) ⟨ek.eq.trans (h3 n').symm, by rw [h3 n']; exact ek.nd⟩ this
    | ix i => simp [O.step] at e
    | fld f => simp [O.step] at e
  | dtt f h ek l => cases s <;> simp [O.step] at e
  | @ins a dx C fs fos A f h ek l =>
    cases s with
    | fld g =>
      obtain ⟨i, h1, h2, h3, h4⟩ := fldIx (kvs := fs) ek (show fos.lookup g = some n by simpa [O.step] using e)
      obtain ⟨v', A1, B, A2, e1, e2, r', w⟩ := l.at (i := i) (o := n) h1
      refine ⟨v', a :: A1, B, A2, by simp [vStep, h, h4 v' e1], by rw [e2]; rfl, r', fun F' H' n' B' f k' r => ?_, fun H' sub' k' => by simp [vStep, (k' a (by simp)).trans h, h4 v' e1]⟩
      have := w F' H' v' n' B' f (fun b hb => k' b (List.mem_cons_of_mem _ hb)) r
      rw [set_same e1, ← h2 n'] at this
      obtain ⟨k1, k2⟩ := k' a List.mem_cons_self
      exact .ins k1 (k2.trans h) (ek.trans (h3 n').symm) this
    | ix i => simp [O.step] at e
    | key k => simp [O.step] at e
theorem focus (sub : SubN F H) : ∀ {p : List Stp} {v : V} {o n : O} {A : List Addr}, Ro K F H v o A → o.walk p = some n →
    ∃ v' A1 B A2, vWalk H v p = some v' ∧ A = A1 ++ B ++ A2 ∧ Ro K F H v' n B ∧ (∀ (F' H' : Hp) (n' : O) (B' : List Addr), (∀ a u, F a = some u → F' a = some u) → (∀ a ∈ A1 ++ A2, F' a = none ∧ H' a = H a) → Ro K F' H' v' n' B' →
      Ro K F' H' v (o.putW p n') (A1 ++ B' ++ A2)) ∧ ∀ H' : Hp, SubN F H' → (∀ a ∈ A1 ++ A2, H' a = H a) → ∀ p', p' <+: p → vWalk H' v p' = vWalk H v p'
  | [], v, o, n, A, r, e => by
    have e : o = n := by simpa [O.walk] using e
    subst e
    exact ⟨v, [], A, [], rfl, by simp, r, fun F' H' n' B' f k r => by simpa [O.putW] using r, fun H' _ _ p' hp => by rw [List.prefix_nil.mp hp]; rfl⟩
  | s :: p, v, o, n, A, r, e => by
    unfold O.walk at e
    obtain ⟨o1, e1, e2⟩ := Option.bind_eq_some_iff.mp e
    obtain ⟨v1, A1, B, A2, h1, h2, h3, h4, h5⟩ := focus1 sub r e1
    obtain ⟨v2, C1, C, C2, g1, g2, g3, g4, g5⟩ := focus sub h3 e2
    refine ⟨v2, A1 ++ C1, C, C2 ++ A2, by unfold vWalk; rw [h1]; exact g1, by rw [h2, g2]; simp only [List.append_assoc], g3, fun F' H' n' B' f k r => ?_, fun H' sub' k p' hp => ?_⟩
    rotate_left
    · have m1 : ∀ a ∈ C1 ++ C2, H' a = H a := fun a ha => k a (by
        rcases List.mem_append.mp ha with q | q
        · simp [q]
        · simp [q])
      have m2 : ∀ a ∈ A1 ++ A2, H' a = H a := fun a ha => k a (by
        rcases List.mem_append.mp ha with q | q
        · simp [q]
        · simp [q])
      cases p' with
      | nil => rfl
      | cons s' p' =>
        obtain ⟨e3, e4⟩ := List.cons_prefix_cons.mp hp
        subst e3
        unfold vWalk
        rw [h5 H' sub' m2, h1]
        exact g5 H' sub' m1 p' e4
    have m1 : ∀ a ∈ C1 ++ C2, F' a = none ∧ H' a = H a := fun a ha => k a (by
      rcases List.mem_append.mp ha with q | q
      · simp [q]
      · simp [q])
    have m2 : ∀ a ∈ A1 ++ A2, F' a = none ∧ H' a = H a := fun a ha => k a (by
      rcases List.mem_append.mp ha with q | q
      · simp [q]
      · simp [q])
    have := h4 F' H' (o1.putW p n') (C1 ++ B' ++ C2) f m2 (g4 F' H' n' B' f m1 r)
    unfold O.putW
    rw [e1]
    simpa only [List.append_assoc] using this
theorem vWalk_keep {H' : Hp} (sub : SubN F H) (sub' : SubN F H') : ∀ {p : List Stp} {v : V} {o o' : O} {A : List Addr}, Ro K F H v o A → o.walk p = some o' → (∀ a ∈ A, H' a = H a) → vWalk H' v p = vWalk H v p
  | [], _, _, _, _, _, _, _ => rfl
  | s :: p, v, o, o', A, r, e, k => by
    unfold O.walk at e
    obtain ⟨o1, e1, e2⟩ := Option.bind_eq_some_iff.mp e
    obtain ⟨v1, A1, B, A2, h1, h2, h3, _⟩ := focus1 sub r e1
    have st : vStep H' v s = vStep H v s := by
      cases r with
      | frz h => cases s <;> simp [O.step] at e1
      | tup h l => cases s <;> simp [vStep, sub.at h (fun _ z => by cases z) rfl, sub'.at h (fun _ z => by cases z) rfl]
      | lst f h l => cases s <;> simp [vStep, k _ List.mem_cons_self]
      | dct f h ek l => cases s <;> simp [vStep, k _ List.mem_cons_self]
      | dtt f h ek l => cases s <;> simp [vStep, k _ List.mem_cons_self]
      | ins f h ek l => cases s <;> simp [vStep, k _ List.mem_cons_self]
    unfold vWalk
    rw [st, h1]
    exact vWalk_keep sub sub' h3 e2 fun a ha => k a (by rw [h2]; simp [ha])
end
def sNx : Sm := fun env => some (.nx env)
def sSeq (s u : Sm) : Sm := fun env => (s env).bind fun o => match o with
  | .nx e => u e
  | o => some o
def slotOf : O → SV
  | .frz d => .frz d
  | o => .own o
/-- what has been another name for a part of slot i is known no more -/
def killA (i : Nat) (env : Env) : Env := env.map fun s => match s with
  | .als r p => if r = i then .dead else .als r p
  | s => s
def isIo : Option SV → Bool
  | some (.io _) => true
  | _ => false
def setS (env : Env) (i : Nat) (s : SV) : Option Env := if isIo env[i]? = true then none else some ((killA i env).set i s)
def sSet (i : Nat) (m : Em) : Sm := fun env => (m env).bind fun o => (setS env i (slotOf o)).map .nx
def sRet (m : Em) : Sm := fun env => (m env).map fun o => .ret o env
def sIf (t : Tm) (s u : Sm) : Sm := fun env => (t env).bind fun b => if b = true then s env else u env
def sBk : Sm := fun env => some (.bk env)
def sCt : Sm := fun env => some (.ct env)
/-- slot i is frozen ahead of a statement -/
def fzS (i : Nat) (env : Env) : Env := match env[i]? with
  | some (.own o) => (killA i env).set i (.frz o.toD)
  | _ => env
def sFz (i : Nat) (s : Sm) : Sm := fun env => s (fzS i env)

section
variable {K : PySem.W.Frag} {T : Tab} {F H F' H' : Hp} {σ : L2.St} {env : Env} {ω : Own} {v : V} {o : O} {A : List Addr} {i : Nat}
theorem killA_get (j : Nat) : (killA i env)[j]? = (env[j]?).map fun s => match s with
    | .als r p => if r = i then .dead else .als r p
    | s => s := by
  unfold killA
  rw [List.getElem?_map]
theorem killA_len : (killA i env).length = env.length := by unfold killA; rw [List.length_map]
/-- the owner's map behind a store into slot i -/
def ωset (ω : Own) (i : Nat) (A : List Addr) : Own := fun a => if a ∈ A then some i else if ω a = some i then none else ω a
/-- the heap has changed, but not in what other slots than i own -/
structure Rc (T : Tab) (F0 H0 : Hp) (ω : Own) (i : Nat) (F H : Hp) : Prop where
  f : ∀ a u, F0 a = some u → F a = some u
  h : ∀ a u, H0 a = some u → ω a = none → (∀ ps, u ≠ .tbl ps) → H a = some u
  new : ∀ a, F0 a = none → H0 a ≠ none → ω a = none → F a = none
  trk : ∀ a, H0 a ≠ none → H a ≠ none
  tb : ∀ a ps, H0 a = some (.tbl ps) → ∃ ps', H a = some (.tbl ps')
  gl : Gl T F H
  oth : ∀ a j, ω a = some j → j ≠ i → F a = none ∧ H a = H0 a
theorem Rc.px {F0 H0 : Hp} (s : Sta K T F0 H0 σ env ω) (p : PX T F0 H0 F H) : Rc T F0 H0 ω i F H :=
  ⟨p.f, fun a u e _ n => p.h a u e n, fun a e h _ => p.new a e h, fun _ h => p.trk' h, p.trk, p.gl, fun a j e _ => by
    obtain ⟨h1, u, h2, h3⟩ := s.og a j e
    exact ⟨p.new a h1 (by rw [h2]; exact fun q => by cases q), by rw [h2, p.h a u h2 (own_ntbl h3)]⟩⟩
/-- what may stand in slot i -/
def SvOk (K : PySem.W.Frag) (F H : Hp) (v : V) (A : List Addr) : SV → Prop
  | .dead => A = []
  | .frz d => A = [] ∧ Vw K F v d
  | .own o => Ro K F H v o A ∧ A.Nodup
  | .io o => Ro K F H v o A ∧ A.Nodup
  | .als _ _ => False
/-- slot i gets the value v, told by sv -/
theorem Go.slot {F0 H0 : Hp} {sv : SV} (s : Sta K T F0 H0 σ env ω) (c : Rc T F0 H0 ω i F H) (hi : i < env.length) (hv : SvOk K F H v A sv) (hA : ∀ a ∈ A, ω a = some i ∨ H0 a = none)
    (hio : ∀ o, env[i]? = some (SV.io o) → σ[i]? = some (some v) ∧ ∃ o', sv = .io o') : Go K T F0 H0 σ env ω F H (σ.set i (some v)) ((killA i env).set i sv) (ωset ω i A) := by
  have sub0 := s.gl.sub
  have nA : ∀ a j, ω a = some j → j ≠ i → a ∉ A := fun a j e hj hA' => by
    rcases hA a hA' with q | q
    · rw [e] at q; exact hj (Option.some.inj q)
    · obtain ⟨_, u, h, _⟩ := s.og a j e
      rw [q] at h; cases h
  have wj : ∀ a j, ω a = some j → j ≠ i → ωset ω i A a = some j := fun a j e hj => by
    unfold ωset
    rw [if_neg (nA a j e hj), if_neg (fun q => by rw [e] at q; exact hj (Option.some.inj q)), e]
  have ro : ∀ {j : Nat} {w : V} {o : O} {B : List Addr}, j ≠ i → Ro K F0 H0 w o B → (∀ a ∈ B, ω a = some j) → Ro K F H w o B := fun hj r hB => r.keep c.f fun a ha => c.oth a _ (hB a ha) hj
  have g : ∀ k, k ≠ i → (σ.set i (some v))[k]? = σ[k]? := fun k hk => List.getElem?_set_ne (Ne.symm hk)
  refine ⟨⟨c.gl, by rw [List.length_set, List.length_set, killA_len]; exact s.len, fun j t e => ?_, fun a j e => ?_⟩, ⟨c.f, c.h, c.new, fun a j e => ?_, c.trk, c.tb⟩, fun j o e => ?_⟩
  · by_cases hj : j = i
    · subst hj
      rw [List.getElem?_set_self (by rw [killA_len]; exact hi)] at e
      cases e
      have hv' : (σ.set j (some v))[j]? = some (some v) := List.getElem?_set_self (by rw [s.len]; exact hi)
      cases sv with
      | dead => trivial
      | frz d => exact ⟨v, hv', hv.2⟩
      | own o => exact ⟨v, A, hv', hv.1, hv.2, fun a ha => if_pos ha⟩
      | io o => exact ⟨v, A, hv', hv.1, hv.2, fun a ha => if_pos ha⟩
      | als r p => exact hv.elim
    · rw [List.getElem?_set_ne (Ne.symm hj), killA_get] at e
      obtain ⟨t0, e0, e1⟩ := Option.map_eq_some_iff.mp e
      have h := s.slot j t0 e0
      cases t0 with
      | dead => cases e1; trivial
      | frz d =>
        cases e1
        obtain ⟨w, h1, h2⟩ := h
        exact ⟨w, (g j hj).trans h1, h2.sub (.of c.f)⟩
      | own o =>
        cases e1
        obtain ⟨w, B, h1, h2, h3, h4⟩ := h
        exact ⟨w, B, (g j hj).trans h1, ro hj h2 h4, h3, fun a ha => wj a j (h4 a ha) hj⟩
      | io o =>
        cases e1
        obtain ⟨w, B, h1, h2, h3, h4⟩ := h
        exact ⟨w, B, (g j hj).trans h1, ro hj h2 h4, h3, fun a ha => wj a j (h4 a ha) hj⟩
      | als r p =>
        have e1 : (if r = i then SV.dead else SV.als r p) = t := e1
        by_cases hr : r = i
        · rw [if_pos hr] at e1; subst e1; trivial
        · rw [if_neg hr] at e1; subst e1
          obtain ⟨w, u, o, B, h1, h2, h3, h4, h5, o', h6⟩ := h
          refine ⟨w, u, o, B, (g j hj).trans h1, (g r hr).trans h2, ?_, ro hr h4 h5, fun a ha => wj a r (h5 a ha) hr, o', h6⟩
          rw [vWalk_keep sub0 ((SubN.of c.f).trans c.gl.sub) h4 h6 fun a ha => (c.oth a r (h5 a ha) hr).2]
          exact h3
  · unfold ωset at e
    split at e
    · rename_i hA'
      cases sv with
      | dead => rw [show A = [] from hv] at hA'; cases hA'
      | frz d => rw [hv.1] at hA'; cases hA'
      | own o => exact hv.1.mem a hA'
      | io o => exact hv.1.mem a hA'
      | als r p => exact hv.elim
    · split at e
      · cases e
      · rename_i h1 h2
        have hj : j ≠ i := fun z => h2 (by rw [← z]; exact e)
        obtain ⟨h3, u, h4, h5⟩ := s.og a j e
        obtain ⟨h6, h7⟩ := c.oth a j e hj
        exact ⟨h6, u, h7.trans h4, h5⟩
  · unfold ωset at e
    split at e
    · rename_i hA'
      rcases hA a hA' with q | q
      · exact .inl (by rw [q]; exact fun z => by cases z)
      · exact .inr q
    · split at e
      · cases e
      · exact .inl (by rw [e]; exact fun z => by cases z)
  · by_cases hj : j = i
    · subst hj
      obtain ⟨h1, o', h2⟩ := hio o e
      subst h2
      exact ⟨(List.getElem?_set_self (by rw [s.len]; exact hi)).trans h1.symm, o', List.getElem?_set_self (by rw [killA_len]; exact hi)⟩
    · exact ⟨g j hj, o, by rw [List.getElem?_set_ne (Ne.symm hj), killA_get, e]; rfl⟩
end
end VL
namespace VL
open PySem PySem.Spec PyProof.Rows L2
section
variable {X : Cx} {T : Tab} {st : Stmt} {rest : List Stmt} {s u : Sm} {m : Em} {t : Tm} {e c : Expr} {pos : Pos}
theorem sb_nil : SB X T [] sNx := pssI pss_nil fun D σ H q => by
  obtain ⟨F, env, ω, sa, out, e, k⟩ := q
  cases e
  exact k F H σ ω (.refl sa)
theorem sb_cons (h1 : SS X T st s) (h2 : SB X T rest u) : SB X T (st :: rest) (sSeq s u) := pssI (pss_cons h1 h2) fun D σ H q => by
  obtain ⟨F, env, ω, sa, out, e, k⟩ := q
  obtain ⟨o1, e1, e2⟩ := Option.bind_eq_some_iff.mp e
  refine ⟨F, env, ω, sa, o1, e1, ?_⟩
  cases o1 with
  | nx e3 => exact fun F' H' σ' ω' g => ⟨F', e3, ω', g.sta, out, e2, k.go g⟩
  | bk e3 => cases e2; exact k
  | ct e3 => cases e2; exact k
  | ret o e3 => cases e2; exact k
theorem sb_one (h1 : SS X T st s) : SB X T [st] s := pss_one h1
theorem ss_ret (h : FE X T e m) : SS X T (.Return (some e) pos) (sRet m) := psI (ps_ret h) fun D σ H q => by
  obtain ⟨F, env, ω, sa, out, e, k⟩ := q
  obtain ⟨o, e1, e2⟩ := Option.map_eq_some_iff.mp e
  subst e2
  refine ⟨F, env, ω, sa, o, e1, fun v F1 H1 A p f => k F1 H1 σ ω v A (.px sa p) ⟨f.ro, f.nd, fun a ha => ⟨?_, .inr (f.new a ha)⟩⟩⟩
  cases w : ω a with
  | none => rfl
  | some i =>
    obtain ⟨_, u, h2, _⟩ := sa.og a i w
    rw [f.new a ha] at h2; cases h2
theorem own_len {env : Env} {i : Nat} {s : SV} (h : env[i]? = some s) : i < env.length := (List.getElem?_eq_some_iff.mp h).1
theorem Rc.same {T : Tab} {K : PySem.W.Frag} {F H : Hp} {σ : L2.St} {env : Env} {ω : Own} {i : Nat} (sa : Sta K T F H σ env ω) : Rc T F H ω i F H := .px sa (.refl sa.gl)
theorem ss_if {a b : List Stmt} (hc : BT X T c t) (ha : SB X T a s) (hb : SB X T b u) : SS X T (.If c a b pos) (sIf t s u) := psI (ps_if hc ha hb) fun D σ H q => by
  obtain ⟨F, env, ω, sa, out, e, k⟩ := q
  obtain ⟨x, e1, e⟩ := Option.bind_eq_some_iff.mp e
  refine ⟨F, env, ω, sa, x, e1, fun F1 H1 p => ?_⟩
  cases x with
  | true => rw [if_pos rfl] at e ⊢; exact ⟨F1, env, ω, sa.px p, out, e, k.go (.px sa p)⟩
  | false => rw [if_neg Bool.false_ne_true] at e ⊢; exact ⟨F1, env, ω, sa.px p, out, e, k.go (.px sa p)⟩
theorem setS_of {env e' : Env} {i : Nat} {sv : SV} (h : setS env i sv = some e') : isIo env[i]? = false ∧ e' = (killA i env).set i sv := by
  unfold setS at h
  split at h
  · cases h
  · rename_i q
    cases h
    exact ⟨by simpa using q, rfl⟩
theorem not_io {env : Env} {i : Nat} (h : isIo env[i]? = false) (o : O) : env[i]? ≠ some (SV.io o) := fun e => by
  rw [e] at h; cases h
theorem slotOf_ok {K : PySem.W.Frag} {F H : Hp} {v : V} {o : O} {A : List Addr} (r : Ro K F H v o A) (n : A.Nodup) : SvOk K F H v A (slotOf o) := by
  cases r with
  | frz h => exact ⟨rfl, h⟩
  | tup h l => exact ⟨.tup h l, n⟩
  | lst f h l => exact ⟨.lst f h l, n⟩
  | dct f h e l => exact ⟨.dct f h e l, n⟩
  | dtt f h e l => exact ⟨.dtt f h e l, n⟩
  | ins f h e l => exact ⟨.ins f h e l, n⟩
/-- a store of what is new -/
theorem Go.put {K : PySem.W.Frag} {F H F1 H1 : Hp} {σ : L2.St} {env : Env} {ω : Own} {v : V} {o : O} {A : List Addr} {i : Nat} {e' : Env} (sa : Sta K T F H σ env ω) (p : PX T F H F1 H1) (f : Fresh K H F1 H1 v o A) (hi : i < env.length) (e : setS env i (slotOf o) = some e') :
    Go K T F H σ env ω F1 H1 (σ.set i (some v)) e' (ωset ω i A) := by
  obtain ⟨h1, h2⟩ := setS_of e
  subst h2
  exact Go.slot sa (.px sa p) hi (slotOf_ok f.ro f.nd) (fun a ha => .inr (f.new a ha)) fun o e => absurd e (not_io h1 o)
theorem ss_set {i : Nat} {x : Str} {pos' : Pos} (hN : X.N.Nodup) (hi : X.N[i]? = some x) (hx : Loc X.env.scope x) (he : FE X T e m) (hs : swapsWith e (some (.Name x pos')) pos.line X.env = pure false := by rfl) (hf : X.fn x = true ∨ X.env.scope.names.lookup x = some .local := by first | exact .inl rfl | exact .inr rfl | assumption) :
    SS X T (.Assign [.Name x pos'] e pos) (sSet i m) := psI (ps_set hN hi hx he hs hf) fun D σ H q => by
  obtain ⟨F, env, ω, sa, out, e, k⟩ := q
  obtain ⟨o, e1, e2⟩ := Option.bind_eq_some_iff.mp e
  obtain ⟨e', e3, e4⟩ := Option.map_eq_some_iff.mp e2
  subst e4
  by_cases hl : i < env.length
  · exact ⟨F, env, ω, sa, o, e1, fun v F1 H1 A p f => k F1 H1 _ _ (Go.put sa p f hl e3)⟩
  · -- no such slot: nothing is stored
    refine ⟨F, env, ω, sa, o, e1, fun v F1 H1 A p f => ?_⟩
    obtain ⟨h1, h2⟩ := setS_of e3
    have h3 : σ.set i (some v) = σ := List.set_eq_of_length_le (by rw [sa.len]; omega)
    have h4 : (killA i env).set i (slotOf o) = killA i env := List.set_eq_of_length_le (by rw [killA_len]; omega)
    have h5 : killA i env = env := by
      apply List.ext_getElem?
      intro j
      rw [killA_get]
      cases q : env[j]? with
      | none => rfl
      | some t =>
        cases t with
        | als r p' =>
          have := sa.slot j _ q
          obtain ⟨_, w, _, _, _, h, _⟩ := this
          have hr : r < env.length := by rw [← sa.len]; exact (List.getElem?_eq_some_iff.mp h).1
          have : r ≠ i := by omega
          simp [this]
        | _ => rfl
    rw [h2, h4, h5] at k
    show D.nx (σ.set i (some v)) H1
    rw [h3]
    exact k F1 H1 σ ω (.px sa p)
/-- slot i is frozen ahead of it -/
theorem fz_go {K : PySem.W.Frag} {F H : Hp} {σ : L2.St} {env : Env} {ω : Own} (sa : Sta K T F H σ env ω) (i : Nat) : ∃ F' ω', Go K T F H σ env ω F' H σ (fzS i env) ω' := by
  unfold fzS
  split
  · rename_i o q
    obtain ⟨v, A, h1, h2, h3, h4⟩ := sa.slot i _ q
    have hf : Fresh K H F H v o A → True := fun _ => trivial
    have c : Rc T F H ω i (fz F H A) H := by
      refine ⟨fun a u e => ?_, fun a u e _ _ => e, fun a e h w => ?_, fun _ h => h, fun a ps e => ⟨ps, e⟩, fz_gl sa.gl h2, fun a j e hj => ?_⟩
      · rw [fz_out fun z => by rw [(h2.mem a z).1] at e; cases e]
        exact e
      · rw [fz_out fun z => by rw [h4 a z] at w; cases w]
        exact e
      · have : a ∉ A := fun z => by rw [h4 a z] at e; exact hj (Option.some.inj e).symm
        rw [fz_out this]
        exact ⟨(sa.og a j e).1, rfl⟩
    have hv : Vw K (fz F H A) v o.toD := by
      refine h2.fzn (fun a u e => ?_) fun a h => fz_in h
      rw [fz_out fun z => by rw [(h2.mem a z).1] at e; cases e]
      exact e
    have g := Go.slot (K := K) (v := v) (A := []) (sv := .frz o.toD) sa c (own_len q) ⟨rfl, hv⟩ (fun _ z => by cases z) (fun o' e => by rw [q] at e; cases e)
    rw [set_same h1] at g
    exact ⟨_, _, g⟩
  · exact ⟨F, ω, .refl sa⟩
theorem ss_fz (i : Nat) (h : SS X T st s) : SS X T st (sFz i s) := psI h fun D σ H q => by
  obtain ⟨F, env, ω, sa, out, e, k⟩ := q
  obtain ⟨F', ω', g⟩ := fz_go sa i
  exact ⟨F', fzS i env, ω', g.sta, out, e, k.go g⟩
abbrev Gm := O → Env → Option Env
/-- stored in these slots alone -/
def Sl (ts : List Nat) (σ σ' : L2.St) : Prop := (∀ j : Nat, j ∉ ts → σ'[j]? = σ[j]?) ∧ σ'.length = σ.length
def tG (K : PySem.W.Frag) (T : Tab) (ts : List Nat) (g : Gm) : TG := fun v σ H Q => ∃ F env ω o, Sta K T F H σ env ω ∧ VwO K F H v o ∧ ∃ e, g o env = some e ∧ ∀ σ' ω', Go K T F H σ env ω F H σ' e ω' → Sl ts σ σ' → Q σ' H
def GS (X : Cx) (T : Tab) (tg : Expr) (ts : List Nat) (g : Gm) : Prop := PG X tg (tG X.K T ts g)
theorem pgI {tg : Expr} {t t' : TG} (h : PG X tg t) (w : ∀ v σ H Q, t' v σ H Q → t v σ H Q) : PG X tg t' := ⟨fun pins s σ H v u Q I r q => h.run pins s σ H v u Q I r (w v σ H Q q)⟩
theorem pgsI {tg : List Expr} {t t' : TGs} (h : PGs X tg t) (w : ∀ v σ H Q, t' v σ H Q → t v σ H Q) : PGs X tg t' := ⟨fun pins s σ H v u Q I r q => h.run pins s σ H v u Q I r (w v σ H Q q)⟩
def gNm (i : Nat) : Gm := fun o env => (asFrz o).bind fun d => if i < env.length then setS env i (.frz d) else none
theorem gs_name {i : Nat} {x : Str} (hN : X.N.Nodup) (hi : X.N[i]? = some x) (hx : Loc X.env.scope x) (hf : X.fn x = true ∨ X.env.scope.names.lookup x = some .local := by first | exact .inl rfl | exact .inr rfl | assumption) : GS X T (.Name x pos) [i] (gNm i) :=
  pgI (pg_name hN hi hx hf) fun v σ H Q q => by
    obtain ⟨F, env, ω, o, sa, hv, e, h, k⟩ := q
    obtain ⟨d, e1, e2⟩ := Option.bind_eq_some_iff.mp h
    split at e2
    · have f : Fresh X.K H F H v (.frz d) [] := .frz (hv.asFrz sa.gl e1)
      exact k _ _ (Go.put sa (.refl sa.gl) f (by assumption) e2) ⟨fun j hj => List.getElem?_set_ne fun z => hj (by simp [z]), List.length_set ..⟩
    · cases e2
abbrev Gms := List D → Env → Option Env
def tGs (K : PySem.W.Frag) (T : Tab) (ts : List Nat) (g : Gms) : TGs := fun vs σ H Q => ∃ F env ω ds, Sta K T F H σ env ω ∧ VwL K F vs ds ∧ ∃ e, g ds env = some e ∧ ∀ σ' ω', Go K T F H σ env ω F H σ' e ω' → Sl ts σ σ' → Q σ' H
def GSs (X : Cx) (T : Tab) (tg : List Expr) (ts : List Nat) (g : Gms) : Prop := PGs X tg (tGs X.K T ts g)
def gNl : Gms := fun ds env => match ds with
  | [] => some env
  | _ => none
def gCn (g : Gm) (r : Gms) : Gms := fun ds env => match ds with
  | d :: ds => (g (.frz d) env).bind fun e => r ds e
  | _ => none
theorem gss_nil : GSs X T [] [] gNl := pgsI pgs_nil fun vs σ H Q q => by
  obtain ⟨F, env, ω, ds, sa, hv, e, h, k⟩ := q
  unfold gNl at h
  split at h
  · cases h
    cases hv
    exact ⟨rfl, k σ ω (.refl sa) ⟨fun _ _ => rfl, rfl⟩⟩
  · cases h
theorem gss_cons {es : List Expr} {g : Gm} {r : Gms} {t1 t2 : List Nat} (h1 : GS X T e t1 g) (h2 : GSs X T es t2 r) (hs : (assignEach (e :: es) X.env).map (·.2) = assign e X.env :: (assignEach es X.env).map (·.2) := by rfl) : GSs X T (e :: es) (t1 ++ t2) (gCn g r) :=
  pgsI (pgs_cons h1 h2 hs) fun vs σ H Q q => by
    obtain ⟨F, env, ω, ds, sa, hv, e, h, k⟩ := q
    unfold gCn at h
    split at h
    · obtain ⟨e', h3, h4⟩ := Option.bind_eq_some_iff.mp h
      cases hv with
      | cons v1 vr =>
        refine ⟨_, _, rfl, F, env, ω, _, sa, .frz v1, e', h3, fun σ1 ω1 g1 n1 => ?_⟩
        exact ⟨F, e', ω1, _, g1.sta, vr, e, h4, fun σ2 ω2 g2 n2 => k σ2 ω2 (g1.trans g2) ⟨fun j hj => (n2.1 j fun z => hj (List.mem_append_right _ z)).trans (n1.1 j fun z => hj (List.mem_append_left _ z)), n2.2.trans n1.2⟩⟩
    · cases h
def gTp (n : Nat) (r : Gms) : Gm := fun o env => (o.titems).bind fun ds => if ds.length = n then r ds env else none
theorem gs_tup {es : List Expr} {k : Nat} {r : Gms} {n : Nat} {ts : List Nat} (hc : X.calm = true) (h : GSs X T es ts r)
    (hn : (assignEach es X.env).length = n := by rfl) (hst : (assignEach es X.env).findIdx? (·.1) = none := by rfl) : GS X T (.Tuple es k pos) ts (gTp n r) :=
  pgI (pg_tup hc h hn hst) fun v σ H Q q => by
    obtain ⟨F, env, ω, o, sa, hv, e, h, k⟩ := q
    obtain ⟨ds, h1, h2⟩ := Option.bind_eq_some_iff.mp h
    split at h2
    · obtain ⟨a, vs, e1, _, e2, l⟩ := hv.titems sa.gl h1
      exact ⟨a, vs, e1, .of e2, by rw [l.length]; assumption, F, env, ω, ds, sa, l, e, h2, k⟩
    · cases h2
def sAsg (m : Em) (g : Gm) : Sm := fun env => (m env).bind fun o => (g o env).map .nx
theorem ss_asg {tg : Expr} {g : Gm} {ts : List Nat} (he : BE X T e m) (hg : GS X T tg ts g) (hs : swapsWithSole [tg] e pos.line X.env = pure false := by rfl) (hw : swappedStores [tg] e X.env = pure none := by rfl)
    (h1 : (assignEach [tg] X.env).map (·.2) = [assign tg X.env] := by rfl) : SS X T (.Assign [tg] e pos) (sAsg m g) := psI (ps_asg he hg hs hw h1) fun D σ H q => by
  obtain ⟨F, env, ω, sa, out, e, k⟩ := q
  obtain ⟨o, e1, e2⟩ := Option.bind_eq_some_iff.mp e
  obtain ⟨e', e3, e4⟩ := Option.map_eq_some_iff.mp e2
  subst e4
  refine ⟨F, env, ω, sa, o, e1, fun v F1 H1 p h => ⟨F1, env, ω, o, sa.px p, h, e', e3, fun σ' ω' g _ => ?_⟩⟩
  exact k F1 H1 σ' ω' ((Go.px sa p).trans g)
end
/-- J walks the data ds, which stand in F -/
structure Wk (K : PySem.W.Frag) (F : Hp) (G : Hp → Prop) (J : It) (ds : List D) : Prop where
  go : ∀ i H, i < ds.length → G H → J.go i H
  stop : ∀ H, G H → J.stop ds.length H
  yld : ∀ i H x H', i < ds.length → G H → J.yld i H x H' → ∃ d, ds[i]? = some d ∧
    ((H' = H ∧ Vw K F x d) ∨ ∃ p vs es, H p = none ∧ H' = upd H p (.tup vs) ∧ x = .ref p ∧ d = .tup es ∧ VwL K F vs es)
theorem Wk.turn {K : PySem.W.Frag} {T : Tab} {F F1 H : Hp} {G : Hp → Prop} {J : It} {ds : List D} (w : Wk K F G J ds) (g : Gl T F1 H) (f : ∀ a u, F a = some u → F1 a = some u) (hG : G H) {i : Nat} {x : V} {H' : Hp} (hi : i < ds.length) (y : J.yld i H x H') :
    ∃ d F2, ds[i]? = some d ∧ PX T F1 H F2 H' ∧ Vw K F2 x d := by
  obtain ⟨d, h1, h2⟩ := w.yld i H x H' hi hG y
  rcases h2 with ⟨h2, h3⟩ | ⟨p, vs, es, h2, h3, h4, h5, h6⟩
  · subst h2
    exact ⟨d, F1, h1, .refl g, h3.sub (.of f)⟩
  · subst h3 h4 h5
    obtain ⟨px, hv⟩ := new_tup g h2 (h6.sub (.of f))
    exact ⟨_, _, h1, px, hv⟩
abbrev Im := Env → Option (List D)
def tI (K : PySem.W.Frag) (T : Tab) (it : Im) : TI := fun σ H R => ∃ F env ω, Sta K T F H σ env ω ∧ ∃ ds, it env = some ds ∧ ∀ J F' H', PX T F H F' H' → Wk K F' (SubN F') J ds → R J H'
def IT (X : Cx) (T : Tab) (tg iter : Expr) (it : Im) : Prop := PI X tg iter (tI X.K T it)
theorem piI {X : Cx} {tg iter : Expr} {t t' : TI} (h : PI X tg iter t) (w : ∀ σ H R, t' σ H R → t σ H R) : PI X tg iter t' := ⟨fun pins s σ H R I q => h.run pins s σ H R I (w σ H R q)⟩
theorem piOr {X : Cx} {tg iter : Expr} {t t' : TI} (h : PI X tg iter t) (h' : PI X tg iter t') : PI X tg iter (fun σ H R => t σ H R ∨ t' σ H R) := ⟨fun pins s σ H R I q => q.elim (h.run pins s σ H R I) (h'.run pins s σ H R I)⟩
/-- a loop over given items -/
def loop (g : Gm) (s : Sm) : List D → Env → Option Out
  | [], env => some (.nx env)
  | d :: ds, env => (g (.frz d) env).bind fun e => (s e).bind fun o => match o with
    | .nx e' => loop g s ds e'
    | .ct e' => loop g s ds e'
    | .bk e' => some (.nx e')
    | .ret o e' => some (.ret o e')
def sFor (it : Im) (g : Gm) (s : Sm) : Sm := fun env => (it env).bind fun ds => loop g s ds env
def whl (t : Tm) (s : Sm) : Nat → Env → Option Out
  | 0, _ => none
  | n + 1, env => (t env).bind fun b => if b = true then (s env).bind fun o => match o with
    | .nx e' => whl t s n e'
    | .ct e' => whl t s n e'
    | .bk e' => some (.nx e')
    | .ret o e' => some (.ret o e')
    else some (.nx env)
def sWhile (n : Nat) (t : Tm) (s : Sm) : Sm := fun env => whl t s n env
section
variable {X : Cx} {T : Tab} {s : Sm} {g : Gm} {it : Im} {t : Tm} {c tg iter : Expr} {body : List Stmt} {pos : Pos} {ts : List Nat}
theorem ss_for (hp : PassesOwn (model X.prog X.w) X.A X.env X.xe) (hc : X.calm = true) (hi : IT X T tg iter it) (hg : GS X T tg ts g) (hb : SB X T body s) (hs : ∀ x, foldedSetIterable iter X.env x = pure x := by intro _; rfl) : SS X T (.For tg iter body [] pos) (sFor it g s) :=
  psI (ps_for hp hc hi hg hb hs) fun D σ H q => by
    obtain ⟨F, env, ω, sa, out, e, k⟩ := q
    obtain ⟨ds, e1, e2⟩ := Option.bind_eq_some_iff.mp e
    refine ⟨F, env, ω, sa, ds, e1, fun J F0 H0 p0 w => ?_⟩
    have k0 := k.go (.px sa p0)
    have sa0 := sa.px p0
    refine ⟨fun i m σ' H' => m = ds.length - i ∧ i ≤ ds.length ∧ ∃ F' env' ω', Go X.K T F0 H0 σ env ω F' H' σ' env' ω' ∧ loop g s (ds.drop i) env' = some out, ⟨ds.length, by simp, Nat.zero_le _, F0, env, ω, .refl sa0, e2⟩, ?_⟩
    rintro i m σ1 H1 ⟨rfl, hi', F1, env1, ω1, g1, l1⟩
    by_cases hlt : i < ds.length
    · refine .inr ⟨w.go i H1 hlt ((SubN.of g1.ex.f).trans g1.sta.gl.sub), fun σ2 H2 => i + 1 ≤ ds.length ∧ ∃ F' env' ω', Go X.K T F0 H0 σ env ω F' H2 σ2 env' ω' ∧ loop g s (ds.drop (i + 1)) env' = some out,
        fun σ2 H2 ⟨h1, h2⟩ => ⟨ds.length - (i + 1), by omega, rfl, h1, h2⟩, fun x H2 y => ?_⟩
      obtain ⟨d, F2, h1, p2, hv⟩ := w.turn g1.sta.gl g1.ex.f ((SubN.of g1.ex.f).trans g1.sta.gl.sub) hlt y
      have hd : ds.drop i = d :: ds.drop (i + 1) := by
        rw [List.drop_eq_getElem_cons hlt]
        congr 1
        exact (List.getElem?_eq_some_iff.mp h1).2
      rw [hd] at l1
      obtain ⟨e3, l2, l3⟩ := Option.bind_eq_some_iff.mp l1
      obtain ⟨o4, l4, l5⟩ := Option.bind_eq_some_iff.mp l3
      have g2 := g1.trans (.px g1.sta p2)
      refine ⟨F2, env1, ω1, .frz d, g2.sta, .frz hv, e3, l2, fun σ3 ω3 g3 _ => ?_⟩
      have g4 := g2.trans g3
      refine ⟨F2, e3, ω3, g3.sta, o4, l4, ?_⟩
      cases o4 with
      | nx e5 => exact fun F5 H5 σ5 ω5 g5 => ⟨hlt, F5, e5, ω5, g4.trans g5, l5⟩
      | ct e5 => exact fun F5 H5 σ5 ω5 g5 => ⟨hlt, F5, e5, ω5, g4.trans g5, l5⟩
      | bk e5 =>
        cases l5
        exact fun F5 H5 σ5 ω5 g5 => k0 F5 H5 σ5 ω5 (g4.trans g5)
      | ret o e5 =>
        cases l5
        exact fun F5 H5 σ5 ω5 v A g5 r => k0 F5 H5 σ5 ω5 v A (g4.trans g5) (r.back g4.ex)
    · have e : i = ds.length := by omega
      subst e
      rw [List.drop_length] at l1
      cases l1
      exact .inl ⟨w.stop H1 ((SubN.of g1.ex.f).trans g1.sta.gl.sub), k0 F1 H1 σ1 ω1 g1⟩
theorem ss_while (n : Nat) (hp : PassesOwn (model X.prog X.w) X.A X.env X.xe) (hc : BT X T c t) (hb : SB X T body s) : SS X T (.While c body [] pos) (sWhile n t s) :=
  psI (ps_while hp hc hb) fun D σ H q => by
    obtain ⟨F, env, ω, sa, out, e, k⟩ := q
    refine ⟨fun m σ' H' => ∃ F' env' ω', Go X.K T F H σ env ω F' H' σ' env' ω' ∧ whl t s m env' = some out, ⟨n, F, env, ω, .refl sa, e⟩, ?_⟩
    rintro m σ1 H1 ⟨F1, env1, ω1, g1, l1⟩
    cases m with
    | zero => cases l1
    | succ m =>
      obtain ⟨b, e1, l2⟩ := Option.bind_eq_some_iff.mp l1
      refine ⟨F1, env1, ω1, g1.sta, b, e1, fun F2 H2 p2 => ?_⟩
      have g2 := g1.trans (.px g1.sta p2)
      cases b with
      | true =>
        rw [if_pos rfl] at l2
        refine iteT ?_
        obtain ⟨o4, l4, l5⟩ := Option.bind_eq_some_iff.mp l2
        refine ⟨fun σ' H' => ∃ F' env' ω', Go X.K T F H σ env ω F' H' σ' env' ω' ∧ whl t s m env' = some out, fun σ' H' h => ⟨m, Nat.lt_succ_self _, h⟩, F2, env1, ω1, g2.sta, o4, l4, ?_⟩
        cases o4 with
        | nx e5 => exact fun F5 H5 σ5 ω5 g5 => ⟨F5, e5, ω5, g2.trans g5, l5⟩
        | ct e5 => exact fun F5 H5 σ5 ω5 g5 => ⟨F5, e5, ω5, g2.trans g5, l5⟩
        | bk e5 =>
          cases l5
          exact fun F5 H5 σ5 ω5 g5 => k F5 H5 σ5 ω5 (g2.trans g5)
        | ret o e5 =>
          cases l5
          exact fun F5 H5 σ5 ω5 v A g5 r => k F5 H5 σ5 ω5 v A (g2.trans g5) (r.back g2.ex)
      | false =>
        rw [if_neg Bool.false_ne_true] at l2
        refine iteF ?_
        cases l2
        exact k F2 H2 σ1 ω1 g2
end
end VL
namespace VL
open PySem PySem.Spec PyProof.Rows L2
def tC' (K : PySem.W.Frag) (T : Tab) (it : Im) : TI := fun σ H R => ∃ F env ω, Sta K T F H σ env ω ∧ ∃ ds, it env = some ds ∧ ∀ J F' H', PX T F H F' H' → Wk K F' (fun G => SubN F' G ∧ LamX.ExtN H' G) J ds → R J H'
def IC (X : Cx) (T : Tab) (tg iter : Expr) (it : Im) : Prop := PI X tg iter (tC' X.K T it)
theorem Wk.mono {K : PySem.W.Frag} {F : Hp} {G G' : Hp → Prop} {J : It} {ds : List D} (w : Wk K F G J ds) (h : ∀ H, G' H → G H) : Wk K F G' J ds :=
  ⟨fun i H hi g => w.go i H hi (h H g), fun H g => w.stop H (h H g), fun i H x H' hi g => w.yld i H x H' hi (h H g)⟩
theorem ic_it {X : Cx} {T : Tab} {tg iter : Expr} {it : Im} (h : IT X T tg iter it) : IC X T tg iter it := piI h fun σ H R q => by
  obtain ⟨F, env, ω, sa, ds, e, k⟩ := q
  exact ⟨F, env, ω, sa, ds, e, fun J F' H' p w => k J F' H' p (w.mono fun _ h => h.1)⟩

/-- the items of what is frozen -/
def seqF : O → Option (List D)
  | .frz (.lst ds) => some ds
  | .frz (.scr ns) => some (ns.map D.int)
  | _ => none
/-- .. of what is one's own too -/
def iL (m : Em) : Im := fun env => (m env).bind seqF
def iLc (m : Em) : Im := fun env => (m env).bind O.litems
def iT (m : Em) : Im := fun env => (m env).bind O.titems
def rngD (lo : Int) (n : Nat) : List D := (List.range n).map fun (i : Nat) => D.int (lo + i)
def iR1 (m : Es) : Im := fun env => (m env).bind fun os => match os.map O.toD with
  | [.int j] => if -(2 ^ 62) ≤ j ∧ j < 2 ^ 62 then some (rngD 0 j.toNat) else none
  | _ => none
def enumD (ds : List D) : List D := (ds.mapIdx fun (i : Nat) d => D.tup [.int i, d])
def iE (m : Es) : Im := fun env => (m env).bind fun os => match os with
  | [o] => (seqF o).map enumD
  | _ => none
def iEc (m : Es) : Im := fun env => (m env).bind fun os => match os with
  | [o] => (o.litems).map enumD
  | _ => none
section
variable {K : PySem.W.Frag} {T : Tab} {F H : Hp} {v : V} {o : O}
theorem VwO.seqF (h : VwO K F H v o) {ds : List D} (e : VL.seqF o = some ds) : ∃ a vs, v = .ref a ∧ (∀ G, SubN F G → SqL K G a vs) ∧ VwL K F vs ds := by
  obtain ⟨A, r⟩ := h
  unfold VL.seqF at e
  split at e
  · cases e
    cases r with
    | frz r => cases r with
      | lst h l => exact ⟨_, _, rfl, fun G s => .of (s.at h (fun _ z => by cases z) rfl), l⟩
  · cases e
    cases r with
    | frz r => cases r with
      | scr h => exact ⟨_, _, rfl, fun G s => s.sql h, VwL.of_ints _⟩
  · cases e
/-- a list of one's own stays where nothing but growth happens -/
theorem VwO.lc (h : VwO K F H v o) (g : Gl T F H) {ds : List D} (e : o.litems = some ds) : ∃ a vs, v = .ref a ∧ (∀ G, SubN F G ∧ LamX.ExtN H G → SqL K G a vs) ∧ VwL K F vs ds := by
  obtain ⟨A, r⟩ := h
  unfold O.litems at e
  split at e
  · cases e
    cases r with
    | frz r => cases r with
      | lst h l => exact ⟨_, _, rfl, fun G s => .of (s.1.at h (fun _ z => by cases z) rfl), l⟩
  · cases e
    cases r with
    | frz r => cases r with
      | scr h => exact ⟨_, _, rfl, fun G s => s.1.sql h, VwL.of_ints _⟩
  · cases r with
    | lst f h l => exact ⟨_, _, rfl, fun G s => .of (s.2 _ _ h fun _ z => by cases z), ro_mapM g l e⟩
  · cases e
theorem wk_list {G : Hp → Prop} {a : Addr} {vs : List V} {ds : List D} (hs : ∀ H, G H → SqL K H a vs) (l : VwL K F vs ds) : Wk K F G (Itl K a) ds := by
  have w := walk_list (K := K) (a := a) (xs := vs)
  refine ⟨fun i H hi g => w.goes i H (by rw [l.length]; exact hi) (hs H g), fun H g => by rw [← l.length]; exact w.stops H (hs H g), fun i H x H' hi g y => ?_⟩
  obtain ⟨h1, h2⟩ := w.yields i H x H' (by rw [l.length]; exact hi) (hs H g) y
  obtain ⟨d, h3, h4⟩ := l.get' h2
  exact ⟨d, h3, .inl ⟨h1, h4⟩⟩
theorem wk_tup {a : Addr} {vs : List V} {ds : List D} (hF : F a = some (.tup vs)) (l : VwL K F vs ds) : Wk K F (SubN F) (Itt K a) ds := by
  have w := walk_tup (K := K) (a := a) (xs := vs)
  have hs : ∀ H, SubN F H → SqT K H a vs := fun H s => .of (s.at hF (fun _ z => by cases z) rfl)
  refine ⟨fun i H hi g => w.goes i H (by rw [l.length]; exact hi) (hs H g), fun H g => by rw [← l.length]; exact w.stops H (hs H g), fun i H x H' hi g y => ?_⟩
  obtain ⟨h1, h2⟩ := w.yields i H x H' (by rw [l.length]; exact hi) (hs H g) y
  obtain ⟨d, h3, h4⟩ := l.get' h2
  exact ⟨d, h3, .inl ⟨h1, h4⟩⟩
theorem wk_range {lo : Int} {n : Nat} : Wk K F (SubN F) (Itr lo n) (rngD lo n) := by
  have w := walk_range (lo := lo) (n := n)
  have hl : (rngD lo n).length = n := by simp [rngD]
  refine ⟨fun i H hi _ => w.goes i H (by rw [← hl]; exact hi) trivial, fun H _ => by rw [hl]; exact w.stops H trivial, fun i H x H' hi _ y => ?_⟩
  rw [hl] at hi
  obtain ⟨h1, h2⟩ := w.yields i H x H' hi trivial y
  refine ⟨.int (lo + (i : Nat)), ?_, .inl ⟨h1, by rw [h2]; exact .int _⟩⟩
  unfold rngD
  rw [List.getElem?_map, List.getElem?_range hi]
  rfl
theorem wk_enum {G : Hp → Prop} {a : Addr} {vs : List V} {ds : List D} (hs : ∀ H, G H → SqL K H a vs) (l : VwL K F vs ds) : Wk K F G (Ite K a) (enumD ds) := by
  have w := walk_enum (K := K) (a := a) (xs := vs)
  have hl : (enumD ds).length = vs.length := by simp [enumD, l.length]
  refine ⟨fun i H hi g => w.goes i H (by rw [← hl]; exact hi) (hs H g), fun H g => by rw [hl]; exact w.stops H (hs H g), fun i H x H' hi g y => ?_⟩
  rw [hl] at hi
  obtain ⟨p, x1, x2, h1, h2, h3, h4, h5⟩ := w.yields i H x H' hi (hs H g) y
  obtain ⟨d, h6, h7⟩ := l.get' h5
  cases h4
  refine ⟨.tup [.int (i : Nat), d], ?_, .inr ⟨p, _, _, h2, h3, h1, rfl, .cons (.int _) (.cons h7 .nil)⟩⟩
  unfold enumD
  rw [List.getElem?_mapIdx, h6]
  rfl
end
section
variable {X : Cx} {T : Tab} {tg e e2 : Expr} {es : List Expr} {m m2 : Em} {ms : Es} {p pos tpos : Pos} {elts : List Expr} {kk : Nat}
theorem it_l (h : BE X T e m) : IT X T tg e (iL m) := piI (pi_list h) fun σ H R q => by
  obtain ⟨F, env, ω, sa, ds, e, k⟩ := q
  obtain ⟨o, e1, e2⟩ := Option.bind_eq_some_iff.mp e
  refine ⟨F, env, ω, sa, o, e1, fun v F1 H1 p h => ?_⟩
  obtain ⟨a, vs, rfl, hs, l⟩ := h.seqF e2
  exact ⟨a, rfl, ⟨vs, hs _ p.gl.sub⟩, k _ F1 H1 p (wk_list hs l)⟩
theorem ic_l (h : BE X T e m) : IC X T tg e (iLc m) := piI (pi_list h) fun σ H R q => by
  obtain ⟨F, env, ω, sa, ds, e, k⟩ := q
  obtain ⟨o, e1, e2⟩ := Option.bind_eq_some_iff.mp e
  refine ⟨F, env, ω, sa, o, e1, fun v F1 H1 p h => ?_⟩
  obtain ⟨a, vs, rfl, hs, l⟩ := h.lc p.gl e2
  exact ⟨a, rfl, ⟨vs, hs _ ⟨p.gl.sub, .refl _⟩⟩, k _ F1 H1 p (wk_list hs l)⟩
theorem it_t (h : BE X T e m) : IT X T tg e (iT m) := piI (pi_tup h) fun σ H R q => by
  obtain ⟨F, env, ω, sa, ds, e, k⟩ := q
  obtain ⟨o, e1, e2⟩ := Option.bind_eq_some_iff.mp e
  refine ⟨F, env, ω, sa, o, e1, fun v F1 H1 p h => ?_⟩
  obtain ⟨a, vs, rfl, hF, hH, l⟩ := h.titems p.gl e2
  exact ⟨a, rfl, ⟨vs, .of hH⟩, k _ F1 H1 p (wk_tup hF l)⟩
/-- a list or a tuple -/
def iLT (m : Em) : Im := fun env => (iL m env).or (iT m env)
def iLTc (m : Em) : Im := fun env => (iLc m env).or (iT m env)
theorem it_lt (h : BE X T e m) : IT X T tg e (iLT m) := piI (piOr (it_l (tg := tg) h) (it_t h)) fun σ H R q => by
  obtain ⟨F, env, ω, sa, ds, e, k⟩ := q
  have e : (iL m env).or (iT m env) = some ds := e
  cases z : iL m env with
  | some x =>
    rw [z] at e
    have e : x = ds := by simpa using e
    subst e
    exact .inl ⟨F, env, ω, sa, x, z, k⟩
  | none =>
    rw [z] at e
    exact .inr ⟨F, env, ω, sa, ds, by simpa using e, k⟩
theorem ic_lt (h : BE X T e m) : IC X T tg e (iLTc m) := piI (piOr (ic_l (tg := tg) h) (ic_it (it_t h))) fun σ H R q => by
  obtain ⟨F, env, ω, sa, ds, e, k⟩ := q
  have e : (iLc m env).or (iT m env) = some ds := e
  cases z : iLc m env with
  | some x =>
    rw [z] at e
    have e : x = ds := by simpa using e
    subst e
    exact .inl ⟨F, env, ω, sa, x, z, k⟩
  | none =>
    rw [z] at e
    exact .inr ⟨F, env, ω, sa, ds, by simpa using e, k⟩
theorem prd_vw {K : PySem.W.Frag} {F H : Hp} (g : Gl T F H) : ∀ {vs : List V} {os : List O}, Paired (VwO K F H) vs os → VwL K H vs (os.map O.toD)
  | _, _, .nil => .nil
  | _, _, .cons h t => .cons (h.vw g) (prd_vw g t)
theorem it_r1 (hg : L2.Gl X "range") (hm : X.mg "range" = none) (ha : BA X T [e] ms) (hs : starEach [e] X.env = [(false, eval e X.env)] := by rfl) : IT X T tg (.Call (.Name "range" p) [e] [] pos) (iR1 ms) :=
  piI (pi_range1 hg hm ha hs) fun σ H R q => by
    obtain ⟨F, env, ω, sa, ds, e, k⟩ := q
    obtain ⟨os, e1, e2⟩ := Option.bind_eq_some_iff.mp e
    refine ⟨F, env, ω, sa, os, e1, fun vs F1 H1 p h => ?_⟩
    have hv := prd_vw p.gl h
    split at e2
    · rename_i j z
      rw [z] at hv
      split at e2
      · rename_i c
        cases e2
        cases hv with
        | cons h1 t => cases h1; cases t; exact ⟨j, rfl, c.1, c.2, k _ F1 H1 p wk_range⟩
      · cases e2
    · cases e2
theorem it_enum (hg : L2.Gl X "enumerate") (hm : X.mg "enumerate" = none) (ha : BA X T [e] ms) (hs : starEach [e] X.env = [(false, eval e X.env)] := by rfl) : IT X T (.Tuple elts kk tpos) (.Call (.Name "enumerate" p) [e] [] pos) (iE ms) :=
  piI (pi_enum hg hm ha hs) fun σ H R q => by
    obtain ⟨F, env, ω, sa, ds, e, k⟩ := q
    obtain ⟨os, e1, e2⟩ := Option.bind_eq_some_iff.mp e
    refine ⟨F, env, ω, sa, os, e1, fun vs F1 H1 p h => ?_⟩
    split at e2
    · obtain ⟨xs, e3, e4⟩ := Option.map_eq_some_iff.mp e2
      subst e4
      cases h with
      | cons h1 t =>
        cases t
        obtain ⟨a, ws, rfl, hs, l⟩ := h1.seqF e3
        exact ⟨a, ws, rfl, hs _ p.gl.sub, k _ F1 H1 p (wk_enum hs l)⟩
    · cases e2
theorem ic_enum (hg : L2.Gl X "enumerate") (hm : X.mg "enumerate" = none) (ha : BA X T [e] ms) (hs : starEach [e] X.env = [(false, eval e X.env)] := by rfl) : IC X T (.Tuple elts kk tpos) (.Call (.Name "enumerate" p) [e] [] pos) (iEc ms) :=
  piI (pi_enum hg hm ha hs) fun σ H R q => by
    obtain ⟨F, env, ω, sa, ds, e, k⟩ := q
    obtain ⟨os, e1, e2⟩ := Option.bind_eq_some_iff.mp e
    refine ⟨F, env, ω, sa, os, e1, fun vs F1 H1 p h => ?_⟩
    split at e2
    · obtain ⟨xs, e3, e4⟩ := Option.map_eq_some_iff.mp e2
      subst e4
      cases h with
      | cons h1 t =>
        cases t
        obtain ⟨a, ws, rfl, hs, l⟩ := h1.lc p.gl e3
        exact ⟨a, ws, rfl, hs _ ⟨p.gl.sub, .refl _⟩, k _ F1 H1 p (wk_enum hs l)⟩
    · cases e2
end
def wipeE (env : Env) : List Nat → Env
  | [] => env
  | v :: vs => (wipeE env vs).set v .dead
def compL (env : Env) (g : Gm) (t : Tm) (m : Em) : List D → Option (List O)
  | [] => some []
  | d :: ds => (g (.frz d) env).bind fun e => (t e).bind fun b => if b = true then (m e).bind fun o => (compL env g t m ds).map fun os => o :: os else compL env g t m ds
def eLc (it : Im) (vs : List Nat) (g : Gm) (t : Tm) (m : Em) : Em := fun env => (it env).bind fun ds => if ds.length ≤ 100000 then (compL (wipeE env vs) g t m ds).map O.lst else none
section
variable {K : PySem.W.Frag} {T : Tab} {F H F1 H1 : Hp} {σ : L2.St} {env : Env} {ω : Own}
theorem wipeE_len : ∀ vs : List Nat, (wipeE env vs).length = env.length
  | [] => rfl
  | v :: vs => by unfold wipeE; rw [List.length_set, wipeE_len vs]
theorem wipeE_get {i : Nat} {s : SV} : ∀ {vs : List Nat}, (wipeE env vs)[i]? = some s → s = .dead ∨ (env[i]? = some s ∧ i ∉ vs)
  | [], h => .inr ⟨h, by simp⟩
  | v :: vs, h => by
    unfold wipeE at h
    by_cases hv : v = i
    · subst hv
      by_cases hl : v < (wipeE env vs).length
      · rw [List.getElem?_set_self hl] at h; cases h; exact .inl rfl
      · rw [List.getElem?_eq_none (by simpa using hl)] at h; cases h
    · rw [List.getElem?_set_ne hv] at h
      rcases wipeE_get h with h | ⟨h1, h2⟩
      · exact .inl h
      · exact .inr ⟨h1, by simp only [List.mem_cons, not_or]; exact ⟨fun e => hv e.symm, h2⟩⟩
theorem Sta.wipe (s : Sta K T F H σ env ω) (vs : List Nat) (na : ∀ (i r : Nat) (p : List Stp), env[i]? ≠ some (SV.als r p)) : Sta K T F H (L2.wipe σ vs) (wipeE env vs) ω := by
  refine ⟨s.gl, by rw [L2.wipe_length, wipeE_len]; exact s.len, fun i t e => ?_, s.og⟩
  rcases wipeE_get e with h | ⟨h, hn⟩
  · subst h; trivial
  · have g : ∀ x, σ[i]? = some (some x) → (L2.wipe σ vs)[i]? = some (some x) := fun x hx => (wipe_out hn).trans hx
    have q := s.slot i t h
    cases t with
    | dead => trivial
    | frz d => obtain ⟨v, h1, h2⟩ := q; exact ⟨v, g v h1, h2⟩
    | own o => obtain ⟨v, A, h1, h2⟩ := q; exact ⟨v, A, g v h1, h2⟩
    | io o => obtain ⟨v, A, h1, h2⟩ := q; exact ⟨v, A, g v h1, h2⟩
    | als r p => exact absurd h (na i r p)
theorem wipe_eq {σ1 σ2 : L2.St} {vs : List Nat} (h : ∀ j, j ∉ vs → σ2[j]? = σ1[j]?) (hl : σ2.length = σ1.length) : L2.wipe σ2 vs = L2.wipe σ1 vs := by
  apply List.ext_getElem?
  intro j
  by_cases hj : j ∈ vs
  · have : ∀ (σ : L2.St) (vs : List Nat), j ∈ vs → (L2.wipe σ vs)[j]? = if j < σ.length then some none else none := by
      intro σ vs
      induction vs with
      | nil => intro h; cases h
      | cons v vs ih =>
        intro h
        unfold L2.wipe
        by_cases hv : v = j
        · subst hv
          by_cases c : v < σ.length
          · rw [if_pos c, List.getElem?_set_self (by rw [L2.wipe_length]; exact c)]
          · rw [if_neg c, List.getElem?_eq_none (by rw [List.length_set, L2.wipe_length]; omega)]
        · rw [List.getElem?_set_ne hv]
          exact ih ((List.mem_cons.mp h).resolve_left fun z => hv z.symm)
    rw [this σ2 vs hj, this σ1 vs hj, hl]
  · rw [wipe_out hj, wipe_out hj, h j hj]
theorem wipe_idem (σ : L2.St) (vs : List Nat) : L2.wipe (L2.wipe σ vs) vs = L2.wipe σ vs := wipe_eq (fun j hj => wipe_out hj) (L2.wipe_length σ vs)
/-- the new list grows: it is not frozen, not owned -/
theorem PX.grow {D : Addr} {l l' : List V} (p : PX T F H F1 H1) (hD : H D = none) (hF : F1 D = none) (h1 : H1 D = some (.lst l)) : PX T F H F1 (upd H1 D (.lst l')) := by
  refine ⟨p.f, fun a u e n => by rw [upd_ne (ne_of_none e hD)]; exact p.h a u e n, p.new, fun a ps e => ?_, ⟨fun a u e n => ?_, p.gl.notbl, fun a vs e => ?_, fun q hq => ?_⟩⟩
  · obtain ⟨ps', h⟩ := p.trk a ps e
    exact ⟨ps', by rw [upd_ne (ne_of_none e hD)]; exact h⟩
  · have z : a ≠ D := fun z => by rw [z, hF] at e; cases e
    rw [upd_ne z]
    exact p.gl.sub a u e n
  · by_cases z : a = D
    · rw [z, upd_same] at e; cases e
    · rw [upd_ne z] at e; exact p.gl.tup a vs e
  · obtain ⟨ps, g1, g2, g3⟩ := p.gl.tab q hq
    have z : q.1 ≠ D := fun z => by rw [z, h1] at g1; cases g1
    refine ⟨ps, by rw [upd_ne z]; exact g1, g2, fun pos cv hc => ?_⟩
    obtain ⟨c, e1, e2⟩ := g3 pos cv hc
    have z2 : c ≠ D := fun z => by rw [z, h1] at e2; unfold LamX.CodeO at e2; cases e2
    exact ⟨c, e1, by rw [upd_ne z2]; exact e2⟩
end
section
variable {X : Cx} {T : Tab} {elt tg iter : Expr} {ifs : List Expr} {scope : Scope} {own : List (Str × Nat)} {pos : Pos} {it : Im} {g : Gm} {t : Tm} {m : Em} {ts : List Nat}
def ICs (X : Cx) (T : Tab) (ifs : List Expr) (t : Tm) : Prop := PTs X ifs (tT X.K T t)
def yesT : Tm := fun _ => some true
theorem ics_nil : ICs X T [] yesT := ⟨fun pins s σ H Q I q => pts_nil.run pins s σ H Q I (by
  obtain ⟨F, env, ω, sa, b, e, k⟩ := q
  cases e
  exact k F H (.refl sa.gl))⟩
theorem ics_one {c : Expr} (h : BT X T c t) : ICs X T [c] t := pts_one h
/-- no slot is another name -/
def noAlsB (env : Env) : Bool := env.all fun s => match s with
  | .als _ _ => false
  | _ => true
theorem noAls_of {env : Env} (h : noAlsB env = true) (i r : Nat) (p : List Stp) : env[i]? ≠ some (SV.als r p) := fun e => by
  have := List.all_eq_true.mp h _ (List.mem_of_getElem? e)
  cases this
def eLcN (it : Im) (vs : List Nat) (g : Gm) (t : Tm) (m : Em) : Em := fun env => if noAlsB env = true then eLc it vs g t m env else none
theorem tLc_of (hts : ∀ i ∈ ts, i ∈ own.map (·.2)) {σ : L2.St} {H : Hp} {Q : VK} (q : tF X.K T (eLcN it (own.map (·.2)) g t m) σ H Q) : tLc (tC' X.K T it) (tG X.K T ts g) (tT X.K T t) (tF X.K T m) (own.map (·.2)) σ H Q := by
  obtain ⟨F, env, ω, sa, o, e, k⟩ := q
  unfold eLcN at e
  split at e
  · rename_i hna
    obtain ⟨ds, e1, e2⟩ := Option.bind_eq_some_iff.mp e
    split at e2
    · rename_i hlen
      obtain ⟨os, e3, e4⟩ := Option.map_eq_some_iff.mp e2
      subst e4
      refine ⟨F, env, ω, sa, ds, e1, fun J F1 H1 p1 w DD hD => ?_⟩
      have sa1 := sa.px p1
      have FD : F1 DD = none := p1.gl.free hD
      refine ⟨fun i n H' => n = ds.length - i ∧ i ≤ ds.length ∧ ∃ F' vs os1 os2 A, PX T F1 H1 F' H' ∧ F' DD = none ∧ H' DD = some (.lst vs) ∧ RoL X.K F' H' vs os1 A ∧ A.Nodup ∧ (∀ a ∈ A, H1 a = none ∧ a ≠ DD) ∧ os1.length ≤ i ∧
        compL (wipeE env (own.map (·.2))) g t m (ds.drop i) = some os2 ∧ os = os1 ++ os2,
        ⟨ds.length, by simp, Nat.zero_le _, F1, [], [], os, [], .owned p1.gl hD (fun _ z => by cases z), FD, upd_same, .nil, .nil, fun _ z => (by cases z), Nat.le_refl _, e3, rfl⟩, ?_⟩
      rintro i n H2 ⟨rfl, hi, F2, vs, os1, os2, A, p2, f2, h2, r2, nd2, n2, l2, c2, eos⟩
      have G2 : SubN F1 H2 ∧ LamX.ExtN H1 H2 := ⟨(SubN.of p2.f).trans p2.gl.sub, p2.h⟩
      by_cases hlt : i < ds.length
      · refine .inr ⟨w.go i H2 hlt G2, fun H' => i + 1 ≤ ds.length ∧ ∃ F' vs os1 os2 A, PX T F1 H1 F' H' ∧ F' DD = none ∧ H' DD = some (.lst vs) ∧ RoL X.K F' H' vs os1 A ∧ A.Nodup ∧ (∀ a ∈ A, H1 a = none ∧ a ≠ DD) ∧ os1.length ≤ i + 1 ∧
          compL (wipeE env (own.map (·.2))) g t m (ds.drop (i + 1)) = some os2 ∧ os = os1 ++ os2, fun H' ⟨h1, h2⟩ => ⟨ds.length - (i + 1), by omega, rfl, h1, h2⟩, fun x H3 y => ?_⟩
        obtain ⟨d, F3, hd1, p3, hv⟩ := w.turn p2.gl p2.f G2 hlt y
        have hd : ds.drop i = d :: ds.drop (i + 1) := by
          rw [List.drop_eq_getElem_cons hlt]
          congr 1
          exact (List.getElem?_eq_some_iff.mp hd1).2
        rw [hd] at c2
        obtain ⟨e5, l3, l4⟩ := Option.bind_eq_some_iff.mp c2
        obtain ⟨b, l5, l6⟩ := Option.bind_eq_some_iff.mp l4
        have p13 := p2.trans p3
        have sa3 := (sa1.px p13).wipe (own.map (·.2)) (noAls_of hna)
        have keepD : ∀ {Fa Ha Fb Hb : Hp}, PX T Fa Ha Fb Hb → Fa DD = none → Ha DD = some (.lst vs) → Fb DD = none ∧ Hb DD = some (.lst vs) := fun p f h => ⟨p.new DD f (by rw [h]; exact fun z => by cases z), p.h DD _ h fun _ z => by cases z⟩
        obtain ⟨f3, h3⟩ := keepD p3 f2 h2
        refine ⟨F3, _, ω, .frz d, sa3, .frz hv, e5, l3, fun σ4 ω4 g4 n4 => ⟨?_, F3, e5, ω4, g4.sta, b, l5, fun F5 H5 p5 => ?_⟩⟩
        · rw [wipe_eq (σ1 := L2.wipe σ (own.map (·.2))) (fun j hj => n4.1 j fun z => hj (hts j z)) n4.2, wipe_idem]
        · obtain ⟨f5, h5⟩ := keepD p5 f3 h3
          have r5 : RoL X.K F5 H5 vs os1 A := by
            refine r2.keep (fun a u e => p5.f a u (p3.f a u e)) fun a ha => ?_
            obtain ⟨q1, u, q2, q3⟩ := r2.mem a ha
            exact ⟨(p3.trans p5).new a q1 (by rw [q2]; exact fun z => by cases z), by rw [q2, (p3.trans p5).h a u q2 (own_ntbl q3)]⟩
          have p15 := p13.trans p5
          cases b with
          | false =>
            rw [if_neg Bool.false_ne_true] at l6
            refine iteF ⟨hlt, F5, vs, os1, os2, A, p15, f5, h5, r5, nd2, n2, by omega, l6, eos⟩
          | true =>
            rw [if_pos rfl] at l6
            refine iteT ?_
            obtain ⟨o6, l7, l8⟩ := Option.bind_eq_some_iff.mp l6
            obtain ⟨os3, l9, l10⟩ := Option.map_eq_some_iff.mp l8
            subst l10
            refine ⟨F5, e5, ω4, g4.sta.px p5, o6, l7, fun v F6 H6 B p6 f6 => ?_⟩
            obtain ⟨f7, h7⟩ := keepD p6 f5 h5
            refine ⟨vs, h7, ?_, hlt, F6, vs ++ [v], os1 ++ [o6], os3, A ++ B, (p15.trans p6).grow hD f7 h7, f7, upd_same, ?_, ?_, ?_, by simp; omega, l9, by rw [eos]; simp⟩
            · rw [r2.length, sizeLine_eq]; omega
            · have r6 : RoL X.K F6 H6 (vs ++ [v]) (os1 ++ [o6]) (A ++ B) := by
                refine RoL.append ?_ (RoL.one f6.ro)
                refine r5.keep p6.f fun a ha => ?_
                obtain ⟨q1, u, q2, q3⟩ := r5.mem a ha
                exact ⟨p6.new a q1 (by rw [q2]; exact fun z => by cases z), by rw [q2, p6.h a u q2 (own_ntbl q3)]⟩
              refine r6.keep (fun _ _ e => e) fun a ha => ⟨(r6.mem a ha).1, upd_ne ?_⟩
              rcases List.mem_append.mp ha with q | q
              · exact (n2 a q).2
              · exact fun z => by rw [z] at q; have := f6.new DD q; rw [h5] at this; cases this
            · refine nodup_app nd2 f6.nd fun a ha hb => ?_
              obtain ⟨_, u, q2, _⟩ := r5.mem a ha
              rw [f6.new a hb] at q2; cases q2
            · intro a ha
              rcases List.mem_append.mp ha with q | q
              · exact n2 a q
              · exact ⟨p15.free (f6.new a q), fun z => by rw [z] at q; have := f6.new DD q; rw [h5] at this; cases this⟩
      · have ei : i = ds.length := by omega
        subst ei
        rw [List.drop_length] at c2
        cases c2
        rw [List.append_nil] at eos
        subst eos
        refine .inl ⟨w.stop H2 G2, k _ F2 H2 (DD :: A) (p1.trans p2) ⟨.lst f2 h2 r2, List.nodup_cons.mpr ⟨fun z => (n2 DD z).2 rfl, nd2⟩, fun a ha => ?_⟩⟩
        rcases List.mem_cons.mp ha with q | q
        · rw [q]; exact p1.free hD
        · exact p1.free (n2 a q).1
    · cases e2
  · cases e
end
end VL
namespace VL
open PySem PySem.Spec PyProof.Rows L2
section
variable {X : Cx} {T : Tab} {elt tg iter : Expr} {ifs : List Expr} {scope : Scope} {own : List (Str × Nat)} {pos : Pos} {it : Im} {g : Gm} {t : Tm} {m : Em} {ts : List Nat}
theorem fe_lc (hc : X.calm = true) (hN : X.N.Nodup) (hi : IC X T tg iter it) (ok : BlkOk X.N X.env.scope scope own)
    (hg : ∀ (s : Shared) (H : Hp) (C : Addr) (cl : List (Str × Addr)) (fp : List Addr), GS (X.blk s H scope (compEnvC scope cl C X.env) fp) T tg ts g)
    (ht : ∀ (s : Shared) (H : Hp) (C : Addr) (cl : List (Str × Addr)) (fp : List Addr), ICs (X.blk s H scope (compEnvC scope cl C X.env) fp) T ifs t)
    (he : ∀ (s : Shared) (H : Hp) (C : Addr) (cl : List (Str × Addr)) (fp : List Addr), FE (X.blk s H scope (compEnvC scope cl C X.env) fp) T elt m)
    (hts : ∀ i ∈ ts, i ∈ own.map (·.2)) (hs : ∀ x, foldedSetIterable iter X.env x = pure x := by intro _; rfl) :
    FE X T (.ListComp elt [⟨tg, iter, ifs, 0⟩] scope pos) (eLcN it (own.map (·.2)) g t m) :=
  peI (pe_lc (g := tG X.K T ts g) (tt := tT X.K T t) (te := tF X.K T m) hc hN hi ok hg ht he hs) fun _ _ _ q => tLc_of hts q
theorem ss_setLc {i : Nat} {y : Str} {py spos : Pos} (hc : X.calm = true) (hN : X.N.Nodup) (hy : X.N[i]? = some y) (hyl : X.env.scope.names.lookup y = some .local)
    (hsw : swapsWith (.ListComp elt [⟨tg, iter, ifs, 0⟩] scope pos) (some (.Name y py)) spos.line X.env = pure true) (hi : IC X T tg iter it) (ok : BlkOk X.N X.env.scope scope own)
    (hg : ∀ (s : Shared) (H : Hp) (C : Addr) (cl : List (Str × Addr)) (fp : List Addr), GS (X.blk s H scope (compEnvC scope cl C X.env) fp) T tg ts g)
    (ht : ∀ (s : Shared) (H : Hp) (C : Addr) (cl : List (Str × Addr)) (fp : List Addr), ICs (X.blk s H scope (compEnvC scope cl C X.env) fp) T ifs t)
    (he : ∀ (s : Shared) (H : Hp) (C : Addr) (cl : List (Str × Addr)) (fp : List Addr), FE (X.blk s H scope (compEnvC scope cl C X.env) fp) T elt m)
    (hts : ∀ i ∈ ts, i ∈ own.map (·.2)) (hs : ∀ x, foldedSetIterable iter X.env x = pure x := by intro _; rfl) :
    SS X T (.Assign [.Name y py] (.ListComp elt [⟨tg, iter, ifs, 0⟩] scope pos) spos) (sSet i (eLcN it (own.map (·.2)) g t m)) :=
  psI (ps_setLc (g := tG X.K T ts g) (tt := tT X.K T t) (te := tF X.K T m) hc hN hy hyl hsw hi ok hg ht he hs) fun D σ H q => by
    obtain ⟨F, env, ω, sa, out, e, k⟩ := q
    obtain ⟨o, e1, e2⟩ := Option.bind_eq_some_iff.mp e
    obtain ⟨e', e3, e4⟩ := Option.map_eq_some_iff.mp e2
    subst e4
    refine tLc_of hts ⟨F, env, ω, sa, o, e1, fun v F1 H1 A p f => ?_⟩
    have hl : i < env.length ∨ ¬ i < env.length := Classical.em _
    rcases hl with hl | hl
    · exact k F1 H1 _ _ (Go.put sa p f hl e3)
    · obtain ⟨h1, h2⟩ := setS_of e3
      have h3 : σ.set i (some v) = σ := List.set_eq_of_length_le (by rw [sa.len]; omega)
      have h4 : (killA i env).set i (slotOf o) = killA i env := List.set_eq_of_length_le (by rw [killA_len]; omega)
      have h5 : killA i env = env := by
        apply List.ext_getElem?
        intro j
        rw [killA_get]
        cases q : env[j]? with
        | none => rfl
        | some t =>
          cases t with
          | als r p' =>
            have := sa.slot j _ q
            obtain ⟨_, w, _, _, _, h, _⟩ := this
            have hr : r < env.length := by rw [← sa.len]; exact (List.getElem?_eq_some_iff.mp h).1
            have : r ≠ i := by omega
            simp [this]
          | _ => rfl
      rw [h2, h4, h5] at k
      show D.nx (σ.set i (some v)) H1
      rw [h3]
      exact k F1 H1 σ ω (.px sa p)
end
abbrev Fm := List SV → Option (O × List SV)
def argOk : SV → Bool
  | .frz _ => true
  | .io _ => true
  | _ => false
/-- the slots as they are handed back -/
def outs (svs : List SV) (e : Env) : List SV := svs.mapIdx fun i a => match a with
  | .io _ => (e[i]?).getD .dead
  | a => a
def fnM (np n : Nat) (s : Sm) : Fm := fun svs => if svs.length = np ∧ svs.all argOk = true then (match s (svs ++ List.replicate (n - np) .dead) with
  | some (.ret o e) => some (o, outs svs e)
  | some (.nx e) => some (.frz .non, outs svs e)
  | _ => none) else none
def spF (K : PySem.W.Frag) (T : Tab) (np : Nat) (f : Fm) : Sp := fun vs H Q _ => ∃ F svs ω o svs', vs.length = np ∧ svs.all argOk = true ∧ Sta K T F H (vs.map some) svs ω ∧ f svs = some (o, svs') ∧
  ∀ F' H' ω' v A, EX F H ω F' H' ω' → Sta K T F' H' (vs.map some) svs' ω' → Rt K H ω F' H' ω' v o A → Q v H'
section
variable {K : PySem.W.Frag} {T : Tab} {F H F' H' : Hp} {ω ω' : Own} {vs : List V} {svs : List SV} {N : List Str}
theorem start_get {i : Nat} {x : V} (h : (vs.map some)[i]? = some (some x)) : (L2.start N vs)[i]? = some (some x) := by
  unfold L2.start
  rw [List.getElem?_append_left (List.getElem?_eq_some_iff.mp h).1]
  exact h
theorem sta_start (s : Sta K T F H (vs.map some) svs ω) (ha : svs.all argOk = true) (hn : vs.length ≤ N.length) : Sta K T F H (L2.start N vs) (svs ++ List.replicate (N.length - vs.length) .dead) ω := by
  have hl : svs.length = vs.length := by have := s.len; rw [List.length_map] at this; exact this.symm
  refine ⟨s.gl, ?_, fun i t e => ?_, s.og⟩
  · unfold L2.start
    rw [List.length_append, List.length_append, List.length_map, List.length_replicate, List.length_replicate, hl]
  · by_cases hi : i < svs.length
    · rw [List.getElem?_append_left hi] at e
      have q := s.slot i t e
      have a := List.all_eq_true.mp ha t (List.mem_of_getElem? e)
      cases t with
      | dead => trivial
      | frz d => obtain ⟨v, h1, h2⟩ := q; exact ⟨v, start_get h1, h2⟩
      | own o => cases a
      | io o => obtain ⟨v, A, h1, h2⟩ := q; exact ⟨v, A, start_get h1, h2⟩
      | als r p => cases a
    · rw [List.getElem?_append_right (by omega), List.getElem?_replicate] at e
      split at e
      · cases e; trivial
      · cases e
/-- what the parameters own -/
def ωio (svs : List SV) (ω : Own) : Own := fun a => match ω a with
  | some i => if isIo svs[i]? = true then some i else none
  | none => none
theorem sta_outs {σ' : L2.St} {e : Env} (s : Sta K T F H (vs.map some) svs ω) (ha : svs.all argOk = true) (hn : vs.length ≤ N.length)
    (g : Go K T F H (L2.start N vs) (svs ++ List.replicate (N.length - vs.length) .dead) ω F' H' σ' e ω') : Sta K T F' H' (vs.map some) (outs svs e) (ωio svs ω') ∧ EX F H ω F' H' (ωio svs ω') := by
  have hl : svs.length = vs.length := by have := s.len; rw [List.length_map] at this; exact this.symm
  refine ⟨⟨g.sta.gl, ?_, fun i t h => ?_, fun a i h => ?_⟩, ⟨g.ex.f, g.ex.h, g.ex.new, fun a i h => ?_, g.ex.trk, g.ex.tb⟩⟩
  · unfold outs
    rw [List.length_mapIdx]
    exact s.len
  · unfold outs at h
    rw [List.getElem?_mapIdx] at h
    obtain ⟨sv, h1, h2⟩ := Option.map_eq_some_iff.mp h
    have q := s.slot i sv h1
    have a := List.all_eq_true.mp ha sv (List.mem_of_getElem? h1)
    cases sv with
    | dead => cases a
    | frz d =>
      cases h2
      obtain ⟨v, h3, h4⟩ := q
      exact ⟨v, h3, h4.sub (.of g.ex.f)⟩
    | own o => cases a
    | io o =>
      obtain ⟨h3, o', h4⟩ := g.io i o (by rw [List.getElem?_append_left (List.getElem?_eq_some_iff.mp h1).1]; exact h1)
      have h2 : (e[i]?).getD .dead = t := h2
      rw [h4] at h2
      cases h2
      obtain ⟨v, A, h5, h6, h7, h8⟩ := g.sta.slot i _ h4
      obtain ⟨v0, A0, h9, _⟩ := q
      rw [h3, start_get h9] at h5
      cases h5
      exact ⟨_, A, h9, h6, h7, fun a ha => by unfold ωio; rw [h8 a ha]; simp only [h1]; rfl⟩
    | als r p => cases a
  · unfold ωio at h
    split at h
    · rename_i j hj
      split at h
      · cases h; exact g.sta.og a i hj
      · cases h
    · cases h
  · unfold ωio at h
    split at h
    · rename_i j hj
      split at h
      · cases h; exact g.ex.own a i hj
      · cases h
    · cases h
end
section
variable {P : Program} {w : World} {K : PySem.W.Frag} {mg : Str → Option Value} {base : Heap} {T : Tab}
/-- a body that refines s keeps the promise of the def -/
theorem body_ok {CX : CXT} {N ps : List Str} {qual : Str} {scope : Scope} {f : Addr} {cdv : Value} {A : Around} {outer : List PySem.Env} {s : Shared} {H : Hp} {vs : List V} {Q : VK} {E : XK} {body : List Stmt} {sm : Sm}
    (S : FnScope N ps scope) (hsp : spF K T ps.length (fnM ps.length N.length sm) vs H Q E) : tS K T sm { nx := fun _ H' => Q .non H', rt := Q } (L2.start N vs) H := by
  obtain ⟨F, svs, ω, o, svs', hl, ha, sa, e, k⟩ := hsp
  have hn : vs.length ≤ N.length := by
    have := congrArg List.length S.pre
    rw [List.length_take] at this
    omega
  have hl2 : svs.length = vs.length := by have := sa.len; rw [List.length_map] at this; exact this.symm
  unfold fnM at e
  rw [if_pos ⟨by omega, ha⟩] at e
  refine ⟨F, svs ++ List.replicate (N.length - vs.length) .dead, ω, sta_start sa ha hn, ?_⟩
  rw [hl]
  split at e
  · rename_i o' e' q
    cases e
    refine ⟨_, q, fun F' H' σ' ω' v A g r => ?_⟩
    rw [← hl] at g
    obtain ⟨h1, h2⟩ := sta_outs sa ha hn g
    refine k F' H' _ v A h2 h1 ⟨r.ro, r.nd, fun a h => ⟨?_, (r.new a h).2⟩⟩
    unfold ωio
    rw [(r.new a h).1]
  · rename_i e' q
    cases e
    refine ⟨_, q, fun F' H' σ' ω' g => ?_⟩
    rw [← hl] at g
    obtain ⟨h1, h2⟩ := sta_outs sa ha hn g
    exact k F' H' _ .non [] h2 h1 ⟨.frz .non, .nil, fun _ z => by cases z⟩
  · cases e
/-- THE RULE for a def -/
theorem fn_ok {x qual : Str} {st : Stmt} {f : Addr} {fd : FuncData} {N ps : List Str} {k : Nat} {sm : Sm} (D : FunD K x qual (defArgs st) (defBody st) (defScope st) [] [] f fd) (S : FnScope N ps (defScope st))
    (hb : ∀ (cdv : Value) (A : Around) (outer : List PySem.Env) (s : Shared) (H : Hp) (E : XK), Room k (A.deeper (envOfC qual (defScope st) s.heap.objs.size f cdv)) → SB (cxOf CX0 P w K mg base N qual (defScope st) f cdv A outer s H E).nox T (defBody st) sm) :
    FnOk P w K mg base CX0 (k + 1) f fd ps (spF K T ps.length (fnM ps.length N.length sm)) := by
  refine D.ok S (fun vs H Q E h => ?_) fun cdv A outer s H vs Q E hr hsp => ⟨tS K T sm, PSs.nox (hb cdv A outer s H E hr), body_ok (CX := CX0) (qual := qual) (f := f) (cdv := cdv) (A := A) (outer := outer) (s := s) (E := E) (body := defBody st) S hsp⟩
  obtain ⟨_, _, _, _, _, h, _⟩ := h
  exact h
end
mutual
/-- its frozen parts are never changed -/
def O.immO : O → Bool
  | .frz d => d.imm
  | .tup os => O.immOs os
  | .lst os => O.immOs os
  | .dct kos => O.immK kos
  | .dtt kos => O.immT kos
  | .ins _ fos => O.immF fos
def O.immOs : List O → Bool
  | [] => true
  | o :: os => o.immO && O.immOs os
def O.immK : List (Key × O) → Bool
  | [] => true
  | (_, o) :: os => o.immO && O.immK os
def O.immT : List (List Key × O) → Bool
  | [] => true
  | (_, o) :: os => o.immO && O.immT os
def O.immF : List (Str × O) → Bool
  | [] => true
  | (_, o) :: os => o.immO && O.immF os
end
theorem immK_snd : ∀ kos : List (Key × O), O.immK kos = O.immOs (kos.map Prod.snd)
  | [] => by rw [O.immK]; rfl
  | (k, o) :: r => by rw [O.immK, immK_snd r, List.map_cons, O.immOs]
theorem immT_snd : ∀ kos : List (List Key × O), O.immT kos = O.immOs (kos.map Prod.snd)
  | [] => by rw [O.immT]; rfl
  | (k, o) :: r => by rw [O.immT, immT_snd r, List.map_cons, O.immOs]
theorem immF_snd : ∀ kos : List (Str × O), O.immF kos = O.immOs (kos.map Prod.snd)
  | [] => by rw [O.immF]; rfl
  | (k, o) :: r => by rw [O.immF, immF_snd r, List.map_cons, O.immOs]
section
variable {K : PySem.W.Frag} {F H G : Hp}
mutual
theorem Ro.imm (t : ∀ a vs, F a = some (.tup vs) → G a = some (.tup vs)) : ∀ {v : V} {o : O} {A : List Addr}, Ro K F H v o A → o.immO = true → (∀ a ∈ A, G a = none) → Ro K G H v o A
  | _, _, _, .frz h, e, _ => .frz (h.immv t (by rw [O.immO] at e; exact e))
  | _, _, _, .tup h l, e, k => .tup (t _ _ h) (RoL.imm t l (by rw [O.immO] at e; exact e) k)
  | _, _, _, .lst _ h l, e, k => .lst (k _ List.mem_cons_self) h (RoL.imm t l (by rw [O.immO] at e; exact e) fun b hb => k b (List.mem_cons_of_mem _ hb))
  | _, _, _, .dct _ h q l, e, k => .dct (k _ List.mem_cons_self) h q (RoL.imm t l (by rw [O.immO, immK_snd] at e; exact e) fun b hb => k b (List.mem_cons_of_mem _ hb))
  | _, _, _, .dtt _ h q l, e, k => .dtt (k _ List.mem_cons_self) h q (RoL.imm t l (by rw [O.immO, immT_snd] at e; exact e) fun b hb => k b (List.mem_cons_of_mem _ hb))
  | _, _, _, .ins _ h q l, e, k => .ins (k _ List.mem_cons_self) h q (RoL.imm t l (by rw [O.immO, immF_snd] at e; exact e) fun b hb => k b (List.mem_cons_of_mem _ hb))
theorem RoL.imm (t : ∀ a vs, F a = some (.tup vs) → G a = some (.tup vs)) : ∀ {vs : List V} {os : List O} {A : List Addr}, RoL K F H vs os A → O.immOs os = true → (∀ a ∈ A, G a = none) → RoL K G H vs os A
  | _, _, _, .nil, _, _ => .nil
  | _, _, _, .cons h l, e, k => by
    rw [O.immOs] at e
    obtain ⟨e1, e2⟩ := Bool.and_eq_true_iff.mp e
    exact .cons (Ro.imm t h e1 fun b hb => k b (List.mem_append_left _ hb)) (RoL.imm t l e2 fun b hb => k b (List.mem_append_right _ hb))
end
end
def isF (o : O) : Bool := (asFrz o).isSome
def callP (f : Fm) (os : List O) : Option O := (f (os.map fun o => .frz o.toD)).bind fun r => if os.all isF = true ∨ r.1.immO = true then some r.1 else none
section
variable {K : PySem.W.Frag} {T : Tab} {F H F' H' : Hp} {ω' : Own}
def noOwn : Own := fun _ => none
theorem px_ex (x : EX F H noOwn F' H' ω') (g : Gl T F' H') : PX T F H F' H' :=
  ⟨x.f, fun a u e n => x.h a u e rfl n, fun a e h => x.new a e h rfl, x.tb, g⟩
/-- the frozen arguments, as a callee's slots -/
theorem sta_args (g : Gl T F H) : ∀ {vs : List V} {ds : List D}, VwL K F vs ds → Sta K T F H (vs.map some) (ds.map SV.frz) noOwn := fun {vs ds} l => by
  refine ⟨g, by rw [List.length_map, List.length_map, l.length], fun i t e => ?_, fun a i e => by cases e⟩
  rw [List.getElem?_map] at e
  obtain ⟨d, e1, e2⟩ := Option.map_eq_some_iff.mp e
  subst e2
  obtain ⟨v, h1, h2⟩ := l.get e1
  exact ⟨v, by rw [List.getElem?_map, h1]; rfl, h2⟩
theorem all_frz (ds : List D) : (ds.map SV.frz).all argOk = true := by
  rw [List.all_map]
  exact List.all_eq_true.mpr fun _ _ => rfl
theorem prd_frz (g : Gl T F H) : ∀ {vs : List V} {os : List O}, Paired (VwO K F H) vs os → os.all isF = true → VwL K F vs (os.map O.toD)
  | _, _, .nil, _ => .nil
  | _, _, .cons h t, e => by
    rw [List.all_cons] at e
    obtain ⟨e1, e2⟩ := Bool.and_eq_true_iff.mp e
    obtain ⟨d, e3⟩ := Option.isSome_iff_exists.mp (show (asFrz _).isSome = true from e1)
    rw [List.map_cons, asFrz_toD e3]
    exact .cons (h.asFrz g e3) (prd_frz g t e2)
/-- all that is tracked, but tables, frozen -/
def allF (H : Hp) : Hp := fun a => match H a with
  | some (.tbl _) => none
  | x => x
theorem allF_of {a : Addr} {u : HO} (h : H a = some u) (n : ∀ ps, u ≠ .tbl ps) : allF H a = some u := by
  unfold allF
  rw [h]
  split
  · rename_i ps q; cases q; exact absurd rfl (n ps)
  · rfl
theorem allF_get {a : Addr} {u : HO} (h : allF H a = some u) : H a = some u ∧ ∀ ps, u ≠ .tbl ps := by
  unfold allF at h
  split at h
  · cases h
  · rename_i q
    exact ⟨h, fun ps z => q ps (by rw [← z]; exact h)⟩
theorem gl_all (g : Gl T F H) : Gl T (allF H) H :=
  ⟨fun a u e _ => .inl (allF_get e).1, fun a ps e => (allF_get e).2 ps rfl, fun a vs e => allF_of e (fun _ z => nomatch z), g.tab⟩
/-- behind a call for which all was frozen: what is new in the frozen part -/
def newF (F H F' : Hp) : Hp := fun a => match F a with
  | some u => some u
  | none => match H a with
    | some _ => none
    | none => F' a
theorem newF_px (g : Gl T F H) (x : EX (allF H) H noOwn F' H' ω') (g' : Gl T F' H') : PX T F H (newF F H F') H' ∧ (∀ a vs, F' a = some (.tup vs) → newF F H F' a = some (.tup vs)) ∧ ∀ a, H a = none → F' a = none → newF F H F' a = none := by
  have ext : LamX.ExtN H H' := fun a u e n => x.h a u e rfl n
  have tupN : ∀ a vs, H' a = some (.tup vs) → newF F H F' a = some (.tup vs) := fun a vs e => by
    unfold newF
    cases q : F a with
    | some u =>
      show some u = _
      rcases (g.sub.trans (.ext ext)) a u q (fun ps z => g.notbl a ps (by rw [q, z])) with h | ⟨_, o, h⟩
      · rw [← h]; exact e
      · rw [e] at h; cases h
    | none =>
      show (match H a with | some _ => none | none => F' a) = _
      cases q2 : H a with
      | none => exact g'.tup a vs e
      | some u =>
        exfalso
        by_cases z : ∃ ps, u = .tbl ps
        · obtain ⟨ps, rfl⟩ := z
          obtain ⟨ps', h⟩ := x.tb a ps q2
          rw [e] at h; cases h
        · have h := ext a u q2 fun ps y => z ⟨ps, y⟩
          rw [e] at h
          cases h
          rw [g.tup a vs q2] at q
          cases q
  refine ⟨⟨fun a u e => by unfold newF; rw [e], ext, fun a e h => ?_, x.tb, ⟨fun a u e n => ?_, fun a ps e => ?_, tupN, g'.tab⟩⟩, fun a vs e => tupN a vs (g'.sub.at e (fun _ z => by cases z) rfl), fun a h1 h2 => ?_⟩
  · unfold newF
    rw [e]
    cases q : H a with
    | none => exact absurd q h
    | some u => rfl
  · unfold newF at e
    cases q : F a with
    | some w => rw [q] at e; cases e; exact (g.sub.trans (.ext ext)) a u q n
    | none =>
      rw [q] at e
      cases q2 : H a with
      | none => rw [q2] at e; exact g'.sub a u e n
      | some w => rw [q2] at e; cases e
  · unfold newF at e
    cases q : F a with
    | some w => rw [q] at e; cases e; exact g.notbl a ps q
    | none =>
      rw [q] at e
      cases q2 : H a with
      | none => rw [q2] at e; exact g'.notbl a ps e
      | some w => rw [q2] at e; cases e
  · unfold newF
    rw [g.free h1, h1]
    exact h2
theorem Vw.allF (h : Vw K H v d) : Vw K (allF H) v d := h.sub fun a u e n => .inl (allF_of e n)
theorem VwL.allF {vs : List V} {ds : List D} (h : VwL K H vs ds) : VwL K (allF H) vs ds := h.sub fun a u e n => .inl (allF_of e n)
/-- THE CALL, by values -/
theorem spF_pure {np : Nat} {f : Fm} {vs : List V} {os : List O} {o : O} {Q : VK} {E : XK} (g : Gl T F H) (h : Paired (VwO K F H) vs os) (hn : os.length = np) (e : callP f os = some o)
    (k : ∀ v F' H' A, PX T F H F' H' → Fresh K H F' H' v o A → Q v H') : spF K T np f vs H Q E := by
  obtain ⟨⟨o', svs'⟩, e1, e2⟩ := Option.bind_eq_some_iff.mp e
  have hl : vs.length = os.length := Paired.length h
  have em : (os.map fun o => SV.frz o.toD) = (os.map O.toD).map SV.frz := by rw [List.map_map]; rfl
  rw [em] at e1
  split at e2
  · rename_i c
    have e2 : o' = o := by simpa using e2
    subst e2
    by_cases c1 : os.all isF = true
    · refine ⟨F, _, noOwn, o', svs', by omega, all_frz _, sta_args g (prd_frz g h c1), e1, fun F' H' ω' v A x sa r => ?_⟩
      exact k v F' H' A (px_ex x sa.gl) ⟨r.ro, r.nd, fun a ha => ((r.new a ha).2).resolve_left fun z => z rfl⟩
    · have c2 : o'.immO = true := c.resolve_left c1
      refine ⟨allF H, _, noOwn, o', svs', by omega, all_frz _, sta_args (gl_all g) (prd_vw g h).allF, e1, fun F' H' ω' v A x sa r => ?_⟩
      have hA : ∀ a ∈ A, H a = none := fun a ha => ((r.new a ha).2).resolve_left fun z => z rfl
      obtain ⟨px, ht, hnew⟩ := newF_px g x sa.gl
      exact k v _ H' A px ⟨r.ro.imm ht c2 fun a ha => hnew a (hA a ha) (r.ro.mem a ha).1, r.nd, hA⟩
  · cases e2
end
section
variable {X : Cx} {T : Tab} {k : Nat} {f : Addr} {fd : FuncData} {ps : List Str} {fm : Fm} {x : Str} {p pos : Pos} {e : Expr} {es : List Expr} {m : Es} {np : Nat}
def eCall (np : Nat) (fm : Fm) (m : Es) : Em := fun env => (m env).bind fun os => if os.length = np then callP fm os else none
theorem call_w {σ : L2.St} {H : Hp} {Q : VK} (q : tF X.K T (eCall np fm m) σ H Q) : tCall (spF X.K T np fm) [] E0 (tBs X.K T m) σ H Q := by
  obtain ⟨F, env, ω, sa, o, e, k⟩ := q
  obtain ⟨os, e1, e2⟩ := Option.bind_eq_some_iff.mp e
  split at e2
  · rename_i hn
    refine ⟨F, env, ω, sa, os, e1, fun vs F1 H1 p1 h => ?_⟩
    show spF X.K T np fm (vs ++ []) H1 Q E0
    rw [List.append_nil]
    exact spF_pure p1.gl h hn e2 fun v F' H' A p2 f => k v F' H' A (p1.trans p2) (f.back p1)
  · cases e2
theorem fe_call (F : FnOk X.prog X.w X.K X.mg X.base CX0 k f fd ps (spF X.K T np fm)) (hr : Room k X.A) (hg : L2.Gl X x) (hm : X.mg x = some (.ref f)) (hk : PySem.W.keepIn X.K (.ref f) = true) (hb : Binds X.K fd ps [])
    (ha : BA X T (e :: es) m) (hdb : (x == ("__debug__" : Str)) = false := by decide) (he : starEach (e :: es) X.env = (false, eval e X.env) :: starEach es X.env := by rfl) (hpl : (backTo pos (starEach es X.env)).any (·.1) = false := by rfl) :
    FE X T (.Call (.Name x p) (e :: es) [] pos) (eCall np fm m) :=
  peI (pe_call F hr hg hm hk hb .nil pass0 ha hdb he hpl) fun _ _ _ q => call_w q
end
end VL
namespace VL
open PySem PySem.Spec PyProof.Rows L2
section
variable {κ α : Type} [DecidableEq κ]
theorem getA_rep : ∀ {kos : List (κ × α)} {k : κ} {n n' : α}, getA kos k = some n → getA (repA kos k n') k = some n'
  | [], _, _, _, e => by simp [getA] at e
  | (j, x) :: r, k, n, n', e => by
    by_cases z : j = k
    · simp [repA, getA, z, List.find?_cons]
    · have e1 : getA r k = some n := by simpa [getA, List.find?_cons, z] using e
      have := getA_rep (n' := n') e1
      simpa [repA, getA, z, List.find?_cons] using this
theorem lookup_rep : ∀ {kos : List (Str × α)} {k : Str} {n n' : α}, kos.lookup k = some n → (repA kos k n').lookup k = some n'
  | [], _, _, _, e => by simp at e
  | (j, x) :: r, k, n, n', e => by
    by_cases z : j = k
    · simp [repA, List.lookup, z]
    · have zb : (k == j) = false := beq_eq_false_iff_ne.mpr (Ne.symm z)
      have e1 : r.lookup k = some n := by simpa [List.lookup, zb] using e
      have := lookup_rep (n' := n') e1
      simpa [repA, List.lookup, z, zb] using this
end
theorem step_put {o n n' : O} {s : Stp} (e : o.step s = some n) : (o.put s n').step s = some n' := by
  cases o <;> cases s <;> simp [O.step] at e
  · rename_i os i
    have := (List.getElem?_eq_some_iff.mp e).1
    simp [O.put, O.step, this]
  · rename_i os i
    have := (List.getElem?_eq_some_iff.mp e).1
    simp [O.put, O.step, this]
  · simp [O.put, O.step, getA_rep e]
  · simp [O.put, O.step, lookup_rep e]
theorem walk_put : ∀ {p : List Stp} {o n n' : O}, o.walk p = some n → ∀ p', p' <+: p → ∃ o', (o.putW p n').walk p' = some o'
  | p, o, n, n', e, [], _ => ⟨_, rfl⟩
  | [], o, n, n', e, s' :: p', h => by cases List.prefix_nil.mp h
  | s :: p, o, n, n', e, s' :: p', h => by
    obtain ⟨e3, e4⟩ := List.cons_prefix_cons.mp h
    subst e3
    unfold O.walk at e
    obtain ⟨o1, e1, e2⟩ := Option.bind_eq_some_iff.mp e
    obtain ⟨o', h'⟩ := walk_put (n' := n') e2 p' e4
    refine ⟨o', ?_⟩
    unfold O.putW O.walk
    rw [e1]
    show (((o.put s' (o1.putW p n')).step s').bind fun o' => o'.walk p') = some o'
    rw [step_put e1]
    exact h'
theorem walk_pre : ∀ {p' q : List Stp} {o n : O}, o.walk (p' ++ q) = some n → ∃ o', o.walk p' = some o'
  | [], _, _, _, _ => ⟨_, rfl⟩
  | s :: p', q, o, n, h => by
    rw [List.cons_append] at h
    unfold O.walk at h ⊢
    obtain ⟨o1, e1, e2⟩ := Option.bind_eq_some_iff.mp h
    rw [e1]
    exact walk_pre e2
instance : DecidableEq Stp := fun a b => match a, b with
  | .ix i, .ix j => if h : i = j then isTrue (by rw [h]) else isFalse fun z => h (Stp.ix.inj z)
  | .key i, .key j => if h : i = j then isTrue (by rw [h]) else isFalse fun z => h (Stp.key.inj z)
  | .fld i, .fld j => if h : i = j then isTrue (by rw [h]) else isFalse fun z => h (Stp.fld.inj z)
  | .ix _, .key _ => isFalse fun z => by cases z
  | .ix _, .fld _ => isFalse fun z => by cases z
  | .key _, .ix _ => isFalse fun z => by cases z
  | .key _, .fld _ => isFalse fun z => by cases z
  | .fld _, .ix _ => isFalse fun z => by cases z
  | .fld _, .key _ => isFalse fun z => by cases z
def rootO (env : Env) (r : Nat) : Option O := match env[r]? with
  | some (.own o) => some o
  | some (.io o) => some o
  | _ => none
/-- other names for what is not on the way to p are known no more -/
def killP (r : Nat) (p : List Stp) (env : Env) : Env := env.map fun s => match s with
  | .als r' p' => if r' = r ∧ ¬ p' <+: p then .dead else .als r' p'
  | s => s
def mutS (env : Env) (r : Nat) (p : List Stp) (n' : O) : Env := match env[r]? with
  | some (.own o) => (killP r p env).set r (.own (o.putW p n'))
  | some (.io o) => (killP r p env).set r (.io (o.putW p n'))
  | _ => env
def kA (r : Nat) : SV → SV
  | .als r' p' => if r' = r then .dead else .als r' p'
  | s => s
theorem killP_get {r : Nat} {p : List Stp} {env : Env} (j : Nat) : (killP r p env)[j]? = (env[j]?).map fun s => match s with
    | .als r' p' => if r' = r ∧ ¬ p' <+: p then .dead else .als r' p'
    | s => s := by unfold killP; rw [List.getElem?_map]
theorem killP_len {r : Nat} {p : List Stp} {env : Env} : (killP r p env).length = env.length := by unfold killP; rw [List.length_map]
section
variable {K : PySem.W.Frag} {T : Tab} {F H F' H' F1 H1 : Hp} {σ : L2.St} {env : Env} {ω : Own} {v w v' : V} {o n : O} {A : List Addr} {r : Nat} {p : List Stp}
/-- the same, other names on the way to p kept -/
theorem Go.slotP {F0 H0 : Hp} {sv : SV} {o1 : O} (s : Sta K T F0 H0 σ env ω) (c : Rc T F0 H0 ω r F H) (hr : σ[r]? = some (some w)) (hlen : r < env.length) (hv : SvOk K F H w A sv) (hA : ∀ a ∈ A, ω a = some r ∨ H0 a = none)
    (hio : ∀ o, env[r]? = some (SV.io o) → ∃ o', sv = .io o') (hsv : sv = .own o1 ∨ sv = .io o1)
    (keep : ∀ p', p' <+: p → vWalk H w p' = vWalk H0 w p' ∧ ∃ o', o1.walk p' = some o') :
    Go K T F0 H0 σ env ω F H σ ((killP r p env).set r sv) (ωset ω r A) := by
  have g := Go.slot s c hlen hv hA fun o e => ⟨hr, hio o e⟩
  rw [set_same hr] at g
  have hr2 : Ro K F H w o1 A := by rcases hsv with q | q <;> subst q <;> exact hv.1
  have hrA : ∀ a ∈ A, ωset ω r A a = some r := fun a ha => if_pos ha
  refine ⟨⟨g.sta.gl, by rw [List.length_set, killP_len]; exact s.len, fun j t e => ?_, g.sta.og⟩, g.ex, fun j o e => ?_⟩
  · by_cases hj : j = r
    · refine g.sta.slot j t ?_
      subst hj
      rw [List.getElem?_set_self (by rw [killP_len]; exact hlen)] at e
      rw [List.getElem?_set_self (by rw [killA_len]; exact hlen)]
      exact e
    · rw [List.getElem?_set_ne (Ne.symm hj), killP_get] at e
      obtain ⟨t0, e0, e1⟩ := Option.map_eq_some_iff.mp e
      have old : ∀ t, kA r t0 = t → SlotOk K F H σ (ωset ω r A) j t := fun t q => by
        refine g.sta.slot j t ?_
        rw [List.getElem?_set_ne (Ne.symm hj), killA_get, e0, Option.map_some, ← q]
        cases t0 <;> rfl
      cases t0 with
      | als r' p' =>
        have e1 : (if r' = r ∧ ¬ p' <+: p then SV.dead else .als r' p') = t := e1
        by_cases z : r' = r
        · subst z
          by_cases z2 : p' <+: p
          · rw [if_neg fun q => q.2 z2] at e1
            subst e1
            obtain ⟨v, u, o, B, h1, h2, h3, h4, h5, o', h6⟩ := s.slot j _ e0
            rw [hr] at h2; cases h2
            obtain ⟨k1, o2, k2⟩ := keep p' z2
            exact ⟨v, w, o1, A, h1, hr, k1.trans h3, hr2, hrA, o2, k2⟩
          · rw [if_pos ⟨rfl, z2⟩] at e1
            subst e1
            trivial
        · rw [if_neg fun q => z q.1] at e1
          exact old t (by rw [← e1]; exact (show (if r' = r then SV.dead else .als r' p') = _ from if_neg z))
      | _ => exact old t e1
  · by_cases hj : j = r
    · subst hj
      obtain ⟨o', h2⟩ := hio o e
      exact ⟨rfl, o', by rw [List.getElem?_set_self (by rw [killP_len]; exact hlen), h2]⟩
    · exact ⟨rfl, o, by rw [List.getElem?_set_ne (Ne.symm hj), killP_get, e]; rfl⟩
theorem tabs_upd (t : LamX.Tabs T H) {a : Addr} {u u' : HO} (e : H a = some u) (hu : ownable u = true) : LamX.Tabs T (upd H a u') := fun p hp => by
  obtain ⟨ps, h1, h2, h3⟩ := t p hp
  refine ⟨ps, ?_, h2, fun pos cv q => ?_⟩
  · rw [upd_ne]
    · exact h1
    · intro z; rw [z, e] at h1; cases h1; cases hu
  · obtain ⟨c, h4, h5⟩ := h3 pos cv q
    refine ⟨c, h4, ?_⟩
    rw [upd_ne]
    · exact h5
    · intro z; rw [z, e] at h5; cases h5; cases hu
/-- THE CHANGE of a part, in its place -/
theorem Go.node (sa : Sta K T F H σ env ω) (p1 : PX T F H F1 H1) (hr : σ[r]? = some (some w)) (hq : rootO env r = some o) (hw : o.walk p = some n) :
    ∃ v' B, vWalk H1 w p = some v' ∧ Ro K F1 H1 v' n B ∧ B.Nodup ∧ (∀ b ∈ B, H b ≠ none) ∧ ∀ (a : Addr) (u : HO) (n' : O) (B' : List Addr), a ∈ B → (∀ xs, u ≠ .tup xs) → Ro K F1 (upd H1 a u) v' n' B' → B'.Nodup → (∀ b ∈ B', b ∈ B ∨ H b = none) →
      ∃ ω', Go K T F H σ env ω F1 (upd H1 a u) σ (mutS env r p n') ω' := by
  have hslot : ∃ A, Ro K F H w o A ∧ A.Nodup ∧ (∀ a ∈ A, ω a = some r) ∧ r < env.length := by
    unfold rootO at hq
    split at hq
    · rename_i o' q
      cases hq
      obtain ⟨v, A, h1, h2, h3, h4⟩ := sa.slot r _ q
      rw [hr] at h1; cases h1
      exact ⟨A, h2, h3, h4, own_len q⟩
    · rename_i o' q
      cases hq
      obtain ⟨v, A, h1, h2, h3, h4⟩ := sa.slot r _ q
      rw [hr] at h1; cases h1
      exact ⟨A, h2, h3, h4, own_len q⟩
    · cases hq
  obtain ⟨A, h2, h3, h4, hlen⟩ := hslot
  have r1 := h2.px p1
  obtain ⟨v', A1, B, A2, e1, e2, e3, e4, e5⟩ := focus p1.gl.sub r1 hw
  subst e2
  have nd := List.nodup_append.mp h3
  have nd2 := List.nodup_append.mp nd.1
  refine ⟨v', B, e1, e3, nd2.2.1, fun b hb => ?_, fun a u n' B' ha hu hr' hn' hB' => ⟨ωset ω r (A1 ++ B' ++ A2), ?_⟩⟩
  · obtain ⟨_, u, h, _⟩ := h2.mem b (by simp [hb])
    rw [h]; exact fun z => by cases z
  obtain ⟨fa, ua, ha1, ha2⟩ := e3.mem a ha
  have wa : ω a = some r := h4 a (by simp [ha])
  have na : ∀ b ∈ A1 ++ A2, b ≠ a := fun b hb z => by
    subst z
    rcases List.mem_append.mp hb with q | q
    · exact nd2.2.2 b q b ha rfl
    · exact nd.2.2 b (by simp [ha]) b q rfl
  have mem1 : ∀ b ∈ A1 ++ A2, F1 b = none := fun b hb => (r1.mem b (by
    rcases List.mem_append.mp hb with q | q
    · simp [q]
    · simp [q])).1
  have whole := e4 F1 (upd H1 a u) n' B' (fun _ _ e => e) (fun b hb => ⟨mem1 b hb, upd_ne (na b hb)⟩) hr'
  have old : ∀ b ∈ A1 ++ A2, H b ≠ none := fun b hb => by
    obtain ⟨_, u, h, _⟩ := h2.mem b (by
      rcases List.mem_append.mp hb with q | q
      · simp [q]
      · simp [q])
    rw [h]; exact fun z => by cases z
  have nB' : ∀ b ∈ B', b ∉ A1 ∧ b ∉ A2 := fun b hb => by
    rcases hB' b hb with q | q
    · exact ⟨fun z => nd2.2.2 b z b q rfl, fun z => nd.2.2 b (by simp [q]) b z rfl⟩
    · exact ⟨fun z => old b (by simp [z]) q, fun z => old b (by simp [z]) q⟩
  have nodup : (A1 ++ B' ++ A2).Nodup := by
    refine nodup_app (nodup_app nd2.1 hn' fun b hb z => (nB' b z).1 hb) nd.2.1 fun b hb z => ?_
    rcases List.mem_append.mp hb with q | q
    · exact nd.2.2 b (by simp [q]) b z rfl
    · exact (nB' b q).2 z
  have hA' : ∀ b ∈ A1 ++ B' ++ A2, ω b = some r ∨ H b = none := fun b hb => by
    rcases List.mem_append.mp hb with q | q
    · rcases List.mem_append.mp q with q | q
      · exact .inl (h4 b (by simp [q]))
      · rcases hB' b q with q | q
        · exact .inl (h4 b (by simp [q]))
        · exact .inr q
    · exact .inl (h4 b (by simp [q]))
  have rc : Rc T F H ω r F1 (upd H1 a u) := by
    have c := Rc.px (i := r) sa p1
    have hna : ∀ b, ω b ≠ some r → b ≠ a := fun b h z => h (by rw [z]; exact wa)
    refine ⟨c.f, fun b x e1 e2 e3 => by rw [upd_ne (hna b (by rw [e2]; exact fun z => by cases z))]; exact c.h b x e1 e2 e3, c.new, fun b h => ?_, fun b ps e => ?_, ⟨fun b x e q => ?_, c.gl.notbl, fun b vs e => ?_, tabs_upd c.gl.tab ha1 ha2⟩, fun b j e hj => ?_⟩
    · by_cases z : b = a
      · rw [z, upd_same]; exact fun z => by cases z
      · rw [upd_ne z]; exact c.trk b h
    · obtain ⟨ps', h⟩ := c.tb b ps e
      refine ⟨ps', ?_⟩
      rw [upd_ne]
      · exact h
      · intro z; rw [z, ha1] at h; cases h; cases ha2
    · rw [upd_ne fun z => by rw [z, fa] at e; cases e]
      exact c.gl.sub b x e q
    · by_cases z : b = a
      · rw [z, upd_same] at e; cases e; exact absurd rfl (hu vs)
      · rw [upd_ne z] at e; exact c.gl.tup b vs e
    · obtain ⟨h5, h6⟩ := c.oth b j e hj
      exact ⟨h5, by rw [upd_ne (hna b (by rw [e]; exact fun z => hj (Option.some.inj z)))]; exact h6⟩
  have keep : ∀ p', p' <+: p → vWalk (upd H1 a u) w p' = vWalk H w p' ∧ ∃ o', (o.putW p n').walk p' = some o' := fun p' hp => by
    refine ⟨?_, walk_put hw p' hp⟩
    rw [e5 (upd H1 a u) rc.gl.sub (fun b hb => upd_ne (na b hb)) p' hp]
    obtain ⟨q, hq⟩ := hp
    have := walk_pre (hq ▸ hw)
    obtain ⟨o', ho'⟩ := this
    exact vWalk_keep sa.gl.sub ((SubN.of p1.f).trans p1.gl.sub) h2 ho' fun b hb => by
      obtain ⟨_, x, h5, h6⟩ := h2.mem b hb
      rw [h5, p1.h b x h5 (own_ntbl h6)]
  unfold mutS
  unfold rootO at hq
  split at hq
  · rename_i o' q
    cases hq
    exact Go.slotP sa rc hr hlen (sv := .own _) ⟨whole, nodup⟩ hA' (fun o e => by rw [q] at e; cases e) (.inl rfl) keep
  · rename_i o' q
    cases hq
    exact Go.slotP sa rc hr hlen (sv := .io _) ⟨whole, nodup⟩ hA' (fun o e => ⟨_, rfl⟩) (.inr rfl) keep
  · cases hq
end
end VL
namespace VL
open PySem PySem.Spec PyProof.Rows L2
abbrev Qm := Env → Option (Nat × List Stp)
def okQ (env : Env) (q : Nat × List Stp) : Option O := (rootO env q.1).bind fun o => o.walk q.2
def tQ (K : PySem.W.Frag) (T : Tab) (q : Qm) : TE := fun σ H Q => ∃ F env ω, Sta K T F H σ env ω ∧ ∃ r p n, q env = some (r, p) ∧ okQ env (r, p) = some n ∧
  ∀ v w F' H' B, PX T F H F' H' → σ[r]? = some (some w) → vWalk H' w p = some v → Ro K F' H' v n B → Q v H'
/-- e is a path into what is one's own -/
def QE (X : Cx) (T : Tab) (e : Expr) (q : Qm) : Prop := PE X e (tQ X.K T q)
def qVar (i : Nat) : Qm := fun env => match env[i]? with
  | some (.own _) => some (i, [])
  | some (.io _) => some (i, [])
  | some (.als r p) => some (r, p)
  | _ => none
def stpOf : O → D → Option Stp
  | .lst os, .int i => (ixN os.length i).map .ix
  | .tup os, .int i => (ixN os.length i).map .ix
  | .dct _, d => d.key.map .key
  | _, _ => none
def qIx (q : Qm) (m : Em) : Qm := fun env => (q env).bind fun rp => (okQ env rp).bind fun n => (m env).bind fun o => (stpOf n o.toD).bind fun s => if (n.step s).isSome = true then some (rp.1, rp.2 ++ [s]) else none
section
variable {K : PySem.W.Frag} {T : Tab} {F H F1 H1 : Hp} {σ : L2.St} {env : Env} {ω : Own} {v w : V} {o n : O} {r : Nat} {p : List Stp}
theorem sta_root (sa : Sta K T F H σ env ω) (h : okQ env (r, p) = some n) : ∃ w A o, σ[r]? = some (some w) ∧ rootO env r = some o ∧ Ro K F H w o A ∧ o.walk p = some n := by
  obtain ⟨o, h1, h2⟩ := Option.bind_eq_some_iff.mp h
  have h0 := h1
  unfold rootO at h1
  simp only at h1
  split at h1
  · rename_i o' q
    cases h1
    obtain ⟨w, A, e1, e2, _, _⟩ := sa.slot r _ q
    exact ⟨w, A, _, e1, h0, e2, h2⟩
  · rename_i o' q
    cases h1
    obtain ⟨w, A, e1, e2, _, _⟩ := sa.slot r _ q
    exact ⟨w, A, _, e1, h0, e2, h2⟩
  · cases h1
theorem vWalk_snoc {s : Stp} : ∀ {p : List Stp} {w v u : V}, vWalk H w p = some v → vStep H v s = some u → vWalk H w (p ++ [s]) = some u
  | [], w, v, u, e1, e2 => by
    have e1 : w = v := by simpa [vWalk] using e1
    subst e1
    show (vStep H w s).bind _ = _
    rw [e2]; rfl
  | t :: p, w, v, u, e1, e2 => by
    rw [List.cons_append]
    unfold vWalk at e1 ⊢
    obtain ⟨x, h1, h2⟩ := Option.bind_eq_some_iff.mp e1
    rw [h1]
    exact vWalk_snoc h2 e2
theorem walk_snoc {s : Stp} : ∀ {p : List Stp} {o n n' : O}, o.walk p = some n → n.step s = some n' → o.walk (p ++ [s]) = some n'
  | [], o, n, n', e1, e2 => by
    have e1 : o = n := by simpa [O.walk] using e1
    subst e1
    show (o.step s).bind _ = _
    rw [e2]; rfl
  | t :: p, o, n, n', e1, e2 => by
    rw [List.cons_append]
    unfold O.walk at e1 ⊢
    obtain ⟨x, h1, h2⟩ := Option.bind_eq_some_iff.mp e1
    rw [h1]
    exact walk_snoc h2 e2
theorem okQ_snoc {s : Stp} {n' : O} (h : okQ env (r, p) = some n) (e : n.step s = some n') : okQ env (r, p ++ [s]) = some n' := by
  obtain ⟨o, h1, h2⟩ := Option.bind_eq_some_iff.mp h
  unfold okQ
  rw [h1]
  exact walk_snoc h2 e
end
section
variable {X : Cx} {T : Tab} {a b c o : Expr} {m mi : Em} {pos p2 : Pos} {q : Qm} {f : Str}
theorem q_var (i : Nat) {x : Str} (hN : X.N[i]? = some x := by rfl) (hv : Vis X.env.scope x := by first | exact Or.inl rfl | exact Or.inr (Or.inl rfl) | exact Or.inr (Or.inr rfl)) (hd : (x == ("__debug__" : Str)) = false := by decide)
    (hcd : (x == ("__classdict__" : Str)) = false := by decide) : QE X T (.Name x pos) (qVar i) := by
  refine peI (pe_var hN hv hd hcd) fun σ H Q h => ?_
  obtain ⟨F, env, ω, s, r, p, n, e1, e2, k⟩ := h
  obtain ⟨w, A, o, h1, h2, h3, h4⟩ := sta_root s e2
  obtain ⟨v, B, h5, h6⟩ := walk_ro s.gl.sub h3 h4
  unfold qVar at e1
  split at e1
  · cases e1
    cases h5
    exact ⟨_, h1, k _ _ F H _ (.refl s.gl) h1 rfl h6⟩
  · cases e1
    cases h5
    exact ⟨_, h1, k _ _ F H _ (.refl s.gl) h1 rfl h6⟩
  · rename_i r' p' z
    cases e1
    obtain ⟨v', w', _, _, g1, g2, g3, _⟩ := s.slot i _ z
    rw [h1] at g2; cases g2
    rw [g3] at h5; cases h5
    exact ⟨v, g1, k _ _ F H _ (.refl s.gl) h1 g3 h6⟩
  · cases e1
theorem q_ix (hu : X.A.units + 64 < cLine) (ha : QE X T a q) (hi : BE X T b mi) (hs : PlainIx b := by exact fun _ _ => rfl) : QE X T (.Subscript a b pos) (qIx q mi) := by
  refine peI (peOr (pe_ix ix_seq ha hi hs) (pe_dget (by omega) ha hi hs)) fun σ H Q h => ?_
  obtain ⟨F, env, ω, s, r, p, n, e1, e2, k⟩ := h
  obtain ⟨⟨r', p'⟩, e3, e1⟩ := Option.bind_eq_some_iff.mp e1
  obtain ⟨n0, e4, e1⟩ := Option.bind_eq_some_iff.mp e1
  obtain ⟨o, e5, e1⟩ := Option.bind_eq_some_iff.mp e1
  obtain ⟨st, e6, e1⟩ := Option.bind_eq_some_iff.mp e1
  split at e1
  · rename_i z
    cases e1
    obtain ⟨n', e7⟩ := Option.isSome_iff_exists.mp z
    have : n' = n := by
      have := okQ_snoc e4 e7
      rw [e2] at this; cases this; rfl
    subst this
    have common : ∀ (v w : V) (F1 H1 : Hp) (B : List Addr), PX T F H F1 H1 → σ[r']? = some (some w) → vWalk H1 w p' = some v → Ro X.K F1 H1 v n0 B → ∀ u F2 H2, PX T F1 H1 F2 H2 → VwO X.K F2 H2 u o → ∃ v2 B2, vStep H2 v st = some v2 ∧ Ro X.K F2 H2 v n0 B ∧ Ro X.K F2 H2 v2 n' B2 ∧ Q v2 H2 := fun v w F1 H1 B p1 h1 h2 h3 u F2 H2 p2 h4 => by
      have h3' := h3.px p2
      obtain ⟨v2, B2, g1, g2⟩ := step_ro h3' p2.gl.sub e7
      exact ⟨v2, B2, g1, h3', g2, k v2 w F2 H2 B2 (p1.trans p2) h1 (vWalk_snoc (vWalk_ext p2.h h2) g1) g2⟩
    generalize hy : o.toD = d at e6
    unfold stpOf at e6
    split at e6
    · obtain ⟨j, e8, e9⟩ := Option.map_eq_some_iff.mp e6
      subst e9
      refine .inl ⟨F, env, ω, s, r', p', _, e3, e4, fun v w F1 H1 B p1 h1 h2 h3 => ⟨F1, env, ω, s.px p1, o, e5, fun u F2 H2 p2 h4 => ?_⟩⟩
      obtain ⟨v2, B2, g1, g2, g3, g4⟩ := common v w F1 H1 B p1 h1 h2 h3 u F2 H2 p2 h4
      have hy2 := h4.vw p2.gl
      rw [hy] at hy2
      cases hy2
      cases g2 with
      | lst f h l =>
        refine .inl ⟨_, _, _, v2, rfl, rfl, .of h, ?_, g4⟩
        have hv := g1
        simp only [vStep, h] at hv
        show (ixN _ _).bind _ = _
        rw [l.length, e8]
        exact hv
    · obtain ⟨j, e8, e9⟩ := Option.map_eq_some_iff.mp e6
      subst e9
      refine .inl ⟨F, env, ω, s, r', p', _, e3, e4, fun v w F1 H1 B p1 h1 h2 h3 => ⟨F1, env, ω, s.px p1, o, e5, fun u F2 H2 p2 h4 => ?_⟩⟩
      obtain ⟨v2, B2, g1, g2, g3, g4⟩ := common v w F1 H1 B p1 h1 h2 h3 u F2 H2 p2 h4
      have hy2 := h4.vw p2.gl
      rw [hy] at hy2
      cases hy2
      cases g2 with
      | tup h l =>
        have h' := p2.gl.sub.at h (fun _ z => by cases z) rfl
        refine .inr (.inl ⟨_, _, _, v2, rfl, rfl, .of h', ?_, g4⟩)
        have hv := g1
        simp only [vStep, h'] at hv
        show (ixN _ _).bind _ = _
        rw [l.length, e8]
        exact hv
    · obtain ⟨kk, e8, e9⟩ := Option.map_eq_some_iff.mp e6
      subst e9
      refine .inr ⟨F, env, ω, s, r', p', _, e3, e4, fun v w F1 H1 B p1 h1 h2 h3 => ⟨F1, env, ω, s.px p1, o, e5, fun u F2 H2 p2 h4 => ?_⟩⟩
      obtain ⟨v2, B2, g1, g2, g3, g4⟩ := common v w F1 H1 B p1 h1 h2 h3 u F2 H2 p2 h4
      cases g2 with
      | dct f h ek l =>
        have hy2 := h4.vw p2.gl
        rw [hy] at hy2
        refine ⟨_, v2, rfl, .inl ⟨_, kk, .inl h, hy2.key e8, ?_⟩, g4⟩
        have hv := g1
        simp only [vStep, h] at hv
        exact hv.symm
    · cases e6
  · cases e1
end
end VL
namespace VL
open PySem PySem.Spec PyProof.Rows L2
/-- a method changes the part n into f n os; os: what comes in, one's own -/
def Act (K : PySem.W.Frag) (T : Tab) (r : V → List V → Hp → VK → Prop) (f : O → List O → Option O) : Prop := ∀ (F H : Hp) (v : V) (n n' : O) (B : List Addr) (xs : List V) (os : List O) (A : List Addr) (Q : VK), Gl T F H → Ro K F H v n B → B.Nodup → RoL K F H xs os A → A.Nodup → (∀ a ∈ A, a ∉ B) → f n os = some n' →
  (∀ (a : Addr) (u : HO) (B' : List Addr), a ∈ B → (∀ ys, u ≠ .tup ys) → Ro K F (upd H a u) v n' B' → B'.Nodup → (∀ b ∈ B', b ∈ B ∨ b ∈ A) → Q .non (upd H a u)) → r v xs H Q
def isLst : O → Bool
  | .lst _ => true
  | _ => false
theorem ty_lst {K : PySem.W.Frag} {F H : Hp} {v : V} {n : O} {B : List Addr} (r : Ro K F H v n B) (hl : isLst n = true) : tyV K "list" v H := by
  cases r with
  | lst f h l => exact .inl ⟨rfl, _, .of h⟩
  | _ => cases hl
def sAct (f : O → List O → Option O) (q : Qm) (m : Es) : Sm := fun env => (q env).bind fun rp => (okQ env rp).bind fun n => if isLst n = true then (m env).bind fun os => (f n os).map fun n' => .nx (mutS env rp.1 rp.2 n') else none
section
variable {X : Cx} {T : Tab} {o e : Expr} {es : List Expr} {m : Es} {q : Qm} {r : V → List V → Hp → VK → Prop} {f : O → List O → Option O} {name : Str} {id : String} {apos cpos pos : Pos}
theorem root_of {env : Env} {r : Nat} {p : List Stp} {n : O} (h : okQ env (r, p) = some n) : ∃ o, rootO env r = some o ∧ o.walk p = some n := by
  obtain ⟨o, h1, h2⟩ := Option.bind_eq_some_iff.mp h
  exact ⟨o, h1, h2⟩
theorem ss_pm (hq : QE X T o q) (ha : FA X T (e :: es) m) (act : Act X.K T r f) (slot : Slot "list" name id) (hty : typeOf (.builtin id) = pure (.type "method_descriptor")) (hm : MtR X id r)
    (hbase : attributeBase o name X.env (eval o X.env) = eval o X.env := by rfl)
    (hfew : ((backTo cpos (starEach (e :: es) X.env)).all (fun x => !x.1) && (backToKw cpos (keywordEach [] X.env)).all (fun x => x.1.isSome)
      && decide ((e :: es).length + ([] : List Keyword).length + (if ([] : List Keyword).isEmpty then 0 else 1) < 30)) = true := by rfl)
    (hline : (apos.endLine == cpos.line) = true := by rfl) (hs : starEach (e :: es) X.env = (false, eval e X.env) :: starEach es X.env := by rfl) (hplain : (backTo cpos (starEach es X.env)).any (·.1) = false := by rfl)
    (hsw : swapsWith (.Call (.Attribute o name apos) (e :: es) [] cpos) none pos.line X.env = pure false := by rfl) :
    SS X T (.Expr (.Call (.Attribute o name apos) (e :: es) [] cpos) pos) (sAct f q m) :=
  psI (ps_expr (pe_bm PySem.F.plainAttrs_list slot hty hm hq ha hbase hfew hline hs hplain) hsw) fun D σ H z => by
    obtain ⟨F, env, ω, sa, out, e1, k⟩ := z
    obtain ⟨⟨r', p'⟩, e2, e1⟩ := Option.bind_eq_some_iff.mp e1
    obtain ⟨n, e3, e1⟩ := Option.bind_eq_some_iff.mp e1
    split at e1
    · rename_i hl
      obtain ⟨os, e4, e1⟩ := Option.bind_eq_some_iff.mp e1
      obtain ⟨n', e5, e6⟩ := Option.map_eq_some_iff.mp e1
      subst e6
      refine ⟨F, env, ω, sa, r', p', n, e2, e3, fun v w F1 H1 B p1 h1 h2 h3 => ⟨ty_lst h3 hl, F1, env, ω, sa.px p1, os, e4, fun vs F2 H2 A p2 h4 n4 f4 => ?_⟩⟩
      obtain ⟨o', g1, g2⟩ := root_of e3
      obtain ⟨v', B', g3, g4, g5, g6, g7⟩ := Go.node sa (p1.trans p2) h1 g1 g2
      have : v' = v := by
        have := vWalk_ext p2.h h2
        rw [g3] at this; exact Option.some.inj this
      subst this
      refine act F2 H2 v' n n' B' vs os A _ p2.gl g4 g5 h4 n4 (fun a ha hb => g6 a hb (p1.free (f4 a ha))) e5 fun a u B2 ha hu hr hn hB => ?_
      obtain ⟨ω', g⟩ := g7 a u n' B2 ha hu hr hn fun b hb => (hB b hb).imp_right fun z => p1.free (f4 b z)
      exact k _ _ _ _ g
    · cases e1
end
section
variable {K : PySem.W.Frag} {T : Tab} {F H : Hp}
theorem RoL.upd {a : Addr} {u : HO} {vs : List V} {os : List O} {A : List Addr} (l : RoL K F H vs os A) (h : a ∉ A) : RoL K F (upd H a u) vs os A :=
  l.keep (fun _ _ e => e) fun b hb => ⟨(l.mem b hb).1, upd_ne fun z => h (by rw [← z]; exact hb)⟩
def aAppend : O → List O → Option O
  | .lst os, [o] => if os.length < 16777216 then some (.lst (os ++ [o])) else none
  | _, _ => none
theorem act_append : Act K T rAppend aAppend := by
  intro F H v n n' B xs os A Q gl r nB l nA dis e k
  unfold aAppend at e
  split at e
  · rename_i os o
    split at e
    · rename_i hlen
      cases e
      cases r with
      | @lst a vs _ A0 f h l0 =>
        cases l with
        | cons hr hnil =>
          cases hnil
          rename_i x A1
          obtain ⟨nb1, nb2⟩ := List.nodup_cons.mp nB
          have l1 := RoL.one hr
          have nA' : A1.Nodup := by simpa using nA
          have ne : a ∉ A1 := fun z => dis a (by simpa using z) (by simp)
          refine ⟨a, vs, x, rfl, rfl, h, by rw [sizeLine_eq, l0.length]; exact hlen, k a _ (a :: (A0 ++ A1)) (by simp) (fun _ z => by cases z) (.lst f upd_same ((l0.upd nb1).append (l1.upd ne))) ?_ fun b hb => ?_⟩
          · refine List.nodup_cons.mpr ⟨fun z => ?_, nodup_app nb2 nA' fun b h1 h2 => dis b (by simpa using h2) (by simp [h1])⟩
            rcases List.mem_append.mp z with z | z
            · exact nb1 z
            · exact ne z
          · rcases List.mem_cons.mp hb with z | z
            · exact .inl (by simp [z])
            · rcases List.mem_append.mp z with z | z
              · exact .inl (by simp [z])
              · exact .inr (by simpa using z)
    · cases e
  · cases e
end
end VL
namespace VL
open PySem PySem.Spec PyProof.Rows L2
def sAls (i : Nat) (q : Qm) : Sm := fun env => (q env).bind fun rp => (okQ env rp).bind fun _ => if isIo env[i]? = true ∨ rp.1 = i ∨ ¬ i < env.length then none else some (.nx ((killA i env).set i (.als rp.1 rp.2)))
section
variable {K : PySem.W.Frag} {T : Tab} {F H F1 H1 : Hp} {σ : L2.St} {env : Env} {ω : Own} {v w : V} {o n : O} {i r : Nat} {p : List Stp}
theorem Go.als (sa : Sta K T F H σ env ω) (px : PX T F H F1 H1) (hi : i < env.length) (hio : isIo env[i]? = false) (hri : r ≠ i) (hr : σ[r]? = some (some w)) (hv : vWalk H1 w p = some v) (ok : okQ env (r, p) = some n) :
    Go K T F H σ env ω F1 H1 (σ.set i (some v)) ((killA i env).set i (.als r p)) (ωset ω i []) := by
  have g := Go.slot (v := v) (A := []) (sv := .dead) sa (.px sa px) hi rfl (fun _ z => by cases z) fun o e => absurd e (not_io hio o)
  refine ⟨⟨g.sta.gl, by rw [List.length_set, List.length_set, killA_len]; exact sa.len, fun j t e => ?_, g.sta.og⟩, g.ex, fun j o e => ?_⟩
  · by_cases hj : j = i
    · subst hj
      rw [List.getElem?_set_self (by rw [killA_len]; exact hi)] at e
      cases e
      obtain ⟨o', h1, h2⟩ := root_of ok
      have hr' : (σ.set j (some v))[r]? = some (some w) := by rw [List.getElem?_set_ne (Ne.symm hri)]; exact hr
      have he : ∀ t, env[r]? = some t → (∀ r' p', t ≠ .als r' p') → ((killA j env).set j SV.dead)[r]? = some t := fun t e1 nz => by
        rw [List.getElem?_set_ne (Ne.symm hri), killA_get, e1, Option.map_some]
        cases t with
        | als r' p' => exact absurd rfl (nz r' p')
        | _ => rfl
      unfold rootO at h1
      split at h1
      · rename_i o2 q
        cases h1
        obtain ⟨w', A, e1, e2, e3, e4⟩ := g.sta.slot r _ (he _ q fun _ _ z => by cases z)
        rw [hr'] at e1; cases e1
        exact ⟨v, w, _, A, List.getElem?_set_self (by rw [sa.len]; exact hi), hr', hv, e2, e4, n, h2⟩
      · rename_i o2 q
        cases h1
        obtain ⟨w', A, e1, e2, e3, e4⟩ := g.sta.slot r _ (he _ q fun _ _ z => by cases z)
        rw [hr'] at e1; cases e1
        exact ⟨v, w, _, A, List.getElem?_set_self (by rw [sa.len]; exact hi), hr', hv, e2, e4, n, h2⟩
      · cases h1
    · refine g.sta.slot j t ?_
      rw [List.getElem?_set_ne (Ne.symm hj)] at e ⊢
      exact e
  · obtain ⟨h1, o', h2⟩ := g.io j o e
    have hj : j ≠ i := fun z => not_io hio o (by rw [← z]; exact e)
    refine ⟨h1, o', ?_⟩
    rw [List.getElem?_set_ne (Ne.symm hj)] at h2 ⊢
    exact h2
end
section
variable {X : Cx} {T : Tab} {e o : Expr} {m mi : Em} {q : Qm} {pos : Pos}
theorem ss_als {i : Nat} {x : Str} {pos' : Pos} (hN : X.N.Nodup) (hi : X.N[i]? = some x) (hx : Loc X.env.scope x) (he : QE X T e q) (hs : swapsWith e (some (.Name x pos')) pos.line X.env = pure false := by rfl) (hf : X.fn x = true ∨ X.env.scope.names.lookup x = some .local := by first | exact .inl rfl | exact .inr rfl | assumption) :
    SS X T (.Assign [.Name x pos'] e pos) (sAls i q) := psI (ps_set hN hi hx he hs hf) fun D σ H z => by
  obtain ⟨F, env, ω, sa, out, e1, k⟩ := z
  obtain ⟨⟨r, p⟩, e2, e1⟩ := Option.bind_eq_some_iff.mp e1
  obtain ⟨n, e3, e1⟩ := Option.bind_eq_some_iff.mp e1
  split at e1
  · cases e1
  · rename_i c
    cases e1
    have c1 : isIo env[i]? = false := by
      cases z : isIo env[i]? with
      | true => exact absurd (.inl z) c
      | false => rfl
    have c2 : r ≠ i := fun z => c (.inr (.inl z))
    have c3 : i < env.length := Classical.byContradiction fun z => c (.inr (.inr z))
    exact ⟨F, env, ω, sa, r, p, n, e2, e3, fun v w F1 H1 B p1 h1 h2 h3 => k _ _ _ _ (Go.als sa p1 c3 c1 c2 h1 h2 e3)⟩
end
section
variable {K : PySem.W.Frag} {F H : Hp} {κ : Type} [DecidableEq κ]
end
section
variable {X : Cx} {T : Tab} {a b e : Expr} {m mi : Em} {q : Qm} {pos p2 : Pos}
end
end VL
namespace VL
open PySem PySem.Spec PyProof.Rows L2
def D.ints : List D → Option (List Int)
  | [] => some []
  | .int i :: r => (D.ints r).map fun is => i :: is
  | _ => none
def D.bls : List D → Option (List Bool)
  | [] => some []
  | .bl b :: r => (D.bls r).map fun is => b :: is
  | _ => none
section
variable {K : PySem.W.Frag} {T : Tab} {F H : Hp}
theorem VwL.intsO : ∀ {vs : List V} {ds : List D} {is : List Int}, VwL K H vs ds → D.ints ds = some is → vs = is.map V.int
  | _, [], is, l, e => by
    cases l
    have : is = [] := by simpa [D.ints] using e.symm
    subst this; rfl
  | _, d :: ds, is, l, e => by
    cases l with
    | cons h t =>
      cases d <;> simp only [D.ints] at e
      case int i =>
        obtain ⟨r, e1, e2⟩ := Option.map_eq_some_iff.mp e
        subst e2
        cases h
        rw [VwL.intsO t e1]; rfl
      all_goals cases e
theorem VwL.blsO : ∀ {vs : List V} {ds : List D} {is : List Bool}, VwL K H vs ds → D.bls ds = some is → vs = is.map V.bl
  | _, [], is, l, e => by
    cases l
    have : is = [] := by simpa [D.bls] using e.symm
    subst this; rfl
  | _, d :: ds, is, l, e => by
    cases l with
    | cons h t =>
      cases d <;> simp only [D.bls] at e
      case bl i =>
        obtain ⟨r, e1, e2⟩ := Option.map_eq_some_iff.mp e
        subst e2
        cases h
        rw [VwL.blsO t e1]; rfl
      all_goals cases e
/-- the items of a list, by ds -/
def oNums (o : O) : Option (List Int) := match o.toD with
  | .lst ds => D.ints ds
  | .scr ns => some ns
  | _ => none
theorem VwO.nums {v : V} {o : O} {ns : List Int} (h : VwO K F H v o) (g : Gl T F H) (e : oNums o = some ns) : ∃ a, v = .ref a ∧ SqL K H a (ns.map V.int) := by
  have hv := h.vw g
  generalize hd : o.toD = d at hv
  unfold oNums at e
  rw [hd] at e
  cases hv with
  | lst h l =>
    have := VwL.intsO l e
    subst this
    exact ⟨_, rfl, .of h⟩
  | scr h => cases e; exact ⟨_, rfl, h⟩
  | _ => cases e
def oBls (o : O) : Option (List Bool) := match o.toD with
  | .lst ds => D.bls ds
  | _ => none
theorem VwO.bls {v : V} {o : O} {ns : List Bool} (h : VwO K F H v o) (g : Gl T F H) (e : oBls o = some ns) : ∃ a, v = .ref a ∧ SqL K H a (ns.map V.bl) := by
  have hv := h.vw g
  generalize hd : o.toD = d at hv
  unfold oBls at e
  rw [hd] at e
  cases hv with
  | lst h l =>
    have := VwL.blsO l e
    subst this
    exact ⟨_, rfl, .of h⟩
  | _ => cases e
def mxL : Int → List Int → Int
  | m, [] => m
  | m, x :: r => mxL (if x > m then x else m) r
def mnL : Int → List Int → Int
  | m, [] => m
  | m, x :: r => mnL (if x < m then x else m) r
theorem mxL_mem : ∀ (r : List Int) (m : Int), mxL m r = m ∨ mxL m r ∈ r
  | [], m => .inl rfl
  | x :: r, m => by
    unfold mxL
    rcases mxL_mem r (if x > m then x else m) with h | h
    · rw [h]
      split
      · exact .inr (by simp)
      · exact .inl rfl
    · exact .inr (by simp [h])
theorem mxL_le : ∀ (r : List Int) (m : Int), m ≤ mxL m r ∧ ∀ y ∈ r, y ≤ mxL m r
  | [], m => ⟨Int.le_refl _, fun y hy => by cases hy⟩
  | x :: r, m => by
    unfold mxL
    obtain ⟨h1, h2⟩ := mxL_le r (if x > m then x else m)
    have : m ≤ (if x > m then x else m) ∧ x ≤ (if x > m then x else m) := by split <;> omega
    refine ⟨Int.le_trans this.1 h1, fun y hy => ?_⟩
    rcases List.mem_cons.mp hy with e | e
    · rw [e]; exact Int.le_trans this.2 h1
    · exact h2 y e
theorem mnL_mem : ∀ (r : List Int) (m : Int), mnL m r = m ∨ mnL m r ∈ r
  | [], m => .inl rfl
  | x :: r, m => by
    unfold mnL
    rcases mnL_mem r (if x < m then x else m) with h | h
    · rw [h]
      split
      · exact .inr (by simp)
      · exact .inl rfl
    · exact .inr (by simp [h])
theorem mnL_le : ∀ (r : List Int) (m : Int), mnL m r ≤ m ∧ ∀ y ∈ r, mnL m r ≤ y
  | [], m => ⟨Int.le_refl _, fun y hy => by cases hy⟩
  | x :: r, m => by
    unfold mnL
    obtain ⟨h1, h2⟩ := mnL_le r (if x < m then x else m)
    have : (if x < m then x else m) ≤ m ∧ (if x < m then x else m) ≤ x := by split <;> omega
    refine ⟨Int.le_trans h1 this.1, fun y hy => ?_⟩
    rcases List.mem_cons.mp hy with e | e
    · rw [e]; exact Int.le_trans h1 this.2
    · exact h2 y e
def maxI : List Int → Option Int
  | [] => none
  | x :: r => some (mxL x r)
def minI : List Int → Option Int
  | [] => none
  | x :: r => some (mnL x r)
theorem maxI_spec {ns : List Int} {m : Int} (e : maxI ns = some m) : m ∈ ns ∧ ∀ y ∈ ns, y ≤ m := by
  cases ns with
  | nil => cases e
  | cons x r =>
    cases e
    refine ⟨?_, fun y hy => ?_⟩
    · rcases mxL_mem r x with h | h
      · rw [h]; simp
      · simp [h]
    · rcases List.mem_cons.mp hy with e | e
      · rw [e]; exact (mxL_le r x).1
      · exact (mxL_le r x).2 y e
theorem minI_spec {ns : List Int} {m : Int} (e : minI ns = some m) : m ∈ ns ∧ ∀ y ∈ ns, m ≤ y := by
  cases ns with
  | nil => cases e
  | cons x r =>
    cases e
    refine ⟨?_, fun y hy => ?_⟩
    · rcases mnL_mem r x with h | h
      · rw [h]; simp
      · simp [h]
    · rcases List.mem_cons.mp hy with e | e
      · rw [e]; exact (mnL_le r x).1
      · exact (mnL_le r x).2 y e
def oSum (o : O) : Option O := (oNums o).map fun ns => .frz (.int ns.sum)
def oMax (o : O) : Option O := (oNums o).bind fun ns => (maxI ns).map fun m => .frz (.int m)
def oMin (o : O) : Option O := (oNums o).bind fun ns => (minI ns).map fun m => .frz (.int m)
def oAll (o : O) : Option O := (oBls o).map fun bs => .frz (.bl (bs.all id))
theorem op_sum : OpN K T (rSum K) (n1 oSum) := .one fun F H x a o Q gl hx e k => by
  obtain ⟨ns, e1, e2⟩ := Option.map_eq_some_iff.mp e
  subst e2
  obtain ⟨p, rfl, h⟩ := hx.nums gl e1
  exact ⟨p, ns, rfl, h, k _ F H [] (.refl gl) (.frz (.int _))⟩
theorem op_max : OpN K T (rMax K) (n1 oMax) := .one fun F H x a o Q gl hx e k => by
  obtain ⟨ns, e1, e2⟩ := Option.bind_eq_some_iff.mp e
  obtain ⟨m, e3, e4⟩ := Option.map_eq_some_iff.mp e2
  subst e4
  obtain ⟨p, rfl, h⟩ := hx.nums gl e1
  obtain ⟨h1, h2⟩ := maxI_spec e3
  refine ⟨p, ns, rfl, h, List.length_pos_of_mem h1, fun m' g1 g2 => ?_⟩
  have : m' = m := Int.le_antisymm (h2 m' g1) (g2 m h1)
  subst this
  exact k _ F H [] (.refl gl) (.frz (.int _))
theorem op_min : OpN K T (rMin K) (n1 oMin) := .one fun F H x a o Q gl hx e k => by
  obtain ⟨ns, e1, e2⟩ := Option.bind_eq_some_iff.mp e
  obtain ⟨m, e3, e4⟩ := Option.map_eq_some_iff.mp e2
  subst e4
  obtain ⟨p, rfl, h⟩ := hx.nums gl e1
  obtain ⟨h1, h2⟩ := minI_spec e3
  refine ⟨p, ns, rfl, h, List.length_pos_of_mem h1, fun m' g1 g2 => ?_⟩
  have : m' = m := Int.le_antisymm (g2 m h1) (h2 m' g1)
  subst this
  exact k _ F H [] (.refl gl) (.frz (.int _))
theorem op_all : OpN K T (rAll K) (n1 oAll) := .one fun F H x a o Q gl hx e k => by
  obtain ⟨ns, e1, e2⟩ := Option.map_eq_some_iff.mp e
  subst e2
  obtain ⟨p, rfl, h⟩ := hx.bls gl e1
  exact ⟨p, ns, rfl, h, k _ F H [] (.refl gl) (.frz (.bl _))⟩
def oMax2 (a b : O) : Option O := match a.toD, b.toD with
  | .int i, .int j => some (.frz (.int (if j > i then j else i)))
  | _, _ => none
def oMin2 (a b : O) : Option O := match a.toD, b.toD with
  | .int i, .int j => some (.frz (.int (if j < i then j else i)))
  | _, _ => none
/-- list(x), tuple(x) of a list, a tuple -/
def oList (a : O) : Option O := match a.litems with
  | some ds => some (newL ds)
  | none => (a.titems).map newL
def oTuple (a : O) : Option O := match a.litems with
  | some ds => some (.frz (.tup ds))
  | none => (a.titems).map fun ds => .frz (.tup ds)
theorem op_list : OpN K T (fun xs H Q => ∃ p ys, xs = [.ref p] ∧ (SqL K H p ys ∨ SqT K H p ys) ∧ ∀ l, H l = none → Q (.ref l) (upd H l (.lst ys))) (n1 oList) := .one fun F H x a o Q gl hx e k => by
  unfold oList at e
  split at e
  · rename_i ds q
    cases e
    obtain ⟨p, vs, rfl, h, l⟩ := hx.litems gl q
    refine ⟨p, vs, rfl, .inl h, fun r hr => ?_⟩
    obtain ⟨px, f⟩ := new_lst gl hr l
    exact k _ _ _ _ px f
  · obtain ⟨ds, q, e2⟩ := Option.map_eq_some_iff.mp e
    subst e2
    obtain ⟨p, vs, rfl, _, h, l⟩ := hx.titems gl q
    refine ⟨p, vs, rfl, .inr (.of h), fun r hr => ?_⟩
    obtain ⟨px, f⟩ := new_lst gl hr l
    exact k _ _ _ _ px f
theorem op_tuple : OpN K T (fun xs H Q => ∃ p ys, xs = [.ref p] ∧ ((SqL K H p ys ∧ ∀ l, H l = none → Q (.ref l) (upd H l (.tup ys))) ∨ (SqT K H p ys ∧ Q (.ref p) H))) (n1 oTuple) := .one fun F H x a o Q gl hx e k => by
  unfold oTuple at e
  split at e
  · rename_i ds q
    cases e
    obtain ⟨p, vs, rfl, h, l⟩ := hx.litems gl q
    refine ⟨p, vs, rfl, .inl ⟨h, fun r hr => ?_⟩⟩
    obtain ⟨px, f⟩ := new_tup gl hr l
    exact k _ _ _ [] px (.frz f)
  · obtain ⟨ds, q, e2⟩ := Option.map_eq_some_iff.mp e
    subst e2
    obtain ⟨p, vs, rfl, f, h, l⟩ := hx.titems gl q
    exact ⟨p, vs, rfl, .inr ⟨.of h, k _ F H [] (.refl gl) (.frz (.tup f l))⟩⟩
end
def D.tyN : D → Option String
  | .non => some "NoneType"
  | .bl _ => some "bool"
  | .int _ => some "int"
  | .str _ => some "str"
  | .tup _ => some "tuple"
  | .lst _ => some "list"
  | .dct _ => some "dict"
  | _ => none
def subTy (a b : String) : Bool := a == b || (a == "bool" && b == "int")
def tyNames : List String := ["NoneType", "bool", "int", "str", "tuple", "list", "dict"]
def KitOk (n : String) : Prop := ∀ a ∈ tyNames, kitB a n = some (subTy a n)
theorem kit_tuple : KitOk "tuple" := by unfold KitOk; decide +kernel
theorem kit_list : KitOk "list" := by unfold KitOk; decide +kernel
def eIsi (n : String) (m : Em) : Em := fun env => (m env).bind fun o => (o.toD.tyN).map fun a => .frz (.bl (subTy a n))
section
variable {K : PySem.W.Frag} {H : Hp}
theorem tyX_of {v : V} {d : D} {a : String} (h : Vw K H v d) (e : d.tyN = some a) : TyX K H v (.type a) ∧ a ∈ tyNames := by
  cases h with
  | non => cases e; exact ⟨.base .non, by decide⟩
  | bl b => cases e; exact ⟨.base (.bl b), by decide⟩
  | int i => cases e; exact ⟨.base (.int i), by decide⟩
  | str z => cases e; exact ⟨.base (.str z), by decide⟩
  | tup h l => cases e; exact ⟨.base (.tup h), by decide⟩
  | lst h l => cases e; exact ⟨.base (.lst h), by decide⟩
  | dct h q l =>
    cases e
    rcases h with h | ⟨o, h⟩
    · exact ⟨.base (.dK h), by decide⟩
    · exact ⟨.fDict h, by decide⟩
  | _ => cases e
end
section
variable {X : Cx} {T : Tab} {e : Expr} {m : Em} {p p2 pos : Pos} {n : String} {x : Str}
theorem fe_isi (he : BE X T e m) (hk : KitOk n) (hv2 : bootBuiltins x = some (.type n)) (hg : L2.Gl X "isinstance") (hm : X.mg "isinstance" = none) (hg2 : L2.Gl X x) (hm2 : X.mg x = none) (hv : bootBuiltins "isinstance" = some (.builtin "isinstance")) (hn2 : x ≠ "__name__" := by decide) (hd2 : (x == ("__debug__" : Str)) = false := by decide)
    (hs1 : starEach [e, .Name x p2] X.env = (false, eval e X.env) :: starEach [.Name x p2] X.env := by rfl) (hs2 : starEach [.Name x p2] X.env = (false, eval (.Name x p2) X.env) :: starEach [] X.env := by rfl)
    (hpl : (backTo pos (starEach [.Name x p2] X.env)).any (·.1) = false := by rfl) : FE X T (.Call (.Name "isinstance" p) [e, .Name x p2] [] pos) (eIsi n m) :=
  peI (pe_callB call_isi hg hm hv (pa_cons he (pa_cons (pe_bltn (v := .ty n) hg2 hm2 hv2 rfl hn2 hd2) pa_nil hs2) hs1) (by decide) (by decide) hs1 hpl) fun σ H Q q => by
    obtain ⟨F, env, ω, s, o, e1, k⟩ := q
    obtain ⟨o1, e2, e3⟩ := Option.bind_eq_some_iff.mp e1
    obtain ⟨a, e4, e5⟩ := Option.map_eq_some_iff.mp e3
    subst e5
    refine ⟨F, env, ω, s, o1, e2, fun v F1 H1 p1 h1 => ?_⟩
    obtain ⟨h2, h3⟩ := tyX_of (h1.vw p1.gl) e4
    exact ⟨v, .ty n, _, _, _, rfl, .ty n, h2, kit_ty (hk a h3), k _ F1 H1 [] p1 (.frz (.bl _))⟩
end
end VL
namespace VL
open PySem PySem.Spec PyProof.Rows L2 PySem.W
section
variable {X : Cx} {pins : List (Addr × Obj)} {σ : L2.St} {H : Hp} {s : Shared}
theorem lam_make3 {T : List (Addr × Str)} {c P : Addr} {params : Arguments} {body : Expr} {scope : Scope} {pos : Pos} {E : Value → Shared → Prop} {Q : Value → Shared → Prop} (I : Inv X pins σ H s) (TB : LamX.TabB X.base X.mg c P) (hcode : X.env.code = .ref c)
    (hm : (P, X.env.qual ++ "<lambda>") ∈ T) (hu : ∀ p ∈ T, p.1 = P → p.2 = X.env.qual ++ "<lambda>") (hT : LamX.Tabs T H) (hdef : defaultsOf params X.env = ([], [])) (hfree : ∀ y ∈ scope.names, y.2 = .free → ∃ c, X.env.cells.lookup y.1 = some c)
    (h : ∀ (f c' : Addr) (pm ctv : Value) (H1 : Hp) (s' : Shared), Inv X pins σ H1 s' → (H1 = H ∨ ∃ ps ps', H P = some (.tbl ps) ∧ H c' = none ∧ H1 = upd (upd H P (.tbl ps')) c' (LamX.CodeO c' (X.env.qual ++ "<lambda>"))) → LamX.Tabs T H1 →
      s'.heap.get? f = some (PySem.W.kla_obj "<lambda>" (X.env.qual ++ "<lambda>") params body scope (cloFrom X.env.cells scope.names []) pm c' ctv) → H1 c' = some (LamX.CodeO c' (X.env.qual ++ "<lambda>")) → Q (.ref f) s') :
    wpAny (model X.prog X.w) X.A (eval (.Lambda params body scope pos) X.env) Q E s := by
  obtain ⟨ps, hP, ht, ha⟩ := hT _ hm
  refine PySem.W.kla_eval hdef ?_
  have bP : s.heap.BuiltinsAt X.mg P := TB.bm.keeps I.bk
  have hP' : s.heap.get? P = some { cls := .none, data := .fields ps } := I.hok P _ hP
  cases hc : codeAmong pos ps.toList with
  | none =>
    refine PySem.W.kla_makeFunction (mg := X.mg) (c := c) (P := P) (ps := ps) (closure_ok hfree) I.ok.glob (I.mod.glob.keeps I.bk) hcode (TB.code.keeps I.bk) hP' ht hc TB.gP bP fun c' ctv h' tk hx hge hlt hrec htb => ?_
    obtain ⟨c2, oc, vs, t, e2, hoc, hd, hv⟩ := hrec
    cases e2
    have nC : H c' = none := I.hok.fresh hge
    have I1 := LamX.inv_table (t' := tk) (more := #[rawInt pos.line, rawInt pos.col, .ref c']) (h' := h'.push (PySem.W.kla_obj "<lambda>" (X.env.qual ++ "<lambda>") params body scope (cloFrom X.env.cells scope.names []) ((X.mg "__name__").getD .none) c' ctv)) I hP
      (fun b o hb e => Heap.get?_push_of_some _ (hx b o hb e)) (Heap.get?_push_of_some _ htb) hge ⟨oc, vs, t, Heap.get?_push_of_some _ hoc, hd, hv⟩
    have hE : LamX.ExtN H (upd (upd H P (.tbl (ps ++ #[rawInt pos.line, rawInt pos.col, .ref c']))) c' (LamX.CodeO c' (X.env.qual ++ "<lambda>"))) := fun b o e n => by
      rw [upd_ne (ne_of_none e nC), upd_ne (fun z => n ps (Option.some.inj (e.symm.trans (by rw [z]; exact hP))))]
      exact e
    have eL : (ps ++ #[rawInt pos.line, rawInt pos.col, .ref c']).toList = ps.toList ++ [rawInt pos.line, rawInt pos.col, .ref c'] := by simp
    refine h h'.objs.size c' ((X.mg "__name__").getD .none) ctv _ _ I1 (.inr ⟨ps, _, hP, nC, rfl⟩) (fun p hp => ?_) (Heap.get?_push_size _ rfl) upd_same
    by_cases hb : p.1 = P
    · rw [hu p hp hb, hb]
      refine ⟨_, by rw [upd_ne (ne_of_none hP nC), upd_same], by rw [eL]; exact PySem.TriplesOk_snoc _ _ _ _ ht, fun p' cv hcv => ?_⟩
      rw [eL] at hcv
      rcases LamX.among_app _ ht hcv with z | z
      · obtain ⟨c0, e1, e2⟩ := ha p' cv z
        exact ⟨c0, e1, hE _ _ e2 LamX.codeO_ne⟩
      · exact ⟨c', z, upd_same⟩
    · obtain ⟨ps', a1, a2, a3⟩ := hT p hp
      refine ⟨ps', by rw [upd_ne (ne_of_none a1 nC), upd_ne hb]; exact a1, a2, fun p' cv hcv => ?_⟩
      obtain ⟨c0, e1, e2⟩ := a3 p' cv hcv
      exact ⟨c0, e1, hE _ _ e2 LamX.codeO_ne⟩
  | some cv =>
    obtain ⟨c', e, hco⟩ := ha pos cv hc
    subst e
    refine PySem.W.kla_makeFunctionHit (mg := X.mg) (c := c) (P := P) (ps := ps) (closure_ok hfree) I.ok.glob (I.mod.glob.keeps I.bk) hcode (TB.code.keeps I.bk) hP' ht hc bP fun ctv h' tk hx hsz => ?_
    have I1 : Inv X pins σ H { s with heap := h'.push (PySem.W.kla_obj "<lambda>" (X.env.qual ++ "<lambda>") params body scope (cloFrom X.env.cells scope.names []) ((X.mg "__name__").getD .none) c' ctv), toks := tk } := I.kept fun b o e => Heap.get?_push_of_some _ (hx b o e)
    exact h h'.objs.size c' ((X.mg "__name__").getD .none) ctv H _ I1 (.inl rfl) hT (Heap.get?_push_size _ rfl) hco
theorem px_lam {T : Tab} {F H1 : Hp} {P c' : Addr} {q : Str} (g : Gl T F H) (h : H1 = H ∨ ∃ ps ps', H P = some (.tbl ps) ∧ H c' = none ∧ H1 = upd (upd H P (.tbl ps')) c' (LamX.CodeO c' q)) (t : LamX.Tabs T H1) : PX T F H F H1 := by
  rcases h with rfl | ⟨ps, ps', hP, hc, rfl⟩
  · exact .refl g
  · have ne : ∀ a u, H a = some u → (∀ ps, u ≠ .tbl ps) → upd (upd H P (.tbl ps')) c' (LamX.CodeO c' q) a = some u := fun a u e n => by
      rw [upd_ne (ne_of_none e hc), upd_ne fun z => n ps (Option.some.inj (e.symm.trans (by rw [z]; exact hP)))]
      exact e
    refine ⟨fun _ _ e => e, fun a u e n => ne a u e n, fun a e _ => e, fun a ps2 e => ?_, ⟨fun a u e n => ?_, g.notbl, fun a vs e => ?_, t⟩⟩
    · by_cases z : a = P
      · subst z
        exact ⟨ps', by rw [upd_ne (ne_of_none e hc), upd_same]⟩
      · exact ⟨ps2, by rw [upd_ne (ne_of_none e hc), upd_ne z]; exact e⟩
    · rcases g.sub a u e n with h | ⟨w, o, h⟩
      · exact .inl (ne a u h n)
      · exact .inr ⟨w, o, ne a _ h fun _ z => by cases z⟩
    · by_cases z : a = c'
      · rw [z, upd_same] at e; cases e
      · rw [upd_ne z] at e
        by_cases z2 : a = P
        · rw [z2, upd_same] at e; cases e
        · rw [upd_ne z2] at e; exact g.tup a vs e
end
abbrev cutE (x : Str) (j : Nat) (p1 p2 p3 p4 : Pos) : Expr := .Subscript (.Name x p1) (.Slice none (some (.Constant (.int 3) j p2)) none p3) p4
section
variable {prog : Program} {w : World} {A : Around} {s : Shared} {E : Value → Shared → Prop}
theorem lam_cut {f c' a : Addr} {items : Array Value} {q x : Str} {params : Arguments} {scope : Scope} {clos : List (Str × Addr)} {pm ctv : Value} {j : Nat} {p1 p2 p3 p4 : Pos} {Q : Value → Shared → Prop}
    (hf : s.heap.get? f = some (PySem.W.kla_obj "<lambda>" q params (cutE x j p1 p2 p3 p4) scope clos pm c' ctv)) (hcode : s.heap.CodeRec (.ref c') q) (lim : s.heap.NoLimit) (room : A.depth < recursionLimit)
    (hbind : bindArgs (PySem.W.kla_fn "<lambda>" q params (cutE x j p1 p2 p3 p4) scope clos pm (.ref c') ctv) ⟨[.ref a], []⟩ = pure [(x, .ref a)])
    (hk : scope.kind = .function) (hco : scope.isCoroutine = false) (hge : scope.isGenerator = false) (hce : ∀ y ∈ scope.names, y.2 ≠ .cell) (hx : scope.names.lookup x = some .local) (hd : (x == ("__debug__" : Str)) = false)
    (ht : IsTup s.heap a items) (h3 : 3 ≤ items.size) (hz : items.size ≤ sizeLine)
    (h : ∀ (h' : Heap) (tk : Nat) (r : Addr), (∀ b o, s.heap.get? b = some o → h'.get? b = some o) → IsTup h' r (items.toList.take 3).toArray → Q (.ref r) { s with heap := h', toks := tk }) :
    wpAny (model prog w) A (call (.ref f) [.ref a]) Q E s := by
  refine wpAny_call (PySem.W.kla_callFunE room hf rfl hco hge rfl hcode ?_)
  rw [hbind]
  refine wpAny_pure (wpAny_newFunctionEnv hce (fun y hy => by rw [List.mem_singleton.mp hy]; exact hx) (fun h₁ hns hsb => ⟨lim.fresh _ hsb, ?_⟩) hk)
  have kp : ∀ b o, s.heap.get? b = some o → h₁.get? b = some o := fun b o e => hsb.extBut b o (Nat.ne_of_lt (Heap.lt_size e)) (Heap.get?_push_of_some _ e)
  show codeAny _ _ (.expr (cutE x j p1 p2 p3 p4) (PySem.W.envX q scope s.heap.objs.size f (.ref c') clos)) _ _
  refine PySem.W.kla_codeExpr ?_
  have hns' : h₁.Ns s.heap.objs.size fun y => [(x, Value.ref a)].reverse.lookup y := hns
  refine Subscript_ (wpAny_Name (wpAny_loadName_local (v := .ref a) hk hx hns' (by simp [List.lookup]) ?_) hd)
  refine wpAny_Slice ?_
  rw [evalPart_none]
  refine wpAny_pure ?_
  rw [evalPart_some]
  refine wpAny_Constant_int ?_
  refine wpAny_pure ?_
  have kp2 : ∀ (ob : Obj) b o, s.heap.get? b = some o → (h₁.push ob).get? b = some o := fun ob b o e => Heap.get?_push_of_some _ (kp b o e)
  have hT1 := ht.keeps (kp2 { cls := .type "slice", data := .fields #[.none, .int 3 (s.toks + [(x, Value.ref a)].length), .none] })
  have hS := Heap.IsSliceOf.new h₁ .none (.int 3 (s.toks + [(x, Value.ref a)].length)) .none
  refine tail_any (ops := [.ref h₁.objs.size, .ref a]) hT1.typeIs PyProof.Rows.slot_tuple_getitem.lookup ?_ (by with_unfolding_all rfl)
  have i1 : HT.sIx items.size 0 none = 0 := rfl
  have i2 : HT.sIx items.size items.size (some 3) = 3 := by
    unfold HT.sIx
    simp
    omega
  by_cases hw : items.size = 3
  · refine L2.getItem_tuple_whole hT1 hS .none (.int 3 _) ⟨i1, by rw [i2, hw]⟩ ?_
    have e : (items.toList.take 3).toArray = items := by
      rw [List.take_of_length_le (by rw [Array.length_toList, hw] <;> omega)]
    exact h _ _ a (kp2 _) (by rw [e]; exact hT1)
  · refine HT.getItem_tuple_cut hT1 hS .none (.int 3 _) (fun z => hw (by rw [i2] at z; exact z.2.symm)) ?_ hz
    rw [i1, i2]
    refine h _ _ _ (fun b o e => Heap.get?_push_of_some _ (kp2 _ b o e)) ?_
    exact ⟨_, Heap.get?_push_size _ rfl, rfl, 0, by simp⟩
end
def D.key3 : D → Option (Int × Int × Int)
  | .tup (.int a :: .int b :: .int c :: _) => some (a, b, c)
  | _ => none
def k3 (d : D) : Int × Int × Int := (d.key3).getD (0, 0, 0)
def le3 (a b : Int × Int × Int) : Bool := decide (a.1 < b.1 ∨ (a.1 = b.1 ∧ (a.2.1 < b.2.1 ∨ (a.2.1 = b.2.1 ∧ a.2.2 ≤ b.2.2))))
def sort3 (ds : List D) : List D := ds.mergeSort fun a b => le3 (k3 a) (k3 b)
def oSort3 (o : O) : Option O := (o.litems).bind fun ds => if (ds.all fun d => d.key3.isSome) = true then some (newL (sort3 ds)) else none
def py3 (d : D) : PyData := .tuple [.int (k3 d).1, .int (k3 d).2.1, .int (k3 d).2.2]
theorem dataLt_iii (x y z x' y' z' : Int) : dataLt (.tuple [.int x, .int y, .int z]) (.tuple [.int x', .int y', .int z']) = decide (x < x' ∨ (x = x' ∧ (y < y' ∨ (y = y' ∧ z < z')))) := by
  have e : PyProof.Rows.lexLt itemOrd (keyToksAll []) (keyToksAll []) = false := lex_irrefl _
  rw [dataLt_tuple, dataLt_cons (by simp [alike]), dataLt_cons (by simp [alike]), dataLt_cons (by simp [alike]), e, dataLt_int, dataLt_int, dataLt_int]
  simp only [PyData.eqv, beq_iff_eq]
  by_cases h1 : x = x' <;> by_cases h2 : y = y' <;> by_cases h3 : z = z' <;> simp [h1, h2, h3]
theorem dataLe_3 : dataLe false py3 = fun a b => le3 (k3 a) (k3 b) := by
  funext p q
  show (!dataLt (py3 q) (py3 p)) = _
  unfold py3 le3
  rw [dataLt_iii]
  by_cases h : (k3 q).1 < (k3 p).1 ∨ ((k3 q).1 = (k3 p).1 ∧ ((k3 q).2.1 < (k3 p).2.1 ∨ ((k3 q).2.1 = (k3 p).2.1 ∧ (k3 q).2.2 < (k3 p).2.2)))
  · have h' : ¬ ((k3 p).1 < (k3 q).1 ∨ ((k3 p).1 = (k3 q).1 ∧ ((k3 p).2.1 < (k3 q).2.1 ∨ ((k3 p).2.1 = (k3 q).2.1 ∧ (k3 p).2.2 ≤ (k3 q).2.2)))) := by omega
    simp only [h, h', decide_true, decide_false, Bool.not_true]
  · have h' : (k3 p).1 < (k3 q).1 ∨ ((k3 p).1 = (k3 q).1 ∧ ((k3 p).2.1 < (k3 q).2.1 ∨ ((k3 p).2.1 = (k3 q).2.1 ∧ (k3 p).2.2 ≤ (k3 q).2.2))) := by omega
    simp only [h, h', decide_true, decide_false, Bool.not_false]
theorem key3_of {es : List D} (h : (D.tup es).key3.isSome = true) : ∃ a b c rest, es = .int a :: .int b :: .int c :: rest ∧ k3 (.tup es) = (a, b, c) := by
  unfold D.key3 at h
  split at h
  · rename_i a b c r q
    cases q
    exact ⟨a, b, c, r, rfl, rfl⟩
  · cases h
def RD (K : PySem.W.Frag) (F : Hp) (v : Value) (d : D) : Prop := ∃ x, RelV x v ∧ Vw K F x d
theorem each_of {K : PySem.W.Frag} {F : Hp} : ∀ {vs : List V} {us : List Value} {ds : List D}, Vals vs us → VwL K F vs ds → EachIs (RD K F) us ds
  | _, _, _, .nil, .nil => .nil
  | _, _, _, .cons r t, .cons h l => .cons ⟨_, r, h⟩ (each_of t l)
theorem of_each {K : PySem.W.Frag} {F : Hp} : ∀ {us : List Value} {ds : List D}, EachIs (RD K F) us ds → ∃ vs, Vals vs us ∧ VwL K F vs ds
  | _, _, .nil => ⟨[], .nil, .nil⟩
  | _, _, .cons h t => by
    obtain ⟨x, r, h1⟩ := h
    obtain ⟨vs, h2, h3⟩ := of_each t
    exact ⟨x :: vs, .cons r h2, .cons h1 h3⟩
abbrev srtE (e : Expr) (params : Arguments) (x : Str) (scope : Scope) (j : Nat) (p p1 p2 p3 p4 pl pk pos : Pos) : Expr :=
  .Call (.Name "sorted" p) [e] [{ arg := some "key", value := .Lambda params (cutE x j p1 p2 p3 p4) scope pl, pos := pk }] pos
section
variable {X : Cx} {T : Tab} {e : Expr} {m : Em} {params : Arguments} {x : Str} {scope : Scope} {j : Nat} {p p1 p2 p3 p4 pl pk pos : Pos} {c P : Addr}
theorem fe_sort3 (he : BE X T e m) (hr : Room 1 X.A) (hg : L2.Gl X "sorted") (hmg : X.mg "sorted" = none) (TB : LamX.TabB X.base X.mg c P) (hcode : X.env.code = .ref c)
    (hm : (P, X.env.qual ++ "<lambda>") ∈ T) (hu : ∀ p ∈ T, p.1 = P → p.2 = X.env.qual ++ "<lambda>") (hdef : defaultsOf params X.env = ([], []) := by rfl)
    (hbind : ∀ (q : Str) (cl : List (Str × Addr)) (pm cv ctv : Value) (a : Addr), bindArgs (PySem.W.kla_fn "<lambda>" q params (cutE x j p1 p2 p3 p4) scope cl pm cv ctv) ⟨[.ref a], []⟩ = pure [(x, .ref a)] := by intros; rfl)
    (hk : scope.kind = .function := by rfl) (hco : scope.isCoroutine = false := by rfl) (hge : scope.isGenerator = false := by rfl) (hsc : scope.names = [(x, .local)] := by rfl) (hd : (x == ("__debug__" : Str)) = false := by decide)
    (hs : starEach [e] X.env = (false, eval e X.env) :: starEach [] X.env := by rfl)
    (hb1 : backTo pos (starEach [e] X.env) = (false, eval e X.env) :: backTo pos (starEach [] X.env) := by rfl) (hb2 : (backTo pos (starEach [e] X.env)).any (·.1) = false := by rfl) :
    FE X T (srtE e params x scope j p p1 p2 p3 p4 pl pk pos) (eOp1 oSort3 m) := by
  have hall1 : (backToKw pos (keywordEach [{ arg := some "key", value := Expr.Lambda params (cutE x j p1 p2 p3 p4) scope pl, pos := pk }] X.env)).all (·.1.isSome) = true := rfl
  have hkw1 : (backToKw pos (keywordEach [{ arg := some "key", value := Expr.Lambda params (cutE x j p1 p2 p3 p4) scope pl, pos := pk }] X.env)).any (·.1.isNone) = false := rfl
  refine ⟨fun pins s σ H Q I h => ?_⟩
  obtain ⟨F, env, ω, sa, o, e1, k⟩ := h
  obtain ⟨o1, e2, e3⟩ := Option.bind_eq_some_iff.mp e1
  obtain ⟨ds, e4, e5⟩ := Option.bind_eq_some_iff.mp e3
  split at e5
  · rename_i hall
    cases e5
    refine wpAny_Call_Name_kw (ld_blt I hg hmg PyProof.Rows.boot_sorted ?_ (by decide) (by decide))
    refine PyProof.Rows.callWith_kw ?_ hb1 hb2 hall1 hkw1
    have hA := (ba_cons he ba_nil hs : BA X T [e] (eCons m eNil)).run pos pins s σ H
      (fun vs H1 => ∃ v F1, vs = [v] ∧ PX T F H F1 H1 ∧ VwO X.K F1 H1 v o1) I ⟨F, env, ω, sa, [o1], by show (m env).bind _ = _; rw [e2]; rfl, fun vs F1 H1 pa hv => by
        cases hv with
        | cons h1 t => cases t; exact ⟨_, F1, rfl, pa, h1⟩⟩
    refine thn hA fun us s1 ⟨vs, H1, I1, r1, v, F1, evs, pa, hv⟩ => ?_
    subst evs
    obtain ⟨u, rfl, ru⟩ := r1.one
    show wpAny _ _ (evalAll ((do let v ← eval (.Lambda params (cutE x j p1 p2 p3 p4) scope pl) X.env; standAt pos; pure v) :: (backToKw pos (keywordEach [] X.env)).map (·.2))) _ _ s1
    refine wpAny_evalAll_cons (wpAny_bind ?_)
    refine lam_make3 I1 TB hcode hm hu pa.gl.tab hdef (fun y hy z => by rw [hsc] at hy; simp at hy; rw [hy] at z; cases z) fun f c' pm ctv H2 s2 I2 hH T2 hf hco2 => ?_
    refine wpAny_bind (wpAny_standAt (wpAny_pure ?_))
    show wpAny _ _ (evalAll []) _ _ s2
    refine wpAny_evalAll_nil ?_
    have pb := px_lam pa.gl hH T2
    have p12 := pa.trans pb
    obtain ⟨a, xs, rfl, hq, l⟩ := (hv.px pb).litems pb.gl e4
    cases ru
    obtain ⟨its, rv, hl, hz⟩ := I2.list hq
    obtain ⟨⟨oc, vs, t, hoc, hdc, hvc⟩, _, _⟩ := I2.hok c' _ hco2
    show wpAny _ _ (call (.builtin "sorted") [.ref a] [(Str.ofString "key", .ref f)]) _ _ s2
    have hlen := l.length
    refine sorted_key_data (R := RD X.K F1) (bs := ds) (b := false) py3 hl.isList (each_of rv l) (AllAlike.of fun _ _ => by simp [alike, alikeAll, py3]) (Sortable.tuples fun _ => ⟨_, _, rfl⟩) (by rw [← hlen]; exact hz) (fun d _ => ?_) (ksk_s1 _ _) (fun _ => ksk_l1 _ _) (fun _ => ksk_t1 _ _) (fun v d hR hdm h tk kp => ?_) fun out c2 h' tk kp hn hD hlo eo => ?_
    · have hd : (py3 d).depth = 1 := by simp [py3, PyData.depth, PyData.depthAll]
      have := hr.un
      omega
    · have hks := List.all_eq_true.mp hall d hdm
      obtain ⟨y, ry, hy⟩ := hR
      have I3 : Inv X pins σ H2 { s2 with heap := h, toks := tk } := I2.kept kp
      cases d with
      | tup es =>
        cases hy with
        | tup hF lF =>
          cases ry
          obtain ⟨its3, rv3, ht3, hz3⟩ := I3.tuple (.of (pb.gl.sub.at hF (fun _ z => by cases z) rfl))
          obtain ⟨i1, i2, i3, rest, rfl, hk3⟩ := key3_of hks
          cases lF with
          | cons v1 l1 => cases l1 with
            | cons v2 l2 => cases l2 with
              | cons v3 l3 =>
              cases v1
              cases v2
              cases v3
              cases rv3 with
              | cons w1 rv3 => cases rv3 with
                | cons w2 rv3 => cases rv3 with
                  | cons w3 w4 =>
              obtain ⟨k1, rfl⟩ := w1
              obtain ⟨k2, rfl⟩ := w2
              obtain ⟨k4, rfl⟩ := w3
              refine lam_cut (kp _ _ hf) ⟨c', oc, vs, t, rfl, kp _ _ hoc, hdc, hvc⟩ I3.nolimit (by have := hr.dp; show X.A.depth < _; omega) (hbind _ _ _ _ _ _) hk hco hge (fun y hy => by rw [hsc] at hy; rw [List.mem_singleton.mp hy]; exact fun z => by cases z) (by rw [hsc]; simp [List.lookup]) hd ht3 (by simp) (by
                have := w4.length
                simp only [List.length_cons, List.size_toArray] at hz3 ⊢
                omega) fun h2 tk2 r kp2 htr => ?_
              obtain ⟨oo, g1, g2, n, g3⟩ := htr
              unfold py3
              rw [hk3]
              refine ⟨h2, tk2, rfl, kp2, .tuple g1 g2 g3 ?_⟩
              exact .cons (as := []) (.int _ _) (.cons (as := []) (.int _ _) (.cons (as := []) (.int _ _) .nil))
      | _ => cases hks
    · obtain ⟨ys, r2, l2⟩ := of_each eo
      rw [dataLe_3] at l2
      have hsz : s2.heap.objs.size ≤ s2.heap.objs.size + 1 := Nat.le_succ _
      have hln : ys.length ≤ sizeLine := by rw [r2.length, hlo, ← hlen]; exact hz
      have hp : H2 (s2.heap.objs.size + 1) = none := I2.hok.fresh hsz
      obtain ⟨px, fr⟩ := new_lst (K := X.K) pb.gl hp l2
      exact ⟨.ref (s2.heap.objs.size + 1), _, I2.laid (t' := tk) (a := s2.heap.objs.size + 1) (o := .lst ys) (h' := h') kp hsz ⟨hln, out, c2, r2, hD⟩, rfl, k _ _ _ _ (p12.trans px) (fr.back p12)⟩
  · cases e5
end
end VL
namespace VL
open PySem PySem.Spec PyProof.Rows L2
section
variable {X : Cx} {T : Tab} {elt tg iter : Expr} {ifs : List Expr} {scope : Scope} {own : List (Str × Nat)} {pos : Pos} {it : Im} {g : Gm} {t : Tm} {m : Em} {ts : List Nat}
/-- y = [..], frozen at once -/
theorem ss_setLcF {i : Nat} {y : Str} {py spos : Pos} (hc : X.calm = true) (hN : X.N.Nodup) (hy : X.N[i]? = some y) (hyl : X.env.scope.names.lookup y = some .local)
    (hsw : swapsWith (.ListComp elt [⟨tg, iter, ifs, 0⟩] scope pos) (some (.Name y py)) spos.line X.env = pure true) (hi : IC X T tg iter it) (ok : BlkOk X.N X.env.scope scope own)
    (hg : ∀ (s : Shared) (H : Hp) (C : Addr) (cl : List (Str × Addr)) (fp : List Addr), GS (X.blk s H scope (compEnvC scope cl C X.env) fp) T tg ts g)
    (ht : ∀ (s : Shared) (H : Hp) (C : Addr) (cl : List (Str × Addr)) (fp : List Addr), ICs (X.blk s H scope (compEnvC scope cl C X.env) fp) T ifs t)
    (he : ∀ (s : Shared) (H : Hp) (C : Addr) (cl : List (Str × Addr)) (fp : List Addr), FE (X.blk s H scope (compEnvC scope cl C X.env) fp) T elt m)
    (hts : ∀ i ∈ ts, i ∈ own.map (·.2)) (hs : ∀ x, foldedSetIterable iter X.env x = pure x := by intro _; rfl) :
    SS X T (.Assign [.Name y py] (.ListComp elt [⟨tg, iter, ifs, 0⟩] scope pos) spos) (sSet i (frzE (eLcN it (own.map (·.2)) g t m))) :=
  psI (ps_setLc (g := tG X.K T ts g) (tt := tT X.K T t) (te := tF X.K T m) hc hN hy hyl hsw hi ok hg ht he hs) fun D σ H q => by
    obtain ⟨F, env, ω, sa, out, e, k⟩ := q
    obtain ⟨o, e1, e2⟩ := Option.bind_eq_some_iff.mp e
    obtain ⟨e', e3, e4⟩ := Option.map_eq_some_iff.mp e2
    subst e4
    obtain ⟨o1, e5, e6⟩ := Option.map_eq_some_iff.mp e1
    subst e6
    refine tLc_of hts ⟨F, env, ω, sa, o1, e5, fun v F1 H1 A p f => ?_⟩
    have p' := fz_px p f
    have f' : Fresh X.K H (fz F1 H1 A) H1 v (.frz o1.toD) [] := .frz (fz_vw p f)
    have hl : i < env.length ∨ ¬ i < env.length := Classical.em _
    rcases hl with hl | hl
    · exact k _ H1 _ _ (Go.put sa p' f' hl e3)
    · obtain ⟨h1, h2⟩ := setS_of e3
      have h3 : σ.set i (some v) = σ := List.set_eq_of_length_le (by rw [sa.len]; omega)
      have h4 : (killA i env).set i (slotOf (.frz o1.toD)) = killA i env := List.set_eq_of_length_le (by rw [killA_len]; omega)
      have h5 : killA i env = env := by
        apply List.ext_getElem?
        intro j
        rw [killA_get]
        cases q : env[j]? with
        | none => rfl
        | some t =>
          cases t with
          | als r p' =>
            have := sa.slot j _ q
            obtain ⟨_, w, _, _, _, h, _⟩ := this
            have hr : r < env.length := by rw [← sa.len]; exact (List.getElem?_eq_some_iff.mp h).1
            have : r ≠ i := by omega
            simp [this]
          | _ => rfl
      rw [h2, h4, h5] at k
      show D.nx (σ.set i (some v)) H1
      rw [h3]
      exact k _ H1 σ ω (.px sa p')
end
section
variable {P : Program} {w : World} {K : PySem.W.Frag} {mg : Str → Option Value} {base : Heap} {T : Tab}
/-- THE RULE for a def that makes lambdas: its code object is known -/
theorem fn_okL {x qual : Str} {st : Stmt} {at_ : He.Defn} {fd : FuncData} {N ps : List Str} {k : Nat} {sm : Sm} (D : FunD K x qual (defArgs st) (defBody st) (defScope st) [] [] (He.fAd K at_) fd) (S : FnScope N ps (defScope st))
    (hb : ∀ (A : Around) (outer : List PySem.Env) (s : Shared) (H : Hp) (E : XK), Room k (A.deeper (envOfC qual (defScope st) s.heap.objs.size (He.fAd K at_) (.ref (He.codeOf K at_)))) → SB (cxOf CX0 P w K mg base N qual (defScope st) (He.fAd K at_) (.ref (He.codeOf K at_)) A outer s H E).nox T (defBody st) sm) :
    FnOk P w K mg base CX0 (k + 1) (He.fAd K at_) fd ps (spF K T ps.length (fnM ps.length N.length sm)) := by
  obtain ⟨oc, od, dV, kV, doc, pm, an, cdv, ct, osl, hfd, lk, hcd, _, _⟩ := D.ex
  obtain ⟨c, hc⟩ := He.codeIn_ref hcd
  have hco : He.codeOf K at_ = c := He.codeOf_eq lk (by rw [hfd]; exact hc)
  subst hfd hc
  rw [hco] at hb
  refine fn_of lk hcd S (fun vs H Q E h => ?_) fun A outer s H vs Q E hr hsp => ⟨tS K T sm, PSs.nox (hb A outer s H E hr), body_ok (CX := CX0) (qual := qual) (f := He.fAd K at_) (cdv := .ref c) (A := A) (outer := outer) (s := s) (E := E) (body := defBody st) S hsp⟩
  obtain ⟨_, _, _, _, _, h, _⟩ := h
  exact h
end
end VL
namespace VL
open PySem PySem.Spec PyProof.Rows L2
section
variable {K : PySem.W.Frag} {T : Tab} {H : Hp}
theorem gl_tab (t : LamX.Tabs T H) : Gl T (allF H) H :=
  ⟨fun a u e _ => .inl (allF_get e).1, fun a ps e => (allF_get e).2 ps rfl, fun a vs e => allF_of e (fun _ z => nomatch z), t⟩
theorem sql_all {a : Addr} {xs : List V} (h : SqL K H a xs) : SqL K (allF H) a xs := h.imp (fun h => h.elim (fun e => .inl (allF_of e fun _ z => nomatch z)) fun ⟨o, e⟩ => .inr ⟨o, allF_of e fun _ z => nomatch z⟩) id
theorem law_sp {f : Fm} {a : Addr} {ns : List Int} {o : O} {svs' : List SV} {E : XK} (t : LamX.Tabs T H) (hS : SqL K H a (ns.map V.int)) (e : f [.frz (.scr ns)] = some (o, svs')) (ho : o.toD = .bl true) : spF K T 1 f [.ref a] H (fun v _ => v = .bl true) E :=
  ⟨allF H, [.frz (.scr ns)], noOwn, o, svs', rfl, rfl, sta_args (ds := [.scr ns]) (gl_tab t) (.cons (.scr (sql_all hS)) .nil), e, fun F' H' ω' v A x sa r => r.ro.bl ho⟩
end
end VL
namespace VL
open PySem PySem.Spec PyProof.Rows L2
variable {s : SV} {r : Env} {i : Nat} {a b c m : Em} {ms : Es} {t u : VL.Tm} {st su : Sm} {o x y : O} {d e : D} {env : Env}
def rdS (env : Env) : Option SV → Option O
  | some (.frz d) => some (.frz d)
  | some (.own o) => some o
  | some (.io o) => some o
  | some (.als r p) => (match env[r]? with
    | some (.own o) => o.walk p
    | some (.io o) => o.walk p
    | _ => none)
  | _ => none
@[simp] theorem eVar_c : eVar i (s :: r) = rdS (s :: r) (s :: r)[i]? := id rfl
@[simp] theorem rdS_frz : rdS env (some (.frz d)) = some (.frz d) := id rfl
@[simp] theorem rdS_own : rdS env (some (.own o)) = some o := id rfl
@[simp] theorem rdS_io : rdS env (some (.io o)) = some o := id rfl
@[simp] theorem eC_c : eC d env = some (.frz d) := id rfl
@[simp] theorem eNil_c : eNil env = some [] := id rfl
def cons2 : Option O → Option (List O) → Option (List O)
  | some o, some os => some (o :: os)
  | _, _ => none
@[simp] theorem eCons_c : eCons a ms (s :: r) = cons2 (a (s :: r)) (ms (s :: r)) := by
  unfold eCons cons2; cases a (s :: r) <;> cases ms (s :: r) <;> rfl
@[simp] theorem cons2_s {os : List O} : cons2 (some o) (some os) = some (o :: os) := id rfl
def fz1 : Option O → Option O
  | some o => some (.frz o.toD)
  | none => none
@[simp] theorem frzE_c : frzE a (s :: r) = fz1 (a (s :: r)) := by unfold frzE fz1; cases a (s :: r) <;> rfl
@[simp] theorem fz1_s : fz1 (some o) = some (.frz o.toD) := id rfl
def tk1 : Option O → Option O
  | some o => (asFrz o).map .frz
  | none => none
@[simp] theorem takE_c : takE a (s :: r) = tk1 (a (s :: r)) := by unfold takE tk1; cases a (s :: r) <;> rfl
@[simp] theorem tk1_f : tk1 (some (.frz d)) = some (.frz d) := id rfl
@[simp] theorem toD_frz : (O.frz d).toD = d := by rw [O.toD]
@[simp] theorem toD_tup {os : List O} : (O.tup os).toD = .tup (os.map O.toD) := by rw [O.toD, O.toDs_map]
@[simp] theorem toD_lst {os : List O} : (O.lst os).toD = .lst (os.map O.toD) := by rw [O.toD, O.toDs_map]
@[simp] theorem toD_newL {ds : List D} : (newL ds).toD = .lst ds := by
  unfold newL; rw [toD_lst, List.map_map]
  congr 1
  conv => rhs; rw [← List.map_id ds]
  exact List.map_congr_left fun x _ => toD_frz
@[simp] theorem map_toD_frz {ds : List D} : (ds.map O.frz).map O.toD = ds := by
  rw [List.map_map]
  conv => rhs; rw [← List.map_id ds]
  exact List.map_congr_left fun x _ => toD_frz
def ap1 (f : O → Option O) : Option O → Option O
  | some x => f x
  | none => none
def ap2 (f : O → O → Option O) : Option O → Option O → Option O
  | some x, some y => f x y
  | _, _ => none
@[simp] theorem eOp1_c {f : O → Option O} : eOp1 f a (s :: r) = ap1 f (a (s :: r)) := by unfold eOp1 ap1; cases a (s :: r) <;> rfl
@[simp] theorem eOp2_c {f : O → O → Option O} : eOp2 f a b (s :: r) = ap2 f (a (s :: r)) (b (s :: r)) := by unfold eOp2 ap2; cases a (s :: r) <;> cases b (s :: r) <;> rfl
@[simp] theorem ap1_s {f : O → Option O} : ap1 f (some x) = f x := id rfl
@[simp] theorem ap2_s {f : O → O → Option O} : ap2 f (some x) (some y) = f x y := id rfl
def fr (x : Option D) : Option O := x.map .frz
@[simp] theorem fr_s : fr (some d) = some (.frz d) := id rfl
@[simp] theorem sc1_s {g : D → Option D} : sc1 g o = fr (g o.toD) := id rfl
@[simp] theorem sc2_s {g : D → D → Option D} : sc2 g x y = fr (g x.toD y.toD) := id rfl
@[simp] theorem gI_i {f : Int → Int → Int} {i j : Int} : gI f (.int i) (.int j) = some (.int (f i j)) := id rfl
@[simp] theorem gB_i {f : Int → Int → Bool} {i j : Int} : gB f (.int i) (.int j) = some (.bl (f i j)) := id rfl
@[simp] theorem gDiv_i {i j : Int} (h : 0 < j ∧ j < 1073741824) : gDiv (.int i) (.int j) = some (.int (i / j)) := if_pos h
@[simp] theorem gMod_i {i j : Int} (h : 0 < j) : gMod (.int i) (.int j) = some (.int (i % j)) := if_pos h
@[simp] theorem gNeg_i {i : Int} : gNeg (.int i) = some (.int (-i)) := id rfl
@[simp] theorem oAdd_i {i j : Int} : oAdd (.frz (.int i)) (.frz (.int j)) = some (.frz (.int (i + j))) := by simp [oAdd, orO]
@[simp] theorem plitems_f {ds : List D} : (O.frz (.lst ds)).plitems = some ds := id rfl
@[simp] theorem litems_f {ds : List D} : (O.frz (.lst ds)).litems = some ds := id rfl
@[simp] theorem titems_f {ds : List D} : (O.frz (.tup ds)).titems = some ds := id rfl
@[simp] theorem titems_l {ds : List D} : (O.frz (.lst ds)).titems = none := id rfl
@[simp] theorem litems_t {ds : List D} : (O.frz (.tup ds)).litems = none := id rfl
@[simp] theorem litems_s {ns : List Int} : (O.frz (.scr ns)).litems = some (ns.map D.int) := id rfl
theorem mapM_frz : ∀ ds : List D, (ds.map O.frz).mapM asFrz = some ds
  | [] => rfl
  | d :: ds => by
    rw [List.map_cons, List.mapM_cons, mapM_frz ds]; rfl
@[simp] theorem plitems_n {ds : List D} : (newL ds).plitems = some ds := mapM_frz ds
@[simp] theorem litems_n {ds : List D} : (newL ds).litems = some ds := mapM_frz ds
@[simp] theorem asFrz_f : asFrz (.frz d) = some d := id rfl
theorem oAdd_l {xs ys : List D} (hx : x.plitems = some xs) (hy : y.plitems = some ys) (dx : x.toD = .lst xs) (dy : y.toD = .lst ys) (h : xs.length + ys.length ≤ 16777216) : oAdd x y = some (newL (xs ++ ys)) := by
  have hz : sizeLine = 16777216 := sizeLine_eq
  unfold oAdd orO
  simp [dx, dy, gI, gCatS, oCatL, hx, hy, hz, h, fr]
@[simp] theorem oAdd_ll {xs ys : List D} (h : xs.length + ys.length ≤ 16777216) : oAdd (.frz (.lst xs)) (.frz (.lst ys)) = some (newL (xs ++ ys)) := oAdd_l rfl rfl toD_frz toD_frz h
@[simp] theorem oAdd_nl {xs ys : List D} (h : xs.length + ys.length ≤ 16777216) : oAdd (newL xs) (.frz (.lst ys)) = some (newL (xs ++ ys)) := oAdd_l plitems_n rfl toD_newL toD_frz h
@[simp] theorem oMul_i {i j : Int} (h : (-(2 ^ 64) < i ∧ i < 2 ^ 64) ∨ (-(2 ^ 64) < j ∧ j < 2 ^ 64)) : oMul (.frz (.int i)) (.frz (.int j)) = some (.frz (.int (i * j))) := by
  have e : gMul (.int i) (.int j) = some (.int (i * j)) := if_pos h
  unfold oMul orO
  rw [sc2_s, toD_frz, toD_frz, e]
  rfl
def tst1 : Option O → Option Bool
  | some o => (match o.toD with
    | .bl b => some b
    | _ => none)
  | none => none
@[simp] theorem tst_c : tst a (s :: r) = tst1 (a (s :: r)) := by unfold tst tst1; cases a (s :: r) <;> rfl
@[simp] theorem tst1_b {b : Bool} : tst1 (some (.frz (.bl b))) = some b := by unfold tst1; simp
def tru1 : Option O → Option Bool
  | some o => o.toD.tru
  | none => none
@[simp] theorem tru_c : tru a (s :: r) = tru1 (a (s :: r)) := by unfold tru tru1; cases a (s :: r) <;> rfl
@[simp] theorem tru1_b {b : Bool} : tru1 (some (.frz (.bl b))) = some b := by unfold tru1; simp [D.tru]
@[simp] theorem tru1_i {n : Int} : tru1 (some (.frz (.int n))) = some (n != 0) := by unfold tru1; simp [D.tru]
@[simp] theorem tru1_l {ds : List D} : tru1 (some (.frz (.lst ds))) = some (!ds.isEmpty) := by unfold tru1; simp [D.tru]
def and2 : Option Bool → VL.Tm → Env → Option Bool
  | some true, u, env => u env
  | some false, _, _ => some false
  | none, _, _ => none
def or2 : Option Bool → VL.Tm → Env → Option Bool
  | some true, _, _ => some true
  | some false, u, env => u env
  | none, _, _ => none
@[simp] theorem tAnd2_c : tAnd2 t u (s :: r) = and2 (t (s :: r)) u (s :: r) := by
  unfold tAnd2 and2; cases t (s :: r) with
  | none => rfl
  | some b => cases b <;> rfl
@[simp] theorem tOr2_c : tOr2 t u (s :: r) = or2 (t (s :: r)) u (s :: r) := by
  unfold tOr2 or2; cases t (s :: r) with
  | none => rfl
  | some b => cases b <;> rfl
@[simp] theorem and2_t : and2 (some true) u env = u env := id rfl
@[simp] theorem and2_f : and2 (some false) u env = some false := id rfl
@[simp] theorem or2_t : or2 (some true) u env = some true := id rfl
@[simp] theorem or2_f : or2 (some false) u env = u env := id rfl
theorem and2_b {p q : Bool} (h : u env = some q) : and2 (some p) u env = some (p && q) := by cases p <;> simp [h]
theorem or2_b {p q : Bool} (h : u env = some q) : or2 (some p) u env = some (p || q) := by cases p <;> simp [h]
def not1 : Option Bool → Option Bool
  | some b => some (!b)
  | none => none
@[simp] theorem tNot1_c : tNot1 t (s :: r) = not1 (t (s :: r)) := by unfold tNot1 not1; cases t (s :: r) <;> rfl
@[simp] theorem not1_s {b : Bool} : not1 (some b) = some (!b) := id rfl
@[simp] theorem yesT_c : yesT env = some true := id rfl
def eNot1 : Option O → Option O
  | some o => (match o.toD with
    | .bl b => some (.frz (.bl (!b)))
    | _ => none)
  | none => none
@[simp] theorem eNot_c : eNot a (s :: r) = eNot1 (a (s :: r)) := by unfold eNot eNot1; cases a (s :: r) <;> rfl
@[simp] theorem eNot1_b {b : Bool} : eNot1 (some (.frz (.bl b))) = some (.frz (.bl (!b))) := by unfold eNot1; simp
def eAnd1 (b : Em) (env : Env) : Option O → Option O
  | some o => (match o.toD with
    | .bl true => b env
    | .bl false => some (.frz (.bl false))
    | _ => none)
  | none => none
def eOr1 (b : Em) (env : Env) : Option O → Option O
  | some o => (match o.toD with
    | .bl true => some (.frz (.bl true))
    | .bl false => b env
    | _ => none)
  | none => none
@[simp] theorem eAnd_c : eAnd a b (s :: r) = eAnd1 b (s :: r) (a (s :: r)) := by unfold eAnd eAnd1; cases a (s :: r) <;> rfl
@[simp] theorem eOr_c : eOr a b (s :: r) = eOr1 b (s :: r) (a (s :: r)) := by unfold eOr eOr1; cases a (s :: r) <;> rfl
@[simp] theorem eAnd1_t : eAnd1 b env (some (.frz (.bl true))) = b env := by unfold eAnd1; simp
@[simp] theorem eAnd1_f : eAnd1 b env (some (.frz (.bl false))) = some (.frz (.bl false)) := by unfold eAnd1; simp
@[simp] theorem eOr1_t : eOr1 b env (some (.frz (.bl true))) = some (.frz (.bl true)) := by unfold eOr1; simp
@[simp] theorem eOr1_f : eOr1 b env (some (.frz (.bl false))) = b env := by unfold eOr1; simp
theorem eAnd1_b {p q : Bool} (h : b env = some (.frz (.bl q))) : eAnd1 b env (some (.frz (.bl p))) = some (.frz (.bl (p && q))) := by cases p <;> simp [h]
def eIf1 (a b : Em) (env : Env) : Option Bool → Option O
  | some true => a env
  | some false => b env
  | none => none
@[simp] theorem eIf_c : eIf t a b (s :: r) = eIf1 a b (s :: r) (t (s :: r)) := by
  unfold eIf eIf1; cases t (s :: r) with
  | none => rfl
  | some q => cases q <;> rfl
@[simp] theorem eIf1_t : eIf1 a b env (some true) = a env := id rfl
@[simp] theorem eIf1_f : eIf1 a b env (some false) = b env := id rfl
@[simp] theorem oIsN_s {n : Bool} : oIsN n o = some (.frz (.bl (n ^^ o.toD.isN))) := id rfl
@[simp] theorem isN_non : D.isN .non = true := id rfl
@[simp] theorem isN_int {n : Int} : D.isN (.int n) = false := id rfl
@[simp] theorem isN_str {n : Str} : D.isN (.str n) = false := id rfl
@[simp] theorem isN_tup {n : List D} : D.isN (.tup n) = false := id rfl
@[simp] theorem isN_lst {n : List D} : D.isN (.lst n) = false := id rfl
def ix2 : Option O → Option O → Option O
  | some x, some y => (ixO x y.toD).or (ixD x y.toD)
  | _, _ => none
@[simp] theorem eIx_c : eIx a b (s :: r) = ix2 (a (s :: r)) (b (s :: r)) := by unfold eIx ix2; cases a (s :: r) <;> cases b (s :: r) <;> rfl
theorem ix2_l {ds : List D} {k : Int} (h : atI ds k = some d) : ix2 (some (.frz (.lst ds))) (some (.frz (.int k))) = some (.frz d) := by
  simp [ix2, ixO, h]
theorem ix2_t {ds : List D} {k : Int} (h : atI ds k = some d) : ix2 (some (.frz (.tup ds))) (some (.frz (.int k))) = some (.frz d) := by
  simp [ix2, ixO, h]
theorem ix2_s {ns : List Int} {k n : Int} (h : atI ns k = some n) : ix2 (some (.frz (.scr ns))) (some (.frz (.int k))) = some (.frz (.int n)) := by
  simp [ix2, ixO, h]
theorem atI_pos {α : Type} {xs : List α} {k : Int} {n : Nat} (h : k = n) (hn : n < xs.length) : atI xs k = some (xs[n]) := by
  subst h
  unfold atI ixN
  simp [hn]
theorem atI_neg {α : Type} {xs : List α} {k : Int} {n : Nat} (h : k = n - xs.length) (hn : n < xs.length) : atI xs k = some (xs[n]) := by
  unfold atI
  have : ixN xs.length k = some n := by
    unfold ixN
    have h1 : ¬ 0 ≤ k := by omega
    simp [h1]
    omega
  rw [this]
  simp [hn]
@[simp] theorem ix_t0 {d : D} {ds : List D} : ix2 (some (.frz (.tup (d :: ds)))) (some (.frz (.int 0))) = some (.frz d) := ix2_t (atI_pos (n := 0) rfl (by simp))
@[simp] theorem ix_t1 {d0 d : D} {ds : List D} : ix2 (some (.frz (.tup (d0 :: d :: ds)))) (some (.frz (.int 1))) = some (.frz d) := ix2_t (atI_pos (n := 1) rfl (by simp))
@[simp] theorem ix_t2 {d0 d1 d : D} {ds : List D} : ix2 (some (.frz (.tup (d0 :: d1 :: d :: ds)))) (some (.frz (.int 2))) = some (.frz d) := ix2_t (atI_pos (n := 2) rfl (by simp))
@[simp] theorem ix_t3 {d0 d1 d2 d : D} {ds : List D} : ix2 (some (.frz (.tup (d0 :: d1 :: d2 :: d :: ds)))) (some (.frz (.int 3))) = some (.frz d) := ix2_t (atI_pos (n := 3) rfl (by simp))
@[simp] theorem ix_l0 {d : D} {ds : List D} : ix2 (some (.frz (.lst (d :: ds)))) (some (.frz (.int 0))) = some (.frz d) := ix2_l (atI_pos (n := 0) rfl (by simp))
@[simp] theorem ix_l1 {d0 d : D} {ds : List D} : ix2 (some (.frz (.lst (d0 :: d :: ds)))) (some (.frz (.int 1))) = some (.frz d) := ix2_l (atI_pos (n := 1) rfl (by simp))
def sl3 : Option O → Option (Option Int) → Option (Option Int) → Option O
  | some x, some l, some h => slO x l h
  | _, _, _ => none
@[simp] theorem eSl_c {l h : Om} : eSl a l h (s :: r) = sl3 (a (s :: r)) (l (s :: r)) (h (s :: r)) := by
  unfold eSl sl3; cases a (s :: r) <;> cases l (s :: r) <;> cases h (s :: r) <;> rfl
@[simp] theorem noP_c : noP env = some none := id rfl
def sp1 : Option O → Option (Option Int)
  | some o => (match o.toD with
    | .int i => some (some i)
    | _ => none)
  | none => none
@[simp] theorem someP_c : someP a (s :: r) = sp1 (a (s :: r)) := by unfold someP sp1; cases a (s :: r) <;> rfl
@[simp] theorem sp1_i {n : Int} : sp1 (some (.frz (.int n))) = some (some n) := by unfold sp1; simp
@[simp] theorem sl3_l {ds : List D} {l h : Option Int} : sl3 (some (.frz (.lst ds))) (some l) (some h) = some (newL (cutA ds l h)) := id rfl
@[simp] theorem sl3_t {ds : List D} {l h : Option Int} : sl3 (some (.frz (.tup ds))) (some l) (some h) = some (.frz (.tup (cutA ds l h))) := id rfl
@[simp] theorem sl3_s {ns : List Int} {l h : Option Int} : sl3 (some (.frz (.scr ns))) (some l) (some h) = some (newL (cutA (ns.map D.int) l h)) := id rfl
theorem sIx_nat (l e k : Nat) : HT.sIx l e (some (k : Int)) = min k l := by
  unfold HT.sIx
  have : ¬ ((k : Int) < 0) := by omega
  simp [this]
theorem cut_to {α : Type} (xs : List α) (n : Nat) : cutA xs none (some (n : Int)) = xs.take n := by
  have h0 : HT.sIx xs.length 0 none = 0 := rfl
  unfold cutA
  rw [sIx_nat, h0, List.drop_zero, Nat.sub_zero]
  rcases Nat.le_total n xs.length with h | h
  · rw [Nat.min_eq_left h]
  · rw [Nat.min_eq_right h, List.take_of_length_le h, List.take_of_length_le (Nat.le_refl _)]
theorem cut_ft {α : Type} (xs : List α) (k n : Nat) : cutA xs (some (k : Int)) (some (n : Int)) = (xs.drop k).take (n - k) := by
  unfold cutA
  rw [sIx_nat, sIx_nat]
  apply List.ext_getElem?
  intro j
  simp only [List.getElem?_take, List.getElem?_drop]
  rcases Nat.le_total k xs.length with h | h
  · rw [Nat.min_eq_left h]
    by_cases h2 : j < n - k
    · rw [if_pos h2]
      by_cases h3 : j < min n xs.length - k
      · rw [if_pos h3]
      · rw [if_neg h3]
        exact (List.getElem?_eq_none (by omega)).symm
    · rw [if_neg h2, if_neg (by omega)]
  · rw [Nat.min_eq_right h, if_neg (by omega)]
    split
    · exact (List.getElem?_eq_none (by omega)).symm
    · rfl
def tup1 : Option (List O) → Option O
  | some os => if os.length ≤ 1000 then some (mkT os) else none
  | none => none
def lst1 : Option (List O) → Option O
  | some os => if os.length ≤ 1000 then some (.lst os) else none
  | none => none
@[simp] theorem eTup_c : eTup ms (s :: r) = tup1 (ms (s :: r)) := by unfold eTup tup1; cases ms (s :: r) <;> rfl
@[simp] theorem eLst_c : eLst ms (s :: r) = lst1 (ms (s :: r)) := by unfold eLst lst1; cases ms (s :: r) <;> rfl
@[simp] theorem lst1_s {os : List O} (h : os.length ≤ 1000) : lst1 (some os) = some (.lst os) := if_pos h
@[simp] theorem tup1_s {os : List O} (h : os.length ≤ 1000) : tup1 (some os) = some (mkT os) := if_pos h
@[simp] theorem mkT1 {d1 : D} : mkT [.frz d1] = .frz (.tup [d1]) := id rfl
@[simp] theorem mkT2 {d1 d2 : D} : mkT [.frz d1, .frz d2] = .frz (.tup [d1, d2]) := id rfl
@[simp] theorem mkT3 {d1 d2 d3 : D} : mkT [.frz d1, .frz d2, .frz d3] = .frz (.tup [d1, d2, d3]) := id rfl
@[simp] theorem mkT4 {d1 d2 d3 d4 : D} : mkT [.frz d1, .frz d2, .frz d3, .frz d4] = .frz (.tup [d1, d2, d3, d4]) := id rfl
def bN (f : List O → Option O) : Option (List O) → Option O
  | some os => f os
  | none => none
@[simp] theorem eOpN_c {f : List O → Option O} : eOpN f ms (s :: r) = bN f (ms (s :: r)) := by unfold eOpN bN; cases ms (s :: r) <;> rfl
@[simp] theorem bN_s {f : List O → Option O} {os : List O} : bN f (some os) = f os := id rfl
@[simp] theorem n1_s {f : O → Option O} : n1 f [o] = f o := id rfl
@[simp] theorem n2_s {f : O → O → Option O} : n2 f [x, y] = f x y := id rfl
@[simp] theorem oLen_l {ds : List D} : oLen (.frz (.lst ds)) = some (.frz (.int ds.length)) := id rfl
@[simp] theorem oLen_t {ds : List D} : oLen (.frz (.tup ds)) = some (.frz (.int ds.length)) := id rfl
@[simp] theorem oLen_s {ns : List Int} : oLen (.frz (.scr ns)) = some (.frz (.int ns.length)) := id rfl
@[simp] theorem oLen_n {ds : List D} : oLen (newL ds) = some (.frz (.int ds.length)) := by simp [oLen, D.len]
@[simp] theorem oLen_o {os : List O} : oLen (.lst os) = some (.frz (.int os.length)) := by simp [oLen, D.len]
theorem ints_map : ∀ ns : List Int, D.ints (ns.map D.int) = some ns
  | [] => rfl
  | n :: ns => by rw [List.map_cons, D.ints, ints_map ns]; rfl
theorem bls_map : ∀ ns : List Bool, D.bls (ns.map D.bl) = some ns
  | [] => rfl
  | n :: ns => by rw [List.map_cons, D.bls, bls_map ns]; rfl
@[simp] theorem oNums_l {ns : List Int} : oNums (.frz (.lst (ns.map D.int))) = some ns := by simp [oNums, ints_map]
@[simp] theorem oBls_l {ns : List Bool} : oBls (.frz (.lst (ns.map D.bl))) = some ns := by simp [oBls, bls_map]
@[simp] theorem oMax2_i {i j : Int} : oMax2 (.frz (.int i)) (.frz (.int j)) = some (.frz (.int (if j > i then j else i))) := by simp [oMax2]
@[simp] theorem oMin2_i {i j : Int} : oMin2 (.frz (.int i)) (.frz (.int j)) = some (.frz (.int (if j < i then j else i))) := by simp [oMin2]
@[simp] theorem oList_l {ds : List D} : oList (.frz (.lst ds)) = some (newL ds) := id rfl
@[simp] theorem oTuple_l {ds : List D} : oTuple (.frz (.lst ds)) = some (.frz (.tup ds)) := id rfl
def isi1 (n : String) : Option O → Option O
  | some o => (o.toD.tyN).map fun a => .frz (.bl (subTy a n))
  | none => none
@[simp] theorem eIsi_c {n : String} : eIsi n a (s :: r) = isi1 n (a (s :: r)) := by unfold eIsi isi1; cases a (s :: r) <;> rfl
@[simp] theorem isi1_ii {n : Int} : isi1 "int" (some (.frz (.int n))) = some (.frz (.bl true)) := by simp [isi1, D.tyN]; decide
@[simp] theorem isi1_ib {n : Int} : isi1 "bool" (some (.frz (.int n))) = some (.frz (.bl false)) := by simp [isi1, D.tyN]; decide
@[simp] theorem isi1_tt {n : List D} : isi1 "tuple" (some (.frz (.tup n))) = some (.frz (.bl true)) := by simp [isi1, D.tyN]; decide
@[simp] theorem isi1_ll {n : List D} : isi1 "list" (some (.frz (.lst n))) = some (.frz (.bl true)) := by simp [isi1, D.tyN]; decide
def cl (np : Nat) (f : Fm) : Option (List O) → Option O
  | some os => if os.length = np then callP f os else none
  | none => none
@[simp] theorem eCall_c {np : Nat} {f : Fm} : eCall np f ms (s :: r) = cl np f (ms (s :: r)) := by unfold eCall cl; cases ms (s :: r) <;> rfl
theorem cl_eq {np : Nat} {f : Fm} {ds : List D} {svs : List SV} (h : ds.length = np) (e : f (ds.map SV.frz) = some (o, svs)) : cl np f (some (ds.map O.frz)) = some o := by
  have e2 : (ds.map O.frz).map (fun o => SV.frz o.toD) = ds.map SV.frz := by rw [List.map_map]; exact List.map_congr_left fun d _ => by simp
  show (if (ds.map O.frz).length = np then callP f (ds.map O.frz) else none) = some o
  rw [if_pos (by rw [List.length_map]; exact h)]
  unfold callP
  rw [e2, e]
  show (if _ then some o else none) = some o
  rw [if_pos]
  left
  rw [List.all_map]
  exact List.all_eq_true.mpr fun _ _ => rfl
theorem cl1 {f : Fm} {d1 : D} {svs : List SV} (e : f [.frz d1] = some (o, svs)) : cl 1 f (some [.frz d1]) = some o := cl_eq (ds := [d1]) rfl e
theorem cl2 {f : Fm} {d1 d2 : D} {svs : List SV} (e : f [.frz d1, .frz d2] = some (o, svs)) : cl 2 f (some [.frz d1, .frz d2]) = some o := cl_eq (ds := [d1, d2]) rfl e
theorem cl3 {f : Fm} {d1 d2 d3 : D} {svs : List SV} (e : f [.frz d1, .frz d2, .frz d3] = some (o, svs)) : cl 3 f (some [.frz d1, .frz d2, .frz d3]) = some o := cl_eq (ds := [d1, d2, d3]) rfl e
theorem cl4 {f : Fm} {d1 d2 d3 d4 : D} {svs : List SV} (e : f [.frz d1, .frz d2, .frz d3, .frz d4] = some (o, svs)) : cl 4 f (some [.frz d1, .frz d2, .frz d3, .frz d4]) = some o := cl_eq (ds := [d1, d2, d3, d4]) rfl e
def thS : Option Out → Sm → Option Out
  | some (.nx e), u => u e
  | some o, _ => some o
  | none, _ => none
@[simp] theorem sSeq_c : sSeq st su (s :: r) = thS (st (s :: r)) su := by
  unfold sSeq thS
  cases st (s :: r) with
  | none => rfl
  | some o => cases o <;> rfl
@[simp] theorem thS_n {e : Env} : thS (some (.nx e)) su = su e := id rfl
@[simp] theorem thS_r {e : Env} : thS (some (.ret o e)) su = some (.ret o e) := id rfl
@[simp] theorem thS_b {e : Env} : thS (some (.bk e)) su = some (.bk e) := id rfl
@[simp] theorem thS_c {e : Env} : thS (some (.ct e)) su = some (.ct e) := id rfl
@[simp] theorem sNx_c : sNx env = some (.nx env) := id rfl
@[simp] theorem sBk_c : sBk env = some (.bk env) := id rfl
@[simp] theorem sCt_c : sCt env = some (.ct env) := id rfl
def st1 (i : Nat) (env : Env) : Option O → Option Out
  | some o => (setS env i (slotOf o)).map .nx
  | none => none
@[simp] theorem sSet_c : sSet i a (s :: r) = st1 i (s :: r) (a (s :: r)) := by unfold sSet st1; cases a (s :: r) <;> rfl
def plS : SV → Bool
  | .als _ _ => false
  | .io _ => false
  | _ => true
def plainE (env : Env) : Bool := env.all plS
theorem killA_p {env : Env} (h : plainE env = true) : killA i env = env := by
  unfold killA
  conv => rhs; rw [← List.map_id env]
  refine List.map_congr_left fun s hs => ?_
  have := List.all_eq_true.mp h s hs
  cases s with
  | als _ _ => cases this
  | _ => rfl
theorem io_p {env : Env} (h : plainE env = true) : isIo env[i]? = false := by
  cases q : env[i]? with
  | none => rfl
  | some s =>
    have := List.all_eq_true.mp h s (List.mem_of_getElem? q)
    cases s with
    | io _ => cases this
    | _ => rfl
theorem setS_p {env : Env} {sv : SV} (h : plainE env = true) : setS env i sv = some (env.set i sv) := by
  unfold setS
  rw [io_p h, killA_p h]
  rfl
theorem setS_e (env : Env) (i : Nat) (sv : SV) : setS env i sv = if plainE env = true then some (env.set i sv) else if isIo env[i]? = true then none else some ((killA i env).set i sv) := by
  split
  · rename_i h; exact setS_p h
  · rfl
@[simp] theorem st1_e {i : Nat} : st1 i (s :: r) (some o) = (setS (s :: r) i (slotOf o)).map .nx := id rfl
@[simp] theorem setS_c {i : Nat} {sv : SV} : setS (s :: r) i sv = if plainE (s :: r) = true then some ((s :: r).set i sv) else if isIo (s :: r)[i]? = true then none else some ((killA i (s :: r)).set i sv) := setS_e _ _ _
@[simp] theorem pE_als {j : Nat} {p : List Stp} : plainE (.als j p :: r) = false := id rfl
@[simp] theorem pE_io : plainE (.io o :: r) = false := id rfl
@[simp] theorem kA_nil : killA i [] = [] := id rfl
@[simp] theorem kA_frz : killA i (.frz d :: r) = .frz d :: killA i r := id rfl
@[simp] theorem kA_own : killA i (.own o :: r) = .own o :: killA i r := id rfl
@[simp] theorem kA_io : killA i (.io o :: r) = .io o :: killA i r := id rfl
@[simp] theorem kA_dead : killA i (.dead :: r) = .dead :: killA i r := id rfl
@[simp] theorem kA_als {j : Nat} {p : List Stp} : killA i (.als j p :: r) = (if j = i then .dead else .als j p) :: killA i r := id rfl
@[simp] theorem isIo_n : isIo none = false := id rfl
@[simp] theorem isIo_f : isIo (some (.frz d)) = false := id rfl
@[simp] theorem isIo_o : isIo (some (.own o)) = false := id rfl
@[simp] theorem isIo_i : isIo (some (.io o)) = true := id rfl
@[simp] theorem isIo_d : isIo (some .dead) = false := id rfl
@[simp] theorem isIo_a {j : Nat} {p : List Stp} : isIo (some (.als j p)) = false := id rfl
@[simp] theorem pE_nil : plainE [] = true := id rfl
@[simp] theorem pE_frz : plainE (.frz d :: r) = plainE r := id rfl
@[simp] theorem pE_own : plainE (.own o :: r) = plainE r := id rfl
@[simp] theorem pE_dead : plainE (.dead :: r) = plainE r := id rfl
@[simp] theorem slot_f : slotOf (.frz d) = .frz d := id rfl
@[simp] theorem slot_l {os : List O} : slotOf (.lst os) = .own (.lst os) := id rfl
@[simp] theorem slot_n {ds : List D} : slotOf (newL ds) = .own (newL ds) := id rfl
def rt1 (env : Env) : Option O → Option Out
  | some o => some (.ret o env)
  | none => none
@[simp] theorem sRet_c : sRet a (s :: r) = rt1 (s :: r) (a (s :: r)) := by unfold sRet rt1; cases a (s :: r) <;> rfl
@[simp] theorem rt1_s : rt1 env (some o) = some (.ret o env) := id rfl
def if1 (st su : Sm) (env : Env) : Option Bool → Option Out
  | some true => st env
  | some false => su env
  | none => none
@[simp] theorem sIf_c : sIf t st su (s :: r) = if1 st su (s :: r) (t (s :: r)) := by
  unfold sIf if1; cases t (s :: r) with
  | none => rfl
  | some b => cases b <;> rfl
@[simp] theorem if1_t : if1 st su env (some true) = st env := id rfl
@[simp] theorem if1_f : if1 st su env (some false) = su env := id rfl
def asg1 (g : Gm) (env : Env) : Option O → Option Out
  | some o => (g o env).map .nx
  | none => none
@[simp] theorem sAsg_c {g : Gm} : sAsg a g (s :: r) = asg1 g (s :: r) (a (s :: r)) := by unfold sAsg asg1; cases a (s :: r) <;> rfl
@[simp] theorem asg1_s {g : Gm} : asg1 g env (some o) = (g o env).map .nx := id rfl
@[simp] theorem gNm_f : gNm i (.frz d) env = if i < env.length then setS env i (.frz d) else none := id rfl
@[simp] theorem gTp_f {n : Nat} {g : Gms} {ds : List D} : gTp n g (.frz (.tup ds)) env = if ds.length = n then g ds env else none := id rfl
@[simp] theorem gCn_s {g : Gm} {rr : Gms} {ds : List D} : gCn g rr (d :: ds) env = (g (.frz d) env).bind fun e => rr ds e := id rfl
@[simp] theorem gNl_s : gNl [] env = some env := id rfl
@[simp] theorem sFz_c : sFz i st (s :: r) = st (fzS i (s :: r)) := id rfl
def lp1 (g : Gm) (b : Sm) (env : Env) : Option (List D) → Option Out
  | some ds => loop g b ds env
  | none => none
@[simp] theorem sFor_c {it : Im} {g : Gm} : sFor it g st (s :: r) = lp1 g st (s :: r) (it (s :: r)) := by unfold sFor lp1; cases it (s :: r) <;> rfl
@[simp] theorem lp1_s {g : Gm} {ds : List D} : lp1 g st env (some ds) = loop g st ds env := id rfl
@[simp] theorem loop_nil {g : Gm} : loop g st [] env = some (.nx env) := by unfold loop; rfl
def lp2 (g : Gm) (b : Sm) (ds : List D) : Option Out → Option Out
  | some (.nx e) => loop g b ds e
  | some (.ct e) => loop g b ds e
  | some (.bk e) => some (.nx e)
  | some (.ret o e) => some (.ret o e)
  | none => none
def bdE (st : Sm) : Option Env → Option Out
  | some e => st e
  | none => none
theorem loop_cons {g : Gm} {ds : List D} : loop g st (d :: ds) env = lp2 g st ds (bdE st (g (.frz d) env)) := by
  rw [loop]
  cases g (.frz d) env with
  | none => rfl
  | some e =>
    show (st e).bind _ = lp2 g st ds (st e)
    cases st e with
    | none => rfl
    | some o => cases o <;> rfl
@[simp] theorem bdE_s : bdE st (some env) = st env := id rfl
@[simp] theorem lp2_n {g : Gm} {ds : List D} : lp2 g st ds (some (.nx env)) = loop g st ds env := id rfl
@[simp] theorem lp2_c {g : Gm} {ds : List D} : lp2 g st ds (some (.ct env)) = loop g st ds env := id rfl
@[simp] theorem lp2_b {g : Gm} {ds : List D} : lp2 g st ds (some (.bk env)) = some (.nx env) := id rfl
@[simp] theorem lp2_r {g : Gm} {ds : List D} : lp2 g st ds (some (.ret o env)) = some (.ret o env) := id rfl
def it1 (f : O → Option (List D)) : Option O → Option (List D)
  | some o => f o
  | none => none
@[simp] theorem iLT_c : iLT a (s :: r) = it1 (fun o => (seqF o).or o.titems) (a (s :: r)) := by
  unfold iLT iL iT it1; cases a (s :: r) <;> rfl
@[simp] theorem iLTc_c : iLTc a (s :: r) = it1 (fun o => (o.litems).or o.titems) (a (s :: r)) := by
  unfold iLTc iLc iT it1; cases a (s :: r) <;> rfl
@[simp] theorem it1_s {f : O → Option (List D)} : it1 f (some o) = f o := id rfl
@[simp] theorem seqF_l {ds : List D} : seqF (.frz (.lst ds)) = some ds := id rfl
@[simp] theorem seqF_t {ds : List D} : seqF (.frz (.tup ds)) = none := id rfl
@[simp] theorem seqF_s {ns : List Int} : seqF (.frz (.scr ns)) = some (ns.map D.int) := id rfl
def itE (f : O → Option (List D)) : Option (List O) → Option (List D)
  | some [o] => (f o).map enumD
  | _ => none
@[simp] theorem iE_c : iE ms (s :: r) = itE seqF (ms (s :: r)) := by
  unfold iE itE
  cases ms (s :: r) with
  | none => rfl
  | some os => rcases os with _ | ⟨o, _ | ⟨o2, os⟩⟩ <;> rfl
@[simp] theorem iEc_c : iEc ms (s :: r) = itE O.litems (ms (s :: r)) := by
  unfold iEc itE
  cases ms (s :: r) with
  | none => rfl
  | some os => rcases os with _ | ⟨o, _ | ⟨o2, os⟩⟩ <;> rfl
@[simp] theorem itE_s {f : O → Option (List D)} : itE f (some [o]) = (f o).map enumD := id rfl
def itR : Option (List O) → Option (List D)
  | some os => (match os.map O.toD with
    | [.int j] => if -(2 ^ 62) ≤ j ∧ j < 2 ^ 62 then some (rngD 0 j.toNat) else none
    | _ => none)
  | none => none
@[simp] theorem iR1_c : iR1 ms (s :: r) = itR (ms (s :: r)) := by unfold iR1 itR; cases ms (s :: r) <;> rfl
theorem itR_i {j : Int} (h : -(2 ^ 62) ≤ j ∧ j < 2 ^ 62) : itR (some [.frz (.int j)]) = some (rngD 0 j.toNat) := by
  unfold itR; simp only [List.map_cons, List.map_nil, toD_frz]; rw [if_pos h]
theorem rng_map (n : Nat) : rngD 0 n = (List.range n).map fun (i : Nat) => D.int i := by
  unfold rngD; exact List.map_congr_left fun i _ => by simp
def lc1 (vs : List Nat) (g : Gm) (t : VL.Tm) (m : Em) (env : Env) : Option (List D) → Option O
  | some ds => if noAlsB env = true ∧ ds.length ≤ 100000 then (compL (wipeE env vs) g t m ds).map O.lst else none
  | none => none
@[simp] theorem eLcN_c {it : Im} {vs : List Nat} {g : Gm} : eLcN it vs g t m (s :: r) = lc1 vs g t m (s :: r) (it (s :: r)) := by
  unfold eLcN eLc lc1
  cases it (s :: r) with
  | none => simp
  | some ds =>
    show (if noAlsB (s :: r) = true then (if ds.length ≤ 100000 then _ else none) else none) = _
    by_cases h1 : noAlsB (s :: r) = true <;> by_cases h2 : ds.length ≤ 100000 <;> simp [h1, h2]
theorem compL_fm {α : Type} {g : Gm} (f : α → D) (p : α → Bool) (h : α → O) : ∀ (xs : List α), (∀ x ∈ xs, ∃ e, g (.frz (f x)) env = some e ∧ t e = some (p x) ∧ (p x = true → m e = some (h x))) → compL env g t m (xs.map f) = some ((xs.filter p).map h)
  | [], _ => rfl
  | x :: xs, H => by
    obtain ⟨e, e1, e2, e3⟩ := H x (by simp)
    have ih := compL_fm f p h xs fun y hy => H y (by simp [hy])
    rw [List.map_cons, compL, e1]
    show (t e).bind _ = _
    rw [e2]
    show (if p x = true then _ else _) = _
    cases hp : p x with
    | true =>
      rw [if_pos rfl, e3 hp]
      show (compL env g t m (xs.map f)).map _ = _
      rw [ih, List.filter_cons_of_pos hp]
      rfl
    | false =>
      rw [if_neg Bool.false_ne_true, ih, List.filter_cons_of_neg (by simp [hp])]
theorem lc1_fm {α : Type} {g : Gm} {vs : List Nat} (f : α → D) (p : α → Bool) (h : α → O) (xs : List α) (hn : noAlsB env = true) (hl : xs.length ≤ 100000) (H : ∀ x ∈ xs, ∃ e, g (.frz (f x)) (wipeE env vs) = some e ∧ t e = some (p x) ∧ (p x = true → m e = some (h x))) :
    lc1 vs g t m env (some (xs.map f)) = some (.lst ((xs.filter p).map h)) := by
  show (if noAlsB env = true ∧ (xs.map f).length ≤ 100000 then (compL (wipeE env vs) g t m (xs.map f)).map O.lst else none) = _
  rw [if_pos ⟨hn, by simpa using hl⟩, compL_fm f p h xs H]
  rfl
theorem lc1_m {α : Type} {g : Gm} {vs : List Nat} (f : α → D) (h : α → O) (xs : List α) (hn : noAlsB env = true) (hl : xs.length ≤ 100000) (H : ∀ x ∈ xs, ∃ e, g (.frz (f x)) (wipeE env vs) = some e ∧ m e = some (h x)) :
    lc1 vs g yesT m env (some (xs.map f)) = some (.lst (xs.map h)) := by
  have := lc1_fm (t := yesT) (m := m) (vs := vs) f (fun _ => true) h xs hn hl fun x hx => by
    obtain ⟨e, h1, h2⟩ := H x hx
    exact ⟨e, h1, rfl, fun _ => h2⟩
  rw [List.filter_eq_self.mpr (fun _ _ => rfl)] at this
  exact this
@[simp] theorem wipe_n : wipeE env [] = env := id rfl
@[simp] theorem wipe_cc {vs : List Nat} {v : Nat} : wipeE env (v :: vs) = (wipeE env vs).set v .dead := id rfl
@[simp] theorem nA_nil : noAlsB [] = true := id rfl
@[simp] theorem nA_frz : noAlsB (.frz d :: r) = noAlsB r := id rfl
@[simp] theorem nA_own : noAlsB (.own o :: r) = noAlsB r := id rfl
@[simp] theorem nA_dead : noAlsB (.dead :: r) = noAlsB r := id rfl
theorem fn_eq {np n : Nat} {sm : Sm} {ds : List D} {e : Env} (hn : ds.length = np) (h : sm (ds.map SV.frz ++ List.replicate (n - np) .dead) = some (.ret o e)) : fnM np n sm (ds.map SV.frz) = some (o, ds.map SV.frz) := by
  unfold fnM
  rw [if_pos ⟨by simpa using hn, all_frz ds⟩, h]
  show some (o, outs _ e) = _
  congr 2
  unfold outs
  apply List.ext_getElem?
  intro j
  rw [List.getElem?_mapIdx, List.getElem?_map]
  cases ds[j]? <;> rfl
theorem fn1 {n : Nat} {sm : Sm} {d1 : D} {e : Env} (h : sm (.frz d1 :: List.replicate (n - 1) .dead) = some (.ret o e)) : fnM 1 n sm [.frz d1] = some (o, [.frz d1]) := fn_eq (ds := [d1]) rfl h
theorem fn2 {n : Nat} {sm : Sm} {d1 d2 : D} {e : Env} (h : sm (.frz d1 :: .frz d2 :: List.replicate (n - 2) .dead) = some (.ret o e)) : fnM 2 n sm [.frz d1, .frz d2] = some (o, [.frz d1, .frz d2]) := fn_eq (ds := [d1, d2]) rfl h
theorem fn3 {n : Nat} {sm : Sm} {d1 d2 d3 : D} {e : Env} (h : sm (.frz d1 :: .frz d2 :: .frz d3 :: List.replicate (n - 3) .dead) = some (.ret o e)) : fnM 3 n sm [.frz d1, .frz d2, .frz d3] = some (o, [.frz d1, .frz d2, .frz d3]) := fn_eq (ds := [d1, d2, d3]) rfl h
theorem fn4 {n : Nat} {sm : Sm} {d1 d2 d3 d4 : D} {e : Env} (h : sm (.frz d1 :: .frz d2 :: .frz d3 :: .frz d4 :: List.replicate (n - 4) .dead) = some (.ret o e)) : fnM 4 n sm [.frz d1, .frz d2, .frz d3, .frz d4] = some (o, [.frz d1, .frz d2, .frz d3, .frz d4]) := fn_eq (ds := [d1, d2, d3, d4]) rfl h
end VL
namespace VL
open PySem PySem.Spec PyProof.Rows L2
variable {s x : SV} {r : Env} {i j : Nat} {a b c m : Em} {ms : Es} {t u : VL.Tm} {st su : Sm} {o n n' : O} {d e : D} {env : Env} {p q : List Stp} {os : List O} {f : O → List O → Option O}
@[simp] theorem pE_c : plainE (s :: r) = (plS s && plainE r) := id rfl
@[simp] theorem pl_f : plS (.frz d) = true := id rfl
@[simp] theorem pl_o : plS (.own o) = true := id rfl
@[simp] theorem pl_d : plS .dead = true := id rfl
@[simp] theorem pl_a : plS (.als j p) = false := id rfl
@[simp] theorem pl_i : plS (.io o) = false := id rfl
def kS (i : Nat) : SV → SV
  | .als r p => if r = i then .dead else .als r p
  | s => s
@[simp] theorem kA_c : killA i (s :: r) = kS i s :: killA i r := by cases s <;> rfl
@[simp] theorem kS_f : kS i (.frz d) = .frz d := id rfl
@[simp] theorem kS_o : kS i (.own o) = .own o := id rfl
@[simp] theorem kS_d : kS i .dead = .dead := id rfl
@[simp] theorem kS_i : kS i (.io o) = .io o := id rfl
@[simp] theorem kS_a : kS i (.als j p) = if j = i then .dead else .als j p := id rfl
theorem kS_p (h : plS x = true) : kS i x = x := by
  cases x with
  | als _ _ => cases h
  | _ => rfl
def kP (i : Nat) (p : List Stp) : SV → SV
  | .als r p' => if r = i ∧ ¬ p' <+: p then .dead else .als r p'
  | s => s
@[simp] theorem kP_nil : killP i p [] = [] := id rfl
@[simp] theorem kP_c : killP i p (s :: r) = kP i p s :: killP i p r := by cases s <;> rfl
@[simp] theorem kP_f : kP i p (.frz d) = .frz d := id rfl
@[simp] theorem kP_o : kP i p (.own o) = .own o := id rfl
@[simp] theorem kP_d : kP i p .dead = .dead := id rfl
@[simp] theorem kP_i : kP i p (.io o) = .io o := id rfl
@[simp] theorem kP_a : kP i p (.als j q) = if j = i ∧ ¬ q <+: p then .dead else .als j q := id rfl
theorem kP_p (h : plS x = true) : kP i p x = x := by
  cases x with
  | als _ _ => cases h
  | _ => rfl
def nS : SV → Bool
  | .als _ _ => false
  | _ => true
@[simp] theorem nA_c : noAlsB (s :: r) = (nS s && noAlsB r) := by cases s <;> rfl
@[simp] theorem nS_f : nS (.frz d) = true := id rfl
@[simp] theorem nS_o : nS (.own o) = true := id rfl
@[simp] theorem nS_d : nS .dead = true := id rfl
@[simp] theorem nS_i : nS (.io o) = true := id rfl
theorem nS_p (h : plS x = true) : nS x = true := by
  cases x with
  | als _ _ => cases h
  | _ => rfl
def qv (i : Nat) : Option SV → Option (Nat × List Stp)
  | some (.own _) => some (i, [])
  | some (.io _) => some (i, [])
  | some (.als r p) => some (r, p)
  | _ => none
@[simp] theorem qVar_c : qVar i (s :: r) = qv i (s :: r)[i]? := by
  unfold qVar qv
  split <;> simp_all
@[simp] theorem qv_o : qv i (some (.own o)) = some (i, []) := id rfl
@[simp] theorem qv_i : qv i (some (.io o)) = some (i, []) := id rfl
@[simp] theorem qv_a : qv i (some (.als j p)) = some (j, p) := id rfl
def okq (p : List Stp) : Option SV → Option O
  | some (.own o) => o.walk p
  | some (.io o) => o.walk p
  | _ => none
@[simp] theorem okQ_c : okQ (s :: r) (i, p) = okq p (s :: r)[i]? := by
  unfold okQ rootO okq
  simp only
  cases (s :: r)[i]? with
  | none => rfl
  | some x => cases x <;> rfl
@[simp] theorem okq_o : okq p (some (.own o)) = o.walk p := id rfl
@[simp] theorem okq_i : okq p (some (.io o)) = o.walk p := id rfl
@[simp] theorem walk_n : O.walk o [] = some o := by rw [O.walk]
@[simp] theorem walk_c {k : Stp} : O.walk o (k :: p) = (o.step k).bind fun o' => o'.walk p := by rw [O.walk]
@[simp] theorem step_l {k : Nat} : O.step (.lst os) (.ix k) = os[k]? := id rfl
def mt (env : Env) (i : Nat) (p : List Stp) (n' : O) : Option SV → Env
  | some (.own o) => (killP i p env).set i (.own (o.putW p n'))
  | some (.io o) => (killP i p env).set i (.io (o.putW p n'))
  | _ => env
@[simp] theorem mutS_c : mutS (s :: r) i p n' = mt (s :: r) i p n' (s :: r)[i]? := by
  unfold mutS mt
  split <;> simp_all
@[simp] theorem mt_o : mt env i p n' (some (.own o)) = (killP i p env).set i (.own (o.putW p n')) := id rfl
@[simp] theorem mt_i : mt env i p n' (some (.io o)) = (killP i p env).set i (.io (o.putW p n')) := id rfl
@[simp] theorem putW_n : O.putW o [] n = n := by rw [O.putW]
theorem putW_l {k : Nat} {os : List O} {o : O} (h : os[k]? = some o) : O.putW (.lst os) (.ix k :: p) n = .lst (os.set k (o.putW p n)) := by
  rw [O.putW]
  simp [O.step, h, O.put]
def ac1 (f : O → List O → Option O) (env : Env) (rp : Nat × List Stp) (os : Option (List O)) : Option O → Option Out
  | some n => (match os with
    | some os => if isLst n = true then (f n os).map fun n' => .nx (mutS env rp.1 rp.2 n') else none
    | none => none)
  | none => none
def ac2 (f : O → List O → Option O) (env : Env) (os : Option (List O)) : Option (Nat × List Stp) → Option Out
  | some rp => ac1 f env rp os (okQ env rp)
  | none => none
@[simp] theorem sAct_c {qq : Qm} : sAct f qq ms (s :: r) = ac2 f (s :: r) (ms (s :: r)) (qq (s :: r)) := by
  unfold sAct ac2 ac1
  cases qq (s :: r) with
  | none => rfl
  | some rp =>
    show (okQ (s :: r) rp).bind _ = _
    simp only
    cases okQ (s :: r) rp with
    | none => rfl
    | some n =>
      show (if isLst n = true then (ms (s :: r)).bind _ else none) = _
      simp only
      cases ms (s :: r) with
      | none => simp
      | some os => rfl
@[simp] theorem ac2_s {rp : Nat × List Stp} : ac2 f env (some os) (some rp) = ac1 f env rp (some os) (okQ env rp) := id rfl
@[simp] theorem ac1_s {rp : Nat × List Stp} : ac1 f env rp (some os) (some n) = if isLst n = true then (f n os).map fun n' => .nx (mutS env rp.1 rp.2 n') else none := id rfl
@[simp] theorem isLst_l : isLst (.lst os) = true := id rfl
@[simp] theorem isLst_n {ds : List D} : isLst (newL ds) = true := id rfl
@[simp] theorem aAppend_l : aAppend (.lst os) [o] = if os.length < 16777216 then some (.lst (os ++ [o])) else none := id rfl
theorem aAppend_n {ds : List D} (h : ds.length < 16777216) : aAppend (newL ds) [.frz d] = some (newL (ds ++ [d])) := by
  unfold newL
  rw [aAppend_l, if_pos (by simpa using h)]
  simp
def als1 (i : Nat) (env : Env) (rp : Nat × List Stp) : Option O → Option Out
  | some _ => if isIo env[i]? = true ∨ rp.1 = i ∨ ¬ i < env.length then none else some (.nx ((killA i env).set i (.als rp.1 rp.2)))
  | none => none
def als2 (i : Nat) (env : Env) : Option (Nat × List Stp) → Option Out
  | some rp => als1 i env rp (okQ env rp)
  | none => none
@[simp] theorem sAls_c {qq : Qm} : sAls i qq (s :: r) = als2 i (s :: r) (qq (s :: r)) := by
  unfold sAls als2 als1
  cases qq (s :: r) with
  | none => rfl
  | some rp =>
    show (okQ (s :: r) rp).bind _ = _
    simp only
    cases okQ (s :: r) rp <;> rfl
@[simp] theorem als2_s {rp : Nat × List Stp} : als2 i env (some rp) = als1 i env rp (okQ env rp) := id rfl
@[simp] theorem als1_s {rp : Nat × List Stp} : als1 i env rp (some n) = if isIo env[i]? = true ∨ rp.1 = i ∨ ¬ i < env.length then none else some (.nx ((killA i env).set i (.als rp.1 rp.2))) := id rfl
def qi1 (env : Env) (o : Option O) : Option (Nat × List Stp) → Option (Nat × List Stp)
  | some rp => (okQ env rp).bind fun n => o.bind fun o => (stpOf n o.toD).bind fun s => if (n.step s).isSome = true then some (rp.1, rp.2 ++ [s]) else none
  | none => none
@[simp] theorem qIx_c {qq : Qm} : qIx qq a (s :: r) = qi1 (s :: r) (a (s :: r)) (qq (s :: r)) := by
  unfold qIx qi1
  cases qq (s :: r) <;> rfl
theorem ixN_nat {l k : Nat} (h : k < l) : ixN l (k : Int) = some k := by unfold ixN; simp [h]
theorem qi1_own {os : List O} {k : Nat} {v : Int} (h1 : (env)[i]? = some (.own (.lst os))) (hv : v = k) (h2 : k < os.length) : qi1 env (some (.frz (.int v))) (some (i, [])) = some (i, [.ix k]) := by
  subst hv
  unfold qi1 okQ rootO
  simp only [h1]
  simp [stpOf, ixN_nat h2, O.step, h2]
@[simp] theorem rdS_als {k : Nat} : rdS env (some (.als k p)) = okq p env[k]? := by
  unfold rdS okq
  rfl
def fzo (env : Env) (i : Nat) : Option SV → Env
  | some (.own o) => (killA i env).set i (.frz o.toD)
  | _ => env
@[simp] theorem fzS_c : fzS i (s :: r) = fzo (s :: r) i (s :: r)[i]? := by
  unfold fzS fzo
  rfl
@[simp] theorem fzo_o : fzo env i (some (.own o)) = (killA i env).set i (.frz o.toD) := id rfl
@[simp] theorem fzo_f : fzo env i (some (.frz d)) = env := id rfl
@[simp] theorem fzo_d : fzo env i (some .dead) = env := id rfl
theorem io_pl (h : plS x = true) : isIo (some x) = false := by cases x <;> first | rfl | cases h
end VL
namespace VL
open PySem PySem.Spec PyProof.Rows L2
theorem ofS_inj {a b : String} (h : Str.ofString a = Str.ofString b) : a = b := by
  rw [Str.ofString_eq_toList, Str.ofString_eq_toList] at h
  have h1 : (a.toList.map Char.toNat) = (b.toList.map Char.toNat) := by simpa using h
  have inj : ∀ x y : List Char, x.map Char.toNat = y.map Char.toNat → x = y := by
    intro x
    induction x with
    | nil => intro y h; cases y with
      | nil => rfl
      | cons _ _ => cases h
    | cons c x ih => intro y h; cases y with
      | nil => cases h
      | cons d y =>
        rw [List.map_cons, List.map_cons] at h
        have hc : c.toNat = d.toNat := (List.cons.inj h).1
        have : c = d := Char.ext (UInt32.toNat_inj.mp hc)
        rw [this, ih y (List.cons.inj h).2]
  exact String.toList_inj.mp (inj _ _ h1)
@[simp] theorem ofS_beq {a b : String} : (Str.ofString a == Str.ofString b) = (a == b) := by
  by_cases h : a = b
  · rw [h]; simp
  · rw [beq_eq_false_iff_ne.mpr h, beq_eq_false_iff_ne.mpr fun z => h (ofS_inj z)]
@[simp] theorem ofS_bne {a b : String} : (Str.ofString a != Str.ofString b) = (a != b) := by
  unfold bne; rw [ofS_beq]
@[simp] theorem ofS_eq {a b : String} : (Str.ofString a = Str.ofString b) = (a = b) := propext ⟨ofS_inj, fun h => by rw [h]⟩
variable {d e : D} {ds es : List D} {n k : Nat}
/-- plain data of depth n at most -/
def PyOk (n : Nat) (d : D) : Prop := ∃ x, d.py = some x ∧ x.depth ≤ n
def PysOk (n : Nat) (ds : List D) : Prop := ∃ xs, D.pys ds = some xs ∧ PyData.depthAll xs ≤ n
theorem PyOk.int {i : Int} : PyOk n (.int i) := ⟨.int i, rfl, by rw [PyData.depth]; exact Nat.zero_le _⟩
theorem PyOk.str {i : Str} : PyOk n (.str i) := ⟨.str i, rfl, by rw [PyData.depth]; exact Nat.zero_le _⟩
theorem PyOk.bl {i : Bool} : PyOk n (.bl i) := ⟨.bool i, rfl, by rw [PyData.depth]; exact Nat.zero_le _⟩
theorem PyOk.non : PyOk n .non := ⟨.none, rfl, by rw [PyData.depth]; exact Nat.zero_le _⟩
theorem PysOk.nil : PysOk n [] := ⟨[], rfl, by rw [PyData.depthAll]; exact Nat.zero_le _⟩
theorem PysOk.cons (h : PyOk n d) (t : PysOk n ds) : PysOk n (d :: ds) := by
  obtain ⟨x, h1, h2⟩ := h
  obtain ⟨xs, t1, t2⟩ := t
  refine ⟨x :: xs, by rw [D.pys, h1, t1]; rfl, ?_⟩
  rw [PyData.depthAll]
  omega
theorem PysOk.map {α : Type} {f : α → D} {xs : List α} (h : ∀ x ∈ xs, PyOk n (f x)) : PysOk n (xs.map f) := by
  induction xs with
  | nil => exact .nil
  | cons x xs ih => exact .cons (h x (by simp)) (ih fun y hy => h y (by simp [hy]))
theorem PyOk.lst (t : PysOk n ds) : PyOk (n + 1) (.lst ds) := by
  obtain ⟨xs, t1, t2⟩ := t
  exact ⟨.list xs, by rw [D.py, t1]; rfl, by rw [PyData.depth]; omega⟩
theorem PyOk.tup (t : PysOk n ds) : PyOk (n + 1) (.tup ds) := by
  obtain ⟨xs, t1, t2⟩ := t
  exact ⟨.tuple xs, by rw [D.py, t1]; rfl, by rw [PyData.depth]; omega⟩
theorem PyOk.mono (h : PyOk n d) (hk : n ≤ k) : PyOk k d := let ⟨x, h1, h2⟩ := h; ⟨x, h1, Nat.le_trans h2 hk⟩
theorem gEq_self (h : PyOk n d) (hn : n ≤ 30) : gEq d d = some (.bl true) := by
  obtain ⟨x, h1, h2⟩ := h
  unfold gEq
  rw [h1]
  show (eqP x x).map _ = _
  unfold eqP
  rw [if_pos (by omega), PySem.SeqAt.eqv_refl_plain x (py_plain d x h1)]
  rfl
theorem gNe_self (h : PyOk n d) (hn : n ≤ 30) : gNe d d = some (.bl false) := by
  obtain ⟨x, h1, h2⟩ := h
  unfold gNe
  rw [h1]
  show (eqP x x).map _ = _
  unfold eqP
  rw [if_pos (by omega), PySem.SeqAt.eqv_refl_plain x (py_plain d x h1)]
  rfl
@[simp] theorem gEq_ii {i j : Int} : gEq (.int i) (.int j) = some (.bl (i == j)) := by
  simp [gEq, D.py, eqP, PyData.depth, PyData.eqv]
@[simp] theorem gEq_ss {i j : Str} : gEq (.str i) (.str j) = some (.bl (i == j)) := by
  simp [gEq, D.py, eqP, PyData.depth, PyData.eqv]
@[simp] theorem gNe_ii {i j : Int} : gNe (.int i) (.int j) = some (.bl (i != j)) := by
  simp [gNe, D.py, eqP, PyData.depth, PyData.eqv, bne]
@[simp] theorem gNe_ss {i j : Str} : gNe (.str i) (.str j) = some (.bl (i != j)) := by
  simp [gNe, D.py, eqP, PyData.depth, PyData.eqv, bne]
theorem gEq_nil (h : PysOk n ds) : gEq (.lst ds) (.lst []) = some (.bl ds.isEmpty) := by
  obtain ⟨xs, h1, h2⟩ := h
  have e : PyData.eqvAll xs [] = ds.isEmpty := by
    cases ds with
    | nil => cases h1; rfl
    | cons d ds =>
      rw [D.pys] at h1
      obtain ⟨x, _, h1⟩ := Option.bind_eq_some_iff.mp h1
      obtain ⟨ys, _, h1⟩ := Option.map_eq_some_iff.mp h1
      subst h1
      rfl
  simp [gEq, D.py, D.pys, h1, eqP, PyData.depth, PyData.depthAll, PyData.eqv, e]
theorem gNe_nil (h : PysOk n ds) : gNe (.lst ds) (.lst []) = some (.bl (!ds.isEmpty)) := by
  obtain ⟨xs, h1, h2⟩ := h
  have e : PyData.eqvAll xs [] = ds.isEmpty := by
    cases ds with
    | nil => cases h1; rfl
    | cons d ds =>
      rw [D.pys] at h1
      obtain ⟨x, _, h1⟩ := Option.bind_eq_some_iff.mp h1
      obtain ⟨ys, _, h1⟩ := Option.map_eq_some_iff.mp h1
      subst h1
      rfl
  simp [gNe, D.py, D.pys, h1, eqP, PyData.depth, PyData.depthAll, PyData.eqv, e]
/-- x in [f y, ..] -/
theorem any_py {α : Type} {f : α → D} {P : α → Bool} {x : PyData} : ∀ {ys : List α}, (∀ y ∈ ys, ∃ z, (f y).py = some z ∧ PyData.eqv z x = P y) → ∃ zs, D.pys (ys.map f) = some zs ∧ (zs.any fun z => PyData.eqv z x) = ys.any P
  | [], _ => ⟨[], rfl, rfl⟩
  | y :: ys, h => by
    obtain ⟨z, h1, h2⟩ := h y (by simp)
    obtain ⟨zs, h3, h4⟩ := any_py (ys := ys) fun y hy => h y (by simp [hy])
    exact ⟨z :: zs, by rw [List.map_cons, D.pys, h1, h3]; rfl, by rw [List.any_cons, List.any_cons, h2, h4]⟩
theorem oIn_l {α : Type} {f : α → D} {P : α → Bool} {neg : Bool} {x : PyData} {ys : List α} (hd : d.py = some x) (hx : x.depth ≤ 30) (h : ∀ y ∈ ys, ∃ z, (f y).py = some z ∧ PyData.eqv z x = P y) : oIn neg (.frz d) (.frz (.lst (ys.map f))) = some (.frz (.bl (neg ^^ ys.any P))) := by
  obtain ⟨zs, h1, h2⟩ := any_py h
  unfold oIn orO
  rw [sc2_s, toD_frz, toD_frz]
  have : gInS neg d (.lst (ys.map f)) = some (.bl (neg ^^ ys.any P)) := by
    unfold gInS
    rw [hd]
    show (D.pys (ys.map f)).bind (inP neg x) = _
    rw [h1]
    show inP neg x zs = _
    unfold inP
    rw [if_pos hx, h2]
  rw [this]
  rfl
theorem oIn_t {α : Type} {f : α → D} {P : α → Bool} {neg : Bool} {x : PyData} {ys : List α} (hd : d.py = some x) (hx : x.depth ≤ 30) (h : ∀ y ∈ ys, ∃ z, (f y).py = some z ∧ PyData.eqv z x = P y) : oIn neg (.frz d) (.frz (.tup (ys.map f))) = some (.frz (.bl (neg ^^ ys.any P))) := by
  obtain ⟨zs, h1, h2⟩ := any_py h
  unfold oIn orO
  rw [sc2_s, toD_frz, toD_frz]
  have : gInS neg d (.tup (ys.map f)) = some (.bl (neg ^^ ys.any P)) := by
    unfold gInS
    rw [hd]
    show (D.pys (ys.map f)).bind (inP neg x) = _
    rw [h1]
    show inP neg x zs = _
    unfold inP
    rw [if_pos hx, h2]
  rw [this]
  rfl
/-- a text in a tuple of texts -/
theorem oIn_ts {neg : Bool} {x : Str} {ys : List Str} : oIn neg (.frz (.str x)) (.frz (.tup (ys.map D.str))) = some (.frz (.bl (neg ^^ ys.any fun y => y == x))) :=
  oIn_t (x := .str x) rfl (by rw [PyData.depth]; omega) fun y _ => ⟨.str y, rfl, rfl⟩
@[simp] theorem oIn_ts2 {neg : Bool} {x y z : Str} : oIn neg (.frz (.str x)) (.frz (.tup [.str y, .str z])) = some (.frz (.bl (neg ^^ (y == x || z == x)))) := by
  have := oIn_ts (neg := neg) (x := x) (ys := [y, z])
  simpa using this
end VL
namespace VL
open PySem PySem.Spec PyProof.Rows L2 PySem.W
def tup1P : PyData → Bool
  | .tuple (_ :: _) => true
  | _ => false
def othP : PyData → Bool
  | .tuple _ => false
  | .none => false
  | _ => true
def sortOk (ps : List PyData) : Bool := (ps.all fun p => ps.all fun q => alike p q) && (ps.all tup1P || ps.all othP)
def D.pyD (d : D) : PyData := (d.py).getD .none
def sortD (ds : List D) : List D := ds.mergeSort (dataLe false D.pyD)
def oSorted (o : O) : Option O := (o.litems).bind fun ds => (D.pys ds).bind fun ps => if sortOk ps = true ∧ PyData.depthAll ps ≤ 30 then some (newL (sortD ds)) else none
theorem pys_pyD : ∀ {ds : List D} {ps : List PyData}, D.pys ds = some ps → ps = ds.map D.pyD ∧ ∀ d ∈ ds, d.py = some d.pyD
  | [], ps, h => by cases h; exact ⟨rfl, fun d hd => nomatch hd⟩
  | d :: ds, ps, h => by
    rw [D.pys] at h
    obtain ⟨x, h1, h⟩ := Option.bind_eq_some_iff.mp h
    obtain ⟨xs, h2, h3⟩ := Option.map_eq_some_iff.mp h
    subst h3
    obtain ⟨e1, e2⟩ := pys_pyD h2
    have e : d.pyD = x := by unfold D.pyD; rw [h1]; rfl
    refine ⟨by rw [List.map_cons, e, e1], fun b hb => ?_⟩
    rcases List.mem_cons.mp hb with rfl | hb
    · rw [h1, e]
    · exact e2 b hb
theorem depth_mem : ∀ {ps : List PyData} {p : PyData} {n : Nat}, PyData.depthAll ps ≤ n → p ∈ ps → p.depth ≤ n
  | q :: ps, p, n, h, hp => by
    rw [PyData.depthAll] at h
    rcases List.mem_cons.mp hp with rfl | hp
    · omega
    · exact depth_mem (by omega) hp
theorem sortOk_of {ps : List PyData} (h : sortOk ps = true) : AllAlike ps ∧ Sortable ps := by
  unfold sortOk at h
  obtain ⟨h1, h2⟩ := Bool.and_eq_true_iff.mp h
  refine ⟨fun p hp q hq => List.all_eq_true.mp (List.all_eq_true.mp h1 p hp) q hq, ?_⟩
  rcases Bool.or_eq_true_iff.mp h2 with h2 | h2
  · refine .inl fun d hd => ?_
    have := List.all_eq_true.mp h2 d hd
    unfold tup1P at this
    split at this
    · exact ⟨_, _, rfl⟩
    · cases this
  · refine .inr fun d hd => ?_
    have := List.all_eq_true.mp h2 d hd
    refine ⟨fun z => ?_, fun xs z => ?_⟩
    · rw [z] at this; cases this
    · rw [z] at this; cases this
def rSortD (K : PySem.W.Frag) : List V → Hp → VK → Prop := fun vs H Q => ∃ (a : Addr) (xs : List V) (F : Hp) (ds : List D), vs = [V.ref a] ∧ SqL K H a xs ∧ VwL K F xs ds ∧ SubN F H ∧ (∀ d ∈ ds, d.py = some d.pyD) ∧ AllAlike (ds.map D.pyD) ∧ Sortable (ds.map D.pyD) ∧ (∀ d ∈ ds, d.pyD.depth ≤ 30) ∧
  ∀ (ys : List V) (p : Addr), VwL K F ys (sortD ds) → H p = none → Q (.ref p) (upd H p (.lst ys))
section
variable {X : Cx}
theorem each_rd {pins : List (Addr × Obj)} {σ : L2.St} {H F : Hp} {s : Shared} (I : Inv X pins σ H s) (sub : SubN F H) : ∀ {vs : List V} {us : List Value} {ds : List D}, Vals vs us → VwL X.K F vs ds → (∀ d ∈ ds, d.py = some d.pyD) → EachIs (fun v d => ∃ as, Reads s.heap v (D.pyD d) as) us ds
  | _, _, _, .nil, .nil, _ => .nil
  | _, _, _, .cons r t, .cons h l, k => .cons (Dp.reads I _ _ _ ((h.sub sub).dp (k _ (by simp))) r) (each_rd I sub t l fun d hd => k d (by simp [hd]))
theorem cr_sortD (hu : X.A.units + 64 < cLine) : CallR X (.builtin "sorted") (rSortD X.K) := by
  intro pins s σ H vs us Q I r h
  obtain ⟨a, xs, F, ds, rfl, hs, l, sub, hpy, hal, hso, hdp, q⟩ := h
  obtain ⟨its, rv, hl, hz⟩ := I.list hs
  rw [Vals.ref1 r]
  have hlen := l.length
  refine sorted_data (R := RD X.K F) (bs := ds) (enc := D.pyD) hl.isList (each_of rv l) (each_rd I sub rv l hpy) hal hso (by rw [← hlen]; exact hz) (fun d hd => by have := hdp d hd; omega) fun out hlo eo => ?_
  obtain ⟨ys, r2, l2⟩ := of_each eo
  have hp : H (s.heap.objs.size + 1) = none := I.hok.fresh (Nat.le_succ _)
  have hln : ys.length ≤ sizeLine := by rw [r2.length, hlo, ← hlen]; exact hz
  obtain ⟨ep, he'⟩ := PyProof.Rows.sortedAll_at s.heap its out.toArray
  exact ⟨.ref (s.heap.objs.size + 1), upd H (s.heap.objs.size + 1) (.lst ys), I.laid (t' := s.toks) (fun _ _ => PyProof.Rows.sortedAll_old) (Nat.le_succ _) ⟨hln, out, ep, r2, he'⟩, rfl, q ys _ l2 hp⟩
end
section
variable {K : PySem.W.Frag} {T : Tab}
theorem op_sortD : OpN K T (rSortD K) (n1 oSorted) := .one fun F H x a o Q gl hx e k => by
  obtain ⟨ds, e1, e⟩ := Option.bind_eq_some_iff.mp e
  obtain ⟨ps, e2, e⟩ := Option.bind_eq_some_iff.mp e
  split at e
  · rename_i c
    cases e
    obtain ⟨p, vs, rfl, h, l⟩ := hx.litems gl e1
    obtain ⟨g1, g2⟩ := pys_pyD e2
    obtain ⟨c1, c2⟩ := sortOk_of c.1
    rw [g1] at c1 c2
    refine ⟨p, vs, F, ds, rfl, h, l, gl.sub, g2, c1, c2, fun d hd => ?_, fun ys r hy hr => ?_⟩
    · refine depth_mem (ps := ps) c.2 ?_
      rw [g1]
      exact List.mem_map.mpr ⟨d, hd, rfl⟩
    · obtain ⟨px, f⟩ := new_lst gl hr hy
      exact k _ _ _ _ px f
  · cases e
end
def sPar (i j : Nat) (m : Es) : Sm := fun env => (m env).bind fun os => match os with
  | [p, q] => (asFrz p).bind fun d => (asFrz q).bind fun e => if i < env.length ∧ j < env.length then (setS env i (.frz d)).bind fun e1 => (setS e1 j (.frz e)).map .nx else none
  | _ => none
section
variable {X : Cx} {T : Tab} {m : Es}
end
@[simp] theorem sPar_c {i j : Nat} {m : Es} {s : SV} {r : Env} : sPar i j m (s :: r) = (m (s :: r)).bind fun os => match os with
  | [p, q] => (asFrz p).bind fun d => (asFrz q).bind fun e => if i < (s :: r).length ∧ j < (s :: r).length then (setS (s :: r) i (.frz d)).bind fun e1 => (setS e1 j (.frz e)).map .nx else none
  | _ => none := rfl
theorem mkT_n {ds : List D} {d : D} : mkT [newL ds, .frz d] = .tup [newL ds, .frz d] := by
  have : asFrz (newL ds) = none := by
    show (if (newL ds).toD.imm = true then some (newL ds).toD else none) = none
    rw [toD_newL, D.imm]
    rfl
  unfold mkT
  rw [List.mapM_cons, this]
  rfl
end VL
namespace VL
open PySem PySem.Spec PyProof.Rows L2
def isS (o : O) : Bool := match o.toD with
  | .str _ => true
  | _ => false
def eOpM (f : O → List O → Option O) (mo : Em) (m : Es) : Em := fun env => (mo env).bind fun a => (m env).bind fun os => if isS a = true then f a os else none
section
variable {X : Cx} {T : Tab} {o e : Expr} {es : List Expr} {mo : Em} {m : Es} {r : V → List V → Hp → VK → Prop} {f : O → List O → Option O} {name : Str} {id : String} {apos cpos : Pos}
end
def D.strs : List D → Option (List Str)
  | [] => some []
  | .str x :: r => (D.strs r).map fun xs => x :: xs
  | _ => none
theorem VwL.strsO {K : PySem.W.Frag} {H : Hp} : ∀ {vs : List V} {ds : List D} {xs : List Str}, VwL K H vs ds → D.strs ds = some xs → vs = xs.map V.str
  | _, [], xs, l, e => by
    cases l
    have : xs = [] := by simpa [D.strs] using e.symm
    subst this; rfl
  | _, d :: ds, xs, l, e => by
    cases l with
    | cons h t =>
      cases d <;> simp only [D.strs] at e
      case str x =>
        obtain ⟨r, e1, e2⟩ := Option.map_eq_some_iff.mp e
        subst e2
        cases h
        rw [VwL.strsO t e1]; rfl
      all_goals cases e
def oStrs (o : O) : Option (List Str) := match o.toD with
  | .lst ds => D.strs ds
  | .tup ds => D.strs ds
  | _ => none
def oStarts : O → List O → Option O := fun a os => match a.toD, os.map O.toD with
  | .str s, [.str b] => some (.frz (.bl (Txt.startswith s b)))
  | _, _ => none
section
variable {K : PySem.W.Frag} {T : Tab} {F H : Hp}
theorem VwO.strs {v : V} {o : O} {ys : List Str} (h : VwO K F H v o) (g : Gl T F H) (e : oStrs o = some ys) : ∃ p, v = .ref p ∧ (SqL K H p (ys.map V.str) ∨ SqT K H p (ys.map V.str)) := by
  have hv := h.vw g
  unfold oStrs at e
  generalize o.toD = d at hv e
  cases hv with
  | lst h2 l => rw [← VwL.strsO l e]; exact ⟨_, rfl, .inl (.of h2)⟩
  | tup h2 l => rw [← VwL.strsO l e]; exact ⟨_, rfl, .inr (.of h2)⟩
  | _ => cases e
theorem RoL.cut {vs : List V} {os : List O} : ∀ {A : List Addr} (n : Nat), RoL K F H vs os A → ∃ A1 A2, A = A1 ++ A2 ∧ RoL K F H (vs.take n) (os.take n) A1 ∧ RoL K F H (vs.drop n) (os.drop n) A2 := by
  intro A n l
  induction n generalizing vs os A with
  | zero => exact ⟨[], A, rfl, .nil, l⟩
  | succ n ih =>
    cases l with
    | nil => exact ⟨[], [], rfl, .nil, .nil⟩
    | cons h t =>
      obtain ⟨A1, A2, e, l1, l2⟩ := ih t
      exact ⟨_ ++ A1, A2, by rw [e, List.append_assoc], .cons h l1, l2⟩
end
section
variable {X : Cx} {T : Tab} {x : Str} {pos : Pos}
end
def FD (X : Cx) (T : Tab) (pos : Pos) (keys : List (Option Expr)) (values : List Expr) (kms : List (Str × Em)) : Prop := PPs X pos keys values (kms.map fun km => (tC (.str km.1), tF X.K T km.2))
section
variable {X : Cx} {T : Tab} {pos p2 : Pos} {j : Nat} {v : Expr} {ks : List (Option Expr)} {vs : List Expr} {kms : List (Str × Em)} {m : Em} {k : Str}
end
section
variable {X : Cx} {T : Tab} {o e f : Expr} {apos cpos : Pos} {md mk mx : Em}
end
end VL
namespace VL
open PySem PySem.Spec PyProof.Rows L2
section
variable {K : PySem.W.Frag} {T : Tab} {F H F1 H1 : Hp} {σ σ1 : L2.St} {env e1 : Env} {ω ω1 : Own} {v : V} {o : O} {A : List Addr} {j : Nat}
end
section
variable {X : Cx} {T : Tab} {m : Es}
end
section
variable {X : Cx} {T : Tab} {tg e : Expr} {m : Em}
end
def f0 : Fm := fun _ => none
section
variable {P : Program} {w : World} {K : PySem.W.Frag} {mg : Str → Option Value} {base : Heap} {T : Tab}
end
variable {s : SV} {r : Env} {i j l : Nat} {a b c : Em} {ms : Es} {o x y : O} {d e : D} {env : Env}
def oM (f : O → List O → Option O) : Option O → Option (List O) → Option O
  | some a, some os => if isS a = true then f a os else none
  | _, _ => none
@[simp] theorem eOpM_c {f : O → List O → Option O} : eOpM f a ms (s :: r) = oM f (a (s :: r)) (ms (s :: r)) := by
  unfold eOpM oM; cases a (s :: r) <;> cases ms (s :: r) <;> rfl
@[simp] theorem oM_s {f : O → List O → Option O} {os : List O} {z : Str} : oM f (some (.frz (.str z))) (some os) = f (.frz (.str z)) os := by
  unfold oM isS; simp
theorem strs_map : ∀ ns : List Str, D.strs (ns.map D.str) = some ns
  | [] => rfl
  | n :: ns => by rw [List.map_cons, D.strs, strs_map ns]; rfl
@[simp] theorem oStarts_s {z b : Str} : oStarts (.frz (.str z)) [.frz (.str b)] = some (.frz (.bl (Txt.startswith z b))) := by
  unfold oStarts; simp
end VL
namespace VL
open PySem PySem.Spec PyProof.Rows
/-- each text once, as it is met -/
def dst : List Str → List Str → List Str
  | acc, [] => acc
  | acc, u :: r => if u ∈ acc then dst acc r else dst (acc ++ [u]) r
theorem dst_len : ∀ (r acc : List Str), (dst acc r).length ≤ acc.length + r.length
  | [], acc => Nat.le_refl _
  | u :: r, acc => by
    rw [dst]
    split
    · have := dst_len r acc; simp; omega
    · have := dst_len r (acc ++ [u]); simp at this ⊢; omega
section
variable {prog : Program} {w : World} {A : Around} {R : Result → Shared → Prop} {I : Addr} {fp wr : List Addr} {G : Array GenState → Array GenState → Prop} {N : Nat} {Pv : Nat → Value → Prop} {St : Nat → Shared → Prop}
/-- what the set at D holds -/
abbrev Holds (prog : Program) (w : World) (D : Addr) (s : Shared) (acc : List Str) : Prop := s.heap.SetOf (PySem.strKind prog w) D (fun z => decide (z ∈ acc)) acc.length
theorem Holds.keep {D : Addr} {s s' : Shared} {acc : List Str} (h : Holds prog w D s acc) (k : ∀ o, s.heap.get? D = some o → s'.heap.get? D = some o) : Holds prog w D s' acc := by
  obtain ⟨o, es, ep, t, e, more⟩ := h
  exact ⟨o, es, ep, t, k o e, more⟩
theorem adds_all (Wk : WalksS prog w A.in1 I fp wr G N Pv St) (D : Addr) (far : D ∉ fp) (xs : List Str) (room : N + 1 < scanBound) (tell : ∀ i v, Pv i v → ∃ t, v = .str (xs.getD i Str.empty) t) :
    ∀ (rest : List Str) (i : Nat) (acc : List Str) (s : Shared), xs.drop i = rest → xs.length = N → i ≤ N → acc.length ≤ i → St i s → Holds prog w D s acc →
      (∀ s', Moved (D :: wr) G s s' → Holds prog w D s' (dst acc rest) → R (.ok (.ret .none)) s') →
      codeAny (model prog w) A (.builtin "set.update.loop" ⟨[.ref D, .ref I], []⟩) R s
  | [], i, acc, s, hd, hN, hi, ha, st, hh, k => by
    have iN : i = N := by
      have := congrArg List.length hd
      rw [List.length_drop, List.length_nil] at this
      omega
    have nin : D ∉ wr := fun z => far (Wk.sub _ z)
    subst iN
    apply codeAny_builtin F.entry_set_update_loop
    rw [Around.under_plainId F.plain_set_update_loop]
    show wpAny (model prog w) A.in1 (pyNext (.ref I) >>= _) _ _ s
    apply wpAny_bind
    apply Wk.done s _ _ st
    intro s1 mv
    show wpAny (model prog w) A.in1 (ret Value.none) _ _ s1
    exact wpAny_pure (k s1 (Moved.mono mv fun b hb => List.mem_cons_of_mem _ hb) (hh.keep fun o e => mv.heap D o nin e))
  | u :: rest, i, acc, s, hd, hN, hi, ha, st, hh, k => by
    have lt : i < N := by
      have := congrArg List.length hd
      rw [List.length_drop, List.length_cons] at this
      omega
    have nin : D ∉ wr := fun z => far (Wk.sub _ z)
    have up : xs.getD i Str.empty = u ∧ xs.drop (i + 1) = rest := by
      rw [List.drop_eq_getElem_cons (show i < xs.length by omega)] at hd
      obtain ⟨e1, e2⟩ := List.cons.inj hd
      rw [List.getD_eq_getElem?_getD, List.getElem?_eq_getElem (show i < xs.length by omega)]
      exact ⟨e1, e2⟩
    apply codeAny_builtin F.entry_set_update_loop
    rw [Around.under_plainId F.plain_set_update_loop]
    show wpAny (model prog w) A.in1 (pyNext (.ref I) >>= _) _ _ s
    apply wpAny_bind
    apply Wk.item i s _ _ lt st
    intro v s1 pv st1 mv
    obtain ⟨t, rfl⟩ := tell i v pv
    rw [up.1]
    have hh1 : Holds prog w D s1 acc := hh.keep fun o e => mv.heap D o nin e
    show wpAny (model prog w) A.in1 (holding [Value.str u t] (setAdd D (.str u t)) >>= _) _ _ s1
    apply wpAny_bind
    apply wpAny_holding
    unfold setAdd
    apply wpAny_holding
    apply wpAny_bind
    apply (PySem.strKind prog w).pyHash (k := u) (strKind_is _ _ _ _)
    apply wpAny_setAddHashed_of (knd := PySem.strKind prog w) (s := { s1 with toks := s1.toks + 1 }) (strKind_is _ _ _ _) rfl hh1 (show acc.length + 1 < scanBound by omega)
    intro g same got
    have acc1 : g.SetOf (PySem.strKind prog w) D (fun z => decide (z ∈ if u ∈ acc then acc else acc ++ [u])) (if u ∈ acc then acc else acc ++ [u]).length := by
      by_cases c : u ∈ acc
      · refine SetOf_congr got (fun z => ?_) (by simp [c])
        rw [if_pos c]
        by_cases y : z = u
        · simp [y, c]
        · simp [y]
      · refine SetOf_congr got (fun z => ?_) (by simp [c])
        rw [if_neg c]
        by_cases y : z ∈ acc <;> simp [y]
    have next := adds_all Wk D far xs room tell rest (i + 1) (if u ∈ acc then acc else acc ++ [u]) { s1 with heap := g, toks := s1.toks + 1 } up.2 hN lt (by
      split
      · omega
      · simp; omega) (Wk.frame _ s1 _ _ st1 (Nat.le_succ _) fun b hb o e => by
        rw [same.2 b fun z => far (z ▸ hb)]; exact e) acc1 fun s2 mv2 h2 => by
        have via : Moved (D :: wr) G s { s1 with heap := g, toks := s1.toks + 1 } :=
          Moved.then_heap (Moved.mono mv fun b hb => List.mem_cons_of_mem _ hb) (Nat.le_succ _) fun b o hb e => by
            rw [same.2 b fun z => hb (by simp [z])]; exact e
        refine k s2 (Moved.trans Wk.gtrans via mv2) ?_
        rw [dst]
        split
        · rename_i c; rw [if_pos c] at h2; exact h2
        · rename_i c; rw [if_neg c] at h2; exact h2
    exact wpAny_pure ⟨plainId_quiet F.plain_set_update_loop _, next⟩
end
section
variable {prog : Program} {w : World} {A : Around} {E : Value → Shared → Prop} {s : Shared}
def mt0 (b : Bool) : Obj := { cls := .type "set", dict := none, data := .set #[] 0 (.fresh 0 0 b) }
def walker (l : Addr) : Obj := { cls := .type "list_iterator", data := .fields #[.ref l, .int 0 0] }
/-- set(l), l a list of texts -/
theorem set_of_txts {l : Addr} {items : Array Value} {xs : List Str} {Q : Value → Shared → Prop} (calm : A.handled = none) (isl : s.heap.IsList l items) (txt : StrsAre items.toList xs) (room : items.size + 1 < scanBound)
    (k : ∀ (g : Heap) (tk : Nat), g.SetOf (PySem.strKind prog w) s.heap.objs.size (fun z => decide (z ∈ dst [] xs)) (dst [] xs).length → (∀ b o, b < s.heap.objs.size → s.heap.get? b = some o → g.get? b = some o) → Q (.ref s.heap.objs.size) { s with heap := g, toks := tk }) :
    wpAny (model prog w) A (call (.type "set") [.ref l]) Q E s := by
  have ⟨c, tl, hmro⟩ := PySem.F.called_set.mro
  have q1 := PySem.F.called_set.made; have q2 := PySem.F.called_set.sub; have q3 := PySem.F.called_set.notType; have q4 := PySem.F.called_set.canCreate; have q5 := PySem.F.typeCall_set_1 (.ref l)
  apply wpAny_call; apply codeAny_of_tree
  show wpAny _ _ (callAny (.type "set") _) _ _ _
  apply wpAny_pure
  refine ⟨Code.quiet_builtin _ (by decide +kernel), ?_⟩
  apply codeAny_builtin PySem.F.entry_type_call
  rw [Around.under_plain (weight_type_call_type "set" [.ref l] []) rfl]
  repeat (any_goals (first | assumption | wp_step))
  refine codeAny_mono (code_set_new_1 (.ref l) (E := E) (Q₁ := fun v s1 => ∃ b : Bool, v = .ref s.heap.objs.size ∧ s1 = { s with heap := s.heap.push (mt0 b) }) fun b => ⟨b, rfl, rfl⟩) fun r s1 z => ?_
  cases r with
  | error e => exact z
  | ok fl =>
    cases fl with
    | next => exact z.elim
    | brk => exact z.elim
    | cont => exact z.elim
    | ret v =>
      obtain ⟨b, rfl, rfl⟩ := z
      have at0 : (s.heap.push (mt0 b)).get? s.heap.objs.size = some (mt0 b) := Heap.get?_push_size _ rfl
      have ty0 : Shared.TypeIs { s with heap := s.heap.push (mt0 b) } (.ref s.heap.objs.size) "set" := ⟨_, at0, rfl⟩
      have q6 := PySem.F.called_set.init.lookup; have q7 := PySem.F.called_set.init.bind (.ref s.heap.objs.size)
      repeat (any_goals (first | assumption | wp_step))
      refine codeAny_mono (codeAny_call_builtin (R := wants (fun r s2 => r = .none ∧ ∃ g tk, s2 = { s with heap := g, toks := tk } ∧ g.SetOf (PySem.strKind prog w) s.heap.objs.size (fun z => decide (z ∈ dst [] xs)) (dst [] xs).length ∧
          ∀ b o, b < s.heap.objs.size → s.heap.get? b = some o → g.get? b = some o) E) PySem.F.called_set.init.plain PySem.F.entry_set_init (check_set_init_1 ty0 ?_)) fun r2 s2 z2 => ?_
      · obtain ⟨⟨oc, od, oda, osl⟩, atl, cl1, nl, dl1⟩ := isl
        simp only at cl1 dl1
        subst cl1 dl1
        have atl2 := Heap.get?_push_of_some (mt0 b) atl
        have q8 := PySem.F.sub_list_set; have q9 := PySem.F.sub_list_frozenset
        have q10 : (Value.type "list" == Value.type "dict") = false := by decide
        have isl2 : (s.heap.push (mt0 b)).IsList l items := ⟨_, atl2, rfl, nl, rfl⟩
        have lts : l < s.heap.objs.size := Heap.lt_size atl
        have sz1 : (s.heap.push (mt0 b)).objs.size = s.heap.objs.size + 1 := Heap.size_push _ _
        unfold Builtin.«set.__init__» noKeywords Builtin.Frozenset.updateFrom
        generalize hide : pyIter = iter
        wp_walk
        subst hide
        apply wpAny_pyIter_list isl2
        apply wpAny_bind; apply wpAny_runValue
        have calm3 : A.in1.in1.in1.handled = none := by simp [calm]
        have far : l ≠ (s.heap.push (mt0 b)).objs.size := by rw [sz1]; exact Nat.ne_of_lt (Nat.lt_succ_of_lt lts)
        have out : s.heap.objs.size ∉ [(s.heap.push (mt0 b)).objs.size, l] := by
          rw [sz1]; simp only [List.mem_cons, List.not_mem_nil, or_false, not_or]; exact ⟨Nat.ne_of_lt (Nat.lt_succ_self _), Nat.ne_of_gt lts⟩
        have len : xs.length = items.size := by rw [← StrsAre.len_eq txt, Array.length_toList]
        refine adds_all ((Walks.list calm3 _ l far items).toS) s.heap.objs.size out xs room (fun i v hv => SS.strs_at txt i v (by rw [Array.getElem?_toList]; exact hv)) xs 0 [] _ rfl len (Nat.zero_le _) (Nat.le_refl _) ⟨⟨_, Heap.get?_push_size _ rfl, rfl, rfl⟩, isl2.push _⟩ ?_ fun s' mv hold => ?_
        · have at1 : ((s.heap.push (mt0 b)).push (walker l)).get? s.heap.objs.size = some (mt0 b) := Heap.get?_push_of_some _ at0
          exact SetOf_congr ((setObjOf_fresh (knd := PySem.strKind prog w) b).setOf at1 (by unfold scanBound; omega)) (fun _ => rfl) rfl
        · obtain ⟨g, gs, dr, tk, os⟩ := s'
          have m1 : gs = s.gens := mv.gens
          have m2 : dr = s.drawn := mv.drawn
          have m3 : os = s.os := mv.os
          subst m1 m2 m3
          show wpAny _ _ _ _ _ _
          apply wpAny_pure
          show wpAny _ _ (ret Value.none) _ _ _
          apply wpAny_pure
          refine ⟨rfl, g, tk, rfl, hold, fun a o ha e => mv.heap a o ?_ (Heap.get?_push_of_some _ (Heap.get?_push_of_some _ e))⟩
          rw [sz1]; simp only [List.mem_cons, List.not_mem_nil, or_false, not_or]; exact ⟨Nat.ne_of_lt ha, Nat.ne_of_lt (Nat.lt_succ_of_lt ha)⟩
      · cases r2 with
        | error e => exact z2
        | ok fl2 =>
          cases fl2 with
          | next => exact z2.elim
          | brk => exact z2.elim
          | cont => exact z2.elim
          | ret v2 =>
            obtain ⟨rfl, g, tk, rfl, h1, h2⟩ := z2
            repeat (any_goals (first | assumption | wp_step))
            exact k _ _ h1 h2
end
end VL
namespace VL
open PySem PySem.Spec PyProof.Rows L2
section
variable {X : Cx} {T : Tab} {a : Expr} {m : Em} {p p2 q pos : Pos}
def tLS (K : PySem.W.Frag) (ta : TE) : TE := fun σ H Q => ta σ H fun x H1 => ∃ l xs, x = V.ref l ∧ SqL K H1 l (xs.map V.str) ∧ xs.length ≤ 1000 ∧ Q (.int ((dst [] xs).length : Nat)) H1
theorem pe_ls {ta : TE} (hc : X.calm = true) (hg : L2.Gl X "len") (hm : X.mg "len" = none) (hg2 : L2.Gl X "set") (hm2 : X.mg "set" = none) (ha : PE X a ta) (na : starEach [a] X.env = (false, eval a X.env) :: starEach [] X.env := by rfl) :
    PE X (.Call (.Name "len" p) [.Call (.Name "set" p2) [a] [] q] [] pos) (tLS X.K ta) := ⟨fun pins s σ H Q I h => by
  apply Call_ (ld_blt I hg hm boot_len ?_)
  apply callWith_builtin1 (args_cons ?_ rfl) rfl rfl
  apply Call_ (ld_blt I hg2 hm2 boot_set ?_)
  refine callWith_type1 (args_cons (thn (ha.run pins s σ H _ I h) fun v s1 ⟨x, H1, J, rx, l, xs, ex, sq, le, fin⟩ => args_nil ?_) na) na rfl
  subst ex
  cases rx
  obtain ⟨us, vs, isl, z⟩ := J.list sq
  have sz : us.toArray.size = xs.length := by rw [List.size_toArray, ← vs.length, List.length_map]
  refine set_of_txts (J.ok.hd hc) isl.isList (xs := xs) (by simpa using strsAre_of vs) (by rw [sz]; unfold scanBound; omega) fun g tk hold keep => args_nil ?_
  obtain ⟨o, es, ep, t, e1, e2, e3, _, _, _, e4, e5⟩ := hold
  have dl := dst_len xs []
  have J2 : Inv X pins σ H1 { s1 with heap := g, toks := tk } := J.kept fun b u e => keep b u (Heap.lt_size e) e
  exact call_len_set e1 e2 e3 e4 (by rw [e5]; simp at dl; omega) ⟨.int (dst [] xs).length, H1, J2.tok _, ⟨_, by rw [e5]⟩, fin⟩⟩
def oTxts (o : O) : Option (List Str) := match o.toD with
  | .lst ds => D.strs ds
  | _ => none
def eLenSet (m : Em) : Em := fun env => (m env).bind fun o => (oTxts o).bind fun xs => if xs.length ≤ 1000 then some (.frz (.int ((dst [] xs).length : Nat))) else none
theorem fe_lenset (hc : X.calm = true) (hg : L2.Gl X "len") (hm : X.mg "len" = none) (hg2 : L2.Gl X "set") (hm2 : X.mg "set" = none) (ha : BE X T a m) (na : starEach [a] X.env = (false, eval a X.env) :: starEach [] X.env := by rfl) :
    FE X T (.Call (.Name "len" p) [.Call (.Name "set" p2) [a] [] q] [] pos) (eLenSet m) := peI (pe_ls hc hg hm hg2 hm2 ha na) fun σ H Q z => by
  obtain ⟨F, env, ω, sa, o, e, k⟩ := z
  obtain ⟨x, e1, e⟩ := Option.bind_eq_some_iff.mp e
  obtain ⟨xs, e2, e⟩ := Option.bind_eq_some_iff.mp e
  split at e
  · rename_i le
    cases e
    refine ⟨F, env, ω, sa, x, e1, fun v F1 H1 p1 h1 => ?_⟩
    have hv := h1.vw p1.gl
    unfold oTxts at e2
    generalize x.toD = d at hv e2
    cases d with
    | lst ds =>
      cases hv with
      | lst h l =>
        have := l.strsO e2
        subst this
        exact ⟨_, xs, rfl, .inl (.inl h), le, k _ F1 H1 [] p1 (.frz (.int _))⟩
    | _ => cases e2
  · cases e
end
section
variable {X : Cx} {T : Tab} {e : Expr} {m : Em} {pos : Pos} {f : Str} {Cs : List Str}
end
section
variable {X : Cx} {T : Tab} {pos : Pos}
end
end VL
namespace VL
open PySem PySem.Spec PyProof.Rows L2
section
variable {K : PySem.W.Frag} {T : Tab} {F H F1 H1 : Hp} {σ σ1 : L2.St} {env e1 : Env} {ω ω1 : Own} {v : V} {o : O} {A : List Addr} {j : Nat}
end
section
variable {K : PySem.W.Frag} {T : Tab} {F H : Hp} {σ : L2.St} {env : Env} {ω : Own} {v w : V} {o n : O} {r : Nat} {p : List Stp}
end
section
variable {X : Cx} {T : Tab} {a : Expr} {es : List Expr} {ma : Em} {m : Es} {q : Qm} {j : Nat}
end
section
variable {X : Cx} {T : Tab} {k : Nat} {f : Addr} {fd : FuncData} {ps : List Str} {fm : Fm} {x : Str} {p pos : Pos} {e : Expr} {es : List Expr} {m : Es} {np j : Nat} {q : Qm}
end
end VL
namespace VL
open PySem PySem.Spec PyProof.Rows L2
section
variable {X : Cx} {T : Tab} {a e : Expr} {m : Em} {q : Qm} {pos p2 : Pos} {f C : Str}
end
section
variable {X : Cx} {T : Tab} {k : Nat} {f : Addr} {fd : FuncData} {ps : List Str} {fm : Fm} {C : Str} {p pos : Pos} {e : Expr} {es : List Expr} {m : Es} {np : Nat}
end
end VL
namespace VL
open PySem PySem.Spec PyProof.Rows L2
section
variable {X : Cx}
end
section
variable {X : Cx} {T : Tab} {o e1 e2 e3 : Expr} {ms m3 : Es} {q : Qm} {ap1 cp1 ap2 cp2 pos : Pos}
end
end VL
namespace VL
open PySem PySem.Spec PyProof.Rows L2
section
variable {X : Cx} {T : Tab} {o e f : Expr} {apos cpos : Pos} {md mk mx : Em}
end
section
variable {X : Cx} {T : Tab} {o e : Expr} {apos cpos : Pos} {mo m : Em}
end
end VL
namespace VL
open PySem PySem.Spec PyProof.Rows L2
section
variable {κ : Type} [DecidableEq κ]
variable {K : PySem.W.Frag} {F H : Hp}
end
section
variable {X : Cx}
end
section
variable {K : PySem.W.Frag} {T : Tab} {F H : Hp}
end
end VL
namespace VL
open PySem PySem.Spec PyProof.Rows L2
section
variable {K : PySem.W.Frag} {T : Tab}
end
end VL
namespace VL
open PySem PySem.Spec PyProof.Rows L2
def rgD (a b : Int) : List D := (List.range (b - a).toNat).map fun (i : Nat) => D.int (a + (i : Int))
theorem rgV_vw {K : PySem.W.Frag} {H : Hp} (a b : Int) : VwL K H (rgV a b) (rgD a b) := by
  have e1 : rgV a b = ((List.range (b - a).toNat).map fun (i : Nat) => a + (i : Int)).map V.int := by unfold rgV; rw [List.map_map]; rfl
  have e2 : rgD a b = ((List.range (b - a).toNat).map fun (i : Nat) => a + (i : Int)).map D.int := by unfold rgD; rw [List.map_map]; rfl
  rw [e1, e2]
  exact VwL.of_ints _
def rgOk (a b : Int) : Bool := decide (-(2 ^ 62) ≤ a ∧ a < 2 ^ 62 ∧ -(2 ^ 62) ≤ b ∧ b < 2 ^ 62 ∧ (b - a).toNat ≤ 16777216)
theorem rgOk_of {a b : Int} (h : rgOk a b = true) : RgOk a b := by
  have := of_decide_eq_true h
  exact this
def rgM (ma mb : Em) (env : Env) : Option (Int × Int) := (ma env).bind fun x => (mb env).bind fun y => match x.toD, y.toD with
  | .int a, .int b => if rgOk a b = true then some (a, b) else none
  | _, _ => none
def eLRg (ma mb : Em) : Em := fun env => (rgM ma mb env).map fun p => newL (rgD p.1 p.2)
def eZ : Em := eC (.int 0)
section
variable {X : Cx} {T : Tab} {a b : Expr} {ma mb : Em} {p p2 pos pos2 : Pos}
theorem rgM_ok {env : Env} {i j : Int} (e : rgM ma mb env = some (i, j)) : RgOk i j := by
  unfold rgM at e
  obtain ⟨x, e1, e⟩ := Option.bind_eq_some_iff.mp e
  obtain ⟨y, e2, e⟩ := Option.bind_eq_some_iff.mp e
  split at e
  · split at e
    · rename_i h
      cases e
      exact rgOk_of h
    · cases e
  · cases e
theorem rg1_w {σ : L2.St} {H : Hp} {Q : Int → Int → Hp → Prop} (q : ∃ F env ω, Sta X.K T F H σ env ω ∧ ∃ a b, rgM eZ mb env = some (a, b) ∧ ∀ F' H', PX T F H F' H' → Q a b H') : tRg1 (tB X.K T mb) σ H Q := by
  obtain ⟨F, env, ω, s, i, j, e, k⟩ := q
  unfold rgM at e
  obtain ⟨x, e1, e⟩ := Option.bind_eq_some_iff.mp e
  obtain ⟨y, e2, e⟩ := Option.bind_eq_some_iff.mp e
  cases e1
  refine ⟨F, env, ω, s, y, e2, fun w F2 H2 p2 h2 => ?_⟩
  have g2 := h2.vw p2.gl
  rw [O.toD] at e
  split at e
  · rename_i a b q1 q2
    cases q1
    rw [q2] at g2
    split at e
    · cases e
      cases g2
      exact ⟨j, rfl, k F2 H2 p2⟩
    · cases e
  · cases e
theorem fe_lrg1 (hc : X.calm = true) (hg : L2.Gl X "list") (hm : X.mg "list" = none) (hg2 : L2.Gl X "range") (hm2 : X.mg "range" = none) (hb : BE X T b mb) (nb : starEach [b] X.env = (false, eval b X.env) :: starEach [] X.env := by rfl)
    (nc : starEach [.Call (.Name "range" p2) [b] [] pos2] X.env = (false, eval (.Call (.Name "range" p2) [b] [] pos2) X.env) :: starEach [] X.env := by rfl) :
    FE X T (.Call (.Name "list" p) [.Call (.Name "range" p2) [b] [] pos2] [] pos) (eLRg eZ mb) :=
  peI (pe_listRg hc hg hm (prg_1 hg2 hm2 hb nb) nc) fun σ H Q q => by
    obtain ⟨F, env, ω, s, o, e, k⟩ := q
    obtain ⟨⟨i, j⟩, e1, e2⟩ := Option.map_eq_some_iff.mp e
    subst e2
    refine rg1_w ⟨F, env, ω, s, i, j, e1, fun F1 H1 p1 => ⟨rgM_ok e1, fun r hr => ?_⟩⟩
    obtain ⟨px, f⟩ := new_lst p1.gl hr (rgV_vw (K := X.K) i j)
    exact k _ _ _ _ (p1.trans px) (f.back p1)
end
end VL
namespace VL
open PySem PySem.Spec PyProof.Rows L2
section
variable {K : PySem.W.Frag} {T : Tab} {F H F' H' : Hp} {σ : L2.St} {env : Env} {ω : Own} {d : Addr} {kvs : List (Key × V)} {od : Obj}
theorem tabs_free (t : LamX.Tabs T H) (e : H d = some (.frz od (.dK kvs))) {u : HO} : LamX.Tabs T (upd H d u) := fun p hp => by
  obtain ⟨ps, h1, h2, h3⟩ := t p hp
  have ne : ∀ {a : Addr} {o : HO}, H a = some o → o ≠ .frz od (.dK kvs) → a ≠ d := fun {a o} q n z => by
    rw [z, e] at q
    exact n (Option.some.inj q).symm
  refine ⟨ps, by rw [upd_ne (ne h1 fun z => by cases z)]; exact h1, h2, fun pos cv hc => ?_⟩
  obtain ⟨c, e1, e2⟩ := h3 pos cv hc
  refine ⟨c, e1, ?_⟩
  rw [upd_ne (ne e2 fun z => by unfold LamX.CodeO at z; cases z)]
  exact e2
end
section
variable {X : Cx} {T : Tab} {elt tg : Expr} {ifs : List Expr} {scope : Scope} {own : List (Str × Nat)} {pos p : Pos} {g : Gm} {t : Tm} {m : Em} {ts : List Nat}
end
end VL
namespace VL
open PySem PySem.Spec PyProof.Rows L2
def same2 (f : D → D → Bool) : List D → List D → Bool
  | [], [] => true
  | a :: as, b :: bs => f a b && same2 f as bs
  | _, _ => false
def sameK (f : D → D → Bool) : List (Key × D) → List (Key × D) → Bool
  | [], [] => true
  | (k, a) :: as, (j, b) :: bs => decide (k = j) && f a b && sameK f as bs
  | _, _ => false
def D.same : Nat → D → D → Bool
  | _, .non, .non => true
  | _, .bl a, .bl b => decide (a = b)
  | _, .int a, .int b => decide (a = b)
  | _, .str a, .str b => decide (a = b)
  | n + 1, .tup a, .tup b => same2 (D.same n) a b
  | n + 1, .lst a, .lst b => same2 (D.same n) a b
  | n + 1, .dct a, .dct b => sameK (D.same n) a b
  | _, _, _ => false
section
variable {X : Cx} {pins : List (Addr × Obj)} {σ : L2.St} {H : Hp} {s : Shared}
end
section
variable {K : PySem.W.Frag} {T : Tab}
end
end VL
namespace VL
open PySem PySem.Spec PyProof.Rows L2
section
variable {X : Cx} {T : Tab} {m : Em} {e : Expr} {pos : Pos}
end
end VL
namespace VL
open PySem PySem.Spec PyProof.Rows L2
section
variable {K : PySem.W.Frag} {T : Tab} {F H F1 H1 F2 H2 F' H' : Hp} {σ : L2.St} {env e1 e2 : Env} {ω ω1 ω2 : Own} {v : V} {o : O} {A : List Addr}
/-- a value that belongs to nobody stays -/
theorem Rt.keep (r : Rt K H ω F1 H1 ω1 v o A) (x : EX F1 H1 ω1 F2 H2 ω2) : Rt K H ω F2 H2 ω2 v o A := by
  refine ⟨r.ro.keep x.f fun a ha => ?_, r.nd, fun a ha => ⟨?_, (r.new a ha).2⟩⟩
  · obtain ⟨f1, u, h1, ou⟩ := r.ro.mem a ha
    have w := (r.new a ha).1
    exact ⟨x.new a f1 (by rw [h1]; exact fun z => by cases z) w, (x.h a u h1 w (own_ntbl ou)).trans h1.symm⟩
  · obtain ⟨f1, u, h1, ou⟩ := r.ro.mem a ha
    cases e : ω2 a with
    | none => rfl
    | some i =>
      rcases x.own a i e with q | q
      · exact absurd (r.new a ha).1 q
      · rw [q] at h1; cases h1
end
section
variable {X : Cx} {T : Tab} {a b e : Expr} {es : List Expr} {m ma mb : Em} {ms : Es} {pos : Pos} {ca cb c : Cm}
end
section
variable {X : Cx} {T : Tab} {k : Nat} {f : Addr} {fd : FuncData} {ps : List Str} {fm : Fm} {x : Str} {p pos : Pos} {e : Expr} {es : List Expr} {m : Es} {np j : Nat} {q : Qm}
variable {c : Cm}
end
end VL
namespace VL
open PySem PySem.Spec PyProof.Rows L2
section
variable {K : PySem.W.Frag} {T : Tab} {F H F' H' : Hp} {σ : L2.St} {env env' : Env} {ω ω' ω0 : Own} {v w : V} {o n : O} {r : Nat} {p : List Stp} {A : List Addr}
end
section
variable {X : Cx} {T : Tab} {st : Stmt} {s : Sm} {q : Qm}
end
section
variable {X : Cx} {T : Tab} {e : Expr} {c : Cm} {pos : Pos}
end
section
variable {X : Cx} {T : Tab} {a b e : Expr} {mi m : Em} {q : Qm} {pos p2 : Pos}
end
end VL
namespace VL
open PySem PySem.Spec PyProof.Rows L2
section
variable {K : PySem.W.Frag} {T : Tab} {F H H' : Hp} {p : Addr}
end
section
variable {X : Cx} {T : Tab} {e : Expr} {m : Em} {p apos cpos pos : Pos}
end
section
variable {K : PySem.W.Frag} {T : Tab} {F H F' H' : Hp} {σ : L2.St} {env env' : Env} {ω ω' : Own} {v : V} {o : O} {A : List Addr}
end
section
variable {X : Cx} {T : Tab} {a e : Expr} {es : List Expr} {m : Em} {ms : Es} {c : Cm} {pos : Pos}
end
end VL
namespace VL
open PySem PySem.Spec PyProof.Rows L2
section
variable {K : PySem.W.Frag} {T : Tab}
end
def lendS (r j : Nat) : SV → SV
  | .frz d => if d.imm = true then .frz d else .io (.frz d)
  | .own o => if j = r then .io (.frz o.toD) else .own o
  | .io o => if j = r then .io (.frz o.toD) else .io o
  | .als _ _ => .dead
  | .dead => .dead
def lendG (r : Nat) : Nat → Env → Env
  | _, [] => []
  | j, s :: e => lendS r j s :: lendG r (j + 1) e
/-- what came of a slot: s as it was ahead, t as it is behind -/
def backO : SV → Option SV
  | .frz d => if d.imm = true then some (.frz d) else none
  | .own o => if o.immO = true then some (.own o) else none
  | .io o => if o.immO = true then some (.io o) else none
  | .als _ _ => some .dead
  | .dead => some .dead
def backS (r j : Nat) (s t : SV) : Option SV := match s with
  | .frz d => if d.imm = true then backO t else some (.frz d)
  | .own o => if j = r then some (.own o) else backO t
  | .io o => if j = r then some (.io o) else backO t
  | _ => backO t
def backG (r : Nat) : Nat → Env → Env → Option Env
  | _, [], [] => some []
  | j, s :: e, t :: f => (backS r j s t).bind fun u => (backG r (j + 1) e f).map fun g => u :: g
  | _, _, _ => none
theorem lendG_get (r : Nat) : ∀ (k : Nat) (env : Env) (j : Nat), (lendG r k env)[j]? = (env[j]?).map (lendS r (k + j))
  | _, [], _ => rfl
  | k, s :: e, 0 => rfl
  | k, s :: e, j + 1 => by
    rw [lendG, List.getElem?_cons_succ, List.getElem?_cons_succ, lendG_get r (k + 1) e j, show k + 1 + j = k + (j + 1) by omega]
theorem lendG_len (r : Nat) : ∀ (k : Nat) (env : Env), (lendG r k env).length = env.length
  | _, [] => rfl
  | k, s :: e => by rw [lendG, List.length_cons, List.length_cons, lendG_len r (k + 1) e]
theorem backG_get (r : Nat) : ∀ (k : Nat) (env f g : Env), backG r k env f = some g → g.length = env.length ∧ f.length = env.length ∧ ∀ (j : Nat) (u : SV), g[j]? = some u → ∃ s t, env[j]? = some s ∧ f[j]? = some t ∧ backS r (k + j) s t = some u
  | k, [], [], g, h => by cases h; exact ⟨rfl, rfl, fun j u e => by simp at e⟩
  | k, [], _ :: _, g, h => by cases h
  | k, _ :: _, [], g, h => by cases h
  | k, s :: e, t :: f, g, h => by
    rw [backG] at h
    obtain ⟨u0, h1, h⟩ := Option.bind_eq_some_iff.mp h
    obtain ⟨g1, h2, h3⟩ := Option.map_eq_some_iff.mp h
    subst h3
    obtain ⟨l1, l2, ih⟩ := backG_get r (k + 1) e f g1 h2
    refine ⟨by rw [List.length_cons, List.length_cons, l1], by rw [List.length_cons, List.length_cons, l2], fun j u e1 => ?_⟩
    cases j with
    | zero =>
      rw [List.getElem?_cons_zero] at e1
      cases e1
      exact ⟨s, t, rfl, rfl, h1⟩
    | succ j =>
      rw [List.getElem?_cons_succ] at e1
      obtain ⟨s1, t1, e2, e3, e4⟩ := ih j u e1
      exact ⟨s1, t1, e2, e3, by rw [show k + (j + 1) = k + 1 + j by omega]; exact e4⟩
section
variable {K : PySem.W.Frag} {T : Tab} {F H F1 H1 F3 H3 : Hp} {σ σ3 : L2.St} {env e3 e4 : Env} {ω ω3 : Own} {w : V} {o : O} {A : List Addr} {r : Nat} {d : Addr} {od : Obj} {kvs : List (Key × V)}
/-- a loop begins: all of slot r stands in the frozen part, the dict at d is locked -/
structure Lent (K : PySem.W.Frag) (T : Tab) (F H : Hp) (σ : L2.St) (env : Env) (ω : Own) (r : Nat) (w : V) (o : O) (A : List Addr) (d : Addr) (kvs : List (Key × V)) (od : Obj) (F1 H1 : Hp) : Prop where
  sa : Sta K T F H σ env ω
  hr : σ[r]? = some (some w)
  ro : Ro K F H w o A
  nd : A.Nodup
  own : ∀ a ∈ A, ω a = some r
  er : env[r]? = some (.own o) ∨ env[r]? = some (.io o)
  hd : H d = some (.dK kvs)
  dA : d ∈ A
  up : ∀ a u, F a = some u → F1 a = some u
  new : ∀ a, F a = none → ω a ≠ some r → H a ≠ none → F1 a = none
  ext : ∀ a u, H a = some u → a ≠ d → (∀ ps, u ≠ .tbl ps) → H1 a = some u
  lk : H1 d = some (.frz od (.dK kvs))
  tb : ∀ a ps, H a = some (.tbl ps) → ∃ ps', H1 a = some (.tbl ps')
  gl : Gl T F1 H1
def ωout (ω : Own) (r : Nat) : Own := fun a => if ω a = some r then none else ω a
def lentF (H F1 : Hp) (A : List Addr) : Hp := fun a => if a ∈ A then H a else F1 a
theorem Lent.H1A (L : Lent K T F H σ env ω r w o A d kvs od F1 H1) {a : Addr} (ha : a ∈ A) : (a = d ∧ H1 a = some (.frz od (.dK kvs))) ∨ (a ≠ d ∧ H1 a = H a) := by
  by_cases z : a = d
  · exact .inl ⟨z, by rw [z]; exact L.lk⟩
  · obtain ⟨_, u, h, ou⟩ := L.ro.mem a ha
    exact .inr ⟨z, (L.ext a u h z (own_ntbl ou)).trans h.symm⟩
theorem Lent.tupA (L : Lent K T F H σ env ω r w o A d kvs od F1 H1) {a : Addr} (ha : a ∈ A) (vs : List V) : H1 a ≠ some (.tup vs) := fun z => by
  rcases L.H1A ha with ⟨_, h⟩ | ⟨_, h⟩
  · rw [h] at z; cases z
  · obtain ⟨_, u, h2, ou⟩ := L.ro.mem a ha
    rw [h, h2] at z
    cases z
    cases ou
theorem Lent.sta (L : Lent K T F H σ env ω r w o A d kvs od F1 H1) : Sta K T (lentF H F1 A) H1 σ (lendG r 0 env) (ωout ω r) := by
  have upG : ∀ a u, F a = some u → lentF H F1 A a = some u := fun a u e => by
    unfold lentF
    rw [if_neg fun z => by rw [(L.ro.mem a z).1] at e; cases e]
    exact L.up a u e
  have nA : ∀ a i, ω a = some i → i ≠ r → a ∉ A := fun a i e hi z => by
    rw [L.own a z] at e
    exact hi (Option.some.inj e).symm
  have off : ∀ a i, ω a = some i → i ≠ r → lentF H F1 A a = none ∧ H1 a = H a := fun a i e hi => by
    have h1 := nA a i e hi
    obtain ⟨h2, u, h3, ou⟩ := L.sa.og a i e
    refine ⟨?_, (L.ext a u h3 (fun z => h1 (by rw [z]; exact L.dA)) (own_ntbl ou)).trans h3.symm⟩
    unfold lentF
    rw [if_neg h1]
    exact L.new a h2 (by rw [e]; exact fun z => hi (Option.some.inj z)) (by rw [h3]; exact fun z => by cases z)
  have gl : Gl T (lentF H F1 A) H1 := by
    refine ⟨fun a u e n => ?_, fun a ps e => ?_, fun a vs e => ?_, L.gl.tab⟩
    · unfold lentF at e
      split at e
      · rename_i ha
        rcases L.H1A ha with ⟨z, h⟩ | ⟨_, h⟩
        · rw [z, L.hd] at e
          cases e
          exact .inr ⟨rfl, od, h⟩
        · exact .inl (h.trans e)
      · exact L.gl.sub a u e n
    · unfold lentF at e
      split at e
      · rename_i ha
        obtain ⟨_, u, h2, ou⟩ := L.ro.mem a ha
        rw [h2] at e
        cases e
        cases ou
      · exact L.gl.notbl a ps e
    · have ha : a ∉ A := fun z => L.tupA z vs e
      unfold lentF
      rw [if_neg ha]
      exact L.gl.tup a vs e
  have keep : ∀ {v : V} {n : O} {B : List Addr} {i : Nat}, i ≠ r → Ro K F H v n B → (∀ b ∈ B, ω b = some i) → Ro K (lentF H F1 A) H1 v n B := fun hi rr hb => rr.keep upG fun b z => off b _ (hb b z) hi
  have wout : ∀ {B : List Addr} {i : Nat}, i ≠ r → (∀ b ∈ B, ω b = some i) → ∀ b ∈ B, ωout ω r b = some i := fun hi hb b z => by
    unfold ωout
    rw [hb b z, if_neg fun y => hi (Option.some.inj y)]
  have whole : Vw K (lentF H F1 A) w o.toD := L.ro.fzn upG fun a ha => if_pos ha
  refine ⟨gl, by rw [lendG_len]; exact L.sa.len, fun j t e => ?_, fun a i e => ?_⟩
  · rw [lendG_get, Nat.zero_add] at e
    obtain ⟨s, e1, e2⟩ := Option.map_eq_some_iff.mp e
    subst e2
    have h := L.sa.slot j s e1
    cases s with
    | dead => trivial
    | als r' p => trivial
    | frz dd =>
      obtain ⟨v, h1, h2⟩ := h
      have h3 := h2.sub (SubN.of upG)
      show SlotOk K _ _ _ _ _ (if dd.imm = true then SV.frz dd else .io (.frz dd))
      split
      · exact ⟨v, h1, h3⟩
      · exact ⟨v, [], h1, .frz h3, .nil, fun _ z => by cases z⟩
    | own n =>
      obtain ⟨v, B, h1, h2, h3, h4⟩ := h
      show SlotOk K _ _ _ _ _ (if j = r then SV.io (.frz n.toD) else .own n)
      split
      · rename_i hj
        subst hj
        rcases L.er with q | q
        · rw [q] at e1; cases e1
          exact ⟨w, [], L.hr, .frz whole, .nil, fun _ z => by cases z⟩
        · rw [q] at e1; cases e1
      · rename_i hj
        exact ⟨v, B, h1, keep hj h2 h4, h3, wout hj h4⟩
    | io n =>
      obtain ⟨v, B, h1, h2, h3, h4⟩ := h
      show SlotOk K _ _ _ _ _ (if j = r then SV.io (.frz n.toD) else .io n)
      split
      · rename_i hj
        subst hj
        rcases L.er with q | q
        · rw [q] at e1; cases e1
        · rw [q] at e1; cases e1
          exact ⟨w, [], L.hr, .frz whole, .nil, fun _ z => by cases z⟩
      · rename_i hj
        exact ⟨v, B, h1, keep hj h2 h4, h3, wout hj h4⟩
  · unfold ωout at e
    split at e
    · cases e
    · rename_i hn
      have hi : i ≠ r := fun z => hn (by rw [e, z])
      obtain ⟨h2, u, h3, ou⟩ := L.sa.og a i e
      obtain ⟨h4, h5⟩ := off a i e hi
      exact ⟨h4, u, h5.trans h3, ou⟩
/-- .. and ends: it is one's own again -/
theorem Lent.back (L : Lent K T F H σ env ω r w o A d kvs od F1 H1) (g : Go K T (lentF H F1 A) H1 σ (lendG r 0 env) (ωout ω r) F3 H3 σ3 e3 ω3) (hb : backG r 0 env e3 = some e4) : ∃ F4 ω4, Go K T F H σ env ω F4 (upd H3 d (.dK kvs)) σ3 e4 ω4 := by
  have outA : ∀ a, a ∈ A → ωout ω r a = none := fun a ha => if_pos (L.own a ha)
  have H3A : ∀ a, a ∈ A → (a = d ∧ H3 a = some (.frz od (.dK kvs))) ∨ (a ≠ d ∧ H3 a = H a) := fun a ha => by
    rcases L.H1A ha with ⟨z, h⟩ | ⟨z, h⟩
    · exact .inl ⟨z, g.ex.h a _ h (outA a ha) fun _ y => by cases y⟩
    · obtain ⟨_, u, h2, ou⟩ := L.ro.mem a ha
      exact .inr ⟨z, (g.ex.h a u (h.trans h2) (outA a ha) (own_ntbl ou)).trans h2.symm⟩
  have H1n : ∀ a, H a ≠ none → H1 a ≠ none := fun a h => by
    by_cases z : a = d
    · rw [z, L.lk]; exact fun y => by cases y
    · cases q : H a with
      | none => exact absurd q h
      | some u =>
        by_cases y : ∃ ps, u = .tbl ps
        · obtain ⟨ps, rfl⟩ := y
          obtain ⟨ps', h2⟩ := L.tb a ps q
          rw [h2]; exact fun y => by cases y
        · rw [L.ext a u q z fun ps e => y ⟨ps, e⟩]; exact fun y => by cases y
  have w3A : ∀ a, a ∈ A → ω3 a = none := fun a ha => by
    cases e : ω3 a with
    | none => rfl
    | some i =>
      rcases g.ex.own a i e with q | q
      · exact absurd (outA a ha) q
      · obtain ⟨_, u, h2, _⟩ := L.ro.mem a ha
        exact absurd q (H1n a (by rw [h2]; exact fun z => by cases z))
  obtain ⟨F4, hF4⟩ : ∃ F4 : Hp, F4 = fun a => if a ∈ A then none else F3 a := ⟨_, rfl⟩
  obtain ⟨H4, hH4⟩ : ∃ H4 : Hp, H4 = upd H3 d (.dK kvs) := ⟨_, rfl⟩
  rw [← hH4]
  have F4A : ∀ a, a ∈ A → F4 a = none := fun a ha => by rw [hF4]; exact if_pos ha
  have F4n : ∀ a, a ∉ A → F4 a = F3 a := fun a ha => by rw [hF4]; exact if_neg ha
  have H4A : ∀ a, a ∈ A → H4 a = H a := fun a ha => by
    rw [hH4]
    rcases H3A a ha with ⟨z, _⟩ | ⟨z, h⟩
    · rw [z, upd_same, L.hd]
    · rw [upd_ne z, h]
  have H4n : ∀ a, a ≠ d → H4 a = H3 a := fun a z => by rw [hH4, upd_ne z]
  have nd : ∀ a, a ∉ A → a ≠ d := fun a h z => h (by rw [z]; exact L.dA)
  have upF : ∀ a u, F a = some u → F4 a = some u := fun a u e => by
    have ha : a ∉ A := fun z => by rw [(L.ro.mem a z).1] at e; cases e
    rw [F4n a ha]
    refine g.ex.f a u ?_
    unfold lentF
    rw [if_neg ha]
    exact L.up a u e
  have tup3 : ∀ a vs, F3 a = some (.tup vs) → F4 a = some (.tup vs) := fun a vs e => by
    have ha : a ∉ A := fun z => by
      have h3 := g.sta.gl.sub.at e (fun _ y => by cases y) rfl
      rcases H3A a z with ⟨_, h⟩ | ⟨_, h⟩
      · rw [h] at h3; cases h3
      · obtain ⟨_, u, h2, ou⟩ := L.ro.mem a z
        rw [h, h2] at h3
        cases h3
        cases ou
    rw [F4n a ha]
    exact e
  have gl : Gl T F4 H4 := by
    have hd3 : H3 d = some (.frz od (.dK kvs)) := by
      rcases H3A d L.dA with ⟨_, h⟩ | ⟨z, _⟩
      · exact h
      · exact absurd rfl z
    refine ⟨fun a u e n => ?_, fun a ps e => ?_, fun a vs e => ?_, by rw [hH4]; exact tabs_free g.sta.gl.tab hd3⟩
    · have ha : a ∉ A := fun z => by rw [F4A a z] at e; cases e
      rw [F4n a ha] at e
      rw [H4n a (nd a ha)]
      exact g.sta.gl.sub a u e n
    · have ha : a ∉ A := fun z => by rw [F4A a z] at e; cases e
      rw [F4n a ha] at e
      exact g.sta.gl.notbl a ps e
    · have ha : a ∉ A := fun z => by
        rw [H4A a z] at e
        obtain ⟨_, u, h2, ou⟩ := L.ro.mem a z
        rw [h2] at e
        cases e
        cases ou
      rw [H4n a (nd a ha)] at e
      rw [F4n a ha]
      exact g.sta.gl.tup a vs e
  obtain ⟨ω4, hω4⟩ : ∃ ω4 : Own, ω4 = fun a => if a ∈ A then some r else ω3 a := ⟨_, rfl⟩
  have w4 : ∀ {B : List Addr} {i : Nat}, (∀ b ∈ B, ω3 b = some i) → (∀ b ∈ B, b ∉ A) ∧ ∀ b ∈ B, ω4 b = some i := fun {B i} hB => by
    have h1 : ∀ b ∈ B, b ∉ A := fun b hb z => by
      have := hB b hb
      rw [w3A b z] at this; cases this
    exact ⟨h1, fun b hb => by rw [hω4]; show (if b ∈ A then some r else ω3 b) = _; rw [if_neg (h1 b hb)]; exact hB b hb⟩
  obtain ⟨l1, l2, bk⟩ := backG_get r 0 env e3 e4 hb
  have wr : ∃ oo, (lendG r 0 env)[r]? = some (SV.io oo) := by
    rw [lendG_get, Nat.zero_add]
    rcases L.er with q | q
    · rw [q]; exact ⟨_, by show some (if r = r then SV.io (.frz o.toD) else .own o) = _; rw [if_pos rfl]⟩
    · rw [q]; exact ⟨_, by show some (if r = r then SV.io (.frz o.toD) else .io o) = _; rw [if_pos rfl]⟩
  have hr3 : σ3[r]? = some (some w) := by
    obtain ⟨oo, q⟩ := wr
    exact (g.io r oo q).1.trans L.hr
  have ro4 : Ro K F4 H4 w o A := L.ro.keep upF fun a ha => ⟨F4A a ha, H4A a ha⟩
  have own4 : ∀ a ∈ A, ω4 a = some r := fun a ha => by rw [hω4]; exact if_pos ha
  have obO : ∀ (j : Nat) (t u : SV), e3[j]? = some t → backO t = some u → SlotOk K F4 H4 σ3 ω4 j u := fun j t u e1 e2 => by
    have h := g.sta.slot j t e1
    cases t with
    | dead => cases e2; trivial
    | als r' p => cases e2; trivial
    | frz dd =>
      have e2 : (if dd.imm = true then some (SV.frz dd) else none) = some u := e2
      split at e2
      · rename_i im
        cases e2
        obtain ⟨v, h1, h2⟩ := h
        exact ⟨v, h1, h2.immv tup3 im⟩
      · cases e2
    | own n =>
      have e2 : (if n.immO = true then some (SV.own n) else none) = some u := e2
      split at e2
      · rename_i im
        cases e2
        obtain ⟨v, B, h1, h2, h3, h4⟩ := h
        obtain ⟨b1, b2⟩ := w4 h4
        have r3 := h2.imm tup3 im fun b z => (F4n b (b1 b z)).trans (h2.mem b z).1
        exact ⟨v, B, h1, r3.keep (fun _ _ e => e) fun b z => ⟨(r3.mem b z).1, H4n b (nd b (b1 b z))⟩, h3, b2⟩
      · cases e2
    | io n =>
      have e2 : (if n.immO = true then some (SV.io n) else none) = some u := e2
      split at e2
      · rename_i im
        cases e2
        obtain ⟨v, B, h1, h2, h3, h4⟩ := h
        obtain ⟨b1, b2⟩ := w4 h4
        have r3 := h2.imm tup3 im fun b z => (F4n b (b1 b z)).trans (h2.mem b z).1
        exact ⟨v, B, h1, r3.keep (fun _ _ e => e) fun b z => ⟨(r3.mem b z).1, H4n b (nd b (b1 b z))⟩, h3, b2⟩
      · cases e2
  refine ⟨F4, ω4, ⟨gl, by rw [l1, ← l2]; exact g.sta.len, fun j u e => ?_, fun a i e => ?_⟩, ⟨upF, fun a u e h n => ?_, fun a e h z => ?_, fun a i e => ?_, fun a h => ?_, fun a ps e => ?_⟩, fun i n e => ?_⟩
  · obtain ⟨s, t, e1, e2, e5⟩ := bk j u e
    rw [Nat.zero_add] at e5
    cases s with
    | dead => exact obO j t u e2 e5
    | als r' p => exact obO j t u e2 e5
    | frz dd =>
      have e5 : (if dd.imm = true then backO t else some (SV.frz dd)) = some u := e5
      split at e5
      · exact obO j t u e2 e5
      · rename_i im
        cases e5
        obtain ⟨v, h1, h2⟩ := L.sa.slot j _ e1
        have q : (lendG r 0 env)[j]? = some (SV.io (.frz dd)) := by
          rw [lendG_get, Nat.zero_add, e1]
          show some (if dd.imm = true then SV.frz dd else .io (.frz dd)) = _
          rw [if_neg im]
        exact ⟨v, (g.io j _ q).1.trans h1, h2.sub (SubN.of upF)⟩
    | own n =>
      have e5 : (if j = r then some (SV.own n) else backO t) = some u := e5
      split at e5
      · rename_i hj
        cases e5
        subst hj
        rcases L.er with q | q
        · rw [q] at e1; cases e1
          exact ⟨w, A, hr3, ro4, L.nd, own4⟩
        · rw [q] at e1; cases e1
      · exact obO j t u e2 e5
    | io n =>
      have e5 : (if j = r then some (SV.io n) else backO t) = some u := e5
      split at e5
      · rename_i hj
        cases e5
        subst hj
        rcases L.er with q | q
        · rw [q] at e1; cases e1
        · rw [q] at e1; cases e1
          exact ⟨w, A, hr3, ro4, L.nd, own4⟩
      · exact obO j t u e2 e5
  · rw [hω4] at e
    have e : (if a ∈ A then some r else ω3 a) = some i := e
    split at e
    · rename_i ha
      obtain ⟨_, u, h2, ou⟩ := L.ro.mem a ha
      exact ⟨F4A a ha, u, (H4A a ha).trans h2, ou⟩
    · rename_i ha
      obtain ⟨h2, u, h3, ou⟩ := g.sta.og a i e
      exact ⟨(F4n a ha).trans h2, u, (H4n a (nd a ha)).trans h3, ou⟩
  · have ha : a ∉ A := fun z => by rw [L.own a z] at h; cases h
    rw [H4n a (nd a ha)]
    refine g.ex.h a u (L.ext a u e (nd a ha) n) ?_ n
    unfold ωout
    rw [h, if_neg fun y => by cases y]
  · have ha : a ∉ A := fun y => by rw [L.own a y] at z; cases z
    rw [F4n a ha]
    refine g.ex.new a ?_ (H1n a h) ?_
    · unfold lentF
      rw [if_neg ha]
      exact L.new a e (by rw [z]; exact fun y => by cases y) h
    · unfold ωout
      rw [z, if_neg fun y => by cases y]
  · rw [hω4] at e
    have e : (if a ∈ A then some r else ω3 a) = some i := e
    split at e
    · rename_i ha
      exact .inl (by rw [L.own a ha]; exact fun z => by cases z)
    · rcases g.ex.own a i e with q | q
      · left
        intro z
        apply q
        unfold ωout
        rw [z, if_neg fun y => by cases y]
      · right
        cases q2 : H a with
        | none => rfl
        | some u => exact absurd q (H1n a (by rw [q2]; exact fun z => by cases z))
  · by_cases ha : a ∈ A
    · rw [H4A a ha]; exact h
    · rw [H4n a (nd a ha)]
      exact g.ex.trk a (H1n a h)
  · have ha : a ∉ A := fun z => by
      obtain ⟨_, u, h2, ou⟩ := L.ro.mem a z
      rw [h2] at e
      cases e
      cases ou
    rw [H4n a (nd a ha)]
    obtain ⟨ps', h1⟩ := L.tb a ps e
    exact g.ex.tb a ps' h1
  · by_cases hi : i = r
    · subst hi
      refine ⟨hr3.trans L.hr.symm, ?_⟩
      have hl : i < e4.length := by rw [l1]; exact own_len e
      obtain ⟨s, t, e1, e2, e5⟩ := bk i e4[i] (List.getElem?_eq_getElem hl)
      rw [e] at e1
      cases e1
      rw [Nat.zero_add] at e5
      have e5 : (if i = i then some (SV.io n) else backO t) = some e4[i] := e5
      rw [if_pos rfl] at e5
      exact ⟨n, by rw [List.getElem?_eq_getElem hl, ← Option.some.inj e5]⟩
    · have q : (lendG r 0 env)[i]? = some (SV.io n) := by
        rw [lendG_get, Nat.zero_add, e]
        show some (if i = r then SV.io (.frz n.toD) else .io n) = _
        rw [if_neg hi]
      obtain ⟨h1, n', h2⟩ := g.io i n q
      refine ⟨h1, ?_⟩
      have hl : i < e4.length := by rw [l1]; exact own_len e
      obtain ⟨s, t, e1, e2, e5⟩ := bk i e4[i] (List.getElem?_eq_getElem hl)
      rw [e] at e1
      cases e1
      rw [h2] at e2
      cases e2
      rw [Nat.zero_add] at e5
      have e5 : (if i = r then some (SV.io n) else backO (.io n')) = some e4[i] := e5
      rw [if_neg hi] at e5
      have e5 : (if n'.immO = true then some (SV.io n') else none) = some e4[i] := e5
      split at e5
      · exact ⟨n', by rw [List.getElem?_eq_getElem hl, ← Option.some.inj e5]⟩
      · cases e5
end
section
variable {K : PySem.W.Frag} {T : Tab} {F H : Hp} {σ : L2.St} {env : Env} {ω : Own} {v w : V} {o n : O} {r : Nat} {p : List Stp}
end
section
variable {X : Cx} {T : Tab} {tg e : Expr} {body : List Stmt} {pos : Pos} {q : Qm} {g : Gm} {s : Sm} {ts : List Nat}
end
end VL
namespace VL
open PySem PySem.Spec PyProof.Rows L2
section
variable {K : PySem.W.Frag} {T : Tab} {F H : Hp}
end
section
variable {X : Cx} {T : Tab} {e : Expr} {m : Em} {x : Str} {p pos : Pos}
end
section
variable {X : Cx} {T : Tab} {m : Em} {e : Expr} {pos : Pos}
end
end VL
namespace VL
open PySem PySem.Spec PyProof.Rows L2
section
variable {X : Cx} {T : Tab} {a b e : Expr} {c : Cm} {pos : Pos} {t u : Ct}
end
end VL
namespace VL
open PySem PySem.Spec PyProof.Rows L2 HT
section
variable {prog : Program} {w : World} {A : Around} {E : Value → Shared → Prop} {s : Shared}
end
section
variable {X : Cx}
end
section
variable {X : Cx} {T : Tab} {a : Expr} {ma : Em} {pos : Pos}
end
end VL
namespace VL
open PySem PySem.Spec PyProof.Rows L2 PySem.W
abbrev T3 := Int × Int × Int
def D.t3 : D → Option T3
  | .tup [.int a, .int b, .int c] => some (a, b, c)
  | _ => none
def triT (t : T3) : D := .tup [.int t.1, .int t.2.1, .int t.2.2]
def triP (t : T3) : PyData := .tuple [.int t.1, .int t.2.1, .int t.2.2]
theorem t3_of {d : D} {t : T3} (h : d.t3 = some t) : d = triT t := by
  unfold D.t3 at h
  split at h
  · cases h; rfl
  · cases h
theorem t3_triT (t : T3) : (triT t).t3 = some t := rfl
theorem triT_py (t : T3) : (triT t).py = some (triP t) := rfl
theorem triP_inj {a b : T3} (h : triP a = triP b) : a = b := by
  unfold triP at h
  simp only [PyData.tuple.injEq, List.cons.injEq, PyData.int.injEq, and_true] at h
  obtain ⟨h1, h2, h3⟩ := h
  exact Prod.ext h1 (Prod.ext h2 h3)
def lt3 (a b : T3) : Bool := !le3 b a
theorem lt3_data (a b : T3) : dataLt (triP a) (triP b) = lt3 a b := by
  have h : dataLe false py3 (triT b) (triT a) = le3 b a := by rw [dataLe_3]; rfl
  unfold lt3
  rw [← h]
  unfold dataLe sortLe dataLt
  simp [py3]
  rfl
def gLt3 : D → D → Option D := fun a b => a.t3.bind fun x => b.t3.map fun y => .bl (lt3 x y)
def rLt3 (K : PySem.W.Frag) : R2 := fun x y H Q => ∃ s t, Dp K H x (triP s) ∧ Dp K H y (triP t) ∧ Q (.bl (lt3 s t)) H
theorem alike3 (a b : T3) : alike (triP a) (triP b) = true := by simp [triP, alike, alikeAll]
theorem depth3 (a : T3) : (triP a).depth ≤ 3 := by simp [triP, PyData.depth, PyData.depthAll]
section
variable {X : Cx}
theorem op_lt3 (hu : X.A.units + 64 < cLine) : OpR X (compareOp .Lt) (rLt3 X.K) := by
  intro pins s σ H x y v u Q I rx ry h
  obtain ⟨a, b, ha, hb, q⟩ := h
  obtain ⟨as, r1⟩ := Dp.reads I _ x v ha rx
  obtain ⟨bs, r2⟩ := Dp.reads I _ y u hb ry
  have d1 := depth3 a
  refine lt_data r1 r2 (alike3 a b) (fun z => nomatch z) (by have := Nat.min_le_left (triP a).depth (triP b).depth; omega) ⟨.bl _, H, I, ?_, q⟩
  rw [lt3_data]
  rfl
end
section
variable {K : PySem.W.Frag} {T : Tab}
theorem op_gLt3 : Op2 K T (rLt3 K) (sc2 gLt3) := .sc fun F H x y a b d Q gl hx hy e k => by
  obtain ⟨p, e1, e⟩ := Option.bind_eq_some_iff.mp e
  obtain ⟨q, e2, e⟩ := Option.map_eq_some_iff.mp e
  subst e
  have f1 := t3_of e1
  have f2 := t3_of e2
  subst f1 f2
  exact ⟨p, q, hx.dp (triT_py p), hy.dp (triT_py q), k _ (.bl _)⟩
end
def min3 (x : T3) (xs : List T3) : T3 := xs.foldl (fun a y => if lt3 y a = true then y else a) x
theorem minD_3 (x : T3) (xs : List T3) : minD (triP x) (xs.map triP) = triP (min3 x xs) := by
  unfold minD min3
  induction xs generalizing x with
  | nil => rfl
  | cons y xs ih =>
    rw [List.map_cons, List.foldl_cons, List.foldl_cons, ← ih]
    congr 1
    rw [lt3_data]
    split <;> rfl
def D.t3s : List D → Option (List T3)
  | [] => some []
  | d :: ds => d.t3.bind fun t => (D.t3s ds).map fun ts => t :: ts
theorem t3s_of : ∀ {ds : List D} {ts : List T3}, D.t3s ds = some ts → ds = ts.map triT
  | [], ts, h => by cases h; rfl
  | d :: ds, ts, h => by
    obtain ⟨t, e1, h⟩ := Option.bind_eq_some_iff.mp h
    obtain ⟨us, e2, e3⟩ := Option.map_eq_some_iff.mp h
    subst e3
    rw [List.map_cons, ← t3_of e1, ← t3s_of e2]
theorem t3s_map (ts : List T3) : D.t3s (ts.map triT) = some ts := by
  induction ts with
  | nil => rfl
  | cons t ts ih => rw [List.map_cons, D.t3s, t3_triT, ih]; rfl
theorem pys3 (ts : List T3) : D.pys (ts.map triT) = some (ts.map triP) := by
  induction ts with
  | nil => rfl
  | cons t ts ih => rw [List.map_cons, D.pys, triT_py, ih]; rfl
theorem depths3 (ts : List T3) : PyData.depthAll (ts.map triP) ≤ 30 := by
  induction ts with
  | nil => rw [List.map_nil, PyData.depthAll]; omega
  | cons t ts ih =>
    rw [List.map_cons, PyData.depthAll]
    have := depth3 t
    omega
def oMin3 (o : O) : Option O := (o.litems).bind fun ds => (D.t3s ds).bind fun ts => match ts with
  | [] => none
  | x :: xs => some (.frz (triT (min3 x xs)))
def rMin3 (K : PySem.W.Frag) : List V → Hp → VK → Prop := fun vs H Q => ∃ (a : Addr) (xs : List V) (F : Hp) (t : T3) (ts : List T3), vs = [V.ref a] ∧ SqL K H a xs ∧ VwL K F xs ((t :: ts).map triT) ∧ SubN F H ∧ ∀ v, Vw K F v (triT (min3 t ts)) → Q v H
theorem valsAt : ∀ {vs : List V} {us : List Value}, Vals vs us → ∀ (i : Nat) (u : Value), us[i]? = some u → ∃ v, vs[i]? = some v ∧ RelV v u
  | _, _, .nil, i, u, h => by simp at h
  | _, _, .cons r t, 0, u, h => by
    simp at h
    subst h
    exact ⟨_, rfl, r⟩
  | _, _, .cons r t, i + 1, u, h => by
    simp at h
    obtain ⟨v, h1, h2⟩ := valsAt t i u h
    exact ⟨v, by simpa using h1, h2⟩
theorem vwl_at {K : PySem.W.Frag} {F : Hp} : ∀ {vs : List V} {ds : List D}, VwL K F vs ds → ∀ (i : Nat) (v : V), vs[i]? = some v → ∃ d, ds[i]? = some d ∧ Vw K F v d
  | _, _, .nil, i, v, h => by simp at h
  | _, _, .cons r t, 0, v, h => by
    simp at h
    subst h
    exact ⟨_, rfl, r⟩
  | _, _, .cons r t, i + 1, v, h => by
    simp at h
    obtain ⟨d, h1, h2⟩ := vwl_at t i v h
    exact ⟨d, by simpa using h1, h2⟩
section
variable {X : Cx}
theorem cr_min3 (hc : X.calm = true) (hu : X.A.units + 64 < cLine) : CallR X (.builtin "min") (rMin3 X.K) := by
  intro pins s σ H vs us Q I r h
  obtain ⟨a, xs, F, t, ts, rfl, hs, l, sub, q⟩ := h
  obtain ⟨its, rv, hl, hz⟩ := I.list hs
  rw [Vals.ref1 r]
  have dps : DpAll X.K H xs ((t :: ts).map triP) := (l.sub sub).dp (pys3 (t :: ts))
  obtain ⟨as, ra⟩ := Dp.readsAll I _ _ _ dps rv
  have hdp := depths3 (t :: ts)
  rw [List.map_cons] at ra hdp
  refine min_list_data (I.ok.hd hc) hl.isList (by simpa using ra) ⟨fun p hp q hq => ?_, fun p hp z => ?_⟩ (by omega) fun i v h' tk bs hv hr hk => ?_
  · rw [← List.map_cons (f := triP)] at hp hq
    obtain ⟨x, _, rfl⟩ := List.mem_map.mp hp
    obtain ⟨y, _, rfl⟩ := List.mem_map.mp hq
    exact alike3 x y
  · rw [← List.map_cons (f := triP)] at hp
    obtain ⟨x, _, rfl⟩ := List.mem_map.mp hp
    cases z
  · obtain ⟨w, hw, rw_⟩ := valsAt rv i v (by simpa using hv)
    obtain ⟨d, hd, vd⟩ := vwl_at l i w hw
    obtain ⟨y, hy⟩ : ∃ y, d = triT y := by
      rw [List.getElem?_map] at hd
      obtain ⟨y, _, e⟩ := Option.map_eq_some_iff.mp hd
      exact ⟨y, e.symm⟩
    subst hy
    have J : Inv X pins σ H { s with heap := h', toks := tk } := I.kept fun b o e => hk b o e
    obtain ⟨cs, rd⟩ := Dp.reads J _ w v ((vd.sub sub).dp (triT_py y)) rw_
    rw [minD_3] at hr
    have e := triP_inj (rd.unique _ _ hr).1
    subst e
    exact ⟨w, H, J, rw_, q w vd⟩
end
section
variable {K : PySem.W.Frag} {T : Tab}
theorem op_min3 : OpN K T (rMin3 K) (n1 oMin3) := .one fun F H x a o Q gl hx e k => by
  obtain ⟨ds, e1, e⟩ := Option.bind_eq_some_iff.mp e
  obtain ⟨ts, e2, e⟩ := Option.bind_eq_some_iff.mp e
  have e3 := t3s_of e2
  subst e3
  obtain ⟨p, vs, rfl, h, l⟩ := hx.litems gl e1
  rw [t3s_map] at e
  cases ts with
  | nil => cases e
  | cons t ts =>
    cases e
    exact ⟨p, vs, F, t, ts, rfl, h, l, gl.sub, fun v hv => k v F H [] (.refl gl) (.frz hv)⟩
end
section
variable {X : Cx} {T : Tab} {a : Expr} {m : Em} {p p2 q pos : Pos}
def tLST (K : PySem.W.Frag) (ta : TE) : TE := fun σ H Q => ta σ H fun x H1 => ∃ (l : Addr) (ks : List (Addr × List Int)), x = V.ref l ∧ SqL K H1 l (ks.map fun p => V.ref p.1) ∧ (∀ p ∈ ks, SqT K H1 p.1 (p.2.map V.int)) ∧ ks.length < 64 ∧ (ks.map (·.2)).Nodup ∧ Q (.int (ks.length : Nat)) H1
theorem nodupLe {α : Type} [DecidableEq α] : ∀ {l m : List α}, l.Nodup → (∀ x ∈ l, x ∈ m) → l.length ≤ m.length
  | [], m, _, _ => Nat.zero_le _
  | x :: l, m, hn, h => by
    have hx := h x (by simp)
    obtain ⟨n1, n2⟩ := List.nodup_cons.mp hn
    have := nodupLe (l := l) (m := m.erase x) n2 fun y hy => (List.mem_erase_of_ne (fun z => n1 (by rw [← z]; exact hy))).mpr (h y (by simp [hy]))
    rw [List.length_erase_of_mem hx] at this
    have := List.length_pos_of_mem hx
    simp only [List.length_cons]
    omega
theorem got_len {ks L : List (Addr × List Int)} (g : Got ks ks.length L) (hn : (ks.map (·.2)).Nodup) : L.length = ks.length := by
  have h1 := g.len
  have h2 : (ks.map (·.2)).length ≤ (L.map (·.2)).length := by
    refine nodupLe hn fun x hx => ?_
    obtain ⟨p, hp, rfl⟩ := List.mem_map.mp hx
    exact g.all p (by rw [List.take_length]; exact hp)
  simp at h2
  omega
theorem pe_lst {ta : TE} (hc : X.calm = true) (hu : X.A.units + 64 < cLine) (hg : L2.Gl X "len") (hm : X.mg "len" = none) (hg2 : L2.Gl X "set") (hm2 : X.mg "set" = none) (ha : PE X a ta) (na : starEach [a] X.env = (false, eval a X.env) :: starEach [] X.env := by rfl) :
    PE X (.Call (.Name "len" p) [.Call (.Name "set" p2) [a] [] q] [] pos) (tLST X.K ta) := ⟨fun pins s σ H Q I h => by
  apply Call_ (ld_blt I hg hm boot_len ?_)
  apply callWith_builtin1 (args_cons ?_ rfl) rfl rfl
  apply Call_ (ld_blt I hg2 hm2 boot_set ?_)
  refine callWith_type1 (args_cons (thn (ha.run pins s σ H _ I h) fun v s1 ⟨x, H1, J, rx, l, ks, ex, sq, hk, le, hn, fin⟩ => args_nil ?_) na) na rfl
  subst ex
  cases rx
  obtain ⟨us, vs, isl, z⟩ := J.list sq
  refine call_set_tups (P := X.prog) (w := X.w) ks (J.ok.hd hc) isl.isList (by simpa using refs_of_vals vs) (fun p hp => J.isT (hk p hp)) le (by omega) fun h' tk L es ep t R g k => args_nil ?_
  obtain ⟨o, ho, hex, hd⟩ := R.ob
  have J2 : Inv X pins σ H1 { s1 with heap := h', toks := tk } := J.kept k
  have es' := R.size (s := { s1 with heap := h', toks := tk })
  have gl := got_len g hn
  refine call_len_set ho hex hd (R.fits (s := { s1 with heap := h', toks := tk })) (by omega) ⟨.int (ks.length : Nat), H1, J2.tok _, ⟨_, by rw [es', gl]⟩, fin⟩⟩
def D.tis : List D → Option (List (List Int))
  | [] => some []
  | .tup ds :: r => (D.ints ds).bind fun ns => (D.tis r).map fun xs => ns :: xs
  | _ :: _ => none
def eLenSetT (m : Em) : Em := fun env => (m env).bind fun o => (o.litems).bind fun ds => (D.tis ds).bind fun xs => if xs.length < 64 ∧ xs.Nodup then some (.frz (.int (xs.length : Nat))) else none
theorem tis_of {K : PySem.W.Frag} {F H : Hp} (sub : SubN F H) : ∀ {vs : List V} {ds : List D} {xs : List (List Int)}, VwL K F vs ds → D.tis ds = some xs → ∃ ks : List (Addr × List Int), vs = ks.map (fun p => V.ref p.1) ∧ ks.map (·.2) = xs ∧ ∀ p ∈ ks, SqT K H p.1 (p.2.map V.int)
  | _, _, xs, .nil, e => by cases e; exact ⟨[], rfl, rfl, fun p hp => by cases hp⟩
  | _, _, xs, .cons (d := d) h t, e => by
    unfold D.tis at e
    split at e
    · rename_i z; cases z
    · rename_i ds r z
      cases z
      obtain ⟨ns, e1, e⟩ := Option.bind_eq_some_iff.mp e
      obtain ⟨ys, e2, e3⟩ := Option.map_eq_some_iff.mp e
      subst e3
      obtain ⟨ks, g1, g2, g3⟩ := tis_of sub t e2
      cases h with
      | tup h l =>
        rename_i b vs2
        have := l.intsO e1
        subst this
        refine ⟨(b, ns) :: ks, by rw [List.map_cons, g1], by rw [List.map_cons, g2], fun p hp => ?_⟩
        rcases List.mem_cons.mp hp with rfl | hp
        · exact .inl (.inl (sub.at h (fun _ z => by cases z) rfl))
        · exact g3 p hp
    · cases e
theorem fe_lensetT (hc : X.calm = true) (hu : X.A.units + 64 < cLine) (hg : L2.Gl X "len") (hm : X.mg "len" = none) (hg2 : L2.Gl X "set") (hm2 : X.mg "set" = none) (ha : BE X T a m) (na : starEach [a] X.env = (false, eval a X.env) :: starEach [] X.env := by rfl) :
    FE X T (.Call (.Name "len" p) [.Call (.Name "set" p2) [a] [] q] [] pos) (eLenSetT m) := peI (pe_lst hc hu hg hm hg2 hm2 ha na) fun σ H Q z => by
  obtain ⟨F, env, ω, sa, o, e, k⟩ := z
  obtain ⟨x, e1, e⟩ := Option.bind_eq_some_iff.mp e
  obtain ⟨ds, e2, e⟩ := Option.bind_eq_some_iff.mp e
  obtain ⟨xs, e3, e⟩ := Option.bind_eq_some_iff.mp e
  split at e
  · rename_i le
    cases e
    refine ⟨F, env, ω, sa, x, e1, fun v F1 H1 p1 h1 => ?_⟩
    obtain ⟨pa, vs, rfl, h, l⟩ := h1.litems p1.gl e2
    obtain ⟨ks, g1, g2, g3⟩ := tis_of p1.gl.sub l e3
    subst g1
    have hl : ks.length = xs.length := by rw [← g2, List.length_map]
    refine ⟨_, ks, rfl, h, g3, by omega, by rw [g2]; exact le.2, ?_⟩
    rw [hl]
    exact k _ F1 H1 [] p1 (.frz (.int _))
  · cases e
end
end VL
noncomputable section
namespace Mr
open PySem PySem.Spec PyProof.Rows L2 VL
/-! ### mirrors -/
def b1_by_age : Sm := (sAct aAppend (qVar 1) (eCons (eTup (eCons (takE (eIx (eVar 5) (eC (.int 1)))) (eCons (takE (eVar 2)) (eCons (takE (eVar 4)) (eCons (takE (eVar 5)) eNil))))) eNil))
def b0_by_age : Sm := (sFor (iE (eCons (eVar 3) eNil)) (gTp 2 (gCn (gNm 4) (gCn (gNm 5) gNl))) b1_by_age)
def m_by_age : Sm := (sSeq (sSet 1 (eLst eNil)) (sSeq (sFor (iE (eCons (eVar 0) eNil)) (gTp 2 (gCn (gNm 2) (gCn (gNm 3) gNl))) b0_by_age) (sRet (eOp1 oSort3 (eVar 1)))))
def f_by_age : Fm := fnM 1 6 m_by_age
def c0_spots_of : Em := (eTup (eCons (takE (eVar 2)) (eCons (takE (eVar 3)) eNil)))
def m_spots_of : Sm := (sRet (eLcN (iLTc (eVar 0)) [1, 2, 3, 4] (gTp 4 (gCn (gNm 1) (gCn (gNm 2) (gCn (gNm 3) (gCn (gNm 4) gNl))))) yesT c0_spots_of))
def f_spots_of : Fm := fnM 1 5 m_spots_of
def b0_by_turns : Sm := (sSeq (sSet 3 (takE (frzE (eOp2 (sc2 gMod) (frzE (eOp2 oAdd (eVar 3) (eC (.int 1)))) (frzE (eOpN (n1 oLen) (eCons (eVar 1) eNil))))))) (sSet 4 (takE (eC (.int 0)))))
def t0_by_turns : VL.Tm := (tOr2 (tst (eOp2 (sc2 gEq) (eIx (eVar 1) (eVar 3)) (frzE (eLst eNil)))) (tst (eOp2 (sc2 (gB fun i j => decide (j ≤ i))) (eVar 4) (eIx (eVar 0) (eVar 3)))))
def m_by_turns : Sm := (sSeq (sAsg (eVar 2) (gTp 2 (gCn (gNm 3) (gCn (gNm 4) gNl)))) (sSeq (sIf (tst (eOp2 (sc2 gEq) (frzE (eCall 1 f_by_age (eCons (eVar 1) eNil))) (frzE (eLst eNil)))) (sRet (eTup (eCons (eLst eNil) (eCons (takE (eVar 2)) eNil)))) sNx) (sSeq (sWhile 1000 t0_by_turns b0_by_turns) (sRet (eTup (eCons (eLst (eCons (eTup (eCons (takE (eVar 3)) (eCons (takE (eC (.int 0))) eNil))) eNil)) (eCons (eTup (eCons (takE (eVar 3)) (eCons (eOp2 oAdd (eVar 4) (eC (.int 1))) eNil))) eNil)))))))
def f_by_turns : Fm := fnM 3 5 m_by_turns
def c0_by_rank : Em := (takE (eVar 6))
def m_by_rank : Sm := (sSeq (sSet 3 (takE (frzE (eCall 1 f_by_age (eCons (eVar 1) eNil))))) (sSeq (sIf (tOr2 (tst (eOp2 (sc2 gEq) (eVar 3) (frzE (eLst eNil)))) (tAnd2 (tst (eOp1 (oIsN true) (eVar 0))) (tst (eOp2 (sc2 (gB fun i j => decide (j ≤ i))) (frzE (eOp2 (sc2 (gI fun i j => i - j)) (eVar 2) (eIx (eIx (eVar 3) (eC (.int 0))) (eC (.int 0))))) (eVar 0))))) (sRet (eCall 1 f_spots_of (eCons (frzE (eSl (eVar 3) noP (someP (eC (.int 1))))) eNil))) sNx) (sSeq (sSet 4 (takE (frzE (eOpN (n1 oMin) (eCons (frzE (eLcN (iLTc (eVar 3)) [5, 6, 7, 8] (gTp 4 (gCn (gNm 5) (gCn (gNm 6) (gCn (gNm 7) (gCn (gNm 8) gNl))))) yesT c0_by_rank)) eNil))))) (sRet (eLst (eCons (eTup (eCons (takE (eVar 4)) (eCons (takE (eC (.int 0))) eNil))) eNil))))))
def f_by_rank : Fm := fnM 3 9 m_by_rank
def c0_of_one_kind : Em := (takE (eVar 3))
def ct0_of_one_kind : VL.Tm := (tst (eOp2 (sc2 gEq) (eIx (eIx (eVar 3) (eC (.int 3))) (eC (.int 2))) (eIx (eIx (eIx (eVar 2) (eC (.int 0))) (eC (.int 3))) (eC (.int 2)))))
def m_of_one_kind : Sm := (sSeq (sSet 2 (takE (frzE (eCall 1 f_by_age (eCons (eVar 1) eNil))))) (sRet (eCall 1 f_spots_of (eCons (frzE (eSl (frzE (eLcN (iLTc (eVar 2)) [3] (gNm 3) ct0_of_one_kind c0_of_one_kind)) noP (someP (eVar 0)))) eNil))))
def f_of_one_kind : Fm := fnM 2 4 m_of_one_kind
def m_gathered : Sm := (sSeq (sSet 4 (takE (frzE (eCall 1 f_by_age (eCons (eVar 2) eNil))))) (sSeq (sIf (tOr2 (tst (eOp2 (sc2 gEq) (eVar 4) (frzE (eLst eNil)))) (tAnd2 (tst (eOp2 (sc2 (gB fun i j => decide (i < j))) (frzE (eOpN (n1 oLen) (eCons (eVar 4) eNil))) (eVar 0))) (tst (eOp2 (sc2 (gB fun i j => decide (i < j))) (frzE (eOp2 (sc2 (gI fun i j => i - j)) (eVar 3) (eIx (eIx (eVar 4) (eC (.int 0))) (eC (.int 0))))) (eVar 1))))) (sRet (eLst eNil)) sNx) (sRet (eCall 1 f_spots_of (eCons (frzE (eSl (eVar 4) noP (someP (eVar 0)))) eNil)))))
def f_gathered : Fm := fnM 4 5 m_gathered
def b0_first_of : Sm := (sIf (tst (eOp2 (sc2 gEq) (eIx (eVar 3) (eC (.int 3))) (eVar 1))) (sRet (takE (eVar 2))) sNx)
def m_first_of : Sm := (sSeq (sFor (iE (eCons (eVar 0) eNil)) (gTp 2 (gCn (gNm 2) (gCn (gNm 3) gNl))) b0_first_of) (sRet (takE (eC .non))))
def f_first_of : Fm := fnM 2 4 m_first_of
def c0_met : Em := (eCall 2 f_first_of (eCons (eVar 7) (eCons (eVar 5) eNil)))
def c1_met : Em := (eTup (eCons (takE (eVar 8)) (eCons (takE (eVar 9)) eNil)))
def b0_met : Sm := (sSeq (sSet 5 (takE (eIx (eVar 4) (eC (.int 3))))) (sSeq (sSet 6 (frzE (eLcN (iLTc (eVar 0)) [7] (gNm 7) yesT c0_met))) (sIf (tAnd2 (tst (eOp2 (sc2 gNe) (eVar 5) (eC (.str "")))) (tst (eOp2 (oIn true) (eC .non) (eVar 6)))) (sRet (eLcN (iEc (eCons (eVar 6) eNil)) [8, 9] (gTp 2 (gCn (gNm 8) (gCn (gNm 9) gNl))) yesT c1_met)) sNx)))
def m_met : Sm := (sSeq (sFor (iLT (frzE (eCall 1 f_by_age (eCons (eVar 0) eNil)))) (gTp 4 (gCn (gNm 1) (gCn (gNm 2) (gCn (gNm 3) (gCn (gNm 4) gNl))))) b0_met) (sRet (eLst eNil)))
def f_met : Fm := fnM 1 10 m_met
def m_load_of : Sm := (sSeq (sSet 4 (takE (eIx (eVar 0) (eC (.int 0))))) (sSeq (sIf (tst (eOp2 (sc2 gEq) (eVar 4) (eC (.str "turns")))) (sRet (eCall 3 f_by_turns (eCons (eIx (eVar 0) (eC (.int 1))) (eCons (eVar 1) (eCons (eVar 2) eNil))))) sNx) (sSeq (sIf (tst (eOp2 (sc2 gEq) (eVar 4) (eC (.str "eldest")))) (sRet (eTup (eCons (eCall 1 f_spots_of (eCons (frzE (eSl (frzE (eCall 1 f_by_age (eCons (eVar 1) eNil))) noP (someP (eC (.int 1))))) eNil)) (eCons (takE (eVar 2)) eNil)))) sNx) (sSeq (sIf (tst (eOp2 (sc2 gEq) (eVar 4) (eC (.str "rank")))) (sRet (eTup (eCons (eCall 3 f_by_rank (eCons (eIx (eVar 0) (eC (.int 1))) (eCons (eVar 1) (eCons (eVar 3) eNil)))) (eCons (takE (eVar 2)) eNil)))) sNx) (sSeq (sIf (tst (eOp2 (sc2 gEq) (eVar 4) (eC (.str "many")))) (sRet (eTup (eCons (eCall 2 f_of_one_kind (eCons (eIx (eVar 0) (eC (.int 1))) (eCons (eVar 1) eNil))) (eCons (takE (eVar 2)) eNil)))) sNx) (sSeq (sIf (tst (eOp2 (sc2 gEq) (eVar 4) (eC (.str "gather")))) (sRet (eTup (eCons (eCall 4 f_gathered (eCons (eIx (eVar 0) (eC (.int 1))) (eCons (eIx (eVar 0) (eC (.int 2))) (eCons (eVar 1) (eCons (eVar 3) eNil))))) (eCons (takE (eVar 2)) eNil)))) sNx) (sRet (eTup (eCons (eCall 1 f_met (eCons (eVar 1) eNil)) (eCons (takE (eVar 2)) eNil))))))))))
def f_load_of : Fm := fnM 4 5 m_load_of
def m__law_cell_at : Sm := (sSeq (sIf (tst (eOp2 (sc2 (gB fun i j => decide (i < j))) (eVar 1) (frzE (eOpN (n1 oLen) (eCons (eVar 0) eNil))))) (sRet (takE (eIx (eVar 0) (eVar 1)))) sNx) (sRet (takE (eC (.int 0)))))
def f__law_cell_at : Fm := fnM 2 2 m__law_cell_at
def m__law_mix : Sm := (sSeq (sSet 2 (takE (frzE (eOp2 (sc2 gMod) (frzE (eOp2 oMul (frzE (eOp2 oAdd (frzE (eOp2 oAdd (frzE (eOp2 (sc2 gMod) (eVar 0) (eC (.int 2147483629)))) (frzE (eOp2 oMul (frzE (eOp2 oMul (eVar 1) (eVar 1))) (eC (.int 7919)))))) (eC (.int 11)))) (eC (.int 48271)))) (eC (.int 2147483647)))))) (sRet (eOp2 (sc2 gMod) (frzE (eOp2 oMul (eVar 2) (eVar 2))) (eC (.int 1999999973)))))
def f__law_mix : Fm := fnM 2 3 m__law_mix
def c0__law_rows : Em := (eLst eNil)
def b0__law_rows : Sm := (sSeq (sSet 5 (takE (frzE (eCall 2 f__law_mix (eCons (eVar 4) (eCons (eVar 3) eNil)))))) (sSeq (sAls 6 (qIx (qVar 2) (frzE (eOp2 (sc2 gMod) (eVar 5) (eVar 1))))) (sSeq (sSet 7 (takE (frzE (eOp2 (sc2 gMod) (frzE (eOp2 (sc2 gDiv) (eVar 5) (eC (.int 7)))) (eC (.int 4)))))) (sSeq (sIf (tst (eOp2 (sc2 gNe) (eVar 6) (frzE (eLst eNil)))) (sSet 7 (takE (frzE (eOp2 oAdd (eIx (eIx (eVar 6) (frzE (eOp1 (sc1 gNeg) (eC (.int 1))))) (eC (.int 1))) (frzE (eOp2 (sc2 gMod) (frzE (eOp2 (sc2 gDiv) (eVar 5) (eC (.int 7)))) (eC (.int 3)))))))) sNx) (sSeq (sSet 8 (takE (eIx (frzE (eLst (eCons (takE (eC (.str "a"))) (eCons (takE (eC (.str "b"))) (eCons (takE (eC (.str "ab"))) eNil))))) (frzE (eOp2 (sc2 gMod) (frzE (eOp2 (sc2 gDiv) (eVar 5) (eC (.int 100)))) (eC (.int 3))))))) (sAct aAppend (qVar 6) (eCons (eTup (eCons (eOp2 (sc2 gMod) (frzE (eOp2 oAdd (frzE (eOp2 oMul (eC (.int 29)) (eVar 3))) (frzE (eOp2 (sc2 gMod) (frzE (eCall 2 f__law_cell_at (eCons (eVar 0) (eCons (eC (.int 0)) eNil)))) (eC (.int 211)))))) (eC (.int 211))) (eCons (takE (eVar 7)) (eCons (takE (eVar 8)) (eCons (takE (eIx (frzE (eLst (eCons (takE (eC (.str ""))) (eCons (takE (eC (.str "p"))) (eCons (takE (eC (.str "q"))) (eCons (takE (eC (.str "pp"))) eNil)))))) (frzE (eOp2 (sc2 gMod) (frzE (eOp2 (sc2 gDiv) (eVar 5) (eC (.int 1000)))) (eC (.int 4)))))) eNil))))) eNil)))))))
def m__law_rows : Sm := (sSeq (sSet 2 (eLcN (iR1 (eCons (eVar 1) eNil)) [3] (gNm 3) yesT c0__law_rows)) (sSeq (sFor (iE (eCons (frzE (eSl (eVar 0) noP (someP (eC (.int 24))))) eNil)) (gTp 2 (gCn (gNm 3) (gCn (gNm 4) gNl))) b0__law_rows) (sFz 2 (sRet (takE (eVar 2))))))
def f__law_rows : Fm := fnM 2 9 m__law_rows
def c0__law_latest : Em := (takE (eIx (eIx (eVar 1) (frzE (eOp1 (sc1 gNeg) (eC (.int 1))))) (eC (.int 1))))
def ct0__law_latest : VL.Tm := (tst (eOp2 (sc2 gNe) (eVar 1) (frzE (eLst eNil))))
def m__law_latest : Sm := (sRet (eOpN (n1 oMax) (eCons (frzE (eOp2 oAdd (frzE (eLst (eCons (takE (eC (.int 0))) eNil))) (frzE (eLcN (iLTc (eVar 0)) [1] (gNm 1) ct0__law_latest c0__law_latest)))) eNil)))
def f__law_latest : Fm := fnM 1 2 m__law_latest
def m__law_age : Sm := (sRet (eTup (eCons (takE (eIx (eIx (eIx (eVar 0) (eIx (eVar 1) (eC (.int 0)))) (eIx (eVar 1) (eC (.int 1)))) (eC (.int 1)))) (eCons (takE (eIx (eVar 1) (eC (.int 0)))) (eCons (takE (eIx (eVar 1) (eC (.int 1)))) eNil)))))
def f__law_age : Fm := fnM 2 2 m__law_age
def b0__law_stands : Sm := (sSeq (sIf (tOr2 (tNot1 (tru (frzE (eIsi "tuple" (eVar 2))))) (tOr2 (tst (eOp2 (sc2 gNe) (frzE (eOpN (n1 oLen) (eCons (eVar 2) eNil))) (eC (.int 2)))) (tNot1 (tst (eChain (sc2 (gB fun i j => decide (i ≤ j))) (sc2 (gB fun i j => decide (i < j))) (eC (.int 0)) (eIx (eVar 2) (eC (.int 0))) (frzE (eOpN (n1 oLen) (eCons (eVar 0) eNil)))))))) (sRet (takE (eC (.bl false)))) sNx) (sIf (tNot1 (tst (eChain (sc2 (gB fun i j => decide (i ≤ j))) (sc2 (gB fun i j => decide (i < j))) (eC (.int 0)) (eIx (eVar 2) (eC (.int 1))) (frzE (eOpN (n1 oLen) (eCons (eIx (eVar 0) (eIx (eVar 2) (eC (.int 0)))) eNil)))))) (sRet (takE (eC (.bl false)))) sNx))
def m__law_stands : Sm := (sSeq (sFor (iLT (eVar 1)) (gNm 2) b0__law_stands) (sRet (eOp2 (sc2 gEq) (frzE (eLenSetT (eVar 1))) (frzE (eOpN (n1 oLen) (eCons (eVar 1) eNil))))))
def f__law_stands : Fm := fnM 2 3 m__law_stands
def c0__law_eldest_so : Em := (eCall 2 f__law_age (eCons (eVar 0) (eCons (eVar 9) eNil)))
def b1__law_eldest_so : Sm := (sSeq (sSet 8 (takE (eAnd (frzE (eOp2 (oIn true) (frzE (eTup (eCons (takE (eVar 4)) (eCons (takE (eVar 6)) eNil)))) (eVar 1))) (eOr (frzE (eOp1 (oIsN false) (eVar 2))) (frzE (eOp2 (sc2 gEq) (eIx (eVar 7) (eC (.int 2))) (eVar 2))))))) (sIf (tAnd2 (tru (eVar 8)) (tst (eOp2 (sc2 gLt3) (frzE (eTup (eCons (takE (eIx (eVar 7) (eC (.int 1)))) (eCons (takE (eVar 4)) (eCons (takE (eVar 6)) eNil))))) (eIx (eVar 3) (frzE (eOp1 (sc1 gNeg) (eC (.int 1)))))))) (sRet (takE (eC (.bl false)))) sNx))
def b0__law_eldest_so : Sm := (sFor (iE (eCons (eVar 5) eNil)) (gTp 2 (gCn (gNm 6) (gCn (gNm 7) gNl))) b1__law_eldest_so)
def m__law_eldest_so : Sm := (sSeq (sSet 3 (frzE (eLcN (iLTc (eVar 1)) [9] (gNm 9) yesT c0__law_eldest_so))) (sSeq (sIf (tst (eOp2 (sc2 gNe) (eVar 3) (frzE (eOpN (n1 oSorted) (eCons (eVar 3) eNil))))) (sRet (takE (eC (.bl false)))) sNx) (sSeq (sFor (iE (eCons (eVar 0) eNil)) (gTp 2 (gCn (gNm 4) (gCn (gNm 5) gNl))) b0__law_eldest_so) (sRet (takE (eC (.bl true)))))))
def f__law_eldest_so : Fm := fnM 3 10 m__law_eldest_so
def c0__law_first_of_all : Em := (eTup (eCons (takE (eIx (eVar 5) (eC (.int 1)))) (eCons (takE (eVar 2)) (eCons (takE (eVar 4)) eNil))))
def b0__law_first_of_all : Sm := (sSet 1 (takE (frzE (eOp2 oAdd (eVar 1) (frzE (eLcN (iEc (eCons (eVar 3) eNil)) [4, 5] (gTp 2 (gCn (gNm 4) (gCn (gNm 5) gNl))) yesT c0__law_first_of_all))))))
def m__law_first_of_all : Sm := (sSeq (sSet 1 (takE (frzE (eLst eNil)))) (sSeq (sFor (iE (eCons (eVar 0) eNil)) (gTp 2 (gCn (gNm 2) (gCn (gNm 3) gNl))) b0__law_first_of_all) (sRet (eOpN (n1 oMin3) (eCons (eVar 1) eNil)))))
def f__law_first_of_all : Fm := fnM 1 6 m__law_first_of_all
def c0__law_one_parcel : Em := (takE (eIx (eIx (eIx (eVar 0) (eVar 3)) (eVar 4)) (eC (.int 3))))
def c1__law_one_parcel : Em := (takE (eVar 3))
def m__law_one_parcel : Sm := (sSeq (sSet 2 (frzE (eLcN (iLTc (eVar 1)) [3, 4] (gTp 2 (gCn (gNm 3) (gCn (gNm 4) gNl))) yesT c0__law_one_parcel))) (sRet (takE (eAnd (frzE (eOp2 (sc2 gEq) (frzE (eLcN (iLTc (eVar 1)) [3, 4] (gTp 2 (gCn (gNm 3) (gCn (gNm 4) gNl))) yesT c1__law_one_parcel)) (frzE (eLRg eZ (frzE (eOpN (n1 oLen) (eCons (eVar 0) eNil))))))) (eAnd (frzE (eOp2 (sc2 gEq) (frzE (eLenSet (eVar 2))) (eC (.int 1)))) (frzE (eOp2 (sc2 gNe) (eIx (eVar 2) (eC (.int 0))) (eC (.str "")))))))))
def f__law_one_parcel : Fm := fnM 2 5 m__law_one_parcel
def c0__law_none_due : Em := (takE (eVar 4))
def ct0__law_none_due : VL.Tm := (tst (eOp2 (sc2 gNe) (eVar 4) (frzE (eLst eNil))))
def c1__law_none_due : Em := (eOpN (n1 oLen) (eCons (eVar 4) eNil))
def c3__law_none_due : Em := (takE (eIx (eVar 5) (eC (.int 3))))
def c2__law_none_due : Em := (eOp2 (oIn false) (eIx (eVar 3) (eC (.int 3))) (frzE (eLcN (iLTc (eVar 4)) [5] (gNm 5) yesT c3__law_none_due)))
def b0__law_none_due : Sm := (sIf (tAnd2 (tst (eOp2 (sc2 gNe) (eIx (eVar 3) (eC (.int 3))) (eC (.str "")))) (tru (frzE (eOpN (n1 oAll) (eCons (frzE (eLcN (iLTc (eVar 1)) [4] (gNm 4) yesT c2__law_none_due)) eNil))))) (sRet (takE (eC (.bl false)))) sNx)
def m__law_none_due : Sm := (sSeq (sIf (tst (eOp2 (sc2 gEq) (frzE (eLcN (iLTc (eVar 1)) [4] (gNm 4) ct0__law_none_due c0__law_none_due)) (frzE (eLst eNil)))) (sRet (takE (eC (.bl true)))) sNx) (sSeq (sIf (tst (eOp2 (sc2 gEq) (eIx (eVar 0) (eC (.int 0))) (eC (.str "gather")))) (sRet (takE (eAnd (frzE (eOp2 (sc2 (gB fun i j => decide (i < j))) (frzE (eOpN (n1 oSum) (eCons (frzE (eLcN (iLTc (eVar 1)) [4] (gNm 4) yesT c1__law_none_due)) eNil))) (eIx (eVar 0) (eC (.int 1))))) (frzE (eOp2 (sc2 (gB fun i j => decide (i < j))) (frzE (eOp2 (sc2 (gI fun i j => i - j)) (eVar 2) (eIx (frzE (eCall 1 f__law_first_of_all (eCons (eVar 1) eNil))) (eC (.int 0))))) (eIx (eVar 0) (eC (.int 2)))))))) sNx) (sSeq (sIf (tst (eOp2 (sc2 gNe) (eIx (eVar 0) (eC (.int 0))) (eC (.str "meet")))) (sRet (takE (eC (.bl false)))) sNx) (sSeq (sFor (iLT (eIx (eVar 1) (eC (.int 0)))) (gNm 3) b0__law_none_due) (sRet (takE (eC (.bl true))))))))
def f__law_none_due : Fm := fnM 3 6 m__law_none_due
def c0__law_right : Em := (takE (eIx (eIx (eIx (eVar 1) (eVar 6)) (eVar 7)) (eC (.int 2))))
def u0__law_right : Sm := (sIf (tst (eOp2 (sc2 gEq) (eVar 2) (frzE (eLst eNil)))) (sRet (eCall 3 f__law_none_due (eCons (eVar 0) (eCons (eVar 1) (eCons (eVar 3) eNil))))) sNx)
def u1__law_right : Sm := (sIf (tOr2 (tNot1 (tru (frzE (eCall 2 f__law_stands (eCons (eVar 1) (eCons (eVar 2) eNil)))))) (tru (frzE (eCall 3 f__law_none_due (eCons (eVar 0) (eCons (eVar 1) (eCons (eVar 3) eNil))))))) (sRet (takE (eC (.bl false)))) sNx)
def u2__law_right : Sm := (sIf (tst (eOp2 (oIn false) (eIx (eVar 0) (eC (.int 0))) (frzE (eTup (eCons (takE (eC (.str "turns"))) (eCons (takE (eC (.str "rank"))) eNil)))))) (sRet (takE (eAnd (frzE (eOp2 (sc2 gEq) (frzE (eOpN (n1 oLen) (eCons (eVar 2) eNil))) (eC (.int 1)))) (frzE (eOp2 (sc2 gEq) (eIx (eIx (eVar 2) (eC (.int 0))) (eC (.int 1))) (eC (.int 0))))))) sNx)
def u3__law_right : Sm := (sIf (tst (eOp2 (sc2 gEq) (eIx (eVar 0) (eC (.int 0))) (eC (.str "meet")))) (sRet (eCall 2 f__law_one_parcel (eCons (eVar 1) (eCons (eVar 2) eNil)))) sNx)
def u4__law_right : Sm := (sSet 4 (takE (eIx (eIx (eIx (eVar 1) (eIx (eIx (eVar 2) (eC (.int 0))) (eC (.int 0)))) (eIx (eIx (eVar 2) (eC (.int 0))) (eC (.int 1)))) (eC (.int 2)))))
def u5__law_right : Sm := (sIf (tst (eOp2 (sc2 gNe) (frzE (eCall 2 f__law_age (eCons (eVar 1) (eCons (eIx (eVar 2) (eC (.int 0))) eNil)))) (frzE (eCall 1 f__law_first_of_all (eCons (eVar 1) eNil))))) (sRet (takE (eC (.bl false)))) sNx)
def u6__law_right : Sm := (sIf (tst (eOp2 (sc2 gEq) (eIx (eVar 0) (eC (.int 0))) (eC (.str "many")))) (sSeq (sSet 5 (frzE (eLcN (iLTc (eVar 2)) [6, 7] (gTp 2 (gCn (gNm 6) (gCn (gNm 7) gNl))) yesT c0__law_right))) (sRet (takE (eAnd (frzE (eOp2 (sc2 gEq) (eVar 5) (frzE (eOp2 oMul (frzE (eLst (eCons (takE (eVar 4)) eNil))) (frzE (eOpN (n1 oLen) (eCons (eVar 5) eNil))))))) (frzE (eCall 3 f__law_eldest_so (eCons (eVar 1) (eCons (eVar 2) (eCons (eVar 4) eNil))))))))) sNx)
def u7__law_right : Sm := (sRet (eCall 3 f__law_eldest_so (eCons (eVar 1) (eCons (eVar 2) (eCons (eC .non) eNil)))))
def m__law_right : Sm := (sSeq u0__law_right (sSeq u1__law_right (sSeq u2__law_right (sSeq u3__law_right (sSeq u4__law_right (sSeq u5__law_right (sSeq u6__law_right u7__law_right)))))))
def f__law_right : Fm := fnM 4 8 m__law_right
def c0_law : Em := (eOp2 oAdd (eC (.int 1)) (frzE (eOp2 (sc2 gMod) (frzE (eCall 2 f__law_mix (eCons (eVar 2) (eCons (eVar 10) eNil)))) (eC (.int 3)))))
def c1_law : Em := (eOpN (n1 oList) (eCons (eVar 11) eNil))
def b0_law : Sm := (sSeq (sSet 9 (takE (frzE (eCall 4 f_load_of (eCons (eVar 8) (eCons (frzE (eLcN (iLTc (eVar 5)) [11] (gNm 11) yesT c1_law)) (eCons (eVar 7) (eCons (eVar 6) eNil)))))))) (sSeq (sIf (tOr2 (tNot1 (tru (frzE (eIsi "tuple" (eVar 9))))) (tOr2 (tst (eOp2 (sc2 gNe) (frzE (eOpN (n1 oLen) (eCons (eVar 9) eNil))) (eC (.int 2)))) (tNot1 (tru (frzE (eIsi "list" (eIx (eVar 9) (eC (.int 0))))))))) (sRet (takE (eC (.bl false)))) sNx) (sSeq (sIf (tNot1 (tru (frzE (eCall 4 f__law_right (eCons (eVar 8) (eCons (eVar 5) (eCons (eIx (eVar 9) (eC (.int 0))) (eCons (eVar 6) eNil)))))))) (sRet (takE (eC (.bl false)))) sNx) (sIf (tAnd2 (tst (eOp2 (sc2 gNe) (eIx (eVar 8) (eC (.int 0))) (eC (.str "turns")))) (tst (eOp2 (sc2 gNe) (eIx (eVar 9) (eC (.int 1))) (eVar 7)))) (sRet (takE (eC (.bl false)))) sNx))))
def u0_law : Sm := (sSet 1 (takE (frzE (eOp2 oAdd (eC (.int 1)) (frzE (eOp2 (sc2 gMod) (frzE (eCall 2 f__law_mix (eCons (frzE (eCall 2 f__law_cell_at (eCons (eVar 0) (eCons (eC (.int 0)) eNil)))) (eCons (eC (.int 1)) eNil)))) (eC (.int 6))))))))
def u1_law : Sm := (sSet 2 (takE (frzE (eCall 2 f__law_mix (eCons (frzE (eCall 2 f__law_cell_at (eCons (eVar 0) (eCons (eC (.int 1)) eNil)))) (eCons (eC (.int 2)) eNil))))))
def u2_law : Sm := (sSet 3 (takE (frzE (eOpN (n1 oTuple) (eCons (frzE (eLcN (iR1 (eCons (eVar 1) eNil)) [10] (gNm 10) yesT c0_law)) eNil)))))
def u3_law : Sm := (sSet 4 (eLst (eCons (eTup (eCons (takE (eC (.str "turns"))) (eCons (takE (eVar 3)) eNil))) (eCons (eTup (eCons (takE (eC (.str "eldest"))) eNil)) (eCons (eTup (eCons (takE (eC (.str "rank"))) (eCons (takE (eIx (frzE (eLst (eCons (takE (eC .non)) (eCons (eOp2 (sc2 gMod) (eVar 2) (eC (.int 10))) eNil)))) (frzE (eOp2 (sc2 gMod) (frzE (eOp2 (sc2 gDiv) (eVar 2) (eC (.int 10)))) (eC (.int 2)))))) eNil))) (eCons (eTup (eCons (takE (eC (.str "many"))) (eCons (eOp2 oAdd (eC (.int 1)) (frzE (eOp2 (sc2 gMod) (eVar 2) (eC (.int 5))))) eNil))) eNil))))))
def u4_law : Sm := (sAct aAppend (qVar 4) (eCons (eTup (eCons (takE (eC (.str "gather"))) (eCons (eOp2 oAdd (eC (.int 1)) (frzE (eOp2 (sc2 gMod) (frzE (eOp2 (sc2 gDiv) (eVar 2) (eC (.int 20)))) (eC (.int 9))))) (eCons (eOp2 (sc2 gMod) (frzE (eOp2 (sc2 gDiv) (eVar 2) (eC (.int 180)))) (eC (.int 10))) eNil)))) eNil))
def u5_law : Sm := (sIf (tst (eOp2 (sc2 (gB fun i j => decide (j < i))) (eVar 1) (eC (.int 1)))) (sAct aAppend (qVar 4) (eCons (eTup (eCons (takE (eC (.str "meet"))) eNil)) eNil)) sNx)
def u6_law : Sm := (sSet 5 (takE (frzE (eCall 2 f__law_rows (eCons (frzE (eSl (eVar 0) (someP (eC (.int 3))) (someP (eC (.int 63))))) (eCons (eVar 1) eNil))))))
def u7_law : Sm := (sSet 6 (takE (frzE (eOp2 oAdd (frzE (eCall 1 f__law_latest (eCons (eVar 5) eNil))) (frzE (eOp2 (sc2 gMod) (frzE (eOp2 (sc2 gDiv) (eVar 2) (eC (.int 1800)))) (eC (.int 4))))))))
def u8_law : Sm := (sSet 7 (takE (frzE (eTup (eCons (eOp2 (sc2 gMod) (frzE (eOp2 (sc2 gDiv) (eVar 2) (eC (.int 7)))) (eVar 1)) (eCons (takE (eC (.int 0))) eNil))))))
def u9_law : Sm := (sFz 4 (sFor (iLT (eVar 4)) (gNm 8) b0_law))
def u10_law : Sm := (sRet (takE (eC (.bl true))))
def m_law : Sm := (sSeq u0_law (sSeq u1_law (sSeq u2_law (sSeq u3_law (sSeq u4_law (sSeq u5_law (sSeq u6_law (sSeq u7_law (sSeq u8_law (sSeq u9_law u10_law))))))))))
def f_law : Fm := fnM 1 12 m_law
end Mr
end
namespace Pr
open PySem PySem.Spec PyProof.Rows L2 VL Mr
def cellAt (ns : List Int) (k : Nat) : Int := ns.getD k 0
def mix (c k : Int) : Int := ((c % 2147483629 + k * k * 7919 + 11) * 48271 % 2147483647) * ((c % 2147483629 + k * k * 7919 + 11) * 48271 % 2147483647) % 1999999973
theorem mix_nn (c k : Int) : 0 ≤ mix c k := Int.emod_nonneg _ (by decide)
theorem ev_cell (ns : List Int) (k : Nat) : f__law_cell_at [.frz (.scr ns), .frz (.int k)] = some (.frz (.int (cellAt ns k)), [.frz (.scr ns), .frz (.int k)]) := by
  refine fn2 (e := [.frz (.scr ns), .frz (.int k)]) ?_
  by_cases h : k < ns.length
  · have e : ix2 (some (.frz (.scr ns))) (some (.frz (.int k))) = some (.frz (.int (cellAt ns k))) := ix2_s (by rw [atI_pos rfl h]; simp [cellAt, h])
    simp [m__law_cell_at, h, e]
  · have e : cellAt ns k = 0 := by simp [cellAt, h]
    simp [m__law_cell_at, h, e]
theorem ev_cellL (ns : List Int) (k : Nat) : f__law_cell_at [.frz (.lst (ns.map .int)), .frz (.int k)] = some (.frz (.int (cellAt ns k)), [.frz (.lst (ns.map .int)), .frz (.int k)]) := by
  refine fn2 (e := [.frz (.lst (ns.map .int)), .frz (.int k)]) ?_
  by_cases h : k < ns.length
  · have e : ix2 (some (.frz (.lst (ns.map D.int)))) (some (.frz (.int k))) = some (.frz (.int (cellAt ns k))) := ix2_l (by rw [atI_pos rfl (by simpa using h)]; simp [cellAt, h])
    simp [m__law_cell_at, h, e]
  · have e : cellAt ns k = 0 := by simp [cellAt, h]
    simp [m__law_cell_at, h, e]
theorem ev_mix (c k : Int) (h0 : 0 ≤ k) (h1 : k < 2 ^ 64) : f__law_mix [.frz (.int c), .frz (.int k)] = some (.frz (.int (mix c k)), [.frz (.int c), .frz (.int k)]) := by
  have b1 : oMul (.frz (.int k)) (.frz (.int k)) = some (.frz (.int (k * k))) := oMul_i (by omega)
  have b2 : ∀ i : Int, oMul (.frz (.int i)) (.frz (.int 7919)) = some (.frz (.int (i * 7919))) := fun i => oMul_i (by omega)
  have b3 : ∀ i : Int, oMul (.frz (.int i)) (.frz (.int 48271)) = some (.frz (.int (i * 48271))) := fun i => oMul_i (by omega)
  have b4 : ∀ i : Int, oMul (.frz (.int (i % 2147483647))) (.frz (.int (i % 2147483647))) = some (.frz (.int ((i % 2147483647) * (i % 2147483647)))) := fun i => oMul_i (by omega)
  refine fn2 (e := [.frz (.int c), .frz (.int k), .frz (.int ((c % 2147483629 + k * k * 7919 + 11) * 48271 % 2147483647))]) ?_
  simp [m__law_mix, b1, b2, b3, b4, mix]

structure Good where
  (id since : Int) (kind parcel : Str)
def Good.d (g : Good) : D := .tup [.int g.id, .int g.since, .str g.kind, .str g.parcel]
abbrev Row := List Good
def rowD (r : Row) : D := .lst (r.map Good.d)
def rowsD (R : List Row) : D := .lst (R.map rowD)
/-- a good where it waits: since, place, number -/
structure Fd where
  (since place number : Int) (good : Good)
def Fd.d (f : Fd) : D := .tup [.int f.since, .int f.place, .int f.number, f.good.d]
def flatRow (place : Nat) (n0 : Nat) : Row → List Fd
  | [] => []
  | g :: r => ⟨g.since, place, n0, g⟩ :: flatRow place (n0 + 1) r
def flatRows (p0 : Nat) : List Row → List Fd
  | [] => []
  | r :: R => flatRow p0 0 r ++ flatRows (p0 + 1) R
def le_fd (a b : Fd) : Bool := le3 (a.since, a.place, a.number) (b.since, b.place, b.number)
def byAge (R : List Row) : List Fd := (flatRows 0 R).mergeSort le_fd
theorem enumD_go {α : Type} (f : α → D) (xs : List α) (k : Nat) : ((xs.map f).mapIdx fun (i : Nat) d => D.tup [.int ((k + i : Nat) : Int), d]) = (xs.zipIdx k).map fun p => D.tup [.int (p.2 : Int), f p.1] := by
  induction xs generalizing k with
  | nil => rfl
  | cons x xs ih =>
    rw [List.map_cons, List.mapIdx_cons, List.zipIdx_cons, List.map_cons, ← ih (k + 1)]
    congr 1
    apply List.ext_getElem?
    intro j
    simp only [List.getElem?_mapIdx]
    cases (xs.map f)[j]? with
    | none => rfl
    | some d => simp; omega
theorem enumD_map {α : Type} (f : α → D) (xs : List α) : enumD (xs.map f) = (xs.zipIdx).map fun p => D.tup [.int (p.2 : Int), f p.1] := by
  have := enumD_go f xs 0
  simp only [Nat.zero_add] at this
  exact this
theorem len_flatRow (p k : Nat) (r : Row) : (flatRow p k r).length = r.length := by
  induction r generalizing k with
  | nil => rfl
  | cons g r ih => simp [flatRow, ih]
abbrev g_in : Gm := gTp 2 (gCn (gNm 4) (gCn (gNm 5) gNl))
/-- by_age's inner loop -/
theorem age_in (R rw : D) (pl : Nat) : ∀ (r : Row) (k : Nat) (x4 x5 : SV) (acc : List D), plS x4 = true → plS x5 = true → acc.length + r.length < 16777216 →
    ∃ y4 y5 : SV, plS y4 = true ∧ plS y5 = true ∧
      loop g_in b1_by_age ((r.zipIdx k).map fun p => D.tup [.int (p.2 : Int), p.1.d]) [.frz R, .own (newL acc), .frz (.int pl), .frz rw, x4, x5] = some (.nx [.frz R, .own (newL (acc ++ (flatRow pl k r).map Fd.d)), .frz (.int pl), .frz rw, y4, y5])
  | [], k, x4, x5, acc, h4, h5, hl => ⟨x4, x5, h4, h5, by simp [flatRow]⟩
  | g :: r, k, x4, x5, acc, h4, h5, hl => by
    obtain ⟨y4, y5, g4, g5, e⟩ := age_in R rw pl r (k + 1) (.frz (.int k)) (.frz g.d) (acc ++ [(⟨g.since, pl, k, g⟩ : Fd).d]) rfl rfl (by simp at hl ⊢; omega)
    refine ⟨y4, y5, g4, g5, ?_⟩
    have ap : aAppend (newL acc) [.frz (.tup [.int g.since, .int pl, .int k, g.d])] = some (newL (acc ++ [(⟨g.since, pl, k, g⟩ : Fd).d])) := aAppend_n (by simp at hl; omega)
    rw [List.zipIdx_cons, List.map_cons, loop_cons]
    have gd : ix2 (some (.frz g.d)) (some (.frz (.int 1))) = some (.frz (.int g.since)) := ix_t1
    have st : bdE b1_by_age (g_in (.frz (.tup [.int (k : Int), g.d])) [.frz R, .own (newL acc), .frz (.int pl), .frz rw, x4, x5]) = some (.nx [.frz R, .own (newL (acc ++ [(⟨g.since, pl, k, g⟩ : Fd).d])), .frz (.int pl), .frz rw, .frz (.int k), .frz g.d]) := by
      simp [h4, h5, b1_by_age, gd, ap]
    rw [st, lp2_n, e]
    simp [flatRow]
abbrev g_out : Gm := gTp 2 (gCn (gNm 2) (gCn (gNm 3) gNl))
def total (R : List Row) : Nat := (R.map List.length).sum
theorem len_flatRows (p : Nat) (R : List Row) : (flatRows p R).length = total R := by
  induction R generalizing p with
  | nil => rfl
  | cons r R ih => simp [flatRows, ih, len_flatRow, total]
theorem enum_row (r : Row) : enumD (r.map Good.d) = (r.zipIdx).map fun p => D.tup [.int (p.2 : Int), p.1.d] := enumD_map Good.d r
theorem enum_rows (R : List Row) : enumD (R.map rowD) = (R.zipIdx).map fun p => D.tup [.int (p.2 : Int), rowD p.1] := enumD_map rowD R
theorem age_out (RR : D) : ∀ (R : List Row) (k : Nat) (x2 x3 x4 x5 : SV) (acc : List D), plS x2 = true → plS x3 = true → plS x4 = true → plS x5 = true → acc.length + total R < 16777216 →
    ∃ y2 y3 y4 y5 : SV, plS y2 = true ∧ plS y3 = true ∧ plS y4 = true ∧ plS y5 = true ∧
      loop g_out b0_by_age ((R.zipIdx k).map fun p => D.tup [.int (p.2 : Int), rowD p.1]) [.frz RR, .own (newL acc), x2, x3, x4, x5] = some (.nx [.frz RR, .own (newL (acc ++ (flatRows k R).map Fd.d)), y2, y3, y4, y5])
  | [], k, x2, x3, x4, x5, acc, h2, h3, h4, h5, hl => ⟨x2, x3, x4, x5, h2, h3, h4, h5, by simp [flatRows]⟩
  | r :: R, k, x2, x3, x4, x5, acc, h2, h3, h4, h5, hl => by
    have hl' : acc.length + (r.length + total R) < 16777216 := by simpa [total] using hl
    obtain ⟨z4, z5, q4, q5, e1⟩ := age_in RR (rowD r) k r 0 x4 x5 acc h4 h5 (by omega)
    obtain ⟨y2, y3, y4, y5, g2, g3, g4, g5, e⟩ := age_out RR R (k + 1) (.frz (.int k)) (.frz (rowD r)) z4 z5 (acc ++ (flatRow k 0 r).map Fd.d) rfl rfl q4 q5 (by simp [len_flatRow]; omega)
    refine ⟨y2, y3, y4, y5, g2, g3, g4, g5, ?_⟩
    rw [List.zipIdx_cons, List.map_cons, loop_cons]
    have st : bdE b0_by_age (g_out (.frz (.tup [.int (k : Int), rowD r])) [.frz RR, .own (newL acc), x2, x3, x4, x5]) = some (.nx [.frz RR, .own (newL (acc ++ (flatRow k 0 r).map Fd.d)), .frz (.int k), .frz (rowD r), z4, z5]) := by
      have er : itE seqF (some [.frz (rowD r)]) = some ((r.zipIdx).map fun p => D.tup [.int (p.2 : Int), p.1.d]) := by
        show some (enumD (r.map Good.d)) = _
        rw [enum_row]
      simp [h2, h3, h4, h5, b0_by_age, er, e1]
    rw [st, lp2_n, e]
    simp [flatRows]
theorem sort3_fd (xs : List Fd) : sort3 (xs.map Fd.d) = (xs.mergeSort le_fd).map Fd.d := by
  unfold sort3
  exact (List.map_mergeSort (r := le_fd) (s := fun a b => le3 (k3 a) (k3 b)) (f := Fd.d) (l := xs) (fun a _ b _ => rfl)).symm
theorem ev_by_age (R : List Row) (hl : total R < 16777216) : f_by_age [.frz (rowsD R)] = some (newL ((byAge R).map Fd.d), [.frz (rowsD R)]) := by
  obtain ⟨y2, y3, y4, y5, g2, g3, g4, g5, e⟩ := age_out (rowsD R) R 0 .dead .dead .dead .dead [] rfl rfl rfl rfl (by simpa using hl)
  have er : itE seqF (some [.frz (rowsD R)]) = some ((R.zipIdx).map fun p => D.tup [.int (p.2 : Int), rowD p.1]) := by
    show some (enumD (R.map rowD)) = _
    rw [enum_rows]
  have so : oSort3 (newL ((flatRows 0 R).map Fd.d)) = some (newL ((byAge R).map Fd.d)) := by
    unfold oSort3
    rw [litems_n]
    show (if _ then some (newL (sort3 _)) else none) = _
    rw [if_pos (by rw [List.all_map]; exact List.all_eq_true.mpr fun _ _ => rfl), sort3_fd]
    rfl
  have en : (O.lst [] : O) = newL [] := rfl
  refine fn1 (e := [.frz (rowsD R), .own (newL ((flatRows 0 R).map Fd.d)), y2, y3, y4, y5]) ?_
  simp [m_by_age, er, en, e, so]
def spD (s : Int × Int) : D := .tup [.int s.1, .int s.2]
def Fd.spot (f : Fd) : Int × Int := (f.place, f.number)
theorem ev_spots (xs : List Fd) (hl : xs.length ≤ 100000) : f_spots_of [.frz (.lst (xs.map Fd.d))] = some (newL ((xs.map Fd.spot).map spD), [.frz (.lst (xs.map Fd.d))]) := by
  have hc := lc1_m (m := c0_spots_of) (g := gTp 4 (gCn (gNm 1) (gCn (gNm 2) (gCn (gNm 3) (gCn (gNm 4) gNl))))) (vs := [1, 2, 3, 4]) (env := [.frz (.lst (xs.map Fd.d)), .dead, .dead, .dead, .dead]) Fd.d (fun f => .frz (spD f.spot)) xs rfl hl fun f hf => by
    refine ⟨[.frz (.lst (xs.map Fd.d)), .frz (.int f.since), .frz (.int f.place), .frz (.int f.number), .frz f.good.d], ?_, ?_⟩
    · simp [Fd.d]
    · simp [c0_spots_of, spD, Fd.spot]
  refine fn1 (e := [.frz (.lst (xs.map Fd.d)), .dead, .dead, .dead, .dead]) ?_
  simp [m_spots_of, hc, newL]
end Pr
namespace Pr
open PySem PySem.Spec PyProof.Rows L2 VL Mr
theorem Good.py (g : Good) : PyOk 1 g.d := .tup (.cons .int (.cons .int (.cons .str (.cons .str .nil))))
theorem Fd.py (f : Fd) : PyOk 2 f.d := .tup (.cons .int (.cons .int (.cons .int (.cons f.good.py .nil))))
theorem row_py (r : Row) : PyOk 2 (rowD r) := .lst (.map fun g _ => g.py)
theorem fds_py (xs : List Fd) : PysOk 2 (xs.map Fd.d) := .map fun f _ => f.py
theorem len_byAge (R : List Row) : (byAge R).length = total R := by
  unfold byAge
  rw [List.length_mergeSort, len_flatRows]
def turnGo (R : List Row) (sh : List Int) : Nat → Nat → Int → Option (Nat × Int)
  | 0, _, _ => none
  | f + 1, p, c => if (R.getD p []).isEmpty = true ∨ sh.getD p 0 ≤ c then turnGo R sh f ((p + 1) % R.length) 0 else some (p, c)
theorem ix_rows (R : List Row) (p : Nat) (h : p < R.length) : ix2 (some (.frz (rowsD R))) (some (.frz (.int p))) = some (.frz (rowD (R.getD p []))) := by
  refine ix2_l ?_
  rw [atI_pos rfl (by simpa using h)]
  simp [h]
theorem ix_ints (sh : List Int) (p : Nat) (h : p < sh.length) : ix2 (some (.frz (.tup (sh.map D.int)))) (some (.frz (.int p))) = some (.frz (.int (sh.getD p 0))) := by
  refine ix2_t ?_
  rw [atI_pos rfl (by simpa using h)]
  simp [h]
theorem len_rows (R : List Row) : (R.map rowD).length = R.length := List.length_map ..
theorem whl_no {n : Nat} {t : VL.Tm} {s : Sm} {env : VL.Env} (h : t env = some false) : whl t s (n + 1) env = some (.nx env) := by
  rw [whl, h]; rfl
theorem whl_go {n : Nat} {t : VL.Tm} {s : Sm} {env e : VL.Env} (h : t env = some true) (hs : s env = some (.nx e)) : whl t s (n + 1) env = whl t s n e := by
  rw [whl, h]
  show (s env).bind _ = _
  rw [hs]
  rfl
theorem turn_loop (R : List Row) (sh : List Int) (T : D) (hs : sh.length = R.length) (hR : R ≠ []) (hR2 : R.length ≤ 100000) : ∀ (f p : Nat) (c : Int) (p' : Nat) (c' : Int), p < R.length → turnGo R sh f p c = some (p', c') →
    whl t0_by_turns b0_by_turns f [.frz (.tup (sh.map D.int)), .frz (rowsD R), .frz T, .frz (.int p), .frz (.int c)] = some (.nx [.frz (.tup (sh.map D.int)), .frz (rowsD R), .frz T, .frz (.int p'), .frz (.int c')]) ∧ p' < R.length
  | 0, p, c, p', c', hp, h => by cases h
  | f + 1, p, c, p', c', hp, h => by
    have i1 := ix_rows R p hp
    have i2 := ix_ints sh p (by omega)
    have e1 : gEq (rowD (R.getD p [])) (.lst []) = some (.bl (R.getD p []).isEmpty) := by
      unfold rowD
      rw [gEq_nil (n := 1) (.map fun g _ => g.py)]
      simp
    have te : t0_by_turns [.frz (.tup (sh.map D.int)), .frz (rowsD R), .frz T, .frz (.int p), .frz (.int c)] = some ((R.getD p []).isEmpty || decide (sh.getD p 0 ≤ c)) := by
      simp only [t0_by_turns, tOr2_c, tst_c, eOp2_c, eIx_c, eVar_c, List.getElem?_cons_succ, List.getElem?_cons_zero, rdS_frz, i1, frzE_c, eLst_c, eNil_c, lst1_s, List.length_nil, Nat.zero_le, fz1_s, toD_lst, List.map_nil, ap2_s, sc2_s, toD_frz, e1, fr_s, tst1_b, i2, gB_i]
      refine or2_b ?_
      simp only [tst_c, eOp2_c, eIx_c, eVar_c, List.getElem?_cons_succ, List.getElem?_cons_zero, rdS_frz, i2, ap2_s, sc2_s, toD_frz, gB_i, fr_s, tst1_b]
    by_cases hc : (R.getD p []).isEmpty = true ∨ sh.getD p 0 ≤ c
    · have h2 : turnGo R sh f ((p + 1) % R.length) 0 = some (p', c') := by
        rw [turnGo, if_pos hc] at h; exact h
      have hp2 : (p + 1) % R.length < R.length := Nat.mod_lt _ (by omega)
      obtain ⟨ih, ih2⟩ := turn_loop R sh T hs hR hR2 f ((p + 1) % R.length) 0 p' c' hp2 h2
      refine ⟨?_, ih2⟩
      have te2 : ((R.getD p []).isEmpty || decide (sh.getD p 0 ≤ c)) = true := by
        rw [Bool.or_eq_true, decide_eq_true_eq]; exact hc
      rw [te2] at te
      have ln : oLen (.frz (rowsD R)) = some (.frz (.int R.length)) := by unfold rowsD; rw [oLen_l, len_rows]
      have hlen : (0 : Int) < R.length := by omega
      have cast : ((p : Int) + 1) % (R.length : Int) = (((p + 1) % R.length : Nat) : Int) := by simp
      rw [whl_go te (e := [.frz (.tup (sh.map D.int)), .frz (rowsD R), .frz T, .frz (.int (((p : Int) + 1) % (R.length : Int))), .frz (.int 0)]) (by
        simp [b0_by_turns, ln, gMod_i hlen])]
      rw [cast]
      exact ih
    · have te2 : ((R.getD p []).isEmpty || decide (sh.getD p 0 ≤ c)) = false := by
        rw [Bool.or_eq_false_iff, decide_eq_false_iff_not]
        exact ⟨Bool.eq_false_iff.mpr fun z => hc (.inl z), fun z => hc (.inr z)⟩
      rw [te2] at te
      rw [turnGo, if_neg hc] at h
      cases h
      exact ⟨whl_no te, hp⟩
theorem nil_byAge (R : List Row) : gEq (.lst ((byAge R).map Fd.d)) (.lst []) = some (.bl (byAge R).isEmpty) := by
  rw [gEq_nil (fds_py _)]
  simp
theorem cl_by_age (R : List Row) (hl : total R < 16777216) : cl 1 f_by_age (some [.frz (rowsD R)]) = some (newL ((byAge R).map Fd.d)) := cl1 (ev_by_age R hl)
theorem ev_turns (R : List Row) (sh : List Int) (p : Nat) (c : Int) (p' : Nat) (c' : Int) (hl : total R < 16777216) (hs : sh.length = R.length) (hR : R ≠ []) (hR2 : R.length ≤ 100000) (hp : p < R.length) (hb : byAge R ≠ []) (hg : turnGo R sh 1000 p c = some (p', c')) :
    ∃ o, f_by_turns [.frz (.tup (sh.map D.int)), .frz (rowsD R), .frz (.tup [.int p, .int c])] = some (o, [.frz (.tup (sh.map D.int)), .frz (rowsD R), .frz (.tup [.int p, .int c])]) ∧ o = .tup [newL [spD (p', 0)], .frz (.tup [.int p', .int (c' + 1)])] := by
  have hlp := (turn_loop R sh (.tup [.int p, .int c]) hs hR hR2 1000 p c p' c' hp hg).1
  have hb' : (byAge R).isEmpty = false := by cases h : byAge R with
    | nil => exact absurd h hb
    | cons _ _ => rfl
  refine ⟨mkT [.lst [.frz (.tup [.int p', .int 0])], .frz (.tup [.int p', .int (c' + 1)])], fn3 (e := [.frz (.tup (sh.map D.int)), .frz (rowsD R), .frz (.tup [.int p, .int c]), .frz (.int p'), .frz (.int c')]) ?_, mkT_n (ds := [spD (p', 0)])⟩
  simp [m_by_turns, cl_by_age R hl, nil_byAge, hb', sWhile, hlp]
theorem ev_turns0 (R : List Row) (sh : List Int) (p : Nat) (c : Int) (hl : total R < 16777216) (hb : byAge R = []) :
    ∃ o, f_by_turns [.frz (.tup (sh.map D.int)), .frz (rowsD R), .frz (.tup [.int p, .int c])] = some (o, [.frz (.tup (sh.map D.int)), .frz (rowsD R), .frz (.tup [.int p, .int c])]) ∧ o = .tup [newL [], .frz (.tup [.int p, .int c])] := by
  refine ⟨mkT [.lst [], .frz (.tup [.int p, .int c])], fn3 (e := [.frz (.tup (sh.map D.int)), .frz (rowsD R), .frz (.tup [.int p, .int c]), .frz (.int p), .frz (.int c)]) ?_, mkT_n (ds := [])⟩
  have e := nil_byAge R
  rw [hb] at e
  have e' : gEq (.lst []) (.lst []) = some (.bl true) := e
  simp [m_by_turns, cl_by_age R hl, hb, e']
theorem turn_mono (R : List Row) (sh : List Int) (r : Nat × Int) : ∀ (f g p : Nat) (c : Int), turnGo R sh f p c = some r → f ≤ g → turnGo R sh g p c = some r
  | 0, g, p, c, h, hg => by cases h
  | f + 1, 0, p, c, h, hg => by omega
  | f + 1, g + 1, p, c, h, hg => by
    rw [turnGo] at h ⊢
    split
    · rename_i hc
      rw [if_pos hc] at h
      exact turn_mono R sh r f g _ _ h (by omega)
    · rename_i hc
      rw [if_neg hc] at h
      exact h
theorem turn_uniq {R : List Row} {sh : List Int} {f g p : Nat} {c : Int} {r q : Nat × Int} (h1 : turnGo R sh f p c = some r) (h2 : turnGo R sh g p c = some q) : r = q := by
  rcases Nat.le_total f g with h | h
  · have := turn_mono R sh r f g p c h1 h
    rw [h2] at this; exact (Option.some.inj this).symm
  · have := turn_mono R sh q g f p c h2 h
    rw [h1] at this; exact Option.some.inj this
open Classical in
/-- where the turns come to stand -/
noncomputable def turnEnd (R : List Row) (sh : List Int) (p : Nat) (c : Int) : Option (Nat × Int) := if h : ∃ r, ∃ f, turnGo R sh f p c = some r then some (Classical.choose h) else none
theorem turnEnd_of {R : List Row} {sh : List Int} {f p : Nat} {c : Int} {r : Nat × Int} (h : turnGo R sh f p c = some r) : turnEnd R sh p c = some r := by
  have hx : ∃ r, ∃ f, turnGo R sh f p c = some r := ⟨r, f, h⟩
  unfold turnEnd
  rw [dif_pos hx]
  obtain ⟨g, hg⟩ := Classical.choose_spec hx
  exact congrArg some (turn_uniq hg h)
end Pr
namespace Pr
open PySem PySem.Spec PyProof.Rows L2 VL Mr
def bD : Option Int → D
  | none => .non
  | some i => .int i
theorem take_map1 (xs : List Fd) (n : Nat) : cutA (xs.map Fd.d) none (some (n : Int)) = (xs.take n).map Fd.d := by rw [cut_to, List.map_take]
def minPlace : List Fd → Int
  | [] => 0
  | f :: fs => mnL f.place (fs.map Fd.place)
def rankSpots (b : Option Int) (xs : List Fd) (now : Int) : List (Int × Int) := match xs with
  | [] => []
  | f :: fs => match b with
    | none => [(minPlace (f :: fs), 0)]
    | some bb => if bb ≤ now - f.since then [f.spot] else [(minPlace (f :: fs), 0)]
theorem cl_spots (xs : List Fd) (hl : xs.length ≤ 100000) : cl 1 f_spots_of (some [.frz (.lst (xs.map Fd.d))]) = some (newL ((xs.map Fd.spot).map spD)) := cl1 (ev_spots xs hl)
theorem min_places (f : Fd) (fs : List Fd) : oMin (.frz (.lst ((f :: fs).map fun f => D.int f.place))) = some (.frz (.int (minPlace (f :: fs)))) := by
  unfold oMin
  have : (f :: fs).map (fun f => D.int f.place) = ((f :: fs).map Fd.place).map D.int := by rw [List.map_map]; rfl
  rw [this, oNums_l]
  rfl
theorem ev_rank (b : Option Int) (R : List Row) (now : Int) (hl : total R ≤ 100000) :
    ∃ o, f_by_rank [.frz (bD b), .frz (rowsD R), .frz (.int now)] = some (o, [.frz (bD b), .frz (rowsD R), .frz (.int now)]) ∧ o = newL ((rankSpots b (byAge R) now).map spD) := by
  have hb := cl_by_age R (by omega)
  have hlen : (byAge R).length ≤ 100000 := by rw [len_byAge]; exact hl
  cases hx : byAge R with
  | nil =>
    rw [hx] at hb
    have e := nil_byAge R
    rw [hx] at e
    have e' : gEq (.lst []) (.lst []) = some (.bl true) := e
    have sp := cl_spots [] (Nat.zero_le _)
    have sp' : cl 1 f_spots_of (some [.frz (.lst [])]) = some (newL []) := sp
    have ct : cutA ([] : List D) none (some 1) = [] := rfl
    exact ⟨newL [], fn3 (e := [.frz (bD b), .frz (rowsD R), .frz (.int now), .frz (.lst []), .dead, .dead, .dead, .dead, .dead]) (by simp [m_by_rank, hb, e', sp', ct]), by simp [rankSpots]⟩
  | cons f fs =>
    rw [hx] at hb
    have e := nil_byAge R
    rw [hx] at e
    have e' : gEq (.lst (f.d :: fs.map Fd.d)) (.lst []) = some (.bl false) := e
    have sp := cl_spots [f] (by simp)
    have sp' : cl 1 f_spots_of (some [.frz (.lst [f.d])]) = some (newL [spD f.spot]) := sp
    have ct : cutA (f.d :: fs.map Fd.d) none (some 1) = [f.d] := by
      have := take_map1 (f :: fs) 1
      exact this
    have fd0 : ix2 (some (.frz f.d)) (some (.frz (.int 0))) = some (.frz (.int f.since)) := ix_t0
    have hc := lc1_m (m := c0_by_rank) (g := gTp 4 (gCn (gNm 5) (gCn (gNm 6) (gCn (gNm 7) (gCn (gNm 8) gNl))))) (vs := [5, 6, 7, 8]) (env := [.frz (bD b), .frz (rowsD R), .frz (.int now), .frz (.lst ((f :: fs).map Fd.d)), .dead, .dead, .dead, .dead, .dead]) Fd.d (fun f => .frz (.int f.place)) (f :: fs) rfl (by rw [← hx]; exact hlen) fun g hg => by
      refine ⟨[.frz (bD b), .frz (rowsD R), .frz (.int now), .frz (.lst ((f :: fs).map Fd.d)), .dead, .frz (.int g.since), .frz (.int g.place), .frz (.int g.number), .frz g.good.d], ?_, ?_⟩
      · simp [Fd.d]
      · simp [c0_by_rank]
    have mp := min_places f fs
    simp only [List.map_cons] at hc mp hb
    have two : ∀ x : List Fd, (x.map fun f => D.int f.place) = x.map (O.toD ∘ fun f => O.frz (D.int f.place)) := fun x => List.map_congr_left fun _ _ => by simp
    rw [two] at mp
    cases b with
    | none =>
      refine ⟨.lst [.frz (.tup [.int (minPlace (f :: fs)), .int 0])], fn3 (e := [.frz .non, .frz (rowsD R), .frz (.int now), .frz (.lst (f.d :: fs.map Fd.d)), .frz (.int (minPlace (f :: fs))), .dead, .dead, .dead, .dead]) ?_, by simp [rankSpots, spD, newL]⟩
      simp [bD] at hc
      simp [m_by_rank, hb, e', bD, hc, mp]
    | some bb =>
      by_cases h : bb ≤ now - f.since
      · refine ⟨newL [spD f.spot], fn3 (e := [.frz (.int bb), .frz (rowsD R), .frz (.int now), .frz (.lst (f.d :: fs.map Fd.d)), .dead, .dead, .dead, .dead, .dead]) ?_, by simp [rankSpots, h]⟩
        simp [m_by_rank, hb, e', bD, fd0, h, ct, sp']
      · refine ⟨.lst [.frz (.tup [.int (minPlace (f :: fs)), .int 0])], fn3 (e := [.frz (.int bb), .frz (rowsD R), .frz (.int now), .frz (.lst (f.d :: fs.map Fd.d)), .frz (.int (minPlace (f :: fs))), .dead, .dead, .dead, .dead]) ?_, by simp [rankSpots, h, spD, newL]⟩
        simp [bD] at hc
        simp [m_by_rank, hb, e', bD, fd0, h, hc, mp]
def manySpots (most : Nat) (xs : List Fd) : List (Int × Int) := match xs with
  | [] => []
  | f :: fs => (((f :: fs).filter fun g => g.good.kind == f.good.kind).take most).map Fd.spot
theorem ev_many (most : Nat) (R : List Row) (hl : total R ≤ 100000) :
    f_of_one_kind [.frz (.int most), .frz (rowsD R)] = some (newL ((manySpots most (byAge R)).map spD), [.frz (.int most), .frz (rowsD R)]) := by
  have hb := cl_by_age R (by omega)
  have hlen : (byAge R).length ≤ 100000 := by rw [len_byAge]; exact hl
  cases hx : byAge R with
  | nil =>
    rw [hx] at hb
    have sp' : cl 1 f_spots_of (some [.frz (.lst [])]) = some (newL []) := cl_spots [] (Nat.zero_le _)
    have ct : cutA ([] : List D) none (some (most : Int)) = [] := by rw [cut_to]; simp
    have hc := lc1_fm (m := c0_of_one_kind) (t := ct0_of_one_kind) (g := gNm 3) (vs := [3]) (env := [.frz (.int most), .frz (rowsD R), .frz (.lst []), .dead]) Fd.d (fun _ => true) (fun f => .frz f.d) [] rfl (Nat.zero_le _) (fun g hg => by cases hg)
    simp at hc
    refine fn2 (e := [.frz (.int most), .frz (rowsD R), .frz (.lst []), .dead]) ?_
    simp at hb
    simp [m_of_one_kind, hb, hc, ct, sp', manySpots]
  | cons f fs =>
    rw [hx] at hb
    have hc := lc1_fm (m := c0_of_one_kind) (t := ct0_of_one_kind) (g := gNm 3) (vs := [3]) (env := [.frz (.int most), .frz (rowsD R), .frz (.lst ((f :: fs).map Fd.d)), .dead]) Fd.d (fun g => g.good.kind == f.good.kind) (fun f => .frz f.d) (f :: fs) rfl (by rw [← hx]; exact hlen) fun g hg => by
      have fd3 : ∀ f : Fd, ix2 (some (.frz f.d)) (some (.frz (.int 3))) = some (.frz f.good.d) := fun f => ix_t3
      have gd2 : ∀ f : Good, ix2 (some (.frz f.d)) (some (.frz (.int 2))) = some (.frz (.str f.kind)) := fun f => ix_t2
      refine ⟨[.frz (.int most), .frz (rowsD R), .frz (.lst ((f :: fs).map Fd.d)), .frz g.d], ?_, ?_, fun _ => ?_⟩
      · simp
      · simp [ct0_of_one_kind, fd3, gd2]
      · simp [c0_of_one_kind]
    have h2 : ((f :: fs).filter fun g => g.good.kind == f.good.kind).length ≤ 100000 := Nat.le_trans (List.length_filter_le _ _) (by rw [← hx]; exact hlen)
    have sp := cl_spots (((f :: fs).filter fun g => g.good.kind == f.good.kind).take most) (by rw [List.length_take]; omega)
    have mm : (List.map (fun f => O.frz f.d) ((f :: fs).filter fun g => g.good.kind == f.good.kind)).map O.toD = ((f :: fs).filter fun g => g.good.kind == f.good.kind).map Fd.d := by
      rw [List.map_map]; exact List.map_congr_left fun _ _ => by simp
    refine fn2 (e := [.frz (.int most), .frz (rowsD R), .frz (.lst ((f :: fs).map Fd.d)), .dead]) ?_
    simp only [m_of_one_kind, sSeq_c, sSet_c, takE_c, frzE_c, eCall_c, eCons_c, eVar_c, List.replicate, List.getElem?_cons_succ, List.getElem?_cons_zero, rdS_frz, eNil_c, cons2_s, hb, fz1_s, toD_newL, tk1_f, st1_e, slot_f, setS_c, pE_c, pl_f, pl_d, Bool.and_true, Bool.and_self, if_true, pE_nil, Option.map_some, List.set_cons_succ, List.set_cons_zero, thS_n, sRet_c, eSl_c, eLcN_c, iLTc_c, it1_s, litems_f, Option.some_or, hc, toD_lst, mm, noP_c, someP_c, sp1_i, sl3_l, take_map1, sp, rt1_s, manySpots]
def gatherSpots (most : Nat) (age : Int) (xs : List Fd) (now : Int) : List (Int × Int) := match xs with
  | [] => []
  | f :: fs => if (f :: fs).length < most ∧ now - f.since < age then [] else ((f :: fs).take most).map Fd.spot
theorem ev_gather (most : Nat) (age : Int) (R : List Row) (now : Int) (hl : total R ≤ 100000) :
    f_gathered [.frz (.int most), .frz (.int age), .frz (rowsD R), .frz (.int now)] = some (newL ((gatherSpots most age (byAge R) now).map spD), [.frz (.int most), .frz (.int age), .frz (rowsD R), .frz (.int now)]) := by
  have hb := cl_by_age R (by omega)
  have hlen : (byAge R).length ≤ 100000 := by rw [len_byAge]; exact hl
  have ee := nil_byAge R
  have en : (O.lst [] : O) = newL [] := rfl
  cases hx : byAge R with
  | nil =>
    rw [hx] at hb ee
    have e' : gEq (.lst []) (.lst []) = some (.bl true) := ee
    refine fn4 (e := [.frz (.int most), .frz (.int age), .frz (rowsD R), .frz (.int now), .frz (.lst [])]) ?_
    simp at hb
    simp [m_gathered, hb, e', gatherSpots, en]
  | cons f fs =>
    rw [hx] at hb ee hlen
    have e' : gEq (.lst (f.d :: fs.map Fd.d)) (.lst []) = some (.bl false) := ee
    have fd0 : ix2 (some (.frz f.d)) (some (.frz (.int 0))) = some (.frz (.int f.since)) := ix_t0
    simp only [List.map_cons] at hb
    have sp := cl_spots ((f :: fs).take most) (by rw [List.length_take]; omega)
    have tm := take_map1 (f :: fs) most
    simp at sp tm
    refine fn4 (e := [.frz (.int most), .frz (.int age), .frz (rowsD R), .frz (.int now), .frz (.lst (f.d :: fs.map Fd.d))]) ?_
    have t2 : (((fs.length : Int) + 1 < (most : Int))) ↔ fs.length + 1 < most := by omega
    by_cases h1 : fs.length + 1 < most
    · by_cases h2 : now - f.since < age
      · simp [m_gathered, hb, e', fd0, h1, h2, gatherSpots, en, t2]
      · simp [m_gathered, hb, e', fd0, h1, h2, gatherSpots, t2, tm, sp]
    · simp [m_gathered, hb, e', h1, gatherSpots, t2, tm, sp]
def firstOf (parcel : Str) : Nat → Row → Option Nat
  | _, [] => none
  | k, g :: r => if g.parcel = parcel then some k else firstOf parcel (k + 1) r
def nD : Option Nat → D
  | none => .non
  | some n => .int n
abbrev g_fo : Gm := gTp 2 (gCn (gNm 2) (gCn (gNm 3) gNl))
theorem first_loop (r0 : D) (pc : Str) : ∀ (r : Row) (k : Nat) (x2 x3 : SV), plS x2 = true → plS x3 = true →
    (∀ n, firstOf pc k r = some n → ∃ e, loop g_fo b0_first_of ((r.zipIdx k).map fun p => D.tup [.int (p.2 : Int), p.1.d]) [.frz r0, .frz (.str pc), x2, x3] = some (.ret (.frz (.int n)) e)) ∧
    (firstOf pc k r = none → ∃ y2 y3 : SV, plS y2 = true ∧ plS y3 = true ∧ loop g_fo b0_first_of ((r.zipIdx k).map fun p => D.tup [.int (p.2 : Int), p.1.d]) [.frz r0, .frz (.str pc), x2, x3] = some (.nx [.frz r0, .frz (.str pc), y2, y3]))
  | [], k, x2, x3, h2, h3 => ⟨(fun n h => nomatch h), fun _ => ⟨x2, x3, h2, h3, by simp⟩⟩
  | g :: r, k, x2, x3, h2, h3 => by
    have gd : ix2 (some (.frz g.d)) (some (.frz (.int 3))) = some (.frz (.str g.parcel)) := ix_t3
    rw [List.zipIdx_cons, List.map_cons, loop_cons, firstOf]
    by_cases h : g.parcel = pc
    · rw [if_pos h]
      have st : bdE b0_first_of (g_fo (.frz (.tup [.int (k : Int), g.d])) [.frz r0, .frz (.str pc), x2, x3]) = some (.ret (.frz (.int k)) [.frz r0, .frz (.str pc), .frz (.int k), .frz g.d]) := by
        simp [h2, h3, b0_first_of, gd, h]
      rw [st]
      exact ⟨fun n e => by cases e; exact ⟨_, rfl⟩, fun e => by cases e⟩
    · rw [if_neg h]
      have hb : (g.parcel == pc) = false := beq_eq_false_iff_ne.mpr h
      have st : bdE b0_first_of (g_fo (.frz (.tup [.int (k : Int), g.d])) [.frz r0, .frz (.str pc), x2, x3]) = some (.nx [.frz r0, .frz (.str pc), .frz (.int k), .frz g.d]) := by
        simp [h2, h3, b0_first_of, gd, hb]
      rw [st, lp2_n]
      exact first_loop r0 pc r (k + 1) (.frz (.int k)) (.frz g.d) rfl rfl
theorem ev_first (r : Row) (pc : Str) : f_first_of [.frz (rowD r), .frz (.str pc)] = some (.frz (nD (firstOf pc 0 r)), [.frz (rowD r), .frz (.str pc)]) := by
  have er : itE seqF (some [.frz (rowD r)]) = some ((r.zipIdx).map fun p => D.tup [.int (p.2 : Int), p.1.d]) := by
    show some (enumD (r.map Good.d)) = _
    rw [enum_row]
  obtain ⟨l1, l2⟩ := first_loop (rowD r) pc r 0 .dead .dead rfl rfl
  cases h : firstOf pc 0 r with
  | some n =>
    obtain ⟨e, l⟩ := l1 n h
    refine fn2 (e := e) ?_
    simp [m_first_of, er, l, nD]
  | none =>
    obtain ⟨y2, y3, _, _, l⟩ := l2 h
    refine fn2 (e := [.frz (rowD r), .frz (.str pc), y2, y3]) ?_
    simp [m_first_of, er, l, nD]
end Pr
namespace Pr
open PySem PySem.Spec PyProof.Rows L2 VL Mr
def numbers (R : List Row) (pc : Str) : List (Option Nat) := R.map (firstOf pc 0)
def spotsFrom (k : Nat) : List (Option Nat) → List (Int × Int)
  | [] => []
  | n :: ns => ((k : Int), ((n.getD 0 : Nat) : Int)) :: spotsFrom (k + 1) ns
def meets (R : List Row) (pc : Str) : Bool := pc != "" && (numbers R pc).all Option.isSome
def metGo (R : List Row) : List Fd → List (Int × Int)
  | [] => []
  | f :: fs => if meets R f.good.parcel = true then spotsFrom 0 (numbers R f.good.parcel) else metGo R fs
theorem nD_py (o : Option Nat) : ∃ z, (nD o).py = some z ∧ PyData.eqv z .none = !o.isSome := by
  cases o with
  | none => exact ⟨.none, rfl, rfl⟩
  | some n => exact ⟨.int n, rfl, rfl⟩
theorem none_in (ns : List (Option Nat)) : oIn true (.frz .non) (.frz (.lst (ns.map nD))) = some (.frz (.bl (ns.all Option.isSome))) := by
  rw [oIn_l (P := fun o => !o.isSome) (x := .none) rfl (by rw [PyData.depth]; omega) fun y _ => nD_py y]
  congr 4
  rw [Bool.true_xor]
  induction ns with
  | nil => rfl
  | cons n ns ih => rw [List.any_cons, List.all_cons, Bool.not_or, ih, Bool.not_not]
theorem cl_first (r : Row) (pc : Str) : cl 2 f_first_of (some [.frz (rowD r), .frz (.str pc)]) = some (.frz (nD (firstOf pc 0 r))) := cl2 (ev_first r pc)
theorem enum_ns (ns : List (Option Nat)) : enumD (ns.map nD) = (ns.zipIdx).map fun p => D.tup [.int (p.2 : Int), nD p.1] := enumD_map nD ns
theorem spots_zip (ns : List (Option Nat)) (k : Nat) (h : ns.all Option.isSome = true) : ((ns.zipIdx k).map fun p => D.tup [.int (p.2 : Int), nD p.1]) = (spotsFrom k ns).map spD := by
  induction ns generalizing k with
  | nil => rfl
  | cons n ns ih =>
    rw [List.all_cons] at h
    obtain ⟨h1, h2⟩ := Bool.and_eq_true_iff.mp h
    rw [List.zipIdx_cons, List.map_cons, spotsFrom, List.map_cons, ih (k + 1) h2]
    congr 1
    cases n with
    | none => cases h1
    | some n => rfl
abbrev g_met : Gm := gTp 4 (gCn (gNm 1) (gCn (gNm 2) (gCn (gNm 3) (gCn (gNm 4) gNl))))
theorem met_body (R : List Row) (hR : R.length ≤ 100000) (f : Fd) (x1 x2 x3 x4 x5 x6 x7 x8 x9 : SV) (h1 : plS x1 = true) (h2 : plS x2 = true) (h3 : plS x3 = true) (h4 : plS x4 = true) (h5 : plS x5 = true) (h6 : plS x6 = true) (h7 : plS x7 = true) (h8 : plS x8 = true) (h9 : plS x9 = true) :
    (meets R f.good.parcel = true → ∃ o e, bdE b0_met (g_met (.frz f.d) [.frz (rowsD R), x1, x2, x3, x4, x5, x6, x7, x8, x9]) = some (.ret o e) ∧ o = newL ((spotsFrom 0 (numbers R f.good.parcel)).map spD)) ∧
    (meets R f.good.parcel = false → bdE b0_met (g_met (.frz f.d) [.frz (rowsD R), x1, x2, x3, x4, x5, x6, x7, x8, x9]) =
      some (.nx [.frz (rowsD R), .frz (.int f.since), .frz (.int f.place), .frz (.int f.number), .frz f.good.d, .frz (.str f.good.parcel), .frz (.lst ((numbers R f.good.parcel).map nD)), x7, x8, x9])) := by
  have n7 := nS_p h7
  have n8 := nS_p h8
  have n9 := nS_p h9
  have gd : ix2 (some (.frz f.good.d)) (some (.frz (.int 3))) = some (.frz (.str f.good.parcel)) := ix_t3
  have tg : g_met (.frz f.d) [.frz (rowsD R), x1, x2, x3, x4, x5, x6, x7, x8, x9] = some [.frz (rowsD R), .frz (.int f.since), .frz (.int f.place), .frz (.int f.number), .frz f.good.d, x5, x6, x7, x8, x9] := by
    simp [Fd.d, h1, h2, h3, h4, h5, h6, h7, h8, h9]
  have hc := lc1_m (m := c0_met) (g := gNm 7) (vs := [7]) (env := [.frz (rowsD R), .frz (.int f.since), .frz (.int f.place), .frz (.int f.number), .frz f.good.d, .frz (.str f.good.parcel), x6, x7, x8, x9]) rowD (fun r => .frz (nD (firstOf f.good.parcel 0 r))) R (by simp [nS_p h6, n7, n8, n9]) hR fun r hr => by
    refine ⟨[.frz (rowsD R), .frz (.int f.since), .frz (.int f.place), .frz (.int f.number), .frz f.good.d, .frz (.str f.good.parcel), x6, .frz (rowD r), x8, x9], ?_, ?_⟩
    · simp [h6, h8, h9]
    · simp [c0_met, cl_first]
  have mm : (R.map fun r => O.frz (nD (firstOf f.good.parcel 0 r))).map O.toD = (numbers R f.good.parcel).map nD := by
    unfold numbers
    rw [List.map_map, List.map_map]
    exact List.map_congr_left fun _ _ => by simp
  have ni := none_in (numbers R f.good.parcel)
  have rl : (O.frz (rowsD R)).litems = some (R.map rowD) := rfl
  have body : ∀ (e2 : VL.Env), e2 = [.frz (rowsD R), .frz (.int f.since), .frz (.int f.place), .frz (.int f.number), .frz f.good.d, .frz (.str f.good.parcel), .frz (.lst ((numbers R f.good.parcel).map nD)), x7, x8, x9] →
      b0_met [.frz (rowsD R), .frz (.int f.since), .frz (.int f.place), .frz (.int f.number), .frz f.good.d, x5, x6, x7, x8, x9] = if1 (sRet (eLcN (iEc (eCons (eVar 6) eNil)) [8, 9] (gTp 2 (gCn (gNm 8) (gCn (gNm 9) gNl))) yesT c1_met)) sNx e2 (some (meets R f.good.parcel)) := by
    intro e2 he
    subst he
    have t2 : and2 (some (f.good.parcel != "")) (tst (eOp2 (oIn true) (eC .non) (eVar 6))) [.frz (rowsD R), .frz (.int f.since), .frz (.int f.place), .frz (.int f.number), .frz f.good.d, .frz (.str f.good.parcel), .frz (.lst ((numbers R f.good.parcel).map nD)), x7, x8, x9] = some (meets R f.good.parcel) := and2_b (by simp [ni])
    simp only [b0_met, sSeq_c, sSet_c, takE_c, eIx_c, eVar_c, List.getElem?_cons_succ, List.getElem?_cons_zero, rdS_frz, eC_c, gd, tk1_f, st1_e, slot_f, setS_c, pE_c, pl_f, h5, h6, h7, h8, h9, Bool.and_true, Bool.and_self, if_true, pE_nil, Option.map_some, List.set_cons_succ, List.set_cons_zero, thS_n, frzE_c, eLcN_c, iLTc_c, it1_s, rl, Option.some_or, hc, fz1_s, toD_lst, mm, sIf_c, tAnd2_c, tst_c, eOp2_c, ap2_s, sc2_s, toD_frz, gNe_ss, fr_s, tst1_b, t2]
  rw [tg]
  show (meets R f.good.parcel = true → ∃ o e, b0_met _ = some (.ret o e) ∧ _) ∧ (meets R f.good.parcel = false → b0_met _ = _)
  rw [body _ rfl]
  refine ⟨fun h => ?_, fun h => by rw [h, if1_f, sNx_c]⟩
  have hall : (numbers R f.good.parcel).all Option.isSome = true := (Bool.and_eq_true_iff.mp h).2
  have hc2 := lc1_m (m := c1_met) (g := gTp 2 (gCn (gNm 8) (gCn (gNm 9) gNl))) (vs := [8, 9]) (env := [.frz (rowsD R), .frz (.int f.since), .frz (.int f.place), .frz (.int f.number), .frz f.good.d, .frz (.str f.good.parcel), .frz (.lst ((numbers R f.good.parcel).map nD)), x7, x8, x9])
    (fun (p : Option Nat × Nat) => D.tup [.int (p.2 : Int), nD p.1]) (fun p => .frz (D.tup [.int (p.2 : Int), nD p.1])) (numbers R f.good.parcel).zipIdx (by simp [n7, n8, n9]) (by simpa [numbers] using hR) fun p hp => by
    refine ⟨[.frz (rowsD R), .frz (.int f.since), .frz (.int f.place), .frz (.int f.number), .frz f.good.d, .frz (.str f.good.parcel), .frz (.lst ((numbers R f.good.parcel).map nD)), x7, .frz (.int p.2), .frz (nD p.1)], ?_, ?_⟩
    · simp [h7]
    · simp [c1_met]
  have ie : itE O.litems (some [.frz (.lst ((numbers R f.good.parcel).map nD))]) = some ((numbers R f.good.parcel).zipIdx.map fun p => D.tup [.int (p.2 : Int), nD p.1]) := by
    show some (enumD ((numbers R f.good.parcel).map nD)) = _
    rw [enum_ns]
  rw [h, if1_t]
  refine ⟨.lst (List.map (fun (p : Option Nat × Nat) => O.frz (D.tup [D.int (p.2 : Int), nD p.1])) (numbers R f.good.parcel).zipIdx), [.frz (rowsD R), .frz (.int f.since), .frz (.int f.place), .frz (.int f.number), .frz f.good.d, .frz (.str f.good.parcel), .frz (.lst ((numbers R f.good.parcel).map nD)), x7, x8, x9], ?_, ?_⟩
  · simp only [sRet_c, eLcN_c, iEc_c, eCons_c, eVar_c, List.getElem?_cons_succ, List.getElem?_cons_zero, rdS_frz, eNil_c, cons2_s, ie, hc2, rt1_s]
  · rw [← spots_zip _ _ hall]
    unfold newL
    rw [List.map_map]
    rfl
theorem met_loop (R : List Row) (hR : R.length ≤ 100000) : ∀ (fs : List Fd) (x1 x2 x3 x4 x5 x6 x7 x8 x9 : SV) (h1 : plS x1 = true) (h2 : plS x2 = true) (h3 : plS x3 = true) (h4 : plS x4 = true) (h5 : plS x5 = true) (h6 : plS x6 = true) (h7 : plS x7 = true) (h8 : plS x8 = true) (h9 : plS x9 = true),
    (∃ o e, loop g_met b0_met (fs.map Fd.d) [.frz (rowsD R), x1, x2, x3, x4, x5, x6, x7, x8, x9] = some (.ret o e) ∧ o = newL ((metGo R fs).map spD)) ∨
    (metGo R fs = [] ∧ ∃ s r, loop g_met b0_met (fs.map Fd.d) [.frz (rowsD R), x1, x2, x3, x4, x5, x6, x7, x8, x9] = some (.nx (s :: r)))
  | [], x1, x2, x3, x4, x5, x6, x7, x8, x9, h1, h2, h3, h4, h5, h6, h7, h8, h9 => .inr ⟨rfl, .frz (rowsD R), [x1, x2, x3, x4, x5, x6, x7, x8, x9], by simp⟩
  | f :: fs, x1, x2, x3, x4, x5, x6, x7, x8, x9, h1, h2, h3, h4, h5, h6, h7, h8, h9 => by
    obtain ⟨b1, b2⟩ := met_body R hR f x1 x2 x3 x4 x5 x6 x7 x8 x9 h1 h2 h3 h4 h5 h6 h7 h8 h9
    rw [List.map_cons, loop_cons, metGo]
    cases hm : meets R f.good.parcel with
    | true =>
      obtain ⟨o, e, e1, e2⟩ := b1 hm
      rw [e1, if_pos rfl]
      exact .inl ⟨o, e, rfl, e2⟩
    | false =>
      rw [b2 hm, if_neg Bool.false_ne_true, lp2_n]
      exact met_loop R hR fs _ _ _ _ _ _ _ _ _ rfl rfl rfl rfl rfl rfl h7 h8 h9
theorem ev_met (R : List Row) (hl : total R ≤ 100000) (hR : R.length ≤ 100000) : ∃ o, f_met [.frz (rowsD R)] = some (o, [.frz (rowsD R)]) ∧ o = newL ((metGo R (byAge R)).map spD) := by
  have hb := cl_by_age R (by omega)
  rcases met_loop R hR (byAge R) .dead .dead .dead .dead .dead .dead .dead .dead .dead rfl rfl rfl rfl rfl rfl rfl rfl rfl with ⟨o, e, e1, e2⟩ | ⟨hm, s, r, e1⟩
  · exact ⟨o, fn1 (e := e) (by simp [m_met, hb, e1]), e2⟩
  · exact ⟨.lst [], fn1 (e := s :: r) (by simp [m_met, hb, e1]), by simp [hm, newL]⟩
inductive Rule where
  | turns (sh : List Int) | eldest | rank (b : Option Int) | many (most : Nat) | gather (most : Nat) (age : Int) | meet
def Rule.ds : Rule → List D
  | .turns sh => [.str "turns", .tup (sh.map D.int)]
  | .eldest => [.str "eldest"]
  | .rank b => [.str "rank", bD b]
  | .many m => [.str "many", .int m]
  | .gather m a => [.str "gather", .int m, .int a]
  | .meet => [.str "meet"]
def tnD (t : Nat × Int) : D := .tup [.int t.1, .int t.2]
/-- what a rule takes -/
noncomputable def load (ru : Rule) (R : List Row) (t : Nat × Int) (now : Int) : List (Int × Int) × (Nat × Int) := match ru with
  | .turns sh => (match byAge R with
    | [] => ([], t)
    | _ :: _ => (match turnEnd R sh t.1 t.2 with
      | some (p, c) => ([((p : Int), 0)], (p, c + 1))
      | none => ([], t)))
  | .eldest => (((byAge R).take 1).map Fd.spot, t)
  | .rank b => (rankSpots b (byAge R) now, t)
  | .many m => (manySpots m (byAge R), t)
  | .gather m a => (gatherSpots m a (byAge R) now, t)
  | .meet => (metGo R (byAge R), t)
/-- what the rows are like -/
structure RowsOk (ru : Rule) (R : List Row) (t : Nat × Int) : Prop where
  tot : total R ≤ 100000
  len : R.length ≤ 100000
  ne : R ≠ []
  tn : ∀ sh, ru = .turns sh → sh.length = R.length ∧ t.1 < R.length ∧ (byAge R ≠ [] → ∃ f, f ≤ 1000 ∧ (turnGo R sh f t.1 t.2).isSome = true)
def loadO (l : List (Int × Int) × (Nat × Int)) : O := .tup [newL (l.1.map spD), .frz (tnD l.2)]
theorem loadO_toD (l : List (Int × Int) × (Nat × Int)) : (loadO l).toD = .tup [.lst (l.1.map spD), tnD l.2] := by
  unfold loadO; simp
theorem ev_loadO (ru : Rule) (R : List Row) (t : Nat × Int) (now : Int) (ok : RowsOk ru R t) :
    f_load_of [.frz (.tup ru.ds), .frz (rowsD R), .frz (tnD t), .frz (.int now)] = some (loadO (load ru R t now), [.frz (.tup ru.ds), .frz (rowsD R), .frz (tnD t), .frz (.int now)]) := by
  obtain ⟨p, c⟩ := t
  have hb := cl_by_age R (by have := ok.tot; omega)
  have hlen : (byAge R).length ≤ 100000 := by rw [len_byAge]; exact ok.tot
  cases ru with
  | turns sh =>
    obtain ⟨h1, h2, h3⟩ := ok.tn sh rfl
    by_cases he : byAge R = []
    · obtain ⟨o, e1, e2⟩ := ev_turns0 R sh p c (by have := ok.tot; omega) he
      have c1 := cl3 e1
      have lo : o = loadO (load (.turns sh) R (p, c) now) := by rw [e2]; simp [load, he, loadO, tnD]
      rw [← lo]
      refine fn4 (e := [.frz (.tup (Rule.turns sh).ds), .frz (rowsD R), .frz (tnD (p, c)), .frz (.int now), .frz (.str "turns")]) ?_
      simp [m_load_of, Rule.ds, tnD, c1]
    · obtain ⟨fu, hfu, h3⟩ := h3 he
      obtain ⟨⟨p', c'⟩, hg0⟩ := Option.isSome_iff_exists.mp h3
      have hg := turn_mono R sh (p', c') fu 1000 p c hg0 hfu
      obtain ⟨o, e1, e2⟩ := ev_turns R sh p c p' c' (by have := ok.tot; omega) h1 ok.ne ok.len h2 he hg
      have c1 := cl3 e1
      have te := turnEnd_of hg
      obtain ⟨f0, fs0, hx0⟩ := List.exists_cons_of_ne_nil he
      have lo : o = loadO (load (.turns sh) R (p, c) now) := by rw [e2]; simp [load, hx0, loadO, tnD, te, spD]
      rw [← lo]
      refine fn4 (e := [.frz (.tup (Rule.turns sh).ds), .frz (rowsD R), .frz (tnD (p, c)), .frz (.int now), .frz (.str "turns")]) ?_
      simp [m_load_of, Rule.ds, tnD, c1]
  | eldest =>
    have ct : cutA ((byAge R).map Fd.d) none (some 1) = ((byAge R).take 1).map Fd.d := take_map1 (byAge R) 1
    have sp := cl_spots ((byAge R).take 1) (by rw [List.length_take]; omega)
    refine fn4 (e := [.frz (.tup Rule.eldest.ds), .frz (rowsD R), .frz (tnD (p, c)), .frz (.int now), .frz (.str "eldest")]) ?_
    rw [m_load_of]
    simp [Rule.ds, hb, ct]
    simp at sp
    simp [sp, mkT_n, loadO, load]
  | rank b =>
    obtain ⟨o, e1, rfl⟩ := ev_rank b R now ok.tot
    have c1 := cl3 e1
    refine fn4 (e := [.frz (.tup (Rule.rank b).ds), .frz (rowsD R), .frz (tnD (p, c)), .frz (.int now), .frz (.str "rank")]) ?_
    simp [m_load_of, Rule.ds, c1, mkT_n, loadO, load]
  | many m =>
    have c1 := cl2 (ev_many m R ok.tot)
    refine fn4 (e := [.frz (.tup (Rule.many m).ds), .frz (rowsD R), .frz (tnD (p, c)), .frz (.int now), .frz (.str "many")]) ?_
    simp [m_load_of, Rule.ds, c1, mkT_n, loadO, load]
  | gather m a =>
    have c1 := cl4 (ev_gather m a R now ok.tot)
    refine fn4 (e := [.frz (.tup (Rule.gather m a).ds), .frz (rowsD R), .frz (tnD (p, c)), .frz (.int now), .frz (.str "gather")]) ?_
    simp [m_load_of, Rule.ds, c1, mkT_n, loadO, load]
  | meet =>
    obtain ⟨o, e1, rfl⟩ := ev_met R ok.tot ok.len
    have c1 := cl1 e1
    refine fn4 (e := [.frz (.tup Rule.meet.ds), .frz (rowsD R), .frz (tnD (p, c)), .frz (.int now), .frz (.str "meet")]) ?_
    simp [m_load_of, Rule.ds, c1, mkT_n, loadO, load]
theorem ev_load (ru : Rule) (R : List Row) (t : Nat × Int) (now : Int) (ok : RowsOk ru R t) :
    ∃ o, f_load_of [.frz (.tup ru.ds), .frz (rowsD R), .frz (tnD t), .frz (.int now)] = some (o, [.frz (.tup ru.ds), .frz (rowsD R), .frz (tnD t), .frz (.int now)]) ∧ o.toD = .tup [.lst ((load ru R t now).1.map spD), tnD (load ru R t now).2] :=
  ⟨_, ev_loadO ru R t now ok, loadO_toD _⟩
end Pr
namespace Pr
open PySem PySem.Spec PyProof.Rows L2 VL Mr
theorem ix2_n {ds : List D} {k : Int} {d : D} (h : atI ds k = some d) : ix2 (some (newL ds)) (some (.frz (.int k))) = some (.frz d) := by
  unfold newL
  simp [ix2, ixO, atI_map, h]
theorem ix_strs (xs : List Str) (i : Int) (h0 : 0 ≤ i) (h1 : i < xs.length) : ix2 (some (.frz (.lst (xs.map D.str)))) (some (.frz (.int i))) = some (.frz (.str (xs.getD i.toNat (Str.ofString "")))) := by
  refine ix2_l ?_
  have h2 : i.toNat < xs.length := by omega
  rw [atI_pos (n := i.toNat) (by omega) (by simpa using h2)]
  simp [h2]
def kindOf (m : Int) : Str := [Str.ofString "a", Str.ofString "b", Str.ofString "ab"].getD (m / 100 % 3).toNat (Str.ofString "")
def parcOf (m : Int) : Str := [Str.ofString "", Str.ofString "p", Str.ofString "q", Str.ofString "pp"].getD (m / 1000 % 4).toNat (Str.ofString "")
def sinceOf (m : Int) (r : Row) : Int := match r.getLast? with
  | none => m / 7 % 4
  | some g => g.since + m / 7 % 3
def goodOf (cells : List Int) (k : Nat) (m : Int) (r : Row) : Good := ⟨(29 * k + cellAt cells 0) % 211, sinceOf m r, kindOf m, parcOf m⟩
def slotJ (many : Nat) (m : Int) : Nat := (m % many).toNat
def addRow (cells : List Int) (many : Nat) (R : List Row) (k : Nat) (cell : Int) : List Row :=
  R.set (slotJ many (mix cell k)) (R.getD (slotJ many (mix cell k)) [] ++ [goodOf cells k (mix cell k) (R.getD (slotJ many (mix cell k)) [])])
def ownR (R : List Row) : O := .lst (R.map fun r => newL (r.map Good.d))
theorem ownR_toD (R : List Row) : (ownR R).toD = rowsD R := by
  unfold ownR rowsD
  rw [toD_lst, List.map_map]
  congr 1
  exact List.map_congr_left fun r _ => by simp [rowD]
theorem cl_mix (c k : Int) (h0 : 0 ≤ k) (h1 : k < 2 ^ 64) : cl 2 f__law_mix (some [.frz (.int c), .frz (.int k)]) = some (.frz (.int (mix c k))) := cl2 (ev_mix c k h0 h1)
theorem cl_cellL (ns : List Int) (k : Nat) : cl 2 f__law_cell_at (some [.frz (.lst (ns.map .int)), .frz (.int k)]) = some (.frz (.int (cellAt ns k))) := cl2 (ev_cellL ns k)
theorem cl_cell (ns : List Int) (k : Nat) : cl 2 f__law_cell_at (some [.frz (.scr ns), .frz (.int k)]) = some (.frz (.int (cellAt ns k))) := cl2 (ev_cell ns k)
theorem oMul29 (i : Int) : oMul (.frz (.int 29)) (.frz (.int i)) = some (.frz (.int (29 * i))) := oMul_i (by omega)
def X6 (x : SV) : Prop := x = .dead ∨ ∃ j, x = .als 2 [.ix j]
theorem rows_body (cells : List Int) (many : Nat) (hm : 0 < many) (R : List Row) (hR : R.length = many) (k : Nat) (hk : k < 1000) (cell : Int) (x5 x6 x7 x8 : SV) (h5 : plS x5 = true) (h6 : X6 x6) (h7 : plS x7 = true) (h8 : plS x8 = true) (ht : ∀ r ∈ R, r.length < 1000) :
    ∃ y6 y7 y8, X6 y6 ∧ plS y7 = true ∧ plS y8 = true ∧ b0__law_rows [.frz (.lst (cells.map D.int)), .frz (.int many), .own (ownR R), .frz (.int k), .frz (.int cell), x5, x6, x7, x8] =
      some (.nx [.frz (.lst (cells.map D.int)), .frz (.int many), .own (ownR (addRow cells many R k cell)), .frz (.int k), .frz (.int cell), .frz (.int (mix cell k)), y6, y7, y8]) := by
  have c1 := cl_mix cell k (by omega) (by omega)
  have c2 : cl 2 f__law_cell_at (some [.frz (.lst (cells.map .int)), .frz (.int 0)]) = some (.frz (.int (cellAt cells 0))) := cl_cellL cells 0
  have hn := mix_nn cell k
  generalize hmm : mix cell k = m at c1 hn
  have mm1 : gMod (.int m) (.int many) = some (.int (m % many)) := gMod_i (by omega)
  have hj : slotJ many m < R.length := by
    unfold slotJ
    have := Int.emod_lt_of_pos m (show (0 : Int) < many by omega)
    have := Int.emod_nonneg m (show (many : Int) ≠ 0 by omega)
    omega
  have hv : m % (many : Int) = (slotJ many m : Nat) := by
    unfold slotJ
    have := Int.emod_nonneg m (show (many : Int) ≠ 0 by omega)
    omega
  have hos : (R.map fun r => newL (r.map Good.d))[slotJ many m]? = some (newL ((R.getD (slotJ many m) []).map Good.d)) := by simp [hj]
  have gn := gNe_nil (PysOk.map (n := 1) (f := Good.d) (xs := R.getD (slotJ many m) []) fun g _ => g.py)
  have kd : ix2 (some (.frz (.lst [.str (Str.ofString "a"), .str (Str.ofString "b"), .str (Str.ofString "ab")]))) (some (.frz (.int (m / 100 % 3)))) = some (.frz (.str (kindOf m))) :=
    ix_strs [Str.ofString "a", Str.ofString "b", Str.ofString "ab"] (m / 100 % 3) (Int.emod_nonneg _ (by decide)) (by have := Int.emod_lt_of_pos (m / 100) (show (0 : Int) < 3 by decide); simpa using this)
  have pc : ix2 (some (.frz (.lst [.str (Str.ofString ""), .str (Str.ofString "p"), .str (Str.ofString "q"), .str (Str.ofString "pp")]))) (some (.frz (.int (m / 1000 % 4)))) = some (.frz (.str (parcOf m))) :=
    ix_strs [Str.ofString "", Str.ofString "p", Str.ofString "q", Str.ofString "pp"] (m / 1000 % 4) (Int.emod_nonneg _ (by decide)) (by have := Int.emod_lt_of_pos (m / 1000) (show (0 : Int) < 4 by decide); simpa using this)
  have len : ((R.getD (slotJ many m) []).map Good.d).length < 16777216 := by
    have : (R.getD (slotJ many m) []).length < 1000 := by
      rw [show R.getD (slotJ many m) [] = R[slotJ many m] by simp [hj]]
      exact ht _ (List.getElem_mem hj)
    simp only [List.length_map]; omega
  have ap := aAppend_n (d := (goodOf cells k m (R.getD (slotJ many m) [])).d) len
  have pw := putW_l (p := []) (n := newL ((R.getD (slotJ many m) []).map Good.d ++ [(goodOf cells k m (R.getD (slotJ many m) [])).d])) hos
  have st : (R.map fun r => newL (r.map Good.d)).set (slotJ many m) (newL ((R.getD (slotJ many m) []).map Good.d ++ [(goodOf cells k m (R.getD (slotJ many m) [])).d])) = (addRow cells many R k cell).map fun r => newL (r.map Good.d) := by
    unfold addRow
    rw [hmm, List.map_set]
    simp
  refine ⟨.als 2 [.ix (slotJ many m)], .frz (.int (sinceOf m (R.getD (slotJ many m) []))), .frz (.str (kindOf m)), .inr ⟨_, rfl⟩, rfl, rfl, ?_⟩
  have lookR : (ownR R).walk [.ix (slotJ many m)] = some (newL ((R.getD (slotJ many m) []).map Good.d)) := by
    unfold ownR
    rw [walk_c, step_l, hos]
    rfl
  have q1 : ∀ env : VL.Env, env[2]? = some (.own (ownR R)) → qi1 env (some (.frz (.int (m % many)))) (some (2, [])) = some (2, [.ix (slotJ many m)]) := fun env he => qi1_own he hv (by simpa using hj)
  have tail : ∀ (s7 : Int) , s7 = sinceOf m (R.getD (slotJ many m) []) → (goodOf cells k m (R.getD (slotJ many m) [])).d = .tup [.int ((29 * k + cellAt cells 0) % 211), .int s7, .str (kindOf m), .str (parcOf m)] := fun s7 h => by rw [h]; rfl
  have lookS : (ownR R).step (.ix (slotJ many m)) = some (newL ((R.getD (slotJ many m) []).map Good.d)) := hos
  have io_p : ∀ x : SV, plS x = true → isIo (some x) = false := fun x h => by cases x <;> first | rfl | cases h
  have i7 := io_p x7 h7
  have i8 := io_p x8 h8
  have i5 := io_p x5 h5
  have px : (SV.als 2 [Stp.ix (slotJ many m)]) = .als 2 [Stp.ix (slotJ many m)] := rfl
  have fin : ∀ s7 : Int, s7 = sinceOf m (R.getD (slotJ many m) []) → aAppend (newL ((R.getD (slotJ many m) []).map Good.d)) [.frz (.tup [.int ((29 * k + cellAt cells 0) % 211), .int s7, .str (kindOf m), .str (parcOf m)])] = some (newL ((R.getD (slotJ many m) []).map Good.d ++ [(goodOf cells k m (R.getD (slotJ many m) [])).d])) := fun s7 h => by rw [← tail s7 h]; exact ap
  have pw2 : (ownR R).putW [.ix (slotJ many m)] (newL ((R.getD (slotJ many m) []).map Good.d ++ [(goodOf cells k m (R.getD (slotJ many m) [])).d])) = ownR (addRow cells many R k cell) := by
    unfold ownR
    rw [pw, putW_n, st]
  generalize hrow : R.getD (slotJ many m) [] = row at *
  have hkS : ∀ i : Nat, i ≠ 2 → kS i x6 = x6 := fun i hi => by
    rcases h6 with rfl | ⟨j0, rfl⟩
    · rfl
    · show (if 2 = i then _ else _) = _
      rw [if_neg (Ne.symm hi)]
  have k5 : ∀ i, kS i x5 = x5 := fun i => kS_p h5
  have k7 : ∀ i, kS i x7 = x7 := fun i => kS_p h7
  have k8 : ∀ i, kS i x8 = x8 := fun i => kS_p h8
  have p8 : ∀ i p, kP i p x8 = x8 := fun i p => kP_p h8
  rcases List.eq_nil_or_concat row with rfl | ⟨r0, g, hr⟩
  · have e7 : m / 7 % 4 = sinceOf m [] := rfl
    have fin := fin (sinceOf m []) rfl
    simp only [List.map_nil, List.nil_append] at gn lookR lookS fin pw2 ap
    rcases h6 with rfl | ⟨j0, rfl⟩
    · simp [b0__law_rows, c1, mm1, q1, lookR, h5, h7, h8, gn, kd, pc, c2, oMul29, fin, pw2, k5, k7, k8, p8, i5, i7, i8, lookS, e7]
    · simp [b0__law_rows, c1, mm1, q1, lookR, h5, h7, h8, gn, kd, pc, c2, oMul29, fin, pw2, k5, k7, k8, p8, i5, i7, i8, lookS, e7]
  · have hg : row.getLast? = some g := by rw [hr]; simp
    have e7 : g.since + m / 7 % 3 = sinceOf m row := by unfold sinceOf; rw [hg]
    have fin := fin (sinceOf m row) rfl
    have hl : row.length = r0.length + 1 := by rw [hr]; simp
    have lst : ix2 (some (newL (row.map Good.d))) (some (.frz (.int (-1)))) = some (.frz g.d) := by
      refine ix2_n ?_
      rw [atI_neg (n := r0.length) (by simp [hl]; omega) (by simp [hl])]
      simp [hr]
    have gd1 : ix2 (some (.frz g.d)) (some (.frz (.int 1))) = some (.frz (.int g.since)) := ix_t1
    have ne : (row.map Good.d).isEmpty = false := by rw [hr]; simp
    rw [ne] at gn
    rcases h6 with rfl | ⟨j0, rfl⟩
    · simp [b0__law_rows, c1, mm1, q1, lookR, h5, h7, h8, gn, kd, pc, c2, oMul29, fin, pw2, k5, k7, k8, p8, i5, i7, i8, lookS, e7, lst, gd1]
    · simp [b0__law_rows, c1, mm1, q1, lookR, h5, h7, h8, gn, kd, pc, c2, oMul29, fin, pw2, k5, k7, k8, p8, i5, i7, i8, lookS, e7, lst, gd1]
def mkGo (cells : List Int) (many : Nat) : List Int → Nat → List Row → List Row
  | [], _, R => R
  | c :: cs, k, R => mkGo cells many cs (k + 1) (addRow cells many R k c)
def mkRows (cells : List Int) (many : Nat) : List Row := mkGo cells many (cells.take 24) 0 (List.replicate many [])
theorem add_len (cells : List Int) (many : Nat) (R : List Row) (k : Nat) (c : Int) : (addRow cells many R k c).length = R.length := by simp [addRow]
theorem add_bd (cells : List Int) (many : Nat) (R : List Row) (k : Nat) (c : Int) (n : Nat) (h : ∀ r ∈ R, r.length ≤ n) : ∀ r ∈ addRow cells many R k c, r.length ≤ n + 1 := by
  intro r hr
  unfold addRow at hr
  rcases List.mem_or_eq_of_mem_set hr with h1 | h1
  · have := h r h1; omega
  · subst h1
    have : (R.getD (slotJ many (mix c k)) []).length ≤ n := by
      by_cases hj : slotJ many (mix c k) < R.length
      · rw [show R.getD (slotJ many (mix c k)) [] = R[slotJ many (mix c k)] by simp [hj]]
        exact h _ (List.getElem_mem hj)
      · simp [hj]
    simp; exact this
abbrev g_rows : Gm := gTp 2 (gCn (gNm 3) (gCn (gNm 4) gNl))
theorem rows_loop (cells : List Int) (many : Nat) (hm : 0 < many) : ∀ (cs : List Int) (k : Nat) (R : List Row) (x3 x4 x5 x6 x7 x8 : SV), R.length = many → k + cs.length < 1000 → (∀ r ∈ R, r.length ≤ k) → plS x3 = true → plS x4 = true → plS x5 = true → X6 x6 → plS x7 = true → plS x8 = true →
    ∃ y3 y4 y5 y6 y7 y8, plS y3 = true ∧ plS y4 = true ∧ plS y5 = true ∧ X6 y6 ∧ plS y7 = true ∧ plS y8 = true ∧
      loop g_rows b0__law_rows ((cs.zipIdx k).map fun p => D.tup [.int (p.2 : Int), .int p.1]) [.frz (.lst (cells.map D.int)), .frz (.int many), .own (ownR R), x3, x4, x5, x6, x7, x8] =
        some (.nx [.frz (.lst (cells.map D.int)), .frz (.int many), .own (ownR (mkGo cells many cs k R)), y3, y4, y5, y6, y7, y8])
  | [], k, R, x3, x4, x5, x6, x7, x8, hR, hk, hb, h3, h4, h5, h6, h7, h8 => ⟨x3, x4, x5, x6, x7, x8, h3, h4, h5, h6, h7, h8, by simp [mkGo]⟩
  | c :: cs, k, R, x3, x4, x5, x6, x7, x8, hR, hk, hb, h3, h4, h5, h6, h7, h8 => by
    simp only [List.length_cons] at hk
    obtain ⟨y6, y7, y8, g6, g7, g8, e1⟩ := rows_body cells many hm R hR k (by omega) c x5 x6 x7 x8 h5 h6 h7 h8 fun r hr => by have := hb r hr; omega
    obtain ⟨z3, z4, z5, z6, z7, z8, q3, q4, q5, q6, q7, q8, e2⟩ := rows_loop cells many hm cs (k + 1) (addRow cells many R k c) (.frz (.int k)) (.frz (.int c)) (.frz (.int (mix c k))) y6 y7 y8 (by rw [add_len, hR]) (by omega) (add_bd cells many R k c k hb) rfl rfl rfl g6 g7 g8
    refine ⟨z3, z4, z5, z6, z7, z8, q3, q4, q5, q6, q7, q8, ?_⟩
    rw [List.zipIdx_cons, List.map_cons, loop_cons]
    have tg : g_rows (.frz (.tup [.int (k : Int), .int c])) [.frz (.lst (cells.map D.int)), .frz (.int many), .own (ownR R), x3, x4, x5, x6, x7, x8] = some [.frz (.lst (cells.map D.int)), .frz (.int many), .own (ownR R), .frz (.int k), .frz (.int c), x5, x6, x7, x8] := by
      have k5 : ∀ i, kS i x5 = x5 := fun i => kS_p h5
      have k7 : ∀ i, kS i x7 = x7 := fun i => kS_p h7
      have k8 : ∀ i, kS i x8 = x8 := fun i => kS_p h8
      have k4 : ∀ i, kS i x4 = x4 := fun i => kS_p h4
      have i3 := io_pl h3
      have i4 := io_pl h4
      rcases h6 with rfl | ⟨j0, rfl⟩
      · simp [h3, h4, h5, h7, h8]
      · simp [h3, h4, h5, h7, h8, k4, k5, k7, k8, i3, i4]
    rw [tg, bdE_s, e1, lp2_n, e2]
    rfl
theorem go_len (cells : List Int) (many : Nat) : ∀ (cs : List Int) (k : Nat) (R : List Row), (mkGo cells many cs k R).length = R.length
  | [], _, _ => rfl
  | c :: cs, k, R => by rw [mkGo, go_len cells many cs, add_len]
theorem mk_len (cells : List Int) (many : Nat) : (mkRows cells many).length = many := by unfold mkRows; rw [go_len]; simp
theorem total_set (R : List Row) (j : Nat) (g : Good) (h : j < R.length) : total (R.set j (R.getD j [] ++ [g])) = total R + 1 := by
  unfold total
  induction R generalizing j with
  | nil => simp at h
  | cons r R ih =>
    cases j with
    | zero => simp; omega
    | succ j =>
      have := ih j (by simpa using h)
      simp at this ⊢
      omega
theorem total_set_le (R : List Row) (j : Nat) (g : Good) : total (R.set j (R.getD j [] ++ [g])) ≤ total R + 1 := by
  by_cases h : j < R.length
  · rw [total_set R j g h]; exact Nat.le_refl _
  · rw [List.set_eq_of_length_le (by omega)]; omega
theorem go_total (cells : List Int) (many : Nat) : ∀ (cs : List Int) (k : Nat) (R : List Row), total (mkGo cells many cs k R) ≤ total R + cs.length
  | [], _, _ => by simp [mkGo]
  | c :: cs, k, R => by
    rw [mkGo]
    have h1 := go_total cells many cs (k + 1) (addRow cells many R k c)
    have h2 : total (addRow cells many R k c) ≤ total R + 1 := total_set_le _ _ _
    simp only [List.length_cons]; omega
theorem mk_total (cells : List Int) (many : Nat) : total (mkRows cells many) ≤ 24 := by
  unfold mkRows
  have h1 := go_total cells many (cells.take 24) 0 (List.replicate many [])
  have h2 : total (List.replicate many []) = 0 := by simp [total]
  have h3 : (cells.take 24).length ≤ 24 := by rw [List.length_take]; omega
  omega
theorem ev_rows (cells : List Int) (many : Nat) (hm : 0 < many) (hm2 : many ≤ 1000) : f__law_rows [.frz (.lst (cells.map D.int)), .frz (.int many)] = some (.frz (rowsD (mkRows cells many)), [.frz (.lst (cells.map D.int)), .frz (.int many)]) := by
  have hr : itR (some [.frz (.int many)]) = some ((List.range many).map fun (i : Nat) => D.int i) := by
    rw [itR_i (by omega), ← rng_map]
    simp
  have hc := lc1_m (m := c0__law_rows) (g := gNm 3) (vs := [3]) (env := [.frz (.lst (cells.map D.int)), .frz (.int many), .dead, .dead, .dead, .dead, .dead, .dead, .dead]) (fun (i : Nat) => D.int i) (fun _ => O.lst []) (List.range many) rfl (by simp; omega) fun i hi => by
    refine ⟨[.frz (.lst (cells.map D.int)), .frz (.int many), .dead, .frz (.int i), .dead, .dead, .dead, .dead, .dead], ?_, ?_⟩
    · simp
    · simp [c0__law_rows]
  have h0 : (O.lst ((List.range many).map fun _ => O.lst [])) = ownR (List.replicate many []) := by
    have e1 : (List.range many).map (fun _ => O.lst []) = List.replicate many (O.lst []) := by
      rw [List.map_const', List.length_range]
    have e2 : (List.replicate many ([] : Row)).map (fun r => newL (r.map Good.d)) = List.replicate many (O.lst []) := by
      rw [List.map_replicate]; rfl
    unfold ownR
    rw [e1, e2]
  have t24 : cutA (cells.map D.int) none (some 24) = (cells.take 24).map D.int := by
    have := cut_to (cells.map D.int) 24
    rw [List.map_take]; exact this
  have ie : itE seqF (some [.frz (.lst ((cells.take 24).map D.int))]) = some (((cells.take 24).zipIdx).map fun p => D.tup [.int (p.2 : Int), .int p.1]) := by
    show some (enumD _) = _
    rw [enumD_map]
  obtain ⟨y3, y4, y5, y6, y7, y8, g3, g4, g5, g6, g7, g8, e⟩ := rows_loop cells many hm (cells.take 24) 0 (List.replicate many []) .dead .dead .dead .dead .dead .dead (by simp) (by rw [List.length_take]; omega) (fun r hr => by rw [List.eq_of_mem_replicate hr]; simp) rfl rfl rfl (.inl rfl) rfl rfl
  refine fn2 (e := [.frz (.lst (cells.map D.int)), .frz (.int many), .frz (rowsD (mkRows cells many)), kS 2 y3, kS 2 y4, kS 2 y5, kS 2 y6, kS 2 y7, kS 2 y8]) ?_
  have sl : slotOf (ownR (List.replicate many [])) = .own (ownR (List.replicate many [])) := rfl
  have hc' := hc
  rw [h0] at hc'
  simp [-List.map_take] at hc' ie
  simp [m__law_rows, hr, hc', sl, t24, -List.map_take, ie, e, ownR_toD, mkRows]
def latest (R : List Row) : Int := mxL 0 ((R.filter fun r => !r.isEmpty).map fun r => (r.getLast?.map Good.since).getD 0)
theorem ev_latest (R : List Row) (hl : R.length ≤ 100000) : f__law_latest [.frz (rowsD R)] = some (.frz (.int (latest R)), [.frz (rowsD R)]) := by
  have hc := lc1_fm (m := c0__law_latest) (t := ct0__law_latest) (g := gNm 1) (vs := [1]) (env := [.frz (rowsD R), .dead]) rowD (fun r => !r.isEmpty) (fun r => .frz (.int ((r.getLast?.map Good.since).getD 0))) R rfl hl fun r hr => by
    have gn : gNe (rowD r) (.lst []) = some (.bl (!r.isEmpty)) := by
      unfold rowD
      rw [gNe_nil (PysOk.map (n := 1) fun g _ => g.py)]
      simp
    refine ⟨[.frz (rowsD R), .frz (rowD r)], by simp, by simp [ct0__law_latest, gn], fun hne => ?_⟩
    rcases List.eq_nil_or_concat r with rfl | ⟨r0, g, rfl⟩
    · cases hne
    · have lst : ix2 (some (.frz (rowD (r0 ++ [g])))) (some (.frz (.int (-1)))) = some (.frz g.d) := by
        refine ix2_l ?_
        rw [atI_neg (n := r0.length) (by simp; omega) (by simp)]
        simp
      have gd1 : ix2 (some (.frz g.d)) (some (.frz (.int 1))) = some (.frz (.int g.since)) := ix_t1
      simp [c0__law_latest, lst, gd1]
  have rl : (O.frz (rowsD R)).litems = some (R.map rowD) := rfl
  have mm : (List.map (fun r => O.frz (D.int ((r.getLast?.map Good.since).getD 0))) (R.filter fun r => !r.isEmpty)).map O.toD = ((R.filter fun r => !r.isEmpty).map fun r => (r.getLast?.map Good.since).getD 0).map D.int := by
    rw [List.map_map, List.map_map]
    exact List.map_congr_left fun _ _ => by simp
  have ml : ∀ xs : List Int, oMax (.frz (.lst (.int 0 :: xs.map D.int))) = some (.frz (.int (mxL 0 xs))) := fun xs => by
    have : (D.int 0 :: xs.map D.int) = (0 :: xs).map D.int := rfl
    unfold oMax
    rw [this, oNums_l]
    rfl
  have hlen : (((R.filter fun r => !r.isEmpty).map fun (r : Row) => (r.getLast?.map Good.since).getD 0).map D.int).length ≤ 100000 := by
    simp only [List.length_map]
    exact Nat.le_trans (List.length_filter_le _ _) hl
  have ad := oAdd_ll (xs := [.int 0]) (ys := ((R.filter fun r => !r.isEmpty).map fun (r : Row) => (r.getLast?.map Good.since).getD 0).map D.int) (by simp only [List.length_singleton]; omega)
  refine fn1 (e := [.frz (rowsD R), .dead]) ?_
  simp only [m__law_latest, List.replicate, sRet_c, eOpN_c, eCons_c, frzE_c, eOp2_c, eLst_c, takE_c, eC_c, tk1_f, eNil_c, cons2_s, lst1_s, List.length_cons, List.length_nil, fz1_s, toD_lst, List.map_cons, List.map_nil, toD_frz, eLcN_c, iLTc_c, eVar_c, List.getElem?_cons_zero, rdS_frz, it1_s, rl, Option.some_or, hc, mm, ap2_s, ad, toD_newL, bN_s, n1_s, List.cons_append, List.nil_append, ml, rt1_s, latest, Nat.reduceAdd, Nat.reduceLeDiff]
end Pr
namespace Pr
open PySem PySem.Spec PyProof.Rows L2 VL Mr
theorem turn_some (R : List Row) (sh : List Int) (hs : ∀ p, p < R.length → 1 ≤ sh.getD p 0) : ∀ (d p f : Nat), p < R.length → d < f → (R.getD ((p + d) % R.length) []) ≠ [] → (turnGo R sh f p 0).isSome = true
  | d, p, 0, hp, hf, hr => absurd hf (Nat.not_lt_zero d)
  | 0, p, f + 1, hp, hf, hr => by
    rw [Nat.add_zero, Nat.mod_eq_of_lt hp] at hr
    rw [turnGo, if_neg]
    · rfl
    · rintro (h | h)
      · exact hr (List.isEmpty_iff.mp h)
      · have := hs p hp; omega
  | d + 1, p, f + 1, hp, hf, hr => by
    rw [turnGo]
    split
    · refine turn_some R sh hs d ((p + 1) % R.length) f (Nat.mod_lt _ (by omega)) (by omega) ?_
      have : ((p + 1) % R.length + d) % R.length = (p + (d + 1)) % R.length := by rw [Nat.mod_add_mod]; congr 1; omega
      rw [this]; exact hr
    · rfl
theorem turn_ends (R : List Row) (sh : List Int) (hs : ∀ p, p < R.length → 1 ≤ sh.getD p 0) (hne : ∃ r ∈ R, r ≠ []) (p : Nat) (c : Int) (f : Nat) (hp : p < R.length) (hf : R.length < f) : (turnGo R sh f p c).isSome = true := by
  obtain ⟨r, hr, hr2⟩ := hne
  obtain ⟨q, hq, rfl⟩ := List.getElem_of_mem hr
  have key : ∀ p', p' < R.length → ∃ d, d < R.length ∧ (p' + d) % R.length = q := fun p' hp' => by
    by_cases h : p' ≤ q
    · exact ⟨q - p', by omega, by rw [show p' + (q - p') = q by omega]; exact Nat.mod_eq_of_lt hq⟩
    · refine ⟨q + R.length - p', by omega, ?_⟩
      rw [show p' + (q + R.length - p') = q + R.length by omega, Nat.add_mod_right]
      exact Nat.mod_eq_of_lt hq
  cases f with
  | zero => omega
  | succ f =>
    rw [turnGo]
    split
    · have hp2 : (p + 1) % R.length < R.length := Nat.mod_lt _ (by omega)
      obtain ⟨d, hd, he⟩ := key _ hp2
      refine turn_some R sh hs d _ f hp2 (by omega) ?_
      rw [he]
      simpa [hq] using hr2
    · rfl
theorem mem_byAge {R : List Row} {f : Fd} : f ∈ byAge R ↔ f ∈ flatRows 0 R := List.mem_mergeSort
theorem mem_flatRow {f : Fd} : ∀ {r : Row} {p k : Nat}, f ∈ flatRow p k r → f.good ∈ r
  | g :: r, p, k, h => by
    rw [flatRow] at h
    rcases List.mem_cons.mp h with rfl | h
    · exact List.mem_cons_self
    · exact List.mem_cons_of_mem _ (mem_flatRow h)
theorem mem_flatRows {f : Fd} : ∀ {R : List Row} {p : Nat}, f ∈ flatRows p R → ∃ r ∈ R, f.good ∈ r
  | r :: R, p, h => by
    rw [flatRows] at h
    rcases List.mem_append.mp h with h | h
    · exact ⟨r, by simp, mem_flatRow h⟩
    · obtain ⟨r', h1, h2⟩ := mem_flatRows h
      exact ⟨r', by simp [h1], h2⟩
theorem byAge_ne {R : List Row} (h : byAge R ≠ []) : ∃ r ∈ R, r ≠ [] := by
  obtain ⟨f, hf⟩ := List.exists_mem_of_ne_nil _ h
  obtain ⟨r, h1, h2⟩ := mem_flatRows (mem_byAge.mp hf)
  exact ⟨r, h1, List.ne_nil_of_mem h2⟩
end Pr
namespace Pr
open PySem PySem.Spec PyProof.Rows L2 VL Mr PySem.W
def tri (f : Fd) : D := .tup [.int f.since, .int f.place, .int f.number]
theorem flatRow_zip (pl : Nat) : ∀ (r : Row) (k : Nat), flatRow pl k r = (r.zipIdx k).map fun p => (⟨p.1.since, pl, p.2, p.1⟩ : Fd)
  | [], _ => rfl
  | g :: r, k => by rw [flatRow, List.zipIdx_cons, List.map_cons, flatRow_zip pl r (k + 1)]
theorem tri_py (f : Fd) : (tri f).py = some (.tuple [.int f.since, .int f.place, .int f.number]) := rfl
theorem tri_le (a b : Fd) : dataLe false D.pyD (tri a) (tri b) = le_fd a b := by
  have h : dataLe false D.pyD (tri a) (tri b) = dataLe false py3 (tri a) (tri b) := rfl
  rw [h, dataLe_3]
  rfl
theorem sorted_tri (xs : List Fd) : oSorted (.frz (.lst (xs.map tri))) = some (newL ((xs.mergeSort le_fd).map tri)) := by
  have hp : D.pys (xs.map tri) = some (xs.map fun f => PyData.tuple [.int f.since, .int f.place, .int f.number]) := by
    induction xs with
    | nil => rfl
    | cons x xs ih => rw [List.map_cons, D.pys, tri_py, ih]; rfl
  have hd : PyData.depthAll (xs.map fun f => PyData.tuple [.int f.since, .int f.place, .int f.number]) ≤ 30 := by
    clear hp
    induction xs with
    | nil => rw [List.map_nil, PyData.depthAll]; omega
    | cons x xs ih =>
      rw [List.map_cons, PyData.depthAll]
      have : (PyData.tuple [.int x.since, .int x.place, .int x.number]).depth ≤ 30 := by simp [PyData.depth, PyData.depthAll]
      omega
  have hs : sortOk (xs.map fun f => PyData.tuple [.int f.since, .int f.place, .int f.number]) = true := by
    unfold sortOk
    simp only [List.all_map, Bool.and_eq_true, Bool.or_eq_true]
    exact ⟨List.all_eq_true.mpr fun a _ => List.all_eq_true.mpr fun b _ => by simp [alike, alikeAll], .inl (List.all_eq_true.mpr fun a _ => rfl)⟩
  unfold oSorted
  rw [litems_f]
  show (D.pys (xs.map tri)).bind _ = _
  rw [hp]
  show (if _ then _ else _) = _
  rw [if_pos ⟨hs, hd⟩]
  congr 2
  exact (List.map_mergeSort (r := le_fd) (s := dataLe false D.pyD) (f := tri) (l := xs) (fun a _ b _ => (tri_le a b).symm)).symm
theorem mk1 (p c : Int) : mkT [.lst [.frz (.tup [.int p, .int 0])], .frz (.tup [.int p, .int c])] = .tup [newL [.tup [.int p, .int 0]], .frz (.tup [.int p, .int c])] := mkT_n (ds := [.tup [.int p, .int 0]])
end Pr
namespace Pr
open PySem PySem.Spec PyProof.Rows L2 VL Mr
def Fd.t3 (f : Fd) : T3 := (f.since, f.place, f.number)
theorem kflat_look {f : Fd} : ∀ {r : Row} {p k : Nat}, f ∈ flatRow p k r → f.place = p ∧ f.since = f.good.since ∧ ∃ j : Nat, f.number = (k + j : Nat) ∧ r[j]? = some f.good
  | g :: r, p, k, h => by
    rw [flatRow] at h
    rcases List.mem_cons.mp h with rfl | h
    · exact ⟨rfl, rfl, 0, rfl, rfl⟩
    · obtain ⟨h1, h0, j, h2, h3⟩ := kflat_look h
      exact ⟨h1, h0, j + 1, by rw [h2]; congr 1; omega, by simpa using h3⟩
theorem kflats_look {f : Fd} : ∀ {R : List Row} {p : Nat}, f ∈ flatRows p R → f.since = f.good.since ∧ ∃ i j : Nat, f.place = (p + i : Nat) ∧ f.number = (j : Nat) ∧ ∃ r, R[i]? = some r ∧ r[j]? = some f.good
  | r :: R, p, h => by
    rw [flatRows] at h
    rcases List.mem_append.mp h with h | h
    · obtain ⟨h1, h0, j, h2, h3⟩ := kflat_look h
      exact ⟨h0, 0, j, by rw [h1]; rfl, by rw [h2]; congr 1; omega, r, rfl, h3⟩
    · obtain ⟨h0, i, j, h1, h2, r', h3, h4⟩ := kflats_look h
      exact ⟨h0, i + 1, j, by rw [h1]; congr 1; omega, h2, r', by simpa using h3, h4⟩
theorem klook_flat : ∀ {r : Row} {p k j : Nat} {g : Good}, r[j]? = some g → (⟨g.since, p, (k + j : Nat), g⟩ : Fd) ∈ flatRow p k r
  | a :: r, p, k, 0, g, h => by
    simp at h
    subst h
    rw [flatRow]
    exact List.mem_cons_self
  | a :: r, p, k, j + 1, g, h => by
    rw [flatRow]
    have := klook_flat (p := p) (k := k + 1) (show r[j]? = some g by simpa using h)
    rw [show k + 1 + j = k + (j + 1) by omega] at this
    exact List.mem_cons_of_mem _ this
theorem klook_flats : ∀ {R : List Row} {p i j : Nat} {r : Row} {g : Good}, R[i]? = some r → r[j]? = some g → (⟨g.since, (p + i : Nat), (j : Nat), g⟩ : Fd) ∈ flatRows p R
  | a :: R, p, 0, j, r, g, h1, h2 => by
    simp at h1
    subst h1
    rw [flatRows]
    have := klook_flat (p := p) (k := 0) h2
    rw [Nat.zero_add] at this
    exact List.mem_append_left _ this
  | a :: R, p, i + 1, j, r, g, h1, h2 => by
    rw [flatRows]
    have := klook_flats (p := p + 1) (show R[i]? = some r by simpa using h1) h2
    rw [show p + 1 + i = p + (i + 1) by omega] at this
    exact List.mem_append_right _ this
theorem at_of {f : Fd} {R : List Row} (h : f ∈ byAge R) : f.since = f.good.since ∧ ∃ i j : Nat, f.place = (i : Nat) ∧ f.number = (j : Nat) ∧ ∃ r, R[i]? = some r ∧ r[j]? = some f.good := by
  obtain ⟨h0, i, j, h1, h2, r, h3, h4⟩ := kflats_look (mem_byAge.mp h)
  rw [Nat.zero_add] at h1
  exact ⟨h0, i, j, h1, h2, r, h3, h4⟩
theorem mem_at {R : List Row} {i j : Nat} {r : Row} {g : Good} (h1 : R[i]? = some r) (h2 : r[j]? = some g) : (⟨g.since, i, j, g⟩ : Fd) ∈ byAge R := by
  have := klook_flats (p := 0) h1 h2
  rw [Nat.zero_add] at this
  exact mem_byAge.mpr this
theorem le3_total (a b : T3) : (le3 a b || le3 b a) = true := by unfold le3; simp only [Bool.or_eq_true, decide_eq_true_eq]; omega
theorem le3_trans {a b c : T3} (h1 : le3 a b = true) (h2 : le3 b c = true) : le3 a c = true := by unfold le3 at *; simp only [decide_eq_true_eq] at *; omega
theorem le3_anti {a b : T3} (h1 : le3 a b = true) (h2 : le3 b a = true) : a = b := by
  obtain ⟨a1, a2, a3⟩ := a
  obtain ⟨b1, b2, b3⟩ := b
  unfold le3 at *
  simp only [decide_eq_true_eq] at *
  have : a1 = b1 ∧ a2 = b2 ∧ a3 = b3 := by omega
  obtain ⟨rfl, rfl, rfl⟩ := this
  rfl
theorem byAge_sorted (R : List Row) : (byAge R).Pairwise fun a b => le_fd a b = true :=
  List.pairwise_mergeSort (fun a b c h1 h2 => le3_trans (by exact h1) (by exact h2)) (fun a b => le3_total a.t3 b.t3) _
theorem min3_spec : ∀ (xs : List T3) (x : T3), min3 x xs ∈ x :: xs ∧ ∀ y ∈ x :: xs, le3 (min3 x xs) y = true
  | [], x => ⟨by simp [min3], fun y hy => by
      have : y = x := by simpa using hy
      subst this
      have := le3_total y y
      show le3 y y = true
      simpa using this⟩
  | z :: xs, x => by
    obtain ⟨h1, h2⟩ := min3_spec xs (if lt3 z x = true then z else x)
    have e : min3 x (z :: xs) = min3 (if lt3 z x = true then z else x) xs := rfl
    rw [e]
    by_cases c : lt3 z x = true
    · rw [if_pos c] at h1 h2 ⊢
      have zx : le3 z x = true := by
        have := le3_total z x
        unfold lt3 at c
        simp at c
        simpa [c] using this
      refine ⟨List.mem_cons_of_mem _ h1, fun y hy => ?_⟩
      rcases List.mem_cons.mp hy with rfl | hy
      · exact le3_trans (h2 z (by simp)) zx
      · exact h2 y hy
    · rw [if_neg c] at h1 h2 ⊢
      have xz : le3 x z = true := by
        unfold lt3 at c
        simpa using c
      refine ⟨?_, fun y hy => ?_⟩
      · rcases List.mem_cons.mp h1 with h | h
        · rw [h]; simp
        · exact List.mem_cons_of_mem _ (List.mem_cons_of_mem _ h)
      · rcases List.mem_cons.mp hy with rfl | hy
        · exact h2 _ (by simp)
        · rcases List.mem_cons.mp hy with rfl | hy
          · exact le3_trans (h2 x (by simp)) xz
          · exact h2 y (by simp [hy])
theorem head_le {R : List Row} {f : Fd} {fs : List Fd} (h : byAge R = f :: fs) : ∀ y ∈ byAge R, le3 f.t3 y.t3 = true := by
  have s := byAge_sorted R
  rw [h] at s
  intro y hy
  rw [h] at hy
  rcases List.mem_cons.mp hy with rfl | hy
  · have := le3_total y.t3 y.t3
    simpa using this
  · exact (List.pairwise_cons.mp s).1 y hy
/-- the least of all that waits -/
theorem min3_head {R : List Row} {f : Fd} {fs : List Fd} {x : T3} {xs : List T3} (h : byAge R = f :: fs) (hx : (flatRows 0 R).map Fd.t3 = x :: xs) : min3 x xs = f.t3 := by
  obtain ⟨h1, h2⟩ := min3_spec xs x
  rw [← hx] at h1 h2
  obtain ⟨g, hg, e⟩ := List.mem_map.mp h1
  refine le3_anti (h2 _ (List.mem_map.mpr ⟨f, mem_byAge.mp (by rw [h]; simp), rfl⟩)) ?_
  rw [← e]
  exact head_le h g (mem_byAge.mpr hg)
theorem spots_row : ∀ (r : Row) (p k : Nat), ((flatRow p k r).map Fd.spot).Nodup
  | [], p, k => .nil
  | g :: r, p, k => by
    rw [flatRow, List.map_cons]
    refine List.nodup_cons.mpr ⟨fun h => ?_, spots_row r p (k + 1)⟩
    obtain ⟨f, hf, e⟩ := List.mem_map.mp h
    obtain ⟨_, _, j, h2, _⟩ := kflat_look hf
    have := congrArg Prod.snd e
    simp only [Fd.spot] at this
    rw [h2] at this
    omega
theorem spots_flat : ∀ (R : List Row) (p : Nat), ((flatRows p R).map Fd.spot).Nodup
  | [], p => .nil
  | r :: R, p => by
    rw [flatRows, List.map_append]
    refine List.nodup_append.mpr ⟨spots_row r p 0, spots_flat R (p + 1), fun a ha b hb e => ?_⟩
    obtain ⟨f, hf, e1⟩ := List.mem_map.mp ha
    obtain ⟨g, hg, e2⟩ := List.mem_map.mp hb
    obtain ⟨h1, _⟩ := kflat_look hf
    obtain ⟨_, i, j, h2, _⟩ := kflats_look hg
    have := congrArg Prod.fst (e1.trans (e.trans e2.symm))
    simp only [Fd.spot] at this
    rw [h1, h2] at this
    omega
theorem spots_nodup (R : List Row) : ((byAge R).map Fd.spot).Nodup :=
  ((List.mergeSort_perm (flatRows 0 R) le_fd).map Fd.spot).nodup_iff.mpr (spots_flat R 0)
theorem sub_nodup {R : List Row} {xs : List Fd} (h : xs.Sublist (byAge R)) : (xs.map Fd.spot).Nodup := (spots_nodup R).sublist (h.map _)
end Pr
namespace Pr
open PySem PySem.Spec PyProof.Rows L2 VL Mr
def Rising (R : List Row) : Prop := ∀ r ∈ R, r.Pairwise fun a b => a.since ≤ b.since
theorem head_first {R : List Row} {f : Fd} {fs : List Fd} (hr : Rising R) (h : byAge R = f :: fs) : f.number = 0 := by
  obtain ⟨h0, i, j, h1, h2, r, h3, h4⟩ := at_of (show f ∈ byAge R by rw [h]; simp)
  cases j with
  | zero => exact h2
  | succ j =>
    exfalso
    obtain ⟨hj, e⟩ := List.getElem?_eq_some_iff.mp h4
    have p := hr r (List.mem_of_getElem? h3)
    have h00 : 0 < r.length := by omega
    have le := List.pairwise_iff_getElem.mp p 0 (j + 1) h00 hj (by omega)
    have l := head_le h _ (mem_at h3 (List.getElem?_eq_getElem h00))
    rw [e] at le
    unfold le3 Fd.t3 at l
    simp only [decide_eq_true_eq] at l
    rw [h0, h1, h2] at l
    omega
theorem sinceOf_ge (m : Int) (r : Row) (hp : r.Pairwise fun a b => a.since ≤ b.since) : ∀ a ∈ r, a.since ≤ sinceOf m r := by
  intro a ha
  rcases List.eq_nil_or_concat r with rfl | ⟨r0, g, rfl⟩
  · cases ha
  · rw [List.concat_eq_append] at hp ha ⊢
    have e : sinceOf m (r0 ++ [g]) = g.since + m / 7 % 3 := by
      unfold sinceOf
      simp
    rw [e]
    have := Int.emod_nonneg (m / 7) (show (3 : Int) ≠ 0 by decide)
    rcases List.mem_append.mp ha with h | h
    · have := (List.pairwise_append.mp hp).2.2 a h g (by simp)
      omega
    · have : a = g := by simpa using h
      subst this
      omega
theorem rising_add {cells : List Int} {many : Nat} {R : List Row} {k : Nat} {c : Int} (h : Rising R) : Rising (addRow cells many R k c) := by
  intro r hr
  unfold addRow at hr
  rcases List.mem_or_eq_of_mem_set hr with h1 | h1
  · exact h r h1
  · subst h1
    have hp : (R.getD (slotJ many (mix c k)) []).Pairwise fun a b => a.since ≤ b.since := by
      by_cases hj : slotJ many (mix c k) < R.length
      · rw [show R.getD (slotJ many (mix c k)) [] = R[slotJ many (mix c k)] by simp [hj]]
        exact h _ (List.getElem_mem hj)
      · simp [hj]
    refine List.pairwise_append.mpr ⟨hp, by simp, fun a ha b hb => ?_⟩
    rw [List.mem_singleton.mp hb]
    exact sinceOf_ge _ _ hp a ha
theorem rising_go (cells : List Int) (many : Nat) : ∀ (cs : List Int) (k : Nat) (R : List Row), Rising R → Rising (mkGo cells many cs k R)
  | [], k, R, h => h
  | c :: cs, k, R, h => by rw [mkGo]; exact rising_go cells many cs (k + 1) _ (rising_add h)
theorem rising_mk (cells : List Int) (many : Nat) : Rising (mkRows cells many) := by
  unfold mkRows
  refine rising_go _ _ _ _ _ fun r hr => ?_
  rw [(List.mem_replicate.mp hr).2]
  exact .nil
end Pr
namespace Pr
open PySem PySem.Spec PyProof.Rows L2 VL Mr
/-- a spot of a good that waits -/
def Valid (R : List Row) (s : Int × Int) : Prop := ∃ i j : Nat, ∃ r g, s = ((i : Int), (j : Int)) ∧ R[i]? = some r ∧ r[j]? = some g
theorem valid_fd {R : List Row} {f : Fd} (h : f ∈ byAge R) : Valid R f.spot := by
  obtain ⟨_, i, j, h1, h2, r, h3, h4⟩ := at_of h
  exact ⟨i, j, r, f.good, by rw [Fd.spot, h1, h2], h3, h4⟩
theorem valid_mem {R : List Row} {s : Int × Int} (h : Valid R s) : s ∈ (byAge R).map Fd.spot := by
  obtain ⟨i, j, r, g, rfl, h3, h4⟩ := h
  exact List.mem_map.mpr ⟨_, mem_at h3 h4, rfl⟩
theorem few {R : List Row} {S : List (Int × Int)} (hn : S.Nodup) (hv : ∀ s ∈ S, Valid R s) : S.length ≤ total R := by
  have := nodupLe hn fun s hs => valid_mem (hv s hs)
  rwa [List.length_map, len_byAge] at this
theorem byAge_nil {R : List Row} : byAge R = [] ↔ ∀ r ∈ R, r = [] := by
  constructor
  · intro h r hr
    cases r with
    | nil => rfl
    | cons g r =>
      obtain ⟨i, hi, e⟩ := List.getElem_of_mem hr
      have := mem_at (R := R) (i := i) (j := 0) (by rw [List.getElem?_eq_getElem hi, e]) (g := g) rfl
      rw [h] at this
      cases this
  · intro h
    cases c : byAge R with
    | nil => rfl
    | cons f fs =>
      obtain ⟨r, hr, hr2⟩ := byAge_ne (R := R) (by rw [c]; simp)
      exact absurd (h r hr) hr2
theorem firstOf_some {pc : Str} : ∀ {r : Row} {k n : Nat}, firstOf pc k r = some n → ∃ j g, n = k + j ∧ r[j]? = some g ∧ g.parcel = pc
  | g :: r, k, n, h => by
    rw [firstOf] at h
    split at h
    · cases h
      exact ⟨0, g, rfl, rfl, by assumption⟩
    · obtain ⟨j, g', h1, h2, h3⟩ := firstOf_some h
      exact ⟨j + 1, g', by omega, by simpa using h2, h3⟩
theorem firstOf_is {pc : Str} : ∀ {r : Row} {k : Nat}, (firstOf pc k r).isSome = r.any fun g => g.parcel == pc
  | [], k => rfl
  | g :: r, k => by
    rw [firstOf, List.any_cons]
    by_cases h : g.parcel = pc
    · rw [if_pos h]; simp [h]
    · rw [if_neg h, firstOf_is]; simp [h]
theorem meets_eq (R : List Row) (pc : Str) : meets R pc = (pc != "" && R.all fun r => r.any fun g => g.parcel == pc) := by
  unfold meets numbers
  rw [List.all_map]
  congr 2
  funext r
  exact firstOf_is
theorem metGo_cases (R : List Row) : ∀ xs : List Fd, (∃ f ∈ xs, meets R f.good.parcel = true ∧ metGo R xs = spotsFrom 0 (numbers R f.good.parcel)) ∨ ((∀ f ∈ xs, meets R f.good.parcel = false) ∧ metGo R xs = [])
  | [] => .inr ⟨fun f hf => (by cases hf), rfl⟩
  | f :: fs => by
    by_cases h : meets R f.good.parcel = true
    · exact .inl ⟨f, by simp, h, by rw [metGo, if_pos h]⟩
    · rcases metGo_cases R fs with ⟨g, h1, h2, h3⟩ | ⟨h1, h2⟩
      · exact .inl ⟨g, by simp [h1], h2, by rw [metGo, if_neg h, h3]⟩
      · refine .inr ⟨fun g hg => ?_, by rw [metGo, if_neg h, h2]⟩
        rcases List.mem_cons.mp hg with rfl | hg
        · simpa using h
        · exact h1 g hg
def metSpot (pc : Str) (p : Row × Nat) : Int × Int := ((p.2 : Int), (((firstOf pc 0 p.1).getD 0 : Nat) : Int))
theorem spotsFrom_zip (pc : Str) : ∀ (R : List Row) (k : Nat), spotsFrom k (numbers R pc) = (R.zipIdx k).map (metSpot pc)
  | [], k => rfl
  | r :: R, k => by
    have := spotsFrom_zip pc R (k + 1)
    unfold numbers at this ⊢
    rw [List.map_cons, spotsFrom, List.zipIdx_cons, List.map_cons, this]
    rfl
theorem met_at {R : List Row} {pc : Str} (hm : meets R pc = true) {p : Row × Nat} (hp : p ∈ R.zipIdx) : ∃ j : Nat, ∃ g, metSpot pc p = ((p.2 : Int), (j : Int)) ∧ R[p.2]? = some p.1 ∧ p.1[j]? = some g ∧ g.parcel = pc := by
  have h1 : R[p.2]? = some p.1 := List.mem_zipIdx_iff_getElem?.mp hp
  unfold meets at hm
  obtain ⟨_, hm⟩ := Bool.and_eq_true_iff.mp hm
  have h2 := List.all_eq_true.mp hm _ (List.mem_map.mpr ⟨p.1, List.mem_of_getElem? h1, rfl⟩)
  obtain ⟨n, hn⟩ := Option.isSome_iff_exists.mp h2
  obtain ⟨j, g, e1, e2, e3⟩ := firstOf_some hn
  refine ⟨j, g, ?_, h1, e2, e3⟩
  unfold metSpot
  rw [hn, e1, Nat.zero_add]
  rfl
theorem zip_nodup (pc : Str) : ∀ (R : List Row) (k : Nat), ((R.zipIdx k).map (metSpot pc)).Nodup ∧ ∀ s ∈ (R.zipIdx k).map (metSpot pc), (k : Int) ≤ s.1
  | [], k => ⟨.nil, fun s hs => (by cases hs)⟩
  | r :: R, k => by
    obtain ⟨h1, h2⟩ := zip_nodup pc R (k + 1)
    rw [List.zipIdx_cons, List.map_cons]
    refine ⟨List.nodup_cons.mpr ⟨fun h => ?_, h1⟩, fun s hs => ?_⟩
    · have := h2 _ h
      unfold metSpot at this
      simp only at this
      omega
    · rcases List.mem_cons.mp hs with rfl | hs
      · exact Int.le_refl _
      · have := h2 s hs
        omega
def anyMeet (R : List Row) : Bool := (R.getD 0 []).any fun g => meets R g.parcel
def nd (ru : Rule) (R : List Row) (now : Int) : Bool := match byAge R with
  | [] => true
  | f :: _ => match ru with
    | .gather m a => decide ((total R : Int) < m) && decide (now - f.since < a)
    | .meet => !anyMeet R
    | _ => false
def MostOk : Rule → Prop
  | .many m => 1 ≤ m
  | .gather m _ => 1 ≤ m
  | _ => True
theorem turnGo_at {R : List Row} {sh : List Int} {q : Nat} {d : Int} : ∀ {f p : Nat} {c : Int}, turnGo R sh f p c = some (q, d) → R.getD q [] ≠ []
  | f + 1, p, c, h => by
    rw [turnGo] at h
    split at h
    · exact turnGo_at h
    · rename_i n
      cases h
      intro e
      exact n (.inl (by rw [e]; rfl))
theorem row_of {R : List Row} {q : Nat} (h : R.getD q [] ≠ []) : ∃ r g, R[q]? = some r ∧ r[0]? = some g := by
  cases e : R[q]? with
  | none => exact absurd (by simp [List.getD_eq_getElem?_getD, e]) h
  | some r =>
    have : R.getD q [] = r := by simp [List.getD_eq_getElem?_getD, e]
    rw [this] at h
    cases r with
    | nil => exact absurd rfl h
    | cons g r => exact ⟨_, g, rfl, rfl⟩
theorem load_turns {sh : List Int} {R : List Row} {t : Nat × Int} (ok : RowsOk (.turns sh) R t) {f : Fd} {fs : List Fd} (hb : byAge R = f :: fs) (now : Int) : ∃ (q : Nat) (t' : Nat × Int), load (.turns sh) R t now = ([((q : Int), 0)], t') ∧ ∃ r g, R[q]? = some r ∧ r[0]? = some g := by
  obtain ⟨fu, _, h3⟩ := (ok.tn sh rfl).2.2 (by rw [hb]; simp)
  obtain ⟨⟨p, c⟩, hg⟩ := Option.isSome_iff_exists.mp h3
  refine ⟨p, (p, c + 1), ?_, row_of (turnGo_at hg)⟩
  have := turnEnd_of hg
  simp only [load, hb, this]
theorem minPlace_mem (f : Fd) (fs : List Fd) : ∃ g ∈ f :: fs, minPlace (f :: fs) = g.place := by
  show ∃ g ∈ f :: fs, mnL f.place (fs.map Fd.place) = g.place
  rcases mnL_mem (fs.map Fd.place) f.place with h | h
  · exact ⟨f, by simp, h⟩
  · obtain ⟨g, hg, e⟩ := List.mem_map.mp h
    exact ⟨g, by simp [hg], e.symm⟩
theorem load_rank {b : Option Int} {R : List Row} {t : Nat × Int} (hr : Rising R) {f : Fd} {fs : List Fd} (hb : byAge R = f :: fs) (now : Int) : ∃ q : Nat, load (.rank b) R t now = ([((q : Int), 0)], t) ∧ ∃ r g, R[q]? = some r ∧ r[0]? = some g := by
  have old : ∃ q : Nat, f.spot = ((q : Int), 0) ∧ ∃ r g, R[q]? = some r ∧ r[0]? = some g := by
    obtain ⟨_, i, j, h1, h2, r, h3, h4⟩ := at_of (show f ∈ byAge R by rw [hb]; simp)
    have h0 := head_first hr hb
    have : j = 0 := by omega
    subst this
    exact ⟨i, by rw [Fd.spot, h1, h0], r, _, h3, h4⟩
  have new : ∃ q : Nat, minPlace (f :: fs) = (q : Int) ∧ ∃ r g, R[q]? = some r ∧ r[0]? = some g := by
    obtain ⟨g, hg, e⟩ := minPlace_mem f fs
    obtain ⟨_, i, j, h1, h2, r, h3, h4⟩ := at_of (show g ∈ byAge R by rw [hb]; exact hg)
    refine ⟨i, by rw [e, h1], r, ?_⟩
    cases r with
    | nil => simp at h4
    | cons a r => exact ⟨a, h3, rfl⟩
  obtain ⟨q1, e1, w1⟩ := old
  obtain ⟨q2, e2, w2⟩ := new
  simp only [load, hb, rankSpots]
  cases b with
  | none => exact ⟨q2, by simp only [e2], w2⟩
  | some bb =>
    simp only
    split
    · exact ⟨q1, by rw [e1], w1⟩
    · exact ⟨q2, by rw [e2], w2⟩
/-- what eldest, many and gather take -/
theorem load_eldest {R : List Row} {t : Nat × Int} {now : Int} : load .eldest R t now = ((((byAge R).filter fun _ => true).take 1).map Fd.spot, t) := by
  rw [List.filter_eq_self.mpr fun _ _ => rfl]
  rfl
theorem load_gather {m : Nat} {a : Int} {R : List Row} {t : Nat × Int} {now : Int} {f : Fd} {fs : List Fd} (hb : byAge R = f :: fs) : load (.gather m a) R t now = (if nd (.gather m a) R now = true then [] else (((byAge R).filter fun _ => true).take m).map Fd.spot, t) := by
  have hl := len_byAge R
  simp only [load, gatherSpots, nd, hb]
  rw [hb] at hl
  have : ((f :: fs).length < m ∧ now - f.since < a) ↔ (decide ((total R : Int) < m) && decide (now - f.since < a)) = true := by
    rw [hl]; simp
  rw [List.filter_eq_self.mpr fun _ _ => rfl]
  simp only [this]
theorem load_many {m : Nat} {R : List Row} {t : Nat × Int} {now : Int} {f : Fd} {fs : List Fd} (hb : byAge R = f :: fs) : load (.many m) R t now = ((((byAge R).filter fun g => g.good.kind == f.good.kind).take m).map Fd.spot, t) := by
  simp only [load, manySpots, hb]
theorem load_meet {R : List Row} {t : Nat × Int} {now : Int} (h0 : R ≠ []) {f : Fd} {fs : List Fd} (hb : byAge R = f :: fs) :
    (anyMeet R = true ∧ ∃ pc, meets R pc = true ∧ load .meet R t now = ((R.zipIdx).map (metSpot pc), t)) ∨ (anyMeet R = false ∧ load .meet R t now = ([], t)) := by
  have he : load .meet R t now = (metGo R (byAge R), t) := rfl
  rw [he]
  rcases metGo_cases R (byAge R) with ⟨g, h1, h2, h3⟩ | ⟨h1, h2⟩
  · refine .inl ⟨?_, _, h2, by rw [h3, spotsFrom_zip]⟩
    rw [meets_eq] at h2
    obtain ⟨hp, ha⟩ := Bool.and_eq_true_iff.mp h2
    obtain ⟨r0, R', rfl⟩ := List.exists_cons_of_ne_nil h0
    have := List.all_eq_true.mp ha r0 (by simp)
    obtain ⟨a, a1, a2⟩ := List.any_eq_true.mp this
    have : a.parcel = g.good.parcel := by simpa using a2
    refine List.any_eq_true.mpr ⟨a, a1, ?_⟩
    rw [meets_eq, this]
    exact h2
  · refine .inr ⟨?_, by rw [h2]⟩
    refine Bool.eq_false_iff.mpr fun h => ?_
    obtain ⟨g, g1, g2⟩ := List.any_eq_true.mp h
    obtain ⟨r0, R', rfl⟩ := List.exists_cons_of_ne_nil h0
    obtain ⟨j, hj, e⟩ := List.getElem_of_mem (show g ∈ r0 from g1)
    have := h1 _ (mem_at (R := r0 :: R') (i := 0) rfl (by rw [List.getElem?_eq_getElem hj, e]))
    rw [g2] at this
    cases this
end Pr
namespace Pr
open PySem PySem.Spec PyProof.Rows L2 VL Mr
theorem ix_rowN {R : List Row} {i : Nat} {r : Row} (h : R[i]? = some r) : ix2 (some (.frz (rowsD R))) (some (.frz (.int (i : Int)))) = some (.frz (rowD r)) :=
  ix2_l (atI_nat (by rw [List.getElem?_map, h]; rfl))
theorem ix_goodN {r : Row} {j : Nat} {g : Good} (h : r[j]? = some g) : ix2 (some (.frz (rowD r))) (some (.frz (.int (j : Int)))) = some (.frz g.d) :=
  ix2_l (atI_nat (by rw [List.getElem?_map, h]; rfl))
def goodAt (R : List Row) (s : Int × Int) : Good := ((R.getD s.1.toNat [])[s.2.toNat]?).getD ⟨0, 0, "", ""⟩
def ageOf (R : List Row) (s : Int × Int) : T3 := ((goodAt R s).since, s.1, s.2)
theorem goodAt_of {R : List Row} {i j : Nat} {r : Row} {g : Good} (h1 : R[i]? = some r) (h2 : r[j]? = some g) : goodAt R ((i : Int), (j : Int)) = g := by
  unfold goodAt
  simp [List.getD_eq_getElem?_getD, h1, h2]
theorem age_fd {R : List Row} {f : Fd} (h : f ∈ byAge R) : ageOf R f.spot = f.t3 := by
  obtain ⟨h0, i, j, h1, h2, r, h3, h4⟩ := at_of h
  unfold ageOf Fd.t3 Fd.spot
  rw [h1, h2, goodAt_of h3 h4, h0]
theorem ev_age {R : List Row} {s : Int × Int} (h : Valid R s) : f__law_age [.frz (rowsD R), .frz (spD s)] = some (.frz (triT (ageOf R s)), [.frz (rowsD R), .frz (spD s)]) := by
  obtain ⟨i, j, r, g, rfl, h3, h4⟩ := h
  have i0 : ix2 (some (.frz (spD ((i : Int), (j : Int))))) (some (.frz (.int 0))) = some (.frz (.int (i : Int))) := ix_t0
  have i1 : ix2 (some (.frz (spD ((i : Int), (j : Int))))) (some (.frz (.int 1))) = some (.frz (.int (j : Int))) := ix_t1
  have ir := ix_rowN h3
  have ig := ix_goodN h4
  have g1 : ix2 (some (.frz g.d)) (some (.frz (.int 1))) = some (.frz (.int g.since)) := ix_t1
  have fin : triT (ageOf R ((i : Int), (j : Int))) = .tup [.int g.since, .int (i : Int), .int (j : Int)] := by
    unfold ageOf triT
    rw [goodAt_of h3 h4]
  rw [fin]
  generalize rowsD R = RR at ir ⊢
  generalize spD ((i : Int), (j : Int)) = SS at i0 i1 ⊢
  refine fn2 (e := [.frz RR, .frz SS]) ?_
  show m__law_age [.frz RR, .frz SS] = _
  rw [m__law_age]
  simp only [sRet_c, eTup_c, eCons_c, takE_c, eIx_c, eC_c, eVar_c, List.getElem?_cons_succ, List.getElem?_cons_zero, rdS_frz, i0, i1, ir, ig, g1, tk1_f, eNil_c, cons2_s, tup1_s (show [O.frz (D.int g.since), O.frz (D.int (i : Int)), O.frz (D.int (j : Int))].length ≤ 1000 by simp), mkT3, rt1_s]
theorem cl_age {R : List Row} {s : Int × Int} (h : Valid R s) : cl 2 f__law_age (some [.frz (rowsD R), .frz (spD s)]) = some (.frz (triT (ageOf R s))) := cl2 (ev_age h)
theorem tis_sp (S : List (Int × Int)) : D.tis (S.map spD) = some (S.map fun s => [s.1, s.2]) := by
  induction S with
  | nil => rfl
  | cons s S ih =>
    rw [List.map_cons, List.map_cons]
    show D.tis (.tup [.int s.1, .int s.2] :: S.map spD) = _
    simp [D.tis, D.ints, ih]
theorem chain2 {mb mc : Em} {env : VL.Env} {i n : Int} (h1 : mb env = some (.frz (.int i))) (h2 : mc env = some (.frz (.int n))) (d1 : decide (0 ≤ i) = true) (d2 : decide (i < n) = true) :
    eChain (sc2 (gB fun i j => decide (i ≤ j))) (sc2 (gB fun i j => decide (i < j))) (eC (.int 0)) mb mc env = some (.frz (.bl true)) := by
  unfold eChain
  simp [h1, h2, d1, d2, eC]
theorem stands_loop (R : List Row) (SL : D) (hR : R.length ≤ 1000) : ∀ (S : List (Int × Int)) (x2 : SV), plS x2 = true → (∀ s ∈ S, Valid R s) → ∃ y2 : SV, plS y2 = true ∧ loop (gNm 2) b0__law_stands (S.map spD) [.frz (rowsD R), .frz SL, x2] = some (.nx [.frz (rowsD R), .frz SL, y2])
  | [], x2, h2, _ => ⟨x2, h2, by simp⟩
  | s :: S, x2, h2, hv => by
    obtain ⟨y2, g2, e⟩ := stands_loop R SL hR S (.frz (spD s)) rfl fun x hx => hv x (by simp [hx])
    refine ⟨y2, g2, ?_⟩
    obtain ⟨i, j, r, g, rfl, h3, h4⟩ := hv s (by simp)
    have i0 : ix2 (some (.frz (spD ((i : Int), (j : Int))))) (some (.frz (.int 0))) = some (.frz (.int (i : Int))) := ix_t0
    have i1 : ix2 (some (.frz (spD ((i : Int), (j : Int))))) (some (.frz (.int 1))) = some (.frz (.int (j : Int))) := ix_t1
    have ir := ix_rowN h3
    have lr : oLen (.frz (rowsD R)) = some (.frz (.int (R.length : Int))) := by
      show oLen (.frz (.lst (R.map rowD))) = _
      rw [oLen_l, List.length_map]
    have lw : oLen (.frz (rowD r)) = some (.frz (.int (r.length : Int))) := by
      show oLen (.frz (.lst (r.map Good.d))) = _
      rw [oLen_l, List.length_map]
    have ls : oLen (.frz (spD ((i : Int), (j : Int)))) = some (.frz (.int 2)) := oLen_t
    have hi := (List.getElem?_eq_some_iff.mp h3).1
    have hj := (List.getElem?_eq_some_iff.mp h4).1
    have is : isi1 "tuple" (some (.frz (spD ((i : Int), (j : Int))))) = some (.frz (.bl true)) := isi1_tt
    have tg : gNm 2 (.frz (spD ((i : Int), (j : Int)))) [.frz (rowsD R), .frz SL, x2] = some [.frz (rowsD R), .frz SL, .frz (spD ((i : Int), (j : Int)))] := by
      simp [h2, io_pl h2]
    rw [List.map_cons, loop_cons]
    generalize rowsD R = RR at ir lr tg e ⊢
    generalize spD ((i : Int), (j : Int)) = SS at i0 i1 ls is tg e ⊢
    generalize rowD r = RW at ir lw
    have d1 : decide ((0 : Int) ≤ (i : Int)) = true := decide_eq_true (by omega)
    have d2 : decide ((i : Int) < (R.length : Int)) = true := decide_eq_true (by omega)
    have d3 : decide ((0 : Int) ≤ (j : Int)) = true := decide_eq_true (by omega)
    have d4 : decide ((j : Int) < (r.length : Int)) = true := decide_eq_true (by omega)
    have st : b0__law_stands [.frz RR, .frz SL, .frz SS] = some (.nx [.frz RR, .frz SL, .frz SS]) := by
      have c1 : eChain (sc2 (gB fun i j => decide (i ≤ j))) (sc2 (gB fun i j => decide (i < j))) (eC (.int 0)) (eIx (eVar 2) (eC (.int 0))) (frzE (eOpN (n1 oLen) (eCons (eVar 0) eNil))) [.frz RR, .frz SL, .frz SS] = some (.frz (.bl true)) := by
        have l : frzE (eOpN (n1 oLen) (eCons (eVar 0) eNil)) [.frz RR, .frz SL, .frz SS] = some (.frz (.int (R.length : Int))) := by simp [lr]
        have m : eIx (eVar 2) (eC (.int 0)) [.frz RR, .frz SL, .frz SS] = some (.frz (.int (i : Int))) := by simp [i0]
        exact chain2 m l d1 d2
      have c2 : eChain (sc2 (gB fun i j => decide (i ≤ j))) (sc2 (gB fun i j => decide (i < j))) (eC (.int 0)) (eIx (eVar 2) (eC (.int 1))) (frzE (eOpN (n1 oLen) (eCons (eIx (eVar 0) (eIx (eVar 2) (eC (.int 0)))) eNil))) [.frz RR, .frz SL, .frz SS] = some (.frz (.bl true)) := by
        have l : frzE (eOpN (n1 oLen) (eCons (eIx (eVar 0) (eIx (eVar 2) (eC (.int 0)))) eNil)) [.frz RR, .frz SL, .frz SS] = some (.frz (.int (r.length : Int))) := by simp [i0, ir, lw]
        have m : eIx (eVar 2) (eC (.int 1)) [.frz RR, .frz SL, .frz SS] = some (.frz (.int (j : Int))) := by simp [i1]
        exact chain2 m l d3 d4
      simp [b0__law_stands, is, ls, c1, c2]
    rw [tg, bdE_s, st, lp2_n, e]
theorem ev_stands {R : List Row} {S : List (Int × Int)} (hR : R.length ≤ 1000) (hv : ∀ s ∈ S, Valid R s) (hn : S.Nodup) (hl : S.length < 64) :
    f__law_stands [.frz (rowsD R), .frz (.lst (S.map spD))] = some (.frz (.bl true), [.frz (rowsD R), .frz (.lst (S.map spD))]) := by
  obtain ⟨y2, g2, e⟩ := stands_loop R (.lst (S.map spD)) hR S .dead rfl hv
  have ls : eLenSetT (eVar 1) [.frz (rowsD R), .frz (.lst (S.map spD)), y2] = some (.frz (.int (S.length : Int))) := by
    unfold eLenSetT
    simp only [eVar_c, List.getElem?_cons_succ, List.getElem?_cons_zero, rdS_frz, Option.bind_some, litems_f, tis_sp]
    rw [if_pos, List.length_map]
    refine ⟨by rw [List.length_map]; exact hl, List.pairwise_map.mpr (List.Pairwise.imp (fun {a b} h z => ?_) hn)⟩
    simp only [List.cons.injEq, and_true] at z
    exact h (Prod.ext z.1 z.2)
  have ll : oLen (.frz (.lst (S.map spD))) = some (.frz (.int (S.length : Int))) := by rw [oLen_l, List.length_map]
  have gq : gEq (.int (S.length : Int)) (.int (S.length : Int)) = some (.bl true) := by rw [gEq_ii, beq_self_eq_true]
  refine fn2 (e := [.frz (rowsD R), .frz (.lst (S.map spD)), y2]) ?_
  show m__law_stands [.frz (rowsD R), .frz (.lst (S.map spD)), .dead] = _
  rw [m__law_stands, sSeq_c, sFor_c]
  simp only [iLT_c, eVar_c, List.getElem?_cons_succ, List.getElem?_cons_zero, rdS_frz, it1_s, seqF_l, Option.some_or, lp1_s, e, thS_n]
  rw [sRet_c, eOp2_c, frzE_c, ls]
  simp only [fz1_s, toD_frz, frzE_c, eOpN_c, eCons_c, eVar_c, List.getElem?_cons_succ, List.getElem?_cons_zero, rdS_frz, eNil_c, cons2_s, bN_s, n1_s, ll, ap2_s, sc2_s, gq, fr_s, rt1_s]
theorem itEc_row (r : Row) : itE O.litems (some [.frz (rowD r)]) = some ((r.zipIdx).map fun p => D.tup [.int (p.2 : Int), p.1.d]) := by
  show some (enumD (r.map Good.d)) = _
  rw [enum_row]
theorem first_loop27 (RR : D) : ∀ (R : List Row) (k : Nat) (acc : List D) (x2 x3 : SV), plS x2 = true → plS x3 = true → acc.length + total R ≤ 100000 →
    ∃ y2 y3 : SV, plS y2 = true ∧ plS y3 = true ∧ loop (gTp 2 (gCn (gNm 2) (gCn (gNm 3) gNl))) b0__law_first_of_all ((R.zipIdx k).map fun p => D.tup [.int (p.2 : Int), rowD p.1]) [.frz RR, .frz (.lst acc), x2, x3, .dead, .dead] =
      some (.nx [.frz RR, .frz (.lst (acc ++ (flatRows k R).map tri)), y2, y3, .dead, .dead])
  | [], k, acc, x2, x3, h2, h3, _ => ⟨x2, x3, h2, h3, by simp [flatRows]⟩
  | r :: R, k, acc, x2, x3, h2, h3, hl => by
    have ht : total (r :: R) = r.length + total R := by simp [total]
    obtain ⟨y2, y3, g2, g3, e⟩ := first_loop27 RR R (k + 1) (acc ++ (flatRow k 0 r).map tri) (.frz (.int (k : Int))) (.frz (rowD r)) rfl rfl (by rw [List.length_append, List.length_map, len_flatRow]; omega)
    refine ⟨y2, y3, g2, g3, ?_⟩
    have tg : gTp 2 (gCn (gNm 2) (gCn (gNm 3) gNl)) (.frz (.tup [.int (k : Int), rowD r])) [.frz RR, .frz (.lst acc), x2, x3, .dead, .dead] = some [.frz RR, .frz (.lst acc), .frz (.int (k : Int)), .frz (rowD r), .dead, .dead] := by
      simp [h2, h3, io_pl h2, io_pl h3]
    have hc := lc1_m (m := c0__law_first_of_all) (g := gTp 2 (gCn (gNm 4) (gCn (gNm 5) gNl))) (vs := [4, 5]) (env := [.frz RR, .frz (.lst acc), .frz (.int (k : Int)), .frz (rowD r), .dead, .dead]) (fun p : Good × Nat => D.tup [.int (p.2 : Int), p.1.d]) (fun p => O.frz (.tup [.int p.1.since, .int (k : Int), .int (p.2 : Int)])) (r.zipIdx) rfl (by simp; omega) fun p _ => by
      have g1 : ix2 (some (.frz p.1.d)) (some (.frz (.int 1))) = some (.frz (.int p.1.since)) := ix_t1
      refine ⟨[.frz RR, .frz (.lst acc), .frz (.int (k : Int)), .frz (rowD r), .frz (.int (p.2 : Int)), .frz p.1.d], by simp, ?_⟩
      rw [c0__law_first_of_all]
      simp only [eTup_c, eCons_c, takE_c, eIx_c, eC_c, eVar_c, List.getElem?_cons_succ, List.getElem?_cons_zero, rdS_frz, g1, tk1_f, eNil_c, cons2_s, tup1_s (show [O.frz (D.int p.1.since), O.frz (D.int (k : Int)), O.frz (D.int (p.2 : Int))].length ≤ 1000 by simp), mkT3]
    have fin : (O.lst ((r.zipIdx).map fun p => O.frz (.tup [.int p.1.since, .int (k : Int), .int (p.2 : Int)]))).toD = .lst ((flatRow k 0 r).map tri) := by
      rw [flatRow_zip, List.map_map, toD_lst, List.map_map]
      rfl
    have ad := oAdd_ll (xs := acc) (ys := (flatRow k 0 r).map tri) (by rw [List.length_map, len_flatRow]; omega)
    have ir := itEc_row r
    have st : b0__law_first_of_all [.frz RR, .frz (.lst acc), .frz (.int (k : Int)), .frz (rowD r), .dead, .dead] = some (.nx [.frz RR, .frz (.lst (acc ++ (flatRow k 0 r).map tri)), .frz (.int (k : Int)), .frz (rowD r), .dead, .dead]) := by
      rw [b0__law_first_of_all]
      simp only [sSet_c, takE_c, frzE_c, eOp2_c, eLcN_c, iEc_c, eCons_c, eVar_c, List.getElem?_cons_succ, List.getElem?_cons_zero, rdS_frz, eNil_c, cons2_s, ir, hc, fz1_s, fin, ap2_s, ad, toD_newL, tk1_f, st1_e, slot_f]
      rfl
    rw [List.zipIdx_cons, List.map_cons, loop_cons, tg, bdE_s, st, lp2_n, e, flatRows]
    simp
theorem ev_first_all {R : List Row} {f : Fd} {fs : List Fd} (hb : byAge R = f :: fs) (ht : total R ≤ 100000) : f__law_first_of_all [.frz (rowsD R)] = some (.frz (tri f), [.frz (rowsD R)]) := by
  obtain ⟨y2, y3, g2, g3, e⟩ := first_loop27 (rowsD R) R 0 [] .dead .dead rfl rfl (by simpa using ht)
  rw [List.nil_append] at e
  have er : itE seqF (some [.frz (rowsD R)]) = some ((R.zipIdx).map fun p => D.tup [.int (p.2 : Int), rowD p.1]) := by
    show some (enumD (R.map rowD)) = _
    rw [enum_rows]
  have mn : oMin3 (.frz (.lst ((flatRows 0 R).map tri))) = some (.frz (tri f)) := by
    unfold oMin3
    have e3 : (flatRows 0 R).map tri = ((flatRows 0 R).map Fd.t3).map triT := by rw [List.map_map]; rfl
    rw [litems_f, Option.bind_some, e3, t3s_map, Option.bind_some]
    cases hx : (flatRows 0 R).map Fd.t3 with
    | nil =>
      have := len_byAge R
      rw [hb] at this
      have l2 := congrArg List.length hx
      rw [List.length_map, len_flatRows] at l2
      simp at this l2
      omega
    | cons x xs =>
      show some (O.frz (triT (min3 x xs))) = _
      rw [min3_head hb hx]; rfl
  generalize rowsD R = RR at e er ⊢
  refine fn1 (e := [.frz RR, .frz (.lst ((flatRows 0 R).map tri)), y2, y3, .dead, .dead]) ?_
  show m__law_first_of_all [.frz RR, .dead, .dead, .dead, .dead, .dead] = _
  have s0 : sSet 1 (takE (frzE (eLst eNil))) [.frz RR, .dead, .dead, .dead, .dead, .dead] = some (.nx [.frz RR, .frz (.lst []), .dead, .dead, .dead, .dead]) := by simp
  rw [m__law_first_of_all, sSeq_c, s0, thS_n, sSeq_c, sFor_c]
  simp only [iE_c, eCons_c, eVar_c, List.getElem?_cons_succ, List.getElem?_cons_zero, rdS_frz, eNil_c, cons2_s, er, lp1_s, e, thS_n, sRet_c, eOpN_c, bN_s, n1_s, mn, rt1_s]
theorem cl_first_all {R : List Row} {f : Fd} {fs : List Fd} (hb : byAge R = f :: fs) (ht : total R ≤ 100000) : cl 1 f__law_first_of_all (some [.frz (rowsD R)]) = some (.frz (tri f)) := cl1 (ev_first_all hb ht)
end Pr
namespace Pr
open PySem PySem.Spec PyProof.Rows L2 VL Mr
theorem nonempty_nil (R : List Row) : (R.filter fun r => !r.isEmpty) = [] ↔ byAge R = [] := by
  rw [byAge_nil, List.filter_eq_nil_iff]
  constructor
  · intro h r hr
    have := h r hr
    cases r with
    | nil => rfl
    | cons _ _ => simp at this
  · intro h r hr
    rw [h r hr]; simp
theorem total_sum (R : List Row) : (R.map fun r => (r.length : Int)).sum = (total R : Int) := by
  induction R with
  | nil => rfl
  | cons r R ih =>
    have : total (r :: R) = r.length + total R := by simp [total]
    rw [List.map_cons, List.sum_cons, ih, this]
    omega
theorem parc_any (r : Row) (pc : Str) : oIn false (.frz (.str pc)) (.frz (.lst (r.map fun g => D.str g.parcel))) = some (.frz (.bl (r.any fun g => g.parcel == pc))) := by
  have := oIn_l (neg := false) (f := fun g : Good => D.str g.parcel) (P := fun g => g.parcel == pc) (d := .str pc) (x := .str pc) (ys := r) rfl (by rw [PyData.depth]; omega) fun g _ => ⟨.str g.parcel, rfl, by simp [PyData.eqv]⟩
  rw [this, Bool.false_xor]
theorem meet_loop (RU NW : D) (R : List Row) (hR : R.length ≤ 1000) (hl : ∀ r ∈ R, r.length ≤ 100000) : ∀ (gs : Row) (x3 : SV), plS x3 = true →
    ∃ e : VL.Env, loop (gNm 3) b0__law_none_due (gs.map Good.d) [.frz RU, .frz (rowsD R), .frz NW, x3, .dead, .dead] =
      if (gs.any fun g => meets R g.parcel) = true then some (.ret (.frz (.bl false)) (.frz RU :: e)) else some (.nx (.frz RU :: e))
  | [], x3, h3 => ⟨[.frz (rowsD R), .frz NW, x3, .dead, .dead], by simp⟩
  | g :: gs, x3, h3 => by
    obtain ⟨e, ih⟩ := meet_loop RU NW R hR hl gs (.frz g.d) rfl
    have tg : gNm 3 (.frz g.d) [.frz RU, .frz (rowsD R), .frz NW, x3, .dead, .dead] = some [.frz RU, .frz (rowsD R), .frz NW, .frz g.d, .dead, .dead] := by
      simp [h3, io_pl h3]
    have i3 : ix2 (some (.frz g.d)) (some (.frz (.int 3))) = some (.frz (.str g.parcel)) := ix_t3
    have hc := lc1_m (m := c2__law_none_due) (g := gNm 4) (vs := [4]) (env := [.frz RU, .frz (rowsD R), .frz NW, .frz g.d, .dead, .dead]) rowD (fun r => O.frz (.bl (r.any fun h => h.parcel == g.parcel))) R rfl (by omega) fun r hr => by
      have hc3 := lc1_m (m := c3__law_none_due) (g := gNm 5) (vs := [5]) (env := [.frz RU, .frz (rowsD R), .frz NW, .frz g.d, .frz (rowD r), .dead]) Good.d (fun h => O.frz (.str h.parcel)) r rfl (hl r hr) fun h _ => by
        have i3' : ix2 (some (.frz h.d)) (some (.frz (.int 3))) = some (.frz (.str h.parcel)) := ix_t3
        refine ⟨[.frz RU, .frz (rowsD R), .frz NW, .frz g.d, .frz (rowD r), .frz h.d], by simp, ?_⟩
        rw [c3__law_none_due]
        simp only [takE_c, eIx_c, eC_c, eVar_c, List.getElem?_cons_succ, List.getElem?_cons_zero, rdS_frz, i3', tk1_f]
      have lr : (O.frz (rowD r)).litems = some (r.map Good.d) := rfl
      have fin : (O.lst (r.map fun h => O.frz (.str h.parcel))).toD = .lst (r.map fun h => D.str h.parcel) := by
        rw [toD_lst, List.map_map]
        exact congrArg D.lst (List.map_congr_left fun _ _ => toD_frz)
      have pa := parc_any r g.parcel
      refine ⟨[.frz RU, .frz (rowsD R), .frz NW, .frz g.d, .frz (rowD r), .dead], by simp, ?_⟩
      rw [c2__law_none_due]
      simp only [eOp2_c, eIx_c, eC_c, eVar_c, List.getElem?_cons_succ, List.getElem?_cons_zero, rdS_frz, i3, frzE_c, eLcN_c, iLTc_c, it1_s, lr, Option.some_or, hc3, fz1_s, fin, ap2_s, pa]
    have lR : (O.frz (rowsD R)).litems = some (R.map rowD) := rfl
    have fin : (O.lst (R.map fun r => O.frz (.bl (r.any fun h => h.parcel == g.parcel)))).toD = .lst ((R.map fun r => r.any fun h => h.parcel == g.parcel).map D.bl) := by
      rw [toD_lst, List.map_map, List.map_map]
      exact congrArg D.lst (List.map_congr_left fun _ _ => toD_frz)
    have oa : oAll (.frz (.lst ((R.map fun r => r.any fun h => h.parcel == g.parcel).map D.bl))) = some (.frz (.bl (R.all fun r => r.any fun h => h.parcel == g.parcel))) := by
      unfold oAll
      rw [oBls_l, Option.map_some, List.all_map]; rfl
    have ne : gNe (.str g.parcel) (.str "") = some (.bl (g.parcel != "")) := gNe_ss
    have te : tAnd2 (tst (eOp2 (sc2 gNe) (eIx (eVar 3) (eC (.int 3))) (eC (.str "")))) (tru (frzE (eOpN (n1 oAll) (eCons (frzE (eLcN (iLTc (eVar 1)) [4] (gNm 4) yesT c2__law_none_due)) eNil)))) [.frz RU, .frz (rowsD R), .frz NW, .frz g.d, .dead, .dead] = some (meets R g.parcel) := by
      have h1 : tst (eOp2 (sc2 gNe) (eIx (eVar 3) (eC (.int 3))) (eC (.str ""))) [.frz RU, .frz (rowsD R), .frz NW, .frz g.d, .dead, .dead] = some (g.parcel != "") := by
        simp only [tst_c, eOp2_c, eIx_c, eC_c, eVar_c, List.getElem?_cons_succ, List.getElem?_cons_zero, rdS_frz, i3, ap2_s, sc2_s, toD_frz, ne, fr_s, tst1_b]
      rw [tAnd2_c, h1, meets_eq]
      refine and2_b ?_
      simp only [tru_c, frzE_c, eOpN_c, eCons_c, eLcN_c, iLTc_c, eVar_c, List.getElem?_cons_succ, List.getElem?_cons_zero, rdS_frz, it1_s, lR, Option.some_or, hc, fz1_s, fin, eNil_c, cons2_s, bN_s, n1_s, oa, toD_frz, tru1_b]
    rw [List.map_cons, loop_cons, tg, bdE_s, List.any_cons]
    have st : b0__law_none_due [.frz RU, .frz (rowsD R), .frz NW, .frz g.d, .dead, .dead] = if meets R g.parcel = true then some (.ret (.frz (.bl false)) [.frz RU, .frz (rowsD R), .frz NW, .frz g.d, .dead, .dead]) else some (.nx [.frz RU, .frz (rowsD R), .frz NW, .frz g.d, .dead, .dead]) := by
      rw [b0__law_none_due, sIf_c, te]
      cases meets R g.parcel with
      | true => rw [if1_t, if_pos rfl]; simp only [sRet_c, takE_c, eC_c, tk1_f, rt1_s]
      | false => rw [if1_f, if_neg Bool.false_ne_true, sNx_c]
    rw [st]
    by_cases hm : meets R g.parcel = true
    · refine ⟨[.frz (rowsD R), .frz NW, .frz g.d, .dead, .dead], ?_⟩
      rw [if_pos hm, lp2_r, hm, Bool.true_or, if_pos rfl]
    · refine ⟨e, ?_⟩
      have hm' : meets R g.parcel = false := by simpa using hm
      rw [if_neg hm, lp2_n, ih, hm', Bool.false_or]
theorem name_of (ru : Rule) : ∃ (w : Str) (rest : List D), ru.ds = .str w :: rest ∧ ((∃ m a, ru = .gather m a ∧ w = "gather") ∨ (ru = .meet ∧ w = "meet") ∨ ((∀ m a, ru ≠ .gather m a) ∧ ru ≠ .meet ∧ w ≠ "gather" ∧ w ≠ "meet")) := by
  cases ru with
  | gather m a => exact ⟨"gather", _, rfl, .inl ⟨m, a, rfl, rfl⟩⟩
  | meet => exact ⟨"meet", _, rfl, .inr (.inl ⟨rfl, rfl⟩)⟩
  | turns sh => exact ⟨"turns", _, rfl, .inr (.inr ⟨fun _ _ => (by simp), by simp, by simp, by simp⟩)⟩
  | eldest => exact ⟨"eldest", _, rfl, .inr (.inr ⟨fun _ _ => (by simp), by simp, by simp, by simp⟩)⟩
  | rank b => exact ⟨"rank", _, rfl, .inr (.inr ⟨fun _ _ => (by simp), by simp, by simp, by simp⟩)⟩
  | many m => exact ⟨"many", _, rfl, .inr (.inr ⟨fun _ _ => (by simp), by simp, by simp, by simp⟩)⟩
theorem len_le_total {R : List Row} {r : Row} (h : r ∈ R) : r.length ≤ total R := by
  induction R with
  | nil => cases h
  | cons a R ih =>
    have : total (a :: R) = a.length + total R := by simp [total]
    rcases List.mem_cons.mp h with rfl | h
    · omega
    · have := ih h; omega
theorem ev_none_due (ru : Rule) (R : List Row) (now : Int) (h0 : R ≠ []) (ht : total R ≤ 100000) (hR : R.length ≤ 1000) :
    ∃ svs, f__law_none_due [.frz (.tup ru.ds), .frz (rowsD R), .frz (.int now)] = some (.frz (.bl (nd ru R now)), svs) := by
  have hl : ∀ r ∈ R, r.length ≤ 100000 := fun r hr => by have := len_le_total hr; omega
  obtain ⟨w, rest, hw, wc⟩ := name_of ru
  have hc := lc1_fm (m := c0__law_none_due) (t := ct0__law_none_due) (g := gNm 4) (vs := [4]) (env := [.frz (.tup ru.ds), .frz (rowsD R), .frz (.int now), .dead, .dead, .dead]) rowD (fun r => !r.isEmpty) (fun r => O.frz (rowD r)) R rfl (by omega) fun r hr => by
    have ne : gNe (rowD r) (.lst []) = some (.bl (!r.isEmpty)) := by
      have := gNe_nil (ds := r.map Good.d) (.map fun g _ => g.py)
      rw [List.isEmpty_map] at this
      exact this
    have lt0 : (O.lst []).toD = .lst [] := rfl
    refine ⟨[.frz (.tup ru.ds), .frz (rowsD R), .frz (.int now), .dead, .frz (rowD r), .dead], by simp, ?_, fun _ => ?_⟩
    · rw [ct0__law_none_due]
      simp only [tst_c, eOp2_c, eVar_c, frzE_c, eLst_c, eNil_c, lst1_s (show ([] : List O).length ≤ 1000 by simp), fz1_s, lt0, List.getElem?_cons_succ, List.getElem?_cons_zero, rdS_frz, ap2_s, sc2_s, toD_frz, ne, fr_s, tst1_b]
    · rw [c0__law_none_due]
      simp only [takE_c, eVar_c, List.getElem?_cons_succ, List.getElem?_cons_zero, rdS_frz, tk1_f]
  have lR : (O.frz (rowsD R)).litems = some (R.map rowD) := rfl
  have fin : (O.lst ((R.filter fun r => !r.isEmpty).map fun r => O.frz (rowD r))).toD = .lst ((R.filter fun r => !r.isEmpty).map rowD) := by
    rw [toD_lst, List.map_map]
    exact congrArg D.lst (List.map_congr_left fun _ _ => toD_frz)
  have ge : gEq (.lst ((R.filter fun r => !r.isEmpty).map rowD)) (.lst []) = some (.bl (decide (byAge R = []))) := by
    have := gEq_nil (ds := (R.filter fun r => !r.isEmpty).map rowD) (.map fun r _ => row_py r)
    rw [this, List.isEmpty_map]
    congr 2
    cases hf : R.filter fun r => !r.isEmpty with
    | nil => rw [decide_eq_true ((nonempty_nil R).mp hf)]; rfl
    | cons a b => rw [decide_eq_false fun z => by rw [(nonempty_nil R).mpr z] at hf; cases hf]; rfl
  have lt0 : (O.lst []).toD = .lst [] := rfl
  have s0 : sIf (tst (eOp2 (sc2 gEq) (frzE (eLcN (iLTc (eVar 1)) [4] (gNm 4) ct0__law_none_due c0__law_none_due)) (frzE (eLst eNil)))) (sRet (takE (eC (.bl true)))) sNx [.frz (.tup ru.ds), .frz (rowsD R), .frz (.int now), .dead, .dead, .dead] = if byAge R = [] then some (.ret (.frz (.bl true)) [.frz (.tup ru.ds), .frz (rowsD R), .frz (.int now), .dead, .dead, .dead]) else some (.nx [.frz (.tup ru.ds), .frz (rowsD R), .frz (.int now), .dead, .dead, .dead]) := by
    rw [sIf_c]
    simp only [tst_c, eOp2_c, frzE_c, eLcN_c, iLTc_c, eVar_c, List.getElem?_cons_succ, List.getElem?_cons_zero, rdS_frz, it1_s, lR, Option.some_or, hc, fz1_s, fin, eLst_c, eNil_c, lst1_s (show ([] : List O).length ≤ 1000 by simp), lt0, ap2_s, sc2_s, toD_frz, ge, fr_s, tst1_b]
    by_cases z : byAge R = []
    · rw [decide_eq_true z, if1_t, if_pos z]; simp only [sRet_c, takE_c, eC_c, tk1_f, rt1_s]
    · rw [decide_eq_false z, if1_f, if_neg z, sNx_c]
  have i0 : ix2 (some (.frz (.tup ru.ds))) (some (.frz (.int 0))) = some (.frz (.str w)) := by rw [hw]; exact ix_t0
  cases hb : byAge R with
  | nil =>
    rw [if_pos hb] at s0
    refine ⟨_, fn3 (e := [.frz (.tup ru.ds), .frz (rowsD R), .frz (.int now), .dead, .dead, .dead]) ?_⟩
    show m__law_none_due [.frz (.tup ru.ds), .frz (rowsD R), .frz (.int now), .dead, .dead, .dead] = _
    rw [m__law_none_due, sSeq_c, s0, thS_r]
    unfold nd
    rw [hb]
  | cons f fs =>
    rw [if_neg (by rw [hb]; simp)] at s0
    rcases wc with ⟨m, a, rfl, rfl⟩ | ⟨rfl, rfl⟩ | ⟨w1, w2, w3, w4⟩
    · -- gather
      have i1 : ix2 (some (.frz (.tup (Rule.gather m a).ds))) (some (.frz (.int 1))) = some (.frz (.int (m : Int))) := ix_t1
      have i2 : ix2 (some (.frz (.tup (Rule.gather m a).ds))) (some (.frz (.int 2))) = some (.frz (.int a)) := ix_t2
      have gq : gEq (.str "gather") (.str "gather") = some (.bl true) := by rw [gEq_ss, beq_self_eq_true]
      have cf := cl_first_all hb ht
      have f0 : ix2 (some (.frz (tri f))) (some (.frz (.int 0))) = some (.frz (.int f.since)) := ix_t0
      have hc1 := lc1_m (m := c1__law_none_due) (g := gNm 4) (vs := [4]) (env := [.frz (.tup (Rule.gather m a).ds), .frz (rowsD R), .frz (.int now), .dead, .dead, .dead]) rowD (fun r => O.frz (.int (r.length : Int))) R rfl (by omega) fun r hr => by
        have lr : oLen (.frz (rowD r)) = some (.frz (.int (r.length : Int))) := by
          show oLen (.frz (.lst (r.map Good.d))) = _
          rw [oLen_l, List.length_map]
        refine ⟨[.frz (.tup (Rule.gather m a).ds), .frz (rowsD R), .frz (.int now), .dead, .frz (rowD r), .dead], by simp, ?_⟩
        rw [c1__law_none_due]
        simp only [eOpN_c, eCons_c, eVar_c, List.getElem?_cons_succ, List.getElem?_cons_zero, rdS_frz, eNil_c, cons2_s, bN_s, n1_s, lr]
      have fin1 : (O.lst (R.map fun r => O.frz (.int (r.length : Int)))).toD = .lst ((R.map fun r => (r.length : Int)).map D.int) := by
        rw [toD_lst, List.map_map, List.map_map]
        exact congrArg D.lst (List.map_congr_left fun _ _ => toD_frz)
      have os : oSum (.frz (.lst ((R.map fun r => (r.length : Int)).map D.int))) = some (.frz (.int (total R : Int))) := by
        unfold oSum
        rw [oNums_l, Option.map_some, total_sum]
      have nde : nd (.gather m a) R now = (decide ((total R : Int) < m) && decide (now - f.since < a)) := by
        unfold nd
        rw [hb]
      refine ⟨_, fn3 (e := [.frz (.tup (Rule.gather m a).ds), .frz (rowsD R), .frz (.int now), .dead, .dead, .dead]) ?_⟩
      show m__law_none_due [.frz (.tup (Rule.gather m a).ds), .frz (rowsD R), .frz (.int now), .dead, .dead, .dead] = _
      rw [m__law_none_due, sSeq_c, s0, thS_n, sSeq_c, sIf_c]
      simp only [tst_c, eOp2_c, eIx_c, eC_c, eVar_c, List.getElem?_cons_succ, List.getElem?_cons_zero, rdS_frz, i0, ap2_s, sc2_s, toD_frz, gq, fr_s, tst1_b, if1_t]
      have e1 : frzE (eOp2 (sc2 (gB fun i j => decide (i < j))) (frzE (eOpN (n1 oSum) (eCons (frzE (eLcN (iLTc (eVar 1)) [4] (gNm 4) yesT c1__law_none_due)) eNil))) (eIx (eVar 0) (eC (.int 1)))) [.frz (.tup (Rule.gather m a).ds), .frz (rowsD R), .frz (.int now), .dead, .dead, .dead] = some (.frz (.bl (decide ((total R : Int) < m)))) := by
        simp only [frzE_c, eOp2_c, eOpN_c, eCons_c, eLcN_c, iLTc_c, eIx_c, eC_c, eVar_c, List.getElem?_cons_succ, List.getElem?_cons_zero, rdS_frz, it1_s, lR, Option.some_or, hc1, fz1_s, fin1, eNil_c, cons2_s, bN_s, n1_s, os, i1, ap2_s, sc2_s, toD_frz, gB_i, fr_s]
      have e2 : frzE (eOp2 (sc2 (gB fun i j => decide (i < j))) (frzE (eOp2 (sc2 (gI fun i j => i - j)) (eVar 2) (eIx (frzE (eCall 1 f__law_first_of_all (eCons (eVar 1) eNil))) (eC (.int 0))))) (eIx (eVar 0) (eC (.int 2)))) [.frz (.tup (Rule.gather m a).ds), .frz (rowsD R), .frz (.int now), .dead, .dead, .dead] = some (.frz (.bl (decide (now - f.since < a)))) := by
        simp only [frzE_c, eOp2_c, eCall_c, eCons_c, eIx_c, eC_c, eVar_c, List.getElem?_cons_succ, List.getElem?_cons_zero, rdS_frz, eNil_c, cons2_s, cf, fz1_s, toD_frz, f0, i2, ap2_s, sc2_s, gI_i, gB_i, fr_s]
      rw [sRet_c, takE_c, eAnd_c, e1, eAnd1_b e2, tk1_f, rt1_s, thS_r, nde]
    · -- meet
      have gq : gEq (.str "meet") (.str "gather") = some (.bl false) := by rw [gEq_ss]; simp
      have gn : gNe (.str "meet") (.str "meet") = some (.bl false) := by rw [gNe_ss]; simp
      obtain ⟨r0, R', rfl⟩ := List.exists_cons_of_ne_nil h0
      have ir := ix_rowN (R := r0 :: R') (i := 0) rfl
      have ir : ix2 (some (.frz (rowsD (r0 :: R')))) (some (.frz (.int 0))) = some (.frz (rowD r0)) := ir
      obtain ⟨e, ml⟩ := meet_loop (.tup Rule.meet.ds) (.int now) (r0 :: R') hR hl r0 .dead rfl
      have nde : nd .meet (r0 :: R') now = !(r0.any fun g => meets (r0 :: R') g.parcel) := by
        unfold nd
        rw [hb]; rfl
      have sf : sFor (iLT (eIx (eVar 1) (eC (.int 0)))) (gNm 3) b0__law_none_due [.frz (.tup Rule.meet.ds), .frz (rowsD (r0 :: R')), .frz (.int now), .dead, .dead, .dead] = if (r0.any fun g => meets (r0 :: R') g.parcel) = true then some (.ret (.frz (.bl false)) (.frz (.tup Rule.meet.ds) :: e)) else some (.nx (.frz (.tup Rule.meet.ds) :: e)) := by
        have sl : seqF (.frz (rowD r0)) = some (r0.map Good.d) := rfl
        rw [sFor_c]
        simp only [iLT_c, eIx_c, eC_c, eVar_c, List.getElem?_cons_succ, List.getElem?_cons_zero, rdS_frz, ir, it1_s, sl, Option.some_or, lp1_s]
        exact ml
      by_cases hm : (r0.any fun g => meets (r0 :: R') g.parcel) = true
      · rw [if_pos hm] at sf
        refine ⟨_, fn3 (e := .frz (.tup Rule.meet.ds) :: e) ?_⟩
        show m__law_none_due [.frz (.tup Rule.meet.ds), .frz (rowsD (r0 :: R')), .frz (.int now), .dead, .dead, .dead] = _
        rw [m__law_none_due, sSeq_c, s0, thS_n, sSeq_c, sIf_c]
        simp only [tst_c, eOp2_c, eIx_c, eC_c, eVar_c, List.getElem?_cons_succ, List.getElem?_cons_zero, rdS_frz, i0, ap2_s, sc2_s, toD_frz, gq, fr_s, tst1_b, if1_f, sNx_c, thS_n]
        rw [sSeq_c, sIf_c]
        simp only [tst_c, eOp2_c, eIx_c, eC_c, eVar_c, List.getElem?_cons_succ, List.getElem?_cons_zero, rdS_frz, i0, ap2_s, sc2_s, toD_frz, gn, fr_s, tst1_b, if1_f, sNx_c, thS_n]
        rw [sSeq_c, sf, thS_r, nde, hm]; rfl
      · rw [if_neg hm] at sf
        refine ⟨_, fn3 (e := .frz (.tup Rule.meet.ds) :: e) ?_⟩
        show m__law_none_due [.frz (.tup Rule.meet.ds), .frz (rowsD (r0 :: R')), .frz (.int now), .dead, .dead, .dead] = _
        rw [m__law_none_due, sSeq_c, s0, thS_n, sSeq_c, sIf_c]
        simp only [tst_c, eOp2_c, eIx_c, eC_c, eVar_c, List.getElem?_cons_succ, List.getElem?_cons_zero, rdS_frz, i0, ap2_s, sc2_s, toD_frz, gq, fr_s, tst1_b, if1_f, sNx_c, thS_n]
        rw [sSeq_c, sIf_c]
        simp only [tst_c, eOp2_c, eIx_c, eC_c, eVar_c, List.getElem?_cons_succ, List.getElem?_cons_zero, rdS_frz, i0, ap2_s, sc2_s, toD_frz, gn, fr_s, tst1_b, if1_f, sNx_c, thS_n]
        rw [sSeq_c, sf, thS_n, nde]
        have hm' : (r0.any fun g => meets (r0 :: R') g.parcel) = false := by simpa using hm
        rw [hm']
        simp only [sRet_c, takE_c, eC_c, tk1_f, rt1_s]
        rfl
    · -- others
      have gq : gEq (.str w) (.str "gather") = some (.bl false) := by rw [gEq_ss, beq_eq_false_iff_ne.mpr w3]
      have gn : gNe (.str w) (.str "meet") = some (.bl true) := by
        rw [gNe_ss, show (w != "meet") = true from bne_iff_ne.mpr w4]
      have nde : nd ru R now = false := by
        unfold nd
        rw [hb]
        cases ru with
        | gather m a => exact absurd rfl (w1 m a)
        | meet => exact absurd rfl w2
        | turns _ => rfl
        | eldest => rfl
        | rank _ => rfl
        | many _ => rfl
      refine ⟨_, fn3 (e := [.frz (.tup ru.ds), .frz (rowsD R), .frz (.int now), .dead, .dead, .dead]) ?_⟩
      show m__law_none_due [.frz (.tup ru.ds), .frz (rowsD R), .frz (.int now), .dead, .dead, .dead] = _
      rw [m__law_none_due, sSeq_c, s0, thS_n, sSeq_c, sIf_c]
      simp only [tst_c, eOp2_c, eIx_c, eC_c, eVar_c, List.getElem?_cons_succ, List.getElem?_cons_zero, rdS_frz, i0, ap2_s, sc2_s, toD_frz, gq, fr_s, tst1_b, if1_f, sNx_c, thS_n]
      rw [sSeq_c, sIf_c]
      simp only [tst_c, eOp2_c, eIx_c, eC_c, eVar_c, List.getElem?_cons_succ, List.getElem?_cons_zero, rdS_frz, i0, ap2_s, sc2_s, toD_frz, gn, fr_s, tst1_b, if1_t, sRet_c, takE_c, tk1_f, rt1_s, thS_r, nde]
end Pr
namespace Pr
open PySem PySem.Spec PyProof.Rows L2 VL Mr
theorem sp_in (neg : Bool) (s : Int × Int) (S : List (Int × Int)) : oIn neg (.frz (spD s)) (.frz (.lst (S.map spD))) = some (.frz (.bl (neg ^^ decide (s ∈ S)))) := by
  have := oIn_l (neg := neg) (f := spD) (P := fun t => decide (t = s)) (d := spD s) (x := .tuple [.int s.1, .int s.2]) (ys := S) rfl (by simp [PyData.depth, PyData.depthAll]) fun t _ => ⟨.tuple [.int t.1, .int t.2], rfl, by
    have e : PyData.eqv (.tuple [.int t.1, .int t.2]) (.tuple [.int s.1, .int s.2]) = (decide (t.1 = s.1) && decide (t.2 = s.2)) := by
      simp [PyData.eqv, PyData.eqvAll]
      rfl
    rw [e]
    by_cases h : t = s
    · rw [decide_eq_true h, h]; simp
    · rw [decide_eq_false h]
      by_cases h1 : t.1 = s.1
      · by_cases h2 : t.2 = s.2
        · exact absurd (Prod.ext h1 h2) h
        · simp [h2]
      · simp [h1]⟩
  rw [this]
  congr 3
  induction S with
  | nil => simp
  | cons a S ih =>
    rw [List.any_cons]
    by_cases h : a = s
    · subst h; simp
    · have h' : ¬ s = a := fun z => h z.symm
      simp only [decide_eq_false h, Bool.false_or, List.mem_cons]
      by_cases h2 : s ∈ S
      · have : (S.any fun t => decide (t = s)) = true := List.any_eq_true.mpr ⟨s, h2, by simp⟩
        simp [this, h2]
      · have : (S.any fun t => decide (t = s)) = false := List.any_eq_false.mpr fun x hx z => h2 (by rw [← of_decide_eq_true z]; exact hx)
        simp [this, h2, h']
def KindIs (kd : D) (p : Good → Bool) : Prop := (kd = .non ∧ ∀ g, p g = true) ∨ ∃ k : Str, kd = .str k ∧ ∀ g, p g = (g.kind == k)
theorem eso_in (RR KD PR : D) (p : Good → Bool) (hk : KindIs KD p) (S : List (Int × Int)) (A : List T3) (lt : T3) (i : Nat) (RW : D) : ∀ (qs : List (Good × Nat)) (x6 x7 x8 : SV), plS x6 = true → plS x7 = true → plS x8 = true →
    (∀ q ∈ qs, ((i : Int), (q.2 : Int)) ∉ S → p q.1 = true → lt3 (q.1.since, (i : Int), (q.2 : Int)) lt = false) →
    ∃ y6 y7 y8 : SV, plS y6 = true ∧ plS y7 = true ∧ plS y8 = true ∧ loop (gTp 2 (gCn (gNm 6) (gCn (gNm 7) gNl))) b1__law_eldest_so (qs.map fun q => D.tup [.int (q.2 : Int), q.1.d]) [.frz RR, .frz (.lst (S.map spD)), .frz KD, .frz (.lst ((A ++ [lt]).map triT)), .frz (.int (i : Int)), .frz RW, x6, x7, x8, .dead] =
      some (.nx [.frz RR, .frz (.lst (S.map spD)), .frz KD, .frz (.lst ((A ++ [lt]).map triT)), .frz (.int (i : Int)), .frz RW, y6, y7, y8, .dead])
  | [], x6, x7, x8, h6, h7, h8, _ => ⟨x6, x7, x8, h6, h7, h8, by simp⟩
  | q :: qs, x6, x7, x8, h6, h7, h8, hq => by
    obtain ⟨g, j⟩ := q
    obtain ⟨lf, hlf⟩ : ∃ lf : Bool, lf = (!decide (((i : Int), (j : Int)) ∈ S) && p g) := ⟨_, rfl⟩
    obtain ⟨y6, y7, y8, g6, g7, g8, e⟩ := eso_in RR KD PR p hk S A lt i RW qs (.frz (.int (j : Int))) (.frz g.d) (.frz (.bl lf)) rfl rfl rfl fun x hx => hq x (by simp [hx])
    refine ⟨y6, y7, y8, g6, g7, g8, ?_⟩
    have tg : gTp 2 (gCn (gNm 6) (gCn (gNm 7) gNl)) (.frz (.tup [.int (j : Int), g.d])) [.frz RR, .frz (.lst (S.map spD)), .frz KD, .frz (.lst ((A ++ [lt]).map triT)), .frz (.int (i : Int)), .frz RW, x6, x7, x8, .dead] = some [.frz RR, .frz (.lst (S.map spD)), .frz KD, .frz (.lst ((A ++ [lt]).map triT)), .frz (.int (i : Int)), .frz RW, .frz (.int (j : Int)), .frz g.d, x8, .dead] := by
      generalize D.lst (S.map spD) = SS
      generalize D.lst ((A ++ [lt]).map triT) = AA
      simp [h6, h7, h8, io_pl h6, io_pl h7, kS_p h8]
    have g1 : ix2 (some (.frz g.d)) (some (.frz (.int 1))) = some (.frz (.int g.since)) := ix_t1
    have g2 : ix2 (some (.frz g.d)) (some (.frz (.int 2))) = some (.frz (.str g.kind)) := ix_t2
    have si := sp_in true ((i : Int), (j : Int)) S
    have si : oIn true (.frz (.tup [.int (i : Int), .int (j : Int)])) (.frz (.lst (S.map spD))) = some (.frz (.bl (!decide (((i : Int), (j : Int)) ∈ S)))) := si.trans (by simp)
    have la : ix2 (some (.frz (.lst ((A ++ [lt]).map triT)))) (some (.frz (.int (-1)))) = some (.frz (triT lt)) := by
      rw [List.map_append]
      exact ix2_l (atI_last (A.map triT) (triT lt))
    generalize D.lst (S.map spD) = SS at tg si e ⊢
    generalize D.lst ((A ++ [lt]).map triT) = AA at tg la e ⊢
    have er : eOr (frzE (eOp1 (oIsN false) (eVar 2))) (frzE (eOp2 (sc2 gEq) (eIx (eVar 7) (eC (.int 2))) (eVar 2))) [.frz RR, .frz SS, .frz KD, .frz AA, .frz (.int (i : Int)), .frz RW, .frz (.int (j : Int)), .frz g.d, x8, .dead] = some (.frz (.bl (p g))) := by
      rcases hk with ⟨rfl, hp⟩ | ⟨k, rfl, hp⟩
      · rw [hp]
        simp only [eOr_c, frzE_c, eOp1_c, eVar_c, List.getElem?_cons_succ, List.getElem?_cons_zero, rdS_frz, ap1_s, oIsN_s, toD_frz, isN_non, Bool.false_xor, fz1_s, eOr1_t]
      · rw [hp]
        have ge : gEq (.str g.kind) (.str k) = some (.bl (g.kind == k)) := gEq_ss
        simp only [eOr_c, frzE_c, eOp1_c, eOp2_c, eIx_c, eC_c, eVar_c, List.getElem?_cons_succ, List.getElem?_cons_zero, rdS_frz, ap1_s, oIsN_s, toD_frz, isN_str, Bool.false_xor, fz1_s, eOr1_f, g2, ap2_s, sc2_s, ge, fr_s]
    have ea : eAnd (frzE (eOp2 (oIn true) (frzE (eTup (eCons (takE (eVar 4)) (eCons (takE (eVar 6)) eNil)))) (eVar 1))) (eOr (frzE (eOp1 (oIsN false) (eVar 2))) (frzE (eOp2 (sc2 gEq) (eIx (eVar 7) (eC (.int 2))) (eVar 2)))) [.frz RR, .frz SS, .frz KD, .frz AA, .frz (.int (i : Int)), .frz RW, .frz (.int (j : Int)), .frz g.d, x8, .dead] = some (.frz (.bl lf)) := by
      have e1 : frzE (eOp2 (oIn true) (frzE (eTup (eCons (takE (eVar 4)) (eCons (takE (eVar 6)) eNil)))) (eVar 1)) [.frz RR, .frz SS, .frz KD, .frz AA, .frz (.int (i : Int)), .frz RW, .frz (.int (j : Int)), .frz g.d, x8, .dead] = some (.frz (.bl (!decide (((i : Int), (j : Int)) ∈ S)))) := by
        simp only [frzE_c, eOp2_c, eTup_c, eCons_c, takE_c, eVar_c, List.getElem?_cons_succ, List.getElem?_cons_zero, rdS_frz, tk1_f, eNil_c, cons2_s, tup1_s (show [O.frz (D.int (i : Int)), O.frz (D.int (j : Int))].length ≤ 1000 by simp), mkT2, fz1_s, toD_frz, ap2_s, si]
      rw [eAnd_c, e1, eAnd1_b er, ← hlf]
    have s0 : sSet 8 (takE (eAnd (frzE (eOp2 (oIn true) (frzE (eTup (eCons (takE (eVar 4)) (eCons (takE (eVar 6)) eNil)))) (eVar 1))) (eOr (frzE (eOp1 (oIsN false) (eVar 2))) (frzE (eOp2 (sc2 gEq) (eIx (eVar 7) (eC (.int 2))) (eVar 2)))))) [.frz RR, .frz SS, .frz KD, .frz AA, .frz (.int (i : Int)), .frz RW, .frz (.int (j : Int)), .frz g.d, x8, .dead] = some (.nx [.frz RR, .frz SS, .frz KD, .frz AA, .frz (.int (i : Int)), .frz RW, .frz (.int (j : Int)), .frz g.d, .frz (.bl lf), .dead]) := by
      rw [sSet_c, takE_c, ea, tk1_f, st1_e, slot_f]
      simp [h8, io_pl h8]
    have te : tAnd2 (tru (eVar 8)) (tst (eOp2 (sc2 gLt3) (frzE (eTup (eCons (takE (eIx (eVar 7) (eC (.int 1)))) (eCons (takE (eVar 4)) (eCons (takE (eVar 6)) eNil))))) (eIx (eVar 3) (frzE (eOp1 (sc1 gNeg) (eC (.int 1))))))) [.frz RR, .frz SS, .frz KD, .frz AA, .frz (.int (i : Int)), .frz RW, .frz (.int (j : Int)), .frz g.d, .frz (.bl lf), .dead] = some false := by
      have h1 : tru (eVar 8) [.frz RR, .frz SS, .frz KD, .frz AA, .frz (.int (i : Int)), .frz RW, .frz (.int (j : Int)), .frz g.d, .frz (.bl lf), .dead] = some lf := by
        simp only [tru_c, eVar_c, List.getElem?_cons_succ, List.getElem?_cons_zero, rdS_frz, tru1_b]
      have ng : gNeg (.int 1) = some (.int (-1)) := rfl
      have gl : gLt3 (.tup [.int g.since, .int (i : Int), .int (j : Int)]) (triT lt) = some (.bl (lt3 (g.since, (i : Int), (j : Int)) lt)) := rfl
      rw [tAnd2_c, h1]
      rw [and2_b (q := lt3 (g.since, (i : Int), (j : Int)) lt) (by
        simp only [tst_c, eOp2_c, frzE_c, eTup_c, eCons_c, takE_c, eIx_c, eC_c, eOp1_c, eVar_c, List.getElem?_cons_succ, List.getElem?_cons_zero, rdS_frz, g1, tk1_f, eNil_c, cons2_s, tup1_s (show [O.frz (D.int g.since), O.frz (D.int (i : Int)), O.frz (D.int (j : Int))].length ≤ 1000 by simp), mkT3, fz1_s, toD_frz, ap1_s, sc1_s, ng, fr_s, la, ap2_s, sc2_s, gl, tst1_b])]
      congr 1
      cases hl : lf with
      | false => rfl
      | true =>
        rw [hlf] at hl
        obtain ⟨a1, a2⟩ := Bool.and_eq_true_iff.mp hl
        rw [hq (g, j) (by simp) (by simpa using a1) a2]
        rfl
    have st : b1__law_eldest_so [.frz RR, .frz SS, .frz KD, .frz AA, .frz (.int (i : Int)), .frz RW, .frz (.int (j : Int)), .frz g.d, x8, .dead] = some (.nx [.frz RR, .frz SS, .frz KD, .frz AA, .frz (.int (i : Int)), .frz RW, .frz (.int (j : Int)), .frz g.d, .frz (.bl lf), .dead]) := by
      rw [b1__law_eldest_so, sSeq_c, s0, thS_n, sIf_c, te, if1_f, sNx_c]
    rw [List.map_cons, loop_cons, tg, bdE_s, st, lp2_n, e]
theorem eso_out (RR KD : D) (p : Good → Bool) (hk : KindIs KD p) (S : List (Int × Int)) (A : List T3) (lt : T3) : ∀ (ps : List (Row × Nat)) (x4 x5 x6 x7 x8 : SV), plS x4 = true → plS x5 = true → plS x6 = true → plS x7 = true → plS x8 = true →
    (∀ r ∈ ps, ∀ q ∈ r.1.zipIdx, ((r.2 : Int), (q.2 : Int)) ∉ S → p q.1 = true → lt3 (q.1.since, (r.2 : Int), (q.2 : Int)) lt = false) →
    ∃ y4 y5 y6 y7 y8 : SV, plS y4 = true ∧ loop (gTp 2 (gCn (gNm 4) (gCn (gNm 5) gNl))) b0__law_eldest_so (ps.map fun q => D.tup [.int (q.2 : Int), rowD q.1]) [.frz RR, .frz (.lst (S.map spD)), .frz KD, .frz (.lst ((A ++ [lt]).map triT)), x4, x5, x6, x7, x8, .dead] =
      some (.nx [.frz RR, .frz (.lst (S.map spD)), .frz KD, .frz (.lst ((A ++ [lt]).map triT)), y4, y5, y6, y7, y8, .dead])
  | [], x4, x5, x6, x7, x8, h4, h5, h6, h7, h8, _ => ⟨x4, x5, x6, x7, x8, h4, by simp⟩
  | (r, i) :: ps, x4, x5, x6, x7, x8, h4, h5, h6, h7, h8, hp => by
    obtain ⟨z6, z7, z8, q6, q7, q8, e1⟩ := eso_in RR KD .non p hk S A lt i (rowD r) r.zipIdx x6 x7 x8 h6 h7 h8 (hp (r, i) (by simp))
    obtain ⟨y4, y5, y6, y7, y8, g4, e2⟩ := eso_out RR KD p hk S A lt ps (.frz (.int (i : Int))) (.frz (rowD r)) z6 z7 z8 rfl rfl q6 q7 q8 fun x hx => hp x (by simp [hx])
    refine ⟨y4, y5, y6, y7, y8, g4, ?_⟩
    have ir : itE seqF (some [.frz (rowD r)]) = some ((r.zipIdx).map fun q => D.tup [.int (q.2 : Int), q.1.d]) := by
      show some (enumD (r.map Good.d)) = _
      rw [enum_row]
    generalize D.lst (S.map spD) = SS at e1 e2 ⊢
    generalize D.lst ((A ++ [lt]).map triT) = AA at e1 e2 ⊢
    have tg : gTp 2 (gCn (gNm 4) (gCn (gNm 5) gNl)) (.frz (.tup [.int (i : Int), rowD r])) [.frz RR, .frz SS, .frz KD, .frz AA, x4, x5, x6, x7, x8, .dead] = some [.frz RR, .frz SS, .frz KD, .frz AA, .frz (.int (i : Int)), .frz (rowD r), x6, x7, x8, .dead] := by
      simp [h4, h5, h6, h7, h8, io_pl h4, io_pl h5, kS_p h5, kS_p h6, kS_p h7, kS_p h8]
    have st : b0__law_eldest_so [.frz RR, .frz SS, .frz KD, .frz AA, .frz (.int (i : Int)), .frz (rowD r), x6, x7, x8, .dead] = some (.nx [.frz RR, .frz SS, .frz KD, .frz AA, .frz (.int (i : Int)), .frz (rowD r), z6, z7, z8, .dead]) := by
      rw [b0__law_eldest_so, sFor_c]
      simp only [iE_c, eCons_c, eVar_c, List.getElem?_cons_succ, List.getElem?_cons_zero, rdS_frz, eNil_c, cons2_s, ir, lp1_s]
      exact e1
    rw [List.map_cons, loop_cons, tg, bdE_s, st, lp2_n, e2]
theorem ev_eldest_so {R : List Row} (KD : D) (p : Good → Bool) (hk : KindIs KD p) (n : Nat) (hn : 0 < n) (hne : (byAge R).filter (fun f => p f.good) ≠ []) (ht : total R ≤ 100000) :
    ∃ svs, f__law_eldest_so [.frz (rowsD R), .frz (.lst (((((byAge R).filter fun f => p f.good).take n).map Fd.spot).map spD)), .frz KD] = some (.frz (.bl true), svs) := by
  obtain ⟨F, hF⟩ : ∃ F, F = (byAge R).filter fun f => p f.good := ⟨_, rfl⟩
  rw [← hF] at hne ⊢
  have sub : F.Sublist (byAge R) := by rw [hF]; exact List.filter_sublist
  have srt : F.Pairwise fun a b => le_fd a b = true := (byAge_sorted R).sublist sub
  obtain ⟨X, hX⟩ : ∃ X, X = F.take n := ⟨_, rfl⟩
  rw [← hX]
  have xsub : X.Sublist F := by rw [hX]; exact List.take_sublist n F
  have xmem : ∀ f ∈ X, f ∈ byAge R := fun f hf => (xsub.trans sub).subset hf
  have xne : X ≠ [] := by
    rw [hX]
    cases F with
    | nil => exact absurd rfl hne
    | cons f fs => cases n with
      | zero => omega
      | succ n => simp
  obtain ⟨A0, l, hA⟩ : ∃ A0 l, X = A0 ++ [l] := ⟨X.dropLast, X.getLast xne, (List.dropLast_concat_getLast xne).symm⟩
  have tri_map : X.map tri = (A0.map Fd.t3 ++ [l.t3]).map triT := by
    rw [hA, List.map_append, List.map_append, List.map_map]; rfl
  have xlen : X.length ≤ 100000 := by
    have := (xsub.trans sub).length_le
    rw [len_byAge] at this
    omega
  have hc := lc1_m (m := c0__law_eldest_so) (g := gNm 9) (vs := [9]) (env := [.frz (rowsD R), .frz (.lst ((X.map Fd.spot).map spD)), .frz KD, .dead, .dead, .dead, .dead, .dead, .dead, .dead]) (fun f : Fd => spD f.spot) (fun f => O.frz (tri f)) X rfl xlen fun f hf => by
    have ca := cl_age (valid_fd (xmem f hf))
    rw [age_fd (xmem f hf)] at ca
    refine ⟨[.frz (rowsD R), .frz (.lst ((X.map Fd.spot).map spD)), .frz KD, .dead, .dead, .dead, .dead, .dead, .dead, .frz (spD f.spot)], by
      generalize D.lst ((X.map Fd.spot).map spD) = SS
      simp, ?_⟩
    rw [c0__law_eldest_so]
    simp only [eCall_c, eCons_c, eVar_c, List.getElem?_cons_succ, List.getElem?_cons_zero, rdS_frz, eNil_c, cons2_s, ca]
    rfl
  have fin : (O.lst (X.map fun f => O.frz (tri f))).toD = .lst (X.map tri) := by
    rw [toD_lst, List.map_map]
    exact congrArg D.lst (List.map_congr_left fun _ _ => toD_frz)
  have xs : X.mergeSort le_fd = X := List.mergeSort_of_pairwise (srt.sublist xsub)
  have so := sorted_tri X
  rw [xs] at so
  have ne : gNe (.lst (X.map tri)) (.lst (X.map tri)) = some (.bl false) := gNe_self (n := 2) (.lst (.map fun f _ => .tup (.cons .int (.cons .int (.cons .int .nil))))) (by omega)
  -- nobody elder
  have cond : ∀ r ∈ R.zipIdx, ∀ q ∈ r.1.zipIdx, ((r.2 : Int), (q.2 : Int)) ∉ X.map Fd.spot → p q.1 = true → lt3 (q.1.since, (r.2 : Int), (q.2 : Int)) l.t3 = false := fun r hr q hq hout hp => by
    obtain ⟨r, i⟩ := r
    obtain ⟨g, j⟩ := q
    have h1 : R[i]? = some r := List.mem_zipIdx_iff_getElem?.mp hr
    have h2 : r[j]? = some g := List.mem_zipIdx_iff_getElem?.mp hq
    have hm := mem_at h1 h2
    have hf : (⟨g.since, i, j, g⟩ : Fd) ∈ F := by rw [hF]; exact List.mem_filter.mpr ⟨hm, hp⟩
    have nx : (⟨g.since, i, j, g⟩ : Fd) ∉ X := fun z => hout (List.mem_map.mpr ⟨_, z, rfl⟩)
    have hd : (⟨g.since, i, j, g⟩ : Fd) ∈ F.drop n := by
      rw [← List.take_append_drop n F] at hf
      rcases List.mem_append.mp hf with z | z
      · rw [← hX] at z; exact absurd z nx
      · exact z
    have sp := srt
    rw [← List.take_append_drop n F, ← hX] at sp
    have le := (List.pairwise_append.mp sp).2.2 l (by rw [hA]; simp) _ hd
    unfold lt3
    have le : le3 l.t3 (g.since, (i : Int), (j : Int)) = true := le
    rw [le]; rfl
  obtain ⟨y4, y5, y6, y7, y8, g4, lp⟩ := eso_out (rowsD R) KD p hk (X.map Fd.spot) (A0.map Fd.t3) l.t3 R.zipIdx .dead .dead .dead .dead .dead rfl rfl rfl rfl rfl cond
  rw [← tri_map] at lp
  have er : itE seqF (some [.frz (rowsD R)]) = some ((R.zipIdx).map fun q => D.tup [.int (q.2 : Int), rowD q.1]) := by
    show some (enumD (R.map rowD)) = _
    rw [enum_rows]
  have ls : (O.frz (.lst ((X.map Fd.spot).map spD))).litems = some (X.map fun f => spD f.spot) := by
    rw [litems_f, List.map_map]; rfl
  generalize D.lst ((X.map Fd.spot).map spD) = SS at hc lp ls ⊢
  generalize rowsD R = RR at hc lp er ⊢
  refine ⟨_, fn3 (e := [.frz RR, .frz SS, .frz KD, .frz (.lst (X.map tri)), y4, y5, y6, y7, y8, .dead]) ?_⟩
  show m__law_eldest_so [.frz RR, .frz SS, .frz KD, .dead, .dead, .dead, .dead, .dead, .dead, .dead] = _
  have s0 : sSet 3 (frzE (eLcN (iLTc (eVar 1)) [9] (gNm 9) yesT c0__law_eldest_so)) [.frz RR, .frz SS, .frz KD, .dead, .dead, .dead, .dead, .dead, .dead, .dead] = some (.nx [.frz RR, .frz SS, .frz KD, .frz (.lst (X.map tri)), .dead, .dead, .dead, .dead, .dead, .dead]) := by
    simp only [sSet_c, frzE_c, eLcN_c, iLTc_c, eVar_c, List.getElem?_cons_succ, List.getElem?_cons_zero, rdS_frz, it1_s, ls, Option.some_or, hc, fz1_s, fin, st1_e, slot_f]
    rfl
  rw [m__law_eldest_so, sSeq_c, s0, thS_n, sSeq_c, sIf_c]
  simp only [tst_c, eOp2_c, frzE_c, eOpN_c, eCons_c, eVar_c, List.getElem?_cons_succ, List.getElem?_cons_zero, rdS_frz, eNil_c, cons2_s, bN_s, n1_s, so, fz1_s, toD_newL, ap2_s, sc2_s, toD_frz, ne, fr_s, tst1_b, if1_f, sNx_c, thS_n]
  rw [sSeq_c, sFor_c]
  simp only [iE_c, eCons_c, eVar_c, List.getElem?_cons_succ, List.getElem?_cons_zero, rdS_frz, eNil_c, cons2_s, er, lp1_s, lp, thS_n, sRet_c, takE_c, eC_c, tk1_f, rt1_s]
theorem dst_same (pc : Str) : ∀ n : Nat, dst [pc] (List.replicate n pc) = [pc]
  | 0 => rfl
  | n + 1 => by rw [List.replicate_succ, dst, if_pos (by simp), dst_same pc n]
theorem rgOk_n {n : Int} (h0 : 0 ≤ n) (h : n ≤ 1000) : rgOk 0 n = true := by
  unfold rgOk
  refine decide_eq_true ⟨by omega, by omega, by omega, by omega, by omega⟩
theorem eLRg_z {mb : Em} {env : VL.Env} {n : Int} (h0 : 0 ≤ n) (h : n ≤ 1000) (hb : mb env = some (.frz (.int n))) : eLRg eZ mb env = some (newL (rgD 0 n)) := by
  have hz : eZ env = some (.frz (.int 0)) := rfl
  have : rgM eZ mb env = some (0, n) := by
    unfold rgM
    rw [hz, hb, Option.bind_some, Option.bind_some, toD_frz, toD_frz]
    exact if_pos (rgOk_n h0 h)
  unfold eLRg
  rw [this, Option.map_some]
theorem ev_one_parcel {R : List Row} {pc : Str} (hm : meets R pc = true) (h0 : R ≠ []) (hR : R.length ≤ 1000) :
    ∃ svs, f__law_one_parcel [.frz (rowsD R), .frz (.lst (((R.zipIdx).map (metSpot pc)).map spD))] = some (.frz (.bl true), svs) := by
  have hpc : (pc != "") = true := by unfold meets at hm; exact (Bool.and_eq_true_iff.mp hm).1
  have zl : (R.zipIdx).length = R.length := by simp
  have it : ∀ q ∈ R.zipIdx, ∃ j : Nat, ∃ g, metSpot pc q = ((q.2 : Int), (j : Int)) ∧ R[q.2]? = some q.1 ∧ q.1[j]? = some g ∧ g.parcel = pc := fun q hq => met_at hm hq
  have ls : (O.frz (.lst (((R.zipIdx).map (metSpot pc)).map spD))).litems = some ((R.zipIdx).map fun q => spD (metSpot pc q)) := by
    rw [litems_f, List.map_map]; rfl
  have hc0 := lc1_m (m := c0__law_one_parcel) (g := gTp 2 (gCn (gNm 3) (gCn (gNm 4) gNl))) (vs := [3, 4]) (env := [.frz (rowsD R), .frz (.lst (((R.zipIdx).map (metSpot pc)).map spD)), .dead, .dead, .dead]) (fun q => spD (metSpot pc q)) (fun q => O.frz (.str pc)) (R.zipIdx) rfl (by omega) fun q hq => by
    obtain ⟨j, g, e1, e2, e3, e4⟩ := it q hq
    have ir := ix_rowN e2
    have ig := ix_goodN e3
    have i3 : ix2 (some (.frz g.d)) (some (.frz (.int 3))) = some (.frz (.str g.parcel)) := ix_t3
    rw [e4] at i3
    refine ⟨[.frz (rowsD R), .frz (.lst (((R.zipIdx).map (metSpot pc)).map spD)), .dead, .frz (.int (q.2 : Int)), .frz (.int (j : Int))], by
      rw [e1]
      generalize D.lst (((R.zipIdx).map (metSpot pc)).map spD) = SS
      simp [spD], ?_⟩
    rw [c0__law_one_parcel]
    simp only [takE_c, eIx_c, eC_c, eVar_c, List.getElem?_cons_succ, List.getElem?_cons_zero, rdS_frz, ir, ig, i3, tk1_f]
  have hc1 := lc1_m (m := c1__law_one_parcel) (g := gTp 2 (gCn (gNm 3) (gCn (gNm 4) gNl))) (vs := [3, 4]) (env := [.frz (rowsD R), .frz (.lst (((R.zipIdx).map (metSpot pc)).map spD)), .frz (.lst (List.replicate R.length (.str pc))), .dead, .dead]) (fun q => spD (metSpot pc q)) (fun q => O.frz (.int (q.2 : Int))) (R.zipIdx) rfl (by omega) fun q hq => by
    obtain ⟨j, g, e1, e2, e3, e4⟩ := it q hq
    refine ⟨[.frz (rowsD R), .frz (.lst (((R.zipIdx).map (metSpot pc)).map spD)), .frz (.lst (List.replicate R.length (.str pc))), .frz (.int (q.2 : Int)), .frz (.int (j : Int))], by
      rw [e1]
      generalize D.lst (((R.zipIdx).map (metSpot pc)).map spD) = SS
      generalize D.lst (List.replicate R.length (.str pc)) = NN
      simp [spD], ?_⟩
    rw [c1__law_one_parcel]
    simp only [takE_c, eVar_c, List.getElem?_cons_succ, List.getElem?_cons_zero, rdS_frz, tk1_f]
  have fin0 : (O.lst ((R.zipIdx).map fun q => O.frz (.str pc))).toD = .lst (List.replicate R.length (.str pc)) := by
    rw [toD_lst, List.map_map]
    congr 1
    rw [← zl]
    have : (O.toD ∘ fun (q : Row × Nat) => O.frz (D.str pc)) = fun _ => D.str pc := by funext q; simp
    rw [this, List.map_const']
  have fin1 : (O.lst ((R.zipIdx).map fun q => O.frz (.int (q.2 : Int)))).toD = .lst (rgD 0 R.length) := by
    rw [toD_lst, List.map_map]
    congr 1
    have e1 : ((R.zipIdx).map (O.toD ∘ fun q => O.frz (.int (q.2 : Int)))) = ((R.zipIdx).map Prod.snd).map fun (k : Nat) => D.int (k : Int) := by
      rw [List.map_map]
      exact List.map_congr_left fun _ _ => toD_frz
    rw [e1, List.zipIdx_map_snd]
    unfold rgD
    simp [List.range_eq_range']
  have lr : oLen (.frz (rowsD R)) = some (.frz (.int (R.length : Int))) := by
    show oLen (.frz (.lst (R.map rowD))) = _
    rw [oLen_l, List.length_map]
  have ger : gEq (.lst (rgD 0 R.length)) (.lst (rgD 0 R.length)) = some (.bl true) := gEq_self (n := 1) (.lst (.map fun _ _ => .int)) (by omega)
  obtain ⟨n', hn'⟩ : ∃ n', R.length = n' + 1 := ⟨R.length - 1, by have := List.length_pos_iff.mpr h0; omega⟩
  have rep : (List.replicate R.length (D.str pc)) = (List.replicate R.length pc).map D.str := by rw [List.map_replicate]
  have lset : eLenSet (eVar 2) [.frz (rowsD R), .frz (.lst (((R.zipIdx).map (metSpot pc)).map spD)), .frz (.lst (List.replicate R.length (.str pc))), .dead, .dead] = some (.frz (.int 1)) := by
    unfold eLenSet
    simp only [eVar_c, List.getElem?_cons_succ, List.getElem?_cons_zero, rdS_frz, Option.bind_some]
    have : oTxts (.frz (.lst (List.replicate R.length (.str pc)))) = some (List.replicate R.length pc) := by
      unfold oTxts
      rw [toD_frz, rep]
      exact VL.strs_map _
    rw [this, Option.bind_some, if_pos (by rw [List.length_replicate]; exact hR), hn', List.replicate_succ, dst, if_neg (by simp), List.nil_append, dst_same]
    rfl
  have nm0 : ix2 (some (.frz (.lst (List.replicate R.length (.str pc))))) (some (.frz (.int 0))) = some (.frz (.str pc)) := by
    rw [hn', List.replicate_succ]; exact ix_l0
  have g1 : gEq (.int 1) (.int 1) = some (.bl true) := by rw [gEq_ii, beq_self_eq_true]
  have gn : gNe (.str pc) (.str "") = some (.bl true) := by rw [gNe_ss]; exact congrArg (fun b => some (D.bl b)) hpc
  have erg : eLRg eZ (frzE (eOpN (n1 oLen) (eCons (eVar 0) eNil))) [.frz (rowsD R), .frz (.lst (((R.zipIdx).map (metSpot pc)).map spD)), .frz (.lst (List.replicate R.length (.str pc))), .dead, .dead] = some (newL (rgD 0 R.length)) := by
    exact eLRg_z (by omega) (by omega) (by simp only [frzE_c, eOpN_c, eCons_c, eVar_c, List.getElem?_cons_zero, rdS_frz, eNil_c, cons2_s, bN_s, n1_s, lr, fz1_s, toD_frz])
  generalize D.lst (((R.zipIdx).map (metSpot pc)).map spD) = SS at ls hc0 hc1 lset erg ⊢
  generalize (D.lst (List.replicate R.length (.str pc))) = NN at hc1 fin0 lset nm0 erg
  generalize rowsD R = RR at hc0 hc1 lr lset erg ⊢
  refine ⟨_, fn2 (e := [.frz RR, .frz SS, .frz NN, .dead, .dead]) ?_⟩
  show m__law_one_parcel [.frz RR, .frz SS, .dead, .dead, .dead] = _
  have s0 : sSet 2 (frzE (eLcN (iLTc (eVar 1)) [3, 4] (gTp 2 (gCn (gNm 3) (gCn (gNm 4) gNl))) yesT c0__law_one_parcel)) [.frz RR, .frz SS, .dead, .dead, .dead] = some (.nx [.frz RR, .frz SS, .frz NN, .dead, .dead]) := by
    simp only [sSet_c, frzE_c, eLcN_c, iLTc_c, eVar_c, List.getElem?_cons_succ, List.getElem?_cons_zero, rdS_frz, it1_s, ls, Option.some_or, hc0, fz1_s, fin0, st1_e, slot_f]
    rfl
  have e1 : frzE (eOp2 (sc2 gEq) (frzE (eLcN (iLTc (eVar 1)) [3, 4] (gTp 2 (gCn (gNm 3) (gCn (gNm 4) gNl))) yesT c1__law_one_parcel)) (frzE (eLRg eZ (frzE (eOpN (n1 oLen) (eCons (eVar 0) eNil)))))) [.frz RR, .frz SS, .frz NN, .dead, .dead] = some (.frz (.bl true)) := by
    rw [frzE_c, eOp2_c, frzE_c, frzE_c, erg]
    simp only [eLcN_c, iLTc_c, eVar_c, List.getElem?_cons_succ, List.getElem?_cons_zero, rdS_frz, it1_s, ls, Option.some_or, hc1, fz1_s, fin1, toD_newL, ap2_s, sc2_s, toD_frz, ger, fr_s]
  have e2 : frzE (eOp2 (sc2 gEq) (frzE (eLenSet (eVar 2))) (eC (.int 1))) [.frz RR, .frz SS, .frz NN, .dead, .dead] = some (.frz (.bl true)) := by
    rw [frzE_c, eOp2_c, frzE_c, lset]
    simp only [fz1_s, toD_frz, eC_c, ap2_s, sc2_s, g1, fr_s]
  have e3 : frzE (eOp2 (sc2 gNe) (eIx (eVar 2) (eC (.int 0))) (eC (.str ""))) [.frz RR, .frz SS, .frz NN, .dead, .dead] = some (.frz (.bl true)) := by
    simp only [frzE_c, eOp2_c, eIx_c, eC_c, eVar_c, List.getElem?_cons_succ, List.getElem?_cons_zero, rdS_frz, nm0, ap2_s, sc2_s, toD_frz, gn, fr_s, fz1_s]
  rw [m__law_one_parcel, sSeq_c, s0, thS_n, sRet_c, takE_c, eAnd_c, e1, eAnd1_t, eAnd_c, e2, eAnd1_t, e3, tk1_f, rt1_s]
end Pr
namespace Pr
open PySem PySem.Spec PyProof.Rows L2 VL Mr
theorem sp_nil (S : List (Int × Int)) : gEq (.lst (S.map spD)) (.lst []) = some (.bl S.isEmpty) := by
  have := gEq_nil (n := 1) (ds := S.map spD) (.map fun s _ => .tup (.cons .int (.cons .int .nil)))
  rw [List.isEmpty_map] at this
  exact this
def tailR : Sm := sSeq u2__law_right (sSeq u3__law_right (sSeq u4__law_right (sSeq u5__law_right (sSeq u6__law_right u7__law_right))))
theorem right_of (ru : Rule) (R : List Row) (now : Int) (S : List (Int × Int)) (h0 : R ≠ []) (ht : total R ≤ 60) (hR : R.length ≤ 1000) (hnd : nd ru R now = S.isEmpty) (hv : ∀ s ∈ S, Valid R s) (hn : S.Nodup)
    (htail : S ≠ [] → ∃ e, tailR [.frz (.tup ru.ds), .frz (rowsD R), .frz (.lst (S.map spD)), .frz (.int now), .dead, .dead, .dead, .dead] = some (.ret (.frz (.bl true)) (.frz (.tup ru.ds) :: e))) :
    ∃ svs, f__law_right [.frz (.tup ru.ds), .frz (rowsD R), .frz (.lst (S.map spD)), .frz (.int now)] = some (.frz (.bl true), svs) := by
  obtain ⟨sv1, e1⟩ := ev_none_due ru R now h0 (by omega) hR
  have c1 := cl3 e1
  rw [hnd] at c1
  have sl := few hn hv
  have c2 : cl 2 f__law_stands (some [.frz (rowsD R), .frz (.lst (S.map spD))]) = some (.frz (.bl true)) := cl2 (ev_stands hR hv hn (by omega))
  have ge := sp_nil S
  have lt0 : (O.lst []).toD = .lst [] := rfl
  by_cases hS : S = []
  · subst hS
    have c1 : cl 3 f__law_none_due (some [.frz (.tup ru.ds), .frz (rowsD R), .frz (.lst []), .frz (.int now)]) = cl 3 f__law_none_due (some [.frz (.tup ru.ds), .frz (rowsD R), .frz (.lst []), .frz (.int now)]) := rfl
    have c1' := cl3 e1
    rw [hnd] at c1'
    have ge : gEq (.lst (([] : List (Int × Int)).map spD)) (.lst []) = some (.bl true) := ge
    generalize D.lst (([] : List (Int × Int)).map spD) = SL at ge ⊢
    generalize rowsD R = RR at c1' ⊢
    refine ⟨_, fn4 (e := [.frz (.tup ru.ds), .frz RR, .frz SL, .frz (.int now), .dead, .dead, .dead, .dead]) ?_⟩
    show m__law_right [.frz (.tup ru.ds), .frz RR, .frz SL, .frz (.int now), .dead, .dead, .dead, .dead] = _
    have c1'' : cl 3 f__law_none_due (some [.frz (.tup ru.ds), .frz RR, .frz (.int now)]) = some (.frz (.bl true)) := c1'
    rw [m__law_right, sSeq_c, u0__law_right, sIf_c]
    simp only [tst_c, eOp2_c, eVar_c, frzE_c, eLst_c, eNil_c, lst1_s (show ([] : List O).length ≤ 1000 by simp), fz1_s, lt0, List.getElem?_cons_succ, List.getElem?_cons_zero, rdS_frz, ap2_s, sc2_s, toD_frz, ge, fr_s, tst1_b, if1_t, sRet_c, eCall_c, eCons_c, cons2_s, c1'', rt1_s, thS_r]
  · obtain ⟨e, te⟩ := htail hS
    have hE : S.isEmpty = false := by
      cases S with
      | nil => exact absurd rfl hS
      | cons _ _ => rfl
    rw [hE] at c1 ge
    generalize D.lst (S.map spD) = SL at c2 ge te ⊢
    generalize rowsD R = RR at c1 c2 te ⊢
    refine ⟨_, fn4 (e := .frz (.tup ru.ds) :: e) ?_⟩
    show m__law_right [.frz (.tup ru.ds), .frz RR, .frz SL, .frz (.int now), .dead, .dead, .dead, .dead] = _
    have s0 : u0__law_right [.frz (.tup ru.ds), .frz RR, .frz SL, .frz (.int now), .dead, .dead, .dead, .dead] = some (.nx [.frz (.tup ru.ds), .frz RR, .frz SL, .frz (.int now), .dead, .dead, .dead, .dead]) := by
      rw [u0__law_right, sIf_c]
      simp only [tst_c, eOp2_c, eVar_c, frzE_c, eLst_c, eNil_c, lst1_s (show ([] : List O).length ≤ 1000 by simp), fz1_s, lt0, List.getElem?_cons_succ, List.getElem?_cons_zero, rdS_frz, ap2_s, sc2_s, toD_frz, ge, fr_s, tst1_b, if1_f, sNx_c]
    have s1 : u1__law_right [.frz (.tup ru.ds), .frz RR, .frz SL, .frz (.int now), .dead, .dead, .dead, .dead] = some (.nx [.frz (.tup ru.ds), .frz RR, .frz SL, .frz (.int now), .dead, .dead, .dead, .dead]) := by
      rw [u1__law_right, sIf_c]
      simp only [tOr2_c, tNot1_c, tru_c, frzE_c, eCall_c, eCons_c, eVar_c, List.getElem?_cons_succ, List.getElem?_cons_zero, rdS_frz, eNil_c, cons2_s, c2, c1, fz1_s, toD_frz, tru1_b, not1_s, Bool.not_true, or2_f, if1_f, sNx_c]
    have hm : m__law_right = sSeq u0__law_right (sSeq u1__law_right tailR) := rfl
    rw [hm, sSeq_c, s0, thS_n, sSeq_c, s1, thS_n, te]
theorem tail_one (ru : Rule) (R : List Row) (now : Int) (q : Nat) (w : Str) (rest : List D) (hw : ru.ds = .str w :: rest) (hc : w = "turns" ∨ w = "rank") :
    ∃ e, tailR [.frz (.tup ru.ds), .frz (rowsD R), .frz (.lst (([((q : Int), (0 : Int))] : List (Int × Int)).map spD)), .frz (.int now), .dead, .dead, .dead, .dead] = some (.ret (.frz (.bl true)) (.frz (.tup ru.ds) :: e)) := by
  have i0 : ix2 (some (.frz (.tup ru.ds))) (some (.frz (.int 0))) = some (.frz (.str w)) := by rw [hw]; exact ix_t0
  have s0 : ix2 (some (.frz (.lst (([((q : Int), (0 : Int))] : List (Int × Int)).map spD)))) (some (.frz (.int 0))) = some (.frz (spD ((q : Int), 0))) := ix_l0
  have s1 : ix2 (some (.frz (spD ((q : Int), 0)))) (some (.frz (.int 1))) = some (.frz (.int 0)) := ix_t1
  have ls : oLen (.frz (.lst (([((q : Int), (0 : Int))] : List (Int × Int)).map spD))) = some (.frz (.int 1)) := oLen_l
  have g1 : gEq (.int 1) (.int 1) = some (.bl true) := by rw [gEq_ii, beq_self_eq_true]
  have g0 : gEq (.int 0) (.int 0) = some (.bl true) := by rw [gEq_ii, beq_self_eq_true]
  have hin : oIn false (.frz (.str w)) (.frz (.tup [.str "turns", .str "rank"])) = some (.frz (.bl true)) := by
    rw [oIn_ts2]
    rcases hc with rfl | rfl <;> simp
  generalize D.lst (([((q : Int), (0 : Int))] : List (Int × Int)).map spD) = SL at s0 ls ⊢
  refine ⟨[.frz (rowsD R), .frz SL, .frz (.int now), .dead, .dead, .dead, .dead], ?_⟩
  generalize rowsD R = RR
  have e1 : frzE (eOp2 (sc2 gEq) (frzE (eOpN (n1 oLen) (eCons (eVar 2) eNil))) (eC (.int 1))) [.frz (.tup ru.ds), .frz RR, .frz SL, .frz (.int now), .dead, .dead, .dead, .dead] = some (.frz (.bl true)) := by
    simp only [frzE_c, eOp2_c, eOpN_c, eCons_c, eC_c, eVar_c, List.getElem?_cons_succ, List.getElem?_cons_zero, rdS_frz, eNil_c, cons2_s, bN_s, n1_s, ls, fz1_s, toD_frz, ap2_s, sc2_s, g1, fr_s]
  have e2 : frzE (eOp2 (sc2 gEq) (eIx (eIx (eVar 2) (eC (.int 0))) (eC (.int 1))) (eC (.int 0))) [.frz (.tup ru.ds), .frz RR, .frz SL, .frz (.int now), .dead, .dead, .dead, .dead] = some (.frz (.bl true)) := by
    simp only [frzE_c, eOp2_c, eIx_c, eC_c, eVar_c, List.getElem?_cons_succ, List.getElem?_cons_zero, rdS_frz, s0, s1, ap2_s, sc2_s, toD_frz, g0, fr_s, fz1_s]
  rw [tailR, sSeq_c, u2__law_right, sIf_c]
  simp only [tst_c, eOp2_c, eIx_c, eC_c, eVar_c, List.getElem?_cons_succ, List.getElem?_cons_zero, rdS_frz, i0, frzE_c, eTup_c, eCons_c, takE_c, tk1_f, eNil_c, cons2_s, tup1_s (show [O.frz (D.str "turns"), O.frz (D.str "rank")].length ≤ 1000 by simp), mkT2, fz1_s, toD_frz, ap2_s, hin, tst1_b, if1_t]
  rw [sRet_c, takE_c, eAnd_c, e1, eAnd1_t, e2, tk1_f, rt1_s, thS_r]
theorem u2_no {ru : Rule} {R SL NW : D} {w : Str} {rest : List D} (hw : ru.ds = .str w :: rest) (h1 : w ≠ "turns") (h2 : w ≠ "rank") : u2__law_right [.frz (.tup ru.ds), .frz R, .frz SL, .frz NW, .dead, .dead, .dead, .dead] = some (.nx [.frz (.tup ru.ds), .frz R, .frz SL, .frz NW, .dead, .dead, .dead, .dead]) := by
  have i0 : ix2 (some (.frz (.tup ru.ds))) (some (.frz (.int 0))) = some (.frz (.str w)) := by rw [hw]; exact ix_t0
  have hin : oIn false (.frz (.str w)) (.frz (.tup [.str "turns", .str "rank"])) = some (.frz (.bl false)) := by
    rw [oIn_ts2]
    have a1 : ((Str.ofString "turns") == w) = false := beq_eq_false_iff_ne.mpr fun z => h1 z.symm
    have a2 : ((Str.ofString "rank") == w) = false := beq_eq_false_iff_ne.mpr fun z => h2 z.symm
    rw [a1, a2]; rfl
  rw [u2__law_right, sIf_c]
  simp only [tst_c, eOp2_c, eIx_c, eC_c, eVar_c, List.getElem?_cons_succ, List.getElem?_cons_zero, rdS_frz, i0, frzE_c, eTup_c, eCons_c, takE_c, tk1_f, eNil_c, cons2_s, tup1_s (show [O.frz (D.str "turns"), O.frz (D.str "rank")].length ≤ 1000 by simp), mkT2, fz1_s, toD_frz, ap2_s, hin, tst1_b, if1_f, sNx_c]
theorem u3_no {ru : Rule} {R SL NW : D} {w : Str} {rest : List D} (hw : ru.ds = .str w :: rest) (h1 : w ≠ "meet") : u3__law_right [.frz (.tup ru.ds), .frz R, .frz SL, .frz NW, .dead, .dead, .dead, .dead] = some (.nx [.frz (.tup ru.ds), .frz R, .frz SL, .frz NW, .dead, .dead, .dead, .dead]) := by
  have i0 : ix2 (some (.frz (.tup ru.ds))) (some (.frz (.int 0))) = some (.frz (.str w)) := by rw [hw]; exact ix_t0
  have gq : gEq (.str w) (.str "meet") = some (.bl false) := by rw [gEq_ss, beq_eq_false_iff_ne.mpr h1]
  rw [u3__law_right, sIf_c]
  simp only [tst_c, eOp2_c, eIx_c, eC_c, eVar_c, List.getElem?_cons_succ, List.getElem?_cons_zero, rdS_frz, i0, ap2_s, sc2_s, toD_frz, gq, fr_s, tst1_b, if1_f, sNx_c]
theorem tail_meet {R : List Row} {pc : Str} (now : Int) (hm : meets R pc = true) (h0 : R ≠ []) (hR : R.length ≤ 1000) :
    ∃ e, tailR [.frz (.tup Rule.meet.ds), .frz (rowsD R), .frz (.lst (((R.zipIdx).map (metSpot pc)).map spD)), .frz (.int now), .dead, .dead, .dead, .dead] = some (.ret (.frz (.bl true)) (.frz (.tup Rule.meet.ds) :: e)) := by
  obtain ⟨svs, e1⟩ := ev_one_parcel hm h0 hR
  have c1 := cl2 e1
  have i0 : ix2 (some (.frz (.tup Rule.meet.ds))) (some (.frz (.int 0))) = some (.frz (.str "meet")) := ix_t0
  have gq : gEq (.str "meet") (.str "meet") = some (.bl true) := by rw [gEq_ss, beq_self_eq_true]
  generalize D.lst (((R.zipIdx).map (metSpot pc)).map spD) = SL at c1 ⊢
  generalize rowsD R = RR at c1 ⊢
  refine ⟨[.frz RR, .frz SL, .frz (.int now), .dead, .dead, .dead, .dead], ?_⟩
  rw [tailR, sSeq_c, u2_no (ru := .meet) (w := "meet") rfl (by simp) (by simp), thS_n, sSeq_c, u3__law_right, sIf_c]
  simp only [tst_c, eOp2_c, eIx_c, eC_c, eVar_c, List.getElem?_cons_succ, List.getElem?_cons_zero, rdS_frz, i0, ap2_s, sc2_s, toD_frz, gq, fr_s, tst1_b, if1_t, sRet_c, eCall_c, eCons_c, eNil_c, cons2_s, c1, rt1_s, thS_r]
theorem oMulK (xs : List D) (n : Nat) (h : n ≤ 1000) (hx : xs.length ≤ 1000) : oMul (.frz (.lst xs)) (.frz (.int n)) = some (newL (List.replicate n xs).flatten) := by
  have e1 : sc2 gMul (.frz (.lst xs)) (.frz (.int n)) = none := by rw [sc2_s, toD_frz, toD_frz]; rfl
  have e2 : sc2 gRepS (.frz (.lst xs)) (.frz (.int n)) = none := by rw [sc2_s, toD_frz, toD_frz]; rfl
  unfold oMul orO
  rw [e1, e2, Option.none_or, Option.none_or]
  unfold oRepL
  rw [plitems_f, toD_frz]
  show (if _ then _ else _) = _
  have : xs.length * n ≤ 1000 * 1000 := Nat.mul_le_mul hx h
  have hs : xs.length * (n : Int).toNat ≤ sizeLine := by
    rw [sizeLine_eq, Int.toNat_natCast]
    omega
  rw [if_pos ⟨by omega, by omega, hs⟩]
  rfl
theorem flat_rep {α : Type} (x : α) : ∀ n : Nat, (List.replicate n [x]).flatten = List.replicate n x
  | 0 => rfl
  | n + 1 => by rw [List.replicate_succ, List.flatten_cons, flat_rep x n]; rfl
theorem tail_age {ru : Rule} {R : List Row} {now : Int} {f : Fd} {fs : List Fd} (hb : byAge R = f :: fs) (ht : total R ≤ 60) (n : Nat) (hn : 0 < n) (w : Str) (rest : List D) (hw : ru.ds = .str w :: rest) (h1 : w ≠ "turns") (h2 : w ≠ "rank") (h3 : w ≠ "meet") (p : Good → Bool)
    (hp : (w ≠ "many" ∧ ∀ g, p g = true) ∨ (w = "many" ∧ ∀ g, p g = (g.kind == f.good.kind))) :
    ∃ e, tailR [.frz (.tup ru.ds), .frz (rowsD R), .frz (.lst (((((byAge R).filter fun f => p f.good).take n).map Fd.spot).map spD)), .frz (.int now), .dead, .dead, .dead, .dead] = some (.ret (.frz (.bl true)) (.frz (.tup ru.ds) :: e)) := by
  have i0 : ix2 (some (.frz (.tup ru.ds))) (some (.frz (.int 0))) = some (.frz (.str w)) := by rw [hw]; exact ix_t0
  have pf : p f.good = true := by
    rcases hp with ⟨_, h⟩ | ⟨_, h⟩
    · exact h _
    · rw [h]; simp
  have hF : (byAge R).filter (fun f => p f.good) = f :: fs.filter (fun f => p f.good) := by rw [hb, List.filter_cons, if_pos pf]
  have hne : (byAge R).filter (fun f => p f.good) ≠ [] := by rw [hF]; simp
  obtain ⟨svs, so⟩ := ev_eldest_so (R := R) (if w = "many" then .str f.good.kind else .non) p (by
    rcases hp with ⟨a, h⟩ | ⟨a, h⟩
    · exact .inl ⟨if_neg a, h⟩
    · exact .inr ⟨f.good.kind, if_pos a, h⟩) n hn hne (by omega)
  have cso := cl3 so
  have fm : f ∈ byAge R := by rw [hb]; simp
  have ca := cl_age (valid_fd fm)
  rw [age_fd fm] at ca
  have cf := cl_first_all hb (by omega)
  obtain ⟨X, hX⟩ : ∃ X, X = ((byAge R).filter fun f => p f.good).take n := ⟨_, rfl⟩
  have xmem : ∀ g ∈ X, g ∈ byAge R ∧ p g.good = true := fun g hg => by
    rw [hX] at hg
    exact ⟨(List.mem_filter.mp (List.mem_of_mem_take hg)).1, (List.mem_filter.mp (List.mem_of_mem_take hg)).2⟩
  have xlen : X.length ≤ 60 := by
    have h := (List.take_sublist n ((byAge R).filter fun f => p f.good)).length_le
    have h2 := List.length_filter_le (fun f : Fd => p f.good) (byAge R)
    rw [len_byAge] at h2
    rw [hX]; omega
  rw [← hX] at cso ⊢
  have x0 : ∃ r, X = f :: r := by
    rw [hX, hF]
    cases n with
    | zero => omega
    | succ n => exact ⟨_, rfl⟩
  obtain ⟨r, hr⟩ := x0
  have s0 : ix2 (some (.frz (.lst ((X.map Fd.spot).map spD)))) (some (.frz (.int 0))) = some (.frz (spD f.spot)) := by rw [hr]; exact ix_l0
  obtain ⟨_, i, j, a1, a2, row, a3, a4⟩ := at_of fm
  have p0 : ix2 (some (.frz (spD f.spot))) (some (.frz (.int 0))) = some (.frz (.int (i : Int))) := by unfold Fd.spot; rw [a1]; exact ix_t0
  have p1 : ix2 (some (.frz (spD f.spot))) (some (.frz (.int 1))) = some (.frz (.int (j : Int))) := by unfold Fd.spot; rw [a2]; exact ix_t1
  have ir := ix_rowN a3
  have ig := ix_goodN a4
  have g2 : ix2 (some (.frz f.good.d)) (some (.frz (.int 2))) = some (.frz (.str f.good.kind)) := ix_t2
  have tne : gNe (triT f.t3) (tri f) = some (.bl false) := gNe_self (n := 1) (d := tri f) (.tup (.cons .int (.cons .int (.cons .int .nil)))) (by omega)
  -- the kinds of what is told
  have hck : ∀ KN : D, lc1 [6, 7] (gTp 2 (gCn (gNm 6) (gCn (gNm 7) gNl))) yesT c0__law_right [.frz (.tup ru.ds), .frz (rowsD R), .frz (.lst ((X.map Fd.spot).map spD)), .frz (.int now), .frz KN, .dead, .dead, .dead] (some (X.map fun g => spD g.spot)) = some (.lst (X.map fun g => O.frz (.str g.good.kind))) := fun KN =>
    lc1_m (m := c0__law_right) (g := gTp 2 (gCn (gNm 6) (gCn (gNm 7) gNl))) (vs := [6, 7]) (env := [.frz (.tup ru.ds), .frz (rowsD R), .frz (.lst ((X.map Fd.spot).map spD)), .frz (.int now), .frz KN, .dead, .dead, .dead]) (fun g : Fd => spD g.spot) (fun g => O.frz (.str g.good.kind)) X rfl (by omega) fun g hg => by
      obtain ⟨_, i, j, a1, a2, row, a3, a4⟩ := at_of (xmem g hg).1
      have ir := ix_rowN a3
      have ig := ix_goodN a4
      have g2 : ix2 (some (.frz g.good.d)) (some (.frz (.int 2))) = some (.frz (.str g.good.kind)) := ix_t2
      refine ⟨[.frz (.tup ru.ds), .frz (rowsD R), .frz (.lst ((X.map Fd.spot).map spD)), .frz (.int now), .frz KN, .dead, .frz (.int (i : Int)), .frz (.int (j : Int))], by
        generalize D.lst ((X.map Fd.spot).map spD) = SS
        unfold Fd.spot
        rw [a1, a2]
        simp [spD], ?_⟩
      rw [c0__law_right]
      simp only [takE_c, eIx_c, eC_c, eVar_c, List.getElem?_cons_succ, List.getElem?_cons_zero, rdS_frz, ir, ig, g2, tk1_f]
  have ls : (O.frz (.lst ((X.map Fd.spot).map spD))).litems = some (X.map fun g => spD g.spot) := by
    rw [litems_f, List.map_map]; rfl
  have hck := hck (.str f.good.kind)
  generalize D.lst ((X.map Fd.spot).map spD) = SL at s0 cso hck ls ⊢
  generalize rowsD R = RR at ca cf ir cso hck ⊢
  have s4 : u4__law_right [.frz (.tup ru.ds), .frz RR, .frz SL, .frz (.int now), .dead, .dead, .dead, .dead] = some (.nx [.frz (.tup ru.ds), .frz RR, .frz SL, .frz (.int now), .frz (.str f.good.kind), .dead, .dead, .dead]) := by
    rw [u4__law_right]
    simp only [sSet_c, takE_c, eIx_c, eC_c, eVar_c, List.getElem?_cons_succ, List.getElem?_cons_zero, rdS_frz, s0, p0, p1, ir, ig, g2, tk1_f, st1_e, slot_f]
    rfl
  have s5 : u5__law_right [.frz (.tup ru.ds), .frz RR, .frz SL, .frz (.int now), .frz (.str f.good.kind), .dead, .dead, .dead] = some (.nx [.frz (.tup ru.ds), .frz RR, .frz SL, .frz (.int now), .frz (.str f.good.kind), .dead, .dead, .dead]) := by
    rw [u5__law_right, sIf_c]
    simp only [tst_c, eOp2_c, frzE_c, eCall_c, eCons_c, eIx_c, eC_c, eVar_c, List.getElem?_cons_succ, List.getElem?_cons_zero, rdS_frz, s0, eNil_c, cons2_s, ca, cf, fz1_s, toD_frz, ap2_s, sc2_s, tne, fr_s, tst1_b, if1_f, sNx_c]
  have head : tailR [.frz (.tup ru.ds), .frz RR, .frz SL, .frz (.int now), .dead, .dead, .dead, .dead] = sSeq u6__law_right u7__law_right [.frz (.tup ru.ds), .frz RR, .frz SL, .frz (.int now), .frz (.str f.good.kind), .dead, .dead, .dead] := by
    rw [tailR, sSeq_c, u2_no hw h1 h2, thS_n, sSeq_c, u3_no hw h3, thS_n, sSeq_c, s4, thS_n, sSeq_c, s5, thS_n]
  rw [head]
  rcases hp with ⟨hm, _⟩ | ⟨hm, hk⟩
  · rw [if_neg hm] at cso
    have gq : gEq (.str w) (.str "many") = some (.bl false) := by rw [gEq_ss, beq_eq_false_iff_ne.mpr hm]
    refine ⟨[.frz RR, .frz SL, .frz (.int now), .frz (.str f.good.kind), .dead, .dead, .dead], ?_⟩
    rw [sSeq_c, u6__law_right, sIf_c]
    simp only [tst_c, eOp2_c, eIx_c, eC_c, eVar_c, List.getElem?_cons_succ, List.getElem?_cons_zero, rdS_frz, i0, ap2_s, sc2_s, toD_frz, gq, fr_s, tst1_b, if1_f, sNx_c, thS_n]
    rw [u7__law_right]
    simp only [sRet_c, eCall_c, eCons_c, eC_c, eVar_c, List.getElem?_cons_succ, List.getElem?_cons_zero, rdS_frz, eNil_c, cons2_s, cso, rt1_s]
  · rw [if_pos hm] at cso
    have gq : gEq (.str w) (.str "many") = some (.bl true) := by rw [gEq_ss, hm, beq_self_eq_true]
    have kinds : (O.lst (X.map fun g => O.frz (.str g.good.kind))).toD = .lst (List.replicate X.length (.str f.good.kind)) := by
      rw [toD_lst, List.map_map]
      congr 1
      have : ∀ g ∈ X, (O.toD ∘ fun g : Fd => O.frz (.str g.good.kind)) g = D.str f.good.kind := fun g hg => by
        have := (xmem g hg).2
        rw [hk] at this
        show (O.frz (.str g.good.kind)).toD = _
        rw [toD_frz, eq_of_beq this]
      rw [List.map_congr_left this, List.map_const']
    have mul := oMulK [.str f.good.kind] X.length (by omega) (by simp)
    rw [flat_rep] at mul
    have ol : oLen (.frz (.lst (List.replicate X.length (.str f.good.kind)))) = some (.frz (.int (X.length : Int))) := by rw [oLen_l, List.length_replicate]
    have ge : gEq (.lst (List.replicate X.length (.str f.good.kind))) (.lst (List.replicate X.length (.str f.good.kind))) = some (.bl true) := by
      have e : List.replicate X.length (D.str f.good.kind) = X.map fun _ => D.str f.good.kind := (List.map_const' ..).symm
      rw [e]
      exact gEq_self (n := 1) (.lst (.map fun _ _ => .str)) (by omega)
    have mul : oMul (.frz (.lst [.str f.good.kind])) (.frz (.int (X.length : Int))) = some (newL (List.replicate X.length (.str f.good.kind))) := mul
    have tm : (newL (List.replicate X.length (D.str f.good.kind))).toD = .lst (List.replicate X.length (.str f.good.kind)) := toD_newL
    have t1 : (O.lst [O.frz (.str f.good.kind)]).toD = .lst [.str f.good.kind] := rfl
    obtain ⟨KL, hKL⟩ : ∃ KL, KL = D.lst (List.replicate X.length (.str f.good.kind)) := ⟨_, rfl⟩
    rw [← hKL] at kinds ol ge tm
    generalize newL (List.replicate X.length (D.str f.good.kind)) = ML at mul tm
    have s0 : sSet 5 (frzE (eLcN (iLTc (eVar 2)) [6, 7] (gTp 2 (gCn (gNm 6) (gCn (gNm 7) gNl))) yesT c0__law_right)) [.frz (.tup ru.ds), .frz RR, .frz SL, .frz (.int now), .frz (.str f.good.kind), .dead, .dead, .dead] = some (.nx [.frz (.tup ru.ds), .frz RR, .frz SL, .frz (.int now), .frz (.str f.good.kind), .frz KL, .dead, .dead]) := by
      simp only [sSet_c, frzE_c, eLcN_c, iLTc_c, eVar_c, List.getElem?_cons_succ, List.getElem?_cons_zero, rdS_frz, it1_s, ls, Option.some_or, hck, fz1_s, kinds, st1_e, slot_f]
      rfl
    have e1 : frzE (eOp2 (sc2 gEq) (eVar 5) (frzE (eOp2 oMul (frzE (eLst (eCons (takE (eVar 4)) eNil))) (frzE (eOpN (n1 oLen) (eCons (eVar 5) eNil)))))) [.frz (.tup ru.ds), .frz RR, .frz SL, .frz (.int now), .frz (.str f.good.kind), .frz KL, .dead, .dead] = some (.frz (.bl true)) := by
      simp only [frzE_c, eOp2_c, eLst_c, eOpN_c, eCons_c, takE_c, eVar_c, List.getElem?_cons_succ, List.getElem?_cons_zero, rdS_frz, tk1_f, eNil_c, cons2_s, lst1_s (show [O.frz (D.str f.good.kind)].length ≤ 1000 by simp), fz1_s, t1, bN_s, n1_s, ol, toD_frz, ap2_s, mul, tm, sc2_s, ge, fr_s]
    have e2 : frzE (eCall 3 f__law_eldest_so (eCons (eVar 1) (eCons (eVar 2) (eCons (eVar 4) eNil)))) [.frz (.tup ru.ds), .frz RR, .frz SL, .frz (.int now), .frz (.str f.good.kind), .frz KL, .dead, .dead] = some (.frz (.bl true)) := by
      simp only [frzE_c, eCall_c, eCons_c, eVar_c, List.getElem?_cons_succ, List.getElem?_cons_zero, rdS_frz, eNil_c, cons2_s, cso, fz1_s, toD_frz]
    refine ⟨[.frz RR, .frz SL, .frz (.int now), .frz (.str f.good.kind), .frz KL, .dead, .dead], ?_⟩
    rw [sSeq_c, u6__law_right, sIf_c]
    simp only [tst_c, eOp2_c, eIx_c, eC_c, eVar_c, List.getElem?_cons_succ, List.getElem?_cons_zero, rdS_frz, i0, ap2_s, sc2_s, toD_frz, gq, fr_s, tst1_b, if1_t]
    rw [sSeq_c, s0, thS_n, sRet_c, takE_c, eAnd_c, e1, eAnd1_t, e2, tk1_f, rt1_s, thS_r]
theorem ev_right (ru : Rule) (R : List Row) (t : Nat × Int) (now : Int) (hr : Rising R) (ok : RowsOk ru R t) (mo : MostOk ru) (ht : total R ≤ 60) (hR : R.length ≤ 1000) :
    ∃ svs, f__law_right [.frz (.tup ru.ds), .frz (rowsD R), .frz (.lst ((load ru R t now).1.map spD)), .frz (.int now)] = some (.frz (.bl true), svs) := by
  have h0 := ok.ne
  have aged : ∀ (p : Good → Bool) (n : Nat), (∀ s ∈ ((((byAge R).filter fun f => p f.good).take n).map Fd.spot), Valid R s) ∧ ((((byAge R).filter fun f => p f.good).take n).map Fd.spot).Nodup := fun p n => by
    have sub : (((byAge R).filter fun f => p f.good).take n).Sublist (byAge R) := (List.take_sublist _ _).trans List.filter_sublist
    refine ⟨fun s hs => ?_, sub_nodup sub⟩
    obtain ⟨f, hf, rfl⟩ := List.mem_map.mp hs
    exact valid_fd (sub.subset hf)
  cases hb : byAge R with
  | nil =>
    have e : (load ru R t now).1 = [] := by
      cases ru with
      | turns sh => simp only [load, hb]
      | eldest => simp only [load, hb]; rfl
      | many m => simp only [load, hb, manySpots]
      | meet => simp only [load, hb, metGo]
      | rank b => simp only [load, hb, rankSpots]
      | gather m a => simp only [load, hb, gatherSpots]
    rw [e]
    exact right_of ru R now [] h0 ht hR (by unfold nd; rw [hb]; rfl) (fun s hs => by cases hs) .nil fun z => absurd rfl z
  | cons f fs =>
    have one : ∀ q : Nat, (∃ r g, R[q]? = some r ∧ r[0]? = some g) → (∀ s ∈ [((q : Int), (0 : Int))], Valid R s) := fun q ⟨r, g, h1, h2⟩ s hs => by
      rw [List.mem_singleton.mp hs]
      exact ⟨q, 0, r, g, rfl, h1, h2⟩
    cases ru with
    | turns sh =>
      obtain ⟨q, t', e, w⟩ := load_turns ok hb now
      rw [e]
      exact right_of _ R now _ h0 ht hR (by unfold nd; rw [hb]; rfl) (one q w) (by simp) fun _ => tail_one _ R now q "turns" _ rfl (.inl rfl)
    | rank b =>
      obtain ⟨q, e, w⟩ := load_rank (b := b) (t := t) hr hb now
      rw [e]
      exact right_of _ R now _ h0 ht hR (by unfold nd; rw [hb]; rfl) (one q w) (by simp) fun _ => tail_one _ R now q "rank" _ rfl (.inr rfl)
    | eldest =>
      rw [load_eldest]
      obtain ⟨v1, v2⟩ := aged (fun _ => true) 1
      have ne : ((((byAge R).filter fun _ => true).take 1).map Fd.spot).isEmpty = false := by rw [hb]; rfl
      have ndf : nd .eldest R now = false := by unfold nd; rw [hb]
      exact right_of _ R now _ h0 ht hR (ndf.trans ne.symm) v1 v2 fun _ => tail_age hb ht 1 (by omega) "eldest" _ rfl (by simp) (by simp) (by simp) (fun _ => true) (.inl ⟨by simp, fun _ => rfl⟩)
    | gather m a =>
      have hm : 1 ≤ m := mo
      rw [load_gather hb]
      by_cases z : nd (.gather m a) R now = true
      · rw [if_pos z]
        exact right_of _ R now [] h0 ht hR z (fun s hs => by cases hs) .nil fun z => absurd rfl z
      · rw [if_neg z]
        obtain ⟨v1, v2⟩ := aged (fun _ => true) m
        have ne : ((((byAge R).filter fun _ => true).take m).map Fd.spot).isEmpty = false := by
          rw [hb]
          cases m with
          | zero => omega
          | succ m => rfl
        exact right_of _ R now _ h0 ht hR (by rw [ne]; simpa using z) v1 v2 fun _ => tail_age hb ht m (by omega) "gather" _ rfl (by simp) (by simp) (by simp) (fun _ => true) (.inl ⟨by simp, fun _ => rfl⟩)
    | many m =>
      have hm : 1 ≤ m := mo
      rw [load_many hb]
      obtain ⟨v1, v2⟩ := aged (fun g => g.kind == f.good.kind) m
      have ne : ((((byAge R).filter fun g => g.good.kind == f.good.kind).take m).map Fd.spot).isEmpty = false := by
        rw [hb, List.filter_cons, if_pos (by simp)]
        cases m with
        | zero => omega
        | succ m => rfl
      have ndf : nd (.many m) R now = false := by unfold nd; rw [hb]
      exact right_of _ R now _ h0 ht hR (ndf.trans ne.symm) v1 v2 fun _ => tail_age hb ht m (by omega) "many" _ rfl (by simp) (by simp) (by simp) (fun g => g.kind == f.good.kind) (.inr ⟨rfl, fun _ => rfl⟩)
    | meet =>
      rcases load_meet (t := t) (now := now) h0 hb with ⟨h1, pc, h2, h3⟩ | ⟨h1, h2⟩
      · rw [h3]
        obtain ⟨n1, n2⟩ := zip_nodup pc R 0
        have ne : ((R.zipIdx).map (metSpot pc)).isEmpty = false := by
          cases R with
          | nil => exact absurd rfl h0
          | cons r R => rfl
        refine right_of _ R now _ h0 ht hR (by unfold nd; rw [hb, ne]; simp [h1]) (fun s hs => ?_) n1 fun _ => tail_meet now h2 h0 hR
        obtain ⟨q, hq, rfl⟩ := List.mem_map.mp hs
        obtain ⟨j, g, e1, e2, e3, _⟩ := met_at h2 hq
        exact ⟨q.2, j, q.1, g, e1, e2, e3⟩
      · rw [h2]
        exact right_of _ R now [] h0 ht hR (by unfold nd; rw [hb]; simp [h1]) (fun s hs => by cases hs) .nil fun z => absurd rfl z
theorem sAct_e27 {F : O → List O → Option O} {q : Qm} {ms : Es} {env : VL.Env} {os : List O} {rp : Nat × List Stp} {n n' : O} (hq : q env = some rp) (hn : okQ env rp = some n) (hi : isLst n = true) (hm : ms env = some os) (hf : F n os = some n') : sAct F q ms env = some (.nx (mutS env rp.1 rp.2 n')) := by
  unfold sAct
  rw [hq, hm]
  simp only [Option.bind_some, hn, hi, if_true, hf, Option.map_some]
structure Law27 (many : Nat) (R : List Row) (t : Nat × Int) : Prop where
  m0 : 0 < many
  m1 : many ≤ 1000
  ri : Rising R
  len : R.length = many
  tot : total R ≤ 60
theorem k27_loop (many : Nat) (now : Int) (R : List Row) (t : Nat × Int) (L : Law27 many R t) (S M Sh Ru : SV) (hS : plS S = true) (hM : plS M = true) (hSh : plS Sh = true) (hRu : plS Ru = true) (MN : D) :
    ∀ (us : List Rule) (x8 x9 : SV), plS x8 = true → plS x9 = true → (∀ ru ∈ us, RowsOk ru R t ∧ MostOk ru) →
    ∃ y8 y9 : SV, plS y8 = true ∧ plS y9 = true ∧ loop (gNm 8) b0_law (us.map fun ru => D.tup ru.ds) [S, .frz MN, M, Sh, Ru, .frz (rowsD R), .frz (.int now), .frz (tnD t), x8, x9, .dead, .dead] = some (.nx [S, .frz MN, M, Sh, Ru, .frz (rowsD R), .frz (.int now), .frz (tnD t), y8, y9, .dead, .dead])
  | [], x8, x9, h8, h9, hu => ⟨x8, x9, h8, h9, by simp⟩
  | ru :: us, x8, x9, h8, h9, hu => by
    obtain ⟨ok, mo⟩ := hu ru (by simp)
    obtain ⟨LD, hLD⟩ : ∃ LD : D, LD = .tup [.lst ((load ru R t now).1.map spD), tnD (load ru R t now).2] := ⟨_, rfl⟩
    obtain ⟨y8, y9, g8, g9, e⟩ := k27_loop many now R t L S M Sh Ru hS hM hSh hRu MN us (.frz (.tup ru.ds)) (.frz LD) rfl rfl fun r hr => hu r (by simp [hr])
    refine ⟨y8, y9, g8, g9, ?_⟩
    have rl : (O.frz (rowsD R)).litems = some (R.map rowD) := rfl
    have hl : R.length ≤ 1000 := by rw [L.len]; exact L.m1
    have hc := lc1_m (m := c1_law) (g := gNm 11) (vs := [11]) (env := [S, .frz MN, M, Sh, Ru, .frz (rowsD R), .frz (.int now), .frz (tnD t), .frz (.tup ru.ds), x9, .dead, .dead]) rowD (fun r => newL (r.map Good.d)) R (by simp [nS_p hS, nS_p hM, nS_p hSh, nS_p hRu, nS_p h9]) (by omega) fun r hr => by
      have : oList (.frz (rowD r)) = some (newL (r.map Good.d)) := rfl
      refine ⟨[S, .frz MN, M, Sh, Ru, .frz (rowsD R), .frz (.int now), .frz (tnD t), .frz (.tup ru.ds), x9, .dead, .frz (rowD r)], by simp [hS, hM, hSh, hRu, h9, kS_p hS, kS_p hM, kS_p hSh, kS_p hRu, kS_p h9], ?_⟩
      rw [c1_law]
      simp only [eOpN_c, eCons_c, eVar_c, List.getElem?_cons_succ, List.getElem?_cons_zero, rdS_frz, eNil_c, cons2_s, bN_s, n1_s, this]
    have mm : (O.lst (R.map fun r => newL (r.map Good.d))).toD = rowsD R := ownR_toD R
    obtain ⟨o, e1, e2⟩ := ev_load ru R t now ok
    have c2 := cl4 e1
    rw [← hLD] at e2
    obtain ⟨svs, er⟩ := ev_right ru R t now L.ri ok mo L.tot hl
    have cr := cl4 er
    have l0 : ix2 (some (.frz LD)) (some (.frz (.int 0))) = some (.frz (.lst ((load ru R t now).1.map spD))) := by rw [hLD]; exact ix_t0
    have l1 : ix2 (some (.frz LD)) (some (.frz (.int 1))) = some (.frz (tnD (load ru R t now).2)) := by rw [hLD]; exact ix_t1
    have il : isi1 "tuple" (some (.frz LD)) = some (.frz (.bl true)) := by rw [hLD]; exact isi1_tt
    have ol : oLen (.frz LD) = some (.frz (.int 2)) := by rw [hLD]; exact oLen_t
    have g2 : gNe (.int 2) (.int 2) = some (.bl false) := by rw [gNe_ii]; simp
    -- who turns
    obtain ⟨w, rest, hw, _⟩ := name_of ru
    have i0 : ix2 (some (.frz (.tup ru.ds))) (some (.frz (.int 0))) = some (.frz (.str w)) := by rw [hw]; exact ix_t0
    have gw : gNe (.str w) (.str "turns") = some (.bl (w != "turns")) := gNe_ss
    have tn : (w != "turns") = true → (load ru R t now).2 = t := fun h => by
      cases ru with
      | turns sh =>
        have : w = "turns" := by
          have := congrArg List.head? hw
          simp [Rule.ds] at this
          exact this.symm
        rw [this] at h
        simp at h
      | eldest => rfl
      | rank b => rfl
      | many m => rfl
      | gather m a => rfl
      | meet => rfl
    have tg : gNm 8 (.frz (.tup ru.ds)) [S, .frz MN, M, Sh, Ru, .frz (rowsD R), .frz (.int now), .frz (tnD t), x8, x9, .dead, .dead] = some [S, .frz MN, M, Sh, Ru, .frz (rowsD R), .frz (.int now), .frz (tnD t), .frz (.tup ru.ds), x9, .dead, .dead] := by
      simp [hS, hM, hSh, hRu, h8, h9]
    have isl : isi1 "list" (some (.frz (.lst ((load ru R t now).1.map spD)))) = some (.frz (.bl true)) := isi1_ll
    generalize D.lst ((load ru R t now).1.map spD) = SP at l0 cr isl
    rw [List.map_cons, loop_cons, tg, bdE_s]
    have nsp : ∀ T2 : D, ((w != "turns") = true → T2 = tnD t) → ix2 (some (.frz LD)) (some (.frz (.int 1))) = some (.frz T2) → tAnd2 (tst (eOp2 (sc2 gNe) (eIx (eVar 8) (eC (.int 0))) (eC (.str "turns")))) (tst (eOp2 (sc2 gNe) (eIx (eVar 9) (eC (.int 1))) (eVar 7))) [S, .frz MN, M, Sh, Ru, .frz (rowsD R), .frz (.int now), .frz (tnD t), .frz (.tup ru.ds), .frz LD, .dead, .dead] = some false := fun T2 hT l1 => by
      have h1 : tst (eOp2 (sc2 gNe) (eIx (eVar 8) (eC (.int 0))) (eC (.str "turns"))) [S, .frz MN, M, Sh, Ru, .frz (rowsD R), .frz (.int now), .frz (tnD t), .frz (.tup ru.ds), .frz LD, .dead, .dead] = some (w != "turns") := by
        simp only [tst_c, eOp2_c, eIx_c, eC_c, eVar_c, List.getElem?_cons_succ, List.getElem?_cons_zero, rdS_frz, i0, ap2_s, sc2_s, toD_frz, gw, fr_s, tst1_b]
      rw [tAnd2_c, h1]
      cases hb : (w != "turns") with
      | false => rw [and2_f]
      | true =>
        have hT := hT hb
        subst hT
        have ne : gNe (tnD t) (tnD t) = some (.bl false) := gNe_self (n := 1) (.tup (.cons .int (.cons .int .nil))) (by omega)
        rw [and2_t]
        simp only [tst_c, eOp2_c, eIx_c, eC_c, eVar_c, List.getElem?_cons_succ, List.getElem?_cons_zero, rdS_frz, l1, ap2_s, sc2_s, toD_frz, ne, fr_s, tst1_b]
    have nsp := nsp _ (fun h => by rw [tn h]) l1
    have s0 : sSet 9 (takE (frzE (eCall 4 f_load_of (eCons (eVar 8) (eCons (frzE (eLcN (iLTc (eVar 5)) [11] (gNm 11) yesT c1_law)) (eCons (eVar 7) (eCons (eVar 6) eNil))))))) [S, .frz MN, M, Sh, Ru, .frz (rowsD R), .frz (.int now), .frz (tnD t), .frz (.tup ru.ds), x9, .dead, .dead] = some (.nx [S, .frz MN, M, Sh, Ru, .frz (rowsD R), .frz (.int now), .frz (tnD t), .frz (.tup ru.ds), .frz LD, .dead, .dead]) := by
      simp only [sSet_c, takE_c, frzE_c, eCall_c, eCons_c, eLcN_c, iLTc_c, eVar_c, List.getElem?_cons_succ, List.getElem?_cons_zero, rdS_frz, it1_s, rl, Option.some_or, hc, fz1_s, mm, eNil_c, cons2_s, c2, e2, tk1_f, st1_e, slot_f]
      simp [hS, hM, hSh, hRu, h9]
    have bd : b0_law [S, .frz MN, M, Sh, Ru, .frz (rowsD R), .frz (.int now), .frz (tnD t), .frz (.tup ru.ds), x9, .dead, .dead] = some (.nx [S, .frz MN, M, Sh, Ru, .frz (rowsD R), .frz (.int now), .frz (tnD t), .frz (.tup ru.ds), .frz LD, .dead, .dead]) := by
      have c1 : tOr2 (tNot1 (tru (frzE (eIsi "tuple" (eVar 9))))) (tOr2 (tst (eOp2 (sc2 gNe) (frzE (eOpN (n1 oLen) (eCons (eVar 9) eNil))) (eC (.int 2)))) (tNot1 (tru (frzE (eIsi "list" (eIx (eVar 9) (eC (.int 0)))))))) [S, .frz MN, M, Sh, Ru, .frz (rowsD R), .frz (.int now), .frz (tnD t), .frz (.tup ru.ds), .frz LD, .dead, .dead] = some false := by
        simp only [tOr2_c, tNot1_c, tru_c, frzE_c, eIsi_c, eVar_c, List.getElem?_cons_succ, List.getElem?_cons_zero, rdS_frz, il, fz1_s, toD_frz, tru1_b, not1_s, Bool.not_true, or2_f, tst_c, eOp2_c, eOpN_c, eCons_c, eNil_c, cons2_s, bN_s, n1_s, ol, eC_c, ap2_s, sc2_s, g2, fr_s, tst1_b, eIx_c, l0, isl]
      have c3 : tNot1 (tru (frzE (eCall 4 f__law_right (eCons (eVar 8) (eCons (eVar 5) (eCons (eIx (eVar 9) (eC (.int 0))) (eCons (eVar 6) eNil))))))) [S, .frz MN, M, Sh, Ru, .frz (rowsD R), .frz (.int now), .frz (tnD t), .frz (.tup ru.ds), .frz LD, .dead, .dead] = some false := by
        simp only [tNot1_c, tru_c, frzE_c, eCall_c, eCons_c, eIx_c, eC_c, eVar_c, List.getElem?_cons_succ, List.getElem?_cons_zero, rdS_frz, l0, eNil_c, cons2_s, cr, fz1_s, toD_frz, tru1_b, not1_s, Bool.not_true]
      rw [b0_law, sSeq_c, s0, thS_n, sSeq_c, sIf_c, c1, if1_f, sNx_c, thS_n, sSeq_c, sIf_c, c3, if1_f, sNx_c, thS_n, sIf_c, nsp, if1_f, sNx_c]
    rw [bd, lp2_n, e]
theorem rowsOk27 (ru : Rule) (many : Nat) (R : List Row) (t : Nat × Int) (h0 : 0 < many) (h6 : many ≤ 6) (hR : R.length = many) (ht : total R ≤ 100000) (hp : t.1 < many) (hsh : ∀ sh, ru = .turns sh → sh.length = many ∧ ∀ x ∈ sh, 1 ≤ x) : RowsOk ru R t := by
  refine ⟨ht, by omega, fun z => by rw [z] at hR; simp at hR; omega, fun sh e => ?_⟩
  obtain ⟨h1, h2⟩ := hsh sh e
  refine ⟨by omega, by omega, fun hb => ?_⟩
  refine ⟨R.length + 2, by omega, turn_ends R sh (fun p hp2 => ?_) (byAge_ne hb) t.1 t.2 (R.length + 2) (by omega) (by omega)⟩
  have : p < sh.length := by omega
  simp [this]
  exact h2 _ (List.getElem_mem this)
theorem itRn27 (n : Nat) (h : n ≤ 100000) : itR (some [.frz (.int n)]) = some ((List.range n).map fun (i : Nat) => D.int i) := by
  rw [itR_i (by omega), ← rng_map]
  simp
theorem plain27 (ns : List Int) : ∃ o svs, f_law [.frz (.scr ns)] = some (o, svs) ∧ o.toD = .bl true := by
  have hm6 : ∃ many : Nat, 1 + mix (cellAt ns 0) 1 % 6 = (many : Int) ∧ 0 < many ∧ many ≤ 6 := by
    have h1 := Int.emod_nonneg (mix (cellAt ns 0) 1) (show (6 : Int) ≠ 0 by decide)
    have h2 := Int.emod_lt_of_pos (mix (cellAt ns 0) 1) (show (0 : Int) < 6 by decide)
    exact ⟨(1 + mix (cellAt ns 0) 1 % 6).toNat, by omega, by omega, by omega⟩
  obtain ⟨many, hmany, h0, h6⟩ := hm6
  generalize hm : mix (cellAt ns 1) 2 = m
  have mn : 0 ≤ m := by rw [← hm]; exact mix_nn _ _
  -- the numbers of the rules
  have rk : ∃ b : Option Int, ix2 (some (.frz (.lst [.non, .int (m % 10)]))) (some (.frz (.int (m / 10 % 2)))) = some (.frz (bD b)) := by
    have a1 := Int.emod_nonneg (m / 10) (show (2 : Int) ≠ 0 by decide)
    have a2 := Int.emod_lt_of_pos (m / 10) (show (0 : Int) < 2 by decide)
    rcases (show m / 10 % 2 = 0 ∨ m / 10 % 2 = 1 by omega) with h | h
    · exact ⟨none, by rw [h]; exact ix_l0⟩
    · exact ⟨some (m % 10), by rw [h]; exact ix_l1⟩
  obtain ⟨b, hb⟩ := rk
  have my : ∃ k : Nat, 1 + m % 5 = (k : Int) ∧ 1 ≤ k := by
    have a1 := Int.emod_nonneg m (show (5 : Int) ≠ 0 by decide)
    exact ⟨(1 + m % 5).toNat, by omega, by omega⟩
  obtain ⟨mk, hmk, mk1⟩ := my
  have gy : ∃ k : Nat, 1 + m / 20 % 9 = (k : Int) ∧ 1 ≤ k := by
    have a1 := Int.emod_nonneg (m / 20) (show (9 : Int) ≠ 0 by decide)
    exact ⟨(1 + m / 20 % 9).toNat, by omega, by omega⟩
  obtain ⟨gk, hgk, gk1⟩ := gy
  -- shares
  have c1 : cl 2 f__law_cell_at (some [.frz (.scr ns), .frz (.int 0)]) = some (.frz (.int (cellAt ns 0))) := cl_cell ns 0
  have c2 : cl 2 f__law_cell_at (some [.frz (.scr ns), .frz (.int 1)]) = some (.frz (.int (cellAt ns 1))) := cl_cell ns 1
  have x1 := cl_mix (cellAt ns 0) 1 (by omega) (by omega)
  have x2 := cl_mix (cellAt ns 1) 2 (by omega) (by omega)
  rw [hm] at x2
  have hc := lc1_m (m := c0_law) (g := gNm 10) (vs := [10]) (env := [.frz (.scr ns), .frz (.int many), .frz (.int m), .dead, .dead, .dead, .dead, .dead, .dead, .dead, .dead, .dead]) (fun (i : Nat) => D.int i) (fun (k : Nat) => O.frz (.int (1 + mix m k % 3))) (List.range many) rfl (by simp; omega) fun k hk => by
    have hk2 : k < many := List.mem_range.mp hk
    refine ⟨[.frz (.scr ns), .frz (.int many), .frz (.int m), .dead, .dead, .dead, .dead, .dead, .dead, .dead, .frz (.int k), .dead], by simp, ?_⟩
    have := cl_mix m k (by omega) (by omega)
    simp [c0_law, this]
  have hsh : ((List.range many).map fun (k : Nat) => O.frz (.int (1 + mix m k % 3))).map O.toD = ((List.range many).map fun (k : Nat) => 1 + mix m k % 3).map D.int := by
    rw [List.map_map, List.map_map]
    exact List.map_congr_left fun _ _ => by simp
  generalize hshd : ((List.range many).map fun (k : Nat) => 1 + mix m k % 3) = sh at hsh
  have sh1 : sh.length = many := by rw [← hshd]; simp
  have sh2 : ∀ x ∈ sh, 1 ≤ x := by
    rw [← hshd]
    intro x hx
    obtain ⟨k, _, rfl⟩ := List.mem_map.mp hx
    have := Int.emod_nonneg (mix m k) (show (3 : Int) ≠ 0 by decide)
    omega
  have hr := itRn27 many (by omega)
  -- rows
  have cs : ∃ cells : List Int, cutA (ns.map D.int) (some 3) (some 63) = cells.map D.int := by
    refine ⟨(ns.drop 3).take 60, ?_⟩
    have := cut_ft (ns.map D.int) 3 63
    rw [List.map_take, List.map_drop]
    exact this
  obtain ⟨cells, hcs⟩ := cs
  have rw1 := cl2 (ev_rows cells many h0 (by omega))
  have ri : Rising (mkRows cells many) := rising_mk cells many
  generalize hR : mkRows cells many = R at rw1 ri
  have Rl : R.length = many := by rw [← hR]; exact mk_len _ _
  have Rt : total R ≤ 24 := by rw [← hR]; exact mk_total _ _
  have cl := cl1 (ev_latest R (by omega))
  -- the turn
  have tp : ∃ p : Nat, m / 7 % (many : Int) = p ∧ p < many := by
    have a1 := Int.emod_nonneg (m / 7) (show (many : Int) ≠ 0 by omega)
    have a2 := Int.emod_lt_of_pos (m / 7) (show (0 : Int) < many by omega)
    exact ⟨(m / 7 % (many : Int)).toNat, by omega, by omega⟩
  obtain ⟨p, hp, hp2⟩ := tp
  have L : Law27 many R (p, 0) := ⟨h0, by omega, ri, Rl, by omega⟩
  have okAll : ∀ ru : Rule, (∀ s, ru = .turns s → s = sh) → RowsOk ru R (p, 0) := fun ru hs => by
    have q : ∀ s, ru = .turns s → s.length = many ∧ ∀ x ∈ s, 1 ≤ x := fun s e => by rw [hs s e]; exact ⟨sh1, sh2⟩
    exact rowsOk27 ru many R (p, 0) h0 h6 Rl (by omega) hp2 q
  let us : List Rule := [.turns sh, .eldest, .rank b, .many mk, .gather gk (m / 180 % 10)] ++ if 1 < many then [.meet] else []
  have hus : ∀ ru ∈ us, RowsOk ru R (p, 0) ∧ MostOk ru := fun ru hu => ⟨okAll ru fun s e => by
    subst e
    simpa [us] using hu, by
    simp only [us, List.mem_append, List.mem_cons, List.not_mem_nil, or_false] at hu
    rcases hu with (h | h | h | h | h) | h
    · subst h; trivial
    · subst h; trivial
    · subst h; trivial
    · subst h; exact mk1
    · subst h; exact gk1
    · split at h
      · rw [List.mem_singleton.mp h]; trivial
      · cases h⟩
  obtain ⟨now, hnow⟩ : ∃ now, now = latest R + m / 1800 % 4 := ⟨_, rfl⟩
  obtain ⟨y8, y9, g8, g9, e⟩ := k27_loop many now R (p, 0) L (.frz (.scr ns)) (.frz (.int m)) (.frz (.tup (sh.map D.int))) (.frz (.lst (us.map fun ru => D.tup ru.ds))) rfl rfl rfl rfl (.int many) us .dead .dead rfl rfl hus
  refine ⟨.frz (.bl true), _, fn1 (e := [.frz (.scr ns), .frz (.int many), .frz (.int m), .frz (.tup (sh.map D.int)), .frz (.lst (us.map fun ru => D.tup ru.ds)), .frz (rowsD R), .frz (.int now), .frz (tnD (p, 0)), y8, y9, .dead, .dead]) ?_, by simp⟩
  let r4 : List D := [.tup [.str (Str.ofString "turns"), .tup (sh.map D.int)], .tup [.str (Str.ofString "eldest")], .tup [.str (Str.ofString "rank"), bD b], .tup [.str (Str.ofString "many"), .int mk]]
  let r5 : List D := r4 ++ [.tup [.str (Str.ofString "gather"), .int gk, .int (m / 180 % 10)]]
  have s0 : u0_law [.frz (.scr ns), .dead, .dead, .dead, .dead, .dead, .dead, .dead, .dead, .dead, .dead, .dead] = some (.nx [.frz (.scr ns), .frz (.int many), .dead, .dead, .dead, .dead, .dead, .dead, .dead, .dead, .dead, .dead]) := by
    simp [u0_law, c1, x1, hmany]
  have s1 : u1_law [.frz (.scr ns), .frz (.int many), .dead, .dead, .dead, .dead, .dead, .dead, .dead, .dead, .dead, .dead] = some (.nx [.frz (.scr ns), .frz (.int many), .frz (.int m), .dead, .dead, .dead, .dead, .dead, .dead, .dead, .dead, .dead]) := by
    simp [u1_law, c2, x2]
  have s2 : u2_law [.frz (.scr ns), .frz (.int many), .frz (.int m), .dead, .dead, .dead, .dead, .dead, .dead, .dead, .dead, .dead] = some (.nx [.frz (.scr ns), .frz (.int many), .frz (.int m), .frz (.tup (sh.map D.int)), .dead, .dead, .dead, .dead, .dead, .dead, .dead, .dead]) := by
    simp [u2_law, hr, hc, hsh, -List.map_map]
  have s3 : u3_law [.frz (.scr ns), .frz (.int many), .frz (.int m), .frz (.tup (sh.map D.int)), .dead, .dead, .dead, .dead, .dead, .dead, .dead, .dead] = some (.nx [.frz (.scr ns), .frz (.int many), .frz (.int m), .frz (.tup (sh.map D.int)), .own (newL r4), .dead, .dead, .dead, .dead, .dead, .dead, .dead]) := by
    simp [u3_law, r4, newL, hb, hmk]
  have s4 : u4_law [.frz (.scr ns), .frz (.int many), .frz (.int m), .frz (.tup (sh.map D.int)), .own (newL r4), .dead, .dead, .dead, .dead, .dead, .dead, .dead] = some (.nx [.frz (.scr ns), .frz (.int many), .frz (.int m), .frz (.tup (sh.map D.int)), .own (newL r5), .dead, .dead, .dead, .dead, .dead, .dead, .dead]) := by
    have ap := aAppend_n (ds := r4) (d := .tup [.str (Str.ofString "gather"), .int gk, .int (m / 180 % 10)]) (by simp [r4])
    rw [u4_law, sAct_e27 (n := newL r4) (rp := (4, [])) (os := [.frz (.tup [.str (Str.ofString "gather"), .int gk, .int (m / 180 % 10)])]) (by rw [qVar_c]; rfl) (by simp only [okQ_c, List.getElem?_cons_succ, List.getElem?_cons_zero, okq_o, walk_n]) rfl (by simp [hgk]) ap]
    simp only [mutS_c, List.getElem?_cons_succ, List.getElem?_cons_zero, mt_o, putW_n, kP_c, kP_f, kP_o, kP_i, kP_d, kP_nil, List.set_cons_succ, List.set_cons_zero, r5]
  have s5 : u5_law [.frz (.scr ns), .frz (.int many), .frz (.int m), .frz (.tup (sh.map D.int)), .own (newL r5), .dead, .dead, .dead, .dead, .dead, .dead, .dead] = some (.nx [.frz (.scr ns), .frz (.int many), .frz (.int m), .frz (.tup (sh.map D.int)), .own (newL (us.map fun ru => D.tup ru.ds)), .dead, .dead, .dead, .dead, .dead, .dead, .dead]) := by
    by_cases h1 : 1 < many
    · have h1' : (1 : Int) < many := by omega
      have ap := aAppend_n (ds := r5) (d := .tup [.str (Str.ofString "meet")]) (by simp [r5, r4])
      have eu : (us.map fun ru => D.tup ru.ds) = r5 ++ [.tup [.str (Str.ofString "meet")]] := by
        simp only [us, if_pos h1]
        rfl
      rw [eu, u5_law, sIf_c]
      simp only [tst_c, eOp2_c, eC_c, eVar_c, List.getElem?_cons_succ, List.getElem?_cons_zero, rdS_frz, ap2_s, sc2_s, toD_frz, gB_i, decide_eq_true h1', fr_s, tst1_b, if1_t]
      rw [sAct_e27 (n := newL r5) (rp := (4, [])) (os := [.frz (.tup [.str (Str.ofString "meet")])]) (by rw [qVar_c]; rfl) (by simp only [okQ_c, List.getElem?_cons_succ, List.getElem?_cons_zero, okq_o, walk_n]) rfl (by simp) ap]
      simp only [mutS_c, List.getElem?_cons_succ, List.getElem?_cons_zero, mt_o, putW_n, kP_c, kP_f, kP_o, kP_i, kP_d, kP_nil, List.set_cons_succ, List.set_cons_zero]
    · have h1' : ¬ (1 : Int) < many := by omega
      have eu : (us.map fun ru => D.tup ru.ds) = r5 := by
        simp only [us, if_neg h1]
        rfl
      rw [eu, u5_law, sIf_c]
      simp only [tst_c, eOp2_c, eC_c, eVar_c, List.getElem?_cons_succ, List.getElem?_cons_zero, rdS_frz, ap2_s, sc2_s, toD_frz, gB_i, decide_eq_false h1', fr_s, tst1_b, if1_f, sNx_c]
  have s6 : u6_law [.frz (.scr ns), .frz (.int many), .frz (.int m), .frz (.tup (sh.map D.int)), .own (newL (us.map fun ru => D.tup ru.ds)), .dead, .dead, .dead, .dead, .dead, .dead, .dead] = some (.nx [.frz (.scr ns), .frz (.int many), .frz (.int m), .frz (.tup (sh.map D.int)), .own (newL (us.map fun ru => D.tup ru.ds)), .frz (rowsD R), .dead, .dead, .dead, .dead, .dead, .dead]) := by
    generalize newL (us.map fun ru => D.tup ru.ds) = UL
    generalize rowsD R = RR at rw1 ⊢
    simp [u6_law, hcs, rw1]
  have s7 : u7_law [.frz (.scr ns), .frz (.int many), .frz (.int m), .frz (.tup (sh.map D.int)), .own (newL (us.map fun ru => D.tup ru.ds)), .frz (rowsD R), .dead, .dead, .dead, .dead, .dead, .dead] = some (.nx [.frz (.scr ns), .frz (.int many), .frz (.int m), .frz (.tup (sh.map D.int)), .own (newL (us.map fun ru => D.tup ru.ds)), .frz (rowsD R), .frz (.int now), .dead, .dead, .dead, .dead, .dead]) := by
    generalize newL (us.map fun ru => D.tup ru.ds) = UL
    generalize rowsD R = RR at cl ⊢
    simp [u7_law, cl, ← hnow]
  have s8 : u8_law [.frz (.scr ns), .frz (.int many), .frz (.int m), .frz (.tup (sh.map D.int)), .own (newL (us.map fun ru => D.tup ru.ds)), .frz (rowsD R), .frz (.int now), .dead, .dead, .dead, .dead, .dead] = some (.nx [.frz (.scr ns), .frz (.int many), .frz (.int m), .frz (.tup (sh.map D.int)), .own (newL (us.map fun ru => D.tup ru.ds)), .frz (rowsD R), .frz (.int now), .frz (tnD (p, 0)), .dead, .dead, .dead, .dead]) := by
    have gm : gMod (.int (m / 7)) (.int many) = some (.int (p : Nat)) := by rw [gMod_i (by omega), hp]
    generalize newL (us.map fun ru => D.tup ru.ds) = UL
    generalize rowsD R = RR
    simp [u8_law, gm, tnD]
  have s9 : u9_law [.frz (.scr ns), .frz (.int many), .frz (.int m), .frz (.tup (sh.map D.int)), .own (newL (us.map fun ru => D.tup ru.ds)), .frz (rowsD R), .frz (.int now), .frz (tnD (p, 0)), .dead, .dead, .dead, .dead] = some (.nx [.frz (.scr ns), .frz (.int many), .frz (.int m), .frz (.tup (sh.map D.int)), .frz (.lst (us.map fun ru => D.tup ru.ds)), .frz (rowsD R), .frz (.int now), .frz (tnD (p, 0)), y8, y9, .dead, .dead]) := by
    simp only [u9_law, sFz_c, fzS_c, List.getElem?_cons_succ, List.getElem?_cons_zero, fzo_o, kA_c, kS_f, kS_o, kS_d, kA_nil, toD_newL, List.set_cons_succ, List.set_cons_zero, sFor_c, iLT_c, eVar_c, rdS_frz, it1_s, seqF_l, Option.some_or, lp1_s, e]
  show m_law [.frz (.scr ns), .dead, .dead, .dead, .dead, .dead, .dead, .dead, .dead, .dead, .dead, .dead] = _
  rw [m_law, sSeq_c, s0, thS_n, sSeq_c, s1, thS_n, sSeq_c, s2, thS_n, sSeq_c, s3, thS_n, sSeq_c, s4, thS_n, sSeq_c, s5, thS_n, sSeq_c, s6, thS_n, sSeq_c, s7, thS_n, sSeq_c, s8, thS_n, sSeq_c, s9, thS_n]
  rfl
end Pr
namespace K27
open PySem PySem.Spec PyProof.Rows L2 VL Mr
/-! ### the text and its defs -/
structure Ctx (K : PySem.W.Frag) (mg : Str → Option Value) (fd : Nat → FuncData) : Prop where
  d_by_age : FunD K "by_age" "by_age" (defArgs s_by_age) (defBody s_by_age) (defScope s_by_age) [] [] (He.fAd K ("by_age", none)) (fd 0)
  g_by_age : mg "by_age" = some (.ref (He.fAd K ("by_age", none)))
  d_spots_of : FunD K "spots_of" "spots_of" (defArgs s_spots_of) (defBody s_spots_of) (defScope s_spots_of) [] [] (He.fAd K ("spots_of", none)) (fd 1)
  g_spots_of : mg "spots_of" = some (.ref (He.fAd K ("spots_of", none)))
  d_by_turns : FunD K "by_turns" "by_turns" (defArgs s_by_turns) (defBody s_by_turns) (defScope s_by_turns) [] [] (He.fAd K ("by_turns", none)) (fd 2)
  g_by_turns : mg "by_turns" = some (.ref (He.fAd K ("by_turns", none)))
  d_by_rank : FunD K "by_rank" "by_rank" (defArgs s_by_rank) (defBody s_by_rank) (defScope s_by_rank) [] [] (He.fAd K ("by_rank", none)) (fd 3)
  g_by_rank : mg "by_rank" = some (.ref (He.fAd K ("by_rank", none)))
  d_of_one_kind : FunD K "of_one_kind" "of_one_kind" (defArgs s_of_one_kind) (defBody s_of_one_kind) (defScope s_of_one_kind) [] [] (He.fAd K ("of_one_kind", none)) (fd 4)
  g_of_one_kind : mg "of_one_kind" = some (.ref (He.fAd K ("of_one_kind", none)))
  d_gathered : FunD K "gathered" "gathered" (defArgs s_gathered) (defBody s_gathered) (defScope s_gathered) [] [] (He.fAd K ("gathered", none)) (fd 5)
  g_gathered : mg "gathered" = some (.ref (He.fAd K ("gathered", none)))
  d_first_of : FunD K "first_of" "first_of" (defArgs s_first_of) (defBody s_first_of) (defScope s_first_of) [] [] (He.fAd K ("first_of", none)) (fd 6)
  g_first_of : mg "first_of" = some (.ref (He.fAd K ("first_of", none)))
  d_met : FunD K "met" "met" (defArgs s_met) (defBody s_met) (defScope s_met) [] [] (He.fAd K ("met", none)) (fd 7)
  g_met : mg "met" = some (.ref (He.fAd K ("met", none)))
  d_load_of : FunD K "load_of" "load_of" (defArgs s_load_of) (defBody s_load_of) (defScope s_load_of) [] [] (He.fAd K ("load_of", none)) (fd 8)
  g_load_of : mg "load_of" = some (.ref (He.fAd K ("load_of", none)))
  d__law_cell_at : FunD K "_law_cell_at" "_law_cell_at" (defArgs s__law_cell_at) (defBody s__law_cell_at) (defScope s__law_cell_at) [] [] (He.fAd K ("_law_cell_at", none)) (fd 9)
  g__law_cell_at : mg "_law_cell_at" = some (.ref (He.fAd K ("_law_cell_at", none)))
  d__law_mix : FunD K "_law_mix" "_law_mix" (defArgs s__law_mix) (defBody s__law_mix) (defScope s__law_mix) [] [] (He.fAd K ("_law_mix", none)) (fd 10)
  g__law_mix : mg "_law_mix" = some (.ref (He.fAd K ("_law_mix", none)))
  d__law_rows : FunD K "_law_rows" "_law_rows" (defArgs s__law_rows) (defBody s__law_rows) (defScope s__law_rows) [] [] (He.fAd K ("_law_rows", none)) (fd 11)
  g__law_rows : mg "_law_rows" = some (.ref (He.fAd K ("_law_rows", none)))
  d__law_latest : FunD K "_law_latest" "_law_latest" (defArgs s__law_latest) (defBody s__law_latest) (defScope s__law_latest) [] [] (He.fAd K ("_law_latest", none)) (fd 12)
  g__law_latest : mg "_law_latest" = some (.ref (He.fAd K ("_law_latest", none)))
  d__law_age : FunD K "_law_age" "_law_age" (defArgs s__law_age) (defBody s__law_age) (defScope s__law_age) [] [] (He.fAd K ("_law_age", none)) (fd 13)
  g__law_age : mg "_law_age" = some (.ref (He.fAd K ("_law_age", none)))
  d__law_stands : FunD K "_law_stands" "_law_stands" (defArgs s__law_stands) (defBody s__law_stands) (defScope s__law_stands) [] [] (He.fAd K ("_law_stands", none)) (fd 14)
  g__law_stands : mg "_law_stands" = some (.ref (He.fAd K ("_law_stands", none)))
  d__law_eldest_so : FunD K "_law_eldest_so" "_law_eldest_so" (defArgs s__law_eldest_so) (defBody s__law_eldest_so) (defScope s__law_eldest_so) [] [] (He.fAd K ("_law_eldest_so", none)) (fd 15)
  g__law_eldest_so : mg "_law_eldest_so" = some (.ref (He.fAd K ("_law_eldest_so", none)))
  d__law_first_of_all : FunD K "_law_first_of_all" "_law_first_of_all" (defArgs s__law_first_of_all) (defBody s__law_first_of_all) (defScope s__law_first_of_all) [] [] (He.fAd K ("_law_first_of_all", none)) (fd 16)
  g__law_first_of_all : mg "_law_first_of_all" = some (.ref (He.fAd K ("_law_first_of_all", none)))
  d__law_one_parcel : FunD K "_law_one_parcel" "_law_one_parcel" (defArgs s__law_one_parcel) (defBody s__law_one_parcel) (defScope s__law_one_parcel) [] [] (He.fAd K ("_law_one_parcel", none)) (fd 17)
  g__law_one_parcel : mg "_law_one_parcel" = some (.ref (He.fAd K ("_law_one_parcel", none)))
  d__law_none_due : FunD K "_law_none_due" "_law_none_due" (defArgs s__law_none_due) (defBody s__law_none_due) (defScope s__law_none_due) [] [] (He.fAd K ("_law_none_due", none)) (fd 18)
  g__law_none_due : mg "_law_none_due" = some (.ref (He.fAd K ("_law_none_due", none)))
  d__law_right : FunD K "_law_right" "_law_right" (defArgs s__law_right) (defBody s__law_right) (defScope s__law_right) [] [] (He.fAd K ("_law_right", none)) (fd 19)
  g__law_right : mg "_law_right" = some (.ref (He.fAd K ("_law_right", none)))
  d_law : FunD K "law" "law" (defArgs s_law) (defBody s_law) (defScope s_law) [] [] (He.fAd K ("law", none)) (fd 20)
  g_law : mg "law" = some (.ref (He.fAd K ("law", none)))
  n_all : mg "all" = none
  n_enumerate : mg "enumerate" = none
  n_isinstance : mg "isinstance" = none
  n_len : mg "len" = none
  n_list : mg "list" = none
  n_max : mg "max" = none
  n_min : mg "min" = none
  n_range : mg "range" = none
  n_set : mg "set" = none
  n_sorted : mg "sorted" = none
  n_sum : mg "sum" = none
  n_tuple : mg "tuple" = none
abbrev qual_by_age : Str := ("by_age" : Str) ++ ".<locals>."
def tabs (K : PySem.W.Frag) : List (Addr × Str) := [((He.cT K ("by_age", none)).2, qual_by_age ++ "<lambda>")]
structure Lam (K : PySem.W.Frag) (mg : Str → Option Value) (base : Heap) (T : Tab) : Prop where
  ok : True
  tb_by_age : LamX.TabB base mg (He.cT K ("by_age", none)).1 (He.cT K ("by_age", none)).2
  m_by_age : ((He.cT K ("by_age", none)).2, qual_by_age ++ "<lambda>") ∈ T
  u_by_age : ∀ p ∈ T, p.1 = (He.cT K ("by_age", none)).2 → p.2 = qual_by_age ++ "<lambda>"
section
variable {P : Program} {w : World} {K : PySem.W.Frag} {mg : Str → Option Value} {base : Heap} {T : Tab} {fd : Nat → FuncData}
theorem sc_by_age : FnScope n_by_age p_by_age (defScope s_by_age) := ⟨rfl, rfl, rfl, by decide +kernel, rfl, by decide +kernel, by decide +kernel⟩
theorem b_by_age (C : Ctx K mg fd) : Binds K (fd 0) p_by_age [] := C.d_by_age.bindsN fun _ _ _ _ _ _ us hl => match us, hl with | [_], _ => rfl
theorem sc_spots_of : FnScope n_spots_of p_spots_of (defScope s_spots_of) := ⟨rfl, rfl, rfl, by decide +kernel, rfl, by decide +kernel, by decide +kernel⟩
theorem b_spots_of (C : Ctx K mg fd) : Binds K (fd 1) p_spots_of [] := C.d_spots_of.bindsN fun _ _ _ _ _ _ us hl => match us, hl with | [_], _ => rfl
theorem sc_by_turns : FnScope n_by_turns p_by_turns (defScope s_by_turns) := ⟨rfl, rfl, rfl, by decide +kernel, rfl, by decide +kernel, by decide +kernel⟩
theorem b_by_turns (C : Ctx K mg fd) : Binds K (fd 2) p_by_turns [] := C.d_by_turns.bindsN fun _ _ _ _ _ _ us hl => match us, hl with | [_, _, _], _ => rfl
theorem sc_by_rank : FnScope n_by_rank p_by_rank (defScope s_by_rank) := ⟨rfl, rfl, rfl, by decide +kernel, rfl, by decide +kernel, by decide +kernel⟩
theorem b_by_rank (C : Ctx K mg fd) : Binds K (fd 3) p_by_rank [] := C.d_by_rank.bindsN fun _ _ _ _ _ _ us hl => match us, hl with | [_, _, _], _ => rfl
theorem sc_of_one_kind : FnScope n_of_one_kind p_of_one_kind (defScope s_of_one_kind) := ⟨rfl, rfl, rfl, by decide +kernel, rfl, by decide +kernel, by decide +kernel⟩
theorem b_of_one_kind (C : Ctx K mg fd) : Binds K (fd 4) p_of_one_kind [] := C.d_of_one_kind.bindsN fun _ _ _ _ _ _ us hl => match us, hl with | [_, _], _ => rfl
theorem sc_gathered : FnScope n_gathered p_gathered (defScope s_gathered) := ⟨rfl, rfl, rfl, by decide +kernel, rfl, by decide +kernel, by decide +kernel⟩
theorem b_gathered (C : Ctx K mg fd) : Binds K (fd 5) p_gathered [] := C.d_gathered.bindsN fun _ _ _ _ _ _ us hl => match us, hl with | [_, _, _, _], _ => rfl
theorem sc_first_of : FnScope n_first_of p_first_of (defScope s_first_of) := ⟨rfl, rfl, rfl, by decide +kernel, rfl, by decide +kernel, by decide +kernel⟩
theorem b_first_of (C : Ctx K mg fd) : Binds K (fd 6) p_first_of [] := C.d_first_of.bindsN fun _ _ _ _ _ _ us hl => match us, hl with | [_, _], _ => rfl
theorem sc_met : FnScope n_met p_met (defScope s_met) := ⟨rfl, rfl, rfl, by decide +kernel, rfl, by decide +kernel, by decide +kernel⟩
theorem b_met (C : Ctx K mg fd) : Binds K (fd 7) p_met [] := C.d_met.bindsN fun _ _ _ _ _ _ us hl => match us, hl with | [_], _ => rfl
theorem sc_load_of : FnScope n_load_of p_load_of (defScope s_load_of) := ⟨rfl, rfl, rfl, by decide +kernel, rfl, by decide +kernel, by decide +kernel⟩
theorem b_load_of (C : Ctx K mg fd) : Binds K (fd 8) p_load_of [] := C.d_load_of.bindsN fun _ _ _ _ _ _ us hl => match us, hl with | [_, _, _, _], _ => rfl
theorem sc__law_cell_at : FnScope n__law_cell_at p__law_cell_at (defScope s__law_cell_at) := ⟨rfl, rfl, rfl, by decide +kernel, rfl, by decide +kernel, by decide +kernel⟩
theorem b__law_cell_at (C : Ctx K mg fd) : Binds K (fd 9) p__law_cell_at [] := C.d__law_cell_at.bindsN fun _ _ _ _ _ _ us hl => match us, hl with | [_, _], _ => rfl
theorem sc__law_mix : FnScope n__law_mix p__law_mix (defScope s__law_mix) := ⟨rfl, rfl, rfl, by decide +kernel, rfl, by decide +kernel, by decide +kernel⟩
theorem b__law_mix (C : Ctx K mg fd) : Binds K (fd 10) p__law_mix [] := C.d__law_mix.bindsN fun _ _ _ _ _ _ us hl => match us, hl with | [_, _], _ => rfl
theorem sc__law_rows : FnScope n__law_rows p__law_rows (defScope s__law_rows) := ⟨rfl, rfl, rfl, by decide +kernel, rfl, by decide +kernel, by decide +kernel⟩
theorem b__law_rows (C : Ctx K mg fd) : Binds K (fd 11) p__law_rows [] := C.d__law_rows.bindsN fun _ _ _ _ _ _ us hl => match us, hl with | [_, _], _ => rfl
theorem sc__law_latest : FnScope n__law_latest p__law_latest (defScope s__law_latest) := ⟨rfl, rfl, rfl, by decide +kernel, rfl, by decide +kernel, by decide +kernel⟩
theorem b__law_latest (C : Ctx K mg fd) : Binds K (fd 12) p__law_latest [] := C.d__law_latest.bindsN fun _ _ _ _ _ _ us hl => match us, hl with | [_], _ => rfl
theorem sc__law_age : FnScope n__law_age p__law_age (defScope s__law_age) := ⟨rfl, rfl, rfl, by decide +kernel, rfl, by decide +kernel, by decide +kernel⟩
theorem b__law_age (C : Ctx K mg fd) : Binds K (fd 13) p__law_age [] := C.d__law_age.bindsN fun _ _ _ _ _ _ us hl => match us, hl with | [_, _], _ => rfl
theorem sc__law_stands : FnScope n__law_stands p__law_stands (defScope s__law_stands) := ⟨rfl, rfl, rfl, by decide +kernel, rfl, by decide +kernel, by decide +kernel⟩
theorem b__law_stands (C : Ctx K mg fd) : Binds K (fd 14) p__law_stands [] := C.d__law_stands.bindsN fun _ _ _ _ _ _ us hl => match us, hl with | [_, _], _ => rfl
theorem sc__law_eldest_so : FnScope n__law_eldest_so p__law_eldest_so (defScope s__law_eldest_so) := ⟨rfl, rfl, rfl, by decide +kernel, rfl, by decide +kernel, by decide +kernel⟩
theorem b__law_eldest_so (C : Ctx K mg fd) : Binds K (fd 15) p__law_eldest_so [] := C.d__law_eldest_so.bindsN fun _ _ _ _ _ _ us hl => match us, hl with | [_, _, _], _ => rfl
theorem sc__law_first_of_all : FnScope n__law_first_of_all p__law_first_of_all (defScope s__law_first_of_all) := ⟨rfl, rfl, rfl, by decide +kernel, rfl, by decide +kernel, by decide +kernel⟩
theorem b__law_first_of_all (C : Ctx K mg fd) : Binds K (fd 16) p__law_first_of_all [] := C.d__law_first_of_all.bindsN fun _ _ _ _ _ _ us hl => match us, hl with | [_], _ => rfl
theorem sc__law_one_parcel : FnScope n__law_one_parcel p__law_one_parcel (defScope s__law_one_parcel) := ⟨rfl, rfl, rfl, by decide +kernel, rfl, by decide +kernel, by decide +kernel⟩
theorem b__law_one_parcel (C : Ctx K mg fd) : Binds K (fd 17) p__law_one_parcel [] := C.d__law_one_parcel.bindsN fun _ _ _ _ _ _ us hl => match us, hl with | [_, _], _ => rfl
theorem sc__law_none_due : FnScope n__law_none_due p__law_none_due (defScope s__law_none_due) := ⟨rfl, rfl, rfl, by decide +kernel, rfl, by decide +kernel, by decide +kernel⟩
theorem b__law_none_due (C : Ctx K mg fd) : Binds K (fd 18) p__law_none_due [] := C.d__law_none_due.bindsN fun _ _ _ _ _ _ us hl => match us, hl with | [_, _, _], _ => rfl
theorem sc__law_right : FnScope n__law_right p__law_right (defScope s__law_right) := ⟨rfl, rfl, rfl, by decide +kernel, rfl, by decide +kernel, by decide +kernel⟩
theorem b__law_right (C : Ctx K mg fd) : Binds K (fd 19) p__law_right [] := C.d__law_right.bindsN fun _ _ _ _ _ _ us hl => match us, hl with | [_, _, _, _], _ => rfl
theorem sc_law : FnScope n_law p_law (defScope s_law) := ⟨rfl, rfl, rfl, by decide +kernel, rfl, by decide +kernel, by decide +kernel⟩
theorem b_law (C : Ctx K mg fd) : Binds K (fd 20) p_law [] := C.d_law.bindsN fun _ _ _ _ _ _ us hl => match us, hl with | [_], _ => rfl
theorem ok_by_age (C : Ctx K mg fd) (L : Lam K mg base T) : FnOk P w K mg base CX0 2 (He.fAd K ("by_age", none)) (fd 0) p_by_age (spF K T 1 f_by_age) := by
  refine fn_okL (k := 1) (N := n_by_age) (ps := p_by_age) (sm := m_by_age) C.d_by_age sc_by_age fun A outer s H E hr => ?_
  have hu := hr.units
  exact (sb_cons (ss_set sc_by_age.nd rfl (Or.inl rfl) (fe_lst fa_nil))
    (sb_cons (ss_for PassesOwn.never rfl (it_enum rfl C.n_enumerate (ba_cons (be_var 0) ba_nil)) (gs_tup rfl (gss_cons (gs_name sc_by_age.nd rfl (Or.inl rfl)) (gss_cons (gs_name sc_by_age.nd rfl (Or.inl rfl)) gss_nil))) (sb_one (ss_for PassesOwn.never rfl (it_enum rfl C.n_enumerate (ba_cons (be_var 3) ba_nil)) (gs_tup rfl (gss_cons (gs_name sc_by_age.nd rfl (Or.inl rfl)) (gss_cons (gs_name sc_by_age.nd rfl (Or.inl rfl)) gss_nil))) (sb_one (ss_pm (q_var 1) (fa_cons (fe_tup (fa_cons (fe_be (be_ix hu (be_var 5) be_int)) (fa_cons (fe_be (be_var 2)) (fa_cons (fe_be (be_var 4)) (fa_cons (fe_be (be_var 5)) fa_nil))))) fa_nil) act_append PySem.F.slot_list_append PySem.F.type_list_append mt_append)))))
    (sb_one (ss_ret (fe_sort3 (be_var 1) (hr.mono (by decide)) rfl C.n_sorted (L.tb_by_age) rfl L.m_by_age L.u_by_age)))))
theorem ok_spots_of (C : Ctx K mg fd) (L : Lam K mg base T) : FnOk P w K mg base CX0 1 (He.fAd K ("spots_of", none)) (fd 1) p_spots_of (spF K T 1 f_spots_of) := by
  refine fn_ok (k := 0) (N := n_spots_of) (ps := p_spots_of) (sm := m_spots_of) C.d_spots_of sc_spots_of fun cdv A outer s H E hr => ?_
  have hu := hr.units
  exact (sb_one (ss_ret (fe_lc (own := [("since", 1), ("place", 2), ("number", 3), ("good", 4)]) (g := (gTp 4 (gCn (gNm 1) (gCn (gNm 2) (gCn (gNm 3) (gCn (gNm 4) gNl)))))) (t := yesT) (m := c0_spots_of) rfl sc_spots_of.nd (ic_lt (be_var 0)) (blkOk_by (N := n_spots_of) (sc := defScope s_spots_of) (by decide +kernel)) (fun _ _ _ _ _ => (gs_tup rfl (gss_cons (gs_name sc_spots_of.nd rfl (Or.inl rfl)) (gss_cons (gs_name sc_spots_of.nd rfl (Or.inl rfl)) (gss_cons (gs_name sc_spots_of.nd rfl (Or.inl rfl)) (gss_cons (gs_name sc_spots_of.nd rfl (Or.inl rfl)) gss_nil)))))) (fun _ _ _ _ _ => ics_nil) (fun _ _ _ _ _ => (fe_tup (fa_cons (fe_be (be_var 2)) (fa_cons (fe_be (be_var 3)) fa_nil)))) (by decide))))
theorem ok_by_turns (C : Ctx K mg fd) (L : Lam K mg base T) : FnOk P w K mg base CX0 3 (He.fAd K ("by_turns", none)) (fd 2) p_by_turns (spF K T 3 f_by_turns) := by
  have k_by_age : FnOk P w K mg base CX0 2 (He.fAd K ("by_age", none)) (fd 0) p_by_age (spF K T 1 f_by_age) := ok_by_age C L
  refine fn_ok (k := 2) (N := n_by_turns) (ps := p_by_turns) (sm := m_by_turns) C.d_by_turns sc_by_turns fun cdv A outer s H E hr => ?_
  have hu := hr.units
  exact (sb_cons (ss_asg (be_var 2) (gs_tup rfl (gss_cons (gs_name sc_by_turns.nd rfl (Or.inl rfl)) (gss_cons (gs_name sc_by_turns.nd rfl (Or.inl rfl)) gss_nil))))
    (sb_cons (ss_if (bt_cmp (op_eqP hu) op_gEq (be_fe (fe_call k_by_age (hr.mono (by decide)) rfl C.g_by_age C.d_by_age.kp (b_by_age C) (ba_cons (be_var 1) ba_nil))) (be_fe (fe_lst fa_nil)) (nomark _)) (sb_one (ss_ret (fe_tup (fa_cons (fe_lst fa_nil) (fa_cons (fe_be (be_var 2)) fa_nil))))) sb_nil)
    (sb_cons (ss_while 1000 PassesOwn.never (bt_w (wt_or (bt_cmp (op_eqP hu) op_gEq (be_ix hu (be_var 1) (be_var 3)) (be_fe (fe_lst fa_nil)) (nomark _)) (wt_or1 (bt_cmp op_ge (op_gB fun i j => decide (j ≤ i)) (be_var 4) (be_ix hu (be_var 0) (be_var 3)) (nomark _))))) (sb_cons (ss_set sc_by_turns.nd rfl (Or.inl rfl) (fe_be (be_fe (fe_mod (be_fe (fe_add (be_var 3) be_int)) (be_fe (fe_callB call_len op_len rfl C.n_len boot_len (ba_cons (be_var 1) ba_nil)))))))
    (sb_one (ss_set sc_by_turns.nd rfl (Or.inl rfl) (fe_be be_int)))))
    (sb_one (ss_ret (fe_tup (fa_cons (fe_lst (fa_cons (fe_tup (fa_cons (fe_be (be_var 3)) (fa_cons (fe_be be_int) fa_nil))) fa_nil)) (fa_cons (fe_tup (fa_cons (fe_be (be_var 3)) (fa_cons (fe_add (be_var 4) be_int) fa_nil))) fa_nil))))))))
theorem ok_by_rank (C : Ctx K mg fd) (L : Lam K mg base T) : FnOk P w K mg base CX0 3 (He.fAd K ("by_rank", none)) (fd 3) p_by_rank (spF K T 3 f_by_rank) := by
  have k_by_age : FnOk P w K mg base CX0 2 (He.fAd K ("by_age", none)) (fd 0) p_by_age (spF K T 1 f_by_age) := ok_by_age C L
  have k_spots_of : FnOk P w K mg base CX0 1 (He.fAd K ("spots_of", none)) (fd 1) p_spots_of (spF K T 1 f_spots_of) := ok_spots_of C L
  refine fn_ok (k := 2) (N := n_by_rank) (ps := p_by_rank) (sm := m_by_rank) C.d_by_rank sc_by_rank fun cdv A outer s H E hr => ?_
  have hu := hr.units
  exact (sb_cons (ss_set sc_by_rank.nd rfl (Or.inl rfl) (fe_be (be_fe (fe_call k_by_age (hr.mono (by decide)) rfl C.g_by_age C.d_by_age.kp (b_by_age C) (ba_cons (be_var 1) ba_nil)))))
    (sb_cons (ss_if (bt_w (wt_or (bt_cmp (op_eqP hu) op_gEq (be_var 3) (be_fe (fe_lst fa_nil)) (nomark _)) (wt_or1 (bt_w (wt_and (bt_notN (be_var 0)) (wt_and1 (bt_cmp op_ge (op_gB fun i j => decide (j ≤ i)) (be_fe (fe_sub (be_var 2) (be_ix hu (be_ix hu (be_var 3) be_int) be_int))) (be_var 0) (nomark _)))))))) (sb_one (ss_ret (fe_call k_spots_of (hr.mono (by decide)) rfl C.g_spots_of C.d_spots_of.kp (b_spots_of C) (ba_cons (be_fe (fe_sl (be_var 3) bo_none (bo_some be_int))) ba_nil)))) sb_nil)
    (sb_cons (ss_set sc_by_rank.nd rfl (Or.inl rfl) (fe_be (be_fe (fe_callB (cr_min rfl) op_min rfl C.n_min boot_min (ba_cons (be_fe (fe_lc (own := [("since", 5), ("place", 6), ("number", 7), ("good", 8)]) (g := (gTp 4 (gCn (gNm 5) (gCn (gNm 6) (gCn (gNm 7) (gCn (gNm 8) gNl)))))) (t := yesT) (m := c0_by_rank) rfl sc_by_rank.nd (ic_lt (be_var 3)) (blkOk_by (N := n_by_rank) (sc := defScope s_by_rank) (by decide +kernel)) (fun _ _ _ _ _ => (gs_tup rfl (gss_cons (gs_name sc_by_rank.nd rfl (Or.inl rfl)) (gss_cons (gs_name sc_by_rank.nd rfl (Or.inl rfl)) (gss_cons (gs_name sc_by_rank.nd rfl (Or.inl rfl)) (gss_cons (gs_name sc_by_rank.nd rfl (Or.inl rfl)) gss_nil)))))) (fun _ _ _ _ _ => ics_nil) (fun _ _ _ _ _ => (fe_be (be_var 6))) (by decide))) ba_nil)))))
    (sb_one (ss_ret (fe_lst (fa_cons (fe_tup (fa_cons (fe_be (be_var 4)) (fa_cons (fe_be be_int) fa_nil))) fa_nil)))))))
theorem ok_of_one_kind (C : Ctx K mg fd) (L : Lam K mg base T) : FnOk P w K mg base CX0 3 (He.fAd K ("of_one_kind", none)) (fd 4) p_of_one_kind (spF K T 2 f_of_one_kind) := by
  have k_by_age : FnOk P w K mg base CX0 2 (He.fAd K ("by_age", none)) (fd 0) p_by_age (spF K T 1 f_by_age) := ok_by_age C L
  have k_spots_of : FnOk P w K mg base CX0 1 (He.fAd K ("spots_of", none)) (fd 1) p_spots_of (spF K T 1 f_spots_of) := ok_spots_of C L
  refine fn_ok (k := 2) (N := n_of_one_kind) (ps := p_of_one_kind) (sm := m_of_one_kind) C.d_of_one_kind sc_of_one_kind fun cdv A outer s H E hr => ?_
  have hu := hr.units
  exact (sb_cons (ss_set sc_of_one_kind.nd rfl (Or.inr rfl) (fe_be (be_fe (fe_call k_by_age (hr.mono (by decide)) rfl C.g_by_age C.d_by_age.kp (b_by_age C) (ba_cons (be_var 1) ba_nil)))))
    (sb_one (ss_ret (fe_call k_spots_of (hr.mono (by decide)) rfl C.g_spots_of C.d_spots_of.kp (b_spots_of C) (ba_cons (be_fe (fe_sl (be_fe (fe_lc (own := [("told", 3)]) (g := (gNm 3)) (t := ct0_of_one_kind) (m := c0_of_one_kind) rfl sc_of_one_kind.nd (ic_lt (be_var 2)) (blkOk_by (N := n_of_one_kind) (sc := defScope s_of_one_kind) (by decide +kernel)) (fun _ _ _ _ _ => (gs_name sc_of_one_kind.nd rfl (Or.inl rfl))) (fun _ _ _ _ _ => ics_one (bt_cmp (op_eqP hu) op_gEq (be_ix hu (be_ix hu (be_var 3) be_int) be_int) (be_ix hu (be_ix hu (be_ix hu (be_var 2) be_int) be_int) be_int) (nomark _))) (fun _ _ _ _ _ => (fe_be (be_var 3))) (by decide))) bo_none (bo_some (be_var 0)))) ba_nil)))))
theorem ok_gathered (C : Ctx K mg fd) (L : Lam K mg base T) : FnOk P w K mg base CX0 3 (He.fAd K ("gathered", none)) (fd 5) p_gathered (spF K T 4 f_gathered) := by
  have k_by_age : FnOk P w K mg base CX0 2 (He.fAd K ("by_age", none)) (fd 0) p_by_age (spF K T 1 f_by_age) := ok_by_age C L
  have k_spots_of : FnOk P w K mg base CX0 1 (He.fAd K ("spots_of", none)) (fd 1) p_spots_of (spF K T 1 f_spots_of) := ok_spots_of C L
  refine fn_ok (k := 2) (N := n_gathered) (ps := p_gathered) (sm := m_gathered) C.d_gathered sc_gathered fun cdv A outer s H E hr => ?_
  have hu := hr.units
  exact (sb_cons (ss_set sc_gathered.nd rfl (Or.inl rfl) (fe_be (be_fe (fe_call k_by_age (hr.mono (by decide)) rfl C.g_by_age C.d_by_age.kp (b_by_age C) (ba_cons (be_var 2) ba_nil)))))
    (sb_cons (ss_if (bt_w (wt_or (bt_cmp (op_eqP hu) op_gEq (be_var 4) (be_fe (fe_lst fa_nil)) (nomark _)) (wt_or1 (bt_w (wt_and (bt_cmp op_lt (op_gB fun i j => decide (i < j)) (be_fe (fe_callB call_len op_len rfl C.n_len boot_len (ba_cons (be_var 4) ba_nil))) (be_var 0) (nomark _)) (wt_and1 (bt_cmp op_lt (op_gB fun i j => decide (i < j)) (be_fe (fe_sub (be_var 3) (be_ix hu (be_ix hu (be_var 4) be_int) be_int))) (be_var 1) (nomark _)))))))) (sb_one (ss_ret (fe_lst fa_nil))) sb_nil)
    (sb_one (ss_ret (fe_call k_spots_of (hr.mono (by decide)) rfl C.g_spots_of C.d_spots_of.kp (b_spots_of C) (ba_cons (be_fe (fe_sl (be_var 4) bo_none (bo_some (be_var 0)))) ba_nil))))))
theorem ok_first_of (C : Ctx K mg fd) (L : Lam K mg base T) : FnOk P w K mg base CX0 1 (He.fAd K ("first_of", none)) (fd 6) p_first_of (spF K T 2 f_first_of) := by
  refine fn_ok (k := 0) (N := n_first_of) (ps := p_first_of) (sm := m_first_of) C.d_first_of sc_first_of fun cdv A outer s H E hr => ?_
  have hu := hr.units
  exact (sb_cons (ss_for PassesOwn.never rfl (it_enum rfl C.n_enumerate (ba_cons (be_var 0) ba_nil)) (gs_tup rfl (gss_cons (gs_name sc_first_of.nd rfl (Or.inl rfl)) (gss_cons (gs_name sc_first_of.nd rfl (Or.inl rfl)) gss_nil))) (sb_one (ss_if (bt_cmp (op_eqP hu) op_gEq (be_ix hu (be_var 3) be_int) (be_var 1) (nomark _)) (sb_one (ss_ret (fe_be (be_var 2)))) sb_nil)))
    (sb_one (ss_ret (fe_be be_non))))
theorem ok_met (C : Ctx K mg fd) (L : Lam K mg base T) : FnOk P w K mg base CX0 3 (He.fAd K ("met", none)) (fd 7) p_met (spF K T 1 f_met) := by
  have k_by_age : FnOk P w K mg base CX0 2 (He.fAd K ("by_age", none)) (fd 0) p_by_age (spF K T 1 f_by_age) := ok_by_age C L
  have k_first_of : FnOk P w K mg base CX0 1 (He.fAd K ("first_of", none)) (fd 6) p_first_of (spF K T 2 f_first_of) := ok_first_of C L
  refine fn_ok (k := 2) (N := n_met) (ps := p_met) (sm := m_met) C.d_met sc_met fun cdv A outer s H E hr => ?_
  have hu := hr.units
  exact (sb_cons (ss_for PassesOwn.never rfl (it_lt (be_fe (fe_call k_by_age (hr.mono (by decide)) rfl C.g_by_age C.d_by_age.kp (b_by_age C) (ba_cons (be_var 0) ba_nil)))) (gs_tup rfl (gss_cons (gs_name sc_met.nd rfl (Or.inl rfl)) (gss_cons (gs_name sc_met.nd rfl (Or.inl rfl)) (gss_cons (gs_name sc_met.nd rfl (Or.inl rfl)) (gss_cons (gs_name sc_met.nd rfl (Or.inl rfl)) gss_nil))))) (sb_cons (ss_set sc_met.nd rfl (Or.inr rfl) (fe_be (be_ix hu (be_var 4) be_int)))
    (sb_cons (ss_setLcF (i := 6) (own := [("row", 7)]) (g := (gNm 7)) (t := yesT) (m := c0_met) rfl sc_met.nd rfl rfl (sw_true rfl rfl rfl (by decide +kernel)) (ic_lt (be_var 0)) (blkOk_by (N := n_met) (sc := defScope s_met) (by decide +kernel)) (fun _ _ _ _ _ => (gs_name sc_met.nd rfl (Or.inl rfl))) (fun _ _ _ _ _ => ics_nil) (fun _ _ _ _ _ => (fe_call k_first_of (hr.mono (by decide)) rfl C.g_first_of C.d_first_of.kp (b_first_of C) (ba_cons (be_var 7) (ba_cons (be_var 5) ba_nil)))) (by decide))
    (sb_one (ss_if (bt_w (wt_and (bt_cmp (op_neP hu) op_gNe (be_var 5) be_str (nomark _)) (wt_and1 (bt_notin hu be_non (be_var 6) (by rfl))))) (sb_one (ss_ret (fe_lc (own := [("at", 8), ("first", 9)]) (g := (gTp 2 (gCn (gNm 8) (gCn (gNm 9) gNl)))) (t := yesT) (m := c1_met) rfl sc_met.nd (ic_enum rfl C.n_enumerate (ba_cons (be_var 6) ba_nil)) (blkOk_by (N := n_met) (sc := defScope s_met) (by decide +kernel)) (fun _ _ _ _ _ => (gs_tup rfl (gss_cons (gs_name sc_met.nd rfl (Or.inl rfl)) (gss_cons (gs_name sc_met.nd rfl (Or.inl rfl)) gss_nil)))) (fun _ _ _ _ _ => ics_nil) (fun _ _ _ _ _ => (fe_tup (fa_cons (fe_be (be_var 8)) (fa_cons (fe_be (be_var 9)) fa_nil)))) (by decide)))) sb_nil)))))
    (sb_one (ss_ret (fe_lst fa_nil))))
theorem ok_load_of (C : Ctx K mg fd) (L : Lam K mg base T) : FnOk P w K mg base CX0 4 (He.fAd K ("load_of", none)) (fd 8) p_load_of (spF K T 4 f_load_of) := by
  have k_by_turns : FnOk P w K mg base CX0 3 (He.fAd K ("by_turns", none)) (fd 2) p_by_turns (spF K T 3 f_by_turns) := ok_by_turns C L
  have k_spots_of : FnOk P w K mg base CX0 1 (He.fAd K ("spots_of", none)) (fd 1) p_spots_of (spF K T 1 f_spots_of) := ok_spots_of C L
  have k_by_age : FnOk P w K mg base CX0 2 (He.fAd K ("by_age", none)) (fd 0) p_by_age (spF K T 1 f_by_age) := ok_by_age C L
  have k_by_rank : FnOk P w K mg base CX0 3 (He.fAd K ("by_rank", none)) (fd 3) p_by_rank (spF K T 3 f_by_rank) := ok_by_rank C L
  have k_of_one_kind : FnOk P w K mg base CX0 3 (He.fAd K ("of_one_kind", none)) (fd 4) p_of_one_kind (spF K T 2 f_of_one_kind) := ok_of_one_kind C L
  have k_gathered : FnOk P w K mg base CX0 3 (He.fAd K ("gathered", none)) (fd 5) p_gathered (spF K T 4 f_gathered) := ok_gathered C L
  have k_met : FnOk P w K mg base CX0 3 (He.fAd K ("met", none)) (fd 7) p_met (spF K T 1 f_met) := ok_met C L
  refine fn_ok (k := 3) (N := n_load_of) (ps := p_load_of) (sm := m_load_of) C.d_load_of sc_load_of fun cdv A outer s H E hr => ?_
  have hu := hr.units
  exact (sb_cons (ss_set sc_load_of.nd rfl (Or.inl rfl) (fe_be (be_ix hu (be_var 0) be_int)))
    (sb_cons (ss_if (bt_cmp (op_eqP hu) op_gEq (be_var 4) be_str (nomark _)) (sb_one (ss_ret (fe_call k_by_turns (hr.mono (by decide)) rfl C.g_by_turns C.d_by_turns.kp (b_by_turns C) (ba_cons (be_ix hu (be_var 0) be_int) (ba_cons (be_var 1) (ba_cons (be_var 2) ba_nil)))))) sb_nil)
    (sb_cons (ss_if (bt_cmp (op_eqP hu) op_gEq (be_var 4) be_str (nomark _)) (sb_one (ss_ret (fe_tup (fa_cons (fe_call k_spots_of (hr.mono (by decide)) rfl C.g_spots_of C.d_spots_of.kp (b_spots_of C) (ba_cons (be_fe (fe_sl (be_fe (fe_call k_by_age (hr.mono (by decide)) rfl C.g_by_age C.d_by_age.kp (b_by_age C) (ba_cons (be_var 1) ba_nil))) bo_none (bo_some be_int))) ba_nil)) (fa_cons (fe_be (be_var 2)) fa_nil))))) sb_nil)
    (sb_cons (ss_if (bt_cmp (op_eqP hu) op_gEq (be_var 4) be_str (nomark _)) (sb_one (ss_ret (fe_tup (fa_cons (fe_call k_by_rank (hr.mono (by decide)) rfl C.g_by_rank C.d_by_rank.kp (b_by_rank C) (ba_cons (be_ix hu (be_var 0) be_int) (ba_cons (be_var 1) (ba_cons (be_var 3) ba_nil)))) (fa_cons (fe_be (be_var 2)) fa_nil))))) sb_nil)
    (sb_cons (ss_if (bt_cmp (op_eqP hu) op_gEq (be_var 4) be_str (nomark _)) (sb_one (ss_ret (fe_tup (fa_cons (fe_call k_of_one_kind (hr.mono (by decide)) rfl C.g_of_one_kind C.d_of_one_kind.kp (b_of_one_kind C) (ba_cons (be_ix hu (be_var 0) be_int) (ba_cons (be_var 1) ba_nil))) (fa_cons (fe_be (be_var 2)) fa_nil))))) sb_nil)
    (sb_cons (ss_if (bt_cmp (op_eqP hu) op_gEq (be_var 4) be_str (nomark _)) (sb_one (ss_ret (fe_tup (fa_cons (fe_call k_gathered (hr.mono (by decide)) rfl C.g_gathered C.d_gathered.kp (b_gathered C) (ba_cons (be_ix hu (be_var 0) be_int) (ba_cons (be_ix hu (be_var 0) be_int) (ba_cons (be_var 1) (ba_cons (be_var 3) ba_nil))))) (fa_cons (fe_be (be_var 2)) fa_nil))))) sb_nil)
    (sb_one (ss_ret (fe_tup (fa_cons (fe_call k_met (hr.mono (by decide)) rfl C.g_met C.d_met.kp (b_met C) (ba_cons (be_var 1) ba_nil)) (fa_cons (fe_be (be_var 2)) fa_nil)))))))))))
theorem ok__law_cell_at (C : Ctx K mg fd) (L : Lam K mg base T) : FnOk P w K mg base CX0 1 (He.fAd K ("_law_cell_at", none)) (fd 9) p__law_cell_at (spF K T 2 f__law_cell_at) := by
  refine fn_ok (k := 0) (N := n__law_cell_at) (ps := p__law_cell_at) (sm := m__law_cell_at) C.d__law_cell_at sc__law_cell_at fun cdv A outer s H E hr => ?_
  have hu := hr.units
  exact (sb_cons (ss_if (bt_cmp op_lt (op_gB fun i j => decide (i < j)) (be_var 1) (be_fe (fe_callB call_len op_len rfl C.n_len boot_len (ba_cons (be_var 0) ba_nil))) (nomark _)) (sb_one (ss_ret (fe_be (be_ix hu (be_var 0) (be_var 1))))) sb_nil)
    (sb_one (ss_ret (fe_be be_int))))
theorem ok__law_mix (C : Ctx K mg fd) (L : Lam K mg base T) : FnOk P w K mg base CX0 1 (He.fAd K ("_law_mix", none)) (fd 10) p__law_mix (spF K T 2 f__law_mix) := by
  refine fn_ok (k := 0) (N := n__law_mix) (ps := p__law_mix) (sm := m__law_mix) C.d__law_mix sc__law_mix fun cdv A outer s H E hr => ?_
  have hu := hr.units
  exact (sb_cons (ss_set sc__law_mix.nd rfl (Or.inl rfl) (fe_be (be_fe (fe_mod (be_fe (fe_mul (be_fe (fe_add (be_fe (fe_add (be_fe (fe_mod (be_var 0) be_int)) (be_fe (fe_mul (be_fe (fe_mul (be_var 1) (be_var 1))) be_int)))) be_int)) be_int)) be_int))))
    (sb_one (ss_ret (fe_mod (be_fe (fe_mul (be_var 2) (be_var 2))) be_int))))
theorem ok__law_rows (C : Ctx K mg fd) (L : Lam K mg base T) : FnOk P w K mg base CX0 2 (He.fAd K ("_law_rows", none)) (fd 11) p__law_rows (spF K T 2 f__law_rows) := by
  have k__law_mix : FnOk P w K mg base CX0 1 (He.fAd K ("_law_mix", none)) (fd 10) p__law_mix (spF K T 2 f__law_mix) := ok__law_mix C L
  have k__law_cell_at : FnOk P w K mg base CX0 1 (He.fAd K ("_law_cell_at", none)) (fd 9) p__law_cell_at (spF K T 2 f__law_cell_at) := ok__law_cell_at C L
  refine fn_ok (k := 1) (N := n__law_rows) (ps := p__law_rows) (sm := m__law_rows) C.d__law_rows sc__law_rows fun cdv A outer s H E hr => ?_
  have hu := hr.units
  exact (sb_cons (ss_setLc (i := 2) (own := [("_law_k", 3)]) (g := (gNm 3)) (t := yesT) (m := c0__law_rows) rfl sc__law_rows.nd rfl rfl (sw_true rfl rfl rfl (by decide +kernel)) (ic_it (it_r1 rfl C.n_range (ba_cons (be_var 1) ba_nil))) (blkOk_by (N := n__law_rows) (sc := defScope s__law_rows) (by decide +kernel)) (fun _ _ _ _ _ => (gs_name sc__law_rows.nd rfl (Or.inl rfl))) (fun _ _ _ _ _ => ics_nil) (fun _ _ _ _ _ => (fe_lst fa_nil)) (by decide))
    (sb_cons (ss_for PassesOwn.never rfl (it_enum rfl C.n_enumerate (ba_cons (be_fe (fe_sl (be_var 0) bo_none (bo_some be_int))) ba_nil)) (gs_tup rfl (gss_cons (gs_name sc__law_rows.nd rfl (Or.inl rfl)) (gss_cons (gs_name sc__law_rows.nd rfl (Or.inl rfl)) gss_nil))) (sb_cons (ss_set sc__law_rows.nd rfl (Or.inl rfl) (fe_be (be_fe (fe_call k__law_mix (hr.mono (by decide)) rfl C.g__law_mix C.d__law_mix.kp (b__law_mix C) (ba_cons (be_var 4) (ba_cons (be_var 3) ba_nil))))))
    (sb_cons (ss_als sc__law_rows.nd rfl (Or.inl rfl) (q_ix hu (q_var 2) (be_fe (fe_mod (be_var 5) (be_var 1)))))
    (sb_cons (ss_set sc__law_rows.nd rfl (Or.inl rfl) (fe_be (be_fe (fe_mod (be_fe (fe_div (be_var 5) be_int)) be_int))))
    (sb_cons (ss_if (bt_cmp (op_neP hu) op_gNe (be_var 6) (be_fe (fe_lst fa_nil)) (nomark _)) (sb_one (ss_set sc__law_rows.nd rfl (Or.inl rfl) (fe_be (be_fe (fe_add (be_ix hu (be_ix hu (be_var 6) (be_fe (fe_neg be_int))) be_int) (be_fe (fe_mod (be_fe (fe_div (be_var 5) be_int)) be_int))))))) sb_nil)
    (sb_cons (ss_set sc__law_rows.nd rfl (Or.inl rfl) (fe_be (be_ix hu (be_fe (fe_lst (fa_cons (fe_be be_str) (fa_cons (fe_be be_str) (fa_cons (fe_be be_str) fa_nil))))) (be_fe (fe_mod (be_fe (fe_div (be_var 5) be_int)) be_int)))))
    (sb_one (ss_pm (q_var 6) (fa_cons (fe_tup (fa_cons (fe_mod (be_fe (fe_add (be_fe (fe_mul be_int (be_var 3))) (be_fe (fe_mod (be_fe (fe_call k__law_cell_at (hr.mono (by decide)) rfl C.g__law_cell_at C.d__law_cell_at.kp (b__law_cell_at C) (ba_cons (be_var 0) (ba_cons be_int ba_nil)))) be_int)))) be_int) (fa_cons (fe_be (be_var 7)) (fa_cons (fe_be (be_var 8)) (fa_cons (fe_be (be_ix hu (be_fe (fe_lst (fa_cons (fe_be be_str) (fa_cons (fe_be be_str) (fa_cons (fe_be be_str) (fa_cons (fe_be be_str) fa_nil)))))) (be_fe (fe_mod (be_fe (fe_div (be_var 5) be_int)) be_int)))) fa_nil))))) fa_nil) act_append PySem.F.slot_list_append PySem.F.type_list_append mt_append))))))))
    (sb_one (ss_fz 2 (ss_ret (fe_be (be_var 2)))))))
theorem ok__law_latest (C : Ctx K mg fd) (L : Lam K mg base T) : FnOk P w K mg base CX0 1 (He.fAd K ("_law_latest", none)) (fd 12) p__law_latest (spF K T 1 f__law_latest) := by
  refine fn_ok (k := 0) (N := n__law_latest) (ps := p__law_latest) (sm := m__law_latest) C.d__law_latest sc__law_latest fun cdv A outer s H E hr => ?_
  have hu := hr.units
  exact (sb_one (ss_ret (fe_callB (cr_max rfl) op_max rfl C.n_max boot_max (ba_cons (be_fe (fe_add (be_fe (fe_lst (fa_cons (fe_be be_int) fa_nil))) (be_fe (fe_lc (own := [("_law_row", 1)]) (g := (gNm 1)) (t := ct0__law_latest) (m := c0__law_latest) rfl sc__law_latest.nd (ic_lt (be_var 0)) (blkOk_by (N := n__law_latest) (sc := defScope s__law_latest) (by decide +kernel)) (fun _ _ _ _ _ => (gs_name sc__law_latest.nd rfl (Or.inl rfl))) (fun _ _ _ _ _ => ics_one (bt_cmp (op_neP hu) op_gNe (be_var 1) (be_fe (fe_lst fa_nil)) (nomark _))) (fun _ _ _ _ _ => (fe_be (be_ix hu (be_ix hu (be_var 1) (be_fe (fe_neg be_int))) be_int))) (by decide))))) ba_nil))))
theorem ok__law_age (C : Ctx K mg fd) (L : Lam K mg base T) : FnOk P w K mg base CX0 1 (He.fAd K ("_law_age", none)) (fd 13) p__law_age (spF K T 2 f__law_age) := by
  refine fn_ok (k := 0) (N := n__law_age) (ps := p__law_age) (sm := m__law_age) C.d__law_age sc__law_age fun cdv A outer s H E hr => ?_
  have hu := hr.units
  exact (sb_one (ss_ret (fe_tup (fa_cons (fe_be (be_ix hu (be_ix hu (be_ix hu (be_var 0) (be_ix hu (be_var 1) be_int)) (be_ix hu (be_var 1) be_int)) be_int)) (fa_cons (fe_be (be_ix hu (be_var 1) be_int)) (fa_cons (fe_be (be_ix hu (be_var 1) be_int)) fa_nil))))))
theorem ok__law_stands (C : Ctx K mg fd) (L : Lam K mg base T) : FnOk P w K mg base CX0 1 (He.fAd K ("_law_stands", none)) (fd 14) p__law_stands (spF K T 2 f__law_stands) := by
  refine fn_ok (k := 0) (N := n__law_stands) (ps := p__law_stands) (sm := m__law_stands) C.d__law_stands sc__law_stands fun cdv A outer s H E hr => ?_
  have hu := hr.units
  exact (sb_cons (ss_for PassesOwn.never rfl (it_lt (be_var 1)) (gs_name sc__law_stands.nd rfl (Or.inl rfl)) (sb_cons (ss_if (bt_w (wt_or (bt_not (bt_tru (be_fe (fe_isi (be_var 2) kit_tuple boot_tuple rfl C.n_isinstance rfl C.n_tuple boot_isinstance)))) (wt_or (bt_cmp (op_neP hu) op_gNe (be_fe (fe_callB call_len op_len rfl C.n_len boot_len (ba_cons (be_var 2) ba_nil))) be_int (nomark _)) (wt_or1 (bt_not (bt_chain op_le op_lt (op_gB fun i j => decide (i ≤ j)) (op_gB fun i j => decide (i < j)) be_int (be_ix hu (be_var 2) be_int) (be_fe (fe_callB call_len op_len rfl C.n_len boot_len (ba_cons (be_var 0) ba_nil))))))))) (sb_one (ss_ret (fe_be be_bl))) sb_nil)
    (sb_one (ss_if (bt_not (bt_chain op_le op_lt (op_gB fun i j => decide (i ≤ j)) (op_gB fun i j => decide (i < j)) be_int (be_ix hu (be_var 2) be_int) (be_fe (fe_callB call_len op_len rfl C.n_len boot_len (ba_cons (be_ix hu (be_var 0) (be_ix hu (be_var 2) be_int)) ba_nil))))) (sb_one (ss_ret (fe_be be_bl))) sb_nil))))
    (sb_one (ss_ret (fe_cmp (op_eqP hu) op_gEq (be_fe (fe_lensetT rfl hu rfl C.n_len rfl C.n_set (be_var 1))) (be_fe (fe_callB call_len op_len rfl C.n_len boot_len (ba_cons (be_var 1) ba_nil))) (nomark _)))))
theorem ok__law_eldest_so (C : Ctx K mg fd) (L : Lam K mg base T) : FnOk P w K mg base CX0 2 (He.fAd K ("_law_eldest_so", none)) (fd 15) p__law_eldest_so (spF K T 3 f__law_eldest_so) := by
  have k__law_age : FnOk P w K mg base CX0 1 (He.fAd K ("_law_age", none)) (fd 13) p__law_age (spF K T 2 f__law_age) := ok__law_age C L
  refine fn_ok (k := 1) (N := n__law_eldest_so) (ps := p__law_eldest_so) (sm := m__law_eldest_so) C.d__law_eldest_so sc__law_eldest_so fun cdv A outer s H E hr => ?_
  have hu := hr.units
  exact (sb_cons (ss_setLcF (i := 3) (own := [("_law_spot", 9)]) (g := (gNm 9)) (t := yesT) (m := c0__law_eldest_so) rfl sc__law_eldest_so.nd rfl rfl (sw_true rfl rfl rfl (by decide +kernel)) (ic_lt (be_var 1)) (blkOk_by (N := n__law_eldest_so) (sc := defScope s__law_eldest_so) (by decide +kernel)) (fun _ _ _ _ _ => (gs_name sc__law_eldest_so.nd rfl (Or.inl rfl))) (fun _ _ _ _ _ => ics_nil) (fun _ _ _ _ _ => (fe_call k__law_age (hr.mono (by decide)) rfl C.g__law_age C.d__law_age.kp (b__law_age C) (ba_cons (be_var 0) (ba_cons (be_var 9) ba_nil)))) (by decide))
    (sb_cons (ss_if (bt_cmp (op_neP hu) op_gNe (be_var 3) (be_fe (fe_callB (cr_sortD hu) op_sortD rfl C.n_sorted boot_sorted (ba_cons (be_var 3) ba_nil))) (nomark _)) (sb_one (ss_ret (fe_be be_bl))) sb_nil)
    (sb_cons (ss_for PassesOwn.never rfl (it_enum rfl C.n_enumerate (ba_cons (be_var 0) ba_nil)) (gs_tup rfl (gss_cons (gs_name sc__law_eldest_so.nd rfl (Or.inl rfl)) (gss_cons (gs_name sc__law_eldest_so.nd rfl (Or.inl rfl)) gss_nil))) (sb_one (ss_for PassesOwn.never rfl (it_enum rfl C.n_enumerate (ba_cons (be_var 5) ba_nil)) (gs_tup rfl (gss_cons (gs_name sc__law_eldest_so.nd rfl (Or.inl rfl)) (gss_cons (gs_name sc__law_eldest_so.nd rfl (Or.inl rfl)) gss_nil))) (sb_cons (ss_set sc__law_eldest_so.nd rfl (Or.inl rfl) (fe_be (be_and (be_fe (fe_notin hu (be_fe (fe_tup (fa_cons (fe_be (be_var 4)) (fa_cons (fe_be (be_var 6)) fa_nil)))) (be_var 1) (by rfl))) (be_one (be_or (be_fe (fe_isN (be_var 2))) (be_one (be_fe (fe_cmp (op_eqP hu) op_gEq (be_ix hu (be_var 7) be_int) (be_var 2) (nomark _)))))))))
    (sb_one (ss_if (bt_w (wt_and (bt_tru (be_var 8)) (wt_and1 (bt_cmp (op_lt3 hu) op_gLt3 (be_fe (fe_tup (fa_cons (fe_be (be_ix hu (be_var 7) be_int)) (fa_cons (fe_be (be_var 4)) (fa_cons (fe_be (be_var 6)) fa_nil))))) (be_ix hu (be_var 3) (be_fe (fe_neg be_int))) (nomark _))))) (sb_one (ss_ret (fe_be be_bl))) sb_nil))))))
    (sb_one (ss_ret (fe_be be_bl))))))
theorem ok__law_first_of_all (C : Ctx K mg fd) (L : Lam K mg base T) : FnOk P w K mg base CX0 1 (He.fAd K ("_law_first_of_all", none)) (fd 16) p__law_first_of_all (spF K T 1 f__law_first_of_all) := by
  refine fn_ok (k := 0) (N := n__law_first_of_all) (ps := p__law_first_of_all) (sm := m__law_first_of_all) C.d__law_first_of_all sc__law_first_of_all fun cdv A outer s H E hr => ?_
  have hu := hr.units
  exact (sb_cons (ss_set sc__law_first_of_all.nd rfl (Or.inl rfl) (fe_be (be_fe (fe_lst fa_nil))))
    (sb_cons (ss_for PassesOwn.never rfl (it_enum rfl C.n_enumerate (ba_cons (be_var 0) ba_nil)) (gs_tup rfl (gss_cons (gs_name sc__law_first_of_all.nd rfl (Or.inr rfl)) (gss_cons (gs_name sc__law_first_of_all.nd rfl (Or.inl rfl)) gss_nil))) (sb_one (ss_set sc__law_first_of_all.nd rfl (Or.inl rfl) (fe_be (be_fe (fe_add (be_var 1) (be_fe (fe_lc (own := [("_law_number", 4), ("_law_one", 5)]) (g := (gTp 2 (gCn (gNm 4) (gCn (gNm 5) gNl)))) (t := yesT) (m := c0__law_first_of_all) rfl sc__law_first_of_all.nd (ic_enum rfl C.n_enumerate (ba_cons (be_var 3) ba_nil)) (blkOk_by (N := n__law_first_of_all) (sc := defScope s__law_first_of_all) (by decide +kernel)) (fun _ _ _ _ _ => (gs_tup rfl (gss_cons (gs_name sc__law_first_of_all.nd rfl (Or.inl rfl)) (gss_cons (gs_name sc__law_first_of_all.nd rfl (Or.inl rfl)) gss_nil)))) (fun _ _ _ _ _ => ics_nil) (fun _ _ _ _ _ => (fe_tup (fa_cons (fe_be (be_ix hu (be_var 5) be_int)) (fa_cons (fe_be (be_var 2)) (fa_cons (fe_be (be_var 4)) fa_nil))))) (by decide)))))))))
    (sb_one (ss_ret (fe_callB (cr_min3 rfl hu) op_min3 rfl C.n_min boot_min (ba_cons (be_var 1) ba_nil))))))
theorem ok__law_one_parcel (C : Ctx K mg fd) (L : Lam K mg base T) : FnOk P w K mg base CX0 1 (He.fAd K ("_law_one_parcel", none)) (fd 17) p__law_one_parcel (spF K T 2 f__law_one_parcel) := by
  refine fn_ok (k := 0) (N := n__law_one_parcel) (ps := p__law_one_parcel) (sm := m__law_one_parcel) C.d__law_one_parcel sc__law_one_parcel fun cdv A outer s H E hr => ?_
  have hu := hr.units
  exact (sb_cons (ss_setLcF (i := 2) (own := [("_law_place", 3), ("_law_number", 4)]) (g := (gTp 2 (gCn (gNm 3) (gCn (gNm 4) gNl)))) (t := yesT) (m := c0__law_one_parcel) rfl sc__law_one_parcel.nd rfl rfl (sw_true rfl rfl rfl (by decide +kernel)) (ic_lt (be_var 1)) (blkOk_by (N := n__law_one_parcel) (sc := defScope s__law_one_parcel) (by decide +kernel)) (fun _ _ _ _ _ => (gs_tup rfl (gss_cons (gs_name sc__law_one_parcel.nd rfl (Or.inl rfl)) (gss_cons (gs_name sc__law_one_parcel.nd rfl (Or.inl rfl)) gss_nil)))) (fun _ _ _ _ _ => ics_nil) (fun _ _ _ _ _ => (fe_be (be_ix hu (be_ix hu (be_ix hu (be_var 0) (be_var 3)) (be_var 4)) be_int))) (by decide))
    (sb_one (ss_ret (fe_be (be_and (be_fe (fe_cmp (op_eqP hu) op_gEq (be_fe (fe_lc (own := [("_law_place", 3), ("_law_number", 4)]) (g := (gTp 2 (gCn (gNm 3) (gCn (gNm 4) gNl)))) (t := yesT) (m := c1__law_one_parcel) rfl sc__law_one_parcel.nd (ic_lt (be_var 1)) (blkOk_by (N := n__law_one_parcel) (sc := defScope s__law_one_parcel) (by decide +kernel)) (fun _ _ _ _ _ => (gs_tup rfl (gss_cons (gs_name sc__law_one_parcel.nd rfl (Or.inl rfl)) (gss_cons (gs_name sc__law_one_parcel.nd rfl (Or.inl rfl)) gss_nil)))) (fun _ _ _ _ _ => ics_nil) (fun _ _ _ _ _ => (fe_be (be_var 3))) (by decide))) (be_fe (fe_lrg1 rfl rfl C.n_list rfl C.n_range (be_fe (fe_callB call_len op_len rfl C.n_len boot_len (ba_cons (be_var 0) ba_nil))))) (nomark _))) (be_and (be_fe (fe_cmp (op_eqP hu) op_gEq (be_fe (fe_lenset rfl rfl C.n_len rfl C.n_set (be_var 2))) be_int (nomark _))) (be_one (be_fe (fe_cmp (op_neP hu) op_gNe (be_ix hu (be_var 2) be_int) be_str (nomark _))))))))))
theorem ok__law_none_due (C : Ctx K mg fd) (L : Lam K mg base T) : FnOk P w K mg base CX0 2 (He.fAd K ("_law_none_due", none)) (fd 18) p__law_none_due (spF K T 3 f__law_none_due) := by
  have k__law_first_of_all : FnOk P w K mg base CX0 1 (He.fAd K ("_law_first_of_all", none)) (fd 16) p__law_first_of_all (spF K T 1 f__law_first_of_all) := ok__law_first_of_all C L
  refine fn_ok (k := 1) (N := n__law_none_due) (ps := p__law_none_due) (sm := m__law_none_due) C.d__law_none_due sc__law_none_due fun cdv A outer s H E hr => ?_
  have hu := hr.units
  exact (sb_cons (ss_if (bt_cmp (op_eqP hu) op_gEq (be_fe (fe_lc (own := [("_law_row", 4)]) (g := (gNm 4)) (t := ct0__law_none_due) (m := c0__law_none_due) rfl sc__law_none_due.nd (ic_lt (be_var 1)) (blkOk_by (N := n__law_none_due) (sc := defScope s__law_none_due) (by decide +kernel)) (fun _ _ _ _ _ => (gs_name sc__law_none_due.nd rfl (Or.inl rfl))) (fun _ _ _ _ _ => ics_one (bt_cmp (op_neP hu) op_gNe (be_var 4) (be_fe (fe_lst fa_nil)) (nomark _))) (fun _ _ _ _ _ => (fe_be (be_var 4))) (by decide))) (be_fe (fe_lst fa_nil)) (nomark _)) (sb_one (ss_ret (fe_be be_bl))) sb_nil)
    (sb_cons (ss_if (bt_cmp (op_eqP hu) op_gEq (be_ix hu (be_var 0) be_int) be_str (nomark _)) (sb_one (ss_ret (fe_be (be_and (be_fe (fe_cmp op_lt (op_gB fun i j => decide (i < j)) (be_fe (fe_callB (cr_sum rfl) op_sum rfl C.n_sum boot_sum (ba_cons (be_fe (fe_lc (own := [("_law_row", 4)]) (g := (gNm 4)) (t := yesT) (m := c1__law_none_due) rfl sc__law_none_due.nd (ic_lt (be_var 1)) (blkOk_by (N := n__law_none_due) (sc := defScope s__law_none_due) (by decide +kernel)) (fun _ _ _ _ _ => (gs_name sc__law_none_due.nd rfl (Or.inl rfl))) (fun _ _ _ _ _ => ics_nil) (fun _ _ _ _ _ => (fe_callB call_len op_len rfl C.n_len boot_len (ba_cons (be_var 4) ba_nil))) (by decide))) ba_nil))) (be_ix hu (be_var 0) be_int) (nomark _))) (be_one (be_fe (fe_cmp op_lt (op_gB fun i j => decide (i < j)) (be_fe (fe_sub (be_var 2) (be_ix hu (be_fe (fe_call k__law_first_of_all (hr.mono (by decide)) rfl C.g__law_first_of_all C.d__law_first_of_all.kp (b__law_first_of_all C) (ba_cons (be_var 1) ba_nil))) be_int))) (be_ix hu (be_var 0) be_int) (nomark _)))))))) sb_nil)
    (sb_cons (ss_if (bt_cmp (op_neP hu) op_gNe (be_ix hu (be_var 0) be_int) be_str (nomark _)) (sb_one (ss_ret (fe_be be_bl))) sb_nil)
    (sb_cons (ss_for PassesOwn.never rfl (it_lt (be_ix hu (be_var 1) be_int)) (gs_name sc__law_none_due.nd rfl (Or.inr rfl)) (sb_one (ss_if (bt_w (wt_and (bt_cmp (op_neP hu) op_gNe (be_ix hu (be_var 3) be_int) be_str (nomark _)) (wt_and1 (bt_tru (be_fe (fe_callB (cr_all rfl) op_all rfl C.n_all boot_all (ba_cons (be_fe (fe_lc (own := [("_law_row", 4)]) (g := (gNm 4)) (t := yesT) (m := c2__law_none_due) rfl sc__law_none_due.nd (ic_lt (be_var 1)) (blkOk_by (N := n__law_none_due) (sc := defScope s__law_none_due) (by decide +kernel)) (fun _ _ _ _ _ => (gs_name sc__law_none_due.nd rfl (Or.inl rfl))) (fun _ _ _ _ _ => ics_nil) (fun _ _ _ _ _ => (fe_in hu (be_ix hu (be_var 3) be_int) (be_fe (fe_lc (own := [("_law_other", 5)]) (g := (gNm 5)) (t := yesT) (m := c3__law_none_due) rfl sc__law_none_due.nd (ic_lt (be_var 4)) (blkOk_by (by rfl)) (fun _ _ _ _ _ => (gs_name sc__law_none_due.nd rfl (Or.inl rfl))) (fun _ _ _ _ _ => ics_nil) (fun _ _ _ _ _ => (fe_be (be_ix hu (be_var 5) be_int))) (by decide))) (by rfl))) (by decide))) ba_nil))))))) (sb_one (ss_ret (fe_be be_bl))) sb_nil)))
    (sb_one (ss_ret (fe_be be_bl)))))))
theorem ok__law_right (C : Ctx K mg fd) (L : Lam K mg base T) : FnOk P w K mg base CX0 3 (He.fAd K ("_law_right", none)) (fd 19) p__law_right (spF K T 4 f__law_right) := by
  have k__law_none_due : FnOk P w K mg base CX0 2 (He.fAd K ("_law_none_due", none)) (fd 18) p__law_none_due (spF K T 3 f__law_none_due) := ok__law_none_due C L
  have k__law_stands : FnOk P w K mg base CX0 1 (He.fAd K ("_law_stands", none)) (fd 14) p__law_stands (spF K T 2 f__law_stands) := ok__law_stands C L
  have k__law_one_parcel : FnOk P w K mg base CX0 1 (He.fAd K ("_law_one_parcel", none)) (fd 17) p__law_one_parcel (spF K T 2 f__law_one_parcel) := ok__law_one_parcel C L
  have k__law_age : FnOk P w K mg base CX0 1 (He.fAd K ("_law_age", none)) (fd 13) p__law_age (spF K T 2 f__law_age) := ok__law_age C L
  have k__law_first_of_all : FnOk P w K mg base CX0 1 (He.fAd K ("_law_first_of_all", none)) (fd 16) p__law_first_of_all (spF K T 1 f__law_first_of_all) := ok__law_first_of_all C L
  have k__law_eldest_so : FnOk P w K mg base CX0 2 (He.fAd K ("_law_eldest_so", none)) (fd 15) p__law_eldest_so (spF K T 3 f__law_eldest_so) := ok__law_eldest_so C L
  refine fn_ok (k := 2) (N := n__law_right) (ps := p__law_right) (sm := m__law_right) C.d__law_right sc__law_right fun cdv A outer s H E hr => ?_
  have hu := hr.units
  exact (sb_cons (ss_if (bt_cmp (op_eqP hu) op_gEq (be_var 2) (be_fe (fe_lst fa_nil)) (nomark _)) (sb_one (ss_ret (fe_call k__law_none_due (hr.mono (by decide)) rfl C.g__law_none_due C.d__law_none_due.kp (b__law_none_due C) (ba_cons (be_var 0) (ba_cons (be_var 1) (ba_cons (be_var 3) ba_nil)))))) sb_nil)
    (sb_cons (ss_if (bt_w (wt_or (bt_not (bt_tru (be_fe (fe_call k__law_stands (hr.mono (by decide)) rfl C.g__law_stands C.d__law_stands.kp (b__law_stands C) (ba_cons (be_var 1) (ba_cons (be_var 2) ba_nil)))))) (wt_or1 (bt_tru (be_fe (fe_call k__law_none_due (hr.mono (by decide)) rfl C.g__law_none_due C.d__law_none_due.kp (b__law_none_due C) (ba_cons (be_var 0) (ba_cons (be_var 1) (ba_cons (be_var 3) ba_nil))))))))) (sb_one (ss_ret (fe_be be_bl))) sb_nil)
    (sb_cons (ss_if (bt_in hu (be_ix hu (be_var 0) be_int) (be_fe (fe_tup (fa_cons (fe_be be_str) (fa_cons (fe_be be_str) fa_nil)))) (by rfl)) (sb_one (ss_ret (fe_be (be_and (be_fe (fe_cmp (op_eqP hu) op_gEq (be_fe (fe_callB call_len op_len rfl C.n_len boot_len (ba_cons (be_var 2) ba_nil))) be_int (nomark _))) (be_one (be_fe (fe_cmp (op_eqP hu) op_gEq (be_ix hu (be_ix hu (be_var 2) be_int) be_int) be_int (nomark _)))))))) sb_nil)
    (sb_cons (ss_if (bt_cmp (op_eqP hu) op_gEq (be_ix hu (be_var 0) be_int) be_str (nomark _)) (sb_one (ss_ret (fe_call k__law_one_parcel (hr.mono (by decide)) rfl C.g__law_one_parcel C.d__law_one_parcel.kp (b__law_one_parcel C) (ba_cons (be_var 1) (ba_cons (be_var 2) ba_nil))))) sb_nil)
    (sb_cons (ss_set sc__law_right.nd rfl (Or.inl rfl) (fe_be (be_ix hu (be_ix hu (be_ix hu (be_var 1) (be_ix hu (be_ix hu (be_var 2) be_int) be_int)) (be_ix hu (be_ix hu (be_var 2) be_int) be_int)) be_int)))
    (sb_cons (ss_if (bt_cmp (op_neP hu) op_gNe (be_fe (fe_call k__law_age (hr.mono (by decide)) rfl C.g__law_age C.d__law_age.kp (b__law_age C) (ba_cons (be_var 1) (ba_cons (be_ix hu (be_var 2) be_int) ba_nil)))) (be_fe (fe_call k__law_first_of_all (hr.mono (by decide)) rfl C.g__law_first_of_all C.d__law_first_of_all.kp (b__law_first_of_all C) (ba_cons (be_var 1) ba_nil))) (nomark _)) (sb_one (ss_ret (fe_be be_bl))) sb_nil)
    (sb_cons (ss_if (bt_cmp (op_eqP hu) op_gEq (be_ix hu (be_var 0) be_int) be_str (nomark _)) (sb_cons (ss_setLcF (i := 5) (own := [("_law_place", 6), ("_law_number", 7)]) (g := (gTp 2 (gCn (gNm 6) (gCn (gNm 7) gNl)))) (t := yesT) (m := c0__law_right) rfl sc__law_right.nd rfl rfl (sw_true rfl rfl rfl (by decide +kernel)) (ic_lt (be_var 2)) (blkOk_by (N := n__law_right) (sc := defScope s__law_right) (by decide +kernel)) (fun _ _ _ _ _ => (gs_tup rfl (gss_cons (gs_name sc__law_right.nd rfl (Or.inl rfl)) (gss_cons (gs_name sc__law_right.nd rfl (Or.inl rfl)) gss_nil)))) (fun _ _ _ _ _ => ics_nil) (fun _ _ _ _ _ => (fe_be (be_ix hu (be_ix hu (be_ix hu (be_var 1) (be_var 6)) (be_var 7)) be_int))) (by decide))
    (sb_one (ss_ret (fe_be (be_and (be_fe (fe_cmp (op_eqP hu) op_gEq (be_var 5) (be_fe (fe_mul (be_fe (fe_lst (fa_cons (fe_be (be_var 4)) fa_nil))) (be_fe (fe_callB call_len op_len rfl C.n_len boot_len (ba_cons (be_var 5) ba_nil))))) (nomark _))) (be_one (be_fe (fe_call k__law_eldest_so (hr.mono (by decide)) rfl C.g__law_eldest_so C.d__law_eldest_so.kp (b__law_eldest_so C) (ba_cons (be_var 1) (ba_cons (be_var 2) (ba_cons (be_var 4) ba_nil))))))))))) sb_nil)
    (sb_one (ss_ret (fe_call k__law_eldest_so (hr.mono (by decide)) rfl C.g__law_eldest_so C.d__law_eldest_so.kp (b__law_eldest_so C) (ba_cons (be_var 1) (ba_cons (be_var 2) (ba_cons be_non ba_nil)))))))))))))
theorem ok_law (C : Ctx K mg fd) (L : Lam K mg base T) : FnOk P w K mg base CX0 5 (He.fAd K ("law", none)) (fd 20) p_law (spF K T 1 f_law) := by
  have k__law_mix : FnOk P w K mg base CX0 1 (He.fAd K ("_law_mix", none)) (fd 10) p__law_mix (spF K T 2 f__law_mix) := ok__law_mix C L
  have k__law_cell_at : FnOk P w K mg base CX0 1 (He.fAd K ("_law_cell_at", none)) (fd 9) p__law_cell_at (spF K T 2 f__law_cell_at) := ok__law_cell_at C L
  have k__law_rows : FnOk P w K mg base CX0 2 (He.fAd K ("_law_rows", none)) (fd 11) p__law_rows (spF K T 2 f__law_rows) := ok__law_rows C L
  have k__law_latest : FnOk P w K mg base CX0 1 (He.fAd K ("_law_latest", none)) (fd 12) p__law_latest (spF K T 1 f__law_latest) := ok__law_latest C L
  have k_load_of : FnOk P w K mg base CX0 4 (He.fAd K ("load_of", none)) (fd 8) p_load_of (spF K T 4 f_load_of) := ok_load_of C L
  have k__law_right : FnOk P w K mg base CX0 3 (He.fAd K ("_law_right", none)) (fd 19) p__law_right (spF K T 4 f__law_right) := ok__law_right C L
  refine fn_ok (k := 4) (N := n_law) (ps := p_law) (sm := m_law) C.d_law sc_law fun cdv A outer s H E hr => ?_
  have hu := hr.units
  exact (sb_cons (ss_set sc_law.nd rfl (Or.inl rfl) (fe_be (be_fe (fe_add be_int (be_fe (fe_mod (be_fe (fe_call k__law_mix (hr.mono (by decide)) rfl C.g__law_mix C.d__law_mix.kp (b__law_mix C) (ba_cons (be_fe (fe_call k__law_cell_at (hr.mono (by decide)) rfl C.g__law_cell_at C.d__law_cell_at.kp (b__law_cell_at C) (ba_cons (be_var 0) (ba_cons be_int ba_nil)))) (ba_cons be_int ba_nil)))) be_int))))))
    (sb_cons (ss_set sc_law.nd rfl (Or.inr rfl) (fe_be (be_fe (fe_call k__law_mix (hr.mono (by decide)) rfl C.g__law_mix C.d__law_mix.kp (b__law_mix C) (ba_cons (be_fe (fe_call k__law_cell_at (hr.mono (by decide)) rfl C.g__law_cell_at C.d__law_cell_at.kp (b__law_cell_at C) (ba_cons (be_var 0) (ba_cons be_int ba_nil)))) (ba_cons be_int ba_nil))))))
    (sb_cons (ss_set sc_law.nd rfl (Or.inl rfl) (fe_be (be_fe (fe_callTy call_tuple_of op_tuple rfl C.n_tuple boot_tuple (ba_cons (be_fe (fe_lc (own := [("_law_k", 10)]) (g := (gNm 10)) (t := yesT) (m := c0_law) rfl sc_law.nd (ic_it (it_r1 rfl C.n_range (ba_cons (be_var 1) ba_nil))) (blkOk_by (N := n_law) (sc := defScope s_law) (by decide +kernel)) (fun _ _ _ _ _ => (gs_name sc_law.nd rfl (Or.inl rfl))) (fun _ _ _ _ _ => ics_nil) (fun _ _ _ _ _ => (fe_add be_int (be_fe (fe_mod (be_fe (fe_call k__law_mix (hr.mono (by decide)) rfl C.g__law_mix C.d__law_mix.kp (b__law_mix C) (ba_cons (be_var 2) (ba_cons (be_var 10) ba_nil)))) be_int)))) (by decide))) ba_nil)))))
    (sb_cons (ss_set sc_law.nd rfl (Or.inl rfl) (fe_lst (fa_cons (fe_tup (fa_cons (fe_be be_str) (fa_cons (fe_be (be_var 3)) fa_nil))) (fa_cons (fe_tup (fa_cons (fe_be be_str) fa_nil)) (fa_cons (fe_tup (fa_cons (fe_be be_str) (fa_cons (fe_be (be_ix hu (be_fe (fe_lst (fa_cons (fe_be be_non) (fa_cons (fe_mod (be_var 2) be_int) fa_nil)))) (be_fe (fe_mod (be_fe (fe_div (be_var 2) be_int)) be_int)))) fa_nil))) (fa_cons (fe_tup (fa_cons (fe_be be_str) (fa_cons (fe_add be_int (be_fe (fe_mod (be_var 2) be_int))) fa_nil))) fa_nil))))))
    (sb_cons (ss_pm (q_var 4) (fa_cons (fe_tup (fa_cons (fe_be be_str) (fa_cons (fe_add be_int (be_fe (fe_mod (be_fe (fe_div (be_var 2) be_int)) be_int))) (fa_cons (fe_mod (be_fe (fe_div (be_var 2) be_int)) be_int) fa_nil)))) fa_nil) act_append PySem.F.slot_list_append PySem.F.type_list_append mt_append)
    (sb_cons (ss_if (bt_cmp op_gt (op_gB fun i j => decide (j < i)) (be_var 1) be_int (nomark _)) (sb_one (ss_pm (q_var 4) (fa_cons (fe_tup (fa_cons (fe_be be_str) fa_nil)) fa_nil) act_append PySem.F.slot_list_append PySem.F.type_list_append mt_append)) sb_nil)
    (sb_cons (ss_set sc_law.nd rfl (Or.inl rfl) (fe_be (be_fe (fe_call k__law_rows (hr.mono (by decide)) rfl C.g__law_rows C.d__law_rows.kp (b__law_rows C) (ba_cons (be_fe (fe_sl (be_var 0) (bo_some be_int) (bo_some be_int))) (ba_cons (be_var 1) ba_nil))))))
    (sb_cons (ss_set sc_law.nd rfl (Or.inl rfl) (fe_be (be_fe (fe_add (be_fe (fe_call k__law_latest (hr.mono (by decide)) rfl C.g__law_latest C.d__law_latest.kp (b__law_latest C) (ba_cons (be_var 5) ba_nil))) (be_fe (fe_mod (be_fe (fe_div (be_var 2) be_int)) be_int))))))
    (sb_cons (ss_set sc_law.nd rfl (Or.inl rfl) (fe_be (be_fe (fe_tup (fa_cons (fe_mod (be_fe (fe_div (be_var 2) be_int)) (be_var 1)) (fa_cons (fe_be be_int) fa_nil))))))
    (sb_cons (ss_fz 4 (ss_for PassesOwn.never rfl (it_lt (be_var 4)) (gs_name sc_law.nd rfl (Or.inl rfl)) (sb_cons (ss_set sc_law.nd rfl (Or.inl rfl) (fe_be (be_fe (fe_call k_load_of (hr.mono (by decide)) rfl C.g_load_of C.d_load_of.kp (b_load_of C) (ba_cons (be_var 8) (ba_cons (be_fe (fe_lc (own := [("_law_row", 11)]) (g := (gNm 11)) (t := yesT) (m := c1_law) rfl sc_law.nd (ic_lt (be_var 5)) (blkOk_by (N := n_law) (sc := defScope s_law) (by decide +kernel)) (fun _ _ _ _ _ => (gs_name sc_law.nd rfl (Or.inl rfl))) (fun _ _ _ _ _ => ics_nil) (fun _ _ _ _ _ => (fe_callTy call_list_of op_list rfl C.n_list boot_list (ba_cons (be_var 11) ba_nil))) (by decide))) (ba_cons (be_var 7) (ba_cons (be_var 6) ba_nil))))))))
    (sb_cons (ss_if (bt_w (wt_or (bt_not (bt_tru (be_fe (fe_isi (be_var 9) kit_tuple boot_tuple rfl C.n_isinstance rfl C.n_tuple boot_isinstance)))) (wt_or (bt_cmp (op_neP hu) op_gNe (be_fe (fe_callB call_len op_len rfl C.n_len boot_len (ba_cons (be_var 9) ba_nil))) be_int (nomark _)) (wt_or1 (bt_not (bt_tru (be_fe (fe_isi (be_ix hu (be_var 9) be_int) kit_list boot_list rfl C.n_isinstance rfl C.n_list boot_isinstance)))))))) (sb_one (ss_ret (fe_be be_bl))) sb_nil)
    (sb_cons (ss_if (bt_not (bt_tru (be_fe (fe_call k__law_right (hr.mono (by decide)) rfl C.g__law_right C.d__law_right.kp (b__law_right C) (ba_cons (be_var 8) (ba_cons (be_var 5) (ba_cons (be_ix hu (be_var 9) be_int) (ba_cons (be_var 6) ba_nil)))))))) (sb_one (ss_ret (fe_be be_bl))) sb_nil)
    (sb_one (ss_if (bt_w (wt_and (bt_cmp (op_neP hu) op_gNe (be_ix hu (be_var 8) be_int) be_str (nomark _)) (wt_and1 (bt_cmp (op_neP hu) op_gNe (be_ix hu (be_var 9) be_int) (be_var 7) (nomark _))))) (sb_one (ss_ret (fe_be be_bl))) sb_nil)))))))
    (sb_one (ss_ret (fe_be be_bl)))))))))))))
end
end K27
namespace K27
open PySem PySem.Spec PyProof.Rows L2 VL Mr
section
variable {w : World} {K : PySem.W.Frag} {h : Heap} {mg : Str → Option Value}
theorem facts (X : K.In h) (G : h.Ns mainGlobals mg) (c : He.SaysD fa fn K) : ∃ fd : Nat → FuncData, Ctx K mg fd := by
  obtain ⟨fd0, F0⟩ := c.def_ 0 (d := dd_by_age) rfl
  obtain ⟨fd1, F1⟩ := c.def_ 1 (d := dd_spots_of) rfl
  obtain ⟨fd2, F2⟩ := c.def_ 2 (d := dd_by_turns) rfl
  obtain ⟨fd3, F3⟩ := c.def_ 3 (d := dd_by_rank) rfl
  obtain ⟨fd4, F4⟩ := c.def_ 4 (d := dd_of_one_kind) rfl
  obtain ⟨fd5, F5⟩ := c.def_ 5 (d := dd_gathered) rfl
  obtain ⟨fd6, F6⟩ := c.def_ 6 (d := dd_first_of) rfl
  obtain ⟨fd7, F7⟩ := c.def_ 7 (d := dd_met) rfl
  obtain ⟨fd8, F8⟩ := c.def_ 8 (d := dd_load_of) rfl
  obtain ⟨fd9, F9⟩ := c.def_ 9 (d := dd__law_cell_at) rfl
  obtain ⟨fd10, F10⟩ := c.def_ 10 (d := dd__law_mix) rfl
  obtain ⟨fd11, F11⟩ := c.def_ 11 (d := dd__law_rows) rfl
  obtain ⟨fd12, F12⟩ := c.def_ 12 (d := dd__law_latest) rfl
  obtain ⟨fd13, F13⟩ := c.def_ 13 (d := dd__law_age) rfl
  obtain ⟨fd14, F14⟩ := c.def_ 14 (d := dd__law_stands) rfl
  obtain ⟨fd15, F15⟩ := c.def_ 15 (d := dd__law_eldest_so) rfl
  obtain ⟨fd16, F16⟩ := c.def_ 16 (d := dd__law_first_of_all) rfl
  obtain ⟨fd17, F17⟩ := c.def_ 17 (d := dd__law_one_parcel) rfl
  obtain ⟨fd18, F18⟩ := c.def_ 18 (d := dd__law_none_due) rfl
  obtain ⟨fd19, F19⟩ := c.def_ 19 (d := dd__law_right) rfl
  obtain ⟨fd20, F20⟩ := c.def_ 20 (d := dd_law) rfl
  refine ⟨fun i => [fd0, fd1, fd2, fd3, fd4, fd5, fd6, fd7, fd8, fd9, fd10, fd11, fd12, fd13, fd14, fd15, fd16, fd17, fd18, fd19, fd20].getD i fd0, ?_⟩
  exact {
    d_by_age := F0
    g_by_age := He.glo_ok X G (c.fact 0 (f := .glo "by_age") rfl)
    d_spots_of := F1
    g_spots_of := He.glo_ok X G (c.fact 1 (f := .glo "spots_of") rfl)
    d_by_turns := F2
    g_by_turns := He.glo_ok X G (c.fact 2 (f := .glo "by_turns") rfl)
    d_by_rank := F3
    g_by_rank := He.glo_ok X G (c.fact 3 (f := .glo "by_rank") rfl)
    d_of_one_kind := F4
    g_of_one_kind := He.glo_ok X G (c.fact 4 (f := .glo "of_one_kind") rfl)
    d_gathered := F5
    g_gathered := He.glo_ok X G (c.fact 5 (f := .glo "gathered") rfl)
    d_first_of := F6
    g_first_of := He.glo_ok X G (c.fact 6 (f := .glo "first_of") rfl)
    d_met := F7
    g_met := He.glo_ok X G (c.fact 7 (f := .glo "met") rfl)
    d_load_of := F8
    g_load_of := He.glo_ok X G (c.fact 8 (f := .glo "load_of") rfl)
    d__law_cell_at := F9
    g__law_cell_at := He.glo_ok X G (c.fact 9 (f := .glo "_law_cell_at") rfl)
    d__law_mix := F10
    g__law_mix := He.glo_ok X G (c.fact 10 (f := .glo "_law_mix") rfl)
    d__law_rows := F11
    g__law_rows := He.glo_ok X G (c.fact 11 (f := .glo "_law_rows") rfl)
    d__law_latest := F12
    g__law_latest := He.glo_ok X G (c.fact 12 (f := .glo "_law_latest") rfl)
    d__law_age := F13
    g__law_age := He.glo_ok X G (c.fact 13 (f := .glo "_law_age") rfl)
    d__law_stands := F14
    g__law_stands := He.glo_ok X G (c.fact 14 (f := .glo "_law_stands") rfl)
    d__law_eldest_so := F15
    g__law_eldest_so := He.glo_ok X G (c.fact 15 (f := .glo "_law_eldest_so") rfl)
    d__law_first_of_all := F16
    g__law_first_of_all := He.glo_ok X G (c.fact 16 (f := .glo "_law_first_of_all") rfl)
    d__law_one_parcel := F17
    g__law_one_parcel := He.glo_ok X G (c.fact 17 (f := .glo "_law_one_parcel") rfl)
    d__law_none_due := F18
    g__law_none_due := He.glo_ok X G (c.fact 18 (f := .glo "_law_none_due") rfl)
    d__law_right := F19
    g__law_right := He.glo_ok X G (c.fact 19 (f := .glo "_law_right") rfl)
    d_law := F20
    g_law := He.glo_ok X G (c.fact 20 (f := .glo "law") rfl)
    n_all := He.free_ok X G (c.fact 21 (f := .free "all") rfl)
    n_enumerate := He.free_ok X G (c.fact 22 (f := .free "enumerate") rfl)
    n_isinstance := He.free_ok X G (c.fact 23 (f := .free "isinstance") rfl)
    n_len := He.free_ok X G (c.fact 24 (f := .free "len") rfl)
    n_list := He.free_ok X G (c.fact 25 (f := .free "list") rfl)
    n_max := He.free_ok X G (c.fact 26 (f := .free "max") rfl)
    n_min := He.free_ok X G (c.fact 27 (f := .free "min") rfl)
    n_range := He.free_ok X G (c.fact 28 (f := .free "range") rfl)
    n_set := He.free_ok X G (c.fact 29 (f := .free "set") rfl)
    n_sorted := He.free_ok X G (c.fact 30 (f := .free "sorted") rfl)
    n_sum := He.free_ok X G (c.fact 31 (f := .free "sum") rfl)
    n_tuple := He.free_ok X G (c.fact 32 (f := .free "tuple") rfl)
  }
theorem lam {base : Heap} (TB : ∀ p ∈ tf.map (He.cT K), LamX.TabB base mg p.1 p.2) : Lam K mg base (tabs K) := {
    ok := trivial
    tb_by_age := TB _ (List.mem_map.mpr ⟨("by_age", none), by decide, rfl⟩)
    m_by_age := by unfold tabs; simp
    u_by_age := by unfold tabs; simp
  }
theorem tbs {H : Hp} (hT : ∀ p ∈ tf.map (He.cT K), H p.2 = some (.tbl #[])) : LamX.Tabs (tabs K) H := fun p hp => by
  have : ∃ q ∈ tf, p.1 = (He.cT K q).2 := by
    unfold tabs at hp
    simp at hp
    subst hp
    exact ⟨("by_age", none), by decide, rfl⟩
  obtain ⟨q, h1, h2⟩ := this
  exact .nil (by rw [h2]; exact hT _ (List.mem_map.mpr ⟨q, h1, rfl⟩))
end
end K27
namespace K27
theorem plain (ns : List Int) (hl : ns.length ≤ 63) (hb : ∀ z ∈ ns, PySem.Builtin.Int.intBits z ≤ 1048576) : ∃ o svs, Mr.f_law [.frz (.scr ns)] = some (o, svs) ∧ o.toD = .bl true := Pr.plain27 ns
end K27
open PySem PySem.W PySem.Calls PyProof.Rows
theorem PySem.Challenge.cw_mergeline_k27_elders_first_holds : PySem.Challenge.rw_mergeline_k27_elders_first.Holds := by
  w_on; o_law
  refine HandSHeadRun.head_any (r := OpenLaw.row PySem.Challenge.rw_mergeline_k27_elders_first) (q := view (OpenLaw.row PySem.Challenge.rw_mergeline_k27_elders_first).prog [22]) (H := K27.hk) (ob := K27.ob) (M := 4000) (loose := K27.loose) (d := HandSHeadRun.topDef (OpenLaw.row PySem.Challenge.rw_mergeline_k27_elders_first).prog 22) (kwd := []) K27.ob_eq
    (by kernel_rfl) (fun s => by kernel_rfl) K27.run (by kernel_rfl) (by kernel_rfl) (by kernel_rfl) (by rfl) (by first | assumption | decide +kernel) (by decide +kernel) ⟨rfl, rfl, rfl, rfl, rfl, by decide +kernel⟩ ?hw ?hc
  case hw => w_witness2
  case hc =>
    refine LamX.walk_ofTsE (l := PySem.Challenge.rw_mergeline_k27_elders_first) (n := 63) (k := 5) (x := "_law_script") (CX := fun _ => L2.CX0) rfl (by decide) (by kernel_rfl) ⟨rfl, by decide, by decide⟩ ?F (fun _ _ _ _ _ z => z)
    intro w mg fa h Y G hmg0
    obtain ⟨K, KX, c⟩ := Y
    have hmg : mg ("law" : PySem.Str) = some (.ref fa) := by
      have e : (HandSHeadRun.topDef (OpenLaw.row PySem.Challenge.rw_mergeline_k27_elders_first).prog 22).name = ("law" : PySem.Str) := by kernel_rfl
      rw [← e]
      exact hmg0
    obtain ⟨fd, C⟩ := K27.facts KX G c.t.d
    have e := hmg.symm.trans C.g_law
    cases e
    have b := L2.FunD.bindsA (ps := ["_law_script"]) C.d_law fun _ _ _ _ _ _ us hl => match us, hl with | [_], _ => rfl
    refine ⟨K, KX, fd 20, K27.tf.map (He.cT K), VL.spF K (K27.tabs K) 1 Mr.f_law, fun p hp => ?_, fun p hp => ?_, fun p hp => ?_, fun s v => b s [v] rfl, fun H a ns hl hbits hT hS => ?_, fun base _ _ TB => K27.ok_law C (K27.lam TB)⟩
    · obtain ⟨q, h1, rfl⟩ := List.mem_map.mp hp
      exact c.empty q h1
    · obtain ⟨q, h1, rfl⟩ := List.mem_map.mp hp
      exact c.out q h1
    · obtain ⟨q, h1, rfl⟩ := List.mem_map.mp hp
      exact codeHd_of_K KX (c.hd q h1)
    · obtain ⟨o, svs, e1, e2⟩ := K27.plain ns hl hbits
      exact VL.law_sp (K27.tbs hT) hS e1 e2

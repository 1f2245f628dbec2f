import PyProof.Rows.All
import HandS.Defaults
import PySem.Challenge.RW_plugnets_k38_whole_an_end_taken_away
import KE.KStateDown
import Lean
import HandS.Ends
import HandS.Words
import HandS.WordsExc
import HandS.Head0
import HandS.Head1
import HandS.Head2
import HandS.HeadEnd
import HandS.HeadHook1
import HandS.HeadHook2
import HandS.ForMost
import HandS.Wide
import HandS.More
import HandS.Strs
import HandS.Star
import HandS.Conv
import HandS.SortInts
import HandS.IsInst
import HandS.SetFor
import HandS.WideMore
namespace DL
end DL

section
set_option Elab.async false
set_option linter.all false
set_option autoImplicit false
set_option maxRecDepth 100000
set_option maxHeartbeats 4000000
namespace PN
open PySem PySem.Spec PyProof.Rows L2 DL
def topS (i : Nat) : Stmt := PySem.Challenge.pw_plugnets_k38_whole_an_end_taken_away.main.body.getD i (.Pass ⟨0, 0, 0, 0⟩)
abbrev FnP (K : PySem.W.Frag) (x : Str) (st : Stmt) (f : Addr) (fd : FuncData) : Prop := FunD K x x (defArgs st) (defBody st) (defScope st) [] [] f fd
abbrev s_is_integer : Stmt := topS 9
abbrev s_is_number : Stmt := topS 10
abbrev s_is_plugs : Stmt := topS 11
abbrev s_need_plugs : Stmt := topS 12
abbrev s_need_device : Stmt := topS 13
abbrev s_too_many : Stmt := topS 14
abbrev s_conflict_in : Stmt := topS 15
abbrev s_need_net : Stmt := topS 16
abbrev s_factorial_of : Stmt := topS 18
abbrev s_nets_of : Stmt := topS 19
abbrev s_need_possible : Stmt := topS 20
abbrev s_count_nets : Stmt := topS 21
abbrev s_divisor_of : Stmt := topS 23
abbrev s_lowest : Stmt := topS 24
abbrev s_share_of_cables : Stmt := topS 25
abbrev s_need_two : Stmt := topS 27
abbrev s_cable_share : Stmt := topS 28
abbrev s_choices : Stmt := topS 30
abbrev s_is_group : Stmt := topS 32
abbrev s_need_group : Stmt := topS 33
abbrev s_share_of_around : Stmt := topS 34
abbrev s_is_full : Stmt := topS 36
abbrev s_weight_of : Stmt := topS 37
abbrev s_share_around : Stmt := topS 38
abbrev s_need_centre : Stmt := topS 39
abbrev s_around_share : Stmt := topS 40
abbrev s_need_gathered : Stmt := topS 42
abbrev s_tops_within : Stmt := topS 43
abbrev s_tops_of_group : Stmt := topS 44
abbrev s_within_shares : Stmt := topS 45
abbrev s_together_share : Stmt := topS 46
abbrev s_is_side : Stmt := topS 48
abbrev s_side_share : Stmt := topS 49
abbrev s_path_sums : Stmt := topS 51
abbrev s_is_line : Stmt := topS 52
abbrev s_tops_of : Stmt := topS 53
abbrev s_shares_of : Stmt := topS 54
abbrev s_step_shares : Stmt := topS 55
abbrev s_l_store : Stmt := topS 57
abbrev s_l_pick : Stmt := topS 58
abbrev s_l_word : Stmt := topS 59
abbrev s_l_plugs : Stmt := topS 60
abbrev s_l_great : Stmt := topS 61
abbrev s_l_middle : Stmt := topS 62
abbrev s_l_fraction : Stmt := topS 63
abbrev s_l_sum : Stmt := topS 64
abbrev s_l_without : Stmt := topS 65
abbrev s_l_name : Stmt := topS 66
abbrev s_l_names : Stmt := topS 67
abbrev s_l_mixed : Stmt := topS 68
abbrev s_l_weighed : Stmt := topS 69
abbrev s_l_group_right : Stmt := topS 71
abbrev s_l_around_right : Stmt := topS 72
abbrev s_l_right : Stmt := topS 70
abbrev s_law : Stmt := topS 73
end PN
end

section
set_option Elab.async false
set_option linter.all false
set_option maxRecDepth 100000
set_option maxHeartbeats 0
namespace PN
open PySem PySem.Spec PyProof.Rows L2 DL
def loose0 : List PySem.Str := ["PlugError", "InvalidPlugs", "InvalidGroup", "InvalidDevice", "Impossible", "MOST_DEVICES", "MOST_NUMBER", "is_integer", "is_number", "is_plugs", "need_plugs", "need_device", "too_many", "conflict_in", "need_net", "factorial_of", "nets_of", "need_possible", "count_nets", "divisor_of", "lowest", "share_of", "share_of_cables", "need_two", "cable_share", "choices", "is_group", "need_group", "share_of_around", "is_full"]
def loose1 : List PySem.Str := ["weight_of", "share_around", "need_centre", "around_share", "need_gathered", "tops_within", "tops_of_group", "within_shares", "together_share", "is_side", "side_share", "path_sums", "is_line", "tops_of", "shares_of", "step_shares", "_law_store", "_law_pick", "_law_word", "_law_plugs", "_law_great", "_law_middle", "_law_fraction", "_law_sum", "_law_without", "_law_name", "_law_names", "_law_mixed", "_law_weighed", "_law_right"]
def loose2 : List PySem.Str := ["_law_group_right", "_law_around_right"]
def loose : List PySem.Str := loose0 ++ loose1 ++ loose2
def dd_is_integer : He.DefD := ⟨("is_integer", none), "is_integer", "is_integer", defArgs s_is_integer, defBody s_is_integer, defScope s_is_integer, [], []⟩
def dd_is_number : He.DefD := ⟨("is_number", none), "is_number", "is_number", defArgs s_is_number, defBody s_is_number, defScope s_is_number, [], []⟩
def dd_is_plugs : He.DefD := ⟨("is_plugs", none), "is_plugs", "is_plugs", defArgs s_is_plugs, defBody s_is_plugs, defScope s_is_plugs, [], []⟩
def dd_need_plugs : He.DefD := ⟨("need_plugs", none), "need_plugs", "need_plugs", defArgs s_need_plugs, defBody s_need_plugs, defScope s_need_plugs, [], []⟩
def dd_need_device : He.DefD := ⟨("need_device", none), "need_device", "need_device", defArgs s_need_device, defBody s_need_device, defScope s_need_device, [], []⟩
def dd_too_many : He.DefD := ⟨("too_many", none), "too_many", "too_many", defArgs s_too_many, defBody s_too_many, defScope s_too_many, [], []⟩
def dd_conflict_in : He.DefD := ⟨("conflict_in", none), "conflict_in", "conflict_in", defArgs s_conflict_in, defBody s_conflict_in, defScope s_conflict_in, [], []⟩
def dd_need_net : He.DefD := ⟨("need_net", none), "need_net", "need_net", defArgs s_need_net, defBody s_need_net, defScope s_need_net, [], []⟩
def dd_factorial_of : He.DefD := ⟨("factorial_of", none), "factorial_of", "factorial_of", defArgs s_factorial_of, defBody s_factorial_of, defScope s_factorial_of, [], []⟩
def dd_nets_of : He.DefD := ⟨("nets_of", none), "nets_of", "nets_of", defArgs s_nets_of, defBody s_nets_of, defScope s_nets_of, [], []⟩
def dd_need_possible : He.DefD := ⟨("need_possible", none), "need_possible", "need_possible", defArgs s_need_possible, defBody s_need_possible, defScope s_need_possible, [], []⟩
def dd_count_nets : He.DefD := ⟨("count_nets", none), "count_nets", "count_nets", defArgs s_count_nets, defBody s_count_nets, defScope s_count_nets, [], []⟩
def dd_divisor_of : He.DefD := ⟨("divisor_of", none), "divisor_of", "divisor_of", defArgs s_divisor_of, defBody s_divisor_of, defScope s_divisor_of, [], []⟩
def dd_lowest : He.DefD := ⟨("lowest", none), "lowest", "lowest", defArgs s_lowest, defBody s_lowest, defScope s_lowest, [], []⟩
def dd_share_of_cables : He.DefD := ⟨("share_of_cables", none), "share_of", "share_of", defArgs s_share_of_cables, defBody s_share_of_cables, defScope s_share_of_cables, [], []⟩
def dd_need_two : He.DefD := ⟨("need_two", none), "need_two", "need_two", defArgs s_need_two, defBody s_need_two, defScope s_need_two, [], []⟩
def dd_cable_share : He.DefD := ⟨("cable_share", none), "cable_share", "cable_share", defArgs s_cable_share, defBody s_cable_share, defScope s_cable_share, [], []⟩
def dd_choices : He.DefD := ⟨("choices", none), "choices", "choices", defArgs s_choices, defBody s_choices, defScope s_choices, [], []⟩
def dd_is_group : He.DefD := ⟨("is_group", none), "is_group", "is_group", defArgs s_is_group, defBody s_is_group, defScope s_is_group, [], []⟩
def dd_need_group : He.DefD := ⟨("need_group", none), "need_group", "need_group", defArgs s_need_group, defBody s_need_group, defScope s_need_group, [], []⟩
def dd_share_of_around : He.DefD := ⟨("share_of_around", none), "share_of", "share_of", defArgs s_share_of_around, defBody s_share_of_around, defScope s_share_of_around, [], []⟩
def dd_is_full : He.DefD := ⟨("is_full", none), "is_full", "is_full", defArgs s_is_full, defBody s_is_full, defScope s_is_full, [], []⟩
def dd_weight_of : He.DefD := ⟨("weight_of", none), "weight_of", "weight_of", defArgs s_weight_of, defBody s_weight_of, defScope s_weight_of, [], []⟩
def dd_share_around : He.DefD := ⟨("share_around", none), "share_around", "share_around", defArgs s_share_around, defBody s_share_around, defScope s_share_around, [], []⟩
def dd_need_centre : He.DefD := ⟨("need_centre", none), "need_centre", "need_centre", defArgs s_need_centre, defBody s_need_centre, defScope s_need_centre, [], []⟩
def dd_around_share : He.DefD := ⟨("around_share", none), "around_share", "around_share", defArgs s_around_share, defBody s_around_share, defScope s_around_share, [], []⟩
def dd_need_gathered : He.DefD := ⟨("need_gathered", none), "need_gathered", "need_gathered", defArgs s_need_gathered, defBody s_need_gathered, defScope s_need_gathered, [], []⟩
def dd_tops_within : He.DefD := ⟨("tops_within", none), "tops_within", "tops_within", defArgs s_tops_within, defBody s_tops_within, defScope s_tops_within, [], []⟩
def dd_tops_of_group : He.DefD := ⟨("tops_of_group", none), "tops_of_group", "tops_of_group", defArgs s_tops_of_group, defBody s_tops_of_group, defScope s_tops_of_group, [], []⟩
def dd_within_shares : He.DefD := ⟨("within_shares", none), "within_shares", "within_shares", defArgs s_within_shares, defBody s_within_shares, defScope s_within_shares, [], []⟩
def dd_together_share : He.DefD := ⟨("together_share", none), "together_share", "together_share", defArgs s_together_share, defBody s_together_share, defScope s_together_share, [], []⟩
def dd_is_side : He.DefD := ⟨("is_side", none), "is_side", "is_side", defArgs s_is_side, defBody s_is_side, defScope s_is_side, [], []⟩
def dd_side_share : He.DefD := ⟨("side_share", none), "side_share", "side_share", defArgs s_side_share, defBody s_side_share, defScope s_side_share, [], []⟩
def dd_path_sums : He.DefD := ⟨("path_sums", none), "path_sums", "path_sums", defArgs s_path_sums, defBody s_path_sums, defScope s_path_sums, [], []⟩
def dd_is_line : He.DefD := ⟨("is_line", none), "is_line", "is_line", defArgs s_is_line, defBody s_is_line, defScope s_is_line, [], []⟩
def dd_tops_of : He.DefD := ⟨("tops_of", none), "tops_of", "tops_of", defArgs s_tops_of, defBody s_tops_of, defScope s_tops_of, [], []⟩
def dd_shares_of : He.DefD := ⟨("shares_of", none), "shares_of", "shares_of", defArgs s_shares_of, defBody s_shares_of, defScope s_shares_of, [], []⟩
def dd_step_shares : He.DefD := ⟨("step_shares", none), "step_shares", "step_shares", defArgs s_step_shares, defBody s_step_shares, defScope s_step_shares, [], []⟩
def dd_l_store : He.DefD := ⟨("_law_store", none), "_law_store", "_law_store", defArgs s_l_store, defBody s_l_store, defScope s_l_store, [], []⟩
def dd_l_pick : He.DefD := ⟨("_law_pick", none), "_law_pick", "_law_pick", defArgs s_l_pick, defBody s_l_pick, defScope s_l_pick, [], []⟩
def dd_l_word : He.DefD := ⟨("_law_word", none), "_law_word", "_law_word", defArgs s_l_word, defBody s_l_word, defScope s_l_word, [], []⟩
def dd_l_plugs : He.DefD := ⟨("_law_plugs", none), "_law_plugs", "_law_plugs", defArgs s_l_plugs, defBody s_l_plugs, defScope s_l_plugs, [], []⟩
def dd_l_great : He.DefD := ⟨("_law_great", none), "_law_great", "_law_great", defArgs s_l_great, defBody s_l_great, defScope s_l_great, [], []⟩
def dd_l_middle : He.DefD := ⟨("_law_middle", none), "_law_middle", "_law_middle", defArgs s_l_middle, defBody s_l_middle, defScope s_l_middle, [], []⟩
def dd_l_fraction : He.DefD := ⟨("_law_fraction", none), "_law_fraction", "_law_fraction", defArgs s_l_fraction, defBody s_l_fraction, defScope s_l_fraction, [], []⟩
def dd_l_sum : He.DefD := ⟨("_law_sum", none), "_law_sum", "_law_sum", defArgs s_l_sum, defBody s_l_sum, defScope s_l_sum, [], []⟩
def dd_l_without : He.DefD := ⟨("_law_without", none), "_law_without", "_law_without", defArgs s_l_without, defBody s_l_without, defScope s_l_without, [], []⟩
def dd_l_name : He.DefD := ⟨("_law_name", none), "_law_name", "_law_name", defArgs s_l_name, defBody s_l_name, defScope s_l_name, [], []⟩
def dd_l_names : He.DefD := ⟨("_law_names", none), "_law_names", "_law_names", defArgs s_l_names, defBody s_l_names, defScope s_l_names, [], []⟩
def dd_l_mixed : He.DefD := ⟨("_law_mixed", none), "_law_mixed", "_law_mixed", defArgs s_l_mixed, defBody s_l_mixed, defScope s_l_mixed, [], []⟩
def dd_l_weighed : He.DefD := ⟨("_law_weighed", none), "_law_weighed", "_law_weighed", defArgs s_l_weighed, defBody s_l_weighed, defScope s_l_weighed, [], []⟩
def dd_l_group_right : He.DefD := ⟨("_law_group_right", none), "_law_group_right", "_law_group_right", defArgs s_l_group_right, defBody s_l_group_right, defScope s_l_group_right, [], []⟩
def dd_l_around_right : He.DefD := ⟨("_law_around_right", none), "_law_around_right", "_law_around_right", defArgs s_l_around_right, defBody s_l_around_right, defScope s_l_around_right, [], []⟩
def dd_l_right : He.DefD := ⟨("_law_right", none), "_law_right", "_law_right", defArgs s_l_right, defBody s_l_right, defScope s_l_right, [], []⟩
def dd_law : He.DefD := ⟨("law", none), "law", "law", defArgs s_law, defBody s_law, defScope s_law, [], []⟩
def fn0 : List He.DefD := [dd_is_integer, dd_is_number, dd_is_plugs, dd_need_plugs, dd_need_device, dd_too_many, dd_conflict_in, dd_need_net, dd_factorial_of, dd_nets_of, dd_need_possible, dd_count_nets, dd_divisor_of, dd_lowest, dd_share_of_cables, dd_need_two, dd_cable_share, dd_choices, dd_is_group, dd_need_group]
def fn1 : List He.DefD := [dd_share_of_around, dd_is_full, dd_weight_of, dd_share_around, dd_need_centre, dd_around_share, dd_need_gathered, dd_tops_within, dd_tops_of_group, dd_within_shares, dd_together_share, dd_is_side, dd_side_share, dd_path_sums, dd_is_line, dd_tops_of, dd_shares_of, dd_step_shares, dd_l_store, dd_l_pick]
def fn2 : List He.DefD := [dd_l_word, dd_l_plugs, dd_l_great, dd_l_middle, dd_l_fraction, dd_l_sum, dd_l_without, dd_l_name, dd_l_names, dd_l_mixed, dd_l_weighed, dd_l_group_right, dd_l_around_right, dd_l_right, dd_law]
def fn : List He.DefD := fn0 ++ fn1 ++ fn2
def fa0 : List He.Fa := [.glo "is_integer", .glo "is_number", .glo "is_plugs", .glo "need_plugs", .glo "need_device", .glo "too_many", .glo "conflict_in", .glo "need_net", .glo "factorial_of", .glo "nets_of", .glo "need_possible", .glo "count_nets", .glo "divisor_of", .glo "lowest", .glo "share_of_cables", .glo "need_two", .glo "cable_share", .glo "choices", .glo "is_group", .glo "need_group"]
def fa1 : List He.Fa := [.glo "share_of_around", .glo "is_full", .glo "weight_of", .glo "share_around", .glo "need_centre", .glo "around_share", .glo "need_gathered", .glo "tops_within", .glo "tops_of_group", .glo "within_shares", .glo "together_share", .glo "is_side", .glo "side_share", .glo "path_sums", .glo "is_line", .glo "tops_of", .glo "shares_of", .glo "step_shares", .glo "_law_store", .glo "_law_pick"]
def fa2 : List He.Fa := [.glo "_law_word", .glo "_law_plugs", .glo "_law_great", .glo "_law_middle", .glo "_law_fraction", .glo "_law_sum", .glo "_law_without", .glo "_law_name", .glo "_law_names", .glo "_law_mixed", .glo "_law_weighed", .glo "_law_group_right", .glo "_law_around_right", .glo "_law_right", .glo "law", .free "isinstance", .free "len", .free "all", .free "sum", .free "min"]
def fa3 : List He.Fa := [.free "max", .free "abs", .free "int", .free "list", .free "bool", .free "range", .free "sorted", .free "set", .free "enumerate", .free "zip", .int "MOST_DEVICES" 60, .int "MOST_NUMBER" 1000000000000000000000000000000]
def fa : List He.Fa := fa0 ++ fa1 ++ fa2 ++ fa3
abbrev RR : PySem.W.OpenRow := PySem.W.OpenLaw.row PySem.Challenge.rw_plugnets_k38_whole_an_end_taken_away
abbrev hk : PySem.W.Hook := He.hookD 4 fa fn
def obb (s : PySem.W.SharedT) : He.AlD := He.obsDG 4 fa fn (HandSHeadRun.getT s)
theorem obb_eq (s : PySem.W.SharedT) : obb s = hk.obs s.abs := He.obsDG_eq (HandSHeadRun.getT_eq s)
theorem run (w : World) : HandSHeadRun.RunEq RR (PySem.W.view RR.prog [73]) hk obb 8000 loose w := by
  intro os
  kernel_rfl
end PN
end

section
set_option Elab.async false
set_option linter.all false
set_option autoImplicit false
set_option maxRecDepth 100000
/-! Dat1: the heap in parts, data over it, the state of a def as data. -/
namespace DL
open PySem PySem.Spec PyProof.Rows L2

/-! ### heaps in parts -/
def jn (H F : Hp) : Hp := fun a => match H a with
  | some o => some o
  | none => F a
def Dj (H F : Hp) : Prop := ∀ a, H a = none ∨ F a = none
def Ex (H H' : Hp) : Prop := ∀ a o, H a = some o → H' a = some o
theorem Ex.refl (H : Hp) : Ex H H := fun _ _ h => h
theorem Ex.trans {H H1 H2 : Hp} (a : Ex H H1) (b : Ex H1 H2) : Ex H H2 := fun x o h => b x o (a x o h)
section
variable {H F G : Hp} {a p : Addr} {o : HO}
theorem jn_l (h : H a = some o) : jn H F a = some o := by unfold jn; rw [h]
theorem jn_r (h : H a = none) : jn H F a = F a := by unfold jn; rw [h]
theorem jn_none (h : jn H F a = none) : H a = none ∧ F a = none := by
  unfold jn at h
  split at h
  · cases h
  · rename_i e; exact ⟨e, h⟩
theorem jn_of_none (h : H a = none) (h' : F a = none) : jn H F a = none := by rw [jn_r h, h']
theorem upd_jn : upd (jn H F) p o = jn (upd H p o) F := by
  funext b
  unfold upd jn
  by_cases hb : b = p
  · simp [hb]
  · simp [hb]
theorem upd_jn_r (h : H p = none) : upd (jn H F) p o = jn H (upd F p o) := by
  funext b
  unfold upd jn
  by_cases hb : b = p
  · subst hb; simp [h]
  · simp [hb]
theorem Ex.new (h : H p = none) : Ex H (upd H p o) := fun b u e => by
  rw [upd_ne (ne_of_none e h)]; exact e
theorem Ex.jn : Ex H (jn H F) := fun _ _ h => jn_l h
theorem Dj.symm (h : Dj H F) : Dj F H := fun a => (h a).symm
theorem Dj.no (h : Dj H F) (e : F a = some o) : H a = none := by
  rcases h a with z | z
  · exact z
  · rw [e] at z; cases z
theorem Dj.new (h : Dj H F) (e : F p = none) : Dj (upd H p o) F := fun b => by
  by_cases hb : b = p
  · subst hb; exact .inr e
  · rw [upd_ne hb]; exact h b
theorem Dj.upd (h : Dj H F) (e : F p ≠ none) : Dj H (upd F p o) := fun b => by
  by_cases hb : b = p
  · subst hb
    rcases h b with z | z
    · exact .inl z
    · exact absurd z e
  · rw [upd_ne hb]; exact h b
theorem Dj.put (h : Dj H F) (e : H p = none) : Dj H (L2.upd F p o) := fun b => by
  by_cases hb : b = p
  · subst hb; exact .inl e
  · rw [upd_ne hb]; exact h b
end

/-! ### data -/
mutual
inductive Dd (H : Hp) : V → PyData → Prop
  | non : Dd H .non .none
  | bl (b : Bool) : Dd H (.bl b) (.bool b)
  | int (i : Int) : Dd H (.int i) (.int i)
  | lst {a : Addr} {xs : List V} {ds : List PyData} : H a = some (.lst xs) → DdAll H xs ds → Dd H (.ref a) (.list ds)
  | tup {a : Addr} {xs : List V} {ds : List PyData} : H a = some (.tup xs) → DdAll H xs ds → Dd H (.ref a) (.tuple ds)
inductive DdAll (H : Hp) : List V → List PyData → Prop
  | nil : DdAll H [] []
  | cons {v : V} {vs : List V} {d : PyData} {ds : List PyData} : Dd H v d → DdAll H vs ds → DdAll H (v :: vs) (d :: ds)
end
section
variable {H H' : Hp}
mutual
theorem Dd.mono (e : Ex H H') : ∀ {v : V} {d : PyData}, Dd H v d → Dd H' v d
  | _, _, .non => .non
  | _, _, .bl b => .bl b
  | _, _, .int i => .int i
  | _, _, .lst h hs => .lst (e _ _ h) (DdAll.mono e hs)
  | _, _, .tup h hs => .tup (e _ _ h) (DdAll.mono e hs)
theorem DdAll.mono (e : Ex H H') : ∀ {vs : List V} {ds : List PyData}, DdAll H vs ds → DdAll H' vs ds
  | _, _, .nil => .nil
  | _, _, .cons h hs => .cons (h.mono e) (DdAll.mono e hs)
end
mutual
theorem Dd.dp {K : PySem.W.Frag} : ∀ {v : V} {d : PyData}, Dd H v d → Dp K H v d
  | _, _, .non => .non
  | _, _, .bl b => .bl b
  | _, _, .int i => .int i
  | _, _, .lst h hs => .lst (SqL.of h) (DdAll.dp hs)
  | _, _, .tup h hs => .tup (SqT.of h) (DdAll.dp hs)
theorem DdAll.dp {K : PySem.W.Frag} : ∀ {vs : List V} {ds : List PyData}, DdAll H vs ds → DpAll K H vs ds
  | _, _, .nil => .nil
  | _, _, .cons h hs => .cons h.dp (DdAll.dp hs)
end
theorem Dd.int_inv {v : V} {i : Int} (h : Dd H v (.int i)) : v = .int i := by cases h; rfl
theorem Dd.bool_inv {v : V} {i : Bool} (h : Dd H v (.bool i)) : v = .bl i := by cases h; rfl
theorem Dd.none_inv {v : V} (h : Dd H v .none) : v = .non := by cases h; rfl
theorem Dd.list_inv {v : V} {ds : List PyData} (h : Dd H v (.list ds)) : ∃ a xs, v = .ref a ∧ H a = some (.lst xs) ∧ DdAll H xs ds := by
  cases h with
  | lst h hs => exact ⟨_, _, rfl, h, hs⟩
theorem Dd.tuple_inv {v : V} {ds : List PyData} (h : Dd H v (.tuple ds)) : ∃ a xs, v = .ref a ∧ H a = some (.tup xs) ∧ DdAll H xs ds := by
  cases h with
  | tup h hs => exact ⟨_, _, rfl, h, hs⟩
theorem DdAll.length : ∀ {vs : List V} {ds : List PyData}, DdAll H vs ds → vs.length = ds.length
  | _, _, .nil => rfl
  | _, _, .cons _ hs => by simp [DdAll.length hs]
theorem DdAll.get : ∀ {vs : List V} {ds : List PyData} {i : Nat} {d : PyData}, DdAll H vs ds → ds[i]? = some d → ∃ v, vs[i]? = some v ∧ Dd H v d
  | _, _, _, _, .nil, e => by simp at e
  | _, _, 0, _, .cons h _, e => by simp at e; subst e; exact ⟨_, rfl, h⟩
  | _, _, i + 1, _, .cons _ hs, e => by
    obtain ⟨v, a, b⟩ := DdAll.get (i := i) hs (by simpa using e)
    exact ⟨v, by simpa using a, b⟩
theorem DdAll.append : ∀ {vs ws : List V} {ds es : List PyData}, DdAll H vs ds → DdAll H ws es → DdAll H (vs ++ ws) (ds ++ es)
  | _, _, _, _, .nil, b => b
  | _, _, _, _, .cons h hs, b => .cons h (DdAll.append hs b)
theorem DdAll.take : ∀ {vs : List V} {ds : List PyData} (n : Nat), DdAll H vs ds → DdAll H (vs.take n) (ds.take n)
  | _, _, 0, _ => by simpa using DdAll.nil
  | _, _, _ + 1, .nil => by simpa using DdAll.nil
  | _, _, n + 1, .cons h hs => .cons h (DdAll.take n hs)
theorem DdAll.drop : ∀ {vs : List V} {ds : List PyData} (n : Nat), DdAll H vs ds → DdAll H (vs.drop n) (ds.drop n)
  | _, _, 0, h => by simpa using h
  | _, _, _ + 1, .nil => by simpa using DdAll.nil
  | _, _, n + 1, .cons _ hs => DdAll.drop n hs
theorem DdAll.set {v : V} {d : PyData} (h : Dd H v d) : ∀ {vs : List V} {ds : List PyData} (i : Nat), DdAll H vs ds → DdAll H (vs.set i v) (ds.set i d)
  | _, _, _, .nil => .nil
  | _, _, 0, .cons _ hs => .cons h hs
  | _, _, i + 1, .cons a hs => .cons a (DdAll.set h i hs)
theorem DdAll.eraseIdx : ∀ {vs : List V} {ds : List PyData} (i : Nat), DdAll H vs ds → DdAll H (vs.eraseIdx i) (ds.eraseIdx i)
  | _, _, _, .nil => .nil
  | _, _, 0, .cons _ hs => hs
  | _, _, i + 1, .cons a hs => .cons a (DdAll.eraseIdx i hs)
theorem DdAll.ints : ∀ {vs : List V} {ns : List Int}, DdAll H vs (ns.map PyData.int) → vs = ns.map V.int
  | _, [], .nil => rfl
  | _, n :: ns, .cons h hs => by rw [h.int_inv, DdAll.ints hs]; rfl
theorem DdAll.bools : ∀ {vs : List V} {ns : List Bool}, DdAll H vs (ns.map PyData.bool) → vs = ns.map V.bl
  | _, [], .nil => rfl
  | _, n :: ns, .cons h hs => by rw [h.bool_inv, DdAll.bools hs]; rfl
theorem DdAll.of_ints : ∀ (ns : List Int), DdAll H (ns.map V.int) (ns.map PyData.int)
  | [] => .nil
  | n :: ns => .cons (.int n) (DdAll.of_ints ns)
theorem DdAll.of_pairs : ∀ (ps : List (V × PyData)), (∀ q ∈ ps, Dd H q.1 q.2) → DdAll H (ps.map (·.1)) (ps.map (·.2))
  | [], _ => .nil
  | p :: ps, h => .cons (h p (by simp)) (DdAll.of_pairs ps fun q hq => h q (by simp [hq]))
theorem DdAll.pairs : ∀ {vs : List V} {ds : List PyData}, DdAll H vs ds → ∃ ps : List (V × PyData), ps.map (·.1) = vs ∧ ps.map (·.2) = ds ∧ ∀ q ∈ ps, Dd H q.1 q.2
  | _, _, .nil => ⟨[], rfl, rfl, fun _ h => by simp at h⟩
  | _, _, .cons (v := v) (d := d) h hs => by
    obtain ⟨ps, a, b, c⟩ := DdAll.pairs hs
    refine ⟨(v, d) :: ps, by simp [a], by simp [b], fun q hq => ?_⟩
    rcases List.mem_cons.mp hq with rfl | hq
    · exact h
    · exact c q hq
theorem DdAll.repeat {v : V} {d : PyData} (h : Dd H v d) : ∀ n : Nat, DdAll H (List.replicate n v) (List.replicate n d)
  | 0 => .nil
  | n + 1 => .cons h (DdAll.repeat h n)
end

/-! ### a def's state as data -/
inductive Own where
  | lst (ds : List PyData)
  | dic (kvs : List (Int × PyData))
inductive En where
  | no
  | dat (d : PyData)
  | own (p : Addr) (c : Own)
  | raw (v : V)
def OwnOk (H : Hp) : HO → Own → Prop
  | .lst vs, .lst ds => DdAll H vs ds
  | .dK kvs, .dic ds => Paired (fun (p : Key × V) (q : Int × PyData) => p.1 = Sum.inl q.1 ∧ Dd H p.2 q.2) kvs ds
  | _, _ => False
theorem OwnOk.mono {H H' : Hp} (e : Ex H H') {o : HO} {c : Own} (h : OwnOk H o c) : OwnOk H' o c := by
  cases o <;> cases c <;> first | exact h | exact DdAll.mono e h | exact Paired.mapP h fun _ _ z => ⟨z.1, z.2.mono e⟩
def SlotOk (H O : Hp) (σ : L2.St) (i : Nat) : En → Prop
  | .no => True
  | .dat d => ∃ v, σ[i]? = some (some v) ∧ Dd H v d
  | .own p c => σ[i]? = some (some (.ref p)) ∧ ∃ o, O p = some o ∧ OwnOk H o c
  | .raw v => σ[i]? = some (some v)
abbrev Ts := List (V × PyData)
structure StaI (H0 F : Hp) (es : List En) (σ : L2.St) (ts : Ts) (Hc H O : Hp) : Prop where
  hc : Hc = jn H (jn O F)
  ho : Dj H O
  hf : Dj H F
  of : Dj O F
  ext : Ex H0 H
  len : σ.length = es.length
  sl : ∀ (i : Nat) (e : En), es[i]? = some e → SlotOk H O σ i e
  ap : ∀ (i j : Nat) (p : Addr) (c c' : Own), es[i]? = some (En.own p c) → es[j]? = some (En.own p c') → i = j
  tp : ∀ q ∈ ts, Dd H q.1 q.2
def Sta (H0 F : Hp) (es : List En) (σ : L2.St) (ts : Ts) (Hc : Hp) : Prop := ∃ H O, StaI H0 F es σ ts Hc H O
section
variable {H0 F Hc H O : Hp} {es : List En} {σ : L2.St} {ts : Ts} {p : Addr} {o : HO}
theorem SlotOk.mono {H' : Hp} (e : Ex H H') {i : Nat} {x : En} (h : SlotOk H O σ i x) : SlotOk H' O σ i x := by
  cases x with
  | no => trivial
  | dat d => obtain ⟨v, a, b⟩ := h; exact ⟨v, a, b.mono e⟩
  | own p c => obtain ⟨a, o, b, c⟩ := h; exact ⟨a, o, b, c.mono e⟩
  | raw v => exact h
theorem StaI.at (I : StaI H0 F es σ ts Hc H O) {a : Addr} {u : HO} (h : H a = some u) : Hc a = some u := by rw [I.hc]; exact jn_l h
theorem StaI.atO (I : StaI H0 F es σ ts Hc H O) {a : Addr} {u : HO} (h : O a = some u) : Hc a = some u := by
  rw [I.hc, jn_r (I.ho.no h)]; exact jn_l h
theorem StaI.free (I : StaI H0 F es σ ts Hc H O) {a : Addr} (h : Hc a = none) : H a = none ∧ O a = none ∧ F a = none := by
  rw [I.hc] at h
  obtain ⟨a1, a2⟩ := jn_none h
  exact ⟨a1, jn_none a2⟩
/-- a new immutable object -/
theorem StaI.grow (I : StaI H0 F es σ ts Hc H O) (h : Hc p = none) : StaI H0 F es σ ts (upd Hc p o) (upd H p o) O := by
  obtain ⟨h1, h2, h3⟩ := I.free h
  refine ⟨by rw [I.hc, upd_jn], I.ho.new h2, I.hf.new h3, I.of, I.ext.trans (Ex.new h1), I.len, fun i e z => (I.sl i e z).mono (Ex.new h1), I.ap, fun q hq => (I.tp q hq).mono (Ex.new h1)⟩
theorem StaI.temps (I : StaI H0 F es σ ts Hc H O) {ts' : Ts} (h : ∀ q ∈ ts', Dd H q.1 q.2) : StaI H0 F es σ ts' Hc H O := { I with tp := h }
theorem Sta.weak (S : Sta H0 F es σ ts Hc) {ts' : Ts} (h : ∀ q ∈ ts', q ∈ ts) : Sta H0 F es σ ts' Hc := by
  obtain ⟨H, O, I⟩ := S
  exact ⟨H, O, I.temps fun q hq => I.tp q (h q hq)⟩
theorem Sta.tail {q : V × PyData} (S : Sta H0 F es σ (q :: ts) Hc) : Sta H0 F es σ ts Hc := S.weak fun _ h => by simp [h]
/-- a temp that leans on no object -/
theorem Sta.pure (S : Sta H0 F es σ ts Hc) {v : V} {d : PyData} (h : ∀ H, Dd H v d) : Sta H0 F es σ ((v, d) :: ts) Hc := by
  obtain ⟨H, O, I⟩ := S
  exact ⟨H, O, I.temps fun q hq => by
    rcases List.mem_cons.mp hq with rfl | hq
    · exact h H
    · exact I.tp q hq⟩
theorem Sta.int (S : Sta H0 F es σ ts Hc) (i : Int) : Sta H0 F es σ ((.int i, .int i) :: ts) Hc := S.pure fun _ => .int i
theorem Sta.bl (S : Sta H0 F es σ ts Hc) (i : Bool) : Sta H0 F es σ ((.bl i, .bool i) :: ts) Hc := S.pure fun _ => .bl i
theorem Sta.non (S : Sta H0 F es σ ts Hc) : Sta H0 F es σ ((.non, .none) :: ts) Hc := S.pure fun _ => .non
theorem Sta.get_int {v : V} {i : Int} (S : Sta H0 F es σ ((v, .int i) :: ts) Hc) : v = .int i := by
  obtain ⟨H, O, I⟩ := S
  exact (I.tp (v, .int i) (by simp)).int_inv
theorem Sta.get_bool {v : V} {i : Bool} (S : Sta H0 F es σ ((v, .bool i) :: ts) Hc) : v = .bl i := by
  obtain ⟨H, O, I⟩ := S
  exact (I.tp (v, .bool i) (by simp)).bool_inv
theorem Sta.get_none {v : V} (S : Sta H0 F es σ ((v, .none) :: ts) Hc) : v = .non := by
  obtain ⟨H, O, I⟩ := S
  exact (I.tp (v, .none) (by simp)).none_inv
/-- a temp at any place -/
theorem Sta.mem {v : V} {d : PyData} (S : Sta H0 F es σ ts Hc) (h : (v, d) ∈ ts) : Sta H0 F es σ ((v, d) :: ts) Hc := S.weak fun q hq => by
  rcases List.mem_cons.mp hq with rfl | hq
  · exact h
  · exact hq
/-- a list's items -/
theorem Sta.list {v : V} {ds : List PyData} (S : Sta H0 F es σ ((v, .list ds) :: ts) Hc) : ∃ (a : Addr) (ps : Ts), v = .ref a ∧ Hc a = some (.lst (ps.map (·.1))) ∧ ps.map (·.2) = ds ∧ Sta H0 F es σ (ps ++ ts) Hc := by
  obtain ⟨H, O, I⟩ := S
  obtain ⟨a, xs, rfl, ha, hx⟩ := (I.tp (v, .list ds) (by simp)).list_inv
  obtain ⟨ps, e1, e2, hp⟩ := hx.pairs
  refine ⟨a, ps, rfl, by rw [e1]; exact I.at ha, e2, H, O, I.temps fun q hq => ?_⟩
  rcases List.mem_append.mp hq with hq | hq
  · exact hp q hq
  · exact I.tp q (by simp [hq])
theorem Sta.tuple {v : V} {ds : List PyData} (S : Sta H0 F es σ ((v, .tuple ds) :: ts) Hc) : ∃ (a : Addr) (ps : Ts), v = .ref a ∧ Hc a = some (.tup (ps.map (·.1))) ∧ ps.map (·.2) = ds ∧ Sta H0 F es σ (ps ++ ts) Hc := by
  obtain ⟨H, O, I⟩ := S
  obtain ⟨a, xs, rfl, ha, hx⟩ := (I.tp (v, .tuple ds) (by simp)).tuple_inv
  obtain ⟨ps, e1, e2, hp⟩ := hx.pairs
  refine ⟨a, ps, rfl, by rw [e1]; exact I.at ha, e2, H, O, I.temps fun q hq => ?_⟩
  rcases List.mem_append.mp hq with hq | hq
  · exact hp q hq
  · exact I.tp q (by simp [hq])
/-- a list, a tuple made of temps -/
theorem Sta.newL {ps : Ts} (S : Sta H0 F es σ (ps ++ ts) Hc) (h : Hc p = none) : Sta H0 F es σ ((.ref p, .list (ps.map (·.2))) :: ts) (upd Hc p (.lst (ps.map (·.1)))) := by
  obtain ⟨H, O, I⟩ := S
  have J := I.grow (o := .lst (ps.map (·.1))) h
  refine ⟨_, O, J.temps fun q hq => ?_⟩
  rcases List.mem_cons.mp hq with rfl | hq
  · exact .lst upd_same (DdAll.of_pairs ps fun q hq => J.tp q (by simp [hq]))
  · exact J.tp q (by simp [hq])
theorem Sta.newT {ps : Ts} (S : Sta H0 F es σ (ps ++ ts) Hc) (h : Hc p = none) : Sta H0 F es σ ((.ref p, .tuple (ps.map (·.2))) :: ts) (upd Hc p (.tup (ps.map (·.1)))) := by
  obtain ⟨H, O, I⟩ := S
  have J := I.grow (o := .tup (ps.map (·.1))) h
  refine ⟨_, O, J.temps fun q hq => ?_⟩
  rcases List.mem_cons.mp hq with rfl | hq
  · exact .tup upd_same (DdAll.of_pairs ps fun q hq => J.tp q (by simp [hq]))
  · exact J.tp q (by simp [hq])
/-- a new list of any values that have data -/
theorem Sta.newLV {vs : List V} {ds : List PyData} (S : Sta H0 F es σ ts Hc) (h : Hc p = none) (hd : ∀ H, (∀ q ∈ ts, Dd H q.1 q.2) → DdAll H vs ds) : Sta H0 F es σ ((.ref p, .list ds) :: ts) (upd Hc p (.lst vs)) := by
  obtain ⟨H, O, I⟩ := S
  have J := I.grow (o := .lst vs) h
  refine ⟨_, O, J.temps fun q hq => ?_⟩
  rcases List.mem_cons.mp hq with rfl | hq
  · exact .lst upd_same (hd _ J.tp)
  · exact J.tp q hq
theorem Sta.newI {ns : List Int} (S : Sta H0 F es σ ts Hc) (h : Hc p = none) : Sta H0 F es σ ((.ref p, .list (ns.map .int)) :: ts) (upd Hc p (.lst (ns.map .int))) := S.newLV h fun _ _ => DdAll.of_ints ns
/-- a slot stored -/
theorem StaI.setE (I : StaI H0 F es σ ts Hc H O) {i : Nat} {x : V} {e' : En} (hs : ∀ τ : L2.St, τ[i]? = some (some x) → SlotOk H O τ i e') (ho : ∀ (p : Addr) (c : Own), e' = En.own p c → ∀ (j : Nat) (c' : Own), j ≠ i → es[j]? ≠ some (En.own p c')) :
    StaI H0 F (es.set i e') (σ.set i (some x)) ts Hc H O := by
  have get : ∀ (j : Nat) (e : En), (es.set i e')[j]? = some e → (j = i ∧ e = e' ∧ i < es.length) ∨ (j ≠ i ∧ es[j]? = some e) := fun j e he => by
    by_cases hj : i = j
    · subst hj
      have hlt : i < es.length := by
        have := (List.getElem?_eq_some_iff.mp he).1
        simpa using this
      rw [List.getElem?_set_self hlt] at he
      exact .inl ⟨rfl, (Option.some.inj he).symm, hlt⟩
    · rw [List.getElem?_set_ne hj] at he
      exact .inr ⟨fun z => hj z.symm, he⟩
  refine ⟨I.hc, I.ho, I.hf, I.of, I.ext, by simp [I.len], fun j e he => ?_, fun j k p c c' h1 h2 => ?_, I.tp⟩
  · rcases get j e he with ⟨rfl, rfl, hlt⟩ | ⟨hj, he⟩
    · exact hs _ (List.getElem?_set_self (by rw [I.len]; exact hlt))
    · have hg : (σ.set i (some x))[j]? = σ[j]? := List.getElem?_set_ne (fun z => hj z.symm)
      have := I.sl j e he
      cases e with
      | no => trivial
      | dat d => obtain ⟨v, a, b⟩ := this; exact ⟨v, by rw [hg]; exact a, b⟩
      | own p c => obtain ⟨a, b⟩ := this; exact ⟨by rw [hg]; exact a, b⟩
      | raw v =>
        show (σ.set i (some x))[j]? = some (some v)
        rw [hg]; exact this
  · rcases get j _ h1 with ⟨rfl, e1, _⟩ | ⟨hj, e1⟩
    · rcases get k _ h2 with ⟨rfl, e2, _⟩ | ⟨hk, e2⟩
      · rfl
      · exact absurd e2 (ho p c e1.symm k c' hk)
    · rcases get k _ h2 with ⟨rfl, e2, _⟩ | ⟨hk, e2⟩
      · exact absurd e1 (ho p c' e2.symm j c hj)
      · exact I.ap j k p c c' e1 e2
theorem Sta.set {v : V} {d : PyData} (S : Sta H0 F es σ ((v, d) :: ts) Hc) (i : Nat) : Sta H0 F (es.set i (.dat d)) (σ.set i (some v)) ts Hc := by
  obtain ⟨H, O, I⟩ := S
  exact ⟨H, O, (I.setE (x := v) (e' := .dat d) (fun τ h => ⟨v, h, I.tp (v, d) (by simp)⟩) (fun p c h => by cases h)).temps fun q hq => I.tp q (by simp [hq])⟩
/-- a new own list stored -/
theorem Sta.setOwn {vs : List V} {ds : List PyData} (S : Sta H0 F es σ ts Hc) (h : Hc p = none) (hd : ∀ H, (∀ q ∈ ts, Dd H q.1 q.2) → DdAll H vs ds) (i : Nat) :
    Sta H0 F (es.set i (.own p (.lst ds))) (σ.set i (some (.ref p))) ts (upd Hc p (.lst vs)) := by
  obtain ⟨H, O, I⟩ := S
  obtain ⟨h1, h2, h3⟩ := I.free h
  have exO : ∀ b u, O b = some u → upd O p (.lst vs) b = some u := Ex.new h2
  have J : StaI H0 F es σ ts (upd Hc p (.lst vs)) H (upd O p (.lst vs)) := by
    refine ⟨by rw [I.hc, upd_jn_r h1, upd_jn], I.ho.put h1, I.hf, I.of.new h3, I.ext, I.len, fun j e he => ?_, I.ap, I.tp⟩
    have := I.sl j e he
    cases e with
    | no => trivial
    | dat d => exact this
    | own q c => obtain ⟨a, o, b, c⟩ := this; exact ⟨a, o, exO _ _ b, c⟩
    | raw v => exact this
  refine ⟨H, _, J.setE (fun τ z => ⟨z, _, upd_same, hd H I.tp⟩) fun q c e j c' hj z => ?_⟩
  cases e
  obtain ⟨_, o, a, _⟩ := I.sl j _ z
  rw [h2] at a; cases a
/-- an own thing rewritten -/
theorem Sta.wrOwnG {i : Nat} {c c' : Own} {o' : HO} (S : Sta H0 F es σ ts Hc) (hi : es[i]? = some (.own p c)) (hd : ∀ (H : Hp) (o : HO), (∀ q ∈ ts, Dd H q.1 q.2) → Hc p = some o → OwnOk H o c → OwnOk H o' c') :
    Sta H0 F (es.set i (.own p c')) σ ts (upd Hc p o') := by
  obtain ⟨H, O, I⟩ := S
  obtain ⟨hs, o, ho, hok⟩ := I.sl i _ hi
  have h1 : H p = none := I.ho.no ho
  have h3 : F p = none := by
    rcases I.of p with z | z
    · rw [ho] at z; cases z
    · exact z
  have J : StaI H0 F (es.set i .no) σ ts (upd Hc p o') H (upd O p o') := by
    have get : ∀ (j : Nat) (e : En), (es.set i .no)[j]? = some e → e ≠ .no → j ≠ i ∧ es[j]? = some e := fun j e he hne => by
      by_cases hj : i = j
      · subst hj
        have hlt : i < es.length := by
          have := (List.getElem?_eq_some_iff.mp he).1
          simpa using this
        rw [List.getElem?_set_self hlt] at he
        exact absurd (Option.some.inj he).symm hne
      · rw [List.getElem?_set_ne hj] at he
        exact ⟨fun z => hj z.symm, he⟩
    refine ⟨by rw [I.hc, upd_jn_r h1, upd_jn], I.ho.put h1, I.hf, I.of.new h3, I.ext, by simp [I.len], fun j e he => ?_, fun j k q c c' a b => ?_, I.tp⟩
    · cases e with
      | no => trivial
      | dat d => exact I.sl j _ (get j _ he (fun z => by cases z)).2
      | raw v => exact I.sl j _ (get j _ he (fun z => by cases z)).2
      | own q c =>
        obtain ⟨hj, he⟩ := get j _ he (fun z => by cases z)
        obtain ⟨a, o, b, e⟩ := I.sl j _ he
        refine ⟨a, o, ?_, e⟩
        rw [upd_ne (fun z => ?_)]
        · exact b
        · subst z; exact hj (I.ap j i q _ _ he hi)
    · exact I.ap j k q c c' (get j _ a (fun z => by cases z)).2 (get k _ b (fun z => by cases z)).2
  have K := J.setE (i := i) (x := .ref p) (e' := .own p c') (fun τ z => ⟨z, _, upd_same, hd H o I.tp (I.atO ho) hok⟩) fun q c e j c' hj z => ?_
  · have e1 : (es.set i En.no).set i (En.own p c') = es.set i (En.own p c') := by simp
    have e2 : σ.set i (some (.ref p)) = σ := by
      apply List.ext_getElem?
      intro j
      by_cases hj : i = j
      · subst hj
        have hlt := (List.getElem?_eq_some_iff.mp hs).1
        rw [List.getElem?_set_self hlt, hs]
      · rw [List.getElem?_set_ne hj]
    rw [e1, e2] at K
    exact ⟨H, _, K⟩
  · cases e
    rw [List.getElem?_set_ne (fun z => hj z.symm)] at z
    exact hj (I.ap j i _ _ _ z hi)
theorem Sta.wrOwn {i : Nat} {c : Own} {vs : List V} {ds : List PyData} (S : Sta H0 F es σ ts Hc) (hi : es[i]? = some (.own p c)) (hd : ∀ H, (∀ q ∈ ts, Dd H q.1 q.2) → (∀ (vs0 : List V) (ds0 : List PyData), c = .lst ds0 → Hc p = some (.lst vs0) → DdAll H vs0 ds0) → DdAll H vs ds) :
    Sta H0 F (es.set i (.own p (.lst ds))) σ ts (upd Hc p (.lst vs)) :=
  S.wrOwnG hi fun H o ht ho hok => hd H ht fun vs0 ds0 e e2 => by
    subst e
    rw [ho] at e2
    cases e2
    exact hok
/-- what stands in an own list -/
theorem Sta.getOwn {i : Nat} {ds : List PyData} (S : Sta H0 F es σ ts Hc) (hi : es[i]? = some (.own p (.lst ds))) : ∃ ps : Ts, σ[i]? = some (some (.ref p)) ∧ Hc p = some (.lst (ps.map (·.1))) ∧ ps.map (·.2) = ds ∧ Sta H0 F es σ (ps ++ ts) Hc := by
  obtain ⟨H, O, I⟩ := S
  obtain ⟨hs, o, ho, hok⟩ := I.sl i _ hi
  cases o <;> first | exact False.elim hok | skip
  obtain ⟨ps, e1, e2, hp⟩ := DdAll.pairs (show DdAll H _ ds from hok)
  refine ⟨ps, hs, by rw [e1]; exact I.atO ho, e2, H, O, I.temps fun q hq => ?_⟩
  rcases List.mem_append.mp hq with hq | hq
  · exact hp q hq
  · exact I.tp q hq
/-- an own list becomes data -/
theorem Sta.freeze {i : Nat} {ds : List PyData} (S : Sta H0 F es σ ts Hc) (hi : es[i]? = some (.own p (.lst ds))) : Sta H0 F (es.set i (.dat (.list ds))) σ ts Hc := by
  obtain ⟨H, O, I⟩ := S
  obtain ⟨hs, o, ho, hok⟩ := I.sl i _ hi
  have h1 : H p = none := I.ho.no ho
  have h3 : F p = none := by
    rcases I.of p with z | z
    · rw [ho] at z; cases z
    · exact z
  have get : ∀ (j : Nat) (e : En), (es.set i (.dat (.list ds)))[j]? = some e → (j = i ∧ e = .dat (.list ds)) ∨ (j ≠ i ∧ es[j]? = some e) := fun j e he => by
    by_cases hj : i = j
    · subst hj
      have hlt : i < es.length := by
        have := (List.getElem?_eq_some_iff.mp he).1
        simpa using this
      rw [List.getElem?_set_self hlt] at he
      exact .inl ⟨rfl, (Option.some.inj he).symm⟩
    · rw [List.getElem?_set_ne hj] at he
      exact .inr ⟨fun z => hj z.symm, he⟩
  let O' : Hp := fun b => if b = p then none else O b
  have hO' : ∀ b, b ≠ p → O' b = O b := fun b hb => if_neg hb
  have e0 : jn (upd H p o) (jn O' F) = jn H (jn O F) := by
    funext b
    by_cases hb : b = p
    · subst hb
      rw [jn_l upd_same, jn_r h1, jn_l ho]
    · have : upd H p o b = H b := upd_ne hb
      cases q : H b with
      | some u => rw [jn_l (this.trans q), jn_l q]
      | none =>
        rw [jn_r (this.trans q), jn_r q]
        cases r : O b with
        | some u => rw [jn_l ((hO' b hb).trans r), jn_l r]
        | none => rw [jn_r ((hO' b hb).trans r), jn_r r]
  have ex : Ex H (upd H p o) := Ex.new h1
  refine ⟨upd H p o, O', by rw [I.hc, e0], fun b => ?_, I.hf.new h3, fun b => ?_, I.ext.trans ex, by simp [I.len], fun j e he => ?_, fun j k q c c' a b => ?_, fun q hq => (I.tp q hq).mono ex⟩
  · by_cases hb : b = p
    · exact .inr (if_pos hb)
    · rw [upd_ne hb, hO' b hb]; exact I.ho b
  · by_cases hb : b = p
    · exact .inl (if_pos hb)
    · rw [hO' b hb]; exact I.of b
  · rcases get j e he with ⟨rfl, rfl⟩ | ⟨hj, he⟩
    · cases o <;> first | exact False.elim hok | skip
      exact ⟨.ref p, hs, .lst upd_same (DdAll.mono ex hok)⟩
    · have := I.sl j e he
      cases e with
      | no => trivial
      | dat d => obtain ⟨v, a, b⟩ := this; exact ⟨v, a, b.mono ex⟩
      | raw v => exact this
      | own q c =>
        obtain ⟨a, o, b, c⟩ := this
        refine ⟨a, o, ?_, c.mono ex⟩
        rw [hO']
        · exact b
        · intro z; subst z; exact hj (I.ap j i q _ _ he hi)
  · rcases get j _ a with ⟨_, z⟩ | ⟨_, z⟩
    · cases z
    · rcases get k _ b with ⟨_, y⟩ | ⟨_, y⟩
      · cases y
      · exact I.ap j k q c c' z y
theorem Sta.var {i : Nat} {d : PyData} (S : Sta H0 F es σ ts Hc) (h : es[i]? = some (.dat d)) : ∃ v, σ[i]? = some (some v) ∧ Sta H0 F es σ ((v, d) :: ts) Hc := by
  obtain ⟨H, O, I⟩ := S
  obtain ⟨v, a, b⟩ := I.sl i _ h
  exact ⟨v, a, H, O, I.temps fun q hq => by
    rcases List.mem_cons.mp hq with rfl | hq
    · exact b
    · exact I.tp q hq⟩
theorem Sta.raw {i : Nat} {v : V} (S : Sta H0 F es σ ts Hc) (h : es[i]? = some (.raw v)) : σ[i]? = some (some v) := by
  obtain ⟨H, O, I⟩ := S
  exact I.sl i _ h
end
end DL
end

section
set_option Elab.async false
set_option linter.all false
set_option autoImplicit false
set_option maxRecDepth 100000
/-! Dat2: expressions at the level of data. -/
namespace DL
open PySem PySem.Spec PyProof.Rows L2

def Ev (te : TE) (es : List En) (P : PyData → List En → Prop) : Prop :=
  ∀ (H0 F : Hp) (σ : L2.St) (ts : Ts) (Hc : Hp) (Q : VK), Sta H0 F es σ ts Hc →
    (∀ v d es' Hc', P d es' → Sta H0 F es' σ ((v, d) :: ts) Hc' → Q v Hc') → te σ Hc Q
def Evs (ta : TA) (es : List En) (P : List PyData → List En → Prop) : Prop :=
  ∀ (H0 F : Hp) (σ : L2.St) (ts : Ts) (Hc : Hp) (Q : List V → Hp → Prop), Sta H0 F es σ ts Hc →
    (∀ (ps : Ts) es' Hc', P (ps.map (·.2)) es' → Sta H0 F es' σ (ps ++ ts) Hc' → Q (ps.map (·.1)) Hc') → ta σ Hc Q
def EvT (tt : TT) (es : List En) (P : Bool → List En → Prop) : Prop :=
  ∀ (H0 F : Hp) (σ : L2.St) (ts : Ts) (Hc : Hp) (Q : Bool → Hp → Prop), Sta H0 F es σ ts Hc →
    (∀ b es' Hc', P b es' → Sta H0 F es' σ ts Hc' → Q b Hc') → tt σ Hc Q
/-- operations on values -/
def Op2 (r : R2) (S : PyData → PyData → (PyData → Prop) → Prop) : Prop :=
  ∀ d e P, S d e P → ∀ (H0 F : Hp) (es : List En) (σ : L2.St) (ts : Ts) (Hc : Hp) (Q : VK) (x y : V), Sta H0 F es σ ((y, e) :: (x, d) :: ts) Hc →
    (∀ v d' Hc', P d' → Sta H0 F es σ ((v, d') :: ts) Hc' → Q v Hc') → r x y Hc Q
def CbR (r : List V → Hp → VK → Prop) (S : List PyData → (PyData → Prop) → Prop) : Prop :=
  ∀ ds P, S ds P → ∀ (H0 F : Hp) (es : List En) (σ : L2.St) (ts : Ts) (Hc : Hp) (Q : VK) (ps : Ts), ps.map (·.2) = ds → Sta H0 F es σ (ps ++ ts) Hc →
    (∀ v d' Hc', P d' → Sta H0 F es σ ((v, d') :: ts) Hc' → Q v Hc') → r (ps.map (·.1)) Hc Q

section
variable {K : PySem.W.Frag} {es : List En} {P : PyData → List En → Prop} {ta tb tc te : TE} {tl : TA}
theorem ev_weak {P' : PyData → List En → Prop} (h : Ev te es P) (k : ∀ d e, P d e → P' d e) : Ev te es P' :=
  fun H0 F σ ts Hc Q S q => h H0 F σ ts Hc Q S fun v d es' Hc' p S' => q v d es' Hc' (k _ _ p) S'
theorem ev_var {i : Nat} {d : PyData} (h : es[i]? = some (.dat d)) (hp : P d es) : Ev (tVar i) es P := fun H0 F σ ts Hc Q S k => by
  obtain ⟨v, hv, S'⟩ := S.var h
  exact ⟨v, hv, k v d es Hc hp S'⟩
theorem ev_int {i : Int} (hp : P (.int i) es) : Ev (tC (.int i)) es P := fun _ _ _ _ Hc Q S k => k _ _ _ _ hp (S.int i)
theorem ev_bl {i : Bool} (hp : P (.bool i) es) : Ev (tC (.bl i)) es P := fun _ _ _ _ Hc Q S k => k _ _ _ _ hp (S.bl i)
theorem ev_non (hp : P .none es) : Ev (tC .non) es P := fun _ _ _ _ Hc Q S k => k _ _ _ _ hp S.non
theorem ev_op {r : R2} {S : PyData → PyData → (PyData → Prop) → Prop} (hr : Op2 r S) (h : Ev ta es fun d e1 => Ev tb e1 fun e e2 => S d e fun d' => P d' e2) : Ev (tOp r ta tb) es P :=
  fun H0 F σ ts Hc Q S0 k => h H0 F σ ts Hc _ S0 fun x d e1 H1 h1 S1 => h1 H0 F σ _ H1 _ S1 fun y e e2 H2 h2 S2 => hr d e _ h2 H0 F e2 σ ts H2 Q x y S2 fun v d' Hc' p S' => k v d' e2 Hc' p S'
theorem ev_cb {r : List V → Hp → VK → Prop} {S : List PyData → (PyData → Prop) → Prop} (hr : CbR r S) (h : Evs tl es fun ds e1 => S ds fun d => P d e1) : Ev (tCB r tl) es P :=
  fun H0 F σ ts Hc Q S0 k => h H0 F σ ts Hc _ S0 fun ps e1 H1 h1 S1 => hr _ _ h1 H0 F e1 σ ts H1 Q ps rfl S1 fun v d' Hc' p S' => k v d' e1 Hc' p S'
theorem evs_nil {Pa : List PyData → List En → Prop} (h : Pa [] es) : Evs tNil es Pa := fun _ _ _ ts Hc Q S k => k [] es Hc h S
theorem evs_cons {Pa : List PyData → List En → Prop} (h : Ev ta es fun d e1 => Evs tl e1 fun ds e2 => Pa (d :: ds) e2) : Evs (tCons ta tl) es Pa :=
  fun H0 F σ ts Hc Q S k => h H0 F σ ts Hc _ S fun v d e1 H1 h1 S1 => h1 H0 F σ _ H1 _ S1 fun ps e2 H2 h2 S2 => k ((v, d) :: ps) e2 H2 h2 (S2.weak fun q hq => by
    simp only [List.mem_append, List.mem_cons] at hq ⊢
    rcases hq with (rfl | hq) | hq <;> simp_all)
/-- *t, a tuple or a list -/
theorem evs_star {Pa : List PyData → List En → Prop} (h : Ev ta es fun d e1 => ∃ ds0, (d = .tuple ds0 ∨ d = .list ds0) ∧ Evs tl e1 fun ds e2 => Pa (ds0 ++ ds) e2) : Evs (StX.tStar K ta tl) es Pa :=
  fun H0 F σ ts Hc Q S k => h H0 F σ ts Hc _ S fun v d e1 H1 h1 S1 => by
    obtain ⟨ds0, hd, h1⟩ := h1
    have fin : ∀ (ps0 : Ts), ps0.map (·.2) = ds0 → Sta H0 F e1 σ (ps0 ++ ts) H1 → tl σ H1 fun ys H2 => Q (ps0.map (·.1) ++ ys) H2 := fun ps0 e0 S2 =>
      h1 H0 F σ _ H1 _ S2 fun ps e2 H2 h2 S3 => by
        rw [← List.map_append]
        refine k (ps0 ++ ps) e2 H2 (by rw [List.map_append, e0]; exact h2) (S3.weak fun q hq => ?_)
        simp only [List.mem_append] at hq ⊢
        rcases hq with (hq | hq) | hq <;> simp [hq]
    rcases hd with rfl | rfl
    · obtain ⟨a, ps0, rfl, ha, e0, S2⟩ := S1.tuple
      exact ⟨a, _, rfl, .inl (SqT.of ha), fin ps0 e0 S2⟩
    · obtain ⟨a, ps0, rfl, ha, e0, S2⟩ := S1.list
      exact ⟨a, _, rfl, .inr (SqL.of ha), fin ps0 e0 S2⟩

/-! ### whole numbers -/
def dV : V → PyData
  | .int i => .int i
  | .bl b => .bool b
  | _ => .none
def isIB : V → Bool
  | .int _ => true
  | .bl _ => true
  | _ => false
theorem Sta.ib {H0 F Hc : Hp} {σ : L2.St} {ts : Ts} (S : Sta H0 F es σ ts Hc) {v : V} (h : isIB v = true) : Sta H0 F es σ ((v, dV v) :: ts) Hc := by
  cases v <;> first | exact S.int _ | exact S.bl _ | cases h
theorem two_int {H0 F Hc : Hp} {σ : L2.St} {ts : Ts} {x y : V} {i j : Int} (S : Sta H0 F es σ ((y, .int j) :: (x, .int i) :: ts) Hc) : x = .int i ∧ y = .int j ∧ Sta H0 F es σ ts Hc :=
  ⟨S.tail.get_int, S.get_int, S.tail.tail⟩
theorem op2_I0 {g : Int → Int → V} (hg : ∀ i j, isIB (g i j) = true) : Op2 (rI0 g) fun d e P => ∃ i j, d = .int i ∧ e = .int j ∧ P (dV (g i j)) := by
  rintro d e P ⟨i, j, rfl, rfl, hp⟩ H0 F es σ ts Hc Q x y S k
  obtain ⟨rfl, rfl, S2⟩ := two_int S
  exact ⟨i, j, rfl, rfl, k _ _ _ hp (S2.ib (hg i j))⟩
theorem op2_I {C : Int → Int → Prop} {g : Int → Int → V} (hg : ∀ i j, isIB (g i j) = true) : Op2 (rI C g) fun d e P => ∃ i j, d = .int i ∧ e = .int j ∧ C i j ∧ P (dV (g i j)) := by
  rintro d e P ⟨i, j, rfl, rfl, hc, hp⟩ H0 F es σ ts Hc Q x y S k
  obtain ⟨rfl, rfl, S2⟩ := two_int S
  exact ⟨i, j, rfl, rfl, hc, k _ _ _ hp (S2.ib (hg i j))⟩
theorem ev_add (h : Ev ta es fun d e1 => Ev tb e1 fun e e2 => ∃ i j, d = .int i ∧ e = .int j ∧ P (.int (i + j)) e2) : Ev (tOp (rI0 fun i j => .int (i + j)) ta tb) es P := ev_op (op2_I0 fun _ _ => rfl) h
theorem ev_sub (h : Ev ta es fun d e1 => Ev tb e1 fun e e2 => ∃ i j, d = .int i ∧ e = .int j ∧ P (.int (i - j)) e2) : Ev (tOp (rI0 fun i j => .int (i - j)) ta tb) es P := ev_op (op2_I0 fun _ _ => rfl) h
theorem ev_lt (h : Ev ta es fun d e1 => Ev tb e1 fun e e2 => ∃ i j, d = .int i ∧ e = .int j ∧ P (.bool (decide (i < j))) e2) : Ev (tOp (rI0 fun i j => .bl (decide (i < j))) ta tb) es P := ev_op (op2_I0 fun _ _ => rfl) h
theorem ev_le (h : Ev ta es fun d e1 => Ev tb e1 fun e e2 => ∃ i j, d = .int i ∧ e = .int j ∧ P (.bool (decide (i ≤ j))) e2) : Ev (tOp (rI0 fun i j => .bl (decide (i ≤ j))) ta tb) es P := ev_op (op2_I0 fun _ _ => rfl) h
theorem ev_gt (h : Ev ta es fun d e1 => Ev tb e1 fun e e2 => ∃ i j, d = .int i ∧ e = .int j ∧ P (.bool (decide (j < i))) e2) : Ev (tOp (rI0 fun i j => .bl (decide (j < i))) ta tb) es P := ev_op (op2_I0 fun _ _ => rfl) h
theorem ev_ge (h : Ev ta es fun d e1 => Ev tb e1 fun e e2 => ∃ i j, d = .int i ∧ e = .int j ∧ P (.bool (decide (j ≤ i))) e2) : Ev (tOp (rI0 fun i j => .bl (decide (j ≤ i))) ta tb) es P := ev_op (op2_I0 fun _ _ => rfl) h
theorem ev_mul (h : Ev ta es fun d e1 => Ev tb e1 fun e e2 => ∃ i j, d = .int i ∧ e = .int j ∧ CMulW i j ∧ P (.int (i * j)) e2) : Ev (tOp (rI CMulW fun i j => .int (i * j)) ta tb) es P := ev_op (op2_I fun _ _ => rfl) h
theorem ev_fdiv (h : Ev ta es fun d e1 => Ev tb e1 fun e e2 => ∃ i j, d = .int i ∧ e = .int j ∧ CDivW i j ∧ P (.int (i / j)) e2) : Ev (tOp (rI CDivW fun i j => .int (i / j)) ta tb) es P := ev_op (op2_I fun _ _ => rfl) h
theorem ev_mod (h : Ev ta es fun d e1 => Ev tb e1 fun e e2 => ∃ i j, d = .int i ∧ e = .int j ∧ 0 < j ∧ P (.int (i % j)) e2) : Ev (tOp (rI (fun _ j => 0 < j) fun i j => .int (i % j)) ta tb) es P := ev_op (op2_I fun _ _ => rfl) h
/-- an int's power -/
def CPowW (i j : Int) : Prop := 0 ≤ j ∧ (Builtin.Int.intBits i : Int) * j ≤ 2 ^ 27
theorem op_powW {X : Cx} : OpR X (binaryOp .Pow) (rI CPowW fun i j => .int (i ^ j.toNat)) := opI fun _ _ _ _ _ _ _ hc q => pow_int hc.1 hc.2 q
theorem ev_pow (h : Ev ta es fun d e1 => Ev tb e1 fun e e2 => ∃ i j, d = .int i ∧ e = .int j ∧ CPowW i j ∧ P (.int (i ^ j.toNat)) e2) : Ev (tOp (rI CPowW fun i j => .int (i ^ j.toNat)) ta tb) es P := ev_op (op2_I fun _ _ => rfl) h
theorem ev_neg (h : Ev ta es fun d e1 => ∃ i, d = .int i ∧ P (.int (-i)) e1) : Ev (tUn (rU fun i => .int (-i)) ta) es P := fun H0 F σ ts Hc Q S0 k =>
  h H0 F σ ts Hc _ S0 fun x d e1 H1 h1 S1 => by
    obtain ⟨i, rfl, hp⟩ := h1
    cases S1.get_int
    exact ⟨i, rfl, k _ _ _ _ hp (S1.tail.int _)⟩

/-! ### data compared, looked for -/
theorem op2_eqD : Op2 (rEqD K) fun d e P => SeqAt.shaped d = true ∧ SeqAt.shaped e = true ∧ P (.bool (PyData.eqv d e)) := by
  rintro d e P ⟨h1, h2, hp⟩ H0 F es σ ts Hc Q x y ⟨H, O, I⟩ k
  have ex : Ex H Hc := fun a o h => I.at h
  exact ⟨d, e, ((I.tp (x, d) (by simp)).mono ex).dp, ((I.tp (y, e) (by simp)).mono ex).dp, h1, h2, k _ _ _ hp (Sta.bl ⟨H, O, I.temps fun q hq => I.tp q (by simp [hq])⟩ _)⟩
theorem op2_neD : Op2 (rNeD K) fun d e P => SeqAt.shaped d = true ∧ SeqAt.shaped e = true ∧ P (.bool (!PyData.eqv d e)) := by
  rintro d e P ⟨h1, h2, hp⟩ H0 F es σ ts Hc Q x y ⟨H, O, I⟩ k
  have ex : Ex H Hc := fun a o h => I.at h
  exact ⟨d, e, ((I.tp (x, d) (by simp)).mono ex).dp, ((I.tp (y, e) (by simp)).mono ex).dp, h1, h2, k _ _ _ hp (Sta.bl ⟨H, O, I.temps fun q hq => I.tp q (by simp [hq])⟩ _)⟩
theorem ev_eq (h : Ev ta es fun d e1 => Ev tb e1 fun e e2 => SeqAt.shaped d = true ∧ SeqAt.shaped e = true ∧ P (.bool (PyData.eqv d e)) e2) : Ev (tOp (rEqD K) ta tb) es P := ev_op op2_eqD h
theorem ev_ne (h : Ev ta es fun d e1 => Ev tb e1 fun e e2 => SeqAt.shaped d = true ∧ SeqAt.shaped e = true ∧ P (.bool (!PyData.eqv d e)) e2) : Ev (tOp (rNeD K) ta tb) es P := ev_op op2_neD h
theorem inV_ints (i : Int) : ∀ ns : List Int, inV (.int i) (ns.map V.int) = decide (i ∈ ns)
  | [] => rfl
  | n :: ns => by
    have := inV_ints i ns
    unfold inV at this ⊢
    rw [List.map_cons, List.any_cons, this]
    show (eqV (.int n) (.int i) || _) = _
    have e : eqV (.int n) (.int i) = decide (i = n) := by
      show (n == i) = _
      by_cases h : i = n
      · subst h; simp
      · rw [decide_eq_false h]; simp; exact fun z => h z.symm
    rw [e]
    by_cases h : i = n <;> simp [h]
theorem flat_ints : ∀ ns : List Int, (ns.map V.int).all flatV = true
  | [] => rfl
  | n :: ns => by rw [List.map_cons, List.all_cons, flat_ints ns]; rfl
/-- a whole number in a list or tuple of such -/
theorem op2_in {neg : Bool} : Op2 (rIn K neg) fun d e P => ∃ (i : Int) (ns : List Int), d = .int i ∧ (e = .list (ns.map .int) ∨ e = .tuple (ns.map .int)) ∧ P (.bool (if neg then !decide (i ∈ ns) else decide (i ∈ ns))) := by
  rintro d e P ⟨i, ns, rfl, he, hp⟩ H0 F es σ ts Hc Q x y S k
  have hx := S.tail.get_int
  subst hx
  have S0 := S.tail.tail
  rw [← inV_ints] at hp
  rcases he with rfl | rfl
  · obtain ⟨a, ps, rfl, ha, e0, S2⟩ := S.list
    have hv : ps.map (·.1) = ns.map V.int := by
      obtain ⟨H, O, I⟩ := S2
      have := DdAll.of_pairs (H := H) ps fun q hq => I.tp q (by simp [hq])
      rw [e0] at this
      exact this.ints
    rw [hv] at ha
    exact ⟨a, _, rfl, .inl (SqL.of ha), rfl, flat_ints ns, k _ _ _ hp (S0.bl _)⟩
  · obtain ⟨a, ps, rfl, ha, e0, S2⟩ := S.tuple
    have hv : ps.map (·.1) = ns.map V.int := by
      obtain ⟨H, O, I⟩ := S2
      have := DdAll.of_pairs (H := H) ps fun q hq => I.tp q (by simp [hq])
      rw [e0] at this
      exact this.ints
    rw [hv] at ha
    exact ⟨a, _, rfl, .inr (SqT.of ha), rfl, flat_ints ns, k _ _ _ hp (S0.bl _)⟩
theorem ev_in (h : Ev ta es fun d e1 => Ev tb e1 fun e e2 => ∃ (i : Int) (ns : List Int), d = .int i ∧ (e = .list (ns.map .int) ∨ e = .tuple (ns.map .int)) ∧ P (.bool (decide (i ∈ ns))) e2) : Ev (tOp (rIn K false) ta tb) es P := ev_op op2_in h
theorem ev_notin (h : Ev ta es fun d e1 => Ev tb e1 fun e e2 => ∃ (i : Int) (ns : List Int), d = .int i ∧ (e = .list (ns.map .int) ∨ e = .tuple (ns.map .int)) ∧ P (.bool (!decide (i ∈ ns))) e2) : Ev (tOp (rIn K true) ta tb) es P := ev_op op2_in h
/-- is not None, of a whole number, a tuple, None -/
def isNone : PyData → Bool
  | .none => true
  | _ => false
theorem ev_notN (h : Ev ta es fun d e1 => P (.bool (!isNone d)) e1) : Ev (tOp (fun x y H Q => y = .non ∧ Q (.bl (!decide (x = .non))) H) ta (tC .non)) es P := fun H0 F σ ts Hc Q S0 k =>
  h H0 F σ ts Hc _ S0 fun x d e1 H1 h1 S1 => by
    refine ⟨rfl, ?_⟩
    have e : decide (x = .non) = isNone d := by
      obtain ⟨H, O, I⟩ := S1
      have := I.tp (x, d) (by simp)
      cases this <;> rfl
    rw [e]
    exact k _ _ _ _ h1 (S1.tail.bl _)

/-! ### displays, places, slices -/
theorem ev_tup (h : Evs tl es fun ds e1 => ds.length ≤ sizeLine ∧ P (.tuple ds) e1) : Ev (tTup tl) es P := fun H0 F σ ts Hc Q S0 k =>
  h H0 F σ ts Hc _ S0 fun ps e1 H1 h1 S1 => ⟨by simpa using h1.1, fun p hp => k _ _ _ _ h1.2 (S1.newT hp)⟩
theorem ev_lst (h : Evs tl es fun ds e1 => ds.length ≤ sizeLine ∧ P (.list ds) e1) : Ev (tLst tl) es P := fun H0 F σ ts Hc Q S0 k =>
  h H0 F σ ts Hc _ S0 fun ps e1 H1 h1 S1 => ⟨by simpa using h1.1, fun p hp => k _ _ _ _ h1.2 (S1.newL hp)⟩
theorem atI_map {α β : Type} (f : α → β) (xs : List α) (i : Int) : atI (xs.map f) i = (atI xs i).map f := by
  unfold atI
  rw [List.length_map]
  cases ixN xs.length i with
  | none => rfl
  | some j => simp
theorem atI_pairs {ps : Ts} {i : Int} {d : PyData} (h : atI (ps.map (·.2)) i = some d) : ∃ v, atI (ps.map (·.1)) i = some v ∧ (v, d) ∈ ps := by
  rw [atI_map] at h
  obtain ⟨q, h1, h2⟩ := Option.map_eq_some_iff.mp h
  refine ⟨q.1, by rw [atI_map, h1]; rfl, ?_⟩
  subst h2
  obtain ⟨j, _, h3, _⟩ := atI_get h1
  exact List.mem_of_getElem? h3
theorem op2_ix : Op2 (rIx K) fun d e P => ∃ (ds : List PyData) (i : Int) (z : PyData), (d = .list ds ∨ d = .tuple ds) ∧ e = .int i ∧ atI ds i = some z ∧ P z := by
  rintro d e P ⟨ds, i, z, hd, rfl, hz, hp⟩ H0 F es σ ts Hc Q x y S k
  cases S.get_int
  have S1 := S.tail
  rcases hd with rfl | rfl
  · obtain ⟨a, ps, rfl, ha, e0, S2⟩ := S1.list
    subst e0
    obtain ⟨v, hv, hm⟩ := atI_pairs hz
    exact .inl ⟨a, _, i, v, rfl, rfl, SqL.of ha, hv, k _ _ _ hp (S2.weak fun q hq => by
      rcases List.mem_cons.mp hq with rfl | hq
      · simp [hm]
      · simp [hq])⟩
  · obtain ⟨a, ps, rfl, ha, e0, S2⟩ := S1.tuple
    subst e0
    obtain ⟨v, hv, hm⟩ := atI_pairs hz
    exact .inr (.inl ⟨a, _, i, v, rfl, rfl, SqT.of ha, hv, k _ _ _ hp (S2.weak fun q hq => by
      rcases List.mem_cons.mp hq with rfl | hq
      · simp [hm]
      · simp [hq])⟩)
theorem ev_ix (h : Ev ta es fun d e1 => Ev tb e1 fun e e2 => ∃ (ds : List PyData) (i : Int) (z : PyData), (d = .list ds ∨ d = .tuple ds) ∧ e = .int i ∧ atI ds i = some z ∧ P z e2) : Ev (tOp (rIx K) ta tb) es P := ev_op op2_ix h
theorem op2_cat : Op2 rCat fun d e P => ∃ xs ys, d = .list xs ∧ e = .list ys ∧ xs.length + ys.length ≤ sizeLine ∧ P (.list (xs ++ ys)) := by
  rintro d e P ⟨xs, ys, rfl, rfl, hl, hp⟩ H0 F es σ ts Hc Q x y S k
  obtain ⟨b, pb, rfl, hb, eb, S1⟩ := S.list
  obtain ⟨a, pa, rfl, ha, ea, S2⟩ := Sta.list (S1.weak (ts' := (x, .list xs) :: (pb ++ ts)) fun q hq => by
    simp only [List.mem_append, List.mem_cons] at hq ⊢
    rcases hq with rfl | hq | hq <;> simp [*])
  subst ea eb
  refine ⟨a, b, _, _, rfl, rfl, ha, hb, by simpa using hl, fun p hnew => ?_⟩
  rw [← List.map_append]
  refine k _ _ _ (by rw [← List.map_append] at hp; exact hp) (Sta.newL (ps := pa ++ pb) (ts := ts) (S2.weak fun q hq => ?_) hnew)
  simpa [or_assoc] using hq
theorem ev_cat (h : Ev ta es fun d e1 => Ev tb e1 fun e e2 => ∃ xs ys, d = .list xs ∧ e = .list ys ∧ xs.length + ys.length ≤ sizeLine ∧ P (.list (xs ++ ys)) e2) : Ev (tOp rCat ta tb) es P := ev_op op2_cat h
end
end DL
end

section
set_option Elab.async false
set_option linter.all false
set_option autoImplicit false
set_option maxRecDepth 100000
/-! Dat3: tests, statements, loops, comprehensions at the level of data. -/
namespace DL
open PySem PySem.Spec PyProof.Rows L2

theorem one_of {ps : Ts} {d : PyData} (h : ps.map (·.2) = [d]) : ∃ v, ps = [(v, d)] := by
  cases ps with
  | nil => simp at h
  | cons p r => cases r with
    | nil => simp at h; subst h; exact ⟨p.1, rfl⟩
    | cons q r => simp at h
theorem two_of {ps : Ts} {d e : PyData} (h : ps.map (·.2) = [d, e]) : ∃ v w, ps = [(v, d), (w, e)] := by
  cases ps with
  | nil => simp at h
  | cons p r =>
    simp only [List.map_cons, List.cons.injEq] at h
    obtain ⟨w, rfl⟩ := one_of h.2
    obtain ⟨v, d'⟩ := p
    obtain ⟨rfl, _⟩ := h
    exact ⟨v, w, rfl⟩
theorem three_of {ps : Ts} {d e f : PyData} (h : ps.map (·.2) = [d, e, f]) : ∃ v w x, ps = [(v, d), (w, e), (x, f)] := by
  cases ps with
  | nil => simp at h
  | cons p r =>
    simp only [List.map_cons, List.cons.injEq] at h
    obtain ⟨w, x, rfl⟩ := two_of h.2
    obtain ⟨v, d'⟩ := p
    obtain ⟨rfl, _⟩ := h
    exact ⟨v, w, x, rfl⟩
/-! ### tests -/
section
variable {K : PySem.W.Frag} {es : List En} {P : PyData → List En → Prop} {B : Bool → List En → Prop} {ta tb tc te : TE} {tl : TA} {t u : TT}
theorem et_test (h : Ev te es fun d e1 => ∃ b, d = .bool b ∧ B b e1) : EvT (tTest te) es B := fun H0 F σ ts Hc Q S k =>
  h H0 F σ ts Hc _ S fun v d e1 H1 h1 S1 => by
    obtain ⟨b, rfl, hb⟩ := h1
    cases S1.get_bool
    exact ⟨b, rfl, k _ _ _ hb S1.tail⟩
theorem et_B (h : Ev te es fun d e1 => ∃ b, d = .bool b ∧ B b e1) : EvT (tB te) es B := et_test h
theorem et_not (h : EvT t es fun b e1 => B (!b) e1) : EvT (tNot t) es B := fun H0 F σ ts Hc Q S k =>
  h H0 F σ ts Hc _ S fun b e1 H1 h1 S1 => k _ _ _ h1 S1
theorem et_and (h : EvT t es fun b e1 => if b = true then EvT u e1 B else B false e1) : EvT (tAnd t u) es B := fun H0 F σ ts Hc Q S k =>
  h H0 F σ ts Hc _ S fun b e1 H1 h1 S1 => by
    cases b with
    | true => exact iteT (iteT_inv h1 H0 F σ ts H1 Q S1 k)
    | false => exact iteF (k _ _ _ (iteF_inv h1) S1)
where
  iteT_inv {A C : Prop} (h : if true = true then A else C) : A := by simpa using h
  iteF_inv {A C : Prop} (h : if false = true then A else C) : C := by simpa using h
theorem et_or (h : EvT t es fun b e1 => if b = true then B true e1 else EvT u e1 B) : EvT (tOr t u) es B := fun H0 F σ ts Hc Q S k =>
  h H0 F σ ts Hc _ S fun b e1 H1 h1 S1 => by
    cases b with
    | true => exact iteT (k _ _ _ (et_and.iteT_inv h1) S1)
    | false => exact iteF (et_and.iteF_inv h1 H0 F σ ts H1 Q S1 k)
theorem et_yes (h : B true es) : EvT tYes es B := fun H0 F σ ts Hc Q S k => k _ _ _ h S
theorem ev_andV (h : Ev ta es fun d e1 => ∃ b, d = .bool b ∧ if b = true then Ev tb e1 P else P (.bool false) e1) : Ev (tAndV ta tb) es P := fun H0 F σ ts Hc Q S k =>
  h H0 F σ ts Hc _ S fun v d e1 H1 h1 S1 => by
    obtain ⟨b, rfl, hb⟩ := h1
    cases S1.get_bool
    refine ⟨b, rfl, ?_⟩
    cases b with
    | true => exact iteT (et_and.iteT_inv hb H0 F σ ts H1 Q S1.tail k)
    | false => exact iteF (k _ _ _ _ (et_and.iteF_inv hb) (S1.tail.bl _))
theorem ev_orV (h : Ev ta es fun d e1 => ∃ b, d = .bool b ∧ if b = true then P (.bool true) e1 else Ev tb e1 P) : Ev (tOrV ta tb) es P := fun H0 F σ ts Hc Q S k =>
  h H0 F σ ts Hc _ S fun v d e1 H1 h1 S1 => by
    obtain ⟨b, rfl, hb⟩ := h1
    cases S1.get_bool
    refine ⟨b, rfl, ?_⟩
    cases b with
    | true => exact iteT (k _ _ _ _ (et_and.iteT_inv hb) (S1.tail.bl _))
    | false => exact iteF (et_and.iteF_inv hb H0 F σ ts H1 Q S1.tail k)
theorem ev_notV (h : Ev ta es fun d e1 => ∃ b, d = .bool b ∧ P (.bool (!b)) e1) : Ev (tNotV ta) es P := fun H0 F σ ts Hc Q S k =>
  h H0 F σ ts Hc _ S fun v d e1 H1 h1 S1 => by
    obtain ⟨b, rfl, hb⟩ := h1
    cases S1.get_bool
    exact ⟨b, rfl, k _ _ _ _ hb (S1.tail.bl _)⟩
theorem ev_if (h : EvT t es fun b e1 => if b = true then Ev ta e1 P else Ev tb e1 P) : Ev (tIf t ta tb) es P := fun H0 F σ ts Hc Q S k =>
  h H0 F σ ts Hc _ S fun b e1 H1 h1 S1 => by
    cases b with
    | true => exact iteT (et_and.iteT_inv h1 H0 F σ ts H1 Q S1 k)
    | false => exact iteF (et_and.iteF_inv h1 H0 F σ ts H1 Q S1 k)
/-- a op b op' c -/
theorem ev_chain {r r' : R2} {S S' : PyData → PyData → (PyData → Prop) → Prop} (hr : Op2 r S) (hr' : Op2 r' S')
    (h : Ev ta es fun d e1 => Ev tb e1 fun e e2 => S d e fun z => ∃ b, z = .bool b ∧ if b = true then Ev tc e2 fun c e3 => S' e c fun z' => P z' e3 else P (.bool false) e2) : Ev (tChain r r' ta tb tc) es P :=
  fun H0 F σ ts Hc Q S0 k => h H0 F σ ts Hc _ S0 fun x d e1 H1 h1 S1 => h1 H0 F σ _ H1 _ S1 fun y e e2 H2 h2 S2 =>
    hr d e _ h2 H0 F e2 σ ((y, e) :: ts) H2 _ x y (S2.weak fun q hq => by
      simp only [List.mem_cons] at hq ⊢
      rcases hq with rfl | rfl | rfl | hq <;> simp [*]) fun v d' H3 p S3 => by
        obtain ⟨b, rfl, hb⟩ := p
        cases S3.get_bool
        refine ⟨b, rfl, ?_⟩
        cases b with
        | true =>
          refine iteT (et_and.iteT_inv hb H0 F σ _ H3 _ S3.tail fun w c e3 H4 h4 S4 => ?_)
          exact hr' e c _ h4 H0 F e3 σ ts H4 Q y w S4 fun v d' H5 p S5 => k _ _ _ _ p S5
        | false => exact iteF (k _ _ _ _ (et_and.iteF_inv hb) (S3.tail.tail.bl _))
theorem op2_le : Op2 (rI0 fun i j => .bl (decide (i ≤ j))) fun d e P => ∃ i j, d = .int i ∧ e = .int j ∧ P (.bool (decide (i ≤ j))) := op2_I0 fun _ _ => rfl
theorem op2_lt : Op2 (rI0 fun i j => .bl (decide (i < j))) fun d e P => ∃ i j, d = .int i ∧ e = .int j ∧ P (.bool (decide (i < j))) := op2_I0 fun _ _ => rfl
/-- a <= b <= c, a <= b < c, a == b == c -/
theorem ev_lele (h : Ev ta es fun d e1 => Ev tb e1 fun e e2 => ∃ i j, d = .int i ∧ e = .int j ∧ if decide (i ≤ j) = true then Ev tc e2 fun c e3 => ∃ k, c = .int k ∧ P (.bool (decide (j ≤ k))) e3 else P (.bool false) e2) :
    Ev (tChain (rI0 fun i j => .bl (decide (i ≤ j))) (rI0 fun i j => .bl (decide (i ≤ j))) ta tb tc) es P :=
  ev_chain op2_le op2_le (ev_weak h fun d e1 h => ev_weak h fun e e2 ⟨i, j, a, b, h⟩ => ⟨i, j, a, b, _, rfl, by
    by_cases c : decide (i ≤ j) = true
    · rw [if_pos c] at h ⊢
      exact ev_weak h fun z e3 ⟨k, q, h⟩ => ⟨j, k, b, q, h⟩
    · rw [if_neg c] at h ⊢; exact h⟩)
theorem ev_lelt (h : Ev ta es fun d e1 => Ev tb e1 fun e e2 => ∃ i j, d = .int i ∧ e = .int j ∧ if decide (i ≤ j) = true then Ev tc e2 fun c e3 => ∃ k, c = .int k ∧ P (.bool (decide (j < k))) e3 else P (.bool false) e2) :
    Ev (tChain (rI0 fun i j => .bl (decide (i ≤ j))) (rI0 fun i j => .bl (decide (i < j))) ta tb tc) es P :=
  ev_chain op2_le op2_lt (ev_weak h fun d e1 h => ev_weak h fun e e2 ⟨i, j, a, b, h⟩ => ⟨i, j, a, b, _, rfl, by
    by_cases c : decide (i ≤ j) = true
    · rw [if_pos c] at h ⊢
      exact ev_weak h fun z e3 ⟨k, q, h⟩ => ⟨j, k, b, q, h⟩
    · rw [if_neg c] at h ⊢; exact h⟩)
theorem ev_eqeq (h : Ev ta es fun d e1 => Ev tb e1 fun e e2 => SeqAt.shaped d = true ∧ SeqAt.shaped e = true ∧ if PyData.eqv d e = true then Ev tc e2 fun c e3 => SeqAt.shaped c = true ∧ P (.bool (PyData.eqv e c)) e3 else P (.bool false) e2) :
    Ev (tChain (rEqD K) (rEqD K) ta tb tc) es P :=
  ev_chain op2_eqD op2_eqD (ev_weak h fun d e1 h => ev_weak h fun e e2 ⟨a, b, h⟩ => ⟨a, b, _, rfl, by
    by_cases c : PyData.eqv d e = true
    · rw [if_pos c] at h ⊢
      exact ev_weak h fun z e3 ⟨q, h⟩ => ⟨b, q, h⟩
    · rw [if_neg c] at h ⊢; exact h⟩)
end

/-! ### statements -/
structure De where
  nx : List En → Prop
  rt : PyData → List En → Prop
  bk : List En → Prop := fun _ => False
  ct : List En → Prop := fun _ => False
def Wp (t : TS) (D' : De) (es : List En) : Prop :=
  ∀ (H0 F : Hp) (σ : L2.St) (ts : Ts) (Hc : Hp) (D : Ends), Sta H0 F es σ ts Hc →
    (∀ σ' es' Hc', D'.nx es' → Sta H0 F es' σ' ts Hc' → D.nx σ' Hc') → (∀ v d σ' es' Hc', D'.rt d es' → Sta H0 F es' σ' ((v, d) :: ts) Hc' → D.rt v Hc') →
    (∀ σ' es' Hc', D'.bk es' → Sta H0 F es' σ' ts Hc' → D.bk σ' Hc') → (∀ σ' es' Hc', D'.ct es' → Sta H0 F es' σ' ts Hc' → D.ct σ' Hc') → t D σ Hc
section
variable {K : PySem.W.Frag} {es : List En} {P : PyData → List En → Prop} {ta tb tc te : TE} {tl : TA} {tt : TT} {t u : TS} {D : De}
theorem wp_seq (h : Wp t { D with nx := fun e => Wp u D e } es) : Wp (tSeq t u) D es := fun H0 F σ ts Hc Dr S k1 k2 k3 k4 =>
  h H0 F σ ts Hc { Dr with nx := fun σ H => u Dr σ H } S (fun σ' es' Hc' hw S' => hw H0 F σ' ts Hc' Dr S' k1 k2 k3 k4) k2 k3 k4
theorem wp_next (h : D.nx es) : Wp tNext D es := fun H0 F σ ts Hc Dr S k1 k2 k3 k4 => k1 _ _ _ h S
theorem wp_break (h : D.bk es) : Wp tBreak D es := fun H0 F σ ts Hc Dr S k1 k2 k3 k4 => k3 _ _ _ h S
theorem wp_cont (h : D.ct es) : Wp tCont D es := fun H0 F σ ts Hc Dr S k1 k2 k3 k4 => k4 _ _ _ h S
theorem wp_ret (h : Ev te es D.rt) : Wp (tRet te) D es := fun H0 F σ ts Hc Dr S k1 k2 k3 k4 =>
  h H0 F σ ts Hc _ S fun v d e1 H1 h1 S1 => k2 v d σ e1 H1 h1 S1
theorem wp_drop (h : Ev te es fun _ e1 => D.nx e1) : Wp (tDrop te) D es := fun H0 F σ ts Hc Dr S k1 k2 k3 k4 =>
  h H0 F σ ts Hc _ S fun v d e1 H1 h1 S1 => k1 _ _ _ h1 S1.tail
theorem wp_if (h : EvT tt es fun b e1 => if b = true then Wp t D e1 else Wp u D e1) : Wp (tIfS tt t u) D es := fun H0 F σ ts Hc Dr S k1 k2 k3 k4 =>
  h H0 F σ ts Hc _ S fun b e1 H1 h1 S1 => by
    cases b with
    | true => exact iteT (et_and.iteT_inv h1 H0 F σ ts H1 Dr S1 k1 k2 k3 k4)
    | false => exact iteF (et_and.iteF_inv h1 H0 F σ ts H1 Dr S1 k1 k2 k3 k4)

/-! targets -/
theorem wipe_get (σ : L2.St) (i : Nat) : ∀ vs : List Nat, (wipe σ vs)[i]? = if i ∈ vs then (if i < σ.length then some none else none) else σ[i]?
  | [] => by simp [wipe]
  | v :: vs => by
    unfold wipe
    have hl := wipe_length σ vs
    by_cases hv : v = i
    · subst hv
      simp [List.getElem?_set, hl]
    · rw [List.getElem?_set_ne hv, wipe_get σ i vs]
      by_cases hi : i ∈ vs
      · rw [if_pos hi, if_pos (List.mem_cons_of_mem _ hi)]
      · rw [if_neg hi, if_neg (fun h => (List.mem_cons.mp h).elim (fun z => hv z.symm) hi)]
theorem wipe_set {σ : L2.St} {j : Nat} {x : Option V} {vs : List Nat} (h : j ∈ vs) : wipe (σ.set j x) vs = wipe σ vs := by
  apply List.ext_getElem?
  intro i
  rw [wipe_get, wipe_get]
  by_cases hi : i ∈ vs
  · simp [hi]
  · have : j ≠ i := fun z => hi (z ▸ h)
    simp [hi, List.getElem?_set_ne this]
def Gd (g : TG) (js : List Nat) (y : PyData) (e : List En) (R : List En → Prop) : Prop :=
  ∀ (H0 F : Hp) (σ : L2.St) (ts : Ts) (Hc : Hp) (x : V) (Q : L2.St → Hp → Prop), Sta H0 F e σ ((x, y) :: ts) Hc →
    (∀ σ' e', R e' → (∀ vs, (∀ j ∈ js, j ∈ vs) → wipe σ' vs = wipe σ vs) → Sta H0 F e' σ' ts Hc → Q σ' Hc) → g x σ Hc Q
def Gds (g : TGs) (js : List Nat) (ys : List PyData) (e : List En) (R : List En → Prop) : Prop :=
  ∀ (H0 F : Hp) (σ : L2.St) (ts : Ts) (Hc : Hp) (ps : Ts) (Q : L2.St → Hp → Prop), ps.map (·.2) = ys → Sta H0 F e σ (ps ++ ts) Hc →
    (∀ σ' e', R e' → (∀ vs, (∀ j ∈ js, j ∈ vs) → wipe σ' vs = wipe σ vs) → Sta H0 F e' σ' ts Hc → Q σ' Hc) → g (ps.map (·.1)) σ Hc Q
theorem gd_name {i : Nat} {y : PyData} {e : List En} {R : List En → Prop} (h : R (e.set i (.dat y))) : Gd (gName i) [i] y e R := fun H0 F σ ts Hc x Q S k =>
  k _ _ h (fun vs hj => wipe_set (hj i (by simp))) (S.set i)
theorem gds_nil {e : List En} {R : List En → Prop} (h : R e) : Gds gNil [] [] e R := fun H0 F σ ts Hc ps Q hp S k => by
  cases ps with
  | nil => exact ⟨rfl, k _ _ h (fun _ _ => rfl) S⟩
  | cons p r => simp at hp
theorem gds_cons {g : TG} {gs : TGs} {j1 j2 : List Nat} {y : PyData} {ys : List PyData} {e : List En} {R : List En → Prop} (h : Gd g j1 y e fun e1 => Gds gs j2 ys e1 R) : Gds (gCons g gs) (j1 ++ j2) (y :: ys) e R := fun H0 F σ ts Hc ps Q hp S k => by
  cases ps with
  | nil => simp at hp
  | cons p r =>
    simp only [List.map_cons, List.cons.injEq] at hp
    obtain ⟨rfl, hr⟩ := hp
    refine ⟨p.1, r.map (·.1), rfl, h H0 F σ (r ++ ts) Hc p.1 _ S fun σ1 e1 h1 w1 S1 => h1 H0 F σ1 ts Hc r Q hr S1 fun σ2 e2 h2 w2 S2 => k σ2 e2 h2 (fun vs hj => ?_) S2⟩
    rw [w2 vs fun j hm => hj j (by simp [hm]), w1 vs fun j hm => hj j (by simp [hm])]
theorem gd_tup {g : TGs} {js : List Nat} {n : Nat} {ys : List PyData} {e : List En} {R : List En → Prop} (hn : ys.length = n) (h : Gds g js ys e R) : Gd (gTup K n g) js (.tuple ys) e R := fun H0 F σ ts Hc x Q S k => by
  obtain ⟨a, ps, rfl, ha, e0, S2⟩ := S.tuple
  exact ⟨a, _, rfl, SqT.of ha, by rw [← e0] at hn; simpa using hn, h H0 F σ ts Hc ps Q e0 S2 k⟩
theorem wp_asgG {g : TG} {js : List Nat} (h : Ev te es fun d e1 => Gd g js d e1 D.nx) : Wp (tAsg te g) D es := fun H0 F σ ts Hc Dr S k1 k2 k3 k4 =>
  h H0 F σ ts Hc _ S fun v d e1 H1 h1 S1 => h1 H0 F σ ts H1 v _ S1 fun σ' e' r _ S' => k1 _ _ _ r S'
theorem wp_asg {i : Nat} (h : Ev te es fun d e1 => D.nx (e1.set i (.dat d))) : Wp (tAsg te (gName i)) D es := wp_asgG (js := [i]) (ev_weak h fun d e h => gd_name h)
/-- a, b = x, y -/
theorem wp_par {i j : Nat} (h : Evs tl es fun ds e1 => ∃ d1 d2, ds = [d1, d2] ∧ D.nx ((e1.set i (.dat d1)).set j (.dat d2))) : Wp (tPar i j tl) D es := fun H0 F σ ts Hc Dr S k1 k2 k3 k4 =>
  h H0 F σ ts Hc _ S fun ps e1 H1 h1 S1 => by
    obtain ⟨d1, d2, e0, hn⟩ := h1
    match ps, e0 with
    | [p, q], e0 =>
      simp only [List.map_cons, List.map_nil, List.cons.injEq, and_true] at e0
      obtain ⟨rfl, rfl⟩ := e0
      refine ⟨p.1, q.1, rfl, ?_⟩
      exact k1 _ _ _ hn ((S1.set i).set j)
/-- x op= e, of whole numbers -/
theorem wp_aug {i : Nat} {f : TIp} {S : PyData → PyData → (PyData → Prop) → Prop} (hr : Op2 f S) {d : PyData} (hi : es[i]? = some (.dat d)) (h : Ev te es fun e e1 => S d e fun z => D.nx (e1.set i (.dat z))) : Wp (tAug i te f) D es :=
  fun H0 F σ ts Hc Dr S0 k1 k2 k3 k4 => by
    obtain ⟨v, hv, S1⟩ := S0.var hi
    refine ⟨v, hv, h H0 F σ _ Hc _ S1 fun y e e1 H1 h1 S2 => ?_⟩
    exact hr d e _ h1 H0 F e1 σ ts H1 _ v y S2 fun z d' H2 p S3 => k1 _ _ _ p (S3.set i)

/-! what is walked -/
structure Yl (J : It) (tz : Ts) (ys : List PyData) : Prop where
  go : ∀ (i : Nat) (H0 F : Hp) (es : List En) (σ : L2.St) (ts : Ts) (Hc : Hp), i < ys.length → Sta H0 F es σ (tz ++ ts) Hc → J.go i Hc
  yl : ∀ (i : Nat) (y : PyData) (H0 F : Hp) (es : List En) (σ : L2.St) (ts : Ts) (Hc : Hp) (x : V) (H' : Hp), ys[i]? = some y → Sta H0 F es σ (tz ++ ts) Hc → J.yld i Hc x H' → Sta H0 F es σ ((x, y) :: (tz ++ ts)) H'
  st : ∀ (H0 F : Hp) (es : List En) (σ : L2.St) (ts : Ts) (Hc : Hp), Sta H0 F es σ (tz ++ ts) Hc → J.stop ys.length Hc
def Iv (wi : TI) (es : List En) (P : List PyData → List En → Prop) : Prop :=
  ∀ (H0 F : Hp) (σ : L2.St) (ts : Ts) (Hc : Hp) (R : It → Hp → Prop), Sta H0 F es σ ts Hc →
    (∀ J tz ys es' Hc', P ys es' → Yl J tz ys → Sta H0 F es' σ (tz ++ ts) Hc' → R J Hc') → wi σ Hc R
theorem wp_for {wi : TI} {g : TG} {js : List Nat} (h : Iv wi es fun ys e1 => ∃ W : Nat → List En → Prop, W 0 e1 ∧ (∀ i y e, ys[i]? = some y → W i e → Gd g js y e fun e2 => Wp t { D with nx := W (i + 1), ct := W (i + 1), bk := D.nx } e2) ∧ ∀ e, W ys.length e → D.nx e) :
    Wp (tFor wi g t) D es := fun H0 F σ ts Hc Dr S k1 k2 k3 k4 => h H0 F σ ts Hc _ S fun J tz ys e1 H1 h1 hY S1 => by
  obtain ⟨W, w0, hs, hd⟩ := h1
  refine ⟨fun i m σ H => m = ys.length - i ∧ i ≤ ys.length ∧ ∃ e, W i e ∧ Sta H0 F e σ (tz ++ ts) H, ⟨_, rfl, Nat.zero_le _, e1, w0, S1⟩, ?_⟩
  rintro i m σ2 H2 ⟨rfl, hi, e, w, S2⟩
  by_cases hlt : i < ys.length
  · refine .inr ⟨hY.go i H0 F e σ2 ts H2 hlt S2, fun σ' H' => ∃ e', W (i + 1) e' ∧ Sta H0 F e' σ' (tz ++ ts) H', fun σ' H' ⟨e', w', S'⟩ => ⟨ys.length - (i + 1), by omega, rfl, hlt, e', w', S'⟩, fun x H' hy => ?_⟩
    have hyi : ys[i]? = some ys[i] := by simp [hlt]
    have S3 := hY.yl i _ H0 F e σ2 ts H2 x H' hyi S2 hy
    refine hs i _ e hyi w H0 F σ2 _ H' x _ S3 fun σ' e' hw _ S4 => ?_
    exact hw H0 F σ' _ H' _ S4 (fun σ'' e'' H'' q S5 => ⟨e'', q, S5⟩) (fun v d σ'' e'' H'' q S5 => k2 v d σ'' e'' H'' q (S5.weak fun q hq => by
        simp only [List.mem_cons, List.mem_append] at hq ⊢
        rcases hq with rfl | hq <;> simp [*])) (fun σ'' e'' H'' q S5 => k1 _ _ _ q (S5.weak fun q hq => by simp [hq])) (fun σ'' e'' H'' q S5 => ⟨e'', q, S5⟩)
  · have e0 : i = ys.length := by omega
    subst e0
    exact .inl ⟨hY.st H0 F e σ2 ts H2 S2, k1 _ _ _ (hd e w) (S2.weak fun q hq => by simp [hq])⟩
theorem wp_while {tt : TT} (W : Nat → List En → Prop) (m0 : Nat) (h0 : W m0 es)
    (h : ∀ m e, W m e → EvT tt e fun b e1 => if b = true then Wp t { D with nx := fun e' => ∃ m', m' < m ∧ W m' e', ct := fun e' => ∃ m', m' < m ∧ W m' e', bk := D.nx } e1 else D.nx e1) : Wp (tWhile tt t) D es :=
  fun H0 F σ ts Hc Dr S k1 k2 k3 k4 => by
    refine ⟨fun m σ H => ∃ e, W m e ∧ Sta H0 F e σ ts H, ⟨m0, es, h0, S⟩, ?_⟩
    rintro m σ2 H2 ⟨e, w, S2⟩
    refine h m e w H0 F σ2 ts H2 _ S2 fun b e1 H3 h3 S3 => ?_
    cases b with
    | true =>
      refine iteT ⟨fun σ' H' => ∃ e', (∃ m', m' < m ∧ W m' e') ∧ Sta H0 F e' σ' ts H', fun σ' H' ⟨e', ⟨m', l, w'⟩, S'⟩ => ⟨m', l, e', w', S'⟩, ?_⟩
      exact et_and.iteT_inv h3 H0 F σ2 ts H3 _ S3 (fun σ'' e'' H'' q S5 => ⟨e'', q, S5⟩) k2 (fun σ'' e'' H'' q S5 => k1 _ _ _ q S5) (fun σ'' e'' H'' q S5 => ⟨e'', q, S5⟩)
    | false => exact iteF (k1 _ _ _ (et_and.iteF_inv h3) S3)

/-! the iterators -/
theorem pairs_get {ps : Ts} {i : Nat} {x : V} {y : PyData} (h1 : (ps.map (·.1))[i]? = some x) (h2 : (ps.map (·.2))[i]? = some y) : (x, y) ∈ ps := by
  rw [List.getElem?_map] at h1 h2
  obtain ⟨q, e, hq⟩ := Option.map_eq_some_iff.mp h1
  rw [e] at h2
  have e2 : q.2 = y := by simpa using h2
  have : q = (x, y) := by cases q; simp_all
  rw [← this]; exact List.mem_of_getElem? e
theorem yl_list {a : Addr} {ds : List PyData} : Yl (Itl K a) [(.ref a, .list ds)] ds where
  go := fun i H0 F es σ ts Hc hi S => by
    obtain ⟨a', ps, e, ha, e0, S2⟩ := Sta.list S
    cases e
    exact ⟨_, (ps.map (·.1))[i]'(by rw [← e0] at hi; simpa using hi), SqL.of ha, List.getElem?_eq_getElem _⟩
  yl := fun i y H0 F es σ ts Hc x H' hy S h => by
    obtain ⟨rfl, h⟩ := h
    obtain ⟨a', ps, e, ha, e0, S2⟩ := Sta.list S
    cases e
    subst e0
    obtain ⟨H, O, I⟩ := S2
    have hm := pairs_get (h _ (SqL.of ha)) hy
    obtain ⟨H', O', I'⟩ := S
    have hx : Dd H' x y := by
      obtain ⟨a', xs, e, h1, h2⟩ := (I'.tp (.ref a, .list (ps.map (·.2))) (by simp)).list_inv
      cases e
      obtain ⟨v, q1, q2⟩ := h2.get hy
      have := h xs (SqL.of (I'.at h1))
      rw [q1] at this; cases this
      exact q2
    exact ⟨H', O', I'.temps fun q hq => by
      rcases List.mem_cons.mp hq with rfl | hq
      · exact hx
      · exact I'.tp q hq⟩
  st := fun H0 F es σ ts Hc S => by
    obtain ⟨a', ps, e, ha, e0, S2⟩ := Sta.list S
    cases e
    exact ⟨_, SqL.of ha, by rw [← e0]; simp⟩
theorem iv_list {tl : TE} {P : List PyData → List En → Prop} (h : Ev tl es fun d e1 => ∃ ds, d = .list ds ∧ P ds e1) : Iv (iList K tl) es P := fun H0 F σ ts Hc R S k =>
  h H0 F σ ts Hc _ S fun v d e1 H1 h1 S1 => by
    obtain ⟨ds, rfl, hp⟩ := h1
    obtain ⟨a, ps, rfl, ha, e0, S2⟩ := Sta.list S1
    exact ⟨a, rfl, ⟨_, SqL.of ha⟩, k _ [(.ref a, .list ds)] ds e1 H1 hp yl_list S1⟩
def rangeD (lo : Int) (n : Nat) : List PyData := (List.range n).map fun i => .int (lo + (i : Nat))
theorem rangeD_len (lo : Int) (n : Nat) : (rangeD lo n).length = n := by simp [rangeD]
theorem rangeD_get {lo : Int} {n i : Nat} {y : PyData} (h : (rangeD lo n)[i]? = some y) : i < n ∧ y = .int (lo + (i : Nat)) := by
  unfold rangeD at h
  rw [List.getElem?_map] at h
  obtain ⟨q, e, hq⟩ := Option.map_eq_some_iff.mp h
  obtain ⟨h1, h2⟩ := List.getElem?_eq_some_iff.mp e
  simp at h1 h2
  subst h2
  exact ⟨h1, hq.symm⟩
theorem yl_range {lo : Int} {n : Nat} : Yl (Itr lo n) [] (rangeD lo n) where
  go := fun i H0 F es σ ts Hc hi S => by rw [rangeD_len] at hi; exact hi
  yl := fun i y H0 F es σ ts Hc x H' hy S h => by
    obtain ⟨rfl, rfl⟩ := h
    obtain ⟨_, rfl⟩ := rangeD_get hy
    exact Sta.int S _
  st := fun H0 F es σ ts Hc S => by rw [rangeD_len]; exact Nat.le_refl _
theorem iv_range1 {P : List PyData → List En → Prop} (h : Evs tl es fun ds e1 => ∃ j : Int, ds = [.int j] ∧ -(2 ^ 62) ≤ j ∧ j < 2 ^ 62 ∧ P (rangeD 0 j.toNat) e1) : Iv (iRng1 tl) es P := fun H0 F σ ts Hc R S k =>
  h H0 F σ ts Hc _ S fun ps e1 H1 h1 S1 => by
    obtain ⟨j, e0, l1, l2, hp⟩ := h1
    obtain ⟨v, rfl⟩ := one_of e0
    · 
      cases S1.get_int
      exact ⟨j, rfl, l1, l2, k _ [] _ e1 H1 hp yl_range S1.tail⟩
theorem iv_range2 {P : List PyData → List En → Prop} (h : Evs tl es fun ds e1 => ∃ i j : Int, ds = [.int i, .int j] ∧ (-(2 ^ 62) ≤ i ∧ i < 2 ^ 62 ∧ -(2 ^ 62) ≤ j ∧ j < 2 ^ 62) ∧ P (rangeD i (j - i).toNat) e1) : Iv (iRng2 tl) es P := fun H0 F σ ts Hc R S k =>
  h H0 F σ ts Hc _ S fun ps e1 H1 h1 S1 => by
    obtain ⟨i, j, e0, l1, hp⟩ := h1
    obtain ⟨v, v2, rfl⟩ := two_of e0
    · 
      cases S1.get_int
      cases S1.tail.get_int
      exact ⟨i, j, rfl, l1, k _ [] _ e1 H1 hp yl_range S1.tail.tail⟩
def rangeC (lo c : Int) (n : Nat) : List PyData := (List.range n).map fun i => .int (lo + (i : Nat) * c)
theorem rangeC_len (lo c : Int) (n : Nat) : (rangeC lo c n).length = n := by simp [rangeC]
theorem rangeC_get {lo c : Int} {n i : Nat} {y : PyData} (h : (rangeC lo c n)[i]? = some y) : i < n ∧ y = .int (lo + (i : Nat) * c) := by
  unfold rangeC at h
  rw [List.getElem?_map] at h
  obtain ⟨q, e, hq⟩ := Option.map_eq_some_iff.mp h
  obtain ⟨h1, h2⟩ := List.getElem?_eq_some_iff.mp e
  simp at h1 h2
  subst h2
  exact ⟨h1, hq.symm⟩
theorem yl_rangeC {lo c : Int} {n : Nat} : Yl (Itc lo c n) [] (rangeC lo c n) where
  go := fun i H0 F es σ ts Hc hi S => by rw [rangeC_len] at hi; exact hi
  yl := fun i y H0 F es σ ts Hc x H' hy S h => by
    obtain ⟨rfl, rfl⟩ := h
    obtain ⟨_, rfl⟩ := rangeC_get hy
    exact Sta.int S _
  st := fun H0 F es σ ts Hc S => by rw [rangeC_len]; exact Nat.le_refl _
/-- downward -/
theorem iv_down {P : List PyData → List En → Prop} (h : Evs tl es fun ds e1 => ∃ i j : Int, ds = [.int i, .int j, .int (-1)] ∧ (-(2 ^ 62) ≤ i ∧ i < 2 ^ 62 ∧ -(2 ^ 62) ≤ j ∧ j < 2 ^ 62) ∧ P (rangeC i (-1) (i - j).toNat) e1) : Iv (iRng3 tl) es P := fun H0 F σ ts Hc R S k =>
  h H0 F σ ts Hc _ S fun ps e1 H1 h1 S1 => by
    obtain ⟨i, j, e0, l1, hp⟩ := h1
    obtain ⟨v, v2, v3, rfl⟩ := three_of e0
    · 
      cases S1.get_int
      cases S1.tail.get_int
      cases S1.tail.tail.get_int
      exact ⟨i, j, -1, _, rfl, RgC.neg l1.1 l1.2.1 l1.2.2.1 l1.2.2.2, k _ [] _ e1 H1 hp yl_rangeC S1.tail.tail.tail⟩
def enumD (ds : List PyData) : List PyData := (ds.zip (List.range ds.length)).map fun p => .tuple [.int (p.2 : Nat), p.1]
theorem enumD_len (ds : List PyData) : (enumD ds).length = ds.length := by simp [enumD]
theorem enumD_get {ds : List PyData} {i : Nat} {y : PyData} (h : (enumD ds)[i]? = some y) : ∃ d, ds[i]? = some d ∧ y = .tuple [.int (i : Nat), d] := by
  unfold enumD at h
  rw [List.getElem?_map] at h
  obtain ⟨q, e, hq⟩ := Option.map_eq_some_iff.mp h
  obtain ⟨h1, h2⟩ := List.getElem?_zip_eq_some.mp e
  refine ⟨q.1, h1, ?_⟩
  obtain ⟨h3, h4⟩ := List.getElem?_eq_some_iff.mp h2
  simp at h4
  rw [← hq, ← h4]
theorem yl_enum {a : Addr} {ds : List PyData} : Yl (Ite K a) [(.ref a, .list ds)] (enumD ds) where
  go := fun i H0 F es σ ts Hc hi S => by
    obtain ⟨a', ps, e, ha, e0, S2⟩ := Sta.list S
    cases e
    rw [enumD_len] at hi
    exact ⟨_, (ps.map (·.1))[i]'(by rw [← e0] at hi; simpa using hi), SqL.of ha, List.getElem?_eq_getElem _⟩
  yl := fun i y H0 F es σ ts Hc x H' hy S h => by
    obtain ⟨T, x1, rfl, hT, rfl, h⟩ := h
    obtain ⟨d, hd, rfl⟩ := enumD_get hy
    obtain ⟨H', O', I'⟩ := S
    have hx : Dd H' x1 d := by
      obtain ⟨a', xs, e, h1, h2⟩ := (I'.tp (.ref a, .list ds) (by simp)).list_inv
      cases e
      obtain ⟨v, q1, q2⟩ := h2.get hd
      have := h xs (SqL.of (I'.at h1))
      rw [q1] at this; cases this
      exact q2
    have S3 : Sta H0 F es σ ([(.int (i : Nat), .int (i : Nat)), (x1, d)] ++ ([(.ref a, .list ds)] ++ ts)) Hc := ⟨H', O', I'.temps fun q hq => by
      rcases List.mem_append.mp hq with hq | hq
      · simp only [List.mem_cons, List.not_mem_nil, or_false] at hq
        rcases hq with rfl | rfl
        · exact .int _
        · exact hx
      · exact I'.tp q hq⟩
    exact S3.newT hT
  st := fun H0 F es σ ts Hc S => by
    obtain ⟨a', ps, e, ha, e0, S2⟩ := Sta.list S
    cases e
    exact ⟨_, SqL.of ha, by rw [enumD_len, ← e0]; simp⟩
theorem iv_enum {P : List PyData → List En → Prop} (h : Evs tl es fun dd e1 => ∃ ds, dd = [.list ds] ∧ P (enumD ds) e1) : Iv (iEnum K tl) es P := fun H0 F σ ts Hc R S k =>
  h H0 F σ ts Hc _ S fun ps e1 H1 h1 S1 => by
    obtain ⟨ds, e0, hp⟩ := h1
    obtain ⟨v, rfl⟩ := one_of e0
    · 
      obtain ⟨a, ps, rfl, ha, e0, S2⟩ := Sta.list S1
      exact ⟨a, _, rfl, SqL.of ha, k _ [(.ref a, .list ds)] _ e1 H1 hp yl_enum S1⟩
def zipD (ds es : List PyData) : List PyData := (ds.zip es).map fun p => .tuple [p.1, p.2]
theorem zipD_len (ds es : List PyData) : (zipD ds es).length = min ds.length es.length := by simp [zipD]
theorem zipD_get {ds es : List PyData} {i : Nat} {y : PyData} (h : (zipD ds es)[i]? = some y) : ∃ d e, ds[i]? = some d ∧ es[i]? = some e ∧ y = .tuple [d, e] := by
  unfold zipD at h
  rw [List.getElem?_map] at h
  obtain ⟨q, e, hq⟩ := Option.map_eq_some_iff.mp h
  obtain ⟨h1, h2⟩ := List.getElem?_zip_eq_some.mp e
  exact ⟨_, _, h1, h2, hq.symm⟩
theorem yl_zip {a b : Addr} {ds dt : List PyData} : Yl (Itz K a b) [(.ref a, .list ds), (.ref b, .list dt)] (zipD ds dt) where
  go := fun i H0 F es σ ts Hc hi S => by
    obtain ⟨a', ps, e, ha, e0, S2⟩ := Sta.list S
    cases e
    obtain ⟨b', qs, e, hb, e1, S3⟩ := Sta.list S.tail
    cases e
    rw [zipD_len] at hi
    exact ⟨_, _, (ps.map (·.1))[i]'(by rw [← e0, List.length_map] at hi; simp; omega), (qs.map (·.1))[i]'(by rw [← e1, List.length_map] at hi; simp; omega), SqL.of ha, SqL.of hb, List.getElem?_eq_getElem _, List.getElem?_eq_getElem _⟩
  yl := fun i y H0 F es σ ts Hc x H' hy S h => by
    obtain ⟨T, x1, y1, rfl, hT, rfl, h, h'⟩ := h
    obtain ⟨d, d', hd, hd', rfl⟩ := zipD_get hy
    obtain ⟨H', O', I'⟩ := S
    have hx : Dd H' x1 d := by
      obtain ⟨a', xs, e, h1, h2⟩ := (I'.tp (.ref a, .list ds) (by simp)).list_inv
      cases e
      obtain ⟨v, q1, q2⟩ := h2.get hd
      have := h xs (SqL.of (I'.at h1))
      rw [q1] at this; cases this
      exact q2
    have hx' : Dd H' y1 d' := by
      obtain ⟨a', xs, e, h1, h2⟩ := (I'.tp (.ref b, .list dt) (by simp)).list_inv
      cases e
      obtain ⟨v, q1, q2⟩ := h2.get hd'
      have := h' xs (SqL.of (I'.at h1))
      rw [q1] at this; cases this
      exact q2
    have S3 : Sta H0 F es σ ([(x1, d), (y1, d')] ++ ([(.ref a, .list ds), (.ref b, .list dt)] ++ ts)) Hc := ⟨H', O', I'.temps fun q hq => by
      rcases List.mem_append.mp hq with hq | hq
      · simp only [List.mem_cons, List.not_mem_nil, or_false] at hq
        rcases hq with rfl | rfl
        · exact hx
        · exact hx'
      · exact I'.tp q hq⟩
    exact S3.newT hT
  st := fun H0 F es σ ts Hc S => by
    obtain ⟨a', ps, e, ha, e0, S2⟩ := Sta.list S
    cases e
    obtain ⟨b', qs, e, hb, e1, S3⟩ := Sta.list S.tail
    cases e
    refine ⟨_, _, SqL.of ha, SqL.of hb, ?_⟩
    rw [zipD_len, ← e0, ← e1]
    simp only [List.length_map]
    omega
theorem iv_zip {P : List PyData → List En → Prop} (h : Evs tl es fun dd e1 => ∃ ds dt, dd = [.list ds, .list dt] ∧ P (zipD ds dt) e1) : Iv (iZip K tl) es P := fun H0 F σ ts Hc R S k =>
  h H0 F σ ts Hc _ S fun ps e1 H1 h1 S1 => by
    obtain ⟨ds, dt, e0, hp⟩ := h1
    obtain ⟨v, v2, rfl⟩ := two_of e0
    · 
      obtain ⟨a, ps, rfl, ha, e0, S2⟩ := Sta.list S1
      obtain ⟨b, qs, rfl, hb, e0', S3⟩ := Sta.list S1.tail
      exact ⟨a, b, _, _, rfl, SqL.of ha, SqL.of hb, k _ [(.ref a, .list ds), (.ref b, .list dt)] _ e1 H1 hp yl_zip S1⟩
end
end DL
end

section
set_option Elab.async false
set_option linter.all false
set_option autoImplicit false
set_option maxRecDepth 100000
/-! Dat4: comprehensions, new lists, own lists, built-ins, calls at the level of data. -/
namespace DL
open PySem PySem.Spec PyProof.Rows L2

/-! ### the slots of a block -/
def wipeE (es : List En) : List Nat → List En
  | [] => es
  | v :: vs => (wipeE es vs).set v .no
theorem wipeE_len (es : List En) : ∀ vs : List Nat, (wipeE es vs).length = es.length
  | [] => rfl
  | v :: vs => by unfold wipeE; rw [List.length_set, wipeE_len es vs]
theorem wipeE_get (es : List En) (i : Nat) : ∀ vs : List Nat, (wipeE es vs)[i]? = if i ∈ vs then (if i < es.length then some .no else none) else es[i]?
  | [] => by simp [wipeE]
  | v :: vs => by
    unfold wipeE
    have hl := wipeE_len es vs
    by_cases hv : v = i
    · subst hv
      simp [List.getElem?_set, hl]
    · rw [List.getElem?_set_ne hv, wipeE_get es i vs]
      by_cases hi : i ∈ vs
      · rw [if_pos hi, if_pos (List.mem_cons_of_mem _ hi)]
      · rw [if_neg hi, if_neg (fun h => (List.mem_cons.mp h).elim (fun z => hv z.symm) hi)]
theorem wipeE_wipeE (es : List En) (vs : List Nat) : wipeE (wipeE es vs) vs = wipeE es vs := by
  apply List.ext_getElem?
  intro i
  rw [wipeE_get, wipeE_get, wipeE_len]
  by_cases hi : i ∈ vs <;> simp [hi]
theorem wipeE_set (es : List En) (vs : List Nat) {j : Nat} {x : En} (h : j ∈ vs) : wipeE (es.set j x) vs = wipeE es vs := by
  apply List.ext_getElem?
  intro i
  rw [wipeE_get, wipeE_get]
  by_cases hi : i ∈ vs
  · simp [hi]
  · have : j ≠ i := fun z => hi (z ▸ h)
    simp [hi, List.getElem?_set_ne this]
section
variable {H0 F Hc H O : Hp} {es : List En} {σ : L2.St} {ts : Ts} {p : Addr} {o : HO}
theorem StaI.reslot (I : StaI H0 F es σ ts Hc H O) {es' : List En} {σ' : L2.St} (hl : σ'.length = es'.length) (h : ∀ (i : Nat) (e : En), es'[i]? = some e → e = .no ∨ (es[i]? = some e ∧ σ'[i]? = σ[i]?)) : StaI H0 F es' σ' ts Hc H O := by
  refine ⟨I.hc, I.ho, I.hf, I.of, I.ext, hl, fun i e he => ?_, fun i j p c c' h1 h2 => ?_, I.tp⟩
  · rcases h i e he with rfl | ⟨he', hs⟩
    · trivial
    · have := I.sl i e he'
      cases e with
      | no => trivial
      | dat d => obtain ⟨v, a, b⟩ := this; exact ⟨v, hs.trans a, b⟩
      | own p c => obtain ⟨a, b⟩ := this; exact ⟨hs.trans a, b⟩
      | raw v => exact hs.trans this
  · rcases h i _ h1 with z | ⟨a, _⟩
    · cases z
    · rcases h j _ h2 with z | ⟨b, _⟩
      · cases z
      · exact I.ap i j p c c' a b
theorem Sta.blk (S : Sta H0 F es σ ts Hc) (vs : List Nat) : Sta H0 F (wipeE es vs) (wipe σ vs) ts Hc := by
  obtain ⟨H, O, I⟩ := S
  refine ⟨H, O, I.reslot (by rw [wipe_length, wipeE_len]; exact I.len) fun i e he => ?_⟩
  rw [wipeE_get] at he
  by_cases hi : i ∈ vs
  · rw [if_pos hi] at he
    by_cases hl : i < es.length
    · rw [if_pos hl] at he; cases he; exact .inl rfl
    · rw [if_neg hl] at he; cases he
  · rw [if_neg hi] at he
    exact .inr ⟨he, by rw [wipe_get, if_neg hi]⟩
theorem Sta.unblk {σ0 : L2.St} {vs : List Nat} (S : Sta H0 F es σ ts Hc) (hw : wipe σ vs = wipe σ0 vs) : Sta H0 F (wipeE es vs) σ0 ts Hc := by
  obtain ⟨H, O, I⟩ := S
  have hlen : σ0.length = σ.length := by
    have := congrArg List.length hw
    rw [wipe_length, wipe_length] at this; exact this.symm
  refine ⟨H, O, I.reslot (by rw [wipeE_len, hlen]; exact I.len) fun i e he => ?_⟩
  rw [wipeE_get] at he
  by_cases hi : i ∈ vs
  · rw [if_pos hi] at he
    by_cases hl : i < es.length
    · rw [if_pos hl] at he; cases he; exact .inl rfl
    · rw [if_neg hl] at he; cases he
  · rw [if_neg hi] at he
    refine .inr ⟨he, ?_⟩
    have := congrArg (fun l => l[i]?) hw
    simp only [wipe_get, if_neg hi] at this
    exact this.symm
/-- a thing put aside, in the frame -/
theorem Sta.aside (S : Sta H0 F es σ ts Hc) (h : Hc p = none) : Sta H0 (upd F p o) es σ ts (upd Hc p o) := by
  obtain ⟨H, O, I⟩ := S
  obtain ⟨h1, h2, h3⟩ := I.free h
  exact ⟨H, O, by rw [I.hc, upd_jn_r h1, upd_jn_r h2], I.ho, I.hf.put h1, I.of.put h2, I.ext, I.len, I.sl, I.ap, I.tp⟩
theorem Sta.atF (S : Sta H0 (upd F p o) es σ ts Hc) : Hc p = some o := by
  obtain ⟨H, O, I⟩ := S
  rw [I.hc, jn_r (I.hf.no upd_same), jn_r (I.of.no upd_same), upd_same]
theorem Sta.wrF {o' : HO} (S : Sta H0 (upd F p o) es σ ts Hc) : Sta H0 (upd F p o') es σ ts (upd Hc p o') := by
  obtain ⟨H, O, I⟩ := S
  have h1 : H p = none := I.hf.no upd_same
  have h2 : O p = none := I.of.no upd_same
  refine ⟨H, O, by rw [I.hc, upd_jn_r h1, upd_jn_r h2, upd_upd], I.ho, ?_, ?_, I.ext, I.len, I.sl, I.ap, I.tp⟩
  · have := I.hf.put (o := o') h1
    rwa [upd_upd] at this
  · have := I.of.put (o := o') h2
    rwa [upd_upd] at this
theorem del_upd (h : F p = none) : (fun b => if b = p then none else upd F p o b) = F := by
  funext b
  by_cases hb : b = p
  · subst hb; simp [h]
  · simp only [hb, if_false]; exact upd_ne hb
/-- .. and brought in as data -/
theorem Sta.inL {vs : List V} {ds : List PyData} (S : Sta H0 (upd F p (.lst vs)) es σ ts Hc) (h : F p = none) (hd : ∀ H, (∀ q ∈ ts, Dd H q.1 q.2) → DdAll H vs ds) : Sta H0 F es σ ((.ref p, .list ds) :: ts) Hc := by
  obtain ⟨H, O, I⟩ := S
  have h1 : H p = none := I.hf.no upd_same
  have h2 : O p = none := I.of.no upd_same
  have ex : Ex H (upd H p (.lst vs)) := Ex.new h1
  have e0 : jn (upd H p (.lst vs)) (jn O F) = jn H (jn O (upd F p (.lst vs))) := by
    rw [← upd_jn_r h2, ← upd_jn_r h1, upd_jn]
  have fF : ∀ b, b ≠ p → upd F p (.lst vs) b = F b := fun b hb => upd_ne hb
  refine ⟨upd H p (.lst vs), O, by rw [I.hc, e0], I.ho.new h2, fun b => ?_, fun b => ?_, I.ext.trans ex, I.len, fun i e he => (I.sl i e he).mono ex, I.ap, fun q hq => ?_⟩
  · by_cases hb : b = p
    · subst hb; exact .inr h
    · rw [upd_ne hb, ← fF b hb]; exact I.hf b
  · by_cases hb : b = p
    · subst hb; exact .inr h
    · rw [← fF b hb]; exact I.of b
  · have tp' : ∀ q ∈ ts, Dd (upd H p (.lst vs)) q.1 q.2 := fun q hq => (I.tp q hq).mono ex
    rcases List.mem_cons.mp hq with rfl | hq
    · exact .lst upd_same (hd _ tp')
    · exact tp' q hq
/-- .. or as an own list of a slot -/
theorem Sta.inO {vs : List V} {ds : List PyData} (S : Sta H0 (upd F p (.lst vs)) es σ ts Hc) (h : F p = none) (hd : ∀ H, (∀ q ∈ ts, Dd H q.1 q.2) → DdAll H vs ds) (i : Nat) : Sta H0 F (es.set i (.own p (.lst ds))) (σ.set i (some (.ref p))) ts Hc := by
  obtain ⟨H, O, I⟩ := S
  have h1 : H p = none := I.hf.no upd_same
  have h2 : O p = none := I.of.no upd_same
  have e0 : jn H (jn (upd O p (.lst vs)) F) = jn H (jn O (upd F p (.lst vs))) := by
    rw [← upd_jn_r h2, upd_jn]
  have fF : ∀ b, b ≠ p → upd F p (.lst vs) b = F b := fun b hb => upd_ne hb
  have J : StaI H0 F es σ ts Hc H (upd O p (.lst vs)) := by
    refine ⟨by rw [I.hc, e0], I.ho.put h1, fun b => ?_, fun b => ?_, I.ext, I.len, fun i e he => ?_, I.ap, I.tp⟩
    · by_cases hb : b = p
      · subst hb; exact .inr h
      · rw [← fF b hb]; exact I.hf b
    · by_cases hb : b = p
      · subst hb; exact .inr h
      · rw [upd_ne hb, ← fF b hb]; exact I.of b
    · have := I.sl i e he
      cases e with
      | no => trivial
      | dat d => exact this
      | raw v => exact this
      | own q c => obtain ⟨a, o, b, c⟩ := this; exact ⟨a, o, Ex.new h2 _ _ b, c⟩
  refine ⟨H, _, J.setE (fun τ z => ⟨z, _, upd_same, hd H I.tp⟩) fun q c e j c' hj z => ?_⟩
  cases e
  obtain ⟨_, o, a, _⟩ := I.sl j _ z
  rw [h2] at a; cases a
end

/-! ### comprehensions -/
section
variable {K : PySem.W.Frag} {es : List En} {P : PyData → List En → Prop} {ta tb tc te : TE} {tl : TA} {tt : TT}
theorem ev_lc {wi : TI} {g : TG} {vs js : List Nat} (hj : ∀ j ∈ js, j ∈ vs)
    (h : Iv wi es fun ys es1 => ys.length < sizeLine ∧ ∃ W : Nat → List PyData → List En → Prop, W 0 [] (wipeE es1 vs) ∧
      (∀ (i : Nat) (y : PyData) (acc : List PyData) (e : List En), ys[i]? = some y → W i acc e → Gd g js y e fun e2 => EvT tt e2 fun b e3 => if b = true then Ev te e3 fun d e4 => W (i + 1) (acc ++ [d]) (wipeE e4 vs) else W (i + 1) acc (wipeE e3 vs)) ∧
      ∀ acc e, W ys.length acc e → P (.list acc) e) : Ev (tLc wi g tt te vs) es P := fun H0 F σ ts Hc Q S k => h H0 F σ ts Hc _ S fun J tz ys e1 H1 h1 hY S1 => by
  obtain ⟨hsz, W, w0, hs, hd⟩ := h1
  intro D hD
  have hFD : F D = none := by
    obtain ⟨H, O, I⟩ := S1
    exact (I.free hD).2.2
  refine ⟨fun i m H => m = ys.length - i ∧ i ≤ ys.length ∧ ∃ (aps : Ts) (e e0 : List En), aps.length ≤ i ∧ W i (aps.map (·.2)) e ∧ e = wipeE e0 vs ∧ Sta H0 (upd F D (.lst (aps.map (·.1)))) e (wipe σ vs) (aps ++ (tz ++ ts)) H,
    ⟨_, rfl, Nat.zero_le _, [], _, e1, Nat.le_refl _, w0, rfl, (S1.blk vs).aside hD⟩, ?_⟩
  rintro i m Hi ⟨rfl, hi, aps, e, e0, hal, w, he0, Si⟩
  have Si' : Sta H0 (upd F D (.lst (aps.map (·.1)))) e (wipe σ vs) (tz ++ (aps ++ ts)) Hi := Si.weak fun q hq => by
    simp only [List.mem_append] at hq ⊢
    rcases hq with hq | hq | hq <;> simp [hq]
  by_cases hlt : i < ys.length
  · refine .inr ⟨hY.go i H0 _ e _ _ Hi hlt Si', fun H' => ∃ (aps : Ts) (e e0 : List En), aps.length ≤ i + 1 ∧ W (i + 1) (aps.map (·.2)) e ∧ e = wipeE e0 vs ∧ Sta H0 (upd F D (.lst (aps.map (·.1)))) e (wipe σ vs) (aps ++ (tz ++ ts)) H',
      fun H' hn => ⟨ys.length - (i + 1), by omega, rfl, hlt, hn⟩, fun x H' hy => ?_⟩
    have hyi : ys[i]? = some ys[i] := by simp [hlt]
    have S3 := hY.yl i _ H0 _ e _ _ Hi x H' hyi Si' hy
    refine hs i _ _ e hyi w H0 _ _ _ H' x _ S3 fun σ2 e2 ht hw S4 => ?_
    have hwp : wipe σ2 vs = wipe σ vs := by
      rw [hw vs hj]
      apply List.ext_getElem?
      intro n
      rw [wipe_get, wipe_get, wipe_length]
      by_cases hn : n ∈ vs <;> simp [hn]
    refine ⟨hwp, ht H0 _ σ2 _ H' _ S4 fun b e3 H3 h3 S5 => ?_⟩
    have back : ∀ (e' : List En) (ts' : Ts) (H' : Hp) (F' : Hp), Sta H0 F' e' σ2 ts' H' → Sta H0 F' (wipeE e' vs) (wipe σ vs) ts' H' := fun e' ts' H' F' S' => by
      have := (S'.blk vs)
      rwa [hwp] at this
    cases b with
    | true =>
      refine iteT (et_and.iteT_inv h3 H0 _ σ2 _ H3 _ S5 fun v d e4 H4 h4 S6 => ?_)
      refine ⟨aps.map (·.1), Sta.atF S6, by simp only [List.length_map]; omega, aps ++ [(v, d)], wipeE e4 vs, e4, by simp; exact hal, by simpa using h4, rfl, ?_⟩
      have S7 := (back e4 _ H4 _ S6).wrF (o' := .lst ((aps ++ [(v, d)]).map (·.1)))
      rw [List.map_append] at S7 ⊢
      exact S7.weak fun q hq => by
        simp only [List.mem_append, List.mem_cons, List.mem_singleton, List.not_mem_nil, or_false] at hq ⊢
        rcases hq with (hq | hq) | hq | hq <;> simp [hq]
    | false =>
      refine iteF ⟨aps, wipeE e3 vs, e3, by omega, et_and.iteF_inv h3, rfl, (back e3 _ H3 _ S5).weak fun q hq => ?_⟩
      simp only [List.mem_append] at hq ⊢
      rcases hq with hq | hq | hq <;> simp [hq]
  · have ei : i = ys.length := by omega
    subst ei
    refine .inl ⟨hY.st H0 _ e _ _ Hi Si', k _ _ _ _ (hd _ e w) ?_⟩
    have S8 := Si.unblk (σ0 := σ) (vs := vs) (by
      apply List.ext_getElem?
      intro n
      rw [wipe_get, wipe_get, wipe_length]
      by_cases hn : n ∈ vs <;> simp [hn])
    rw [he0, wipeE_wipeE] at S8
    rw [he0]
    exact (S8.inL hFD (ds := aps.map (·.2)) fun H hq => DdAll.of_pairs aps fun q hm => hq q (by simp [hm])).weak fun q hq => by
      simp only [List.mem_append, List.mem_cons] at hq ⊢
      rcases hq with hq | hq <;> simp [hq]
/-- one whose tests and elements change nothing -/
theorem ev_lcP {wi : TI} {g : TG} {vs js : List Nat} (hj : ∀ j ∈ js, j ∈ vs) (f : PyData → Option PyData)
    (h : Iv wi es fun ys es1 => ys.length < sizeLine ∧ (∀ (i : Nat) (y : PyData), ys[i]? = some y → Gd g js y (wipeE es1 vs) fun e2 => EvT tt e2 fun b e3 => if b = true then Ev te e3 fun d e4 => f y = some d ∧ wipeE e4 vs = wipeE es1 vs else f y = none ∧ wipeE e3 vs = wipeE es1 vs) ∧
      P (.list (ys.filterMap f)) (wipeE es1 vs)) : Ev (tLc wi g tt te vs) es P := by
  refine ev_lc hj fun H0 F σ ts Hc R S k => h H0 F σ ts Hc R S fun J tz ys es1 H1 h1 hY S1 => k J tz ys es1 H1 ⟨h1.1, fun i acc e => acc = (ys.take i).filterMap f ∧ e = wipeE es1 vs, ⟨by simp, rfl⟩, fun i y acc e hy w => ?_, fun acc e w => ?_⟩ hY S1
  · obtain ⟨rfl, rfl⟩ := w
    have et : ys.take (i + 1) = ys.take i ++ [y] := by
      rw [List.take_add_one, hy]; rfl
    intro H0 F σ ts Hc x Q S k
    refine h1.2.1 i y hy H0 F σ ts Hc x Q S fun σ' e' ht hw S' => k σ' e' (fun H0 F σ ts Hc Q S k => ht H0 F σ ts Hc Q S fun b e3 H3 h3 S3 => k b e3 H3 ?_ S3) hw S'
    cases b with
    | true =>
      refine iteT (ev_weak (et_and.iteT_inv h3) fun d e4 z => ⟨?_, z.2⟩)
      rw [et, List.filterMap_append, List.filterMap_cons, z.1]; rfl
    | false =>
      have z := et_and.iteF_inv h3
      refine iteF ⟨?_, z.2⟩
      rw [et, List.filterMap_append, List.filterMap_cons, z.1]; simp
  · obtain ⟨rfl, rfl⟩ := w
    rw [List.take_length]
    exact h1.2.2

/-! ### new lists -/
def EvN (te : TE) (es : List En) (P : List PyData → List En → Prop) : Prop :=
  ∀ (H0 F : Hp) (σ : L2.St) (ts : Ts) (Hc : Hp) (Q : VK), Sta H0 F es σ ts Hc →
    (∀ (p : Addr) (ps : Ts) es' Hc', P (ps.map (·.2)) es' → Sta H0 F es' σ (ps ++ ts) Hc' → Hc' p = none → Q (.ref p) (upd Hc' p (.lst (ps.map (·.1))))) → te σ Hc Q
theorem ev_ofN (h : EvN te es fun ds e => P (.list ds) e) : Ev te es P := fun H0 F σ ts Hc Q S k =>
  h H0 F σ ts Hc Q S fun p ps e1 H1 h1 S1 hp => k _ _ _ _ h1 (S1.newL hp)
theorem en_lst {N : List PyData → List En → Prop} (h : Evs tl es fun ds e1 => ds.length ≤ sizeLine ∧ N ds e1) : EvN (tLst tl) es N := fun H0 F σ ts Hc Q S k =>
  h H0 F σ ts Hc _ S fun ps e1 H1 h1 S1 => ⟨by simpa using h1.1, fun p hp => k p ps e1 H1 h1.2 S1 hp⟩
theorem en_cat {N : List PyData → List En → Prop} (h : Ev ta es fun d e1 => Ev tb e1 fun e e2 => ∃ xs ys, d = .list xs ∧ e = .list ys ∧ xs.length + ys.length ≤ sizeLine ∧ N (xs ++ ys) e2) : EvN (tOp rCat ta tb) es N := fun H0 F σ ts Hc Q S k =>
  h H0 F σ ts Hc _ S fun x d e1 H1 h1 S1 => h1 H0 F σ _ H1 _ S1 fun y e e2 H2 h2 S2 => by
    obtain ⟨xs, ys, rfl, rfl, hl, hn⟩ := h2
    obtain ⟨b, pb, rfl, hb, eb, S3⟩ := S2.list
    obtain ⟨a, pa, rfl, ha, ea, S4⟩ := Sta.list (S3.weak (ts' := (x, .list xs) :: (pb ++ ts)) fun q hq => by
      simp only [List.mem_append, List.mem_cons] at hq ⊢
      rcases hq with rfl | hq | hq <;> simp [*])
    subst ea eb
    refine ⟨a, b, _, _, rfl, rfl, ha, hb, by simpa using hl, fun p hnew => ?_⟩
    rw [← List.map_append]
    exact k p (pa ++ pb) e2 H2 (by rw [List.map_append]; exact hn) (S4.weak fun q hq => by simpa [or_assoc] using hq) hnew
theorem rep_one {α : Type} (n : Nat) (v : α) : (List.replicate n [v]).flatten = List.replicate n v := by
  induction n with
  | zero => rfl
  | succ n ih => rw [List.replicate_succ, List.flatten_cons, ih, List.replicate_succ]; rfl
/-- [d] * n -/
theorem en_rep {N : List PyData → List En → Prop} (h : Ev ta es fun d e1 => Ev tb e1 fun e e2 => ∃ x k, d = .list [x] ∧ e = .int k ∧ -(2 ^ 63) ≤ k ∧ k < 2 ^ 63 ∧ k.toNat ≤ sizeLine ∧ N (List.replicate k.toNat x) e2) : EvN (tOp rRep ta tb) es N := fun H0 F σ ts Hc Q S k =>
  h H0 F σ ts Hc _ S fun x d e1 H1 h1 S1 => h1 H0 F σ _ H1 _ S1 fun y e e2 H2 h2 S2 => by
    obtain ⟨z, n, rfl, rfl, l1, l2, l3, hn⟩ := h2
    cases S2.get_int
    obtain ⟨a, pa, rfl, ha, ea, S4⟩ := S2.tail.list
    obtain ⟨v, rfl⟩ := one_of ea
    refine ⟨a, n, _, rfl, rfl, ha, l1, l2, by simpa using l3, fun p hnew => ?_⟩
    have e : (List.replicate n.toNat (([(v, z)] : Ts).map (·.1))).flatten = (List.replicate n.toNat (v, z)).map (·.1) := by
      rw [List.map_replicate]; exact rep_one _ _
    rw [e]
    refine k p (List.replicate n.toNat (v, z)) e2 H2 (by rw [List.map_replicate]; exact hn) (S4.weak fun q hq => ?_) hnew
    simp only [List.mem_append, List.mem_replicate, List.mem_cons, List.not_mem_nil, or_false] at hq ⊢
    rcases hq with ⟨_, rfl⟩ | hq <;> simp [*]
def rListS (K : PySem.W.Frag) : List V → Hp → VK → Prop := fun xs H Q => ∃ p ys, xs = [.ref p] ∧ (SqL K H p ys ∨ SqT K H p ys) ∧ ∀ l, H l = none → Q (.ref l) (upd H l (.lst ys))
theorem cr_listS {X : Cx} : CallR X (.type "list") (rListS X.K) := call_list_of
theorem en_list {N : List PyData → List En → Prop} (h : Ev ta es fun d e1 => ∃ ds, d = .list ds ∧ N ds e1) : EvN (tCB (rListS K) (tCons ta tNil)) es N := fun H0 F σ ts Hc Q S k =>
  h H0 F σ ts Hc _ S fun x d e1 H1 h1 S1 => by
    obtain ⟨ds, rfl, hn⟩ := h1
    obtain ⟨a, pa, rfl, ha, ea, S4⟩ := S1.list
    subst ea
    exact ⟨a, _, rfl, .inl (SqL.of ha), fun p hp => k p pa e1 H1 hn S4 hp⟩
theorem en_listRg {N : List PyData → List En → Prop} (h : Ev ta es fun d e1 => ∃ n : Int, d = .int n ∧ 0 ≤ n ∧ n ≤ 2 ^ 24 ∧ N (rangeD 0 n.toNat) e1) : EvN (tLstRg (tRg1 ta)) es N := fun H0 F σ ts Hc Q S k =>
  h H0 F σ ts Hc _ S fun x d e1 H1 h1 S1 => by
    obtain ⟨n, rfl, l1, l2, hn⟩ := h1
    cases S1.get_int
    refine ⟨n, rfl, ⟨by omega, by omega, by omega, by omega, by omega⟩, fun p hp => ?_⟩
    have e : rgV 0 n = ((List.range n.toNat).map fun i => (V.int (0 + (i : Nat)), PyData.int (0 + (i : Nat)))).map (·.1) := by
      unfold rgV; rw [List.map_map, Int.sub_zero]; rfl
    rw [e]
    refine k p _ e1 H1 ?_ ?_ hp
    · rw [List.map_map]; exact hn
    · obtain ⟨H, O, I⟩ := S1
      refine ⟨H, O, I.temps fun q hq => ?_⟩
      rcases List.mem_append.mp hq with hq | hq
      · obtain ⟨i, _, rfl⟩ := List.mem_map.mp hq
        exact .int _
      · exact I.tp q (by simp [hq])
theorem ev_cat' (h : Ev ta es fun d e1 => Ev tb e1 fun e e2 => ∃ xs ys, d = .list xs ∧ e = .list ys ∧ xs.length + ys.length ≤ sizeLine ∧ P (.list (xs ++ ys)) e2) : Ev (tOp rCat ta tb) es P := ev_ofN (en_cat h)
theorem ev_rep (h : Ev ta es fun d e1 => Ev tb e1 fun e e2 => ∃ x k, d = .list [x] ∧ e = .int k ∧ -(2 ^ 63) ≤ k ∧ k < 2 ^ 63 ∧ k.toNat ≤ sizeLine ∧ P (.list (List.replicate k.toNat x)) e2) : Ev (tOp rRep ta tb) es P := ev_ofN (en_rep h)
/-- xs[a:b] -/
def EvO (to : TO) (es : List En) (P : Option Int → List En → Prop) : Prop :=
  ∀ (H0 F : Hp) (σ : L2.St) (ts : Ts) (Hc : Hp) (Q : Option Int → Hp → Prop), Sta H0 F es σ ts Hc → (∀ o es' Hc', P o es' → Sta H0 F es' σ ts Hc' → Q o Hc') → to σ Hc Q
theorem eo_none {Po : Option Int → List En → Prop} (h : Po none es) : EvO tNoPart es Po := fun H0 F σ ts Hc Q S k => k _ _ _ h S
theorem eo_some {Po : Option Int → List En → Prop} (h : Ev ta es fun d e1 => ∃ i, d = .int i ∧ Po (some i) e1) : EvO (tPart ta) es Po := fun H0 F σ ts Hc Q S k =>
  h H0 F σ ts Hc _ S fun x d e1 H1 h1 S1 => by
    obtain ⟨i, rfl, hp⟩ := h1
    cases S1.get_int
    exact ⟨i, rfl, k _ _ _ hp S1.tail⟩
def cutD (xs : List PyData) (lo hi : Option Int) : List PyData := (xs.drop (HT.sIx xs.length 0 lo)).take (HT.sIx xs.length xs.length hi - HT.sIx xs.length 0 lo)
theorem cut_map (ps : Ts) (lo hi : Option Int) : cutV (ps.map (·.1)) lo hi = ((ps.drop (HT.sIx ps.length 0 lo)).take (HT.sIx ps.length ps.length hi - HT.sIx ps.length 0 lo)).map (·.1) ∧ cutD (ps.map (·.2)) lo hi = ((ps.drop (HT.sIx ps.length 0 lo)).take (HT.sIx ps.length ps.length hi - HT.sIx ps.length 0 lo)).map (·.2) := by
  unfold cutV cutD
  simp only [List.length_map, List.map_take, List.map_drop, and_self]
theorem ev_slice {tlo thi : TO} (h : Ev ta es fun d e1 => EvO tlo e1 fun lo e2 => EvO thi e2 fun hi e3 => ∃ xs, d = .list xs ∧ P (.list (cutD xs lo hi)) e3) : Ev (tSl (rSlL K) ta tlo thi) es P := fun H0 F σ ts Hc Q S k =>
  h H0 F σ ts Hc _ S fun x d e1 H1 h1 S1 => h1 H0 F σ _ H1 _ S1 fun lo e2 H2 h2 S2 => h2 H0 F σ _ H2 _ S2 fun hi e3 H3 h3 S3 => by
    obtain ⟨xs, rfl, hp⟩ := h3
    obtain ⟨a, pa, rfl, ha, ea, S4⟩ := S3.list
    subst ea
    obtain ⟨c1, c2⟩ := cut_map pa lo hi
    refine ⟨a, _, rfl, SqL.of ha, fun p hp' => ?_⟩
    rw [c1]
    rw [c2] at hp
    exact k _ _ _ _ hp (Sta.newL (S4.weak fun q hq => by
      simp only [List.mem_append] at hq ⊢
      rcases hq with hq | hq
      · exact .inl (List.mem_of_mem_drop (List.mem_of_mem_take hq))
      · exact .inr hq) hp')
end
end DL
end

section
set_option Elab.async false
set_option linter.all false
set_option autoImplicit false
set_option maxRecDepth 100000
/-! Dat5: built-ins, own lists changed, calls, a def's promise, at the level of data. -/
namespace DL
open PySem PySem.Spec PyProof.Rows L2

section
variable {K : PySem.W.Frag} {es : List En} {P : PyData → List En → Prop} {ta tb tc te : TE} {tl : TA} {tt : TT}
/-! ### built-ins -/
theorem ints_of {H0 F Hc : Hp} {σ : L2.St} {ts ps : Ts} {ns : List Int} (S : Sta H0 F es σ (ps ++ ts) Hc) (e : ps.map (·.2) = ns.map PyData.int) : ps.map (·.1) = ns.map V.int := by
  obtain ⟨H, O, I⟩ := S
  have := DdAll.of_pairs (H := H) ps fun q hq => I.tp q (by simp [hq])
  rw [e] at this
  exact this.ints
theorem bools_of {H0 F Hc : Hp} {σ : L2.St} {ts ps : Ts} {ns : List Bool} (S : Sta H0 F es σ (ps ++ ts) Hc) (e : ps.map (·.2) = ns.map PyData.bool) : ps.map (·.1) = ns.map V.bl := by
  obtain ⟨H, O, I⟩ := S
  have := DdAll.of_pairs (H := H) ps fun q hq => I.tp q (by simp [hq])
  rw [e] at this
  exact this.bools
def rLenS (K : PySem.W.Frag) : List V → Hp → VK → Prop := fun xs H Q => ∃ p ys, xs = [.ref p] ∧ (SqL K H p ys ∨ SqT K H p ys) ∧ Q (.int ys.length) H
theorem cr_lenS {X : Cx} : CallR X (.builtin "len") (rLenS X.K) := call_len_seq
theorem ev_len (h : Ev ta es fun d e1 => ∃ xs, d = .list xs ∧ P (.int (xs.length : Nat)) e1) : Ev (tCB (rLenS K) (tCons ta tNil)) es P := fun H0 F σ ts Hc Q S k =>
  h H0 F σ ts Hc _ S fun v d e1 H1 h1 S1 => by
    obtain ⟨xs, rfl, hp⟩ := h1
    obtain ⟨a, ps, rfl, ha, e0, S2⟩ := S1.list
    refine ⟨a, _, rfl, .inl (SqL.of ha), ?_⟩
    have : (ps.map (·.1)).length = xs.length := by rw [← e0]; simp
    rw [this]
    exact k _ _ _ _ hp (S1.tail.int _)
theorem ev_sum (h : Ev ta es fun d e1 => ∃ ns : List Int, d = .list (ns.map .int) ∧ P (.int ns.sum) e1) : Ev (tCB (rSum K) (tCons ta tNil)) es P := fun H0 F σ ts Hc Q S k =>
  h H0 F σ ts Hc _ S fun v d e1 H1 h1 S1 => by
    obtain ⟨ns, rfl, hp⟩ := h1
    obtain ⟨a, ps, rfl, ha, e0, S2⟩ := S1.list
    rw [ints_of S2 e0] at ha
    exact ⟨a, ns, rfl, SqL.of ha, k _ _ _ _ hp (S1.tail.int _)⟩
theorem ev_all (h : Ev ta es fun d e1 => ∃ bs : List Bool, d = .list (bs.map .bool) ∧ P (.bool (bs.all id)) e1) : Ev (tCB (rAll K) (tCons ta tNil)) es P := fun H0 F σ ts Hc Q S k =>
  h H0 F σ ts Hc _ S fun v d e1 H1 h1 S1 => by
    obtain ⟨ns, rfl, hp⟩ := h1
    obtain ⟨a, ps, rfl, ha, e0, S2⟩ := S1.list
    rw [bools_of S2 e0] at ha
    exact ⟨a, ns, rfl, SqL.of ha, k _ _ _ _ hp (S1.tail.bl _)⟩
theorem ev_sorted (h : Ev ta es fun d e1 => ∃ ns : List Int, d = .list (ns.map .int) ∧ ∀ ns' : List Int, ns'.Perm ns → ns'.Pairwise (· ≤ ·) → P (.list (ns'.map .int)) e1) : Ev (tCB (rSortedI K) (tCons ta tNil)) es P := fun H0 F σ ts Hc Q S k =>
  h H0 F σ ts Hc _ S fun v d e1 H1 h1 S1 => by
    obtain ⟨ns, rfl, hp⟩ := h1
    obtain ⟨a, ps, rfl, ha, e0, S2⟩ := S1.list
    rw [ints_of S2 e0] at ha
    exact ⟨a, ns, rfl, SqL.of ha, fun ns' p h1 h2 hn => k _ _ _ _ (hp ns' h1 h2) (S1.tail.newI hn)⟩
def rMax2 : List V → Hp → VK → Prop := fun xs H Q => ∃ i j, xs = [.int i, .int j] ∧ Q (.int (if j > i then j else i)) H
def rMin2 : List V → Hp → VK → Prop := fun xs H Q => ∃ i j, xs = [.int i, .int j] ∧ Q (.int (if j < i then j else i)) H
def rAbs : List V → Hp → VK → Prop := fun xs H Q => ∃ i, xs = [.int i] ∧ Q (.int (if i < 0 then -i else i)) H
def rInt1 : List V → Hp → VK → Prop := fun xs H Q => (∃ i, xs = [.int i] ∧ Q (.int i) H) ∨ ∃ k, xs = [.bl k] ∧ Q (.int (if k then 1 else 0)) H
theorem cr_max2 {X : Cx} (hc : X.calm = true) : CallR X (.builtin "max") rMax2 := call_max2 hc
theorem cr_min2 {X : Cx} (hc : X.calm = true) : CallR X (.builtin "min") rMin2 := call_min2 hc
theorem cr_abs {X : Cx} : CallR X (.builtin "abs") rAbs := call_abs
theorem cr_int1 {X : Cx} : CallR X (.type "int") rInt1 := call_int1
theorem ev_max (h : Ev ta es fun d e1 => Ev tb e1 fun e e2 => ∃ i j, d = .int i ∧ e = .int j ∧ P (.int (max i j)) e2) : Ev (tCB rMax2 (tCons ta (tCons tb tNil))) es P := fun H0 F σ ts Hc Q S k =>
  h H0 F σ ts Hc _ S fun x d e1 H1 h1 S1 => h1 H0 F σ _ H1 _ S1 fun y e e2 H2 h2 S2 => by
    obtain ⟨i, j, rfl, rfl, hp⟩ := h2
    obtain ⟨rfl, rfl, S3⟩ := two_int S2
    refine ⟨i, j, rfl, ?_⟩
    have e : (if j > i then j else i) = max i j := by split <;> omega
    rw [e]
    exact k _ _ _ _ hp (S3.int _)
theorem ev_min (h : Ev ta es fun d e1 => Ev tb e1 fun e e2 => ∃ i j, d = .int i ∧ e = .int j ∧ P (.int (min i j)) e2) : Ev (tCB rMin2 (tCons ta (tCons tb tNil))) es P := fun H0 F σ ts Hc Q S k =>
  h H0 F σ ts Hc _ S fun x d e1 H1 h1 S1 => h1 H0 F σ _ H1 _ S1 fun y e e2 H2 h2 S2 => by
    obtain ⟨i, j, rfl, rfl, hp⟩ := h2
    obtain ⟨rfl, rfl, S3⟩ := two_int S2
    refine ⟨i, j, rfl, ?_⟩
    have e : (if j < i then j else i) = min i j := by split <;> omega
    rw [e]
    exact k _ _ _ _ hp (S3.int _)
theorem ev_abs (h : Ev ta es fun d e1 => ∃ i : Int, d = .int i ∧ P (.int (i.natAbs : Nat)) e1) : Ev (tCB rAbs (tCons ta tNil)) es P := fun H0 F σ ts Hc Q S k =>
  h H0 F σ ts Hc _ S fun x d e1 H1 h1 S1 => by
    obtain ⟨i, rfl, hp⟩ := h1
    cases S1.get_int
    refine ⟨i, rfl, ?_⟩
    have e : (if i < 0 then -i else i) = (i.natAbs : Nat) := by split <;> omega
    rw [e]
    exact k _ _ _ _ hp (S1.tail.int _)
theorem ev_toInt (h : Ev ta es fun d e1 => ∃ i : Int, (d = .int i ∨ ∃ b : Bool, d = .bool b ∧ i = if b then 1 else 0) ∧ P (.int i) e1) : Ev (tCB rInt1 (tCons ta tNil)) es P := fun H0 F σ ts Hc Q S k =>
  h H0 F σ ts Hc _ S fun x d e1 H1 h1 S1 => by
    obtain ⟨i, hd, hp⟩ := h1
    rcases hd with rfl | ⟨b, rfl, rfl⟩
    · cases S1.get_int
      exact .inl ⟨i, rfl, k _ _ _ _ hp (S1.tail.int _)⟩
    · cases S1.get_bool
      exact .inr ⟨b, rfl, k _ _ _ _ hp (S1.tail.int _)⟩
/-- isinstance(x, T), T written -/
def isiB (d : PyData) (T : String) : Option Bool := match d with
  | .int _ => kitB "int" T
  | .bool _ => kitB "bool" T
  | .list _ => kitB "list" T
  | .tuple _ => kitB "tuple" T
  | _ => none
theorem ev_isi {T : String} (h : Ev ta es fun d e1 => ∃ b, isiB d T = some b ∧ P (.bool b) e1) : Ev (tCB (rIsi K) (tCons ta (tCons (tC (.ty T)) tNil))) es P := fun H0 F σ ts Hc Q S k =>
  h H0 F σ ts Hc _ S fun x d e1 H1 h1 S1 => by
    obtain ⟨b, hb, hp⟩ := h1
    have fin : ∀ t : String, kitB t T = some b → TyX K H1 x (.type t) → (rIsi K) [x, .ty T] H1 Q := fun t ht hx => ⟨x, .ty T, .type t, .type T, b, rfl, .ty T, hx, kit_ty ht, k _ _ _ _ hp (S1.tail.bl _)⟩
    cases d with
    | int i => cases S1.get_int; exact fin _ hb (.base (.int i))
    | bool i => cases S1.get_bool; exact fin _ hb (.base (.bl i))
    | list ds => obtain ⟨a, ps, rfl, ha, _⟩ := S1.list; exact fin _ hb (.base (.lst ha))
    | tuple ds => obtain ⟨a, ps, rfl, ha, _⟩ := S1.tuple; exact fin _ hb (.base (.tup ha))
    | none => cases hb
    | str _ => cases hb
    | dict _ => cases hb
/-- xs.count(i) -/
theorem ev_count (h : Ev ta es fun d e1 => ∃ ns : List Int, d = .list (ns.map .int) ∧ Ev tb e1 fun e e2 => ∃ i : Int, e = .int i ∧ P (.int (ns.count i : Nat)) e2) : Ev (tBM K "list" (rCntI K) ta (tCons tb tNil)) es P := fun H0 F σ ts Hc Q S k =>
  h H0 F σ ts Hc _ S fun x d e1 H1 h1 S1 => by
    obtain ⟨ns, rfl, h1⟩ := h1
    have hty : tyV K "list" x H1 := by
      obtain ⟨a, ps, rfl, ha, _⟩ := S1.list
      exact .inl ⟨rfl, _, SqL.of ha⟩
    refine ⟨hty, h1 H0 F σ _ H1 _ S1 fun y e e2 H2 h2 S2 => ?_⟩
    obtain ⟨i, rfl, hp⟩ := h2
    cases S2.get_int
    obtain ⟨a, ps, rfl, ha, e0, S3⟩ := S2.tail.list
    rw [ints_of S3 e0] at ha
    exact ⟨a, ns, i, rfl, rfl, SqL.of ha, k _ _ _ _ hp (S2.tail.tail.int _)⟩

/-! ### own lists -/
theorem pairs_atI {ps : Ts} {i : Int} {z : PyData} (h : atI (ps.map (·.2)) i = some z) : ∃ v, atI (ps.map (·.1)) i = some v ∧ (v, z) ∈ ps := atI_pairs h
theorem ev_ixO {i : Nat} {p : Addr} {ds0 : List PyData} (hi : es[i]? = some (.own p (.lst ds0))) (h : Ev tb es fun e e2 => ∃ (ds : List PyData) (n : Int) (z : PyData), e2[i]? = some (.own p (.lst ds)) ∧ e = .int n ∧ atI ds n = some z ∧ P z e2) :
    Ev (tOp (rIx K) (tVar i) tb) es P := fun H0 F σ ts Hc Q S k => by
  obtain ⟨_, hv, _, _, _⟩ := S.getOwn hi
  refine ⟨.ref p, hv, h H0 F σ ts Hc _ S fun y e e2 H2 h2 S2 => ?_⟩
  obtain ⟨ds, n, z, hi2, rfl, hz, hp⟩ := h2
  cases S2.get_int
  obtain ⟨ps, _, ha, e0, S3⟩ := S2.tail.getOwn hi2
  subst e0
  obtain ⟨v, hv2, hm⟩ := atI_pairs hz
  exact .inl ⟨p, _, n, v, rfl, rfl, SqL.of ha, hv2, k _ _ _ _ hp (S3.weak fun q hq => by
    rcases List.mem_cons.mp hq with rfl | hq
    · simp [hm]
    · simp [hq])⟩
theorem ev_lenO {i : Nat} {p : Addr} {ds : List PyData} (hi : es[i]? = some (.own p (.lst ds))) (h : P (.int (ds.length : Nat)) es) : Ev (tCB (rLenS K) (tCons (tVar i) tNil)) es P := fun H0 F σ ts Hc Q S k => by
  obtain ⟨ps, hv, ha, e0, _⟩ := S.getOwn hi
  refine ⟨.ref p, hv, p, _, rfl, .inl (SqL.of ha), ?_⟩
  have : (ps.map (·.1)).length = ds.length := by rw [← e0]; simp
  rw [this]
  exact k _ _ _ _ h (S.int _)
theorem ev_sumO {i : Nat} {p : Addr} {ns : List Int} (hi : es[i]? = some (.own p (.lst (ns.map .int)))) (h : P (.int ns.sum) es) : Ev (tCB (rSum K) (tCons (tVar i) tNil)) es P := fun H0 F σ ts Hc Q S k => by
  obtain ⟨ps, hv, ha, e0, S2⟩ := S.getOwn hi
  rw [ints_of S2 e0] at ha
  exact ⟨.ref p, hv, p, ns, rfl, SqL.of ha, k _ _ _ _ h (S.int _)⟩
/-- xs.pop(j) -/
theorem ev_popO {i : Nat} {p : Addr} {ds0 : List PyData} (hi : es[i]? = some (.own p (.lst ds0))) (h : Ev tb es fun e e2 => ∃ (ds : List PyData) (j : Nat) (z : PyData), e2[i]? = some (.own p (.lst ds)) ∧ e = .int (j : Int) ∧ ds.length < 2 ^ 62 ∧ ds[j]? = some z ∧ P z (e2.set i (.own p (.lst (ds.eraseIdx j))))) :
    Ev (tBM K "list" rPopAt (tVar i) (tCons tb tNil)) es P := fun H0 F σ ts Hc Q S k => by
  obtain ⟨ps0, hv, ha0, _, _⟩ := S.getOwn hi
  refine ⟨.ref p, hv, .inl ⟨rfl, _, SqL.of ha0⟩, h H0 F σ ts Hc _ S fun y e e2 H2 h2 S2 => ?_⟩
  obtain ⟨ds, j, z, hi2, rfl, hl, hz, hp⟩ := h2
  cases S2.get_int
  obtain ⟨ps, _, ha, e0, S3⟩ := S2.tail.getOwn hi2
  subst e0
  have hj : j < ps.length := by have := (List.getElem?_eq_some_iff.mp hz).1; simpa using this
  have hz2 : ps[j].2 = z := by
    rw [List.getElem?_map, List.getElem?_eq_getElem hj] at hz
    simpa using hz
  simp only [List.length_map] at hl
  refine ⟨p, _, (j : Int), j, ps[j].1, rfl, rfl, ha, by omega, by omega, ?_, by simp [hj], k _ _ _ _ hp ?_⟩
  · rw [PySem.seqIndex_of (by omega) (by simp; omega)]; simp
  · have S4 := S3.wrOwn (vs := (ps.map (·.1)).eraseIdx j) (ds := (ps.map (·.2)).eraseIdx j) hi2 fun H hq _ => (DdAll.of_pairs ps fun q hm => hq q (by simp [hm])).eraseIdx j
    refine S4.weak fun q hq => ?_
    rcases List.mem_cons.mp hq with rfl | hq
    · rw [← hz2]
      exact List.mem_append_left _ (List.getElem_mem hj)
    · simp [hq]
end
section
variable {K : PySem.W.Frag} {es : List En} {ta tb tc te : TE} {tl : TA} {tt : TT} {D : De} {t u : TS}
theorem wp_freeze {i : Nat} {p : Addr} {ds : List PyData} (hi : es[i]? = some (.own p (.lst ds))) (h : Wp t D (es.set i (.dat (.list ds)))) : Wp t D es := fun H0 F σ ts Hc Dr S k1 k2 k3 k4 => h H0 F σ ts Hc Dr (S.freeze hi) k1 k2 k3 k4
theorem ev_freeze {P : PyData → List En → Prop} {i : Nat} {p : Addr} {ds : List PyData} (hi : es[i]? = some (.own p (.lst ds))) (h : Ev te (es.set i (.dat (.list ds))) P) : Ev te es P := fun H0 F σ ts Hc Q S k => h H0 F σ ts Hc Q (S.freeze hi) k
/-- a new list kept as one's own -/
theorem wp_asgN {i : Nat} (h : EvN te es fun ds e1 => ∀ p, D.nx (e1.set i (.own p (.lst ds)))) : Wp (tAsg te (gName i)) D es := fun H0 F σ ts Hc Dr S k1 k2 k3 k4 =>
  h H0 F σ ts Hc _ S fun p ps e1 H1 h1 S1 hp => k1 _ _ _ (h1 p) ((S1.setOwn hp (vs := ps.map (·.1)) (ds := ps.map (·.2)) (fun H hq => DdAll.of_pairs ps fun q hm => hq q (by simp [hm])) i).weak (ts' := ts) fun q hq => by simp [hq])
/-- a, b = two new lists -/
theorem wp_parN {i j : Nat} (h : EvN ta es fun ds e1 => EvN tb e1 fun dt e2 => ∀ p q, D.nx ((e2.set i (.own p (.lst ds))).set j (.own q (.lst dt)))) : Wp (tPar i j (tCons ta (tCons tb tNil))) D es := fun H0 F σ ts Hc Dr S k1 k2 k3 k4 =>
  h H0 F σ ts Hc _ S fun p ps e1 H1 h1 S1 hp => by
    have hF : F p = none := by obtain ⟨H, O, I⟩ := S1; exact (I.free hp).2.2
    have S2 := S1.aside (o := .lst (ps.map (·.1))) hp
    refine h1 H0 _ σ _ _ _ S2 fun q qs e2 H2 h2 S3 hq => ⟨.ref p, .ref q, rfl, k1 _ _ _ (h2 p q) ?_⟩
    have S4 : Sta H0 (upd F p (.lst (ps.map (·.1)))) e2 σ (qs ++ (ps ++ ts)) H2 := S3
    have S5 := S4.inO hF (ds := ps.map (·.2)) (fun H hh => DdAll.of_pairs ps fun z hm => hh z (by simp [hm])) i
    exact (S5.setOwn hq (vs := qs.map (·.1)) (ds := qs.map (·.2)) (fun H hh => DdAll.of_pairs qs fun z hm => hh z (by simp [hm])) j).weak (ts' := ts) fun z hz => by simp [hz]
/-- xs.append(e) -/
theorem wp_append {i : Nat} {p : Addr} {ds0 : List PyData} (hi : es[i]? = some (.own p (.lst ds0))) (h : Ev te es fun d e1 => ∃ ds, e1[i]? = some (.own p (.lst ds)) ∧ ds.length < sizeLine ∧ D.nx (e1.set i (.own p (.lst (ds ++ [d]))))) :
    Wp (tDrop (tBM K "list" rAppend (tVar i) (tCons te tNil))) D es := fun H0 F σ ts Hc Dr S k1 k2 k3 k4 => by
  obtain ⟨ps0, hv, ha0, _, _⟩ := S.getOwn hi
  refine ⟨.ref p, hv, .inl ⟨rfl, _, SqL.of ha0⟩, h H0 F σ ts Hc _ S fun y d e1 H1 h1 S1 => ?_⟩
  obtain ⟨ds, hi2, hl, hp⟩ := h1
  obtain ⟨ps, _, ha, e0, S3⟩ := S1.getOwn hi2
  subst e0
  refine ⟨p, _, y, rfl, rfl, ha, by simpa using hl, k1 _ _ _ hp ?_⟩
  exact (S3.wrOwn (vs := ps.map (·.1) ++ [y]) (ds := ps.map (·.2) ++ [d]) hi2 fun H hq _ => (DdAll.of_pairs ps fun q hm => hq q (by simp [hm])).append (.cons (hq (y, d) (by simp)) .nil)).weak (ts' := ts) fun q hq => by simp [hq]
/-- xs[j] = e -/
theorem wp_setO {i : Nat} {p : Addr} (h : Ev te es fun d e1 => ∃ ds0, e1[i]? = some (.own p (.lst ds0)) ∧ Ev tb e1 fun e e2 => ∃ (ds : List PyData) (n : Int) (j : Nat), e2[i]? = some (.own p (.lst ds)) ∧ e = .int n ∧ ixN ds.length n = some j ∧ D.nx (e2.set i (.own p (.lst (ds.set j d))))) :
    Wp (tAsg te (gSub (tVar i) tb rSetL)) D es := fun H0 F σ ts Hc Dr S k1 k2 k3 k4 =>
  h H0 F σ ts Hc _ S fun y d e1 H1 h1 S1 => by
    obtain ⟨ds0, hi, h1⟩ := h1
    obtain ⟨ps0, hv, ha0, _, _⟩ := S1.getOwn hi
    refine ⟨.ref p, hv, h1 H0 F σ _ H1 _ S1 fun z e e2 H2 h2 S2 => ?_⟩
    obtain ⟨ds, n, j, hi2, rfl, hj, hp⟩ := h2
    cases S2.get_int
    obtain ⟨ps, _, ha, e0, S3⟩ := S2.getOwn hi2
    subst e0
    refine ⟨p, _, n, j, rfl, rfl, ha, by simpa using hj, k1 _ _ _ hp ?_⟩
    exact (S3.wrOwn (vs := (ps.map (·.1)).set j y) (ds := (ps.map (·.2)).set j d) hi2 fun H hq _ => DdAll.set (hq (y, d) (by simp)) j (DdAll.of_pairs ps fun q hm => hq q (by simp [hm]))).weak (ts' := ts) fun q hq => by simp [hq]
/-- a list's item, by values -/
theorem get_list {X : Cx} : PGet X (rIxL X.K) := by
  intro pins s σ H o i ov iv Q I ro ri h
  obtain ⟨p, xs, n, z, rfl, rfl, hq, he, q⟩ := h
  cases ro
  obtain ⟨t, rfl⟩ := ri
  obtain ⟨its, r, pl, hz⟩ := I.list hq
  obtain ⟨j, h1, h2, h3, h4, h5⟩ := atI_get he
  obtain ⟨w, ew, rw'⟩ := r.get h2
  have hl := r.length
  have hs := sizeLine_eq
  by_cases h0 : 0 ≤ n
  · have hj : n.toNat = j := by
      rw [PySem.seqIndex_of h0 h5] at h1
      exact Option.some.inj h1
    exact wpAny_getItem_list pl.isList h0 (by omega) (by rw [hj]; simpa using ew) ⟨z, H, I, rw', q⟩
  · have hj : (n + (its.toArray.size : Int)).toNat = j := by
      rw [PySem.seqIndex_neg (by omega) h4] at h1
      rw [List.size_toArray, ← hl]
      exact Option.some.inj h1
    exact wpAny_getItem_list_neg pl.isList (by omega) (by rw [List.size_toArray, ← hl]; exact h4) (by omega) (by rw [hj]; simpa using ew) ⟨z, H, I, rw', q⟩
/-- xs[j] += e -/
theorem wp_augSO {i : Nat} {p : Addr} {ds0 : List PyData} (hi : es[i]? = some (.own p (.lst ds0))) (h : Ev tb es fun e e1 => ∃ (ds1 : List PyData) (n : Int) (a : Int), e1[i]? = some (.own p (.lst ds1)) ∧ e = .int n ∧ atI ds1 n = some (.int a) ∧
      Ev te e1 fun z e2 => ∃ (ds : List PyData) (b : Int) (j : Nat), e2[i]? = some (.own p (.lst ds)) ∧ z = .int b ∧ ixN ds.length n = some j ∧ D.nx (e2.set i (.own p (.lst (ds.set j (.int (a + b))))))) :
    Wp (tAugS (tVar i) tb te (rIxL K) (ipI fun i j => i + j) rSetL) D es := fun H0 F σ ts Hc Dr S k1 k2 k3 k4 => by
  obtain ⟨ps0, hv, ha0, _, _⟩ := S.getOwn hi
  refine ⟨.ref p, hv, h H0 F σ ts Hc _ S fun y e e1 H1 h1 S1 => ?_⟩
  obtain ⟨ds1, n, a, hi1, rfl, hat, h1⟩ := h1
  cases S1.get_int
  obtain ⟨ps1, _, ha1, e1', S1'⟩ := S1.tail.getOwn hi1
  subst e1'
  obtain ⟨v, hv2, hm⟩ := atI_pairs hat
  have hva : v = .int a := by
    obtain ⟨H, O, I⟩ := S1'
    exact (I.tp (v, .int a) (by simp [hm])).int_inv
  subst hva
  refine ⟨p, _, n, .int a, rfl, rfl, SqL.of ha1, hv2, h1 H0 F σ ts H1 _ S1.tail fun z d e2 H2 h2 S2 => ?_⟩
  obtain ⟨ds, b, j, hi2, rfl, hj, hp⟩ := h2
  cases S2.get_int
  obtain ⟨ps, _, ha, e0, S3⟩ := S2.tail.getOwn hi2
  subst e0
  refine ⟨a, b, rfl, rfl, p, _, n, j, rfl, rfl, ha, by simpa using hj, k1 _ _ _ hp ?_⟩
  exact (S3.wrOwn (vs := (ps.map (·.1)).set j (.int (a + b))) (ds := (ps.map (·.2)).set j (.int (a + b))) hi2 fun H hq _ => DdAll.set (.int _) j (DdAll.of_pairs ps fun q hm => hq q (by simp [hm]))).weak (ts' := ts) fun q hq => by simp [hq]
end

/-! ### calls, promises -/
abbrev SpecD := List PyData → (PyData → Prop) → Prop
def spP (S : SpecD) : Sp := fun vs Hc Q _ => ∃ (H F : Hp) (ds : List PyData) (P0 : PyData → Prop), Hc = jn H F ∧ Dj H F ∧ DdAll H vs ds ∧ S ds P0 ∧ ∀ d v H2, P0 d → Ex H H2 → Dj H2 F → Dd H2 v d → Q v (jn H2 F)
/-- .. of a def whose first argument is an own list -/
abbrev SpecS := List PyData → List PyData → (PyData → List PyData → Prop) → Prop
def spS (S : SpecS) : Sp := fun vs Hc Q _ => ∃ (H F : Hp) (p : Addr) (ws : List V) (os : List PyData) (vs' : List V) (ds : List PyData) (P0 : PyData → List PyData → Prop), vs = .ref p :: vs' ∧ Hc = jn H F ∧ Dj H F ∧ F p = some (.lst ws) ∧ DdAll H ws os ∧ DdAll H vs' ds ∧ S os ds P0 ∧
  ∀ d os' v ws' H2, P0 d os' → Ex H H2 → Dj H2 F → Dd H2 v d → DdAll H2 ws' os' → Q v (jn H2 (upd F p (.lst ws')))
section
variable {K : PySem.W.Frag} {es : List En} {P : PyData → List En → Prop} {tl : TA}
theorem StaI.shrink {H0 F Hc H O : Hp} {σ : L2.St} {ts : Ts} (I : StaI H0 F es σ ts Hc H O) {H2 : Hp} (ex : Ex H H2) (dj : Dj H2 (jn O F)) : StaI H0 F es σ ts (jn H2 (jn O F)) H2 O := by
  refine ⟨rfl, fun a => ?_, fun a => ?_, I.of, I.ext.trans ex, I.len, fun i e he => (I.sl i e he).mono ex, I.ap, fun q hq => (I.tp q hq).mono ex⟩
  · rcases dj a with z | z
    · exact .inl z
    · exact .inr (jn_none z).1
  · rcases dj a with z | z
    · exact .inl z
    · exact .inr (jn_none z).2
theorem StaI.djJ {H0 F Hc H O : Hp} {σ : L2.St} {ts : Ts} (I : StaI H0 F es σ ts Hc H O) : Dj H (jn O F) := fun a => by
  rcases I.ho a with z | z
  · exact .inl z
  · rcases I.hf a with y | y
    · exact .inl y
    · exact .inr (jn_of_none z y)
theorem ev_call {S : SpecD} {E : XK} (h : Evs tl es fun ds e1 => S ds fun d => P d e1) : Ev (tCall (spP S) [] E tl) es P := fun H0 F σ ts Hc Q S0 k =>
  h H0 F σ ts Hc _ S0 fun ps e1 H1 h1 ⟨H, O, I⟩ => by
    rw [List.append_nil]
    refine ⟨H, jn O F, ps.map (·.2), _, I.hc, I.djJ, DdAll.of_pairs ps fun q hq => I.tp q (by simp [hq]), h1, fun d v H2 hp ex dj hd => k v d e1 _ hp ⟨H2, O, ?_⟩⟩
    have J := I.shrink ex dj
    exact J.temps fun q hq => by
      rcases List.mem_cons.mp hq with rfl | hq
      · exact hd
      · exact J.tp q (by simp [hq])
theorem ev_callS {S : SpecS} {E : XK} {i : Nat} {p : Addr} {os0 : List PyData} (hi : es[i]? = some (.own p (.lst os0))) (h : Evs tl es fun ds e1 => ∃ os, e1[i]? = some (.own p (.lst os)) ∧ S os ds fun d os' => P d (e1.set i (.own p (.lst os')))) : Ev (tCall (spS S) [] E (tCons (tVar i) tl)) es P := fun H0 F σ ts Hc Q S0 k => by
  obtain ⟨ps0, hv, ha0, _, _⟩ := S0.getOwn hi
  refine ⟨.ref p, hv, h H0 F σ ts Hc _ S0 fun ps e1 H1 h1 S1 => ?_⟩
  obtain ⟨os, hi1, h1⟩ := h1
  rw [List.append_nil]
  obtain ⟨H, O, I⟩ := S1
  obtain ⟨hs, o, ho, hok⟩ := I.sl i _ hi1
  cases o <;> first | exact False.elim hok | skip
  rename_i ws
  refine ⟨H, jn O F, p, ws, os, ps.map (·.1), ps.map (·.2), _, rfl, I.hc, I.djJ, jn_l ho, hok, DdAll.of_pairs ps fun q hq => I.tp q (by simp [hq]), h1, fun d os' v ws' H2 hp ex dj hd hw => k v d _ _ hp ?_⟩
  obtain ⟨qs, eq1, eq2, hq⟩ := hw.pairs
  have J := I.shrink ex dj
  have hn : H2 p = none := dj.no (jn_l ho)
  have S2 : Sta H0 F e1 σ ((v, d) :: (qs ++ ts)) (jn H2 (jn O F)) := ⟨H2, O, J.temps fun q hm => by
    rcases List.mem_cons.mp hm with rfl | hm
    · exact hd
    · rcases List.mem_append.mp hm with hm | hm
      · exact hq q hm
      · exact J.tp q (by simp [hm])⟩
  have S3 := S2.wrOwn (vs := ws') (ds := os') hi1 fun H hh _ => by
    have := DdAll.of_pairs (H := H) qs fun q hm => hh q (by simp [hm])
    rwa [eq1, eq2] at this
  rw [upd_jn_r hn] at S3
  exact S3.weak fun q hm => by
    rcases List.mem_cons.mp hm with rfl | hm
    · simp
    · simp [hm]
end
def envOf (N : List Str) (ds : List PyData) : List En := ds.map .dat ++ List.replicate (N.length - ds.length) .no
def retD (P0 : PyData → Prop) : De := { nx := fun _ => P0 .none, rt := fun d _ => P0 d }
theorem slot_start {H : Hp} {vs : List V} {ds : List PyData} (h : DdAll H vs ds) (n : Nat) (O : Hp) : ∀ (i : Nat) (e : En), (ds.map En.dat ++ List.replicate n .no)[i]? = some e → SlotOk H O (vs.map some ++ List.replicate n none) i e := fun i e he => by
  by_cases hi : i < ds.length
  · rw [List.getElem?_append_left (by simpa using hi), List.getElem?_map, List.getElem?_eq_getElem hi] at he
    cases he
    obtain ⟨v, a, b⟩ := h.get (List.getElem?_eq_getElem hi)
    refine ⟨v, ?_, b⟩
    rw [List.getElem?_append_left (by rw [List.length_map, h.length]; exact hi), List.getElem?_map, a]; rfl
  · rw [List.getElem?_append_right (by simp; omega)] at he
    obtain ⟨h1, h2⟩ := List.getElem?_eq_some_iff.mp he
    rw [List.getElem_replicate] at h2
    subst h2
    trivial
theorem noown_start {ds : List PyData} {n : Nat} {i : Nat} {p : Addr} {c : Own} (h : (ds.map En.dat ++ List.replicate n .no)[i]? = some (.own p c)) : False := by
  by_cases hi : i < ds.length
  · rw [List.getElem?_append_left (by simpa using hi), List.getElem?_map, List.getElem?_eq_getElem hi] at h
    cases h
  · rw [List.getElem?_append_right (by simp; omega)] at h
    obtain ⟨h1, h2⟩ := List.getElem?_eq_some_iff.mp h
    rw [List.getElem_replicate] at h2
    cases h2
/-- a def's reading from its body at the level of data -/
theorem rd_wp {S : SpecD} {t : TS} {N : List Str} (h : ∀ ds P0, S ds P0 → Wp t (retD P0) (envOf N ds)) (vs : List V) (H : Hp) (Q : VK) (E : XK) (hs : spP S vs H Q E) : t { nx := fun _ H' => Q .non H', rt := Q } (L2.start N vs) H := by
  obtain ⟨H1, F, ds, P0, rfl, dj, hd, hS, hQ⟩ := hs
  have hl := hd.length
  have S0 : Sta H1 F (envOf N ds) (L2.start N vs) [] (jn H1 F) := by
    refine ⟨H1, fun _ => none, ?_, fun a => .inr rfl, dj, fun a => .inl rfl, Ex.refl _, ?_, ?_, fun i j p c c' a _ => (noown_start a).elim, fun q hq => by simp at hq⟩
    · funext a
      cases q : H1 a with
      | some o => rw [jn_l q, jn_l q]
      | none => rw [jn_r q, jn_r q]; rfl
    · unfold envOf L2.start; simp [hl]
    · unfold envOf L2.start
      rw [hl]
      exact slot_start hd _ _
  have fin : ∀ (v : V) (d : PyData) (σ' : L2.St) (es' : List En) (Hc' : Hp), P0 d → Sta H1 F es' σ' [(v, d)] Hc' → Q v Hc' := fun v d σ' es' Hc' hp ⟨H2, O, I⟩ => by
    have e : Hc' = jn (jn H2 O) F := by
      rw [I.hc]
      funext a
      cases q : H2 a with
      | some o => rw [jn_l q, jn_l (jn_l q)]
      | none =>
        rw [jn_r q]
        cases r : O a with
        | some o => rw [jn_l r, jn_l ((jn_r q).trans r)]
        | none => rw [jn_r r, jn_r ((jn_r q).trans r)]
    rw [e]
    refine hQ d v _ hp (I.ext.trans Ex.jn) (fun a => ?_) ((I.tp (v, d) (by simp)).mono Ex.jn)
    rcases I.hf a with z | z
    · rcases I.of a with y | y
      · exact .inl (jn_of_none z y)
      · exact .inr y
    · exact .inr z
  exact h ds P0 hS H1 F _ [] _ _ S0 (fun σ' es' Hc' hp S' => fin .non .none σ' es' Hc' hp S'.non) (fun v d σ' es' Hc' hp S' => fin v d σ' es' Hc' hp S') (fun _ _ _ z _ => z.elim) (fun _ _ _ z _ => z.elim)
def envS (N : List Str) (p : Addr) (os ds : List PyData) : List En := .own p (.lst os) :: (ds.map .dat ++ List.replicate (N.length - (ds.length + 1)) .no)
def retS (p : Addr) (P0 : PyData → List PyData → Prop) : De := { nx := fun e => ∃ os', e[0]? = some (.own p (.lst os')) ∧ P0 .none os', rt := fun d e => ∃ os', e[0]? = some (.own p (.lst os')) ∧ P0 d os' }
theorem rd_wpS {S : SpecS} {t : TS} {N : List Str} (h : ∀ p os ds P0, S os ds P0 → Wp t (retS p P0) (envS N p os ds)) (vs : List V) (H : Hp) (Q : VK) (E : XK) (hs : spS S vs H Q E) : t { nx := fun _ H' => Q .non H', rt := Q } (L2.start N vs) H := by
  obtain ⟨H1, F, p, ws, os, vs', ds, P0, rfl, rfl, dj, hF, hw, hd, hS, hQ⟩ := hs
  have hl := hd.length
  let F' : Hp := fun b => if b = p then none else F b
  let O0 : Hp := fun b => if b = p then some (.lst ws) else none
  have hF' : ∀ b, b ≠ p → F' b = F b := fun b hb => if_neg hb
  have hFp : F' p = none := if_pos rfl
  have hO0 : ∀ b, b ≠ p → O0 b = none := fun b hb => if_neg hb
  have hOp : O0 p = some (.lst ws) := if_pos rfl
  have hp1 : H1 p = none := dj.no hF
  have S0 : Sta H1 F' (envS N p os ds) (L2.start N (.ref p :: vs')) [] (jn H1 F) := by
    refine ⟨H1, O0, ?_, fun a => ?_, fun a => ?_, fun a => ?_, Ex.refl _, ?_, fun i e he => ?_, fun i j q c c' a b => ?_, fun q hq => by simp at hq⟩
    · funext a
      cases q : H1 a with
      | some o => rw [jn_l q, jn_l q]
      | none =>
        rw [jn_r q, jn_r q]
        by_cases ha : a = p
        · subst ha; rw [jn_l hOp, hF]
        · rw [jn_r (hO0 a ha), hF' a ha]
    · by_cases ha : a = p
      · subst ha; exact .inl hp1
      · exact .inr (hO0 a ha)
    · by_cases ha : a = p
      · subst ha; exact .inl hp1
      · rw [hF' a ha]; exact dj a
    · by_cases ha : a = p
      · subst ha; exact .inr hFp
      · exact .inl (hO0 a ha)
    · unfold envS L2.start; simp [hl]
    · cases i with
      | zero =>
        simp only [envS, List.getElem?_cons_zero, Option.some.injEq] at he
        subst he
        exact ⟨rfl, _, hOp, hw⟩
      | succ i =>
        have he' : (ds.map En.dat ++ List.replicate (N.length - (ds.length + 1)) .no)[i]? = some e := he
        have := slot_start hd _ O0 i e he'
        unfold L2.start
        rw [List.length_cons, hl]
        cases e with
        | no => trivial
        | dat d => exact this
        | own q c => exact this
        | raw v => exact this
    · cases i with
      | succ i => exact (noown_start (show (ds.map En.dat ++ List.replicate _ .no)[i]? = _ from a)).elim
      | zero =>
        cases j with
        | zero => rfl
        | succ j => exact (noown_start (show (ds.map En.dat ++ List.replicate _ .no)[j]? = _ from b)).elim
  have fin : ∀ (v : V) (d : PyData) (σ' : L2.St) (es' : List En) (Hc' : Hp), (∃ os', es'[0]? = some (.own p (.lst os')) ∧ P0 d os') → Sta H1 F' es' σ' [(v, d)] Hc' → Q v Hc' := by
    rintro v d σ' es' Hc' ⟨os', h0, hp⟩ ⟨H2, O, I⟩
    obtain ⟨hs, o, ho, hok⟩ := I.sl 0 _ h0
    cases o <;> first | exact False.elim hok | skip
    rename_i ws'
    have h2 : H2 p = none := I.ho.no ho
    let O' : Hp := fun b => if b = p then none else O b
    have hO' : ∀ b, b ≠ p → O' b = O b := fun b hb => if_neg hb
    have hO'p : O' p = none := if_pos rfl
    have e : Hc' = jn (jn H2 O') (upd F p (.lst ws')) := by
      rw [I.hc]
      funext a
      cases q : H2 a with
      | some o => rw [jn_l q, jn_l (jn_l q)]
      | none =>
        rw [jn_r q]
        by_cases ha : a = p
        · subst ha
          rw [jn_l ho, jn_r (jn_of_none q hO'p), upd_same]
        · cases r : O a with
          | some o => rw [jn_l r, jn_l ((jn_r q).trans ((hO' a ha).trans r))]
          | none => rw [jn_r r, jn_r ((jn_r q).trans ((hO' a ha).trans r)), hF' a ha, upd_ne ha]
    rw [e]
    refine hQ d os' v ws' _ hp (I.ext.trans Ex.jn) (fun a => ?_) ((I.tp (v, d) (by simp)).mono Ex.jn) (DdAll.mono Ex.jn hok)
    by_cases ha : a = p
    · subst ha; exact .inl (jn_of_none h2 hO'p)
    · rcases I.hf a with z | z
      · rcases I.of a with y | y
        · exact .inl (jn_of_none z ((hO' a ha).trans y))
        · exact .inr ((hF' a ha).symm.trans y)
      · exact .inr ((hF' a ha).symm.trans z)
  exact h p os ds P0 hS H1 F' _ [] _ _ S0 (fun σ' es' Hc' hp S' => fin .non .none σ' es' Hc' hp S'.non) (fun v d σ' es' Hc' hp S' => fin v d σ' es' Hc' hp S') (fun _ _ _ z _ => z.elim) (fun _ _ _ z _ => z.elim)
end DL
end

section
set_option Elab.async false
set_option linter.all false
set_option autoImplicit false
set_option maxRecDepth 100000
/-! Dat6: set(list of ints), sorted of it, products stored in place, a dict of one's own, at the level of data. -/
namespace DL
open PySem PySem.Spec PyProof.Rows L2

/-! ### set(xs), xs a list of whole numbers -/
section
variable {Pr : Program} {wd : World} {Ar : Around} {Er : Value → Shared → Prop} {sh : Shared}
/-- the set as it is made, empty -/
abbrev set0 (wd : World) : Obj := { cls := .type "set", dict := none, data := .set #[] 0 (.fresh 0 0 (!wd.params.followText "set-order")) }
set_option maxHeartbeats 4000000 in
theorem call_setL {lx : Addr} {its : Array Value} (js : List Int) {Qr : Value → Shared → Prop} (hn : Ar.handled = none) (hlx : sh.heap.IsList lx its) (hj : IntsAre its.toList js) (hsz : js.length + 1 < scanBound)
    (fin : ∀ (g : Heap) (tk c : Nat), SetR wd g sh.heap.objs.size (fun j => decide (j ∈ js)) c → c ≤ js.length → (∀ b o, sh.heap.get? b = some o → g.get? b = some o) → Qr (.ref sh.heap.objs.size) { sh with heap := g, toks := tk }) :
    wpAny (model Pr wd) Ar (call (.type "set") [.ref lx]) Qr Er sh := by
  have len : its.size = js.length := by
    have := IntsAre.length hj
    simpa using this
  obtain ⟨c0, r0, mro⟩ := F.called_set.mro
  have x1 := F.called_set.made
  have x2 := F.called_set.sub
  refine wpAny_call (codeAny_of_tree ?_)
  show wpAny _ _ (callAny (.type "set") _) _ _ _
  refine wpAny_pure ⟨Code.quiet_builtin _ (by decide +kernel), codeAny_builtin F.entry_type_call ?_⟩
  rw [Around.under_plain (weight_type_call_type "set" [.ref lx] []) rfl]
  have x3 := F.called_set.notType
  have x4 := F.called_set.canCreate
  have x5 := F.typeCall_set_1 (.ref lx)
  repeat (any_goals (first | assumption | wp_step))
  refine codeAny_mono (code_set_led1 (.ref lx) (E := Er) (Q₁ := fun v z => v = .ref sh.heap.objs.size ∧ z = { sh with heap := sh.heap.push (set0 wd) }) ⟨rfl, rfl⟩) fun r z hr => ?_
  cases r with
  | error e => exact hr
  | ok fl =>
    cases fl with
    | ret v =>
      obtain ⟨rfl, rfl⟩ := hr
      have at0 : (sh.heap.push (set0 wd)).get? sh.heap.objs.size = some (set0 wd) := Heap.get?_push_size _ rfl
      have ty0 : Shared.TypeIs { sh with heap := sh.heap.push (set0 wd) } (.ref sh.heap.objs.size) "set" := ⟨_, at0, rfl⟩
      have y1 := F.called_set.init.lookup
      have y2 := F.called_set.init.bind (.ref sh.heap.objs.size)
      repeat (any_goals (first | assumption | wp_step))
      refine codeAny_mono (codeAny_call_builtin (R := wants (fun u q => u = .none ∧ ∃ g tk c, q = { sh with heap := g, toks := tk } ∧ SetR wd g sh.heap.objs.size (fun j => decide (j ∈ js)) c ∧ c ≤ js.length ∧ (∀ b o, sh.heap.get? b = some o → g.get? b = some o)) Er)
        F.called_set.init.plain F.entry_set_init (check_set_init_1 ty0 ?_)) fun u q hu => ?_
      · obtain ⟨ox, hox, cx, nx, dx⟩ := hlx
        obtain ⟨cls1, dict1, data1, slots1⟩ := ox
        simp only at cx dx
        subst cx; subst dx
        have hox1 : (sh.heap.push (set0 wd)).get? lx = some { cls := .type "list", dict := dict1, data := .seq its nx, slots := slots1 } := Heap.get?_push_of_some _ hox
        have z1 := F.sub_list_set
        have z2 := F.sub_list_frozenset
        have z3 : (Value.type "list" == Value.type "dict") = false := by decide
        have isl : (sh.heap.push (set0 wd)).IsList lx its := ⟨_, hox1, rfl, nx, rfl⟩
        unfold Builtin.«set.__init__» noKeywords Builtin.Frozenset.updateFrom
        generalize hwalk : pyIter = walk
        wp_walk
        subst hwalk
        refine wpAny_pyIter_list isl ?_
        refine wpAny_bind (wpAny_runValue ?_)
        have lt : lx < sh.heap.objs.size := Heap.lt_size hox
        have hn3 : Ar.in1.in1.in1.handled = none := by simp [hn]
        have sz1 : (sh.heap.push (set0 wd)).objs.size = sh.heap.objs.size + 1 := Heap.size_push ..
        have ne1 : lx ≠ (sh.heap.push (set0 wd)).objs.size := by rw [sz1]; exact Nat.ne_of_lt (Nat.lt_succ_of_lt lt)
        have nin : sh.heap.objs.size ∉ [(sh.heap.push (set0 wd)).objs.size, lx] := by
          rw [sz1]
          intro hm
          rcases List.mem_cons.mp hm with e | e
          · exact absurd e (Nat.ne_of_lt (Nat.lt_succ_self _))
          · exact absurd (List.mem_singleton.mp e) (Nat.ne_of_gt lt)
        have vals : ∀ (i : Nat) (v : Value), its[i]? = some v → ∃ k t, js[i]? = some k ∧ v = .int k t := fun i v hv => by
          have hi : i < js.length := by rw [← len]; exact (Array.getElem?_eq_some_iff.mp hv).1
          obtain ⟨t, e⟩ := PyProof.Rows.IntsAre.int_at hj i v (by rw [Array.getElem?_toList]; exact hv)
          exact ⟨js[i], t, List.getElem?_eq_getElem hi, by rw [e, List.getD_eq_getElem?_getD, List.getElem?_eq_getElem hi]; rfl⟩
        refine set_update_ints ((Walks.list hn3 _ lx ne1 its).toS) sh.heap.objs.size nin js len hsz vals (its.size - 0) 0 _ (by omega) (Nat.zero_le _) ⟨⟨_, Heap.get?_push_size _ rfl, rfl, rfl⟩, (isl.push _)⟩ ?begin ?behind
        case begin =>
          exact ⟨0, Nat.le_refl 0, setR_new_at (Heap.get?_push_of_some _ at0)⟩
        case behind =>
          rintro ⟨g, g2, d2, tk, os2⟩ c hm hc hS
          have e1 : g2 = sh.gens := hm.gens
          have e2 : d2 = sh.drawn := hm.drawn
          have e3 : os2 = sh.os := hm.os
          subst e1 e2 e3
          show wpAny _ _ _ _ _ _
          refine wpAny_pure ?_
          show wpAny _ _ (ret Value.none) _ _ _
          rw [len] at hc
          refine wpAny_pure ⟨rfl, g, tk, c, rfl, hS, hc, fun b o e => ?_⟩
          have b0 : b < sh.heap.objs.size := Heap.lt_size e
          refine hm.heap b o (fun hb => ?_) (Heap.get?_push_of_some _ (Heap.get?_push_of_some _ e))
          rcases List.mem_cons.mp hb with q | q
          · exact absurd q (Nat.ne_of_lt b0)
          · have := List.mem_singleton.mp q
            rw [sz1] at this
            exact absurd this (Nat.ne_of_lt (Nat.lt_succ_of_lt b0))
      · cases u with
        | error e => exact hu
        | ok fl2 =>
          cases fl2 with
          | ret r =>
            obtain ⟨rfl, g, tk, c, rfl, hS, hc, hk⟩ := hu
            repeat (any_goals (first | assumption | wp_step))
            exact fin _ _ _ hS hc hk
          | _ => exact hu.elim
    | _ => exact hr.elim
end
def rSetL1 (K : PySem.W.Frag) (w : World) : List V → Hp → VK → Prop := fun xs H Q => ∃ (l : Addr) (ns : List Int), xs = [V.ref l] ∧ SqL K H l (ns.map V.int) ∧ ns.length < 63 ∧ ∀ p c, H p = none → c ≤ ns.length → Q (.ref p) (upd H p (SetO w p (fun j => decide (j ∈ ns)) c))
theorem ints_vals : ∀ {ns : List Int} {us : List Value}, Vals (ns.map V.int) us → IntsAre us ns
  | [], _, .nil => .nil
  | n :: ns, _, .cons r t => by
    obtain ⟨k, rfl⟩ := r
    exact .cons n k (ints_vals t)
theorem cr_setL {X : Cx} (hc : X.calm = true) : CallR X (.type "set") (rSetL1 X.K X.w) := by
  intro pins s σ H xs us Q I r h
  obtain ⟨l, ns, rfl, hq, hl, q⟩ := h
  cases r with
  | cons r1 rr =>
    cases rr
    cases r1
    obtain ⟨its, rv, pl, hz⟩ := I.list hq
    refine call_setL ns (I.ok.hd hc) pl.isList (by simpa using ints_vals rv) (by unfold scanBound; omega) fun g tk c hS hcn hk => ?_
    exact ⟨.ref _, _, I.laid (t' := tk) hk (Nat.le_refl _) (setO_new hS), rfl, q _ c (I.hok.fresh (Nat.le_refl _)) hcn⟩
section
variable {K : PySem.W.Frag} {w : World} {es : List En} {P : PyData → List En → Prop} {ta tb tc te : TE} {tl : TA} {tt : TT}
/-- sorted(set(xs)) -/
theorem ev_sortedSet (h : Ev ta es fun d e1 => ∃ ns : List Int, d = .list (ns.map .int) ∧ ns.length < 63 ∧ ∀ ns' : List Int, ns'.Pairwise (· < ·) → (∀ k, k ∈ ns' ↔ k ∈ ns) → P (.list (ns'.map .int)) e1) :
    Ev (tCB (rSortedSet w) (tCons (tCB (rSetL1 K w) (tCons ta tNil)) tNil)) es P := fun H0 F σ ts Hc Q S k =>
  h H0 F σ ts Hc _ S fun v d e1 H1 h1 S1 => by
    obtain ⟨ns, rfl, hl, hp⟩ := h1
    obtain ⟨a, ps, rfl, ha, e0, S2⟩ := S1.list
    rw [ints_of S2 e0] at ha
    refine ⟨a, ns, rfl, SqL.of ha, hl, fun p c hpn hcn => ?_⟩
    refine ⟨p, _, c, rfl, upd_same, by omega, fun ns' q hs hm hlen hq => ?_⟩
    obtain ⟨H, O, I⟩ := S1
    have S3 : Sta H0 F e1 σ ts (upd H1 p (SetO w p (fun j => decide (j ∈ ns)) c)) := ⟨_, O, (I.grow hpn).temps fun z hz => ((I.tp z (by simp [hz])).mono (Ex.new (I.free hpn).1))⟩
    exact k _ _ _ _ (hp ns' hs fun k => (hm k).trans decide_eq_true_iff) (S3.newI hq)
end
theorem iop_mulW {X : Cx} : OpR X (inplaceOp .Mult) (rI CMulW fun i j => .int (i * j)) := opI fun _ _ _ _ _ _ _ hc q => imul_int q hc.ok
theorem op2_mulW : Op2 (rI CMulW fun i j => .int (i * j)) fun d e P => ∃ i j, d = .int i ∧ e = .int j ∧ CMulW i j ∧ P (.int (i * j)) := op2_I fun _ _ => rfl
theorem op2_fdivW : Op2 (rI CDivW fun i j => .int (i / j)) fun d e P => ∃ i j, d = .int i ∧ e = .int j ∧ CDivW i j ∧ P (.int (i / j)) := op2_I fun _ _ => rfl
theorem op2_addI : Op2 (rI0 fun i j => .int (i + j)) fun d e P => ∃ i j, d = .int i ∧ e = .int j ∧ P (.int (i + j)) := op2_I0 fun _ _ => rfl
end DL
end

section
set_option Elab.async false
set_option linter.all false
set_option autoImplicit false
set_option maxRecDepth 100000
/-! Dat7: a dict of one's own, its keys whole numbers, at the level of data. -/
namespace DL
open PySem PySem.Spec PyProof.Rows L2

def dGet (kvs : List (Int × PyData)) (k : Int) : Option PyData := (kvs.find? fun kv => decide (kv.1 = k)).map (·.2)
def dPut (kvs : List (Int × PyData)) (k : Int) (d : PyData) : List (Int × PyData) :=
  if (kvs.any fun kv => decide (kv.1 = k)) = true then kvs.map (fun kv => if kv.1 = k then (kv.1, d) else kv) else kvs ++ [(k, d)]
abbrev DK (H : Hp) : List (Key × V) → List (Int × PyData) → Prop := Paired (fun (p : Key × V) (q : Int × PyData) => p.1 = Sum.inl q.1 ∧ Dd H p.2 q.2)
theorem DK.any {H : Hp} (k : Int) : ∀ {kvs : List (Key × V)} {ds : List (Int × PyData)}, DK H kvs ds → (kvs.any fun kv => decide (kv.1 = Sum.inl k)) = ds.any fun kv => decide (kv.1 = k)
  | _, _, .nil => rfl
  | _, _, .cons (a := p) (b := q) h t => by
    rw [List.any_cons, List.any_cons, DK.any k t]
    congr 1
    by_cases e : q.1 = k
    · rw [decide_eq_true e, decide_eq_true (by rw [h.1, e])]
    · rw [decide_eq_false e, decide_eq_false (fun z => e (by rw [h.1] at z; exact Sum.inl.inj z))]
theorem DK.get {H : Hp} (k : Int) : ∀ {kvs : List (Key × V)} {ds : List (Int × PyData)}, DK H kvs ds → (dGet ds k = none ∧ valV kvs (Sum.inl k) = none) ∨ ∃ v d, dGet ds k = some d ∧ valV kvs (Sum.inl k) = some v ∧ Dd H v d
  | _, _, .nil => .inl ⟨rfl, rfl⟩
  | _, _, .cons (a := p) (b := q) h t => by
    by_cases e : q.1 = k
    · have e' : p.1 = Sum.inl k := by rw [h.1, e]
      exact .inr ⟨p.2, q.2, by simp [dGet, List.find?_cons, e], by simp [valV, List.find?_cons, e'], h.2⟩
    · have e' : ¬ p.1 = Sum.inl k := fun z => e (by rw [h.1] at z; exact Sum.inl.inj z)
      rcases DK.get k t with ⟨a, b⟩ | ⟨v, d, a, b, c⟩
      · refine .inl ⟨?_, ?_⟩
        · simpa [dGet, List.find?_cons, e] using a
        · simpa [valV, List.find?_cons, e'] using b
      · refine .inr ⟨v, d, ?_, ?_, c⟩
        · simpa [dGet, List.find?_cons, e] using a
        · simpa [valV, List.find?_cons, e'] using b
theorem DK.map {H : Hp} {k : Int} {v : V} {d : PyData} (hv : Dd H v d) : ∀ {kvs : List (Key × V)} {ds : List (Int × PyData)}, DK H kvs ds → DK H (kvs.map fun kv => if kv.1 = Sum.inl k then (kv.1, v) else kv) (ds.map fun kv => if kv.1 = k then (kv.1, d) else kv)
  | _, _, .nil => .nil
  | _, _, .cons (a := p) (b := q) h t => by
    rw [List.map_cons, List.map_cons]
    refine .cons ?_ (DK.map hv t)
    by_cases e : q.1 = k
    · have e' : p.1 = Sum.inl k := by rw [h.1, e]
      rw [if_pos e, if_pos e']
      exact ⟨h.1, hv⟩
    · have e' : ¬ p.1 = Sum.inl k := fun z => e (by rw [h.1] at z; exact Sum.inl.inj z)
      rw [if_neg e, if_neg e']
      exact h
theorem DK.put {H : Hp} {k : Int} {v : V} {d : PyData} (hv : Dd H v d) {kvs : List (Key × V)} {ds : List (Int × PyData)} (h : DK H kvs ds) : DK H (putK kvs (Sum.inl k) v) (dPut ds k d) := by
  unfold putK dPut
  rw [h.any k]
  by_cases e : (ds.any fun kv => decide (kv.1 = k)) = true
  · rw [if_pos e, if_pos e]; exact DK.map hv h
  · rw [if_neg e, if_neg e]; exact Paired.snoc h ⟨rfl, hv⟩
theorem DK.keys {H : Hp} : ∀ {kvs : List (Key × V)} {ds : List (Int × PyData)}, DK H kvs ds → kvs.map (·.1) = (ds.map (·.1)).map Sum.inl
  | _, _, .nil => rfl
  | _, _, .cons h t => by rw [List.map_cons, List.map_cons, List.map_cons, h.1, DK.keys t]
section
variable {H0 F Hc : Hp} {es : List En} {σ : L2.St} {ts : Ts} {p : Addr}
theorem Sta.getDic {i : Nat} {ds : List (Int × PyData)} (S : Sta H0 F es σ ts Hc) (hi : es[i]? = some (.own p (.dic ds))) : σ[i]? = some (some (.ref p)) ∧ ∃ kvs, Hc p = some (.dK kvs) ∧ ∃ H O, StaI H0 F es σ ts Hc H O ∧ DK H kvs ds := by
  obtain ⟨H, O, I⟩ := S
  obtain ⟨hs, o, ho, hok⟩ := I.sl i _ hi
  cases o <;> first | exact False.elim hok | skip
  exact ⟨hs, _, I.atO ho, H, O, I, hok⟩
theorem Sta.setDic (S : Sta H0 F es σ ts Hc) (h : Hc p = none) (i : Nat) : Sta H0 F (es.set i (.own p (.dic []))) (σ.set i (some (.ref p))) ts (upd Hc p (.dK [])) := by
  obtain ⟨H, O, I⟩ := S
  obtain ⟨h1, h2, h3⟩ := I.free h
  have J : StaI H0 F es σ ts (upd Hc p (.dK [])) H (upd O p (.dK [])) := by
    refine ⟨by rw [I.hc, upd_jn_r h1, upd_jn], I.ho.put h1, I.hf, I.of.new h3, I.ext, I.len, fun j e he => ?_, I.ap, I.tp⟩
    have := I.sl j e he
    cases e with
    | no => trivial
    | dat d => exact this
    | own q c => obtain ⟨a, o, b, c⟩ := this; exact ⟨a, o, Ex.new h2 _ _ b, c⟩
    | raw v => exact this
  refine ⟨H, _, J.setE (fun τ z => ⟨z, _, upd_same, .nil⟩) fun q c e j c' hj z => ?_⟩
  cases e
  obtain ⟨_, o, a, _⟩ := I.sl j _ z
  rw [h2] at a; cases a
end
section
variable {K : PySem.W.Frag} {es : List En} {P : PyData → List En → Prop} {ta tb tc te : TE} {tl : TA} {tt : TT} {D : De}
theorem wp_dnew {i : Nat} (h : ∀ p, D.nx (es.set i (.own p (.dic [])))) : Wp (tAsg tDNewK (gName i)) D es := fun H0 F σ ts Hc Dr S k1 k2 k3 k4 p hp => k1 _ _ _ (h p) (S.setDic hp i)
/-- d.get(k, x) -/
theorem ev_dget2 {i : Nat} {p : Addr} {ds : List (Int × PyData)} (hi : es[i]? = some (.own p (.dic ds))) (h : Ev tb es fun k e1 => Ev tc e1 fun x e2 => ∃ n : Int, k = .int n ∧ e2[i]? = some (.own p (.dic ds)) ∧ P ((dGet ds n).getD x) e2) : Ev (tDGet2 (tVar i) tb tc) es P := fun H0 F σ ts Hc Q S k => by
  obtain ⟨hv, kvs, ha, _⟩ := S.getDic hi
  refine ⟨.ref p, hv, p, rfl, .inl ⟨kvs, .inl ha⟩, h H0 F σ ts Hc _ S fun y d e1 H1 h1 S1 => h1 H0 F σ _ H1 _ S1 fun z x e2 H2 h2 S2 => ?_⟩
  obtain ⟨n, rfl, hi2, hp⟩ := h2
  cases S2.tail.get_int
  obtain ⟨_, kvs2, ha2, H, O, I, hk⟩ := S2.getDic hi2
  refine ⟨valV kvs2 (Sum.inl n), .inl ⟨kvs2, Sum.inl n, .inl ha2, rfl, rfl⟩, ?_⟩
  rcases hk.get n with ⟨a, b⟩ | ⟨v, d, a, b, c⟩
  · rw [a] at hp; rw [b]
    exact k _ _ _ _ hp ⟨H, O, I.temps fun q hq => I.tp q (by
      rcases List.mem_cons.mp hq with rfl | hq
      · simp
      · simp [hq])⟩
  · rw [a] at hp; rw [b]
    exact k _ _ _ _ hp ⟨H, O, I.temps fun q hq => by
      rcases List.mem_cons.mp hq with rfl | hq
      · exact c
      · exact I.tp q (by simp [hq])⟩
/-- d[k], it is there -/
theorem ev_dget {i : Nat} {p : Addr} {ds : List (Int × PyData)} (hi : es[i]? = some (.own p (.dic ds))) (h : Ev tb es fun k e1 => ∃ (n : Int) (d : PyData), k = .int n ∧ e1[i]? = some (.own p (.dic ds)) ∧ dGet ds n = some d ∧ P d e1) : Ev (tDGet (tVar i) tb) es P := fun H0 F σ ts Hc Q S k => by
  obtain ⟨hv, kvs, ha, _⟩ := S.getDic hi
  refine ⟨.ref p, hv, h H0 F σ ts Hc _ S fun y d0 e1 H1 h1 S1 => ?_⟩
  obtain ⟨n, d, rfl, hi2, hd, hp⟩ := h1
  cases S1.get_int
  obtain ⟨_, kvs2, ha2, H, O, I, hk⟩ := S1.getDic hi2
  rcases hk.get n with ⟨a, b⟩ | ⟨v, d', a, b, c⟩
  · rw [a] at hd; cases hd
  · rw [a] at hd; cases hd
    exact ⟨p, v, rfl, .inl ⟨kvs2, Sum.inl n, .inl ha2, rfl, b.symm⟩, k _ _ _ _ hp ⟨H, O, I.temps fun q hq => by
      rcases List.mem_cons.mp hq with rfl | hq
      · exact c
      · exact I.tp q (by simp [hq])⟩⟩
/-- d[k] = e -/
theorem wp_dput {i : Nat} {p : Addr} (h : Ev te es fun d e1 => ∃ ds0, e1[i]? = some (.own p (.dic ds0)) ∧ Ev tb e1 fun k e2 => ∃ (ds : List (Int × PyData)) (n : Int), e2[i]? = some (.own p (.dic ds)) ∧ k = .int n ∧ ds.length < 100000 ∧ D.nx (e2.set i (.own p (.dic (dPut ds n d))))) :
    Wp (sDPut (tVar i) tb te) D es := fun H0 F σ ts Hc Dr S k1 k2 k3 k4 =>
  h H0 F σ ts Hc _ S fun v d e1 H1 h1 S1 => by
    obtain ⟨ds0, hi1, h1⟩ := h1
    obtain ⟨hv, _⟩ := S1.getDic hi1
    refine ⟨.ref p, hv, h1 H0 F σ _ H1 _ S1 fun y kd e2 H2 h2 S2 => ?_⟩
    obtain ⟨ds, n, hi2, rfl, hl, hp⟩ := h2
    cases S2.get_int
    obtain ⟨_, kvs, ha, H, O, I, hk⟩ := S2.getDic hi2
    have hlen : kvs.length < sizeLine := by
      have := Paired.length hk
      rw [sizeLine_eq]; omega
    refine ⟨p, _, rfl, .inl ⟨kvs, Sum.inl n, ha, rfl, hlen, rfl⟩, k1 _ _ _ hp ?_⟩
    refine Sta.weak (ts' := ts) (S2.wrOwnG (o' := .dK (putK kvs (Sum.inl n) v)) (c' := .dic (dPut ds n d)) hi2 fun H o ht ho hok => ?_) fun q hq => by simp [hq]
    rw [ha] at ho
    cases ho
    exact DK.put (ht (v, d) (by simp)) hok
def rSortedDI : List V → Hp → VK → Prop := fun xs H Q => ∃ (a : Addr) (kvs : List (Key × V)) (ks : List Int), xs = [.ref a] ∧ Rd H a (.dK kvs) ∧ kvs.map (·.1) = ks.map Sum.inl ∧ ks.length < 64 ∧
  ∀ (ys : List Int) (p : Addr), ys.Perm ks → ys.Pairwise (· ≤ ·) → H p = none → Q (.ref p) (upd H p (.lst (ys.map V.int)))
theorem cr_sortedDI {X : Cx} (hc : X.calm = true) : CallR X (.builtin "sorted") rSortedDI := call_sortedDI hc
theorem ev_sortedDI {i : Nat} {p : Addr} {ds : List (Int × PyData)} (hi : es[i]? = some (.own p (.dic ds))) (h : ds.length < 64 ∧ ∀ ys : List Int, ys.Perm (ds.map (·.1)) → ys.Pairwise (· ≤ ·) → P (.list (ys.map .int)) es) : Ev (tCB rSortedDI (tCons (tVar i) tNil)) es P := fun H0 F σ ts Hc Q S k => by
  obtain ⟨hv, kvs, ha, H, O, I, hk⟩ := S.getDic hi
  exact ⟨.ref p, hv, p, kvs, ds.map (·.1), rfl, .inl ha, hk.keys, by rw [List.length_map]; exact h.1, fun ys q h1 h2 hq => k _ _ _ _ (h.2 ys h1 h2) (S.newI hq)⟩
theorem dGet_put (ds : List (Int × PyData)) (k j : Int) (d : PyData) : dGet (dPut ds k d) j = if j = k then some d else dGet ds j := by
  unfold dPut
  by_cases ha : (ds.any fun kv => decide (kv.1 = k)) = true
  · rw [if_pos ha]
    induction ds with
    | nil => simp at ha
    | cons q r ih =>
      by_cases e : q.1 = k
      · by_cases ej : j = k
        · subst ej; simp [dGet, List.find?_cons, e]
        · have e2 : ¬ q.1 = j := fun z => ej (z.symm.trans e)
          have e3 : ¬ k = j := fun z => ej z.symm
          simp only [List.map_cons, if_pos e, if_neg ej, dGet, List.find?_cons, decide_eq_false e2]
          by_cases ha2 : (r.any fun kv => decide (kv.1 = k)) = true
          · have := ih ha2
            rw [if_neg ej] at this
            exact this
          · have : (r.map fun kv => if kv.1 = k then (kv.1, d) else kv) = r := by
              rw [List.map_congr_left (g := id), List.map_id]
              intro x hx
              have : ¬ x.1 = k := fun z => ha2 (List.any_eq_true.mpr ⟨x, hx, by simpa using z⟩)
              simp [this]
            rw [this]
      · rw [List.any_cons, decide_eq_false e, Bool.false_or] at ha
        have := ih ha
        by_cases e2 : q.1 = j
        · have ej : ¬ j = k := fun z => e (e2.trans z)
          simp [dGet, List.find?_cons, e, e2, ej]
        · simp only [List.map_cons, if_neg e, dGet, List.find?_cons, decide_eq_false e2]
          exact this
  · rw [if_neg ha]
    have hn : ∀ x ∈ ds, ¬ x.1 = k := fun x hx z => ha (List.any_eq_true.mpr ⟨x, hx, by simpa using z⟩)
    unfold dGet
    rw [List.find?_append]
    by_cases ej : j = k
    · subst ej
      have : ds.find? (fun kv => decide (kv.1 = j)) = none := List.find?_eq_none.mpr fun x hx => by simpa using hn x hx
      rw [this]
      simp
    · rw [if_neg ej]
      have e3 : ¬ k = j := fun z => ej z.symm
      cases ds.find? (fun kv => decide (kv.1 = j)) <;> simp [List.find?_cons, e3]
theorem dPut_keys (ds : List (Int × PyData)) (k : Int) (d : PyData) : (dPut ds k d).map (·.1) = if k ∈ ds.map (·.1) then ds.map (·.1) else ds.map (·.1) ++ [k] := by
  unfold dPut
  by_cases ha : (ds.any fun kv => decide (kv.1 = k)) = true
  · have hm : k ∈ ds.map (·.1) := by
      obtain ⟨x, hx, hk⟩ := List.any_eq_true.mp ha
      exact List.mem_map.mpr ⟨x, hx, by simpa using hk⟩
    rw [if_pos ha, if_pos hm, List.map_map]
    apply List.map_congr_left
    intro x _
    by_cases e : x.1 = k <;> simp [e]
  · have hm : ¬ k ∈ ds.map (·.1) := fun hm => ha (by
      obtain ⟨x, hx, hk⟩ := List.mem_map.mp hm
      exact List.any_eq_true.mpr ⟨x, hx, by simpa using hk⟩)
    rw [if_neg ha, if_neg hm, List.map_append]; rfl
end
end DL
end

section
set_option autoImplicit false
/-! Mth1: what the program computes, as plain functions of lists of Nat. A deal is the list of the plugs, each less one. -/
namespace PN
def fact : Nat → Nat
  | 0 => 1
  | n + 1 => (n + 1) * fact n
def Ch : Nat → Nat → Nat
  | _, 0 => 1
  | 0, _ + 1 => 0
  | n + 1, k + 1 => Ch n k + Ch n (k + 1)
/-- choices(m, t), whole numbers of any sign -/
def chI (m t : Int) : Nat := if 0 ≤ t ∧ t ≤ m then Ch m.toNat t.toNat else 0
/-- a fraction in its lowest terms -/
def low (p : Nat × Nat) : Nat × Nat := (p.1 / Nat.gcd p.1 p.2, p.2 / Nat.gcd p.1 p.2)
def frAdd (p q : Nat × Nat) : Nat × Nat := (p.1 * q.2 + q.1 * p.2, p.2 * q.2)
def frSum (l : List (Nat × Nat)) : Nat × Nat := l.foldl frAdd (0, 1)
def at' (xs : List Nat) (v : Nat) : Nat := xs.getD v 0
/-- a deal that has nets -/
structure Good (xs : List Nat) : Prop where
  sum : xs.sum + 2 = xs.length
  most : xs.length ≤ 60
/-- a group -/
structure Grp (n : Nat) (g : List Nat) : Prop where
  asc : g.Pairwise (· < ·)
  lt : ∀ v ∈ g, v < n
def sumG (xs g : List Nat) : Nat := (g.map (at' xs)).sum
def nets (xs : List Nat) : Nat := xs.foldl (fun f x => f / fact x) (fact (xs.length - 2))
/-- a cable's share, three devices at least -/
def cabF (xs : List Nat) (i j : Nat) : Nat × Nat := if i = j then (0, 1) else (at' xs i + at' xs j, xs.length - 2)
/-- cables within a group of a of n devices, X the sum of its further plugs -/
def withT (a X n m : Nat) : Nat := if a = n then (if m + 1 = n then 1 else 0) else Ch (a - 1) m * (if m ≤ X then chI ((n : Int) - a - 1) ((X : Int) - m) else 0)
def withB (a X n : Nat) : Nat := if a = n then 1 else Ch (n - 2) X
def sideF (xs g : List Nat) : Nat × Nat := if g.length < xs.length ∧ sumG xs g + 1 = g.length then (1, Ch (xs.length - 2) (g.length - 1)) else (0, 1)
def aroF (xs : List Nat) (w : Nat) (g : List Nat) : Nat × Nat := if at' xs w + 2 = xs.length then (1, 1) else (fact (xs.length - (at' xs w + 1) - 2) * fact (at' xs w) * sumG xs g, fact (xs.length - 2))
def others (xs : List Nat) (i j : Nat) : List Nat := (xs.zipIdx.filter fun p => decide (p.2 ≠ i ∧ p.2 ≠ j)).map (·.1)
/-- sums of products over the sets of k -/
def pr : List Nat → Nat → Nat
  | _, 0 => 1
  | [], _ + 1 => 0
  | y :: ys, k + 1 => pr ys (k + 1) + y * pr ys k
def sr : List Nat → Nat → Nat
  | _, 0 => 0
  | [], _ + 1 => 0
  | y :: ys, k + 1 => sr ys (k + 1) + (sr ys k + (y + 1) * pr ys k) * y
def wk : List Nat → Nat → Nat → Nat
  | [], c, 0 => c
  | [], _, _ + 1 => 0
  | _ :: _, c, 0 => c
  | y :: ys, c, k + 1 => wk ys c (k + 1) + y * wk ys (c + y - 1) k
def isLine (xs : List Nat) (i j : Nat) : Bool := decide (at' xs i = 0) && decide (at' xs j = 0) && (others xs i j).all (· == 1)
def stT (xs : List Nat) (i j s : Nat) : Nat :=
  if s = 0 then 0 else if s + 2 ≤ xs.length then fact (xs.length - s - 2) * fact (s - 1) * wk (others xs i j) (at' xs i + at' xs j) (s - 1)
  else if s + 1 = xs.length ∧ isLine xs i j = true then fact (xs.length - 2) else 0
def stF (xs : List Nat) (i j m : Nat) : Nat × Nat := if i = j then (if m = 0 then (1, 1) else (0, 1)) else (stT xs i j m, fact (xs.length - 2))
/-- the rows of a distribution over 0 .. M - 1 -/
def rows (F : Nat → Nat × Nat) (M : Nat) : List (Nat × (Nat × Nat)) := ((List.range M).filter fun m => decide (0 < (F m).1)).map fun m => (m, low (F m))
/-- without an end e that v has -/
def dropE (xs : List Nat) (e v : Nat) : List Nat := (xs.set v (at' xs v - 1)).eraseIdx e
def nm (e v : Nat) : Nat := if e < v then v - 1 else v
def hosts (xs : List Nat) : List Nat := (List.range xs.length).filter fun v => decide (0 < at' xs v)
end PN
end

section
set_option autoImplicit false
/-! Mth2: factorials, binomials, fractions. -/
namespace PN
theorem fact_pos : ∀ n, 0 < fact n
  | 0 => by decide
  | n + 1 => by unfold fact; exact Nat.mul_pos (by omega) (fact_pos n)
theorem fact_mono {a b : Nat} (h : a ≤ b) : fact a ≤ fact b := by
  induction h with
  | refl => exact Nat.le_refl _
  | step _ ih => exact Nat.le_trans ih (Nat.le_mul_of_pos_left (fact _) (by omega))
set_option exponentiation.threshold 1000 in
theorem fact_lt {n : Nat} (h : n ≤ 61) : fact n < 2 ^ 300 := Nat.lt_of_le_of_lt (fact_mono h) (by decide)
theorem fact_lt20 {n : Nat} (h : n ≤ 20) : fact n < 2 ^ 62 := Nat.lt_of_le_of_lt (fact_mono h) (by decide)
theorem Ch_zero (n : Nat) : Ch n 0 = 1 := by cases n <;> rfl
theorem Ch_gt : ∀ {n k : Nat}, n < k → Ch n k = 0
  | 0, k + 1, _ => rfl
  | n + 1, k + 1, h => by
    unfold Ch
    rw [Ch_gt (show n < k by omega), Ch_gt (show n < k + 1 by omega)]
theorem Ch_self : ∀ n : Nat, Ch n n = 1
  | 0 => rfl
  | n + 1 => by unfold Ch; rw [Ch_self n, Ch_gt (by omega)]
/-- absorption -/
theorem Ch_abs : ∀ n k : Nat, Ch (n + 1) (k + 1) * (k + 1) = (n + 1) * Ch n k
  | 0, 0 => rfl
  | 0, k + 1 => by
    have : Ch 1 (k + 2) = 0 := Ch_gt (by omega)
    rw [this]; simp [Ch]
  | n + 1, 0 => by
    have h := Ch_abs n 0
    have e : Ch (n + 2) 1 = Ch (n + 1) 0 + Ch (n + 1) 1 := rfl
    rw [e, Ch_zero]
    rw [Ch_zero] at h
    grind
  | n + 1, k + 1 => by
    have h1 := Ch_abs n k
    have h2 := Ch_abs n (k + 1)
    have e : Ch (n + 2) (k + 2) = Ch (n + 1) (k + 1) + Ch (n + 1) (k + 2) := rfl
    have e2 : Ch (n + 1) (k + 1) = Ch n k + Ch n (k + 1) := rfl
    rw [e]
    grind
theorem Ch_step : ∀ n k : Nat, k ≤ n → Ch n (k + 1) * (k + 1) = Ch n k * (n - k) := by
  intro n
  induction n with
  | zero => intro k hk; have : k = 0 := by omega
            subst this; rfl
  | succ n ih =>
    intro k hk
    rw [Ch_abs]
    cases k with
    | zero => rw [Ch_zero, Ch_zero]; omega
    | succ k =>
      have h1 := ih k (by omega)
      have e : Ch (n + 1) (k + 1) = Ch n k + Ch n (k + 1) := rfl
      have hs : n + 1 - (k + 1) = n - k := by omega
      have h2 : (Ch n k + Ch n (k + 1)) * (n - k) = Ch n (k + 1) * (k + 1) + Ch n (k + 1) * (n - k) := by rw [Nat.add_mul, h1]
      rw [e, hs, h2, ← Nat.mul_add, Nat.mul_comm]
      congr 1
      omega
theorem Ch_fact : ∀ n k : Nat, k ≤ n → Ch n k * (fact k * fact (n - k)) = fact n := by
  intro n
  induction n with
  | zero => intro k hk; have : k = 0 := by omega
            subst this; rfl
  | succ n ih =>
    intro k hk
    cases k with
    | zero => rw [Ch_zero]; simp [fact]
    | succ k =>
      have h := ih k (by omega)
      have hs : n + 1 - (k + 1) = n - k := by omega
      have ha := Ch_abs n k
      have f1 : fact (k + 1) = (k + 1) * fact k := rfl
      have f2 : fact (n + 1) = (n + 1) * fact n := rfl
      rw [hs, f1, f2, ← h]
      calc Ch (n + 1) (k + 1) * ((k + 1) * fact k * fact (n - k)) = Ch (n + 1) (k + 1) * (k + 1) * (fact k * fact (n - k)) := by grind
        _ = (n + 1) * Ch n k * (fact k * fact (n - k)) := by rw [ha]
        _ = _ := by grind
theorem Ch_symm {n k : Nat} (h : k ≤ n) : Ch n k = Ch n (n - k) := by
  have h1 := Ch_fact n k h
  have h2 := Ch_fact n (n - k) (by omega)
  have e : n - (n - k) = k := by omega
  rw [e] at h2
  have p : 0 < fact k * fact (n - k) := Nat.mul_pos (fact_pos _) (fact_pos _)
  apply Nat.eq_of_mul_eq_mul_right p
  rw [h1, Nat.mul_comm (fact k), h2]
theorem Ch_pos {n k : Nat} (h : k ≤ n) : 0 < Ch n k := by
  rcases Nat.eq_zero_or_pos (Ch n k) with z | z
  · have := Ch_fact n k h
    rw [z, Nat.zero_mul] at this
    have := fact_pos n
    omega
  · exact z
theorem Ch_le : ∀ n k : Nat, Ch n k ≤ 2 ^ n
  | n, 0 => by rw [Ch_zero]; exact Nat.one_le_two_pow
  | 0, k + 1 => by simp [Ch]
  | n + 1, k + 1 => by
    have h1 := Ch_le n k
    have h2 := Ch_le n (k + 1)
    unfold Ch
    rw [Nat.pow_succ]; omega
theorem chI_nat (m t : Nat) : chI (m : Int) (t : Int) = if t ≤ m then Ch m t else 0 := by
  unfold chI
  by_cases h : t ≤ m
  · rw [if_pos h, if_pos ⟨by omega, by omega⟩]; simp
  · rw [if_neg h, if_neg (by omega)]
theorem chI_eq (m t : Nat) : chI (m : Int) (t : Int) = Ch m t := by
  rw [chI_nat]
  split
  · rfl
  · rw [Ch_gt (by omega)]
theorem chI_le (m t : Int) (h : m ≤ 60) : chI m t ≤ 2 ^ 60 := by
  unfold chI
  split
  · exact Nat.le_trans (Ch_le _ _) (Nat.pow_le_pow_right (by omega) (by omega))
  · exact Nat.zero_le _
/-! fractions -/
theorem low_pos {p : Nat × Nat} (h : 0 < p.2) : 0 < (low p).2 := Nat.div_pos (Nat.gcd_le_right _ h) (Nat.gcd_pos_of_pos_right _ h)
theorem low_le1 (p : Nat × Nat) : (low p).1 ≤ p.1 := Nat.div_le_self _ _
theorem low_le2 (p : Nat × Nat) : (low p).2 ≤ p.2 := Nat.div_le_self _ _
theorem low_mul (p : Nat × Nat) : (low p).1 * p.2 = p.1 * (low p).2 := by
  unfold low
  have h1 : Nat.gcd p.1 p.2 ∣ p.1 := Nat.gcd_dvd_left _ _
  have h2 : Nat.gcd p.1 p.2 ∣ p.2 := Nat.gcd_dvd_right _ _
  rw [← Nat.mul_div_assoc _ h2, Nat.mul_comm, ← Nat.mul_div_assoc _ h1, Nat.mul_comm]
theorem low_zero {p : Nat × Nat} (h : 0 < p.2) : (low p).1 = 0 ↔ p.1 = 0 := by
  have := low_mul p
  have hp := low_pos h
  constructor
  · intro e
    rw [e, Nat.zero_mul] at this
    rcases Nat.mul_eq_zero.mp this.symm with z | z
    · exact z
    · omega
  · intro e
    rw [e, Nat.zero_mul] at this
    rcases Nat.mul_eq_zero.mp this with z | z
    · exact z
    · omega
/-- equal fractions have one lowest form -/
theorem low_eq {p q : Nat × Nat} (hp : 0 < p.2) (hq : 0 < q.2) (h : p.1 * q.2 = q.1 * p.2) : low p = low q := by
  obtain ⟨a, b⟩ := p
  obtain ⟨c, d⟩ := q
  simp only at hp hq h
  have key : ∀ (a b c d : Nat), 0 < b → 0 < d → a * d = c * b → b / Nat.gcd a b ∣ d / Nat.gcd c d := fun a b c d hb hd h => by
    have g0 : 0 < Nat.gcd a b := Nat.gcd_pos_of_pos_right _ hb
    have g1 : 0 < Nat.gcd c d := Nat.gcd_pos_of_pos_right _ hd
    have co : Nat.Coprime (a / Nat.gcd a b) (b / Nat.gcd a b) := Nat.coprime_div_gcd_div_gcd g0
    refine co.symm.dvd_of_dvd_mul_left (n := d / Nat.gcd c d) (m := a / Nat.gcd a b) ?_
    have e1 : a / Nat.gcd a b * Nat.gcd a b = a := Nat.div_mul_cancel (Nat.gcd_dvd_left _ _)
    have e2 : b / Nat.gcd a b * Nat.gcd a b = b := Nat.div_mul_cancel (Nat.gcd_dvd_right _ _)
    have e3 : c / Nat.gcd c d * Nat.gcd c d = c := Nat.div_mul_cancel (Nat.gcd_dvd_left _ _)
    have e4 : d / Nat.gcd c d * Nat.gcd c d = d := Nat.div_mul_cancel (Nat.gcd_dvd_right _ _)
    refine ⟨c / Nat.gcd c d, ?_⟩
    apply Nat.eq_of_mul_eq_mul_right (Nat.mul_pos g0 g1)
    calc a / Nat.gcd a b * (d / Nat.gcd c d) * (Nat.gcd a b * Nat.gcd c d) = (a / Nat.gcd a b * Nat.gcd a b) * (d / Nat.gcd c d * Nat.gcd c d) := by grind
      _ = a * d := by rw [e1, e4]
      _ = c * b := h
      _ = (c / Nat.gcd c d * Nat.gcd c d) * (b / Nat.gcd a b * Nat.gcd a b) := by rw [e2, e3]
      _ = _ := by grind
  have hden : b / Nat.gcd a b = d / Nat.gcd c d := Nat.dvd_antisymm (key a b c d hp hq h) (key c d a b hq hp h.symm)
  have hnum : a / Nat.gcd a b = c / Nat.gcd c d := by
    have m1 : a / Nat.gcd a b * b = a * (b / Nat.gcd a b) := low_mul (a, b)
    have m2 : c / Nat.gcd c d * d = c * (d / Nat.gcd c d) := low_mul (c, d)
    have lp : 0 < b / Nat.gcd a b := low_pos (p := (a, b)) hp
    apply Nat.eq_of_mul_eq_mul_right (Nat.mul_pos hp hq)
    calc a / Nat.gcd a b * (b * d) = (a / Nat.gcd a b * b) * d := by grind
      _ = a * (b / Nat.gcd a b) * d := by rw [m1]
      _ = (a * d) * (b / Nat.gcd a b) := by grind
      _ = (c * b) * (d / Nat.gcd c d) := by rw [h, hden]
      _ = (c * (d / Nat.gcd c d)) * b := by grind
      _ = (c / Nat.gcd c d * d) * b := by rw [m2]
      _ = _ := by grind
  unfold low
  rw [hnum, hden]
theorem low_low {p : Nat × Nat} (h : 0 < p.2) : low (low p) = low p := low_eq (low_pos h) h (low_mul p)
theorem low_same (n : Nat) (h : 0 < n) : low (n, n) = (1, 1) := by
  unfold low
  simp only [Nat.gcd_self, Nat.div_self h]
theorem low_nil (n : Nat) (h : 0 < n) : low (0, n) = (0, 1) := by
  unfold low
  simp only [Nat.gcd_zero_left, Nat.div_self h, Nat.zero_div]
theorem low_one (n : Nat) : low (1, n) = (1, n) := by
  unfold low
  simp
end PN
end

section
set_option Elab.async false
set_option linter.all false
set_option autoImplicit false
set_option maxRecDepth 100000
/-! Spc: what each def promises, at the level of data. -/
namespace PN
open PySem PySem.Spec PyProof.Rows L2 DL
def plI (xs : List Nat) : List Int := xs.map fun (x : Nat) => (x : Int) + 1
def plD (xs : List Nat) : PyData := .list ((plI xs).map .int)
def grI (g : List Nat) : List Int := g.map fun (v : Nat) => (v : Int)
def grD (g : List Nat) : PyData := .list ((grI g).map .int)
def frD (p : Nat × Nat) : PyData := .tuple [.int (p.1 : Int), .int (p.2 : Int)]
def lowD (p : Nat × Nat) : PyData := frD (low p)
def rowD (r : Nat × (Nat × Nat)) : PyData := .tuple [.int (r.1 : Int), .int (r.2.1 : Int), .int (r.2.2 : Int)]
def rowsD (l : List (Nat × (Nat × Nat))) : PyData := .list (l.map rowD)
def topsD (a X n : Nat) : PyData := .tuple [.list (((List.range a).filter fun m => decide (0 < withT a X n m)).map fun (m : Nat) => PyData.tuple [.int (m : Int), .int (withT a X n m : Int)]), .int (withB a X n : Int)]
def S_is_integer : SpecD := fun ds P => ∃ i : Int, ds = [.int i] ∧ P (.bool true)
def S_is_number : SpecD := fun ds P => ∃ i : Int, ds = [.int i] ∧ 0 ≤ i ∧ i ≤ 1000000000000000000000000000000 ∧ P (.bool true)
def S_is_plugs : SpecD := fun ds P => ∃ xs, ds = [plD xs] ∧ Good xs ∧ P (.bool true)
def S_need_plugs : SpecD := fun ds P => ∃ xs, ds = [plD xs] ∧ Good xs ∧ P .none
def S_need_device : SpecD := fun ds P => ∃ (xs : List Nat) (v : Nat), ds = [plD xs, .int (v : Int)] ∧ v < xs.length ∧ P .none
def S_too_many : SpecD := fun ds P => ∃ xs, ds = [plD xs] ∧ Good xs ∧ P (.int 0)
def S_conflict_in : SpecD := fun ds P => ∃ xs, ds = [plD xs] ∧ Good xs ∧ P .none
def S_need_net : SpecD := fun ds P => ∃ xs, ds = [plD xs] ∧ Good xs ∧ P .none
def S_factorial_of : SpecD := fun ds P => ∃ n : Int, ds = [.int n] ∧ -1000 ≤ n ∧ n ≤ 60 ∧ P (.int (fact n.toNat : Int))
def S_nets_of : SpecD := fun ds P => ∃ xs, ds = [plD xs] ∧ Good xs ∧ P (.int (nets xs : Int))
def S_need_possible : SpecD := fun ds P => ∃ xs, ds = [plD xs] ∧ Good xs ∧ P .none
def S_count_nets : SpecD := fun ds P => ∃ xs, ds = [plD xs] ∧ Good xs ∧ P (.int (nets xs : Int))
def S_divisor_of : SpecD := fun ds P => ∃ a b : Nat, ds = [.int (a : Int), .int (b : Int)] ∧ P (.int (Nat.gcd a b : Int))
def S_lowest : SpecD := fun ds P => ∃ p : Nat × Nat, ds = [.int (p.1 : Int), .int (p.2 : Int)] ∧ 0 < p.2 ∧ p.2 < 2 ^ 8000 ∧ P (lowD p)
def S_share_of_cables : SpecD := fun ds P => ∃ (xs : List Nat) (i j : Nat), ds = [plD xs, .int (i : Int), .int (j : Int)] ∧ Good xs ∧ 3 ≤ xs.length ∧ i < xs.length ∧ j < xs.length ∧ P (lowD (cabF xs i j))
def S_need_two : SpecD := fun ds P => ∃ (xs : List Nat) (i j : Nat), ds = [plD xs, .int (i : Int), .int (j : Int)] ∧ Good xs ∧ i < xs.length ∧ j < xs.length ∧ P .none
def S_cable_share : SpecD := S_share_of_cables
def S_choices : SpecD := fun ds P => ∃ m t : Int, ds = [.int m, .int t] ∧ m ≤ 60 ∧ P (.int (chI m t : Int))
def S_is_group : SpecD := fun ds P => ∃ (xs g : List Nat) (l : Int), ds = [plD xs, grD g, .int l] ∧ xs.length ≤ 60 ∧ Grp xs.length g ∧ l ≤ (g.length : Int) ∧ P (.bool true)
def S_need_group : SpecD := fun ds P => ∃ (xs g : List Nat) (l : Int), ds = [plD xs, grD g, .int l] ∧ xs.length ≤ 60 ∧ Grp xs.length g ∧ l ≤ (g.length : Int) ∧ P .none
def S_share_of_around : SpecD := fun ds P => ∃ (xs : List Nat) (w y : Nat), ds = [plD xs, .int (w : Int), .int (y : Int)] ∧ Good xs ∧ w < xs.length ∧ at' xs w + 3 ≤ xs.length ∧ y ≤ 60 ∧ P (lowD (fact (xs.length - (at' xs w + 1) - 2) * fact (at' xs w) * y, fact (xs.length - 2)))
def S_is_full : SpecD := fun ds P => ∃ (xs : List Nat) (w : Nat), ds = [plD xs, .int (w : Int)] ∧ w < xs.length ∧ P (.bool (decide (at' xs w + 2 = xs.length)))
def S_weight_of : SpecD := fun ds P => ∃ (xs g : List Nat), ds = [plD xs, grD g] ∧ xs.length ≤ 60 ∧ Grp xs.length g ∧ P (.int (sumG xs g : Int))
def S_share_around : SpecD := fun ds P => ∃ (xs : List Nat) (w : Nat) (g : List Nat), ds = [plD xs, .int (w : Int), grD g] ∧ Good xs ∧ w < xs.length ∧ Grp xs.length g ∧ w ∉ g ∧ g.length = at' xs w + 1 ∧ P (lowD (aroF xs w g))
def S_need_centre : SpecD := fun ds P => ∃ (xs : List Nat) (w : Nat) (g : List Nat), ds = [plD xs, .int (w : Int), grD g] ∧ Good xs ∧ w < xs.length ∧ Grp xs.length g ∧ P .none
def S_around_share : SpecD := S_share_around
def S_need_gathered : SpecD := fun ds P => ∃ (xs g : List Nat), ds = [plD xs, grD g] ∧ Good xs ∧ Grp xs.length g ∧ 1 ≤ g.length ∧ P .none
def S_tops_within : SpecD := fun ds P => ∃ a X n : Nat, ds = [.int (a : Int), .int ((X : Int) + a), .int (n : Int)] ∧ 1 ≤ a ∧ a ≤ n ∧ 2 ≤ n ∧ n ≤ 60 ∧ X + 2 ≤ n ∧ P (topsD a X n)
def S_tops_of_group : SpecD := fun ds P => ∃ (xs g : List Nat), ds = [plD xs, grD g] ∧ Good xs ∧ Grp xs.length g ∧ 1 ≤ g.length ∧ P (topsD g.length (sumG xs g) xs.length)
def S_within_shares : SpecD := fun ds P => ∃ (xs g : List Nat), ds = [plD xs, grD g] ∧ Good xs ∧ Grp xs.length g ∧ 1 ≤ g.length ∧ P (rowsD (rows (fun m => (withT g.length (sumG xs g) xs.length m, withB g.length (sumG xs g) xs.length)) g.length))
def S_together_share : SpecD := fun ds P => ∃ (xs g : List Nat), ds = [plD xs, grD g] ∧ Good xs ∧ Grp xs.length g ∧ 1 ≤ g.length ∧ P (lowD (withT g.length (sumG xs g) xs.length (g.length - 1), withB g.length (sumG xs g) xs.length))
def S_is_side : SpecD := fun ds P => ∃ (xs g : List Nat), ds = [plD xs, grD g] ∧ xs.length ≤ 60 ∧ Grp xs.length g ∧ P (.bool (decide (g.length < xs.length ∧ sumG xs g + 1 = g.length)))
def S_side_share : SpecD := fun ds P => ∃ (xs g : List Nat), ds = [plD xs, grD g] ∧ Good xs ∧ Grp xs.length g ∧ 1 ≤ g.length ∧ P (lowD (sideF xs g))
def S_path_sums : SpecD := fun ds P => ∃ ys : List Nat, ds = [plD ys] ∧ ys.length ≤ 60 ∧ (∀ y ∈ ys, y ≤ 60) ∧ P (.tuple [.list ((List.range (ys.length + 1)).map fun k => PyData.int (pr ys k : Int)), .list ((List.range (ys.length + 1)).map fun k => PyData.int (sr ys k : Int))])
def S_is_line : SpecD := fun ds P => ∃ (xs : List Nat) (i j : Nat), ds = [plD xs, .int (i : Int), .int (j : Int)] ∧ xs.length ≤ 60 ∧ i < xs.length ∧ j < xs.length ∧ i ≠ j ∧ P (.bool (isLine xs i j))
def S_tops_of : SpecD := fun ds P => ∃ (xs : List Nat) (i j : Nat), ds = [plD xs, .int (i : Int), .int (j : Int)] ∧ Good xs ∧ i < xs.length ∧ j < xs.length ∧ i ≠ j ∧ P (.list ((List.range xs.length).map fun s => PyData.int (stT xs i j s : Int)))
def S_shares_of : SpecD := fun ds P => ∃ (xs : List Nat) (i j : Nat), ds = [plD xs, .int (i : Int), .int (j : Int)] ∧ Good xs ∧ i < xs.length ∧ j < xs.length ∧ P (rowsD (rows (stF xs i j) xs.length))
def S_step_shares : SpecD := S_shares_of
/-! the law's own defs -/
def StOk (os : List PyData) (k : Nat) : Prop := ∃ (a b : Int) (c : Nat), os = [.int a, .int b, .int (c : Int)] ∧ 0 ≤ a ∧ 0 ≤ b ∧ b < 2 ^ 150 ∧ c ≤ k
def S_l_pick : SpecS := fun os ds P => ∃ k m : Nat, StOk os k ∧ k ≤ 10000 ∧ ds = [.int (m : Int)] ∧ 1 ≤ m ∧ m ≤ 100 ∧ ∀ (r : Nat) os', r < m → StOk os' (k + 1) → P (.int (r : Int)) os'
def S_l_word : SpecS := fun os ds P => ∃ k m : Nat, StOk os k ∧ k ≤ 5000 ∧ ds = [.int (m : Int)] ∧ 4 ≤ m ∧ m ≤ 20 ∧ ∀ (ws : List Nat) os', ws.length + 2 = m → (∀ w ∈ ws, w < m) → StOk os' (k + 100) → P (grD ws) os'
def cnt (ws : List Nat) : List Nat := (List.range (ws.length + 2)).map fun v => ws.count v
def S_l_plugs : SpecD := fun ds P => ∃ ws : List Nat, ds = [grD ws] ∧ ws.length ≤ 58 ∧ P (plD (cnt ws))
def S_l_great : SpecS := fun os ds P => ∃ k : Nat, StOk os k ∧ k ≤ 1000 ∧ ds = [.int 20] ∧ ∀ (xs : List Nat) os', Good xs → 4 ≤ xs.length → xs.length ≤ 20 → StOk os' (k + 200) → P (plD xs) os'
def S_l_middle : SpecS := fun os ds P => ∃ k : Nat, StOk os k ∧ k ≤ 1000 ∧ ds = [.int 10] ∧ ∀ (xs : List Nat) os', Good xs → 4 ≤ xs.length → xs.length ≤ 20 → StOk os' (k + 200) → P (plD xs) os'
def S_l_fraction : SpecD := S_lowest
def S_l_sum : SpecD := fun ds P => ∃ l : List (Nat × Nat), ds = [.list (l.map frD)] ∧ l.length ≤ 40 ∧ (∀ p ∈ l, 0 < p.2 ∧ p.1 < 2 ^ 150 ∧ p.2 < 2 ^ 150) ∧ P (lowD (frSum l))
def S_l_without : SpecD := fun ds P => ∃ (xs : List Nat) (e v : Nat), ds = [plD xs, .int (e : Int), .int (v : Int)] ∧ xs.length ≤ 60 ∧ e < xs.length ∧ v < xs.length ∧ 0 < at' xs v ∧ P (plD (dropE xs e v))
def S_l_name : SpecD := fun ds P => ∃ v e : Nat, ds = [.int (v : Int), .int (e : Int)] ∧ P (.int (nm e v : Int))
def S_l_names : SpecD := fun ds P => ∃ (g : List Nat) (e : Nat), ds = [grD g, .int (e : Int)] ∧ g.length ≤ 60 ∧ P (grD (g.map (nm e)))
def S_l_mixed : SpecD := fun ds P => ∃ (l : List ((Nat × Nat) × (Nat → Nat × Nat))) (M : Nat), ds = [.list (l.map fun q => lowD q.1), .list (l.map fun q => rowsD (rows q.2 M))] ∧ l.length ≤ 40 ∧ M ≤ 62 ∧
  (∀ q ∈ l, 0 < q.1.1 ∧ 0 < q.1.2 ∧ q.1.1 < 2 ^ 60 ∧ q.1.2 < 2 ^ 60 ∧ ∀ m, 0 < (q.2 m).2 ∧ (q.2 m).1 < 2 ^ 80 ∧ (q.2 m).2 < 2 ^ 80) ∧
  P (rowsD (rows (fun m => frSum (l.map fun q => (q.1.1 * (q.2 m).1, q.1.2 * (q.2 m).2))) M))
def S_l_weighed : SpecD := fun ds P => ∃ (l : List ((Nat × Nat) × (Nat × Nat))), ds = [.list (l.map fun q => lowD q.1), .list (l.map fun q => lowD q.2)] ∧ l.length ≤ 30 ∧
  (∀ q ∈ l, 0 < q.1.2 ∧ q.1.1 < 2 ^ 60 ∧ q.1.2 < 2 ^ 60 ∧ 0 < q.2.2 ∧ q.2.1 < 2 ^ 80 ∧ q.2.2 < 2 ^ 80) ∧ P (lowD (frSum (l.map fun q => (q.1.1 * q.2.1, q.1.2 * q.2.2))))
/-- the shape of what the law's own look is handed: an end e of a deal -/
structure Endy (xs : List Nat) (e : Nat) : Prop where
  good : Good xs
  least : 4 ≤ xs.length
  most : xs.length ≤ 20
  lt : e < xs.length
  zero : at' xs e = 0
def hostsD (xs : List Nat) : PyData := grD (hosts xs)
def lesserD (xs : List Nat) (e : Nat) : PyData := .list ((hosts xs).map fun v => plD (dropE xs e v))
def sharesD (xs : List Nat) (e : Nat) : PyData := .list ((hosts xs).map fun v => lowD (cabF xs e v))
def S_l_group_right : SpecD := fun ds P => ∃ (xs : List Nat) (e : Nat) (g : List Nat), ds = [plD xs, .int (e : Int), hostsD xs, lesserD xs e, sharesD xs e, grD g] ∧ Endy xs e ∧ Grp xs.length g ∧ e ∉ g ∧ 1 ≤ g.length ∧ P (.bool true)
def S_l_around_right : SpecD := fun ds P => ∃ (xs : List Nat) (e : Nat), ds = [plD xs, .int (e : Int), hostsD xs, lesserD xs e] ∧ Endy xs e ∧ P (.bool true)
def S_l_right : SpecS := fun os ds P => ∃ (k : Nat) (xs : List Nat), StOk os k ∧ k ≤ 2000 ∧ ds = [plD xs] ∧ Good xs ∧ 4 ≤ xs.length ∧ xs.length ≤ 20 ∧ ∀ os', StOk os' (k + 200) → P (.bool true) os'
def sp_l_store (K : PySem.W.Frag) : Sp := fun vs H Q _ => ∃ (a : Addr) (ns : List Int) (k : Int), vs = [.ref a, .int k] ∧ SqL K H a (ns.map V.int) ∧ 0 ≤ k ∧ k < 10 ∧ ∀ (p : Addr) (i j : Int), H p = none → 0 ≤ i → 0 ≤ j → j < 2 ^ 150 → Q (.ref p) (upd H p (.lst [.int i, .int j, .int 0]))
def sp_law (K : PySem.W.Frag) : Sp := fun vs H Q _ => ∃ (a : Addr) (ns : List Int), vs = [.ref a] ∧ SqL K H a (ns.map V.int) ∧ ∀ H', Q (.bl true) H'
def n_is_integer : List Str := ["thing"]
def t_is_integer (K : PySem.W.Frag) : TS :=
  (tRet (tAndV (tCB (rIsi K) (tCons (tVar 0) (tCons (tC (.ty "int")) tNil))) (tNotV (tCB (rIsi K) (tCons (tVar 0) (tCons (tC (.ty "bool")) tNil))))))

def n_is_number : List Str := ["thing"]
def t_is_number (K : PySem.W.Frag) : TS :=
  (tRet (tAndV (tCall (spP S_is_integer) [] E0 (tCons (tVar 0) tNil)) (tChain (rI0 fun i j => .bl (decide (i ≤ j))) (rI0 fun i j => .bl (decide (i ≤ j))) (tC (.int 0)) (tVar 0) (tC (.int 1000000000000000000000000000000)))))

def n_is_plugs : List Str := ["thing", "number"]
def t_is_plugs (K : PySem.W.Frag) : TS :=
  (tSeq (tIfS (tOr (tNot (tB (tCB (rIsi K) (tCons (tVar 0) (tCons (tC (.ty "list")) tNil))))) (tNot (tTest (tChain (rI0 fun i j => .bl (decide (i ≤ j))) (rI0 fun i j => .bl (decide (i ≤ j))) (tC (.int 2)) (tCB (rLenS K) (tCons (tVar 0) tNil)) (tC (.int 60)))))) (tRet (tC (.bl false))) tNext)
    (tRet (tCB (rAll K) (tCons (tLc (iList K (tVar 0)) (gName 1) tYes (tCall (spP S_is_number) [] E0 (tCons (tVar 1) tNil)) [1]) tNil))))

def n_need_plugs : List Str := ["plugs"]
def t_need_plugs (K : PySem.W.Frag) : TS :=
  (tIfS (tNot (tB (tCall (spP S_is_plugs) [] E0 (tCons (tVar 0) tNil)))) tNever tNext)

def n_need_device : List Str := ["plugs", "device"]
def t_need_device (K : PySem.W.Frag) : TS :=
  (tIfS (tNot (tTest (tChain (rI0 fun i j => .bl (decide (i ≤ j))) (rI0 fun i j => .bl (decide (i < j))) (tC (.int 0)) (tVar 1) (tCB (rLenS K) (tCons (tVar 0) tNil))))) tNever tNext)

def n_too_many : List Str := ["plugs"]
def t_too_many (K : PySem.W.Frag) : TS :=
  (tRet (tOp (rI0 fun i j => .int (i + j)) (tOp (rI0 fun i j => .int (i - j)) (tCB (rSum K) (tCons (tVar 0) tNil)) (tOp (rI CMulW fun i j => .int (i * j)) (tC (.int 2)) (tCB (rLenS K) (tCons (tVar 0) tNil)))) (tC (.int 2))))

def n_conflict_in : List Str := ["plugs"]
def t_conflict_in (K : PySem.W.Frag) : TS :=
  (tSeq (tIfS (tTest (tOp (rIn K false) (tC (.int 0)) (tVar 0))) tNever tNext)
    (tRet (tIf (tTest (tOp (rNeD K) (tCall (spP S_too_many) [] E0 (tCons (tVar 0) tNil)) (tC (.int 0)))) (tTup (tCons (tC (.str "sum")) (tCons (tCall (spP S_too_many) [] E0 (tCons (tVar 0) tNil)) tNil))) (tC .non))))

def n_need_net : List Str := ["plugs", "conflict"]
def t_need_net (K : PySem.W.Frag) : TS :=
  (tSeq (tAsg (tCall (spP S_conflict_in) [] E0 (tCons (tVar 0) tNil)) (gName 1))
    (tIfS (tTest (tOp (fun x y H Q => y = .non ∧ Q (.bl (!decide (x = .non))) H) (tVar 1) (tC .non))) tNever tNext))

def n_factorial_of : List Str := ["number", "found", "factor"]
def t_factorial_of (K : PySem.W.Frag) : TS :=
  (tSeq (tAsg (tC (.int 1)) (gName 1))
    (tSeq (tFor (iRng2 (tCons (tC (.int 2)) (tCons (tOp (rI0 fun i j => .int (i + j)) (tVar 0) (tC (.int 1))) tNil))) (gName 2) (tAug 1 (tVar 2) (rI CMulW fun i j => .int (i * j))))
    (tRet (tVar 1))))

def n_nets_of : List Str := ["plugs", "found", "number"]
def t_nets_of (K : PySem.W.Frag) : TS :=
  (tSeq (tAsg (tCall (spP S_factorial_of) [] E0 (tCons (tOp (rI0 fun i j => .int (i - j)) (tCB (rLenS K) (tCons (tVar 0) tNil)) (tC (.int 2))) tNil)) (gName 1))
    (tSeq (tFor (iList K (tVar 0)) (gName 2) (tAug 1 (tCall (spP S_factorial_of) [] E0 (tCons (tOp (rI0 fun i j => .int (i - j)) (tVar 2) (tC (.int 1))) tNil)) (rI CDivW fun i j => .int (i / j))))
    (tRet (tVar 1))))

def n_need_possible : List Str := ["plugs"]
def t_need_possible (K : PySem.W.Frag) : TS :=
  (tSeq (tDrop (tCall (spP S_need_plugs) [] E0 (tCons (tVar 0) tNil)))
    (tDrop (tCall (spP S_need_net) [] E0 (tCons (tVar 0) tNil))))

def n_count_nets : List Str := ["plugs"]
def t_count_nets (K : PySem.W.Frag) : TS :=
  (tSeq (tDrop (tCall (spP S_need_possible) [] E0 (tCons (tVar 0) tNil)))
    (tRet (tCall (spP S_nets_of) [] E0 (tCons (tVar 0) tNil))))

def n_divisor_of : List Str := ["one", "other"]
def t_divisor_of (K : PySem.W.Frag) : TS :=
  (tSeq (tWhile (tTest (tOp (rNeD K) (tVar 1) (tC (.int 0)))) (tPar 0 1 (tCons (tVar 1) (tCons (tOp (rI (fun _ j => 0 < j) fun i j => .int (i % j)) (tVar 0) (tVar 1)) tNil))))
    (tRet (tVar 0)))

def n_lowest : List Str := ["top", "bottom", "divisor"]
def t_lowest (K : PySem.W.Frag) : TS :=
  (tSeq (tAsg (tCall (spP S_divisor_of) [] E0 (tCons (tVar 0) (tCons (tVar 1) tNil))) (gName 2))
    (tRet (tTup (tCons (tOp (rI CDivW fun i j => .int (i / j)) (tVar 0) (tVar 2)) (tCons (tOp (rI CDivW fun i j => .int (i / j)) (tVar 1) (tVar 2)) tNil)))))

def n_share_of_cables : List Str := ["plugs", "one", "two"]
def t_share_of_cables (K : PySem.W.Frag) : TS :=
  (tSeq (tIfS (tTest (tOp (rEqD K) (tVar 1) (tVar 2))) (tRet (tTup (tCons (tC (.int 0)) (tCons (tC (.int 1)) tNil)))) tNext)
    (tSeq (tIfS (tTest (tOp (rEqD K) (tCB (rLenS K) (tCons (tVar 0) tNil)) (tC (.int 2)))) (tRet (tTup (tCons (tC (.int 1)) (tCons (tC (.int 1)) tNil)))) tNext)
    (tRet (tCall (spP S_lowest) [] E0 (tCons (tOp (rI0 fun i j => .int (i - j)) (tOp (rI0 fun i j => .int (i + j)) (tOp (rIx K) (tVar 0) (tVar 1)) (tOp (rIx K) (tVar 0) (tVar 2))) (tC (.int 2))) (tCons (tOp (rI0 fun i j => .int (i - j)) (tCB (rLenS K) (tCons (tVar 0) tNil)) (tC (.int 2))) tNil))))))

def n_need_two : List Str := ["plugs", "one", "two"]
def t_need_two (K : PySem.W.Frag) : TS :=
  (tSeq (tDrop (tCall (spP S_need_plugs) [] E0 (tCons (tVar 0) tNil)))
    (tSeq (tDrop (tCall (spP S_need_device) [] E0 (tCons (tVar 0) (tCons (tVar 1) tNil))))
    (tSeq (tDrop (tCall (spP S_need_device) [] E0 (tCons (tVar 0) (tCons (tVar 2) tNil))))
    (tDrop (tCall (spP S_need_net) [] E0 (tCons (tVar 0) tNil))))))

def n_cable_share : List Str := ["plugs", "one", "two"]
def t_cable_share (K : PySem.W.Frag) : TS :=
  (tSeq (tDrop (tCall (spP S_need_two) [] E0 (tCons (tVar 0) (tCons (tVar 1) (tCons (tVar 2) tNil)))))
    (tRet (tCall (spP S_share_of_cables) [] E0 (tCons (tVar 0) (tCons (tVar 1) (tCons (tVar 2) tNil))))))

def n_choices : List Str := ["many", "taken", "found", "turn"]
def t_choices (K : PySem.W.Frag) : TS :=
  (tSeq (tIfS (tNot (tTest (tChain (rI0 fun i j => .bl (decide (i ≤ j))) (rI0 fun i j => .bl (decide (i ≤ j))) (tC (.int 0)) (tVar 1) (tVar 0)))) (tRet (tC (.int 0))) tNext)
    (tSeq (tAsg (tC (.int 1)) (gName 2))
    (tSeq (tFor (iRng1 (tCons (tCB rMin2 (tCons (tVar 1) (tCons (tOp (rI0 fun i j => .int (i - j)) (tVar 0) (tVar 1)) tNil))) tNil)) (gName 3) (tAsg (tOp (rI CDivW fun i j => .int (i / j)) (tOp (rI CMulW fun i j => .int (i * j)) (tVar 2) (tOp (rI0 fun i j => .int (i - j)) (tVar 0) (tVar 3))) (tOp (rI0 fun i j => .int (i + j)) (tVar 3) (tC (.int 1)))) (gName 2)))
    (tRet (tVar 2)))))

def n_is_group : List Str := ["plugs", "thing", "least", "one", "other"]
def t_is_group (K : PySem.W.Frag) : TS :=
  (tSeq (tIfS (tOr (tNot (tB (tCB (rIsi K) (tCons (tVar 1) (tCons (tC (.ty "list")) tNil))))) (tTest (tOp (rI0 fun i j => .bl (decide (i < j))) (tCB (rLenS K) (tCons (tVar 1) tNil)) (tVar 2)))) (tRet (tC (.bl false))) tNext)
    (tSeq (tIfS (tNot (tB (tCB (rAll K) (tCons (tLc (iList K (tVar 1)) (gName 3) tYes (tAndV (tCall (spP S_is_integer) [] E0 (tCons (tVar 3) tNil)) (tChain (rI0 fun i j => .bl (decide (i ≤ j))) (rI0 fun i j => .bl (decide (i < j))) (tC (.int 0)) (tVar 3) (tCB (rLenS K) (tCons (tVar 0) tNil)))) [3]) tNil)))) (tRet (tC (.bl false))) tNext)
    (tRet (tCB (rAll K) (tCons (tLc (iZip K (tCons (tVar 1) (tCons (tSl (rSlL K) (tVar 1) (tPart (tC (.int 1))) tNoPart) tNil))) (gTup K 2 (gCons (gName 3) (gCons (gName 4) gNil))) tYes (tOp (rI0 fun i j => .bl (decide (i < j))) (tVar 3) (tVar 4)) [3, 4]) tNil)))))

def n_need_group : List Str := ["plugs", "thing", "least"]
def t_need_group (K : PySem.W.Frag) : TS :=
  (tIfS (tNot (tB (tCall (spP S_is_group) [] E0 (tCons (tVar 0) (tCons (tVar 1) (tCons (tVar 2) tNil)))))) tNever tNext)

def n_share_of_around : List Str := ["plugs", "device", "weight", "number", "many"]
def t_share_of_around (K : PySem.W.Frag) : TS :=
  (tSeq (tPar 3 4 (tCons (tOp (rIx K) (tVar 0) (tVar 1)) (tCons (tCB (rLenS K) (tCons (tVar 0) tNil)) tNil)))
    (tRet (tCall (spP S_lowest) [] E0 (tCons (tOp (rI CMulW fun i j => .int (i * j)) (tOp (rI CMulW fun i j => .int (i * j)) (tCall (spP S_factorial_of) [] E0 (tCons (tOp (rI0 fun i j => .int (i - j)) (tOp (rI0 fun i j => .int (i - j)) (tVar 4) (tVar 3)) (tC (.int 2))) tNil)) (tCall (spP S_factorial_of) [] E0 (tCons (tOp (rI0 fun i j => .int (i - j)) (tVar 3) (tC (.int 1))) tNil))) (tVar 2)) (tCons (tCall (spP S_factorial_of) [] E0 (tCons (tOp (rI0 fun i j => .int (i - j)) (tVar 4) (tC (.int 2))) tNil)) tNil)))))

def n_is_full : List Str := ["plugs", "device"]
def t_is_full (K : PySem.W.Frag) : TS :=
  (tRet (tOp (rEqD K) (tOp (rIx K) (tVar 0) (tVar 1)) (tOp (rI0 fun i j => .int (i - j)) (tCB (rLenS K) (tCons (tVar 0) tNil)) (tC (.int 1)))))

def n_weight_of : List Str := ["plugs", "group", "one"]
def t_weight_of (K : PySem.W.Frag) : TS :=
  (tRet (tCB (rSum K) (tCons (tLc (iList K (tVar 1)) (gName 2) tYes (tOp (rI0 fun i j => .int (i - j)) (tOp (rIx K) (tVar 0) (tVar 2)) (tC (.int 1))) [2]) tNil)))

def n_share_around : List Str := ["plugs", "device", "group"]
def t_share_around (K : PySem.W.Frag) : TS :=
  (tSeq (tIfS (tOr (tTest (tOp (rIn K false) (tVar 1) (tVar 2))) (tTest (tOp (rNeD K) (tCB (rLenS K) (tCons (tVar 2) tNil)) (tOp (rIx K) (tVar 0) (tVar 1))))) (tRet (tTup (tCons (tC (.int 0)) (tCons (tC (.int 1)) tNil)))) tNext)
    (tRet (tIf (tB (tCall (spP S_is_full) [] E0 (tCons (tVar 0) (tCons (tVar 1) tNil)))) (tTup (tCons (tC (.int 1)) (tCons (tC (.int 1)) tNil))) (tCall (spP S_share_of_around) [] E0 (tCons (tVar 0) (tCons (tVar 1) (tCons (tCall (spP S_weight_of) [] E0 (tCons (tVar 0) (tCons (tVar 2) tNil))) tNil)))))))

def n_need_centre : List Str := ["plugs", "device", "group"]
def t_need_centre (K : PySem.W.Frag) : TS :=
  (tSeq (tDrop (tCall (spP S_need_plugs) [] E0 (tCons (tVar 0) tNil)))
    (tSeq (tDrop (tCall (spP S_need_device) [] E0 (tCons (tVar 0) (tCons (tVar 1) tNil))))
    (tSeq (tDrop (tCall (spP S_need_group) [] E0 (tCons (tVar 0) (tCons (tVar 2) (tCons (tC (.int 0)) tNil)))))
    (tDrop (tCall (spP S_need_net) [] E0 (tCons (tVar 0) tNil))))))

def n_around_share : List Str := ["plugs", "device", "group"]
def t_around_share (K : PySem.W.Frag) : TS :=
  (tSeq (tDrop (tCall (spP S_need_centre) [] E0 (tCons (tVar 0) (tCons (tVar 1) (tCons (tVar 2) tNil)))))
    (tRet (tCall (spP S_share_around) [] E0 (tCons (tVar 0) (tCons (tVar 1) (tCons (tVar 2) tNil))))))

def n_need_gathered : List Str := ["plugs", "group"]
def t_need_gathered (K : PySem.W.Frag) : TS :=
  (tSeq (tDrop (tCall (spP S_need_plugs) [] E0 (tCons (tVar 0) tNil)))
    (tSeq (tDrop (tCall (spP S_need_group) [] E0 (tCons (tVar 0) (tCons (tVar 1) (tCons (tC (.int 1)) tNil)))))
    (tDrop (tCall (spP S_need_net) [] E0 (tCons (tVar 0) tNil)))))

def n_tops_within : List Str := ["size", "total", "many", "rows", "number", "row"]
def t_tops_within (K : PySem.W.Frag) : TS :=
  (tSeq (tIfS (tTest (tOp (rEqD K) (tVar 0) (tVar 2))) (tRet (tTup (tCons (tLst (tCons (tTup (tCons (tOp (rI0 fun i j => .int (i - j)) (tVar 2) (tC (.int 1))) (tCons (tC (.int 1)) tNil))) tNil)) (tCons (tC (.int 1)) tNil)))) tNext)
    (tSeq (tAsg (tLc (iRng1 (tCons (tVar 0) tNil)) (gName 4) tYes (tTup (tCons (tVar 4) (tCons (tOp (rI CMulW fun i j => .int (i * j)) (tCall (spP S_choices) [] E0 (tCons (tOp (rI0 fun i j => .int (i - j)) (tVar 0) (tC (.int 1))) (tCons (tVar 4) tNil))) (tCall (spP S_choices) [] E0 (tCons (tOp (rI0 fun i j => .int (i - j)) (tOp (rI0 fun i j => .int (i - j)) (tVar 2) (tVar 0)) (tC (.int 1))) (tCons (tOp (rI0 fun i j => .int (i - j)) (tOp (rI0 fun i j => .int (i - j)) (tVar 1) (tVar 0)) (tVar 4)) tNil)))) tNil))) [4]) (gName 3))
    (tRet (tTup (tCons (tLc (iList K (tVar 3)) (gName 5) (tTest (tOp (rI0 fun i j => .bl (decide (j < i))) (tOp (rIx K) (tVar 5) (tC (.int 1))) (tC (.int 0)))) (tVar 5) [5]) (tCons (tCall (spP S_choices) [] E0 (tCons (tOp (rI0 fun i j => .int (i - j)) (tVar 2) (tC (.int 2))) (tCons (tOp (rI0 fun i j => .int (i - j)) (tVar 1) (tVar 0)) tNil))) tNil))))))

def n_tops_of_group : List Str := ["plugs", "group", "device"]
def t_tops_of_group (K : PySem.W.Frag) : TS :=
  (tRet (tCall (spP S_tops_within) [] E0 (tCons (tCB (rLenS K) (tCons (tVar 1) tNil)) (tCons (tCB (rSum K) (tCons (tLc (iList K (tVar 1)) (gName 2) tYes (tOp (rIx K) (tVar 0) (tVar 2)) [2]) tNil)) (tCons (tCB (rLenS K) (tCons (tVar 0) tNil)) tNil)))))

def n_within_shares : List Str := ["plugs", "group", "rows", "bottom", "number", "top"]
def t_within_shares (K : PySem.W.Frag) : TS :=
  (tSeq (tDrop (tCall (spP S_need_gathered) [] E0 (tCons (tVar 0) (tCons (tVar 1) tNil))))
    (tSeq (tAsg (tCall (spP S_tops_of_group) [] E0 (tCons (tVar 0) (tCons (tVar 1) tNil))) (gTup K 2 (gCons (gName 2) (gCons (gName 3) gNil))))
    (tRet (tLc (iList K (tVar 2)) (gTup K 2 (gCons (gName 4) (gCons (gName 5) gNil))) tYes (tTup (tCons (tVar 4) (StX.tStar K (tCall (spP S_lowest) [] E0 (tCons (tVar 5) (tCons (tVar 3) tNil))) tNil))) [4, 5]))))

def n_together_share : List Str := ["plugs", "group", "rows", "bottom"]
def t_together_share (K : PySem.W.Frag) : TS :=
  (tSeq (tDrop (tCall (spP S_need_gathered) [] E0 (tCons (tVar 0) (tCons (tVar 1) tNil))))
    (tSeq (tAsg (tCall (spP S_tops_of_group) [] E0 (tCons (tVar 0) (tCons (tVar 1) tNil))) (gTup K 2 (gCons (gName 2) (gCons (gName 3) gNil))))
    (tRet (tIf (tTest (tOp (rEqD K) (tOp (rIx K) (tOp (rIx K) (tVar 2) (tUn (rU fun i => .int (-i)) (tC (.int 1)))) (tC (.int 0))) (tOp (rI0 fun i j => .int (i - j)) (tCB (rLenS K) (tCons (tVar 1) tNil)) (tC (.int 1))))) (tCall (spP S_lowest) [] E0 (tCons (tOp (rIx K) (tOp (rIx K) (tVar 2) (tUn (rU fun i => .int (-i)) (tC (.int 1)))) (tC (.int 1))) (tCons (tVar 3) tNil))) (tTup (tCons (tC (.int 0)) (tCons (tC (.int 1)) tNil)))))))

def n_is_side : List Str := ["plugs", "group", "device"]
def t_is_side (K : PySem.W.Frag) : TS :=
  (tRet (tAndV (tOp (rI0 fun i j => .bl (decide (i < j))) (tCB (rLenS K) (tCons (tVar 1) tNil)) (tCB (rLenS K) (tCons (tVar 0) tNil))) (tOp (rEqD K) (tCB (rSum K) (tCons (tLc (iList K (tVar 1)) (gName 2) tYes (tOp (rIx K) (tVar 0) (tVar 2)) [2]) tNil)) (tOp (rI0 fun i j => .int (i - j)) (tOp (rI CMulW fun i j => .int (i * j)) (tC (.int 2)) (tCB (rLenS K) (tCons (tVar 1) tNil))) (tC (.int 1))))))

def n_side_share : List Str := ["plugs", "group"]
def t_side_share (K : PySem.W.Frag) : TS :=
  (tSeq (tDrop (tCall (spP S_need_gathered) [] E0 (tCons (tVar 0) (tCons (tVar 1) tNil))))
    (tRet (tIf (tB (tCall (spP S_is_side) [] E0 (tCons (tVar 0) (tCons (tVar 1) tNil)))) (tTup (tCons (tC (.int 1)) (tCons (tCall (spP S_choices) [] E0 (tCons (tOp (rI0 fun i j => .int (i - j)) (tCB (rLenS K) (tCons (tVar 0) tNil)) (tC (.int 2))) (tCons (tOp (rI0 fun i j => .int (i - j)) (tCB (rLenS K) (tCons (tVar 1) tNil)) (tC (.int 1))) tNil))) tNil))) (tTup (tCons (tC (.int 0)) (tCons (tC (.int 1)) tNil))))))

def n_path_sums : List Str := ["numbers", "products", "sums", "number", "size"]
def t_path_sums (K : PySem.W.Frag) : TS :=
  (tSeq (tPar 1 2 (tCons (tOp rCat (tLst (tCons (tC (.int 1)) tNil)) (tOp rRep (tLst (tCons (tC (.int 0)) tNil)) (tCB (rLenS K) (tCons (tVar 0) tNil)))) (tCons (tOp rRep (tLst (tCons (tC (.int 0)) tNil)) (tOp (rI0 fun i j => .int (i + j)) (tCB (rLenS K) (tCons (tVar 0) tNil)) (tC (.int 1)))) tNil)))
    (tSeq (tFor (iList K (tVar 0)) (gName 3) (tFor (iRng3 (tCons (tCB (rLenS K) (tCons (tVar 0) tNil)) (tCons (tC (.int 0)) (tCons (tUn (rU fun i => .int (-i)) (tC (.int 1))) tNil)))) (gName 4) (tSeq (tAugS (tVar 2) (tVar 4) (tOp (rI CMulW fun i j => .int (i * j)) (tOp (rI0 fun i j => .int (i + j)) (tOp (rIx K) (tVar 2) (tOp (rI0 fun i j => .int (i - j)) (tVar 4) (tC (.int 1)))) (tOp (rI CMulW fun i j => .int (i * j)) (tVar 3) (tOp (rIx K) (tVar 1) (tOp (rI0 fun i j => .int (i - j)) (tVar 4) (tC (.int 1)))))) (tOp (rI0 fun i j => .int (i - j)) (tVar 3) (tC (.int 1)))) (rIxL K) (ipI fun i j => i + j) rSetL)
    (tAugS (tVar 1) (tVar 4) (tOp (rI CMulW fun i j => .int (i * j)) (tOp (rIx K) (tVar 1) (tOp (rI0 fun i j => .int (i - j)) (tVar 4) (tC (.int 1)))) (tOp (rI0 fun i j => .int (i - j)) (tVar 3) (tC (.int 1)))) (rIxL K) (ipI fun i j => i + j) rSetL))))
    (tRet (tTup (tCons (tVar 1) (tCons (tVar 2) tNil))))))

def n_is_line : List Str := ["plugs", "one", "two"]
def t_is_line (K : PySem.W.Frag) : TS :=
  (tRet (tAndV (tChain (rEqD K) (rEqD K) (tOp (rIx K) (tVar 0) (tVar 1)) (tOp (rIx K) (tVar 0) (tVar 2)) (tC (.int 1))) (tOp (rEqD K) (tSl (rSlL K) (tCB (rSortedI K) (tCons (tVar 0) tNil)) (tPart (tC (.int 2))) tNoPart) (tOp rRep (tLst (tCons (tC (.int 2)) tNil)) (tOp (rI0 fun i j => .int (i - j)) (tCB (rLenS K) (tCons (tVar 0) tNil)) (tC (.int 2)))))))

def n_tops_of : List Str := ["plugs", "one", "two", "many", "others", "products", "sums", "found", "steps", "total", "device", "number"]
def t_tops_of (K : PySem.W.Frag) : TS :=
  (tSeq (tAsg (tCB (rLenS K) (tCons (tVar 0) tNil)) (gName 3))
    (tSeq (tAsg (tLc (iEnum K (tCons (tVar 0) tNil)) (gTup K 2 (gCons (gName 10) (gCons (gName 11) gNil))) (tTest (tOp (rIn K true) (tVar 10) (tTup (tCons (tVar 1) (tCons (tVar 2) tNil))))) (tVar 11) [10, 11]) (gName 4))
    (tSeq (tAsg (tCall (spP S_path_sums) [] E0 (tCons (tVar 4) tNil)) (gTup K 2 (gCons (gName 5) (gCons (gName 6) gNil))))
    (tSeq (tAsg (tLst (tCons (tC (.int 0)) tNil)) (gName 7))
    (tSeq (tFor (iRng2 (tCons (tC (.int 1)) (tCons (tOp (rI0 fun i j => .int (i - j)) (tVar 3) (tC (.int 1))) tNil))) (gName 8) (tSeq (tAsg (tOp (rI0 fun i j => .int (i + j)) (tOp (rI CMulW fun i j => .int (i * j)) (tOp (rI0 fun i j => .int (i - j)) (tOp (rI0 fun i j => .int (i + j)) (tOp (rIx K) (tVar 0) (tVar 1)) (tOp (rIx K) (tVar 0) (tVar 2))) (tOp (rI CMulW fun i j => .int (i * j)) (tC (.int 2)) (tVar 8))) (tOp (rIx K) (tVar 5) (tOp (rI0 fun i j => .int (i - j)) (tVar 8) (tC (.int 1))))) (tOp (rIx K) (tVar 6) (tOp (rI0 fun i j => .int (i - j)) (tVar 8) (tC (.int 1))))) (gName 9))
    (tDrop (tBM K "list" rAppend (tVar 7) (tCons (tOp (rI CMulW fun i j => .int (i * j)) (tOp (rI CMulW fun i j => .int (i * j)) (tCall (spP S_factorial_of) [] E0 (tCons (tOp (rI0 fun i j => .int (i - j)) (tOp (rI0 fun i j => .int (i - j)) (tVar 3) (tVar 8)) (tC (.int 2))) tNil)) (tCall (spP S_factorial_of) [] E0 (tCons (tOp (rI0 fun i j => .int (i - j)) (tVar 8) (tC (.int 1))) tNil))) (tVar 9)) tNil)))))
    (tRet (tLst (StX.tStar K (tVar 7) (tCons (tIf (tB (tCall (spP S_is_line) [] E0 (tCons (tVar 0) (tCons (tVar 1) (tCons (tVar 2) tNil))))) (tCall (spP S_factorial_of) [] E0 (tCons (tOp (rI0 fun i j => .int (i - j)) (tVar 3) (tC (.int 2))) tNil)) (tC (.int 0))) tNil)))))))))

def n_shares_of : List Str := ["plugs", "one", "two", "bottom", "steps", "top"]
def t_shares_of (K : PySem.W.Frag) : TS :=
  (tSeq (tIfS (tTest (tOp (rEqD K) (tVar 1) (tVar 2))) (tRet (tLst (tCons (tTup (tCons (tC (.int 0)) (tCons (tC (.int 1)) (tCons (tC (.int 1)) tNil)))) tNil))) tNext)
    (tSeq (tAsg (tCall (spP S_factorial_of) [] E0 (tCons (tOp (rI0 fun i j => .int (i - j)) (tCB (rLenS K) (tCons (tVar 0) tNil)) (tC (.int 2))) tNil)) (gName 3))
    (tRet (tLc (iEnum K (tCons (tCall (spP S_tops_of) [] E0 (tCons (tVar 0) (tCons (tVar 1) (tCons (tVar 2) tNil)))) tNil)) (gTup K 2 (gCons (gName 4) (gCons (gName 5) gNil))) (tTest (tOp (rI0 fun i j => .bl (decide (j < i))) (tVar 5) (tC (.int 0)))) (tTup (tCons (tVar 4) (StX.tStar K (tCall (spP S_lowest) [] E0 (tCons (tVar 5) (tCons (tVar 3) tNil))) tNil))) [4, 5]))))

def n_step_shares : List Str := ["plugs", "one", "two"]
def t_step_shares (K : PySem.W.Frag) : TS :=
  (tSeq (tDrop (tCall (spP S_need_two) [] E0 (tCons (tVar 0) (tCons (tVar 1) (tCons (tVar 2) tNil)))))
    (tRet (tCall (spP S_shares_of) [] E0 (tCons (tVar 0) (tCons (tVar 1) (tCons (tVar 2) tNil))))))

def n_l_store : List Str := ["_law_script", "_law_k", "_law_cell"]
def t_l_store (K : PySem.W.Frag) : TS :=
  (tSeq (tAsg (tIf (tTest (tOp (rI0 fun i j => .bl (decide (i < j))) (tVar 1) (tCB (rLenS K) (tCons (tVar 0) tNil)))) (tCB rAbs (tCons (tOp (rIx K) (tVar 0) (tVar 1)) tNil)) (tC (.int 0))) (gName 2))
    (tRet (tLst (tCons (tCB rMax2 (tCons (tC (.int 0)) (tCons (tOp (rI0 fun i j => .int (i - j)) (tVar 2) (tOp (rI CPowW fun i j => .int (i ^ j.toNat)) (tC (.int 10)) (tC (.int 18)))) tNil))) (tCons (tOp (rI0 fun i j => .int (i + j)) (tOp (rI CMulW fun i j => .int (i * j)) (tOp (rI (fun _ j => 0 < j) fun i j => .int (i % j)) (tCB rInt1 (tCons (tVar 2) tNil)) (tOp (rI0 fun i j => .int (i + j)) (tOp (rI CPowW fun i j => .int (i ^ j.toNat)) (tC (.int 10)) (tC (.int 37))) (tC (.int 43)))) (tC (.int 83))) (tOp (rI CMulW fun i j => .int (i * j)) (tC (.int 7)) (tVar 1))) (tCons (tC (.int 0)) tNil))))))

def n_l_pick : List Str := ["_law_store_here", "_law_many", "_law_digit", "_law_mixed_here"]
def t_l_pick (K : PySem.W.Frag) : TS :=
  (tSeq (tIfS (tTest (tOp (rI0 fun i j => .bl (decide (j < i))) (tOp (rIx K) (tVar 0) (tC (.int 0))) (tC (.int 0)))) (tSeq (tAsg (tOp (rI (fun _ j => 0 < j) fun i j => .int (i % j)) (tCB rInt1 (tCons (tOp (rIx K) (tVar 0) (tC (.int 0))) tNil)) (tVar 1)) (gName 2))
    (tSeq (tAsg (tOp (rI CDivW fun i j => .int (i / j)) (tOp (rIx K) (tVar 0) (tC (.int 0))) (tVar 1)) (gSub (tVar 0) (tC (.int 0)) rSetL))
    (tRet (tVar 2)))) tNext)
    (tSeq (tAsg (tOp (rI0 fun i j => .int (i + j)) (tOp (rIx K) (tVar 0) (tC (.int 2))) (tC (.int 1))) (gSub (tVar 0) (tC (.int 2)) rSetL))
    (tSeq (tAsg (tOp (rI (fun _ j => 0 < j) fun i j => .int (i % j)) (tCB rInt1 (tCons (tOp (rI CPowW fun i j => .int (i ^ j.toNat)) (tOp (rI0 fun i j => .int (i + j)) (tOp (rIx K) (tVar 0) (tC (.int 1))) (tOp (rI CMulW fun i j => .int (i * j)) (tC (.int 32416187567)) (tOp (rIx K) (tVar 0) (tC (.int 2))))) (tC (.int 3))) tNil)) (tOp (rI0 fun i j => .int (i + j)) (tOp (rI CPowW fun i j => .int (i ^ j.toNat)) (tC (.int 10)) (tC (.int 40))) (tC (.int 121)))) (gName 3))
    (tSeq (tAsg (tOp (rI (fun _ j => 0 < j) fun i j => .int (i % j)) (tCB rInt1 (tCons (tOp (rI CPowW fun i j => .int (i ^ j.toNat)) (tOp (rI0 fun i j => .int (i + j)) (tVar 3) (tOp (rI CMulW fun i j => .int (i * j)) (tC (.int 27644437)) (tOp (rIx K) (tVar 0) (tC (.int 2))))) (tC (.int 3))) tNil)) (tOp (rI0 fun i j => .int (i + j)) (tOp (rI CPowW fun i j => .int (i ^ j.toNat)) (tC (.int 10)) (tC (.int 39))) (tC (.int 3)))) (gName 3))
    (tRet (tOp (rI (fun _ j => 0 < j) fun i j => .int (i % j)) (tCB rInt1 (tCons (tOp (rI CDivW fun i j => .int (i / j)) (tVar 3) (tC (.int 16381))) tNil)) (tVar 1)))))))

def n_l_word : List Str := ["_law_store_here", "_law_many", "_law_bent", "_law_found", "_law_few", "_law_left", "_law_turn"]
def t_l_word (K : PySem.W.Frag) : TS :=
  (tSeq (tPar 2 3 (tCons (tCall (spS S_l_pick) [] E0 (tCons (tVar 0) (tCons (tC (.int 5)) tNil))) (tCons (tLst tNil) tNil)))
    (tSeq (tAsg (tLst (tCons (tCall (spS S_l_pick) [] E0 (tCons (tVar 0) (tCons (tVar 1) tNil))) (tCons (tCall (spS S_l_pick) [] E0 (tCons (tVar 0) (tCons (tVar 1) tNil))) (tCons (tCall (spS S_l_pick) [] E0 (tCons (tVar 0) (tCons (tVar 1) tNil))) tNil)))) (gName 4))
    (tSeq (tAsg (tLstRg (tRg1 (tVar 1))) (gName 5))
    (tSeq (tFor (iRng1 (tCons (tOp (rI0 fun i j => .int (i - j)) (tVar 1) (tC (.int 2))) tNil)) (gName 6) (tIfS (tTest (tOp (rEqD K) (tVar 2) (tC (.int 0)))) (tDrop (tBM K "list" rAppend (tVar 3) (tCons (tOp (rIx K) (tVar 4) (tC (.int 0))) tNil))) (tIfS (tTest (tOp (rEqD K) (tVar 2) (tC (.int 1)))) (tDrop (tBM K "list" rAppend (tVar 3) (tCons (tOp (rIx K) (tVar 4) (tCall (spS S_l_pick) [] E0 (tCons (tVar 0) (tCons (tC (.int 3)) tNil)))) tNil))) (tIfS (tTest (tOp (rEqD K) (tVar 2) (tC (.int 2)))) (tDrop (tBM K "list" rAppend (tVar 3) (tCons (tBM K "list" rPopAt (tVar 5) (tCons (tCall (spS S_l_pick) [] E0 (tCons (tVar 0) (tCons (tCB (rLenS K) (tCons (tVar 5) tNil)) tNil))) tNil)) tNil))) (tDrop (tBM K "list" rAppend (tVar 3) (tCons (tOp (rIx K) (tLst (tCons (tOp (rIx K) (tVar 4) (tC (.int 0))) (tCons (tCall (spS S_l_pick) [] E0 (tCons (tVar 0) (tCons (tVar 1) tNil))) tNil))) (tCB rInt1 (tCons (tOp (rI0 fun i j => .bl (decide (j < i))) (tCall (spS S_l_pick) [] E0 (tCons (tVar 0) (tCons (tVar 2) tNil))) (tC (.int 0))) tNil))) tNil)))))))
    (tRet (tVar 3))))))

def n_l_plugs : List Str := ["_law_word_here", "_law_who"]
def t_l_plugs (K : PySem.W.Frag) : TS :=
  (tRet (tLc (iRng1 (tCons (tOp (rI0 fun i j => .int (i + j)) (tCB (rLenS K) (tCons (tVar 0) tNil)) (tC (.int 2))) tNil)) (gName 1) tYes (tOp (rI0 fun i j => .int (i + j)) (tBM K "list" (rCntI K) (tVar 0) (tCons (tVar 1) tNil)) (tC (.int 1))) [1]))

def n_l_great : List Str := ["_law_store_here", "_law_most", "_law_many", "_law_bent", "_law_hub", "_law_least", "_law_found", "_law_spot"]
def t_l_great (K : PySem.W.Frag) : TS :=
  (tSeq (tAsg (tOp (rIx K) (tLst (tCons (tVar 1) (tCons (tOp (rI0 fun i j => .int (i + j)) (tC (.int 8)) (tCall (spS S_l_pick) [] E0 (tCons (tVar 0) (tCons (tOp (rI0 fun i j => .int (i - j)) (tVar 1) (tC (.int 7))) tNil)))) tNil))) (tCall (spS S_l_pick) [] E0 (tCons (tVar 0) (tCons (tC (.int 2)) tNil)))) (gName 2))
    (tSeq (tAsg (tCall (spS S_l_pick) [] E0 (tCons (tVar 0) (tCons (tC (.int 8)) tNil))) (gName 3))
    (tSeq (tIfS (tTest (tOp (rI0 fun i j => .bl (decide (j < i))) (tVar 3) (tC (.int 2)))) (tRet (tCall (spP S_l_plugs) [] E0 (tCons (tCall (spS S_l_word) [] E0 (tCons (tVar 0) (tCons (tVar 2) tNil))) tNil))) tNext)
    (tSeq (tPar 4 5 (tCons (tCall (spS S_l_pick) [] E0 (tCons (tVar 0) (tCons (tVar 2) tNil))) (tCons (tCall (spS S_l_pick) [] E0 (tCons (tVar 0) (tCons (tOp (rI0 fun i j => .int (i - j)) (tVar 2) (tC (.int 2))) tNil))) tNil)))
    (tSeq (tAsg (tOp rRep (tLst (tCons (tC (.int 1)) tNil)) (tVar 2)) (gName 6))
    (tSeq (tFor (iRng1 (tCons (tOp (rIx K) (tLst (tCons (tOp (rI0 fun i j => .int (i - j)) (tVar 2) (tC (.int 2))) (tCons (tC (.int 0)) (tCons (tVar 5) tNil)))) (tVar 3)) tNil)) (gName 7) (tAsg (tC (.int 2)) (gSub (tVar 6) (tOp (rI (fun _ j => 0 < j) fun i j => .int (i % j)) (tCB rInt1 (tCons (tOp (rI0 fun i j => .int (i + j)) (tOp (rI0 fun i j => .int (i + j)) (tVar 4) (tC (.int 1))) (tVar 7)) tNil)) (tVar 2)) rSetL)))
    (tSeq (tAsg (tC (.int 0)) (gSub (tVar 6) (tVar 4) rSetL))
    (tSeq (tAsg (tCB rMax2 (tCons (tC (.int 1)) (tCons (tOp (rI0 fun i j => .int (i - j)) (tOp (rI0 fun i j => .int (i - j)) (tOp (rI CMulW fun i j => .int (i * j)) (tC (.int 2)) (tVar 2)) (tC (.int 2))) (tCB (rSum K) (tCons (tVar 6) tNil))) tNil))) (gSub (tVar 6) (tVar 4) rSetL))
    (tRet (tVar 6))))))))))

def n_l_middle : List Str := ["_law_store_here", "_law_most"]
def t_l_middle (K : PySem.W.Frag) : TS :=
  (tRet (tCall (spP S_l_plugs) [] E0 (tCons (tCall (spS S_l_word) [] E0 (tCons (tVar 0) (tCons (tOp (rI0 fun i j => .int (i + j)) (tC (.int 4)) (tCall (spS S_l_pick) [] E0 (tCons (tVar 0) (tCons (tOp (rI0 fun i j => .int (i - j)) (tVar 1) (tC (.int 3))) tNil)))) tNil))) tNil)))

def n_l_fraction : List Str := ["_law_top", "_law_bottom", "_law_one_here", "_law_other_here"]
def t_l_fraction (K : PySem.W.Frag) : TS :=
  (tSeq (tPar 2 3 (tCons (tVar 0) (tCons (tVar 1) tNil)))
    (tSeq (tWhile (tTest (tOp (rI0 fun i j => .bl (decide (j < i))) (tVar 3) (tC (.int 0)))) (tPar 2 3 (tCons (tVar 3) (tCons (tOp (rI (fun _ j => 0 < j) fun i j => .int (i % j)) (tCB rInt1 (tCons (tVar 2) tNil)) (tVar 3)) tNil))))
    (tRet (tTup (tCons (tOp (rI CDivW fun i j => .int (i / j)) (tVar 0) (tVar 2)) (tCons (tOp (rI CDivW fun i j => .int (i / j)) (tVar 1) (tVar 2)) tNil))))))

def n_l_sum : List Str := ["_law_parts", "_law_top", "_law_bottom", "_law_one_here", "_law_other_here"]
def t_l_sum (K : PySem.W.Frag) : TS :=
  (tSeq (tAsg (tTup (tCons (tC (.int 0)) (tCons (tC (.int 1)) tNil))) (gTup K 2 (gCons (gName 1) (gCons (gName 2) gNil))))
    (tSeq (tFor (iList K (tVar 0)) (gTup K 2 (gCons (gName 3) (gCons (gName 4) gNil))) (tAsg (tCall (spP S_l_fraction) [] E0 (tCons (tOp (rI0 fun i j => .int (i + j)) (tOp (rI CMulW fun i j => .int (i * j)) (tVar 1) (tVar 4)) (tOp (rI CMulW fun i j => .int (i * j)) (tVar 3) (tVar 2))) (tCons (tOp (rI CMulW fun i j => .int (i * j)) (tVar 2) (tVar 4)) tNil))) (gTup K 2 (gCons (gName 1) (gCons (gName 2) gNil)))))
    (tRet (tTup (tCons (tVar 1) (tCons (tVar 2) tNil))))))

def n_l_without : List Str := ["_law_deal", "_law_end", "_law_who", "_law_found"]
def t_l_without (K : PySem.W.Frag) : TS :=
  (tSeq (tAsg (tCB (rListS K) (tCons (tVar 0) tNil)) (gName 3))
    (tSeq (tAsg (tOp (rI0 fun i j => .int (i - j)) (tOp (rIx K) (tVar 3) (tVar 2)) (tC (.int 1))) (gSub (tVar 3) (tVar 2) rSetL))
    (tRet (tOp rCat (tSl (rSlL K) (tVar 3) tNoPart (tPart (tVar 1))) (tSl (rSlL K) (tVar 3) (tPart (tOp (rI0 fun i j => .int (i + j)) (tVar 1) (tC (.int 1)))) tNoPart)))))

def n_l_name : List Str := ["_law_who", "_law_end"]
def t_l_name (K : PySem.W.Frag) : TS :=
  (tRet (tOp (rI0 fun i j => .int (i - j)) (tVar 0) (tCB rInt1 (tCons (tOp (rI0 fun i j => .bl (decide (j < i))) (tVar 0) (tVar 1)) tNil))))

def n_l_names : List Str := ["_law_some", "_law_end", "_law_who"]
def t_l_names (K : PySem.W.Frag) : TS :=
  (tRet (tLc (iList K (tVar 0)) (gName 2) tYes (tCall (spP S_l_name) [] E0 (tCons (tVar 2) (tCons (tVar 1) tNil))) [2]))

def n_l_mixed : List Str := ["_law_shares_here", "_law_rows", "_law_parts", "_law_share_here", "_law_row", "_law_many", "_law_top", "_law_bottom", "_law_found", "_law_whole"]
def t_l_mixed (K : PySem.W.Frag) : TS :=
  (tSeq (tAsg tDNewK (gName 2))
    (tSeq (tFor (iZip K (tCons (tVar 0) (tCons (tVar 1) tNil))) (gTup K 2 (gCons (gName 3) (gCons (gName 4) gNil))) (tFor (iList K (tVar 4)) (gTup K 3 (gCons (gName 5) (gCons (gName 6) (gCons (gName 7) gNil)))) (sDPut (tVar 2) (tVar 5) (tOp rCat (tDGet2 (tVar 2) (tVar 5) (tLst tNil)) (tLst (tCons (tTup (tCons (tOp (rI CMulW fun i j => .int (i * j)) (tVar 6) (tOp (rIx K) (tVar 3) (tC (.int 0)))) (tCons (tOp (rI CMulW fun i j => .int (i * j)) (tVar 7) (tOp (rIx K) (tVar 3) (tC (.int 1)))) tNil))) tNil))))))
    (tSeq (tAsg (tLst tNil) (gName 8))
    (tSeq (tFor (iList K (tCB rSortedDI (tCons (tVar 2) tNil))) (gName 5) (tSeq (tAsg (tCall (spP S_l_sum) [] E0 (tCons (tDGet (tVar 2) (tVar 5)) tNil)) (gName 9))
    (tDrop (tBM K "list" rAppend (tVar 8) (tCons (tTup (tCons (tVar 5) (tCons (tOp (rIx K) (tVar 9) (tC (.int 0))) (tCons (tOp (rIx K) (tVar 9) (tC (.int 1))) tNil)))) tNil)))))
    (tRet (tVar 8))))))

def n_l_weighed : List Str := ["_law_shares_here", "_law_parts", "_law_one", "_law_two"]
def t_l_weighed (K : PySem.W.Frag) : TS :=
  (tRet (tCall (spP S_l_sum) [] E0 (tCons (tOp rCat (tLst (tCons (tTup (tCons (tC (.int 0)) (tCons (tC (.int 1)) tNil))) tNil)) (tLc (iZip K (tCons (tVar 0) (tCons (tVar 1) tNil))) (gTup K 2 (gCons (gName 2) (gCons (gName 3) gNil))) tYes (tTup (tCons (tOp (rI CMulW fun i j => .int (i * j)) (tOp (rIx K) (tVar 2) (tC (.int 0))) (tOp (rIx K) (tVar 3) (tC (.int 0)))) (tCons (tOp (rI CMulW fun i j => .int (i * j)) (tOp (rIx K) (tVar 2) (tC (.int 1))) (tOp (rIx K) (tVar 3) (tC (.int 1)))) tNil))) [2, 3])) tNil)))

def n_l_right : List Str := ["_law_store_here", "_law_deal", "_law_many", "_law_ends", "_law_end", "_law_hosts", "_law_lesser", "_law_shares_here", "_law_others", "_law_left", "_law_right_here", "_law_rows", "_law_further", "_law_some", "_law_who", "_law_one_here", "_law_row", "_law_far", "_law_top", "_law_bottom", "_law_turn"]
def t_l_right (K : PySem.W.Frag) (w : World) : TS :=
  (tSeq (tAsg (tCB (rLenS K) (tCons (tVar 1) tNil)) (gName 2))
    (tSeq (tAsg (tLc (iRng1 (tCons (tVar 2) tNil)) (gName 14) (tTest (tOp (rEqD K) (tOp (rIx K) (tVar 1) (tVar 14)) (tC (.int 1)))) (tVar 14) [14]) (gName 3))
    (tSeq (tAsg (tOp (rIx K) (tVar 3) (tCall (spS S_l_pick) [] E0 (tCons (tVar 0) (tCons (tCB (rLenS K) (tCons (tVar 3) tNil)) tNil)))) (gName 4))
    (tSeq (tAsg (tLc (iRng1 (tCons (tVar 2) tNil)) (gName 14) (tTest (tOp (rI0 fun i j => .bl (decide (j < i))) (tOp (rIx K) (tCall (spP S_cable_share) [] E0 (tCons (tVar 1) (tCons (tVar 4) (tCons (tVar 14) tNil)))) (tC (.int 0))) (tC (.int 0)))) (tVar 14) [14]) (gName 5))
    (tSeq (tAsg (tLc (iList K (tVar 5)) (gName 14) tYes (tCall (spP S_l_without) [] E0 (tCons (tVar 1) (tCons (tVar 4) (tCons (tVar 14) tNil)))) [14]) (gName 6))
    (tSeq (tAsg (tLc (iList K (tVar 5)) (gName 14) tYes (tCall (spP S_cable_share) [] E0 (tCons (tVar 1) (tCons (tVar 4) (tCons (tVar 14) tNil)))) [14]) (gName 7))
    (tSeq (tIfS (tTest (tOp (rNeD K) (tCB (rSum K) (tCons (tLc (iList K (tVar 6)) (gName 15) tYes (tCall (spP S_count_nets) [] E0 (tCons (tVar 15) tNil)) [15]) tNil)) (tCall (spP S_count_nets) [] E0 (tCons (tVar 1) tNil)))) (tRet (tC (.bl false))) tNext)
    (tSeq (tAsg (tLc (iRng1 (tCons (tVar 2) tNil)) (gName 14) (tTest (tOp (rNeD K) (tVar 14) (tVar 4))) (tVar 14) [14]) (gName 8))
    (tSeq (tAsg (tTup (tCons (tOp (rIx K) (tVar 8) (tCall (spS S_l_pick) [] E0 (tCons (tVar 0) (tCons (tOp (rI0 fun i j => .int (i - j)) (tVar 2) (tC (.int 1))) tNil)))) (tCons (tOp (rIx K) (tVar 8) (tCall (spS S_l_pick) [] E0 (tCons (tVar 0) (tCons (tOp (rI0 fun i j => .int (i - j)) (tVar 2) (tC (.int 1))) tNil)))) tNil))) (gTup K 2 (gCons (gName 9) (gCons (gName 10) gNil))))
    (tSeq (tAsg (tLc (iList K (tVar 6)) (gName 15) tYes (tCall (spP S_step_shares) [] E0 (tCons (tVar 15) (tCons (tCall (spP S_l_name) [] E0 (tCons (tVar 9) (tCons (tVar 4) tNil))) (tCons (tCall (spP S_l_name) [] E0 (tCons (tVar 10) (tCons (tVar 4) tNil))) tNil)))) [15]) (gName 11))
    (tSeq (tIfS (tTest (tOp (rNeD K) (tCall (spP S_step_shares) [] E0 (tCons (tVar 1) (tCons (tVar 9) (tCons (tVar 10) tNil)))) (tCall (spP S_l_mixed) [] E0 (tCons (tVar 7) (tCons (tVar 11) tNil))))) (tRet (tC (.bl false))) tNext)
    (tSeq (tAsg (tLc (iZip K (tCons (tVar 6) (tCons (tVar 5) tNil))) (gTup K 2 (gCons (gName 15) (gCons (gName 14) gNil))) tYes (tCall (spP S_step_shares) [] E0 (tCons (tVar 15) (tCons (tCall (spP S_l_name) [] E0 (tCons (tVar 9) (tCons (tVar 4) tNil))) (tCons (tCall (spP S_l_name) [] E0 (tCons (tVar 14) (tCons (tVar 4) tNil))) tNil)))) [15, 14]) (gName 11))
    (tSeq (tAsg (tLc (iList K (tVar 11)) (gName 16) tYes (tLc (iList K (tVar 16)) (gTup K 3 (gCons (gName 17) (gCons (gName 18) (gCons (gName 19) gNil)))) tYes (tTup (tCons (tOp (rI0 fun i j => .int (i + j)) (tVar 17) (tC (.int 1))) (tCons (tVar 18) (tCons (tVar 19) tNil)))) [17, 18, 19]) [16]) (gName 12))
    (tSeq (tIfS (tTest (tOp (rNeD K) (tCall (spP S_step_shares) [] E0 (tCons (tVar 1) (tCons (tVar 9) (tCons (tVar 4) tNil)))) (tCall (spP S_l_mixed) [] E0 (tCons (tVar 7) (tCons (tVar 12) tNil))))) (tRet (tC (.bl false))) tNext)
    (tSeq (tAsg (tCB (rSortedSet w) (tCons (tCB (rSetL1 K w) (tCons (tLc (iRng1 (tCons (tOp (rI0 fun i j => .int (i + j)) (tC (.int 1)) (tCall (spS S_l_pick) [] E0 (tCons (tVar 0) (tCons (tVar 2) tNil)))) tNil)) (gName 20) tYes (tOp (rIx K) (tVar 8) (tCall (spS S_l_pick) [] E0 (tCons (tVar 0) (tCons (tOp (rI0 fun i j => .int (i - j)) (tVar 2) (tC (.int 1))) tNil)))) [20]) tNil)) tNil)) (gName 13))
    (tSeq (tIfS (tNot (tB (tCall (spP S_l_group_right) [] E0 (tCons (tVar 1) (tCons (tVar 4) (tCons (tVar 5) (tCons (tVar 6) (tCons (tVar 7) (tCons (tVar 13) tNil))))))))) (tRet (tC (.bl false))) tNext)
    (tRet (tCall (spP S_l_around_right) [] E0 (tCons (tVar 1) (tCons (tVar 4) (tCons (tVar 5) (tCons (tVar 6) tNil))))))))))))))))))))))

def n_l_group_right : List Str := ["_law_deal", "_law_end", "_law_hosts", "_law_lesser", "_law_shares_here", "_law_some", "_law_names_here", "_law_parts", "_law_who", "_law_one_here", "_law_due"]
def t_l_group_right (K : PySem.W.Frag) : TS :=
  (tSeq (tAsg (tCall (spP S_l_names) [] E0 (tCons (tVar 5) (tCons (tVar 1) tNil))) (gName 6))
    (tSeq (tIfS (tTest (tOp (rNeD K) (tCall (spP S_within_shares) [] E0 (tCons (tVar 0) (tCons (tVar 5) tNil))) (tCall (spP S_l_mixed) [] E0 (tCons (tVar 4) (tCons (tLc (iList K (tVar 3)) (gName 9) tYes (tCall (spP S_within_shares) [] E0 (tCons (tVar 9) (tCons (tVar 6) tNil))) [9]) tNil))))) (tRet (tC (.bl false))) tNext)
    (tSeq (tAsg (tLc (iList K (tVar 3)) (gName 9) tYes (tCall (spP S_together_share) [] E0 (tCons (tVar 9) (tCons (tVar 6) tNil))) [9]) (gName 7))
    (tSeq (tIfS (tTest (tOp (rNeD K) (tCall (spP S_together_share) [] E0 (tCons (tVar 0) (tCons (tVar 5) tNil))) (tCall (spP S_l_weighed) [] E0 (tCons (tVar 4) (tCons (tVar 7) tNil))))) (tRet (tC (.bl false))) tNext)
    (tSeq (tAsg (tLst tNil) (gName 7))
    (tSeq (tFor (iZip K (tCons (tVar 2) (tCons (tVar 3) tNil))) (gTup K 2 (gCons (gName 8) (gCons (gName 9) gNil))) (tDrop (tBM K "list" rAppend (tVar 7) (tCons (tIf (tTest (tOp (rIn K false) (tVar 8) (tVar 5))) (tTup (tCons (tC (.int 0)) (tCons (tC (.int 1)) tNil))) (tCall (spP S_side_share) [] E0 (tCons (tVar 9) (tCons (tVar 6) tNil)))) tNil))))
    (tSeq (tAsg (tIf (tTest (tOp (rEqD K) (tCB (rLenS K) (tCons (tVar 5) tNil)) (tOp (rI0 fun i j => .int (i - j)) (tCB (rLenS K) (tCons (tVar 0) tNil)) (tC (.int 1))))) (tTup (tCons (tC (.int 1)) (tCons (tC (.int 1)) tNil))) (tCall (spP S_l_weighed) [] E0 (tCons (tVar 4) (tCons (tVar 7) tNil)))) (gName 10))
    (tSeq (tIfS (tTest (tOp (rNeD K) (tCall (spP S_side_share) [] E0 (tCons (tVar 0) (tCons (tVar 5) tNil))) (tVar 10))) (tRet (tC (.bl false))) tNext)
    (tSeq (tAsg (tLst tNil) (gName 7))
    (tSeq (tFor (iZip K (tCons (tVar 2) (tCons (tVar 3) tNil))) (gTup K 2 (gCons (gName 8) (gCons (gName 9) gNil))) (tDrop (tBM K "list" rAppend (tVar 7) (tCons (tIf (tTest (tOp (rIn K false) (tVar 8) (tVar 5))) (tCall (spP S_side_share) [] E0 (tCons (tVar 9) (tCons (tVar 6) tNil))) (tTup (tCons (tC (.int 0)) (tCons (tC (.int 1)) tNil)))) tNil))))
    (tRet (tOp (rEqD K) (tCall (spP S_side_share) [] E0 (tCons (tVar 0) (tCons (tCB (rSortedI K) (tCons (tOp rCat (tVar 5) (tLst (tCons (tVar 1) tNil))) tNil)) tNil))) (tCall (spP S_l_weighed) [] E0 (tCons (tVar 4) (tCons (tVar 7) tNil)))))))))))))))

def n_l_around_right : List Str := ["_law_deal", "_law_end", "_law_hosts", "_law_lesser", "_law_who", "_law_small", "_law_others", "_law_part", "_law_begin", "_law_some", "_law_inner", "_law_due", "_law_other"]
def t_l_around_right (K : PySem.W.Frag) : TS :=
  (tSeq (tAsg (tOp (rIx K) (tVar 2) (tC (.int 0))) (gName 4))
    (tSeq (tPar 5 6 (tCons (tOp (rIx K) (tVar 3) (tC (.int 0))) (tCons (tLc (iRng1 (tCons (tCB (rLenS K) (tCons (tVar 0) tNil)) tNil)) (gName 12) (tTest (tOp (rIn K true) (tVar 12) (tTup (tCons (tVar 4) (tCons (tVar 1) tNil))))) (tVar 12) [12]) tNil)))
    (tSeq (tAsg (tCall (spP S_cable_share) [] E0 (tCons (tVar 0) (tCons (tVar 4) (tCons (tVar 1) tNil)))) (gName 7))
    (tSeq (tFor (iRng1 (tCons (tC (.int 3)) tNil)) (gName 8) (tSeq (tAsg (tSl (rSlL K) (tVar 6) (tPart (tVar 8)) (tPart (tOp (rI0 fun i j => .int (i - j)) (tOp (rI0 fun i j => .int (i + j)) (tVar 8) (tOp (rIx K) (tVar 0) (tVar 4))) (tC (.int 1))))) (gName 9))
    (tIfS (tTest (tOp (rEqD K) (tCB (rLenS K) (tCons (tVar 9) tNil)) (tOp (rI0 fun i j => .int (i - j)) (tOp (rIx K) (tVar 0) (tVar 4)) (tC (.int 1))))) (tSeq (tAsg (tCall (spP S_around_share) [] E0 (tCons (tVar 5) (tCons (tCall (spP S_l_name) [] E0 (tCons (tVar 4) (tCons (tVar 1) tNil))) (tCons (tCall (spP S_l_names) [] E0 (tCons (tVar 9) (tCons (tVar 1) tNil))) tNil)))) (gName 10))
    (tSeq (tAsg (tCall (spP S_l_fraction) [] E0 (tCons (tOp (rI CMulW fun i j => .int (i * j)) (tOp (rIx K) (tVar 7) (tC (.int 0))) (tOp (rIx K) (tVar 10) (tC (.int 0)))) (tCons (tOp (rI CMulW fun i j => .int (i * j)) (tOp (rIx K) (tVar 7) (tC (.int 1))) (tOp (rIx K) (tVar 10) (tC (.int 1)))) tNil))) (gName 11))
    (tIfS (tTest (tOp (rNeD K) (tCall (spP S_around_share) [] E0 (tCons (tVar 0) (tCons (tVar 4) (tCons (tCB (rSortedI K) (tCons (tOp rCat (tVar 9) (tLst (tCons (tVar 1) tNil))) tNil)) tNil)))) (tVar 11))) (tRet (tC (.bl false))) tNext))) tNext)))
    (tRet (tC (.bl true)))))))

def n_law : List Str := ["_law_script", "_law_k", "_law_store_here"]
def t_law (K : PySem.W.Frag) : TS :=
  (tSeq (tFor (iRng1 (tCons (tCB rMax2 (tCons (tC (.int 1)) (tCons (tCB rMin2 (tCons (tC (.int 4)) (tCons (tCB (rLenS K) (tCons (tVar 0) tNil)) tNil))) tNil))) tNil)) (gName 1) (tSeq (tAsg (tCall (sp_l_store K) [] E0 (tCons (tVar 0) (tCons (tVar 1) tNil))) (gName 2))
    (tIfS (tNot (tB (tCall (spS S_l_right) [] E0 (tCons (tVar 2) (tCons (tCall (spS S_l_middle) [] E0 (tCons (tVar 2) (tCons (tC (.int 10)) tNil))) tNil))))) (tRet (tC (.bl false))) tNext)))
    (tRet (tCall (spS S_l_right) [] E0 (tCons (tCall (sp_l_store K) [] E0 (tCons (tVar 0) (tCons (tC (.int 0)) tNil))) (tCons (tCall (spS S_l_great) [] E0 (tCons (tCall (sp_l_store K) [] E0 (tCons (tVar 0) (tCons (tC (.int 0)) tNil))) (tCons (tC (.int 20)) tNil))) tNil)))))

end PN
end

section
set_option Elab.async false
set_option linter.all false
set_option autoImplicit false
set_option maxRecDepth 100000
set_option maxHeartbeats 4000000
namespace PN
open PySem PySem.Spec PyProof.Rows L2 DL

theorem isi_int_int (i : Int) : isiB (.int i) "int" = some true := by
  show kitB "int" "int" = some true
  decide +kernel
theorem isi_int_bool (i : Int) : isiB (.int i) "bool" = some false := by
  show kitB "int" "bool" = some false
  decide +kernel
theorem isi_list (l : List PyData) : isiB (.list l) "list" = some true := by
  show kitB "list" "list" = some true
  decide +kernel
theorem ifT {c A B : Prop} [Decidable c] (h : c) (x : A) : if decide c = true then A else B := by rw [if_pos (decide_eq_true h)]; exact x
theorem ifF {c A B : Prop} [Decidable c] (h : ¬ c) (x : B) : if decide c = true then A else B := by rw [if_neg (by simpa using h)]; exact x
theorem ifD {c A B : Prop} [Decidable c] (x : c → A) (y : ¬ c → B) : if decide c = true then A else B := by
  by_cases h : c
  · exact ifT h (x h)
  · exact ifF h (y h)
theorem ifNt {A B : Prop} (x : B) : if (!true) = true then A else B := by simpa using x
theorem ifNf {A B : Prop} (x : A) : if (!false) = true then A else B := by simpa using x
theorem ifNT {c A B : Prop} [Decidable c] (h : c) (x : B) : if (!decide c) = true then A else B := by rw [decide_eq_true h]; exact ifNt x
theorem ifNF {c A B : Prop} [Decidable c] (h : ¬ c) (x : A) : if (!decide c) = true then A else B := by rw [decide_eq_false h]; exact ifNf x
theorem szn {α : Type} (l : List α) (h : l.length ≤ 1000) : l.length ≤ sizeLine := by rw [sizeLine_eq]; omega
theorem ifNTF {c A B : Prop} [Decidable c] (x : c → B) (y : ¬ c → A) : if (!decide c) = true then A else B := by
  by_cases h : c
  · exact ifNT h (x h)
  · exact ifNF h (y h)
local macro_rules | `(tactic| walk_at "ev1") => `(tactic| first
  | with_reducible refine wp_seq ?_ | with_reducible refine wp_ret ?_ | with_reducible refine wp_next ?_ | with_reducible refine wp_if ?_
  | with_reducible refine wp_asg ?_ | with_reducible refine wp_drop ?_
  | with_reducible refine ev_int ?_ | with_reducible refine ev_bl ?_ | with_reducible refine ev_non ?_
  | with_reducible refine ev_add ?_ | with_reducible refine ev_sub ?_ | with_reducible refine ev_mul ?_ | with_reducible refine ev_fdiv ?_ | with_reducible refine ev_mod ?_ | with_reducible refine ev_pow ?_ | with_reducible refine ev_neg ?_
  | with_reducible refine ev_lt ?_ | with_reducible refine ev_le ?_ | with_reducible refine ev_gt ?_ | with_reducible refine ev_ge ?_
  | with_reducible refine ev_eq ?_ | with_reducible refine ev_ne ?_ | with_reducible refine ev_in ?_ | with_reducible refine ev_notin ?_ | with_reducible refine ev_notN ?_
  | with_reducible refine ev_tup ?_ | with_reducible refine ev_lst ?_ | with_reducible refine ev_ix ?_ | with_reducible refine ev_cat ?_ | with_reducible refine ev_rep ?_
  | with_reducible refine ev_lele ?_ | with_reducible refine ev_lelt ?_ | with_reducible refine ev_eqeq ?_
  | with_reducible refine ev_andV ?_ | with_reducible refine ev_orV ?_ | with_reducible refine ev_notV ?_ | with_reducible refine ev_if ?_
  | with_reducible refine ev_len ?_ | with_reducible refine ev_sum ?_ | with_reducible refine ev_all ?_ | with_reducible refine ev_sorted ?_ | with_reducible refine ev_max ?_ | with_reducible refine ev_min ?_ | with_reducible refine ev_abs ?_ | with_reducible refine ev_toInt ?_
  | with_reducible refine ev_isi ?_ | with_reducible refine ev_count ?_ | with_reducible refine ev_call ?_ | with_reducible refine ev_slice ?_
  | with_reducible refine evs_nil ?_ | with_reducible refine evs_cons ?_ | with_reducible refine evs_star ?_
  | with_reducible refine et_test ?_ | with_reducible refine et_B ?_ | with_reducible refine et_not ?_ | with_reducible refine et_and ?_ | with_reducible refine et_or ?_ | with_reducible refine et_yes ?_
  | with_reducible refine eo_none ?_ | with_reducible refine eo_some ?_
  | with_reducible refine iteT ?_ | with_reducible refine iteF ?_ | with_reducible refine ifNt ?_ | with_reducible refine ifNf ?_
  | refine ⟨true, isi_int_int _, ?_⟩ | refine ⟨false, isi_int_bool _, ?_⟩ | refine ⟨true, isi_list _, ?_⟩
  | (refine ev_var (by rfl) ?_)
  | refine ⟨_, rfl, ?_⟩ | refine ⟨_, _, rfl, rfl, ?_⟩ | refine ⟨_, _, rfl, ?_⟩
  | refine And.intro (by first | assumption | omega | exact szn _ (by simp)) ?_)
local macro_rules | `(tactic| walk_at "ev") => `(tactic| repeat (walk_at "ev1"; try dsimp only))
theorem plI_len (xs : List Nat) : (plI xs).length = xs.length := by unfold plI; rw [List.length_map]
theorem plI_sum (xs : List Nat) : (plI xs).sum = (xs.sum : Int) + xs.length := by
  induction xs with
  | nil => rfl
  | cons x r ih =>
    have e : plI (x :: r) = ((x : Int) + 1) :: plI r := rfl
    rw [e, List.sum_cons, ih, List.sum_cons, List.length_cons]
    omega
theorem plI_get {xs : List Nat} {v : Nat} (h : v < xs.length) : ((plI xs).map PyData.int)[v]? = some (.int ((at' xs v : Int) + 1)) := by
  unfold plI at'
  rw [List.getElem?_map, List.getElem?_map, List.getElem?_eq_getElem h, List.getD_eq_getElem?_getD, List.getElem?_eq_getElem h]
  rfl
theorem plI_at {xs : List Nat} {v : Nat} (h : v < xs.length) : atI ((plI xs).map PyData.int) (v : Int) = some (.int ((at' xs v : Int) + 1)) := atI_nat (plI_get h)
theorem le_sum {x : Nat} : ∀ {xs : List Nat}, x ∈ xs → x ≤ xs.sum
  | y :: r, h => by
    rw [List.sum_cons]
    rcases List.mem_cons.mp h with e | e
    · omega
    · have := le_sum e; omega
theorem plI_bound {xs : List Nat} (h : xs.sum ≤ 100) : ∀ i ∈ plI xs, 0 ≤ i ∧ i ≤ 1000000000000000000000000000000 := by
  intro i hi
  obtain ⟨x, hx, rfl⟩ := List.mem_map.mp hi
  have : x ≤ xs.sum := le_sum hx
  omega
theorem sumLine {n : Nat} (h : n ≤ 1000) : n < sizeLine := by rw [sizeLine_eq]; omega
/-- a list of the same truth -/
theorem all_true {α : Type} (l : List α) : (l.map fun _ => true).all id = true := by
  induction l with
  | nil => rfl
  | cons a r ih => simp
theorem fm_map {α β : Type} (f : α → β) (l : List α) : l.filterMap (fun x => some (f x)) = l.map f := by
  induction l with
  | nil => rfl
  | cons a r ih => simp
theorem bd_is_integer {K : PySem.W.Frag} : ∀ ds P0, S_is_integer ds P0 → Wp (t_is_integer K) (retD P0) (DL.envOf n_is_integer ds) := by
  rintro ds P0 ⟨i, rfl, hp⟩
  unfold t_is_integer
  walk_at "ev"
  exact hp
theorem bd_is_number {K : PySem.W.Frag} : ∀ ds P0, S_is_number ds P0 → Wp (t_is_number K) (retD P0) (DL.envOf n_is_number ds) := by
  rintro ds P0 ⟨i, rfl, h0, h1, hp⟩
  unfold t_is_number
  walk_at "ev"
  refine ifT h0 ?_
  walk_at "ev"
  rw [decide_eq_true h1]
  exact hp
theorem shaped_int (i : Int) : SeqAt.shaped (.int i) = true := by rfl
theorem eqv_int (i j : Int) : PyData.eqv (.int i) (.int j) = decide (i = j) := by
  show (i == j) = _
  rw [Bool.beq_eq_decide_eq]
theorem int_get {ns : List Int} {i : Nat} {y : PyData} (h : (ns.map PyData.int)[i]? = some y) : ∃ n, ns[i]? = some n ∧ y = .int n := by
  rw [List.getElem?_map] at h
  obtain ⟨n, a, b⟩ := Option.map_eq_some_iff.mp h
  exact ⟨n, a, b.symm⟩
theorem map_const {α β : Type} (b : β) (l : List α) : l.filterMap (fun _ => some b) = List.replicate l.length b := by
  induction l with
  | nil => rfl
  | cons a r ih => rw [List.filterMap_cons]; simp only [ih, List.length_cons, List.replicate_succ]
theorem rep_bool (n : Nat) : List.replicate n (PyData.bool true) = (List.replicate n true).map .bool := by rw [List.map_replicate]
theorem all_rep (n : Nat) : (List.replicate n true).all id = true := by
  induction n with
  | zero => rfl
  | succ n ih => rw [List.replicate_succ, List.all_cons, ih]; rfl
theorem bd_is_plugs {K : PySem.W.Frag} : ∀ ds P0, S_is_plugs ds P0 → Wp (t_is_plugs K) (retD P0) (DL.envOf n_is_plugs ds) := by
  rintro ds P0 ⟨xs, rfl, g, hp⟩
  have hl : ((plI xs).map PyData.int).length = xs.length := by rw [List.length_map, plI_len]
  have h2 := g.sum
  have h3 := g.most
  unfold t_is_plugs
  walk_at "ev"
  refine ifT (by omega) ?_
  walk_at "ev"
  rw [decide_eq_true (by omega)]
  walk_at "ev"
  refine ev_lcP (js := [1]) (by simp) (fun _ => some (.bool true)) (iv_list ?_)
  walk_at "ev"
  refine ⟨by rw [hl]; exact sumLine (by omega), fun i y hy => gd_name ?_, ?_⟩
  · obtain ⟨n, hn, rfl⟩ := int_get hy
    obtain ⟨b1, b2⟩ := plI_bound (xs := xs) (by omega) n (List.mem_of_getElem? hn)
    walk_at "ev"
    exact ⟨rfl, rfl⟩
  · exact ⟨List.replicate ((plI xs).map PyData.int).length true, by rw [map_const, rep_bool], by rw [all_rep]; exact hp⟩
theorem bd_need_plugs {K : PySem.W.Frag} : ∀ ds P0, S_need_plugs ds P0 → Wp (t_need_plugs K) (retD P0) (DL.envOf n_need_plugs ds) := by
  rintro ds P0 ⟨xs, rfl, g, hp⟩
  unfold t_need_plugs
  walk_at "ev"
  exact hp
theorem bd_need_device {K : PySem.W.Frag} : ∀ ds P0, S_need_device ds P0 → Wp (t_need_device K) (retD P0) (DL.envOf n_need_device ds) := by
  rintro ds P0 ⟨xs, v, rfl, hv, hp⟩
  have hl : ((plI xs).map PyData.int).length = xs.length := by rw [List.length_map, plI_len]
  unfold t_need_device
  walk_at "ev"
  refine ifT (by omega) ?_
  walk_at "ev"
  rw [hl, decide_eq_true (by omega)]
  walk_at "ev"
  exact hp
theorem bd_too_many {K : PySem.W.Frag} : ∀ ds P0, S_too_many ds P0 → Wp (t_too_many K) (retD P0) (DL.envOf n_too_many ds) := by
  rintro ds P0 ⟨xs, rfl, g, hp⟩
  have hl : ((plI xs).map PyData.int).length = xs.length := by rw [List.length_map, plI_len]
  have h2 := g.sum
  have h3 := g.most
  unfold t_too_many
  walk_at "ev"
  refine ⟨wide_mul (a := 10) (b := 10) (by decide) (by rw [hl]; omega) (by omega) (by omega) (by omega), ?_⟩
  walk_at "ev"
  have e : (plI xs).sum - 2 * (((plI xs).map PyData.int).length : Nat) + 2 = 0 := by rw [hl, plI_sum]; omega
  show P0 (.int ((plI xs).sum - 2 * (((plI xs).map PyData.int).length : Nat) + 2))
  rw [e]; exact hp
theorem bd_conflict_in {K : PySem.W.Frag} : ∀ ds P0, S_conflict_in ds P0 → Wp (t_conflict_in K) (retD P0) (DL.envOf n_conflict_in ds) := by
  rintro ds P0 ⟨xs, rfl, g, hp⟩
  unfold t_conflict_in
  walk_at "ev"
  refine ⟨0, plI xs, rfl, .inl rfl, ?_⟩
  have h0 : (0 : Int) ∉ plI xs := fun h => by
    obtain ⟨x, _, e⟩ := List.mem_map.mp h
    omega
  walk_at "ev"
  refine ifF h0 ?_
  walk_at "ev"
  refine ⟨rfl, rfl, ?_⟩
  rw [eqv_int]
  walk_at "ev"
  refine ifNT rfl ?_
  walk_at "ev"
  exact hp
theorem bd_need_net {K : PySem.W.Frag} : ∀ ds P0, S_need_net ds P0 → Wp (t_need_net K) (retD P0) (DL.envOf n_need_net ds) := by
  rintro ds P0 ⟨xs, rfl, g, hp⟩
  unfold t_need_net
  walk_at "ev"
  show if (!true) = true then _ else _
  walk_at "ev"
  exact hp
set_option exponentiation.threshold 1000 in
theorem bd_factorial_of {K : PySem.W.Frag} : ∀ ds P0, S_factorial_of ds P0 → Wp (t_factorial_of K) (retD P0) (DL.envOf n_factorial_of ds) := by
  rintro ds P0 ⟨n, rfl, hn0, hn, hp⟩
  unfold t_factorial_of
  walk_at "ev"
  refine wp_for (js := [2]) (iv_range2 ?_)
  walk_at "ev"
  refine ⟨fun i e => ∃ x, e = [En.dat (.int n), En.dat (.int (fact (i + 1) : Int)), x], ⟨_, rfl⟩, fun i y e hy ⟨x, he⟩ => gd_name ?_, fun e ⟨x, he⟩ => ?_⟩
  · obtain ⟨hi, rfl⟩ := rangeD_get hy
    subst he
    refine wp_aug op2_mulW (by rfl) (ev_var (by rfl) ?_)
    walk_at "ev"
    refine ⟨wide_mul (a := 300) (b := 10) (by have := fact_lt (n := i + 1) (by omega); omega) (by omega) (by omega) (by omega) (by omega), .dat (.int (2 + (i : Int))), ?_⟩
    have e : (fact (i + 1) : Int) * (2 + (i : Int)) = (fact (i + 1 + 1) : Int) := by
      have : fact (i + 1 + 1) = (i + 1 + 1) * fact (i + 1) := rfl
      rw [this]; push_cast; rw [Int.mul_comm]; congr 1; omega
    show [En.dat (.int n), En.dat (.int ((fact (i + 1) : Int) * (2 + (i : Int)))), En.dat (.int (2 + (i : Int)))] = _
    rw [e]
  · subst he
    walk_at "ev"
    rw [rangeD_len]
    have e : fact ((n + 1 - 2).toNat + 1) = fact n.toNat := by
      by_cases h : 1 ≤ n
      · congr 1; omega
      · have h1 : (n + 1 - 2).toNat = 0 := by omega
        have h2 : n.toNat = 0 := by omega
        rw [h1, h2]; rfl
    rw [e]; exact hp
theorem nets_take (xs : List Nat) (f : Nat) (i : Nat) {x : Nat} (h : xs[i]? = some x) : (xs.take (i + 1)).foldl (fun f x => f / fact x) f = (xs.take i).foldl (fun f x => f / fact x) f / fact x := by
  rw [List.take_add_one, h, List.foldl_append]; rfl
theorem foldl_div_le (xs : List Nat) : ∀ f, xs.foldl (fun f x => f / fact x) f ≤ f := by
  induction xs with
  | nil => intro f; exact Nat.le_refl _
  | cons x r ih => intro f; exact Nat.le_trans (ih _) (Nat.div_le_self _ _)
set_option exponentiation.threshold 1000 in
theorem bd_nets_of {K : PySem.W.Frag} : ∀ ds P0, S_nets_of ds P0 → Wp (t_nets_of K) (retD P0) (DL.envOf n_nets_of ds) := by
  rintro ds P0 ⟨xs, rfl, g, hp⟩
  have hl : ((plI xs).map PyData.int).length = xs.length := by rw [List.length_map, plI_len]
  have h2 := g.sum
  have h3 := g.most
  unfold t_nets_of
  walk_at "ev"
  refine wp_for (js := [2]) (iv_list ?_)
  walk_at "ev"
  have e0 : ((((plI xs).map PyData.int).length : Int) - 2).toNat = xs.length - 2 := by rw [hl]; omega
  rw [e0]
  refine ⟨fun i e => ∃ x, e = [En.dat (plD xs), En.dat (.int ((xs.take i).foldl (fun f x => f / fact x) (fact (xs.length - 2)) : Nat)), x], ⟨_, rfl⟩, fun i y e hy ⟨x, he⟩ => gd_name ?_, fun e ⟨x, he⟩ => ?_⟩
  · obtain ⟨n, hn, rfl⟩ := int_get hy
    have hx : ∃ v, xs[i]? = some v ∧ n = (v : Int) + 1 := by
      unfold plI at hn
      rw [List.getElem?_map] at hn
      obtain ⟨v, a, b⟩ := Option.map_eq_some_iff.mp hn
      exact ⟨v, a, b.symm⟩
    obtain ⟨v, hv, rfl⟩ := hx
    have hvs : v ≤ xs.sum := le_sum (List.mem_of_getElem? hv)
    subst he
    refine wp_aug op2_fdivW (by rfl) ?_
    walk_at "ev"
    have ev : ((v : Int) + 1 - 1).toNat = v := by omega
    rw [ev]
    refine ⟨wide_div (b := 300) (by have := fact_pos v; omega) (by have := fact_lt (n := v) (by omega); omega) (by omega) (by omega), .dat (.int ((v : Int) + 1)), ?_⟩
    rw [nets_take xs _ i hv]
    show [En.dat (plD xs), En.dat (.int (((xs.take i).foldl (fun f x => f / fact x) (fact (xs.length - 2)) : Nat) / (fact v : Int))), En.dat (.int ((v : Int) + 1))] = _
    rw [Int.natCast_ediv]
  · subst he
    rw [hl, List.take_length]
    walk_at "ev"
    exact hp
theorem bd_need_possible {K : PySem.W.Frag} : ∀ ds P0, S_need_possible ds P0 → Wp (t_need_possible K) (retD P0) (DL.envOf n_need_possible ds) := by
  rintro ds P0 ⟨xs, rfl, g, hp⟩
  unfold t_need_possible
  walk_at "ev"
  exact hp
theorem bd_count_nets {K : PySem.W.Frag} : ∀ ds P0, S_count_nets ds P0 → Wp (t_count_nets K) (retD P0) (DL.envOf n_count_nets ds) := by
  rintro ds P0 ⟨xs, rfl, g, hp⟩
  unfold t_count_nets
  walk_at "ev"
  exact hp
theorem bd_divisor_of {K : PySem.W.Frag} : ∀ ds P0, S_divisor_of ds P0 → Wp (t_divisor_of K) (retD P0) (DL.envOf n_divisor_of ds) := by
  rintro ds P0 ⟨a, b, rfl, hp⟩
  unfold t_divisor_of
  walk_at "ev"
  refine wp_while (fun m e => ∃ a' b' : Nat, e = [En.dat (.int (a' : Int)), En.dat (.int (b' : Int))] ∧ Nat.gcd a' b' = Nat.gcd a b ∧ m = b') b ⟨a, b, rfl, rfl, rfl⟩ ?_
  rintro m e ⟨a', b', rfl, hg, hm⟩
  subst hm
  walk_at "ev"
  refine ⟨rfl, rfl, ?_⟩
  rw [eqv_int]
  walk_at "ev"
  by_cases hb : (m : Int) = 0
  · refine ifNT hb ?_
    walk_at "ev"
    have : m = 0 := by omega
    subst this
    rw [Nat.gcd_zero_right] at hg
    rw [hg]; exact hp
  · refine ifNF hb ?_
    refine wp_par ?_
    walk_at "ev"
    refine ⟨a' % m, Nat.mod_lt _ (by omega), m, a' % m, ?_, ?_, rfl⟩
    · rw [Int.natCast_emod]; rfl
    · rw [← hg, Nat.gcd_comm a' m, Nat.gcd_rec m a', Nat.gcd_comm]
set_option exponentiation.threshold 9000 in
theorem bd_lowest {K : PySem.W.Frag} : ∀ ds P0, S_lowest ds P0 → Wp (t_lowest K) (retD P0) (DL.envOf n_lowest ds) := by
  rintro ds P0 ⟨⟨a, b⟩, rfl, hb, hb2, hp⟩
  have g0 : 0 < Nat.gcd a b := Nat.gcd_pos_of_pos_right _ hb
  have g1 : Nat.gcd a b ≤ b := Nat.gcd_le_right _ hb
  have hd : ∀ i : Int, CDivW i (Nat.gcd a b : Int) := fun i => wide_div (b := 8000) (by omega) (by
    show Int.natAbs _ < _
    rw [Int.natAbs_natCast]
    exact Nat.lt_of_le_of_lt g1 hb2) (by omega) (by omega)
  unfold t_lowest
  walk_at "ev"
  refine ⟨hd _, ?_⟩
  walk_at "ev"
  refine ⟨hd _, ?_⟩
  walk_at "ev"
  have e : lowD (a, b) = .tuple [.int ((a : Int) / (Nat.gcd a b : Int)), .int ((b : Int) / (Nat.gcd a b : Int))] := by
    unfold lowD frD low
    simp only [Int.natCast_ediv]
  rw [e] at hp
  exact hp
theorem bd_share_of_cables {K : PySem.W.Frag} : ∀ ds P0, S_share_of_cables ds P0 → Wp (t_share_of_cables K) (retD P0) (DL.envOf n_share_of_cables ds) := by
  rintro ds P0 ⟨xs, i, j, rfl, g, h3, hi, hj, hp⟩
  have hl : ((plI xs).map PyData.int).length = xs.length := by rw [List.length_map, plI_len]
  have h6 := g.most
  unfold t_share_of_cables
  walk_at "ev"
  refine ⟨rfl, rfl, ?_⟩
  rw [eqv_int]
  walk_at "ev"
  unfold cabF at hp
  refine ifD (fun h => ?_) (fun h => ?_)
  · rw [if_pos (by omega)] at hp
    walk_at "ev"
    exact hp
  · rw [if_neg (by omega)] at hp
    walk_at "ev"
    refine ⟨rfl, rfl, ?_⟩
    rw [eqv_int]
    walk_at "ev"
    refine ifF (by omega) ?_
    walk_at "ev"
    refine ⟨_, _, _, .inl rfl, rfl, plI_at hi, ?_⟩
    walk_at "ev"
    refine ⟨_, _, _, .inl rfl, rfl, plI_at hj, ?_⟩
    walk_at "ev"
    refine ⟨(at' xs i + at' xs j, xs.length - 2), ?_, by show 0 < xs.length - 2; omega, ?_, hp⟩
    · rw [hl]
      have e1 : (at' xs i : Int) + 1 + ((at' xs j : Int) + 1) - 2 = ((at' xs i + at' xs j : Nat) : Int) := by omega
      have e2 : (xs.length : Int) - 2 = ((xs.length - 2 : Nat) : Int) := by omega
      rw [e1, e2]
    · exact Nat.lt_of_lt_of_le (show xs.length - 2 < 2 ^ 6 by omega) (Nat.pow_le_pow_right (n := 2) (by decide) (by decide : 6 ≤ 8000))
theorem bd_need_two {K : PySem.W.Frag} : ∀ ds P0, S_need_two ds P0 → Wp (t_need_two K) (retD P0) (DL.envOf n_need_two ds) := by
  rintro ds P0 ⟨xs, i, j, rfl, g, hi, hj, hp⟩
  unfold t_need_two
  walk_at "ev"
  exact hp
theorem bd_cable_share {K : PySem.W.Frag} : ∀ ds P0, S_cable_share ds P0 → Wp (t_cable_share K) (retD P0) (DL.envOf n_cable_share ds) := by
  rintro ds P0 ⟨xs, i, j, rfl, g, h3, hi, hj, hp⟩
  unfold t_cable_share
  walk_at "ev"
  refine ⟨xs, i, j, rfl, g, hi, hj, ?_⟩
  walk_at "ev"
  exact ⟨xs, i, j, rfl, g, h3, hi, hj, hp⟩
theorem bd_choices {K : PySem.W.Frag} : ∀ ds P0, S_choices ds P0 → Wp (t_choices K) (retD P0) (DL.envOf n_choices ds) := by
  rintro ds P0 ⟨m, t, rfl, hm, hp⟩
  unfold t_choices
  walk_at "ev"
  unfold chI at hp
  refine ifD (fun h0 => ?_) (fun h0 => ?_)
  · walk_at "ev"
    refine ifNTF (fun h1 => ?_) (fun h1 => ?_)
    · rw [if_pos ⟨h0, h1⟩] at hp
      obtain ⟨M, rfl⟩ : ∃ M : Nat, m = (M : Int) := ⟨m.toNat, by omega⟩
      obtain ⟨k, rfl⟩ : ∃ k : Nat, t = (k : Int) := ⟨t.toNat, by omega⟩
      have hk : k ≤ M := by omega
      rw [Int.toNat_natCast, Int.toNat_natCast] at hp
      walk_at "ev"
      refine wp_for (js := [3]) (iv_range1 ?_)
      walk_at "ev"
      refine ⟨fun i e => ∃ x, e = [En.dat (.int (M : Int)), En.dat (.int (k : Int)), En.dat (.int (Ch M i : Int)), x], ⟨.no, by rw [Ch_zero]; rfl⟩, fun i y e hy ⟨x, he⟩ => gd_name ?_, fun e ⟨x, he⟩ => ?_⟩
      · obtain ⟨hi, rfl⟩ := rangeD_get hy
        subst he
        have hiM : i < M := by omega
        have hC := Ch_le M i
        have hC2 : Ch M i < 2 ^ 61 := Nat.lt_of_le_of_lt (Nat.le_trans hC (Nat.pow_le_pow_right (by omega) (show M ≤ 60 by omega))) (by decide)
        walk_at "ev"
        refine ⟨wide_mul (a := 61) (b := 10) (by omega) (by omega) (by omega) (by omega) (by omega), ?_⟩
        walk_at "ev"
        refine ⟨wide_div (b := 10) (by omega) (by omega) (by omega) (by omega), ?_⟩
        have e1 : (Ch M i : Int) * ((M : Int) - (0 + (i : Int))) / (0 + (i : Int) + 1) = (Ch M (i + 1) : Int) := by
          have hs := Ch_step M i (by omega)
          have e2 : (M : Int) - (0 + (i : Int)) = ((M - i : Nat) : Int) := by omega
          have e3 : (0 : Int) + (i : Int) + 1 = ((i + 1 : Nat) : Int) := by omega
          rw [e2, e3, ← Int.natCast_mul, ← hs, ← Int.natCast_ediv, Nat.mul_div_cancel _ (by omega)]
        rw [e1]
        exact ⟨.dat (.int (0 + (i : Int))), rfl⟩
      · subst he
        rw [rangeD_len]
        walk_at "ev"
        have e : Ch M (min (k : Int) ((M : Int) - (k : Int))).toNat = Ch M k := by
          by_cases hq : k ≤ M - k
          · congr 1; omega
          · rw [Ch_symm hk]; congr 1; omega
        rw [e]; exact hp
    · rw [if_neg (by omega)] at hp
      walk_at "ev"
      exact hp
  · rw [if_neg (by omega)] at hp
    walk_at "ev"
    exact hp
end PN
end

section
set_option Elab.async false
set_option linter.all false
set_option autoImplicit false
set_option maxRecDepth 100000
set_option maxHeartbeats 4000000
namespace PN
open PySem PySem.Spec PyProof.Rows L2 DL
local macro_rules | `(tactic| walk_at "ev1") => `(tactic| first
  | with_reducible refine wp_seq ?_ | with_reducible refine wp_ret ?_ | with_reducible refine wp_next ?_ | with_reducible refine wp_if ?_
  | with_reducible refine wp_asg ?_ | with_reducible refine wp_drop ?_
  | with_reducible refine ev_int ?_ | with_reducible refine ev_bl ?_ | with_reducible refine ev_non ?_
  | with_reducible refine ev_add ?_ | with_reducible refine ev_sub ?_ | with_reducible refine ev_mul ?_ | with_reducible refine ev_fdiv ?_ | with_reducible refine ev_mod ?_ | with_reducible refine ev_pow ?_ | with_reducible refine ev_neg ?_
  | with_reducible refine ev_lt ?_ | with_reducible refine ev_le ?_ | with_reducible refine ev_gt ?_ | with_reducible refine ev_ge ?_
  | with_reducible refine ev_eq ?_ | with_reducible refine ev_ne ?_ | with_reducible refine ev_in ?_ | with_reducible refine ev_notin ?_ | with_reducible refine ev_notN ?_
  | with_reducible refine ev_tup ?_ | with_reducible refine ev_lst ?_ | with_reducible refine ev_ix ?_ | with_reducible refine ev_cat ?_ | with_reducible refine ev_rep ?_
  | with_reducible refine ev_lele ?_ | with_reducible refine ev_lelt ?_ | with_reducible refine ev_eqeq ?_
  | with_reducible refine ev_andV ?_ | with_reducible refine ev_orV ?_ | with_reducible refine ev_notV ?_ | with_reducible refine ev_if ?_
  | with_reducible refine ev_len ?_ | with_reducible refine ev_sum ?_ | with_reducible refine ev_all ?_ | with_reducible refine ev_sorted ?_ | with_reducible refine ev_max ?_ | with_reducible refine ev_min ?_ | with_reducible refine ev_abs ?_ | with_reducible refine ev_toInt ?_
  | with_reducible refine ev_isi ?_ | with_reducible refine ev_count ?_ | with_reducible refine ev_call ?_ | with_reducible refine ev_slice ?_
  | with_reducible refine evs_nil ?_ | with_reducible refine evs_cons ?_ | with_reducible refine evs_star ?_
  | with_reducible refine et_test ?_ | with_reducible refine et_B ?_ | with_reducible refine et_not ?_ | with_reducible refine et_and ?_ | with_reducible refine et_or ?_ | with_reducible refine et_yes ?_
  | with_reducible refine eo_none ?_ | with_reducible refine eo_some ?_
  | with_reducible refine iteT ?_ | with_reducible refine iteF ?_ | with_reducible refine ifNt ?_ | with_reducible refine ifNf ?_
  | refine ⟨true, isi_int_int _, ?_⟩ | refine ⟨false, isi_int_bool _, ?_⟩ | refine ⟨true, isi_list _, ?_⟩
  | (refine ev_var (by rfl) ?_)
  | refine ⟨_, rfl, ?_⟩ | refine ⟨_, _, rfl, rfl, ?_⟩ | refine ⟨_, _, rfl, ?_⟩
  | refine And.intro (by first | assumption | omega | exact szn _ (by simp)) ?_)
local macro_rules | `(tactic| walk_at "ev") => `(tactic| repeat (walk_at "ev1"; try dsimp only))
theorem grI_len (g : List Nat) : (grI g).length = g.length := by unfold grI; rw [List.length_map]
theorem grI_get {g : List Nat} {i : Nat} {y : PyData} (h : ((grI g).map PyData.int)[i]? = some y) : ∃ v, g[i]? = some v ∧ y = .int (v : Int) := by
  obtain ⟨n, hn, rfl⟩ := int_get h
  unfold grI at hn
  rw [List.getElem?_map] at hn
  obtain ⟨v, a, b⟩ := Option.map_eq_some_iff.mp hn
  exact ⟨v, a, by rw [b]⟩
theorem cutD_tail (ds : List PyData) : DL.cutD ds (some 1) none = ds.drop 1 := by
  unfold DL.cutD
  have e1 : HT.sIx ds.length 0 (some (1 : Int)) = min 1 ds.length := HT.sIx_nat _ _ 1
  have e2 : HT.sIx ds.length ds.length none = ds.length := rfl
  rw [e1, e2]
  rcases Nat.lt_or_ge 0 ds.length with h | h
  · have : min 1 ds.length = 1 := by omega
    rw [this, List.take_of_length_le (by simp)]
  · have : ds = [] := List.eq_nil_of_length_eq_zero (by omega)
    subst this; rfl
theorem bd_is_group {K : PySem.W.Frag} : ∀ ds P0, S_is_group ds P0 → Wp (t_is_group K) (retD P0) (DL.envOf n_is_group ds) := by
  rintro ds P0 ⟨xs, g, l, rfl, hx, hg, hl, hp⟩
  have e1 : ((plI xs).map PyData.int).length = xs.length := by rw [List.length_map, plI_len]
  have e2 : ((grI g).map PyData.int).length = g.length := by rw [List.length_map, grI_len]
  have hgl : g.length ≤ xs.length := by
    have hsub : g ⊆ List.range xs.length := fun v hv => List.mem_range.mpr (hg.lt v hv)
    have hnd : g.Nodup := hg.asc.imp (fun h => Nat.ne_of_lt h)
    have := hnd.length_le_of_subset hsub
    simpa using this
  unfold t_is_group
  walk_at "ev"
  rw [e2, decide_eq_false (by omega)]
  walk_at "ev"
  refine ev_lcP (js := [3]) (by simp) (fun _ => some (.bool true)) (iv_list ?_)
  walk_at "ev"
  refine ⟨by rw [e2]; exact sumLine (by omega), fun i y hy => gd_name ?_, ?_⟩
  · obtain ⟨v, hv, rfl⟩ := grI_get hy
    have hlt := hg.lt v (List.mem_of_getElem? hv)
    walk_at "ev"
    refine ifT (by omega) ?_
    walk_at "ev"
    refine ⟨?_, rfl⟩
    rw [e1, decide_eq_true (by omega)]
  · refine ⟨List.replicate ((grI g).map PyData.int).length true, by rw [map_const, rep_bool], ?_⟩
    rw [all_rep]
    walk_at "ev"
    refine ev_lcP (js := [3, 4]) (by simp) (fun _ => some (.bool true)) (iv_zip ?_)
    walk_at "ev"
    rw [cutD_tail]
    refine ⟨by rw [zipD_len, e2]; exact sumLine (by omega), fun i y hy => ?_, ?_⟩
    · obtain ⟨d, e, h1, h2, rfl⟩ := zipD_get hy
      rw [List.getElem?_drop] at h2
      obtain ⟨v, hv, rfl⟩ := grI_get h1
      obtain ⟨u, hu, rfl⟩ := grI_get h2
      have hlt : v < u := by
        obtain ⟨a1, a2⟩ := List.getElem?_eq_some_iff.mp hv
        obtain ⟨b1, b2⟩ := List.getElem?_eq_some_iff.mp hu
        have := List.pairwise_iff_getElem.mp hg.asc i (1 + i) a1 b1 (by omega)
        rw [a2, b2] at this
        exact this
      refine gd_tup rfl (gds_cons (gd_name (gds_cons (gd_name (gds_nil ?_)))))
      walk_at "ev"
      refine ⟨?_, rfl⟩
      rw [decide_eq_true (by omega)]
    · refine ⟨List.replicate _ true, by rw [map_const, rep_bool], ?_⟩
      rw [all_rep]
      exact hp
theorem bd_need_group {K : PySem.W.Frag} : ∀ ds P0, S_need_group ds P0 → Wp (t_need_group K) (retD P0) (DL.envOf n_need_group ds) := by
  rintro ds P0 ⟨xs, g, l, rfl, hx, hg, hl, hp⟩
  unfold t_need_group
  walk_at "ev"
  refine ⟨xs, g, l, rfl, hx, hg, hl, ?_⟩
  walk_at "ev"
  exact hp
set_option exponentiation.threshold 9000 in
theorem bd_share_of_around {K : PySem.W.Frag} : ∀ ds P0, S_share_of_around ds P0 → Wp (t_share_of_around K) (retD P0) (DL.envOf n_share_of_around ds) := by
  rintro ds P0 ⟨xs, w, y, rfl, g, hw, h3, hy, hp⟩
  have e1 : ((plI xs).map PyData.int).length = xs.length := by rw [List.length_map, plI_len]
  have h6 := g.most
  unfold t_share_of_around
  walk_at "ev"
  refine wp_par ?_
  walk_at "ev"
  refine ⟨_, _, _, .inl rfl, rfl, plI_at hw, ?_⟩
  walk_at "ev"
  rw [e1]
  have a1 : ((xs.length : Int) - ((at' xs w : Int) + 1) - 2).toNat = xs.length - (at' xs w + 1) - 2 := by omega
  have a2 : ((at' xs w : Int) + 1 - 1).toNat = at' xs w := by omega
  have a3 : ((xs.length : Int) - 2).toNat = xs.length - 2 := by omega
  have f1 := fact_lt (n := xs.length - (at' xs w + 1) - 2) (by omega)
  have f2 := fact_lt (n := at' xs w) (by omega)
  have f3 := fact_lt (n := xs.length - 2) (by omega)
  rw [a1]
  walk_at "ev"
  rw [a2]
  refine ⟨wide_mul (a := 300) (b := 300) (by omega) (by omega) (by omega) (by omega) (by omega), ?_⟩
  walk_at "ev"
  refine ⟨wide_mul (a := 600) (b := 10) ?_ (by omega) (by omega) (by omega) (by omega), ?_⟩
  · exact wide_lt (i := (fact (xs.length - (at' xs w + 1) - 2) : Int)) (j := (fact (at' xs w) : Int)) (a := 300) (b := 300) (by omega) (by omega)
  walk_at "ev"
  rw [a3]
  refine ⟨(fact (xs.length - (at' xs w + 1) - 2) * fact (at' xs w) * y, fact (xs.length - 2)), ?_, fact_pos _, Nat.lt_of_lt_of_le f3 (Nat.pow_le_pow_right (n := 2) (by decide) (by decide : 300 ≤ 8000)), hp⟩
  simp only [Int.natCast_mul]
theorem bd_is_full {K : PySem.W.Frag} : ∀ ds P0, S_is_full ds P0 → Wp (t_is_full K) (retD P0) (DL.envOf n_is_full ds) := by
  rintro ds P0 ⟨xs, w, rfl, hw, hp⟩
  have e1 : ((plI xs).map PyData.int).length = xs.length := by rw [List.length_map, plI_len]
  unfold t_is_full
  walk_at "ev"
  refine ⟨_, _, _, .inl rfl, rfl, plI_at hw, ?_⟩
  walk_at "ev"
  refine ⟨rfl, rfl, ?_⟩
  rw [eqv_int]
  have e : decide ((at' xs w : Int) + 1 = ((((plI xs).map PyData.int).length : Nat) : Int) - 1) = decide (at' xs w + 2 = xs.length) := by
    rw [e1]
    by_cases h : at' xs w + 2 = xs.length
    · rw [decide_eq_true h, decide_eq_true (by omega)]
    · rw [decide_eq_false h, decide_eq_false (by omega)]
  rw [e]; exact hp
def fAt (xs : List Nat) : PyData → Option PyData
  | .int v => some (.int (at' xs v.toNat : Int))
  | _ => none
theorem fAt_int (xs : List Nat) (v : Nat) : fAt xs (.int (v : Int)) = some (.int (at' xs v : Int)) := by simp [fAt]
theorem fm_at (xs g : List Nat) : ((grI g).map PyData.int).filterMap (fAt xs) = (g.map fun v => (at' xs v : Int)).map .int := by
  unfold grI
  rw [List.map_map, List.filterMap_map, List.map_map]
  induction g with
  | nil => rfl
  | cons v r ih => rw [List.filterMap_cons, List.map_cons, ← ih]; simp [fAt]
theorem sum_cast {α : Type} (f : α → Nat) (l : List α) : (l.map fun v => (f v : Int)).sum = ((l.map f).sum : Nat) := by
  induction l with
  | nil => rfl
  | cons a r ih => rw [List.map_cons, List.sum_cons, ih, List.map_cons, List.sum_cons]; push_cast; rfl
theorem bd_weight_of {K : PySem.W.Frag} : ∀ ds P0, S_weight_of ds P0 → Wp (t_weight_of K) (retD P0) (DL.envOf n_weight_of ds) := by
  rintro ds P0 ⟨xs, g, rfl, hx, hg, hp⟩
  have e2 : ((grI g).map PyData.int).length = g.length := by rw [List.length_map, grI_len]
  have hgl : g.length ≤ xs.length := by
    have hsub : g ⊆ List.range xs.length := fun v hv => List.mem_range.mpr (hg.lt v hv)
    have hnd : g.Nodup := hg.asc.imp (fun h => Nat.ne_of_lt h)
    have := hnd.length_le_of_subset hsub
    simpa using this
  unfold t_weight_of
  walk_at "ev"
  refine ev_lcP (js := [2]) (by simp) (fAt xs) (iv_list ?_)
  walk_at "ev"
  refine ⟨by rw [e2]; exact sumLine (by omega), fun i y hy => gd_name ?_, ?_⟩
  · obtain ⟨v, hv, rfl⟩ := grI_get hy
    have hlt := hg.lt v (List.mem_of_getElem? hv)
    walk_at "ev"
    refine ⟨_, _, _, .inl rfl, rfl, plI_at hlt, ?_⟩
    walk_at "ev"
    refine ⟨?_, rfl⟩
    rw [fAt_int, Int.add_sub_cancel]
  · refine ⟨g.map fun v => (at' xs v : Int), by rw [fm_at], ?_⟩
    rw [sum_cast]
    exact hp
end PN
end

section
set_option Elab.async false
set_option linter.all false
set_option autoImplicit false
set_option maxRecDepth 100000
set_option maxHeartbeats 4000000
namespace PN
open PySem PySem.Spec PyProof.Rows L2 DL
local macro_rules | `(tactic| walk_at "ev1") => `(tactic| first
  | with_reducible refine wp_seq ?_ | with_reducible refine wp_ret ?_ | with_reducible refine wp_next ?_ | with_reducible refine wp_if ?_
  | with_reducible refine wp_asg ?_ | with_reducible refine wp_drop ?_
  | with_reducible refine ev_int ?_ | with_reducible refine ev_bl ?_ | with_reducible refine ev_non ?_
  | with_reducible refine ev_add ?_ | with_reducible refine ev_sub ?_ | with_reducible refine ev_mul ?_ | with_reducible refine ev_fdiv ?_ | with_reducible refine ev_mod ?_ | with_reducible refine ev_pow ?_ | with_reducible refine ev_neg ?_
  | with_reducible refine ev_lt ?_ | with_reducible refine ev_le ?_ | with_reducible refine ev_gt ?_ | with_reducible refine ev_ge ?_
  | with_reducible refine ev_eq ?_ | with_reducible refine ev_ne ?_ | with_reducible refine ev_in ?_ | with_reducible refine ev_notin ?_ | with_reducible refine ev_notN ?_
  | with_reducible refine ev_tup ?_ | with_reducible refine ev_lst ?_ | with_reducible refine ev_ix ?_ | with_reducible refine ev_cat ?_ | with_reducible refine ev_rep ?_
  | with_reducible refine ev_lele ?_ | with_reducible refine ev_lelt ?_ | with_reducible refine ev_eqeq ?_
  | with_reducible refine ev_andV ?_ | with_reducible refine ev_orV ?_ | with_reducible refine ev_notV ?_ | with_reducible refine ev_if ?_
  | with_reducible refine ev_len ?_ | with_reducible refine ev_sum ?_ | with_reducible refine ev_all ?_ | with_reducible refine ev_sorted ?_ | with_reducible refine ev_max ?_ | with_reducible refine ev_min ?_ | with_reducible refine ev_abs ?_ | with_reducible refine ev_toInt ?_
  | with_reducible refine ev_isi ?_ | with_reducible refine ev_count ?_ | with_reducible refine ev_call ?_ | with_reducible refine ev_slice ?_
  | with_reducible refine evs_nil ?_ | with_reducible refine evs_cons ?_ | with_reducible refine evs_star ?_
  | with_reducible refine et_test ?_ | with_reducible refine et_B ?_ | with_reducible refine et_not ?_ | with_reducible refine et_and ?_ | with_reducible refine et_or ?_ | with_reducible refine et_yes ?_
  | with_reducible refine eo_none ?_ | with_reducible refine eo_some ?_
  | with_reducible refine iteT ?_ | with_reducible refine iteF ?_ | with_reducible refine ifNt ?_ | with_reducible refine ifNf ?_
  | refine ⟨true, isi_int_int _, ?_⟩ | refine ⟨false, isi_int_bool _, ?_⟩ | refine ⟨true, isi_list _, ?_⟩
  | (refine ev_var (by rfl) ?_)
  | refine ⟨_, _, _, Or.inr rfl, rfl, by rfl, ?_⟩ | refine ⟨_, _, _, Or.inl rfl, rfl, plI_at (by assumption), ?_⟩
  | refine ⟨_, rfl, ?_⟩ | refine ⟨_, _, rfl, rfl, ?_⟩ | refine ⟨_, _, rfl, ?_⟩
  | refine And.intro (by first | assumption | omega | exact szn _ (by simp)) ?_)
local macro_rules | `(tactic| walk_at "ev") => `(tactic| repeat (walk_at "ev1"; try dsimp only))
theorem grp_le {n : Nat} {g : List Nat} (hg : Grp n g) : g.length ≤ n := by
  have hsub : g ⊆ List.range n := fun v hv => List.mem_range.mpr (hg.lt v hv)
  have hnd : g.Nodup := hg.asc.imp (fun h => Nat.ne_of_lt h)
  have := hnd.length_le_of_subset hsub
  simpa using this
theorem grp_nd {n : Nat} {g : List Nat} (hg : Grp n g) : g.Nodup := hg.asc.imp (fun h => Nat.ne_of_lt h)
/-- a group's further plugs are some of all -/
theorem sumG_le {xs g : List Nat} (hg : Grp xs.length g) : sumG xs g ≤ xs.sum := by
  have key : ∀ (g : List Nat), g.Nodup → (∀ v ∈ g, v < xs.length) → sumG xs g ≤ sumG xs (List.range xs.length) := by
    intro g hnd hlt
    have hp : (List.range xs.length).Perm (g ++ (List.range xs.length).filter fun v => decide (v ∉ g)) := by
      rw [List.perm_ext_iff_of_nodup List.nodup_range]
      · intro v
        simp only [List.mem_append, List.mem_filter, List.mem_range, decide_eq_true_eq]
        constructor
        · intro h
          by_cases hv : v ∈ g
          · exact .inl hv
          · exact .inr ⟨h, hv⟩
        · rintro (h | h)
          · exact hlt v h
          · exact h.1
      · rw [List.nodup_append]
        refine ⟨hnd, List.nodup_range.filter _, fun a ha b hb e => ?_⟩
        subst e
        simp only [List.mem_filter, decide_eq_true_eq] at hb
        exact hb.2 ha
    have e : sumG xs (List.range xs.length) = sumG xs (g ++ (List.range xs.length).filter fun v => decide (v ∉ g)) := (hp.map (at' xs)).sum_nat
    rw [e]
    unfold sumG
    rw [List.map_append, List.sum_append]
    omega
  have e : sumG xs (List.range xs.length) = xs.sum := by
    unfold sumG
    congr 1
    apply List.ext_getElem
    · simp
    · intro i h1 h2
      simp [at', List.getD_eq_getElem?_getD, List.getElem?_eq_getElem h2]
  rw [← e]
  exact key g (grp_nd hg) hg.lt
theorem bd_share_around {K : PySem.W.Frag} : ∀ ds P0, S_share_around ds P0 → Wp (t_share_around K) (retD P0) (DL.envOf n_share_around ds) := by
  rintro ds P0 ⟨xs, w, g, rfl, gd, hw, hg, hwg, hlen, hp⟩
  have e1 : ((plI xs).map PyData.int).length = xs.length := by rw [List.length_map, plI_len]
  have e2 : ((grI g).map PyData.int).length = g.length := by rw [List.length_map, grI_len]
  have h6 := gd.most
  have h7 := gd.sum
  unfold t_share_around
  walk_at "ev"
  refine ⟨(w : Int), grI g, rfl, .inl rfl, ?_⟩
  walk_at "ev"
  have hn : (w : Int) ∉ grI g := fun h => by
    obtain ⟨v, hv, e⟩ := List.mem_map.mp h
    exact hwg (by have : v = w := by omega
                  rw [← this]; exact hv)
  refine ifF hn ?_
  walk_at "ev"
  refine ⟨rfl, rfl, ?_⟩
  rw [eqv_int, e2, hlen]
  walk_at "ev"
  refine ifNT (by omega) ?_
  walk_at "ev"
  unfold aroF at hp
  refine ifD (fun h => ?_) (fun h => ?_)
  · rw [if_pos h] at hp
    walk_at "ev"
    exact hp
  · rw [if_neg h] at hp
    have hs := sumG_le hg
    walk_at "ev"
    have hwx : at' xs w ≤ xs.sum := le_sum (by unfold at'; rw [List.getD_eq_getElem?_getD, List.getElem?_eq_getElem hw]; exact List.getElem_mem hw)
    exact ⟨xs, w, sumG xs g, rfl, gd, hw, by omega, by omega, hp⟩
theorem bd_need_centre {K : PySem.W.Frag} : ∀ ds P0, S_need_centre ds P0 → Wp (t_need_centre K) (retD P0) (DL.envOf n_need_centre ds) := by
  rintro ds P0 ⟨xs, w, g, rfl, gd, hw, hg, hp⟩
  unfold t_need_centre
  walk_at "ev"
  refine ⟨xs, g, 0, rfl, gd.most, hg, by omega, ?_⟩
  walk_at "ev"
  exact hp
theorem bd_around_share {K : PySem.W.Frag} : ∀ ds P0, S_around_share ds P0 → Wp (t_around_share K) (retD P0) (DL.envOf n_around_share ds) := by
  rintro ds P0 ⟨xs, w, g, rfl, gd, hw, hg, hwg, hlen, hp⟩
  unfold t_around_share
  walk_at "ev"
  refine ⟨xs, w, g, rfl, gd, hw, hg, ?_⟩
  walk_at "ev"
  exact ⟨xs, w, g, rfl, gd, hw, hg, hwg, hlen, hp⟩
theorem bd_need_gathered {K : PySem.W.Frag} : ∀ ds P0, S_need_gathered ds P0 → Wp (t_need_gathered K) (retD P0) (DL.envOf n_need_gathered ds) := by
  rintro ds P0 ⟨xs, g, rfl, gd, hg, h1, hp⟩
  unfold t_need_gathered
  walk_at "ev"
  refine ⟨xs, g, 1, rfl, gd.most, hg, by omega, ?_⟩
  walk_at "ev"
  exact hp
/-- the rows of tops_within ahead of the sieve -/
def fRow (a X n : Nat) : PyData → Option PyData
  | .int m => some (.tuple [.int m, .int (withT a X n m.toNat : Int)])
  | _ => none
def fPos : PyData → Option PyData
  | .tuple [.int m, .int t] => if 0 < t then some (.tuple [.int m, .int t]) else none
  | _ => none
theorem withT_lt {a X n m : Nat} (h1 : 1 ≤ a) (h2 : a ≤ n) (h3 : n ≤ 60) : withT a X n m < 2 ^ 121 := by
  unfold withT
  split
  · split <;> decide
  · split
    · have c1 := Ch_le (a - 1) m
      have c2 : 2 ^ (a - 1) ≤ 2 ^ 60 := Nat.pow_le_pow_right (by omega) (by omega)
      have c3 := chI_le ((n : Int) - a - 1) ((X : Int) - m) (by omega)
      have : Ch (a - 1) m * chI ((n : Int) - a - 1) ((X : Int) - m) ≤ 2 ^ 60 * 2 ^ 60 := Nat.mul_le_mul (by omega) c3
      exact Nat.lt_of_le_of_lt this (by decide)
    · rw [Nat.mul_zero]; decide
theorem fm_pos (a X n : Nat) : ((rangeD 0 a).filterMap (fRow a X n)).filterMap fPos = ((List.range a).filter fun m => decide (0 < withT a X n m)).map fun (m : Nat) => PyData.tuple [.int (m : Int), .int (withT a X n m : Int)] := by
  unfold rangeD
  rw [List.filterMap_map, List.filterMap_filterMap]
  induction List.range a with
  | nil => rfl
  | cons m r ih =>
    rw [List.filterMap_cons, List.filter_cons]
    have e : (fun x => ((fRow a X n ∘ fun (i : Nat) => PyData.int (0 + (i : Int))) x).bind fPos) m = if 0 < withT a X n m then some (PyData.tuple [.int (m : Int), .int (withT a X n m : Int)]) else none := by
      simp [fRow, fPos, Option.bind]
    by_cases h : 0 < withT a X n m
    · rw [if_pos h] at e
      rw [if_pos (by simpa using h)]
      simp only [e, ih, List.map_cons]
    · rw [if_neg h] at e
      rw [if_neg (by simpa using h)]
      simp only [e, ih]
theorem bd_tops_within {K : PySem.W.Frag} : ∀ ds P0, S_tops_within ds P0 → Wp (t_tops_within K) (retD P0) (DL.envOf n_tops_within ds) := by
  rintro ds P0 ⟨a, X, n, rfl, h1, h2, h3, h4, h5, hp⟩
  unfold t_tops_within
  walk_at "ev"
  refine ⟨rfl, rfl, ?_⟩
  rw [eqv_int]
  walk_at "ev"
  refine ifD (fun h => ?_) (fun h => ?_)
  · have han : a = n := by omega
    subst han
    walk_at "ev"
    have e : topsD a X a = .tuple [.list [.tuple [.int ((a : Int) - 1), .int 1]], .int 1] := by
      unfold topsD
      obtain ⟨b, rfl⟩ : ∃ b, a = b + 1 := ⟨a - 1, by omega⟩
      have ht : ∀ m, withT (b + 1) X (b + 1) m = if m = b then 1 else 0 := fun m => by
        unfold withT
        rw [if_pos rfl]
        by_cases hm : m = b
        · rw [if_pos hm, if_pos (by omega)]
        · rw [if_neg hm, if_neg (by omega)]
      have hf : ((List.range (b + 1)).filter fun m => decide (0 < withT (b + 1) X (b + 1) m)) = [b] := by
        rw [List.range_succ, List.filter_append]
        have e1 : (List.range b).filter (fun m => decide (0 < withT (b + 1) X (b + 1) m)) = [] := by
          rw [List.filter_eq_nil_iff]
          intro m hm
          have := List.mem_range.mp hm
          rw [ht m, if_neg (by omega)]; decide
        rw [e1, List.filter_cons, ht b, if_pos rfl]; rfl
      rw [hf]
      have e2 : (((b + 1 : Nat) : Int) - 1) = (b : Int) := by omega
      have e3 : withB (b + 1) X (b + 1) = 1 := by unfold withB; rw [if_pos rfl]
      rw [e2, e3, List.map_cons, ht b, if_pos rfl]; rfl
    rw [e] at hp
    exact hp
  · walk_at "ev"
    refine ev_lcP (js := [4]) (by simp) (fRow a X n) (iv_range1 ?_)
    walk_at "ev"
    refine ⟨by rw [rangeD_len]; exact sumLine (by omega), fun i y hy => gd_name ?_, ?_⟩
    · obtain ⟨hi, rfl⟩ := rangeD_get hy
      walk_at "ev"
      have c1 := chI_le ((a : Int) - 1) (0 + (i : Int)) (by omega)
      have c2 := chI_le ((n : Int) - a - 1) ((X : Int) + a - a - (0 + (i : Int))) (by omega)
      refine ⟨wide_mul (a := 61) (b := 61) (by omega) (by omega) (by omega) (by omega) (by omega), ?_⟩
      walk_at "ev"
      refine ⟨?_, rfl⟩
      have e : (withT a X n i : Int) = (chI ((a : Int) - 1) (0 + (i : Int)) : Int) * (chI ((n : Int) - a - 1) ((X : Int) + a - a - (0 + (i : Int))) : Int) := by
        unfold withT
        have q1 : (a : Int) - 1 = ((a - 1 : Nat) : Int) := by omega
        have q2 : (X : Int) + a - a - (0 + (i : Int)) = (X : Int) - i := by omega
        rw [if_neg (by omega), q2, Int.zero_add, q1, chI_eq]
        by_cases hX : i ≤ X
        · rw [if_pos hX]; push_cast; rfl
        · have : chI ((n : Int) - a - 1) ((X : Int) - i) = 0 := by unfold chI; rw [if_neg (by omega)]
          rw [if_neg hX, this]; push_cast; rfl
      rw [← e]
      simp [fRow]
    · rw [Int.toNat_natCast]
      walk_at "ev"
      refine ev_lcP (js := [5]) (by simp) fPos (iv_list ?_)
      walk_at "ev"
      refine ⟨?_, fun i y hy => gd_name ?_, ?_⟩
      · refine Nat.lt_of_le_of_lt (List.length_filterMap_le _ _) ?_
        rw [rangeD_len]; exact sumLine (by omega)
      · obtain ⟨y0, hy0, hy1⟩ := List.mem_filterMap.mp (List.mem_of_getElem? hy)
        obtain ⟨j, hj⟩ := List.getElem?_of_mem hy0
        obtain ⟨_, rfl⟩ := rangeD_get hj
        have hy2 : y = .tuple [.int (0 + (j : Int)), .int (withT a X n (0 + (j : Int)).toNat : Int)] := (Option.some.inj hy1).symm
        subst hy2
        walk_at "ev"
        refine ifD (fun hq => ?_) (fun hq => ?_)
        · walk_at "ev"
          refine ⟨?_, rfl⟩
          show (if 0 < (withT a X n (0 + (j : Int)).toNat : Int) then _ else _) = _
          rw [if_pos hq]
        · refine ⟨?_, rfl⟩
          show (if 0 < (withT a X n (0 + (j : Int)).toNat : Int) then _ else _) = _
          rw [if_neg hq]
      · rw [fm_pos]
        walk_at "ev"
        have e : topsD a X n = .tuple [.list (((List.range a).filter fun m => decide (0 < withT a X n m)).map fun (m : Nat) => PyData.tuple [.int (m : Int), .int (withT a X n m : Int)]), .int (chI ((n : Int) - 2) ((X : Int) + a - a) : Int)] := by
          unfold topsD
          have q1 : (n : Int) - 2 = ((n - 2 : Nat) : Int) := by omega
          have q2 : (X : Int) + a - a = (X : Int) := by omega
          have q3 : withB a X n = Ch (n - 2) X := by unfold withB; rw [if_neg (by omega)]
          rw [q1, q2, q3, chI_eq]
        rw [e] at hp
        exact hp
def fPl (xs : List Nat) : PyData → Option PyData
  | .int v => some (.int ((at' xs v.toNat : Int) + 1))
  | _ => none
theorem fPl_int (xs : List Nat) (v : Nat) : fPl xs (.int (v : Int)) = some (.int ((at' xs v : Int) + 1)) := by simp [fPl]
theorem fm_pl (xs g : List Nat) : ((grI g).map PyData.int).filterMap (fPl xs) = (g.map fun v => (at' xs v : Int) + 1).map .int := by
  unfold grI
  rw [List.map_map, List.filterMap_map, List.map_map]
  induction g with
  | nil => rfl
  | cons v r ih => rw [List.filterMap_cons, List.map_cons, ← ih]; simp [fPl]
theorem sum_pl (xs g : List Nat) : (g.map fun v => (at' xs v : Int) + 1).sum = (sumG xs g : Int) + g.length := by
  unfold sumG
  induction g with
  | nil => rfl
  | cons v r ih => rw [List.map_cons, List.sum_cons, ih, List.map_cons, List.sum_cons, List.length_cons]; push_cast; omega
/-- sum([plugs[device] for device in group]) -/
theorem ev_sumPl {K : PySem.W.Frag} {es : List En} {P : PyData → List En → Prop} {xs g : List Nat} {i j l : Nat} (hg : Grp xs.length g) (hx : xs.length ≤ 60) (hi : es[i]? = some (.dat (plD xs))) (hj : es[j]? = some (.dat (grD g))) (hl : l ≠ i) (hll : l < es.length)
    (h : P (.int ((sumG xs g : Int) + g.length)) (wipeE es [l])) :
    Ev (tCB (rSum K) (tCons (tLc (iList K (tVar j)) (gName l) tYes (tOp (rIx K) (tVar i) (tVar l)) [l]) tNil)) es P := by
  have e2 : ((grI g).map PyData.int).length = g.length := by rw [List.length_map, grI_len]
  have hgl := grp_le hg
  refine ev_sum (ev_lcP (js := [l]) (by simp) (fPl xs) (iv_list (ev_var hj ⟨_, rfl, by rw [e2]; exact sumLine (by omega), fun k y hy => gd_name (et_yes (iteT ?_)), ?_⟩)))
  · obtain ⟨v, hv, rfl⟩ := grI_get hy
    have hlt := hg.lt v (List.mem_of_getElem? hv)
    refine ev_ix (ev_var (d := plD xs) ?_ (ev_var (d := .int (v : Int)) ?_ ⟨_, _, _, .inl rfl, rfl, plI_at hlt, fPl_int xs v, ?_⟩))
    · rw [List.getElem?_set_ne hl, wipeE_get, if_neg (by simpa using fun z : i = l => hl z.symm), hi]
    · rw [List.getElem?_set_self (by rw [wipeE_len]; exact hll)]
    · rw [wipeE_set _ _ (by simp), wipeE_wipeE]
  · refine ⟨g.map fun v => (at' xs v : Int) + 1, by rw [fm_pl], ?_⟩
    rw [sum_pl]
    exact h
theorem bd_tops_of_group {K : PySem.W.Frag} : ∀ ds P0, S_tops_of_group ds P0 → Wp (t_tops_of_group K) (retD P0) (DL.envOf n_tops_of_group ds) := by
  rintro ds P0 ⟨xs, g, rfl, gd, hg, h1, hp⟩
  have e1 : ((plI xs).map PyData.int).length = xs.length := by rw [List.length_map, plI_len]
  have e2 : ((grI g).map PyData.int).length = g.length := by rw [List.length_map, grI_len]
  have hgl := grp_le hg
  have hs := sumG_le hg
  have h6 := gd.most
  have h7 := gd.sum
  unfold t_tops_of_group
  refine wp_ret (ev_call (evs_cons (ev_len (ev_var (by rfl) ⟨_, rfl, evs_cons (ev_sumPl hg h6 (by rfl) (by rfl) (by decide) (by show 2 < 3; decide) (evs_cons (ev_len (ev_var (by rfl) ⟨_, rfl, evs_nil ?_⟩)))) ⟩))))
  rw [e1, e2]
  exact ⟨g.length, sumG xs g, xs.length, rfl, h1, hgl, by omega, h6, by omega, hp⟩
def fLow (bot : Nat) : PyData → Option PyData
  | .tuple [.int m, .int t] => some (rowD (m.toNat, low (t.toNat, bot)))
  | _ => none
theorem topsD_get {a X n i : Nat} {y : PyData} (h : (((List.range a).filter fun m => decide (0 < withT a X n m)).map fun (m : Nat) => PyData.tuple [.int (m : Int), .int (withT a X n m : Int)])[i]? = some y) : ∃ m, m < a ∧ 0 < withT a X n m ∧ y = .tuple [.int (m : Int), .int (withT a X n m : Int)] := by
  rw [List.getElem?_map] at h
  obtain ⟨m, hm, rfl⟩ := Option.map_eq_some_iff.mp h
  have := List.mem_filter.mp (List.mem_of_getElem? hm)
  exact ⟨m, List.mem_range.mp this.1, by simpa using this.2, rfl⟩
theorem fm_low (a X n : Nat) : (((List.range a).filter fun m => decide (0 < withT a X n m)).map fun (m : Nat) => PyData.tuple [.int (m : Int), .int (withT a X n m : Int)]).filterMap (fLow (withB a X n)) = (rows (fun m => (withT a X n m, withB a X n)) a).map rowD := by
  unfold rows
  rw [List.filterMap_map, List.map_map]
  induction (List.range a).filter fun m => decide (0 < withT a X n m) with
  | nil => rfl
  | cons m r ih => rw [List.filterMap_cons, List.map_cons, ← ih]; simp [fLow]
theorem withB_pos {a X n : Nat} (h : X + 2 ≤ n) : 0 < withB a X n := by
  unfold withB
  split
  · decide
  · exact Ch_pos (by omega)
theorem withB_lt {a X n : Nat} (h : n ≤ 60) : withB a X n < 2 ^ 61 := by
  unfold withB
  split
  · decide
  · exact Nat.lt_of_le_of_lt (Nat.le_trans (Ch_le _ _) (Nat.pow_le_pow_right (by omega) (show n - 2 ≤ 60 by omega))) (by decide)
theorem bd_within_shares {K : PySem.W.Frag} : ∀ ds P0, S_within_shares ds P0 → Wp (t_within_shares K) (retD P0) (DL.envOf n_within_shares ds) := by
  rintro ds P0 ⟨xs, g, rfl, gd, hg, h1, hp⟩
  have hgl := grp_le hg
  have hs := sumG_le hg
  have h6 := gd.most
  have h7 := gd.sum
  unfold t_within_shares
  walk_at "ev"
  refine wp_asgG (js := [2, 3]) ?_
  walk_at "ev"
  refine gd_tup rfl (gds_cons (gd_name (gds_cons (gd_name (gds_nil ?_)))))
  walk_at "ev"
  refine ev_lcP (js := [4, 5]) (by simp) (fLow (withB g.length (sumG xs g) xs.length)) (iv_list ?_)
  walk_at "ev"
  refine ⟨?_, fun i y hy => ?_, ?_⟩
  · rw [List.length_map]
    refine Nat.lt_of_le_of_lt (List.length_filter_le _ _) ?_
    rw [List.length_range]; exact sumLine (by omega)
  · obtain ⟨m, hm, hpos, rfl⟩ := topsD_get hy
    refine gd_tup rfl (gds_cons (gd_name (gds_cons (gd_name (gds_nil ?_)))))
    have b1 := withB_pos (a := g.length) (X := sumG xs g) (n := xs.length) (by omega)
    have b2 := withB_lt (a := g.length) (X := sumG xs g) (n := xs.length) h6
    walk_at "ev"
    refine ⟨(withT g.length (sumG xs g) xs.length m, withB g.length (sumG xs g) xs.length), rfl, b1, Nat.lt_of_lt_of_le b2 (Nat.pow_le_pow_right (n := 2) (by decide) (by decide : 61 ≤ 8000)), _, .inl rfl, ?_⟩
    walk_at "ev"
    refine ⟨?_, rfl⟩
    simp [fLow, rowD]
  · rw [fm_low]
    exact hp
theorem rows_last (a X n : Nat) (h : ∃ m, m < a ∧ 0 < withT a X n m) : ∃ m, m < a ∧ ((List.range a).filter fun m => decide (0 < withT a X n m)).getLast? = some m ∧ 0 < withT a X n m ∧ ∀ k, m < k → k < a → withT a X n k = 0 := by
  have key : ∀ (b : Nat) (p : Nat → Bool), (∃ m, m < b ∧ p m = true) → ∃ m, m < b ∧ ((List.range b).filter p).getLast? = some m ∧ p m = true ∧ ∀ k, m < k → k < b → p k = false := by
    intro b p
    induction b with
    | zero => rintro ⟨m, hm, _⟩; omega
    | succ b ih =>
      rintro ⟨m, hm, hp⟩
      rw [List.range_succ, List.filter_append]
      by_cases hb : p b = true
      · refine ⟨b, by omega, ?_, hb, fun k h1 h2 => by omega⟩
        rw [List.filter_cons, if_pos hb]
        simp
      · have hne : m ≠ b := fun z => hb (z ▸ hp)
        obtain ⟨m', h1, h2, h3, h4⟩ := ih ⟨m, by omega, hp⟩
        refine ⟨m', by omega, ?_, h3, fun k q1 q2 => ?_⟩
        · rw [List.filter_cons, if_neg hb]
          simpa using h2
        · by_cases hk : k = b
          · subst hk; simpa using hb
          · exact h4 k q1 (by omega)
  obtain ⟨m, hm, hp⟩ := h
  obtain ⟨m', h1, h2, h3, h4⟩ := key a (fun m => decide (0 < withT a X n m)) ⟨m, hm, by simpa using hp⟩
  exact ⟨m', h1, h2, by simpa using h3, fun k q1 q2 => by
    have := h4 k q1 q2
    simp only [decide_eq_false_iff_not] at this
    omega⟩
/-- some number of cables is there -/
theorem rows_some {a X n : Nat} (h1 : 1 ≤ a) (h2 : a ≤ n) (h3 : X + 2 ≤ n) : ∃ m, m < a ∧ 0 < withT a X n m := by
  by_cases han : a = n
  · subst han
    refine ⟨a - 1, by omega, ?_⟩
    unfold withT
    rw [if_pos rfl, if_pos (by omega)]; decide
  · have hchoose : ∃ m, m < a ∧ m ≤ X ∧ X - m ≤ n - a - 1 := by
      by_cases hq : X ≤ a - 1
      · exact ⟨X, by omega, by omega, by omega⟩
      · exact ⟨a - 1, by omega, by omega, by omega⟩
    obtain ⟨m, q1, q2, q3⟩ := hchoose
    refine ⟨m, q1, ?_⟩
    unfold withT
    have e1 : (n : Int) - a - 1 = ((n - a - 1 : Nat) : Int) := by omega
    have e2 : (X : Int) - m = ((X - m : Nat) : Int) := by omega
    rw [if_neg han, if_pos q2, e1, e2, chI_eq]
    exact Nat.mul_pos (Ch_pos (by omega)) (Ch_pos q3)
theorem atI_neg1 {α : Type} {l : List α} {x : α} (h : l.getLast? = some x) : atI l (-1) = some x := by
  have hne : l ≠ [] := fun z => by subst z; simp at h
  have e : l = l.dropLast ++ [x] := by
    rw [List.getLast?_eq_some_getLast hne] at h
    have := List.dropLast_concat_getLast hne
    rw [Option.some.inj h] at this
    exact this.symm
  rw [e]
  exact atI_last _ _
theorem bd_together_share {K : PySem.W.Frag} : ∀ ds P0, S_together_share ds P0 → Wp (t_together_share K) (retD P0) (DL.envOf n_together_share ds) := by
  rintro ds P0 ⟨xs, g, rfl, gd, hg, h1, hp⟩
  have e2 : ((grI g).map PyData.int).length = g.length := by rw [List.length_map, grI_len]
  have hgl := grp_le hg
  have hs := sumG_le hg
  have h6 := gd.most
  have h7 := gd.sum
  have b1 := withB_pos (a := g.length) (X := sumG xs g) (n := xs.length) (by omega)
  have b2 := withB_lt (a := g.length) (X := sumG xs g) (n := xs.length) h6
  obtain ⟨m, hm, hlast, hpos, hz⟩ := rows_last g.length (sumG xs g) xs.length (rows_some h1 hgl (by omega))
  have hlast2 : (((List.range g.length).filter fun m => decide (0 < withT g.length (sumG xs g) xs.length m)).map fun (m : Nat) => PyData.tuple [.int (m : Int), .int (withT g.length (sumG xs g) xs.length m : Int)]).getLast? = some (.tuple [.int (m : Int), .int (withT g.length (sumG xs g) xs.length m : Int)]) := by
    rw [List.getLast?_map, hlast]; rfl
  unfold t_together_share
  walk_at "ev"
  refine wp_asgG (js := [2, 3]) ?_
  walk_at "ev"
  refine gd_tup rfl (gds_cons (gd_name (gds_cons (gd_name (gds_nil ?_)))))
  walk_at "ev"
  refine ⟨_, _, _, .inl rfl, rfl, atI_neg1 hlast2, ?_⟩
  walk_at "ev"
  refine ⟨rfl, rfl, ?_⟩
  rw [eqv_int, e2]
  walk_at "ev"
  refine ifD (fun h => ?_) (fun h => ?_)
  · have hme : m = g.length - 1 := by omega
    subst hme
    walk_at "ev"
    refine ⟨_, _, _, .inl rfl, rfl, atI_neg1 hlast2, ?_⟩
    walk_at "ev"
    exact ⟨(withT g.length (sumG xs g) xs.length (g.length - 1), withB g.length (sumG xs g) xs.length), rfl, b1, Nat.lt_of_lt_of_le b2 (Nat.pow_le_pow_right (n := 2) (by decide) (by decide : 61 ≤ 8000)), hp⟩
  · rw [hz (g.length - 1) (by omega) (by omega)] at hp
    unfold lowD at hp
    rw [low_nil _ b1] at hp
    walk_at "ev"
    exact hp
theorem bd_is_side {K : PySem.W.Frag} : ∀ ds P0, S_is_side ds P0 → Wp (t_is_side K) (retD P0) (DL.envOf n_is_side ds) := by
  rintro ds P0 ⟨xs, g, rfl, h6, hg, hp⟩
  have e1 : ((plI xs).map PyData.int).length = xs.length := by rw [List.length_map, plI_len]
  have e2 : ((grI g).map PyData.int).length = g.length := by rw [List.length_map, grI_len]
  have hgl := grp_le hg
  unfold t_is_side
  walk_at "ev"
  rw [e1, e2]
  refine ifD (fun h => ?_) (fun h => ?_)
  · refine ev_eq (ev_sumPl hg h6 (by rfl) (by rfl) (by decide) (by show 2 < 3; decide) ?_)
    walk_at "ev"
    refine ⟨wide_mul (a := 10) (b := 10) (by decide) (by rw [e2]; omega) (by omega) (by omega) (by omega), ?_⟩
    walk_at "ev"
    refine ⟨rfl, rfl, ?_⟩
    rw [eqv_int, e2]
    have e : decide ((sumG xs g : Int) + (g.length : Int) = 2 * (g.length : Int) - 1) = decide (g.length < xs.length ∧ sumG xs g + 1 = g.length) := by
      by_cases hq : sumG xs g + 1 = g.length
      · rw [decide_eq_true (by omega), decide_eq_true ⟨by omega, hq⟩]
      · rw [decide_eq_false (by omega), decide_eq_false (fun z => hq z.2)]
    rw [e]
    exact hp
  · rw [decide_eq_false (fun z => h (by omega))] at hp
    exact hp
theorem bd_side_share {K : PySem.W.Frag} : ∀ ds P0, S_side_share ds P0 → Wp (t_side_share K) (retD P0) (DL.envOf n_side_share ds) := by
  rintro ds P0 ⟨xs, g, rfl, gd, hg, h1, hp⟩
  have e1 : ((plI xs).map PyData.int).length = xs.length := by rw [List.length_map, plI_len]
  have e2 : ((grI g).map PyData.int).length = g.length := by rw [List.length_map, grI_len]
  have hgl := grp_le hg
  have h6 := gd.most
  have h7 := gd.sum
  unfold t_side_share
  walk_at "ev"
  unfold sideF at hp
  refine ifD (fun h => ?_) (fun h => ?_)
  · rw [if_pos h] at hp
    walk_at "ev"
    rw [e1, e2]
    have q1 : (xs.length : Int) - 2 = ((xs.length - 2 : Nat) : Int) := by omega
    have q2 : (g.length : Int) - 1 = ((g.length - 1 : Nat) : Int) := by omega
    unfold lowD at hp
    rw [low_one] at hp
    rw [q1, q2]
    walk_at "ev"
    rw [chI_eq]
    exact hp
  · rw [if_neg h] at hp
    walk_at "ev"
    exact hp
end PN
end

section
set_option Elab.async false
set_option linter.all false
set_option autoImplicit false
set_option maxRecDepth 100000
set_option maxHeartbeats 4000000
namespace PN
open PySem PySem.Spec PyProof.Rows L2 DL
local macro_rules | `(tactic| walk_at "ev1") => `(tactic| first
  | with_reducible refine wp_seq ?_ | with_reducible refine wp_ret ?_ | with_reducible refine wp_next ?_ | with_reducible refine wp_if ?_
  | with_reducible refine wp_asg ?_ | with_reducible refine wp_drop ?_
  | with_reducible refine ev_int ?_ | with_reducible refine ev_bl ?_ | with_reducible refine ev_non ?_
  | with_reducible refine ev_add ?_ | with_reducible refine ev_sub ?_ | with_reducible refine ev_mul ?_ | with_reducible refine ev_fdiv ?_ | with_reducible refine ev_mod ?_ | with_reducible refine ev_pow ?_ | with_reducible refine ev_neg ?_
  | with_reducible refine ev_lt ?_ | with_reducible refine ev_le ?_ | with_reducible refine ev_gt ?_ | with_reducible refine ev_ge ?_
  | with_reducible refine ev_eq ?_ | with_reducible refine ev_ne ?_ | with_reducible refine ev_in ?_ | with_reducible refine ev_notin ?_ | with_reducible refine ev_notN ?_
  | with_reducible refine ev_tup ?_ | with_reducible refine ev_lst ?_ | (with_reducible refine ev_ixO (i := _) ?_ ?_; (focus rfl)) | with_reducible refine ev_ix ?_ | with_reducible refine ev_cat ?_ | with_reducible refine ev_rep ?_
  | with_reducible refine ev_lele ?_ | with_reducible refine ev_lelt ?_ | with_reducible refine ev_eqeq ?_
  | with_reducible refine ev_andV ?_ | with_reducible refine ev_orV ?_ | with_reducible refine ev_notV ?_ | with_reducible refine ev_if ?_
  | with_reducible refine ev_len ?_ | with_reducible refine ev_sum ?_ | with_reducible refine ev_all ?_ | with_reducible refine ev_sorted ?_ | with_reducible refine ev_max ?_ | with_reducible refine ev_min ?_ | with_reducible refine ev_abs ?_ | with_reducible refine ev_toInt ?_
  | with_reducible refine ev_isi ?_ | with_reducible refine ev_count ?_ | with_reducible refine ev_call ?_ | with_reducible refine ev_slice ?_
  | with_reducible refine evs_nil ?_ | with_reducible refine evs_cons ?_ | with_reducible refine evs_star ?_
  | with_reducible refine et_test ?_ | with_reducible refine et_B ?_ | with_reducible refine et_not ?_ | with_reducible refine et_and ?_ | with_reducible refine et_or ?_ | with_reducible refine et_yes ?_
  | with_reducible refine eo_none ?_ | with_reducible refine eo_some ?_
  | with_reducible refine iteT ?_ | with_reducible refine iteF ?_ | with_reducible refine ifNt ?_ | with_reducible refine ifNf ?_
  | refine ⟨true, isi_int_int _, ?_⟩ | refine ⟨false, isi_int_bool _, ?_⟩ | refine ⟨true, isi_list _, ?_⟩
  | (refine ev_var (by rfl) ?_)
  | refine ⟨_, _, _, Or.inr rfl, rfl, by rfl, ?_⟩ | refine ⟨_, _, _, Or.inl rfl, rfl, plI_at (by assumption), ?_⟩
  | refine ⟨_, rfl, ?_⟩ | refine ⟨_, _, rfl, rfl, ?_⟩ | refine ⟨_, _, rfl, ?_⟩
  | refine And.intro (by first | assumption | omega | exact szn _ (by simp)) ?_)
local macro_rules | `(tactic| walk_at "ev") => `(tactic| repeat (walk_at "ev1"; try dsimp only))
/-! path_sums -/
theorem pr_zero (ys : List Nat) : pr ys 0 = 1 := by cases ys <;> rfl
theorem sr_zero (ys : List Nat) : sr ys 0 = 0 := by cases ys <;> rfl
theorem pr_gt : ∀ (ys : List Nat) (k : Nat), ys.length < k → pr ys k = 0
  | [], k + 1, _ => rfl
  | y :: ys, k + 1, h => by
    simp only [List.length_cons] at h
    show pr ys (k + 1) + y * pr ys k = 0
    rw [pr_gt ys (k + 1) (by omega), pr_gt ys k (by omega)]; rfl
theorem sr_gt : ∀ (ys : List Nat) (k : Nat), ys.length < k → sr ys k = 0
  | [], k + 1, _ => rfl
  | y :: ys, k + 1, h => by
    simp only [List.length_cons] at h
    show sr ys (k + 1) + (sr ys k + (y + 1) * pr ys k) * y = 0
    rw [sr_gt ys (k + 1) (by omega), sr_gt ys k (by omega), pr_gt ys k (by omega)]; simp
theorem pr_perm {l l' : List Nat} (h : l.Perm l') : ∀ k, pr l k = pr l' k := by
  induction h with
  | nil => intro k; rfl
  | cons x _ ih =>
    intro k
    cases k with
    | zero => rw [pr_zero, pr_zero]
    | succ k => show pr _ (k + 1) + x * pr _ k = pr _ (k + 1) + x * pr _ k
                rw [ih, ih]
  | swap x y l =>
    intro k
    cases k with
    | zero => rfl
    | succ k =>
      cases k with
      | zero => simp only [pr, pr_zero]; omega
      | succ k => simp only [pr]; grind
  | trans _ _ ih1 ih2 => intro k; rw [ih1, ih2]
theorem sr_perm {l l' : List Nat} (h : l.Perm l') : ∀ k, sr l k = sr l' k := by
  induction h with
  | nil => intro k; rfl
  | cons x hp ih =>
    intro k
    cases k with
    | zero => rw [sr_zero, sr_zero]
    | succ k => show sr _ (k + 1) + (sr _ k + (x + 1) * pr _ k) * x = sr _ (k + 1) + (sr _ k + (x + 1) * pr _ k) * x
                rw [ih, ih, pr_perm hp]
  | swap x y l =>
    intro k
    cases k with
    | zero => rfl
    | succ k =>
      cases k with
      | zero => simp only [sr, sr_zero, pr_zero]; grind
      | succ k => simp only [sr, pr]; grind
  | trans _ _ ih1 ih2 => intro k; rw [ih1, ih2]
theorem pr_snoc (l : List Nat) (y k : Nat) : pr (l ++ [y]) (k + 1) = pr l (k + 1) + y * pr l k := by
  rw [pr_perm (List.perm_append_singleton y l) (k + 1)]; rfl
theorem sr_snoc (l : List Nat) (y k : Nat) : sr (l ++ [y]) (k + 1) = sr l (k + 1) + (sr l k + (y + 1) * pr l k) * y := by
  rw [sr_perm (List.perm_append_singleton y l) (k + 1)]; rfl
theorem pr_bound : ∀ (ys : List Nat) (k : Nat), (∀ y ∈ ys, y ≤ 60) → pr ys k ≤ 61 ^ ys.length
  | [], 0, _ => by decide
  | [], k + 1, _ => by simp [pr]
  | y :: ys, 0, _ => Nat.one_le_pow _ _ (by omega)
  | y :: ys, k + 1, h => by
    have h1 := pr_bound ys (k + 1) fun z hz => h z (by simp [hz])
    have h2 := pr_bound ys k fun z hz => h z (by simp [hz])
    have hy := h y (by simp)
    show pr ys (k + 1) + y * pr ys k ≤ _
    have h3 : y * pr ys k ≤ 60 * 61 ^ ys.length := Nat.mul_le_mul hy h2
    rw [List.length_cons, Nat.pow_succ]
    omega
theorem sr_bound : ∀ (ys : List Nat) (k : Nat), (∀ y ∈ ys, y ≤ 60) → sr ys k ≤ ys.length * 61 * 61 ^ ys.length
  | [], 0, _ => by decide
  | [], k + 1, _ => by simp [sr]
  | y :: ys, 0, _ => Nat.zero_le _
  | y :: ys, k + 1, h => by
    have h1 := sr_bound ys (k + 1) fun z hz => h z (by simp [hz])
    have h2 := sr_bound ys k fun z hz => h z (by simp [hz])
    have h4 := pr_bound ys k fun z hz => h z (by simp [hz])
    have hy := h y (by simp)
    show sr ys (k + 1) + (sr ys k + (y + 1) * pr ys k) * y ≤ _
    have h5 : (y + 1) * pr ys k ≤ 61 * 61 ^ ys.length := Nat.mul_le_mul (by omega) h4
    have h6 : (sr ys k + (y + 1) * pr ys k) * y ≤ (ys.length * 61 * 61 ^ ys.length + 61 * 61 ^ ys.length) * 60 := Nat.mul_le_mul (by omega) hy
    rw [List.length_cons, Nat.pow_succ]
    have e : (ys.length + 1) * 61 * (61 ^ ys.length * 61) = 61 * (ys.length * 61 * 61 ^ ys.length) + 61 * 61 * 61 ^ ys.length := by
      generalize 61 ^ ys.length = A
      grind
    rw [e]
    omega
/-- the two lists, the places from j on of the longer prefix, the others of the shorter -/
def mixL (f g : Nat → Nat) (n j : Nat) : List PyData := (List.range n).map fun k => PyData.int ((if j ≤ k then g k else f k : Nat) : Int)
theorem mixL_len (f g : Nat → Nat) (n j : Nat) : (mixL f g n j).length = n := by simp [mixL]
theorem mixL_get {f g : Nat → Nat} {n j k : Nat} (h : k < n) : (mixL f g n j)[k]? = some (.int ((if j ≤ k then g k else f k : Nat) : Int)) := by
  simp [mixL, h]
theorem mixL_set (f g : Nat → Nat) (n j : Nat) : (mixL f g n (j + 1)).set j (.int (g j : Int)) = mixL f g n j := by
  apply List.ext_getElem?
  intro k
  by_cases hk : k = j
  · subst hk
    by_cases hn : k < n
    · rw [List.getElem?_set_self (by rw [mixL_len]; exact hn), mixL_get hn, if_pos (Nat.le_refl _)]
    · rw [List.getElem?_eq_none (by simp [mixL]; omega), List.getElem?_eq_none (by simp [mixL]; omega)]
  · rw [List.getElem?_set_ne (fun z => hk z.symm)]
    by_cases hn : k < n
    · rw [mixL_get hn, mixL_get hn]
      by_cases hj : j ≤ k
      · rw [if_pos hj, if_pos (by omega)]
      · rw [if_neg hj, if_neg (by omega)]
    · rw [List.getElem?_eq_none (by simp [mixL]; omega), List.getElem?_eq_none (by simp [mixL]; omega)]
theorem ixN_nat {n k : Nat} (h : k < n) : ixN n (k : Int) = some k := by
  unfold ixN
  rw [if_pos (by omega), if_pos (by omega)]; simp
theorem mixL_all (f g : Nat → Nat) (n : Nat) : mixL f g n 0 = (List.range n).map fun k => PyData.int (g k : Int) := by
  unfold mixL
  apply List.map_congr_left
  intro k _
  rw [if_pos (Nat.zero_le _)]
theorem mixL_none (f g : Nat → Nat) (n : Nat) : mixL f g n n = (List.range n).map fun k => PyData.int (f k : Int) := by
  unfold mixL
  apply List.map_congr_left
  intro k hk
  have := List.mem_range.mp hk
  rw [if_neg (by omega)]
set_option exponentiation.threshold 9000 in
theorem bd_path_sums {K : PySem.W.Frag} : ∀ ds P0, S_path_sums ds P0 → Wp (t_path_sums K) (retD P0) (DL.envOf n_path_sums ds) := by
  rintro ds P0 ⟨ys, rfl, hlen, hy, hp⟩
  have e1 : ((plI ys).map PyData.int).length = ys.length := by rw [List.length_map, plI_len]
  have hsl := sizeLine_eq
  unfold t_path_sums
  refine wp_seq (wp_parN (en_cat ?_))
  walk_at "ev"
  refine ⟨by rw [List.length_replicate, List.length_singleton]; omega, en_rep ?_⟩
  walk_at "ev"
  intro p q
  rw [e1]
  have z1 : [PyData.int 1] ++ List.replicate ((ys.length : Nat) : Int).toNat (PyData.int 0) = (List.range (ys.length + 1)).map fun k => PyData.int (pr [] k : Int) := by
    apply List.ext_getElem?
    intro k
    cases k with
    | zero => simp [pr]
    | succ k =>
      by_cases hk : k < ys.length
      · simp [pr, hk]
      · simp [hk]
  have z2 : List.replicate (((ys.length : Nat) : Int) + 1).toNat (PyData.int 0) = (List.range (ys.length + 1)).map fun k => PyData.int (sr [] k : Int) := by
    have e0 : ∀ k, sr [] k = 0 := fun k => by cases k <;> rfl
    have e3 : (((ys.length : Nat) : Int) + 1).toNat = ys.length + 1 := by omega
    rw [e3]
    simp only [e0]
    rw [List.map_const']
    simp
  rw [z1, z2]
  refine wp_seq (wp_for (js := [3]) (iv_list ?_))
  walk_at "ev"
  refine ⟨fun i e => ∃ x3 x4, e = [En.dat (plD ys), .own p (.lst ((List.range (ys.length + 1)).map fun k => PyData.int (pr (ys.take i) k : Int))), .own q (.lst ((List.range (ys.length + 1)).map fun k => PyData.int (sr (ys.take i) k : Int))), x3, x4], ⟨.no, .no, rfl⟩, fun i y e hyi ⟨x3, x4, he⟩ => gd_name ?_, fun e ⟨x3, x4, he⟩ => ?_⟩
  · obtain ⟨n, hn, rfl⟩ := int_get hyi
    obtain ⟨v, hv, rfl⟩ : ∃ v, ys[i]? = some v ∧ n = (v : Int) + 1 := by
      unfold plI at hn
      rw [List.getElem?_map] at hn
      obtain ⟨v, a, b⟩ := Option.map_eq_some_iff.mp hn
      exact ⟨v, a, b.symm⟩
    subst he
    have hil : i < ys.length := (List.getElem?_eq_some_iff.mp hv).1
    have hvb := hy v (List.mem_of_getElem? hv)
    have ht : ys.take (i + 1) = ys.take i ++ [v] := by rw [List.take_add_one, hv]; rfl
    generalize hl : ys.take i = l at *
    have hlb : ∀ y ∈ l, y ≤ 60 := fun y hyl => hy y (by rw [← hl] at hyl; exact List.mem_of_mem_take hyl)
    have hll : l.length ≤ 60 := by rw [← hl, List.length_take]; omega
    have pb : ∀ k, pr l k < 2 ^ 400 := fun k => Nat.lt_of_le_of_lt (pr_bound l k hlb) (Nat.lt_of_le_of_lt (Nat.pow_le_pow_right (by decide) hll) (by decide))
    have sb : ∀ k, sr l k < 2 ^ 400 := fun k => Nat.lt_of_le_of_lt (sr_bound l k hlb) (by
      have : l.length * 61 * 61 ^ l.length ≤ 60 * 61 * 61 ^ 60 := Nat.mul_le_mul (Nat.mul_le_mul_right _ hll) (Nat.pow_le_pow_right (by decide) hll)
      exact Nat.lt_of_le_of_lt this (by decide))
    refine wp_for (js := [4]) (iv_down ?_)
    walk_at "ev"
    rw [e1]
    refine ⟨fun j e => ∃ x4, e = [En.dat (plD ys), .own p (.lst (mixL (pr l) (pr (l ++ [v])) (ys.length + 1) (ys.length + 1 - j))), .own q (.lst (mixL (sr l) (sr (l ++ [v])) (ys.length + 1) (ys.length + 1 - j))), .dat (.int ((v : Int) + 1)), x4], ⟨x4, by rw [Nat.sub_zero, mixL_none, mixL_none]; rfl⟩, fun j y e hyj ⟨x4, he⟩ => gd_name ?_, fun e ⟨x4, he⟩ => ?_⟩
    · obtain ⟨hj, rfl⟩ := rangeC_get hyj
      subst he
      obtain ⟨s, hs⟩ : ∃ s, ys.length = s + j := ⟨ys.length - j, by omega⟩
      have q1 : ys.length + 1 - j = s + 1 := by omega
      have q2 : ys.length + 1 - (j + 1) = s := by omega
      have q3 : ((ys.length : Nat) : Int) + (j : Int) * (-1) = (s : Int) := by omega
      have q4 : (s : Int) - 1 = ((s - 1 : Nat) : Int) := by omega
      have hs1 : s < ys.length + 1 := by omega
      have hs2 : s - 1 < ys.length + 1 := by omega
      obtain ⟨r, rfl⟩ : ∃ r, s = r + 1 := ⟨s - 1, by omega⟩
      have q5 : r + 1 - 1 = r := by omega
      rw [q5] at q4 hs2
      rw [q1, q3]
      have bp := pb r
      have bs := sb r
      refine wp_seq (wp_augSO (by rfl) (ev_var (by rfl) ⟨_, _, (sr l (r + 1) : Int), by rfl, rfl, ?_, ?_⟩))
      · rw [atI_nat (mixL_get hs1), if_neg (by omega)]
      refine ev_mul (ev_add (ev_ixO (by rfl) (ev_sub (ev_var (by rfl) (ev_int ⟨_, _, rfl, rfl, _, _, _, by rfl, rfl, (by rw [q4, atI_nat (mixL_get hs2), if_neg (by omega)]), ?_⟩)))))
      refine ev_mul (ev_var (by rfl) (ev_ixO (by rfl) (ev_sub (ev_var (by rfl) (ev_int ⟨_, _, rfl, rfl, _, _, _, by rfl, rfl, (by rw [q4, atI_nat (mixL_get hs2), if_neg (by omega)]), ?_⟩)))))
      refine ⟨_, _, rfl, rfl, wide_mul (a := 10) (b := 400) (by omega) (by omega) (by omega) (by omega) (by omega), _, _, rfl, rfl, ?_⟩
      have m1 : (((v : Int) + 1) * (pr l r : Int)).natAbs < 2 ^ 410 := wide_lt (i := (v : Int) + 1) (j := (pr l r : Int)) (a := 10) (b := 400) (by omega) (by omega)
      have m2 : ((sr l r : Int) + ((v : Int) + 1) * (pr l r : Int)).natAbs < 2 ^ 411 := by
        have := Int.natAbs_add_le (sr l r : Int) (((v : Int) + 1) * (pr l r : Int))
        omega
      refine ev_sub (ev_var (by rfl) (ev_int ⟨_, _, rfl, rfl, _, _, rfl, rfl, wide_mul (a := 411) (b := 10) m2 (by omega) (by omega) (by omega) (by omega), _, _, r + 1, by rfl, rfl, by rw [mixL_len]; exact ixN_nat hs1, ?_⟩))
      have g1 : (sr l (r + 1) : Int) + ((sr l r : Int) + ((v : Int) + 1) * (pr l r : Int)) * ((v : Int) + 1 - 1) = (sr (l ++ [v]) (r + 1) : Int) := by
        rw [sr_snoc, Int.add_sub_cancel]; push_cast; rfl
      rw [g1, mixL_set]
      refine wp_augSO (by rfl) (ev_var (by rfl) ⟨_, _, (pr l (r + 1) : Int), by rfl, rfl, ?_, ?_⟩)
      · rw [atI_nat (mixL_get hs1), if_neg (by omega)]
      refine ev_mul (ev_ixO (by rfl) (ev_sub (ev_var (by rfl) (ev_int ⟨_, _, rfl, rfl, _, _, _, by rfl, rfl, (by rw [q4, atI_nat (mixL_get hs2), if_neg (by omega)]), ?_⟩))))
      refine ev_sub (ev_var (by rfl) (ev_int ⟨_, _, rfl, rfl, _, _, rfl, rfl, wide_mul (a := 400) (b := 10) (by omega) (by omega) (by omega) (by omega) (by omega), _, _, r + 1, by rfl, rfl, by rw [mixL_len]; exact ixN_nat hs1, ?_⟩))
      have g2 : (pr l (r + 1) : Int) + (pr l r : Int) * ((v : Int) + 1 - 1) = (pr (l ++ [v]) (r + 1) : Int) := by
        rw [pr_snoc, Int.add_sub_cancel, Int.mul_comm]; push_cast; rfl
      rw [g2, mixL_set]
      dsimp only
      rw [q2]
      exact ⟨_, rfl⟩
    · subst he
      rw [rangeC_len]
      have q1 : ys.length + 1 - (((ys.length : Nat) : Int) - 0).toNat = 1 := by omega
      have h0 : ∀ (f g : Nat → Nat), f 0 = g 0 → mixL f g (ys.length + 1) 1 = (List.range (ys.length + 1)).map fun k => PyData.int (g k : Int) := fun f g h => by
        unfold mixL
        apply List.map_congr_left
        intro k _
        by_cases hk : 1 ≤ k
        · rw [if_pos hk]
        · have : k = 0 := by omega
          subst this
          rw [if_neg hk, h]
      rw [q1, ht, h0 _ _ (by rw [pr_zero, pr_zero]), h0 _ _ (by rw [sr_zero, sr_zero])]
      exact ⟨_, _, rfl⟩
  · subst he
    rw [e1, List.take_length]
    refine wp_ret ?_
    refine ev_freeze (i := 1) (by rfl) (ev_freeze (i := 2) (by rfl) ?_)
    walk_at "ev"
    exact hp
end PN
end

section
set_option Elab.async false
set_option linter.all false
set_option autoImplicit false
set_option maxRecDepth 100000
set_option maxHeartbeats 4000000
namespace PN
open PySem PySem.Spec PyProof.Rows L2 DL
local macro_rules | `(tactic| walk_at "ev1") => `(tactic| first
  | with_reducible refine wp_seq ?_ | with_reducible refine wp_ret ?_ | with_reducible refine wp_next ?_ | with_reducible refine wp_if ?_
  | with_reducible refine wp_asg ?_ | with_reducible refine wp_drop ?_
  | with_reducible refine ev_int ?_ | with_reducible refine ev_bl ?_ | with_reducible refine ev_non ?_
  | with_reducible refine ev_add ?_ | with_reducible refine ev_sub ?_ | with_reducible refine ev_mul ?_ | with_reducible refine ev_fdiv ?_ | with_reducible refine ev_mod ?_ | with_reducible refine ev_pow ?_ | with_reducible refine ev_neg ?_
  | with_reducible refine ev_lt ?_ | with_reducible refine ev_le ?_ | with_reducible refine ev_gt ?_ | with_reducible refine ev_ge ?_
  | with_reducible refine ev_eq ?_ | with_reducible refine ev_ne ?_ | with_reducible refine ev_in ?_ | with_reducible refine ev_notin ?_ | with_reducible refine ev_notN ?_
  | with_reducible refine ev_tup ?_ | with_reducible refine ev_lst ?_ | (with_reducible refine ev_ixO (i := _) ?_ ?_; (focus rfl)) | with_reducible refine ev_ix ?_ | with_reducible refine ev_cat ?_ | with_reducible refine ev_rep ?_
  | with_reducible refine ev_lele ?_ | with_reducible refine ev_lelt ?_ | with_reducible refine ev_eqeq ?_
  | with_reducible refine ev_andV ?_ | with_reducible refine ev_orV ?_ | with_reducible refine ev_notV ?_ | with_reducible refine ev_if ?_
  | with_reducible refine ev_len ?_ | with_reducible refine ev_sum ?_ | with_reducible refine ev_all ?_ | with_reducible refine ev_sorted ?_ | with_reducible refine ev_max ?_ | with_reducible refine ev_min ?_ | with_reducible refine ev_abs ?_ | with_reducible refine ev_toInt ?_
  | with_reducible refine ev_isi ?_ | with_reducible refine ev_count ?_ | with_reducible refine ev_call ?_ | with_reducible refine ev_slice ?_
  | with_reducible refine evs_nil ?_ | with_reducible refine evs_cons ?_ | with_reducible refine evs_star ?_
  | with_reducible refine et_test ?_ | with_reducible refine et_B ?_ | with_reducible refine et_not ?_ | with_reducible refine et_and ?_ | with_reducible refine et_or ?_ | with_reducible refine et_yes ?_
  | with_reducible refine eo_none ?_ | with_reducible refine eo_some ?_
  | with_reducible refine iteT ?_ | with_reducible refine iteF ?_ | with_reducible refine ifNt ?_ | with_reducible refine ifNf ?_
  | refine ⟨true, isi_int_int _, ?_⟩ | refine ⟨false, isi_int_bool _, ?_⟩ | refine ⟨true, isi_list _, ?_⟩
  | (refine ev_var (by rfl) ?_)
  | refine ⟨_, _, _, Or.inr rfl, rfl, by rfl, ?_⟩ | refine ⟨_, _, _, Or.inl rfl, rfl, plI_at (by assumption), ?_⟩
  | refine ⟨_, rfl, ?_⟩ | refine ⟨_, _, rfl, rfl, ?_⟩ | refine ⟨_, _, rfl, ?_⟩
  | refine And.intro (by first | assumption | omega | (refine szn _ ?_; (first | (simp; done) | (simp; omega)))) ?_)
local macro_rules | `(tactic| walk_at "ev") => `(tactic| repeat (walk_at "ev1"; try dsimp only))
/-! shapes and equality of data -/
def Shp (k : Nat) (d : PyData) : Prop := d.canLay0 = true ∧ d.depth ≤ k
theorem Shp.ok {k : Nat} {d : PyData} (h : Shp k d) (hk : k ≤ 64) : SeqAt.shaped d = true := by
  unfold SeqAt.shaped
  rw [h.1, decide_eq_true (Nat.le_trans h.2 hk)]; rfl
theorem shp_int (i : Int) : Shp 0 (.int i) := ⟨by simp [PyData.canLay0], by simp [PyData.depth]⟩
theorem shp_all {k : Nat} : ∀ {ds : List PyData}, (∀ d ∈ ds, Shp k d) → PyData.canLayAll0 ds = true ∧ PyData.depthAll ds ≤ k
  | [], _ => ⟨by simp [PyData.canLayAll0], by simp [PyData.depthAll]⟩
  | d :: ds, h => by
    obtain ⟨a, b⟩ := shp_all fun z hz => h z (List.mem_cons_of_mem _ hz)
    obtain ⟨c, e⟩ := h d List.mem_cons_self
    exact ⟨by simp [PyData.canLayAll0, a, c], by simp only [PyData.depthAll]; omega⟩
theorem shp_list {k : Nat} {ds : List PyData} (h : ∀ d ∈ ds, Shp k d) : Shp (k + 1) (.list ds) := by
  obtain ⟨a, b⟩ := shp_all h
  exact ⟨by simp [PyData.canLay0, a], by simp only [PyData.depth]; omega⟩
theorem shp_tuple {k : Nat} {ds : List PyData} (h : ∀ d ∈ ds, Shp k d) : Shp (k + 1) (.tuple ds) := by
  obtain ⟨a, b⟩ := shp_all h
  exact ⟨by simp [PyData.canLay0, a], by simp only [PyData.depth]; omega⟩
theorem shp_ints (ns : List Int) : Shp 1 (.list (ns.map .int)) := shp_list fun d hd => by
  obtain ⟨i, _, rfl⟩ := List.mem_map.mp hd
  exact shp_int i
theorem shp_fr (p : Nat × Nat) : Shp 1 (frD p) := shp_tuple fun d hd => by
  simp only [List.mem_cons, List.not_mem_nil, or_false] at hd
  rcases hd with rfl | rfl <;> exact shp_int _
theorem shp_row (r : Nat × (Nat × Nat)) : Shp 1 (rowD r) := shp_tuple fun d hd => by
  simp only [List.mem_cons, List.not_mem_nil, or_false] at hd
  rcases hd with rfl | rfl | rfl <;> exact shp_int _
theorem shp_rows (l : List (Nat × (Nat × Nat))) : Shp 2 (rowsD l) := shp_list fun d hd => by
  obtain ⟨r, _, rfl⟩ := List.mem_map.mp hd
  exact shp_row r
theorem eqv_ints : ∀ (ns ms : List Int), PyData.eqvAll (ns.map .int) (ms.map .int) = decide (ns = ms)
  | [], [] => by simp [PyData.eqvAll]
  | [], _ :: _ => by simp [PyData.eqvAll]
  | _ :: _, [] => by simp [PyData.eqvAll]
  | n :: ns, m :: ms => by
    simp only [List.map_cons, PyData.eqvAll]
    rw [eqv_ints ns ms, eqv_int]
    by_cases h1 : n = m <;> by_cases h2 : ns = ms <;> simp [h1, h2]
theorem eqv_same {k : Nat} {d : PyData} (h : Shp k d) : PyData.eqv d d = true := SeqAt.eqv_refl d h.1
/-! is_line -/
theorem idx_perm {xs : List Nat} {i j : Nat} (hi : i < xs.length) (hj : j < xs.length) (hij : i ≠ j) : xs.Perm (at' xs i :: at' xs j :: others xs i j) := by
  have key : ∀ (l : List (Nat × Nat)) (i : Nat), (l.map (·.2)).Nodup → i ∈ l.map (·.2) → ∃ x, (x, i) ∈ l ∧ l.Perm ((x, i) :: l.filter fun p => decide (p.2 ≠ i)) := by
    intro l i
    induction l with
    | nil => intro _ h; simp at h
    | cons p r ih =>
      intro hnd hm
      rw [List.map_cons, List.nodup_cons] at hnd
      by_cases hp : p.2 = i
      · refine ⟨p.1, by rw [← hp]; exact List.mem_cons_self, ?_⟩
        have : (p :: r).filter (fun p => decide (p.2 ≠ i)) = r := by
          rw [List.filter_cons, if_neg (by simp [hp]), List.filter_eq_self]
          intro q hq
          have : q.2 ≠ i := fun z => hnd.1 (by rw [hp, ← z]; exact List.mem_map_of_mem hq)
          simpa using this
        rw [this]
        have e : (p.1, i) = p := by rw [← hp]
        rw [e]
      · rw [List.map_cons, List.mem_cons] at hm
        obtain ⟨x, hx, hpm⟩ := ih hnd.2 (hm.resolve_left fun z => hp z.symm)
        refine ⟨x, List.mem_cons_of_mem _ hx, ?_⟩
        rw [List.filter_cons, if_pos (by simpa using hp)]
        exact (List.Perm.cons p hpm).trans (List.Perm.swap _ _ _)
  have hsnd : xs.zipIdx.map (·.2) = List.range xs.length := by
    apply List.ext_getElem
    · simp
    · intro n h1 h2; simp
  have hnd : (xs.zipIdx.map (·.2)).Nodup := by rw [hsnd]; exact List.nodup_range
  obtain ⟨x, hx, p1⟩ := key xs.zipIdx i hnd (by rw [hsnd]; exact List.mem_range.mpr hi)
  have hnd2 : ((xs.zipIdx.filter fun p => decide (p.2 ≠ i)).map (·.2)).Nodup := List.Nodup.sublist (List.Sublist.map _ List.filter_sublist) hnd
  obtain ⟨y, hy, p2⟩ := key (xs.zipIdx.filter fun p => decide (p.2 ≠ i)) j hnd2 (by
    rw [List.mem_map]
    have : (xs[j], j) ∈ xs.zipIdx := by rw [List.mem_zipIdx_iff_getElem?]; simp [hj]
    exact ⟨_, List.mem_filter.mpr ⟨this, by simpa using fun z : j = i => hij z.symm⟩, rfl⟩)
  have ex : x = at' xs i := by
    rw [List.mem_zipIdx_iff_getElem?] at hx
    unfold at'
    rw [List.getD_eq_getElem?_getD, hx]; rfl
  have ey : y = at' xs j := by
    have hy := (List.mem_filter.mp hy).1
    rw [List.mem_zipIdx_iff_getElem?] at hy
    unfold at'
    rw [List.getD_eq_getElem?_getD, hy]; rfl
  have p3 := (p1.trans (List.Perm.cons _ p2)).map (·.1)
  rw [List.map_cons, List.map_cons, List.filter_filter] at p3
  have e1 : xs.zipIdx.map (·.1) = xs := by simp
  rw [e1, ex, ey] at p3
  have e2 : (fun a : Nat × Nat => decide (a.2 ≠ j) && decide (a.2 ≠ i)) = fun p => decide (p.2 ≠ i ∧ p.2 ≠ j) := by
    funext p
    by_cases h1 : p.2 = i <;> by_cases h2 : p.2 = j <;> simp [h1, h2]
  rw [e2] at p3
  exact p3
theorem others_len {xs : List Nat} {i j : Nat} (hi : i < xs.length) (hj : j < xs.length) (hij : i ≠ j) : (others xs i j).length + 2 = xs.length := by
  have := (idx_perm hi hj hij).length_eq
  simp only [List.length_cons] at this
  omega
/-- two least ones, then 2s -/
theorem line_iff {zs : List Nat} {ns : List Int} (h1 : ns.Perm (plI (0 :: 0 :: zs))) (h2 : ns.Pairwise (· ≤ ·)) : ns.drop 2 = List.replicate zs.length 2 ↔ zs.all (· == 1) = true := by
  have hlen : ns.length = zs.length + 2 := by rw [h1.length_eq, plI_len]; rfl
  have hpl : plI (0 :: 0 :: zs) = 1 :: 1 :: plI zs := rfl
  constructor
  · intro hd
    have hp : ns.Perm (ns.take 2 ++ List.replicate zs.length 2) := by rw [← hd, List.take_append_drop]
    have hc : (plI (0 :: 0 :: zs)).count 2 = (ns.take 2).count 2 + zs.length := by
      rw [← h1.count_eq, hp.count_eq, List.count_append, List.count_replicate_self]
    rw [hpl, List.count_cons_of_ne (by decide), List.count_cons_of_ne (by decide)] at hc
    have hle : (plI zs).count 2 ≤ (plI zs).length := List.count_le_length
    rw [plI_len] at hle
    have heq : (plI zs).count 2 = (plI zs).length := by rw [plI_len]; omega
    rw [List.count_eq_length] at heq
    rw [List.all_eq_true]
    intro z hz
    have := heq ((z : Int) + 1) (List.mem_map.mpr ⟨z, hz, rfl⟩)
    have : z = 1 := by omega
    subst this; rfl
  · intro ha
    have hz : zs = List.replicate zs.length 1 := by
      rw [List.eq_replicate_iff]
      refine ⟨rfl, fun z hz => ?_⟩
      have := List.all_eq_true.mp ha z hz
      simpa using this
    have hs : (1 :: 1 :: plI zs).Pairwise (· ≤ ·) := by
      have hz2 : ∀ n ∈ plI zs, n = 2 := fun n hn => by
        obtain ⟨z, hz', rfl⟩ := List.mem_map.mp hn
        have := List.all_eq_true.mp ha z hz'
        have : z = 1 := by simpa using this
        subst this; rfl
      refine List.Pairwise.cons (fun a h => ?_) (List.Pairwise.cons (fun a h => by rw [hz2 a h]; decide) ?_)
      · rcases List.mem_cons.mp h with rfl | h
        · decide
        · rw [hz2 a h]; decide
      · exact List.pairwise_of_forall_mem_list fun a ha b hb => by rw [hz2 a ha, hz2 b hb]; exact Int.le_refl _
    have he : ns = 1 :: 1 :: plI zs := by
      rw [hpl] at h1
      exact List.Perm.eq_of_pairwise (fun a b _ _ x y => Int.le_antisymm x y) h2 hs h1
    rw [he]
    show plI zs = _
    rw [List.eq_replicate_iff]
    refine ⟨plI_len _, fun n hn => ?_⟩
    obtain ⟨z, hz', rfl⟩ := List.mem_map.mp hn
    have := List.all_eq_true.mp ha z hz'
    have : z = 1 := by simpa using this
    subst this; rfl
theorem cutD_two (ds : List PyData) : DL.cutD ds (some 2) none = ds.drop 2 := by
  unfold DL.cutD
  have e1 : HT.sIx ds.length 0 (some (2 : Int)) = min 2 ds.length := HT.sIx_nat _ _ 2
  have e2 : HT.sIx ds.length ds.length none = ds.length := rfl
  rw [e1, e2]
  rcases Nat.lt_or_ge 1 ds.length with h | h
  · have : min 2 ds.length = 2 := by omega
    rw [this, List.take_of_length_le (by simp)]
  · have : min 2 ds.length = ds.length := by omega
    rw [this, List.drop_of_length_le (Nat.le_refl _), List.drop_of_length_le (by omega)]; simp
theorem plI_perm {xs ys : List Nat} (h : xs.Perm ys) : (plI xs).Perm (plI ys) := h.map _
theorem bd_is_line {K : PySem.W.Frag} : ∀ ds P0, S_is_line ds P0 → Wp (t_is_line K) (retD P0) (DL.envOf n_is_line ds) := by
  rintro ds P0 ⟨xs, i, j, rfl, h6, hi, hj, hij, hp⟩
  have e1 : ((plI xs).map PyData.int).length = xs.length := by rw [List.length_map, plI_len]
  unfold t_is_line
  walk_at "ev"
  refine ⟨rfl, rfl, ?_⟩
  rw [eqv_int]
  refine ifD (fun h => ?_) (fun h => ?_)
  · refine ev_int ⟨rfl, _, rfl, ?_⟩
    rw [eqv_int]
    refine ifD (fun h2 => ?_) (fun h2 => ?_)
    · have z1 : at' xs i = 0 := by omega
      have z2 : at' xs j = 0 := by omega
      have hpm := plI_perm (idx_perm hi hj hij)
      rw [z1, z2] at hpm
      have hol := others_len hi hj hij
      refine ev_eq (ev_slice (ev_sorted (ev_var (by rfl) ⟨plI xs, rfl, fun ns' q1 q2 => eo_some (ev_int ⟨_, rfl, eo_none ⟨_, rfl, ?_⟩⟩)⟩)))
      rw [cutD_two]
      walk_at "ev"
      have q3 : (((((plI xs).map PyData.int).length : Nat) : Int) - 2).toNat = (others xs i j).length := by rw [e1]; omega
      rw [q3, ← List.map_drop]
      have q4 : List.replicate (others xs i j).length (PyData.int 2) = (List.replicate (others xs i j).length (2 : Int)).map .int := by rw [List.map_replicate]
      rw [q4]
      refine ⟨by rw [sizeLine_eq]; omega, (shp_ints _).ok (by decide), (shp_ints _).ok (by decide), ?_⟩
      have q5 : PyData.eqv (.list ((ns'.drop 2).map .int)) (.list ((List.replicate (others xs i j).length (2 : Int)).map .int)) = isLine xs i j := by
        simp only [PyData.eqv]
        rw [eqv_ints]
        unfold isLine
        rw [z1, z2]
        have := line_iff (q1.trans hpm) q2
        by_cases hall : (others xs i j).all (· == 1) = true
        · rw [decide_eq_true (this.mpr hall), hall]; rfl
        · rw [decide_eq_false (fun z => hall (this.mp z))]
          simp only [Bool.not_eq_true] at hall
          rw [hall]; rfl
      rw [q5]; exact hp
    · have : isLine xs i j = false := by
        unfold isLine
        rw [decide_eq_false (show ¬ at' xs j = 0 by omega), Bool.and_false, Bool.false_and]
      rw [this] at hp
      exact hp
  · have : isLine xs i j = false := by
      unfold isLine
      by_cases q : at' xs i = 0
      · rw [decide_eq_false (show ¬ at' xs j = 0 by omega), Bool.and_false, Bool.false_and]
      · rw [decide_eq_false q, Bool.false_and, Bool.false_and]
    rw [this] at hp
    walk_at "ev"
    exact hp
/-! tops_of -/
theorem wk_eq : ∀ (ys : List Nat) (c k : Nat), (wk ys c k : Int) = ((c : Int) - 2 * k) * pr ys k + sr ys k
  | [], c, 0 => by simp [wk, pr, sr]
  | [], c, k + 1 => by simp [wk, pr, sr]
  | y :: ys, c, 0 => by simp [wk, pr, sr]
  | y :: ys, c, k + 1 => by
    have h1 := wk_eq ys c (k + 1)
    have h2 := wk_eq ys (c + y - 1) k
    simp only [wk, pr, sr]
    push_cast at h1 h2 ⊢
    rw [h1]
    cases y with
    | zero => grind
    | succ y =>
      have e : (((c + (y + 1) - 1 : Nat)) : Int) = (c : Int) + (y + 1) - 1 := by omega
      rw [e] at h2
      rw [h2]
      push_cast
      grind
def fOth (i j : Nat) : PyData → Option PyData
  | .tuple [.int d, x] => if d ≠ (i : Int) ∧ d ≠ (j : Int) then some x else none
  | _ => none
theorem fm_oth (xs : List Nat) (i j : Nat) : (enumD ((plI xs).map PyData.int)).filterMap (fOth i j) = (plI (others xs i j)).map .int := by
  have e : enumD ((plI xs).map PyData.int) = xs.zipIdx.map fun p => PyData.tuple [.int (p.2 : Int), .int ((p.1 : Int) + 1)] := by
    apply List.ext_getElem?
    intro n
    rw [List.getElem?_map, List.getElem?_zipIdx]
    unfold enumD
    rw [List.getElem?_map]
    by_cases hn : n < xs.length
    · have hl : n < ((plI xs).map PyData.int).length := by rw [List.length_map, plI_len]; exact hn
      have : (((plI xs).map PyData.int).zip (List.range ((plI xs).map PyData.int).length))[n]? = some (.int ((xs[n] : Int) + 1), n) := by
        rw [List.getElem?_zip_eq_some]
        refine ⟨?_, by rw [List.getElem?_range (by simpa [plI_len] using hn)]⟩
        unfold plI
        simp [hn]
      rw [this, List.getElem?_eq_getElem hn]
      simp
    · rw [List.getElem?_eq_none (by simp [plI_len]; omega), List.getElem?_eq_none (by omega)]
      rfl
  rw [e, List.filterMap_map]
  unfold others plI
  rw [List.map_map, List.map_map]
  induction xs.zipIdx with
  | nil => rfl
  | cons p r ih =>
    rw [List.filterMap_cons, List.filter_cons]
    have ef : (fOth i j ∘ fun p : Nat × Nat => PyData.tuple [.int (p.2 : Int), .int ((p.1 : Int) + 1)]) p = if p.2 ≠ i ∧ p.2 ≠ j then some (.int ((p.1 : Int) + 1)) else none := by
      show (if (p.2 : Int) ≠ (i : Int) ∧ (p.2 : Int) ≠ (j : Int) then _ else _) = _
      by_cases h : p.2 ≠ i ∧ p.2 ≠ j
      · rw [if_pos h, if_pos ⟨by omega, by omega⟩]
      · rw [if_neg h, if_neg (fun z => h ⟨by omega, by omega⟩)]
    by_cases h : p.2 ≠ i ∧ p.2 ≠ j
    · rw [if_pos h] at ef
      rw [if_pos (by simpa using h)]
      simp only [ef, ih, List.map_cons]; rfl
    · rw [if_neg h] at ef
      rw [if_neg (by simpa using h)]
      simp only [ef, ih]
set_option exponentiation.threshold 9000 in
theorem bd_tops_of {K : PySem.W.Frag} : ∀ ds P0, S_tops_of ds P0 → Wp (t_tops_of K) (retD P0) (DL.envOf n_tops_of ds) := by
  rintro ds P0 ⟨xs, i, j, rfl, gd, hi, hj, hij, hp⟩
  have e1 : ((plI xs).map PyData.int).length = xs.length := by rw [List.length_map, plI_len]
  have h6 := gd.most
  have h7 := gd.sum
  have hol := others_len hi hj hij
  have hpm := idx_perm hi hj hij
  have hob : ∀ y ∈ others xs i j, y ≤ 60 := fun y hy => by
    have : y ∈ xs := hpm.mem_iff.mpr (by simp [hy])
    have := le_sum this
    omega
  unfold t_tops_of
  walk_at "ev"
  refine ev_lcP (js := [10, 11]) (by simp) (fOth i j) (iv_enum ?_)
  walk_at "ev"
  refine ⟨by rw [enumD_len, e1]; exact sumLine (by omega), fun k y hk => ?_, ?_⟩
  · obtain ⟨d, hd, rfl⟩ := enumD_get hk
    refine gd_tup rfl (gds_cons (gd_name (gds_cons (gd_name (gds_nil ?_)))))
    refine et_test (ev_notin (ev_var (by rfl) (ev_tup (evs_cons (ev_var (by rfl) (evs_cons (ev_var (by rfl) (evs_nil ⟨szn _ (by simp), (k : Int), [(i : Int), (j : Int)], rfl, .inr rfl, _, rfl, ?_⟩))))))))
    have ef : fOth i j (.tuple [.int (k : Int), d]) = if (k : Int) ≠ (i : Int) ∧ (k : Int) ≠ (j : Int) then some d else none := rfl
    refine ifNTF (fun h => ?_) (fun h => ?_)
    · rw [ef, if_neg (fun z => by simp at h; omega)]
      exact ⟨rfl, rfl⟩
    · rw [ef, if_pos (by simp at h; omega)]
      walk_at "ev"
      exact ⟨rfl, rfl⟩
  · rw [fm_oth]
    walk_at "ev"
    refine wp_asgG (js := [5, 6]) ?_
    walk_at "ev"
    refine gd_tup rfl (gds_cons (gd_name (gds_cons (gd_name (gds_nil ?_)))))
    rw [e1]
    generalize hoc : others xs i j = ot at *
    refine wp_seq (wp_asgN (en_lst (evs_cons (ev_int (evs_nil ⟨szn _ (by simp), fun p => ?_⟩)))))
    refine wp_seq (wp_for (js := [8]) (iv_range2 ?_))
    walk_at "ev"
    have n2 : ((xs.length : Int) - 1 - 1).toNat = xs.length - 2 := by omega
    have pb : ∀ k, pr ot k < 2 ^ 400 := fun k => Nat.lt_of_le_of_lt (pr_bound ot k hob) (Nat.lt_of_le_of_lt (Nat.pow_le_pow_right (by decide) (show ot.length ≤ 60 by omega)) (by decide))
    have sb : ∀ k, sr ot k < 2 ^ 400 := fun k => Nat.lt_of_le_of_lt (sr_bound ot k hob) (by
      have : ot.length * 61 * 61 ^ ot.length ≤ 60 * 61 * 61 ^ 60 := Nat.mul_le_mul (Nat.mul_le_mul_right _ (by omega)) (Nat.pow_le_pow_right (by decide) (by omega))
      exact Nat.lt_of_le_of_lt this (by decide))
    have hix : at' xs i ≤ 60 := by have := le_sum (show at' xs i ∈ xs from hpm.mem_iff.mpr (by simp)); omega
    have hjx : at' xs j ≤ 60 := by have := le_sum (show at' xs j ∈ xs from hpm.mem_iff.mpr (by simp)); omega
    refine ⟨fun k e => ∃ x8 x9, e = [En.dat (plD xs), .dat (.int (i : Int)), .dat (.int (j : Int)), .dat (.int (xs.length : Int)), .dat (plD ot), .dat (.list ((List.range (ot.length + 1)).map fun k => PyData.int (pr ot k : Int))), .dat (.list ((List.range (ot.length + 1)).map fun k => PyData.int (sr ot k : Int))), .own p (.lst ((List.range (k + 1)).map fun s => PyData.int (stT xs i j s : Int))), x8, x9, .no, .no], ⟨_, _, rfl⟩, fun k y e hk ⟨x8, x9, he⟩ => gd_name ?_, fun e ⟨x8, x9, he⟩ => ?_⟩
    · obtain ⟨hkl, rfl⟩ := rangeD_get hk
      subst he
      rw [n2] at hkl
      have hko : k < ot.length + 1 := by omega
      have bp := pb k
      have bs := sb k
      have q1 : (1 : Int) + (k : Int) - 1 = (k : Int) := by omega
      have gp : atI ((List.range (ot.length + 1)).map fun k => PyData.int (pr ot k : Int)) ((1 : Int) + (k : Int) - 1) = some (.int (pr ot k : Int)) := by
        rw [q1]; exact atI_nat (by simp [hko])
      have gs : atI ((List.range (ot.length + 1)).map fun k => PyData.int (sr ot k : Int)) ((1 : Int) + (k : Int) - 1) = some (.int (sr ot k : Int)) := by
        rw [q1]; exact atI_nat (by simp [hko])
      refine wp_seq (wp_asg (ev_add (ev_mul (ev_sub (ev_add ?_)))))
      walk_at "ev"
      refine ⟨wide_mul (a := 10) (b := 10) (by omega) (by omega) (by omega) (by omega) (by omega), _, _, rfl, rfl, ?_⟩
      walk_at "ev"
      refine ⟨_, _, _, .inl rfl, rfl, gp, _, _, rfl, rfl, wide_mul (a := 10) (b := 400) (by omega) (by omega) (by omega) (by omega) (by omega), ?_⟩
      walk_at "ev"
      refine ⟨_, _, _, .inl rfl, rfl, gs, _, _, rfl, rfl, ?_⟩
      have tot : ((at' xs i : Int) + 1 + ((at' xs j : Int) + 1) - 2 * (1 + (k : Int))) * (pr ot k : Int) + (sr ot k : Int) = (wk ot (at' xs i + at' xs j) k : Int) := by
        rw [wk_eq]; push_cast
        congr 2; omega
      rw [tot]
      have bw : (wk ot (at' xs i + at' xs j) k : Int).natAbs < 2 ^ 412 := by
        rw [← tot]
        have m1 : (((at' xs i : Int) + 1 + ((at' xs j : Int) + 1) - 2 * (1 + (k : Int))) * (pr ot k : Int)).natAbs < 2 ^ 410 := wide_lt (i := ((at' xs i : Int) + 1 + ((at' xs j : Int) + 1) - 2 * (1 + (k : Int)))) (j := (pr ot k : Int)) (a := 10) (b := 400) (by omega) (by omega)
        have := Int.natAbs_add_le (((at' xs i : Int) + 1 + ((at' xs j : Int) + 1) - 2 * (1 + (k : Int))) * (pr ot k : Int)) (sr ot k : Int)
        omega
      refine wp_append (by rfl) (ev_mul (ev_mul ?_))
      walk_at "ev"
      have t1 : ((xs.length : Int) - (1 + (k : Int)) - 2).toNat = xs.length - (k + 1) - 2 := by omega
      have t2 : ((1 : Int) + (k : Int) - 1).toNat = k := by omega
      rw [t1]
      walk_at "ev"
      rw [t2]
      have f1 := fact_lt (n := xs.length - (k + 1) - 2) (by omega)
      have f2 := fact_lt (n := k) (by omega)
      refine ⟨wide_mul (a := 300) (b := 300) (by omega) (by omega) (by omega) (by omega) (by omega), ?_⟩
      walk_at "ev"
      refine ⟨wide_mul (a := 600) (b := 412) (wide_lt (i := (fact (xs.length - (k + 1) - 2) : Int)) (j := (fact k : Int)) (a := 300) (b := 300) (by omega) (by omega)) bw (by omega) (by omega) (by omega), _, rfl, by rw [List.length_map, List.length_range]; exact sumLine (by omega), .dat (.int (1 + (k : Int))), .dat (.int (wk ot (at' xs i + at' xs j) k : Int)), ?_⟩
      have es : (List.range (k + 1 + 1)).map (fun s => PyData.int (stT xs i j s : Int)) = (List.range (k + 1)).map (fun s => PyData.int (stT xs i j s : Int)) ++ [.int ((fact (xs.length - (k + 1) - 2) : Int) * (fact k : Int) * (wk ot (at' xs i + at' xs j) k : Int))] := by
        rw [List.range_succ (n := k + 1), List.map_append]
        congr 1
        show [PyData.int (stT xs i j (k + 1) : Int)] = _
        have : stT xs i j (k + 1) = fact (xs.length - (k + 1) - 2) * fact k * wk ot (at' xs i + at' xs j) k := by
          unfold stT
          rw [if_neg (by omega), if_pos (by omega), hoc, Nat.add_sub_cancel]
        rw [this]; push_cast; rfl
      rw [es]
      rfl
    · subst he
      rw [rangeD_len, n2]
      refine wp_ret (ev_freeze (i := 7) (by rfl) ?_)
      walk_at "ev"
      refine ⟨_, .inr rfl, ?_⟩
      walk_at "ev"
      refine ⟨xs, i, j, rfl, h6, hi, hj, hij, ?_⟩
      have hn : xs.length = xs.length - 2 + 1 + 1 := by omega
      have efin : ∀ v : Nat, stT xs i j (xs.length - 1) = v → P0 (.list ((List.range (xs.length - 2 + 1)).map (fun s => PyData.int (stT xs i j s : Int)) ++ [.int (v : Int)])) := fun v hv => by
        have : (List.range xs.length).map (fun s => PyData.int (stT xs i j s : Int)) = (List.range (xs.length - 2 + 1)).map (fun s => PyData.int (stT xs i j s : Int)) ++ [.int (v : Int)] := by
          have hh : xs.length - 2 + 1 = xs.length - 1 := by omega
          have hr : List.range xs.length = List.range (xs.length - 2 + 1) ++ [xs.length - 1] := by
            conv => lhs; rw [hn]
            rw [List.range_succ, hh]
          rw [hr, List.map_append, ← hv]; rfl
        rw [← this]; exact hp
      have hlast : stT xs i j (xs.length - 1) = if isLine xs i j = true then fact (xs.length - 2) else 0 := by
        unfold stT
        rw [if_neg (by omega), if_neg (by omega)]
        by_cases hL : isLine xs i j = true
        · rw [if_pos ⟨by omega, hL⟩, if_pos hL]
        · rw [if_neg (fun z => hL z.2), if_neg hL]
      refine ⟨_, rfl, ?_⟩
      by_cases hL : isLine xs i j = true
      · rw [if_pos hL] at hlast
        rw [if_pos hL]
        walk_at "ev"
        have t3 : ((xs.length : Int) - 2).toNat = xs.length - 2 := by omega
        rw [t3]
        exact efin _ hlast
      · rw [if_neg hL] at hlast
        rw [if_neg hL]
        walk_at "ev"
        exact efin _ hlast
def fStep (bot : Nat) : PyData → Option PyData
  | .tuple [.int m, .int t] => if 0 < t then some (rowD (m.toNat, low (t.toNat, bot))) else none
  | _ => none
theorem fm_step (T : Nat → Nat) (bot n : Nat) : (enumD ((List.range n).map fun s => PyData.int (T s : Int))).filterMap (fStep bot) = (rows (fun m => (T m, bot)) n).map rowD := by
  have e : enumD ((List.range n).map fun s => PyData.int (T s : Int)) = (List.range n).map fun (s : Nat) => PyData.tuple [.int (s : Int), .int (T s : Int)] := by
    apply List.ext_getElem?
    intro k
    unfold enumD
    rw [List.getElem?_map, List.getElem?_map]
    by_cases hk : k < n
    · have : (((List.range n).map fun s => PyData.int (T s : Int)).zip (List.range ((List.range n).map fun s => PyData.int (T s : Int)).length))[k]? = some (.int (T k : Int), k) := by
        rw [List.getElem?_zip_eq_some]
        exact ⟨by simp [hk], by rw [List.getElem?_range (by simpa using hk)]⟩
      rw [this, List.getElem?_range hk]; rfl
    · rw [List.getElem?_eq_none (by simp; omega), List.getElem?_eq_none (by simp; omega)]; rfl
  rw [e, List.filterMap_map]
  unfold rows
  rw [List.map_map]
  induction List.range n with
  | nil => rfl
  | cons m r ih =>
    rw [List.filterMap_cons, List.filter_cons]
    have ef : (fStep bot ∘ fun s : Nat => PyData.tuple [.int (s : Int), .int (T s : Int)]) m = if 0 < T m then some (rowD (m, low (T m, bot))) else none := by
      show (if 0 < (T m : Int) then _ else _) = _
      by_cases h : 0 < T m
      · rw [if_pos h, if_pos (by omega)]; simp
      · rw [if_neg h, if_neg (by omega)]
    by_cases h : 0 < T m
    · rw [if_pos h] at ef
      rw [if_pos (by simpa using h)]
      simp only [ef, ih, List.map_cons]; rfl
    · rw [if_neg h] at ef
      rw [if_neg (by simpa using h)]
      simp only [ef, ih]
theorem rows_unit (n : Nat) (h : 1 ≤ n) : rows (fun m => if m = 0 then (1, 1) else (0, 1)) n = [(0, (1, 1))] := by
  obtain ⟨k, rfl⟩ : ∃ k, n = k + 1 := ⟨n - 1, by omega⟩
  unfold rows
  have : (List.range (k + 1)).filter (fun m => decide (0 < (if m = 0 then ((1, 1) : Nat × Nat) else (0, 1)).1)) = [0] := by
    rw [List.range_succ_eq_map, List.filter_cons]
    rw [if_pos (by decide), List.filter_eq_nil_iff.mpr]
    intro a ha
    obtain ⟨b, _, rfl⟩ := List.mem_map.mp ha
    simp
  rw [this]
  simp [low]
theorem fact60 {n : Nat} (h : n ≤ 60) : fact n < 2 ^ 8000 := Nat.lt_of_lt_of_le (fact_lt (n := n) (by omega)) (Nat.pow_le_pow_right (n := 2) (by decide) (by decide : 300 ≤ 8000))
theorem bd_shares_of {K : PySem.W.Frag} : ∀ ds P0, S_shares_of ds P0 → Wp (t_shares_of K) (retD P0) (DL.envOf n_shares_of ds) := by
  rintro ds P0 ⟨xs, i, j, rfl, gd, hi, hj, hp⟩
  have e1 : ((plI xs).map PyData.int).length = xs.length := by rw [List.length_map, plI_len]
  have h6 := gd.most
  have h7 := gd.sum
  unfold t_shares_of
  walk_at "ev"
  refine ⟨rfl, rfl, ?_⟩
  rw [eqv_int]
  walk_at "ev"
  refine ifD (fun h => ?_) (fun h => ?_)
  · have : i = j := by omega
    subst this
    have e : stF xs i i = fun m => if m = 0 then (1, 1) else (0, 1) := by funext m; unfold stF; rw [if_pos rfl]
    rw [e, rows_unit _ (by omega)] at hp
    walk_at "ev"
    exact hp
  · have hij : i ≠ j := by omega
    have e : stF xs i j = fun m => (stT xs i j m, fact (xs.length - 2)) := by funext m; unfold stF; rw [if_neg hij]
    rw [e] at hp
    walk_at "ev"
    have t3 : ((((plI xs).map PyData.int).length : Int) - 2).toNat = xs.length - 2 := by omega
    rw [t3]
    refine ev_lcP (js := [4, 5]) (by simp) (fStep (fact (xs.length - 2))) (iv_enum ?_)
    walk_at "ev"
    refine ⟨xs, i, j, rfl, gd, hi, hj, hij, ?_⟩
    walk_at "ev"
    refine ⟨by rw [enumD_len, List.length_map, List.length_range]; exact sumLine (by omega), fun k y hk => ?_, ?_⟩
    · obtain ⟨d, hd, rfl⟩ := enumD_get hk
      rw [List.getElem?_map] at hd
      obtain ⟨k', hk', rfl⟩ := Option.map_eq_some_iff.mp hd
      obtain ⟨q1, q2⟩ := List.getElem?_eq_some_iff.mp hk'
      rw [List.getElem_range] at q2
      subst q2
      refine gd_tup rfl (gds_cons (gd_name (gds_cons (gd_name (gds_nil ?_)))))
      walk_at "ev"
      have ef : fStep (fact (xs.length - 2)) (.tuple [.int (k : Int), .int (stT xs i j k : Int)]) = if 0 < (stT xs i j k : Int) then some (rowD ((k : Int).toNat, low ((stT xs i j k : Int).toNat, fact (xs.length - 2)))) else none := rfl
      refine ifD (fun hq => ?_) (fun hq => ?_)
      · walk_at "ev"
        refine ⟨(stT xs i j k, fact (xs.length - 2)), rfl, fact_pos _, fact60 (by omega), _, .inl rfl, ?_⟩
        walk_at "ev"
        refine ⟨?_, rfl⟩
        rw [ef, if_pos hq]
        simp [rowD]
      · rw [ef, if_neg hq]
        exact ⟨rfl, rfl⟩
    · rw [fm_step]
      exact hp
theorem bd_step_shares {K : PySem.W.Frag} : ∀ ds P0, S_step_shares ds P0 → Wp (t_step_shares K) (retD P0) (DL.envOf n_step_shares ds) := by
  rintro ds P0 ⟨xs, i, j, rfl, gd, hi, hj, hp⟩
  unfold t_step_shares
  walk_at "ev"
  refine ⟨xs, i, j, rfl, gd, hi, hj, ?_⟩
  walk_at "ev"
  exact ⟨xs, i, j, rfl, gd, hi, hj, hp⟩
end PN
end

section
set_option Elab.async false
set_option linter.all false
set_option autoImplicit false
set_option maxRecDepth 100000
set_option maxHeartbeats 4000000
namespace PN
open PySem PySem.Spec PyProof.Rows L2 DL
local macro_rules | `(tactic| walk_at "ev1") => `(tactic| first
  | with_reducible refine wp_seq ?_ | with_reducible refine wp_ret ?_ | with_reducible refine wp_next ?_ | with_reducible refine wp_if ?_
  | with_reducible refine wp_asg ?_ | with_reducible refine wp_drop ?_
  | with_reducible refine ev_int ?_ | with_reducible refine ev_bl ?_ | with_reducible refine ev_non ?_
  | with_reducible refine ev_add ?_ | with_reducible refine ev_sub ?_ | with_reducible refine ev_mul ?_ | with_reducible refine ev_fdiv ?_ | with_reducible refine ev_mod ?_ | with_reducible refine ev_pow ?_ | with_reducible refine ev_neg ?_
  | with_reducible refine ev_lt ?_ | with_reducible refine ev_le ?_ | with_reducible refine ev_gt ?_ | with_reducible refine ev_ge ?_
  | with_reducible refine ev_eq ?_ | with_reducible refine ev_ne ?_ | with_reducible refine ev_in ?_ | with_reducible refine ev_notin ?_ | with_reducible refine ev_notN ?_
  | with_reducible refine ev_tup ?_ | with_reducible refine ev_lst ?_ | ((with_reducible refine ev_ixO (p := ?p0) (ds0 := ?d0) ?hi ?_); (case hi => rfl)) | with_reducible refine ev_ix ?_ | with_reducible refine ev_cat ?_ | with_reducible refine ev_rep ?_
  | with_reducible refine ev_lele ?_ | with_reducible refine ev_lelt ?_ | with_reducible refine ev_eqeq ?_
  | with_reducible refine ev_andV ?_ | with_reducible refine ev_orV ?_ | with_reducible refine ev_notV ?_ | with_reducible refine ev_if ?_
  | with_reducible refine ev_len ?_ | with_reducible refine ev_sum ?_ | with_reducible refine ev_all ?_ | with_reducible refine ev_sorted ?_ | with_reducible refine ev_max ?_ | with_reducible refine ev_min ?_ | with_reducible refine ev_abs ?_ | with_reducible refine ev_toInt ?_
  | with_reducible refine ev_isi ?_ | with_reducible refine ev_count ?_ | with_reducible refine ev_call ?_ | with_reducible refine ev_slice ?_
  | with_reducible refine evs_nil ?_ | with_reducible refine evs_cons ?_ | with_reducible refine evs_star ?_
  | with_reducible refine et_test ?_ | with_reducible refine et_B ?_ | with_reducible refine et_not ?_ | with_reducible refine et_and ?_ | with_reducible refine et_or ?_ | with_reducible refine et_yes ?_
  | with_reducible refine eo_none ?_ | with_reducible refine eo_some ?_
  | with_reducible refine iteT ?_ | with_reducible refine iteF ?_ | with_reducible refine ifNt ?_ | with_reducible refine ifNf ?_
  | refine ⟨true, isi_int_int _, ?_⟩ | refine ⟨false, isi_int_bool _, ?_⟩ | refine ⟨true, isi_list _, ?_⟩
  | (refine ev_var (by rfl) ?_)
  | refine ⟨_, _, _, rfl, rfl, by rfl, ?_⟩ | refine ⟨_, Or.inl rfl, ?_⟩ | refine ⟨_, Or.inr ⟨_, rfl, rfl⟩, ?_⟩ | refine ⟨_, _, _, Or.inr rfl, rfl, by rfl, ?_⟩ | refine ⟨_, _, _, Or.inl rfl, rfl, plI_at (by assumption), ?_⟩
  | refine ⟨_, rfl, ?_⟩ | refine ⟨_, _, rfl, rfl, ?_⟩ | refine ⟨_, _, rfl, ?_⟩
  | refine And.intro (by first | assumption | omega | (refine szn _ ?_; (first | (simp; done) | (simp; omega)))) ?_)
local macro_rules | `(tactic| walk_at "ev") => `(tactic| repeat (walk_at "ev1"; try dsimp only))
/-! the law's store of numbers -/
theorem ev_pick {es : List En} {P : PyData → List En → Prop} {te : TE} {i : Nat} {p : Addr} {os : List PyData} (hi : es[i]? = some (.own p (.lst os)))
    (h : Ev te es fun d e1 => ∃ (k m : Nat) (os1 : List PyData), e1[i]? = some (.own p (.lst os1)) ∧ d = .int (m : Int) ∧ StOk os1 k ∧ k ≤ 10000 ∧ 1 ≤ m ∧ m ≤ 100 ∧ ∀ (r : Nat) os', r < m → StOk os' (k + 1) → P (.int (r : Int)) (e1.set i (.own p (.lst os')))) :
    Ev (tCall (spS S_l_pick) [] E0 (tCons (tVar i) (tCons te tNil))) es P := by
  refine ev_callS hi (evs_cons (ev_weak h ?_))
  rintro d e1 ⟨k, m, os1, h1, rfl, h2, h3, h4, h5, h6⟩
  exact evs_nil ⟨os1, h1, k, m, h2, h3, rfl, h4, h5, h6⟩
theorem pow_ok {i : Int} {n : Nat} (h : i.natAbs < 2 ^ n) (hn : n ≤ 1000) : CPowW i 3 := by
  refine ⟨by decide, ?_⟩
  have : Builtin.Int.intBits i ≤ n := by
    unfold Builtin.Int.intBits
    split
    · exact Nat.zero_le _
    · rename_i hz
      have : i.natAbs.log2 < n := (Nat.log2_lt (by simpa using hz)).mpr h
      omega
  omega
theorem pow10_ok (k : Nat) (hk : k ≤ 100) : CPowW 10 (k : Int) := by
  refine ⟨by omega, ?_⟩
  have : Builtin.Int.intBits 10 = 4 := by decide
  rw [this]; omega
set_option exponentiation.threshold 9000 in
theorem bd_l_pick {K : PySem.W.Frag} : ∀ p os ds P0, S_l_pick os ds P0 → Wp (t_l_pick K) (retS p P0) (DL.envS n_l_pick p os ds) := by
  rintro p os ds P0 ⟨k, m, ⟨a, b, c, rfl, ha, hb, hb2, hc⟩, hk, rfl, hm1, hm2, hp⟩
  unfold t_l_pick
  walk_at "ev"
  refine ifD (fun h => ?_) (fun h => ?_)
  · walk_at "ev"
    refine wp_setO (p := p) ?_
    walk_at "ev"
    refine ⟨wide_div (b := 10) (by omega) (by omega) (by omega) (by omega), ?_⟩
    walk_at "ev"
    show P0 (.int (a % (m : Int))) [.int (a / (m : Int)), .int b, .int (c : Int)]
    have e : a % (m : Int) = (((a % (m : Int)).toNat : Nat) : Int) := by
      rw [Int.toNat_of_nonneg (Int.emod_nonneg _ (by omega))]
    have hlt : (a % (m : Int)).toNat < m := by
      have := Int.emod_lt_of_pos a (show (0 : Int) < m by omega)
      omega
    rw [e]
    exact hp _ _ hlt ⟨_, b, c, rfl, Int.ediv_nonneg ha (by omega), hb, hb2, by omega⟩
  · walk_at "ev"
    refine wp_setO (p := p) ?_
    walk_at "ev"
    refine ⟨wide_mul (a := 40) (b := 20) (by decide) (by omega) (by omega) (by omega) (by omega), ?_⟩
    walk_at "ev"
    refine ⟨pow_ok (n := 200) (by omega) (by omega), ?_⟩
    walk_at "ev"
    refine ⟨pow10_ok 40 (by omega), ?_⟩
    walk_at "ev"
    refine ⟨by decide, ?_⟩
    generalize hx : (b + 32416187567 * ((c : Int) + 1)) ^ (3 : Int).toNat % ((10 : Int) ^ (40 : Int).toNat + 121) = x
    have hx0 : 0 ≤ x := by rw [← hx]; exact Int.emod_nonneg _ (by decide)
    have hx1 : x < 2 ^ 150 := by
      rw [← hx]
      exact Int.lt_trans (Int.emod_lt_of_pos _ (by decide)) (by decide)
    walk_at "ev"
    refine ⟨wide_mul (a := 40) (b := 20) (by decide) (by omega) (by omega) (by omega) (by omega), ?_⟩
    walk_at "ev"
    refine ⟨pow_ok (n := 200) (by omega) (by omega), ?_⟩
    walk_at "ev"
    refine ⟨pow10_ok 39 (by omega), ?_⟩
    walk_at "ev"
    refine ⟨by decide, ?_⟩
    walk_at "ev"
    refine ⟨wide_div (b := 20) (by decide) (by decide) (by omega) (by omega), ?_⟩
    walk_at "ev"
    generalize (x + 27644437 * ((c : Int) + 1)) ^ (3 : Int).toNat % ((10 : Int) ^ (39 : Int).toNat + 3) / 16381 = z
    have e : z % (m : Int) = (((z % (m : Int)).toNat : Nat) : Int) := by
      rw [Int.toNat_of_nonneg (Int.emod_nonneg _ (by omega))]
    have hlt : (z % (m : Int)).toNat < m := by
      have := Int.emod_lt_of_pos z (show (0 : Int) < m by omega)
      omega
    show P0 (.int (z % (m : Int))) [.int a, .int b, .int ((c : Int) + 1)]
    rw [e]
    exact hp _ _ hlt ⟨a, b, c + 1, by push_cast; rfl, ha, hb, hb2, by omega⟩
end PN
end

section
set_option Elab.async false
set_option linter.all false
set_option autoImplicit false
set_option maxRecDepth 100000
set_option maxHeartbeats 4000000
namespace PN
open PySem PySem.Spec PyProof.Rows L2 DL
local macro_rules | `(tactic| walk_at "ev1") => `(tactic| first
  | with_reducible refine wp_seq ?_ | with_reducible refine wp_ret ?_ | with_reducible refine wp_next ?_ | with_reducible refine wp_if ?_
  | with_reducible refine wp_asg ?_ | with_reducible refine wp_drop ?_
  | with_reducible refine ev_int ?_ | with_reducible refine ev_bl ?_ | with_reducible refine ev_non ?_
  | with_reducible refine ev_add ?_ | with_reducible refine ev_sub ?_ | with_reducible refine ev_mul ?_ | with_reducible refine ev_fdiv ?_ | with_reducible refine ev_mod ?_ | with_reducible refine ev_pow ?_ | with_reducible refine ev_neg ?_
  | with_reducible refine ev_lt ?_ | with_reducible refine ev_le ?_ | with_reducible refine ev_gt ?_ | with_reducible refine ev_ge ?_
  | with_reducible refine ev_eq ?_ | with_reducible refine ev_ne ?_ | with_reducible refine ev_in ?_ | with_reducible refine ev_notin ?_ | with_reducible refine ev_notN ?_
  | with_reducible refine ev_tup ?_ | with_reducible refine ev_lst ?_ | ((with_reducible refine ev_ixO (p := ?p0) (ds0 := ?d0) ?hi ?_); (case hi => rfl)) | with_reducible refine ev_ix ?_ | with_reducible refine ev_cat ?_ | with_reducible refine ev_rep ?_
  | with_reducible refine ev_lele ?_ | with_reducible refine ev_lelt ?_ | with_reducible refine ev_eqeq ?_
  | with_reducible refine ev_andV ?_ | with_reducible refine ev_orV ?_ | with_reducible refine ev_notV ?_ | with_reducible refine ev_if ?_
  | with_reducible refine ev_len ?_ | with_reducible refine ev_sum ?_ | with_reducible refine ev_all ?_ | with_reducible refine ev_sorted ?_ | with_reducible refine ev_max ?_ | with_reducible refine ev_min ?_ | with_reducible refine ev_abs ?_ | with_reducible refine ev_toInt ?_
  | with_reducible refine ev_isi ?_ | with_reducible refine ev_count ?_ | with_reducible refine ev_call ?_ | with_reducible refine ev_slice ?_
  | with_reducible refine evs_nil ?_ | with_reducible refine evs_cons ?_ | with_reducible refine evs_star ?_
  | with_reducible refine et_test ?_ | with_reducible refine et_B ?_ | with_reducible refine et_not ?_ | with_reducible refine et_and ?_ | with_reducible refine et_or ?_ | with_reducible refine et_yes ?_
  | with_reducible refine eo_none ?_ | with_reducible refine eo_some ?_
  | with_reducible refine iteT ?_ | with_reducible refine iteF ?_ | with_reducible refine ifNt ?_ | with_reducible refine ifNf ?_
  | refine ⟨true, isi_int_int _, ?_⟩ | refine ⟨false, isi_int_bool _, ?_⟩ | refine ⟨true, isi_list _, ?_⟩
  | (refine ev_var (by rfl) ?_)
  | refine ⟨_, _, _, rfl, rfl, by rfl, ?_⟩ | refine ⟨_, Or.inl rfl, ?_⟩ | refine ⟨_, Or.inr ⟨_, rfl, rfl⟩, ?_⟩ | refine ⟨_, _, _, Or.inr rfl, rfl, by rfl, ?_⟩ | refine ⟨_, _, _, Or.inl rfl, rfl, plI_at (by assumption), ?_⟩
  | refine ⟨_, rfl, ?_⟩ | refine ⟨_, _, rfl, rfl, ?_⟩ | refine ⟨_, _, rfl, ?_⟩
  | refine And.intro (by first | assumption | omega | (refine szn _ ?_; (first | (simp; done) | (simp; omega)))) ?_)
local macro_rules | `(tactic| walk_at "ev") => `(tactic| repeat (walk_at "ev1"; try dsimp only))
theorem wp_parDN {es : List En} {ta tb : TE} {D : De} {i j : Nat} (h : Ev ta es fun d e1 => EvN tb e1 fun dt e2 => ∀ q, D.nx ((e2.set i (.dat d)).set j (.own q (.lst dt)))) : Wp (tPar i j (tCons ta (tCons tb tNil))) D es := fun H0 F σ ts Hc Dr S k1 k2 k3 k4 =>
  h H0 F σ ts Hc _ S fun v d e1 H1 h1 S1 => h1 H0 F σ _ H1 _ S1 fun q qs e2 H2 h2 S2 hq => ⟨v, .ref q, rfl, k1 _ _ _ (h2 q) (by
    have S3 : Sta H0 F (e2.set i (.dat d)) (σ.set i (some v)) (qs ++ ts) H2 := Sta.set (S2.weak (ts' := (v, d) :: (qs ++ ts)) fun z hz => by
      simp only [List.mem_cons, List.mem_append] at hz ⊢
      rcases hz with rfl | hz | hz <;> simp [*]) i
    exact (S3.setOwn hq (vs := qs.map (·.1)) (ds := qs.map (·.2)) (fun H hh => DdAll.of_pairs qs fun z hm => hh z (by simp [hm])) j).weak (ts' := ts) fun z hz => by simp [hz])⟩
theorem grI_snoc (ws : List Nat) (f : Nat) : (grI ws).map PyData.int ++ [.int (f : Int)] = (grI (ws ++ [f])).map .int := by unfold grI; simp
theorem grI_range (m : Nat) : rangeD 0 m = (grI (List.range m)).map PyData.int := by
  unfold rangeD grI
  rw [List.map_map]
  apply List.map_congr_left
  intro a _
  simp
theorem grI_at {g : List Nat} {j : Nat} {v : Nat} (h : g[j]? = some v) : ((grI g).map PyData.int)[j]? = some (.int (v : Int)) := by
  unfold grI
  rw [List.getElem?_map, List.getElem?_map, h]; rfl
theorem grI_erase (g : List Nat) (j : Nat) : ((grI g).map PyData.int).eraseIdx j = (grI (g.eraseIdx j)).map .int := by
  unfold grI
  rw [List.map_map, List.map_map]
  induction g generalizing j with
  | nil => rfl
  | cons a g ih =>
      cases j with
      | zero => rfl
      | succ j => simp only [List.map_cons, List.eraseIdx_cons_succ, ih]
theorem grI_mlen (g : List Nat) : ((grI g).map PyData.int).length = g.length := by rw [List.length_map, grI_len]
theorem bd_l_word {K : PySem.W.Frag} : ∀ p os ds P0, S_l_word os ds P0 → Wp (t_l_word K) (retS p P0) (DL.envS n_l_word p os ds) := by
  rintro p os ds P0 ⟨k, m, hst, hk, rfl, hm1, hm2, hp⟩
  have hsl := sizeLine_eq
  unfold t_l_word
  refine wp_seq (wp_parDN (ev_pick (by rfl) (ev_int ⟨k, 5, os, by rfl, rfl, hst, by omega, by omega, by omega, fun bent os1 hbent hst1 => ?_⟩)))
  refine en_lst (evs_nil ⟨szn _ (by simp), fun q => ?_⟩)
  refine wp_seq (wp_asg (ev_lst (evs_cons (ev_pick (by rfl) (ev_var (by rfl) ⟨k + 1, m, os1, by rfl, rfl, hst1, by omega, by omega, by omega, fun f0 os2 hf0 hst2 => ?_⟩)))))
  refine evs_cons (ev_pick (by rfl) (ev_var (by rfl) ⟨k + 2, m, os2, by rfl, rfl, hst2, by omega, by omega, by omega, fun f1 os3 hf1 hst3 => ?_⟩))
  refine evs_cons (ev_pick (by rfl) (ev_var (by rfl) ⟨k + 3, m, os3, by rfl, rfl, hst3, by omega, by omega, by omega, fun f2 os4 hf2 hst4 => ?_⟩))
  refine evs_nil ⟨szn _ (by simp), ?_⟩
  refine wp_seq (wp_asgN (en_listRg (ev_var (by rfl) ⟨(m : Int), rfl, by omega, by omega, fun r => ?_⟩)))
  refine wp_seq (wp_for (js := [6]) (iv_range1 ?_))
  walk_at "ev"
  rw [Int.toNat_natCast, grI_range]
  refine ⟨fun i e => ∃ (os' : List PyData) (ws left : List Nat) (x : En), StOk os' (k + 4 + 2 * i) ∧ ws.length = i ∧ (∀ w ∈ ws, w < m) ∧ m ≤ left.length + i ∧ left.length ≤ m ∧ (∀ w ∈ left, w < m) ∧
    e = [.own p (.lst os'), .dat (.int (m : Int)), .dat (.int (bent : Int)), .own q (.lst ((grI ws).map .int)), .dat (.list [.int (f0 : Int), .int (f1 : Int), .int (f2 : Int)]), .own r (.lst ((grI left).map .int)), x],
    ⟨os4, [], List.range m, .no, hst4, rfl, by simp, by simp, by simp, fun w hw => List.mem_range.mp hw, rfl⟩, fun i y e hy => ?_, fun e => ?_⟩
  · rintro ⟨os', ws, left, x, h1, h2, h3, h4, h5, h6, rfl⟩
    obtain ⟨hi, rfl⟩ := rangeD_get hy
    have hi2 : i + 2 < m := by omega
    refine gd_name ?_
    have fin : ∀ (os'' : List PyData) (f : Nat) (left' : List Nat), StOk os'' (k + 4 + 2 * i + 2) → f < m → m ≤ left'.length + (i + 1) → left'.length ≤ m → (∀ w ∈ left', w < m) →
        ∃ (os' : List PyData) (ws' left : List Nat) (x : En), StOk os' (k + 4 + 2 * (i + 1)) ∧ ws'.length = i + 1 ∧ (∀ w ∈ ws', w < m) ∧ m ≤ left.length + (i + 1) ∧ left.length ≤ m ∧ (∀ w ∈ left, w < m) ∧
        [En.own p (.lst os''), .dat (.int (m : Int)), .dat (.int (bent : Int)), .own q (.lst ((grI ws).map .int ++ [.int (f : Int)])), .dat (.list [.int (f0 : Int), .int (f1 : Int), .int (f2 : Int)]), .own r (.lst ((grI left').map .int)), .dat (.int (0 + (i : Int)))] =
        [.own p (.lst os'), .dat (.int (m : Int)), .dat (.int (bent : Int)), .own q (.lst ((grI ws').map .int)), .dat (.list [.int (f0 : Int), .int (f1 : Int), .int (f2 : Int)]), .own r (.lst ((grI left).map .int)), x] := fun os'' f left' q1 q2 q3 q4 q5 =>
      ⟨os'', ws ++ [f], left', _, q1, by simp [h2], fun w hw => by
        rcases List.mem_append.mp hw with hw | hw
        · exact h3 w hw
        · have : w = f := by simpa using hw
          omega, q3, q4, q5, by rw [grI_snoc]⟩
    have mono : ∀ {os : List PyData} {a b : Nat}, StOk os a → a ≤ b → StOk os b := fun ⟨a1, b1, c1, e, q1, q2, q3, q4⟩ h => ⟨a1, b1, c1, e, q1, q2, q3, by omega⟩
    have hal : ((grI ws).map PyData.int).length < sizeLine := by rw [grI_mlen]; omega
    refine wp_if (et_test (ev_eq (ev_var (by rfl) (ev_int ⟨rfl, rfl, _, rfl, ?_⟩))))
    rw [eqv_int]
    refine ifD (fun hb => ?_) (fun hb => ?_)
    · refine wp_append (by rfl) (ev_ix (ev_var (by rfl) (ev_int ⟨_, _, _, .inl rfl, rfl, by rfl, _, by rfl, hal, ?_⟩)))
      exact fin os' f0 left (mono h1 (by omega)) hf0 (by omega) h5 h6
    refine wp_if (et_test (ev_eq (ev_var (by rfl) (ev_int ⟨rfl, rfl, _, rfl, ?_⟩))))
    rw [eqv_int]
    refine ifD (fun hb1 => ?_) (fun hb1 => ?_)
    · refine wp_append (by rfl) (ev_ix (ev_var (by rfl) (ev_pick (by rfl) (ev_int ⟨_, 3, os', by rfl, rfl, h1, by omega, by omega, by omega, fun t os'' ht hst'' => ?_⟩))))
      have hf : ∃ f, f < m ∧ atI [PyData.int (f0 : Int), .int (f1 : Int), .int (f2 : Int)] (t : Int) = some (.int (f : Int)) := by
        have : t = 0 ∨ t = 1 ∨ t = 2 := by omega
        rcases this with rfl | rfl | rfl
        · exact ⟨f0, hf0, by rfl⟩
        · exact ⟨f1, hf1, by rfl⟩
        · exact ⟨f2, hf2, by rfl⟩
      obtain ⟨f, hfm, hf⟩ := hf
      refine ⟨_, _, _, .inl rfl, rfl, hf, _, by rfl, hal, ?_⟩
      exact fin os'' f left (mono hst'' (by omega)) hfm (by omega) h5 h6
    refine wp_if (et_test (ev_eq (ev_var (by rfl) (ev_int ⟨rfl, rfl, _, rfl, ?_⟩))))
    rw [eqv_int]
    refine ifD (fun hb2 => ?_) (fun hb2 => ?_)
    · refine wp_append (by rfl) (ev_popO (by rfl) (ev_pick (by rfl) (ev_lenO (by rfl) ⟨_, left.length, os', by rfl, by rw [grI_mlen], h1, by omega, by omega, by omega, fun t os'' ht hst'' => ?_⟩)))
      have hlt : left[t]? = some left[t] := List.getElem?_eq_getElem ht
      refine ⟨_, t, _, by rfl, rfl, by rw [grI_mlen]; omega, grI_at hlt, _, by rfl, hal, ?_⟩
      rw [grI_erase]
      exact fin os'' left[t] (left.eraseIdx t) (mono hst'' (by omega)) (h6 _ (List.getElem_mem ht)) (by rw [List.length_eraseIdx_of_lt ht]; omega) (by rw [List.length_eraseIdx_of_lt ht]; omega) (fun w hw => h6 w (List.mem_of_mem_eraseIdx hw))
    · refine wp_append (by rfl) (ev_ix (ev_lst (evs_cons (ev_ix (ev_var (by rfl) (ev_int ⟨_, _, _, .inl rfl, rfl, by rfl, ?_⟩))))))
      refine evs_cons (ev_pick (by rfl) (ev_var (by rfl) ⟨_, m, os', by rfl, rfl, h1, by omega, by omega, by omega, fun t os'' ht hst'' => ?_⟩))
      refine evs_nil ⟨szn _ (by simp), ?_⟩
      refine ev_toInt (ev_gt (ev_pick (by rfl) (ev_var (by rfl) ⟨_, bent, os'', by rfl, rfl, hst'', by omega, by omega, by omega, fun u os3 hu hst3 => ?_⟩)))
      refine ev_int ⟨_, _, rfl, rfl, _, .inr ⟨_, rfl, rfl⟩, ?_⟩
      have hf : ∃ f, f < m ∧ atI [PyData.int (f0 : Int), .int (t : Int)] (if decide ((0 : Int) < (u : Int)) = true then 1 else 0) = some (.int (f : Int)) := by
        by_cases hu0 : (0 : Int) < (u : Int)
        · rw [if_pos (decide_eq_true hu0)]; exact ⟨t, ht, by rfl⟩
        · rw [if_neg (by simpa using hu0)]; exact ⟨f0, hf0, by rfl⟩
      obtain ⟨f, hfm, hf⟩ := hf
      refine ⟨_, _, _, .inl rfl, rfl, hf, _, by rfl, hal, ?_⟩
      exact fin os3 f left (mono hst3 (by omega)) hfm (by omega) h5 h6
  · rintro ⟨os', ws, left, x, h1, h2, h3, h4, h5, h6, rfl⟩
    rw [rangeD_len] at h1 h2
    refine wp_ret (ev_freeze (i := 3) (by rfl) (ev_var (by rfl) ⟨os', by rfl, ?_⟩))
    have hml : ((m : Int) - 2).toNat = m - 2 := by omega
    rw [hml] at h1 h2
    obtain ⟨a1, b1, c1, e, q1, q2, q3, q4⟩ := h1
    exact hp ws os' (by omega) h3 ⟨a1, b1, c1, e, q1, q2, q3, by omega⟩
end PN
end

section
set_option Elab.async false
set_option linter.all false
set_option autoImplicit false
set_option maxRecDepth 100000
set_option maxHeartbeats 4000000
namespace PN
open PySem PySem.Spec PyProof.Rows L2 DL
local macro_rules | `(tactic| walk_at "ev1") => `(tactic| first
  | with_reducible refine wp_seq ?_ | with_reducible refine wp_ret ?_ | with_reducible refine wp_next ?_ | with_reducible refine wp_if ?_
  | with_reducible refine wp_asg ?_ | with_reducible refine wp_drop ?_
  | with_reducible refine ev_int ?_ | with_reducible refine ev_bl ?_ | with_reducible refine ev_non ?_
  | with_reducible refine ev_add ?_ | with_reducible refine ev_sub ?_ | with_reducible refine ev_mul ?_ | with_reducible refine ev_fdiv ?_ | with_reducible refine ev_mod ?_ | with_reducible refine ev_pow ?_ | with_reducible refine ev_neg ?_
  | with_reducible refine ev_lt ?_ | with_reducible refine ev_le ?_ | with_reducible refine ev_gt ?_ | with_reducible refine ev_ge ?_
  | with_reducible refine ev_eq ?_ | with_reducible refine ev_ne ?_ | with_reducible refine ev_in ?_ | with_reducible refine ev_notin ?_ | with_reducible refine ev_notN ?_
  | with_reducible refine ev_tup ?_ | with_reducible refine ev_lst ?_ | ((with_reducible refine ev_ixO (p := ?p0) (ds0 := ?d0) ?hi ?_); (case hi => rfl)) | with_reducible refine ev_ix ?_ | with_reducible refine ev_cat ?_ | with_reducible refine ev_rep ?_
  | with_reducible refine ev_lele ?_ | with_reducible refine ev_lelt ?_ | with_reducible refine ev_eqeq ?_
  | with_reducible refine ev_andV ?_ | with_reducible refine ev_orV ?_ | with_reducible refine ev_notV ?_ | with_reducible refine ev_if ?_
  | with_reducible refine ev_len ?_ | with_reducible refine ev_sum ?_ | with_reducible refine ev_all ?_ | with_reducible refine ev_sorted ?_ | with_reducible refine ev_max ?_ | with_reducible refine ev_min ?_ | with_reducible refine ev_abs ?_ | with_reducible refine ev_toInt ?_
  | with_reducible refine ev_isi ?_ | with_reducible refine ev_count ?_ | with_reducible refine ev_call ?_ | with_reducible refine ev_slice ?_
  | with_reducible refine evs_nil ?_ | with_reducible refine evs_cons ?_ | with_reducible refine evs_star ?_
  | with_reducible refine et_test ?_ | with_reducible refine et_B ?_ | with_reducible refine et_not ?_ | with_reducible refine et_and ?_ | with_reducible refine et_or ?_ | with_reducible refine et_yes ?_
  | with_reducible refine eo_none ?_ | with_reducible refine eo_some ?_
  | with_reducible refine iteT ?_ | with_reducible refine iteF ?_ | with_reducible refine ifNt ?_ | with_reducible refine ifNf ?_
  | refine ⟨true, isi_int_int _, ?_⟩ | refine ⟨false, isi_int_bool _, ?_⟩ | refine ⟨true, isi_list _, ?_⟩
  | (refine ev_var (by rfl) ?_)
  | refine ⟨_, _, _, rfl, rfl, by rfl, ?_⟩ | refine ⟨_, Or.inl rfl, ?_⟩ | refine ⟨_, Or.inr ⟨_, rfl, rfl⟩, ?_⟩ | refine ⟨_, _, _, Or.inr rfl, rfl, by rfl, ?_⟩ | refine ⟨_, _, _, Or.inl rfl, rfl, plI_at (by assumption), ?_⟩
  | refine ⟨_, rfl, ?_⟩ | refine ⟨_, _, rfl, rfl, ?_⟩ | refine ⟨_, _, rfl, ?_⟩
  | refine And.intro (by first | assumption | omega | (refine szn _ ?_; (first | (simp; done) | (simp; omega)))) ?_)
local macro_rules | `(tactic| walk_at "ev") => `(tactic| repeat (walk_at "ev1"; try dsimp only))
theorem sum_set : ∀ (l : List Nat) (j a : Nat), j < l.length → (l.set j a).sum + at' l j = l.sum + a
  | [], j, a, h => by simp at h
  | x :: l, 0, a, h => by simp [at']; omega
  | x :: l, j + 1, a, h => by
      have := sum_set l j a (by simpa using h)
      simp [at'] at this ⊢
      omega
theorem at_set_ne {l : List Nat} {i j a : Nat} (h : i ≠ j) : at' (l.set j a) i = at' l i := by
  unfold at'
  rw [List.getD_eq_getElem?_getD, List.getD_eq_getElem?_getD, List.getElem?_set_ne (Ne.symm h)]
theorem at_set_eq {l : List Nat} {j a : Nat} (h : j < l.length) : at' (l.set j a) j = a := by
  unfold at'
  rw [List.getD_eq_getElem?_getD, List.getElem?_set_self h]; rfl
theorem sum_add (f g : Nat → Nat) (l : List Nat) : (l.map fun v => f v + g v).sum = (l.map f).sum + (l.map g).sum := by
  induction l with
  | nil => rfl
  | cons a l ih => simp only [List.map_cons, List.sum_cons, ih]; omega
theorem sum_hit (w : Nat) : ∀ n : Nat, ((List.range n).map fun v => if v = w then 1 else 0).sum = if w < n then 1 else 0
  | 0 => by simp
  | n + 1 => by
      rw [List.range_succ, List.map_append, List.sum_append, sum_hit w n]
      simp only [List.map_cons, List.map_nil, List.sum_cons, List.sum_nil]
      split <;> split <;> split <;> omega
theorem cnt_sum (n : Nat) : ∀ ws : List Nat, (∀ w ∈ ws, w < n) → ((List.range n).map fun v => ws.count v).sum = ws.length
  | [], _ => by
      simp only [List.count_nil]
      induction List.range n with
      | nil => rfl
      | cons a l ih => simpa using ih
  | w :: ws, h => by
      have e : ((List.range n).map fun v => (w :: ws).count v) = (List.range n).map fun v => ws.count v + if v = w then 1 else 0 := by
        apply List.map_congr_left
        intro v _
        rw [List.count_cons]
        by_cases hv : v = w
        · subst hv; simp
        · rw [if_neg (by simpa using fun h => hv h.symm), if_neg hv]
      rw [e, sum_add, cnt_sum n ws fun x hx => h x (by simp [hx]), sum_hit, if_pos (h w (by simp)), List.length_cons]
theorem cnt_good {ws : List Nat} (h : ∀ w ∈ ws, w < ws.length + 2) (hl : ws.length ≤ 58) : Good (cnt ws) := by
  refine ⟨?_, by simp [cnt]; omega⟩
  unfold cnt
  rw [cnt_sum _ ws h]; simp
theorem cnt_len (ws : List Nat) : (cnt ws).length = ws.length + 2 := by simp [cnt]
theorem count_grI (v : Nat) (ws : List Nat) : (grI ws).count (v : Int) = ws.count v := by
  induction ws with
  | nil => rfl
  | cons a l ih =>
    show ((a : Int) :: grI l).count (v : Int) = _
    rw [List.count_cons, List.count_cons, ih]
    by_cases h : a = v
    · subst h; simp
    · have h2 : ¬ ((a : Int) = (v : Int)) := by omega
      simp [h, h2]
def fCnt (ws : List Nat) : PyData → Option PyData
  | .int v => some (.int ((ws.count v.toNat : Int) + 1))
  | _ => none
theorem fCnt_int (ws : List Nat) (v : Nat) : fCnt ws (.int (v : Int)) = some (.int ((ws.count v : Int) + 1)) := by simp [fCnt]
theorem fm_cnt (ws : List Nat) : (rangeD 0 (ws.length + 2)).filterMap (fCnt ws) = (plI (cnt ws)).map .int := by
  unfold rangeD plI cnt
  rw [List.map_map, List.map_map, List.filterMap_map]
  induction List.range (ws.length + 2) with
  | nil => rfl
  | cons v r ih => rw [List.filterMap_cons, List.map_cons, ← ih]; simp [fCnt]
theorem bd_l_plugs {K : PySem.W.Frag} : ∀ ds P0, S_l_plugs ds P0 → Wp (t_l_plugs K) (retD P0) (DL.envOf n_l_plugs ds) := by
  rintro ds P0 ⟨ws, rfl, hl, hp⟩
  have hsl := sizeLine_eq
  have e2 : ((grI ws).map PyData.int).length = ws.length := grI_mlen ws
  unfold t_l_plugs
  refine wp_ret (ev_lcP (js := [1]) (by simp) (fCnt ws) (iv_range1 ?_))
  walk_at "ev"
  have e3 : ((ws.length : Int) + 2).toNat = ws.length + 2 := by omega
  rw [e2, e3]
  refine ⟨by rw [rangeD_len]; omega, fun i y hy => gd_name ?_, ?_⟩
  · obtain ⟨hi, rfl⟩ := rangeD_get hy
    refine et_yes ?_
    refine ev_add (ev_count (ev_var (by rfl) ⟨grI ws, rfl, ev_var (by rfl) ⟨_, rfl, ?_⟩⟩))
    walk_at "ev"
    have e4 : (0 + (i : Int)) = (i : Int) := by omega
    rw [e4, fCnt_int, count_grI]
    exact ⟨rfl, rfl⟩
  · rw [fm_cnt]; exact hp
theorem StOk.le {os : List PyData} {a b : Nat} (h : StOk os a) (hab : a ≤ b) : StOk os b := by
  obtain ⟨a1, b1, c1, e, q1, q2, q3, q4⟩ := h
  exact ⟨a1, b1, c1, e, q1, q2, q3, by omega⟩
theorem ev_word {es : List En} {P : PyData → List En → Prop} {te : TE} {i : Nat} {p : Addr} {os : List PyData} (hi : es[i]? = some (.own p (.lst os)))
    (h : Ev te es fun d e1 => ∃ (k m : Nat) (os1 : List PyData), e1[i]? = some (.own p (.lst os1)) ∧ d = .int (m : Int) ∧ StOk os1 k ∧ k ≤ 5000 ∧ 4 ≤ m ∧ m ≤ 20 ∧ ∀ (ws : List Nat) os', ws.length + 2 = m → (∀ w ∈ ws, w < m) → StOk os' (k + 100) → P (grD ws) (e1.set i (.own p (.lst os')))) :
    Ev (tCall (spS S_l_word) [] E0 (tCons (tVar i) (tCons te tNil))) es P := by
  refine ev_callS hi (evs_cons (ev_weak h ?_))
  rintro d e1 ⟨k, m, os1, h1, rfl, h2, h3, h4, h5, h6⟩
  exact evs_nil ⟨os1, h1, k, m, h2, h3, rfl, h4, h5, h6⟩
theorem bd_l_middle {K : PySem.W.Frag} : ∀ p os ds P0, S_l_middle os ds P0 → Wp (t_l_middle K) (retS p P0) (DL.envS n_l_middle p os ds) := by
  rintro p os ds P0 ⟨k, hst, hk, rfl, hp⟩
  unfold t_l_middle
  refine wp_ret (ev_call (evs_cons (ev_word (by rfl) (ev_add (ev_int (ev_pick (by rfl) (ev_sub (ev_var (by rfl) (ev_int ⟨_, _, rfl, rfl, k, 7, os, by rfl, rfl, hst, by omega, by omega, by omega, fun r os1 hr hst1 => ?_⟩)))))))))
  refine ⟨_, _, rfl, rfl, k + 1, 4 + r, os1, by rfl, by rw [Int.natCast_add]; rfl, hst1, by omega, by omega, by omega, fun ws os2 hw hww hst2 => ?_⟩
  refine evs_nil ⟨ws, rfl, by omega, os2, rfl, ?_⟩
  exact hp _ os2 (cnt_good (fun w h => by have := hww w h; omega) (by omega)) (by rw [cnt_len]; omega) (by rw [cnt_len]; omega) (hst2.le (by omega))
theorem plI_set (ys : List Nat) (j a : Nat) : ((plI ys).map PyData.int).set j (.int ((a : Int) + 1)) = (plI (ys.set j a)).map .int := by
  unfold plI
  rw [List.map_map, List.map_map, List.map_set]; rfl
theorem plI_mlen (ys : List Nat) : ((plI ys).map PyData.int).length = ys.length := by rw [List.length_map, plI_len]
end PN
end

section
set_option Elab.async false
set_option linter.all false
set_option autoImplicit false
set_option maxRecDepth 100000
set_option maxHeartbeats 4000000
namespace PN
open PySem PySem.Spec PyProof.Rows L2 DL
local macro_rules | `(tactic| walk_at "ev1") => `(tactic| first
  | with_reducible refine wp_seq ?_ | with_reducible refine wp_ret ?_ | with_reducible refine wp_next ?_ | with_reducible refine wp_if ?_
  | with_reducible refine wp_asg ?_ | with_reducible refine wp_drop ?_
  | with_reducible refine ev_int ?_ | with_reducible refine ev_bl ?_ | with_reducible refine ev_non ?_
  | with_reducible refine ev_add ?_ | with_reducible refine ev_sub ?_ | with_reducible refine ev_mul ?_ | with_reducible refine ev_fdiv ?_ | with_reducible refine ev_mod ?_ | with_reducible refine ev_pow ?_ | with_reducible refine ev_neg ?_
  | with_reducible refine ev_lt ?_ | with_reducible refine ev_le ?_ | with_reducible refine ev_gt ?_ | with_reducible refine ev_ge ?_
  | with_reducible refine ev_eq ?_ | with_reducible refine ev_ne ?_ | with_reducible refine ev_in ?_ | with_reducible refine ev_notin ?_ | with_reducible refine ev_notN ?_
  | with_reducible refine ev_tup ?_ | with_reducible refine ev_lst ?_ | ((with_reducible refine ev_ixO (p := ?p0) (ds0 := ?d0) ?hi ?_); (case hi => rfl)) | with_reducible refine ev_ix ?_ | with_reducible refine ev_cat ?_ | with_reducible refine ev_rep ?_
  | with_reducible refine ev_lele ?_ | with_reducible refine ev_lelt ?_ | with_reducible refine ev_eqeq ?_
  | with_reducible refine ev_andV ?_ | with_reducible refine ev_orV ?_ | with_reducible refine ev_notV ?_ | with_reducible refine ev_if ?_
  | with_reducible refine ev_len ?_ | with_reducible refine ev_sum ?_ | with_reducible refine ev_all ?_ | with_reducible refine ev_sorted ?_ | with_reducible refine ev_max ?_ | with_reducible refine ev_min ?_ | with_reducible refine ev_abs ?_ | with_reducible refine ev_toInt ?_
  | with_reducible refine ev_isi ?_ | with_reducible refine ev_count ?_ | with_reducible refine ev_call ?_ | with_reducible refine ev_slice ?_
  | with_reducible refine evs_nil ?_ | with_reducible refine evs_cons ?_ | with_reducible refine evs_star ?_
  | with_reducible refine et_test ?_ | with_reducible refine et_B ?_ | with_reducible refine et_not ?_ | with_reducible refine et_and ?_ | with_reducible refine et_or ?_ | with_reducible refine et_yes ?_
  | with_reducible refine eo_none ?_ | with_reducible refine eo_some ?_
  | with_reducible refine iteT ?_ | with_reducible refine iteF ?_ | with_reducible refine ifNt ?_ | with_reducible refine ifNf ?_
  | refine ⟨true, isi_int_int _, ?_⟩ | refine ⟨false, isi_int_bool _, ?_⟩ | refine ⟨true, isi_list _, ?_⟩
  | (refine ev_var (by rfl) ?_)
  | refine ⟨_, _, _, rfl, rfl, by rfl, ?_⟩ | refine ⟨_, Or.inl rfl, ?_⟩ | refine ⟨_, Or.inr ⟨_, rfl, rfl⟩, ?_⟩ | refine ⟨_, _, _, Or.inr rfl, rfl, by rfl, ?_⟩ | refine ⟨_, _, _, Or.inl rfl, rfl, plI_at (by assumption), ?_⟩
  | refine ⟨_, rfl, ?_⟩ | refine ⟨_, _, rfl, rfl, ?_⟩ | refine ⟨_, _, rfl, ?_⟩
  | refine And.intro (by first | assumption | omega | (refine szn _ ?_; (first | (simp; done) | (simp; omega)))) ?_)
local macro_rules | `(tactic| walk_at "ev") => `(tactic| repeat (walk_at "ev1"; try dsimp only))
theorem hub_sum : ∀ (ys : List Nat) (j : Nat), j < ys.length → at' ys j = 0 → ((plI ys).set j 0).sum + 1 = (ys.sum : Int) + ys.length
  | [], j, h, _ => by simp at h
  | x :: l, 0, h, h0 => by
      have h0 : x = 0 := h0
      subst h0
      have e : (plI l).sum = (l.sum : Int) + l.length := plI_sum l
      show ((0 : Int) :: plI l).sum + 1 = _
      rw [List.sum_cons, e, List.sum_cons, List.length_cons]
      push_cast
      omega
  | x :: l, j + 1, h, h0 => by
      have := hub_sum l j (by simpa using h) h0
      show (((x : Int) + 1) :: (plI l).set j 0).sum + 1 = _
      rw [List.sum_cons, List.sum_cons, List.length_cons]
      push_cast
      omega
theorem at_rep (m v : Nat) : at' (List.replicate m 0) v = 0 := by
  unfold at'
  rw [List.getD_eq_getElem?_getD, List.getElem?_replicate]
  split <;> rfl
theorem plI_rep (m : Nat) : List.replicate m (PyData.int 1) = (plI (List.replicate m 0)).map .int := by
  unfold plI
  rw [List.map_map, List.map_replicate]; rfl
theorem bd_l_great {K : PySem.W.Frag} : ∀ p os ds P0, S_l_great os ds P0 → Wp (t_l_great K) (retS p P0) (DL.envS n_l_great p os ds) := by
  rintro p os ds P0 ⟨k, hst, hk, rfl, hp⟩
  have hsl := sizeLine_eq
  unfold t_l_great
  refine wp_seq (wp_asg (ev_ix (ev_lst (evs_cons (ev_var (by rfl) (evs_cons (ev_add (ev_int (ev_pick (by rfl) (ev_sub (ev_var (by rfl) (ev_int ⟨_, _, rfl, rfl, k, 13, os, by rfl, rfl, hst, by omega, by omega, by omega, fun r os1 hr hst1 => ?_⟩))))))))))))
  refine ⟨_, _, rfl, rfl, evs_nil ⟨szn _ (by simp), ?_⟩⟩
  refine ev_pick (by rfl) (ev_int ⟨k + 1, 2, os1, by rfl, rfl, hst1, by omega, by omega, by omega, fun t os2 ht hst2 => ?_⟩)
  have hm : ∃ m : Nat, 8 ≤ m ∧ m ≤ 20 ∧ atI [PyData.int 20, .int (8 + (r : Int))] (t : Int) = some (.int (m : Int)) := by
    have : t = 0 ∨ t = 1 := by omega
    rcases this with rfl | rfl
    · exact ⟨20, by omega, by omega, by rfl⟩
    · exact ⟨8 + r, by omega, by omega, by rw [Int.natCast_add]; rfl⟩
  obtain ⟨m, hm1, hm2, hm3⟩ := hm
  refine ⟨_, _, _, .inl rfl, rfl, hm3, ?_⟩
  refine wp_seq (wp_asg (ev_pick (by rfl) (ev_int ⟨k + 2, 8, os2, by rfl, rfl, hst2, by omega, by omega, by omega, fun b os3 hb hst3 => ?_⟩)))
  refine wp_seq (wp_if (et_test (ev_gt (ev_var (by rfl) (ev_int ⟨_, _, rfl, rfl, ?_⟩)))))
  walk_at "ev"
  refine ifD (fun hb2 => ?_) (fun hb2 => ?_)
  · refine wp_ret (ev_call (evs_cons (ev_word (by rfl) (ev_var (by rfl) ⟨k + 3, m, os3, by rfl, rfl, hst3, by omega, by omega, by omega, fun ws os4 hw hww hst4 => ?_⟩))))
    refine evs_nil ⟨ws, rfl, by omega, os4, rfl, ?_⟩
    exact hp _ os4 (cnt_good (fun w h => by have := hww w h; omega) (by omega)) (by rw [cnt_len]; omega) (by rw [cnt_len]; omega) (hst4.le (by omega))
  refine wp_next ?_
  have hm22 : ((m : Int) - 2) = ((m - 2 : Nat) : Int) := by omega
  refine wp_seq (wp_par (evs_cons (ev_pick (by rfl) (ev_var (by rfl) ⟨k + 3, m, os3, by rfl, rfl, hst3, by omega, by omega, by omega, fun hub os4 hhub hst4 => ?_⟩))))
  refine evs_cons (ev_pick (by rfl) (ev_sub (ev_var (by rfl) (ev_int ⟨_, _, rfl, rfl, k + 4, m - 2, os4, by rfl, by rw [hm22], hst4, by omega, by omega, by omega, fun ls os5 hls hst5 => ?_⟩))))
  refine evs_nil ⟨_, _, rfl, ?_⟩
  refine wp_seq (wp_asgN (en_rep (ev_lst (evs_cons (ev_int (evs_nil ⟨szn _ (by simp), ?_⟩))))))
  refine ev_var (by rfl) ⟨_, (m : Int), rfl, rfl, by omega, by omega, by omega, fun q => ?_⟩
  rw [Int.toNat_natCast, plI_rep]
  have hc : ∃ c : Nat, c + 2 ≤ m ∧ atI [PyData.int ((m : Int) - 2), .int 0, .int (ls : Int)] (b : Int) = some (.int (c : Int)) := by
    have : b = 0 ∨ b = 1 ∨ b = 2 := by omega
    rcases this with rfl | rfl | rfl
    · exact ⟨m - 2, by omega, by rw [hm22]; rfl⟩
    · exact ⟨0, by omega, by rfl⟩
    · exact ⟨ls, by omega, by rfl⟩
  obtain ⟨c, hc1, hc2⟩ := hc
  refine wp_seq (wp_for (js := [7]) (iv_range1 (evs_cons (ev_ix (ev_lst (evs_cons (ev_sub (ev_var (by rfl) (ev_int ⟨_, _, rfl, rfl, ?_⟩)))))))))
  refine evs_cons (ev_int (evs_cons (ev_var (by rfl) (evs_nil ⟨szn _ (by simp), ?_⟩))))
  refine ev_var (by rfl) ⟨_, _, _, .inl rfl, rfl, hc2, evs_nil ⟨_, rfl, by omega, by omega, ?_⟩⟩
  rw [Int.toNat_natCast]
  refine ⟨fun i e => ∃ (ys : List Nat) (x : En), ys.length = m ∧ at' ys hub = 0 ∧ ys.sum ≤ i ∧
    e = [.own p (.lst os5), .dat (.int 20), .dat (.int (m : Int)), .dat (.int (b : Int)), .dat (.int (hub : Int)), .dat (.int (ls : Int)), .own q (.lst ((plI ys).map .int)), x],
    ⟨List.replicate m 0, .no, by simp, at_rep _ _, by simp, rfl⟩, fun i y e hy => ?_, fun e => ?_⟩
  · rintro ⟨ys, x, h1, h2, h3, rfl⟩
    obtain ⟨hi, rfl⟩ := rangeD_get hy
    refine gd_name ?_
    refine wp_setO (p := q) (ev_int ⟨_, by rfl, ev_mod (ev_toInt (ev_add (ev_add (ev_var (by rfl) (ev_int ⟨_, _, rfl, rfl, ?_⟩))))) ⟩)
    refine ev_var (by rfl) ⟨_, _, rfl, rfl, _, .inl rfl, ?_⟩
    refine ev_var (by rfl) ⟨_, _, rfl, rfl, by omega, ?_⟩
    have e1 : ((hub : Int) + 1 + (0 + (i : Int))) % (m : Int) = (((hub + 1 + i) % m : Nat) : Int) := by
      rw [Int.natCast_emod]; congr 1; omega
    have hlt : (hub + 1 + i) % m < m := Nat.mod_lt _ (by omega)
    have hne : hub ≠ (hub + 1 + i) % m := by
      intro h
      by_cases hh : hub + 1 + i < m
      · rw [Nat.mod_eq_of_lt hh] at h; omega
      · have : (hub + 1 + i) % m = hub + 1 + i - m := by
          rw [Nat.mod_eq_sub_mod (by omega), Nat.mod_eq_of_lt (by omega)]
        omega
    refine ⟨_, _, (hub + 1 + i) % m, by rfl, rfl, ?_, ?_⟩
    · rw [e1, plI_mlen, h1]; exact ixN_nat hlt
    have hss := sum_set ys ((hub + 1 + i) % m) 1 (by omega)
    refine ⟨ys.set ((hub + 1 + i) % m) 1, .dat (.int (0 + (i : Int))), by rw [List.length_set]; exact h1, by rw [at_set_ne hne]; exact h2, by omega, ?_⟩
    rw [← plI_set]; rfl
  · rintro ⟨ys, x, h1, h2, h3, rfl⟩
    rw [rangeD_len] at h3
    refine wp_seq (wp_setO (p := q) (ev_int ⟨_, by rfl, ev_var (by rfl) ⟨_, _, hub, by rfl, rfl, by rw [plI_mlen, h1]; exact ixN_nat hhub, ?_⟩⟩))
    have e2 : ((plI ys).map PyData.int).set hub (.int 0) = ((plI ys).set hub 0).map .int := by rw [List.map_set]
    rw [e2]
    refine wp_seq (wp_setO (p := q) (ev_max (ev_int (ev_sub (ev_sub (ev_mul (ev_int (ev_var (by rfl) ⟨_, _, rfl, rfl, wide_mul (a := 10) (b := 10) (by decide) (by omega) (by omega) (by omega) (by omega), ?_⟩))))))))
    refine ev_int ⟨_, _, rfl, rfl, ev_sumO (ns := (plI ys).set hub 0) (by rfl) ?_⟩
    have hs := hub_sum ys hub (by omega) h2
    have e3 : max 1 (2 * (m : Int) - 2 - ((plI ys).set hub 0).sum) = ((m - 2 - ys.sum : Nat) : Int) + 1 := by omega
    refine ⟨_, _, rfl, rfl, _, _, rfl, rfl, _, by rfl, ev_var (by rfl) ⟨_, _, hub, by rfl, rfl, ?_, ?_⟩⟩
    · rw [List.length_map, List.length_set, plI_len, h1]; exact ixN_nat hhub
    have e4 : (((plI ys).set hub 0).map PyData.int).set hub (.int (max 1 (2 * (m : Int) - 2 - ((plI ys).set hub 0).sum))) = (plI (ys.set hub (m - 2 - ys.sum))).map .int := by
      rw [e3, ← e2, List.set_set, plI_set]
    rw [e4]
    refine wp_ret (ev_freeze (i := 6) (by rfl) (ev_var (by rfl) ⟨os5, by rfl, ?_⟩))
    have hss := sum_set ys hub (m - 2 - ys.sum) (by omega)
    exact hp _ os5 ⟨by rw [List.length_set]; omega, by rw [List.length_set]; omega⟩ (by rw [List.length_set]; omega) (by rw [List.length_set]; omega) (hst5.le (by omega))
end PN
end

section
set_option Elab.async false
set_option linter.all false
set_option autoImplicit false
set_option maxRecDepth 100000
set_option maxHeartbeats 4000000
namespace PN
open PySem PySem.Spec PyProof.Rows L2 DL
local macro_rules | `(tactic| walk_at "ev1") => `(tactic| first
  | with_reducible refine wp_seq ?_ | with_reducible refine wp_ret ?_ | with_reducible refine wp_next ?_ | with_reducible refine wp_if ?_
  | with_reducible refine wp_asg ?_ | with_reducible refine wp_drop ?_
  | with_reducible refine ev_int ?_ | with_reducible refine ev_bl ?_ | with_reducible refine ev_non ?_
  | with_reducible refine ev_add ?_ | with_reducible refine ev_sub ?_ | with_reducible refine ev_mul ?_ | with_reducible refine ev_fdiv ?_ | with_reducible refine ev_mod ?_ | with_reducible refine ev_pow ?_ | with_reducible refine ev_neg ?_
  | with_reducible refine ev_lt ?_ | with_reducible refine ev_le ?_ | with_reducible refine ev_gt ?_ | with_reducible refine ev_ge ?_
  | with_reducible refine ev_eq ?_ | with_reducible refine ev_ne ?_ | with_reducible refine ev_in ?_ | with_reducible refine ev_notin ?_ | with_reducible refine ev_notN ?_
  | with_reducible refine ev_tup ?_ | with_reducible refine ev_lst ?_ | ((with_reducible refine ev_ixO (p := ?p0) (ds0 := ?d0) ?hi ?_); (case hi => rfl)) | with_reducible refine ev_ix ?_ | with_reducible refine ev_cat ?_ | with_reducible refine ev_rep ?_
  | with_reducible refine ev_lele ?_ | with_reducible refine ev_lelt ?_ | with_reducible refine ev_eqeq ?_
  | with_reducible refine ev_andV ?_ | with_reducible refine ev_orV ?_ | with_reducible refine ev_notV ?_ | with_reducible refine ev_if ?_
  | with_reducible refine ev_len ?_ | with_reducible refine ev_sum ?_ | with_reducible refine ev_all ?_ | with_reducible refine ev_sorted ?_ | with_reducible refine ev_max ?_ | with_reducible refine ev_min ?_ | with_reducible refine ev_abs ?_ | with_reducible refine ev_toInt ?_
  | with_reducible refine ev_isi ?_ | with_reducible refine ev_count ?_ | with_reducible refine ev_call ?_ | with_reducible refine ev_slice ?_
  | with_reducible refine evs_nil ?_ | with_reducible refine evs_cons ?_ | with_reducible refine evs_star ?_
  | with_reducible refine et_test ?_ | with_reducible refine et_B ?_ | with_reducible refine et_not ?_ | with_reducible refine et_and ?_ | with_reducible refine et_or ?_ | with_reducible refine et_yes ?_
  | with_reducible refine eo_none ?_ | with_reducible refine eo_some ?_
  | with_reducible refine iteT ?_ | with_reducible refine iteF ?_ | with_reducible refine ifNt ?_ | with_reducible refine ifNf ?_
  | refine ⟨true, isi_int_int _, ?_⟩ | refine ⟨false, isi_int_bool _, ?_⟩ | refine ⟨true, isi_list _, ?_⟩
  | (refine ev_var (by rfl) ?_)
  | refine ⟨_, _, _, rfl, rfl, by rfl, ?_⟩ | refine ⟨_, Or.inl rfl, ?_⟩ | refine ⟨_, Or.inr ⟨_, rfl, rfl⟩, ?_⟩ | refine ⟨_, _, _, Or.inr rfl, rfl, by rfl, ?_⟩ | refine ⟨_, _, _, Or.inl rfl, rfl, plI_at (by assumption), ?_⟩
  | refine ⟨_, rfl, ?_⟩ | refine ⟨_, _, rfl, rfl, ?_⟩ | refine ⟨_, _, rfl, ?_⟩
  | refine And.intro (by first | assumption | omega | (refine szn _ ?_; (first | (simp; done) | (simp; omega)))) ?_)
local macro_rules | `(tactic| walk_at "ev") => `(tactic| repeat (walk_at "ev1"; try dsimp only))
set_option exponentiation.threshold 9000 in
theorem bd_l_fraction {K : PySem.W.Frag} : ∀ ds P0, S_l_fraction ds P0 → Wp (t_l_fraction K) (retD P0) (DL.envOf n_l_fraction ds) := by
  rintro ds P0 ⟨⟨a, b⟩, rfl, hb, hb2, hp⟩
  have g0 : 0 < Nat.gcd a b := Nat.gcd_pos_of_pos_right _ hb
  have g1 : Nat.gcd a b ≤ b := Nat.gcd_le_right _ hb
  have hd : ∀ i : Int, CDivW i (Nat.gcd a b : Int) := fun i => wide_div (b := 8000) (by omega) (by
    show Int.natAbs _ < _
    rw [Int.natAbs_natCast]
    exact Nat.lt_of_le_of_lt g1 hb2) (by omega) (by omega)
  unfold t_l_fraction
  refine wp_seq (wp_par (evs_cons (ev_var (by rfl) (evs_cons (ev_var (by rfl) (evs_nil ⟨_, _, rfl, ?_⟩))))))
  refine wp_seq (wp_while (fun m e => ∃ a' b' : Nat, e = [En.dat (.int (a : Int)), En.dat (.int (b : Int)), En.dat (.int (a' : Int)), En.dat (.int (b' : Int))] ∧ Nat.gcd a' b' = Nat.gcd a b ∧ m = b') b ⟨a, b, rfl, rfl, rfl⟩ ?_)
  rintro m e ⟨a', b', rfl, hg, hm⟩
  subst hm
  refine et_test (ev_gt (ev_var (by rfl) (ev_int ⟨_, _, rfl, rfl, ?_⟩)))
  refine ⟨_, rfl, ?_⟩
  by_cases hb : (m : Int) = 0
  · refine ifF (by omega) ?_
    have : m = 0 := by omega
    subst this
    rw [Nat.gcd_zero_right] at hg
    subst hg
    walk_at "ev"
    refine ⟨hd _, ?_⟩
    walk_at "ev"
    refine ⟨hd _, ?_⟩
    walk_at "ev"
    have e : lowD (a, b) = .tuple [.int ((a : Int) / (Nat.gcd a b : Int)), .int ((b : Int) / (Nat.gcd a b : Int))] := by
      unfold lowD frD low
      simp only [Int.natCast_ediv]
    rw [e] at hp
    exact hp
  · refine ifT (by omega) ?_
    refine wp_par ?_
    walk_at "ev"
    refine ⟨a' % m, Nat.mod_lt _ (by omega), m, a' % m, ?_, ?_, rfl⟩
    · rw [Int.natCast_emod]; rfl
    · rw [← hg, Nat.gcd_comm a' m, Nat.gcd_rec m a', Nat.gcd_comm]
theorem frSum_snoc (l : List (Nat × Nat)) (p : Nat × Nat) : frSum (l ++ [p]) = frAdd (frSum l) p := by unfold frSum; rw [List.foldl_append]; rfl
theorem frSum_pos : ∀ (l : List (Nat × Nat)) (s : Nat × Nat), 0 < s.2 → (∀ p ∈ l, 0 < p.2) → 0 < (l.foldl frAdd s).2
  | [], s, h, _ => h
  | p :: l, s, h, hl => frSum_pos l (frAdd s p) (Nat.mul_pos h (hl p (by simp))) fun q hq => hl q (by simp [hq])
theorem frSum_bound : ∀ (l : List (Nat × Nat)) (s : Nat × Nat) (i : Nat), s.1 ≤ i * 2 ^ (150 * i) → s.2 ≤ 2 ^ (150 * i) → (∀ p ∈ l, p.1 < 2 ^ 150 ∧ p.2 < 2 ^ 150) →
    (l.foldl frAdd s).1 ≤ (i + l.length) * 2 ^ (150 * (i + l.length)) ∧ (l.foldl frAdd s).2 ≤ 2 ^ (150 * (i + l.length))
  | [], s, i, h1, h2, _ => ⟨h1, h2⟩
  | p :: l, s, i, h1, h2, hl => by
      have hp := hl p (by simp)
      have e : 2 ^ (150 * (i + 1)) = 2 ^ (150 * i) * 2 ^ 150 := by rw [← Nat.pow_add]; congr 1
      have := frSum_bound l (frAdd s p) (i + 1) (by
        have a1 : s.1 * p.2 ≤ i * 2 ^ (150 * i) * 2 ^ 150 := Nat.mul_le_mul h1 (by omega)
        have a2 : p.1 * s.2 ≤ 2 ^ 150 * 2 ^ (150 * i) := Nat.mul_le_mul (by omega) h2
        show s.1 * p.2 + p.1 * s.2 ≤ _
        rw [e, Nat.add_mul, Nat.one_mul, ← Nat.mul_assoc]
        rw [Nat.mul_comm (2 ^ 150)] at a2
        omega) (by
        show s.2 * p.2 ≤ _
        rw [e]
        exact Nat.mul_le_mul h2 (by omega)) fun q hq => hl q (by simp [hq])
      rw [List.foldl_cons, List.length_cons]
      have e2 : i + 1 + l.length = i + (l.length + 1) := by omega
      rw [e2] at this
      exact this
theorem low_frAdd {s p : Nat × Nat} (hs : 0 < s.2) (hp : 0 < p.2) : low (frAdd (low s) p) = low (frAdd s p) := by
  refine low_eq (Nat.mul_pos (low_pos hs) hp) (Nat.mul_pos hs hp) ?_
  have := low_mul s
  show ((low s).1 * p.2 + p.1 * (low s).2) * (s.2 * p.2) = (s.1 * p.2 + p.1 * s.2) * ((low s).2 * p.2)
  grind
theorem frD_get {l : List (Nat × Nat)} {i : Nat} {y : PyData} (h : (l.map frD)[i]? = some y) : ∃ p, l[i]? = some p ∧ y = frD p := by
  rw [List.getElem?_map] at h
  cases hq : l[i]? with
  | none => rw [hq] at h; cases h
  | some p => rw [hq] at h; cases h; exact ⟨p, rfl, rfl⟩
theorem take_snoc {α : Type} {l : List α} {i : Nat} {x : α} (h : l[i]? = some x) : l.take (i + 1) = l.take i ++ [x] := by
  rw [List.take_add_one, h]; rfl
theorem nat_abs_lt {a n : Nat} (h : a < 2 ^ n) : (a : Int).natAbs < 2 ^ n := by rw [Int.natAbs_natCast]; exact h
set_option exponentiation.threshold 9000 in
theorem bd_l_sum {K : PySem.W.Frag} : ∀ ds P0, S_l_sum ds P0 → Wp (t_l_sum K) (retD P0) (DL.envOf n_l_sum ds) := by
  rintro ds P0 ⟨l, rfl, hl, hb, hp⟩
  unfold t_l_sum
  refine wp_seq (wp_asgG (js := [1, 2]) (ev_tup (evs_cons (ev_int (evs_cons (ev_int (evs_nil ⟨szn _ (by simp), ?_⟩)))))))
  refine gd_tup (by rfl) (gds_cons (gd_name (gds_cons (gd_name (gds_nil ?_)))))
  refine wp_seq (wp_for (js := [3, 4]) (iv_list (ev_var (by rfl) ⟨l.map frD, rfl, ?_⟩)))
  refine ⟨fun i e => ∃ x y : En, e = [.dat (.list (l.map frD)), .dat (.int ((low (frSum (l.take i))).1 : Int)), .dat (.int ((low (frSum (l.take i))).2 : Int)), x, y], ⟨.no, .no, by rw [List.take_zero]; rfl⟩, fun i y e hy => ?_, fun e => ?_⟩
  · rintro ⟨x, y', rfl⟩
    obtain ⟨⟨a, b⟩, hpi, rfl⟩ := frD_get hy
    have hpm := hb _ (List.mem_of_getElem? hpi)
    have hil : i < l.length := by
      rcases Nat.lt_or_ge i l.length with h | h
      · exact h
      · rw [List.getElem?_eq_none h] at hpi; cases hpi
    have hs := frSum_pos (l.take i) (0, 1) (by decide) fun q hq => (hb q (List.mem_of_mem_take hq)).1
    have hbd := frSum_bound (l.take i) (0, 1) 0 (by decide) (by decide) fun q hq => (hb q (List.mem_of_mem_take hq)).2
    change 0 < (frSum (l.take i)).2 at hs
    change (frSum (l.take i)).1 ≤ _ ∧ (frSum (l.take i)).2 ≤ _ at hbd
    have hlen : 0 + (l.take i).length ≤ 39 := by rw [List.length_take]; omega
    have hpw : 2 ^ (150 * (0 + (l.take i).length)) ≤ 2 ^ 5850 := Nat.pow_le_pow_right (by decide) (by omega)
    have hb2 : (frSum (l.take i)).2 ≤ 2 ^ 5850 := Nat.le_trans hbd.2 hpw
    have hb1 : (frSum (l.take i)).1 ≤ 39 * 2 ^ 5850 := Nat.le_trans hbd.1 (Nat.mul_le_mul hlen hpw)
    have l1 := low_le1 (frSum (l.take i))
    have l2 := low_le2 (frSum (l.take i))
    have c1 : (low (frSum (l.take i))).1 < 2 ^ 5900 := Nat.lt_of_le_of_lt (Nat.le_trans l1 hb1) (by decide)
    have c2 : (low (frSum (l.take i))).2 < 2 ^ 5900 := Nat.lt_of_le_of_lt (Nat.le_trans l2 hb2) (by decide)
    have c3 : ∀ z : Nat, z < 2 ^ 150 → z < 2 ^ 150 := fun _ h => h
    refine gd_tup (by rfl) (gds_cons (gd_name (gds_cons (gd_name (gds_nil ?_)))))
    refine wp_asgG (js := [1, 2]) (ev_call (evs_cons (ev_add (ev_mul (ev_var (by rfl) (ev_var (by rfl) ⟨_, _, rfl, rfl, wide_mul (a := 5900) (b := 150) (nat_abs_lt c1) (nat_abs_lt hpm.2.2) (by decide) (by decide) (by decide), ?_⟩))))))
    refine ev_mul (ev_var (by rfl) (ev_var (by rfl) ⟨_, _, rfl, rfl, wide_mul (a := 150) (b := 5900) (nat_abs_lt hpm.2.1) (nat_abs_lt c2) (by decide) (by decide) (by decide), ?_⟩))
    refine ⟨_, _, rfl, rfl, evs_cons (ev_mul (ev_var (by rfl) (ev_var (by rfl) ⟨_, _, rfl, rfl, wide_mul (a := 5900) (b := 150) (nat_abs_lt c2) (nat_abs_lt hpm.2.2) (by decide) (by decide) (by decide), ?_⟩)))⟩
    refine evs_nil ⟨frAdd (low (frSum (l.take i))) (a, b), by unfold frAdd; push_cast; rfl, Nat.mul_pos (low_pos hs) hpm.1, ?_, ?_⟩
    · show (low (frSum (l.take i))).2 * b < _
      have := Nat.mul_lt_mul'' c2 hpm.2.2
      rw [← Nat.pow_add] at this
      exact Nat.lt_of_lt_of_le this (Nat.pow_le_pow_right (by decide) (by decide))
    · have e : lowD (frAdd (low (frSum (l.take i))) (a, b)) = .tuple [.int ((low (frSum (l.take (i + 1)))).1 : Int), .int ((low (frSum (l.take (i + 1)))).2 : Int)] := by
        unfold lowD
        rw [low_frAdd hs hpm.1, take_snoc hpi, frSum_snoc]; rfl
      rw [e]
      refine gd_tup (by rfl) (gds_cons (gd_name (gds_cons (gd_name (gds_nil ?_)))))
      exact ⟨_, _, rfl⟩
  · rintro ⟨x, y', rfl⟩
    rw [List.length_map, List.take_length]
    refine wp_ret (ev_tup (evs_cons (ev_var (by rfl) (evs_cons (ev_var (by rfl) (evs_nil ⟨szn _ (by simp), ?_⟩))))))
    exact hp
theorem bd_l_name {K : PySem.W.Frag} : ∀ ds P0, S_l_name ds P0 → Wp (t_l_name K) (retD P0) (DL.envOf n_l_name ds) := by
  rintro ds P0 ⟨v, e, rfl, hp⟩
  unfold t_l_name
  refine wp_ret (ev_sub (ev_var (by rfl) (ev_toInt (ev_gt (ev_var (by rfl) (ev_var (by rfl) ⟨_, _, rfl, rfl, _, .inr ⟨_, rfl, rfl⟩, _, _, rfl, rfl, ?_⟩))))))
  have h : (v : Int) - (if decide ((e : Int) < (v : Int)) = true then 1 else 0) = (nm e v : Int) := by
    unfold nm
    by_cases h : e < v
    · rw [if_pos h, if_pos (by simpa using h)]; omega
    · rw [if_neg h, if_neg (by simpa using h)]; omega
  rw [h]; exact hp
def fNm (e : Nat) : PyData → Option PyData
  | .int v => some (.int (nm e v.toNat : Int))
  | _ => none
theorem fNm_int (e v : Nat) : fNm e (.int (v : Int)) = some (.int (nm e v : Int)) := by simp [fNm]
theorem fm_nm (e : Nat) (g : List Nat) : ((grI g).map PyData.int).filterMap (fNm e) = (grI (g.map (nm e))).map .int := by
  unfold grI
  rw [List.map_map, List.map_map, List.map_map, List.filterMap_map]
  induction g with
  | nil => rfl
  | cons v r ih => rw [List.filterMap_cons, List.map_cons, ← ih]; simp [fNm]
theorem bd_l_names {K : PySem.W.Frag} : ∀ ds P0, S_l_names ds P0 → Wp (t_l_names K) (retD P0) (DL.envOf n_l_names ds) := by
  rintro ds P0 ⟨g, e, rfl, hl, hp⟩
  have hsl := sizeLine_eq
  unfold t_l_names
  refine wp_ret (ev_lcP (js := [2]) (by simp) (fNm e) (iv_list (ev_var (by rfl) ⟨_, rfl, ?_⟩)))
  refine ⟨by rw [grI_mlen]; omega, fun i y hy => gd_name ?_, ?_⟩
  · obtain ⟨v, hv, rfl⟩ := grI_get hy
    refine et_yes (ev_call (evs_cons (ev_var (by rfl) (evs_cons (ev_var (by rfl) (evs_nil ⟨v, e, rfl, ?_⟩))))))
    exact ⟨fNm_int e v, rfl⟩
  · rw [fm_nm]; exact hp
end PN
end

section
set_option Elab.async false
set_option linter.all false
set_option autoImplicit false
set_option maxRecDepth 100000
set_option maxHeartbeats 4000000
namespace PN
open PySem PySem.Spec PyProof.Rows L2 DL
local macro_rules | `(tactic| walk_at "ev1") => `(tactic| first
  | with_reducible refine wp_seq ?_ | with_reducible refine wp_ret ?_ | with_reducible refine wp_next ?_ | with_reducible refine wp_if ?_
  | with_reducible refine wp_asg ?_ | with_reducible refine wp_drop ?_
  | with_reducible refine ev_int ?_ | with_reducible refine ev_bl ?_ | with_reducible refine ev_non ?_
  | with_reducible refine ev_add ?_ | with_reducible refine ev_sub ?_ | with_reducible refine ev_mul ?_ | with_reducible refine ev_fdiv ?_ | with_reducible refine ev_mod ?_ | with_reducible refine ev_pow ?_ | with_reducible refine ev_neg ?_
  | with_reducible refine ev_lt ?_ | with_reducible refine ev_le ?_ | with_reducible refine ev_gt ?_ | with_reducible refine ev_ge ?_
  | with_reducible refine ev_eq ?_ | with_reducible refine ev_ne ?_ | with_reducible refine ev_in ?_ | with_reducible refine ev_notin ?_ | with_reducible refine ev_notN ?_
  | with_reducible refine ev_tup ?_ | with_reducible refine ev_lst ?_ | ((with_reducible refine ev_ixO (p := ?p0) (ds0 := ?d0) ?hi ?_); (case hi => rfl)) | with_reducible refine ev_ix ?_ | with_reducible refine ev_cat ?_ | with_reducible refine ev_rep ?_
  | with_reducible refine ev_lele ?_ | with_reducible refine ev_lelt ?_ | with_reducible refine ev_eqeq ?_
  | with_reducible refine ev_andV ?_ | with_reducible refine ev_orV ?_ | with_reducible refine ev_notV ?_ | with_reducible refine ev_if ?_
  | with_reducible refine ev_len ?_ | with_reducible refine ev_sum ?_ | with_reducible refine ev_all ?_ | with_reducible refine ev_sorted ?_ | with_reducible refine ev_max ?_ | with_reducible refine ev_min ?_ | with_reducible refine ev_abs ?_ | with_reducible refine ev_toInt ?_
  | with_reducible refine ev_isi ?_ | with_reducible refine ev_count ?_ | with_reducible refine ev_call ?_ | with_reducible refine ev_slice ?_
  | with_reducible refine evs_nil ?_ | with_reducible refine evs_cons ?_ | with_reducible refine evs_star ?_
  | with_reducible refine et_test ?_ | with_reducible refine et_B ?_ | with_reducible refine et_not ?_ | with_reducible refine et_and ?_ | with_reducible refine et_or ?_ | with_reducible refine et_yes ?_
  | with_reducible refine eo_none ?_ | with_reducible refine eo_some ?_
  | with_reducible refine iteT ?_ | with_reducible refine iteF ?_ | with_reducible refine ifNt ?_ | with_reducible refine ifNf ?_
  | refine ⟨true, isi_int_int _, ?_⟩ | refine ⟨false, isi_int_bool _, ?_⟩ | refine ⟨true, isi_list _, ?_⟩
  | (refine ev_var (by rfl) ?_)
  | refine ⟨_, _, _, rfl, rfl, by rfl, ?_⟩ | refine ⟨_, Or.inl rfl, ?_⟩ | refine ⟨_, Or.inr ⟨_, rfl, rfl⟩, ?_⟩ | refine ⟨_, _, _, Or.inr rfl, rfl, by rfl, ?_⟩ | refine ⟨_, _, _, Or.inl rfl, rfl, plI_at (by assumption), ?_⟩
  | refine ⟨_, rfl, ?_⟩ | refine ⟨_, _, rfl, rfl, ?_⟩ | refine ⟨_, _, rfl, ?_⟩
  | refine And.intro (by first | assumption | omega | (refine szn _ ?_; (first | (simp; done) | (simp; omega)))) ?_)
local macro_rules | `(tactic| walk_at "ev") => `(tactic| repeat (walk_at "ev1"; try dsimp only))
theorem eraseIdx_map' {α β : Type} (f : α → β) : ∀ (l : List α) (j : Nat), (l.map f).eraseIdx j = (l.eraseIdx j).map f
  | [], _ => rfl
  | _ :: _, 0 => rfl
  | a :: l, j + 1 => by simp only [List.map_cons, List.eraseIdx_cons_succ, eraseIdx_map' f l j]
theorem cutD_take {ds : List PyData} {e : Nat} (h : e ≤ ds.length) : DL.cutD ds none (some (e : Int)) = ds.take e := by
  unfold DL.cutD HT.sIx
  have h1 : ¬ ((e : Int) < 0) := by omega
  have h2 : ¬ ((ds.length : Int) < (e : Int)) := by omega
  simp [h1, h2]
theorem cutD_drop {ds : List PyData} {e : Nat} (h : e ≤ ds.length) : DL.cutD ds (some (e : Int)) none = ds.drop e := by
  unfold DL.cutD HT.sIx
  have h1 : ¬ ((e : Int) < 0) := by omega
  have h2 : ¬ ((ds.length : Int) < (e : Int)) := by omega
  simp [h1, h2]
  rw [Nat.min_eq_left h]
  apply List.take_of_length_le
  simp
theorem bd_l_without {K : PySem.W.Frag} : ∀ ds P0, S_l_without ds P0 → Wp (t_l_without K) (retD P0) (DL.envOf n_l_without ds) := by
  rintro ds P0 ⟨xs, e, v, rfl, hx, he, hv, h0, hp⟩
  have hsl := sizeLine_eq
  unfold t_l_without
  refine wp_seq (wp_asgN (en_list (ev_var (by rfl) ⟨_, rfl, fun p => ?_⟩)))
  refine wp_seq (wp_setO (p := p) (ev_sub (ev_ixO (by rfl) (ev_var (by rfl) ⟨_, _, _, by rfl, rfl, plI_at hv, ?_⟩))))
  refine ev_int ⟨_, _, rfl, rfl, _, by rfl, ev_var (by rfl) ⟨_, _, v, by rfl, rfl, by rw [plI_mlen]; exact ixN_nat hv, ?_⟩⟩
  have e1 : (at' xs v : Int) + 1 - 1 = ((at' xs v - 1 : Nat) : Int) + 1 := by omega
  rw [e1, plI_set]
  refine wp_freeze (i := 3) (by rfl) ?_
  refine wp_ret (ev_cat (ev_slice (ev_var (by rfl) (eo_none (eo_some (ev_var (by rfl) ⟨_, rfl, _, rfl, ?_⟩))))))
  refine ev_slice (ev_var (by rfl) (eo_some (ev_add (ev_var (by rfl) (ev_int ⟨_, _, rfl, rfl, _, rfl, eo_none ⟨_, rfl, _, _, rfl, rfl, ?_, ?_⟩⟩)))))
  all_goals
    have hl : ((plI (xs.set v (at' xs v - 1))).map PyData.int).length = xs.length := by rw [plI_mlen, List.length_set]
    have e2 : (e : Int) + 1 = ((e + 1 : Nat) : Int) := by omega
    rw [e2, cutD_take (by omega), cutD_drop (by omega)]
  · rw [List.length_take, List.length_drop]; omega
  · have e3 : List.take e ((plI (xs.set v (at' xs v - 1))).map PyData.int) ++ List.drop (e + 1) ((plI (xs.set v (at' xs v - 1))).map PyData.int) = (plI (dropE xs e v)).map .int := by
      rw [← List.eraseIdx_eq_take_drop_succ]
      unfold dropE plI
      rw [List.map_map, List.map_map, eraseIdx_map']
    rw [e3]; exact hp
def fWe : PyData → Option PyData
  | .tuple [.tuple [.int a, .int b], .tuple [.int c, .int d]] => some (.tuple [.int (a * c), .int (b * d)])
  | _ => none
theorem fWe_fr (p q : Nat × Nat) : fWe (.tuple [frD p, frD q]) = some (frD (p.1 * q.1, p.2 * q.2)) := by
  unfold fWe frD; push_cast; rfl
theorem fm_we (l : List ((Nat × Nat) × (Nat × Nat))) : (zipD (l.map fun q => lowD q.1) (l.map fun q => lowD q.2)).filterMap fWe = (l.map fun q => ((low q.1).1 * (low q.2).1, (low q.1).2 * (low q.2).2)).map frD := by
  unfold zipD
  induction l with
  | nil => rfl
  | cons q r ih =>
    simp only [List.map_cons, List.zip_cons_cons, List.filterMap_cons]
    unfold lowD
    rw [fWe_fr]
    simp only [List.cons.injEq, true_and]
    exact ih
/-- sums of fractions of equal worth -/
theorem frSum_low : ∀ (l l' : List (Nat × Nat)) (s s' : Nat × Nat), 0 < s.2 → 0 < s'.2 → s.1 * s'.2 = s'.1 * s.2 → l.length = l'.length → (∀ (i : Nat) p q, l[i]? = some p → l'[i]? = some q → 0 < p.2 ∧ 0 < q.2 ∧ p.1 * q.2 = q.1 * p.2) →
    low (l.foldl frAdd s) = low (l'.foldl frAdd s')
  | [], [], s, s', h1, h2, h3, _, _ => low_eq h1 h2 h3
  | [], _ :: _, _, _, _, _, _, h, _ => by simp at h
  | _ :: _, [], _, _, _, _, _, h, _ => by simp at h
  | p :: l, q :: l', s, s', h1, h2, h3, hl, h => by
      obtain ⟨a1, a2, a3⟩ := h 0 p q rfl rfl
      exact frSum_low l l' (frAdd s p) (frAdd s' q) (Nat.mul_pos h1 a1) (Nat.mul_pos h2 a2) (by
        show (s.1 * p.2 + p.1 * s.2) * (s'.2 * q.2) = (s'.1 * q.2 + q.1 * s'.2) * (s.2 * p.2)
        grind) (by simpa using hl) fun i x y hx hy => h (i + 1) x y hx hy
theorem low_prod {p q : Nat × Nat} : (low p).1 * (low q).1 * (p.2 * q.2) = p.1 * q.1 * ((low p).2 * (low q).2) := by
  have h1 := low_mul p
  have h2 := low_mul q
  grind
theorem frSum_lows (l : List ((Nat × Nat) × (Nat × Nat))) (h : ∀ q ∈ l, 0 < q.1.2 ∧ 0 < q.2.2) :
    low (frSum (l.map fun q => ((low q.1).1 * (low q.2).1, (low q.1).2 * (low q.2).2))) = low (frSum (l.map fun q => (q.1.1 * q.2.1, q.1.2 * q.2.2))) := by
  refine frSum_low _ _ _ _ (by decide) (by decide) rfl (by simp) fun i p q hp hq => ?_
  rw [List.getElem?_map] at hp hq
  cases hi : l[i]? with
  | none => rw [hi] at hp; cases hp
  | some z =>
    rw [hi] at hp hq
    cases hp; cases hq
    have := h z (List.mem_of_getElem? hi)
    exact ⟨Nat.mul_pos (low_pos this.1) (low_pos this.2), Nat.mul_pos this.1 this.2, low_prod⟩
theorem frSum_zero (l : List (Nat × Nat)) : frSum ((0, 1) :: l) = frSum l := rfl
theorem bd_l_weighed {K : PySem.W.Frag} : ∀ ds P0, S_l_weighed ds P0 → Wp (t_l_weighed K) (retD P0) (DL.envOf n_l_weighed ds) := by
  rintro ds P0 ⟨l, rfl, hl, hb, hp⟩
  have hsl := sizeLine_eq
  have hlow : ∀ q ∈ l, (low q.1).1 < 2 ^ 60 ∧ (low q.1).2 < 2 ^ 60 ∧ (low q.2).1 < 2 ^ 80 ∧ (low q.2).2 < 2 ^ 80 := fun q hq => by
    obtain ⟨a1, a2, a3, a4, a5, a6⟩ := hb q hq
    exact ⟨Nat.lt_of_le_of_lt (low_le1 _) a2, Nat.lt_of_le_of_lt (low_le2 _) a3, Nat.lt_of_le_of_lt (low_le1 _) a5, Nat.lt_of_le_of_lt (low_le2 _) a6⟩
  unfold t_l_weighed
  refine wp_ret (ev_call (evs_cons (ev_cat (ev_lst (evs_cons (ev_tup (evs_cons (ev_int (evs_cons (ev_int (evs_nil ⟨szn _ (by simp), evs_nil ⟨szn _ (by simp), ?_⟩⟩)))))))))))
  refine ev_lcP (js := [2, 3]) (by simp) fWe (iv_zip (evs_cons (ev_var (by rfl) (evs_cons (ev_var (by rfl) (evs_nil ⟨_, _, rfl, ?_⟩))))))
  refine ⟨by rw [zipD_len]; simp; omega, fun i y hy => ?_, ?_⟩
  · obtain ⟨d, e, hd, he, rfl⟩ := zipD_get hy
    rw [List.getElem?_map] at hd he
    cases hi : l[i]? with
    | none => rw [hi] at hd; cases hd
    | some z =>
      rw [hi] at hd he
      cases hd; cases he
      obtain ⟨b1, b2, b3, b4⟩ := hlow z (List.mem_of_getElem? hi)
      refine gd_tup (by rfl) (gds_cons (gd_name (gds_cons (gd_name (gds_nil ?_)))))
      refine et_yes (ev_tup (evs_cons (ev_mul (ev_ix (ev_var (by rfl) (ev_int ⟨_, _, _, .inr rfl, rfl, by rfl, ?_⟩))))))
      refine ev_ix (ev_var (by rfl) (ev_int ⟨_, _, _, .inr rfl, rfl, by rfl, _, _, rfl, rfl, wide_mul (a := 60) (b := 80) (nat_abs_lt b1) (nat_abs_lt b3) (by decide) (by decide) (by decide), ?_⟩))
      refine evs_cons (ev_mul (ev_ix (ev_var (by rfl) (ev_int ⟨_, _, _, .inr rfl, rfl, by rfl, ?_⟩))))
      refine ev_ix (ev_var (by rfl) (ev_int ⟨_, _, _, .inr rfl, rfl, by rfl, _, _, rfl, rfl, wide_mul (a := 60) (b := 80) (nat_abs_lt b2) (nat_abs_lt b4) (by decide) (by decide) (by decide), ?_⟩))
      refine evs_nil ⟨szn _ (by simp), ?_, rfl⟩
      unfold lowD
      rw [fWe_fr]
      unfold frD
      push_cast; rfl
  · rw [fm_we]
    refine ⟨[frD (0, 1)], _, rfl, rfl, by simp; omega, evs_nil ⟨(0, 1) :: l.map fun q => ((low q.1).1 * (low q.2).1, (low q.1).2 * (low q.2).2), rfl, by simp; omega, fun p hpm => ?_, ?_⟩⟩
    · rcases List.mem_cons.mp hpm with rfl | hpm
      · decide
      · obtain ⟨q, hq, rfl⟩ := List.mem_map.mp hpm
        obtain ⟨b1, b2, b3, b4⟩ := hlow q hq
        obtain ⟨a1, a2, a3, a4, a5, a6⟩ := hb q hq
        refine ⟨Nat.mul_pos (low_pos a1) (low_pos a4), ?_, ?_⟩
        · exact Nat.lt_of_lt_of_le (Nat.mul_lt_mul'' b1 b3) (by decide)
        · exact Nat.lt_of_lt_of_le (Nat.mul_lt_mul'' b2 b4) (by decide)
    · rw [frSum_zero]
      unfold lowD at hp ⊢
      rw [frSum_lows l fun q hq => ⟨(hb q hq).1, (hb q hq).2.2.2.1⟩]
      exact hp
end PN
end

section
set_option Elab.async false
set_option linter.all false
set_option autoImplicit false
set_option maxRecDepth 100000
set_option maxHeartbeats 4000000
namespace PN
open PySem PySem.Spec PyProof.Rows L2 DL
local macro_rules | `(tactic| walk_at "ev1") => `(tactic| first
  | with_reducible refine wp_seq ?_ | with_reducible refine wp_ret ?_ | with_reducible refine wp_next ?_ | with_reducible refine wp_if ?_
  | with_reducible refine wp_asg ?_ | with_reducible refine wp_drop ?_
  | with_reducible refine ev_int ?_ | with_reducible refine ev_bl ?_ | with_reducible refine ev_non ?_
  | with_reducible refine ev_add ?_ | with_reducible refine ev_sub ?_ | with_reducible refine ev_mul ?_ | with_reducible refine ev_fdiv ?_ | with_reducible refine ev_mod ?_ | with_reducible refine ev_pow ?_ | with_reducible refine ev_neg ?_
  | with_reducible refine ev_lt ?_ | with_reducible refine ev_le ?_ | with_reducible refine ev_gt ?_ | with_reducible refine ev_ge ?_
  | with_reducible refine ev_eq ?_ | with_reducible refine ev_ne ?_ | with_reducible refine ev_in ?_ | with_reducible refine ev_notin ?_ | with_reducible refine ev_notN ?_
  | with_reducible refine ev_tup ?_ | with_reducible refine ev_lst ?_ | ((with_reducible refine ev_ixO (p := ?p0) (ds0 := ?d0) ?hi ?_); (case hi => rfl)) | with_reducible refine ev_ix ?_ | with_reducible refine ev_cat ?_ | with_reducible refine ev_rep ?_
  | with_reducible refine ev_lele ?_ | with_reducible refine ev_lelt ?_ | with_reducible refine ev_eqeq ?_
  | with_reducible refine ev_andV ?_ | with_reducible refine ev_orV ?_ | with_reducible refine ev_notV ?_ | with_reducible refine ev_if ?_
  | with_reducible refine ev_len ?_ | with_reducible refine ev_sum ?_ | with_reducible refine ev_all ?_ | with_reducible refine ev_sorted ?_ | with_reducible refine ev_max ?_ | with_reducible refine ev_min ?_ | with_reducible refine ev_abs ?_ | with_reducible refine ev_toInt ?_
  | with_reducible refine ev_isi ?_ | with_reducible refine ev_count ?_ | with_reducible refine ev_call ?_ | with_reducible refine ev_slice ?_
  | with_reducible refine evs_nil ?_ | with_reducible refine evs_cons ?_ | with_reducible refine evs_star ?_
  | with_reducible refine et_test ?_ | with_reducible refine et_B ?_ | with_reducible refine et_not ?_ | with_reducible refine et_and ?_ | with_reducible refine et_or ?_ | with_reducible refine et_yes ?_
  | with_reducible refine eo_none ?_ | with_reducible refine eo_some ?_
  | with_reducible refine iteT ?_ | with_reducible refine iteF ?_ | with_reducible refine ifNt ?_ | with_reducible refine ifNf ?_
  | refine ⟨true, isi_int_int _, ?_⟩ | refine ⟨false, isi_int_bool _, ?_⟩ | refine ⟨true, isi_list _, ?_⟩
  | (refine ev_var (by rfl) ?_)
  | refine ⟨_, _, _, rfl, rfl, by rfl, ?_⟩ | refine ⟨_, Or.inl rfl, ?_⟩ | refine ⟨_, Or.inr ⟨_, rfl, rfl⟩, ?_⟩ | refine ⟨_, _, _, Or.inr rfl, rfl, by rfl, ?_⟩ | refine ⟨_, _, _, Or.inl rfl, rfl, plI_at (by assumption), ?_⟩
  | refine ⟨_, rfl, ?_⟩ | refine ⟨_, _, rfl, rfl, ?_⟩ | refine ⟨_, _, rfl, ?_⟩
  | refine And.intro (by first | assumption | omega | (refine szn _ ?_; (first | (simp; done) | (simp; omega)))) ?_)
local macro_rules | `(tactic| walk_at "ev") => `(tactic| repeat (walk_at "ev1"; try dsimp only))
/-! a dict of lists of parts -/
structure DOk (M : Nat) (ds : List (Int × PyData)) (g : Nat → List (Nat × Nat)) : Prop where
  nd : (ds.map (·.1)).Nodup
  ks : ∀ k ∈ ds.map (·.1), ∃ m, m < M ∧ k = (m : Int)
  get : ∀ m : Nat, dGet ds (m : Int) = if g m = [] then none else some (.list ((g m).map frD))
theorem dGet_none {ds : List (Int × PyData)} {k : Int} : dGet ds k = none ↔ k ∉ ds.map (·.1) := by
  unfold dGet
  rw [Option.map_eq_none_iff, List.find?_eq_none]
  constructor
  · intro h hk
    obtain ⟨x, hx, rfl⟩ := List.mem_map.mp hk
    simpa using h x hx
  · intro h x hx hk
    exact h (List.mem_map.mpr ⟨x, hx, by simpa using hk⟩)
theorem DOk.nil (M : Nat) : DOk M [] fun _ => [] := ⟨by simp, by simp, fun m => rfl⟩
theorem DOk.congr {M : Nat} {ds : List (Int × PyData)} {g g' : Nat → List (Nat × Nat)} (h : DOk M ds g) (e : ∀ m, g m = g' m) : DOk M ds g' := by
  have : g = g' := funext e
  rw [← this]; exact h
theorem DOk.getD {M : Nat} {ds : List (Int × PyData)} {g : Nat → List (Nat × Nat)} (h : DOk M ds g) (m : Nat) : (dGet ds (m : Int)).getD (.list []) = .list ((g m).map frD) := by
  rw [h.get m]
  by_cases e : g m = []
  · rw [if_pos e, e]; rfl
  · rw [if_neg e]; rfl
theorem DOk.put {M : Nat} {ds : List (Int × PyData)} {g : Nat → List (Nat × Nat)} (h : DOk M ds g) {m : Nat} (hm : m < M) (p : Nat × Nat) :
    DOk M (dPut ds (m : Int) (.list ((g m ++ [p]).map frD))) fun j => if j = m then g m ++ [p] else g j := by
  refine ⟨?_, ?_, fun j => ?_⟩
  · rw [dPut_keys]
    by_cases hk : (m : Int) ∈ ds.map (·.1)
    · rw [if_pos hk]; exact h.nd
    · rw [if_neg hk]
      refine List.nodup_append.mpr ⟨h.nd, by simp, fun a ha b hb => ?_⟩
      have : b = (m : Int) := by simpa using hb
      subst this
      exact fun e => hk (e ▸ ha)
  · rw [dPut_keys]
    intro k hk
    by_cases hq : (m : Int) ∈ ds.map (·.1)
    · rw [if_pos hq] at hk; exact h.ks k hk
    · rw [if_neg hq] at hk
      rcases List.mem_append.mp hk with hk | hk
      · exact h.ks k hk
      · exact ⟨m, hm, by simpa using hk⟩
  · rw [dGet_put]
    by_cases e : j = m
    · subst e; simp
    · have : ¬ (j : Int) = (m : Int) := by omega
      rw [if_neg this, if_neg e]
      exact h.get j
theorem DOk.len {M : Nat} {ds : List (Int × PyData)} {g : Nat → List (Nat × Nat)} (h : DOk M ds g) : ds.length ≤ M := by
  have hsub : ds.map (·.1) ⊆ grI (List.range M) := fun k hk => by
    obtain ⟨m, hm, rfl⟩ := h.ks k hk
    exact List.mem_map.mpr ⟨m, List.mem_range.mpr hm, rfl⟩
  have := h.nd.length_le_of_subset hsub
  rw [grI_len] at this
  simpa using this
theorem DOk.sorted {M : Nat} {ds : List (Int × PyData)} {g : Nat → List (Nat × Nat)} (h : DOk M ds g) {ys : List Int} (h1 : ys.Perm (ds.map (·.1))) (h2 : ys.Pairwise (· ≤ ·)) :
    ys = grI ((List.range M).filter fun m => decide (g m ≠ [])) := by
  have hs : (grI ((List.range M).filter fun m => decide (g m ≠ []))).Pairwise (· < ·) := by
    unfold grI
    rw [List.pairwise_map]
    refine List.Pairwise.imp (R := fun a b => a < b) (fun h => by omega) ?_
    exact List.Pairwise.filter _ List.pairwise_lt_range
  refine List.Perm.eq_of_pairwise (fun a b _ _ x y => Int.le_antisymm x y) h2 (hs.imp fun h => Int.le_of_lt h) ?_
  refine h1.trans ?_
  refine (List.perm_ext_iff_of_nodup h.nd (hs.imp fun h => Int.ne_of_lt h)).mpr fun k => ⟨fun hk => ?_, fun hk => ?_⟩
  · obtain ⟨m, hm, rfl⟩ := h.ks k hk
    refine List.mem_map.mpr ⟨m, List.mem_filter.mpr ⟨List.mem_range.mpr hm, ?_⟩, rfl⟩
    have := h.get m
    by_cases e : g m = []
    · rw [if_pos e] at this
      exact absurd hk (dGet_none.mp this)
    · simpa using e
  · obtain ⟨m, hm, rfl⟩ := List.mem_map.mp hk
    have he : g m ≠ [] := by simpa using (List.mem_filter.mp hm).2
    have := h.get m
    rw [if_neg he] at this
    rcases Classical.em ((m : Int) ∈ ds.map (·.1)) with hq | hq
    · exact hq
    · rw [dGet_none.mpr hq] at this; cases this
abbrev MX := (Nat × Nat) × (Nat → Nat × Nat)
def partM (m : Nat) (q : MX) : Nat × Nat := ((low (q.2 m)).1 * (low q.1).1, (low (q.2 m)).2 * (low q.1).2)
def prt (m : Nat) (l : List MX) : List (Nat × Nat) := (l.filter fun q => decide (0 < (q.2 m).1)).map (partM m)
theorem prt_snoc (m : Nat) (l : List MX) (q : MX) : prt m (l ++ [q]) = prt m l ++ if 0 < (q.2 m).1 then [partM m q] else [] := by
  unfold prt
  rw [List.filter_append, List.map_append]
  by_cases h : 0 < (q.2 m).1
  · rw [if_pos h]; simp [h]
  · rw [if_neg h]; simp [h]
theorem mx_fold (m : Nat) : ∀ (l : List MX) (s s' : Nat × Nat), 0 < s.2 → 0 < s'.2 → s.1 * s'.2 = s'.1 * s.2 → (∀ q ∈ l, 0 < q.1.2 ∧ 0 < (q.2 m).2) →
    low ((prt m l).foldl frAdd s) = low ((l.map fun q => (q.1.1 * (q.2 m).1, q.1.2 * (q.2 m).2)).foldl frAdd s')
  | [], s, s', h1, h2, h3, _ => low_eq h1 h2 h3
  | q :: l, s, s', h1, h2, h3, hl => by
      obtain ⟨a1, a2⟩ := hl q (by simp)
      have ih := fun t t' b1 b2 b3 => mx_fold m l t t' b1 b2 b3 fun x hx => hl x (by simp [hx])
      have h2' : 0 < s'.2 * (q.1.2 * (q.2 m).2) := Nat.mul_pos h2 (Nat.mul_pos a1 a2)
      by_cases h : 0 < (q.2 m).1
      · have e : prt m (q :: l) = partM m q :: prt m l := by unfold prt; rw [List.filter_cons, if_pos (by simpa using h)]; rfl
        rw [e, List.map_cons, List.foldl_cons, List.foldl_cons]
        have c1 := low_mul q.1
        have c2 := low_mul (q.2 m)
        refine ih _ _ (Nat.mul_pos h1 (Nat.mul_pos (low_pos a2) (low_pos a1))) h2' ?_
        show (s.1 * ((low (q.2 m)).2 * (low q.1).2) + (low (q.2 m)).1 * (low q.1).1 * s.2) * (s'.2 * (q.1.2 * (q.2 m).2)) = (s'.1 * (q.1.2 * (q.2 m).2) + q.1.1 * (q.2 m).1 * s'.2) * (s.2 * ((low (q.2 m)).2 * (low q.1).2))
        have c3 : (low (q.2 m)).1 * (low q.1).1 * (q.1.2 * (q.2 m).2) = q.1.1 * (q.2 m).1 * ((low (q.2 m)).2 * (low q.1).2) := by grind
        grind
      · have e : prt m (q :: l) = prt m l := by unfold prt; rw [List.filter_cons, if_neg (by simpa using h)]
        rw [e, List.map_cons, List.foldl_cons]
        refine ih _ _ h1 h2' ?_
        have z : (q.2 m).1 = 0 := by omega
        show s.1 * (s'.2 * (q.1.2 * (q.2 m).2)) = (s'.1 * (q.1.2 * (q.2 m).2) + q.1.1 * (q.2 m).1 * s'.2) * s.2
        rw [z]
        grind
theorem fold_pos : ∀ (l : List (Nat × Nat)) (s : Nat × Nat), 0 < s.2 → (∀ p ∈ l, 0 < p.2) → (0 < (l.foldl frAdd s).1 ↔ 0 < s.1 ∨ ∃ p ∈ l, 0 < p.1)
  | [], s, _, _ => by simp
  | p :: l, s, h, hl => by
      have hp := hl p (by simp)
      rw [List.foldl_cons, fold_pos l (frAdd s p) (Nat.mul_pos h hp) fun q hq => hl q (by simp [hq])]
      have e : 0 < (frAdd s p).1 ↔ 0 < s.1 ∨ 0 < p.1 := by
        show 0 < s.1 * p.2 + p.1 * s.2 ↔ _
        constructor
        · intro h0
          rcases Nat.eq_zero_or_pos s.1 with a | a
          · rcases Nat.eq_zero_or_pos p.1 with b | b
            · rw [a, b] at h0; simp at h0
            · exact .inr b
          · exact .inl a
        · rintro (a | a)
          · have := Nat.mul_pos a hp; omega
          · have := Nat.mul_pos a h; omega
      rw [e]
      simp only [List.mem_cons]
      constructor
      · rintro ((a | a) | ⟨q, hq, a⟩)
        · exact .inl a
        · exact .inr ⟨p, .inl rfl, a⟩
        · exact .inr ⟨q, .inr hq, a⟩
      · rintro (a | ⟨q, rfl | hq, a⟩)
        · exact .inl (.inl a)
        · exact .inl (.inr a)
        · exact .inr ⟨q, hq, a⟩
theorem prt_nil {m : Nat} {l : List MX} (h : ∀ q ∈ l, 0 < q.1.1 ∧ 0 < q.1.2 ∧ 0 < (q.2 m).2) : prt m l ≠ [] ↔ 0 < (frSum (l.map fun q => (q.1.1 * (q.2 m).1, q.1.2 * (q.2 m).2))).1 := by
  unfold frSum
  rw [fold_pos _ _ (by decide) fun p hp => by
    obtain ⟨q, hq, rfl⟩ := List.mem_map.mp hp
    exact Nat.mul_pos (h q hq).2.1 (h q hq).2.2]
  unfold prt
  constructor
  · intro hn
    rw [Ne, List.map_eq_nil_iff, List.filter_eq_nil_iff] at hn
    right
    rcases Classical.em (∃ q ∈ l, 0 < (q.2 m).1) with ⟨q, hq, h0⟩ | hx
    · exact ⟨_, List.mem_map.mpr ⟨q, hq, rfl⟩, Nat.mul_pos (h q hq).1 h0⟩
    · exact absurd (fun q hq => by simpa using fun h0 => hx ⟨q, hq, h0⟩) hn
  · rintro (a | ⟨p, hp, a⟩)
    · exact absurd a (by decide)
    · obtain ⟨q, hq, rfl⟩ := List.mem_map.mp hp
      intro e
      rw [List.map_eq_nil_iff, List.filter_eq_nil_iff] at e
      have := e q hq
      have z : (q.2 m).1 = 0 := by simpa using this
      simp [z] at a
def keysF (F : Nat → Nat × Nat) (M : Nat) : List Nat := (List.range M).filter fun m => decide (0 < (F m).1)
theorem rows_keys (F : Nat → Nat × Nat) (M : Nat) : rows F M = (keysF F M).map fun m => (m, low (F m)) := rfl
theorem keysF_nd (F : Nat → Nat × Nat) (M : Nat) : (keysF F M).Nodup := List.Pairwise.filter _ List.nodup_range
theorem keysF_mem {F : Nat → Nat × Nat} {M m : Nat} : m ∈ keysF F M ↔ m < M ∧ 0 < (F m).1 := by
  unfold keysF; rw [List.mem_filter, List.mem_range]; simp
theorem take_mem {l : List Nat} (hn : l.Nodup) {j m : Nat} (h : l[j]? = some m) (k : Nat) : k ∈ l.take (j + 1) ↔ k ∈ l.take j ∨ k = m := by
  rw [take_snoc h]; simp
theorem take_not {l : List Nat} (hn : l.Nodup) {j m : Nat} (h : l[j]? = some m) : m ∉ l.take j := by
  intro hm
  obtain ⟨i, hi, e⟩ := List.getElem_of_mem hm
  rw [List.length_take] at hi
  rw [List.getElem_take] at e
  have hj : j < l.length := by
    rcases Nat.lt_or_ge j l.length with h' | h'
    · exact h'
    · rw [List.getElem?_eq_none h'] at h; cases h
  have e2 : l[j] = m := by rw [List.getElem?_eq_getElem hj] at h; exact Option.some.inj h
  have := (List.getElem_inj hn).mp (e.trans e2.symm)
  omega
theorem bd_l_mixed {K : PySem.W.Frag} : ∀ ds P0, S_l_mixed ds P0 → Wp (t_l_mixed K) (retD P0) (DL.envOf n_l_mixed ds) := by
  rintro ds P0 ⟨l, M, rfl, hl, hM, hb, hp⟩
  have hsl := sizeLine_eq
  have hlow : ∀ q ∈ l, (low q.1).1 < 2 ^ 60 ∧ (low q.1).2 < 2 ^ 60 ∧ ∀ m, (low (q.2 m)).1 < 2 ^ 80 ∧ (low (q.2 m)).2 < 2 ^ 80 := fun q hq => by
    obtain ⟨a1, a2, a3, a4, a5⟩ := hb q hq
    exact ⟨Nat.lt_of_le_of_lt (low_le1 _) a3, Nat.lt_of_le_of_lt (low_le2 _) a4, fun m => ⟨Nat.lt_of_le_of_lt (low_le1 _) (a5 m).2.1, Nat.lt_of_le_of_lt (low_le2 _) (a5 m).2.2⟩⟩
  unfold t_l_mixed
  refine wp_seq (wp_dnew fun pd => ?_)
  refine wp_seq (wp_for (js := [3, 4]) (iv_zip (evs_cons (ev_var (by rfl) (evs_cons (ev_var (by rfl) (evs_nil ⟨_, _, rfl, ?_⟩)))))))
  refine ⟨fun i e => ∃ (kv : List (Int × PyData)) (x3 x4 x5 x6 x7 : En), DOk M kv (fun m => if m < M then prt m (l.take i) else []) ∧
    e = [.dat (.list (l.map fun q => lowD q.1)), .dat (.list (l.map fun q => rowsD (rows q.2 M))), .own pd (.dic kv), x3, x4, x5, x6, x7, .no, .no],
    ⟨[], .no, .no, .no, .no, .no, (DOk.nil M).congr fun m => by simp [prt], rfl⟩, fun i y e hy => ?_, fun e => ?_⟩
  · rintro ⟨kv, x3, x4, x5, x6, x7, hd, rfl⟩
    obtain ⟨d1, d2, h1, h2, rfl⟩ := zipD_get hy
    rw [List.getElem?_map] at h1 h2
    cases hi : l[i]? with
    | none => rw [hi] at h1; cases h1
    | some q =>
    rw [hi] at h1 h2
    cases h1; cases h2
    have hqm := List.mem_of_getElem? hi
    obtain ⟨b1, b2, b3⟩ := hlow q hqm
    refine gd_tup (by rfl) (gds_cons (gd_name (gds_cons (gd_name (gds_nil ?_)))))
    refine wp_for (js := [5, 6, 7]) (iv_list (ev_var (by rfl) ⟨(rows q.2 M).map rowD, rfl, ?_⟩))
    refine ⟨fun j e => ∃ (kv : List (Int × PyData)) (x5 x6 x7 : En), DOk M kv (fun m => if m < M then prt m (l.take i) ++ (if m ∈ (keysF q.2 M).take j then [partM m q] else []) else []) ∧
      e = [.dat (.list (l.map fun q => lowD q.1)), .dat (.list (l.map fun q => rowsD (rows q.2 M))), .own pd (.dic kv), .dat (lowD q.1), .dat (rowsD (rows q.2 M)), x5, x6, x7, .no, .no],
      ⟨kv, x5, x6, x7, hd.congr fun m => by simp, rfl⟩, fun j y e hy => ?_, fun e => ?_⟩
    · rintro ⟨kv, x5, x6, x7, hd, rfl⟩
      rw [rows_keys, List.map_map, List.getElem?_map] at hy
      cases hj : (keysF q.2 M)[j]? with
      | none => rw [hj] at hy; cases hy
      | some m =>
      rw [hj] at hy
      cases hy
      obtain ⟨hm1, hm2⟩ := keysF_mem.mp (List.mem_of_getElem? hj)
      have hnt := take_not (keysF_nd q.2 M) hj
      obtain ⟨b4, b5⟩ := b3 m
      refine gd_tup (by rfl) (gds_cons (gd_name (gds_cons (gd_name (gds_cons (gd_name (gds_nil ?_)))))))
      have hg := hd.getD m
      rw [if_pos hm1, if_neg hnt, List.append_nil] at hg
      have hput := hd.put hm1 (partM m q)
      rw [if_pos hm1, if_neg hnt, List.append_nil] at hput
      refine wp_dput (p := pd) (ev_cat (ev_dget2 (by rfl) (ev_var (by rfl) (ev_lst (evs_nil ⟨szn _ (by simp), _, rfl, by rfl, ?_⟩)))))
      rw [hg]
      refine ev_lst (evs_cons (ev_tup (evs_cons (ev_mul (ev_var (by rfl) (ev_ix (ev_var (by rfl) (ev_int ⟨_, _, _, .inr rfl, rfl, by rfl, ?_⟩))))))))
      refine ⟨_, _, rfl, rfl, wide_mul (a := 80) (b := 60) (nat_abs_lt b4) (nat_abs_lt b1) (by decide) (by decide) (by decide), ?_⟩
      refine evs_cons (ev_mul (ev_var (by rfl) (ev_ix (ev_var (by rfl) (ev_int ⟨_, _, _, .inr rfl, rfl, by rfl, ?_⟩)))))
      refine ⟨_, _, rfl, rfl, wide_mul (a := 80) (b := 60) (nat_abs_lt b5) (nat_abs_lt b2) (by decide) (by decide) (by decide), ?_⟩
      refine evs_nil ⟨szn _ (by simp), evs_nil ⟨szn _ (by simp), _, _, rfl, rfl, ?_, ?_⟩⟩
      · have : (prt m (l.take i)).length ≤ 40 := by
          unfold prt
          rw [List.length_map]
          refine Nat.le_trans (List.length_filter_le _ _) ?_
          rw [List.length_take]; omega
        simp; omega
      · refine ⟨kv, by rfl, ev_var (by rfl) ⟨kv, _, by rfl, rfl, by have := hd.len; omega, ?_⟩⟩
        have e1 : (prt m (l.take i)).map frD ++ [PyData.tuple [.int (((low (q.2 m)).1 : Int) * ((low q.1).1 : Int)), .int (((low (q.2 m)).2 : Int) * ((low q.1).2 : Int))]] = (prt m (l.take i) ++ [partM m q]).map frD := by
          rw [List.map_append]
          unfold partM
          simp only [List.map_cons, List.map_nil, frD]
          push_cast; rfl
        refine ⟨_, .dat (.int (m : Int)), .dat (.int ((low (q.2 m)).1 : Int)), .dat (.int ((low (q.2 m)).2 : Int)), hput.congr fun k => ?_, by rw [← e1]; rfl⟩
        have ht := take_mem (keysF_nd q.2 M) hj k
        by_cases hk : k = m
        · subst hk
          rw [if_pos rfl, if_pos hm1, if_pos (ht.mpr (.inr rfl))]
        · rw [if_neg hk]
          by_cases hk2 : k ∈ (keysF q.2 M).take j
          · rw [if_pos hk2, if_pos (ht.mpr (.inl hk2))]
          · rw [if_neg hk2, if_neg fun h => (ht.mp h).elim hk2 hk]
    · rintro ⟨kv, x5, x6, x7, hd, rfl⟩
      rw [rows_keys, List.length_map, List.length_map, List.take_length] at hd
      refine ⟨kv, .dat (lowD q.1), .dat (rowsD (rows q.2 M)), x5, x6, x7, hd.congr fun m => ?_, rfl⟩
      rw [take_snoc hi, prt_snoc]
      by_cases hm : m < M
      · rw [if_pos hm, if_pos hm]
        by_cases h0 : 0 < (q.2 m).1
        · rw [if_pos h0, if_pos (keysF_mem.mpr ⟨hm, h0⟩)]
        · rw [if_neg h0, if_neg fun h => h0 (keysF_mem.mp h).2]
      · rw [if_neg hm, if_neg hm]
  · rintro ⟨kv, x3, x4, x5, x6, x7, hd, rfl⟩
    have hzl : (zipD (l.map fun q => lowD q.1) (l.map fun q => rowsD (rows q.2 M))).length = l.length := by rw [zipD_len]; simp
    rw [hzl, List.take_length] at hd
    refine wp_seq (wp_asgN (en_lst (evs_nil ⟨szn _ (by simp), fun pf => ?_⟩)))
    refine wp_seq (wp_for (js := [5]) (iv_list (ev_sortedDI (by rfl) ⟨by have := hd.len; omega, fun ys h1 h2 => ⟨_, rfl, ?_⟩⟩)))
    rw [hd.sorted h1 h2]
    have hG : ∀ m, m < M → low (frSum (prt m l)) = low (frSum (l.map fun q => (q.1.1 * (q.2 m).1, q.1.2 * (q.2 m).2))) := fun m _ => by
      unfold frSum
      exact mx_fold m l _ _ (by decide) (by decide) rfl fun q hq => ⟨(hb q hq).2.1, ((hb q hq).2.2.2.2 m).1⟩
    have hT : (List.range M).filter (fun m => decide ((if m < M then prt m l else []) ≠ [])) = keysF (fun m => frSum (l.map fun q => (q.1.1 * (q.2 m).1, q.1.2 * (q.2 m).2))) M := by
      unfold keysF
      refine List.filter_congr fun m hm => ?_
      rw [if_pos (List.mem_range.mp hm)]
      exact decide_eq_decide.mpr (prt_nil fun q hq => ⟨(hb q hq).1, (hb q hq).2.1, ((hb q hq).2.2.2.2 m).1⟩)
    rw [hT]
    refine ⟨fun j e => ∃ x5 x9 : En, e = [.dat (.list (l.map fun q => lowD q.1)), .dat (.list (l.map fun q => rowsD (rows q.2 M))), .own pd (.dic kv), x3, x4, x5, x6, x7,
      .own pf (.lst (((rows (fun m => frSum (l.map fun q => (q.1.1 * (q.2 m).1, q.1.2 * (q.2 m).2))) M).take j).map rowD)), x9], ⟨x5, .no, rfl⟩, fun j y e hy => ?_, fun e => ?_⟩
    · rintro ⟨x5, x9, rfl⟩
      obtain ⟨m, hm, rfl⟩ := grI_get hy
      obtain ⟨hm1, hm2⟩ := keysF_mem.mp (List.mem_of_getElem? hm)
      have hne := (prt_nil fun q hq => ⟨(hb q hq).1, (hb q hq).2.1, ((hb q hq).2.2.2.2 m).1⟩).mpr hm2
      have hget := hd.get m
      rw [if_pos hm1, if_neg hne] at hget
      refine gd_name (wp_seq (wp_asg (ev_call (evs_cons (ev_dget (by rfl) (ev_var (by rfl) ⟨_, _, rfl, by rfl, hget, ?_⟩))))))
      refine evs_nil ⟨prt m l, rfl, ?_, fun p hpm => ?_, ?_⟩
      · unfold prt
        rw [List.length_map]
        exact Nat.le_trans (List.length_filter_le _ _) hl
      · unfold prt at hpm
        obtain ⟨q, hq, rfl⟩ := List.mem_map.mp hpm
        have hq := (List.mem_filter.mp hq).1
        obtain ⟨b1, b2, b3⟩ := hlow q hq
        obtain ⟨a1, a2, a3, a4, a5⟩ := hb q hq
        refine ⟨Nat.mul_pos (low_pos (a5 m).1) (low_pos a2), ?_, ?_⟩
        · exact Nat.lt_of_lt_of_le (Nat.mul_lt_mul'' (b3 m).1 b1) (by decide)
        · exact Nat.lt_of_lt_of_le (Nat.mul_lt_mul'' (b3 m).2 b2) (by decide)
      · refine wp_append (by rfl) (ev_tup (evs_cons (ev_var (by rfl) (evs_cons (ev_ix (ev_var (by rfl) (ev_int ⟨_, _, _, .inr rfl, rfl, by rfl, ?_⟩)))))))
        refine evs_cons (ev_ix (ev_var (by rfl) (ev_int ⟨_, _, _, .inr rfl, rfl, by rfl, ?_⟩)))
        refine evs_nil ⟨szn _ (by simp), _, by rfl, ?_, ?_⟩
        · rw [List.length_map, List.length_take]
          have : (rows (fun m => frSum (l.map fun q => (q.1.1 * (q.2 m).1, q.1.2 * (q.2 m).2))) M).length ≤ M := by
            rw [rows_keys, List.length_map]
            unfold keysF
            refine Nat.le_trans (List.length_filter_le _ _) ?_
            simp
          omega
        · refine ⟨.dat (.int (m : Int)), .dat (lowD (frSum (prt m l))), ?_⟩
          have ht : (rows (fun m => frSum (l.map fun q => (q.1.1 * (q.2 m).1, q.1.2 * (q.2 m).2))) M)[j]? = some (m, low (frSum (l.map fun q => (q.1.1 * (q.2 m).1, q.1.2 * (q.2 m).2)))) := by
            rw [rows_keys, List.getElem?_map, hm]; rfl
          rw [take_snoc ht, List.map_append, ← hG m hm1]
          rfl
    · rintro ⟨x5, x9, rfl⟩
      have e1 : ((grI (keysF (fun m => frSum (l.map fun q => (q.1.1 * (q.2 m).1, q.1.2 * (q.2 m).2))) M)).map PyData.int).length = (rows (fun m => frSum (l.map fun q => (q.1.1 * (q.2 m).1, q.1.2 * (q.2 m).2))) M).length := by
        rw [grI_mlen, rows_keys, List.length_map]
      rw [e1, List.take_length]
      refine wp_ret (ev_freeze (i := 8) (by rfl) (ev_var (by rfl) ?_))
      exact hp
end PN
end

section
set_option Elab.async false
set_option linter.all false
set_option autoImplicit false
set_option maxRecDepth 100000
set_option maxHeartbeats 4000000
namespace PN
open PySem PySem.Spec PyProof.Rows L2 DL
local macro_rules | `(tactic| walk_at "ev1") => `(tactic| first
  | with_reducible refine wp_seq ?_ | with_reducible refine wp_ret ?_ | with_reducible refine wp_next ?_ | with_reducible refine wp_if ?_
  | with_reducible refine wp_asg ?_ | with_reducible refine wp_drop ?_
  | with_reducible refine ev_int ?_ | with_reducible refine ev_bl ?_ | with_reducible refine ev_non ?_
  | with_reducible refine ev_add ?_ | with_reducible refine ev_sub ?_ | with_reducible refine ev_mul ?_ | with_reducible refine ev_fdiv ?_ | with_reducible refine ev_mod ?_ | with_reducible refine ev_pow ?_ | with_reducible refine ev_neg ?_
  | with_reducible refine ev_lt ?_ | with_reducible refine ev_le ?_ | with_reducible refine ev_gt ?_ | with_reducible refine ev_ge ?_
  | with_reducible refine ev_eq ?_ | with_reducible refine ev_ne ?_ | with_reducible refine ev_in ?_ | with_reducible refine ev_notin ?_ | with_reducible refine ev_notN ?_
  | with_reducible refine ev_tup ?_ | with_reducible refine ev_lst ?_ | ((with_reducible refine ev_ixO (p := ?p0) (ds0 := ?d0) ?hi ?_); (case hi => rfl)) | with_reducible refine ev_ix ?_ | with_reducible refine ev_cat ?_ | with_reducible refine ev_rep ?_
  | with_reducible refine ev_lele ?_ | with_reducible refine ev_lelt ?_ | with_reducible refine ev_eqeq ?_
  | with_reducible refine ev_andV ?_ | with_reducible refine ev_orV ?_ | with_reducible refine ev_notV ?_ | with_reducible refine ev_if ?_
  | with_reducible refine ev_len ?_ | with_reducible refine ev_sum ?_ | with_reducible refine ev_all ?_ | with_reducible refine ev_sorted ?_ | with_reducible refine ev_max ?_ | with_reducible refine ev_min ?_ | with_reducible refine ev_abs ?_ | with_reducible refine ev_toInt ?_
  | with_reducible refine ev_isi ?_ | with_reducible refine ev_count ?_ | with_reducible refine ev_call ?_ | with_reducible refine ev_slice ?_
  | with_reducible refine evs_nil ?_ | with_reducible refine evs_cons ?_ | with_reducible refine evs_star ?_
  | with_reducible refine et_test ?_ | with_reducible refine et_B ?_ | with_reducible refine et_not ?_ | with_reducible refine et_and ?_ | with_reducible refine et_or ?_ | with_reducible refine et_yes ?_
  | with_reducible refine eo_none ?_ | with_reducible refine eo_some ?_
  | with_reducible refine iteT ?_ | with_reducible refine iteF ?_ | with_reducible refine ifNt ?_ | with_reducible refine ifNf ?_
  | refine ⟨true, isi_int_int _, ?_⟩ | refine ⟨false, isi_int_bool _, ?_⟩ | refine ⟨true, isi_list _, ?_⟩
  | (refine ev_var (by rfl) ?_)
  | refine ⟨_, _, _, rfl, rfl, by rfl, ?_⟩ | refine ⟨_, Or.inl rfl, ?_⟩ | refine ⟨_, Or.inr ⟨_, rfl, rfl⟩, ?_⟩ | refine ⟨_, _, _, Or.inr rfl, rfl, by rfl, ?_⟩ | refine ⟨_, _, _, Or.inl rfl, rfl, plI_at (by assumption), ?_⟩
  | refine ⟨_, rfl, ?_⟩ | refine ⟨_, _, rfl, rfl, ?_⟩ | refine ⟨_, _, rfl, ?_⟩
  | refine And.intro (by first | assumption | omega | (refine szn _ ?_; (first | (simp; done) | (simp; omega)))) ?_)
local macro_rules | `(tactic| walk_at "ev") => `(tactic| repeat (walk_at "ev1"; try dsimp only))
/-! plain facts about deals, an end taken away -/
theorem at_none {l : List Nat} {i : Nat} (h : l.length ≤ i) : at' l i = 0 := by
  unfold at'; rw [List.getD_eq_getElem?_getD, List.getElem?_eq_none h]; rfl
theorem at_of {l : List Nat} {i x : Nat} (h : l[i]? = some x) : at' l i = x := by
  unfold at'; rw [List.getD_eq_getElem?_getD, h]; rfl
theorem eq_at (l : List Nat) : l = (List.range l.length).map (at' l) := by
  apply List.ext_getElem?
  intro i
  rw [List.getElem?_map]
  rcases Nat.lt_or_ge i l.length with h | h
  · rw [List.getElem?_range h, List.getElem?_eq_getElem h]
    show _ = some (at' l i)
    rw [at_of (List.getElem?_eq_getElem h)]
  · rw [List.getElem?_eq_none h, List.getElem?_eq_none (by simpa using h)]; rfl
theorem sum_erase : ∀ (l : List Nat) (j : Nat), (l.eraseIdx j).sum + at' l j = l.sum
  | [], j => by simp [at']
  | x :: l, 0 => by simp [at']; omega
  | x :: l, j + 1 => by
      have := sum_erase l j
      simp [at'] at this ⊢
      omega
theorem at_erase (l : List Nat) (e u : Nat) (h : u ≠ e) : at' (l.eraseIdx e) (nm e u) = at' l u := by
  unfold at' nm
  rw [List.getD_eq_getElem?_getD, List.getD_eq_getElem?_getD, List.getElem?_eraseIdx]
  by_cases h1 : e < u
  · rw [if_pos h1, if_neg (by omega)]
    have : u - 1 + 1 = u := by omega
    rw [this]
  · rw [if_neg h1, if_pos (by omega)]
section
variable {xs : List Nat} {e : Nat}
theorem drop_len (he : e < xs.length) (v : Nat) : (dropE xs e v).length + 1 = xs.length := by
  unfold dropE
  rw [List.length_eraseIdx_of_lt (by rw [List.length_set]; exact he), List.length_set]; omega
theorem drop_at {u v : Nat} (hv : v < xs.length) (hu : u ≠ e) : at' (dropE xs e v) (nm e u) = if u = v then at' xs u - 1 else at' xs u := by
  unfold dropE
  rw [at_erase _ _ _ hu]
  by_cases h : u = v
  · subst h; rw [if_pos rfl, at_set_eq hv]
  · rw [if_neg h, at_set_ne h]
theorem drop_sum (h : at' xs e = 0) {v : Nat} (hv : v < xs.length) (h0 : 0 < at' xs v) : (dropE xs e v).sum + 1 = xs.sum := by
  have hne : e ≠ v := fun z => by subst z; omega
  have a1 := sum_erase (xs.set v (at' xs v - 1)) e
  rw [at_set_ne hne, h] at a1
  have a2 := sum_set xs v (at' xs v - 1) hv
  unfold dropE
  omega
theorem host_mem {v : Nat} : v ∈ hosts xs ↔ v < xs.length ∧ 0 < at' xs v := by
  unfold hosts; rw [List.mem_filter, List.mem_range]; simp
theorem drop_good (hE : Endy xs e) {v : Nat} (hv : v ∈ hosts xs) : Good (dropE xs e v) := by
  obtain ⟨h1, h2⟩ := host_mem.mp hv
  have a1 := drop_len hE.lt v
  have a2 := drop_sum hE.zero h1 h2
  have a3 := hE.good.sum
  have a4 := hE.most
  exact ⟨by omega, by omega⟩
theorem nm_lt {u n : Nat} (he : e < n) (hu : u < n) (h : u ≠ e) : nm e u + 1 < n := by unfold nm; split <;> omega
theorem nm_inj {u w : Nat} (hu : u ≠ e) (hw : w ≠ e) (h : nm e u = nm e w) : u = w := by
  unfold nm at h
  split at h <;> split at h <;> omega
theorem nm_mono {u w : Nat} (hu : u ≠ e) (hw : w ≠ e) (h : u < w) : nm e u < nm e w := by
  unfold nm
  split <;> split <;> omega
theorem nm_surj {n i : Nat} (he : e < n) (hi : i + 1 < n) : ∃ u, u < n ∧ u ≠ e ∧ nm e u = i := by
  by_cases h : i < e
  · exact ⟨i, by omega, by omega, by unfold nm; rw [if_neg (by omega)]⟩
  · exact ⟨i + 1, by omega, by omega, by unfold nm; rw [if_pos (by omega)]; omega⟩
theorem grp_nm {g : List Nat} (he : e < xs.length) (hg : Grp xs.length g) (h : e ∉ g) (v : Nat) : Grp (dropE xs e v).length (g.map (nm e)) := by
  have hl := drop_len he v
  refine ⟨?_, fun w hw => ?_⟩
  · rw [List.pairwise_map]
    refine List.Pairwise.imp_of_mem (fun {a b} ha hb hab => ?_) hg.asc
    exact nm_mono (fun z => h (z ▸ ha)) (fun z => h (z ▸ hb)) hab
  · obtain ⟨u, hu, rfl⟩ := List.mem_map.mp hw
    have := nm_lt he (hg.lt u hu) (fun z => h (z ▸ hu))
    omega
end
theorem map_dec_out {x : Nat → Nat} {v : Nat} {l : List Nat} (h : v ∉ l) : (l.map fun u => if u = v then x u - 1 else x u) = l.map x :=
  List.map_congr_left fun u hu => if_neg (show ¬ u = v from fun z => h (z ▸ hu))
theorem sum_dec {x : Nat → Nat} {v : Nat} (h0 : 0 < x v) : ∀ {l : List Nat}, l.Nodup → v ∈ l → (l.map fun u => if u = v then x u - 1 else x u).sum + 1 = (l.map x).sum
  | [], _, h => by simp at h
  | a :: l, hn, h => by
      rw [List.nodup_cons] at hn
      rw [List.map_cons, List.map_cons, List.sum_cons, List.sum_cons]
      rcases List.mem_cons.mp h with rfl | h
      · rw [if_pos rfl, map_dec_out hn.1]; omega
      · rw [if_neg (show ¬ a = v from fun z => hn.1 (z ▸ h))]
        have := sum_dec h0 hn.2 h
        omega
theorem sumG_nm {xs : List Nat} {e : Nat} {g : List Nat} (hg : Grp xs.length g) (h : e ∉ g) {v : Nat} (hv : v ∈ hosts xs) :
    sumG (dropE xs e v) (g.map (nm e)) + (if v ∈ g then 1 else 0) = sumG xs g := by
  obtain ⟨h1, h2⟩ := host_mem.mp hv
  unfold sumG
  rw [List.map_map]
  have e1 : g.map (at' (dropE xs e v) ∘ nm e) = g.map fun u => if u = v then at' xs u - 1 else at' xs u :=
    List.map_congr_left fun u hu => drop_at h1 fun z => h (z ▸ hu)
  rw [e1]
  by_cases hm : v ∈ g
  · rw [if_pos hm]
    exact sum_dec h2 (grp_nd hg) hm
  · rw [if_neg hm, map_dec_out hm]; rfl
/-- sums over the hosts -/
theorem sum_filter0 {p : Nat → Bool} {f : Nat → Nat} : ∀ (l : List Nat), (∀ v ∈ l, p v = false → f v = 0) → ((l.filter p).map f).sum = (l.map f).sum
  | [], _ => rfl
  | a :: l, h => by
      have ih := sum_filter0 (p := p) (f := f) l fun v hv => h v (by simp [hv])
      rw [List.filter_cons, List.map_cons, List.sum_cons]
      by_cases hp : p a = true
      · rw [if_pos hp, List.map_cons, List.sum_cons, ih]
      · rw [if_neg hp, ih, h a (by simp) (by simpa using hp)]; omega
theorem host_sum (xs : List Nat) (f : Nat → Nat) (h : ∀ v, at' xs v = 0 → f v = 0) : ((hosts xs).map f).sum = ((List.range xs.length).map f).sum := by
  unfold hosts
  exact sum_filter0 _ fun v _ hv => h v (by simpa using hv)
theorem sum_at (xs : List Nat) : ((List.range xs.length).map (at' xs)).sum = xs.sum := by rw [← eq_at]
theorem perm_sum {l l' : List Nat} (h : l.Perm l') (f : Nat → Nat) : (l.map f).sum = (l'.map f).sum := by
  induction h with
  | nil => rfl
  | cons a _ ih => simp [ih]
  | swap a b l => simp only [List.map_cons, List.sum_cons]; omega
  | trans _ _ i1 i2 => exact i1.trans i2
theorem sum_in {xs g : List Nat} (hg : Grp xs.length g) : ((List.range xs.length).map fun v => if v ∈ g then at' xs v else 0).sum = sumG xs g := by
  have e1 : ((List.range xs.length).map fun v => if v ∈ g then at' xs v else 0).sum = (((List.range xs.length).filter fun v => decide (v ∈ g)).map fun v => if v ∈ g then at' xs v else 0).sum :=
    (sum_filter0 _ fun v _ hv => by rw [if_neg (by simpa using hv)]).symm
  rw [e1]
  have hp : ((List.range xs.length).filter fun v => decide (v ∈ g)).Perm g := by
    refine (List.perm_ext_iff_of_nodup (List.Pairwise.filter _ List.nodup_range) (grp_nd hg)).mpr fun v => ?_
    rw [List.mem_filter, List.mem_range]
    exact ⟨fun h => by simpa using h.2, fun h => ⟨hg.lt v h, by simpa using h⟩⟩
  rw [perm_sum hp]
  unfold sumG
  congr 1
  exact List.map_congr_left fun v hv => if_pos hv
theorem sum_mul (f : Nat → Nat) (a : Nat) (l : List Nat) : (l.map fun v => f v * a).sum = (l.map f).sum * a := by
  induction l with
  | nil => simp
  | cons b l ih => simp only [List.map_cons, List.sum_cons, ih, Nat.add_mul]
theorem sum_split {xs g : List Nat} (hg : Grp xs.length g) (a b : Nat) :
    ((hosts xs).map fun v => at' xs v * if v ∈ g then a else b).sum = sumG xs g * a + (xs.sum - sumG xs g) * b := by
  rw [host_sum xs _ fun v hv => by rw [hv]; simp]
  have h1 := sum_in hg
  have h2 : ((List.range xs.length).map fun v => if v ∈ g then 0 else at' xs v).sum = xs.sum - sumG xs g := by
    have := sum_add (fun v => if v ∈ g then at' xs v else 0) (fun v => if v ∈ g then 0 else at' xs v) (List.range xs.length)
    have e : ((List.range xs.length).map fun v => (if v ∈ g then at' xs v else 0) + if v ∈ g then 0 else at' xs v) = (List.range xs.length).map (at' xs) := List.map_congr_left fun v _ => by split <;> omega
    rw [e, sum_at, h1] at this
    omega
  rw [← h2, ← h1, ← sum_mul, ← sum_mul, ← sum_add]
  congr 1
  exact List.map_congr_left fun v _ => by split <;> simp
/-- sums of fractions over one bottom -/
theorem fold_common (D : Nat) (c : Nat → Nat) (p : Nat → Nat × Nat) : ∀ (vs : List Nat) (s : Nat × Nat) (C : Nat), s.1 * D = C * s.2 → (∀ v ∈ vs, (p v).1 * D = c v * (p v).2) →
    ((vs.map p).foldl frAdd s).1 * D = (C + (vs.map c).sum) * ((vs.map p).foldl frAdd s).2
  | [], s, C, h, _ => by simpa using h
  | v :: vs, s, C, h, hv => by
      have h1 := hv v (by simp)
      have := fold_common D c p vs (frAdd s (p v)) (C + c v) (by
        show (s.1 * (p v).2 + (p v).1 * s.2) * D = (C + c v) * (s.2 * (p v).2)
        grind) fun w hw => hv w (by simp [hw])
      rw [List.map_cons, List.foldl_cons, List.map_cons, List.sum_cons, this, Nat.add_assoc]
theorem frSum_common {D : Nat} (c : Nat → Nat) {p : Nat → Nat × Nat} {vs : List Nat} (h : ∀ v ∈ vs, (p v).1 * D = c v * (p v).2) :
    (frSum (vs.map p)).1 * D = (vs.map c).sum * (frSum (vs.map p)).2 := by
  have := fold_common D c p vs (0, 1) 0 (by simp) h
  rw [Nat.zero_add] at this
  exact this
theorem frSum_pos' {p : Nat → Nat × Nat} {vs : List Nat} (h : ∀ v ∈ vs, 0 < (p v).2) : 0 < (frSum (vs.map p)).2 :=
  frSum_pos _ _ (by decide) fun q hq => by
    obtain ⟨v, hv, rfl⟩ := List.mem_map.mp hq
    exact h v hv
theorem rows_congr {F G : Nat → Nat × Nat} {M : Nat} (h : ∀ m, m < M → 0 < (F m).2 ∧ 0 < (G m).2 ∧ (F m).1 * (G m).2 = (G m).1 * (F m).2) : rows F M = rows G M := by
  unfold rows
  have e1 : ((List.range M).filter fun m => decide (0 < (F m).1)) = (List.range M).filter fun m => decide (0 < (G m).1) := by
    refine List.filter_congr fun m hm => ?_
    obtain ⟨h1, h2, h3⟩ := h m (List.mem_range.mp hm)
    refine decide_eq_decide.mpr ⟨fun a => ?_, fun a => ?_⟩
    · have := Nat.mul_pos a h2
      rw [h3] at this
      exact Nat.pos_of_mul_pos_right this
    · have := Nat.mul_pos a h1
      rw [← h3] at this
      exact Nat.pos_of_mul_pos_right this
  rw [e1]
  refine List.map_congr_left fun m hm => ?_
  obtain ⟨h1, h2, h3⟩ := h m (List.mem_range.mp (List.mem_filter.mp hm).1)
  rw [low_eq h1 h2 h3]
theorem rows_more {F : Nat → Nat × Nat} {M N : Nat} (hMN : M ≤ N) (h : ∀ m, M ≤ m → m < N → (F m).1 = 0) : rows F N = rows F M := by
  obtain ⟨k, rfl⟩ := Nat.exists_eq_add_of_le hMN
  unfold rows
  congr 1
  rw [List.range_add, List.filter_append]
  have : ((List.range k).map (M + ·)).filter (fun m => decide (0 < (F m).1)) = [] := by
    rw [List.filter_eq_nil_iff]
    intro m hm
    obtain ⟨i, hi, rfl⟩ := List.mem_map.mp hm
    have := h (M + i) (by omega) (by have := List.mem_range.mp hi; omega)
    simp [this]
  rw [this, List.append_nil]
end PN
end

section
set_option Elab.async false
set_option linter.all false
set_option autoImplicit false
set_option maxRecDepth 100000
set_option maxHeartbeats 4000000
namespace PN
open PySem PySem.Spec PyProof.Rows L2 DL
local macro_rules | `(tactic| walk_at "ev1") => `(tactic| first
  | with_reducible refine wp_seq ?_ | with_reducible refine wp_ret ?_ | with_reducible refine wp_next ?_ | with_reducible refine wp_if ?_
  | with_reducible refine wp_asg ?_ | with_reducible refine wp_drop ?_
  | with_reducible refine ev_int ?_ | with_reducible refine ev_bl ?_ | with_reducible refine ev_non ?_
  | with_reducible refine ev_add ?_ | with_reducible refine ev_sub ?_ | with_reducible refine ev_mul ?_ | with_reducible refine ev_fdiv ?_ | with_reducible refine ev_mod ?_ | with_reducible refine ev_pow ?_ | with_reducible refine ev_neg ?_
  | with_reducible refine ev_lt ?_ | with_reducible refine ev_le ?_ | with_reducible refine ev_gt ?_ | with_reducible refine ev_ge ?_
  | with_reducible refine ev_eq ?_ | with_reducible refine ev_ne ?_ | with_reducible refine ev_in ?_ | with_reducible refine ev_notin ?_ | with_reducible refine ev_notN ?_
  | with_reducible refine ev_tup ?_ | with_reducible refine ev_lst ?_ | ((with_reducible refine ev_ixO (p := ?p0) (ds0 := ?d0) ?hi ?_); (case hi => rfl)) | with_reducible refine ev_ix ?_ | with_reducible refine ev_cat ?_ | with_reducible refine ev_rep ?_
  | with_reducible refine ev_lele ?_ | with_reducible refine ev_lelt ?_ | with_reducible refine ev_eqeq ?_
  | with_reducible refine ev_andV ?_ | with_reducible refine ev_orV ?_ | with_reducible refine ev_notV ?_ | with_reducible refine ev_if ?_
  | with_reducible refine ev_len ?_ | with_reducible refine ev_sum ?_ | with_reducible refine ev_all ?_ | with_reducible refine ev_sorted ?_ | with_reducible refine ev_max ?_ | with_reducible refine ev_min ?_ | with_reducible refine ev_abs ?_ | with_reducible refine ev_toInt ?_
  | with_reducible refine ev_isi ?_ | with_reducible refine ev_count ?_ | with_reducible refine ev_call ?_ | with_reducible refine ev_slice ?_
  | with_reducible refine evs_nil ?_ | with_reducible refine evs_cons ?_ | with_reducible refine evs_star ?_
  | with_reducible refine et_test ?_ | with_reducible refine et_B ?_ | with_reducible refine et_not ?_ | with_reducible refine et_and ?_ | with_reducible refine et_or ?_ | with_reducible refine et_yes ?_
  | with_reducible refine eo_none ?_ | with_reducible refine eo_some ?_
  | with_reducible refine iteT ?_ | with_reducible refine iteF ?_ | with_reducible refine ifNt ?_ | with_reducible refine ifNf ?_
  | refine ⟨true, isi_int_int _, ?_⟩ | refine ⟨false, isi_int_bool _, ?_⟩ | refine ⟨true, isi_list _, ?_⟩
  | (refine ev_var (by rfl) ?_)
  | refine ⟨_, _, _, rfl, rfl, by rfl, ?_⟩ | refine ⟨_, Or.inl rfl, ?_⟩ | refine ⟨_, Or.inr ⟨_, rfl, rfl⟩, ?_⟩ | refine ⟨_, _, _, Or.inr rfl, rfl, by rfl, ?_⟩ | refine ⟨_, _, _, Or.inl rfl, rfl, plI_at (by assumption), ?_⟩
  | refine ⟨_, rfl, ?_⟩ | refine ⟨_, _, rfl, rfl, ?_⟩ | refine ⟨_, _, rfl, ?_⟩
  | refine And.intro (by first | assumption | omega | (refine szn _ ?_; (first | (simp; done) | (simp; omega)))) ?_)
local macro_rules | `(tactic| walk_at "ev") => `(tactic| repeat (walk_at "ev1"; try dsimp only))
/-! the shares of an end taken away: nets, groups, sides, around -/
def pf : List Nat → Nat
  | [] => 1
  | x :: xs => fact x * pf xs
theorem pf_pos : ∀ xs : List Nat, 0 < pf xs
  | [] => by decide
  | x :: xs => Nat.mul_pos (fact_pos x) (pf_pos xs)
theorem fold_div : ∀ (xs : List Nat) (s : Nat), xs.foldl (fun f x => f / fact x) s = s / pf xs
  | [], s => by simp [pf]
  | x :: xs, s => by rw [List.foldl_cons, fold_div xs, Nat.div_div_eq_div_mul]; rfl
theorem pf_dvd : ∀ xs : List Nat, pf xs ∣ fact xs.sum
  | [] => ⟨1, rfl⟩
  | x :: xs => by
      rw [List.sum_cons]
      have h := Ch_fact (x + xs.sum) x (by omega)
      rw [Nat.add_sub_cancel_left] at h
      obtain ⟨k, hk⟩ := pf_dvd xs
      refine ⟨Ch (x + xs.sum) x * k, ?_⟩
      rw [← h, hk]
      show _ = fact x * pf xs * _
      grind
theorem nets_mul {xs : List Nat} (h : Good xs) : nets xs * pf xs = fact (xs.length - 2) := by
  unfold nets
  rw [fold_div]
  have := pf_dvd xs
  have e : xs.length - 2 = xs.sum := by have := h.sum; omega
  rw [e]
  exact Nat.div_mul_cancel this
theorem pf_set : ∀ (l : List Nat) (j : Nat), j < l.length → 0 < at' l j → pf (l.set j (at' l j - 1)) * at' l j = pf l
  | [], j, h, _ => by simp at h
  | x :: l, 0, h, h0 => by
      have h0 : 0 < x := h0
      obtain ⟨y, rfl⟩ : ∃ y, x = y + 1 := ⟨x - 1, by omega⟩
      show fact y * pf l * (y + 1) = (y + 1) * fact y * pf l
      grind
  | x :: l, j + 1, h, h0 => by
      have := pf_set l j (by simpa using h) h0
      show fact x * pf (l.set j (at' l j - 1)) * at' l j = fact x * pf l
      rw [Nat.mul_assoc, this]
theorem pf_erase : ∀ (l : List Nat) (j : Nat), pf (l.eraseIdx j) * fact (at' l j) = pf l
  | [], j => by simp [pf, at', fact]
  | x :: l, 0 => by show pf l * fact x = fact x * pf l; exact Nat.mul_comm _ _
  | x :: l, j + 1 => by
      have := pf_erase l j
      show fact x * pf (l.eraseIdx j) * fact (at' l j) = fact x * pf l
      rw [Nat.mul_assoc, this]
theorem pf_drop {xs : List Nat} {e v : Nat} (h : at' xs e = 0) (hv : v < xs.length) (h0 : 0 < at' xs v) : pf (dropE xs e v) * at' xs v = pf xs := by
  have hne : e ≠ v := fun z => by subst z; omega
  have a1 := pf_erase (xs.set v (at' xs v - 1)) e
  rw [at_set_ne hne, h] at a1
  have a2 := pf_set xs v hv h0
  have a3 : fact 0 = 1 := rfl
  rw [a3, Nat.mul_one] at a1
  unfold dropE
  rw [a1, a2]
theorem fact_down {n : Nat} (h : 3 ≤ n) : fact (n - 2) = (n - 2) * fact (n - 3) := by
  obtain ⟨k, rfl⟩ : ∃ k, n = k + 3 := ⟨n - 3, by omega⟩
  rfl
theorem sum_mul' (f : Nat → Nat) (a : Nat) (l : List Nat) : (l.map f).sum * a = (l.map fun v => f v * a).sum := (sum_mul f a l).symm
theorem host_total {xs : List Nat} {e : Nat} (hE : Endy xs e) : ((hosts xs).map (at' xs)).sum = xs.length - 2 := by
  rw [host_sum xs _ fun v hv => hv, sum_at]
  have := hE.good.sum
  omega
theorem nets_sum {xs : List Nat} {e : Nat} (hE : Endy xs e) : ((hosts xs).map fun v => nets (dropE xs e v)).sum = nets xs := by
  refine Nat.eq_of_mul_eq_mul_right (pf_pos xs) ?_
  rw [nets_mul hE.good, sum_mul']
  have e1 : ((hosts xs).map fun v => nets (dropE xs e v) * pf xs) = (hosts xs).map fun v => at' xs v * fact (xs.length - 3) := List.map_congr_left fun v hv => by
    obtain ⟨h1, h2⟩ := host_mem.mp hv
    rw [← pf_drop hE.zero h1 h2]
    have := nets_mul (drop_good hE hv)
    have hl := drop_len hE.lt v
    have e2 : (dropE xs e v).length - 2 = xs.length - 3 := by omega
    rw [e2] at this
    rw [← this]
    grind
  rw [e1, sum_mul, host_total hE, fact_down (by have := hE.least; omega)]
theorem ratio_of {S F : Nat × Nat} {D C k : Nat} (h : S.1 * D = C * S.2) (hD : D = F.2 * k) (hC : C = F.1 * k) (hk : 0 < k) : F.1 * S.2 = S.1 * F.2 := by
  subst hD; subst hC
  refine Nat.eq_of_mul_eq_mul_right hk ?_
  grind
theorem Ch_comp {N X : Nat} (h : X ≤ N + 1) : Ch (N + 1) X * (N + 1 - X) = (N + 1) * Ch N X := by
  rw [← Ch_step (N + 1) X h, Ch_abs]
/-- the shares of the cables of an end -/
theorem cab_end {xs : List Nat} {e : Nat} (hE : Endy xs e) {v : Nat} (hv : v ∈ hosts xs) : cabF xs e v = (at' xs v, xs.length - 2) := by
  obtain ⟨h1, h2⟩ := host_mem.mp hv
  have hz := hE.zero
  unfold cabF
  rw [if_neg fun z => by subst z; omega, hz, Nat.zero_add]
def wF (xs g : List Nat) (m : Nat) : Nat × Nat := (withT g.length (sumG xs g) xs.length m, withB g.length (sumG xs g) xs.length)
/-- shares weighed by the end's cables -/
def mixF (xs : List Nat) (e : Nat) (F : Nat → Nat × Nat) : Nat × Nat := frSum ((hosts xs).map fun v => ((cabF xs e v).1 * (F v).1, (cabF xs e v).2 * (F v).2))
theorem mix_common {xs : List Nat} {e : Nat} (hE : Endy xs e) {F : Nat → Nat × Nat} {D : Nat} (c : Nat → Nat) (h : ∀ v ∈ hosts xs, at' xs v * (F v).1 * D = c v * ((xs.length - 2) * (F v).2)) :
    (mixF xs e F).1 * D = ((hosts xs).map c).sum * (mixF xs e F).2 := frSum_common c fun v hv => by rw [cab_end hE hv]; exact h v hv
theorem mix_pos {xs : List Nat} {e : Nat} (hE : Endy xs e) {F : Nat → Nat × Nat} (h : ∀ v ∈ hosts xs, 0 < (F v).2) : 0 < (mixF xs e F).2 := frSum_pos' fun v hv => by
  rw [cab_end hE hv]
  exact Nat.mul_pos (by have := hE.least; show 0 < xs.length - 2; omega) (h v hv)
theorem wT_lt {a X n m : Nat} (h : a < n) : withT a X n m = Ch (a - 1) m * (if m ≤ X then Ch (n - a - 1) (X - m) else 0) := by
  unfold withT
  rw [if_neg (by omega)]
  congr 1
  by_cases hm : m ≤ X
  · rw [if_pos hm, if_pos hm]
    have e1 : (n : Int) - a - 1 = ((n - a - 1 : Nat) : Int) := by omega
    have e2 : (X : Int) - m = ((X - m : Nat) : Int) := by omega
    rw [e1, e2, chI_eq]
  · rw [if_neg hm, if_neg hm]
theorem wB_lt {a X n : Nat} (h : a < n) : withB a X n = Ch (n - 2) X := by
  unfold withB; rw [if_neg (by omega)]
theorem wT_pascal {a X n m : Nat} (h : a + 1 < n) (hX : 1 ≤ X) : withT a X n m = withT a (X - 1) (n - 1) m + withT a X (n - 1) m := by
  rw [wT_lt (by omega), wT_lt (by omega), wT_lt (by omega), ← Nat.mul_add]
  congr 1
  obtain ⟨q, hq⟩ : ∃ q, n - a - 1 = q + 1 := ⟨n - a - 2, by omega⟩
  have hq2 : n - 1 - a - 1 = q := by omega
  rw [hq, hq2]
  rcases Nat.lt_trichotomy m X with hm | hm | hm
  · rw [if_pos (by omega), if_pos (by omega), if_pos (by omega)]
    obtain ⟨z, hz⟩ : ∃ z, X - m = z + 1 := ⟨X - m - 1, by omega⟩
    have hz2 : X - 1 - m = z := by omega
    rw [hz, hz2]; rfl
  · subst hm
    rw [if_pos (by omega), if_neg (by omega), if_pos (by omega), Nat.sub_self, Ch_zero, Ch_zero]
  · rw [if_neg (by omega), if_neg (by omega), if_neg (by omega)]
theorem wT_none {a n m : Nat} (h : a + 1 < n) : withT a 0 n m = withT a 0 (n - 1) m := by
  rw [wT_lt (by omega), wT_lt (by omega)]
  congr 1
  by_cases hm : m ≤ 0
  · have : m = 0 := by omega
    subst this
    rw [if_pos hm, if_pos hm, Ch_zero, Ch_zero]
  · rw [if_neg hm, if_neg hm]
theorem wT_full {a n m : Nat} (ha : 1 ≤ a) (h : a + 1 < n) : withT a (n - 2) (n - 1) m = 0 := by
  rw [wT_lt (by omega)]
  rcases Nat.lt_or_ge (a - 1) m with hm | hm
  · rw [Ch_gt hm, Nat.zero_mul]
  · rw [if_pos (by omega), Ch_gt (n := n - 1 - a - 1) (k := n - 2 - m) (by omega), Nat.mul_zero]
theorem full_mem {n e : Nat} {g : List Nat} (hg : Grp n g) (he : e < n) (h : e ∉ g) (hl : g.length + 1 = n) {v : Nat} (hv : v < n) (hve : v ≠ e) : v ∈ g := by
  rcases Classical.em (v ∈ g) with hm | hm
  · exact hm
  · have hnd : (v :: e :: g).Nodup := by
      rw [List.nodup_cons, List.nodup_cons]
      refine ⟨?_, h, grp_nd hg⟩
      simp only [List.mem_cons]
      rintro (z | z)
      · exact hve z
      · exact hm z
    have hsub : (v :: e :: g) ⊆ List.range n := fun w hw => by
      rw [List.mem_range]
      rcases List.mem_cons.mp hw with rfl | hw
      · exact hv
      · rcases List.mem_cons.mp hw with rfl | hw
        · exact he
        · exact hg.lt w hw
    have := hnd.length_le_of_subset hsub
    simp at this
    omega
theorem full_sum {xs : List Nat} {e : Nat} {g : List Nat} (hE : Endy xs e) (hg : Grp xs.length g) (h : e ∉ g) (hl : g.length + 1 = xs.length) : sumG xs g = xs.length - 2 := by
  rw [← sum_in hg]
  have e1 : ((List.range xs.length).map fun v => if v ∈ g then at' xs v else 0) = (List.range xs.length).map (at' xs) := List.map_congr_left fun v hv => by
    by_cases hm : v ∈ g
    · exact if_pos hm
    · rw [if_neg hm]
      by_cases hve : v = e
      · subst hve; exact hE.zero.symm
      · exact absurd (full_mem hg hE.lt h hl (List.mem_range.mp hv) hve) hm
  rw [e1, sum_at]
  have := hE.good.sum
  omega
theorem out_le {xs g : List Nat} (hg : Grp xs.length g) {v : Nat} (hv : v < xs.length) (h : v ∉ g) : sumG xs g + at' xs v ≤ xs.sum := by
  have hm := sum_in hg
  have hs := sum_at xs
  have h2 := sum_add (fun v => if v ∈ g then at' xs v else 0) (fun v => if v ∈ g then 0 else at' xs v) (List.range xs.length)
  have e : ((List.range xs.length).map fun v => (if v ∈ g then at' xs v else 0) + if v ∈ g then 0 else at' xs v) = (List.range xs.length).map (at' xs) := List.map_congr_left fun v _ => by split <;> omega
  rw [e, hs, hm] at h2
  have h3 : (fun v => if v ∈ g then 0 else at' xs v) v ≤ ((List.range xs.length).map fun v => if v ∈ g then 0 else at' xs v).sum := le_sum (List.mem_map.mpr ⟨v, List.mem_range.mpr hv, rfl⟩)
  simp only [if_neg h] at h3
  omega
section
variable {xs : List Nat} {e : Nat} {g : List Nat}
theorem within_pos (hg : Grp xs.length g) (hx : Good xs) (m : Nat) : 0 < (wF xs g m).2 := withB_pos (by have := sumG_le hg; have := hx.sum; omega)
theorem within_ratio (hE : Endy xs e) (hg : Grp xs.length g) (h : e ∉ g) (h1 : 1 ≤ g.length) (m : Nat) :
    (wF xs g m).1 * (mixF xs e fun v => wF (dropE xs e v) (g.map (nm e)) m).2 = (mixF xs e fun v => wF (dropE xs e v) (g.map (nm e)) m).1 * (wF xs g m).2 := by
  have hn := hE.least
  have hsum := hE.good.sum
  have hXle := sumG_le hg
  have hgl : g.length + 1 ≤ xs.length := by
    have hnd : (e :: g).Nodup := List.nodup_cons.mpr ⟨h, grp_nd hg⟩
    have hsub : (e :: g) ⊆ List.range xs.length := fun w hw => by
      rw [List.mem_range]
      rcases List.mem_cons.mp hw with rfl | hw
      · exact hE.lt
      · exact hg.lt w hw
    have := hnd.length_le_of_subset hsub
    simpa using this
  have hlen : ∀ v, (dropE xs e v).length = xs.length - 1 := fun v => by have := drop_len hE.lt v; omega
  rcases Nat.lt_or_ge (g.length + 1) xs.length with hlt | hge
  · -- some other device
    have hcomm := mix_common hE (F := fun v => wF (dropE xs e v) (g.map (nm e)) m) (D := Ch (xs.length - 2) (sumG xs g) * (max (sumG xs g) 1 * max (xs.length - 2 - sumG xs g) 1))
      (fun v => at' xs v * if v ∈ g then withT g.length (sumG xs g - 1) (xs.length - 1) m * max (xs.length - 2 - sumG xs g) 1 else withT g.length (sumG xs g) (xs.length - 1) m * max (sumG xs g) 1) ?_
    · refine ratio_of (k := max (sumG xs g) 1 * max (xs.length - 2 - sumG xs g) 1) hcomm ?_ ?_ (Nat.mul_pos (by omega) (by omega))
      · show _ = withB _ _ _ * _
        rw [wB_lt (by omega)]
      · rw [sum_split hg]
        show _ = withT g.length (sumG xs g) xs.length m * _
        have hY : xs.sum - sumG xs g = xs.length - 2 - sumG xs g := by omega
        rw [hY]
        rcases Nat.eq_zero_or_pos (sumG xs g) with hX | hX
        · rw [hX, wT_none hlt]
          have e1 : max (xs.length - 2 - 0) 1 = xs.length - 2 - 0 := by omega
          rw [e1]
          simp only [Nat.zero_mul, Nat.zero_add]
          have e2 : max 0 1 = 1 := rfl
          rw [e2]; grind
        · have e1 : max (sumG xs g) 1 = sumG xs g := by omega
          rw [e1, wT_pascal hlt hX]
          rcases Nat.eq_zero_or_pos (xs.length - 2 - sumG xs g) with hY0 | hY0
          · have hXn : sumG xs g = xs.length - 2 := by omega
            rw [hY0, hXn, wT_full h1 hlt]
            have e2 : max 0 1 = 1 := rfl
            rw [e2]; grind
          · have e2 : max (xs.length - 2 - sumG xs g) 1 = xs.length - 2 - sumG xs g := by omega
            rw [e2]; grind
    · intro v hv
      obtain ⟨hv1, hv2⟩ := host_mem.mp hv
      have hs := sumG_nm hg h hv
      simp only [wF, List.length_map, hlen]
      rw [wB_lt (by omega)]
      obtain ⟨N, hN⟩ : ∃ N, xs.length - 2 = N + 1 := ⟨xs.length - 3, by omega⟩
      have hN2 : xs.length - 1 - 2 = N := by omega
      rw [hN2, hN]
      by_cases hm : v ∈ g
      · rw [if_pos hm] at hs ⊢
        obtain ⟨Z, hZ⟩ : ∃ Z, sumG xs g = Z + 1 := ⟨sumG xs g - 1, by omega⟩
        have hZ2 : sumG (dropE xs e v) (g.map (nm e)) = Z := by omega
        rw [hZ2, hZ]
        have e1 : max (Z + 1) 1 = Z + 1 := by omega
        rw [e1, Nat.add_sub_cancel]
        have := Ch_abs N Z
        grind
      · rw [if_neg hm, Nat.add_zero] at hs
        rw [if_neg hm, hs]
        have ho := out_le hg hv1 hm
        have e1 : max (N + 1 - sumG xs g) 1 = N + 1 - sumG xs g := by omega
        rw [e1]
        have := Ch_comp (N := N) (X := sumG xs g) (by omega)
        grind
  · -- all but the end
    have hl : g.length + 1 = xs.length := by omega
    have hX := full_sum hE hg h hl
    have hcomm := mix_common hE (F := fun v => wF (dropE xs e v) (g.map (nm e)) m) (D := xs.length - 2) (fun v => at' xs v * if m + 1 = xs.length - 1 then 1 else 0) ?_
    · refine ratio_of (k := xs.length - 2) hcomm ?_ ?_ (by omega)
      · show _ = withB _ _ _ * _
        rw [wB_lt (by omega), hX, Ch_self, Nat.one_mul]
      · rw [sum_mul, host_total hE]
        show _ = withT g.length (sumG xs g) xs.length m * _
        rw [wT_lt (by omega), hX, Nat.mul_comm]
        congr 1
        have e1 : g.length - 1 = xs.length - 2 := by omega
        have e2 : xs.length - g.length - 1 = 0 := by omega
        rw [e1, e2]
        rcases Nat.lt_trichotomy m (xs.length - 2) with hm | hm | hm
        · rw [if_neg (by omega), if_pos (by omega), Ch_gt (n := 0) (k := xs.length - 2 - m) (by omega), Nat.mul_zero]
        · subst hm
          rw [if_pos (by omega), if_pos (by omega), Nat.sub_self, Ch_self, Ch_zero]
        · rw [if_neg (by omega), if_neg (by omega), Nat.mul_zero]
    · intro v hv
      simp only [wF, List.length_map, hlen]
      unfold withT withB
      have e1 : g.length = xs.length - 1 := by omega
      rw [if_pos e1, if_pos e1]
      grind
theorem sideF_pos (xs g : List Nat) (hx : Good xs) : 0 < (sideF xs g).2 := by
  unfold sideF
  by_cases h : g.length < xs.length ∧ sumG xs g + 1 = g.length
  · rw [if_pos h]
    have := hx.sum
    exact Ch_pos (by omega)
  · rw [if_neg h]; exact Nat.one_pos
/-- the side that the end is not in -/
theorem side_out (hE : Endy xs e) (hg : Grp xs.length g) (h : e ∉ g) (h1 : 1 ≤ g.length) (hlt : g.length + 1 < xs.length) :
    (sideF xs g).1 * (mixF xs e fun v => if v ∈ g then (0, 1) else sideF (dropE xs e v) (g.map (nm e))).2 = (mixF xs e fun v => if v ∈ g then (0, 1) else sideF (dropE xs e v) (g.map (nm e))).1 * (sideF xs g).2 := by
  have hn := hE.least
  have hsum := hE.good.sum
  have hXle := sumG_le hg
  have hlen : ∀ v, (dropE xs e v).length = xs.length - 1 := fun v => by have := drop_len hE.lt v; omega
  obtain ⟨N, hN⟩ : ∃ N, xs.length - 2 = N + 1 := ⟨xs.length - 3, by omega⟩
  obtain ⟨A, hA⟩ : ∃ A, g.length = A + 1 := ⟨g.length - 1, by omega⟩
  have hF : sideF xs g = if sumG xs g = A then (1, Ch (N + 1) A) else (0, 1) := by
    unfold sideF
    rw [hN, hA, Nat.add_sub_cancel]
    by_cases hX : sumG xs g = A
    · rw [if_pos ⟨by omega, by omega⟩, if_pos hX]
    · rw [if_neg fun z => hX (by omega), if_neg hX]
  have hFv : ∀ v ∈ hosts xs, v ∉ g → sideF (dropE xs e v) (g.map (nm e)) = if sumG xs g = A then (1, Ch N A) else (0, 1) := fun v hv hm => by
    have hs := sumG_nm hg h hv
    rw [if_neg hm, Nat.add_zero] at hs
    unfold sideF
    have hN2 : xs.length - 1 - 2 = N := by omega
    rw [List.length_map, hs, hlen, hN2, hA, Nat.add_sub_cancel]
    by_cases hX : sumG xs g = A
    · rw [if_pos ⟨by omega, by omega⟩, if_pos hX]
    · rw [if_neg fun z => hX (by omega), if_neg hX]
  by_cases hX : sumG xs g = A
  · rw [if_pos hX] at hF
    have hcomm := mix_common hE (F := fun v => if v ∈ g then (0, 1) else sideF (dropE xs e v) (g.map (nm e))) (D := (N + 1) * Ch N A) (fun v => at' xs v * if v ∈ g then 0 else 1) (fun v hv => by
      by_cases hm : v ∈ g
      · rw [if_pos hm, if_pos hm]; simp
      · rw [if_neg hm, if_neg hm, hFv v hv hm, if_pos hX, hN])
    rw [sum_split hg] at hcomm
    have hk : 0 < N + 1 - A := by omega
    refine ratio_of (k := N + 1 - A) hcomm ?_ ?_ hk
    · rw [hF, Ch_comp (by omega)]
    · rw [hF, hX]
      have : xs.sum - A = N + 1 - A := by omega
      rw [this]; simp
  · rw [if_neg hX] at hF
    have hcomm := mix_common hE (F := fun v => if v ∈ g then (0, 1) else sideF (dropE xs e v) (g.map (nm e))) (D := 1) (fun v => 0) (fun v hv => by
      by_cases hm : v ∈ g
      · rw [if_pos hm]; simp
      · rw [if_neg hm, hFv v hv hm, if_neg hX]; simp)
    have hz : ((hosts xs).map fun _ => 0).sum = 0 := by
      induction hosts xs with
      | nil => rfl
      | cons a l ih => simpa using ih
    rw [hz] at hcomm
    exact ratio_of (k := 1) hcomm (by rw [hF]; rfl) (by rw [hF]; rfl) (by omega)
theorem side_all (hE : Endy xs e) (hg : Grp xs.length g) (h : e ∉ g) (hl : g.length + 1 = xs.length) : sideF xs g = (1, 1) := by
  have hX := full_sum hE hg h hl
  have hn := hE.least
  unfold sideF
  have e1 : g.length - 1 = xs.length - 2 := by omega
  rw [if_pos ⟨by omega, by omega⟩, e1, Ch_self]
/-- the side that the end is in -/
theorem side_in {g2 : List Nat} (hE : Endy xs e) (hg : Grp xs.length g) (h : e ∉ g) (h1 : 1 ≤ g.length) (hl : g2.length = g.length + 1) (hX2 : sumG xs g2 = sumG xs g) :
    (sideF xs g2).1 * (mixF xs e fun v => if v ∈ g then sideF (dropE xs e v) (g.map (nm e)) else (0, 1)).2 = (mixF xs e fun v => if v ∈ g then sideF (dropE xs e v) (g.map (nm e)) else (0, 1)).1 * (sideF xs g2).2 := by
  have hn := hE.least
  have hsum := hE.good.sum
  have hXle := sumG_le hg
  have hlen : ∀ v, (dropE xs e v).length = xs.length - 1 := fun v => by have := drop_len hE.lt v; omega
  obtain ⟨N, hN⟩ : ∃ N, xs.length - 2 = N + 1 := ⟨xs.length - 3, by omega⟩
  obtain ⟨A, hA⟩ : ∃ A, g.length = A + 1 := ⟨g.length - 1, by omega⟩
  have hF : sideF xs g2 = if A + 2 < xs.length ∧ sumG xs g = A + 1 then (1, Ch (N + 1) (A + 1)) else (0, 1) := by
    unfold sideF
    rw [hN, hl, hX2, hA, Nat.add_sub_cancel]
    by_cases hX : A + 2 < xs.length ∧ sumG xs g = A + 1
    · rw [if_pos ⟨by omega, by omega⟩, if_pos hX]
    · rw [if_neg fun z => hX (by omega), if_neg hX]
  have hFv : ∀ v ∈ hosts xs, v ∈ g → sideF (dropE xs e v) (g.map (nm e)) = if A + 2 < xs.length ∧ sumG xs g = A + 1 then (1, Ch N A) else (0, 1) := fun v hv hm => by
    have hs := sumG_nm hg h hv
    rw [if_pos hm] at hs
    unfold sideF
    have hN2 : xs.length - 1 - 2 = N := by omega
    rw [List.length_map, hlen, hN2, hA, Nat.add_sub_cancel]
    by_cases hX : A + 2 < xs.length ∧ sumG xs g = A + 1
    · rw [if_pos ⟨by omega, by omega⟩, if_pos hX]
    · rw [if_neg fun z => hX (by omega), if_neg hX]
  by_cases hX : A + 2 < xs.length ∧ sumG xs g = A + 1
  · rw [if_pos hX] at hF
    have hcomm := mix_common hE (F := fun v => if v ∈ g then sideF (dropE xs e v) (g.map (nm e)) else (0, 1)) (D := (N + 1) * Ch N A) (fun v => at' xs v * if v ∈ g then 1 else 0) (fun v hv => by
      by_cases hm : v ∈ g
      · rw [if_pos hm, if_pos hm, hFv v hv hm, if_pos hX, hN]
      · rw [if_neg hm, if_neg hm]; simp)
    rw [sum_split hg] at hcomm
    refine ratio_of (k := A + 1) hcomm ?_ ?_ (by omega)
    · rw [hF, Ch_abs]
    · rw [hF, hX.2]; simp
  · rw [if_neg hX] at hF
    have hcomm := mix_common hE (F := fun v => if v ∈ g then sideF (dropE xs e v) (g.map (nm e)) else (0, 1)) (D := 1) (fun v => 0) (fun v hv => by
      by_cases hm : v ∈ g
      · rw [if_pos hm, hFv v hv hm, if_neg hX]; simp
      · rw [if_neg hm]; simp)
    have hz : ((hosts xs).map fun _ => 0).sum = 0 := by
      induction hosts xs with
      | nil => rfl
      | cons a l ih => simpa using ih
    rw [hz] at hcomm
    exact ratio_of (k := 1) hcomm (by rw [hF]; rfl) (by rw [hF]; rfl) (by omega)
/-- what lies around a host of the end -/
theorem around_ratio {w : Nat} {g2 : List Nat} (hE : Endy xs e) (hw : w ∈ hosts xs) (hg : Grp xs.length g) (h : e ∉ g) (hwg : w ∉ g) (hX2 : sumG xs g2 = sumG xs g) :
    (aroF xs w g2).1 * ((cabF xs e w).2 * (aroF (dropE xs e w) (nm e w) (g.map (nm e))).2) = (cabF xs e w).1 * (aroF (dropE xs e w) (nm e w) (g.map (nm e))).1 * (aroF xs w g2).2 := by
  have hn := hE.least
  have hsum := hE.good.sum
  obtain ⟨hw1, hw2⟩ := host_mem.mp hw
  have hwe : w ≠ e := fun z => by subst z; have := hE.zero; omega
  have hlen : (dropE xs e w).length = xs.length - 1 := by have := drop_len hE.lt w; omega
  have hat : at' (dropE xs e w) (nm e w) = at' xs w - 1 := by rw [drop_at hw1 hwe, if_pos rfl]
  have hs := sumG_nm hg h hw
  rw [if_neg hwg, Nat.add_zero] at hs
  have hwx : at' xs w ≤ xs.sum := le_sum (by
    have := List.getElem_mem hw1
    rw [← at_of (List.getElem?_eq_getElem hw1)] at this
    exact this)
  rw [cab_end hE hw]
  unfold aroF
  rw [hlen, hat, hs, hX2]
  by_cases hf : at' xs w + 2 = xs.length
  · rw [if_pos hf, if_pos (by omega)]
    show 1 * ((xs.length - 2) * 1) = at' xs w * 1 * 1
    omega
  · rw [if_neg hf, if_neg (by omega)]
    obtain ⟨x, hx⟩ : ∃ x, at' xs w = x + 1 := ⟨at' xs w - 1, by omega⟩
    rw [hx]
    have e1 : xs.length - (x + 1 + 1) - 2 = xs.length - 1 - (x + 1 - 1 + 1) - 2 := by omega
    have e2 : xs.length - 1 - 2 = xs.length - 3 := by omega
    show fact (xs.length - (x + 1 + 1) - 2) * fact (x + 1) * sumG xs g * ((xs.length - 2) * fact (xs.length - 1 - 2)) = (x + 1) * (fact (xs.length - 1 - (x + 1 - 1 + 1) - 2) * fact (x + 1 - 1) * sumG xs g) * fact (xs.length - 2)
    rw [e1, e2, fact_down (n := xs.length) (by omega)]
    show fact (xs.length - 1 - (x + 1 - 1 + 1) - 2) * ((x + 1) * fact x) * sumG xs g * ((xs.length - 2) * fact (xs.length - 3)) = (x + 1) * (fact (xs.length - 1 - (x + 1 - 1 + 1) - 2) * fact x * sumG xs g) * ((xs.length - 2) * fact (xs.length - 3))
    grind
end
end PN
end

section
set_option Elab.async false
set_option linter.all false
set_option autoImplicit false
set_option maxRecDepth 100000
set_option maxHeartbeats 4000000
namespace PN
open PySem PySem.Spec PyProof.Rows L2 DL
local macro_rules | `(tactic| walk_at "ev1") => `(tactic| first
  | with_reducible refine wp_seq ?_ | with_reducible refine wp_ret ?_ | with_reducible refine wp_next ?_ | with_reducible refine wp_if ?_
  | with_reducible refine wp_asg ?_ | with_reducible refine wp_drop ?_
  | with_reducible refine ev_int ?_ | with_reducible refine ev_bl ?_ | with_reducible refine ev_non ?_
  | with_reducible refine ev_add ?_ | with_reducible refine ev_sub ?_ | with_reducible refine ev_mul ?_ | with_reducible refine ev_fdiv ?_ | with_reducible refine ev_mod ?_ | with_reducible refine ev_pow ?_ | with_reducible refine ev_neg ?_
  | with_reducible refine ev_lt ?_ | with_reducible refine ev_le ?_ | with_reducible refine ev_gt ?_ | with_reducible refine ev_ge ?_
  | with_reducible refine ev_eq ?_ | with_reducible refine ev_ne ?_ | with_reducible refine ev_in ?_ | with_reducible refine ev_notin ?_ | with_reducible refine ev_notN ?_
  | with_reducible refine ev_tup ?_ | with_reducible refine ev_lst ?_ | ((with_reducible refine ev_ixO (p := ?p0) (ds0 := ?d0) ?hi ?_); (case hi => rfl)) | with_reducible refine ev_ix ?_ | with_reducible refine ev_cat ?_ | with_reducible refine ev_rep ?_
  | with_reducible refine ev_lele ?_ | with_reducible refine ev_lelt ?_ | with_reducible refine ev_eqeq ?_
  | with_reducible refine ev_andV ?_ | with_reducible refine ev_orV ?_ | with_reducible refine ev_notV ?_ | with_reducible refine ev_if ?_
  | with_reducible refine ev_len ?_ | with_reducible refine ev_sum ?_ | with_reducible refine ev_all ?_ | with_reducible refine ev_sorted ?_ | with_reducible refine ev_max ?_ | with_reducible refine ev_min ?_ | with_reducible refine ev_abs ?_ | with_reducible refine ev_toInt ?_
  | with_reducible refine ev_isi ?_ | with_reducible refine ev_count ?_ | with_reducible refine ev_call ?_ | with_reducible refine ev_slice ?_
  | with_reducible refine evs_nil ?_ | with_reducible refine evs_cons ?_ | with_reducible refine evs_star ?_
  | with_reducible refine et_test ?_ | with_reducible refine et_B ?_ | with_reducible refine et_not ?_ | with_reducible refine et_and ?_ | with_reducible refine et_or ?_ | with_reducible refine et_yes ?_
  | with_reducible refine eo_none ?_ | with_reducible refine eo_some ?_
  | with_reducible refine iteT ?_ | with_reducible refine iteF ?_ | with_reducible refine ifNt ?_ | with_reducible refine ifNf ?_
  | refine ⟨true, isi_int_int _, ?_⟩ | refine ⟨false, isi_int_bool _, ?_⟩ | refine ⟨true, isi_list _, ?_⟩
  | (refine ev_var (by rfl) ?_)
  | refine ⟨_, _, _, rfl, rfl, by rfl, ?_⟩ | refine ⟨_, Or.inl rfl, ?_⟩ | refine ⟨_, Or.inr ⟨_, rfl, rfl⟩, ?_⟩ | refine ⟨_, _, _, Or.inr rfl, rfl, by rfl, ?_⟩ | refine ⟨_, _, _, Or.inl rfl, rfl, plI_at (by assumption), ?_⟩
  | refine ⟨_, rfl, ?_⟩ | refine ⟨_, _, rfl, rfl, ?_⟩ | refine ⟨_, _, rfl, ?_⟩
  | refine And.intro (by first | assumption | omega | (refine szn _ ?_; (first | (simp; done) | (simp; omega)))) ?_)
local macro_rules | `(tactic| walk_at "ev") => `(tactic| repeat (walk_at "ev1"; try dsimp only))
/-! the steps of an end taken away -/
def dl : List Nat → (List Nat → Nat) → Nat
  | [], _ => 0
  | z :: zs, f => z * f ((z - 1) :: zs) + dl zs fun t => f (z :: t)
theorem dl_add : ∀ (zs : List Nat) (f g : List Nat → Nat), dl zs (fun t => f t + g t) = dl zs f + dl zs g
  | [], _, _ => rfl
  | z :: zs, f, g => by
      show z * (f _ + g _) + dl zs (fun t => f (z :: t) + g (z :: t)) = z * f _ + dl zs _ + (z * g _ + dl zs _)
      rw [dl_add zs]; grind
theorem dl_mul (a : Nat) : ∀ (zs : List Nat) (f : List Nat → Nat), dl zs (fun t => a * f t) = a * dl zs f
  | [], _ => rfl
  | z :: zs, f => by
      show z * (a * f _) + dl zs (fun t => a * f (z :: t)) = a * (z * f _ + dl zs _)
      rw [dl_mul a zs]; grind
theorem wk_c0 (zs : List Nat) (c : Nat) : wk zs c 0 = c := by cases zs <;> rfl
theorem dl_const (c : Nat) : ∀ zs : List Nat, dl zs (fun _ => c) = zs.sum * c
  | [] => by simp [dl]
  | z :: zs => by
      show z * c + dl zs (fun _ => c) = _
      rw [dl_const c zs, List.sum_cons, Nat.add_mul]
theorem dl_wk : ∀ (zs : List Nat) (c k : Nat), dl zs (fun t => wk t c k) + c * wk zs (c - 1) k + (k + 1) * wk zs c k = (zs.sum + c) * wk zs c k
  | zs, c, 0 => by
      have e : (fun t => wk t c 0) = fun _ => c := funext fun t => wk_c0 t c
      rw [e, dl_const, wk_c0, wk_c0]
      cases c with
      | zero => simp
      | succ d => rw [Nat.add_sub_cancel]; grind
  | [], c, k + 1 => by simp [dl, wk]
  | z :: zs, c, k + 1 => by
      have h1 := dl_wk zs c (k + 1)
      have h2 := dl_wk zs (c + z - 1) k
      have e1 : (fun t => wk (z :: t) c (k + 1)) = fun t => wk t c (k + 1) + z * wk t (c + z - 1) k := rfl
      have e2 : dl (z :: zs) (fun t => wk t c (k + 1)) = z * wk ((z - 1) :: zs) c (k + 1) + dl zs (fun t => wk (z :: t) c (k + 1)) := rfl
      rw [e2, e1, dl_add, dl_mul]
      have e3 : wk ((z - 1) :: zs) c (k + 1) = wk zs c (k + 1) + (z - 1) * wk zs (c + (z - 1) - 1) k := rfl
      have e4 : wk (z :: zs) (c - 1) (k + 1) = wk zs (c - 1) (k + 1) + z * wk zs (c - 1 + z - 1) k := rfl
      have e5 : wk (z :: zs) c (k + 1) = wk zs c (k + 1) + z * wk zs (c + z - 1) k := rfl
      rw [e3, e4, e5, List.sum_cons]
      cases z with
      | zero => simp only [Nat.zero_mul, Nat.add_zero, Nat.zero_add, Nat.zero_sub]; exact h1
      | succ y =>
        rw [Nat.add_sub_cancel]
        have e6 : c + (y + 1) - 1 = c + y := by omega
        rw [e6] at h2 ⊢
        cases c with
        | zero =>
          simp only [Nat.zero_mul, Nat.add_zero, Nat.zero_add] at h1 h2 ⊢
          generalize dl zs (fun t => wk t 0 (k + 1)) = A at *
          generalize dl zs (fun t => wk t y k) = B at *
          generalize wk zs 0 (k + 1) = W1 at *
          generalize wk zs y k = W2 at *
          generalize wk zs (y - 1) k = U at *
          grind
        | succ d =>
          have e7 : d + 1 - 1 + (y + 1) - 1 = d + y := by omega
          have e8 : d + 1 + y - 1 = d + y := by omega
          rw [e7, e8]
          rw [e8] at h2
          generalize dl zs (fun t => wk t (d + 1) (k + 1)) = A at *
          generalize dl zs (fun t => wk t (d + 1 + y) k) = B at *
          generalize wk zs (d + 1) (k + 1) = W1 at *
          generalize wk zs (d + 1 + y) k = W2 at *
          generalize wk zs (d + 1 - 1) (k + 1) = V at *
          generalize wk zs (d + y) k = U at *
          grind
def rm : List Nat → (Nat → List Nat → Nat) → Nat
  | [], _ => 0
  | z :: zs, f => f z zs + rm zs fun y t => f y (z :: t)
theorem rm_add : ∀ (zs : List Nat) (f g : Nat → List Nat → Nat), rm zs (fun y t => f y t + g y t) = rm zs f + rm zs g
  | [], _, _ => rfl
  | z :: zs, f, g => by
      show f _ _ + g _ _ + rm zs (fun y t => f y (z :: t) + g y (z :: t)) = f _ _ + rm zs _ + (g _ _ + rm zs _)
      rw [rm_add zs]; omega
theorem rm_mul (a : Nat) : ∀ (zs : List Nat) (f : Nat → List Nat → Nat), rm zs (fun y t => a * f y t) = a * rm zs f
  | [], _ => rfl
  | z :: zs, f => by
      show a * f _ _ + rm zs (fun y t => a * f y (z :: t)) = a * (f _ _ + rm zs _)
      rw [rm_mul a zs, Nat.mul_add]
theorem rm_wk : ∀ (zs : List Nat) (c k : Nat), rm zs (fun y t => y * wk t (c + y - 1) k) = (k + 1) * wk zs c (k + 1)
  | [], c, k => by simp [rm, wk]
  | z :: zs, c, 0 => by
      have h := rm_wk zs c 0
      have e : (fun (y : Nat) (t : List Nat) => y * wk (z :: t) (c + y - 1) 0) = fun y t => y * wk t (c + y - 1) 0 := by
        funext y t
        rw [wk_c0, wk_c0]
      show z * wk zs (c + z - 1) 0 + rm zs (fun y t => y * wk (z :: t) (c + y - 1) 0) = (0 + 1) * (wk zs c (0 + 1) + z * wk zs (c + z - 1) 0)
      rw [e, h]; grind
  | z :: zs, c, k + 1 => by
      have h1 := rm_wk zs c (k + 1)
      have h2 := rm_wk zs (c + z - 1) k
      have e : (fun (y : Nat) (t : List Nat) => y * wk (z :: t) (c + y - 1) (k + 1)) = fun y t => y * wk t (c + y - 1) (k + 1) + z * (y * wk t (c + z - 1 + y - 1) k) := by
        funext y t
        show y * (wk t (c + y - 1) (k + 1) + z * wk t (c + y - 1 + z - 1) k) = _
        cases y with
        | zero => simp
        | succ y =>
          cases z with
          | zero => simp
          | succ z =>
            have a1 : c + (y + 1) - 1 + (z + 1) - 1 = c + (z + 1) - 1 + (y + 1) - 1 := by omega
            rw [a1]; grind
      show z * wk zs (c + z - 1) (k + 1) + rm zs (fun y t => y * wk (z :: t) (c + y - 1) (k + 1)) = (k + 1 + 1) * (wk zs c (k + 1 + 1) + z * wk zs (c + z - 1) (k + 1))
      rw [e, rm_add, rm_mul, h1, h2]; grind
def prodL : List Nat → Nat
  | [] => 1
  | z :: zs => z * prodL zs
theorem prod_perm {l l' : List Nat} (h : l.Perm l') : prodL l = prodL l' := by
  induction h with
  | nil => rfl
  | cons a _ ih => show a * _ = a * _; rw [ih]
  | swap a b l => show b * (a * prodL l) = a * (b * prodL l); grind
  | trans _ _ i1 i2 => exact i1.trans i2
theorem dl_prod : ∀ zs : List Nat, dl zs prodL + zs.length * prodL zs = zs.sum * prodL zs
  | [] => by simp [dl]
  | z :: zs => by
      have h := dl_prod zs
      have e : (fun t => prodL (z :: t)) = fun t => z * prodL t := rfl
      show z * ((z - 1) * prodL zs) + dl zs (fun t => prodL (z :: t)) + (zs.length + 1) * (z * prodL zs) = _
      rw [e, dl_mul, List.sum_cons]
      show _ = (z + zs.sum) * (z * prodL zs)
      cases z with
      | zero => simp
      | succ y => rw [Nat.add_sub_cancel]; grind
theorem rm_prod : ∀ zs : List Nat, rm zs (fun y t => y * prodL t) = zs.length * prodL zs
  | [] => by simp [rm]
  | z :: zs => by
      have h := rm_prod zs
      have e : (fun (y : Nat) (t : List Nat) => y * prodL (z :: t)) = fun y t => z * (y * prodL t) := by
        funext y t
        show y * (z * prodL t) = _
        grind
      show z * prodL zs + rm zs (fun y t => y * prodL (z :: t)) = (zs.length + 1) * (z * prodL zs)
      rw [e, rm_mul, h]; grind
theorem wk_gt : ∀ (zs : List Nat) (c k : Nat), zs.length < k → wk zs c k = 0
  | [], c, k + 1, _ => rfl
  | z :: zs, c, k + 1, h => by
      have h : zs.length < k := by simpa using h
      show wk zs c (k + 1) + z * wk zs (c + z - 1) k = 0
      rw [wk_gt zs c (k + 1) (by omega), wk_gt zs _ k h]
      simp
theorem wk_full : ∀ (zs : List Nat) (c : Nat), wk zs c zs.length = prodL zs * (c + zs.sum - zs.length)
  | [], c => by simp [wk, prodL]
  | z :: zs, c => by
      show wk zs c (zs.length + 1) + z * wk zs (c + z - 1) zs.length = z * prodL zs * (c + (z :: zs).sum - (zs.length + 1))
      rw [wk_gt _ _ _ (by omega), wk_full zs, List.sum_cons, Nat.zero_add]
      cases z with
      | zero => simp
      | succ y =>
        have : c + (y + 1) - 1 + zs.sum - zs.length = c + (y + 1 + zs.sum) - (zs.length + 1) := by omega
        rw [this, Nat.mul_assoc]
theorem prod_pos_le : ∀ zs : List Nat, 0 < prodL zs → zs.length ≤ zs.sum
  | [], _ => by simp
  | z :: zs, h => by
      have h : 0 < z * prodL zs := h
      have h1 := Nat.pos_of_mul_pos_right h
      have h2 := Nat.pos_of_mul_pos_left h
      have := prod_pos_le zs (by first | exact h1 | exact h2)
      rw [List.length_cons, List.sum_cons]
      omega
theorem prod_eq_len : ∀ zs : List Nat, 0 < prodL zs → zs.sum = zs.length → zs.all (· == 1) = true
  | [], _, _ => rfl
  | z :: zs, h, hs => by
      have h : 0 < z * prodL zs := h
      have h1 : 0 < z := Nat.pos_of_ne_zero fun e => by rw [e] at h; simp at h
      have h2 : 0 < prodL zs := Nat.pos_of_ne_zero fun e => by rw [e] at h; simp at h
      have h3 := prod_pos_le zs h2
      rw [List.length_cons, List.sum_cons] at hs
      have : z = 1 := by omega
      subst this
      rw [List.all_cons, prod_eq_len zs h2 (by omega)]; rfl
theorem prod_ones : ∀ zs : List Nat, zs.all (· == 1) = true → prodL zs = 1
  | [], _ => rfl
  | z :: zs, h => by
      rw [List.all_cons, Bool.and_eq_true] at h
      have : z = 1 := by simpa using h.1
      subst this
      show 1 * prodL zs = 1
      rw [prod_ones zs h.2]
theorem wk_perm {l l' : List Nat} (h : l.Perm l') (c k : Nat) : wk l c k = wk l' c k := by
  have a := wk_eq l c k
  have b := wk_eq l' c k
  rw [pr_perm h, sr_perm h] at a
  omega
theorem others_idx (xs : List Nat) (i j : Nat) : others xs i j = ((List.range xs.length).filter fun u => decide (u ≠ i ∧ u ≠ j)).map (at' xs) := by
  unfold others
  have e : xs.zipIdx = (List.range xs.length).map fun u => (at' xs u, u) := by
    apply List.ext_getElem?
    intro u
    rw [List.getElem?_zipIdx, List.getElem?_map]
    rcases Nat.lt_or_ge u xs.length with h | h
    · rw [List.getElem?_range h, List.getElem?_eq_getElem h]
      show some (xs[u], 0 + u) = some (at' xs u, u)
      rw [at_of (List.getElem?_eq_getElem h), Nat.zero_add]
    · rw [List.getElem?_eq_none h, List.getElem?_eq_none (by simpa using h)]; rfl
  rw [e, List.filter_map, List.map_map]; rfl
theorem stT_end {xs : List Nat} {i j : Nat} (hx : Good xs) (hi : i < xs.length) (hj : j < xs.length) (hij : i ≠ j) : stT xs i j (xs.length - 1) = fact (xs.length - 2) * prodL (others xs i j) := by
  have hl := others_len hi hj hij
  have hp := (idx_perm hi hj hij)
  have hs : xs.sum = at' xs i + (at' xs j + (others xs i j).sum) := by
    rw [hp.sum_nat]; rfl
  have hg := hx.sum
  unfold stT
  rw [if_neg (by omega), if_neg (by omega)]
  by_cases h : isLine xs i j = true
  · rw [if_pos ⟨by omega, h⟩]
    unfold isLine at h
    rw [Bool.and_eq_true] at h
    rw [prod_ones _ h.2, Nat.mul_one]
  · rw [if_neg fun z => h z.2]
    rcases Nat.eq_zero_or_pos (prodL (others xs i j)) with h0 | h0
    · rw [h0, Nat.mul_zero]
    · exfalso
      apply h
      have hle := prod_pos_le _ h0
      have ha := prod_eq_len _ h0 (by omega)
      unfold isLine
      rw [ha, decide_eq_true (by omega : at' xs i = 0), decide_eq_true (by omega : at' xs j = 0)]; rfl
theorem stT_mid {xs : List Nat} {i j s : Nat} (h1 : 1 ≤ s) (h2 : s + 2 ≤ xs.length) : stT xs i j s = fact (xs.length - s - 2) * fact (s - 1) * wk (others xs i j) (at' xs i + at' xs j) (s - 1) := by
  unfold stT
  rw [if_neg (by omega), if_pos h2]
theorem dl_idx (x : Nat → Nat) : ∀ (I : List Nat) (f : List Nat → Nat), I.Nodup → (I.map fun v => x v * f (I.map fun u => if u = v then x u - 1 else x u)).sum = dl (I.map x) f
  | [], _, _ => rfl
  | a :: I, f, hn => by
      rw [List.nodup_cons] at hn
      have ih := dl_idx x I (fun t => f (x a :: t)) hn.2
      rw [List.map_cons, List.sum_cons, List.map_cons, if_pos rfl, map_dec_out hn.1]
      show _ = x a * f ((x a - 1) :: I.map x) + dl (I.map x) _
      rw [← ih]
      congr 2
      refine List.map_congr_left fun v hv => ?_
      rw [List.map_cons, if_neg (show ¬ a = v from fun z => hn.1 (z ▸ hv))]
theorem rm_idx (x : Nat → Nat) : ∀ (I : List Nat) (f : Nat → List Nat → Nat), I.Nodup → (I.map fun v => f (x v) ((I.filter fun u => decide (u ≠ v)).map x)).sum = rm (I.map x) f
  | [], _, _ => rfl
  | a :: I, f, hn => by
      rw [List.nodup_cons] at hn
      have ih := rm_idx x I (fun y t => f y (x a :: t)) hn.2
      rw [List.map_cons, List.sum_cons]
      show _ = f (x a) (I.map x) + rm (I.map x) _
      rw [← ih]
      have e1 : ((a :: I).filter fun u => decide (u ≠ a)) = I := by
        rw [List.filter_cons, if_neg (by simp)]
        rw [List.filter_eq_self]
        intro u hu
        simpa using fun z : u = a => hn.1 (z ▸ hu)
      rw [e1]
      congr 2
      refine List.map_congr_left fun v hv => ?_
      have e2 : ((a :: I).filter fun u => decide (u ≠ v)) = a :: I.filter fun u => decide (u ≠ v) := by
        rw [List.filter_cons, if_pos]
        simpa using fun z : a = v => hn.1 (z ▸ hv)
      rw [e2]; rfl
end PN
end

section
set_option Elab.async false
set_option linter.all false
set_option autoImplicit false
set_option maxRecDepth 100000
set_option maxHeartbeats 4000000
namespace PN
open PySem PySem.Spec PyProof.Rows L2 DL
local macro_rules | `(tactic| walk_at "ev1") => `(tactic| first
  | with_reducible refine wp_seq ?_ | with_reducible refine wp_ret ?_ | with_reducible refine wp_next ?_ | with_reducible refine wp_if ?_
  | with_reducible refine wp_asg ?_ | with_reducible refine wp_drop ?_
  | with_reducible refine ev_int ?_ | with_reducible refine ev_bl ?_ | with_reducible refine ev_non ?_
  | with_reducible refine ev_add ?_ | with_reducible refine ev_sub ?_ | with_reducible refine ev_mul ?_ | with_reducible refine ev_fdiv ?_ | with_reducible refine ev_mod ?_ | with_reducible refine ev_pow ?_ | with_reducible refine ev_neg ?_
  | with_reducible refine ev_lt ?_ | with_reducible refine ev_le ?_ | with_reducible refine ev_gt ?_ | with_reducible refine ev_ge ?_
  | with_reducible refine ev_eq ?_ | with_reducible refine ev_ne ?_ | with_reducible refine ev_in ?_ | with_reducible refine ev_notin ?_ | with_reducible refine ev_notN ?_
  | with_reducible refine ev_tup ?_ | with_reducible refine ev_lst ?_ | ((with_reducible refine ev_ixO (p := ?p0) (ds0 := ?d0) ?hi ?_); (case hi => rfl)) | with_reducible refine ev_ix ?_ | with_reducible refine ev_cat ?_ | with_reducible refine ev_rep ?_
  | with_reducible refine ev_lele ?_ | with_reducible refine ev_lelt ?_ | with_reducible refine ev_eqeq ?_
  | with_reducible refine ev_andV ?_ | with_reducible refine ev_orV ?_ | with_reducible refine ev_notV ?_ | with_reducible refine ev_if ?_
  | with_reducible refine ev_len ?_ | with_reducible refine ev_sum ?_ | with_reducible refine ev_all ?_ | with_reducible refine ev_sorted ?_ | with_reducible refine ev_max ?_ | with_reducible refine ev_min ?_ | with_reducible refine ev_abs ?_ | with_reducible refine ev_toInt ?_
  | with_reducible refine ev_isi ?_ | with_reducible refine ev_count ?_ | with_reducible refine ev_call ?_ | with_reducible refine ev_slice ?_
  | with_reducible refine evs_nil ?_ | with_reducible refine evs_cons ?_ | with_reducible refine evs_star ?_
  | with_reducible refine et_test ?_ | with_reducible refine et_B ?_ | with_reducible refine et_not ?_ | with_reducible refine et_and ?_ | with_reducible refine et_or ?_ | with_reducible refine et_yes ?_
  | with_reducible refine eo_none ?_ | with_reducible refine eo_some ?_
  | with_reducible refine iteT ?_ | with_reducible refine iteF ?_ | with_reducible refine ifNt ?_ | with_reducible refine ifNf ?_
  | refine ⟨true, isi_int_int _, ?_⟩ | refine ⟨false, isi_int_bool _, ?_⟩ | refine ⟨true, isi_list _, ?_⟩
  | (refine ev_var (by rfl) ?_)
  | refine ⟨_, _, _, rfl, rfl, by rfl, ?_⟩ | refine ⟨_, Or.inl rfl, ?_⟩ | refine ⟨_, Or.inr ⟨_, rfl, rfl⟩, ?_⟩ | refine ⟨_, _, _, Or.inr rfl, rfl, by rfl, ?_⟩ | refine ⟨_, _, _, Or.inl rfl, rfl, plI_at (by assumption), ?_⟩
  | refine ⟨_, rfl, ?_⟩ | refine ⟨_, _, rfl, rfl, ?_⟩ | refine ⟨_, _, rfl, ?_⟩
  | refine And.intro (by first | assumption | omega | (refine szn _ ?_; (first | (simp; done) | (simp; omega)))) ?_)
local macro_rules | `(tactic| walk_at "ev") => `(tactic| repeat (walk_at "ev1"; try dsimp only))
def rest3 (n e l r : Nat) : List Nat := (List.range n).filter fun u => decide (u ≠ e ∧ u ≠ l ∧ u ≠ r)
def rest2 (n e l : Nat) : List Nat := (List.range n).filter fun u => decide (u ≠ e ∧ u ≠ l)
theorem rest3_nd (n e l r : Nat) : (rest3 n e l r).Nodup := List.Pairwise.filter _ List.nodup_range
theorem rest2_nd (n e l : Nat) : (rest2 n e l).Nodup := List.Pairwise.filter _ List.nodup_range
theorem rest3_mem {n e l r u : Nat} : u ∈ rest3 n e l r ↔ u < n ∧ u ≠ e ∧ u ≠ l ∧ u ≠ r := by unfold rest3; rw [List.mem_filter, List.mem_range]; simp
theorem rest2_mem {n e l u : Nat} : u ∈ rest2 n e l ↔ u < n ∧ u ≠ e ∧ u ≠ l := by unfold rest2; rw [List.mem_filter, List.mem_range]; simp
theorem range3 {n e l r : Nat} (he : e < n) (hl : l < n) (hr : r < n) (h1 : e ≠ l) (h2 : e ≠ r) (h3 : l ≠ r) : (List.range n).Perm (e :: l :: r :: rest3 n e l r) := by
  refine (List.perm_ext_iff_of_nodup List.nodup_range ?_).mpr fun u => ?_
  · simp only [List.nodup_cons, List.mem_cons, rest3_mem]
    refine ⟨?_, ?_, ?_, rest3_nd n e l r⟩ <;> omega
  · simp only [List.mem_cons, rest3_mem, List.mem_range]
    omega
theorem range2 {n e l : Nat} (he : e < n) (hl : l < n) (h1 : e ≠ l) : (List.range n).Perm (e :: l :: rest2 n e l) := by
  refine (List.perm_ext_iff_of_nodup List.nodup_range ?_).mpr fun u => ?_
  · simp only [List.nodup_cons, List.mem_cons, rest2_mem]
    refine ⟨?_, ?_, rest2_nd n e l⟩ <;> omega
  · simp only [List.mem_cons, rest2_mem, List.mem_range]
    omega
theorem oth3 {n e l r : Nat} (he : e < n) (h1 : e ≠ l) (h2 : e ≠ r) : ((List.range n).filter fun u => decide (u ≠ l ∧ u ≠ r)).Perm (e :: rest3 n e l r) := by
  refine (List.perm_ext_iff_of_nodup (List.Pairwise.filter _ List.nodup_range) ?_).mpr fun u => ?_
  · simp only [List.nodup_cons, rest3_mem]
    exact ⟨by omega, rest3_nd n e l r⟩
  · simp only [List.mem_cons, rest3_mem, List.mem_range, List.mem_filter, decide_eq_true_eq]
    omega
theorem nm_perm {n e l r : Nat} (he : e < n) (h1 : e ≠ l) (h2 : e ≠ r) : ((List.range (n - 1)).filter fun u => decide (u ≠ nm e l ∧ u ≠ nm e r)).Perm ((rest3 n e l r).map (nm e)) := by
  refine (List.perm_ext_iff_of_nodup (List.Pairwise.filter _ List.nodup_range) ?_).mpr fun i => ?_
  · show List.Pairwise _ _
    rw [List.pairwise_map]
    refine List.Pairwise.imp_of_mem (fun {a b} ha hb hab => ?_) (rest3_nd n e l r)
    exact fun z => hab (nm_inj (rest3_mem.mp ha).2.1 (rest3_mem.mp hb).2.1 z)
  · simp only [List.mem_map, rest3_mem, List.mem_range, List.mem_filter, decide_eq_true_eq]
    constructor
    · rintro ⟨a1, a2, a3⟩
      obtain ⟨u, b1, b2, rfl⟩ := nm_surj (e := e) (n := n) (i := i) he (by omega)
      exact ⟨u, ⟨b1, b2, fun z => a2 (z ▸ rfl), fun z => a3 (z ▸ rfl)⟩, rfl⟩
    · rintro ⟨u, ⟨b1, b2, b3, b4⟩, rfl⟩
      have := nm_lt he b1 b2
      exact ⟨by omega, fun z => b3 (nm_inj b2 (Ne.symm h1) z), fun z => b4 (nm_inj b2 (Ne.symm h2) z)⟩
theorem wk_zero (ys : List Nat) (c k : Nat) : wk (0 :: ys) c k = wk ys c k := by
  cases k with
  | zero => rw [wk_c0, wk_c0]
  | succ k => show wk ys c (k + 1) + 0 * _ = _; rw [Nat.zero_mul, Nat.add_zero]
section
variable {xs : List Nat} {e l r : Nat}
theorem others_drop (hE : Endy xs e) (h1 : e ≠ l) (h2 : e ≠ r) {v : Nat} (hv : v < xs.length) :
    (others (dropE xs e v) (nm e l) (nm e r)).Perm ((rest3 xs.length e l r).map fun u => if u = v then at' xs u - 1 else at' xs u) := by
  have hlen : (dropE xs e v).length = xs.length - 1 := by have := drop_len hE.lt v; omega
  rw [others_idx, hlen]
  refine ((nm_perm hE.lt h1 h2).map _).trans ?_
  rw [List.map_map]
  refine List.Perm.of_eq (List.map_congr_left fun u hu => ?_)
  exact drop_at hv (rest3_mem.mp hu).2.1
theorem others_in (hE : Endy xs e) (h1 : e ≠ l) (h2 : e ≠ r) : (others xs l r).Perm (0 :: (rest3 xs.length e l r).map (at' xs)) := by
  rw [others_idx]
  refine ((oth3 hE.lt h1 h2).map _).trans ?_
  rw [List.map_cons, hE.zero]
theorem others_to : others xs l e = (rest2 xs.length e l).map (at' xs) := by
  rw [others_idx]
  unfold rest2
  congr 1
  exact List.filter_congr fun u _ => decide_eq_decide.mpr And.comm
theorem sum3 (hE : Endy xs e) (hl : l < xs.length) (hr : r < xs.length) (h1 : e ≠ l) (h2 : e ≠ r) (h3 : l ≠ r) (f : Nat → Nat) :
    ((hosts xs).map fun v => at' xs v * f v).sum = at' xs l * f l + (at' xs r * f r + ((rest3 xs.length e l r).map fun v => at' xs v * f v).sum) := by
  rw [host_sum xs _ fun v hv => by rw [hv, Nat.zero_mul], perm_sum (range3 hE.lt hl hr h1 h2 h3)]
  simp only [List.map_cons, List.sum_cons, hE.zero, Nat.zero_mul, Nat.zero_add]
theorem sum2 (hE : Endy xs e) (hl : l < xs.length) (h1 : e ≠ l) (f : Nat → Nat) :
    ((hosts xs).map fun v => at' xs v * f v).sum = at' xs l * f l + ((rest2 xs.length e l).map fun v => at' xs v * f v).sum := by
  rw [host_sum xs _ fun v hv => by rw [hv, Nat.zero_mul], perm_sum (range2 hE.lt hl h1)]
  simp only [List.map_cons, List.sum_cons, hE.zero, Nat.zero_mul, Nat.zero_add]
theorem tot3 (hE : Endy xs e) (hl : l < xs.length) (hr : r < xs.length) (h1 : e ≠ l) (h2 : e ≠ r) (h3 : l ≠ r) :
    ((rest3 xs.length e l r).map (at' xs)).sum + (at' xs l + at' xs r) = xs.length - 2 ∧ ((rest3 xs.length e l r).map (at' xs)).length + 3 = xs.length := by
  have := perm_sum (range3 hE.lt hl hr h1 h2 h3) (at' xs)
  rw [sum_at] at this
  simp only [List.map_cons, List.sum_cons, hE.zero] at this
  have h := hE.good.sum
  have h2 := (range3 hE.lt hl hr h1 h2 h3).length_eq
  simp only [List.length_range, List.length_cons] at h2
  rw [List.length_map]
  omega
theorem tot2 (hE : Endy xs e) (hl : l < xs.length) (h1 : e ≠ l) :
    ((rest2 xs.length e l).map (at' xs)).sum + at' xs l = xs.length - 2 ∧ ((rest2 xs.length e l).map (at' xs)).length + 2 = xs.length := by
  have := perm_sum (range2 hE.lt hl h1) (at' xs)
  rw [sum_at] at this
  simp only [List.map_cons, List.sum_cons, hE.zero] at this
  have h := hE.good.sum
  have h2 := (range2 hE.lt hl h1).length_eq
  simp only [List.length_range, List.length_cons] at h2
  rw [List.length_map]
  omega
theorem step_in (hE : Endy xs e) (hl : l < xs.length) (hr : r < xs.length) (h1 : e ≠ l) (h2 : e ≠ r) (h3 : l ≠ r) {m : Nat} (hm : m + 1 < xs.length) :
    ((hosts xs).map fun v => at' xs v * stT (dropE xs e v) (nm e l) (nm e r) m).sum = stT xs l r m := by
  have hn := hE.least
  have hlen : ∀ v, (dropE xs e v).length = xs.length - 1 := fun v => by have := drop_len hE.lt v; omega
  obtain ⟨ht1, ht2⟩ := tot3 hE hl hr h1 h2 h3
  have hlI : l ∉ rest3 xs.length e l r := fun h => (rest3_mem.mp h).2.2.1 rfl
  have hrI : r ∉ rest3 xs.length e l r := fun h => (rest3_mem.mp h).2.2.2 rfl
  have hlr : nm e l ≠ nm e r := fun z => h3 (nm_inj (Ne.symm h1) (Ne.symm h2) z)
  have hnl := nm_lt hE.lt hl (Ne.symm h1)
  have hnr := nm_lt hE.lt hr (Ne.symm h2)
  rcases Nat.eq_zero_or_pos m with h0 | h0
  · subst h0
    have e1 : (fun v => at' xs v * stT (dropE xs e v) (nm e l) (nm e r) 0) = fun v => at' xs v * 0 := by
      funext v
      unfold stT
      rw [if_pos rfl]
    rw [e1]
    have e2 : stT xs l r 0 = 0 := by unfold stT; rw [if_pos rfl]
    rw [e2, sum_mul, Nat.mul_zero]
  rcases Nat.lt_or_ge (m + 2) xs.length with hm2 | hm2
  · -- in the midst
    have e1 : ((hosts xs).map fun v => at' xs v * stT (dropE xs e v) (nm e l) (nm e r) m) = (hosts xs).map fun v => at' xs v * (wk ((rest3 xs.length e l r).map fun u => if u = v then at' xs u - 1 else at' xs u) ((if l = v then at' xs l - 1 else at' xs l) + (if r = v then at' xs r - 1 else at' xs r)) (m - 1) * (fact (xs.length - m - 3) * fact (m - 1))) := List.map_congr_left fun v hv => by
      have hvn := (host_mem.mp hv).1
      rw [stT_mid (by omega) (by rw [hlen]; omega), hlen, wk_perm (others_drop hE h1 h2 hvn), drop_at hvn (Ne.symm h1), drop_at hvn (Ne.symm h2)]
      have : xs.length - 1 - m - 2 = xs.length - m - 3 := by omega
      rw [this]; grind
    rw [e1]
    have e2 : ((hosts xs).map fun v => at' xs v * (wk ((rest3 xs.length e l r).map fun u => if u = v then at' xs u - 1 else at' xs u) ((if l = v then at' xs l - 1 else at' xs l) + (if r = v then at' xs r - 1 else at' xs r)) (m - 1) * (fact (xs.length - m - 3) * fact (m - 1)))) = (hosts xs).map fun v => at' xs v * wk ((rest3 xs.length e l r).map fun u => if u = v then at' xs u - 1 else at' xs u) ((if l = v then at' xs l - 1 else at' xs l) + (if r = v then at' xs r - 1 else at' xs r)) (m - 1) * (fact (xs.length - m - 3) * fact (m - 1)) := List.map_congr_left fun v _ => by rw [Nat.mul_assoc]
    rw [e2, sum_mul, sum3 hE hl hr h1 h2 h3]
    have e3 : ((rest3 xs.length e l r).map fun v => at' xs v * wk ((rest3 xs.length e l r).map fun u => if u = v then at' xs u - 1 else at' xs u) ((if l = v then at' xs l - 1 else at' xs l) + (if r = v then at' xs r - 1 else at' xs r)) (m - 1)) = (rest3 xs.length e l r).map fun v => at' xs v * (fun t => wk t (at' xs l + at' xs r) (m - 1)) ((rest3 xs.length e l r).map fun u => if u = v then at' xs u - 1 else at' xs u) := List.map_congr_left fun v hv => by
      rw [if_neg (show ¬ l = v from fun z => hlI (z ▸ hv)), if_neg (show ¬ r = v from fun z => hrI (z ▸ hv))]
    rw [(congrArg List.sum e3).trans (dl_idx (at' xs) (rest3 xs.length e l r) (fun t => wk t (at' xs l + at' xs r) (m - 1)) (rest3_nd _ _ _ _))]
    rw [map_dec_out hlI, map_dec_out hrI, if_pos rfl, if_pos rfl, if_neg (Ne.symm h3), if_neg h3]
    have hd := dl_wk ((rest3 xs.length e l r).map (at' xs)) (at' xs l + at' xs r) (m - 1)
    rw [ht1] at hd
    rw [stT_mid (by omega) (by omega), wk_perm (others_in hE h1 h2), wk_zero]
    have ef : fact (xs.length - m - 2) = (xs.length - m - 2) * fact (xs.length - m - 3) := fact_down (by omega)
    rw [ef]
    have e4 : at' xs l * wk ((rest3 xs.length e l r).map (at' xs)) (at' xs l - 1 + at' xs r) (m - 1) + at' xs r * wk ((rest3 xs.length e l r).map (at' xs)) (at' xs l + (at' xs r - 1)) (m - 1) = (at' xs l + at' xs r) * wk ((rest3 xs.length e l r).map (at' xs)) (at' xs l + at' xs r - 1) (m - 1) := by
      rcases Nat.eq_zero_or_pos (at' xs l) with a | a
      · rw [a]
        simp only [Nat.zero_mul, Nat.zero_add]
      · have b1 : at' xs l - 1 + at' xs r = at' xs l + at' xs r - 1 := by omega
        rw [b1]
        rcases Nat.eq_zero_or_pos (at' xs r) with b | b
        · rw [b]; simp
        · have b2 : at' xs l + (at' xs r - 1) = at' xs l + at' xs r - 1 := by omega
          rw [b2, Nat.add_mul]
    obtain ⟨q, hq⟩ : ∃ q, xs.length - 2 = q + m := ⟨xs.length - 2 - m, by omega⟩
    have hq2 : xs.length - m - 2 = q := by omega
    have hm1 : m - 1 + 1 = m := by omega
    rw [hq, hm1] at hd
    rw [hq2]
    generalize wk ((rest3 xs.length e l r).map (at' xs)) (at' xs l - 1 + at' xs r) (m - 1) = U1 at *
    generalize wk ((rest3 xs.length e l r).map (at' xs)) (at' xs l + (at' xs r - 1)) (m - 1) = U2 at *
    generalize wk ((rest3 xs.length e l r).map (at' xs)) (at' xs l + at' xs r - 1) (m - 1) = U3 at *
    generalize wk ((rest3 xs.length e l r).map (at' xs)) (at' xs l + at' xs r) (m - 1) = W at *
    generalize dl ((rest3 xs.length e l r).map (at' xs)) (fun t => wk t (at' xs l + at' xs r) (m - 1)) = A at *
    have key : at' xs l * U1 + (at' xs r * U2 + A) = q * W := by grind
    rw [key]
    grind
  · -- all the others between
    have hmn : m = xs.length - 1 - 1 := by omega
    have e1 : ((hosts xs).map fun v => at' xs v * stT (dropE xs e v) (nm e l) (nm e r) m) = (hosts xs).map fun v => at' xs v * prodL ((rest3 xs.length e l r).map fun u => if u = v then at' xs u - 1 else at' xs u) * fact (xs.length - 3) := List.map_congr_left fun v hv => by
      have hvn := (host_mem.mp hv).1
      have hgd := drop_good hE hv
      have := stT_end hgd (i := nm e l) (j := nm e r) (by rw [hlen]; omega) (by rw [hlen]; omega) hlr
      rw [hlen, ← hmn, prod_perm (others_drop hE h1 h2 hvn)] at this
      rw [this]
      have e3 : xs.length - 1 - 2 = xs.length - 3 := by omega
      rw [e3]; grind
    rw [e1, sum_mul, sum3 hE hl hr h1 h2 h3]
    rw [dl_idx _ _ _ (rest3_nd _ _ _ _), map_dec_out hlI, map_dec_out hrI]
    have hd := dl_prod ((rest3 xs.length e l r).map (at' xs))
    have hw := wk_full ((rest3 xs.length e l r).map (at' xs)) (at' xs l + at' xs r)
    rw [stT_mid (by omega) (by omega), wk_perm (others_in hE h1 h2), wk_zero]
    have b1 : m - 1 = ((rest3 xs.length e l r).map (at' xs)).length := by omega
    have b2 : xs.length - m - 2 = 0 := by omega
    have b3 : at' xs l + at' xs r + ((rest3 xs.length e l r).map (at' xs)).sum - ((rest3 xs.length e l r).map (at' xs)).length = 1 := by omega
    rw [b3, Nat.mul_one] at hw
    have b4 : ((rest3 xs.length e l r).map (at' xs)).sum + (at' xs l + at' xs r) = ((rest3 xs.length e l r).map (at' xs)).length + 1 := by omega
    have b5 : xs.length - 3 = ((rest3 xs.length e l r).map (at' xs)).length := by omega
    rw [b1, b2, hw, b5]
    have b6 : fact 0 = 1 := rfl
    rw [b6, Nat.one_mul]
    generalize prodL ((rest3 xs.length e l r).map (at' xs)) = P at *
    generalize dl ((rest3 xs.length e l r).map (at' xs)) prodL = A at *
    generalize ((rest3 xs.length e l r).map (at' xs)).length = L at *
    generalize ((rest3 xs.length e l r).map (at' xs)).sum = T at *
    have key : at' xs l * P + (at' xs r * P + A) = P := by
      have : T * P + (at' xs l + at' xs r) * P = (L + 1) * P := by rw [← Nat.add_mul, b4]
      grind
    rw [key, Nat.mul_comm]
theorem step_in_last (hE : Endy xs e) (hl : l < xs.length) (hr : r < xs.length) (h1 : e ≠ l) (h2 : e ≠ r) (h3 : l ≠ r) : stT xs l r (xs.length - 1) = 0 := by
  rw [stT_end hE.good hl hr h3, prod_perm (others_in hE h1 h2)]
  show _ * (0 * _) = 0
  rw [Nat.zero_mul, Nat.mul_zero]
theorem step_to (hE : Endy xs e) (hl : l < xs.length) (h1 : e ≠ l) {m : Nat} (hm1 : 1 ≤ m) (hm : m < xs.length) :
    ((hosts xs).map fun v => at' xs v * if v = l then (if m = 1 then fact (xs.length - 3) else 0) else stT (dropE xs e v) (nm e l) (nm e v) (m - 1)).sum = stT xs l e m := by
  have hn := hE.least
  have hlen : ∀ v, (dropE xs e v).length = xs.length - 1 := fun v => by have := drop_len hE.lt v; omega
  obtain ⟨ht1, ht2⟩ := tot2 hE hl h1
  rw [sum2 hE hl h1, if_pos rfl]
  have hin : ∀ v ∈ rest2 xs.length e l, v < xs.length ∧ e ≠ v ∧ l ≠ v ∧ v ∉ rest3 xs.length e l v ∧ rest3 xs.length e l v = (rest2 xs.length e l).filter fun u => decide (u ≠ v) := fun v hv => by
    obtain ⟨a1, a2, a3⟩ := rest2_mem.mp hv
    refine ⟨a1, Ne.symm a2, Ne.symm a3, fun h => (rest3_mem.mp h).2.2.2 rfl, ?_⟩
    unfold rest3 rest2
    rw [List.filter_filter]
    refine List.filter_congr fun u _ => ?_
    rw [← Bool.decide_and]
    exact decide_eq_decide.mpr ⟨fun ⟨x, y, z⟩ => ⟨z, x, y⟩, fun ⟨z, x, y⟩ => ⟨x, y, z⟩⟩
  have hdl : ∀ v ∈ rest2 xs.length e l, (others (dropE xs e v) (nm e l) (nm e v)).Perm (((rest2 xs.length e l).filter fun u => decide (u ≠ v)).map (at' xs)) ∧ at' (dropE xs e v) (nm e l) = at' xs l ∧ at' (dropE xs e v) (nm e v) = at' xs v - 1 ∧ nm e l ≠ nm e v ∧ nm e l < xs.length - 1 ∧ nm e v < xs.length - 1 := fun v hv => by
    obtain ⟨a1, a2, a3, a4, a5⟩ := hin v hv
    have a6 := others_drop hE h1 a2 a1
    rw [map_dec_out a4, a5] at a6
    have b1 := nm_lt hE.lt hl (Ne.symm h1)
    have b2 := nm_lt hE.lt a1 (Ne.symm a2)
    exact ⟨a6, by rw [drop_at a1 (Ne.symm h1), if_neg a3], by rw [drop_at a1 (Ne.symm a2), if_pos rfl], fun z => a3 (nm_inj (Ne.symm h1) (Ne.symm a2) z), by omega, by omega⟩
  have hne : ∀ v ∈ rest2 xs.length e l, ¬ v = l := fun v hv => (rest2_mem.mp hv).2.2
  rcases Nat.lt_or_ge 1 m with hm2 | hm2
  · rw [if_neg (by omega), Nat.mul_zero, Nat.zero_add]
    rcases Nat.lt_or_ge (m + 1) xs.length with hm3 | hm3
    · have e1 : ((rest2 xs.length e l).map fun v => at' xs v * if v = l then 0 else stT (dropE xs e v) (nm e l) (nm e v) (m - 1)) = (rest2 xs.length e l).map fun v => (at' xs v * wk (((rest2 xs.length e l).filter fun u => decide (u ≠ v)).map (at' xs)) (at' xs l + at' xs v - 1) (m - 2)) * (fact (xs.length - m - 2) * fact (m - 2)) := List.map_congr_left fun v hv => by
        obtain ⟨a1, a2, a3, a4, a5, a6⟩ := hdl v hv
        rw [if_neg (hne v hv)]
        rcases Nat.eq_zero_or_pos (at' xs v) with z | z
        · rw [z]; simp
        rw [stT_mid (by omega) (by rw [hlen]; omega), wk_perm a1, a2, a3, hlen]
        have b1 : xs.length - 1 - (m - 1) - 2 = xs.length - m - 2 := by omega
        have b2 : m - 1 - 1 = m - 2 := by omega
        have b3 : at' xs l + (at' xs v - 1) = at' xs l + at' xs v - 1 := by omega
        rw [b1, b2, b3]; grind
      rw [e1, sum_mul, rm_idx (at' xs) _ (fun y t => y * wk t (at' xs l + y - 1) (m - 2)) (rest2_nd _ _ _), rm_wk]
      rw [stT_mid (by omega) (by omega), others_to, hE.zero, Nat.add_zero]
      obtain ⟨q, rfl⟩ : ∃ q, m = q + 2 := ⟨m - 2, by omega⟩
      have b4 : q + 2 - 2 = q := by omega
      have b5 : q + 2 - 1 = q + 1 := by omega
      have b6 : fact (q + 1) = (q + 1) * fact q := rfl
      rw [b4, b5, b6]; grind
    · have hmn : m - 1 = xs.length - 1 - 1 := by omega
      have e1 : ((rest2 xs.length e l).map fun v => at' xs v * if v = l then 0 else stT (dropE xs e v) (nm e l) (nm e v) (m - 1)) = (rest2 xs.length e l).map fun v => (at' xs v * prodL (((rest2 xs.length e l).filter fun u => decide (u ≠ v)).map (at' xs))) * fact (xs.length - 3) := List.map_congr_left fun v hv => by
        obtain ⟨a1, a2, a3, a4, a5, a6⟩ := hdl v hv
        rw [if_neg (hne v hv)]
        rcases Nat.eq_zero_or_pos (at' xs v) with z | z
        · rw [z]; simp
        have hgd := drop_good hE (host_mem.mpr ⟨(rest2_mem.mp hv).1, z⟩)
        have := stT_end hgd (i := nm e l) (j := nm e v) (by rw [hlen]; omega) (by rw [hlen]; omega) a4
        rw [hlen, ← hmn, prod_perm a1] at this
        rw [this]
        have e3 : xs.length - 1 - 2 = xs.length - 3 := by omega
        rw [e3]; grind
      rw [e1, sum_mul, rm_idx (at' xs) _ (fun y t => y * prodL t) (rest2_nd _ _ _), rm_prod]
      have hmn2 : m = xs.length - 1 := by omega
      rw [hmn2, stT_end hE.good hl hE.lt (Ne.symm h1), others_to, fact_down (by omega)]
      have b1 : xs.length - 2 = ((rest2 xs.length e l).map (at' xs)).length := by omega
      rw [b1]; grind
  · have hm0 : m = 1 := by omega
    subst hm0
    rw [if_pos rfl]
    have e1 : ((rest2 xs.length e l).map fun v => at' xs v * if v = l then fact (xs.length - 3) else stT (dropE xs e v) (nm e l) (nm e v) (1 - 1)) = (rest2 xs.length e l).map fun v => at' xs v * 0 := List.map_congr_left fun v hv => by
      rw [if_neg (hne v hv)]
      unfold stT
      rw [if_pos rfl]
    rw [e1, sum_mul, Nat.mul_zero, Nat.add_zero, stT_mid (by omega) (by omega), wk_c0, hE.zero]
    have b1 : xs.length - 1 - 2 = xs.length - 3 := by omega
    have b2 : fact (1 - 1) = 1 := rfl
    rw [b1, b2]; grind
end
end PN
end

section
set_option Elab.async false
set_option linter.all false
set_option autoImplicit false
set_option maxRecDepth 100000
set_option maxHeartbeats 4000000
namespace PN
open PySem PySem.Spec PyProof.Rows L2 DL
local macro_rules | `(tactic| walk_at "ev1") => `(tactic| first
  | with_reducible refine wp_seq ?_ | with_reducible refine wp_ret ?_ | with_reducible refine wp_next ?_ | with_reducible refine wp_if ?_
  | with_reducible refine wp_asg ?_ | with_reducible refine wp_drop ?_
  | with_reducible refine ev_int ?_ | with_reducible refine ev_bl ?_ | with_reducible refine ev_non ?_
  | with_reducible refine ev_add ?_ | with_reducible refine ev_sub ?_ | with_reducible refine ev_mul ?_ | with_reducible refine ev_fdiv ?_ | with_reducible refine ev_mod ?_ | with_reducible refine ev_pow ?_ | with_reducible refine ev_neg ?_
  | with_reducible refine ev_lt ?_ | with_reducible refine ev_le ?_ | with_reducible refine ev_gt ?_ | with_reducible refine ev_ge ?_
  | with_reducible refine ev_eq ?_ | with_reducible refine ev_ne ?_ | with_reducible refine ev_in ?_ | with_reducible refine ev_notin ?_ | with_reducible refine ev_notN ?_
  | with_reducible refine ev_tup ?_ | with_reducible refine ev_lst ?_ | ((with_reducible refine ev_ixO (p := ?p0) (ds0 := ?d0) ?hi ?_); (case hi => rfl)) | with_reducible refine ev_ix ?_ | with_reducible refine ev_cat ?_ | with_reducible refine ev_rep ?_
  | with_reducible refine ev_lele ?_ | with_reducible refine ev_lelt ?_ | with_reducible refine ev_eqeq ?_
  | with_reducible refine ev_andV ?_ | with_reducible refine ev_orV ?_ | with_reducible refine ev_notV ?_ | with_reducible refine ev_if ?_
  | with_reducible refine ev_len ?_ | with_reducible refine ev_sum ?_ | with_reducible refine ev_all ?_ | with_reducible refine ev_sorted ?_ | with_reducible refine ev_max ?_ | with_reducible refine ev_min ?_ | with_reducible refine ev_abs ?_ | with_reducible refine ev_toInt ?_
  | with_reducible refine ev_isi ?_ | with_reducible refine ev_count ?_ | with_reducible refine ev_call ?_ | with_reducible refine ev_slice ?_
  | with_reducible refine evs_nil ?_ | with_reducible refine evs_cons ?_ | with_reducible refine evs_star ?_
  | with_reducible refine et_test ?_ | with_reducible refine et_B ?_ | with_reducible refine et_not ?_ | with_reducible refine et_and ?_ | with_reducible refine et_or ?_ | with_reducible refine et_yes ?_
  | with_reducible refine eo_none ?_ | with_reducible refine eo_some ?_
  | with_reducible refine iteT ?_ | with_reducible refine iteF ?_ | with_reducible refine ifNt ?_ | with_reducible refine ifNf ?_
  | refine ⟨true, isi_int_int _, ?_⟩ | refine ⟨false, isi_int_bool _, ?_⟩ | refine ⟨true, isi_list _, ?_⟩
  | (refine ev_var (by rfl) ?_)
  | refine ⟨_, _, _, rfl, rfl, by rfl, ?_⟩ | refine ⟨_, Or.inl rfl, ?_⟩ | refine ⟨_, Or.inr ⟨_, rfl, rfl⟩, ?_⟩ | refine ⟨_, _, _, Or.inr rfl, rfl, by rfl, ?_⟩ | refine ⟨_, _, _, Or.inl rfl, rfl, plI_at (by assumption), ?_⟩
  | refine ⟨_, rfl, ?_⟩ | refine ⟨_, _, rfl, rfl, ?_⟩ | refine ⟨_, _, rfl, ?_⟩
  | refine And.intro (by first | assumption | omega | (refine szn _ ?_; (first | (simp; done) | (simp; omega)))) ?_)
local macro_rules | `(tactic| walk_at "ev") => `(tactic| repeat (walk_at "ev1"; try dsimp only))
/-! rows of steps, and bounds -/
theorem mix_map (xs : List Nat) (e : Nat) (F : Nat → Nat → Nat × Nat) (m : Nat) :
    frSum (((hosts xs).map fun v => (cabF xs e v, F v)).map fun q => (q.1.1 * (q.2 m).1, q.1.2 * (q.2 m).2)) = mixF xs e fun v => F v m := by
  unfold mixF; rw [List.map_map]; rfl
theorem mix_map1 (xs : List Nat) (e : Nat) (F : Nat → Nat × Nat) :
    frSum (((hosts xs).map fun v => (cabF xs e v, F v)).map fun q => (q.1.1 * q.2.1, q.1.2 * q.2.2)) = mixF xs e F := by
  unfold mixF; rw [List.map_map]; rfl
theorem stF_pos (xs : List Nat) (i j m : Nat) : 0 < (stF xs i j m).2 := by
  unfold stF
  by_cases h : i = j
  · rw [if_pos h]; split <;> exact Nat.one_pos
  · rw [if_neg h]; exact fact_pos _
def shF (F : Nat → Nat × Nat) (m : Nat) : Nat × Nat := if m = 0 then (0, 1) else F (m - 1)
section
variable {xs : List Nat} {e l r : Nat}
theorem rows_in (hE : Endy xs e) (hl : l < xs.length) (hr : r < xs.length) (h1 : e ≠ l) (h2 : e ≠ r) :
    rows (fun m => mixF xs e fun v => stF (dropE xs e v) (nm e l) (nm e r) m) (xs.length - 1) = rows (stF xs l r) xs.length := by
  have hn := hE.least
  have hlen : ∀ v, (dropE xs e v).length = xs.length - 1 := fun v => by have := drop_len hE.lt v; omega
  rw [rows_more (F := stF xs l r) (M := xs.length - 1) (N := xs.length) (by omega) fun m hm1 hm2 => by
    have : m = xs.length - 1 := by omega
    subst this
    unfold stF
    by_cases h : l = r
    · rw [if_pos h, if_neg (by omega)]
    · rw [if_neg h]
      exact step_in_last hE hl hr h1 h2 h]
  refine rows_congr fun m hm => ⟨mix_pos hE fun v _ => stF_pos _ _ _ _, stF_pos _ _ _ _, ?_⟩
  refine Eq.symm ?_
  by_cases h : l = r
  · subst h
    have hcomm := mix_common hE (F := fun v => stF (dropE xs e v) (nm e l) (nm e l) m) (D := xs.length - 2) (fun v => at' xs v * if m = 0 then 1 else 0) (fun v hv => by
      unfold stF
      rw [if_pos rfl]
      by_cases h0 : m = 0
      · rw [if_pos h0, if_pos h0]; simp
      · rw [if_neg h0, if_neg h0]; simp)
    rw [sum_mul, host_total hE] at hcomm
    refine ratio_of (k := xs.length - 2) hcomm ?_ ?_ (by omega)
    · unfold stF
      rw [if_pos rfl]
      split <;> simp
    · unfold stF
      rw [if_pos rfl]
      split <;> simp
  · have hlr : nm e l ≠ nm e r := fun z => h (nm_inj (Ne.symm h1) (Ne.symm h2) z)
    have hcomm := mix_common hE (F := fun v => stF (dropE xs e v) (nm e l) (nm e r) m) (D := fact (xs.length - 2)) (fun v => at' xs v * stT (dropE xs e v) (nm e l) (nm e r) m) (fun v hv => by
      unfold stF
      rw [if_neg hlr, hlen]
      have e1 : xs.length - 1 - 2 = xs.length - 3 := by omega
      rw [e1, fact_down (by omega)])
    rw [step_in hE hl hr h1 h2 h (by omega)] at hcomm
    refine ratio_of (k := 1) hcomm ?_ ?_ (by omega)
    · unfold stF
      rw [if_neg h, Nat.mul_one]
    · unfold stF
      rw [if_neg h, Nat.mul_one]
theorem shF_pos (xs : List Nat) (i j m : Nat) : 0 < (shF (stF xs i j) m).2 := by
  unfold shF
  split
  · exact Nat.one_pos
  · exact stF_pos _ _ _ _
theorem rows_to (hE : Endy xs e) (hl : l < xs.length) (h1 : e ≠ l) :
    rows (fun m => mixF xs e fun v => shF (stF (dropE xs e v) (nm e l) (nm e v)) m) xs.length = rows (stF xs l e) xs.length := by
  have hn := hE.least
  have hlen : ∀ v, (dropE xs e v).length = xs.length - 1 := fun v => by have := drop_len hE.lt v; omega
  refine rows_congr fun m hm => ⟨mix_pos hE fun v _ => shF_pos _ _ _ _, stF_pos _ _ _ _, ?_⟩
  refine Eq.symm ?_
  have hF : ∀ m, stF xs l e m = (stT xs l e m, fact (xs.length - 2)) := fun m => by unfold stF; rw [if_neg (Ne.symm h1)]
  rcases Nat.eq_zero_or_pos m with h0 | h0
  · subst h0
    have hcomm := mix_common hE (F := fun v => shF (stF (dropE xs e v) (nm e l) (nm e v)) 0) (D := fact (xs.length - 2)) (fun v => 0) (fun v hv => by
      unfold shF
      rw [if_pos rfl]; simp)
    have hz : ((hosts xs).map fun _ => 0).sum = 0 := by
      induction hosts xs with
      | nil => rfl
      | cons a l ih => simpa using ih
    rw [hz] at hcomm
    refine ratio_of (k := 1) hcomm ?_ ?_ (by omega)
    · rw [hF, Nat.mul_one]
    · rw [hF]
      unfold stT
      rw [if_pos rfl]; simp
  · have hcomm := mix_common hE (F := fun v => shF (stF (dropE xs e v) (nm e l) (nm e v)) m) (D := fact (xs.length - 2)) (fun v => at' xs v * if v = l then (if m = 1 then fact (xs.length - 3) else 0) else stT (dropE xs e v) (nm e l) (nm e v) (m - 1)) (fun v hv => by
      unfold shF stF
      rw [if_neg (by omega), hlen]
      have e1 : xs.length - 1 - 2 = xs.length - 3 := by omega
      rw [e1, fact_down (by omega)]
      by_cases hvl : v = l
      · subst hvl
        rw [if_pos rfl, if_pos rfl]
        by_cases hm1 : m = 1
        · rw [if_pos (by omega), if_pos hm1]; grind
        · rw [if_neg (by omega), if_neg hm1]; simp
      · have hve : v ≠ e := fun z => by have := (host_mem.mp hv).2; rw [z, hE.zero] at this; omega
        rw [if_neg (show ¬ nm e l = nm e v from fun z => hvl (nm_inj hve (Ne.symm h1) z.symm)), if_neg hvl])
    rw [step_to hE hl h1 h0 hm] at hcomm
    refine ratio_of (k := 1) hcomm ?_ ?_ (by omega)
    · rw [hF, Nat.mul_one]
    · rw [hF, Nat.mul_one]
end
theorem rows_shift (F : Nat → Nat × Nat) (M : Nat) : (rows F M).map (fun r => (r.1 + 1, r.2)) = rows (shF F) (M + 1) := by
  unfold rows
  rw [List.map_map, List.range_succ_eq_map, List.filter_cons, if_neg (by simp [shF]), List.filter_map, List.map_map]
  rfl
theorem wk_bound : ∀ (ys : List Nat) (c k : Nat), wk ys c k ≤ (c + ys.sum) * 2 ^ ys.sum
  | [], c, 0 => by simp [wk]
  | [], c, k + 1 => by simp [wk]
  | y :: ys, c, 0 => by
      rw [wk_c0]
      have := Nat.pos_of_ne_zero (Nat.ne_of_gt (Nat.two_pow_pos (y :: ys).sum))
      calc c ≤ c + (y :: ys).sum := by omega
        _ = (c + (y :: ys).sum) * 1 := by rw [Nat.mul_one]
        _ ≤ _ := Nat.mul_le_mul_left _ this
  | y :: ys, c, k + 1 => by
      have h1 := wk_bound ys c (k + 1)
      have h2 := wk_bound ys (c + y - 1) k
      show wk ys c (k + 1) + y * wk ys (c + y - 1) k ≤ _
      rw [List.sum_cons]
      have h3 : y + 1 ≤ 2 ^ y := Nat.lt_two_pow_self
      have e1 : 2 ^ (y + ys.sum) = 2 ^ y * 2 ^ ys.sum := Nat.pow_add 2 y ys.sum
      rw [e1]
      generalize 2 ^ ys.sum = Z at *
      have h4 : wk ys c (k + 1) ≤ (c + (y + ys.sum)) * Z := Nat.le_trans h1 (Nat.mul_le_mul_right _ (by omega))
      have h5 : wk ys (c + y - 1) k ≤ (c + (y + ys.sum)) * Z := Nat.le_trans h2 (Nat.mul_le_mul_right _ (by omega))
      calc wk ys c (k + 1) + y * wk ys (c + y - 1) k ≤ (c + (y + ys.sum)) * Z + y * ((c + (y + ys.sum)) * Z) := Nat.add_le_add h4 (Nat.mul_le_mul_left _ h5)
        _ = (y + 1) * ((c + (y + ys.sum)) * Z) := by grind
        _ ≤ 2 ^ y * ((c + (y + ys.sum)) * Z) := Nat.mul_le_mul_right _ h3
        _ = _ := by grind
theorem fact_mul_le (a b : Nat) : fact a * fact b ≤ fact (a + b) := by
  have h := Ch_fact (a + b) a (by omega)
  rw [Nat.add_sub_cancel_left] at h
  have := Ch_pos (n := a + b) (k := a) (by omega)
  calc fact a * fact b = 1 * (fact a * fact b) := by rw [Nat.one_mul]
    _ ≤ Ch (a + b) a * (fact a * fact b) := Nat.mul_le_mul_right _ this
    _ = _ := h
theorem stT_lt {xs : List Nat} {i j : Nat} (hx : Good xs) (hi : i < xs.length) (hj : j < xs.length) (hij : i ≠ j) (h20 : xs.length ≤ 20) (s : Nat) : stT xs i j s < 2 ^ 80 := by
  have hs : xs.sum = at' xs i + (at' xs j + (others xs i j).sum) := by
    rw [(idx_perm hi hj hij).sum_nat]; rfl
  have hg := hx.sum
  unfold stT
  split
  · decide
  · split
    · rename_i h0 h2
      have h1 := fact_mul_le (xs.length - s - 2) (s - 1)
      have h3 : fact (xs.length - s - 2 + (s - 1)) ≤ fact 17 := fact_mono (by omega)
      have h4 : fact 17 < 2 ^ 49 := by decide
      have h5 := wk_bound (others xs i j) (at' xs i + at' xs j) (s - 1)
      have h6 : 2 ^ (others xs i j).sum ≤ 2 ^ 18 := Nat.pow_le_pow_right (by decide) (by omega)
      have h7 : (at' xs i + at' xs j + (others xs i j).sum) * 2 ^ (others xs i j).sum ≤ 18 * 2 ^ 18 := Nat.mul_le_mul (by omega) h6
      have h8 : wk (others xs i j) (at' xs i + at' xs j) (s - 1) < 2 ^ 30 := Nat.lt_of_le_of_lt (Nat.le_trans h5 h7) (by decide)
      exact Nat.lt_of_lt_of_le (Nat.mul_lt_mul'' (Nat.lt_of_le_of_lt (Nat.le_trans h1 h3) h4) h8) (by decide)
    · split
      · exact Nat.lt_of_lt_of_le (fact_lt20 (by omega)) (by decide)
      · decide
theorem stF_lt {xs : List Nat} {i j : Nat} (hx : Good xs) (hi : i < xs.length) (hj : j < xs.length) (h20 : xs.length ≤ 20) (s : Nat) : (stF xs i j s).1 < 2 ^ 80 ∧ (stF xs i j s).2 < 2 ^ 80 := by
  unfold stF
  by_cases h : i = j
  · rw [if_pos h]; split <;> exact ⟨by decide, by decide⟩
  · rw [if_neg h]
    exact ⟨stT_lt hx hi hj h h20 s, Nat.lt_of_lt_of_le (fact_lt20 (by omega)) (by decide)⟩
theorem wF_lt {xs g : List Nat} (h20 : xs.length ≤ 20) (hg : g.length ≤ xs.length) (m : Nat) : (wF xs g m).1 < 2 ^ 80 ∧ (wF xs g m).2 < 2 ^ 80 := by
  refine ⟨?_, Nat.lt_of_lt_of_le (withB_lt (by omega)) (by decide)⟩
  show withT _ _ _ _ < _
  unfold withT
  split
  · split <;> decide
  · have h1 := Ch_le (g.length - 1) m
    have h2 : 2 ^ (g.length - 1) ≤ 2 ^ 19 := Nat.pow_le_pow_right (by decide) (by omega)
    split
    · have h3 := chI_le ((xs.length : Int) - g.length - 1) ((sumG xs g : Int) - m) (by omega)
      exact Nat.lt_of_le_of_lt (Nat.mul_le_mul (Nat.le_trans h1 h2) h3) (by decide)
    · rw [Nat.mul_zero]; decide
theorem sideF_lt {xs g : List Nat} (h20 : xs.length ≤ 20) : (sideF xs g).1 < 2 ^ 80 ∧ (sideF xs g).2 < 2 ^ 80 := by
  unfold sideF
  split
  · refine ⟨by show 1 < 2 ^ 80; decide, Nat.lt_of_le_of_lt (Ch_le _ _) (Nat.lt_of_le_of_lt (Nat.pow_le_pow_right (by decide) (show xs.length - 2 ≤ 18 by omega)) (by decide))⟩
  · exact ⟨by decide, by decide⟩
theorem cab_lt {xs : List Nat} {e : Nat} (hE : Endy xs e) {v : Nat} (hv : v ∈ hosts xs) : 0 < (cabF xs e v).1 ∧ 0 < (cabF xs e v).2 ∧ (cabF xs e v).1 < 2 ^ 60 ∧ (cabF xs e v).2 < 2 ^ 60 := by
  obtain ⟨h1, h2⟩ := host_mem.mp hv
  have h3 := hE.least
  have h4 := hE.most
  have h5 := hE.good.sum
  have hwx : at' xs v ≤ xs.sum := le_sum (by
    have := List.getElem_mem h1
    rw [← at_of (List.getElem?_eq_getElem h1)] at this
    exact this)
  rw [cab_end hE hv]
  exact ⟨h2, by show 0 < xs.length - 2; omega, Nat.lt_of_le_of_lt hwx (by omega), by show xs.length - 2 < _; omega⟩
theorem sorted_grp {n e : Nat} {g : List Nat} {ns : List Int} (hg : Grp n g) (he : e < n) (h : e ∉ g) (h1 : ns.Perm (grI (g ++ [e]))) (h2 : ns.Pairwise (· ≤ ·)) :
    ∃ g2, ns = grI g2 ∧ Grp n g2 ∧ g2.Perm (g ++ [e]) := by
  have hnn : ∀ k ∈ ns, 0 ≤ k := fun k hk => by
    obtain ⟨u, _, rfl⟩ := List.mem_map.mp (h1.mem_iff.mp hk)
    omega
  have e1 : grI (ns.map Int.toNat) = ns := by
    unfold grI
    rw [List.map_map]
    conv => rhs; rw [← List.map_id ns]
    exact List.map_congr_left fun k hk => by have := hnn k hk; simp; omega
  have hp : (ns.map Int.toNat).Perm (g ++ [e]) := by
    have := h1.map Int.toNat
    unfold grI at this
    rw [List.map_map] at this
    refine this.trans (List.Perm.of_eq ?_)
    conv => rhs; rw [← List.map_id (g ++ [e])]
    exact List.map_congr_left fun k _ => by simp
  have hnd : (ns.map Int.toNat).Nodup := hp.nodup_iff.mpr (List.nodup_append.mpr ⟨grp_nd hg, by simp, fun a ha b hb z => h (by
    have : b = e := by simpa using hb
    rw [← this, ← z]; exact ha)⟩)
  refine ⟨ns.map Int.toNat, e1.symm, ⟨?_, fun v hv => ?_⟩, hp⟩
  · have hle : (ns.map Int.toNat).Pairwise (· ≤ ·) := by
      rw [List.pairwise_map]
      exact h2.imp fun h => Int.toNat_le_toNat h
    exact (List.pairwise_and_iff.mpr ⟨hle, hnd⟩).imp fun h => Nat.lt_of_le_of_ne h.1 h.2
  · have := hp.mem_iff.mp hv
    rcases List.mem_append.mp this with h | h
    · exact hg.lt v h
    · have : v = e := by simpa using h
      omega
theorem sumG_cat {xs g g2 : List Nat} {e : Nat} (h0 : at' xs e = 0) (hp : g2.Perm (g ++ [e])) : sumG xs g2 = sumG xs g ∧ g2.length = g.length + 1 := by
  refine ⟨?_, by rw [hp.length_eq]; simp⟩
  unfold sumG
  rw [perm_sum hp, List.map_append, List.sum_append]
  simp [h0]
end PN
end

section
set_option Elab.async false
set_option linter.all false
set_option autoImplicit false
set_option maxRecDepth 100000
set_option maxHeartbeats 4000000
namespace PN
open PySem PySem.Spec PyProof.Rows L2 DL
local macro_rules | `(tactic| walk_at "ev1") => `(tactic| first
  | with_reducible refine wp_seq ?_ | with_reducible refine wp_ret ?_ | with_reducible refine wp_next ?_ | with_reducible refine wp_if ?_
  | with_reducible refine wp_asg ?_ | with_reducible refine wp_drop ?_
  | with_reducible refine ev_int ?_ | with_reducible refine ev_bl ?_ | with_reducible refine ev_non ?_
  | with_reducible refine ev_add ?_ | with_reducible refine ev_sub ?_ | with_reducible refine ev_mul ?_ | with_reducible refine ev_fdiv ?_ | with_reducible refine ev_mod ?_ | with_reducible refine ev_pow ?_ | with_reducible refine ev_neg ?_
  | with_reducible refine ev_lt ?_ | with_reducible refine ev_le ?_ | with_reducible refine ev_gt ?_ | with_reducible refine ev_ge ?_
  | with_reducible refine ev_eq ?_ | with_reducible refine ev_ne ?_ | with_reducible refine ev_in ?_ | with_reducible refine ev_notin ?_ | with_reducible refine ev_notN ?_
  | with_reducible refine ev_tup ?_ | with_reducible refine ev_lst ?_ | ((with_reducible refine ev_ixO (p := ?p0) (ds0 := ?d0) ?hi ?_); (case hi => rfl)) | with_reducible refine ev_ix ?_ | with_reducible refine ev_cat ?_ | with_reducible refine ev_rep ?_
  | with_reducible refine ev_lele ?_ | with_reducible refine ev_lelt ?_ | with_reducible refine ev_eqeq ?_
  | with_reducible refine ev_andV ?_ | with_reducible refine ev_orV ?_ | with_reducible refine ev_notV ?_ | with_reducible refine ev_if ?_
  | with_reducible refine ev_len ?_ | with_reducible refine ev_sum ?_ | with_reducible refine ev_all ?_ | with_reducible refine ev_sorted ?_ | with_reducible refine ev_max ?_ | with_reducible refine ev_min ?_ | with_reducible refine ev_abs ?_ | with_reducible refine ev_toInt ?_
  | with_reducible refine ev_isi ?_ | with_reducible refine ev_count ?_ | with_reducible refine ev_call ?_ | with_reducible refine ev_slice ?_
  | with_reducible refine evs_nil ?_ | with_reducible refine evs_cons ?_ | with_reducible refine evs_star ?_
  | with_reducible refine et_test ?_ | with_reducible refine et_B ?_ | with_reducible refine et_not ?_ | with_reducible refine et_and ?_ | with_reducible refine et_or ?_ | with_reducible refine et_yes ?_
  | with_reducible refine eo_none ?_ | with_reducible refine eo_some ?_
  | with_reducible refine iteT ?_ | with_reducible refine iteF ?_ | with_reducible refine ifNt ?_ | with_reducible refine ifNf ?_
  | refine ⟨true, isi_int_int _, ?_⟩ | refine ⟨false, isi_int_bool _, ?_⟩ | refine ⟨true, isi_list _, ?_⟩
  | (refine ev_var (by rfl) ?_)
  | refine ⟨_, _, _, rfl, rfl, by rfl, ?_⟩ | refine ⟨_, Or.inl rfl, ?_⟩ | refine ⟨_, Or.inr ⟨_, rfl, rfl⟩, ?_⟩ | refine ⟨_, _, _, Or.inr rfl, rfl, by rfl, ?_⟩ | refine ⟨_, _, _, Or.inl rfl, rfl, plI_at (by assumption), ?_⟩
  | refine ⟨_, rfl, ?_⟩ | refine ⟨_, _, rfl, rfl, ?_⟩ | refine ⟨_, _, rfl, ?_⟩
  | refine And.intro (by first | assumption | omega | (refine szn _ ?_; (first | (simp; done) | (simp; omega)))) ?_)
local macro_rules | `(tactic| walk_at "ev") => `(tactic| repeat (walk_at "ev1"; try dsimp only))
/-- a comprehension over a list of known make -/
theorem ev_lcM {α : Type} {es : List En} {P : PyData → List En → Prop} {te : TE} {tt : TT} {wi : TI} {g : TG} {vs js : List Nat} (hj : ∀ j ∈ js, j ∈ vs) (hs : List α) (A R : α → PyData) (p : α → Bool)
    (h : Iv wi es fun ys es1 => ys = hs.map A ∧ hs.length < sizeLine ∧ (∀ v ∈ hs, Gd g js (A v) (wipeE es1 vs) fun e2 => EvT tt e2 fun b e3 => b = p v ∧ if b = true then Ev te e3 (fun d e4 => d = R v ∧ wipeE e4 vs = wipeE es1 vs) else wipeE e3 vs = wipeE es1 vs) ∧
      P (.list ((hs.filter p).map R)) (wipeE es1 vs)) : Ev (tLc wi g tt te vs) es P := by
  refine ev_lc hj fun H0 F σ ts Hc Q S k => h H0 F σ ts Hc Q S fun J tz ys es1 H1 h1 hY S1 => k J tz ys es1 H1 ⟨by rw [h1.1]; simpa using h1.2.1, fun i acc e => acc = ((hs.take i).filter p).map R ∧ e = wipeE es1 vs, ⟨by simp, rfl⟩, fun i y acc e hy w => ?_, fun acc e w => ?_⟩ hY S1
  · obtain ⟨rfl, rfl⟩ := w
    rw [h1.1, List.getElem?_map] at hy
    cases hv : hs[i]? with
    | none => rw [hv] at hy; cases hy
    | some v =>
    rw [hv] at hy
    cases hy
    have et := take_snoc hv
    intro H0 F σ ts Hc x Q S k
    refine h1.2.2.1 v (List.mem_of_getElem? hv) H0 F σ ts Hc x Q S fun σ' e' ht hw S' => k σ' e' (fun H0 F σ ts Hc Q S k => ht H0 F σ ts Hc Q S fun b e3 H3 h3 S3 => k b e3 H3 ?_ S3) hw S'
    obtain ⟨hb, h3⟩ := h3
    cases b with
    | true =>
      refine iteT (ev_weak (et_and.iteT_inv h3) fun d e4 z => ⟨?_, z.2⟩)
      rw [et, List.filter_append, List.map_append, List.filter_cons, if_pos hb.symm, z.1]; rfl
    | false =>
      have z := et_and.iteF_inv h3
      refine iteF ⟨?_, z⟩
      rw [et, List.filter_append, List.map_append, List.filter_cons, if_neg (by rw [← hb]; simp)]; simp
  · obtain ⟨rfl, rfl⟩ := w
    rw [h1.1, List.length_map, List.take_length]
    exact h1.2.2.2
theorem ev_lcA {α : Type} {es : List En} {P : PyData → List En → Prop} {te : TE} {wi : TI} {g : TG} {vs js : List Nat} (hj : ∀ j ∈ js, j ∈ vs) (hs : List α) (A R : α → PyData)
    (h : Iv wi es fun ys es1 => ys = hs.map A ∧ hs.length < sizeLine ∧ (∀ v ∈ hs, Gd g js (A v) (wipeE es1 vs) fun e2 => Ev te e2 fun d e4 => d = R v ∧ wipeE e4 vs = wipeE es1 vs) ∧
      P (.list (hs.map R)) (wipeE es1 vs)) : Ev (tLc wi g tYes te vs) es P := by
  refine ev_lcM hj hs A R (fun _ => true) fun H0 F σ ts Hc Q S k => h H0 F σ ts Hc Q S fun J tz ys es1 H1 h1 hY S1 => k J tz ys es1 H1 ⟨h1.1, h1.2.1, fun v hv => ?_, ?_⟩ hY S1
  · intro H0 F σ ts Hc x Q S k
    exact h1.2.2.1 v hv H0 F σ ts Hc x Q S fun σ' e' ht hw S' => k σ' e' (et_yes ⟨rfl, iteT ht⟩) hw S'
  · have e : hs.filter (fun _ => true) = hs := List.filter_eq_self.mpr fun _ _ => rfl
    rw [e]
    exact h1.2.2.2
theorem zip_map {α : Type} (hs : List α) (A B : α → PyData) : zipD (hs.map A) (hs.map B) = hs.map fun v => .tuple [A v, B v] := by
  unfold zipD
  rw [List.zip_map', List.map_map]; rfl
theorem ne_go {d e : PyData} {k : Nat} {X Y : Prop} (h : d = e) (hs : Shp k d) (hk : k ≤ 64) (y : Y) : SeqAt.shaped d = true ∧ SeqAt.shaped e = true ∧ ∃ b, PyData.bool (!PyData.eqv d e) = .bool b ∧ if b = true then X else Y := by
  subst h
  rw [eqv_same hs]
  exact ⟨hs.ok hk, hs.ok hk, _, rfl, iteF y⟩
theorem shp_low (p : Nat × Nat) : Shp 1 (lowD p) := shp_fr _
theorem host_len {xs : List Nat} (h : xs.length ≤ 20) : (hosts xs).length ≤ 20 := by
  unfold hosts
  refine Nat.le_trans (List.length_filter_le _ _) ?_
  rw [List.length_range]; exact h
theorem map_get {α : Type} {l : List α} {f : α → PyData} {i : Nat} {y : PyData} (h : (l.map f)[i]? = some y) : ∃ v, l[i]? = some v ∧ y = f v := by
  rw [List.getElem?_map] at h
  cases hv : l[i]? with
  | none => rw [hv] at h; cases h
  | some v => rw [hv] at h; cases h; exact ⟨v, rfl, rfl⟩
theorem mem_grI {v : Nat} {g : List Nat} : (v : Int) ∈ grI g ↔ v ∈ g := by
  unfold grI
  rw [List.mem_map]
  constructor
  · rintro ⟨u, hu, h⟩
    have : u = v := by omega
    exact this ▸ hu
  · exact fun h => ⟨v, h, rfl⟩
theorem bd_l_group_right {K : PySem.W.Frag} : ∀ ds P0, S_l_group_right ds P0 → Wp (t_l_group_right K) (retD P0) (DL.envOf n_l_group_right ds) := by
  rintro ds P0 ⟨xs, e, g, rfl, hE, hg, heg, h1, hp⟩
  have hsl := sizeLine_eq
  have hmost := hE.most
  have hleast := hE.least
  have hgl := grp_le hg
  have hhl := host_len hE.most
  have hzip : zipD ((grI (hosts xs)).map .int) ((hosts xs).map fun v => plD (dropE xs e v)) = (hosts xs).map fun (v : Nat) => PyData.tuple [.int (v : Int), plD (dropE xs e v)] := by
    unfold grI
    rw [List.map_map]
    exact zip_map (hosts xs) (fun (v : Nat) => PyData.int (v : Int)) fun v => plD (dropE xs e v)
  have hdl : ∀ v, (dropE xs e v).length = xs.length - 1 := fun v => by have := drop_len hE.lt v; omega
  have hgd : ∀ v ∈ hosts xs, Good (dropE xs e v) ∧ Grp (dropE xs e v).length (g.map (nm e)) := fun v hv => ⟨drop_good hE hv, grp_nm hE.lt hg heg v⟩
  have hwpos : ∀ v ∈ hosts xs, ∀ m, 0 < (wF (dropE xs e v) (g.map (nm e)) m).2 ∧ (wF (dropE xs e v) (g.map (nm e)) m).1 < 2 ^ 80 ∧ (wF (dropE xs e v) (g.map (nm e)) m).2 < 2 ^ 80 := fun v hv m => by
    obtain ⟨a1, a2⟩ := hgd v hv
    have a3 := wF_lt (xs := dropE xs e v) (g := g.map (nm e)) (by rw [hdl]; omega) (grp_le a2) m
    exact ⟨within_pos a2 a1 m, a3.1, a3.2⟩
  unfold t_l_group_right
  refine wp_seq (wp_asg (ev_call (evs_cons (ev_var (by rfl) (evs_cons (ev_var (by rfl) (evs_nil ⟨g, e, rfl, by omega, ?_⟩)))))))
  -- within
  refine wp_seq (wp_if (et_test (ev_ne (ev_call (evs_cons (ev_var (by rfl) (evs_cons (ev_var (by rfl) (evs_nil ⟨xs, g, rfl, hE.good, hg, h1, ?_⟩)))))))))
  refine ev_call (evs_cons (ev_var (by rfl) (evs_cons (ev_lcA (js := [9]) (by simp) (hosts xs) (fun v => plD (dropE xs e v)) (fun v => rowsD (rows (wF (dropE xs e v) (g.map (nm e))) g.length)) (iv_list (ev_var (by rfl) ⟨_, rfl, rfl, by omega, fun v hv => gd_name ?_, ?_⟩))))))
  · obtain ⟨a1, a2⟩ := hgd v hv
    refine ev_call (evs_cons (ev_var (by rfl) (evs_cons (ev_var (by rfl) (evs_nil ⟨dropE xs e v, g.map (nm e), rfl, a1, a2, by rw [List.length_map]; exact h1, ?_, rfl⟩)))))
    show rowsD (rows (wF (dropE xs e v) (g.map (nm e))) (g.map (nm e)).length) = _
    rw [List.length_map]
  refine evs_nil ⟨(hosts xs).map fun v => (cabF xs e v, wF (dropE xs e v) (g.map (nm e))), g.length, by unfold sharesD; rw [List.map_map, List.map_map]; rfl, by rw [List.length_map]; omega, by omega, fun q hq => ?_, ?_⟩
  · obtain ⟨v, hv, rfl⟩ := List.mem_map.mp hq
    obtain ⟨b1, b2, b3, b4⟩ := cab_lt hE hv
    exact ⟨b1, b2, b3, b4, hwpos v hv⟩
  have hw : rows (fun m => frSum (((hosts xs).map fun v => (cabF xs e v, wF (dropE xs e v) (g.map (nm e)))).map fun q => (q.1.1 * (q.2 m).1, q.1.2 * (q.2 m).2))) g.length = rows (wF xs g) g.length := by
    refine rows_congr fun m _ => ?_
    rw [mix_map]
    exact ⟨mix_pos hE fun v hv => (hwpos v hv m).1, within_pos hg hE.good m, (within_ratio hE hg heg h1 m).symm⟩
  refine ne_go (k := 2) ?_ (shp_rows _) (by decide) (wp_next ?_)
  · show rowsD (rows (wF xs g) g.length) = _
    rw [hw]
  -- together
  refine wp_seq (wp_asg (ev_lcA (js := [9]) (by simp) (hosts xs) (fun v => plD (dropE xs e v)) (fun v => lowD (wF (dropE xs e v) (g.map (nm e)) (g.length - 1))) (iv_list (ev_var (by rfl) ⟨_, rfl, rfl, by omega, fun v hv => gd_name ?_, ?_⟩))))
  · obtain ⟨a1, a2⟩ := hgd v hv
    refine ev_call (evs_cons (ev_var (by rfl) (evs_cons (ev_var (by rfl) (evs_nil ⟨dropE xs e v, g.map (nm e), rfl, a1, a2, by rw [List.length_map]; exact h1, ?_, rfl⟩)))))
    show lowD (wF (dropE xs e v) (g.map (nm e)) ((g.map (nm e)).length - 1)) = _
    rw [List.length_map]
  refine wp_seq (wp_if (et_test (ev_ne (ev_call (evs_cons (ev_var (by rfl) (evs_cons (ev_var (by rfl) (evs_nil ⟨xs, g, rfl, hE.good, hg, h1, ?_⟩)))))))))
  refine ev_call (evs_cons (ev_var (by rfl) (evs_cons (ev_var (by rfl) (evs_nil ⟨(hosts xs).map fun v => (cabF xs e v, wF (dropE xs e v) (g.map (nm e)) (g.length - 1)), by unfold sharesD; rw [List.map_map, List.map_map]; rfl, by rw [List.length_map]; omega, fun q hq => ?_, ?_⟩)))))
  · obtain ⟨v, hv, rfl⟩ := List.mem_map.mp hq
    obtain ⟨b1, b2, b3, b4⟩ := cab_lt hE hv
    exact ⟨b2, b3, b4, hwpos v hv _⟩
  rw [mix_map1]
  refine ne_go (k := 1) ?_ (shp_fr _) (by decide) (wp_next ?_)
  · show lowD (wF xs g (g.length - 1)) = _
    unfold lowD
    rw [low_eq (within_pos hg hE.good _) (mix_pos hE fun v hv => (hwpos v hv _).1) (within_ratio hE hg heg h1 _)]
  -- the sides that the end is not in
  have hspos : ∀ v ∈ hosts xs, 0 < (sideF (dropE xs e v) (g.map (nm e))).2 ∧ (sideF (dropE xs e v) (g.map (nm e))).1 < 2 ^ 80 ∧ (sideF (dropE xs e v) (g.map (nm e))).2 < 2 ^ 80 := fun v hv => by
    obtain ⟨a1, a2⟩ := hgd v hv
    have a3 := sideF_lt (xs := dropE xs e v) (g := g.map (nm e)) (by rw [hdl]; omega)
    exact ⟨sideF_pos _ _ a1, a3.1, a3.2⟩
  have hl01 : PyData.tuple [.int 0, .int 1] = lowD (0, 1) := by unfold lowD; rw [low_nil 1 (by decide)]; rfl
  have hl11 : PyData.tuple [.int 1, .int 1] = lowD (1, 1) := by unfold lowD; rw [low_one 1]; rfl
  refine wp_seq (wp_asgN (en_lst (evs_nil ⟨szn _ (by simp), fun q => ?_⟩)))
  refine wp_seq (wp_for (js := [8, 9]) (iv_zip (evs_cons (ev_var (by rfl) (evs_cons (ev_var (by rfl) (evs_nil ⟨_, _, rfl, ?_⟩)))))))
  rw [hzip]
  refine ⟨fun i e' => ∃ x8 x9 : En, e' = [.dat (plD xs), .dat (.int (e : Int)), .dat (hostsD xs), .dat (lesserD xs e), .dat (sharesD xs e), .dat (grD g), .dat (grD (g.map (nm e))),
    .own q (.lst (((hosts xs).take i).map fun v => lowD (if v ∈ g then (0, 1) else sideF (dropE xs e v) (g.map (nm e))))), x8, x9, .no], ⟨.no, .no, rfl⟩, fun i y e' hy => ?_, fun e' => ?_⟩
  · rintro ⟨x8, x9, rfl⟩
    obtain ⟨v, hi, rfl⟩ := map_get hy
    have hv := List.mem_of_getElem? hi
    obtain ⟨a1, a2⟩ := hgd v hv
    refine gd_tup (by rfl) (gds_cons (gd_name (gds_cons (gd_name (gds_nil ?_)))))
    refine wp_append (by rfl) (ev_if (et_test (ev_in (ev_var (by rfl) (ev_var (by rfl) ⟨_, _, rfl, .inl rfl, _, rfl, ?_⟩)))))
    have hal : (((hosts xs).take i).map fun v => lowD (if v ∈ g then (0, 1) else sideF (dropE xs e v) (g.map (nm e)))).length < sizeLine := by
      rw [List.length_map, List.length_take]; omega
    refine ifD (fun hb => ?_) (fun hb => ?_)
    · have hb := mem_grI.mp hb
      refine ev_tup (evs_cons (ev_int (evs_cons (ev_int (evs_nil ⟨szn _ (by simp), _, by rfl, hal, .dat (.int (v : Int)), .dat (plD (dropE xs e v)), ?_⟩)))))
      rw [hl01, take_snoc hi, List.map_append, List.map_cons, if_pos hb]; rfl
    · have hb := fun h => hb (mem_grI.mpr h)
      refine ev_call (evs_cons (ev_var (by rfl) (evs_cons (ev_var (by rfl) (evs_nil ⟨dropE xs e v, g.map (nm e), rfl, a1, a2, by rw [List.length_map]; exact h1, _, by rfl, hal, .dat (.int (v : Int)), .dat (plD (dropE xs e v)), ?_⟩)))))
      rw [take_snoc hi, List.map_append, List.map_cons, if_neg hb]; rfl
  rintro ⟨x8, x9, rfl⟩
  rw [List.length_map, List.take_length]
  refine wp_freeze (i := 7) (by rfl) ?_
  have hdue : ∀ d : PyData, d = lowD (sideF xs g) → Wp (tSeq (tIfS (tTest (tOp (rNeD K) (tCall (spP S_side_share) [] E0 (tCons (tVar 0) (tCons (tVar 5) tNil))) (tVar 10))) (tRet (tC (.bl false))) tNext)
    (tSeq (tAsg (tLst tNil) (gName 7))
    (tSeq (tFor (iZip K (tCons (tVar 2) (tCons (tVar 3) tNil))) (gTup K 2 (gCons (gName 8) (gCons (gName 9) gNil))) (tDrop (tBM K "list" rAppend (tVar 7) (tCons (tIf (tTest (tOp (rIn K false) (tVar 8) (tVar 5))) (tCall (spP S_side_share) [] E0 (tCons (tVar 9) (tCons (tVar 6) tNil))) (tTup (tCons (tC (.int 0)) (tCons (tC (.int 1)) tNil)))) tNil))))
    (tRet (tOp (rEqD K) (tCall (spP S_side_share) [] E0 (tCons (tVar 0) (tCons (tCB (rSortedI K) (tCons (tOp rCat (tVar 5) (tLst (tCons (tVar 1) tNil))) tNil)) tNil))) (tCall (spP S_l_weighed) [] E0 (tCons (tVar 4) (tCons (tVar 7) tNil)))))))) (retD P0)
      [.dat (plD xs), .dat (.int (e : Int)), .dat (hostsD xs), .dat (lesserD xs e), .dat (sharesD xs e), .dat (grD g), .dat (grD (g.map (nm e))), .dat (.list ((hosts xs).map fun v => lowD (if v ∈ g then (0, 1) else sideF (dropE xs e v) (g.map (nm e))))), x8, x9, .dat d] := by
    rintro d rfl
    refine wp_seq (wp_if (et_test (ev_ne (ev_call (evs_cons (ev_var (by rfl) (evs_cons (ev_var (by rfl) (evs_nil ⟨xs, g, rfl, hE.good, hg, h1, ?_⟩)))))))))
    refine ev_var (by rfl) (ne_go (k := 1) rfl (shp_fr _) (by decide) (wp_next ?_))
    refine wp_seq (wp_asgN (en_lst (evs_nil ⟨szn _ (by simp), fun q => ?_⟩)))
    refine wp_seq (wp_for (js := [8, 9]) (iv_zip (evs_cons (ev_var (by rfl) (evs_cons (ev_var (by rfl) (evs_nil ⟨_, _, rfl, ?_⟩)))))))
    rw [hzip]
    refine ⟨fun i e' => ∃ x8 x9 : En, e' = [.dat (plD xs), .dat (.int (e : Int)), .dat (hostsD xs), .dat (lesserD xs e), .dat (sharesD xs e), .dat (grD g), .dat (grD (g.map (nm e))),
      .own q (.lst (((hosts xs).take i).map fun v => lowD (if v ∈ g then sideF (dropE xs e v) (g.map (nm e)) else (0, 1)))), x8, x9, .dat (lowD (sideF xs g))], ⟨x8, x9, rfl⟩, fun i y e' hy => ?_, fun e' => ?_⟩
    · rintro ⟨x8, x9, rfl⟩
      obtain ⟨v, hi, rfl⟩ := map_get hy
      have hv := List.mem_of_getElem? hi
      obtain ⟨a1, a2⟩ := hgd v hv
      refine gd_tup (by rfl) (gds_cons (gd_name (gds_cons (gd_name (gds_nil ?_)))))
      refine wp_append (by rfl) (ev_if (et_test (ev_in (ev_var (by rfl) (ev_var (by rfl) ⟨_, _, rfl, .inl rfl, _, rfl, ?_⟩)))))
      have hal : (((hosts xs).take i).map fun v => lowD (if v ∈ g then sideF (dropE xs e v) (g.map (nm e)) else (0, 1))).length < sizeLine := by
        rw [List.length_map, List.length_take]; omega
      refine ifD (fun hb => ?_) (fun hb => ?_)
      · have hb := mem_grI.mp hb
        refine ev_call (evs_cons (ev_var (by rfl) (evs_cons (ev_var (by rfl) (evs_nil ⟨dropE xs e v, g.map (nm e), rfl, a1, a2, by rw [List.length_map]; exact h1, _, by rfl, hal, .dat (.int (v : Int)), .dat (plD (dropE xs e v)), ?_⟩)))))
        rw [take_snoc hi, List.map_append, List.map_cons, if_pos hb]; rfl
      · have hb := fun h => hb (mem_grI.mpr h)
        refine ev_tup (evs_cons (ev_int (evs_cons (ev_int (evs_nil ⟨szn _ (by simp), _, by rfl, hal, .dat (.int (v : Int)), .dat (plD (dropE xs e v)), ?_⟩)))))
        rw [hl01, take_snoc hi, List.map_append, List.map_cons, if_neg hb]; rfl
    rintro ⟨x8, x9, rfl⟩
    rw [List.length_map, List.take_length]
    refine wp_freeze (i := 7) (by rfl) ?_
    refine wp_ret (ev_eq (ev_call (evs_cons (ev_var (by rfl) (evs_cons (ev_sorted (ev_cat (ev_var (by rfl) (ev_lst (evs_cons (ev_var (by rfl) (evs_nil ⟨szn _ (by simp), _, _, rfl, rfl, ?_, grI g ++ [(e : Int)], by rw [List.map_append]; rfl, fun ns hp1 hp2 => ?_⟩))))))))))))
    · rw [grI_mlen]; simp; omega
    have hcat : grI g ++ [(e : Int)] = grI (g ++ [e]) := by unfold grI; rw [List.map_append]; rfl
    rw [hcat] at hp1
    obtain ⟨g2, rfl, hg2, hperm⟩ := sorted_grp hg hE.lt heg hp1 hp2
    obtain ⟨hX2, hl2⟩ := sumG_cat hE.zero hperm
    refine evs_nil ⟨xs, g2, rfl, hE.good, hg2, by omega, ?_⟩
    refine ev_call (evs_cons (ev_var (by rfl) (evs_cons (ev_var (by rfl) (evs_nil ⟨(hosts xs).map fun v => (cabF xs e v, if v ∈ g then sideF (dropE xs e v) (g.map (nm e)) else (0, 1)), by unfold sharesD; rw [List.map_map, List.map_map]; rfl, by rw [List.length_map]; omega, fun q hq => ?_, ?_⟩)))))
    · obtain ⟨v, hv, rfl⟩ := List.mem_map.mp hq
      obtain ⟨b1, b2, b3, b4⟩ := cab_lt hE hv
      refine ⟨b2, b3, b4, ?_⟩
      show 0 < (if v ∈ g then sideF (dropE xs e v) (g.map (nm e)) else (0, 1)).2 ∧ (if v ∈ g then sideF (dropE xs e v) (g.map (nm e)) else (0, 1)).1 < 2 ^ 80 ∧ (if v ∈ g then sideF (dropE xs e v) (g.map (nm e)) else (0, 1)).2 < 2 ^ 80
      split
      · exact hspos v hv
      · exact ⟨by decide, by decide, by decide⟩
    rw [mix_map1]
    have hfin : lowD (sideF xs g2) = lowD (mixF xs e fun v => if v ∈ g then sideF (dropE xs e v) (g.map (nm e)) else (0, 1)) := by
      unfold lowD
      rw [low_eq (sideF_pos _ _ hE.good) (mix_pos hE fun v hv => by
        split
        · exact (hspos v hv).1
        · exact Nat.one_pos) (side_in hE hg heg h1 hl2 hX2)]
    rw [hfin]
    refine ⟨(shp_fr _).ok (by decide), (shp_fr _).ok (by decide), ?_⟩
    rw [eqv_same (shp_low _)]
    exact hp
  refine wp_seq (wp_asg (ev_if (et_test (ev_eq (ev_len (ev_var (by rfl) ?_))))))
  refine ⟨_, rfl, ev_sub (ev_len (ev_var (by rfl) ⟨_, rfl, ev_int ⟨_, _, rfl, rfl, (shp_int _).ok (by decide), (shp_int _).ok (by decide), _, rfl, ?_⟩⟩))⟩
  rw [eqv_int, grI_mlen, plI_mlen]
  refine ifD (fun hb => ?_) (fun hb => ?_)
  · refine ev_tup (evs_cons (ev_int (evs_cons (ev_int (evs_nil ⟨szn _ (by simp), ?_⟩)))))
    exact hdue _ (by rw [hl11, side_all hE hg heg (by omega)])
  · refine ev_call (evs_cons (ev_var (by rfl) (evs_cons (ev_var (by rfl) (evs_nil ⟨(hosts xs).map fun v => (cabF xs e v, if v ∈ g then (0, 1) else sideF (dropE xs e v) (g.map (nm e))), by unfold sharesD; rw [List.map_map, List.map_map]; rfl, by rw [List.length_map]; omega, fun q hq => ?_, ?_⟩)))))
    · obtain ⟨v, hv, rfl⟩ := List.mem_map.mp hq
      obtain ⟨b1, b2, b3, b4⟩ := cab_lt hE hv
      refine ⟨b2, b3, b4, ?_⟩
      show 0 < (if v ∈ g then (0, 1) else sideF (dropE xs e v) (g.map (nm e))).2 ∧ (if v ∈ g then (0, 1) else sideF (dropE xs e v) (g.map (nm e))).1 < 2 ^ 80 ∧ (if v ∈ g then (0, 1) else sideF (dropE xs e v) (g.map (nm e))).2 < 2 ^ 80
      split
      · exact ⟨by decide, by decide, by decide⟩
      · exact hspos v hv
    rw [mix_map1]
    refine hdue _ ?_
    have hlt : g.length + 1 < xs.length := by
      have hnd : (e :: g).Nodup := List.nodup_cons.mpr ⟨heg, grp_nd hg⟩
      have hsub : (e :: g) ⊆ List.range xs.length := fun w hw => by
        rw [List.mem_range]
        rcases List.mem_cons.mp hw with rfl | hw
        · exact hE.lt
        · exact hg.lt w hw
      have := hnd.length_le_of_subset hsub
      simp at this
      omega
    unfold lowD
    rw [low_eq (sideF_pos _ _ hE.good) (mix_pos hE fun v hv => by
      split
      · exact Nat.one_pos
      · exact (hspos v hv).1) (side_out hE hg heg h1 hlt)]
end PN
end

section
set_option Elab.async false
set_option linter.all false
set_option autoImplicit false
set_option maxRecDepth 100000
set_option maxHeartbeats 4000000
namespace PN
open PySem PySem.Spec PyProof.Rows L2 DL
local macro_rules | `(tactic| walk_at "ev1") => `(tactic| first
  | with_reducible refine wp_seq ?_ | with_reducible refine wp_ret ?_ | with_reducible refine wp_next ?_ | with_reducible refine wp_if ?_
  | with_reducible refine wp_asg ?_ | with_reducible refine wp_drop ?_
  | with_reducible refine ev_int ?_ | with_reducible refine ev_bl ?_ | with_reducible refine ev_non ?_
  | with_reducible refine ev_add ?_ | with_reducible refine ev_sub ?_ | with_reducible refine ev_mul ?_ | with_reducible refine ev_fdiv ?_ | with_reducible refine ev_mod ?_ | with_reducible refine ev_pow ?_ | with_reducible refine ev_neg ?_
  | with_reducible refine ev_lt ?_ | with_reducible refine ev_le ?_ | with_reducible refine ev_gt ?_ | with_reducible refine ev_ge ?_
  | with_reducible refine ev_eq ?_ | with_reducible refine ev_ne ?_ | with_reducible refine ev_in ?_ | with_reducible refine ev_notin ?_ | with_reducible refine ev_notN ?_
  | with_reducible refine ev_tup ?_ | with_reducible refine ev_lst ?_ | ((with_reducible refine ev_ixO (p := ?p0) (ds0 := ?d0) ?hi ?_); (case hi => rfl)) | with_reducible refine ev_ix ?_ | with_reducible refine ev_cat ?_ | with_reducible refine ev_rep ?_
  | with_reducible refine ev_lele ?_ | with_reducible refine ev_lelt ?_ | with_reducible refine ev_eqeq ?_
  | with_reducible refine ev_andV ?_ | with_reducible refine ev_orV ?_ | with_reducible refine ev_notV ?_ | with_reducible refine ev_if ?_
  | with_reducible refine ev_len ?_ | with_reducible refine ev_sum ?_ | with_reducible refine ev_all ?_ | with_reducible refine ev_sorted ?_ | with_reducible refine ev_max ?_ | with_reducible refine ev_min ?_ | with_reducible refine ev_abs ?_ | with_reducible refine ev_toInt ?_
  | with_reducible refine ev_isi ?_ | with_reducible refine ev_count ?_ | with_reducible refine ev_call ?_ | with_reducible refine ev_slice ?_
  | with_reducible refine evs_nil ?_ | with_reducible refine evs_cons ?_ | with_reducible refine evs_star ?_
  | with_reducible refine et_test ?_ | with_reducible refine et_B ?_ | with_reducible refine et_not ?_ | with_reducible refine et_and ?_ | with_reducible refine et_or ?_ | with_reducible refine et_yes ?_
  | with_reducible refine eo_none ?_ | with_reducible refine eo_some ?_
  | with_reducible refine iteT ?_ | with_reducible refine iteF ?_ | with_reducible refine ifNt ?_ | with_reducible refine ifNf ?_
  | refine ⟨true, isi_int_int _, ?_⟩ | refine ⟨false, isi_int_bool _, ?_⟩ | refine ⟨true, isi_list _, ?_⟩
  | (refine ev_var (by rfl) ?_)
  | refine ⟨_, _, _, rfl, rfl, by rfl, ?_⟩ | refine ⟨_, Or.inl rfl, ?_⟩ | refine ⟨_, Or.inr ⟨_, rfl, rfl⟩, ?_⟩ | refine ⟨_, _, _, Or.inr rfl, rfl, by rfl, ?_⟩ | refine ⟨_, _, _, Or.inl rfl, rfl, plI_at (by assumption), ?_⟩
  | refine ⟨_, rfl, ?_⟩ | refine ⟨_, _, rfl, rfl, ?_⟩ | refine ⟨_, _, rfl, ?_⟩
  | refine And.intro (by first | assumption | omega | (refine szn _ ?_; (first | (simp; done) | (simp; omega)))) ?_)
local macro_rules | `(tactic| walk_at "ev") => `(tactic| repeat (walk_at "ev1"; try dsimp only))
theorem atI_zero (x : PyData) (l : List PyData) : atI (x :: l) 0 = some x := atI_nat (xs := x :: l) (j := 0) rfl
theorem aro_pos (xs : List Nat) (w : Nat) (g : List Nat) : 0 < (aroF xs w g).2 := by
  unfold aroF
  split
  · exact Nat.one_pos
  · exact fact_pos _
theorem cab_comm {xs : List Nat} {i j : Nat} : cabF xs i j = cabF xs j i := by
  unfold cabF
  by_cases h : i = j
  · rw [if_pos h, if_pos h.symm]
  · rw [if_neg h, if_neg (Ne.symm h), Nat.add_comm]
theorem low_lows {p q : Nat × Nat} (hp : 0 < p.2) (hq : 0 < q.2) : low ((low p).1 * (low q).1, (low p).2 * (low q).2) = low (p.1 * q.1, p.2 * q.2) :=
  low_eq (Nat.mul_pos (low_pos hp) (low_pos hq)) (Nat.mul_pos hp hq) low_prod
theorem cut_grI (g : List Nat) (lo hi : Option Int) : ∃ som : List Nat, som.Sublist g ∧ DL.cutD ((grI g).map PyData.int) lo hi = (grI som).map .int := by
  unfold DL.cutD
  refine ⟨(g.drop (HT.sIx ((grI g).map PyData.int).length 0 lo)).take (HT.sIx ((grI g).map PyData.int).length ((grI g).map PyData.int).length hi - HT.sIx ((grI g).map PyData.int).length 0 lo), (List.take_sublist _ _).trans (List.drop_sublist _ _), ?_⟩
  unfold grI
  simp only [List.map_drop, List.map_take, List.map_map]
theorem Grp.sub {n : Nat} {g s : List Nat} (hg : Grp n g) (h : s.Sublist g) : Grp n s := ⟨hg.asc.sublist h, fun v hv => hg.lt v (h.subset hv)⟩
theorem range_map (n : Nat) : rangeD 0 n = (List.range n).map fun (u : Nat) => PyData.int (u : Int) := by
  unfold rangeD
  exact List.map_congr_left fun u _ => by rw [Int.zero_add]
theorem host_some {xs : List Nat} {e : Nat} (hE : Endy xs e) : ∃ w hs, hosts xs = w :: hs := by
  cases h : hosts xs with
  | nil =>
    have := host_total hE
    rw [h] at this
    have := hE.least
    simp at *
    omega
  | cons w hs => exact ⟨w, hs, rfl⟩
set_option exponentiation.threshold 9000 in
theorem bd_l_around_right {K : PySem.W.Frag} : ∀ ds P0, S_l_around_right ds P0 → Wp (t_l_around_right K) (retD P0) (DL.envOf n_l_around_right ds) := by
  rintro ds P0 ⟨xs, e, rfl, hE, hp⟩
  have hsl := sizeLine_eq
  have hmost := hE.most
  have hleast := hE.least
  have hsum := hE.good.sum
  obtain ⟨w, hs, hws⟩ := host_some hE
  have hw : w ∈ hosts xs := by rw [hws]; simp
  obtain ⟨hw1, hw2⟩ := host_mem.mp hw
  have hwe : w ≠ e := fun z => by rw [z, hE.zero] at hw2; omega
  have eh : hostsD xs = .list (.int (w : Int) :: (grI hs).map .int) := by unfold hostsD grD; rw [hws]; rfl
  have el : lesserD xs e = .list (plD (dropE xs e w) :: hs.map fun v => plD (dropE xs e v)) := by unfold lesserD; rw [hws]; rfl
  have hdl : (dropE xs e w).length = xs.length - 1 := by have := drop_len hE.lt w; omega
  have hat : at' (dropE xs e w) (nm e w) = at' xs w - 1 := by rw [drop_at hw1 hwe, if_pos rfl]
  have hnw := nm_lt hE.lt hw1 hwe
  rw [eh, el]
  unfold t_l_around_right
  refine wp_seq (wp_asg (ev_ix (ev_var (by rfl) (ev_int ⟨_, _, _, .inl rfl, rfl, atI_zero _ _, ?_⟩))))
  refine wp_seq (wp_par (evs_cons (ev_ix (ev_var (by rfl) (ev_int ⟨_, _, _, .inl rfl, rfl, atI_zero _ _, ?_⟩)))))
  refine evs_cons (ev_lcM (js := [12]) (by simp) (List.range xs.length) (fun (u : Nat) => PyData.int (u : Int)) (fun (u : Nat) => PyData.int (u : Int)) (fun u => decide (u ≠ w ∧ u ≠ e)) (iv_range1 (evs_cons (ev_len (ev_var (by rfl) ⟨_, rfl, evs_nil ⟨_, rfl, ?_, ?_, ?_⟩⟩)))))
  · omega
  · rw [plI_mlen]; omega
  rw [plI_mlen, Int.toNat_natCast]
  refine ⟨range_map _, by rw [List.length_range]; omega, fun u hu => gd_name ?_, ?_⟩
  · refine et_test (ev_notin (ev_var (by rfl) (ev_tup (evs_cons (ev_var (by rfl) (evs_cons (ev_var (by rfl) (evs_nil ⟨szn _ (by simp), ?_⟩))))))))
    refine ⟨_, [(w : Int), (e : Int)], rfl, .inr rfl, _, rfl, ?_, ?_⟩
    · by_cases h : u ≠ w ∧ u ≠ e
      · have : ¬ ((u : Int) ∈ [(w : Int), (e : Int)]) := by simp; omega
        rw [decide_eq_false this, decide_eq_true h]; rfl
      · have : ((u : Int) ∈ [(w : Int), (e : Int)]) := by simp; omega
        rw [decide_eq_true this, decide_eq_false h]; rfl
    · split
      · exact ev_var (by rfl) ⟨rfl, rfl⟩
      · rfl
  have hoth : ((List.range xs.length).filter fun u => decide (u ≠ w ∧ u ≠ e)).map (fun (u : Nat) => PyData.int (u : Int)) = (grI ((List.range xs.length).filter fun u => decide (u ≠ w ∧ u ≠ e))).map .int := by unfold grI; rw [List.map_map]; rfl
  rw [hoth]
  have hogrp : Grp xs.length ((List.range xs.length).filter fun u => decide (u ≠ w ∧ u ≠ e)) := ⟨List.Pairwise.filter _ List.pairwise_lt_range, fun v hv => List.mem_range.mp (List.mem_filter.mp hv).1⟩
  have honot : ∀ v ∈ (List.range xs.length).filter (fun u => decide (u ≠ w ∧ u ≠ e)), v ≠ w ∧ v ≠ e := fun v hv => by simpa using (List.mem_filter.mp hv).2
  generalize (List.range xs.length).filter (fun u => decide (u ≠ w ∧ u ≠ e)) = oth at *
  refine evs_nil ⟨_, _, rfl, ?_⟩
  refine wp_seq (wp_asg (ev_call (evs_cons (ev_var (by rfl) (evs_cons (ev_var (by rfl) (evs_cons (ev_var (by rfl) (evs_nil ⟨xs, w, e, rfl, hE.good, by omega, hw1, hE.lt, ?_⟩)))))))))
  rw [cab_comm]
  refine wp_seq (wp_for (js := [8]) (iv_range1 (evs_cons (ev_int (evs_nil ⟨_, rfl, by omega, by omega, ?_⟩)))))
  refine ⟨fun i e' => ∃ x8 x9 x10 x11 : En, e' = [.dat (plD xs), .dat (.int (e : Int)), .dat (.list (.int (w : Int) :: (grI hs).map .int)), .dat (.list (plD (dropE xs e w) :: hs.map fun v => plD (dropE xs e v))), .dat (.int (w : Int)), .dat (plD (dropE xs e w)), .dat (grD oth), .dat (lowD (cabF xs e w)), x8, x9, x10, x11, .no],
    ⟨.no, .no, .no, .no, rfl⟩, fun i y e' hy => ?_, fun e' => ?_⟩
  · rintro ⟨x8, x9, x10, x11, rfl⟩
    obtain ⟨hi, rfl⟩ := rangeD_get hy
    refine gd_name ?_
    refine wp_seq (wp_asg (ev_slice (ev_var (by rfl) (eo_some (ev_var (by rfl) ⟨_, rfl, eo_some (ev_sub (ev_add (ev_var (by rfl) (ev_ix (ev_var (by rfl) (ev_var (by rfl) ⟨_, _, _, .inl rfl, rfl, plI_at hw1, _, _, rfl, rfl, ev_int ⟨_, _, rfl, rfl, _, rfl, _, rfl, ?_⟩⟩))))))⟩)))))
    obtain ⟨som, hsub, hcut⟩ := cut_grI oth (some (0 + (i : Int))) (some (0 + (i : Int) + ((at' xs w : Int) + 1) - 1))
    rw [hcut]
    have hsg := hogrp.sub hsub
    have hsgl := grp_le hsg
    have hsn : ∀ v ∈ som, v ≠ w ∧ v ≠ e := fun v hv => honot v (hsub.subset hv)
    refine wp_if (et_test (ev_eq (ev_len (ev_var (by rfl) ⟨_, rfl, ev_sub (ev_ix (ev_var (by rfl) (ev_var (by rfl) ⟨_, _, _, .inl rfl, rfl, plI_at hw1, ?_⟩)))⟩))))
    refine ev_int ⟨_, _, rfl, rfl, (shp_int _).ok (by decide), (shp_int _).ok (by decide), _, rfl, ?_⟩
    rw [eqv_int, grI_mlen]
    refine ifD (fun hb => ?_) (fun hb => wp_next ⟨_, _, x10, x11, rfl⟩)
    have hlen : som.length = at' xs w := by omega
    have hwn : nm e w ∉ som.map (nm e) := fun h => by
      obtain ⟨u, hu, hh⟩ := List.mem_map.mp h
      exact (hsn u hu).1 (nm_inj (hsn u hu).2 hwe hh)
    have hes : e ∉ som := fun h => (hsn e h).2 rfl
    have hws : w ∉ som := fun h => (hsn w h).1 rfl
    refine wp_seq (wp_asg (ev_call (evs_cons (ev_var (by rfl) (evs_cons (ev_call (evs_cons (ev_var (by rfl) (evs_cons (ev_var (by rfl) (evs_nil ⟨w, e, rfl, ?_⟩)))))))))))
    refine evs_cons (ev_call (evs_cons (ev_var (by rfl) (evs_cons (ev_var (by rfl) (evs_nil ⟨som, e, rfl, by omega, ?_⟩))))))
    refine evs_nil ⟨dropE xs e w, nm e w, som.map (nm e), rfl, drop_good hE hw, by omega, grp_nm hE.lt hsg hes w, hwn, by rw [List.length_map, hat]; omega, ?_⟩
    obtain ⟨c1, c2, c3, c4⟩ := cab_lt hE hw
    have ap := aro_pos (dropE xs e w) (nm e w) (som.map (nm e))
    have lc1 : (low (cabF xs e w)).1 < 2 ^ 60 := Nat.lt_of_le_of_lt (low_le1 _) c3
    have lc2 : (low (cabF xs e w)).2 < 2 ^ 60 := Nat.lt_of_le_of_lt (low_le2 _) c4
    have la : (aroF (dropE xs e w) (nm e w) (som.map (nm e))).1 < 2 ^ 200 ∧ (aroF (dropE xs e w) (nm e w) (som.map (nm e))).2 < 2 ^ 200 := by
      unfold aroF
      split
      · exact ⟨by decide, by decide⟩
      · have hgd := drop_good hE hw
        have h1 : fact ((dropE xs e w).length - (at' (dropE xs e w) (nm e w) + 1) - 2) < 2 ^ 62 := fact_lt20 (by omega)
        have hwx : at' xs w ≤ xs.sum := le_sum (by
          have := List.getElem_mem hw1
          rw [← at_of (List.getElem?_eq_getElem hw1)] at this
          exact this)
        have h2 : fact (at' (dropE xs e w) (nm e w)) < 2 ^ 62 := fact_lt20 (by omega)
        have h3 : sumG (dropE xs e w) (som.map (nm e)) < 2 ^ 60 := by
          have := sumG_le (grp_nm hE.lt hsg hes w)
          have := hgd.sum
          omega
        refine ⟨Nat.lt_of_lt_of_le (Nat.mul_lt_mul'' (Nat.mul_lt_mul'' h1 h2) h3) (by decide), Nat.lt_of_lt_of_le (fact_lt20 (by omega)) (by decide)⟩
    have la1 : (low (aroF (dropE xs e w) (nm e w) (som.map (nm e)))).1 < 2 ^ 200 := Nat.lt_of_le_of_lt (low_le1 _) la.1
    have la2 : (low (aroF (dropE xs e w) (nm e w) (som.map (nm e)))).2 < 2 ^ 200 := Nat.lt_of_le_of_lt (low_le2 _) la.2
    refine wp_seq (wp_asg (ev_call (evs_cons (ev_mul (ev_ix (ev_var (by rfl) (ev_int ⟨_, _, _, .inr rfl, rfl, by rfl, ?_⟩)))))))
    refine ev_ix (ev_var (by rfl) (ev_int ⟨_, _, _, .inr rfl, rfl, by rfl, _, _, rfl, rfl, wide_mul (a := 60) (b := 200) (nat_abs_lt lc1) (nat_abs_lt la1) (by decide) (by decide) (by decide), ?_⟩))
    refine evs_cons (ev_mul (ev_ix (ev_var (by rfl) (ev_int ⟨_, _, _, .inr rfl, rfl, by rfl, ?_⟩))))
    refine ev_ix (ev_var (by rfl) (ev_int ⟨_, _, _, .inr rfl, rfl, by rfl, _, _, rfl, rfl, wide_mul (a := 60) (b := 200) (nat_abs_lt lc2) (nat_abs_lt la2) (by decide) (by decide) (by decide), ?_⟩))
    refine evs_nil ⟨((low (cabF xs e w)).1 * (low (aroF (dropE xs e w) (nm e w) (som.map (nm e)))).1, (low (cabF xs e w)).2 * (low (aroF (dropE xs e w) (nm e w) (som.map (nm e)))).2), by push_cast; rfl, Nat.mul_pos (low_pos c2) (low_pos ap), ?_, ?_⟩
    · have := Nat.mul_lt_mul'' lc2 la2
      rw [← Nat.pow_add] at this
      exact Nat.lt_of_lt_of_le this (Nat.pow_le_pow_right (by decide) (by decide))
    unfold lowD
    rw [low_lows c2 ap]
    refine wp_if (et_test (ev_ne (ev_call (evs_cons (ev_var (by rfl) (evs_cons (ev_var (by rfl) (evs_cons (ev_sorted (ev_cat (ev_var (by rfl) (ev_lst (evs_cons (ev_var (by rfl) (evs_nil ⟨szn _ (by simp), _, _, rfl, rfl, ?_, grI som ++ [(e : Int)], by rw [List.map_append]; rfl, fun ns hp1 hp2 => ?_⟩)))))))))))))))
    · rw [grI_mlen]; simp; omega
    have hcat : grI som ++ [(e : Int)] = grI (som ++ [e]) := by unfold grI; rw [List.map_append]; rfl
    rw [hcat] at hp1
    obtain ⟨g2, rfl, hg2, hperm⟩ := sorted_grp hsg hE.lt hes hp1 hp2
    obtain ⟨hX2, hl2⟩ := sumG_cat hE.zero hperm
    have hwg2 : w ∉ g2 := fun h => by
      rcases List.mem_append.mp (hperm.mem_iff.mp h) with h | h
      · exact hws h
      · exact hwe (by simpa using h)
    refine evs_nil ⟨xs, w, g2, rfl, hE.good, hw1, hg2, hwg2, by omega, ?_⟩
    refine ev_var (by rfl) (ne_go (k := 1) ?_ (shp_fr _) (by decide) (wp_next ⟨_, _, _, _, rfl⟩))
    unfold lowD
    rw [low_eq (q := ((cabF xs e w).1 * (aroF (dropE xs e w) (nm e w) (som.map (nm e))).1, (cabF xs e w).2 * (aroF (dropE xs e w) (nm e w) (som.map (nm e))).2)) (aro_pos _ _ _) (Nat.mul_pos c2 ap) (around_ratio hE hw hsg hes hws hX2)]
  · rintro ⟨x8, x9, x10, x11, rfl⟩
    exact wp_ret (ev_bl hp)
end PN
end

section
set_option Elab.async false
set_option linter.all false
set_option autoImplicit false
set_option maxRecDepth 100000
set_option maxHeartbeats 4000000
namespace PN
open PySem PySem.Spec PyProof.Rows L2 DL
local macro_rules | `(tactic| walk_at "ev1") => `(tactic| first
  | with_reducible refine wp_seq ?_ | with_reducible refine wp_ret ?_ | with_reducible refine wp_next ?_ | with_reducible refine wp_if ?_
  | with_reducible refine wp_asg ?_ | with_reducible refine wp_drop ?_
  | with_reducible refine ev_int ?_ | with_reducible refine ev_bl ?_ | with_reducible refine ev_non ?_
  | with_reducible refine ev_add ?_ | with_reducible refine ev_sub ?_ | with_reducible refine ev_mul ?_ | with_reducible refine ev_fdiv ?_ | with_reducible refine ev_mod ?_ | with_reducible refine ev_pow ?_ | with_reducible refine ev_neg ?_
  | with_reducible refine ev_lt ?_ | with_reducible refine ev_le ?_ | with_reducible refine ev_gt ?_ | with_reducible refine ev_ge ?_
  | with_reducible refine ev_eq ?_ | with_reducible refine ev_ne ?_ | with_reducible refine ev_in ?_ | with_reducible refine ev_notin ?_ | with_reducible refine ev_notN ?_
  | with_reducible refine ev_tup ?_ | with_reducible refine ev_lst ?_ | ((with_reducible refine ev_ixO (p := ?p0) (ds0 := ?d0) ?hi ?_); (case hi => rfl)) | with_reducible refine ev_ix ?_ | with_reducible refine ev_cat ?_ | with_reducible refine ev_rep ?_
  | with_reducible refine ev_lele ?_ | with_reducible refine ev_lelt ?_ | with_reducible refine ev_eqeq ?_
  | with_reducible refine ev_andV ?_ | with_reducible refine ev_orV ?_ | with_reducible refine ev_notV ?_ | with_reducible refine ev_if ?_
  | with_reducible refine ev_len ?_ | with_reducible refine ev_sum ?_ | with_reducible refine ev_all ?_ | with_reducible refine ev_sorted ?_ | with_reducible refine ev_max ?_ | with_reducible refine ev_min ?_ | with_reducible refine ev_abs ?_ | with_reducible refine ev_toInt ?_
  | with_reducible refine ev_isi ?_ | with_reducible refine ev_count ?_ | with_reducible refine ev_call ?_ | with_reducible refine ev_slice ?_
  | with_reducible refine evs_nil ?_ | with_reducible refine evs_cons ?_ | with_reducible refine evs_star ?_
  | with_reducible refine et_test ?_ | with_reducible refine et_B ?_ | with_reducible refine et_not ?_ | with_reducible refine et_and ?_ | with_reducible refine et_or ?_ | with_reducible refine et_yes ?_
  | with_reducible refine eo_none ?_ | with_reducible refine eo_some ?_
  | with_reducible refine iteT ?_ | with_reducible refine iteF ?_ | with_reducible refine ifNt ?_ | with_reducible refine ifNf ?_
  | refine ⟨true, isi_int_int _, ?_⟩ | refine ⟨false, isi_int_bool _, ?_⟩ | refine ⟨true, isi_list _, ?_⟩
  | (refine ev_var (by rfl) ?_)
  | refine ⟨_, _, _, rfl, rfl, by rfl, ?_⟩ | refine ⟨_, Or.inl rfl, ?_⟩ | refine ⟨_, Or.inr ⟨_, rfl, rfl⟩, ?_⟩ | refine ⟨_, _, _, Or.inr rfl, rfl, by rfl, ?_⟩ | refine ⟨_, _, _, Or.inl rfl, rfl, plI_at (by assumption), ?_⟩
  | refine ⟨_, rfl, ?_⟩ | refine ⟨_, _, rfl, rfl, ?_⟩ | refine ⟨_, _, rfl, ?_⟩
  | refine And.intro (by first | assumption | omega | (refine szn _ ?_; (first | (simp; done) | (simp; omega)))) ?_)
local macro_rules | `(tactic| walk_at "ev") => `(tactic| repeat (walk_at "ev1"; try dsimp only))
theorem end_some {xs : List Nat} (h : Good xs) : 1 ≤ ((List.range xs.length).filter fun u => decide (at' xs u = 0)).length := by
  rcases Nat.eq_zero_or_pos ((List.range xs.length).filter fun u => decide (at' xs u = 0)).length with h0 | h0
  · exfalso
    have hn := List.eq_nil_of_length_eq_zero h0
    rw [List.filter_eq_nil_iff] at hn
    have hall : ∀ l : List Nat, (∀ u ∈ l, ¬ at' xs u = 0) → l.length ≤ (l.map (at' xs)).sum := by
      intro l
      induction l with
      | nil => intro _; simp
      | cons a l ih =>
        intro hl
        have := ih fun u hu => hl u (by simp [hu])
        have h2 := hl a (by simp)
        rw [List.length_cons, List.map_cons, List.sum_cons]
        omega
    have := hall (List.range xs.length) fun u hu => by simpa using hn u hu
    rw [sum_at, List.length_range] at this
    have := h.sum
    omega
  · exact h0
theorem oth_len {n e : Nat} (he : e < n) : ((List.range n).filter fun u => decide (u ≠ e)).length + 1 = n := by
  have hp : (List.range n).Perm (e :: (List.range n).filter fun u => decide (u ≠ e)) := by
    refine (List.perm_ext_iff_of_nodup List.nodup_range ?_).mpr fun u => ?_
    · rw [List.nodup_cons]
      exact ⟨by simp, List.Pairwise.filter _ List.nodup_range⟩
    · simp only [List.mem_cons, List.mem_range, List.mem_filter, decide_eq_true_eq]
      omega
  have := hp.length_eq
  rw [List.length_range, List.length_cons] at this
  omega
theorem int_map (l : List Nat) : l.map (fun (u : Nat) => PyData.int (u : Int)) = (grI l).map .int := by unfold grI; rw [List.map_map]; rfl
theorem bd_l_right {K : PySem.W.Frag} {w : World} : ∀ p os ds P0, S_l_right os ds P0 → Wp (t_l_right K w) (retS p P0) (DL.envS n_l_right p os ds) := by
  rintro p os ds P0 ⟨k, xs, hst, hk, rfl, hx, hleast, hmost, hp⟩
  have hsl := sizeLine_eq
  unfold t_l_right
  refine wp_seq (wp_asg (ev_len (ev_var (by rfl) ⟨_, rfl, ?_⟩)))
  rw [plI_mlen]
  show Wp _ _ [.own p (.lst os), .dat (plD xs), .dat (.int (xs.length : Int)), .no, .no, .no, .no, .no, .no, .no, .no, .no, .no, .no, .no, .no, .no, .no, .no, .no, .no]
  -- the ends
  refine wp_seq (wp_asg (ev_lcM (js := [14]) (by simp) (List.range xs.length) (fun (u : Nat) => PyData.int (u : Int)) (fun (u : Nat) => PyData.int (u : Int)) (fun u => decide (at' xs u = 0)) (iv_range1 (evs_cons (ev_var (by rfl) (evs_nil ⟨_, rfl, by omega, by omega, ?_⟩))))))
  rw [Int.toNat_natCast]
  refine ⟨range_map _, by rw [List.length_range]; omega, fun u hu => gd_name ?_, ?_⟩
  · have hu := List.mem_range.mp hu
    refine et_test (ev_eq (ev_ix (ev_var (by rfl) (ev_var (by rfl) ⟨_, _, _, .inl rfl, rfl, plI_at hu, ev_int ⟨(shp_int _).ok (by decide), (shp_int _).ok (by decide), _, rfl, ?_, ?_⟩⟩))))
    · rw [eqv_int]
      exact decide_eq_decide.mpr (by omega)
    · split
      · exact ev_var (by rfl) ⟨rfl, rfl⟩
      · rfl
  rw [int_map]
  have hE1 := end_some hx
  have hEl : ∀ u ∈ (List.range xs.length).filter (fun u => decide (at' xs u = 0)), u < xs.length ∧ at' xs u = 0 := fun u hu => by
    obtain ⟨a, b⟩ := List.mem_filter.mp hu
    exact ⟨List.mem_range.mp a, by simpa using b⟩
  have hE2 : ((List.range xs.length).filter fun u => decide (at' xs u = 0)).length ≤ 20 := by
    refine Nat.le_trans (List.length_filter_le _ _) ?_
    rw [List.length_range]; exact hmost
  generalize (List.range xs.length).filter (fun u => decide (at' xs u = 0)) = ends at *
  show Wp _ _ [.own p (.lst os), .dat (plD xs), .dat (.int (xs.length : Int)), .dat (.list ((grI ends).map .int)), .no, .no, .no, .no, .no, .no, .no, .no, .no, .no, .no, .no, .no, .no, .no, .no, .no]
  refine wp_seq (wp_asg (ev_ix (ev_var (by rfl) (ev_pick (by rfl) (ev_len (ev_var (by rfl) ⟨_, rfl, k, ends.length, os, by rfl, by rw [grI_mlen], hst, by omega, hE1, by omega, fun t os1 ht hst1 => ?_⟩))))))
  obtain ⟨e, he⟩ : ∃ e, ends[t]? = some e := ⟨_, List.getElem?_eq_getElem ht⟩
  obtain ⟨he1, he2⟩ := hEl e (List.mem_of_getElem? he)
  have hE : Endy xs e := ⟨hx, hleast, hmost, he1, he2⟩
  refine ⟨_, _, .int (e : Int), .inl rfl, rfl, atI_nat (grI_at he), ?_⟩
  have hhl := host_len hE.most
  have hdl : ∀ v, (dropE xs e v).length = xs.length - 1 := fun v => by have := drop_len hE.lt v; omega
  show Wp _ _ [.own p (.lst os1), .dat (plD xs), .dat (.int (xs.length : Int)), .dat (.list ((grI ends).map .int)), .dat (.int (e : Int)), .no, .no, .no, .no, .no, .no, .no, .no, .no, .no, .no, .no, .no, .no, .no, .no]
  -- the hosts
  refine wp_seq (wp_asg (ev_lcM (js := [14]) (by simp) (List.range xs.length) (fun (u : Nat) => PyData.int (u : Int)) (fun (u : Nat) => PyData.int (u : Int)) (fun u => decide (0 < at' xs u)) (iv_range1 (evs_cons (ev_var (by rfl) (evs_nil ⟨_, rfl, by omega, by omega, ?_⟩))))))
  rw [Int.toNat_natCast]
  refine ⟨range_map _, by rw [List.length_range]; omega, fun u hu => gd_name ?_, ?_⟩
  · have hu := List.mem_range.mp hu
    refine et_test (ev_gt (ev_ix (ev_call (evs_cons (ev_var (by rfl) (evs_cons (ev_var (by rfl) (evs_cons (ev_var (by rfl) (evs_nil ⟨xs, e, u, rfl, hx, by omega, he1, hu, ?_⟩))))))))))
    refine ev_int ⟨_, _, _, .inr rfl, rfl, by rfl, ev_int ⟨_, _, rfl, rfl, _, rfl, ?_, ?_⟩⟩
    · refine decide_eq_decide.mpr ?_
      have h2 : 0 < (cabF xs e u).2 := by
        unfold cabF
        split
        · exact Nat.one_pos
        · show 0 < xs.length - 2; omega
      have h3 := low_zero h2
      have h4 : (cabF xs e u).1 = at' xs u := by
        unfold cabF
        by_cases h : e = u
        · rw [if_pos h, ← h, he2]
        · rw [if_neg h, he2, Nat.zero_add]
      rw [h4] at h3
      omega
    · split
      · exact ev_var (by rfl) ⟨rfl, rfl⟩
      · rfl
  rw [int_map]
  show Wp _ _ [.own p (.lst os1), .dat (plD xs), .dat (.int (xs.length : Int)), .dat (.list ((grI ends).map .int)), .dat (.int (e : Int)), .dat (hostsD xs), .no, .no, .no, .no, .no, .no, .no, .no, .no, .no, .no, .no, .no, .no, .no]
  -- the lesser deals
  refine wp_seq (wp_asg (ev_lcA (js := [14]) (by simp) (hosts xs) (fun (u : Nat) => PyData.int (u : Int)) (fun v => plD (dropE xs e v)) (iv_list (ev_var (by rfl) ⟨_, rfl, (int_map _).symm, by omega, fun v hv => gd_name ?_, ?_⟩))))
  · obtain ⟨h1, h2⟩ := host_mem.mp hv
    exact ev_call (evs_cons (ev_var (by rfl) (evs_cons (ev_var (by rfl) (evs_cons (ev_var (by rfl) (evs_nil ⟨xs, e, v, rfl, by omega, he1, h1, h2, rfl, rfl⟩)))))))
  show Wp _ _ [.own p (.lst os1), .dat (plD xs), .dat (.int (xs.length : Int)), .dat (.list ((grI ends).map .int)), .dat (.int (e : Int)), .dat (hostsD xs), .dat (lesserD xs e), .no, .no, .no, .no, .no, .no, .no, .no, .no, .no, .no, .no, .no, .no]
  refine wp_seq (wp_asg (ev_lcA (js := [14]) (by simp) (hosts xs) (fun (u : Nat) => PyData.int (u : Int)) (fun v => lowD (cabF xs e v)) (iv_list (ev_var (by rfl) ⟨_, rfl, (int_map _).symm, by omega, fun v hv => gd_name ?_, ?_⟩))))
  · obtain ⟨h1, h2⟩ := host_mem.mp hv
    exact ev_call (evs_cons (ev_var (by rfl) (evs_cons (ev_var (by rfl) (evs_cons (ev_var (by rfl) (evs_nil ⟨xs, e, v, rfl, hx, by omega, he1, h1, rfl, rfl⟩)))))))
  show Wp _ _ [.own p (.lst os1), .dat (plD xs), .dat (.int (xs.length : Int)), .dat (.list ((grI ends).map .int)), .dat (.int (e : Int)), .dat (hostsD xs), .dat (lesserD xs e), .dat (sharesD xs e), .no, .no, .no, .no, .no, .no, .no, .no, .no, .no, .no, .no, .no]
  -- the nets
  refine wp_seq (wp_if (et_test (ev_ne (ev_sum (ev_lcA (js := [15]) (by simp) (hosts xs) (fun v => plD (dropE xs e v)) (fun v => PyData.int (nets (dropE xs e v) : Int)) (iv_list (ev_var (by rfl) ⟨_, rfl, rfl, by omega, fun v hv => gd_name ?_, ?_⟩)))))))
  · exact ev_call (evs_cons (ev_var (by rfl) (evs_nil ⟨dropE xs e v, rfl, drop_good hE hv, rfl, rfl⟩)))
  refine ⟨(hosts xs).map fun v => (nets (dropE xs e v) : Int), by rw [List.map_map]; rfl, ?_⟩
  rw [sum_cast (fun v => nets (dropE xs e v)), nets_sum hE]
  refine ev_call (evs_cons (ev_var (by rfl) (evs_nil ⟨xs, rfl, hx, ne_go (k := 0) rfl (shp_int _) (by decide) (wp_next ?_)⟩)))
  show Wp _ _ [.own p (.lst os1), .dat (plD xs), .dat (.int (xs.length : Int)), .dat (.list ((grI ends).map .int)), .dat (.int (e : Int)), .dat (hostsD xs), .dat (lesserD xs e), .dat (sharesD xs e), .no, .no, .no, .no, .no, .no, .no, .no, .no, .no, .no, .no, .no]
  -- the others
  refine wp_seq (wp_asg (ev_lcM (js := [14]) (by simp) (List.range xs.length) (fun (u : Nat) => PyData.int (u : Int)) (fun (u : Nat) => PyData.int (u : Int)) (fun u => decide (u ≠ e)) (iv_range1 (evs_cons (ev_var (by rfl) (evs_nil ⟨_, rfl, by omega, by omega, ?_⟩))))))
  rw [Int.toNat_natCast]
  refine ⟨range_map _, by rw [List.length_range]; omega, fun u hu => gd_name ?_, ?_⟩
  · refine et_test (ev_ne (ev_var (by rfl) (ev_var (by rfl) ⟨(shp_int _).ok (by decide), (shp_int _).ok (by decide), _, rfl, ?_, ?_⟩)))
    · rw [eqv_int]
      by_cases h : u = e
      · subst h; simp
      · have : ¬ (u : Int) = (e : Int) := by omega
        rw [decide_eq_false this, decide_eq_true h]; rfl
    · split
      · exact ev_var (by rfl) ⟨rfl, rfl⟩
      · rfl
  rw [int_map]
  have hol := oth_len he1
  have hom : ∀ u ∈ (List.range xs.length).filter (fun u => decide (u ≠ e)), u < xs.length ∧ e ≠ u := fun u hu => by
    obtain ⟨a, b⟩ := List.mem_filter.mp hu
    exact ⟨List.mem_range.mp a, Ne.symm (by simpa using b)⟩
  generalize (List.range xs.length).filter (fun u => decide (u ≠ e)) = oth at *
  have hpickn : ((xs.length : Int) - 1) = ((xs.length - 1 : Nat) : Int) := by omega
  show Wp _ _ [.own p (.lst os1), .dat (plD xs), .dat (.int (xs.length : Int)), .dat (.list ((grI ends).map .int)), .dat (.int (e : Int)), .dat (hostsD xs), .dat (lesserD xs e), .dat (sharesD xs e), .dat (grD oth), .no, .no, .no, .no, .no, .no, .no, .no, .no, .no, .no, .no]
  -- two of them
  refine wp_seq (wp_asgG (js := [9, 10]) (ev_tup (evs_cons (ev_ix (ev_var (by rfl) (ev_pick (by rfl) (ev_sub (ev_var (by rfl) (ev_int ⟨_, _, rfl, rfl, k + 1, xs.length - 1, os1, by rfl, by rw [hpickn], hst1, by omega, by omega, by omega, fun t1 os2 ht1 hst2 => ?_⟩)))))))))
  obtain ⟨l, hl⟩ : ∃ l, oth[t1]? = some l := ⟨oth[t1]'(by omega), List.getElem?_eq_getElem (by omega)⟩
  obtain ⟨hl1, hl2⟩ := hom l (List.mem_of_getElem? hl)
  refine ⟨_, _, .int (l : Int), .inl rfl, rfl, atI_nat (grI_at hl), ?_⟩
  refine evs_cons (ev_ix (ev_var (by rfl) (ev_pick (by rfl) (ev_sub (ev_var (by rfl) (ev_int ⟨_, _, rfl, rfl, k + 2, xs.length - 1, os2, by rfl, by rw [hpickn], hst2, by omega, by omega, by omega, fun t2 os3 ht2 hst3 => ?_⟩))))))
  obtain ⟨r, hr⟩ : ∃ r, oth[t2]? = some r := ⟨oth[t2]'(by omega), List.getElem?_eq_getElem (by omega)⟩
  obtain ⟨hr1, hr2⟩ := hom r (List.mem_of_getElem? hr)
  refine ⟨_, _, .int (r : Int), .inl rfl, rfl, atI_nat (grI_at hr), evs_nil ⟨szn _ (by simp), ?_⟩⟩
  refine gd_tup (by rfl) (gds_cons (gd_name (gds_cons (gd_name (gds_nil ?_)))))
  have hnl := nm_lt he1 hl1 (Ne.symm hl2)
  have hnr := nm_lt he1 hr1 (Ne.symm hr2)
  show Wp _ _ [.own p (.lst os3), .dat (plD xs), .dat (.int (xs.length : Int)), .dat (.list ((grI ends).map .int)), .dat (.int (e : Int)), .dat (hostsD xs), .dat (lesserD xs e), .dat (sharesD xs e), .dat (grD oth), .dat (.int (l : Int)), .dat (.int (r : Int)), .no, .no, .no, .no, .no, .no, .no, .no, .no, .no]
  -- the steps of the lesser deals
  refine wp_seq (wp_asg (ev_lcA (js := [15]) (by simp) (hosts xs) (fun v => plD (dropE xs e v)) (fun v => rowsD (rows (stF (dropE xs e v) (nm e l) (nm e r)) (xs.length - 1))) (iv_list (ev_var (by rfl) ⟨_, rfl, rfl, by omega, fun v hv => gd_name ?_, ?_⟩))))
  · refine ev_call (evs_cons (ev_var (by rfl) (evs_cons (ev_call (evs_cons (ev_var (by rfl) (evs_cons (ev_var (by rfl) (evs_nil ⟨l, e, rfl, ?_⟩)))))))))
    refine evs_cons (ev_call (evs_cons (ev_var (by rfl) (evs_cons (ev_var (by rfl) (evs_nil ⟨r, e, rfl, ?_⟩))))))
    refine evs_nil ⟨dropE xs e v, nm e l, nm e r, rfl, drop_good hE hv, by rw [hdl]; omega, by rw [hdl]; omega, ?_, rfl⟩
    rw [hdl]
  show Wp _ _ [.own p (.lst os3), .dat (plD xs), .dat (.int (xs.length : Int)), .dat (.list ((grI ends).map .int)), .dat (.int (e : Int)), .dat (hostsD xs), .dat (lesserD xs e), .dat (sharesD xs e), .dat (grD oth), .dat (.int (l : Int)), .dat (.int (r : Int)), .dat (.list ((hosts xs).map fun v => rowsD (rows (stF (dropE xs e v) (nm e l) (nm e r)) (xs.length - 1)))), .no, .no, .no, .no, .no, .no, .no, .no, .no]
  refine wp_seq (wp_if (et_test (ev_ne (ev_call (evs_cons (ev_var (by rfl) (evs_cons (ev_var (by rfl) (evs_cons (ev_var (by rfl) (evs_nil ⟨xs, l, r, rfl, hx, hl1, hr1, ?_⟩)))))))))))
  refine ev_call (evs_cons (ev_var (by rfl) (evs_cons (ev_var (by rfl) (evs_nil ⟨(hosts xs).map fun v => (cabF xs e v, stF (dropE xs e v) (nm e l) (nm e r)), xs.length - 1, by rw [List.map_map, List.map_map]; rfl, by rw [List.length_map]; omega, by omega, fun q hq => ?_, ?_⟩)))))
  · obtain ⟨v, hv, rfl⟩ := List.mem_map.mp hq
    obtain ⟨b1, b2, b3, b4⟩ := cab_lt hE hv
    refine ⟨b1, b2, b3, b4, fun m => ?_⟩
    have b5 := stF_lt (drop_good hE hv) (i := nm e l) (j := nm e r) (by rw [hdl]; omega) (by rw [hdl]; omega) (by rw [hdl]; omega) m
    exact ⟨stF_pos _ _ _ _, b5.1, b5.2⟩
  have hw1 : rows (fun m => frSum (((hosts xs).map fun v => (cabF xs e v, stF (dropE xs e v) (nm e l) (nm e r))).map fun q => (q.1.1 * (q.2 m).1, q.1.2 * (q.2 m).2))) (xs.length - 1) = rows (stF xs l r) xs.length := by
    rw [← rows_in hE hl1 hr1 hl2 hr2]
    congr 1
    funext m
    rw [mix_map]
  rw [hw1]
  refine ne_go (k := 2) rfl (shp_rows _) (by decide) (wp_next ?_)
  show Wp _ _ [.own p (.lst os3), .dat (plD xs), .dat (.int (xs.length : Int)), .dat (.list ((grI ends).map .int)), .dat (.int (e : Int)), .dat (hostsD xs), .dat (lesserD xs e), .dat (sharesD xs e), .dat (grD oth), .dat (.int (l : Int)), .dat (.int (r : Int)), .dat (.list ((hosts xs).map fun v => rowsD (rows (stF (dropE xs e v) (nm e l) (nm e r)) (xs.length - 1)))), .no, .no, .no, .no, .no, .no, .no, .no, .no]
  -- to the end's own device
  refine wp_seq (wp_asg (ev_lcA (js := [15, 14]) (by simp) (hosts xs) (fun v => PyData.tuple [plD (dropE xs e v), .int (v : Int)]) (fun v => rowsD (rows (stF (dropE xs e v) (nm e l) (nm e v)) (xs.length - 1))) (iv_zip (evs_cons (ev_var (by rfl) (evs_cons (ev_var (by rfl) (evs_nil ⟨_, _, rfl, ?_⟩))))))))
  refine ⟨by rw [← int_map]; exact zip_map _ _ _, by omega, fun v hv => ?_, ?_⟩
  · obtain ⟨h1, h2⟩ := host_mem.mp hv
    have hve : v ≠ e := fun z => by rw [z, he2] at h2; omega
    have hnv := nm_lt he1 h1 hve
    refine gd_tup (by rfl) (gds_cons (gd_name (gds_cons (gd_name (gds_nil ?_)))))
    refine ev_call (evs_cons (ev_var (by rfl) (evs_cons (ev_call (evs_cons (ev_var (by rfl) (evs_cons (ev_var (by rfl) (evs_nil ⟨l, e, rfl, ?_⟩)))))))))
    refine evs_cons (ev_call (evs_cons (ev_var (by rfl) (evs_cons (ev_var (by rfl) (evs_nil ⟨v, e, rfl, ?_⟩))))))
    refine evs_nil ⟨dropE xs e v, nm e l, nm e v, rfl, drop_good hE hv, by rw [hdl]; omega, by rw [hdl]; omega, ?_, rfl⟩
    rw [hdl]
  show Wp _ _ [.own p (.lst os3), .dat (plD xs), .dat (.int (xs.length : Int)), .dat (.list ((grI ends).map .int)), .dat (.int (e : Int)), .dat (hostsD xs), .dat (lesserD xs e), .dat (sharesD xs e), .dat (grD oth), .dat (.int (l : Int)), .dat (.int (r : Int)), .dat (.list ((hosts xs).map fun v => rowsD (rows (stF (dropE xs e v) (nm e l) (nm e v)) (xs.length - 1)))), .no, .no, .no, .no, .no, .no, .no, .no, .no]
  -- a step further
  refine wp_seq (wp_asg (ev_lcA (js := [16]) (by simp) (hosts xs) (fun v => rowsD (rows (stF (dropE xs e v) (nm e l) (nm e v)) (xs.length - 1))) (fun v => rowsD (rows (shF (stF (dropE xs e v) (nm e l) (nm e v))) xs.length)) (iv_list (ev_var (by rfl) ⟨_, rfl, rfl, by omega, fun v hv => gd_name ?_, ?_⟩))))
  · refine ev_lcA (js := [17, 18, 19]) (by simp) (rows (stF (dropE xs e v) (nm e l) (nm e v)) (xs.length - 1)) rowD (fun r => rowD (r.1 + 1, r.2)) (iv_list (ev_var (by rfl) ⟨_, rfl, rfl, ?_, fun r hr => ?_, ?_, rfl⟩))
    · have : (rows (stF (dropE xs e v) (nm e l) (nm e v)) (xs.length - 1)).length ≤ xs.length - 1 := by
        rw [rows_keys, List.length_map]
        unfold keysF
        refine Nat.le_trans (List.length_filter_le _ _) ?_
        rw [List.length_range]; exact Nat.le_refl _
      omega
    · refine gd_tup (by rfl) (gds_cons (gd_name (gds_cons (gd_name (gds_cons (gd_name (gds_nil ?_)))))))
      refine ev_tup (evs_cons (ev_add (ev_var (by rfl) (ev_int ⟨_, _, rfl, rfl, evs_cons (ev_var (by rfl) (evs_cons (ev_var (by rfl) (evs_nil ⟨szn _ (by simp), ?_, rfl⟩))))⟩))))
      unfold rowD
      push_cast; rfl
    · have := rows_shift (stF (dropE xs e v) (nm e l) (nm e v)) (xs.length - 1)
      have e1 : xs.length - 1 + 1 = xs.length := by omega
      rw [e1] at this
      rw [← this]
      unfold rowsD
      rw [List.map_map]; rfl
  show Wp _ _ [.own p (.lst os3), .dat (plD xs), .dat (.int (xs.length : Int)), .dat (.list ((grI ends).map .int)), .dat (.int (e : Int)), .dat (hostsD xs), .dat (lesserD xs e), .dat (sharesD xs e), .dat (grD oth), .dat (.int (l : Int)), .dat (.int (r : Int)), .dat (.list ((hosts xs).map fun v => rowsD (rows (stF (dropE xs e v) (nm e l) (nm e v)) (xs.length - 1)))), .dat (.list ((hosts xs).map fun v => rowsD (rows (shF (stF (dropE xs e v) (nm e l) (nm e v))) xs.length))), .no, .no, .no, .no, .no, .no, .no, .no]
  refine wp_seq (wp_if (et_test (ev_ne (ev_call (evs_cons (ev_var (by rfl) (evs_cons (ev_var (by rfl) (evs_cons (ev_var (by rfl) (evs_nil ⟨xs, l, e, rfl, hx, hl1, he1, ?_⟩)))))))))))
  refine ev_call (evs_cons (ev_var (by rfl) (evs_cons (ev_var (by rfl) (evs_nil ⟨(hosts xs).map fun v => (cabF xs e v, shF (stF (dropE xs e v) (nm e l) (nm e v))), xs.length, by rw [List.map_map, List.map_map]; rfl, by rw [List.length_map]; omega, by omega, fun q hq => ?_, ?_⟩)))))
  · obtain ⟨v, hv, rfl⟩ := List.mem_map.mp hq
    obtain ⟨b1, b2, b3, b4⟩ := cab_lt hE hv
    obtain ⟨h1, h2⟩ := host_mem.mp hv
    have hve : v ≠ e := fun z => by rw [z, he2] at h2; omega
    have hnv := nm_lt he1 h1 hve
    refine ⟨b1, b2, b3, b4, fun m => ?_⟩
    show 0 < (shF (stF (dropE xs e v) (nm e l) (nm e v)) m).2 ∧ (shF (stF (dropE xs e v) (nm e l) (nm e v)) m).1 < 2 ^ 80 ∧ (shF (stF (dropE xs e v) (nm e l) (nm e v)) m).2 < 2 ^ 80
    refine ⟨shF_pos _ _ _ _, ?_⟩
    unfold shF
    split
    · exact ⟨by decide, by decide⟩
    · exact stF_lt (drop_good hE hv) (i := nm e l) (j := nm e v) (by rw [hdl]; omega) (by rw [hdl]; omega) (by rw [hdl]; omega) _
  have hw2 : rows (fun m => frSum (((hosts xs).map fun v => (cabF xs e v, shF (stF (dropE xs e v) (nm e l) (nm e v)))).map fun q => (q.1.1 * (q.2 m).1, q.1.2 * (q.2 m).2))) xs.length = rows (stF xs l e) xs.length := by
    rw [← rows_to hE hl1 hl2]
    congr 1
    funext m
    rw [mix_map]
  rw [hw2]
  refine ne_go (k := 2) rfl (shp_rows _) (by decide) (wp_next ?_)
  show Wp _ _ [.own p (.lst os3), .dat (plD xs), .dat (.int (xs.length : Int)), .dat (.list ((grI ends).map .int)), .dat (.int (e : Int)), .dat (hostsD xs), .dat (lesserD xs e), .dat (sharesD xs e), .dat (grD oth), .dat (.int (l : Int)), .dat (.int (r : Int)), .dat (.list ((hosts xs).map fun v => rowsD (rows (stF (dropE xs e v) (nm e l) (nm e v)) (xs.length - 1)))), .dat (.list ((hosts xs).map fun v => rowsD (rows (shF (stF (dropE xs e v) (nm e l) (nm e v))) xs.length))), .no, .no, .no, .no, .no, .no, .no, .no]
  -- a group
  refine wp_seq (wp_asg (ev_sortedSet (ev_lc (js := [20]) (by simp) (iv_range1 (evs_cons (ev_add (ev_int (ev_pick (by rfl) (ev_var (by rfl) ⟨k + 3, xs.length, os3, by rfl, rfl, hst3, by omega, by omega, by omega, fun t3 os4 ht3 hst4 => ?_⟩)))))))))
  refine ⟨_, _, rfl, rfl, evs_nil ⟨_, rfl, by omega, by omega, ?_⟩⟩
  have ht4 : ((1 : Int) + (t3 : Int)).toNat = t3 + 1 := by omega
  rw [ht4]
  refine ⟨by rw [rangeD_len]; omega, fun i acc e' => ∃ (os' : List PyData) (gs : List Nat), StOk os' (k + 4 + i) ∧ gs.length = i ∧ (∀ u ∈ gs, u ∈ oth) ∧ acc = (grI gs).map .int ∧
    e' = [.own p (.lst os'), .dat (plD xs), .dat (.int (xs.length : Int)), .dat (.list ((grI ends).map .int)), .dat (.int (e : Int)), .dat (hostsD xs), .dat (lesserD xs e), .dat (sharesD xs e), .dat (grD oth), .dat (.int (l : Int)), .dat (.int (r : Int)),
      .dat (.list ((hosts xs).map fun v => rowsD (rows (stF (dropE xs e v) (nm e l) (nm e v)) (xs.length - 1)))), .dat (.list ((hosts xs).map fun v => rowsD (rows (shF (stF (dropE xs e v) (nm e l) (nm e v))) xs.length))), .no, .no, .no, .no, .no, .no, .no, .no],
    ⟨os4, [], hst4, rfl, by simp, rfl, rfl⟩, fun i y acc e' hy => ?_, fun acc e' => ?_⟩
  · rintro ⟨os', gs, h1, h2, h3, rfl, rfl⟩
    obtain ⟨hi, rfl⟩ := rangeD_get hy
    refine gd_name (et_yes (iteT (ev_ix (ev_var (by rfl) (ev_pick (by rfl) (ev_sub (ev_var (by rfl) (ev_int ⟨_, _, rfl, rfl, k + 4 + i, xs.length - 1, os', by rfl, by rw [hpickn], h1, by omega, by omega, by omega, fun t5 os5 ht5 hst5 => ?_⟩))))))))
    obtain ⟨u, hu⟩ : ∃ u, oth[t5]? = some u := ⟨oth[t5]'(by omega), List.getElem?_eq_getElem (by omega)⟩
    refine ⟨_, _, .int (u : Int), .inl rfl, rfl, atI_nat (grI_at hu), os5, gs ++ [u], hst5, by simp [h2], fun z hz => ?_, by rw [grI_snoc], rfl⟩
    rcases List.mem_append.mp hz with hz | hz
    · exact h3 z hz
    · have : z = u := by simpa using hz
      rw [this]; exact List.mem_of_getElem? hu
  rintro ⟨os', gs, h1, h2, h3, rfl, rfl⟩
  rw [rangeD_len] at h1 h2
  refine ⟨grI gs, rfl, by rw [grI_len]; omega, fun ns hns1 hns2 => ?_⟩
  have hmem : ∀ k, k ∈ ns → ∃ u, u ∈ oth ∧ k = (u : Int) := fun k hk => by
    obtain ⟨u, hu, rfl⟩ := List.mem_map.mp ((hns2 k).mp hk)
    exact ⟨u, h3 u hu, rfl⟩
  have hgi : ns = grI (ns.map Int.toNat) := by
    unfold grI
    rw [List.map_map]
    conv => lhs; rw [← List.map_id ns]
    refine List.map_congr_left fun k hk => ?_
    obtain ⟨u, _, rfl⟩ := hmem k hk
    simp
  have hgg : Grp xs.length (ns.map Int.toNat) := by
    refine ⟨?_, fun v hv => ?_⟩
    · rw [List.pairwise_map]
      refine List.Pairwise.imp_of_mem (fun {a b} ha hb hab => ?_) hns1
      obtain ⟨u, _, rfl⟩ := hmem a ha
      obtain ⟨u', _, rfl⟩ := hmem b hb
      show (u : Int).toNat < (u' : Int).toNat
      omega
    · obtain ⟨a, ha, rfl⟩ := List.mem_map.mp hv
      obtain ⟨u, hu, rfl⟩ := hmem a ha
      exact (hom u hu).1
  have hge : e ∉ ns.map Int.toNat := fun h => by
    obtain ⟨a, ha, hae⟩ := List.mem_map.mp h
    obtain ⟨u, hu, rfl⟩ := hmem a ha
    have := (hom u hu).2
    simp at hae
    omega
  have hg1 : 1 ≤ (ns.map Int.toNat).length := by
    rcases gs with _ | ⟨u, gs⟩
    · simp at h2
    · have : (u : Int) ∈ ns := (hns2 _).mpr (by unfold grI; simp)
      rw [List.length_map]
      exact List.length_pos_of_mem this
  rw [hgi]
  generalize ns.map Int.toNat = g at *
  refine wp_seq (wp_if (et_not (et_B (ev_call (evs_cons (ev_var (by rfl) (evs_cons (ev_var (by rfl) (evs_cons (ev_var (by rfl) (evs_cons (ev_var (by rfl) (evs_cons (ev_var (by rfl) (evs_cons (ev_var (by rfl) (evs_nil ⟨xs, e, g, rfl, hE, hgg, hge, hg1, _, rfl, ifNt (wp_next ?_)⟩)))))))))))))))))
  refine wp_ret (ev_call (evs_cons (ev_var (by rfl) (evs_cons (ev_var (by rfl) (evs_cons (ev_var (by rfl) (evs_cons (ev_var (by rfl) (evs_nil ⟨xs, e, rfl, hE, os', by rfl, hp os' (h1.le (by omega))⟩))))))))))
end PN
end

section
set_option Elab.async false
set_option linter.all false
set_option autoImplicit false
set_option maxRecDepth 100000
set_option maxHeartbeats 4000000
namespace PN
open PySem PySem.Spec PyProof.Rows L2 DL
local macro_rules | `(tactic| walk_at "ev1") => `(tactic| first
  | with_reducible refine wp_seq ?_ | with_reducible refine wp_ret ?_ | with_reducible refine wp_next ?_ | with_reducible refine wp_if ?_
  | with_reducible refine wp_asg ?_ | with_reducible refine wp_drop ?_
  | with_reducible refine ev_int ?_ | with_reducible refine ev_bl ?_ | with_reducible refine ev_non ?_
  | with_reducible refine ev_add ?_ | with_reducible refine ev_sub ?_ | with_reducible refine ev_mul ?_ | with_reducible refine ev_fdiv ?_ | with_reducible refine ev_mod ?_ | with_reducible refine ev_pow ?_ | with_reducible refine ev_neg ?_
  | with_reducible refine ev_lt ?_ | with_reducible refine ev_le ?_ | with_reducible refine ev_gt ?_ | with_reducible refine ev_ge ?_
  | with_reducible refine ev_eq ?_ | with_reducible refine ev_ne ?_ | with_reducible refine ev_in ?_ | with_reducible refine ev_notin ?_ | with_reducible refine ev_notN ?_
  | with_reducible refine ev_tup ?_ | with_reducible refine ev_lst ?_ | ((with_reducible refine ev_ixO (p := ?p0) (ds0 := ?d0) ?hi ?_); (case hi => rfl)) | with_reducible refine ev_ix ?_ | with_reducible refine ev_cat ?_ | with_reducible refine ev_rep ?_
  | with_reducible refine ev_lele ?_ | with_reducible refine ev_lelt ?_ | with_reducible refine ev_eqeq ?_
  | with_reducible refine ev_andV ?_ | with_reducible refine ev_orV ?_ | with_reducible refine ev_notV ?_ | with_reducible refine ev_if ?_
  | with_reducible refine ev_len ?_ | with_reducible refine ev_sum ?_ | with_reducible refine ev_all ?_ | with_reducible refine ev_sorted ?_ | with_reducible refine ev_max ?_ | with_reducible refine ev_min ?_ | with_reducible refine ev_abs ?_ | with_reducible refine ev_toInt ?_
  | with_reducible refine ev_isi ?_ | with_reducible refine ev_count ?_ | with_reducible refine ev_call ?_ | with_reducible refine ev_slice ?_
  | with_reducible refine evs_nil ?_ | with_reducible refine evs_cons ?_ | with_reducible refine evs_star ?_
  | with_reducible refine et_test ?_ | with_reducible refine et_B ?_ | with_reducible refine et_not ?_ | with_reducible refine et_and ?_ | with_reducible refine et_or ?_ | with_reducible refine et_yes ?_
  | with_reducible refine eo_none ?_ | with_reducible refine eo_some ?_
  | with_reducible refine iteT ?_ | with_reducible refine iteF ?_ | with_reducible refine ifNt ?_ | with_reducible refine ifNf ?_
  | refine ⟨true, isi_int_int _, ?_⟩ | refine ⟨false, isi_int_bool _, ?_⟩ | refine ⟨true, isi_list _, ?_⟩
  | (refine ev_var (by rfl) ?_)
  | refine ⟨_, _, _, rfl, rfl, by rfl, ?_⟩ | refine ⟨_, Or.inl rfl, ?_⟩ | refine ⟨_, Or.inr ⟨_, rfl, rfl⟩, ?_⟩ | refine ⟨_, _, _, Or.inr rfl, rfl, by rfl, ?_⟩ | refine ⟨_, _, _, Or.inl rfl, rfl, plI_at (by assumption), ?_⟩
  | refine ⟨_, rfl, ?_⟩ | refine ⟨_, _, rfl, rfl, ?_⟩ | refine ⟨_, _, rfl, ?_⟩
  | refine And.intro (by first | assumption | omega | (refine szn _ ?_; (first | (simp; done) | (simp; omega)))) ?_)
local macro_rules | `(tactic| walk_at "ev") => `(tactic| repeat (walk_at "ev1"; try dsimp only))
theorem bd_l_store {K : PySem.W.Frag} (vs : List V) (H : Hp) (Q : VK) (E : XK) (h : (sp_l_store K) vs H Q E) : t_l_store K { nx := fun _ H1 => Q .non H1, rt := Q } (L2.start n_l_store vs) H := by
  obtain ⟨a, ns, k, rfl, hS, h0, h1, hq⟩ := h
  have hsl := sizeLine_eq
  have key : ∀ c : Int, 0 ≤ c → (tRet (tLst (tCons (tCB rMax2 (tCons (tC (.int 0)) (tCons (tOp (rI0 fun i j => .int (i - j)) (tVar 2) (tOp (rI CPowW fun i j => .int (i ^ j.toNat)) (tC (.int 10)) (tC (.int 18)))) tNil))) (tCons (tOp (rI0 fun i j => .int (i + j)) (tOp (rI CMulW fun i j => .int (i * j)) (tOp (rI (fun _ j => 0 < j) fun i j => .int (i % j)) (tCB rInt1 (tCons (tVar 2) tNil)) (tOp (rI0 fun i j => .int (i + j)) (tOp (rI CPowW fun i j => .int (i ^ j.toNat)) (tC (.int 10)) (tC (.int 37))) (tC (.int 43)))) (tC (.int 83))) (tOp (rI CMulW fun i j => .int (i * j)) (tC (.int 7)) (tVar 1))) (tCons (tC (.int 0)) tNil))))) { nx := fun _ H1 => Q .non H1, rt := Q } [some (.ref a), some (.int k), some (.int c)] H := fun c hc => by
    have hm1 := Int.emod_nonneg c (show (10 : Int) ^ (37 : Int).toNat + 43 ≠ 0 by decide)
    have hm2 := Int.emod_lt_of_pos c (show 0 < (10 : Int) ^ (37 : Int).toNat + 43 by decide)
    have hm3 : (10 : Int) ^ (37 : Int).toNat + 43 = 10000000000000000000000000000000000043 := by decide
    refine ⟨.int c, rfl, 10, 18, rfl, rfl, ⟨by decide, by decide⟩, c, _, rfl, rfl, 0, _, rfl, ?_⟩
    refine ⟨.int c, rfl, ?_⟩
    refine .inl ⟨_, rfl, ?_⟩
    refine ⟨10, 37, rfl, rfl, ⟨by decide, by decide⟩, _, 43, rfl, rfl, c, _, rfl, rfl, (show (0 : Int) < 10 ^ (37 : Int).toNat + 43 by decide), _, 83, rfl, rfl, wide_mul (a := 130) (b := 10) (by omega) (by decide) (by decide) (by decide) (by decide), ?_⟩
    refine ⟨.int k, rfl, 7, k, rfl, rfl, wide_mul (a := 10) (b := 10) (by decide) (by omega) (by decide) (by decide) (by decide), _, _, rfl, rfl, ?_⟩
    refine ⟨by show 3 ≤ _; omega, fun p hp => hq p _ _ hp ?_ (by omega) (by omega)⟩
    split <;> omega
  refine ⟨.int k, rfl, .ref a, rfl, a, ns.map V.int, rfl, .inl hS, k, _, rfl, rfl, _, rfl, ?_⟩
  by_cases hk : k < ((ns.map V.int).length : Int)
  · refine ifT hk ?_
    rw [List.length_map] at hk
    have hn : ns[k.toNat]? = some (ns[k.toNat]'(by omega)) := List.getElem?_eq_getElem (by omega)
    have hat : atI (ns.map V.int) k = some (.int (ns[k.toNat]'(by omega))) := by
      have := atI_nat (xs := ns.map V.int) (j := k.toNat) (v := .int (ns[k.toNat]'(by omega))) (by rw [List.getElem?_map, hn]; rfl)
      have e : ((k.toNat : Nat) : Int) = k := by omega
      rw [e] at this
      exact this
    refine ⟨.ref a, rfl, .int k, rfl, .inl ⟨a, ns.map V.int, k, _, rfl, rfl, hS, hat, _, rfl, key _ (by split <;> omega)⟩⟩
  · refine ifF hk ?_
    exact key 0 (by omega)
theorem store_ok {i j : Int} (h0 : 0 ≤ i) (h1 : 0 ≤ j) (h2 : j < 2 ^ 150) : StOk [.int i, .int j, .int 0] 0 := ⟨i, j, 0, rfl, h0, h1, h2, Nat.le_refl _⟩
theorem right_go {S : SpecS} {lit : Int} (hS : ∀ os P, StOk os 0 → (∀ xs os', Good xs → 4 ≤ xs.length → xs.length ≤ 20 → StOk os' 200 → P (plD xs) os') → S os [.int lit] P)
    {Hc : Hp} {p q : Addr} {i j i2 j2 : Int} (hp : Hc p = some (.lst [.int i, .int j, .int 0])) (hq : Hc q = some (.lst [.int i2, .int j2, .int 0])) (hi : 0 ≤ i) (hj : 0 ≤ j) (hj2 : j < 2 ^ 150) (gi : 0 ≤ i2) (gj : 0 ≤ j2) (gj2 : j2 < 2 ^ 150) {Q1 : VK} {E1 E2 : XK}
    (h : ∀ H', (∀ b o, b ≠ p → b ≠ q → Hc b = some o → H' b = some o) → Q1 (.bl true) H') : spS S [.ref p, .int lit] Hc (fun v H1 => spS S_l_right [.ref q, v] H1 Q1 E2) E1 := by
  refine ⟨fun _ => none, Hc, p, [.int i, .int j, .int 0], [.int i, .int j, .int 0], [.int lit], [.int lit], fun d os' => ∃ xs, d = plD xs ∧ Good xs ∧ 4 ≤ xs.length ∧ xs.length ≤ 20 ∧ StOk os' 200, rfl, rfl, fun _ => .inl rfl, hp, .cons (.int _) (.cons (.int _) (.cons (.int _) .nil)), .cons (.int _) .nil, hS _ _ (store_ok hi hj hj2) fun xs os' h1 h2 h3 h4 => ⟨xs, rfl, h1, h2, h3, h4⟩, ?_⟩
  rintro d os' v ws' H2 ⟨xs, rfl, h1, h2, h3, h4⟩ ex dj hd hws
  have hno : ∀ b o, Hc b = some o → H2 b = none := fun b o hb => (dj b).elim id fun z => by rw [hb] at z; cases z
  have dj2 : Dj H2 (upd Hc p (.lst ws')) := fun b => by
    by_cases hb : b = p
    · subst hb; exact .inl (hno _ _ hp)
    · rw [upd_ne hb]; exact dj b
  have go : ∀ (wq : List V) (oq : List PyData), (upd Hc p (.lst ws')) q = some (.lst wq) → DdAll H2 wq oq → StOk oq 200 → spS S_l_right [.ref q, v] (jn H2 (upd Hc p (.lst ws'))) Q1 E2 := fun wq oq e1 e2 e3 => by
    refine ⟨H2, upd Hc p (.lst ws'), q, wq, oq, [v], [plD xs], fun d _ => d = .bool true, rfl, rfl, dj2, e1, e2, .cons hd .nil, ⟨200, xs, e3, by omega, rfl, h1, h2, h3, fun _ _ => rfl⟩, ?_⟩
    rintro d os'' v' ws'' H3 rfl ex3 dj3 hd3 hws3
    cases hd3.bool_inv
    refine h _ fun b o hb1 hb2 hb => ?_
    have hb3 : (upd Hc p (.lst ws')) b = some o := by rw [upd_ne hb1]; exact hb
    have hb4 : H3 b = none := (dj3 b).elim id fun z => by rw [hb3] at z; cases z
    rw [jn_r hb4, upd_ne hb2]
    exact hb3
  by_cases hpq : q = p
  · subst hpq
    exact go ws' os' upd_same hws h4
  · exact go _ _ (by rw [upd_ne hpq]; exact hq) (.cons (.int _) (.cons (.int _) (.cons (.int _) .nil))) ((store_ok gi gj gj2).le (by omega))
theorem sq_ex {K : PySem.W.Frag} {H H' : Hp} {a : Addr} {xs : List V} (h : SqL K H a xs) (e : DL.Ex H H') : SqL K H' a xs :=
  h.elim (fun h => .inl (h.elim (fun h => .inl (e _ _ h)) fun ⟨o, h⟩ => .inr ⟨o, e _ _ h⟩)) fun h => .inr h
theorem ex_upd {H : Hp} {p : Addr} {o : HO} (h : H p = none) : DL.Ex H (upd H p o) := fun b u e => by
  rw [upd_ne (fun z => by rw [z, h] at e; cases e)]; exact e
theorem bd_law {K : PySem.W.Frag} (vs : List V) (H : Hp) (Q : VK) (E : XK) (h : (sp_law K) vs H Q E) : t_law K { nx := fun _ H1 => Q .non H1, rt := Q } (L2.start n_law vs) H := by
  obtain ⟨a, ns, rfl, hS, hq⟩ := h
  have mid : ∀ os P, StOk os 0 → (∀ xs os', Good xs → 4 ≤ xs.length → xs.length ≤ 20 → StOk os' 200 → P (plD xs) os') → S_l_middle os [.int 10] P := fun os P h1 h2 => ⟨0, h1, by omega, rfl, fun xs os' a b c d => h2 xs os' a b c (by simpa using d)⟩
  have gre : ∀ os P, StOk os 0 → (∀ xs os', Good xs → 4 ≤ xs.length → xs.length ≤ 20 → StOk os' 200 → P (plD xs) os') → S_l_great os [.int 20] P := fun os P h1 h2 => ⟨0, h1, by omega, rfl, fun xs os' a b c d => h2 xs os' a b c (by simpa using d)⟩
  refine ⟨.ref a, rfl, a, ns.map V.int, rfl, .inl hS, 4, _, rfl, 1, _, rfl, _, rfl, ?_, ?_, ?_⟩
  · split <;> omega
  · split <;> split <;> omega
  generalize hcc : (if (if ((ns.map V.int).length : Int) < 4 then ((ns.map V.int).length : Int) else 4) > 1 then (if ((ns.map V.int).length : Int) < 4 then ((ns.map V.int).length : Int) else 4) else 1 : Int).toNat = c
  have hc4 : c ≤ 4 := by rw [← hcc]; split <;> split <;> omega
  refine ⟨fun i m σ H' => m = c - i ∧ i ≤ c ∧ (∃ x1 x2, σ = [some (.ref a), x1, x2]) ∧ DL.Ex H H', ⟨_, rfl, Nat.zero_le _, ⟨none, none, rfl⟩, DL.Ex.refl _⟩, ?_⟩
  rintro i m σ2 H2 ⟨rfl, hi, ⟨x1, x2, rfl⟩, hx⟩
  have hS2 := sq_ex hS hx
  by_cases hlt : i < c
  · refine .inr ⟨hlt, fun σ' H' => c - (i + 1) = c - (i + 1) ∧ i + 1 ≤ c ∧ (∃ x1 x2, σ' = [some (.ref a), x1, x2]) ∧ DL.Ex H H', fun σ' H' hn => ⟨c - (i + 1), by omega, hn⟩, ?_⟩
    rintro x H' ⟨rfl, rfl⟩
    refine ⟨.ref a, rfl, .int (0 + (i : Int)), rfl, a, ns, 0 + (i : Int), rfl, hS2, by omega, by omega, fun p i1 j1 hp h1 h2 h3 => ?_⟩
    have hext := ex_upd (H := H') (p := p) (o := .lst [.int i1, .int j1, .int 0]) hp
    refine ⟨.ref p, rfl, .ref p, rfl, ?_⟩
    dsimp only [tCons, tC, tNil, tCall, List.append_nil]
    refine right_go mid (p := p) (q := p) (i := i1) (j := j1) (i2 := i1) (j2 := j1) upd_same upd_same h1 h2 h3 h1 h2 h3 fun H3 h4 => ⟨true, rfl, ifNt ?_⟩
    refine ⟨rfl, hlt, ⟨_, _, rfl⟩, fun b o hb => ?_⟩
    have hb2 := hx b o hb
    have hbp : b ≠ p := fun z => by rw [z, hp] at hb2; cases hb2
    exact h4 b o hbp hbp (hext b o hb2)
  · have ei : i = c := by omega
    subst ei
    refine .inl ⟨Nat.le_refl _, ?_⟩
    refine ⟨.ref a, rfl, a, ns, 0, rfl, hS2, by omega, by omega, fun q i1 j1 hq1 h1 h2 h3 => ?_⟩
    have hext := ex_upd (H := H2) (p := q) (o := .lst [.int i1, .int j1, .int 0]) hq1
    refine ⟨.ref a, rfl, a, ns, 0, rfl, sq_ex hS2 hext, by omega, by omega, fun p i2 j2 hp1 g1 g2 g3 => ?_⟩
    dsimp only [tCons, tC, tNil, tCall, List.append_nil]
    refine right_go gre (p := p) (q := q) (i := i2) (j := j2) (i2 := i1) (j2 := j1) upd_same ?_ g1 g2 g3 h1 h2 h3 fun H3 h4 => hq _
    rw [upd_ne (fun z => by rw [← z, upd_same] at hp1; cases hp1)]
    exact upd_same
end PN
end

section
set_option Elab.async false
set_option linter.all false
set_option autoImplicit false
set_option maxRecDepth 100000
namespace PN
open PySem PySem.Spec PyProof.Rows L2 DL
theorem lenP {S : SpecD} {n : Nat} (hS : ∀ ds P, S ds P → ds.length = n) (vs : List V) (H : Hp) (Q : VK) (E : XK) (h : spP S vs H Q E) : vs.length = n := by
  obtain ⟨_, _, ds, P0, _, _, hd, hs, _⟩ := h
  rw [hd.length]; exact hS ds P0 hs
theorem lenS {S : SpecS} {n : Nat} (hS : ∀ os ds P, S os ds P → ds.length = n) (vs : List V) (H : Hp) (Q : VK) (E : XK) (h : spS S vs H Q E) : vs.length = n + 1 := by
  obtain ⟨_, _, _, _, os, vs', ds, P0, rfl, _, _, _, _, hd, hs, _⟩ := h
  rw [List.length_cons, hd.length, hS os ds P0 hs]
theorem len_is_integer (vs : List V) (H : Hp) (Q : VK) (E : XK) (h : spP S_is_integer vs H Q E) : vs.length = 1 := lenP (fun ds P h => by
  first | (obtain ⟨_, rfl, _⟩ := h; rfl) | (obtain ⟨_, _, rfl, _⟩ := h; rfl) | (obtain ⟨_, _, _, rfl, _⟩ := h; rfl) | (obtain ⟨_, _, _, _, rfl, _⟩ := h; rfl)) vs H Q E h
theorem len_is_number (vs : List V) (H : Hp) (Q : VK) (E : XK) (h : spP S_is_number vs H Q E) : vs.length = 1 := lenP (fun ds P h => by
  first | (obtain ⟨_, rfl, _⟩ := h; rfl) | (obtain ⟨_, _, rfl, _⟩ := h; rfl) | (obtain ⟨_, _, _, rfl, _⟩ := h; rfl) | (obtain ⟨_, _, _, _, rfl, _⟩ := h; rfl)) vs H Q E h
theorem len_is_plugs (vs : List V) (H : Hp) (Q : VK) (E : XK) (h : spP S_is_plugs vs H Q E) : vs.length = 1 := lenP (fun ds P h => by
  first | (obtain ⟨_, rfl, _⟩ := h; rfl) | (obtain ⟨_, _, rfl, _⟩ := h; rfl) | (obtain ⟨_, _, _, rfl, _⟩ := h; rfl) | (obtain ⟨_, _, _, _, rfl, _⟩ := h; rfl)) vs H Q E h
theorem len_need_plugs (vs : List V) (H : Hp) (Q : VK) (E : XK) (h : spP S_need_plugs vs H Q E) : vs.length = 1 := lenP (fun ds P h => by
  first | (obtain ⟨_, rfl, _⟩ := h; rfl) | (obtain ⟨_, _, rfl, _⟩ := h; rfl) | (obtain ⟨_, _, _, rfl, _⟩ := h; rfl) | (obtain ⟨_, _, _, _, rfl, _⟩ := h; rfl)) vs H Q E h
theorem len_need_device (vs : List V) (H : Hp) (Q : VK) (E : XK) (h : spP S_need_device vs H Q E) : vs.length = 2 := lenP (fun ds P h => by
  first | (obtain ⟨_, rfl, _⟩ := h; rfl) | (obtain ⟨_, _, rfl, _⟩ := h; rfl) | (obtain ⟨_, _, _, rfl, _⟩ := h; rfl) | (obtain ⟨_, _, _, _, rfl, _⟩ := h; rfl)) vs H Q E h
theorem len_too_many (vs : List V) (H : Hp) (Q : VK) (E : XK) (h : spP S_too_many vs H Q E) : vs.length = 1 := lenP (fun ds P h => by
  first | (obtain ⟨_, rfl, _⟩ := h; rfl) | (obtain ⟨_, _, rfl, _⟩ := h; rfl) | (obtain ⟨_, _, _, rfl, _⟩ := h; rfl) | (obtain ⟨_, _, _, _, rfl, _⟩ := h; rfl)) vs H Q E h
theorem len_conflict_in (vs : List V) (H : Hp) (Q : VK) (E : XK) (h : spP S_conflict_in vs H Q E) : vs.length = 1 := lenP (fun ds P h => by
  first | (obtain ⟨_, rfl, _⟩ := h; rfl) | (obtain ⟨_, _, rfl, _⟩ := h; rfl) | (obtain ⟨_, _, _, rfl, _⟩ := h; rfl) | (obtain ⟨_, _, _, _, rfl, _⟩ := h; rfl)) vs H Q E h
theorem len_need_net (vs : List V) (H : Hp) (Q : VK) (E : XK) (h : spP S_need_net vs H Q E) : vs.length = 1 := lenP (fun ds P h => by
  first | (obtain ⟨_, rfl, _⟩ := h; rfl) | (obtain ⟨_, _, rfl, _⟩ := h; rfl) | (obtain ⟨_, _, _, rfl, _⟩ := h; rfl) | (obtain ⟨_, _, _, _, rfl, _⟩ := h; rfl)) vs H Q E h
theorem len_factorial_of (vs : List V) (H : Hp) (Q : VK) (E : XK) (h : spP S_factorial_of vs H Q E) : vs.length = 1 := lenP (fun ds P h => by
  first | (obtain ⟨_, rfl, _⟩ := h; rfl) | (obtain ⟨_, _, rfl, _⟩ := h; rfl) | (obtain ⟨_, _, _, rfl, _⟩ := h; rfl) | (obtain ⟨_, _, _, _, rfl, _⟩ := h; rfl)) vs H Q E h
theorem len_nets_of (vs : List V) (H : Hp) (Q : VK) (E : XK) (h : spP S_nets_of vs H Q E) : vs.length = 1 := lenP (fun ds P h => by
  first | (obtain ⟨_, rfl, _⟩ := h; rfl) | (obtain ⟨_, _, rfl, _⟩ := h; rfl) | (obtain ⟨_, _, _, rfl, _⟩ := h; rfl) | (obtain ⟨_, _, _, _, rfl, _⟩ := h; rfl)) vs H Q E h
theorem len_need_possible (vs : List V) (H : Hp) (Q : VK) (E : XK) (h : spP S_need_possible vs H Q E) : vs.length = 1 := lenP (fun ds P h => by
  first | (obtain ⟨_, rfl, _⟩ := h; rfl) | (obtain ⟨_, _, rfl, _⟩ := h; rfl) | (obtain ⟨_, _, _, rfl, _⟩ := h; rfl) | (obtain ⟨_, _, _, _, rfl, _⟩ := h; rfl)) vs H Q E h
theorem len_count_nets (vs : List V) (H : Hp) (Q : VK) (E : XK) (h : spP S_count_nets vs H Q E) : vs.length = 1 := lenP (fun ds P h => by
  first | (obtain ⟨_, rfl, _⟩ := h; rfl) | (obtain ⟨_, _, rfl, _⟩ := h; rfl) | (obtain ⟨_, _, _, rfl, _⟩ := h; rfl) | (obtain ⟨_, _, _, _, rfl, _⟩ := h; rfl)) vs H Q E h
theorem len_divisor_of (vs : List V) (H : Hp) (Q : VK) (E : XK) (h : spP S_divisor_of vs H Q E) : vs.length = 2 := lenP (fun ds P h => by
  first | (obtain ⟨_, rfl, _⟩ := h; rfl) | (obtain ⟨_, _, rfl, _⟩ := h; rfl) | (obtain ⟨_, _, _, rfl, _⟩ := h; rfl) | (obtain ⟨_, _, _, _, rfl, _⟩ := h; rfl)) vs H Q E h
theorem len_lowest (vs : List V) (H : Hp) (Q : VK) (E : XK) (h : spP S_lowest vs H Q E) : vs.length = 2 := lenP (fun ds P h => by
  first | (obtain ⟨_, rfl, _⟩ := h; rfl) | (obtain ⟨_, _, rfl, _⟩ := h; rfl) | (obtain ⟨_, _, _, rfl, _⟩ := h; rfl) | (obtain ⟨_, _, _, _, rfl, _⟩ := h; rfl)) vs H Q E h
theorem len_share_of_cables (vs : List V) (H : Hp) (Q : VK) (E : XK) (h : spP S_share_of_cables vs H Q E) : vs.length = 3 := lenP (fun ds P h => by
  first | (obtain ⟨_, rfl, _⟩ := h; rfl) | (obtain ⟨_, _, rfl, _⟩ := h; rfl) | (obtain ⟨_, _, _, rfl, _⟩ := h; rfl) | (obtain ⟨_, _, _, _, rfl, _⟩ := h; rfl)) vs H Q E h
theorem len_need_two (vs : List V) (H : Hp) (Q : VK) (E : XK) (h : spP S_need_two vs H Q E) : vs.length = 3 := lenP (fun ds P h => by
  first | (obtain ⟨_, rfl, _⟩ := h; rfl) | (obtain ⟨_, _, rfl, _⟩ := h; rfl) | (obtain ⟨_, _, _, rfl, _⟩ := h; rfl) | (obtain ⟨_, _, _, _, rfl, _⟩ := h; rfl)) vs H Q E h
theorem len_cable_share (vs : List V) (H : Hp) (Q : VK) (E : XK) (h : spP S_cable_share vs H Q E) : vs.length = 3 := lenP (fun ds P h => by
  first | (obtain ⟨_, rfl, _⟩ := h; rfl) | (obtain ⟨_, _, rfl, _⟩ := h; rfl) | (obtain ⟨_, _, _, rfl, _⟩ := h; rfl) | (obtain ⟨_, _, _, _, rfl, _⟩ := h; rfl)) vs H Q E h
theorem len_choices (vs : List V) (H : Hp) (Q : VK) (E : XK) (h : spP S_choices vs H Q E) : vs.length = 2 := lenP (fun ds P h => by
  first | (obtain ⟨_, rfl, _⟩ := h; rfl) | (obtain ⟨_, _, rfl, _⟩ := h; rfl) | (obtain ⟨_, _, _, rfl, _⟩ := h; rfl) | (obtain ⟨_, _, _, _, rfl, _⟩ := h; rfl)) vs H Q E h
theorem len_is_group (vs : List V) (H : Hp) (Q : VK) (E : XK) (h : spP S_is_group vs H Q E) : vs.length = 3 := lenP (fun ds P h => by
  first | (obtain ⟨_, rfl, _⟩ := h; rfl) | (obtain ⟨_, _, rfl, _⟩ := h; rfl) | (obtain ⟨_, _, _, rfl, _⟩ := h; rfl) | (obtain ⟨_, _, _, _, rfl, _⟩ := h; rfl)) vs H Q E h
theorem len_need_group (vs : List V) (H : Hp) (Q : VK) (E : XK) (h : spP S_need_group vs H Q E) : vs.length = 3 := lenP (fun ds P h => by
  first | (obtain ⟨_, rfl, _⟩ := h; rfl) | (obtain ⟨_, _, rfl, _⟩ := h; rfl) | (obtain ⟨_, _, _, rfl, _⟩ := h; rfl) | (obtain ⟨_, _, _, _, rfl, _⟩ := h; rfl)) vs H Q E h
theorem len_share_of_around (vs : List V) (H : Hp) (Q : VK) (E : XK) (h : spP S_share_of_around vs H Q E) : vs.length = 3 := lenP (fun ds P h => by
  first | (obtain ⟨_, rfl, _⟩ := h; rfl) | (obtain ⟨_, _, rfl, _⟩ := h; rfl) | (obtain ⟨_, _, _, rfl, _⟩ := h; rfl) | (obtain ⟨_, _, _, _, rfl, _⟩ := h; rfl)) vs H Q E h
theorem len_is_full (vs : List V) (H : Hp) (Q : VK) (E : XK) (h : spP S_is_full vs H Q E) : vs.length = 2 := lenP (fun ds P h => by
  first | (obtain ⟨_, rfl, _⟩ := h; rfl) | (obtain ⟨_, _, rfl, _⟩ := h; rfl) | (obtain ⟨_, _, _, rfl, _⟩ := h; rfl) | (obtain ⟨_, _, _, _, rfl, _⟩ := h; rfl)) vs H Q E h
theorem len_weight_of (vs : List V) (H : Hp) (Q : VK) (E : XK) (h : spP S_weight_of vs H Q E) : vs.length = 2 := lenP (fun ds P h => by
  first | (obtain ⟨_, rfl, _⟩ := h; rfl) | (obtain ⟨_, _, rfl, _⟩ := h; rfl) | (obtain ⟨_, _, _, rfl, _⟩ := h; rfl) | (obtain ⟨_, _, _, _, rfl, _⟩ := h; rfl)) vs H Q E h
theorem len_share_around (vs : List V) (H : Hp) (Q : VK) (E : XK) (h : spP S_share_around vs H Q E) : vs.length = 3 := lenP (fun ds P h => by
  first | (obtain ⟨_, rfl, _⟩ := h; rfl) | (obtain ⟨_, _, rfl, _⟩ := h; rfl) | (obtain ⟨_, _, _, rfl, _⟩ := h; rfl) | (obtain ⟨_, _, _, _, rfl, _⟩ := h; rfl)) vs H Q E h
theorem len_need_centre (vs : List V) (H : Hp) (Q : VK) (E : XK) (h : spP S_need_centre vs H Q E) : vs.length = 3 := lenP (fun ds P h => by
  first | (obtain ⟨_, rfl, _⟩ := h; rfl) | (obtain ⟨_, _, rfl, _⟩ := h; rfl) | (obtain ⟨_, _, _, rfl, _⟩ := h; rfl) | (obtain ⟨_, _, _, _, rfl, _⟩ := h; rfl)) vs H Q E h
theorem len_around_share (vs : List V) (H : Hp) (Q : VK) (E : XK) (h : spP S_around_share vs H Q E) : vs.length = 3 := lenP (fun ds P h => by
  first | (obtain ⟨_, rfl, _⟩ := h; rfl) | (obtain ⟨_, _, rfl, _⟩ := h; rfl) | (obtain ⟨_, _, _, rfl, _⟩ := h; rfl) | (obtain ⟨_, _, _, _, rfl, _⟩ := h; rfl)) vs H Q E h
theorem len_need_gathered (vs : List V) (H : Hp) (Q : VK) (E : XK) (h : spP S_need_gathered vs H Q E) : vs.length = 2 := lenP (fun ds P h => by
  first | (obtain ⟨_, rfl, _⟩ := h; rfl) | (obtain ⟨_, _, rfl, _⟩ := h; rfl) | (obtain ⟨_, _, _, rfl, _⟩ := h; rfl) | (obtain ⟨_, _, _, _, rfl, _⟩ := h; rfl)) vs H Q E h
theorem len_tops_within (vs : List V) (H : Hp) (Q : VK) (E : XK) (h : spP S_tops_within vs H Q E) : vs.length = 3 := lenP (fun ds P h => by
  first | (obtain ⟨_, rfl, _⟩ := h; rfl) | (obtain ⟨_, _, rfl, _⟩ := h; rfl) | (obtain ⟨_, _, _, rfl, _⟩ := h; rfl) | (obtain ⟨_, _, _, _, rfl, _⟩ := h; rfl)) vs H Q E h
theorem len_tops_of_group (vs : List V) (H : Hp) (Q : VK) (E : XK) (h : spP S_tops_of_group vs H Q E) : vs.length = 2 := lenP (fun ds P h => by
  first | (obtain ⟨_, rfl, _⟩ := h; rfl) | (obtain ⟨_, _, rfl, _⟩ := h; rfl) | (obtain ⟨_, _, _, rfl, _⟩ := h; rfl) | (obtain ⟨_, _, _, _, rfl, _⟩ := h; rfl)) vs H Q E h
theorem len_within_shares (vs : List V) (H : Hp) (Q : VK) (E : XK) (h : spP S_within_shares vs H Q E) : vs.length = 2 := lenP (fun ds P h => by
  first | (obtain ⟨_, rfl, _⟩ := h; rfl) | (obtain ⟨_, _, rfl, _⟩ := h; rfl) | (obtain ⟨_, _, _, rfl, _⟩ := h; rfl) | (obtain ⟨_, _, _, _, rfl, _⟩ := h; rfl)) vs H Q E h
theorem len_together_share (vs : List V) (H : Hp) (Q : VK) (E : XK) (h : spP S_together_share vs H Q E) : vs.length = 2 := lenP (fun ds P h => by
  first | (obtain ⟨_, rfl, _⟩ := h; rfl) | (obtain ⟨_, _, rfl, _⟩ := h; rfl) | (obtain ⟨_, _, _, rfl, _⟩ := h; rfl) | (obtain ⟨_, _, _, _, rfl, _⟩ := h; rfl)) vs H Q E h
theorem len_is_side (vs : List V) (H : Hp) (Q : VK) (E : XK) (h : spP S_is_side vs H Q E) : vs.length = 2 := lenP (fun ds P h => by
  first | (obtain ⟨_, rfl, _⟩ := h; rfl) | (obtain ⟨_, _, rfl, _⟩ := h; rfl) | (obtain ⟨_, _, _, rfl, _⟩ := h; rfl) | (obtain ⟨_, _, _, _, rfl, _⟩ := h; rfl)) vs H Q E h
theorem len_side_share (vs : List V) (H : Hp) (Q : VK) (E : XK) (h : spP S_side_share vs H Q E) : vs.length = 2 := lenP (fun ds P h => by
  first | (obtain ⟨_, rfl, _⟩ := h; rfl) | (obtain ⟨_, _, rfl, _⟩ := h; rfl) | (obtain ⟨_, _, _, rfl, _⟩ := h; rfl) | (obtain ⟨_, _, _, _, rfl, _⟩ := h; rfl)) vs H Q E h
theorem len_path_sums (vs : List V) (H : Hp) (Q : VK) (E : XK) (h : spP S_path_sums vs H Q E) : vs.length = 1 := lenP (fun ds P h => by
  first | (obtain ⟨_, rfl, _⟩ := h; rfl) | (obtain ⟨_, _, rfl, _⟩ := h; rfl) | (obtain ⟨_, _, _, rfl, _⟩ := h; rfl) | (obtain ⟨_, _, _, _, rfl, _⟩ := h; rfl)) vs H Q E h
theorem len_is_line (vs : List V) (H : Hp) (Q : VK) (E : XK) (h : spP S_is_line vs H Q E) : vs.length = 3 := lenP (fun ds P h => by
  first | (obtain ⟨_, rfl, _⟩ := h; rfl) | (obtain ⟨_, _, rfl, _⟩ := h; rfl) | (obtain ⟨_, _, _, rfl, _⟩ := h; rfl) | (obtain ⟨_, _, _, _, rfl, _⟩ := h; rfl)) vs H Q E h
theorem len_tops_of (vs : List V) (H : Hp) (Q : VK) (E : XK) (h : spP S_tops_of vs H Q E) : vs.length = 3 := lenP (fun ds P h => by
  first | (obtain ⟨_, rfl, _⟩ := h; rfl) | (obtain ⟨_, _, rfl, _⟩ := h; rfl) | (obtain ⟨_, _, _, rfl, _⟩ := h; rfl) | (obtain ⟨_, _, _, _, rfl, _⟩ := h; rfl)) vs H Q E h
theorem len_shares_of (vs : List V) (H : Hp) (Q : VK) (E : XK) (h : spP S_shares_of vs H Q E) : vs.length = 3 := lenP (fun ds P h => by
  first | (obtain ⟨_, rfl, _⟩ := h; rfl) | (obtain ⟨_, _, rfl, _⟩ := h; rfl) | (obtain ⟨_, _, _, rfl, _⟩ := h; rfl) | (obtain ⟨_, _, _, _, rfl, _⟩ := h; rfl)) vs H Q E h
theorem len_step_shares (vs : List V) (H : Hp) (Q : VK) (E : XK) (h : spP S_step_shares vs H Q E) : vs.length = 3 := lenP (fun ds P h => by
  first | (obtain ⟨_, rfl, _⟩ := h; rfl) | (obtain ⟨_, _, rfl, _⟩ := h; rfl) | (obtain ⟨_, _, _, rfl, _⟩ := h; rfl) | (obtain ⟨_, _, _, _, rfl, _⟩ := h; rfl)) vs H Q E h
theorem len_l_store {K : PySem.W.Frag} (vs : List V) (H : Hp) (Q : VK) (E : XK) (h : sp_l_store K vs H Q E) : vs.length = 2 := by
  first | (obtain ⟨_, _, rfl, _⟩ := h; rfl) | (obtain ⟨_, _, _, rfl, _⟩ := h; rfl)
theorem len_l_pick (vs : List V) (H : Hp) (Q : VK) (E : XK) (h : spS S_l_pick vs H Q E) : vs.length = 2 := lenS (n := 1) (fun os ds P h => by
  first | (obtain ⟨_, _, rfl, _⟩ := h; rfl) | (obtain ⟨_, _, _, rfl, _⟩ := h; rfl) | (obtain ⟨_, _, _, _, rfl, _⟩ := h; rfl) | (obtain ⟨_, _, _, _, _, rfl, _⟩ := h; rfl)) vs H Q E h
theorem len_l_word (vs : List V) (H : Hp) (Q : VK) (E : XK) (h : spS S_l_word vs H Q E) : vs.length = 2 := lenS (n := 1) (fun os ds P h => by
  first | (obtain ⟨_, _, rfl, _⟩ := h; rfl) | (obtain ⟨_, _, _, rfl, _⟩ := h; rfl) | (obtain ⟨_, _, _, _, rfl, _⟩ := h; rfl) | (obtain ⟨_, _, _, _, _, rfl, _⟩ := h; rfl)) vs H Q E h
theorem len_l_plugs (vs : List V) (H : Hp) (Q : VK) (E : XK) (h : spP S_l_plugs vs H Q E) : vs.length = 1 := lenP (fun ds P h => by
  first | (obtain ⟨_, rfl, _⟩ := h; rfl) | (obtain ⟨_, _, rfl, _⟩ := h; rfl) | (obtain ⟨_, _, _, rfl, _⟩ := h; rfl) | (obtain ⟨_, _, _, _, rfl, _⟩ := h; rfl)) vs H Q E h
theorem len_l_great (vs : List V) (H : Hp) (Q : VK) (E : XK) (h : spS S_l_great vs H Q E) : vs.length = 2 := lenS (n := 1) (fun os ds P h => by
  first | (obtain ⟨_, _, rfl, _⟩ := h; rfl) | (obtain ⟨_, _, _, rfl, _⟩ := h; rfl) | (obtain ⟨_, _, _, _, rfl, _⟩ := h; rfl) | (obtain ⟨_, _, _, _, _, rfl, _⟩ := h; rfl)) vs H Q E h
theorem len_l_middle (vs : List V) (H : Hp) (Q : VK) (E : XK) (h : spS S_l_middle vs H Q E) : vs.length = 2 := lenS (n := 1) (fun os ds P h => by
  first | (obtain ⟨_, _, rfl, _⟩ := h; rfl) | (obtain ⟨_, _, _, rfl, _⟩ := h; rfl) | (obtain ⟨_, _, _, _, rfl, _⟩ := h; rfl) | (obtain ⟨_, _, _, _, _, rfl, _⟩ := h; rfl)) vs H Q E h
theorem len_l_fraction (vs : List V) (H : Hp) (Q : VK) (E : XK) (h : spP S_l_fraction vs H Q E) : vs.length = 2 := lenP (fun ds P h => by
  first | (obtain ⟨_, rfl, _⟩ := h; rfl) | (obtain ⟨_, _, rfl, _⟩ := h; rfl) | (obtain ⟨_, _, _, rfl, _⟩ := h; rfl) | (obtain ⟨_, _, _, _, rfl, _⟩ := h; rfl)) vs H Q E h
theorem len_l_sum (vs : List V) (H : Hp) (Q : VK) (E : XK) (h : spP S_l_sum vs H Q E) : vs.length = 1 := lenP (fun ds P h => by
  first | (obtain ⟨_, rfl, _⟩ := h; rfl) | (obtain ⟨_, _, rfl, _⟩ := h; rfl) | (obtain ⟨_, _, _, rfl, _⟩ := h; rfl) | (obtain ⟨_, _, _, _, rfl, _⟩ := h; rfl)) vs H Q E h
theorem len_l_without (vs : List V) (H : Hp) (Q : VK) (E : XK) (h : spP S_l_without vs H Q E) : vs.length = 3 := lenP (fun ds P h => by
  first | (obtain ⟨_, rfl, _⟩ := h; rfl) | (obtain ⟨_, _, rfl, _⟩ := h; rfl) | (obtain ⟨_, _, _, rfl, _⟩ := h; rfl) | (obtain ⟨_, _, _, _, rfl, _⟩ := h; rfl)) vs H Q E h
theorem len_l_name (vs : List V) (H : Hp) (Q : VK) (E : XK) (h : spP S_l_name vs H Q E) : vs.length = 2 := lenP (fun ds P h => by
  first | (obtain ⟨_, rfl, _⟩ := h; rfl) | (obtain ⟨_, _, rfl, _⟩ := h; rfl) | (obtain ⟨_, _, _, rfl, _⟩ := h; rfl) | (obtain ⟨_, _, _, _, rfl, _⟩ := h; rfl)) vs H Q E h
theorem len_l_names (vs : List V) (H : Hp) (Q : VK) (E : XK) (h : spP S_l_names vs H Q E) : vs.length = 2 := lenP (fun ds P h => by
  first | (obtain ⟨_, rfl, _⟩ := h; rfl) | (obtain ⟨_, _, rfl, _⟩ := h; rfl) | (obtain ⟨_, _, _, rfl, _⟩ := h; rfl) | (obtain ⟨_, _, _, _, rfl, _⟩ := h; rfl)) vs H Q E h
theorem len_l_mixed (vs : List V) (H : Hp) (Q : VK) (E : XK) (h : spP S_l_mixed vs H Q E) : vs.length = 2 := lenP (fun ds P h => by
  first | (obtain ⟨_, rfl, _⟩ := h; rfl) | (obtain ⟨_, _, rfl, _⟩ := h; rfl) | (obtain ⟨_, _, _, rfl, _⟩ := h; rfl) | (obtain ⟨_, _, _, _, rfl, _⟩ := h; rfl)) vs H Q E h
theorem len_l_weighed (vs : List V) (H : Hp) (Q : VK) (E : XK) (h : spP S_l_weighed vs H Q E) : vs.length = 2 := lenP (fun ds P h => by
  first | (obtain ⟨_, rfl, _⟩ := h; rfl) | (obtain ⟨_, _, rfl, _⟩ := h; rfl) | (obtain ⟨_, _, _, rfl, _⟩ := h; rfl) | (obtain ⟨_, _, _, _, rfl, _⟩ := h; rfl)) vs H Q E h
theorem len_l_right (vs : List V) (H : Hp) (Q : VK) (E : XK) (h : spS S_l_right vs H Q E) : vs.length = 2 := lenS (n := 1) (fun os ds P h => by
  first | (obtain ⟨_, _, rfl, _⟩ := h; rfl) | (obtain ⟨_, _, _, rfl, _⟩ := h; rfl) | (obtain ⟨_, _, _, _, rfl, _⟩ := h; rfl) | (obtain ⟨_, _, _, _, _, rfl, _⟩ := h; rfl)) vs H Q E h
theorem len_l_group_right (vs : List V) (H : Hp) (Q : VK) (E : XK) (h : spP S_l_group_right vs H Q E) : vs.length = 6 := lenP (fun ds P h => by
  first | (obtain ⟨_, rfl, _⟩ := h; rfl) | (obtain ⟨_, _, rfl, _⟩ := h; rfl) | (obtain ⟨_, _, _, rfl, _⟩ := h; rfl) | (obtain ⟨_, _, _, _, rfl, _⟩ := h; rfl)) vs H Q E h
theorem len_l_around_right (vs : List V) (H : Hp) (Q : VK) (E : XK) (h : spP S_l_around_right vs H Q E) : vs.length = 4 := lenP (fun ds P h => by
  first | (obtain ⟨_, rfl, _⟩ := h; rfl) | (obtain ⟨_, _, rfl, _⟩ := h; rfl) | (obtain ⟨_, _, _, rfl, _⟩ := h; rfl) | (obtain ⟨_, _, _, _, rfl, _⟩ := h; rfl)) vs H Q E h
theorem len_law {K : PySem.W.Frag} (vs : List V) (H : Hp) (Q : VK) (E : XK) (h : sp_law K vs H Q E) : vs.length = 1 := by
  first | (obtain ⟨_, _, rfl, _⟩ := h; rfl) | (obtain ⟨_, _, _, rfl, _⟩ := h; rfl)
theorem rd_is_integer {K : PySem.W.Frag} (vs : List V) (H : Hp) (Q : VK) (E : XK) (h : (spP S_is_integer) vs H Q E) : t_is_integer K { nx := fun _ H1 => Q .non H1, rt := Q } (L2.start n_is_integer vs) H := rd_wp (bd_is_integer (K := K)) vs H Q E h
theorem rd_is_number {K : PySem.W.Frag} (vs : List V) (H : Hp) (Q : VK) (E : XK) (h : (spP S_is_number) vs H Q E) : t_is_number K { nx := fun _ H1 => Q .non H1, rt := Q } (L2.start n_is_number vs) H := rd_wp (bd_is_number (K := K)) vs H Q E h
theorem rd_is_plugs {K : PySem.W.Frag} (vs : List V) (H : Hp) (Q : VK) (E : XK) (h : (spP S_is_plugs) vs H Q E) : t_is_plugs K { nx := fun _ H1 => Q .non H1, rt := Q } (L2.start n_is_plugs vs) H := rd_wp (bd_is_plugs (K := K)) vs H Q E h
theorem rd_need_plugs {K : PySem.W.Frag} (vs : List V) (H : Hp) (Q : VK) (E : XK) (h : (spP S_need_plugs) vs H Q E) : t_need_plugs K { nx := fun _ H1 => Q .non H1, rt := Q } (L2.start n_need_plugs vs) H := rd_wp (bd_need_plugs (K := K)) vs H Q E h
theorem rd_need_device {K : PySem.W.Frag} (vs : List V) (H : Hp) (Q : VK) (E : XK) (h : (spP S_need_device) vs H Q E) : t_need_device K { nx := fun _ H1 => Q .non H1, rt := Q } (L2.start n_need_device vs) H := rd_wp (bd_need_device (K := K)) vs H Q E h
theorem rd_too_many {K : PySem.W.Frag} (vs : List V) (H : Hp) (Q : VK) (E : XK) (h : (spP S_too_many) vs H Q E) : t_too_many K { nx := fun _ H1 => Q .non H1, rt := Q } (L2.start n_too_many vs) H := rd_wp (bd_too_many (K := K)) vs H Q E h
theorem rd_conflict_in {K : PySem.W.Frag} (vs : List V) (H : Hp) (Q : VK) (E : XK) (h : (spP S_conflict_in) vs H Q E) : t_conflict_in K { nx := fun _ H1 => Q .non H1, rt := Q } (L2.start n_conflict_in vs) H := rd_wp (bd_conflict_in (K := K)) vs H Q E h
theorem rd_need_net {K : PySem.W.Frag} (vs : List V) (H : Hp) (Q : VK) (E : XK) (h : (spP S_need_net) vs H Q E) : t_need_net K { nx := fun _ H1 => Q .non H1, rt := Q } (L2.start n_need_net vs) H := rd_wp (bd_need_net (K := K)) vs H Q E h
theorem rd_factorial_of {K : PySem.W.Frag} (vs : List V) (H : Hp) (Q : VK) (E : XK) (h : (spP S_factorial_of) vs H Q E) : t_factorial_of K { nx := fun _ H1 => Q .non H1, rt := Q } (L2.start n_factorial_of vs) H := rd_wp (bd_factorial_of (K := K)) vs H Q E h
theorem rd_nets_of {K : PySem.W.Frag} (vs : List V) (H : Hp) (Q : VK) (E : XK) (h : (spP S_nets_of) vs H Q E) : t_nets_of K { nx := fun _ H1 => Q .non H1, rt := Q } (L2.start n_nets_of vs) H := rd_wp (bd_nets_of (K := K)) vs H Q E h
theorem rd_need_possible {K : PySem.W.Frag} (vs : List V) (H : Hp) (Q : VK) (E : XK) (h : (spP S_need_possible) vs H Q E) : t_need_possible K { nx := fun _ H1 => Q .non H1, rt := Q } (L2.start n_need_possible vs) H := rd_wp (bd_need_possible (K := K)) vs H Q E h
theorem rd_count_nets {K : PySem.W.Frag} (vs : List V) (H : Hp) (Q : VK) (E : XK) (h : (spP S_count_nets) vs H Q E) : t_count_nets K { nx := fun _ H1 => Q .non H1, rt := Q } (L2.start n_count_nets vs) H := rd_wp (bd_count_nets (K := K)) vs H Q E h
theorem rd_divisor_of {K : PySem.W.Frag} (vs : List V) (H : Hp) (Q : VK) (E : XK) (h : (spP S_divisor_of) vs H Q E) : t_divisor_of K { nx := fun _ H1 => Q .non H1, rt := Q } (L2.start n_divisor_of vs) H := rd_wp (bd_divisor_of (K := K)) vs H Q E h
theorem rd_lowest {K : PySem.W.Frag} (vs : List V) (H : Hp) (Q : VK) (E : XK) (h : (spP S_lowest) vs H Q E) : t_lowest K { nx := fun _ H1 => Q .non H1, rt := Q } (L2.start n_lowest vs) H := rd_wp (bd_lowest (K := K)) vs H Q E h
theorem rd_share_of_cables {K : PySem.W.Frag} (vs : List V) (H : Hp) (Q : VK) (E : XK) (h : (spP S_share_of_cables) vs H Q E) : t_share_of_cables K { nx := fun _ H1 => Q .non H1, rt := Q } (L2.start n_share_of_cables vs) H := rd_wp (bd_share_of_cables (K := K)) vs H Q E h
theorem rd_need_two {K : PySem.W.Frag} (vs : List V) (H : Hp) (Q : VK) (E : XK) (h : (spP S_need_two) vs H Q E) : t_need_two K { nx := fun _ H1 => Q .non H1, rt := Q } (L2.start n_need_two vs) H := rd_wp (bd_need_two (K := K)) vs H Q E h
theorem rd_cable_share {K : PySem.W.Frag} (vs : List V) (H : Hp) (Q : VK) (E : XK) (h : (spP S_cable_share) vs H Q E) : t_cable_share K { nx := fun _ H1 => Q .non H1, rt := Q } (L2.start n_cable_share vs) H := rd_wp (bd_cable_share (K := K)) vs H Q E h
theorem rd_choices {K : PySem.W.Frag} (vs : List V) (H : Hp) (Q : VK) (E : XK) (h : (spP S_choices) vs H Q E) : t_choices K { nx := fun _ H1 => Q .non H1, rt := Q } (L2.start n_choices vs) H := rd_wp (bd_choices (K := K)) vs H Q E h
theorem rd_is_group {K : PySem.W.Frag} (vs : List V) (H : Hp) (Q : VK) (E : XK) (h : (spP S_is_group) vs H Q E) : t_is_group K { nx := fun _ H1 => Q .non H1, rt := Q } (L2.start n_is_group vs) H := rd_wp (bd_is_group (K := K)) vs H Q E h
theorem rd_need_group {K : PySem.W.Frag} (vs : List V) (H : Hp) (Q : VK) (E : XK) (h : (spP S_need_group) vs H Q E) : t_need_group K { nx := fun _ H1 => Q .non H1, rt := Q } (L2.start n_need_group vs) H := rd_wp (bd_need_group (K := K)) vs H Q E h
theorem rd_share_of_around {K : PySem.W.Frag} (vs : List V) (H : Hp) (Q : VK) (E : XK) (h : (spP S_share_of_around) vs H Q E) : t_share_of_around K { nx := fun _ H1 => Q .non H1, rt := Q } (L2.start n_share_of_around vs) H := rd_wp (bd_share_of_around (K := K)) vs H Q E h
theorem rd_is_full {K : PySem.W.Frag} (vs : List V) (H : Hp) (Q : VK) (E : XK) (h : (spP S_is_full) vs H Q E) : t_is_full K { nx := fun _ H1 => Q .non H1, rt := Q } (L2.start n_is_full vs) H := rd_wp (bd_is_full (K := K)) vs H Q E h
theorem rd_weight_of {K : PySem.W.Frag} (vs : List V) (H : Hp) (Q : VK) (E : XK) (h : (spP S_weight_of) vs H Q E) : t_weight_of K { nx := fun _ H1 => Q .non H1, rt := Q } (L2.start n_weight_of vs) H := rd_wp (bd_weight_of (K := K)) vs H Q E h
theorem rd_share_around {K : PySem.W.Frag} (vs : List V) (H : Hp) (Q : VK) (E : XK) (h : (spP S_share_around) vs H Q E) : t_share_around K { nx := fun _ H1 => Q .non H1, rt := Q } (L2.start n_share_around vs) H := rd_wp (bd_share_around (K := K)) vs H Q E h
theorem rd_need_centre {K : PySem.W.Frag} (vs : List V) (H : Hp) (Q : VK) (E : XK) (h : (spP S_need_centre) vs H Q E) : t_need_centre K { nx := fun _ H1 => Q .non H1, rt := Q } (L2.start n_need_centre vs) H := rd_wp (bd_need_centre (K := K)) vs H Q E h
theorem rd_around_share {K : PySem.W.Frag} (vs : List V) (H : Hp) (Q : VK) (E : XK) (h : (spP S_around_share) vs H Q E) : t_around_share K { nx := fun _ H1 => Q .non H1, rt := Q } (L2.start n_around_share vs) H := rd_wp (bd_around_share (K := K)) vs H Q E h
theorem rd_need_gathered {K : PySem.W.Frag} (vs : List V) (H : Hp) (Q : VK) (E : XK) (h : (spP S_need_gathered) vs H Q E) : t_need_gathered K { nx := fun _ H1 => Q .non H1, rt := Q } (L2.start n_need_gathered vs) H := rd_wp (bd_need_gathered (K := K)) vs H Q E h
theorem rd_tops_within {K : PySem.W.Frag} (vs : List V) (H : Hp) (Q : VK) (E : XK) (h : (spP S_tops_within) vs H Q E) : t_tops_within K { nx := fun _ H1 => Q .non H1, rt := Q } (L2.start n_tops_within vs) H := rd_wp (bd_tops_within (K := K)) vs H Q E h
theorem rd_tops_of_group {K : PySem.W.Frag} (vs : List V) (H : Hp) (Q : VK) (E : XK) (h : (spP S_tops_of_group) vs H Q E) : t_tops_of_group K { nx := fun _ H1 => Q .non H1, rt := Q } (L2.start n_tops_of_group vs) H := rd_wp (bd_tops_of_group (K := K)) vs H Q E h
theorem rd_within_shares {K : PySem.W.Frag} (vs : List V) (H : Hp) (Q : VK) (E : XK) (h : (spP S_within_shares) vs H Q E) : t_within_shares K { nx := fun _ H1 => Q .non H1, rt := Q } (L2.start n_within_shares vs) H := rd_wp (bd_within_shares (K := K)) vs H Q E h
theorem rd_together_share {K : PySem.W.Frag} (vs : List V) (H : Hp) (Q : VK) (E : XK) (h : (spP S_together_share) vs H Q E) : t_together_share K { nx := fun _ H1 => Q .non H1, rt := Q } (L2.start n_together_share vs) H := rd_wp (bd_together_share (K := K)) vs H Q E h
theorem rd_is_side {K : PySem.W.Frag} (vs : List V) (H : Hp) (Q : VK) (E : XK) (h : (spP S_is_side) vs H Q E) : t_is_side K { nx := fun _ H1 => Q .non H1, rt := Q } (L2.start n_is_side vs) H := rd_wp (bd_is_side (K := K)) vs H Q E h
theorem rd_side_share {K : PySem.W.Frag} (vs : List V) (H : Hp) (Q : VK) (E : XK) (h : (spP S_side_share) vs H Q E) : t_side_share K { nx := fun _ H1 => Q .non H1, rt := Q } (L2.start n_side_share vs) H := rd_wp (bd_side_share (K := K)) vs H Q E h
theorem rd_path_sums {K : PySem.W.Frag} (vs : List V) (H : Hp) (Q : VK) (E : XK) (h : (spP S_path_sums) vs H Q E) : t_path_sums K { nx := fun _ H1 => Q .non H1, rt := Q } (L2.start n_path_sums vs) H := rd_wp (bd_path_sums (K := K)) vs H Q E h
theorem rd_is_line {K : PySem.W.Frag} (vs : List V) (H : Hp) (Q : VK) (E : XK) (h : (spP S_is_line) vs H Q E) : t_is_line K { nx := fun _ H1 => Q .non H1, rt := Q } (L2.start n_is_line vs) H := rd_wp (bd_is_line (K := K)) vs H Q E h
theorem rd_tops_of {K : PySem.W.Frag} (vs : List V) (H : Hp) (Q : VK) (E : XK) (h : (spP S_tops_of) vs H Q E) : t_tops_of K { nx := fun _ H1 => Q .non H1, rt := Q } (L2.start n_tops_of vs) H := rd_wp (bd_tops_of (K := K)) vs H Q E h
theorem rd_shares_of {K : PySem.W.Frag} (vs : List V) (H : Hp) (Q : VK) (E : XK) (h : (spP S_shares_of) vs H Q E) : t_shares_of K { nx := fun _ H1 => Q .non H1, rt := Q } (L2.start n_shares_of vs) H := rd_wp (bd_shares_of (K := K)) vs H Q E h
theorem rd_step_shares {K : PySem.W.Frag} (vs : List V) (H : Hp) (Q : VK) (E : XK) (h : (spP S_step_shares) vs H Q E) : t_step_shares K { nx := fun _ H1 => Q .non H1, rt := Q } (L2.start n_step_shares vs) H := rd_wp (bd_step_shares (K := K)) vs H Q E h
theorem rd_l_store {K : PySem.W.Frag} (vs : List V) (H : Hp) (Q : VK) (E : XK) (h : (sp_l_store K) vs H Q E) : t_l_store K { nx := fun _ H1 => Q .non H1, rt := Q } (L2.start n_l_store vs) H := bd_l_store vs H Q E h
theorem rd_l_pick {K : PySem.W.Frag} (vs : List V) (H : Hp) (Q : VK) (E : XK) (h : (spS S_l_pick) vs H Q E) : t_l_pick K { nx := fun _ H1 => Q .non H1, rt := Q } (L2.start n_l_pick vs) H := rd_wpS (bd_l_pick (K := K)) vs H Q E h
theorem rd_l_word {K : PySem.W.Frag} (vs : List V) (H : Hp) (Q : VK) (E : XK) (h : (spS S_l_word) vs H Q E) : t_l_word K { nx := fun _ H1 => Q .non H1, rt := Q } (L2.start n_l_word vs) H := rd_wpS (bd_l_word (K := K)) vs H Q E h
theorem rd_l_plugs {K : PySem.W.Frag} (vs : List V) (H : Hp) (Q : VK) (E : XK) (h : (spP S_l_plugs) vs H Q E) : t_l_plugs K { nx := fun _ H1 => Q .non H1, rt := Q } (L2.start n_l_plugs vs) H := rd_wp (bd_l_plugs (K := K)) vs H Q E h
theorem rd_l_great {K : PySem.W.Frag} (vs : List V) (H : Hp) (Q : VK) (E : XK) (h : (spS S_l_great) vs H Q E) : t_l_great K { nx := fun _ H1 => Q .non H1, rt := Q } (L2.start n_l_great vs) H := rd_wpS (bd_l_great (K := K)) vs H Q E h
theorem rd_l_middle {K : PySem.W.Frag} (vs : List V) (H : Hp) (Q : VK) (E : XK) (h : (spS S_l_middle) vs H Q E) : t_l_middle K { nx := fun _ H1 => Q .non H1, rt := Q } (L2.start n_l_middle vs) H := rd_wpS (bd_l_middle (K := K)) vs H Q E h
theorem rd_l_fraction {K : PySem.W.Frag} (vs : List V) (H : Hp) (Q : VK) (E : XK) (h : (spP S_l_fraction) vs H Q E) : t_l_fraction K { nx := fun _ H1 => Q .non H1, rt := Q } (L2.start n_l_fraction vs) H := rd_wp (bd_l_fraction (K := K)) vs H Q E h
theorem rd_l_sum {K : PySem.W.Frag} (vs : List V) (H : Hp) (Q : VK) (E : XK) (h : (spP S_l_sum) vs H Q E) : t_l_sum K { nx := fun _ H1 => Q .non H1, rt := Q } (L2.start n_l_sum vs) H := rd_wp (bd_l_sum (K := K)) vs H Q E h
theorem rd_l_without {K : PySem.W.Frag} (vs : List V) (H : Hp) (Q : VK) (E : XK) (h : (spP S_l_without) vs H Q E) : t_l_without K { nx := fun _ H1 => Q .non H1, rt := Q } (L2.start n_l_without vs) H := rd_wp (bd_l_without (K := K)) vs H Q E h
theorem rd_l_name {K : PySem.W.Frag} (vs : List V) (H : Hp) (Q : VK) (E : XK) (h : (spP S_l_name) vs H Q E) : t_l_name K { nx := fun _ H1 => Q .non H1, rt := Q } (L2.start n_l_name vs) H := rd_wp (bd_l_name (K := K)) vs H Q E h
theorem rd_l_names {K : PySem.W.Frag} (vs : List V) (H : Hp) (Q : VK) (E : XK) (h : (spP S_l_names) vs H Q E) : t_l_names K { nx := fun _ H1 => Q .non H1, rt := Q } (L2.start n_l_names vs) H := rd_wp (bd_l_names (K := K)) vs H Q E h
theorem rd_l_mixed {K : PySem.W.Frag} (vs : List V) (H : Hp) (Q : VK) (E : XK) (h : (spP S_l_mixed) vs H Q E) : t_l_mixed K { nx := fun _ H1 => Q .non H1, rt := Q } (L2.start n_l_mixed vs) H := rd_wp (bd_l_mixed (K := K)) vs H Q E h
theorem rd_l_weighed {K : PySem.W.Frag} (vs : List V) (H : Hp) (Q : VK) (E : XK) (h : (spP S_l_weighed) vs H Q E) : t_l_weighed K { nx := fun _ H1 => Q .non H1, rt := Q } (L2.start n_l_weighed vs) H := rd_wp (bd_l_weighed (K := K)) vs H Q E h
theorem rd_l_right {K : PySem.W.Frag} (w : World) (vs : List V) (H : Hp) (Q : VK) (E : XK) (h : (spS S_l_right) vs H Q E) : t_l_right K w { nx := fun _ H1 => Q .non H1, rt := Q } (L2.start n_l_right vs) H := rd_wpS (bd_l_right (K := K) (w := w)) vs H Q E h
theorem rd_l_group_right {K : PySem.W.Frag} (vs : List V) (H : Hp) (Q : VK) (E : XK) (h : (spP S_l_group_right) vs H Q E) : t_l_group_right K { nx := fun _ H1 => Q .non H1, rt := Q } (L2.start n_l_group_right vs) H := rd_wp (bd_l_group_right (K := K)) vs H Q E h
theorem rd_l_around_right {K : PySem.W.Frag} (vs : List V) (H : Hp) (Q : VK) (E : XK) (h : (spP S_l_around_right) vs H Q E) : t_l_around_right K { nx := fun _ H1 => Q .non H1, rt := Q } (L2.start n_l_around_right vs) H := rd_wp (bd_l_around_right (K := K)) vs H Q E h
theorem rd_law {K : PySem.W.Frag} (vs : List V) (H : Hp) (Q : VK) (E : XK) (h : (sp_law K) vs H Q E) : t_law K { nx := fun _ H1 => Q .non H1, rt := Q } (L2.start n_law vs) H := bd_law vs H Q E h
end PN
end

section
set_option Elab.async false
set_option linter.all false
set_option autoImplicit false
set_option maxRecDepth 100000
set_option maxHeartbeats 4000000
namespace PN
open PySem PySem.Spec PyProof.Rows L2 DL
structure Tx (K : PySem.W.Frag) (mg : Str → Option Value) where
  f_is_integer : Addr
  fd_is_integer : FuncData
  F_is_integer : FnP K "is_integer" s_is_integer f_is_integer fd_is_integer
  g_is_integer : mg "is_integer" = some (.ref f_is_integer)
  f_is_number : Addr
  fd_is_number : FuncData
  F_is_number : FnP K "is_number" s_is_number f_is_number fd_is_number
  g_is_number : mg "is_number" = some (.ref f_is_number)
  f_is_plugs : Addr
  fd_is_plugs : FuncData
  F_is_plugs : FnP K "is_plugs" s_is_plugs f_is_plugs fd_is_plugs
  g_is_plugs : mg "is_plugs" = some (.ref f_is_plugs)
  f_need_plugs : Addr
  fd_need_plugs : FuncData
  F_need_plugs : FnP K "need_plugs" s_need_plugs f_need_plugs fd_need_plugs
  g_need_plugs : mg "need_plugs" = some (.ref f_need_plugs)
  f_need_device : Addr
  fd_need_device : FuncData
  F_need_device : FnP K "need_device" s_need_device f_need_device fd_need_device
  g_need_device : mg "need_device" = some (.ref f_need_device)
  f_too_many : Addr
  fd_too_many : FuncData
  F_too_many : FnP K "too_many" s_too_many f_too_many fd_too_many
  g_too_many : mg "too_many" = some (.ref f_too_many)
  f_conflict_in : Addr
  fd_conflict_in : FuncData
  F_conflict_in : FnP K "conflict_in" s_conflict_in f_conflict_in fd_conflict_in
  g_conflict_in : mg "conflict_in" = some (.ref f_conflict_in)
  f_need_net : Addr
  fd_need_net : FuncData
  F_need_net : FnP K "need_net" s_need_net f_need_net fd_need_net
  g_need_net : mg "need_net" = some (.ref f_need_net)
  f_factorial_of : Addr
  fd_factorial_of : FuncData
  F_factorial_of : FnP K "factorial_of" s_factorial_of f_factorial_of fd_factorial_of
  g_factorial_of : mg "factorial_of" = some (.ref f_factorial_of)
  f_nets_of : Addr
  fd_nets_of : FuncData
  F_nets_of : FnP K "nets_of" s_nets_of f_nets_of fd_nets_of
  g_nets_of : mg "nets_of" = some (.ref f_nets_of)
  f_need_possible : Addr
  fd_need_possible : FuncData
  F_need_possible : FnP K "need_possible" s_need_possible f_need_possible fd_need_possible
  g_need_possible : mg "need_possible" = some (.ref f_need_possible)
  f_count_nets : Addr
  fd_count_nets : FuncData
  F_count_nets : FnP K "count_nets" s_count_nets f_count_nets fd_count_nets
  g_count_nets : mg "count_nets" = some (.ref f_count_nets)
  f_divisor_of : Addr
  fd_divisor_of : FuncData
  F_divisor_of : FnP K "divisor_of" s_divisor_of f_divisor_of fd_divisor_of
  g_divisor_of : mg "divisor_of" = some (.ref f_divisor_of)
  f_lowest : Addr
  fd_lowest : FuncData
  F_lowest : FnP K "lowest" s_lowest f_lowest fd_lowest
  g_lowest : mg "lowest" = some (.ref f_lowest)
  f_share_of_cables : Addr
  fd_share_of_cables : FuncData
  F_share_of_cables : FnP K "share_of" s_share_of_cables f_share_of_cables fd_share_of_cables
  g_share_of_cables : mg "share_of_cables" = some (.ref f_share_of_cables)
  f_need_two : Addr
  fd_need_two : FuncData
  F_need_two : FnP K "need_two" s_need_two f_need_two fd_need_two
  g_need_two : mg "need_two" = some (.ref f_need_two)
  f_cable_share : Addr
  fd_cable_share : FuncData
  F_cable_share : FnP K "cable_share" s_cable_share f_cable_share fd_cable_share
  g_cable_share : mg "cable_share" = some (.ref f_cable_share)
  f_choices : Addr
  fd_choices : FuncData
  F_choices : FnP K "choices" s_choices f_choices fd_choices
  g_choices : mg "choices" = some (.ref f_choices)
  f_is_group : Addr
  fd_is_group : FuncData
  F_is_group : FnP K "is_group" s_is_group f_is_group fd_is_group
  g_is_group : mg "is_group" = some (.ref f_is_group)
  f_need_group : Addr
  fd_need_group : FuncData
  F_need_group : FnP K "need_group" s_need_group f_need_group fd_need_group
  g_need_group : mg "need_group" = some (.ref f_need_group)
  f_share_of_around : Addr
  fd_share_of_around : FuncData
  F_share_of_around : FnP K "share_of" s_share_of_around f_share_of_around fd_share_of_around
  g_share_of_around : mg "share_of_around" = some (.ref f_share_of_around)
  f_is_full : Addr
  fd_is_full : FuncData
  F_is_full : FnP K "is_full" s_is_full f_is_full fd_is_full
  g_is_full : mg "is_full" = some (.ref f_is_full)
  f_weight_of : Addr
  fd_weight_of : FuncData
  F_weight_of : FnP K "weight_of" s_weight_of f_weight_of fd_weight_of
  g_weight_of : mg "weight_of" = some (.ref f_weight_of)
  f_share_around : Addr
  fd_share_around : FuncData
  F_share_around : FnP K "share_around" s_share_around f_share_around fd_share_around
  g_share_around : mg "share_around" = some (.ref f_share_around)
  f_need_centre : Addr
  fd_need_centre : FuncData
  F_need_centre : FnP K "need_centre" s_need_centre f_need_centre fd_need_centre
  g_need_centre : mg "need_centre" = some (.ref f_need_centre)
  f_around_share : Addr
  fd_around_share : FuncData
  F_around_share : FnP K "around_share" s_around_share f_around_share fd_around_share
  g_around_share : mg "around_share" = some (.ref f_around_share)
  f_need_gathered : Addr
  fd_need_gathered : FuncData
  F_need_gathered : FnP K "need_gathered" s_need_gathered f_need_gathered fd_need_gathered
  g_need_gathered : mg "need_gathered" = some (.ref f_need_gathered)
  f_tops_within : Addr
  fd_tops_within : FuncData
  F_tops_within : FnP K "tops_within" s_tops_within f_tops_within fd_tops_within
  g_tops_within : mg "tops_within" = some (.ref f_tops_within)
  f_tops_of_group : Addr
  fd_tops_of_group : FuncData
  F_tops_of_group : FnP K "tops_of_group" s_tops_of_group f_tops_of_group fd_tops_of_group
  g_tops_of_group : mg "tops_of_group" = some (.ref f_tops_of_group)
  f_within_shares : Addr
  fd_within_shares : FuncData
  F_within_shares : FnP K "within_shares" s_within_shares f_within_shares fd_within_shares
  g_within_shares : mg "within_shares" = some (.ref f_within_shares)
  f_together_share : Addr
  fd_together_share : FuncData
  F_together_share : FnP K "together_share" s_together_share f_together_share fd_together_share
  g_together_share : mg "together_share" = some (.ref f_together_share)
  f_is_side : Addr
  fd_is_side : FuncData
  F_is_side : FnP K "is_side" s_is_side f_is_side fd_is_side
  g_is_side : mg "is_side" = some (.ref f_is_side)
  f_side_share : Addr
  fd_side_share : FuncData
  F_side_share : FnP K "side_share" s_side_share f_side_share fd_side_share
  g_side_share : mg "side_share" = some (.ref f_side_share)
  f_path_sums : Addr
  fd_path_sums : FuncData
  F_path_sums : FnP K "path_sums" s_path_sums f_path_sums fd_path_sums
  g_path_sums : mg "path_sums" = some (.ref f_path_sums)
  f_is_line : Addr
  fd_is_line : FuncData
  F_is_line : FnP K "is_line" s_is_line f_is_line fd_is_line
  g_is_line : mg "is_line" = some (.ref f_is_line)
  f_tops_of : Addr
  fd_tops_of : FuncData
  F_tops_of : FnP K "tops_of" s_tops_of f_tops_of fd_tops_of
  g_tops_of : mg "tops_of" = some (.ref f_tops_of)
  f_shares_of : Addr
  fd_shares_of : FuncData
  F_shares_of : FnP K "shares_of" s_shares_of f_shares_of fd_shares_of
  g_shares_of : mg "shares_of" = some (.ref f_shares_of)
  f_step_shares : Addr
  fd_step_shares : FuncData
  F_step_shares : FnP K "step_shares" s_step_shares f_step_shares fd_step_shares
  g_step_shares : mg "step_shares" = some (.ref f_step_shares)
  f_l_store : Addr
  fd_l_store : FuncData
  F_l_store : FnP K "_law_store" s_l_store f_l_store fd_l_store
  g_l_store : mg "_law_store" = some (.ref f_l_store)
  f_l_pick : Addr
  fd_l_pick : FuncData
  F_l_pick : FnP K "_law_pick" s_l_pick f_l_pick fd_l_pick
  g_l_pick : mg "_law_pick" = some (.ref f_l_pick)
  f_l_word : Addr
  fd_l_word : FuncData
  F_l_word : FnP K "_law_word" s_l_word f_l_word fd_l_word
  g_l_word : mg "_law_word" = some (.ref f_l_word)
  f_l_plugs : Addr
  fd_l_plugs : FuncData
  F_l_plugs : FnP K "_law_plugs" s_l_plugs f_l_plugs fd_l_plugs
  g_l_plugs : mg "_law_plugs" = some (.ref f_l_plugs)
  f_l_great : Addr
  fd_l_great : FuncData
  F_l_great : FnP K "_law_great" s_l_great f_l_great fd_l_great
  g_l_great : mg "_law_great" = some (.ref f_l_great)
  f_l_middle : Addr
  fd_l_middle : FuncData
  F_l_middle : FnP K "_law_middle" s_l_middle f_l_middle fd_l_middle
  g_l_middle : mg "_law_middle" = some (.ref f_l_middle)
  f_l_fraction : Addr
  fd_l_fraction : FuncData
  F_l_fraction : FnP K "_law_fraction" s_l_fraction f_l_fraction fd_l_fraction
  g_l_fraction : mg "_law_fraction" = some (.ref f_l_fraction)
  f_l_sum : Addr
  fd_l_sum : FuncData
  F_l_sum : FnP K "_law_sum" s_l_sum f_l_sum fd_l_sum
  g_l_sum : mg "_law_sum" = some (.ref f_l_sum)
  f_l_without : Addr
  fd_l_without : FuncData
  F_l_without : FnP K "_law_without" s_l_without f_l_without fd_l_without
  g_l_without : mg "_law_without" = some (.ref f_l_without)
  f_l_name : Addr
  fd_l_name : FuncData
  F_l_name : FnP K "_law_name" s_l_name f_l_name fd_l_name
  g_l_name : mg "_law_name" = some (.ref f_l_name)
  f_l_names : Addr
  fd_l_names : FuncData
  F_l_names : FnP K "_law_names" s_l_names f_l_names fd_l_names
  g_l_names : mg "_law_names" = some (.ref f_l_names)
  f_l_mixed : Addr
  fd_l_mixed : FuncData
  F_l_mixed : FnP K "_law_mixed" s_l_mixed f_l_mixed fd_l_mixed
  g_l_mixed : mg "_law_mixed" = some (.ref f_l_mixed)
  f_l_weighed : Addr
  fd_l_weighed : FuncData
  F_l_weighed : FnP K "_law_weighed" s_l_weighed f_l_weighed fd_l_weighed
  g_l_weighed : mg "_law_weighed" = some (.ref f_l_weighed)
  f_l_group_right : Addr
  fd_l_group_right : FuncData
  F_l_group_right : FnP K "_law_group_right" s_l_group_right f_l_group_right fd_l_group_right
  g_l_group_right : mg "_law_group_right" = some (.ref f_l_group_right)
  f_l_around_right : Addr
  fd_l_around_right : FuncData
  F_l_around_right : FnP K "_law_around_right" s_l_around_right f_l_around_right fd_l_around_right
  g_l_around_right : mg "_law_around_right" = some (.ref f_l_around_right)
  f_l_right : Addr
  fd_l_right : FuncData
  F_l_right : FnP K "_law_right" s_l_right f_l_right fd_l_right
  g_l_right : mg "_law_right" = some (.ref f_l_right)
  f_law : Addr
  fd_law : FuncData
  F_law : FnP K "law" s_law f_law fd_law
  g_law : mg "law" = some (.ref f_law)
  b_isinstance : mg "isinstance" = none
  b_len : mg "len" = none
  b_all : mg "all" = none
  b_sum : mg "sum" = none
  b_min : mg "min" = none
  b_max : mg "max" = none
  b_abs : mg "abs" = none
  b_int : mg "int" = none
  b_list : mg "list" = none
  b_bool : mg "bool" = none
  b_range : mg "range" = none
  b_sorted : mg "sorted" = none
  b_set : mg "set" = none
  b_enumerate : mg "enumerate" = none
  b_zip : mg "zip" = none
  c_MOST_DEVICES : ∃ t, mg "MOST_DEVICES" = some (.int 60 t)
  c_MOST_NUMBER : ∃ t, mg "MOST_NUMBER" = some (.int 1000000000000000000000000000000 t)
end PN
end

section
set_option Elab.async false
set_option linter.all false
set_option autoImplicit false
set_option maxRecDepth 100000
set_option maxHeartbeats 4000000
namespace PN
open PySem PySem.Spec PyProof.Rows L2 DL
section
variable {P : Program} {w : World} {K : PySem.W.Frag} {mg : Str → Option Value} {base : Heap}
theorem sc_is_integer : FnScope n_is_integer ["thing"] (defScope s_is_integer) := ⟨rfl, rfl, rfl, by decide +kernel, rfl, by decide +kernel, by decide +kernel⟩
theorem ok_is_integer (T : Tx K mg) : FnOk P w K mg base CX0 1 T.f_is_integer T.fd_is_integer ["thing"] (spP S_is_integer) := by
  refine T.F_is_integer.ok sc_is_integer (len_is_integer) (fun cdv A outer s H vs Q E hr h => ⟨t_is_integer K, PSs.nox ?_, rd_is_integer vs H Q E h⟩)
  exact (pss_one (ps_ret (pe_and (pe_callB call_isi (by rfl) T.b_isinstance (by decide +kernel) (pa_cons (pv 0) (pa_cons (pe_bltn (v := .ty "int") (by rfl) T.b_int (by decide +kernel) rfl) pa_nil))) (pe_one (pe_not (pe_callB call_isi (by rfl) T.b_isinstance (by decide +kernel) (pa_cons (pv 0) (pa_cons (pe_bltn (v := .ty "bool") (by rfl) T.b_bool (by decide +kernel) rfl) pa_nil))))))))
theorem bx_is_integer (T : Tx K mg) : Binds K T.fd_is_integer ["thing"] [] := T.F_is_integer.bindsN fun _ _ _ _ _ _ us hl => match us, hl with | [_], _ => rfl

theorem sc_is_number : FnScope n_is_number ["thing"] (defScope s_is_number) := ⟨rfl, rfl, rfl, by decide +kernel, rfl, by decide +kernel, by decide +kernel⟩
theorem ok_is_number (T : Tx K mg) : FnOk P w K mg base CX0 2 T.f_is_number T.fd_is_number ["thing"] (spP S_is_number) := by
  refine T.F_is_number.ok sc_is_number (len_is_number) (fun cdv A outer s H vs Q E hr h => ⟨t_is_number K, PSs.nox ?_, rd_is_number vs H Q E h⟩)
  exact (pss_one (ps_ret (pe_and (pe_call (ok_is_integer T) (hr.mono (by decide)) (by rfl) T.g_is_integer T.F_is_integer.kp (bx_is_integer T) .nil pass0 (pa_cons (pv 0) pa_nil)) (pe_one (pe_chain op_le op_le pe_int (pv 0) (pe_glob rfl T.c_MOST_NUMBER.choose_spec ⟨_, rfl⟩))))))
theorem bx_is_number (T : Tx K mg) : Binds K T.fd_is_number ["thing"] [] := T.F_is_number.bindsN fun _ _ _ _ _ _ us hl => match us, hl with | [_], _ => rfl

theorem sc_is_plugs : FnScope n_is_plugs ["thing"] (defScope s_is_plugs) := ⟨rfl, rfl, rfl, by decide +kernel, rfl, by decide +kernel, by decide +kernel⟩
theorem ok_is_plugs (T : Tx K mg) : FnOk P w K mg base CX0 3 T.f_is_plugs T.fd_is_plugs ["thing"] (spP S_is_plugs) := by
  refine T.F_is_plugs.ok sc_is_plugs (len_is_plugs) (fun cdv A outer s H vs Q E hr h => ⟨t_is_plugs K, PSs.nox ?_, rd_is_plugs vs H Q E h⟩)
  exact (pss_cons (ps_if (PW.pt (pw_or (pt_not (pt_val (pe_callB call_isi (by rfl) T.b_isinstance (by decide +kernel) (pa_cons (pv 0) (pa_cons (pe_bltn (v := .ty "list") (by rfl) T.b_list (by decide +kernel) rfl) pa_nil))))) (pw_or1 (pt_not (pt_chain op_le op_le pe_int (pe_callB cr_lenS (by rfl) T.b_len (by decide +kernel) (pa_cons (pv 0) pa_nil)) (pe_glob rfl T.c_MOST_DEVICES.choose_spec ⟨_, rfl⟩)))))) (pss_one (ps_ret pe_bl)) pss_nil)
    (pss_one (ps_ret (pe_callB (cr_all rfl) (by rfl) T.b_all (by decide +kernel) (pa_cons (pe_lc (own := [("number", 1)]) rfl sc_is_plugs.nd (pi_list (pv 0)) (blkOk_by (own := [("number", 1)]) (by first | exact (by decide +kernel : blkC n_is_plugs (defScope s_is_plugs) _ [("number", 1)] = true) | kernel_rfl)) (fun _ _ _ _ _ => (pg_name (i := 1) sc_is_plugs.nd rfl (by first | exact .inl rfl | exact .inr rfl))) (fun _ _ _ _ _ => pts_nil) (fun _ _ _ _ _ => (pe_call (ok_is_number T) (hr.mono (by decide)) (by rfl) T.g_is_number T.F_is_number.kp (bx_is_number T) .nil pass0 (pa_cons (pv 1) pa_nil)))) pa_nil)))))
theorem bx_is_plugs (T : Tx K mg) : Binds K T.fd_is_plugs ["thing"] [] := T.F_is_plugs.bindsN fun _ _ _ _ _ _ us hl => match us, hl with | [_], _ => rfl

theorem sc_need_plugs : FnScope n_need_plugs ["plugs"] (defScope s_need_plugs) := ⟨rfl, rfl, rfl, by decide +kernel, rfl, by decide +kernel, by decide +kernel⟩
theorem ok_need_plugs (T : Tx K mg) : FnOk P w K mg base CX0 4 T.f_need_plugs T.fd_need_plugs ["plugs"] (spP S_need_plugs) := by
  refine T.F_need_plugs.ok sc_need_plugs (len_need_plugs) (fun cdv A outer s H vs Q E hr h => ⟨t_need_plugs K, PSs.nox ?_, rd_need_plugs vs H Q E h⟩)
  exact (pss_one (ps_if (pt_not (pt_val (pe_call (ok_is_plugs T) (hr.mono (by decide)) (by rfl) T.g_is_plugs T.F_is_plugs.kp (bx_is_plugs T) .nil pass0 (pa_cons (pv 0) pa_nil)))) (pss_one ps_never) pss_nil))
theorem bx_need_plugs (T : Tx K mg) : Binds K T.fd_need_plugs ["plugs"] [] := T.F_need_plugs.bindsN fun _ _ _ _ _ _ us hl => match us, hl with | [_], _ => rfl

theorem sc_need_device : FnScope n_need_device ["plugs", "device"] (defScope s_need_device) := ⟨rfl, rfl, rfl, by decide +kernel, rfl, by decide +kernel, by decide +kernel⟩
theorem ok_need_device (T : Tx K mg) : FnOk P w K mg base CX0 1 T.f_need_device T.fd_need_device ["plugs", "device"] (spP S_need_device) := by
  refine T.F_need_device.ok sc_need_device (len_need_device) (fun cdv A outer s H vs Q E hr h => ⟨t_need_device K, PSs.nox ?_, rd_need_device vs H Q E h⟩)
  exact (pss_one (ps_if (pt_not (pt_chain op_le op_lt pe_int (pv 1) (pe_callB cr_lenS (by rfl) T.b_len (by decide +kernel) (pa_cons (pv 0) pa_nil)))) (pss_one ps_never) pss_nil))
theorem bx_need_device (T : Tx K mg) : Binds K T.fd_need_device ["plugs", "device"] [] := T.F_need_device.bindsN fun _ _ _ _ _ _ us hl => match us, hl with | [_, _], _ => rfl

theorem sc_too_many : FnScope n_too_many ["plugs"] (defScope s_too_many) := ⟨rfl, rfl, rfl, by decide +kernel, rfl, by decide +kernel, by decide +kernel⟩
theorem ok_too_many (T : Tx K mg) : FnOk P w K mg base CX0 1 T.f_too_many T.fd_too_many ["plugs"] (spP S_too_many) := by
  refine T.F_too_many.ok sc_too_many (len_too_many) (fun cdv A outer s H vs Q E hr h => ⟨t_too_many K, PSs.nox ?_, rd_too_many vs H Q E h⟩)
  exact (pss_one (ps_ret (pe_op op_add (pe_op op_sub (pe_callB (cr_sum rfl) (by rfl) T.b_sum (by decide +kernel) (pa_cons (pv 0) pa_nil)) (pe_op op_mulW pe_int (pe_callB cr_lenS (by rfl) T.b_len (by decide +kernel) (pa_cons (pv 0) pa_nil)))) pe_int)))
theorem bx_too_many (T : Tx K mg) : Binds K T.fd_too_many ["plugs"] [] := T.F_too_many.bindsN fun _ _ _ _ _ _ us hl => match us, hl with | [_], _ => rfl

theorem sc_conflict_in : FnScope n_conflict_in ["plugs"] (defScope s_conflict_in) := ⟨rfl, rfl, rfl, by decide +kernel, rfl, by decide +kernel, by decide +kernel⟩
theorem ok_conflict_in (T : Tx K mg) : FnOk P w K mg base CX0 2 T.f_conflict_in T.fd_conflict_in ["plugs"] (spP S_conflict_in) := by
  refine T.F_conflict_in.ok sc_conflict_in (len_conflict_in) (fun cdv A outer s H vs Q E hr h => ⟨t_conflict_in K, PSs.nox ?_, rd_conflict_in vs H Q E h⟩)
  exact (pss_cons (ps_if (pt_cmpR op_in_seq pe_int (pv 0) (by rfl)) pss_never pss_nil)
    (pss_one (ps_ret (pe_ifExp (pt_cmpR (op_neD hr.units) (pe_call (ok_too_many T) (hr.mono (by decide)) (by rfl) T.g_too_many T.F_too_many.kp (bx_too_many T) .nil pass0 (pa_cons (pv 0) pa_nil)) pe_int (nomark _)) (pe_tup (pa_cons pe_str (pa_cons (pe_call (ok_too_many T) (hr.mono (by decide)) (by rfl) T.g_too_many T.F_too_many.kp (bx_too_many T) .nil pass0 (pa_cons (pv 0) pa_nil)) pa_nil))) pe_non))))
theorem bx_conflict_in (T : Tx K mg) : Binds K T.fd_conflict_in ["plugs"] [] := T.F_conflict_in.bindsN fun _ _ _ _ _ _ us hl => match us, hl with | [_], _ => rfl

theorem sc_need_net : FnScope n_need_net ["plugs"] (defScope s_need_net) := ⟨rfl, rfl, rfl, by decide +kernel, rfl, by decide +kernel, by decide +kernel⟩
theorem ok_need_net (T : Tx K mg) : FnOk P w K mg base CX0 3 T.f_need_net T.fd_need_net ["plugs"] (spP S_need_net) := by
  refine T.F_need_net.ok sc_need_net (len_need_net) (fun cdv A outer s H vs Q E hr h => ⟨t_need_net K, PSs.nox ?_, rd_need_net vs H Q E h⟩)
  exact (pss_cons (ps_set (i := 1) sc_need_net.nd rfl (by first | exact .inl rfl | exact .inr rfl) (pe_call (ok_conflict_in T) (hr.mono (by decide)) (by rfl) T.g_conflict_in T.F_conflict_in.kp (bx_conflict_in T) .nil pass0 (pa_cons (pv 0) pa_nil)))
    (pss_one (ps_if (pt_cmpR op_notN (pv 1) pe_non (nomark _)) (pss_one ps_never) pss_nil)))
theorem bx_need_net (T : Tx K mg) : Binds K T.fd_need_net ["plugs"] [] := T.F_need_net.bindsN fun _ _ _ _ _ _ us hl => match us, hl with | [_], _ => rfl

theorem sc_factorial_of : FnScope n_factorial_of ["number"] (defScope s_factorial_of) := ⟨rfl, rfl, rfl, by decide +kernel, rfl, by decide +kernel, by decide +kernel⟩
theorem ok_factorial_of (T : Tx K mg) : FnOk P w K mg base CX0 1 T.f_factorial_of T.fd_factorial_of ["number"] (spP S_factorial_of) := by
  refine T.F_factorial_of.ok sc_factorial_of (len_factorial_of) (fun cdv A outer s H vs Q E hr h => ⟨t_factorial_of K, PSs.nox ?_, rd_factorial_of vs H Q E h⟩)
  exact (pss_cons (ps_set (i := 1) sc_factorial_of.nd rfl (by first | exact .inl rfl | exact .inr rfl) pe_int)
    (pss_cons (ps_for PassesOwn.never rfl (pi_range2 (by rfl) T.b_range (pa_cons pe_int (pa_cons (pe_op op_add (pv 0) pe_int) pa_nil))) (pg_name (i := 2) sc_factorial_of.nd rfl (by first | exact .inl rfl | exact .inr rfl)) (pss_one (ps_aug (i := 1) sc_factorial_of.nd rfl (by first | exact .inl rfl | exact .inr rfl) (pv 2) iop_mulW)))
    (pss_one (ps_ret (pv 1)))))
theorem bx_factorial_of (T : Tx K mg) : Binds K T.fd_factorial_of ["number"] [] := T.F_factorial_of.bindsN fun _ _ _ _ _ _ us hl => match us, hl with | [_], _ => rfl

theorem sc_nets_of : FnScope n_nets_of ["plugs"] (defScope s_nets_of) := ⟨rfl, rfl, rfl, by decide +kernel, rfl, by decide +kernel, by decide +kernel⟩
theorem ok_nets_of (T : Tx K mg) : FnOk P w K mg base CX0 2 T.f_nets_of T.fd_nets_of ["plugs"] (spP S_nets_of) := by
  refine T.F_nets_of.ok sc_nets_of (len_nets_of) (fun cdv A outer s H vs Q E hr h => ⟨t_nets_of K, PSs.nox ?_, rd_nets_of vs H Q E h⟩)
  exact (pss_cons (ps_set (i := 1) sc_nets_of.nd rfl (by first | exact .inl rfl | exact .inr rfl) (pe_call (ok_factorial_of T) (hr.mono (by decide)) (by rfl) T.g_factorial_of T.F_factorial_of.kp (bx_factorial_of T) .nil pass0 (pa_cons (pe_op op_sub (pe_callB cr_lenS (by rfl) T.b_len (by decide +kernel) (pa_cons (pv 0) pa_nil)) pe_int) pa_nil)))
    (pss_cons (ps_for PassesOwn.never rfl (pi_list (pv 0)) (pg_name (i := 2) sc_nets_of.nd rfl (by first | exact .inl rfl | exact .inr rfl)) (pss_one (ps_aug (i := 1) sc_nets_of.nd rfl (by first | exact .inl rfl | exact .inr rfl) (pe_call (ok_factorial_of T) (hr.mono (by decide)) (by rfl) T.g_factorial_of T.F_factorial_of.kp (bx_factorial_of T) .nil pass0 (pa_cons (pe_op op_sub (pv 2) pe_int) pa_nil)) iop_fdivW)))
    (pss_one (ps_ret (pv 1)))))
theorem bx_nets_of (T : Tx K mg) : Binds K T.fd_nets_of ["plugs"] [] := T.F_nets_of.bindsN fun _ _ _ _ _ _ us hl => match us, hl with | [_], _ => rfl

theorem sc_need_possible : FnScope n_need_possible ["plugs"] (defScope s_need_possible) := ⟨rfl, rfl, rfl, by decide +kernel, rfl, by decide +kernel, by decide +kernel⟩
theorem ok_need_possible (T : Tx K mg) : FnOk P w K mg base CX0 5 T.f_need_possible T.fd_need_possible ["plugs"] (spP S_need_possible) := by
  refine T.F_need_possible.ok sc_need_possible (len_need_possible) (fun cdv A outer s H vs Q E hr h => ⟨t_need_possible K, PSs.nox ?_, rd_need_possible vs H Q E h⟩)
  exact (pss_cons (ps_expr (pe_call (ok_need_plugs T) (hr.mono (by decide)) (by rfl) T.g_need_plugs T.F_need_plugs.kp (bx_need_plugs T) .nil pass0 (pa_cons (pv 0) pa_nil)))
    (pss_one (ps_expr (pe_call (ok_need_net T) (hr.mono (by decide)) (by rfl) T.g_need_net T.F_need_net.kp (bx_need_net T) .nil pass0 (pa_cons (pv 0) pa_nil)))))
theorem bx_need_possible (T : Tx K mg) : Binds K T.fd_need_possible ["plugs"] [] := T.F_need_possible.bindsN fun _ _ _ _ _ _ us hl => match us, hl with | [_], _ => rfl

theorem sc_count_nets : FnScope n_count_nets ["plugs"] (defScope s_count_nets) := ⟨rfl, rfl, rfl, by decide +kernel, rfl, by decide +kernel, by decide +kernel⟩
theorem ok_count_nets (T : Tx K mg) : FnOk P w K mg base CX0 6 T.f_count_nets T.fd_count_nets ["plugs"] (spP S_count_nets) := by
  refine T.F_count_nets.ok sc_count_nets (len_count_nets) (fun cdv A outer s H vs Q E hr h => ⟨t_count_nets K, PSs.nox ?_, rd_count_nets vs H Q E h⟩)
  exact (pss_cons (ps_expr (pe_call (ok_need_possible T) (hr.mono (by decide)) (by rfl) T.g_need_possible T.F_need_possible.kp (bx_need_possible T) .nil pass0 (pa_cons (pv 0) pa_nil)))
    (pss_one (ps_ret (pe_call (ok_nets_of T) (hr.mono (by decide)) (by rfl) T.g_nets_of T.F_nets_of.kp (bx_nets_of T) .nil pass0 (pa_cons (pv 0) pa_nil)))))
theorem bx_count_nets (T : Tx K mg) : Binds K T.fd_count_nets ["plugs"] [] := T.F_count_nets.bindsN fun _ _ _ _ _ _ us hl => match us, hl with | [_], _ => rfl

theorem sc_divisor_of : FnScope n_divisor_of ["one", "other"] (defScope s_divisor_of) := ⟨rfl, rfl, rfl, by decide +kernel, rfl, by decide +kernel, by decide +kernel⟩
theorem ok_divisor_of (T : Tx K mg) : FnOk P w K mg base CX0 1 T.f_divisor_of T.fd_divisor_of ["one", "other"] (spP S_divisor_of) := by
  refine T.F_divisor_of.ok sc_divisor_of (len_divisor_of) (fun cdv A outer s H vs Q E hr h => ⟨t_divisor_of K, PSs.nox ?_, rd_divisor_of vs H Q E h⟩)
  exact (pss_cons (ps_while PassesOwn.never (pt_cmpR (op_neD hr.units) (pv 1) pe_int (nomark _)) (pss_one (ps_par (i := 0) (j := 1) (by rfl) sc_divisor_of.nd rfl rfl (by decide) rfl rfl (pa_cons (pv 1) (pa_cons (pe_op op_mod (pv 0) (pv 1)) pa_nil)) (by rfl))))
    (pss_one (ps_ret (pv 0))))
theorem bx_divisor_of (T : Tx K mg) : Binds K T.fd_divisor_of ["one", "other"] [] := T.F_divisor_of.bindsN fun _ _ _ _ _ _ us hl => match us, hl with | [_, _], _ => rfl

theorem sc_lowest : FnScope n_lowest ["top", "bottom"] (defScope s_lowest) := ⟨rfl, rfl, rfl, by decide +kernel, rfl, by decide +kernel, by decide +kernel⟩
theorem ok_lowest (T : Tx K mg) : FnOk P w K mg base CX0 2 T.f_lowest T.fd_lowest ["top", "bottom"] (spP S_lowest) := by
  refine T.F_lowest.ok sc_lowest (len_lowest) (fun cdv A outer s H vs Q E hr h => ⟨t_lowest K, PSs.nox ?_, rd_lowest vs H Q E h⟩)
  exact (pss_cons (ps_set (i := 2) sc_lowest.nd rfl (by first | exact .inl rfl | exact .inr rfl) (pe_call (ok_divisor_of T) (hr.mono (by decide)) (by rfl) T.g_divisor_of T.F_divisor_of.kp (bx_divisor_of T) .nil pass0 (pa_cons (pv 0) (pa_cons (pv 1) pa_nil))))
    (pss_one (ps_ret (pe_tup (pa_cons (pe_op op_fdivW (pv 0) (pv 2)) (pa_cons (pe_op op_fdivW (pv 1) (pv 2)) pa_nil))))))
theorem bx_lowest (T : Tx K mg) : Binds K T.fd_lowest ["top", "bottom"] [] := T.F_lowest.bindsN fun _ _ _ _ _ _ us hl => match us, hl with | [_, _], _ => rfl

theorem sc_share_of_cables : FnScope n_share_of_cables ["plugs", "one", "two"] (defScope s_share_of_cables) := ⟨rfl, rfl, rfl, by decide +kernel, rfl, by decide +kernel, by decide +kernel⟩
theorem ok_share_of_cables (T : Tx K mg) : FnOk P w K mg base CX0 3 T.f_share_of_cables T.fd_share_of_cables ["plugs", "one", "two"] (spP S_share_of_cables) := by
  refine T.F_share_of_cables.ok sc_share_of_cables (len_share_of_cables) (fun cdv A outer s H vs Q E hr h => ⟨t_share_of_cables K, PSs.nox ?_, rd_share_of_cables vs H Q E h⟩)
  exact (pss_cons (ps_if (pt_cmpR (op_eqD hr.units) (pv 1) (pv 2) (nomark _)) (pss_one (ps_ret (pe_tup (pa_cons pe_int (pa_cons pe_int pa_nil))))) pss_nil)
    (pss_cons (ps_if (pt_cmpR (op_eqD hr.units) (pe_callB cr_lenS (by rfl) T.b_len (by decide +kernel) (pa_cons (pv 0) pa_nil)) pe_int (nomark _)) (pss_one (ps_ret (pe_tup (pa_cons pe_int (pa_cons pe_int pa_nil))))) pss_nil)
    (pss_one (ps_ret (pe_call (ok_lowest T) (hr.mono (by decide)) (by rfl) T.g_lowest T.F_lowest.kp (bx_lowest T) .nil pass0 (pa_cons (pe_op op_sub (pe_op op_add (pe_ix ix_seq (pv 0) (pv 1) (fun _ _ => rfl)) (pe_ix ix_seq (pv 0) (pv 2) (fun _ _ => rfl))) pe_int) (pa_cons (pe_op op_sub (pe_callB cr_lenS (by rfl) T.b_len (by decide +kernel) (pa_cons (pv 0) pa_nil)) pe_int) pa_nil)))))))
theorem bx_share_of_cables (T : Tx K mg) : Binds K T.fd_share_of_cables ["plugs", "one", "two"] [] := T.F_share_of_cables.bindsN fun _ _ _ _ _ _ us hl => match us, hl with | [_, _, _], _ => rfl

theorem sc_need_two : FnScope n_need_two ["plugs", "one", "two"] (defScope s_need_two) := ⟨rfl, rfl, rfl, by decide +kernel, rfl, by decide +kernel, by decide +kernel⟩
theorem ok_need_two (T : Tx K mg) : FnOk P w K mg base CX0 5 T.f_need_two T.fd_need_two ["plugs", "one", "two"] (spP S_need_two) := by
  refine T.F_need_two.ok sc_need_two (len_need_two) (fun cdv A outer s H vs Q E hr h => ⟨t_need_two K, PSs.nox ?_, rd_need_two vs H Q E h⟩)
  exact (pss_cons (ps_expr (pe_call (ok_need_plugs T) (hr.mono (by decide)) (by rfl) T.g_need_plugs T.F_need_plugs.kp (bx_need_plugs T) .nil pass0 (pa_cons (pv 0) pa_nil)))
    (pss_cons (ps_expr (pe_call (ok_need_device T) (hr.mono (by decide)) (by rfl) T.g_need_device T.F_need_device.kp (bx_need_device T) .nil pass0 (pa_cons (pv 0) (pa_cons (pv 1) pa_nil))))
    (pss_cons (ps_expr (pe_call (ok_need_device T) (hr.mono (by decide)) (by rfl) T.g_need_device T.F_need_device.kp (bx_need_device T) .nil pass0 (pa_cons (pv 0) (pa_cons (pv 2) pa_nil))))
    (pss_one (ps_expr (pe_call (ok_need_net T) (hr.mono (by decide)) (by rfl) T.g_need_net T.F_need_net.kp (bx_need_net T) .nil pass0 (pa_cons (pv 0) pa_nil)))))))
theorem bx_need_two (T : Tx K mg) : Binds K T.fd_need_two ["plugs", "one", "two"] [] := T.F_need_two.bindsN fun _ _ _ _ _ _ us hl => match us, hl with | [_, _, _], _ => rfl

theorem sc_cable_share : FnScope n_cable_share ["plugs", "one", "two"] (defScope s_cable_share) := ⟨rfl, rfl, rfl, by decide +kernel, rfl, by decide +kernel, by decide +kernel⟩
theorem ok_cable_share (T : Tx K mg) : FnOk P w K mg base CX0 6 T.f_cable_share T.fd_cable_share ["plugs", "one", "two"] (spP S_cable_share) := by
  refine T.F_cable_share.ok sc_cable_share (len_cable_share) (fun cdv A outer s H vs Q E hr h => ⟨t_cable_share K, PSs.nox ?_, rd_cable_share vs H Q E h⟩)
  exact (pss_cons (ps_expr (pe_call (ok_need_two T) (hr.mono (by decide)) (by rfl) T.g_need_two T.F_need_two.kp (bx_need_two T) .nil pass0 (pa_cons (pv 0) (pa_cons (pv 1) (pa_cons (pv 2) pa_nil)))))
    (pss_one (ps_ret (pe_call (ok_share_of_cables T) (hr.mono (by decide)) (by rfl) T.g_share_of_cables T.F_share_of_cables.kp (bx_share_of_cables T) .nil pass0 (pa_cons (pv 0) (pa_cons (pv 1) (pa_cons (pv 2) pa_nil)))))))
theorem bx_cable_share (T : Tx K mg) : Binds K T.fd_cable_share ["plugs", "one", "two"] [] := T.F_cable_share.bindsN fun _ _ _ _ _ _ us hl => match us, hl with | [_, _, _], _ => rfl

theorem sc_choices : FnScope n_choices ["many", "taken"] (defScope s_choices) := ⟨rfl, rfl, rfl, by decide +kernel, rfl, by decide +kernel, by decide +kernel⟩
theorem ok_choices (T : Tx K mg) : FnOk P w K mg base CX0 1 T.f_choices T.fd_choices ["many", "taken"] (spP S_choices) := by
  refine T.F_choices.ok sc_choices (len_choices) (fun cdv A outer s H vs Q E hr h => ⟨t_choices K, PSs.nox ?_, rd_choices vs H Q E h⟩)
  exact (pss_cons (ps_if (pt_not (pt_chain op_le op_le pe_int (pv 1) (pv 0))) (pss_one (ps_ret pe_int)) pss_nil)
    (pss_cons (ps_set (i := 2) sc_choices.nd rfl (by first | exact .inl rfl | exact .inr rfl) pe_int)
    (pss_cons (ps_for PassesOwn.never rfl (pi_range1 (by rfl) T.b_range (pa_cons (pe_callB (cr_min2 rfl) (by rfl) T.b_min (by decide +kernel) (pa_cons (pv 1) (pa_cons (pe_op op_sub (pv 0) (pv 1)) pa_nil))) pa_nil)) (pg_name (i := 3) sc_choices.nd rfl (by first | exact .inl rfl | exact .inr rfl)) (pss_one (ps_set (i := 2) sc_choices.nd rfl (by first | exact .inl rfl | exact .inr rfl) (pe_op op_fdivW (pe_op op_mulW (pv 2) (pe_op op_sub (pv 0) (pv 3))) (pe_op op_add (pv 3) pe_int)))))
    (pss_one (ps_ret (pv 2))))))
theorem bx_choices (T : Tx K mg) : Binds K T.fd_choices ["many", "taken"] [] := T.F_choices.bindsN fun _ _ _ _ _ _ us hl => match us, hl with | [_, _], _ => rfl

end
end PN
end

section
set_option Elab.async false
set_option linter.all false
set_option autoImplicit false
set_option maxRecDepth 100000
set_option maxHeartbeats 4000000
namespace PN
open PySem PySem.Spec PyProof.Rows L2 DL
section
variable {P : Program} {w : World} {K : PySem.W.Frag} {mg : Str → Option Value} {base : Heap}
theorem sc_is_group : FnScope n_is_group ["plugs", "thing", "least"] (defScope s_is_group) := ⟨rfl, rfl, rfl, by decide +kernel, rfl, by decide +kernel, by decide +kernel⟩
theorem ok_is_group (T : Tx K mg) : FnOk P w K mg base CX0 2 T.f_is_group T.fd_is_group ["plugs", "thing", "least"] (spP S_is_group) := by
  refine T.F_is_group.ok sc_is_group (len_is_group) (fun cdv A outer s H vs Q E hr h => ⟨t_is_group K, PSs.nox ?_, rd_is_group vs H Q E h⟩)
  exact (pss_cons (ps_if (PW.pt (pw_or (pt_not (pt_val (pe_callB call_isi (by rfl) T.b_isinstance (by decide +kernel) (pa_cons (pv 1) (pa_cons (pe_bltn (v := .ty "list") (by rfl) T.b_list (by decide +kernel) rfl) pa_nil))))) (pw_or1 (pt_cmpR op_lt (pe_callB cr_lenS (by rfl) T.b_len (by decide +kernel) (pa_cons (pv 1) pa_nil)) (pv 2) (nomark _))))) (pss_one (ps_ret pe_bl)) pss_nil)
    (pss_cons (ps_if (pt_not (pt_val (pe_callB (cr_all rfl) (by rfl) T.b_all (by decide +kernel) (pa_cons (pe_lc (own := [("one", 3)]) rfl sc_is_group.nd (pi_list (pv 1)) (blkOk_by (own := [("one", 3)]) (by first | exact (by decide +kernel : blkC n_is_group (defScope s_is_group) _ [("one", 3)] = true) | kernel_rfl)) (fun _ _ _ _ _ => (pg_name (i := 3) sc_is_group.nd rfl (by first | exact .inl rfl | exact .inr rfl))) (fun _ _ _ _ _ => pts_nil) (fun _ _ _ _ _ => (pe_and (pe_call (ok_is_integer T) (hr.mono (by decide)) (by rfl) T.g_is_integer T.F_is_integer.kp (bx_is_integer T) .nil pass0 (pa_cons (pv 3) pa_nil)) (pe_one (pe_chain op_le op_lt pe_int (pv 3) (pe_callB cr_lenS (by rfl) T.b_len (by decide +kernel) (pa_cons (pv 0) pa_nil))))))) pa_nil)))) (pss_one (ps_ret pe_bl)) pss_nil)
    (pss_one (ps_ret (pe_callB (cr_all rfl) (by rfl) T.b_all (by decide +kernel) (pa_cons (pe_lc (own := [("one", 3), ("other", 4)]) rfl sc_is_group.nd (pi_zip (by rfl) T.b_zip (pa_cons (pv 1) (pa_cons (pe_slice sl_list (pv 1) (po_some pe_int) po_none) pa_nil))) (blkOk_by (own := [("one", 3), ("other", 4)]) (by first | exact (by decide +kernel : blkC n_is_group (defScope s_is_group) _ [("one", 3), ("other", 4)] = true) | kernel_rfl)) (fun _ _ _ _ _ => (pg_tup (by rfl) (pgs_cons (pg_name (i := 3) sc_is_group.nd rfl (by first | exact .inl rfl | exact .inr rfl)) (pgs_cons (pg_name (i := 4) sc_is_group.nd rfl (by first | exact .inl rfl | exact .inr rfl)) pgs_nil)))) (fun _ _ _ _ _ => pts_nil) (fun _ _ _ _ _ => (pe_cmpR op_lt (pv 3) (pv 4) (nomark _)))) pa_nil))))))
theorem bx_is_group (T : Tx K mg) : Binds K T.fd_is_group ["plugs", "thing", "least"] [] := T.F_is_group.bindsN fun _ _ _ _ _ _ us hl => match us, hl with | [_, _, _], _ => rfl

theorem sc_need_group : FnScope n_need_group ["plugs", "thing", "least"] (defScope s_need_group) := ⟨rfl, rfl, rfl, by decide +kernel, rfl, by decide +kernel, by decide +kernel⟩
theorem ok_need_group (T : Tx K mg) : FnOk P w K mg base CX0 3 T.f_need_group T.fd_need_group ["plugs", "thing", "least"] (spP S_need_group) := by
  refine T.F_need_group.ok sc_need_group (len_need_group) (fun cdv A outer s H vs Q E hr h => ⟨t_need_group K, PSs.nox ?_, rd_need_group vs H Q E h⟩)
  exact (pss_one (ps_if (pt_not (pt_val (pe_call (ok_is_group T) (hr.mono (by decide)) (by rfl) T.g_is_group T.F_is_group.kp (bx_is_group T) .nil pass0 (pa_cons (pv 0) (pa_cons (pv 1) (pa_cons (pv 2) pa_nil)))))) (pss_one ps_never) pss_nil))
theorem bx_need_group (T : Tx K mg) : Binds K T.fd_need_group ["plugs", "thing", "least"] [] := T.F_need_group.bindsN fun _ _ _ _ _ _ us hl => match us, hl with | [_, _, _], _ => rfl

theorem sc_share_of_around : FnScope n_share_of_around ["plugs", "device", "weight"] (defScope s_share_of_around) := ⟨rfl, rfl, rfl, by decide +kernel, rfl, by decide +kernel, by decide +kernel⟩
theorem ok_share_of_around (T : Tx K mg) : FnOk P w K mg base CX0 3 T.f_share_of_around T.fd_share_of_around ["plugs", "device", "weight"] (spP S_share_of_around) := by
  refine T.F_share_of_around.ok sc_share_of_around (len_share_of_around) (fun cdv A outer s H vs Q E hr h => ⟨t_share_of_around K, PSs.nox ?_, rd_share_of_around vs H Q E h⟩)
  exact (pss_cons (ps_par (i := 3) (j := 4) (by rfl) sc_share_of_around.nd rfl rfl (by decide) rfl rfl (pa_cons (pe_ix ix_seq (pv 0) (pv 1) (fun _ _ => rfl)) (pa_cons (pe_callB cr_lenS (by rfl) T.b_len (by decide +kernel) (pa_cons (pv 0) pa_nil)) pa_nil)) (by rfl))
    (pss_one (ps_ret (pe_call (ok_lowest T) (hr.mono (by decide)) (by rfl) T.g_lowest T.F_lowest.kp (bx_lowest T) .nil pass0 (pa_cons (pe_op op_mulW (pe_op op_mulW (pe_call (ok_factorial_of T) (hr.mono (by decide)) (by rfl) T.g_factorial_of T.F_factorial_of.kp (bx_factorial_of T) .nil pass0 (pa_cons (pe_op op_sub (pe_op op_sub (pv 4) (pv 3)) pe_int) pa_nil)) (pe_call (ok_factorial_of T) (hr.mono (by decide)) (by rfl) T.g_factorial_of T.F_factorial_of.kp (bx_factorial_of T) .nil pass0 (pa_cons (pe_op op_sub (pv 3) pe_int) pa_nil))) (pv 2)) (pa_cons (pe_call (ok_factorial_of T) (hr.mono (by decide)) (by rfl) T.g_factorial_of T.F_factorial_of.kp (bx_factorial_of T) .nil pass0 (pa_cons (pe_op op_sub (pv 4) pe_int) pa_nil)) pa_nil))))))
theorem bx_share_of_around (T : Tx K mg) : Binds K T.fd_share_of_around ["plugs", "device", "weight"] [] := T.F_share_of_around.bindsN fun _ _ _ _ _ _ us hl => match us, hl with | [_, _, _], _ => rfl

theorem sc_is_full : FnScope n_is_full ["plugs", "device"] (defScope s_is_full) := ⟨rfl, rfl, rfl, by decide +kernel, rfl, by decide +kernel, by decide +kernel⟩
theorem ok_is_full (T : Tx K mg) : FnOk P w K mg base CX0 1 T.f_is_full T.fd_is_full ["plugs", "device"] (spP S_is_full) := by
  refine T.F_is_full.ok sc_is_full (len_is_full) (fun cdv A outer s H vs Q E hr h => ⟨t_is_full K, PSs.nox ?_, rd_is_full vs H Q E h⟩)
  exact (pss_one (ps_ret (pe_cmpR (op_eqD hr.units) (pe_ix ix_seq (pv 0) (pv 1) (fun _ _ => rfl)) (pe_op op_sub (pe_callB cr_lenS (by rfl) T.b_len (by decide +kernel) (pa_cons (pv 0) pa_nil)) pe_int) (nomark _))))
theorem bx_is_full (T : Tx K mg) : Binds K T.fd_is_full ["plugs", "device"] [] := T.F_is_full.bindsN fun _ _ _ _ _ _ us hl => match us, hl with | [_, _], _ => rfl

theorem sc_weight_of : FnScope n_weight_of ["plugs", "group"] (defScope s_weight_of) := ⟨rfl, rfl, rfl, by decide +kernel, rfl, by decide +kernel, by decide +kernel⟩
theorem ok_weight_of (T : Tx K mg) : FnOk P w K mg base CX0 1 T.f_weight_of T.fd_weight_of ["plugs", "group"] (spP S_weight_of) := by
  refine T.F_weight_of.ok sc_weight_of (len_weight_of) (fun cdv A outer s H vs Q E hr h => ⟨t_weight_of K, PSs.nox ?_, rd_weight_of vs H Q E h⟩)
  exact (pss_one (ps_ret (pe_callB (cr_sum rfl) (by rfl) T.b_sum (by decide +kernel) (pa_cons (pe_lc (own := [("one", 2)]) rfl sc_weight_of.nd (pi_list (pv 1)) (blkOk_by (own := [("one", 2)]) (by first | exact (by decide +kernel : blkC n_weight_of (defScope s_weight_of) _ [("one", 2)] = true) | kernel_rfl)) (fun _ _ _ _ _ => (pg_name (i := 2) sc_weight_of.nd rfl (by first | exact .inl rfl | exact .inr rfl))) (fun _ _ _ _ _ => pts_nil) (fun _ _ _ _ _ => (pe_op op_sub (pe_ix ix_seq (pv 0) (pv 2) (fun _ _ => rfl)) pe_int))) pa_nil))))
theorem bx_weight_of (T : Tx K mg) : Binds K T.fd_weight_of ["plugs", "group"] [] := T.F_weight_of.bindsN fun _ _ _ _ _ _ us hl => match us, hl with | [_, _], _ => rfl

theorem sc_share_around : FnScope n_share_around ["plugs", "device", "group"] (defScope s_share_around) := ⟨rfl, rfl, rfl, by decide +kernel, rfl, by decide +kernel, by decide +kernel⟩
theorem ok_share_around (T : Tx K mg) : FnOk P w K mg base CX0 4 T.f_share_around T.fd_share_around ["plugs", "device", "group"] (spP S_share_around) := by
  refine T.F_share_around.ok sc_share_around (len_share_around) (fun cdv A outer s H vs Q E hr h => ⟨t_share_around K, PSs.nox ?_, rd_share_around vs H Q E h⟩)
  exact (pss_cons (ps_if (PW.pt (pw_or (pt_cmpR op_in_seq (pv 1) (pv 2) (by rfl)) (pw_or1 (pt_cmpR (op_neD hr.units) (pe_callB cr_lenS (by rfl) T.b_len (by decide +kernel) (pa_cons (pv 2) pa_nil)) (pe_ix ix_seq (pv 0) (pv 1) (fun _ _ => rfl)) (nomark _))))) (pss_one (ps_ret (pe_tup (pa_cons pe_int (pa_cons pe_int pa_nil))))) pss_nil)
    (pss_one (ps_ret (pe_ifExp (pt_val (pe_call (ok_is_full T) (hr.mono (by decide)) (by rfl) T.g_is_full T.F_is_full.kp (bx_is_full T) .nil pass0 (pa_cons (pv 0) (pa_cons (pv 1) pa_nil)))) (pe_tup (pa_cons pe_int (pa_cons pe_int pa_nil))) (pe_call (ok_share_of_around T) (hr.mono (by decide)) (by rfl) T.g_share_of_around T.F_share_of_around.kp (bx_share_of_around T) .nil pass0 (pa_cons (pv 0) (pa_cons (pv 1) (pa_cons (pe_call (ok_weight_of T) (hr.mono (by decide)) (by rfl) T.g_weight_of T.F_weight_of.kp (bx_weight_of T) .nil pass0 (pa_cons (pv 0) (pa_cons (pv 2) pa_nil))) pa_nil))))))))
theorem bx_share_around (T : Tx K mg) : Binds K T.fd_share_around ["plugs", "device", "group"] [] := T.F_share_around.bindsN fun _ _ _ _ _ _ us hl => match us, hl with | [_, _, _], _ => rfl

theorem sc_need_centre : FnScope n_need_centre ["plugs", "device", "group"] (defScope s_need_centre) := ⟨rfl, rfl, rfl, by decide +kernel, rfl, by decide +kernel, by decide +kernel⟩
theorem ok_need_centre (T : Tx K mg) : FnOk P w K mg base CX0 5 T.f_need_centre T.fd_need_centre ["plugs", "device", "group"] (spP S_need_centre) := by
  refine T.F_need_centre.ok sc_need_centre (len_need_centre) (fun cdv A outer s H vs Q E hr h => ⟨t_need_centre K, PSs.nox ?_, rd_need_centre vs H Q E h⟩)
  exact (pss_cons (ps_expr (pe_call (ok_need_plugs T) (hr.mono (by decide)) (by rfl) T.g_need_plugs T.F_need_plugs.kp (bx_need_plugs T) .nil pass0 (pa_cons (pv 0) pa_nil)))
    (pss_cons (ps_expr (pe_call (ok_need_device T) (hr.mono (by decide)) (by rfl) T.g_need_device T.F_need_device.kp (bx_need_device T) .nil pass0 (pa_cons (pv 0) (pa_cons (pv 1) pa_nil))))
    (pss_cons (ps_expr (pe_call (ok_need_group T) (hr.mono (by decide)) (by rfl) T.g_need_group T.F_need_group.kp (bx_need_group T) .nil pass0 (pa_cons (pv 0) (pa_cons (pv 2) (pa_cons pe_int pa_nil)))))
    (pss_one (ps_expr (pe_call (ok_need_net T) (hr.mono (by decide)) (by rfl) T.g_need_net T.F_need_net.kp (bx_need_net T) .nil pass0 (pa_cons (pv 0) pa_nil)))))))
theorem bx_need_centre (T : Tx K mg) : Binds K T.fd_need_centre ["plugs", "device", "group"] [] := T.F_need_centre.bindsN fun _ _ _ _ _ _ us hl => match us, hl with | [_, _, _], _ => rfl

theorem sc_around_share : FnScope n_around_share ["plugs", "device", "group"] (defScope s_around_share) := ⟨rfl, rfl, rfl, by decide +kernel, rfl, by decide +kernel, by decide +kernel⟩
theorem ok_around_share (T : Tx K mg) : FnOk P w K mg base CX0 6 T.f_around_share T.fd_around_share ["plugs", "device", "group"] (spP S_around_share) := by
  refine T.F_around_share.ok sc_around_share (len_around_share) (fun cdv A outer s H vs Q E hr h => ⟨t_around_share K, PSs.nox ?_, rd_around_share vs H Q E h⟩)
  exact (pss_cons (ps_expr (pe_call (ok_need_centre T) (hr.mono (by decide)) (by rfl) T.g_need_centre T.F_need_centre.kp (bx_need_centre T) .nil pass0 (pa_cons (pv 0) (pa_cons (pv 1) (pa_cons (pv 2) pa_nil)))))
    (pss_one (ps_ret (pe_call (ok_share_around T) (hr.mono (by decide)) (by rfl) T.g_share_around T.F_share_around.kp (bx_share_around T) .nil pass0 (pa_cons (pv 0) (pa_cons (pv 1) (pa_cons (pv 2) pa_nil)))))))
theorem bx_around_share (T : Tx K mg) : Binds K T.fd_around_share ["plugs", "device", "group"] [] := T.F_around_share.bindsN fun _ _ _ _ _ _ us hl => match us, hl with | [_, _, _], _ => rfl

theorem sc_need_gathered : FnScope n_need_gathered ["plugs", "group"] (defScope s_need_gathered) := ⟨rfl, rfl, rfl, by decide +kernel, rfl, by decide +kernel, by decide +kernel⟩
theorem ok_need_gathered (T : Tx K mg) : FnOk P w K mg base CX0 5 T.f_need_gathered T.fd_need_gathered ["plugs", "group"] (spP S_need_gathered) := by
  refine T.F_need_gathered.ok sc_need_gathered (len_need_gathered) (fun cdv A outer s H vs Q E hr h => ⟨t_need_gathered K, PSs.nox ?_, rd_need_gathered vs H Q E h⟩)
  exact (pss_cons (ps_expr (pe_call (ok_need_plugs T) (hr.mono (by decide)) (by rfl) T.g_need_plugs T.F_need_plugs.kp (bx_need_plugs T) .nil pass0 (pa_cons (pv 0) pa_nil)))
    (pss_cons (ps_expr (pe_call (ok_need_group T) (hr.mono (by decide)) (by rfl) T.g_need_group T.F_need_group.kp (bx_need_group T) .nil pass0 (pa_cons (pv 0) (pa_cons (pv 1) (pa_cons pe_int pa_nil)))))
    (pss_one (ps_expr (pe_call (ok_need_net T) (hr.mono (by decide)) (by rfl) T.g_need_net T.F_need_net.kp (bx_need_net T) .nil pass0 (pa_cons (pv 0) pa_nil))))))
theorem bx_need_gathered (T : Tx K mg) : Binds K T.fd_need_gathered ["plugs", "group"] [] := T.F_need_gathered.bindsN fun _ _ _ _ _ _ us hl => match us, hl with | [_, _], _ => rfl

theorem sc_tops_within : FnScope n_tops_within ["size", "total", "many"] (defScope s_tops_within) := ⟨rfl, rfl, rfl, by decide +kernel, rfl, by decide +kernel, by decide +kernel⟩
theorem ok_tops_within (T : Tx K mg) : FnOk P w K mg base CX0 2 T.f_tops_within T.fd_tops_within ["size", "total", "many"] (spP S_tops_within) := by
  refine T.F_tops_within.ok sc_tops_within (len_tops_within) (fun cdv A outer s H vs Q E hr h => ⟨t_tops_within K, PSs.nox ?_, rd_tops_within vs H Q E h⟩)
  exact (pss_cons (ps_if (pt_cmpR (op_eqD hr.units) (pv 0) (pv 2) (nomark _)) (pss_one (ps_ret (pe_tup (pa_cons (pe_lst (pa_cons (pe_tup (pa_cons (pe_op op_sub (pv 2) pe_int) (pa_cons pe_int pa_nil))) pa_nil)) (pa_cons pe_int pa_nil))))) pss_nil)
    (pss_cons (ps_setLc (i := 3) (own := [("number", 4)]) rfl sc_tops_within.nd rfl rfl (sw_true rfl rfl rfl (by decide +kernel)) (pi_range1 (by rfl) T.b_range (pa_cons (pv 0) pa_nil)) (blkOk_by (own := [("number", 4)]) (by first | exact (by decide +kernel : blkC n_tops_within (defScope s_tops_within) _ [("number", 4)] = true) | kernel_rfl)) (fun _ _ _ _ _ => (pg_name (i := 4) sc_tops_within.nd rfl (by first | exact .inl rfl | exact .inr rfl))) (fun _ _ _ _ _ => pts_nil) (fun _ _ _ _ _ => (pe_tup (pa_cons (pv 4) (pa_cons (pe_op op_mulW (pe_call (ok_choices T) (hr.mono (by decide)) (by rfl) T.g_choices T.F_choices.kp (bx_choices T) .nil pass0 (pa_cons (pe_op op_sub (pv 0) pe_int) (pa_cons (pv 4) pa_nil))) (pe_call (ok_choices T) (hr.mono (by decide)) (by rfl) T.g_choices T.F_choices.kp (bx_choices T) .nil pass0 (pa_cons (pe_op op_sub (pe_op op_sub (pv 2) (pv 0)) pe_int) (pa_cons (pe_op op_sub (pe_op op_sub (pv 1) (pv 0)) (pv 4)) pa_nil)))) pa_nil)))))
    (pss_one (ps_ret (pe_tup (pa_cons (pe_lc (own := [("row", 5)]) rfl sc_tops_within.nd (pi_list (pv 3)) (blkOk_by (own := [("row", 5)]) (by first | exact (by decide +kernel : blkC n_tops_within (defScope s_tops_within) _ [("row", 5)] = true) | kernel_rfl)) (fun _ _ _ _ _ => (pg_name (i := 5) sc_tops_within.nd rfl (by first | exact .inl rfl | exact .inr rfl))) (fun _ _ _ _ _ => (pts_one (pt_cmpR op_gt (pe_ix ix_seq (pv 5) pe_int (fun _ _ => rfl)) pe_int (nomark _)))) (fun _ _ _ _ _ => (pv 5))) (pa_cons (pe_call (ok_choices T) (hr.mono (by decide)) (by rfl) T.g_choices T.F_choices.kp (bx_choices T) .nil pass0 (pa_cons (pe_op op_sub (pv 2) pe_int) (pa_cons (pe_op op_sub (pv 1) (pv 0)) pa_nil))) pa_nil)))))))
theorem bx_tops_within (T : Tx K mg) : Binds K T.fd_tops_within ["size", "total", "many"] [] := T.F_tops_within.bindsN fun _ _ _ _ _ _ us hl => match us, hl with | [_, _, _], _ => rfl

theorem sc_tops_of_group : FnScope n_tops_of_group ["plugs", "group"] (defScope s_tops_of_group) := ⟨rfl, rfl, rfl, by decide +kernel, rfl, by decide +kernel, by decide +kernel⟩
theorem ok_tops_of_group (T : Tx K mg) : FnOk P w K mg base CX0 3 T.f_tops_of_group T.fd_tops_of_group ["plugs", "group"] (spP S_tops_of_group) := by
  refine T.F_tops_of_group.ok sc_tops_of_group (len_tops_of_group) (fun cdv A outer s H vs Q E hr h => ⟨t_tops_of_group K, PSs.nox ?_, rd_tops_of_group vs H Q E h⟩)
  exact (pss_one (ps_ret (pe_call (ok_tops_within T) (hr.mono (by decide)) (by rfl) T.g_tops_within T.F_tops_within.kp (bx_tops_within T) .nil pass0 (pa_cons (pe_callB cr_lenS (by rfl) T.b_len (by decide +kernel) (pa_cons (pv 1) pa_nil)) (pa_cons (pe_callB (cr_sum rfl) (by rfl) T.b_sum (by decide +kernel) (pa_cons (pe_lc (own := [("device", 2)]) rfl sc_tops_of_group.nd (pi_list (pv 1)) (blkOk_by (own := [("device", 2)]) (by first | exact (by decide +kernel : blkC n_tops_of_group (defScope s_tops_of_group) _ [("device", 2)] = true) | kernel_rfl)) (fun _ _ _ _ _ => (pg_name (i := 2) sc_tops_of_group.nd rfl (by first | exact .inl rfl | exact .inr rfl))) (fun _ _ _ _ _ => pts_nil) (fun _ _ _ _ _ => (pe_ix ix_seq (pv 0) (pv 2) (fun _ _ => rfl)))) pa_nil)) (pa_cons (pe_callB cr_lenS (by rfl) T.b_len (by decide +kernel) (pa_cons (pv 0) pa_nil)) pa_nil))))))
theorem bx_tops_of_group (T : Tx K mg) : Binds K T.fd_tops_of_group ["plugs", "group"] [] := T.F_tops_of_group.bindsN fun _ _ _ _ _ _ us hl => match us, hl with | [_, _], _ => rfl

theorem sc_within_shares : FnScope n_within_shares ["plugs", "group"] (defScope s_within_shares) := ⟨rfl, rfl, rfl, by decide +kernel, rfl, by decide +kernel, by decide +kernel⟩
theorem ok_within_shares (T : Tx K mg) : FnOk P w K mg base CX0 6 T.f_within_shares T.fd_within_shares ["plugs", "group"] (spP S_within_shares) := by
  refine T.F_within_shares.ok sc_within_shares (len_within_shares) (fun cdv A outer s H vs Q E hr h => ⟨t_within_shares K, PSs.nox ?_, rd_within_shares vs H Q E h⟩)
  exact (pss_cons (ps_expr (pe_call (ok_need_gathered T) (hr.mono (by decide)) (by rfl) T.g_need_gathered T.F_need_gathered.kp (bx_need_gathered T) .nil pass0 (pa_cons (pv 0) (pa_cons (pv 1) pa_nil))))
    (pss_cons (ps_asg (pe_call (ok_tops_of_group T) (hr.mono (by decide)) (by rfl) T.g_tops_of_group T.F_tops_of_group.kp (bx_tops_of_group T) .nil pass0 (pa_cons (pv 0) (pa_cons (pv 1) pa_nil))) (pg_tup (by rfl) (pgs_cons (pg_name (i := 2) sc_within_shares.nd rfl (by first | exact .inl rfl | exact .inr rfl)) (pgs_cons (pg_name (i := 3) sc_within_shares.nd rfl (by first | exact .inl rfl | exact .inr rfl)) pgs_nil))))
    (pss_one (ps_ret (pe_lc (own := [("number", 4), ("top", 5)]) rfl sc_within_shares.nd (pi_list (pv 2)) (blkOk_by (own := [("number", 4), ("top", 5)]) (by first | exact (by decide +kernel : blkC n_within_shares (defScope s_within_shares) _ [("number", 4), ("top", 5)] = true) | kernel_rfl)) (fun _ _ _ _ _ => (pg_tup (by rfl) (pgs_cons (pg_name (i := 4) sc_within_shares.nd rfl (by first | exact .inl rfl | exact .inr rfl)) (pgs_cons (pg_name (i := 5) sc_within_shares.nd rfl (by first | exact .inl rfl | exact .inr rfl)) pgs_nil)))) (fun _ _ _ _ _ => pts_nil) (fun _ _ _ _ _ => (pe_tup (pa_cons (pv 4) (StX.pa_star (pe_call (ok_lowest T) (hr.mono (by decide)) (by rfl) T.g_lowest T.F_lowest.kp (bx_lowest T) .nil pass0 (pa_cons (pv 5) (pa_cons (pv 3) pa_nil))) pa_nil)))))))))
theorem bx_within_shares (T : Tx K mg) : Binds K T.fd_within_shares ["plugs", "group"] [] := T.F_within_shares.bindsN fun _ _ _ _ _ _ us hl => match us, hl with | [_, _], _ => rfl

theorem sc_together_share : FnScope n_together_share ["plugs", "group"] (defScope s_together_share) := ⟨rfl, rfl, rfl, by decide +kernel, rfl, by decide +kernel, by decide +kernel⟩
theorem ok_together_share (T : Tx K mg) : FnOk P w K mg base CX0 6 T.f_together_share T.fd_together_share ["plugs", "group"] (spP S_together_share) := by
  refine T.F_together_share.ok sc_together_share (len_together_share) (fun cdv A outer s H vs Q E hr h => ⟨t_together_share K, PSs.nox ?_, rd_together_share vs H Q E h⟩)
  exact (pss_cons (ps_expr (pe_call (ok_need_gathered T) (hr.mono (by decide)) (by rfl) T.g_need_gathered T.F_need_gathered.kp (bx_need_gathered T) .nil pass0 (pa_cons (pv 0) (pa_cons (pv 1) pa_nil))))
    (pss_cons (ps_asg (pe_call (ok_tops_of_group T) (hr.mono (by decide)) (by rfl) T.g_tops_of_group T.F_tops_of_group.kp (bx_tops_of_group T) .nil pass0 (pa_cons (pv 0) (pa_cons (pv 1) pa_nil))) (pg_tup (by rfl) (pgs_cons (pg_name (i := 2) sc_together_share.nd rfl (by first | exact .inl rfl | exact .inr rfl)) (pgs_cons (pg_name (i := 3) sc_together_share.nd rfl (by first | exact .inl rfl | exact .inr rfl)) pgs_nil))))
    (pss_one (ps_ret (pe_ifExp (pt_cmpR (op_eqD hr.units) (pe_ix ix_seq (pe_ix ix_seq (pv 2) (pe_un un_neg pe_int) (fun _ _ => rfl)) pe_int (fun _ _ => rfl)) (pe_op op_sub (pe_callB cr_lenS (by rfl) T.b_len (by decide +kernel) (pa_cons (pv 1) pa_nil)) pe_int) (nomark _)) (pe_call (ok_lowest T) (hr.mono (by decide)) (by rfl) T.g_lowest T.F_lowest.kp (bx_lowest T) .nil pass0 (pa_cons (pe_ix ix_seq (pe_ix ix_seq (pv 2) (pe_un un_neg pe_int) (fun _ _ => rfl)) pe_int (fun _ _ => rfl)) (pa_cons (pv 3) pa_nil))) (pe_tup (pa_cons pe_int (pa_cons pe_int pa_nil))))))))
theorem bx_together_share (T : Tx K mg) : Binds K T.fd_together_share ["plugs", "group"] [] := T.F_together_share.bindsN fun _ _ _ _ _ _ us hl => match us, hl with | [_, _], _ => rfl

theorem sc_is_side : FnScope n_is_side ["plugs", "group"] (defScope s_is_side) := ⟨rfl, rfl, rfl, by decide +kernel, rfl, by decide +kernel, by decide +kernel⟩
theorem ok_is_side (T : Tx K mg) : FnOk P w K mg base CX0 1 T.f_is_side T.fd_is_side ["plugs", "group"] (spP S_is_side) := by
  refine T.F_is_side.ok sc_is_side (len_is_side) (fun cdv A outer s H vs Q E hr h => ⟨t_is_side K, PSs.nox ?_, rd_is_side vs H Q E h⟩)
  exact (pss_one (ps_ret (pe_and (pe_cmpR op_lt (pe_callB cr_lenS (by rfl) T.b_len (by decide +kernel) (pa_cons (pv 1) pa_nil)) (pe_callB cr_lenS (by rfl) T.b_len (by decide +kernel) (pa_cons (pv 0) pa_nil)) (nomark _)) (pe_one (pe_cmpR (op_eqD hr.units) (pe_callB (cr_sum rfl) (by rfl) T.b_sum (by decide +kernel) (pa_cons (pe_lc (own := [("device", 2)]) rfl sc_is_side.nd (pi_list (pv 1)) (blkOk_by (own := [("device", 2)]) (by first | exact (by decide +kernel : blkC n_is_side (defScope s_is_side) _ [("device", 2)] = true) | kernel_rfl)) (fun _ _ _ _ _ => (pg_name (i := 2) sc_is_side.nd rfl (by first | exact .inl rfl | exact .inr rfl))) (fun _ _ _ _ _ => pts_nil) (fun _ _ _ _ _ => (pe_ix ix_seq (pv 0) (pv 2) (fun _ _ => rfl)))) pa_nil)) (pe_op op_sub (pe_op op_mulW pe_int (pe_callB cr_lenS (by rfl) T.b_len (by decide +kernel) (pa_cons (pv 1) pa_nil))) pe_int) (nomark _))))))
theorem bx_is_side (T : Tx K mg) : Binds K T.fd_is_side ["plugs", "group"] [] := T.F_is_side.bindsN fun _ _ _ _ _ _ us hl => match us, hl with | [_, _], _ => rfl

theorem sc_side_share : FnScope n_side_share ["plugs", "group"] (defScope s_side_share) := ⟨rfl, rfl, rfl, by decide +kernel, rfl, by decide +kernel, by decide +kernel⟩
theorem ok_side_share (T : Tx K mg) : FnOk P w K mg base CX0 6 T.f_side_share T.fd_side_share ["plugs", "group"] (spP S_side_share) := by
  refine T.F_side_share.ok sc_side_share (len_side_share) (fun cdv A outer s H vs Q E hr h => ⟨t_side_share K, PSs.nox ?_, rd_side_share vs H Q E h⟩)
  exact (pss_cons (ps_expr (pe_call (ok_need_gathered T) (hr.mono (by decide)) (by rfl) T.g_need_gathered T.F_need_gathered.kp (bx_need_gathered T) .nil pass0 (pa_cons (pv 0) (pa_cons (pv 1) pa_nil))))
    (pss_one (ps_ret (pe_ifExp (pt_val (pe_call (ok_is_side T) (hr.mono (by decide)) (by rfl) T.g_is_side T.F_is_side.kp (bx_is_side T) .nil pass0 (pa_cons (pv 0) (pa_cons (pv 1) pa_nil)))) (pe_tup (pa_cons pe_int (pa_cons (pe_call (ok_choices T) (hr.mono (by decide)) (by rfl) T.g_choices T.F_choices.kp (bx_choices T) .nil pass0 (pa_cons (pe_op op_sub (pe_callB cr_lenS (by rfl) T.b_len (by decide +kernel) (pa_cons (pv 0) pa_nil)) pe_int) (pa_cons (pe_op op_sub (pe_callB cr_lenS (by rfl) T.b_len (by decide +kernel) (pa_cons (pv 1) pa_nil)) pe_int) pa_nil))) pa_nil))) (pe_tup (pa_cons pe_int (pa_cons pe_int pa_nil)))))))
theorem bx_side_share (T : Tx K mg) : Binds K T.fd_side_share ["plugs", "group"] [] := T.F_side_share.bindsN fun _ _ _ _ _ _ us hl => match us, hl with | [_, _], _ => rfl

theorem sc_path_sums : FnScope n_path_sums ["numbers"] (defScope s_path_sums) := ⟨rfl, rfl, rfl, by decide +kernel, rfl, by decide +kernel, by decide +kernel⟩
theorem ok_path_sums (T : Tx K mg) : FnOk P w K mg base CX0 1 T.f_path_sums T.fd_path_sums ["numbers"] (spP S_path_sums) := by
  refine T.F_path_sums.ok sc_path_sums (len_path_sums) (fun cdv A outer s H vs Q E hr h => ⟨t_path_sums K, PSs.nox ?_, rd_path_sums vs H Q E h⟩)
  exact (pss_cons (ps_par (i := 1) (j := 2) (by rfl) sc_path_sums.nd rfl rfl (by decide) rfl rfl (pa_cons (pe_op op_cat (pe_lst (pa_cons pe_int pa_nil)) (pe_op op_rep (pe_lst (pa_cons pe_int pa_nil)) (pe_callB cr_lenS (by rfl) T.b_len (by decide +kernel) (pa_cons (pv 0) pa_nil)))) (pa_cons (pe_op op_rep (pe_lst (pa_cons pe_int pa_nil)) (pe_op op_add (pe_callB cr_lenS (by rfl) T.b_len (by decide +kernel) (pa_cons (pv 0) pa_nil)) pe_int)) pa_nil)) (by rfl))
    (pss_cons (ps_for PassesOwn.never rfl (pi_list (pv 0)) (pg_name (i := 3) sc_path_sums.nd rfl (by first | exact .inl rfl | exact .inr rfl)) (pss_one (ps_for PassesOwn.never rfl (pi_range3 (by rfl) T.b_range (pa_cons (pe_callB cr_lenS (by rfl) T.b_len (by decide +kernel) (pa_cons (pv 0) pa_nil)) (pa_cons pe_int (pa_cons (pe_un un_neg pe_int) pa_nil)))) (pg_name (i := 4) sc_path_sums.nd rfl (by first | exact .inl rfl | exact .inr rfl)) (pss_cons (ps_augS (pv 2) (pv 4) get_list (pe_op op_mulW (pe_op op_add (pe_ix ix_seq (pv 2) (pe_op op_sub (pv 4) pe_int) (fun _ _ => rfl)) (pe_op op_mulW (pv 3) (pe_ix ix_seq (pv 1) (pe_op op_sub (pv 4) pe_int) (fun _ _ => rfl)))) (pe_op op_sub (pv 3) pe_int)) ip_add set_list)
    (pss_one (ps_augS (pv 1) (pv 4) get_list (pe_op op_mulW (pe_ix ix_seq (pv 1) (pe_op op_sub (pv 4) pe_int) (fun _ _ => rfl)) (pe_op op_sub (pv 3) pe_int)) ip_add set_list))))))
    (pss_one (ps_ret (pe_tup (pa_cons (pv 1) (pa_cons (pv 2) pa_nil)))))))
theorem bx_path_sums (T : Tx K mg) : Binds K T.fd_path_sums ["numbers"] [] := T.F_path_sums.bindsN fun _ _ _ _ _ _ us hl => match us, hl with | [_], _ => rfl

theorem sc_is_line : FnScope n_is_line ["plugs", "one", "two"] (defScope s_is_line) := ⟨rfl, rfl, rfl, by decide +kernel, rfl, by decide +kernel, by decide +kernel⟩
theorem ok_is_line (T : Tx K mg) : FnOk P w K mg base CX0 1 T.f_is_line T.fd_is_line ["plugs", "one", "two"] (spP S_is_line) := by
  refine T.F_is_line.ok sc_is_line (len_is_line) (fun cdv A outer s H vs Q E hr h => ⟨t_is_line K, PSs.nox ?_, rd_is_line vs H Q E h⟩)
  exact (pss_one (ps_ret (pe_and (pe_chain (op_eqD hr.units) (op_eqD hr.units) (pe_ix ix_seq (pv 0) (pv 1) (fun _ _ => rfl)) (pe_ix ix_seq (pv 0) (pv 2) (fun _ _ => rfl)) pe_int) (pe_one (pe_cmpR (op_eqD hr.units) (pe_slice sl_list (pe_callB cr_sortedI (by rfl) T.b_sorted (by decide +kernel) (pa_cons (pv 0) pa_nil)) (po_some pe_int) po_none) (pe_op op_rep (pe_lst (pa_cons pe_int pa_nil)) (pe_op op_sub (pe_callB cr_lenS (by rfl) T.b_len (by decide +kernel) (pa_cons (pv 0) pa_nil)) pe_int)) (nomark _))))))
theorem bx_is_line (T : Tx K mg) : Binds K T.fd_is_line ["plugs", "one", "two"] [] := T.F_is_line.bindsN fun _ _ _ _ _ _ us hl => match us, hl with | [_, _, _], _ => rfl

theorem sc_tops_of : FnScope n_tops_of ["plugs", "one", "two"] (defScope s_tops_of) := ⟨rfl, rfl, rfl, by decide +kernel, rfl, by decide +kernel, by decide +kernel⟩
theorem ok_tops_of (T : Tx K mg) : FnOk P w K mg base CX0 2 T.f_tops_of T.fd_tops_of ["plugs", "one", "two"] (spP S_tops_of) := by
  refine T.F_tops_of.ok sc_tops_of (len_tops_of) (fun cdv A outer s H vs Q E hr h => ⟨t_tops_of K, PSs.nox ?_, rd_tops_of vs H Q E h⟩)
  exact (pss_cons (ps_set (i := 3) sc_tops_of.nd rfl (by first | exact .inl rfl | exact .inr rfl) (pe_callB cr_lenS (by rfl) T.b_len (by decide +kernel) (pa_cons (pv 0) pa_nil)))
    (pss_cons (ps_setLc (i := 4) (own := [("device", 10), ("number", 11)]) rfl sc_tops_of.nd rfl rfl (sw_true rfl rfl rfl (by decide +kernel)) (pi_enum (by rfl) T.b_enumerate (pa_cons (pv 0) pa_nil)) (blkOk_by (own := [("device", 10), ("number", 11)]) (by first | exact (by decide +kernel : blkC n_tops_of (defScope s_tops_of) _ [("device", 10), ("number", 11)] = true) | kernel_rfl)) (fun _ _ _ _ _ => (pg_tup (by rfl) (pgs_cons (pg_name (i := 10) sc_tops_of.nd rfl (by first | exact .inl rfl | exact .inr rfl)) (pgs_cons (pg_name (i := 11) sc_tops_of.nd rfl (by first | exact .inl rfl | exact .inr rfl)) pgs_nil)))) (fun _ _ _ _ _ => (pts_one (pt_cmpR op_notIn_seq (pv 10) (pe_tup (pa_cons (pv 1) (pa_cons (pv 2) pa_nil))) (by rfl)))) (fun _ _ _ _ _ => (pv 11)))
    (pss_cons (ps_asg (pe_call (ok_path_sums T) (hr.mono (by decide)) (by rfl) T.g_path_sums T.F_path_sums.kp (bx_path_sums T) .nil pass0 (pa_cons (pv 4) pa_nil)) (pg_tup (by rfl) (pgs_cons (pg_name (i := 5) sc_tops_of.nd rfl (by first | exact .inl rfl | exact .inr rfl)) (pgs_cons (pg_name (i := 6) sc_tops_of.nd rfl (by first | exact .inl rfl | exact .inr rfl)) pgs_nil))))
    (pss_cons (ps_set (i := 7) sc_tops_of.nd rfl (by first | exact .inl rfl | exact .inr rfl) (pe_lst (pa_cons pe_int pa_nil)))
    (pss_cons (ps_for PassesOwn.never rfl (pi_range2 (by rfl) T.b_range (pa_cons pe_int (pa_cons (pe_op op_sub (pv 3) pe_int) pa_nil))) (pg_name (i := 8) sc_tops_of.nd rfl (by first | exact .inl rfl | exact .inr rfl)) (pss_cons (ps_set (i := 9) sc_tops_of.nd rfl (by first | exact .inl rfl | exact .inr rfl) (pe_op op_add (pe_op op_mulW (pe_op op_sub (pe_op op_add (pe_ix ix_seq (pv 0) (pv 1) (fun _ _ => rfl)) (pe_ix ix_seq (pv 0) (pv 2) (fun _ _ => rfl))) (pe_op op_mulW pe_int (pv 8))) (pe_ix ix_seq (pv 5) (pe_op op_sub (pv 8) pe_int) (fun _ _ => rfl))) (pe_ix ix_seq (pv 6) (pe_op op_sub (pv 8) pe_int) (fun _ _ => rfl))))
    (pss_one (ps_expr (pe_bm PySem.F.plainAttrs_list PySem.F.slot_list_append PySem.F.type_list_append mt_append (pv 7) (pa_cons (pe_op op_mulW (pe_op op_mulW (pe_call (ok_factorial_of T) (hr.mono (by decide)) (by rfl) T.g_factorial_of T.F_factorial_of.kp (bx_factorial_of T) .nil pass0 (pa_cons (pe_op op_sub (pe_op op_sub (pv 3) (pv 8)) pe_int) pa_nil)) (pe_call (ok_factorial_of T) (hr.mono (by decide)) (by rfl) T.g_factorial_of T.F_factorial_of.kp (bx_factorial_of T) .nil pass0 (pa_cons (pe_op op_sub (pv 8) pe_int) pa_nil))) (pv 9)) pa_nil))))))
    (pss_one (ps_ret (pe_lst (StX.pa_star (pv 7) (pa_cons (pe_ifExp (pt_val (pe_call (ok_is_line T) (hr.mono (by decide)) (by rfl) T.g_is_line T.F_is_line.kp (bx_is_line T) .nil pass0 (pa_cons (pv 0) (pa_cons (pv 1) (pa_cons (pv 2) pa_nil))))) (pe_call (ok_factorial_of T) (hr.mono (by decide)) (by rfl) T.g_factorial_of T.F_factorial_of.kp (bx_factorial_of T) .nil pass0 (pa_cons (pe_op op_sub (pv 3) pe_int) pa_nil)) pe_int) pa_nil))))))))))
theorem bx_tops_of (T : Tx K mg) : Binds K T.fd_tops_of ["plugs", "one", "two"] [] := T.F_tops_of.bindsN fun _ _ _ _ _ _ us hl => match us, hl with | [_, _, _], _ => rfl

theorem sc_shares_of : FnScope n_shares_of ["plugs", "one", "two"] (defScope s_shares_of) := ⟨rfl, rfl, rfl, by decide +kernel, rfl, by decide +kernel, by decide +kernel⟩
theorem ok_shares_of (T : Tx K mg) : FnOk P w K mg base CX0 3 T.f_shares_of T.fd_shares_of ["plugs", "one", "two"] (spP S_shares_of) := by
  refine T.F_shares_of.ok sc_shares_of (len_shares_of) (fun cdv A outer s H vs Q E hr h => ⟨t_shares_of K, PSs.nox ?_, rd_shares_of vs H Q E h⟩)
  exact (pss_cons (ps_if (pt_cmpR (op_eqD hr.units) (pv 1) (pv 2) (nomark _)) (pss_one (ps_ret (pe_lst (pa_cons (pe_tup (pa_cons pe_int (pa_cons pe_int (pa_cons pe_int pa_nil)))) pa_nil)))) pss_nil)
    (pss_cons (ps_set (i := 3) sc_shares_of.nd rfl (by first | exact .inl rfl | exact .inr rfl) (pe_call (ok_factorial_of T) (hr.mono (by decide)) (by rfl) T.g_factorial_of T.F_factorial_of.kp (bx_factorial_of T) .nil pass0 (pa_cons (pe_op op_sub (pe_callB cr_lenS (by rfl) T.b_len (by decide +kernel) (pa_cons (pv 0) pa_nil)) pe_int) pa_nil)))
    (pss_one (ps_ret (pe_lc (own := [("steps", 4), ("top", 5)]) rfl sc_shares_of.nd (pi_enum (by rfl) T.b_enumerate (pa_cons (pe_call (ok_tops_of T) (hr.mono (by decide)) (by rfl) T.g_tops_of T.F_tops_of.kp (bx_tops_of T) .nil pass0 (pa_cons (pv 0) (pa_cons (pv 1) (pa_cons (pv 2) pa_nil)))) pa_nil)) (blkOk_by (own := [("steps", 4), ("top", 5)]) (by first | exact (by decide +kernel : blkC n_shares_of (defScope s_shares_of) _ [("steps", 4), ("top", 5)] = true) | kernel_rfl)) (fun _ _ _ _ _ => (pg_tup (by rfl) (pgs_cons (pg_name (i := 4) sc_shares_of.nd rfl (by first | exact .inl rfl | exact .inr rfl)) (pgs_cons (pg_name (i := 5) sc_shares_of.nd rfl (by first | exact .inl rfl | exact .inr rfl)) pgs_nil)))) (fun _ _ _ _ _ => (pts_one (pt_cmpR op_gt (pv 5) pe_int (nomark _)))) (fun _ _ _ _ _ => (pe_tup (pa_cons (pv 4) (StX.pa_star (pe_call (ok_lowest T) (hr.mono (by decide)) (by rfl) T.g_lowest T.F_lowest.kp (bx_lowest T) .nil pass0 (pa_cons (pv 5) (pa_cons (pv 3) pa_nil))) pa_nil)))))))))
theorem bx_shares_of (T : Tx K mg) : Binds K T.fd_shares_of ["plugs", "one", "two"] [] := T.F_shares_of.bindsN fun _ _ _ _ _ _ us hl => match us, hl with | [_, _, _], _ => rfl

theorem sc_step_shares : FnScope n_step_shares ["plugs", "one", "two"] (defScope s_step_shares) := ⟨rfl, rfl, rfl, by decide +kernel, rfl, by decide +kernel, by decide +kernel⟩
theorem ok_step_shares (T : Tx K mg) : FnOk P w K mg base CX0 6 T.f_step_shares T.fd_step_shares ["plugs", "one", "two"] (spP S_step_shares) := by
  refine T.F_step_shares.ok sc_step_shares (len_step_shares) (fun cdv A outer s H vs Q E hr h => ⟨t_step_shares K, PSs.nox ?_, rd_step_shares vs H Q E h⟩)
  exact (pss_cons (ps_expr (pe_call (ok_need_two T) (hr.mono (by decide)) (by rfl) T.g_need_two T.F_need_two.kp (bx_need_two T) .nil pass0 (pa_cons (pv 0) (pa_cons (pv 1) (pa_cons (pv 2) pa_nil)))))
    (pss_one (ps_ret (pe_call (ok_shares_of T) (hr.mono (by decide)) (by rfl) T.g_shares_of T.F_shares_of.kp (bx_shares_of T) .nil pass0 (pa_cons (pv 0) (pa_cons (pv 1) (pa_cons (pv 2) pa_nil)))))))
theorem bx_step_shares (T : Tx K mg) : Binds K T.fd_step_shares ["plugs", "one", "two"] [] := T.F_step_shares.bindsN fun _ _ _ _ _ _ us hl => match us, hl with | [_, _, _], _ => rfl

end
end PN
end

section
set_option Elab.async false
set_option linter.all false
set_option autoImplicit false
set_option maxRecDepth 100000
set_option maxHeartbeats 4000000
namespace PN
open PySem PySem.Spec PyProof.Rows L2 DL
section
variable {P : Program} {w : World} {K : PySem.W.Frag} {mg : Str → Option Value} {base : Heap}
theorem sc_l_store : FnScope n_l_store ["_law_script", "_law_k"] (defScope s_l_store) := ⟨rfl, rfl, rfl, by decide +kernel, rfl, by decide +kernel, by decide +kernel⟩
theorem ok_l_store (T : Tx K mg) : FnOk P w K mg base CX0 1 T.f_l_store T.fd_l_store ["_law_script", "_law_k"] (sp_l_store K) := by
  refine T.F_l_store.ok sc_l_store (len_l_store) (fun cdv A outer s H vs Q E hr h => ⟨t_l_store K, PSs.nox ?_, rd_l_store vs H Q E h⟩)
  exact (pss_cons (ps_set (i := 2) sc_l_store.nd rfl (by first | exact .inl rfl | exact .inr rfl) (pe_ifExp (pt_cmpR op_lt (pv 1) (pe_callB cr_lenS (by rfl) T.b_len (by decide +kernel) (pa_cons (pv 0) pa_nil)) (nomark _)) (pe_callB cr_abs (by rfl) T.b_abs (by decide +kernel) (pa_cons (pe_ix ix_seq (pv 0) (pv 1) (fun _ _ => rfl)) pa_nil)) pe_int))
    (pss_one (ps_ret (pe_lst (pa_cons (pe_callB (cr_max2 rfl) (by rfl) T.b_max (by decide +kernel) (pa_cons pe_int (pa_cons (pe_op op_sub (pv 2) (pe_op op_powW pe_int pe_int)) pa_nil))) (pa_cons (pe_op op_add (pe_op op_mulW (pe_op op_mod (pe_callTy cr_int1 (by rfl) T.b_int (by decide +kernel) (pa_cons (pv 2) pa_nil)) (pe_op op_add (pe_op op_powW pe_int pe_int) pe_int)) pe_int) (pe_op op_mulW pe_int (pv 1))) (pa_cons pe_int pa_nil)))))))
theorem bx_l_store (T : Tx K mg) : Binds K T.fd_l_store ["_law_script", "_law_k"] [] := T.F_l_store.bindsN fun _ _ _ _ _ _ us hl => match us, hl with | [_, _], _ => rfl

theorem sc_l_pick : FnScope n_l_pick ["_law_store_here", "_law_many"] (defScope s_l_pick) := ⟨rfl, rfl, rfl, by decide +kernel, rfl, by decide +kernel, by decide +kernel⟩
theorem ok_l_pick (T : Tx K mg) : FnOk P w K mg base CX0 1 T.f_l_pick T.fd_l_pick ["_law_store_here", "_law_many"] (spS S_l_pick) := by
  refine T.F_l_pick.ok sc_l_pick (len_l_pick) (fun cdv A outer s H vs Q E hr h => ⟨t_l_pick K, PSs.nox ?_, rd_l_pick vs H Q E h⟩)
  exact (pss_cons (ps_if (pt_cmpR op_gt (pe_ix ix_seq (pv 0) pe_int (fun _ _ => rfl)) pe_int (nomark _)) (pss_cons (ps_set (i := 2) sc_l_pick.nd rfl (by first | exact .inl rfl | exact .inr rfl) (pe_op op_mod (pe_callTy cr_int1 (by rfl) T.b_int (by decide +kernel) (pa_cons (pe_ix ix_seq (pv 0) pe_int (fun _ _ => rfl)) pa_nil)) (pv 1)))
    (pss_cons (ps_asg (pe_op op_fdivW (pe_ix ix_seq (pv 0) pe_int (fun _ _ => rfl)) (pv 1)) (pg_sub (pv 0) pe_int set_list))
    (pss_one (ps_ret (pv 2))))) pss_nil)
    (pss_cons (ps_asg (pe_op op_add (pe_ix ix_seq (pv 0) pe_int (fun _ _ => rfl)) pe_int) (pg_sub (pv 0) pe_int set_list))
    (pss_cons (ps_set (i := 3) sc_l_pick.nd rfl (by first | exact .inl rfl | exact .inr rfl) (pe_op op_mod (pe_callTy cr_int1 (by rfl) T.b_int (by decide +kernel) (pa_cons (pe_op op_powW (pe_op op_add (pe_ix ix_seq (pv 0) pe_int (fun _ _ => rfl)) (pe_op op_mulW pe_int (pe_ix ix_seq (pv 0) pe_int (fun _ _ => rfl)))) pe_int) pa_nil)) (pe_op op_add (pe_op op_powW pe_int pe_int) pe_int)))
    (pss_cons (ps_set (i := 3) sc_l_pick.nd rfl (by first | exact .inl rfl | exact .inr rfl) (pe_op op_mod (pe_callTy cr_int1 (by rfl) T.b_int (by decide +kernel) (pa_cons (pe_op op_powW (pe_op op_add (pv 3) (pe_op op_mulW pe_int (pe_ix ix_seq (pv 0) pe_int (fun _ _ => rfl)))) pe_int) pa_nil)) (pe_op op_add (pe_op op_powW pe_int pe_int) pe_int)))
    (pss_one (ps_ret (pe_op op_mod (pe_callTy cr_int1 (by rfl) T.b_int (by decide +kernel) (pa_cons (pe_op op_fdivW (pv 3) pe_int) pa_nil)) (pv 1))))))))
theorem bx_l_pick (T : Tx K mg) : Binds K T.fd_l_pick ["_law_store_here", "_law_many"] [] := T.F_l_pick.bindsN fun _ _ _ _ _ _ us hl => match us, hl with | [_, _], _ => rfl

theorem sc_l_word : FnScope n_l_word ["_law_store_here", "_law_many"] (defScope s_l_word) := ⟨rfl, rfl, rfl, by decide +kernel, rfl, by decide +kernel, by decide +kernel⟩
theorem ok_l_word (T : Tx K mg) : FnOk P w K mg base CX0 2 T.f_l_word T.fd_l_word ["_law_store_here", "_law_many"] (spS S_l_word) := by
  refine T.F_l_word.ok sc_l_word (len_l_word) (fun cdv A outer s H vs Q E hr h => ⟨t_l_word K, PSs.nox ?_, rd_l_word vs H Q E h⟩)
  exact (pss_cons (ps_par (i := 2) (j := 3) (by rfl) sc_l_word.nd rfl rfl (by decide) rfl rfl (pa_cons (pe_call (ok_l_pick T) (hr.mono (by decide)) (by rfl) T.g_l_pick T.F_l_pick.kp (bx_l_pick T) .nil pass0 (pa_cons (pv 0) (pa_cons pe_int pa_nil))) (pa_cons (pe_lst pa_nil) pa_nil)) (by rfl))
    (pss_cons (ps_set (i := 4) sc_l_word.nd rfl (by first | exact .inl rfl | exact .inr rfl) (pe_lst (pa_cons (pe_call (ok_l_pick T) (hr.mono (by decide)) (by rfl) T.g_l_pick T.F_l_pick.kp (bx_l_pick T) .nil pass0 (pa_cons (pv 0) (pa_cons (pv 1) pa_nil))) (pa_cons (pe_call (ok_l_pick T) (hr.mono (by decide)) (by rfl) T.g_l_pick T.F_l_pick.kp (bx_l_pick T) .nil pass0 (pa_cons (pv 0) (pa_cons (pv 1) pa_nil))) (pa_cons (pe_call (ok_l_pick T) (hr.mono (by decide)) (by rfl) T.g_l_pick T.F_l_pick.kp (bx_l_pick T) .nil pass0 (pa_cons (pv 0) (pa_cons (pv 1) pa_nil))) pa_nil)))))
    (pss_cons (ps_set (i := 5) sc_l_word.nd rfl (by first | exact .inl rfl | exact .inr rfl) (pe_listRg rfl (by rfl) T.b_list (prg_1 (by rfl) T.b_range (pv 1))))
    (pss_cons (ps_for PassesOwn.never rfl (pi_range1 (by rfl) T.b_range (pa_cons (pe_op op_sub (pv 1) pe_int) pa_nil)) (pg_name (i := 6) sc_l_word.nd rfl (by first | exact .inl rfl | exact .inr rfl)) (pss_one (ps_if (pt_cmpR (op_eqD hr.units) (pv 2) pe_int (nomark _)) (pss_one (ps_expr (pe_bm PySem.F.plainAttrs_list PySem.F.slot_list_append PySem.F.type_list_append mt_append (pv 3) (pa_cons (pe_ix ix_seq (pv 4) pe_int (fun _ _ => rfl)) pa_nil)))) (pss_one (ps_if (pt_cmpR (op_eqD hr.units) (pv 2) pe_int (nomark _)) (pss_one (ps_expr (pe_bm PySem.F.plainAttrs_list PySem.F.slot_list_append PySem.F.type_list_append mt_append (pv 3) (pa_cons (pe_ix ix_seq (pv 4) (pe_call (ok_l_pick T) (hr.mono (by decide)) (by rfl) T.g_l_pick T.F_l_pick.kp (bx_l_pick T) .nil pass0 (pa_cons (pv 0) (pa_cons pe_int pa_nil))) (fun _ _ => rfl)) pa_nil)))) (pss_one (ps_if (pt_cmpR (op_eqD hr.units) (pv 2) pe_int (nomark _)) (pss_one (ps_expr (pe_bm PySem.F.plainAttrs_list PySem.F.slot_list_append PySem.F.type_list_append mt_append (pv 3) (pa_cons (pe_bm PySem.F.plainAttrs_list PySem.F.slot_list_pop PySem.F.type_list_pop mt_popAt (pv 5) (pa_cons (pe_call (ok_l_pick T) (hr.mono (by decide)) (by rfl) T.g_l_pick T.F_l_pick.kp (bx_l_pick T) .nil pass0 (pa_cons (pv 0) (pa_cons (pe_callB cr_lenS (by rfl) T.b_len (by decide +kernel) (pa_cons (pv 5) pa_nil)) pa_nil))) pa_nil)) pa_nil)))) (pss_one (ps_expr (pe_bm PySem.F.plainAttrs_list PySem.F.slot_list_append PySem.F.type_list_append mt_append (pv 3) (pa_cons (pe_ix ix_seq (pe_lst (pa_cons (pe_ix ix_seq (pv 4) pe_int (fun _ _ => rfl)) (pa_cons (pe_call (ok_l_pick T) (hr.mono (by decide)) (by rfl) T.g_l_pick T.F_l_pick.kp (bx_l_pick T) .nil pass0 (pa_cons (pv 0) (pa_cons (pv 1) pa_nil))) pa_nil))) (pe_callTy cr_int1 (by rfl) T.b_int (by decide +kernel) (pa_cons (pe_cmpR op_gt (pe_call (ok_l_pick T) (hr.mono (by decide)) (by rfl) T.g_l_pick T.F_l_pick.kp (bx_l_pick T) .nil pass0 (pa_cons (pv 0) (pa_cons (pv 2) pa_nil))) pe_int (nomark _)) pa_nil)) (fun _ _ => rfl)) pa_nil)))))))))))
    (pss_one (ps_ret (pv 3)))))))
theorem bx_l_word (T : Tx K mg) : Binds K T.fd_l_word ["_law_store_here", "_law_many"] [] := T.F_l_word.bindsN fun _ _ _ _ _ _ us hl => match us, hl with | [_, _], _ => rfl

theorem sc_l_plugs : FnScope n_l_plugs ["_law_word_here"] (defScope s_l_plugs) := ⟨rfl, rfl, rfl, by decide +kernel, rfl, by decide +kernel, by decide +kernel⟩
theorem ok_l_plugs (T : Tx K mg) : FnOk P w K mg base CX0 1 T.f_l_plugs T.fd_l_plugs ["_law_word_here"] (spP S_l_plugs) := by
  refine T.F_l_plugs.ok sc_l_plugs (len_l_plugs) (fun cdv A outer s H vs Q E hr h => ⟨t_l_plugs K, PSs.nox ?_, rd_l_plugs vs H Q E h⟩)
  exact (pss_one (ps_ret (pe_lc (own := [("_law_who", 1)]) rfl sc_l_plugs.nd (pi_range1 (by rfl) T.b_range (pa_cons (pe_op op_add (pe_callB cr_lenS (by rfl) T.b_len (by decide +kernel) (pa_cons (pv 0) pa_nil)) pe_int) pa_nil)) (blkOk_by (own := [("_law_who", 1)]) (by first | exact (by decide +kernel : blkC n_l_plugs (defScope s_l_plugs) _ [("_law_who", 1)] = true) | kernel_rfl)) (fun _ _ _ _ _ => (pg_name (i := 1) sc_l_plugs.nd rfl (by first | exact .inl rfl | exact .inr rfl))) (fun _ _ _ _ _ => pts_nil) (fun _ _ _ _ _ => (pe_op op_add (pe_bm PySem.F.plainAttrs_list PySem.F.slot_list_count PySem.F.type_list_count mt_lcount (pv 0) (pa_cons (pv 1) pa_nil)) pe_int)))))
theorem bx_l_plugs (T : Tx K mg) : Binds K T.fd_l_plugs ["_law_word_here"] [] := T.F_l_plugs.bindsN fun _ _ _ _ _ _ us hl => match us, hl with | [_], _ => rfl

theorem sc_l_great : FnScope n_l_great ["_law_store_here", "_law_most"] (defScope s_l_great) := ⟨rfl, rfl, rfl, by decide +kernel, rfl, by decide +kernel, by decide +kernel⟩
theorem ok_l_great (T : Tx K mg) : FnOk P w K mg base CX0 3 T.f_l_great T.fd_l_great ["_law_store_here", "_law_most"] (spS S_l_great) := by
  refine T.F_l_great.ok sc_l_great (len_l_great) (fun cdv A outer s H vs Q E hr h => ⟨t_l_great K, PSs.nox ?_, rd_l_great vs H Q E h⟩)
  exact (pss_cons (ps_set (i := 2) sc_l_great.nd rfl (by first | exact .inl rfl | exact .inr rfl) (pe_ix ix_seq (pe_lst (pa_cons (pv 1) (pa_cons (pe_op op_add pe_int (pe_call (ok_l_pick T) (hr.mono (by decide)) (by rfl) T.g_l_pick T.F_l_pick.kp (bx_l_pick T) .nil pass0 (pa_cons (pv 0) (pa_cons (pe_op op_sub (pv 1) pe_int) pa_nil)))) pa_nil))) (pe_call (ok_l_pick T) (hr.mono (by decide)) (by rfl) T.g_l_pick T.F_l_pick.kp (bx_l_pick T) .nil pass0 (pa_cons (pv 0) (pa_cons pe_int pa_nil))) (fun _ _ => rfl)))
    (pss_cons (ps_set (i := 3) sc_l_great.nd rfl (by first | exact .inl rfl | exact .inr rfl) (pe_call (ok_l_pick T) (hr.mono (by decide)) (by rfl) T.g_l_pick T.F_l_pick.kp (bx_l_pick T) .nil pass0 (pa_cons (pv 0) (pa_cons pe_int pa_nil))))
    (pss_cons (ps_if (pt_cmpR op_gt (pv 3) pe_int (nomark _)) (pss_one (ps_ret (pe_call (ok_l_plugs T) (hr.mono (by decide)) (by rfl) T.g_l_plugs T.F_l_plugs.kp (bx_l_plugs T) .nil pass0 (pa_cons (pe_call (ok_l_word T) (hr.mono (by decide)) (by rfl) T.g_l_word T.F_l_word.kp (bx_l_word T) .nil pass0 (pa_cons (pv 0) (pa_cons (pv 2) pa_nil))) pa_nil)))) pss_nil)
    (pss_cons (ps_par (i := 4) (j := 5) (by rfl) sc_l_great.nd rfl rfl (by decide) rfl rfl (pa_cons (pe_call (ok_l_pick T) (hr.mono (by decide)) (by rfl) T.g_l_pick T.F_l_pick.kp (bx_l_pick T) .nil pass0 (pa_cons (pv 0) (pa_cons (pv 2) pa_nil))) (pa_cons (pe_call (ok_l_pick T) (hr.mono (by decide)) (by rfl) T.g_l_pick T.F_l_pick.kp (bx_l_pick T) .nil pass0 (pa_cons (pv 0) (pa_cons (pe_op op_sub (pv 2) pe_int) pa_nil))) pa_nil)) (by rfl))
    (pss_cons (ps_set (i := 6) sc_l_great.nd rfl (by first | exact .inl rfl | exact .inr rfl) (pe_op op_rep (pe_lst (pa_cons pe_int pa_nil)) (pv 2)))
    (pss_cons (ps_for PassesOwn.never rfl (pi_range1 (by rfl) T.b_range (pa_cons (pe_ix ix_seq (pe_lst (pa_cons (pe_op op_sub (pv 2) pe_int) (pa_cons pe_int (pa_cons (pv 5) pa_nil)))) (pv 3) (fun _ _ => rfl)) pa_nil)) (pg_name (i := 7) sc_l_great.nd rfl (by first | exact .inl rfl | exact .inr rfl)) (pss_one (ps_asg pe_int (pg_sub (pv 6) (pe_op op_mod (pe_callTy cr_int1 (by rfl) T.b_int (by decide +kernel) (pa_cons (pe_op op_add (pe_op op_add (pv 4) pe_int) (pv 7)) pa_nil)) (pv 2)) set_list))))
    (pss_cons (ps_asg pe_int (pg_sub (pv 6) (pv 4) set_list))
    (pss_cons (ps_asg (pe_callB (cr_max2 rfl) (by rfl) T.b_max (by decide +kernel) (pa_cons pe_int (pa_cons (pe_op op_sub (pe_op op_sub (pe_op op_mulW pe_int (pv 2)) pe_int) (pe_callB (cr_sum rfl) (by rfl) T.b_sum (by decide +kernel) (pa_cons (pv 6) pa_nil))) pa_nil))) (pg_sub (pv 6) (pv 4) set_list))
    (pss_one (ps_ret (pv 6)))))))))))
theorem bx_l_great (T : Tx K mg) : Binds K T.fd_l_great ["_law_store_here", "_law_most"] [] := T.F_l_great.bindsN fun _ _ _ _ _ _ us hl => match us, hl with | [_, _], _ => rfl

theorem sc_l_middle : FnScope n_l_middle ["_law_store_here", "_law_most"] (defScope s_l_middle) := ⟨rfl, rfl, rfl, by decide +kernel, rfl, by decide +kernel, by decide +kernel⟩
theorem ok_l_middle (T : Tx K mg) : FnOk P w K mg base CX0 3 T.f_l_middle T.fd_l_middle ["_law_store_here", "_law_most"] (spS S_l_middle) := by
  refine T.F_l_middle.ok sc_l_middle (len_l_middle) (fun cdv A outer s H vs Q E hr h => ⟨t_l_middle K, PSs.nox ?_, rd_l_middle vs H Q E h⟩)
  exact (pss_one (ps_ret (pe_call (ok_l_plugs T) (hr.mono (by decide)) (by rfl) T.g_l_plugs T.F_l_plugs.kp (bx_l_plugs T) .nil pass0 (pa_cons (pe_call (ok_l_word T) (hr.mono (by decide)) (by rfl) T.g_l_word T.F_l_word.kp (bx_l_word T) .nil pass0 (pa_cons (pv 0) (pa_cons (pe_op op_add pe_int (pe_call (ok_l_pick T) (hr.mono (by decide)) (by rfl) T.g_l_pick T.F_l_pick.kp (bx_l_pick T) .nil pass0 (pa_cons (pv 0) (pa_cons (pe_op op_sub (pv 1) pe_int) pa_nil)))) pa_nil))) pa_nil))))
theorem bx_l_middle (T : Tx K mg) : Binds K T.fd_l_middle ["_law_store_here", "_law_most"] [] := T.F_l_middle.bindsN fun _ _ _ _ _ _ us hl => match us, hl with | [_, _], _ => rfl

theorem sc_l_fraction : FnScope n_l_fraction ["_law_top", "_law_bottom"] (defScope s_l_fraction) := ⟨rfl, rfl, rfl, by decide +kernel, rfl, by decide +kernel, by decide +kernel⟩
theorem ok_l_fraction (T : Tx K mg) : FnOk P w K mg base CX0 1 T.f_l_fraction T.fd_l_fraction ["_law_top", "_law_bottom"] (spP S_l_fraction) := by
  refine T.F_l_fraction.ok sc_l_fraction (len_l_fraction) (fun cdv A outer s H vs Q E hr h => ⟨t_l_fraction K, PSs.nox ?_, rd_l_fraction vs H Q E h⟩)
  exact (pss_cons (ps_par (i := 2) (j := 3) (by rfl) sc_l_fraction.nd rfl rfl (by decide) rfl rfl (pa_cons (pv 0) (pa_cons (pv 1) pa_nil)) (by rfl))
    (pss_cons (ps_while PassesOwn.never (pt_cmpR op_gt (pv 3) pe_int (nomark _)) (pss_one (ps_par (i := 2) (j := 3) (by rfl) sc_l_fraction.nd rfl rfl (by decide) rfl rfl (pa_cons (pv 3) (pa_cons (pe_op op_mod (pe_callTy cr_int1 (by rfl) T.b_int (by decide +kernel) (pa_cons (pv 2) pa_nil)) (pv 3)) pa_nil)) (by rfl))))
    (pss_one (ps_ret (pe_tup (pa_cons (pe_op op_fdivW (pv 0) (pv 2)) (pa_cons (pe_op op_fdivW (pv 1) (pv 2)) pa_nil)))))))
theorem bx_l_fraction (T : Tx K mg) : Binds K T.fd_l_fraction ["_law_top", "_law_bottom"] [] := T.F_l_fraction.bindsN fun _ _ _ _ _ _ us hl => match us, hl with | [_, _], _ => rfl

theorem sc_l_sum : FnScope n_l_sum ["_law_parts"] (defScope s_l_sum) := ⟨rfl, rfl, rfl, by decide +kernel, rfl, by decide +kernel, by decide +kernel⟩
theorem ok_l_sum (T : Tx K mg) : FnOk P w K mg base CX0 2 T.f_l_sum T.fd_l_sum ["_law_parts"] (spP S_l_sum) := by
  refine T.F_l_sum.ok sc_l_sum (len_l_sum) (fun cdv A outer s H vs Q E hr h => ⟨t_l_sum K, PSs.nox ?_, rd_l_sum vs H Q E h⟩)
  exact (pss_cons (ps_asg (pe_tup (pa_cons pe_int (pa_cons pe_int pa_nil))) (pg_tup (by rfl) (pgs_cons (pg_name (i := 1) sc_l_sum.nd rfl (by first | exact .inl rfl | exact .inr rfl)) (pgs_cons (pg_name (i := 2) sc_l_sum.nd rfl (by first | exact .inl rfl | exact .inr rfl)) pgs_nil))))
    (pss_cons (ps_for PassesOwn.never rfl (pi_list (pv 0)) (pg_tup (by rfl) (pgs_cons (pg_name (i := 3) sc_l_sum.nd rfl (by first | exact .inl rfl | exact .inr rfl)) (pgs_cons (pg_name (i := 4) sc_l_sum.nd rfl (by first | exact .inl rfl | exact .inr rfl)) pgs_nil))) (pss_one (ps_asg (pe_call (ok_l_fraction T) (hr.mono (by decide)) (by rfl) T.g_l_fraction T.F_l_fraction.kp (bx_l_fraction T) .nil pass0 (pa_cons (pe_op op_add (pe_op op_mulW (pv 1) (pv 4)) (pe_op op_mulW (pv 3) (pv 2))) (pa_cons (pe_op op_mulW (pv 2) (pv 4)) pa_nil))) (pg_tup (by rfl) (pgs_cons (pg_name (i := 1) sc_l_sum.nd rfl (by first | exact .inl rfl | exact .inr rfl)) (pgs_cons (pg_name (i := 2) sc_l_sum.nd rfl (by first | exact .inl rfl | exact .inr rfl)) pgs_nil))))))
    (pss_one (ps_ret (pe_tup (pa_cons (pv 1) (pa_cons (pv 2) pa_nil)))))))
theorem bx_l_sum (T : Tx K mg) : Binds K T.fd_l_sum ["_law_parts"] [] := T.F_l_sum.bindsN fun _ _ _ _ _ _ us hl => match us, hl with | [_], _ => rfl

theorem sc_l_without : FnScope n_l_without ["_law_deal", "_law_end", "_law_who"] (defScope s_l_without) := ⟨rfl, rfl, rfl, by decide +kernel, rfl, by decide +kernel, by decide +kernel⟩
theorem ok_l_without (T : Tx K mg) : FnOk P w K mg base CX0 1 T.f_l_without T.fd_l_without ["_law_deal", "_law_end", "_law_who"] (spP S_l_without) := by
  refine T.F_l_without.ok sc_l_without (len_l_without) (fun cdv A outer s H vs Q E hr h => ⟨t_l_without K, PSs.nox ?_, rd_l_without vs H Q E h⟩)
  exact (pss_cons (ps_set (i := 3) sc_l_without.nd rfl (by first | exact .inl rfl | exact .inr rfl) (pe_callTy cr_listS (by rfl) T.b_list (by decide +kernel) (pa_cons (pv 0) pa_nil)))
    (pss_cons (ps_asg (pe_op op_sub (pe_ix ix_seq (pv 3) (pv 2) (fun _ _ => rfl)) pe_int) (pg_sub (pv 3) (pv 2) set_list))
    (pss_one (ps_ret (pe_op op_cat (pe_slice sl_list (pv 3) po_none (po_some (pv 1))) (pe_slice sl_list (pv 3) (po_some (pe_op op_add (pv 1) pe_int)) po_none))))))
theorem bx_l_without (T : Tx K mg) : Binds K T.fd_l_without ["_law_deal", "_law_end", "_law_who"] [] := T.F_l_without.bindsN fun _ _ _ _ _ _ us hl => match us, hl with | [_, _, _], _ => rfl

theorem sc_l_name : FnScope n_l_name ["_law_who", "_law_end"] (defScope s_l_name) := ⟨rfl, rfl, rfl, by decide +kernel, rfl, by decide +kernel, by decide +kernel⟩
theorem ok_l_name (T : Tx K mg) : FnOk P w K mg base CX0 1 T.f_l_name T.fd_l_name ["_law_who", "_law_end"] (spP S_l_name) := by
  refine T.F_l_name.ok sc_l_name (len_l_name) (fun cdv A outer s H vs Q E hr h => ⟨t_l_name K, PSs.nox ?_, rd_l_name vs H Q E h⟩)
  exact (pss_one (ps_ret (pe_op op_sub (pv 0) (pe_callTy cr_int1 (by rfl) T.b_int (by decide +kernel) (pa_cons (pe_cmpR op_gt (pv 0) (pv 1) (nomark _)) pa_nil)))))
theorem bx_l_name (T : Tx K mg) : Binds K T.fd_l_name ["_law_who", "_law_end"] [] := T.F_l_name.bindsN fun _ _ _ _ _ _ us hl => match us, hl with | [_, _], _ => rfl

theorem sc_l_names : FnScope n_l_names ["_law_some", "_law_end"] (defScope s_l_names) := ⟨rfl, rfl, rfl, by decide +kernel, rfl, by decide +kernel, by decide +kernel⟩
theorem ok_l_names (T : Tx K mg) : FnOk P w K mg base CX0 2 T.f_l_names T.fd_l_names ["_law_some", "_law_end"] (spP S_l_names) := by
  refine T.F_l_names.ok sc_l_names (len_l_names) (fun cdv A outer s H vs Q E hr h => ⟨t_l_names K, PSs.nox ?_, rd_l_names vs H Q E h⟩)
  exact (pss_one (ps_ret (pe_lc (own := [("_law_who", 2)]) rfl sc_l_names.nd (pi_list (pv 0)) (blkOk_by (own := [("_law_who", 2)]) (by first | exact (by decide +kernel : blkC n_l_names (defScope s_l_names) _ [("_law_who", 2)] = true) | kernel_rfl)) (fun _ _ _ _ _ => (pg_name (i := 2) sc_l_names.nd rfl (by first | exact .inl rfl | exact .inr rfl))) (fun _ _ _ _ _ => pts_nil) (fun _ _ _ _ _ => (pe_call (ok_l_name T) (hr.mono (by decide)) (by rfl) T.g_l_name T.F_l_name.kp (bx_l_name T) .nil pass0 (pa_cons (pv 2) (pa_cons (pv 1) pa_nil)))))))
theorem bx_l_names (T : Tx K mg) : Binds K T.fd_l_names ["_law_some", "_law_end"] [] := T.F_l_names.bindsN fun _ _ _ _ _ _ us hl => match us, hl with | [_, _], _ => rfl

end
end PN
end

section
set_option Elab.async false
set_option linter.all false
set_option autoImplicit false
set_option maxRecDepth 100000
set_option maxHeartbeats 4000000
namespace PN
open PySem PySem.Spec PyProof.Rows L2 DL
section
variable {P : Program} {w : World} {K : PySem.W.Frag} {mg : Str → Option Value} {base : Heap}
theorem sc_l_mixed : FnScope n_l_mixed ["_law_shares_here", "_law_rows"] (defScope s_l_mixed) := ⟨rfl, rfl, rfl, by decide +kernel, rfl, by decide +kernel, by decide +kernel⟩
theorem ok_l_mixed (T : Tx K mg) : FnOk P w K mg base CX0 3 T.f_l_mixed T.fd_l_mixed ["_law_shares_here", "_law_rows"] (spP S_l_mixed) := by
  refine T.F_l_mixed.ok sc_l_mixed (len_l_mixed) (fun cdv A outer s H vs Q E hr h => ⟨t_l_mixed K, PSs.nox ?_, rd_l_mixed vs H Q E h⟩)
  exact (pss_cons (ps_set (i := 2) sc_l_mixed.nd rfl (by first | exact .inl rfl | exact .inr rfl) pe_dnewK)
    (pss_cons (ps_for PassesOwn.never rfl (pi_zip (by rfl) T.b_zip (pa_cons (pv 0) (pa_cons (pv 1) pa_nil))) (pg_tup (by rfl) (pgs_cons (pg_name (i := 3) sc_l_mixed.nd rfl (by first | exact .inl rfl | exact .inr rfl)) (pgs_cons (pg_name (i := 4) sc_l_mixed.nd rfl (by first | exact .inl rfl | exact .inr rfl)) pgs_nil))) (pss_one (ps_for PassesOwn.never rfl (pi_list (pv 4)) (pg_tup (by rfl) (pgs_cons (pg_name (i := 5) sc_l_mixed.nd rfl (by first | exact .inl rfl | exact .inr rfl)) (pgs_cons (pg_name (i := 6) sc_l_mixed.nd rfl (by first | exact .inl rfl | exact .inr rfl)) (pgs_cons (pg_name (i := 7) sc_l_mixed.nd rfl (by first | exact .inl rfl | exact .inr rfl)) pgs_nil)))) (pss_one (ps_dput (hu_of hr) (pv 2) (pv 5) (pe_op op_cat (pe_dget2 (hu_of hr) (pv 2) (pv 5) (pe_lst pa_nil) ⟨rfl, rfl, rfl, rfl⟩) (pe_lst (pa_cons (pe_tup (pa_cons (pe_op op_mulW (pv 6) (pe_ix ix_seq (pv 3) pe_int (fun _ _ => rfl))) (pa_cons (pe_op op_mulW (pv 7) (pe_ix ix_seq (pv 3) pe_int (fun _ _ => rfl))) pa_nil))) pa_nil))) (by rfl))))))
    (pss_cons (ps_set (i := 8) sc_l_mixed.nd rfl (by first | exact .inl rfl | exact .inr rfl) (pe_lst pa_nil))
    (pss_cons (ps_for PassesOwn.never rfl (pi_list (pe_callB (cr_sortedDI rfl) (by rfl) T.b_sorted (by decide +kernel) (pa_cons (pv 2) pa_nil))) (pg_name (i := 5) sc_l_mixed.nd rfl (by first | exact .inl rfl | exact .inr rfl)) (pss_cons (ps_set (i := 9) sc_l_mixed.nd rfl (by first | exact .inl rfl | exact .inr rfl) (pe_call (ok_l_sum T) (hr.mono (by decide)) (by rfl) T.g_l_sum T.F_l_sum.kp (bx_l_sum T) .nil pass0 (pa_cons (pe_dget (hu_of hr) (pv 2) (pv 5) (fun _ _ => rfl)) pa_nil)))
    (pss_one (ps_expr (pe_bm PySem.F.plainAttrs_list PySem.F.slot_list_append PySem.F.type_list_append mt_append (pv 8) (pa_cons (pe_tup (pa_cons (pv 5) (pa_cons (pe_ix ix_seq (pv 9) pe_int (fun _ _ => rfl)) (pa_cons (pe_ix ix_seq (pv 9) pe_int (fun _ _ => rfl)) pa_nil)))) pa_nil))))))
    (pss_one (ps_ret (pv 8)))))))
theorem bx_l_mixed (T : Tx K mg) : Binds K T.fd_l_mixed ["_law_shares_here", "_law_rows"] [] := T.F_l_mixed.bindsN fun _ _ _ _ _ _ us hl => match us, hl with | [_, _], _ => rfl

theorem sc_l_weighed : FnScope n_l_weighed ["_law_shares_here", "_law_parts"] (defScope s_l_weighed) := ⟨rfl, rfl, rfl, by decide +kernel, rfl, by decide +kernel, by decide +kernel⟩
theorem ok_l_weighed (T : Tx K mg) : FnOk P w K mg base CX0 3 T.f_l_weighed T.fd_l_weighed ["_law_shares_here", "_law_parts"] (spP S_l_weighed) := by
  refine T.F_l_weighed.ok sc_l_weighed (len_l_weighed) (fun cdv A outer s H vs Q E hr h => ⟨t_l_weighed K, PSs.nox ?_, rd_l_weighed vs H Q E h⟩)
  exact (pss_one (ps_ret (pe_call (ok_l_sum T) (hr.mono (by decide)) (by rfl) T.g_l_sum T.F_l_sum.kp (bx_l_sum T) .nil pass0 (pa_cons (pe_op op_cat (pe_lst (pa_cons (pe_tup (pa_cons pe_int (pa_cons pe_int pa_nil))) pa_nil)) (pe_lc (own := [("_law_one", 2), ("_law_two", 3)]) rfl sc_l_weighed.nd (pi_zip (by rfl) T.b_zip (pa_cons (pv 0) (pa_cons (pv 1) pa_nil))) (blkOk_by (own := [("_law_one", 2), ("_law_two", 3)]) (by first | exact (by decide +kernel : blkC n_l_weighed (defScope s_l_weighed) _ [("_law_one", 2), ("_law_two", 3)] = true) | kernel_rfl)) (fun _ _ _ _ _ => (pg_tup (by rfl) (pgs_cons (pg_name (i := 2) sc_l_weighed.nd rfl (by first | exact .inl rfl | exact .inr rfl)) (pgs_cons (pg_name (i := 3) sc_l_weighed.nd rfl (by first | exact .inl rfl | exact .inr rfl)) pgs_nil)))) (fun _ _ _ _ _ => pts_nil) (fun _ _ _ _ _ => (pe_tup (pa_cons (pe_op op_mulW (pe_ix ix_seq (pv 2) pe_int (fun _ _ => rfl)) (pe_ix ix_seq (pv 3) pe_int (fun _ _ => rfl))) (pa_cons (pe_op op_mulW (pe_ix ix_seq (pv 2) pe_int (fun _ _ => rfl)) (pe_ix ix_seq (pv 3) pe_int (fun _ _ => rfl))) pa_nil)))))) pa_nil))))
theorem bx_l_weighed (T : Tx K mg) : Binds K T.fd_l_weighed ["_law_shares_here", "_law_parts"] [] := T.F_l_weighed.bindsN fun _ _ _ _ _ _ us hl => match us, hl with | [_, _], _ => rfl

theorem sc_l_group_right : FnScope n_l_group_right ["_law_deal", "_law_end", "_law_hosts", "_law_lesser", "_law_shares_here", "_law_some"] (defScope s_l_group_right) := ⟨rfl, rfl, rfl, by decide +kernel, rfl, by decide +kernel, by decide +kernel⟩
theorem ok_l_group_right (T : Tx K mg) : FnOk P w K mg base CX0 7 T.f_l_group_right T.fd_l_group_right ["_law_deal", "_law_end", "_law_hosts", "_law_lesser", "_law_shares_here", "_law_some"] (spP S_l_group_right) := by
  refine T.F_l_group_right.ok sc_l_group_right (len_l_group_right) (fun cdv A outer s H vs Q E hr h => ⟨t_l_group_right K, PSs.nox ?_, rd_l_group_right vs H Q E h⟩)
  exact (pss_cons (ps_set (i := 6) sc_l_group_right.nd rfl (by first | exact .inl rfl | exact .inr rfl) (pe_call (ok_l_names T) (hr.mono (by decide)) (by rfl) T.g_l_names T.F_l_names.kp (bx_l_names T) .nil pass0 (pa_cons (pv 5) (pa_cons (pv 1) pa_nil))))
    (pss_cons (ps_if (pt_cmpR (op_neD hr.units) (pe_call (ok_within_shares T) (hr.mono (by decide)) (by rfl) T.g_within_shares T.F_within_shares.kp (bx_within_shares T) .nil pass0 (pa_cons (pv 0) (pa_cons (pv 5) pa_nil))) (pe_call (ok_l_mixed T) (hr.mono (by decide)) (by rfl) T.g_l_mixed T.F_l_mixed.kp (bx_l_mixed T) .nil pass0 (pa_cons (pv 4) (pa_cons (pe_lc (own := [("_law_one_here", 9)]) rfl sc_l_group_right.nd (pi_list (pv 3)) (blkOk_by (own := [("_law_one_here", 9)]) (by first | exact (by decide +kernel : blkC n_l_group_right (defScope s_l_group_right) _ [("_law_one_here", 9)] = true) | kernel_rfl)) (fun _ _ _ _ _ => (pg_name (i := 9) sc_l_group_right.nd rfl (by first | exact .inl rfl | exact .inr rfl))) (fun _ _ _ _ _ => pts_nil) (fun _ _ _ _ _ => (pe_call (ok_within_shares T) (hr.mono (by decide)) (by rfl) T.g_within_shares T.F_within_shares.kp (bx_within_shares T) .nil pass0 (pa_cons (pv 9) (pa_cons (pv 6) pa_nil))))) pa_nil))) (nomark _)) (pss_one (ps_ret pe_bl)) pss_nil)
    (pss_cons (ps_setLc (i := 7) (own := [("_law_one_here", 9)]) rfl sc_l_group_right.nd rfl rfl (sw_true rfl rfl rfl (by decide +kernel)) (pi_list (pv 3)) (blkOk_by (own := [("_law_one_here", 9)]) (by first | exact (by decide +kernel : blkC n_l_group_right (defScope s_l_group_right) _ [("_law_one_here", 9)] = true) | kernel_rfl)) (fun _ _ _ _ _ => (pg_name (i := 9) sc_l_group_right.nd rfl (by first | exact .inl rfl | exact .inr rfl))) (fun _ _ _ _ _ => pts_nil) (fun _ _ _ _ _ => (pe_call (ok_together_share T) (hr.mono (by decide)) (by rfl) T.g_together_share T.F_together_share.kp (bx_together_share T) .nil pass0 (pa_cons (pv 9) (pa_cons (pv 6) pa_nil)))))
    (pss_cons (ps_if (pt_cmpR (op_neD hr.units) (pe_call (ok_together_share T) (hr.mono (by decide)) (by rfl) T.g_together_share T.F_together_share.kp (bx_together_share T) .nil pass0 (pa_cons (pv 0) (pa_cons (pv 5) pa_nil))) (pe_call (ok_l_weighed T) (hr.mono (by decide)) (by rfl) T.g_l_weighed T.F_l_weighed.kp (bx_l_weighed T) .nil pass0 (pa_cons (pv 4) (pa_cons (pv 7) pa_nil))) (nomark _)) (pss_one (ps_ret pe_bl)) pss_nil)
    (pss_cons (ps_set (i := 7) sc_l_group_right.nd rfl (by first | exact .inl rfl | exact .inr rfl) (pe_lst pa_nil))
    (pss_cons (ps_for PassesOwn.never rfl (pi_zip (by rfl) T.b_zip (pa_cons (pv 2) (pa_cons (pv 3) pa_nil))) (pg_tup (by rfl) (pgs_cons (pg_name (i := 8) sc_l_group_right.nd rfl (by first | exact .inl rfl | exact .inr rfl)) (pgs_cons (pg_name (i := 9) sc_l_group_right.nd rfl (by first | exact .inl rfl | exact .inr rfl)) pgs_nil))) (pss_one (ps_expr (pe_bm PySem.F.plainAttrs_list PySem.F.slot_list_append PySem.F.type_list_append mt_append (pv 7) (pa_cons (pe_ifExp (pt_cmpR op_in_seq (pv 8) (pv 5) (by rfl)) (pe_tup (pa_cons pe_int (pa_cons pe_int pa_nil))) (pe_call (ok_side_share T) (hr.mono (by decide)) (by rfl) T.g_side_share T.F_side_share.kp (bx_side_share T) .nil pass0 (pa_cons (pv 9) (pa_cons (pv 6) pa_nil)))) pa_nil)))))
    (pss_cons (ps_set (i := 10) sc_l_group_right.nd rfl (by first | exact .inl rfl | exact .inr rfl) (pe_ifExp (pt_cmpR (op_eqD hr.units) (pe_callB cr_lenS (by rfl) T.b_len (by decide +kernel) (pa_cons (pv 5) pa_nil)) (pe_op op_sub (pe_callB cr_lenS (by rfl) T.b_len (by decide +kernel) (pa_cons (pv 0) pa_nil)) pe_int) (nomark _)) (pe_tup (pa_cons pe_int (pa_cons pe_int pa_nil))) (pe_call (ok_l_weighed T) (hr.mono (by decide)) (by rfl) T.g_l_weighed T.F_l_weighed.kp (bx_l_weighed T) .nil pass0 (pa_cons (pv 4) (pa_cons (pv 7) pa_nil)))))
    (pss_cons (ps_if (pt_cmpR (op_neD hr.units) (pe_call (ok_side_share T) (hr.mono (by decide)) (by rfl) T.g_side_share T.F_side_share.kp (bx_side_share T) .nil pass0 (pa_cons (pv 0) (pa_cons (pv 5) pa_nil))) (pv 10) (nomark _)) (pss_one (ps_ret pe_bl)) pss_nil)
    (pss_cons (ps_set (i := 7) sc_l_group_right.nd rfl (by first | exact .inl rfl | exact .inr rfl) (pe_lst pa_nil))
    (pss_cons (ps_for PassesOwn.never rfl (pi_zip (by rfl) T.b_zip (pa_cons (pv 2) (pa_cons (pv 3) pa_nil))) (pg_tup (by rfl) (pgs_cons (pg_name (i := 8) sc_l_group_right.nd rfl (by first | exact .inl rfl | exact .inr rfl)) (pgs_cons (pg_name (i := 9) sc_l_group_right.nd rfl (by first | exact .inl rfl | exact .inr rfl)) pgs_nil))) (pss_one (ps_expr (pe_bm PySem.F.plainAttrs_list PySem.F.slot_list_append PySem.F.type_list_append mt_append (pv 7) (pa_cons (pe_ifExp (pt_cmpR op_in_seq (pv 8) (pv 5) (by rfl)) (pe_call (ok_side_share T) (hr.mono (by decide)) (by rfl) T.g_side_share T.F_side_share.kp (bx_side_share T) .nil pass0 (pa_cons (pv 9) (pa_cons (pv 6) pa_nil))) (pe_tup (pa_cons pe_int (pa_cons pe_int pa_nil)))) pa_nil)))))
    (pss_one (ps_ret (pe_cmpR (op_eqD hr.units) (pe_call (ok_side_share T) (hr.mono (by decide)) (by rfl) T.g_side_share T.F_side_share.kp (bx_side_share T) .nil pass0 (pa_cons (pv 0) (pa_cons (pe_callB cr_sortedI (by rfl) T.b_sorted (by decide +kernel) (pa_cons (pe_op op_cat (pv 5) (pe_lst (pa_cons (pv 1) pa_nil))) pa_nil)) pa_nil))) (pe_call (ok_l_weighed T) (hr.mono (by decide)) (by rfl) T.g_l_weighed T.F_l_weighed.kp (bx_l_weighed T) .nil pass0 (pa_cons (pv 4) (pa_cons (pv 7) pa_nil))) (nomark _))))))))))))))
theorem bx_l_group_right (T : Tx K mg) : Binds K T.fd_l_group_right ["_law_deal", "_law_end", "_law_hosts", "_law_lesser", "_law_shares_here", "_law_some"] [] := T.F_l_group_right.bindsN fun _ _ _ _ _ _ us hl => match us, hl with | [_, _, _, _, _, _], _ => rfl

theorem sc_l_around_right : FnScope n_l_around_right ["_law_deal", "_law_end", "_law_hosts", "_law_lesser"] (defScope s_l_around_right) := ⟨rfl, rfl, rfl, by decide +kernel, rfl, by decide +kernel, by decide +kernel⟩
theorem ok_l_around_right (T : Tx K mg) : FnOk P w K mg base CX0 7 T.f_l_around_right T.fd_l_around_right ["_law_deal", "_law_end", "_law_hosts", "_law_lesser"] (spP S_l_around_right) := by
  refine T.F_l_around_right.ok sc_l_around_right (len_l_around_right) (fun cdv A outer s H vs Q E hr h => ⟨t_l_around_right K, PSs.nox ?_, rd_l_around_right vs H Q E h⟩)
  exact (pss_cons (ps_set (i := 4) sc_l_around_right.nd rfl (by first | exact .inl rfl | exact .inr rfl) (pe_ix ix_seq (pv 2) pe_int (fun _ _ => rfl)))
    (pss_cons (ps_par (i := 5) (j := 6) (by rfl) sc_l_around_right.nd rfl rfl (by decide) rfl rfl (pa_cons (pe_ix ix_seq (pv 3) pe_int (fun _ _ => rfl)) (pa_cons (pe_lc (own := [("_law_other", 12)]) rfl sc_l_around_right.nd (pi_range1 (by rfl) T.b_range (pa_cons (pe_callB cr_lenS (by rfl) T.b_len (by decide +kernel) (pa_cons (pv 0) pa_nil)) pa_nil)) (blkOk_by (own := [("_law_other", 12)]) (by first | exact (by decide +kernel : blkC n_l_around_right (defScope s_l_around_right) _ [("_law_other", 12)] = true) | kernel_rfl)) (fun _ _ _ _ _ => (pg_name (i := 12) sc_l_around_right.nd rfl (by first | exact .inl rfl | exact .inr rfl))) (fun _ _ _ _ _ => (pts_one (pt_cmpR op_notIn_seq (pv 12) (pe_tup (pa_cons (pv 4) (pa_cons (pv 1) pa_nil))) (by rfl)))) (fun _ _ _ _ _ => (pv 12))) pa_nil)) (by rfl))
    (pss_cons (ps_set (i := 7) sc_l_around_right.nd rfl (by first | exact .inl rfl | exact .inr rfl) (pe_call (ok_cable_share T) (hr.mono (by decide)) (by rfl) T.g_cable_share T.F_cable_share.kp (bx_cable_share T) .nil pass0 (pa_cons (pv 0) (pa_cons (pv 4) (pa_cons (pv 1) pa_nil)))))
    (pss_cons (ps_for PassesOwn.never rfl (pi_range1 (by rfl) T.b_range (pa_cons pe_int pa_nil)) (pg_name (i := 8) sc_l_around_right.nd rfl (by first | exact .inl rfl | exact .inr rfl)) (pss_cons (ps_set (i := 9) sc_l_around_right.nd rfl (by first | exact .inl rfl | exact .inr rfl) (pe_slice sl_list (pv 6) (po_some (pv 8)) (po_some (pe_op op_sub (pe_op op_add (pv 8) (pe_ix ix_seq (pv 0) (pv 4) (fun _ _ => rfl))) pe_int))))
    (pss_one (ps_if (pt_cmpR (op_eqD hr.units) (pe_callB cr_lenS (by rfl) T.b_len (by decide +kernel) (pa_cons (pv 9) pa_nil)) (pe_op op_sub (pe_ix ix_seq (pv 0) (pv 4) (fun _ _ => rfl)) pe_int) (nomark _)) (pss_cons (ps_set (i := 10) sc_l_around_right.nd rfl (by first | exact .inl rfl | exact .inr rfl) (pe_call (ok_around_share T) (hr.mono (by decide)) (by rfl) T.g_around_share T.F_around_share.kp (bx_around_share T) .nil pass0 (pa_cons (pv 5) (pa_cons (pe_call (ok_l_name T) (hr.mono (by decide)) (by rfl) T.g_l_name T.F_l_name.kp (bx_l_name T) .nil pass0 (pa_cons (pv 4) (pa_cons (pv 1) pa_nil))) (pa_cons (pe_call (ok_l_names T) (hr.mono (by decide)) (by rfl) T.g_l_names T.F_l_names.kp (bx_l_names T) .nil pass0 (pa_cons (pv 9) (pa_cons (pv 1) pa_nil))) pa_nil)))))
    (pss_cons (ps_set (i := 11) sc_l_around_right.nd rfl (by first | exact .inl rfl | exact .inr rfl) (pe_call (ok_l_fraction T) (hr.mono (by decide)) (by rfl) T.g_l_fraction T.F_l_fraction.kp (bx_l_fraction T) .nil pass0 (pa_cons (pe_op op_mulW (pe_ix ix_seq (pv 7) pe_int (fun _ _ => rfl)) (pe_ix ix_seq (pv 10) pe_int (fun _ _ => rfl))) (pa_cons (pe_op op_mulW (pe_ix ix_seq (pv 7) pe_int (fun _ _ => rfl)) (pe_ix ix_seq (pv 10) pe_int (fun _ _ => rfl))) pa_nil))))
    (pss_one (ps_if (pt_cmpR (op_neD hr.units) (pe_call (ok_around_share T) (hr.mono (by decide)) (by rfl) T.g_around_share T.F_around_share.kp (bx_around_share T) .nil pass0 (pa_cons (pv 0) (pa_cons (pv 4) (pa_cons (pe_callB cr_sortedI (by rfl) T.b_sorted (by decide +kernel) (pa_cons (pe_op op_cat (pv 9) (pe_lst (pa_cons (pv 1) pa_nil))) pa_nil)) pa_nil)))) (pv 11) (nomark _)) (pss_one (ps_ret pe_bl)) pss_nil)))) pss_nil))))
    (pss_one (ps_ret pe_bl))))))
theorem bx_l_around_right (T : Tx K mg) : Binds K T.fd_l_around_right ["_law_deal", "_law_end", "_law_hosts", "_law_lesser"] [] := T.F_l_around_right.bindsN fun _ _ _ _ _ _ us hl => match us, hl with | [_, _, _, _], _ => rfl

theorem sc_l_right : FnScope n_l_right ["_law_store_here", "_law_deal"] (defScope s_l_right) := ⟨rfl, rfl, rfl, by decide +kernel, rfl, by decide +kernel, by decide +kernel⟩
theorem ok_l_right (T : Tx K mg) : FnOk P w K mg base CX0 8 T.f_l_right T.fd_l_right ["_law_store_here", "_law_deal"] (spS S_l_right) := by
  refine T.F_l_right.ok sc_l_right (len_l_right) (fun cdv A outer s H vs Q E hr h => ⟨t_l_right K w, PSs.nox ?_, rd_l_right w vs H Q E h⟩)
  exact (pss_cons (ps_set (i := 2) sc_l_right.nd rfl (by first | exact .inl rfl | exact .inr rfl) (pe_callB cr_lenS (by rfl) T.b_len (by decide +kernel) (pa_cons (pv 1) pa_nil)))
    (pss_cons (ps_setLc (i := 3) (own := [("_law_who", 14)]) rfl sc_l_right.nd rfl rfl (sw_true rfl rfl rfl (by decide +kernel)) (pi_range1 (by rfl) T.b_range (pa_cons (pv 2) pa_nil)) (blkOk_by (own := [("_law_who", 14)]) (by first | exact (by decide +kernel : blkC n_l_right (defScope s_l_right) _ [("_law_who", 14)] = true) | kernel_rfl)) (fun _ _ _ _ _ => (pg_name (i := 14) sc_l_right.nd rfl (by first | exact .inl rfl | exact .inr rfl))) (fun _ _ _ _ _ => (pts_one (pt_cmpR (op_eqD hr.units) (pe_ix ix_seq (pv 1) (pv 14) (fun _ _ => rfl)) pe_int (nomark _)))) (fun _ _ _ _ _ => (pv 14)))
    (pss_cons (ps_set (i := 4) sc_l_right.nd rfl (by first | exact .inl rfl | exact .inr rfl) (pe_ix ix_seq (pv 3) (pe_call (ok_l_pick T) (hr.mono (by decide)) (by rfl) T.g_l_pick T.F_l_pick.kp (bx_l_pick T) .nil pass0 (pa_cons (pv 0) (pa_cons (pe_callB cr_lenS (by rfl) T.b_len (by decide +kernel) (pa_cons (pv 3) pa_nil)) pa_nil))) (fun _ _ => rfl)))
    (pss_cons (ps_setLc (i := 5) (own := [("_law_who", 14)]) rfl sc_l_right.nd rfl rfl (sw_true rfl rfl rfl (by decide +kernel)) (pi_range1 (by rfl) T.b_range (pa_cons (pv 2) pa_nil)) (blkOk_by (own := [("_law_who", 14)]) (by first | exact (by decide +kernel : blkC n_l_right (defScope s_l_right) _ [("_law_who", 14)] = true) | kernel_rfl)) (fun _ _ _ _ _ => (pg_name (i := 14) sc_l_right.nd rfl (by first | exact .inl rfl | exact .inr rfl))) (fun _ _ _ _ _ => (pts_one (pt_cmpR op_gt (pe_ix ix_seq (pe_call (ok_cable_share T) (hr.mono (by decide)) (by rfl) T.g_cable_share T.F_cable_share.kp (bx_cable_share T) .nil pass0 (pa_cons (pv 1) (pa_cons (pv 4) (pa_cons (pv 14) pa_nil)))) pe_int (fun _ _ => rfl)) pe_int (nomark _)))) (fun _ _ _ _ _ => (pv 14)))
    (pss_cons (ps_setLc (i := 6) (own := [("_law_who", 14)]) rfl sc_l_right.nd rfl rfl (sw_true rfl rfl rfl (by decide +kernel)) (pi_list (pv 5)) (blkOk_by (own := [("_law_who", 14)]) (by first | exact (by decide +kernel : blkC n_l_right (defScope s_l_right) _ [("_law_who", 14)] = true) | kernel_rfl)) (fun _ _ _ _ _ => (pg_name (i := 14) sc_l_right.nd rfl (by first | exact .inl rfl | exact .inr rfl))) (fun _ _ _ _ _ => pts_nil) (fun _ _ _ _ _ => (pe_call (ok_l_without T) (hr.mono (by decide)) (by rfl) T.g_l_without T.F_l_without.kp (bx_l_without T) .nil pass0 (pa_cons (pv 1) (pa_cons (pv 4) (pa_cons (pv 14) pa_nil))))))
    (pss_cons (ps_setLc (i := 7) (own := [("_law_who", 14)]) rfl sc_l_right.nd rfl rfl (sw_true rfl rfl rfl (by decide +kernel)) (pi_list (pv 5)) (blkOk_by (own := [("_law_who", 14)]) (by first | exact (by decide +kernel : blkC n_l_right (defScope s_l_right) _ [("_law_who", 14)] = true) | kernel_rfl)) (fun _ _ _ _ _ => (pg_name (i := 14) sc_l_right.nd rfl (by first | exact .inl rfl | exact .inr rfl))) (fun _ _ _ _ _ => pts_nil) (fun _ _ _ _ _ => (pe_call (ok_cable_share T) (hr.mono (by decide)) (by rfl) T.g_cable_share T.F_cable_share.kp (bx_cable_share T) .nil pass0 (pa_cons (pv 1) (pa_cons (pv 4) (pa_cons (pv 14) pa_nil))))))
    (pss_cons (ps_if (pt_cmpR (op_neD hr.units) (pe_callB (cr_sum rfl) (by rfl) T.b_sum (by decide +kernel) (pa_cons (pe_lc (own := [("_law_one_here", 15)]) rfl sc_l_right.nd (pi_list (pv 6)) (blkOk_by (own := [("_law_one_here", 15)]) (by first | exact (by decide +kernel : blkC n_l_right (defScope s_l_right) _ [("_law_one_here", 15)] = true) | kernel_rfl)) (fun _ _ _ _ _ => (pg_name (i := 15) sc_l_right.nd rfl (by first | exact .inl rfl | exact .inr rfl))) (fun _ _ _ _ _ => pts_nil) (fun _ _ _ _ _ => (pe_call (ok_count_nets T) (hr.mono (by decide)) (by rfl) T.g_count_nets T.F_count_nets.kp (bx_count_nets T) .nil pass0 (pa_cons (pv 15) pa_nil)))) pa_nil)) (pe_call (ok_count_nets T) (hr.mono (by decide)) (by rfl) T.g_count_nets T.F_count_nets.kp (bx_count_nets T) .nil pass0 (pa_cons (pv 1) pa_nil)) (nomark _)) (pss_one (ps_ret pe_bl)) pss_nil)
    (pss_cons (ps_set (i := 8) sc_l_right.nd rfl (by first | exact .inl rfl | exact .inr rfl) (pe_lc (own := [("_law_who", 14)]) rfl sc_l_right.nd (pi_range1 (by rfl) T.b_range (pa_cons (pv 2) pa_nil)) (blkOk_by (own := [("_law_who", 14)]) (by first | exact (by decide +kernel : blkC n_l_right (defScope s_l_right) _ [("_law_who", 14)] = true) | kernel_rfl)) (fun _ _ _ _ _ => (pg_name (i := 14) sc_l_right.nd rfl (by first | exact .inl rfl | exact .inr rfl))) (fun _ _ _ _ _ => (pts_one (pt_cmpR (op_neD hr.units) (pv 14) (pv 4) (nomark _)))) (fun _ _ _ _ _ => (pv 14))))
    (pss_cons (ps_asg (pe_tup (pa_cons (pe_ix ix_seq (pv 8) (pe_call (ok_l_pick T) (hr.mono (by decide)) (by rfl) T.g_l_pick T.F_l_pick.kp (bx_l_pick T) .nil pass0 (pa_cons (pv 0) (pa_cons (pe_op op_sub (pv 2) pe_int) pa_nil))) (fun _ _ => rfl)) (pa_cons (pe_ix ix_seq (pv 8) (pe_call (ok_l_pick T) (hr.mono (by decide)) (by rfl) T.g_l_pick T.F_l_pick.kp (bx_l_pick T) .nil pass0 (pa_cons (pv 0) (pa_cons (pe_op op_sub (pv 2) pe_int) pa_nil))) (fun _ _ => rfl)) pa_nil))) (pg_tup (by rfl) (pgs_cons (pg_name (i := 9) sc_l_right.nd rfl (by first | exact .inl rfl | exact .inr rfl)) (pgs_cons (pg_name (i := 10) sc_l_right.nd rfl (by first | exact .inl rfl | exact .inr rfl)) pgs_nil))))
    (pss_cons (ps_setLc (i := 11) (own := [("_law_one_here", 15)]) rfl sc_l_right.nd rfl rfl (sw_true rfl rfl rfl (by decide +kernel)) (pi_list (pv 6)) (blkOk_by (own := [("_law_one_here", 15)]) (by first | exact (by decide +kernel : blkC n_l_right (defScope s_l_right) _ [("_law_one_here", 15)] = true) | kernel_rfl)) (fun _ _ _ _ _ => (pg_name (i := 15) sc_l_right.nd rfl (by first | exact .inl rfl | exact .inr rfl))) (fun _ _ _ _ _ => pts_nil) (fun _ _ _ _ _ => (pe_call (ok_step_shares T) (hr.mono (by decide)) (by rfl) T.g_step_shares T.F_step_shares.kp (bx_step_shares T) .nil pass0 (pa_cons (pv 15) (pa_cons (pe_call (ok_l_name T) (hr.mono (by decide)) (by rfl) T.g_l_name T.F_l_name.kp (bx_l_name T) .nil pass0 (pa_cons (pv 9) (pa_cons (pv 4) pa_nil))) (pa_cons (pe_call (ok_l_name T) (hr.mono (by decide)) (by rfl) T.g_l_name T.F_l_name.kp (bx_l_name T) .nil pass0 (pa_cons (pv 10) (pa_cons (pv 4) pa_nil))) pa_nil))))))
    (pss_cons (ps_if (pt_cmpR (op_neD hr.units) (pe_call (ok_step_shares T) (hr.mono (by decide)) (by rfl) T.g_step_shares T.F_step_shares.kp (bx_step_shares T) .nil pass0 (pa_cons (pv 1) (pa_cons (pv 9) (pa_cons (pv 10) pa_nil)))) (pe_call (ok_l_mixed T) (hr.mono (by decide)) (by rfl) T.g_l_mixed T.F_l_mixed.kp (bx_l_mixed T) .nil pass0 (pa_cons (pv 7) (pa_cons (pv 11) pa_nil))) (nomark _)) (pss_one (ps_ret pe_bl)) pss_nil)
    (pss_cons (ps_setLc (i := 11) (own := [("_law_one_here", 15), ("_law_who", 14)]) rfl sc_l_right.nd rfl rfl (sw_true rfl rfl rfl (by decide +kernel)) (pi_zip (by rfl) T.b_zip (pa_cons (pv 6) (pa_cons (pv 5) pa_nil))) (blkOk_by (own := [("_law_one_here", 15), ("_law_who", 14)]) (by first | exact (by decide +kernel : blkC n_l_right (defScope s_l_right) _ [("_law_one_here", 15), ("_law_who", 14)] = true) | kernel_rfl)) (fun _ _ _ _ _ => (pg_tup (by rfl) (pgs_cons (pg_name (i := 15) sc_l_right.nd rfl (by first | exact .inl rfl | exact .inr rfl)) (pgs_cons (pg_name (i := 14) sc_l_right.nd rfl (by first | exact .inl rfl | exact .inr rfl)) pgs_nil)))) (fun _ _ _ _ _ => pts_nil) (fun _ _ _ _ _ => (pe_call (ok_step_shares T) (hr.mono (by decide)) (by rfl) T.g_step_shares T.F_step_shares.kp (bx_step_shares T) .nil pass0 (pa_cons (pv 15) (pa_cons (pe_call (ok_l_name T) (hr.mono (by decide)) (by rfl) T.g_l_name T.F_l_name.kp (bx_l_name T) .nil pass0 (pa_cons (pv 9) (pa_cons (pv 4) pa_nil))) (pa_cons (pe_call (ok_l_name T) (hr.mono (by decide)) (by rfl) T.g_l_name T.F_l_name.kp (bx_l_name T) .nil pass0 (pa_cons (pv 14) (pa_cons (pv 4) pa_nil))) pa_nil))))))
    (pss_cons (ps_setLc (i := 12) (own := [("_law_row", 16)]) rfl sc_l_right.nd rfl rfl (sw_true rfl rfl rfl (by decide +kernel)) (pi_list (pv 11)) (blkOk_by (own := [("_law_row", 16)]) (by first | exact (by decide +kernel : blkC n_l_right (defScope s_l_right) _ [("_law_row", 16)] = true) | kernel_rfl)) (fun _ _ _ _ _ => (pg_name (i := 16) sc_l_right.nd rfl (by first | exact .inl rfl | exact .inr rfl))) (fun _ _ _ _ _ => pts_nil) (fun _ _ _ _ _ => (pe_lc (own := [("_law_far", 17), ("_law_top", 18), ("_law_bottom", 19)]) rfl sc_l_right.nd (pi_list (pv 16)) (blkOk_by (own := [("_law_far", 17), ("_law_top", 18), ("_law_bottom", 19)]) (by first | exact (by decide +kernel : blkC n_l_right (defScope s_l_right) _ [("_law_far", 17), ("_law_top", 18), ("_law_bottom", 19)] = true) | kernel_rfl)) (fun _ _ _ _ _ => (pg_tup (by rfl) (pgs_cons (pg_name (i := 17) sc_l_right.nd rfl (by first | exact .inl rfl | exact .inr rfl)) (pgs_cons (pg_name (i := 18) sc_l_right.nd rfl (by first | exact .inl rfl | exact .inr rfl)) (pgs_cons (pg_name (i := 19) sc_l_right.nd rfl (by first | exact .inl rfl | exact .inr rfl)) pgs_nil))))) (fun _ _ _ _ _ => pts_nil) (fun _ _ _ _ _ => (pe_tup (pa_cons (pe_op op_add (pv 17) pe_int) (pa_cons (pv 18) (pa_cons (pv 19) pa_nil))))))))
    (pss_cons (ps_if (pt_cmpR (op_neD hr.units) (pe_call (ok_step_shares T) (hr.mono (by decide)) (by rfl) T.g_step_shares T.F_step_shares.kp (bx_step_shares T) .nil pass0 (pa_cons (pv 1) (pa_cons (pv 9) (pa_cons (pv 4) pa_nil)))) (pe_call (ok_l_mixed T) (hr.mono (by decide)) (by rfl) T.g_l_mixed T.F_l_mixed.kp (bx_l_mixed T) .nil pass0 (pa_cons (pv 7) (pa_cons (pv 12) pa_nil))) (nomark _)) (pss_one (ps_ret pe_bl)) pss_nil)
    (pss_cons (ps_set (i := 13) sc_l_right.nd rfl (by first | exact .inl rfl | exact .inr rfl) (pe_callB (cr_sortedSet rfl) (by rfl) T.b_sorted (by decide +kernel) (pa_cons (pe_callTy (cr_setL rfl) (by rfl) T.b_set (by decide +kernel) (pa_cons (pe_lc (own := [("_law_turn", 20)]) rfl sc_l_right.nd (pi_range1 (by rfl) T.b_range (pa_cons (pe_op op_add pe_int (pe_call (ok_l_pick T) (hr.mono (by decide)) (by rfl) T.g_l_pick T.F_l_pick.kp (bx_l_pick T) .nil pass0 (pa_cons (pv 0) (pa_cons (pv 2) pa_nil)))) pa_nil)) (blkOk_by (own := [("_law_turn", 20)]) (by first | exact (by decide +kernel : blkC n_l_right (defScope s_l_right) _ [("_law_turn", 20)] = true) | kernel_rfl)) (fun _ _ _ _ _ => (pg_name (i := 20) sc_l_right.nd rfl (by first | exact .inl rfl | exact .inr rfl))) (fun _ _ _ _ _ => pts_nil) (fun _ _ _ _ _ => (pe_ix ix_seq (pv 8) (pe_call (ok_l_pick T) (hr.mono (by decide)) (by rfl) T.g_l_pick T.F_l_pick.kp (bx_l_pick T) .nil pass0 (pa_cons (pv 0) (pa_cons (pe_op op_sub (pv 2) pe_int) pa_nil))) (fun _ _ => rfl)))) pa_nil)) pa_nil)))
    (pss_cons (ps_if (pt_not (pt_val (pe_call (ok_l_group_right T) (hr.mono (by decide)) (by rfl) T.g_l_group_right T.F_l_group_right.kp (bx_l_group_right T) .nil pass0 (pa_cons (pv 1) (pa_cons (pv 4) (pa_cons (pv 5) (pa_cons (pv 6) (pa_cons (pv 7) (pa_cons (pv 13) pa_nil))))))))) (pss_one (ps_ret pe_bl)) pss_nil)
    (pss_one (ps_ret (pe_call (ok_l_around_right T) (hr.mono (by decide)) (by rfl) T.g_l_around_right T.F_l_around_right.kp (bx_l_around_right T) .nil pass0 (pa_cons (pv 1) (pa_cons (pv 4) (pa_cons (pv 5) (pa_cons (pv 6) pa_nil)))))))))))))))))))))))
theorem bx_l_right (T : Tx K mg) : Binds K T.fd_l_right ["_law_store_here", "_law_deal"] [] := T.F_l_right.bindsN fun _ _ _ _ _ _ us hl => match us, hl with | [_, _], _ => rfl

theorem sc_law : FnScope n_law ["_law_script"] (defScope s_law) := ⟨rfl, rfl, rfl, by decide +kernel, rfl, by decide +kernel, by decide +kernel⟩
theorem ok_law (T : Tx K mg) : FnOk P w K mg base CX0 9 T.f_law T.fd_law ["_law_script"] (sp_law K) := by
  refine T.F_law.ok sc_law (len_law) (fun cdv A outer s H vs Q E hr h => ⟨t_law K, PSs.nox ?_, rd_law vs H Q E h⟩)
  exact (pss_cons (ps_for PassesOwn.never rfl (pi_range1 (by rfl) T.b_range (pa_cons (pe_callB (cr_max2 rfl) (by rfl) T.b_max (by decide +kernel) (pa_cons pe_int (pa_cons (pe_callB (cr_min2 rfl) (by rfl) T.b_min (by decide +kernel) (pa_cons pe_int (pa_cons (pe_callB cr_lenS (by rfl) T.b_len (by decide +kernel) (pa_cons (pv 0) pa_nil)) pa_nil))) pa_nil))) pa_nil)) (pg_name (i := 1) sc_law.nd rfl (by first | exact .inl rfl | exact .inr rfl)) (pss_cons (ps_set (i := 2) sc_law.nd rfl (by first | exact .inl rfl | exact .inr rfl) (pe_call (ok_l_store T) (hr.mono (by decide)) (by rfl) T.g_l_store T.F_l_store.kp (bx_l_store T) .nil pass0 (pa_cons (pv 0) (pa_cons (pv 1) pa_nil))))
    (pss_one (ps_if (pt_not (pt_val (pe_call (ok_l_right T) (hr.mono (by decide)) (by rfl) T.g_l_right T.F_l_right.kp (bx_l_right T) .nil pass0 (pa_cons (pv 2) (pa_cons (pe_call (ok_l_middle T) (hr.mono (by decide)) (by rfl) T.g_l_middle T.F_l_middle.kp (bx_l_middle T) .nil pass0 (pa_cons (pv 2) (pa_cons pe_int pa_nil))) pa_nil))))) (pss_one (ps_ret pe_bl)) pss_nil))))
    (pss_one (ps_ret (pe_call (ok_l_right T) (hr.mono (by decide)) (by rfl) T.g_l_right T.F_l_right.kp (bx_l_right T) .nil pass0 (pa_cons (pe_call (ok_l_store T) (hr.mono (by decide)) (by rfl) T.g_l_store T.F_l_store.kp (bx_l_store T) .nil pass0 (pa_cons (pv 0) (pa_cons pe_int pa_nil))) (pa_cons (pe_call (ok_l_great T) (hr.mono (by decide)) (by rfl) T.g_l_great T.F_l_great.kp (bx_l_great T) .nil pass0 (pa_cons (pe_call (ok_l_store T) (hr.mono (by decide)) (by rfl) T.g_l_store T.F_l_store.kp (bx_l_store T) .nil pass0 (pa_cons (pv 0) (pa_cons pe_int pa_nil))) (pa_cons pe_int pa_nil))) pa_nil))))))
theorem bx_law (T : Tx K mg) : Binds K T.fd_law ["_law_script"] [] := T.F_law.bindsN fun _ _ _ _ _ _ us hl => match us, hl with | [_], _ => rfl

end
end PN
end

section
set_option Elab.async false
set_option linter.all false
set_option maxRecDepth 100000
set_option maxHeartbeats 0
namespace PN
open PySem PySem.Spec PyProof.Rows L2 DL
theorem facts {P : Program} {w : World} {K : PySem.W.Frag} {h : Heap} {mg : Str → Option Value} (X : K.In h) (G : h.Ns mainGlobals mg) (c : He.SaysD fa fn K) : Nonempty (Tx K mg) := by
  obtain ⟨fd_is_integer, F_is_integer⟩ := c.def_ 0 (d := dd_is_integer) (by rfl)
  obtain ⟨fd_is_number, F_is_number⟩ := c.def_ 1 (d := dd_is_number) (by rfl)
  obtain ⟨fd_is_plugs, F_is_plugs⟩ := c.def_ 2 (d := dd_is_plugs) (by rfl)
  obtain ⟨fd_need_plugs, F_need_plugs⟩ := c.def_ 3 (d := dd_need_plugs) (by rfl)
  obtain ⟨fd_need_device, F_need_device⟩ := c.def_ 4 (d := dd_need_device) (by rfl)
  obtain ⟨fd_too_many, F_too_many⟩ := c.def_ 5 (d := dd_too_many) (by rfl)
  obtain ⟨fd_conflict_in, F_conflict_in⟩ := c.def_ 6 (d := dd_conflict_in) (by rfl)
  obtain ⟨fd_need_net, F_need_net⟩ := c.def_ 7 (d := dd_need_net) (by rfl)
  obtain ⟨fd_factorial_of, F_factorial_of⟩ := c.def_ 8 (d := dd_factorial_of) (by rfl)
  obtain ⟨fd_nets_of, F_nets_of⟩ := c.def_ 9 (d := dd_nets_of) (by rfl)
  obtain ⟨fd_need_possible, F_need_possible⟩ := c.def_ 10 (d := dd_need_possible) (by rfl)
  obtain ⟨fd_count_nets, F_count_nets⟩ := c.def_ 11 (d := dd_count_nets) (by rfl)
  obtain ⟨fd_divisor_of, F_divisor_of⟩ := c.def_ 12 (d := dd_divisor_of) (by rfl)
  obtain ⟨fd_lowest, F_lowest⟩ := c.def_ 13 (d := dd_lowest) (by rfl)
  obtain ⟨fd_share_of_cables, F_share_of_cables⟩ := c.def_ 14 (d := dd_share_of_cables) (by rfl)
  obtain ⟨fd_need_two, F_need_two⟩ := c.def_ 15 (d := dd_need_two) (by rfl)
  obtain ⟨fd_cable_share, F_cable_share⟩ := c.def_ 16 (d := dd_cable_share) (by rfl)
  obtain ⟨fd_choices, F_choices⟩ := c.def_ 17 (d := dd_choices) (by rfl)
  obtain ⟨fd_is_group, F_is_group⟩ := c.def_ 18 (d := dd_is_group) (by rfl)
  obtain ⟨fd_need_group, F_need_group⟩ := c.def_ 19 (d := dd_need_group) (by rfl)
  obtain ⟨fd_share_of_around, F_share_of_around⟩ := c.def_ 20 (d := dd_share_of_around) (by rfl)
  obtain ⟨fd_is_full, F_is_full⟩ := c.def_ 21 (d := dd_is_full) (by rfl)
  obtain ⟨fd_weight_of, F_weight_of⟩ := c.def_ 22 (d := dd_weight_of) (by rfl)
  obtain ⟨fd_share_around, F_share_around⟩ := c.def_ 23 (d := dd_share_around) (by rfl)
  obtain ⟨fd_need_centre, F_need_centre⟩ := c.def_ 24 (d := dd_need_centre) (by rfl)
  obtain ⟨fd_around_share, F_around_share⟩ := c.def_ 25 (d := dd_around_share) (by rfl)
  obtain ⟨fd_need_gathered, F_need_gathered⟩ := c.def_ 26 (d := dd_need_gathered) (by rfl)
  obtain ⟨fd_tops_within, F_tops_within⟩ := c.def_ 27 (d := dd_tops_within) (by rfl)
  obtain ⟨fd_tops_of_group, F_tops_of_group⟩ := c.def_ 28 (d := dd_tops_of_group) (by rfl)
  obtain ⟨fd_within_shares, F_within_shares⟩ := c.def_ 29 (d := dd_within_shares) (by rfl)
  obtain ⟨fd_together_share, F_together_share⟩ := c.def_ 30 (d := dd_together_share) (by rfl)
  obtain ⟨fd_is_side, F_is_side⟩ := c.def_ 31 (d := dd_is_side) (by rfl)
  obtain ⟨fd_side_share, F_side_share⟩ := c.def_ 32 (d := dd_side_share) (by rfl)
  obtain ⟨fd_path_sums, F_path_sums⟩ := c.def_ 33 (d := dd_path_sums) (by rfl)
  obtain ⟨fd_is_line, F_is_line⟩ := c.def_ 34 (d := dd_is_line) (by rfl)
  obtain ⟨fd_tops_of, F_tops_of⟩ := c.def_ 35 (d := dd_tops_of) (by rfl)
  obtain ⟨fd_shares_of, F_shares_of⟩ := c.def_ 36 (d := dd_shares_of) (by rfl)
  obtain ⟨fd_step_shares, F_step_shares⟩ := c.def_ 37 (d := dd_step_shares) (by rfl)
  obtain ⟨fd_l_store, F_l_store⟩ := c.def_ 38 (d := dd_l_store) (by rfl)
  obtain ⟨fd_l_pick, F_l_pick⟩ := c.def_ 39 (d := dd_l_pick) (by rfl)
  obtain ⟨fd_l_word, F_l_word⟩ := c.def_ 40 (d := dd_l_word) (by rfl)
  obtain ⟨fd_l_plugs, F_l_plugs⟩ := c.def_ 41 (d := dd_l_plugs) (by rfl)
  obtain ⟨fd_l_great, F_l_great⟩ := c.def_ 42 (d := dd_l_great) (by rfl)
  obtain ⟨fd_l_middle, F_l_middle⟩ := c.def_ 43 (d := dd_l_middle) (by rfl)
  obtain ⟨fd_l_fraction, F_l_fraction⟩ := c.def_ 44 (d := dd_l_fraction) (by rfl)
  obtain ⟨fd_l_sum, F_l_sum⟩ := c.def_ 45 (d := dd_l_sum) (by rfl)
  obtain ⟨fd_l_without, F_l_without⟩ := c.def_ 46 (d := dd_l_without) (by rfl)
  obtain ⟨fd_l_name, F_l_name⟩ := c.def_ 47 (d := dd_l_name) (by rfl)
  obtain ⟨fd_l_names, F_l_names⟩ := c.def_ 48 (d := dd_l_names) (by rfl)
  obtain ⟨fd_l_mixed, F_l_mixed⟩ := c.def_ 49 (d := dd_l_mixed) (by rfl)
  obtain ⟨fd_l_weighed, F_l_weighed⟩ := c.def_ 50 (d := dd_l_weighed) (by rfl)
  obtain ⟨fd_l_group_right, F_l_group_right⟩ := c.def_ 51 (d := dd_l_group_right) (by rfl)
  obtain ⟨fd_l_around_right, F_l_around_right⟩ := c.def_ 52 (d := dd_l_around_right) (by rfl)
  obtain ⟨fd_l_right, F_l_right⟩ := c.def_ 53 (d := dd_l_right) (by rfl)
  obtain ⟨fd_law, F_law⟩ := c.def_ 54 (d := dd_law) (by rfl)
  refine ⟨⟨_, fd_is_integer, F_is_integer, He.glo_ok X G (c.fact 0 (f := .glo "is_integer") (by rfl)),
    _, fd_is_number, F_is_number, He.glo_ok X G (c.fact 1 (f := .glo "is_number") (by rfl)),
    _, fd_is_plugs, F_is_plugs, He.glo_ok X G (c.fact 2 (f := .glo "is_plugs") (by rfl)),
    _, fd_need_plugs, F_need_plugs, He.glo_ok X G (c.fact 3 (f := .glo "need_plugs") (by rfl)),
    _, fd_need_device, F_need_device, He.glo_ok X G (c.fact 4 (f := .glo "need_device") (by rfl)),
    _, fd_too_many, F_too_many, He.glo_ok X G (c.fact 5 (f := .glo "too_many") (by rfl)),
    _, fd_conflict_in, F_conflict_in, He.glo_ok X G (c.fact 6 (f := .glo "conflict_in") (by rfl)),
    _, fd_need_net, F_need_net, He.glo_ok X G (c.fact 7 (f := .glo "need_net") (by rfl)),
    _, fd_factorial_of, F_factorial_of, He.glo_ok X G (c.fact 8 (f := .glo "factorial_of") (by rfl)),
    _, fd_nets_of, F_nets_of, He.glo_ok X G (c.fact 9 (f := .glo "nets_of") (by rfl)),
    _, fd_need_possible, F_need_possible, He.glo_ok X G (c.fact 10 (f := .glo "need_possible") (by rfl)),
    _, fd_count_nets, F_count_nets, He.glo_ok X G (c.fact 11 (f := .glo "count_nets") (by rfl)),
    _, fd_divisor_of, F_divisor_of, He.glo_ok X G (c.fact 12 (f := .glo "divisor_of") (by rfl)),
    _, fd_lowest, F_lowest, He.glo_ok X G (c.fact 13 (f := .glo "lowest") (by rfl)),
    _, fd_share_of_cables, F_share_of_cables, He.glo_ok X G (c.fact 14 (f := .glo "share_of_cables") (by rfl)),
    _, fd_need_two, F_need_two, He.glo_ok X G (c.fact 15 (f := .glo "need_two") (by rfl)),
    _, fd_cable_share, F_cable_share, He.glo_ok X G (c.fact 16 (f := .glo "cable_share") (by rfl)),
    _, fd_choices, F_choices, He.glo_ok X G (c.fact 17 (f := .glo "choices") (by rfl)),
    _, fd_is_group, F_is_group, He.glo_ok X G (c.fact 18 (f := .glo "is_group") (by rfl)),
    _, fd_need_group, F_need_group, He.glo_ok X G (c.fact 19 (f := .glo "need_group") (by rfl)),
    _, fd_share_of_around, F_share_of_around, He.glo_ok X G (c.fact 20 (f := .glo "share_of_around") (by rfl)),
    _, fd_is_full, F_is_full, He.glo_ok X G (c.fact 21 (f := .glo "is_full") (by rfl)),
    _, fd_weight_of, F_weight_of, He.glo_ok X G (c.fact 22 (f := .glo "weight_of") (by rfl)),
    _, fd_share_around, F_share_around, He.glo_ok X G (c.fact 23 (f := .glo "share_around") (by rfl)),
    _, fd_need_centre, F_need_centre, He.glo_ok X G (c.fact 24 (f := .glo "need_centre") (by rfl)),
    _, fd_around_share, F_around_share, He.glo_ok X G (c.fact 25 (f := .glo "around_share") (by rfl)),
    _, fd_need_gathered, F_need_gathered, He.glo_ok X G (c.fact 26 (f := .glo "need_gathered") (by rfl)),
    _, fd_tops_within, F_tops_within, He.glo_ok X G (c.fact 27 (f := .glo "tops_within") (by rfl)),
    _, fd_tops_of_group, F_tops_of_group, He.glo_ok X G (c.fact 28 (f := .glo "tops_of_group") (by rfl)),
    _, fd_within_shares, F_within_shares, He.glo_ok X G (c.fact 29 (f := .glo "within_shares") (by rfl)),
    _, fd_together_share, F_together_share, He.glo_ok X G (c.fact 30 (f := .glo "together_share") (by rfl)),
    _, fd_is_side, F_is_side, He.glo_ok X G (c.fact 31 (f := .glo "is_side") (by rfl)),
    _, fd_side_share, F_side_share, He.glo_ok X G (c.fact 32 (f := .glo "side_share") (by rfl)),
    _, fd_path_sums, F_path_sums, He.glo_ok X G (c.fact 33 (f := .glo "path_sums") (by rfl)),
    _, fd_is_line, F_is_line, He.glo_ok X G (c.fact 34 (f := .glo "is_line") (by rfl)),
    _, fd_tops_of, F_tops_of, He.glo_ok X G (c.fact 35 (f := .glo "tops_of") (by rfl)),
    _, fd_shares_of, F_shares_of, He.glo_ok X G (c.fact 36 (f := .glo "shares_of") (by rfl)),
    _, fd_step_shares, F_step_shares, He.glo_ok X G (c.fact 37 (f := .glo "step_shares") (by rfl)),
    _, fd_l_store, F_l_store, He.glo_ok X G (c.fact 38 (f := .glo "_law_store") (by rfl)),
    _, fd_l_pick, F_l_pick, He.glo_ok X G (c.fact 39 (f := .glo "_law_pick") (by rfl)),
    _, fd_l_word, F_l_word, He.glo_ok X G (c.fact 40 (f := .glo "_law_word") (by rfl)),
    _, fd_l_plugs, F_l_plugs, He.glo_ok X G (c.fact 41 (f := .glo "_law_plugs") (by rfl)),
    _, fd_l_great, F_l_great, He.glo_ok X G (c.fact 42 (f := .glo "_law_great") (by rfl)),
    _, fd_l_middle, F_l_middle, He.glo_ok X G (c.fact 43 (f := .glo "_law_middle") (by rfl)),
    _, fd_l_fraction, F_l_fraction, He.glo_ok X G (c.fact 44 (f := .glo "_law_fraction") (by rfl)),
    _, fd_l_sum, F_l_sum, He.glo_ok X G (c.fact 45 (f := .glo "_law_sum") (by rfl)),
    _, fd_l_without, F_l_without, He.glo_ok X G (c.fact 46 (f := .glo "_law_without") (by rfl)),
    _, fd_l_name, F_l_name, He.glo_ok X G (c.fact 47 (f := .glo "_law_name") (by rfl)),
    _, fd_l_names, F_l_names, He.glo_ok X G (c.fact 48 (f := .glo "_law_names") (by rfl)),
    _, fd_l_mixed, F_l_mixed, He.glo_ok X G (c.fact 49 (f := .glo "_law_mixed") (by rfl)),
    _, fd_l_weighed, F_l_weighed, He.glo_ok X G (c.fact 50 (f := .glo "_law_weighed") (by rfl)),
    _, fd_l_group_right, F_l_group_right, He.glo_ok X G (c.fact 51 (f := .glo "_law_group_right") (by rfl)),
    _, fd_l_around_right, F_l_around_right, He.glo_ok X G (c.fact 52 (f := .glo "_law_around_right") (by rfl)),
    _, fd_l_right, F_l_right, He.glo_ok X G (c.fact 53 (f := .glo "_law_right") (by rfl)),
    _, fd_law, F_law, He.glo_ok X G (c.fact 54 (f := .glo "law") (by rfl)),
    He.free_ok X G (c.fact 55 (f := .free "isinstance") (by rfl)),
    He.free_ok X G (c.fact 56 (f := .free "len") (by rfl)),
    He.free_ok X G (c.fact 57 (f := .free "all") (by rfl)),
    He.free_ok X G (c.fact 58 (f := .free "sum") (by rfl)),
    He.free_ok X G (c.fact 59 (f := .free "min") (by rfl)),
    He.free_ok X G (c.fact 60 (f := .free "max") (by rfl)),
    He.free_ok X G (c.fact 61 (f := .free "abs") (by rfl)),
    He.free_ok X G (c.fact 62 (f := .free "int") (by rfl)),
    He.free_ok X G (c.fact 63 (f := .free "list") (by rfl)),
    He.free_ok X G (c.fact 64 (f := .free "bool") (by rfl)),
    He.free_ok X G (c.fact 65 (f := .free "range") (by rfl)),
    He.free_ok X G (c.fact 66 (f := .free "sorted") (by rfl)),
    He.free_ok X G (c.fact 67 (f := .free "set") (by rfl)),
    He.free_ok X G (c.fact 68 (f := .free "enumerate") (by rfl)),
    He.free_ok X G (c.fact 69 (f := .free "zip") (by rfl)),
    He.int_ok X G (c.fact 70 (f := .int "MOST_DEVICES" 60) (by rfl)),
    He.int_ok X G (c.fact 71 (f := .int "MOST_NUMBER" 1000000000000000000000000000000) (by rfl))⟩⟩
theorem law_facts {P : Program} {w : World} {K : PySem.W.Frag} {h : Heap} {mg : Str → Option Value} {f : Addr} (X : K.In h) (G : h.Ns mainGlobals mg) (hf : mg ("law" : Str) = some (.ref f)) (c : He.SaysD fa fn K) :
    ∃ fd : FuncData, (∀ (s : Shared) (v : Value), BindsTo s fd ⟨[v], []⟩ [("_law_script", v)]) ∧ ∀ base : Heap, K.In base → base.Ns mainGlobals mg → FnOk P w K mg base CX0 9 f fd ["_law_script"] (sp_law K) := by
  obtain ⟨T⟩ := facts (P := P) (w := w) X G c
  have e := hf.symm.trans T.g_law
  cases e
  have b := FunD.bindsA (ps := ["_law_script"]) T.F_law fun _ _ _ _ _ _ us hl => match us, hl with | [_], _ => rfl
  exact ⟨T.fd_law, fun s v => b s [v] rfl, fun base _ _ => ok_law T⟩
end PN
open PySem PySem.W PySem.Calls PyProof.Rows
theorem PySem.Challenge.cw_plugnets_k38_whole_an_end_taken_away_holds : PySem.Challenge.rw_plugnets_k38_whole_an_end_taken_away.Holds := by
  w_on; o_law
  refine HandSHeadRun.head_any (r := OpenLaw.row PySem.Challenge.rw_plugnets_k38_whole_an_end_taken_away) (q := view (OpenLaw.row PySem.Challenge.rw_plugnets_k38_whole_an_end_taken_away).prog [73]) (H := PN.hk) (ob := PN.obb) (M := 8000) (loose := PN.loose)
    (d := HandSHeadRun.topDef (OpenLaw.row PySem.Challenge.rw_plugnets_k38_whole_an_end_taken_away).prog 73) (kwd := []) PN.obb_eq
    (by kernel_rfl) (fun s => by kernel_rfl) PN.run (by kernel_rfl) (by kernel_rfl) (by kernel_rfl) (by rfl) (by first | assumption | decide +kernel) (by decide +kernel) ⟨rfl, rfl, rfl, rfl, rfl, by decide +kernel⟩ ?hw ?hc
  case hw => w_witness2
  case hc =>
    refine L2.walk_ofE (l := PySem.Challenge.rw_plugnets_k38_whole_an_end_taken_away) (n := 63) (k := 9) (x := "_law_script") (CX := L2.CX0) rfl (by decide) (by kernel_rfl) ⟨rfl, by decide, by decide⟩ ?F (fun _ _ _ _ z => z)
    intro w mg fa h Y G hmg0
    obtain ⟨K, KX, c⟩ := Y
    have hmg : mg ("law" : PySem.Str) = some (.ref fa) := by
      have e : (HandSHeadRun.topDef (OpenLaw.row PySem.Challenge.rw_plugnets_k38_whole_an_end_taken_away).prog 73).name = ("law" : PySem.Str) := by kernel_rfl
      rw [← e]
      exact hmg0
    obtain ⟨fd, hb, hF⟩ := PN.law_facts (P := (PySem.Challenge.rw_plugnets_k38_whole_an_end_taken_away).prog) (w := w) KX G hmg c
    exact ⟨K, fd, PN.sp_law K, KX, hb, fun H a ns hl _ hS => ⟨a, ns, rfl, hS, fun _ => rfl⟩, hF⟩
end

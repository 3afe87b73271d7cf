import PyProof.Rows.All
import Wide.All
import OpenK.AllK
import Wide.FinOn
import HandS.ForMost
import HandS.Words
import HandS.WordsExc
import HandS.Defaults
import HandS.Head0
import HandS.Head1
import HandS.Head2
import HandS.HeadEnd
import HandS.HeadHook1
import HandS.HeadHook2
import HandS.HeadHook3
import HandS.HeadHook4
import HandS.EndTab
import HandS.HeadWalk
import HandS.AnyAll
import HandS.Deep
import KE.KDictKeyed
import HandS.Dict
import KE.KDictDisplayH
import KE.KDictCopyH
import KE.KDictOf
import HandS.DictComp
import HandS.Star
import KE.SortData
import KE.KDictSum
import HandS.TupSets
import HandS.Comp
import HandS.GenOver
import PyProof.GenQ
import HandS.Iter
import KE.GoesEnum
import KE.DataMinMax
import HandS.IsInst
import HandS.Flow
import HandS.Style
import HandS.TupAny
import HandS.Conv
import HandS.Wide
import HandS.SetFor
import PySem.Challenge.RW_starlands_k26_whole_arrangements
section
set_option Elab.async false
set_option linter.all false
set_option maxRecDepth 100000
set_option maxHeartbeats 0
namespace SL
open PySem PySem.Spec PyProof.Rows L2
def top (i : Nat) : Stmt := PySem.Challenge.pw_starlands_k26_whole_arrangements.main.body.getD i (.Pass ⟨0, 0, 0, 0⟩)

abbrev s_is_in : Stmt := top 10
abbrev s_near : Stmt := top 11
abbrev s_length_of : Stmt := top 12
abbrev s_hangs : Stmt := top 13
abbrev s_held : Stmt := top 14
abbrev s_are_cells : Stmt := top 15
abbrev s_is_map : Stmt := top 16
abbrev s_need_map : Stmt := top 17
abbrev s_lands_of : Stmt := top 18
abbrev s_outward : Stmt := top 19
abbrev s_order_on : Stmt := top 21
abbrev s_all_orders : Stmt := top 22
abbrev s_is_made : Stmt := top 24
abbrev s_all_takings : Stmt := top 25
abbrev s_taken : Stmt := top 26
abbrev s_bare_of : Stmt := top 28
abbrev s_freezes : Stmt := top 29
abbrev s_tips : Stmt := top 30
abbrev s_key_of : Stmt := top 32
abbrev s_all_of_class : Stmt := top 33
abbrev s_falling : Stmt := top 34
abbrev s_need_one : Stmt := top 36
abbrev s_arranged : Stmt := top 40
abbrev s_arrangements : Stmt := top 41
abbrev s_need_numbers : Stmt := top 42
abbrev s_shares : Stmt := top 43
abbrev s_arrangement_count : Stmt := top 44
abbrev s_all_arrangements : Stmt := top 45
abbrev s_turns_between : Stmt := top 46
abbrev s_all_still : Stmt := top 47
abbrev s_degree_counts : Stmt := top 48
abbrev s_most_free : Stmt := top 49
abbrev s_freest : Stmt := top 50
abbrev s_shows_freest : Stmt := top 51
abbrev s__law_taken : Stmt := top 53
abbrev s__law_pick : Stmt := top 54
abbrev s__law_alike : Stmt := top 55
abbrev s__law_near : Stmt := top 56
abbrev s__law_hangs : Stmt := top 57
abbrev s__law_map : Stmt := top 58
abbrev s__law_takings : Stmt := top 59
abbrev s__law_behind : Stmt := top 60
abbrev s__law_from : Stmt := top 61
abbrev s__law_island : Stmt := top 63
abbrev s__law_order : Stmt := top 64
abbrev s__law_shares : Stmt := top 65
abbrev s_law : Stmt := top 66

def d_is_in : He.DefD := ⟨("is_in", none), "is_in", "is_in", defArgs s_is_in, defBody s_is_in, defScope s_is_in, [], []⟩
def d_near : He.DefD := ⟨("near", none), "near", "near", defArgs s_near, defBody s_near, defScope s_near, [], []⟩
def d_length_of : He.DefD := ⟨("length_of", none), "length_of", "length_of", defArgs s_length_of, defBody s_length_of, defScope s_length_of, [], []⟩
def d_hangs : He.DefD := ⟨("hangs", none), "hangs", "hangs", defArgs s_hangs, defBody s_hangs, defScope s_hangs, [], []⟩
def d_held : He.DefD := ⟨("held", none), "held", "held", defArgs s_held, defBody s_held, defScope s_held, [], []⟩
def d_are_cells : He.DefD := ⟨("are_cells", none), "are_cells", "are_cells", defArgs s_are_cells, defBody s_are_cells, defScope s_are_cells, [], []⟩
def d_is_map : He.DefD := ⟨("is_map", none), "is_map", "is_map", defArgs s_is_map, defBody s_is_map, defScope s_is_map, [], []⟩
def d_need_map : He.DefD := ⟨("need_map", none), "need_map", "need_map", defArgs s_need_map, defBody s_need_map, defScope s_need_map, [], []⟩
def d_lands_of : He.DefD := ⟨("lands_of", none), "lands_of", "lands_of", defArgs s_lands_of, defBody s_lands_of, defScope s_lands_of, [], []⟩
def d_outward : He.DefD := ⟨("outward", none), "outward", "outward", defArgs s_outward, defBody s_outward, defScope s_outward, [], []⟩
def d_order_on : He.DefD := ⟨("order_on", none), "order_on", "order_on", defArgs s_order_on, defBody s_order_on, defScope s_order_on, [], []⟩
def d_all_orders : He.DefD := ⟨("all_orders", none), "all_orders", "all_orders", defArgs s_all_orders, defBody s_all_orders, defScope s_all_orders, [], []⟩
def d_is_made : He.DefD := ⟨("is_made", none), "is_made", "is_made", defArgs s_is_made, defBody s_is_made, defScope s_is_made, [], []⟩
def d_all_takings : He.DefD := ⟨("all_takings", none), "all_takings", "all_takings", defArgs s_all_takings, defBody s_all_takings, defScope s_all_takings, [], []⟩
def d_taken : He.DefD := ⟨("taken", none), "taken", "taken", defArgs s_taken, defBody s_taken, defScope s_taken, [], []⟩
def d_bare_of : He.DefD := ⟨("bare_of", none), "bare_of", "bare_of", defArgs s_bare_of, defBody s_bare_of, defScope s_bare_of, [], []⟩
def d_freezes : He.DefD := ⟨("freezes", none), "freezes", "freezes", defArgs s_freezes, defBody s_freezes, defScope s_freezes, [], []⟩
def d_tips : He.DefD := ⟨("tips", none), "tips", "tips", defArgs s_tips, defBody s_tips, defScope s_tips, [], []⟩
def d_key_of : He.DefD := ⟨("key_of", none), "key_of", "key_of", defArgs s_key_of, defBody s_key_of, defScope s_key_of, [], []⟩
def d_all_of_class : He.DefD := ⟨("all_of_class", none), "all_of_class", "all_of_class", defArgs s_all_of_class, defBody s_all_of_class, defScope s_all_of_class, [], []⟩
def d_falling : He.DefD := ⟨("falling", none), "falling", "falling", defArgs s_falling, defBody s_falling, defScope s_falling, [], []⟩
def d_need_one : He.DefD := ⟨("need_one", none), "need_one", "need_one", defArgs s_need_one, defBody s_need_one, defScope s_need_one, [], []⟩
def d_arranged : He.DefD := ⟨("arranged", none), "arranged", "arranged", defArgs s_arranged, defBody s_arranged, defScope s_arranged, [], []⟩
def d_arrangements : He.DefD := ⟨("arrangements", none), "arrangements", "arrangements", defArgs s_arrangements, defBody s_arrangements, defScope s_arrangements, [], []⟩
def d_need_numbers : He.DefD := ⟨("need_numbers", none), "need_numbers", "need_numbers", defArgs s_need_numbers, defBody s_need_numbers, defScope s_need_numbers, [], []⟩
def d_shares : He.DefD := ⟨("shares", none), "shares", "shares", defArgs s_shares, defBody s_shares, defScope s_shares, [], []⟩
def d_arrangement_count : He.DefD := ⟨("arrangement_count", none), "arrangement_count", "arrangement_count", defArgs s_arrangement_count, defBody s_arrangement_count, defScope s_arrangement_count, [], []⟩
def d_all_arrangements : He.DefD := ⟨("all_arrangements", none), "all_arrangements", "all_arrangements", defArgs s_all_arrangements, defBody s_all_arrangements, defScope s_all_arrangements, [], []⟩
def d_turns_between : He.DefD := ⟨("turns_between", none), "turns_between", "turns_between", defArgs s_turns_between, defBody s_turns_between, defScope s_turns_between, [], []⟩
def d_all_still : He.DefD := ⟨("all_still", none), "all_still", "all_still", defArgs s_all_still, defBody s_all_still, defScope s_all_still, [], []⟩
def d_degree_counts : He.DefD := ⟨("degree_counts", none), "degree_counts", "degree_counts", defArgs s_degree_counts, defBody s_degree_counts, defScope s_degree_counts, [], []⟩
def d_most_free : He.DefD := ⟨("most_free", none), "most_free", "most_free", defArgs s_most_free, defBody s_most_free, defScope s_most_free, [], []⟩
def d_freest : He.DefD := ⟨("freest", none), "freest", "freest", defArgs s_freest, defBody s_freest, defScope s_freest, [], []⟩
def d_shows_freest : He.DefD := ⟨("shows_freest", none), "shows_freest", "shows_freest", defArgs s_shows_freest, defBody s_shows_freest, defScope s_shows_freest, [], []⟩
def d__law_taken : He.DefD := ⟨("_law_taken", none), "_law_taken", "_law_taken", defArgs s__law_taken, defBody s__law_taken, defScope s__law_taken, [], []⟩
def d__law_pick : He.DefD := ⟨("_law_pick", none), "_law_pick", "_law_pick", defArgs s__law_pick, defBody s__law_pick, defScope s__law_pick, [], []⟩
def d__law_alike : He.DefD := ⟨("_law_alike", none), "_law_alike", "_law_alike", defArgs s__law_alike, defBody s__law_alike, defScope s__law_alike, [], []⟩
def d__law_near : He.DefD := ⟨("_law_near", none), "_law_near", "_law_near", defArgs s__law_near, defBody s__law_near, defScope s__law_near, [], []⟩
def d__law_hangs : He.DefD := ⟨("_law_hangs", none), "_law_hangs", "_law_hangs", defArgs s__law_hangs, defBody s__law_hangs, defScope s__law_hangs, [], []⟩
def d__law_map : He.DefD := ⟨("_law_map", none), "_law_map", "_law_map", defArgs s__law_map, defBody s__law_map, defScope s__law_map, [], []⟩
def d__law_takings : He.DefD := ⟨("_law_takings", none), "_law_takings", "_law_takings", defArgs s__law_takings, defBody s__law_takings, defScope s__law_takings, [], []⟩
def d__law_behind : He.DefD := ⟨("_law_behind", none), "_law_behind", "_law_behind", defArgs s__law_behind, defBody s__law_behind, defScope s__law_behind, [], []⟩
def d__law_from : He.DefD := ⟨("_law_from", none), "_law_from", "_law_from", defArgs s__law_from, defBody s__law_from, defScope s__law_from, [], []⟩
def d__law_island : He.DefD := ⟨("_law_island", none), "_law_island", "_law_island", defArgs s__law_island, defBody s__law_island, defScope s__law_island, [], []⟩
def d__law_order : He.DefD := ⟨("_law_order", none), "_law_order", "_law_order", defArgs s__law_order, defBody s__law_order, defScope s__law_order, [], []⟩
def d__law_shares : He.DefD := ⟨("_law_shares", none), "_law_shares", "_law_shares", defArgs s__law_shares, defBody s__law_shares, defScope s__law_shares, [], []⟩
def d_law : He.DefD := ⟨("law", none), "law", "law", defArgs s_law, defBody s_law, defScope s_law, [], []⟩
def fn : List He.DefD := [d_is_in, d_near, d_length_of, d_hangs, d_held, d_are_cells, d_is_map, d_need_map, d_lands_of, d_outward, d_order_on, d_all_orders, d_is_made, d_all_takings, d_taken, d_bare_of, d_freezes, d_tips, d_key_of, d_all_of_class, d_falling, d_need_one, d_arranged, d_arrangements, d_need_numbers, d_shares, d_arrangement_count, d_all_arrangements, d_turns_between, d_all_still, d_degree_counts, d_most_free, d_freest, d_shows_freest, d__law_taken, d__law_pick, d__law_alike, d__law_near, d__law_hangs, d__law_map, d__law_takings, d__law_behind, d__law_from, d__law_island, d__law_order, d__law_shares, d_law]
def fa : List He.Fa := [.glo "is_in", .glo "near", .glo "length_of", .glo "hangs", .glo "held", .glo "are_cells", .glo "is_map", .glo "need_map", .glo "lands_of", .glo "outward", .glo "order_on", .glo "all_orders", .glo "is_made", .glo "all_takings", .glo "taken", .glo "bare_of", .glo "freezes", .glo "tips", .glo "key_of", .glo "all_of_class", .glo "falling", .glo "need_one", .glo "arranged", .glo "arrangements", .glo "need_numbers", .glo "shares", .glo "arrangement_count", .glo "all_arrangements", .glo "turns_between", .glo "all_still", .glo "degree_counts", .glo "most_free", .glo "freest", .glo "shows_freest", .glo "_law_taken", .glo "_law_pick", .glo "_law_alike", .glo "_law_near", .glo "_law_hangs", .glo "_law_map", .glo "_law_takings", .glo "_law_behind", .glo "_law_from", .glo "_law_island", .glo "_law_order", .glo "_law_shares", .glo "law", .free "isinstance", .free "int", .free "bool", .free "len", .free "enumerate", .free "tuple", .free "all", .free "any", .free "max", .free "min", .free "range", .free "list", .free "sorted", .free "sum", .free "dict", .free "set", .free "str", .int "LEAST_ARMS" 3, .int "MOST_ARMS_islands" 4, .int "MOST_LENGTH" 4, .int "MOST_ARMS_arranged" 12, .int "MOST_LANDS" 12]
def tf : List He.Defn := [("are_cells", none), ("is_made", none), ("bare_of", none)]
def loose0 : List Str := ["LandError", "BadArms", "BadMap", "BadLands", "NotOne", "LEAST_ARMS", "MOST_ARMS_islands", "MOST_LENGTH", "is_in", "near", "length_of", "hangs", "held", "are_cells", "is_map", "need_map", "lands_of", "outward", "order_on", "all_orders", "is_made", "all_takings", "taken", "bare_of", "freezes", "tips", "key_of", "all_of_class", "falling", "need_one"]
def loose1 : List Str := ["MOST_ARMS_arranged", "MOST_LANDS", "arranged", "arrangements", "need_numbers", "shares", "arrangement_count", "all_arrangements", "turns_between", "all_still", "degree_counts", "most_free", "freest", "shows_freest", "_law_taken", "_law_pick", "_law_alike", "_law_near", "_law_hangs", "_law_map", "_law_takings", "_law_behind", "_law_from", "_law_walk", "_law_island", "_law_order", "_law_shares"]
def loose : List Str := loose0 ++ loose1
abbrev R : PySem.W.OpenRow := PySem.W.OpenLaw.row PySem.Challenge.rw_starlands_k26_whole_arrangements
def exT : PySem.W.Frag → Bool := fun _ => true
abbrev hk : PySem.W.Hook := He.hookX 5 fa fn [] tf exT
def ob (s : PySem.W.SharedT) : He.AlX := He.obsX 5 fa fn [] tf exT (HandSHeadRun.getT s)
theorem ob_eq (s : PySem.W.SharedT) : ob s = hk.obs s.abs := He.obsX_eq (HandSHeadRun.getT_eq s)
theorem run (w : World) : HandSHeadRun.RunEq R (PySem.W.view R.prog [66]) hk ob 4000 loose w := by
  intro os
  kernel_rfl
end SL
end

section
set_option Elab.async false
set_option linter.all false
set_option maxRecDepth 100000
set_option maxHeartbeats 4000000
/-! nested tuples of whole numbers as keys; heaps that grow -/
namespace SL
open PySem PySem.Spec PyProof.Rows L2

/-! ### heaps that grow: all stays but tables of code objects, which may become longer -/
def Gr (H H' : Hp) : Prop := ∀ b o, H b = some o → H' b = some o ∨ ∃ ps qs, o = .tbl ps ∧ H' b = some (.tbl qs) ∧ (TriplesOk ps.toList → TriplesOk qs.toList)
theorem Gr.refl (H : Hp) : Gr H H := fun _ _ h => .inl h
theorem Gr.of_same {H H' : Hp} (h : Same H H') : Gr H H' := fun b o e => .inl (h b o e)
theorem Gr.trans {H H1 H2 : Hp} (a : Gr H H1) (b : Gr H1 H2) : Gr H H2 := fun c o h => by
  rcases a c o h with h | ⟨ps, qs, rfl, h, t⟩
  · exact b c o h
  · rcases b c _ h with h2 | ⟨ps2, qs2, e, h2, t2⟩
    · exact .inr ⟨ps, qs, rfl, h2, t⟩
    · cases e
      exact .inr ⟨ps, qs2, rfl, h2, fun z => t2 (t z)⟩
theorem Gr.keep {H H' : Hp} (g : Gr H H') {b : Addr} {o : HO} (h : H b = some o) (n : ∀ ps, o ≠ .tbl ps) : H' b = some o := by
  rcases g b o h with h | ⟨ps, _, e, _⟩
  · exact h
  · exact absurd e (n ps)
theorem Gr.lst {H H' : Hp} (g : Gr H H') {b : Addr} {xs : List V} (h : H b = some (.lst xs)) : H' b = some (.lst xs) := g.keep h fun _ e => by cases e
theorem Gr.tup {H H' : Hp} (g : Gr H H') {b : Addr} {xs : List V} (h : H b = some (.tup xs)) : H' b = some (.tup xs) := g.keep h fun _ e => by cases e
theorem Gr.ext {H H' : Hp} (g : Gr H H') {b : Addr} {f : Heap → Prop} (h : H b = some (.ext f)) : H' b = some (.ext f) := g.keep h fun _ e => by cases e
theorem Gr.free {H H' : Hp} (g : Gr H H') {l : Addr} (h : H' l = none) : H l = none := by
  cases q : H l with
  | none => rfl
  | some o =>
    rcases g l o q with z | ⟨_, _, _, z, _⟩
    · rw [h] at z
      cases z
    · rw [h] at z
      cases z
theorem Gr.sqT {K : PySem.W.Frag} {H H' : Hp} (g : Gr H H') {a : Addr} {xs : List V} (h : SqT K H a xs) : SqT K H' a xs := by
  rcases h with (h | ⟨o, h⟩) | h
  · exact .inl (.inl (g.tup h))
  · exact .inl (.inr ⟨o, g.keep h fun _ e => by cases e⟩)
  · exact .inr h
theorem Gr.sqL {K : PySem.W.Frag} {H H' : Hp} (g : Gr H H') {a : Addr} {xs : List V} (h : SqL K H a xs) : SqL K H' a xs := by
  rcases h with (h | ⟨o, h⟩) | h
  · exact .inl (.inl (g.lst h))
  · exact .inl (.inr ⟨o, g.keep h fun _ e => by cases e⟩)
  · exact .inr h
theorem Gr.new {H : Hp} {p : Addr} {o : HO} (h : H p = none) : Gr H (upd H p o) := fun b u e => .inl (by rw [upd_ne (ne_of_none e h)]; exact e)
/-- a thing that was new is changed -/
theorem Gr.put {H H1 : Hp} {p : Addr} {o : HO} (g : Gr H H1) (h : H p = none) : Gr H (upd H1 p o) := fun b u e => by
  rw [upd_ne (ne_of_none e h)]
  exact g b u e
/-- H' is H1 but at p, which was new -/
theorem Gr.but {H H1 H' : Hp} {p : Addr} (g : Gr H H1) (h : H p = none) (hb : ∀ b, b ≠ p → H' b = H1 b) : Gr H H' := fun b u e => by
  rw [hb b (ne_of_none e h)]
  exact g b u e
theorem Gr.tabG {H H' : Hp} (g : Gr H H') {P : Addr} (h : GxR.TabG H P) : GxR.TabG H' P := by
  obtain ⟨ps, h, t⟩ := h
  rcases g P _ h with z | ⟨ps', qs, e, z, t'⟩
  · exact ⟨ps, z, t⟩
  · cases e
    exact ⟨qs, z, t' t⟩
theorem Gr.tabbed {P : Addr} {H H' : Hp} (hT : GxR.TabG H P) (h : GxR.Tabbed P H H') : Gr H H' := fun b o e => by
  by_cases hb : b = P
  · subst hb
    obtain ⟨ps, h1, _⟩ := hT
    obtain ⟨qs, h2, t2⟩ := h.1
    rw [h1] at e
    cases e
    exact .inr ⟨ps, qs, rfl, h2, fun _ => t2⟩
  · exact .inl (by rw [h.2 b hb]; exact e)

/-! ### nested tuples of whole numbers -/
abbrev NK := NestedKey
mutual
inductive Tp (K : PySem.W.Frag) (H : Hp) : V → NK → Prop
  | num (i : Int) : Tp K H (.int i) (.num i)
  | tup {a : Addr} {xs : List V} {ks : List NK} : SqT K H a xs → TpAll K H xs ks → Tp K H (.ref a) (.tup ks)
inductive TpAll (K : PySem.W.Frag) (H : Hp) : List V → List NK → Prop
  | nil : TpAll K H [] []
  | cons {v : V} {vs : List V} {k : NK} {ks : List NK} : Tp K H v k → TpAll K H vs ks → TpAll K H (v :: vs) (k :: ks)
end
section
variable {K : PySem.W.Frag} {H H' : Hp}
mutual
theorem Tp.mono (m : ∀ a xs, SqT K H a xs → SqT K H' a xs) : ∀ (k : NK) (v : V), Tp K H v k → Tp K H' v k
  | .num i, _, h => by cases h; exact .num i
  | .tup ks, _, h => by
    cases h with
    | tup h1 h2 => exact .tup (m _ _ h1) (TpAll.mono m ks _ h2)
  | .none, _, h => by cases h
  | .text _, _, h => by cases h
theorem TpAll.mono (m : ∀ a xs, SqT K H a xs → SqT K H' a xs) : ∀ (ks : List NK) (vs : List V), TpAll K H vs ks → TpAll K H' vs ks
  | [], _, h => by cases h; exact .nil
  | k :: ks, _, h => by
    cases h with
    | cons h1 h2 => exact .cons (Tp.mono m k _ h1) (TpAll.mono m ks _ h2)
end
theorem Gr.tp (g : Gr H H') {v : V} {k : NK} (h : Tp K H v k) : Tp K H' v k := Tp.mono (fun _ _ => g.sqT) k v h
theorem Gr.tps (g : Gr H H') {vs : List V} {ks : List NK} (h : TpAll K H vs ks) : TpAll K H' vs ks := TpAll.mono (fun _ _ => g.sqT) ks vs h
mutual
theorem Tp.dp : ∀ (k : NK) (v : V), Tp K H v k → Dp K H v k.data
  | .num i, _, h => by cases h; rw [NestedKey.data]; exact .int i
  | .tup ks, _, h => by
    cases h with
    | tup h1 h2 => rw [NestedKey.data]; exact .tup h1 (TpAll.dps ks _ h2)
  | .none, _, h => by cases h
  | .text _, _, h => by cases h
theorem TpAll.dps : ∀ (ks : List NK) (vs : List V), TpAll K H vs ks → DpAll K H vs (NestedKey.datas ks)
  | [], _, h => by cases h; rw [NestedKey.datas]; exact .nil
  | k :: ks, _, h => by
    cases h with
    | cons h1 h2 => rw [NestedKey.datas]; exact .cons (Tp.dp k _ h1) (TpAll.dps ks _ h2)
end
theorem TpAll.length : ∀ {vs : List V} {ks : List NK}, TpAll K H vs ks → vs.length = ks.length
  | [], _, h => by cases h; rfl
  | _ :: _, _, h => by
    cases h with
    | cons _ h2 => rw [List.length_cons, List.length_cons, TpAll.length h2]
theorem TpAll.get : ∀ {vs : List V} {ks : List NK} {i : Nat} {v : V}, TpAll K H vs ks → vs[i]? = some v → ∃ k, ks[i]? = some k ∧ Tp K H v k
  | [], _, _, _, _, e => by simp at e
  | _ :: _, _, 0, _, h, e => by
    cases h with
    | cons h1 h2 =>
      simp at e
      subst e
      exact ⟨_, rfl, h1⟩
  | _ :: _, _, i + 1, v, h, e => by
    cases h with
    | cons h1 h2 =>
      obtain ⟨k, e1, e2⟩ := TpAll.get (i := i) h2 (by simpa using e)
      exact ⟨k, by simpa using e1, e2⟩
theorem TpAll.at_ : ∀ {vs : List V} {ks : List NK} {i : Nat} {k : NK}, TpAll K H vs ks → ks[i]? = some k → ∃ v, vs[i]? = some v ∧ Tp K H v k
  | _, [], _, _, _, e => by simp at e
  | _, _ :: _, 0, _, h, e => by
    cases h with
    | cons h1 h2 =>
      simp at e
      subst e
      exact ⟨_, rfl, h1⟩
  | _, _ :: _, i + 1, v, h, e => by
    cases h with
    | cons h1 h2 =>
      obtain ⟨k, e1, e2⟩ := TpAll.at_ (i := i) h2 (by simpa using e)
      exact ⟨k, by simpa using e1, e2⟩
theorem TpAll.append : ∀ {vs ws : List V} {ks ls : List NK}, TpAll K H vs ks → TpAll K H ws ls → TpAll K H (vs ++ ws) (ks ++ ls)
  | [], _, _, _, h, h' => by cases h; exact h'
  | _ :: _, _, _, _, h, h' => by
    cases h with
    | cons h1 h2 => exact .cons h1 (TpAll.append h2 h')
theorem TpAll.take : ∀ {vs : List V} {ks : List NK} (n : Nat), TpAll K H vs ks → TpAll K H (vs.take n) (ks.take n)
  | _, _, 0, _ => by simp; exact .nil
  | [], _, n + 1, h => by cases h; exact .nil
  | _ :: _, _, n + 1, h => by
    cases h with
    | cons h1 h2 => exact .cons h1 (TpAll.take n h2)
theorem TpAll.drop : ∀ {vs : List V} {ks : List NK} (n : Nat), TpAll K H vs ks → TpAll K H (vs.drop n) (ks.drop n)
  | _, _, 0, h => h
  | [], _, n + 1, h => by cases h; exact .nil
  | _ :: _, _, n + 1, h => by
    cases h with
    | cons h1 h2 => exact TpAll.drop n h2
theorem TpAll.ints : ∀ ns : List Int, TpAll K H (ns.map V.int) (ns.map NestedKey.num)
  | [] => .nil
  | n :: ns => .cons (.num n) (TpAll.ints ns)
theorem TpAll.ints_inv : ∀ {vs : List V} {ns : List Int}, TpAll K H vs (ns.map NestedKey.num) → vs = ns.map V.int
  | [], ns, h => by
    cases ns with
    | nil => rfl
    | cons n ns => cases h
  | v :: vs, ns, h => by
    cases ns with
    | nil => cases h
    | cons n ns =>
      cases h with
      | cons h1 h2 =>
        cases h1
        rw [List.map_cons, TpAll.ints_inv h2]
theorem TpAll.mem {vs : List V} {ks : List NK} (h : TpAll K H vs ks) {v : V} (hv : v ∈ vs) : ∃ k ∈ ks, Tp K H v k := by
  obtain ⟨i, e⟩ := List.getElem?_of_mem hv
  obtain ⟨k, e1, e2⟩ := h.get e
  exact ⟨k, List.mem_of_getElem? e1, e2⟩
end
section
variable {X : Cx} {pins : List (Addr × Obj)} {σ : L2.St} {H : Hp} {s : Shared}
mutual
theorem nested_of (I : Inv X pins σ H s) : ∀ (k : NK) (v : V) (u : Value), Tp X.K H v k → RelV v u → NestedIs s.heap k u
  | .num i, _, _, h, r => by
    cases h
    obtain ⟨t, rfl⟩ := r
    exact .int i t
  | .tup ks, _, _, h, r => by
    cases h with
    | tup h1 h2 =>
      obtain rfl := r
      obtain ⟨its, rv, ⟨o, ho, hc, n, hd⟩, _⟩ := I.tuple h1
      exact .tup ho hc hd (by simpa using nested_all I ks _ its h2 rv)
  | .none, _, _, h, _ => by cases h
  | .text _, _, _, h, _ => by cases h
theorem nested_all (I : Inv X pins σ H s) : ∀ (ks : List NK) (vs : List V) (us : List Value), TpAll X.K H vs ks → Vals vs us → NestedAll s.heap ks us
  | [], _, _, h, r => by
    cases h
    cases r
    exact .nil
  | k :: ks, _, _, h, r => by
    cases h with
    | cons h1 h2 =>
      cases r with
      | cons r1 r2 => exact .cons (nested_of I k _ _ h1 r1) (nested_all I ks _ _ h2 r2)
end
/-- what stands at a place is one thing -/
theorem tp_inj (I : Inv X pins σ H s) {v : V} {k l : NK} (a : Tp X.K H v k) (b : Tp X.K H v l) : k = l := by
  have key : ∀ u, RelV v u → k = l := fun u r => NestedIs.inj k l u (nested_of I k v u a r) (nested_of I l v u b r)
  cases v with
  | int i => exact key (.int i 0) ⟨0, rfl⟩
  | ref p => exact key (.ref p) rfl
  | _ => cases a
end

/-! ### as data -/
mutual
theorem data_eqv : ∀ a b : NK, PyData.eqv a.data b.data = NestedKey.beq a b
  | .none, b => by cases b <;> simp [NestedKey.data, PyData.eqv, NestedKey.beq]
  | .num i, b => by
    cases b <;> simp [NestedKey.data, PyData.eqv, NestedKey.beq]
    all_goals first | rfl | (rename_i j; rw [Bool.eq_iff_iff]; simp)
  | .text x, b => by
    cases b <;> simp [NestedKey.data, PyData.eqv, NestedKey.beq]
    all_goals first | rfl | (rename_i j; rw [Bool.eq_iff_iff]; simp)
  | .tup ks, b => by
    cases b with
    | tup ls => simp only [NestedKey.data, PyData.eqv, NestedKey.beq]; exact datas_eqv ks ls
    | _ => simp [NestedKey.data, PyData.eqv, NestedKey.beq]
theorem datas_eqv : ∀ a b : List NK, PyData.eqvAll (NestedKey.datas a) (NestedKey.datas b) = NestedKey.beqAll a b
  | [], [] => by simp [NestedKey.datas, PyData.eqvAll, NestedKey.beqAll]
  | [], _ :: _ => by simp [NestedKey.datas, PyData.eqvAll, NestedKey.beqAll]
  | _ :: _, [] => by simp [NestedKey.datas, PyData.eqvAll, NestedKey.beqAll]
  | a :: as, b :: bs => by simp only [NestedKey.datas, PyData.eqvAll, NestedKey.beqAll]; rw [data_eqv a b, datas_eqv as bs]
end
theorem eqv_dec (a b : NK) : PyData.eqv a.data b.data = decide (a = b) := by rw [data_eqv, NestedKey.decide_eq]
section
variable {K : PySem.W.Frag} {H : Hp}
mutual
theorem tp_lay : ∀ (k : NK) (v : V), Tp K H v k → k.data.canLay0 = true
  | .num _, _, _ => by simp [NestedKey.data, PyData.canLay0]
  | .tup ks, _, h => by
    cases h with
    | tup _ h2 =>
      simp only [NestedKey.data, PyData.canLay0]
      exact tps_lay ks _ h2
  | .none, _, h => by cases h
  | .text _, _, h => by cases h
theorem tps_lay : ∀ (ks : List NK) (vs : List V), TpAll K H vs ks → PyData.canLayAll0 (NestedKey.datas ks) = true
  | [], _, _ => by simp [NestedKey.datas, PyData.canLayAll0]
  | k :: ks, _, h => by
    cases h with
    | cons h1 h2 =>
      simp only [NestedKey.datas, PyData.canLayAll0]
      rw [tp_lay k _ h1, tps_lay ks _ h2]
      rfl
end
end
mutual
theorem data_depth : ∀ a : NK, a.data.depth = a.depth
  | .none => by simp [NestedKey.data, PyData.depth, NestedKey.depth]
  | .num _ => by simp [NestedKey.data, PyData.depth, NestedKey.depth]
  | .text _ => by simp [NestedKey.data, PyData.depth, NestedKey.depth]
  | .tup ks => by simp only [NestedKey.data, PyData.depth, NestedKey.depth]; rw [datas_depth ks]
theorem datas_depth : ∀ a : List NK, PyData.depthAll (NestedKey.datas a) = NestedKey.depthAll a
  | [] => by simp [NestedKey.datas, PyData.depthAll, NestedKey.depthAll]
  | a :: as => by simp only [NestedKey.datas, PyData.depthAll, NestedKey.depthAll]; rw [data_depth a, datas_depth as]
end
theorem datas_map (ks : List NK) : NestedKey.datas ks = ks.map NestedKey.data := by
  induction ks with
  | nil => rfl
  | cons k ks ih => rw [NestedKey.datas, ih, List.map_cons]
theorem tp_shaped {K : PySem.W.Frag} {H : Hp} {v : V} {k : NK} (t : Tp K H v k) (h : k.depth ≤ 8) : SeqAt.shaped k.data = true := by
  have h2 : k.data.depth ≤ 64 := by rw [data_depth]; omega
  show (k.data.canLay0 && decide (k.data.depth ≤ 64)) = true
  rw [tp_lay k v t, decide_eq_true h2]
  rfl
theorem depthAll_le {ks : List NK} {n : Nat} (h : ∀ k ∈ ks, k.depth ≤ n) : NestedKey.depthAll ks ≤ n := by
  induction ks with
  | nil => simp [NestedKey.depthAll]
  | cons k ks ih =>
    have h1 := h k List.mem_cons_self
    have h2 := ih fun z hz => h z (List.mem_cons_of_mem _ hz)
    simp only [NestedKey.depthAll]
    omega
theorem tps_shaped {K : PySem.W.Frag} {H : Hp} {vs : List V} {ks : List NK} (t : TpAll K H vs ks) (h : ∀ k ∈ ks, k.depth ≤ 8) : SeqAt.shaped (.list (NestedKey.datas ks)) = true := by
  have h1 := depthAll_le h
  have h2 : (PyData.list (NestedKey.datas ks)).depth ≤ 64 := by
    rw [PyData.depth, datas_depth]
    omega
  have h3 : (PyData.list (NestedKey.datas ks)).canLay0 = true := by
    rw [PyData.canLay0]
    exact tps_lay ks vs t
  show ((PyData.list (NestedKey.datas ks)).canLay0 && decide ((PyData.list (NestedKey.datas ks)).depth ≤ 64)) = true
  rw [h3, decide_eq_true h2]
  rfl
/-- a list that holds keys -/
theorem dp_list {K : PySem.W.Frag} {H : Hp} {a : Addr} {xs : List V} {ks : List NK} (h : SqL K H a xs) (r : TpAll K H xs ks) : Dp K H (.ref a) (.list (NestedKey.datas ks)) := .lst h (TpAll.dps ks xs r)
end SL
end

section
set_option Elab.async false
set_option linter.all false
set_option maxRecDepth 100000
set_option maxHeartbeats 4000000
/-! dicts whose keys are nested tuples of whole numbers, as tracked things -/
namespace SL
open PySem PySem.Spec PyProof.Rows L2

section
variable (P : Program) (w : World)
/-- what is true of such a dict's own object: ks its keys and where they stand, kvs its keys and values -/
def DMphi (d : Addr) (ks : List (NK × Addr)) (kvs : List (NK × V)) (h : Heap) : Prop :=
  kvs.length ≤ sizeLine ∧ (d == sysModules) = false ∧ (∀ p ∈ ks, p.1.depth ≤ 8) ∧ ∃ xs : List (NK × Addr × Value), xs.map (fun x => (x.1, x.2.1)) = ks ∧ KV kvs (pairsH xs) ∧
    ∃ o es ep, h.get? d = some o ∧ o.ExactDict ∧ o.data = .dict es ep ∧ es.toList = xs.map (entryOfKey (nestedKind P w)) ∧ (xs.map (·.1)).Nodup
def DM (d : Addr) (ks : List (NK × Addr)) (kvs : List (NK × V)) : HO := .ext (DMphi P w d ks kvs)
/-- at d stands a dict of these keys and values -/
def DAt (K : PySem.W.Frag) (H : Hp) (d : Addr) (kvs : List (NK × V)) : Prop := ∃ ks, H d = some (DM P w d ks kvs) ∧ ∀ p ∈ ks, Tp K H (.ref p.2) p.1
end
section
variable {P : Program} {w : World} {K : PySem.W.Frag} {H H' : Hp} {h : Heap} {d : Addr} {kvs : List (NK × V)}
theorem Gr.dat (g : Gr H H') (x : DAt P w K H d kvs) : DAt P w K H' d kvs := by
  obtain ⟨ks, e, t⟩ := x
  exact ⟨ks, g.ext e, fun p hp => g.tp (t p hp)⟩
/-- another thing than a tuple or this dict was changed -/
theorem DAt.but {p : Addr} (x : DAt P w K H d kvs) (hd : d ≠ p) (hb : ∀ b, b ≠ p → H' b = H b) (ht : ∀ xs, ¬ Rd H p (.tup xs)) : DAt P w K H' d kvs := by
  obtain ⟨ks, e, t⟩ := x
  refine ⟨ks, by rw [hb d hd]; exact e, fun q hq => Tp.mono (fun a xs z => ?_) _ _ (t q hq)⟩
  rcases z with z | z
  · have ha : a ≠ p := fun ea => ht xs (ea ▸ z)
    rcases z with z | ⟨o, z⟩
    · exact .inl (.inl (by rw [hb a ha]; exact z))
    · exact .inl (.inr ⟨o, by rw [hb a ha]; exact z⟩)
  · exact .inr z
theorem tp_but {p : Addr} {v : V} {k : NK} (hb : ∀ b, b ≠ p → H' b = H b) (ht : ∀ xs, ¬ Rd H p (.tup xs)) (t : Tp K H v k) : Tp K H' v k :=
  Tp.mono (fun a xs z => by
    rcases z with z | z
    · have ha : a ≠ p := fun ea => ht xs (ea ▸ z)
      rcases z with z | ⟨o, z⟩
      · exact .inl (.inl (by rw [hb a ha]; exact z))
      · exact .inl (.inr ⟨o, by rw [hb a ha]; exact z⟩)
    · exact .inr z) k v t
theorem not_tup_ext {p : Addr} {f : Heap → Prop} (e : H p = some (.ext f)) : ∀ xs, ¬ Rd H p (.tup xs) := fun xs z => by
  rcases z with z | ⟨o, z⟩
  · rw [e] at z
    cases z
  · rw [e] at z
    cases z
theorem not_tup_lst {p : Addr} {ys : List V} (e : H p = some (.lst ys)) : ∀ xs, ¬ Rd H p (.tup xs) := fun xs z => by
  rcases z with z | ⟨o, z⟩
  · rw [e] at z
    cases z
  · rw [e] at z
    cases z
theorem not_tup_none {p : Addr} (e : H p = none) : ∀ xs, ¬ Rd H p (.tup xs) := fun xs z => by
  rcases z with z | ⟨o, z⟩
  · rw [e] at z
    cases z
  · rw [e] at z
    cases z
theorem dm_ok {ks : List (NK × Addr)} (x : DMphi P w d ks kvs h) : ObjOk P w H h d (DM P w d ks kvs) := by
  refine ⟨x, ?_, fun h1 h2 y k => ?_⟩
  · obtain ⟨_, _, _, xs, _, _, o, es, ep, ho, _⟩ := x
    exact ⟨o, ho⟩
  · obtain ⟨z, s, dp, xs, e1, e2, o, es, ep, ho, r⟩ := y
    exact ⟨z, s, dp, xs, e1, e2, o, es, ep, k o ho, r⟩
theorem dm_new (h : Heap) (hb : sysModules < h.objs.size) : DMphi P w h.objs.size [] [] (h.push { cls := .type "dict", data := .dict #[] }) :=
  ⟨Nat.zero_le _, beq_eq_false_iff_ne.mpr (Ne.symm (Nat.ne_of_lt hb)), (fun p hp => by cases hp), [], rfl, Paired.nil, _, #[], 0, Heap.get?_push_size _ rfl, ⟨rfl, rfl, rfl⟩, rfl, rfl, List.nodup_nil⟩
end
section
variable {X : Cx} {pins : List (Addr × Obj)} {σ : L2.St} {H : Hp} {s : Shared} {d b : Addr} {k : NK} {kvs : List (NK × V)} {A : Around} {E : Value → Shared → Prop}
/-- a tracked key -/
theorem key_is (I : Inv X pins σ H s) (t : Tp X.K H (.ref b) k) (hd : k.depth ≤ 8) : (nestedKind X.prog X.w).is s.heap k b := ⟨nested_of I k _ _ t rfl, hd⟩
/-- what the dict is in the heap -/
theorem dat_raw (I : Inv X pins σ H s) (x : DAt X.prog X.w X.K H d kvs) : kvs.length ≤ sizeLine ∧ (d == sysModules) = false ∧ ∃ (ks : List (NK × Addr)) (xs : List (NK × Addr × Value)), H d = some (DM X.prog X.w d ks kvs) ∧ (∀ p ∈ ks, Tp X.K H (.ref p.2) p.1 ∧ p.1.depth ≤ 8) ∧ xs.map (fun x => (x.1, x.2.1)) = ks ∧ KV kvs (pairsH xs) ∧
    s.heap.DictOfH (nestedKind X.prog X.w) d xs := by
  obtain ⟨ks, e, t⟩ := x
  obtain ⟨⟨z, sm, dp, xs, e1, e2, o, es, ep, ho, hx, hd, he, nd⟩, _, _⟩ := (show ObjOk X.prog X.w H s.heap d (DM X.prog X.w d ks kvs) from I.hok d _ e)
  refine ⟨z, sm, ks, xs, e, fun p hp => ⟨t p hp, dp p hp⟩, e1, e2, o, es, ep, ho, hx, hd, he, fun x hx' => ?_, nd⟩
  have hm : (x.1, x.2.1) ∈ ks := by
    rw [← e1]
    exact List.mem_map.mpr ⟨x, hx', rfl⟩
  exact key_is I (t _ hm) (dp _ hm)
theorem dat_keyed (I : Inv X pins σ H s) (x : DAt X.prog X.w X.K H d kvs) : ∃ vs, KV kvs vs ∧ s.heap.DictKeyed (nestedKind X.prog X.w) d vs ∧ kvs.length ≤ sizeLine ∧ (d == sysModules) = false := by
  obtain ⟨z, sm, ks, xs, e, t, e1, e2, dd⟩ := dat_raw I x
  exact ⟨_, e2, ⟨xs, dd, rfl⟩, z, sm⟩
theorem nk_room (hu : A.units + 9 < cLine) : (nestedKind X.prog X.w).room A.in1 := by
  show A.units + 1 + 8 < cLine
  omega
theorem m_in {Q : Value → Shared → Prop} (hu : A.units + 9 < cLine) (I : Inv X pins σ H s) (t : Tp X.K H (.ref b) k) (hd : k.depth ≤ 8) (x : DAt X.prog X.w X.K H d kvs) (h : ∀ s', Inv X pins σ H s' → Q (.bool (valV kvs k).isSome) s') :
    wpAny (model X.prog X.w) A (compareOp .In (.ref b) (.ref d)) Q E s := by
  obtain ⟨vs, r, dd, z, sm⟩ := dat_keyed I x
  refine in_keyed (knd := nestedKind X.prog X.w) (nk_room hu) (key_is I t hd) sm dd ?_
  rw [← (r.val k).isSome_eq]
  exact h _ (I.tok _)
theorem m_notin {Q : Value → Shared → Prop} (hu : A.units + 9 < cLine) (I : Inv X pins σ H s) (t : Tp X.K H (.ref b) k) (hd : k.depth ≤ 8) (x : DAt X.prog X.w X.K H d kvs) (h : ∀ s', Inv X pins σ H s' → Q (.bool (!(valV kvs k).isSome)) s') :
    wpAny (model X.prog X.w) A (compareOp .NotIn (.ref b) (.ref d)) Q E s := by
  obtain ⟨vs, r, dd, z, sm⟩ := dat_keyed I x
  refine notIn_keyed (knd := nestedKind X.prog X.w) (nk_room hu) (key_is I t hd) sm dd ?_
  rw [← (r.val k).isSome_eq]
  exact h _ (I.tok _)
theorem m_get {v : V} {Q : Value → Shared → Prop} (hu : A.units + 9 < cLine) (I : Inv X pins σ H s) (t : Tp X.K H (.ref b) k) (hd : k.depth ≤ 8) (x : DAt X.prog X.w X.K H d kvs) (hv : valV kvs k = some v) (h : ∀ u s', Inv X pins σ H s' → RelV v u → Q u s') :
    wpAny (model X.prog X.w) A (getItem (.ref d) (.ref b)) Q E s := by
  obtain ⟨vs, r, dd, z, sm⟩ := dat_keyed I x
  have rr := r.val k
  rw [hv] at rr
  obtain ⟨u, hu', ru⟩ := rr.some_of
  exact getItem_keyed (knd := nestedKind X.prog X.w) (nk_room hu) (key_is I t hd) dd hu' (h u _ (I.tok _) ru)
theorem storedH_keys (xs : List (NK × Addr × Value)) (k : NK) (a : Addr) (v : Value) : ∀ p ∈ (storedH xs k a v).map (fun x => (x.1, x.2.1)), p ∈ xs.map (fun x => (x.1, x.2.1)) ∨ p = (k, a) := by
  intro p hp
  unfold storedH at hp
  split at hp
  · rw [List.map_map] at hp
    obtain ⟨x, hx, e⟩ := List.mem_map.mp hp
    refine .inl (List.mem_map.mpr ⟨x, hx, ?_⟩)
    rw [← e]
    show (x.1, x.2.1) = ((putAt k v x).1, (putAt k v x).2.1)
    unfold putAt
    split <;> rfl
  · rw [List.map_append] at hp
    rcases List.mem_append.mp hp with hp | hp
    · exact .inl hp
    · rw [List.map_cons, List.map_nil, List.mem_singleton] at hp
      exact .inr hp
/-- the dict is stored to -/
theorem m_put {v : V} {h' : Heap} {t' : Nat} (I : Inv X pins σ H s) (t : Tp X.K H (.ref b) k) (hd : k.depth ≤ 8) {ks : List (NK × Addr)} {xs : List (NK × Addr × Value)} (hD : H d = some (DM X.prog X.w d ks kvs)) (hks : ∀ p ∈ ks, Tp X.K H (.ref p.2) p.1 ∧ p.1.depth ≤ 8) (sm : (d == sysModules) = false)
    (e1 : xs.map (fun x => (x.1, x.2.1)) = ks) (e2 : KV kvs (pairsH xs)) (hz : kvs.length < sizeLine) {u : Value} (rv : RelV v u) (dd : h'.DictOfH (nestedKind X.prog X.w) d (storedH xs k b u)) (hs : Heap.SameBut d s.heap h') :
    ∃ H', Inv X pins σ H' { s with heap := h', toks := t' } ∧ (∀ c, c ≠ d → H' c = H c) ∧ DAt X.prog X.w X.K H' d (putK kvs k v) := by
  have hl : (putK kvs k v).length ≤ sizeLine := by have := length_putK kvs k v; omega
  have kv2 : KV (putK kvs k v) (pairsH (storedH xs k b u)) := by
    rw [pairsH_storedH]
    exact e2.put k rv
  have kp : ∀ p ∈ (storedH xs k b u).map (fun x => (x.1, x.2.1)), Tp X.K H (.ref p.2) p.1 ∧ p.1.depth ≤ 8 := fun p hp => by
    rcases storedH_keys xs k b u p hp with z | z
    · rw [e1] at z
      exact hks p z
    · rw [z]
      exact ⟨t, hd⟩
  have nt := not_tup_ext hD
  obtain ⟨o, es, ep, ho, hx, hdt, he, _, nd⟩ := dd
  have new : DMphi X.prog X.w d ((storedH xs k b u).map fun x => (x.1, x.2.1)) (putK kvs k v) h' :=
    ⟨hl, sm, fun p hp => (kp p hp).2, storedH xs k b u, rfl, kv2, o, es, ep, ho, hx, hdt, he, nd⟩
  have hb : ∀ c, c ≠ d → (upd H d (DM X.prog X.w d ((storedH xs k b u).map fun x => (x.1, x.2.1)) (putK kvs k v))) c = H c := fun c hc => upd_ne hc
  exact ⟨_, d_write (ob := DM X.prog X.w d ((storedH xs k b u).map fun x => (x.1, x.2.1)) (putK kvs k v)) I (by rw [hD]; exact True.intro) hs ⟨o, ho⟩ (dm_ok new), hb,
    _, upd_same, fun p hp => tp_but hb nt (kp p hp).1⟩
theorem m_set {v : V} {u : Value} {Q : Unit → Shared → Prop} (hu : A.units + 9 < cLine) (I : Inv X pins σ H s) (t : Tp X.K H (.ref b) k) (hd : k.depth ≤ 8) (x : DAt X.prog X.w X.K H d kvs) (hz : kvs.length < sizeLine) (rv : RelV v u)
    (h : ∀ H' s', Inv X pins σ H' s' → (∀ c, c ≠ d → H' c = H c) → DAt X.prog X.w X.K H' d (putK kvs k v) → Q () s') : wpAny (model X.prog X.w) A (setItem (.ref d) (.ref b) u) Q E s := by
  obtain ⟨z, sm, ks, xs, e, tt, e1, e2, dd⟩ := dat_raw I x
  have hl : xs.length ≤ sizeLine := by
    have q := e2.length
    rw [pairsH_length] at q
    omega
  refine wpAny_setItem_heap (hsz := hl) (nk_room (X := X) hu) (key_is I t hd) dd fun h' dd' hs => ?_
  obtain ⟨H', I', a, b'⟩ := m_put (t' := s.toks + (nestedKind X.prog X.w).draws k) I t hd e tt sm e1 e2 hz rv dd' hs
  exact h H' _ I' a b'
/-- as a display and a comprehension store -/
theorem m_dictSet {v : V} {u : Value} {Q : Unit → Shared → Prop} (hu : A.units + 9 < cLine) (I : Inv X pins σ H s) (t : Tp X.K H (.ref b) k) (hd : k.depth ≤ 8) (x : DAt X.prog X.w X.K H d kvs) (hz : kvs.length < sizeLine) (rv : RelV v u)
    (h : ∀ H' s', Inv X pins σ H' s' → (∀ c, c ≠ d → H' c = H c) → DAt X.prog X.w X.K H' d (putK kvs k v) → Q () s') : wpAny (model X.prog X.w) A (dictSet d (.ref b) u) Q E s := by
  obtain ⟨z, sm, ks, xs, e, tt, e1, e2, dd⟩ := dat_raw I x
  have hl : xs.length ≤ sizeLine := by
    have q := e2.length
    rw [pairsH_length] at q
    omega
  have hr : (nestedKind X.prog X.w).room A := by
    show A.units + 8 < cLine
    omega
  refine wpAny_dictSet_heap (hsz := hl) hr (key_is I t hd) dd fun h' dd' hs => ?_
  obtain ⟨H', I', a, b'⟩ := m_put (t' := s.toks + (nestedKind X.prog X.w).draws k) I t hd e tt sm e1 e2 hz rv dd' hs
  exact h H' _ I' a b'
end

/-! ### the rules -/
section
variable {X : Cx}
def rInM (K : PySem.W.Frag) (P : Program) (w : World) : R2 := fun x y H Q => ∃ b k d kvs, x = .ref b ∧ y = .ref d ∧ Tp K H (.ref b) k ∧ k.depth ≤ 8 ∧ DAt P w K H d kvs ∧ Q (.bl (valV kvs k).isSome) H
def rNotInM (K : PySem.W.Frag) (P : Program) (w : World) : R2 := fun x y H Q => ∃ b k d kvs, x = .ref b ∧ y = .ref d ∧ Tp K H (.ref b) k ∧ k.depth ≤ 8 ∧ DAt P w K H d kvs ∧ Q (.bl (!(valV kvs k).isSome)) H
theorem op_inM (hu : X.A.units + 9 < cLine) : OpR X (compareOp .In) (rInM X.K X.prog X.w) := by
  intro pins s σ H x y v u Q I rx ry h
  obtain ⟨b, k, d, kvs, rfl, rfl, t, hd, m, q⟩ := h
  obtain rfl := rx
  obtain rfl := ry
  exact m_in hu I t hd m fun s' I' => ⟨.bl _, H, I', rfl, q⟩
theorem op_notinM (hu : X.A.units + 9 < cLine) : OpR X (compareOp .NotIn) (rNotInM X.K X.prog X.w) := by
  intro pins s σ H x y v u Q I rx ry h
  obtain ⟨b, k, d, kvs, rfl, rfl, t, hd, m, q⟩ := h
  obtain rfl := rx
  obtain rfl := ry
  exact m_notin hu I t hd m fun s' I' => ⟨.bl _, H, I', rfl, q⟩
def rIxM (K : PySem.W.Frag) (P : Program) (w : World) : R2 := fun y x H Q => ∃ b k d kvs v, x = .ref b ∧ y = .ref d ∧ Tp K H (.ref b) k ∧ k.depth ≤ 8 ∧ DAt P w K H d kvs ∧ valV kvs k = some v ∧ Q v H
theorem ix_M (hu : X.A.units + 9 < cLine) : IxR X (rIxM X.K X.prog X.w) := by
  intro value slice pins s σ H x y v u Q I rx ry h hs
  obtain ⟨b, k, d, kvs, z, rfl, rfl, t, hd, m, hv, q⟩ := h
  obtain rfl := rx
  obtain rfl := ry
  obtain ⟨vs, r, dd, _, _⟩ := dat_keyed I m
  have rr := r.val k
  rw [hv] at rr
  obtain ⟨u, hu', ru⟩ := rr.some_of
  exact subscriptTail_builtinR (x := u) dd.typeIs PySem.F.slot_dict_getitem.lookup
    (getItem_keyed (knd := nestedKind X.prog X.w) (Q := fun r s' => r = u ∧ EP X pins σ Q r s') (nk_room hu) (key_is I t hd) dd hu' ⟨rfl, z, H, I.tok _, ru, q⟩) hs
def rSetM (K : PySem.W.Frag) (P : Program) (w : World) : TSet := fun o i v H Q => ∃ b k d kvs, i = .ref b ∧ o = .ref d ∧ Tp K H (.ref b) k ∧ k.depth ≤ 8 ∧ DAt P w K H d kvs ∧ kvs.length < sizeLine ∧
  ∀ H', (∀ c, c ≠ d → H' c = H c) → DAt P w K H' d (putK kvs k v) → Q H'
theorem set_M (hu : X.A.units + 9 < cLine) : PSet X (rSetM X.K X.prog X.w) := by
  intro pins s σ H o i v ov iv u Q I ro ri rv h
  obtain ⟨b, k, d, kvs, rfl, rfl, t, hd, m, hz, q⟩ := h
  obtain rfl := ro
  obtain rfl := ri
  exact m_set hu I t hd m hz rv fun H' s' I' a b' => ⟨H', I', q H' a b'⟩
/-- {} -/
def tDNewM (P : Program) (w : World) (K : PySem.W.Frag) : TE := fun _ H Q => ∀ p H', H p = none → (∀ c, c ≠ p → H' c = H c) → DAt P w K H' p [] → Q (.ref p) H'
theorem pe_dnewM {pos : Pos} : PE X (.Dict [] [] pos) (tDNewM X.prog X.w X.K) := ⟨fun pins s σ H Q I h =>
  wpAny_Dict_empty ⟨.ref s.heap.objs.size, _, I.laid (a := s.heap.objs.size) (o := DM X.prog X.w s.heap.objs.size [] []) (t' := s.toks) (fun _ _ q => Heap.get?_push_of_some _ q) (Nat.le_refl _) (dm_ok (dm_new s.heap I.big)), rfl,
    h _ _ (I.hok.fresh (Nat.le_refl _)) (fun c hc => upd_ne hc) ⟨[], upd_same, fun p hp => by cases hp⟩⟩⟩
end
end SL
end

section
set_option Elab.async false
set_option linter.all false
set_option maxRecDepth 100000
set_option maxHeartbeats 4000000
/-! dicts of nested keys: merged, copied, listed -/
namespace SL
open PySem PySem.Spec PyProof.Rows L2

section
variable {prog : Program} {w : World} {K : Type} [DecidableEq K] {knd : HeapKind prog w K} {A : Around} {E : Value → Shared → Prop} {s : Shared}
theorem dictPut_heap {d a : Addr} {xs : List (K × Addr × Value)} {k : K} {v : Value} {Q : Unit → Shared → Prop} (hu : knd.room A) (hkey : knd.is s.heap k a) (hm : s.heap.DictOfH knd d xs)
    (hQ : ∀ h', h'.DictOfH knd d (storedH xs k a v) → Heap.SameBut d s.heap h' → Q () { s with heap := h' }) (hsz : xs.length ≤ sizeLine) :
    wpAny (model prog w) A (dictPut d (knd.hash k) (.ref a) v) Q E s := by
  obtain ⟨o, es, ep, ho, hc, hd, he, his, hn⟩ := hm
  unfold dictPut
  refine wpAny_bind (wpAny_dictFind_heap hu hkey ho hd he his hn (fun hno => ?_) fun j p hj => ?_)
  · have hnot : k ∉ xs.map (·.1) := not_mem_keys_of_get hno
    have e0 := storedH_new (atKey_none_of_get hno) a v
    refine wpAny_updateDictKeys (hz := by have e := size_of_entries he; omega) ho hd (hQ _ ⟨_, _, ep + 1, Heap.get?_update_self _ ho (Obj.isFreed_of_dict (Obj.data_mapDictKeys hd _)),
      hc.mapDictKeys _, Obj.data_mapDictKeys hd _, by rw [e0]; simp [he, entryOfKey], fun x hx => ?_, ?_⟩ (Heap.SameBut.update ..))
    · rw [e0] at hx
      rcases List.mem_append.mp hx with hx | hx
      · exact knd.keeps (his x hx) ho hd (Heap.SameBut.update ..)
      · rw [List.mem_singleton.mp hx]
        exact knd.keeps hkey ho hd (Heap.SameBut.update ..)
    · rw [e0, List.map_append, List.nodup_append]
      refine ⟨hn, by simp, fun x hx y hy => ?_⟩
      rw [List.map_cons, List.map_nil, List.mem_singleton] at hy
      rw [hy]
      exact fun e => hnot (by rw [show k = x from e.symm]; exact hx)
  · have e0 := storedH_old (atKey_of_get hn hj) a v
    refine wpAny_updateDict ho hd (hQ _ ⟨_, _, ep, Heap.get?_update_self _ ho (Obj.isFreed_of_dict (Obj.data_mapDict hd _)),
      hc.mapDict _, Obj.data_mapDict hd _, ?_, fun x hx => ?_, ?_⟩ (Heap.SameBut.update ..))
    · rw [e0]
      have q := modify_map_putAt (entryOfKey knd) (fun e : DictEntry => { e with val := v }) k v (fun _ _ => rfl) hn hj
      rw [← he] at q
      obtain ⟨l⟩ := es
      simpa using q
    · rw [e0] at hx
      obtain ⟨y, hy, rfl⟩ := List.mem_map.mp hx
      unfold putAt
      split <;> exact knd.keeps (his y hy) ho hd (Heap.SameBut.update ..)
    · rw [e0, keys_map_putAt]
      exact hn
/-- {**.., **m}: the pairs of m are stored one by one -/
theorem mergeMapping_heap {d o : Addr} {kvs more : List (K × Addr × Value)} {Q : Unit → Shared → Prop} (hu : knd.room A) (hdo : d ≠ o) (hoS : (o == sysModules) = false)
    (hd : s.heap.DictOfH knd d kvs) (ho : s.heap.DictOfH knd o more) (hty : ∀ x ∈ more, s.TypeIs (.ref x.2.1) "tuple") (hap : kvs ≠ [] ∨ (more.map fun x => knd.hash x.1).Nodup)
    (hQ : ∀ h', h'.DictOfH knd d (storedAllH kvs more) → h'.DictOfH knd o more → Heap.SameBut d s.heap h' → Q () { s with heap := h' }) (hsz : kvs.length + more.length ≤ sizeLine) :
    wpAny (model prog w) A (mergeMapping d (.ref o) false) Q E s := by
  obtain ⟨od, esd, epd, hod, hcd, hdd, hed, hisd, hnd⟩ := id hd
  obtain ⟨oo, eso, epo, hoo, hco, hdo', heo, hiso, hno⟩ := id ho
  have hlen : eso.size = more.length := size_of_entries heo
  -- the pairs, one by one
  have loop : wpAny (model prog w) A (do
      let l ← dictEntries o
      let epoch ← dictEpoch o
      forIn (List.range l.size) PUnit.unit fun i (_ : PUnit) => (do
          let l' ← dictEntries o
          match l'[i]? with
            | some e => do
              holding [e.key, e.val] (dictPut d e.hash e.key e.val)
              let ep' ← dictEpoch o
              if (ep' != epoch) = true then do
                  (unsupported "dict.changed-during-merge" : Sem PUnit)
                  pure (ForInStep.yield PUnit.unit)
                else pure (ForInStep.yield PUnit.unit)
            | _ => do
              (unsupported "dict.changed-during-merge" : Sem PUnit)
              pure (ForInStep.yield PUnit.unit) : Sem (ForInStep PUnit))
      pure ()) Q E s := by
    refine wpAny_bind (wpAny_dictEntries hoo hdo' ?_)
    refine wpAny_bind (wpAny_dictEpoch hoo hdo' ?_)
    refine wpAny_bind ?_
    refine wpAny_forIn_list _
      (fun rest _ s' => ∃ h' i, s' = { s with heap := h' } ∧ rest = (List.range eso.size).drop i ∧ i ≤ eso.size ∧ h'.DictOfH knd d (storedAllH kvs (more.take i)) ∧ h'.DictOfH knd o more ∧ h'.get? o = some oo ∧ Heap.SameBut d s.heap h')
      _ ?_ ?_ _ _ ⟨s.heap, 0, rfl, by simp, Nat.zero_le _, by simpa [storedAllH] using hd, ho, hoo, Heap.SameBut.refl _ _⟩
    · rintro x rest b s' ⟨h', i, rfl, hr, hi, hd', ho', hoo', hs'⟩
      have hlt : i < eso.size := by
        rcases Nat.lt_or_ge i eso.size with h | h
        · exact h
        · rw [List.drop_of_length_le (by simpa using h)] at hr
          cases hr
      obtain ⟨rfl, hrest⟩ : x = i ∧ rest = (List.range eso.size).drop (i + 1) := by
        rw [List.drop_eq_getElem_cons (by simpa using hlt)] at hr
        injection hr with h1 h2
        exact ⟨by rw [h1, List.getElem_range], h2⟩
      refine wpAny_bind (wpAny_dictEntries hoo' hdo' ?_)
      obtain ⟨⟨k, a, v⟩, hkv⟩ : ∃ kv, more[x]? = some kv := ⟨more[x]'(by rw [← hlen]; exact hlt), List.getElem?_eq_getElem _⟩
      rw [entry_at heo x, hkv]
      show wpAny _ _ (holding [.ref a, v] (dictPut d (knd.hash k) (.ref a) v) >>= _) _ _ _
      have hmx : (storedAllH kvs (more.take x)).length ≤ sizeLine := by
        have e1 := storedAllH_length (more.take x) kvs
        have e2 : (more.take x).length ≤ more.length := by rw [List.length_take]; omega
        omega
      have hkey : knd.is h' k a := by
        obtain ⟨_, _, _, _, _, _, _, his', _⟩ := ho'
        exact his' (k, a, v) (List.mem_of_getElem? hkv)
      refine wpAny_bind (wpAny_holding (dictPut_heap (s := { s with heap := h' }) hu hkey hd' (fun h'' hd'' hs'' => ?_) hmx))
      have hoo'' : h''.get? o = some oo := (hs''.2 o (Ne.symm hdo)).trans hoo'
      refine wpAny_bind (wpAny_dictEpoch hoo'' hdo' ?_)
      rw [if_neg (by simp)]
      exact wpAny_pure ⟨h'', x + 1, rfl, hrest, hlt, by rw [storedAllH_take_succ kvs more x (k, a, v) hkv]; exact hd'', ho'.notHere hd' hdo hs'', hoo'', hs'.trans hs''⟩
    · rintro b s' ⟨h', i, rfl, hr, hi, hd', ho', hoo', hs'⟩
      have hin : i = eso.size := by
        rcases Nat.lt_or_ge i eso.size with h | h
        · rw [List.drop_eq_getElem_cons (by simpa using h)] at hr
          cases hr
        · exact Nat.le_antisymm hi h
      refine wpAny_pure (hQ h' ?_ ho' hs')
      rw [hin, hlen, List.take_length] at hd'
      exact hd'
  unfold mergeMapping
  refine wpAny_bind (wpAny_isInstance ho.typeIs isSubtype_dict_dict ?_)
  rw [if_pos rfl]
  refine wpAny_bind (wpAny_specialOf ho.typeIs PySem.F.slot_dict_iter.lookup ?_)
  refine wpAny_bind (wpAny_pure ?_)
  simp only [beq_self_eq_true]
  rw [if_neg (by rw [hoS]; exact Bool.false_ne_true)]
  refine wpAny_bind (wpAny_dictEntries hod hdd ?_)
  by_cases hemp : esd.isEmpty = true
  · rw [if_pos hemp]
    refine wpAny_bind (wpAny_dictEntries hoo hdo' ?_)
    have hkvs : kvs = [] := by
      have h0 : esd = #[] := Array.isEmpty_iff.mp hemp
      have q := size_of_entries hed
      rw [h0] at q
      exact List.length_eq_zero_iff.mp (by simpa using q.symm)
    have hap' := hap.resolve_left fun h => h hkvs
    refine wpAny_bind ?_
    rw [← Array.forIn_toList]
    refine wpAny_forIn_list _ (fun rest _ s' => s' = s ∧ ∀ e ∈ rest, KeyApart s eso e) _ ?_ ?_ _ _ ⟨rfl, keysApart heo hty hap'⟩
    · rintro e rest b s' ⟨rfl, hall⟩
      have hrest : ∀ x ∈ rest, KeyApart s' eso x := fun x hx => hall x (List.mem_cons_of_mem _ hx)
      rcases hall e List.mem_cons_self with hv | ⟨a, hk, hT, h1⟩
      · have hn : ∀ a, e.key ≠ .ref a := fun a ea => by
          rw [ea] at hv
          cases hv
        cases q : e.key with
        | ref a => exact absurd q (hn a)
        | _ => exact wpAny_pure ⟨rfl, hrest⟩
      · rw [hk]
        refine wpAny_bind (wpAny_specialOf hT PySem.F.slot_tuple_eq.lookup ?_)
        refine wpAny_ite_split (fun _ => ?_) (fun _ => wpAny_pure ⟨rfl, hrest⟩)
        rw [if_neg (by omega)]
        exact wpAny_pure ⟨rfl, hrest⟩
    · rintro b s' ⟨rfl, _⟩
      exact loop
  · rw [if_neg hemp]
    exact loop
end

/-! ### merging tracked dicts -/
def mergeP (kvs more : List (NK × V)) : List (NK × V) := more.foldl (fun acc p => putK acc p.1 p.2) kvs
theorem mergeP_kv {more : List (NK × V)} {ms : List (NK × Value)} (r : KV more ms) : ∀ {kvs : List (NK × V)} {vs : List (NK × Value)}, KV kvs vs → KV (mergeP kvs more) (merged vs ms) := by
  unfold KV at r
  induction r with
  | nil => exact fun q => q
  | @cons p q ps qs h t ih =>
    intro kvs vs rr
    obtain ⟨h1, h2⟩ := h
    have e : merged vs (q :: qs) = merged (stored vs q.1 q.2) qs := rfl
    have e2 : mergeP kvs (p :: ps) = mergeP (putK kvs p.1 p.2) ps := rfl
    rw [e, e2]
    refine ih ?_
    rw [← show p.1 = q.1 from h1]
    exact rr.put p.1 h2
theorem mergeP_length : ∀ (more kvs : List (NK × V)), (mergeP kvs more).length ≤ kvs.length + more.length
  | [], kvs => Nat.le_refl _
  | p :: ps, kvs => by
    have h := mergeP_length ps (putK kvs p.1 p.2)
    have h2 := length_putK kvs p.1 p.2
    show (mergeP (putK kvs p.1 p.2) ps).length ≤ _
    rw [List.length_cons]
    omega
theorem storedAllH_keys : ∀ (ys xs : List (NK × Addr × Value)), ∀ p ∈ (storedAllH xs ys).map (fun x => (x.1, x.2.1)), p ∈ xs.map (fun x => (x.1, x.2.1)) ∨ p ∈ ys.map (fun x => (x.1, x.2.1))
  | [], xs, p, hp => .inl hp
  | y :: ys, xs, p, hp => by
    have hp2 : p ∈ (storedAllH (storedH xs y.1 y.2.1 y.2.2) ys).map (fun x => (x.1, x.2.1)) := hp
    rcases storedAllH_keys ys _ p hp2 with h | h
    · rcases storedH_keys xs y.1 y.2.1 y.2.2 p h with h | h
      · exact .inl h
      · exact .inr (by rw [h, List.map_cons]; exact List.mem_cons_self)
    · exact .inr (by rw [List.map_cons]; exact List.mem_cons_of_mem _ h)
section
variable {X : Cx} {pins : List (Addr × Obj)} {σ : L2.St} {H : Hp} {s : Shared} {d o : Addr} {kvs more : List (NK × V)} {A : Around} {E : Value → Shared → Prop}
theorem raw_tuples (I : Inv X pins σ H s) {ks : List (NK × Addr)} {xs : List (NK × Addr × Value)} (t : ∀ p ∈ ks, Tp X.K H (.ref p.2) p.1 ∧ p.1.depth ≤ 8) (e1 : xs.map (fun x => (x.1, x.2.1)) = ks) : ∀ x ∈ xs, s.TypeIs (.ref x.2.1) "tuple" := fun x hx => by
  have hm : (x.1, x.2.1) ∈ ks := by
    rw [← e1]
    exact List.mem_map.mpr ⟨x, hx, rfl⟩
  have q := nested_of I _ _ _ (t _ hm).1 (rfl : RelV (.ref x.2.1) (.ref x.2.1))
  have q2 : NestedIs s.heap x.1 (.ref x.2.1) := q
  generalize x.1 = k at q2
  cases q2 with
  | tup h1 h2 _ _ => exact ⟨_, h1, h2⟩
theorem raw_hashes {xs : List (NK × Addr × Value)} (e2 : KV more (pairsH xs)) (hn : (more.map fun p => p.1.hash X.w).Nodup) : (xs.map fun x => (nestedKind X.prog X.w).hash x.1).Nodup := by
  have e := e2.keys
  have e3 : xs.map (fun x => (nestedKind X.prog X.w).hash x.1) = (more.map (·.1)).map fun k => k.hash X.w := by
    rw [e]
    unfold pairsH
    rw [List.map_map, List.map_map]
    rfl
  rw [e3, List.map_map]
  exact hn
/-- from a dict in the heap to a tracked one -/
theorem dm_of_raw {h' : Heap} {ys : List (NK × Addr × Value)} {kvs' : List (NK × V)} (sm : (d == sysModules) = false) (hz : kvs'.length ≤ sizeLine) (kp : ∀ p ∈ ys.map (fun x => (x.1, x.2.1)), p.1.depth ≤ 8) (kv : KV kvs' (pairsH ys)) (dd : h'.DictOfH (nestedKind X.prog X.w) d ys) :
    DMphi X.prog X.w d (ys.map fun x => (x.1, x.2.1)) kvs' h' := by
  obtain ⟨ob, es, ep, ho, hx, hdt, he, _, nd⟩ := dd
  exact ⟨hz, sm, kp, ys, rfl, kv, ob, es, ep, ho, hx, hdt, he, nd⟩
theorem m_merge {Q : Unit → Shared → Prop} (hu : A.units + 8 < cLine) (I : Inv X pins σ H s) (hd : DAt X.prog X.w X.K H d kvs) (ho : DAt X.prog X.w X.K H o more) (hdo : d ≠ o) (hap : kvs ≠ [] ∨ (more.map fun p => p.1.hash X.w).Nodup) (hsz : kvs.length + more.length ≤ sizeLine)
    (h : ∀ H' s', Inv X pins σ H' s' → (∀ c, c ≠ d → H' c = H c) → DAt X.prog X.w X.K H' d (mergeP kvs more) → Q () s') : wpAny (model X.prog X.w) A (mergeMapping d (.ref o) false) Q E s := by
  obtain ⟨z1, sm1, ks1, xs1, eH1, t1, e11, e12, dd1⟩ := dat_raw I hd
  obtain ⟨z2, sm2, ks2, xs2, eH2, t2, e21, e22, dd2⟩ := dat_raw I ho
  have l1 : xs1.length = kvs.length := by
    have q := e12.length
    rw [pairsH_length] at q
    exact q.symm
  have l2 : xs2.length = more.length := by
    have q := e22.length
    rw [pairsH_length] at q
    exact q.symm
  refine mergeMapping_heap (knd := nestedKind X.prog X.w) (by show A.units + 8 < cLine; exact hu) hdo sm2 dd1 dd2 (raw_tuples I t2 e21) ?_ (fun h' dd' _ hs => ?_) (by omega)
  · rcases hap with q | q
    · refine .inl fun e => q ?_
      rw [e] at l1
      exact List.length_eq_zero_iff.mp l1.symm
    · exact .inr (raw_hashes e22 q)
  · have kp : ∀ p ∈ (storedAllH xs1 xs2).map (fun x => (x.1, x.2.1)), Tp X.K H (.ref p.2) p.1 ∧ p.1.depth ≤ 8 := fun p hp => by
      rcases storedAllH_keys xs2 xs1 p hp with q | q
      · rw [e11] at q
        exact t1 p q
      · rw [e21] at q
        exact t2 p q
    have kv : KV (mergeP kvs more) (pairsH (storedAllH xs1 xs2)) := by
      rw [pairsH_storedAllH]
      exact mergeP_kv e22 e12
    have hz := mergeP_length more kvs
    have new := dm_of_raw (X := X) sm1 (by omega) (fun p hp => (kp p hp).2) kv dd'
    have hb : ∀ c, c ≠ d → (upd H d (DM X.prog X.w d ((storedAllH xs1 xs2).map fun x => (x.1, x.2.1)) (mergeP kvs more))) c = H c := fun c hc => upd_ne hc
    obtain ⟨ob, _, _, hob, _⟩ := id dd'
    exact h _ _ (d_write (t' := s.toks) (ob := DM X.prog X.w d ((storedAllH xs1 xs2).map fun x => (x.1, x.2.1)) (mergeP kvs more)) I (by rw [eH1]; exact True.intro) hs ⟨ob, hob⟩ (dm_ok new)) hb
      ⟨_, upd_same, fun p hp => tp_but hb (not_tup_ext eH1) (kp p hp).1⟩
end

/-! ### {**a, **b} -/
theorem display_two (a b : Sem Value) : dictDisplay [(none, a), (none, b)] = (do
    let d ← alloc { cls := .type "dict", data := .dict #[] }
    let m ← holding [.ref d] a
    (((holding [.ref d, m] (mergeMapping d m false)).onRaise fun x => do let _ ← holding [.ref d, m, x] (runValue (.builtin "proto.let_go" {}))).tryCatch fun e => do
      if ← isInstance e (.type "AttributeError") then
        rule "dict.display.not-a-mapping"; raiseError "TypeError" s!"'{← typeNameOf m}' object is not a mapping"
      throw e).onRaise fun x => do let _ ← holding [.ref d, x] (runValue (.builtin "proto.let_go" {}))
    let m2 ← holding [.ref d] b
    (((holding [.ref d, m2] (mergeMapping d m2 false)).onRaise fun x => do let _ ← holding [.ref d, m2, x] (runValue (.builtin "proto.let_go" {}))).tryCatch fun e => do
      if ← isInstance e (.type "AttributeError") then
        rule "dict.display.not-a-mapping"; raiseError "TypeError" s!"'{← typeNameOf m2}' object is not a mapping"
      throw e).onRaise fun x => do let _ ← holding [.ref d, x] (runValue (.builtin "proto.let_go" {}))
    pure (.ref d)) := by
  unfold dictDisplay
  simp
section
variable {X : Cx} {a b : Expr} {ta tb : TE}
def tMergeM (P : Program) (w : World) (K : PySem.W.Frag) (ta tb : TE) : TE := fun σ H Q => ∀ p H1, H p = none → (∀ c, c ≠ p → H1 c = H c) → DAt P w K H1 p [] → ta σ H1 fun x H2 => ∃ d kvs, x = .ref d ∧ p ≠ d ∧ DAt P w K H2 p [] ∧ DAt P w K H2 d kvs ∧
  (kvs.map fun p => p.1.hash w).Nodup ∧ ∀ H3, (∀ c, c ≠ p → H3 c = H2 c) → DAt P w K H3 p (mergeP [] kvs) → tb σ H3 fun y H4 => ∃ d2 kvs2 kvs0, y = .ref d2 ∧ p ≠ d2 ∧ DAt P w K H4 p kvs0 ∧ kvs0 ≠ [] ∧ DAt P w K H4 d2 kvs2 ∧ kvs0.length + kvs2.length ≤ sizeLine ∧
  ∀ H5, (∀ c, c ≠ p → H5 c = H4 c) → DAt P w K H5 p (mergeP kvs0 kvs2) → Q (.ref p) H5
theorem pe_mergeM {pos : Pos} (hu : X.A.units + 8 < cLine) (ha : PE X a ta) (hb : PE X b tb)
    (hs : (evalEachOpt [none, none] X.env).zip ((evalEach [a, b] X.env).map fun v => do let x ← v; standAt pos; pure x) = [(none, do let x ← eval a X.env; standAt pos; pure x), (none, do let x ← eval b X.env; standAt pos; pure x)] := by rfl) :
    PE X (.Dict [none, none] [a, b] pos) (tMergeM X.prog X.w X.K ta tb) := by
  refine ⟨fun pins s σ H Q I h => ?_⟩
  rw [arm_eval_Dict, hs, display_two]
  refine wpAny_bind (wpAny_standAt ?_)
  refine wpAny_bind (wpAny_alloc ?_)
  have np : H s.heap.objs.size = none := I.hok.fresh (Nat.le_refl _)
  have I1 : Inv X pins σ (upd H s.heap.objs.size (DM X.prog X.w s.heap.objs.size [] [])) { s with heap := s.heap.push { cls := .type "dict", data := .dict #[] } } :=
    I.laid (t' := s.toks) (fun _ _ q => Heap.get?_push_of_some _ q) (Nat.le_refl _) (dm_ok (dm_new s.heap I.big))
  generalize s.heap.objs.size = p at np I1 ⊢
  have h1 := h p _ np (fun c hc => upd_ne hc) ⟨[], upd_same, fun q hq => by cases hq⟩
  refine wpAny_bind (wpAny_holding (wpAny_bind (thn (ha.run pins _ σ _ _ I1 h1) fun u s2 ⟨x, H2, I2, rx, d, kvs, ex, npd, m1, m2, hn, q⟩ => wpAny_bind (wpAny_standAt (wpAny_pure ?_)))))
  subst ex
  obtain rfl : u = Value.ref d := rx
  refine wpAny_bind (wpAny_onRaise (wpAny_tryCatch (wpAny_onRaise (wpAny_holding ?_))))
  have hz2 := (dat_raw I2 m2).1
  refine m_merge hu I2 m1 m2 npd (.inr hn) (by rw [List.length_nil, Nat.zero_add]; exact hz2) fun H3 s3 I3 e3 m3 => ?_
  refine wpAny_bind (wpAny_holding (wpAny_bind (thn (hb.run pins _ σ _ _ I3 (q H3 e3 m3)) fun u s4 ⟨y, H4, I4, ry, d2, kvs2, kvs0, ey, npd2, m4, ne, m5, hz, q2⟩ => wpAny_bind (wpAny_standAt (wpAny_pure ?_)))))
  subst ey
  obtain rfl : u = Value.ref d2 := ry
  refine wpAny_bind (wpAny_onRaise (wpAny_tryCatch (wpAny_onRaise (wpAny_holding ?_))))
  exact m_merge hu I4 m4 m5 npd2 (.inl ne) hz fun H5 s5 I5 e5 m6 => wpAny_pure ⟨.ref p, H5, I5, rfl, q2 H5 e5 m6⟩
end

/-! ### list(d), d.values(), dict(d) -/
section
variable {X : Cx}
theorem paired_get {α β : Type} {F : α → β → Prop} : ∀ {xs : List α} {ys : List β} {i : Nat} {x : α}, Paired F xs ys → xs[i]? = some x → ∃ y, ys[i]? = some y ∧ F x y
  | _, _, _, _, .nil, e => by simp at e
  | _, _, 0, _, .cons r _, e => by
    simp at e
    subst e
    exact ⟨_, rfl, r⟩
  | _, _, i + 1, x, .cons _ t, e => by
    obtain ⟨u, h1, h2⟩ := paired_get (i := i) (x := x) t (by simpa using e)
    exact ⟨u, by simpa using h1, h2⟩
/-- a view of the values -/
def vwO (v d : Addr) : HO := .ext fun h => h.IsValuesView v d
theorem vals_of_items {vs : List V} {acc : Array Value} (hl : acc.size = vs.length) (h : ∀ (j : Nat) (v : Value), acc[j]? = some v → ∃ x, vs[j]? = some x ∧ RelV x v) : Vals vs acc.toList := by
  have key : ∀ (vs : List V) (us : List Value), us.length = vs.length → (∀ (j : Nat) (v : Value), us[j]? = some v → ∃ x, vs[j]? = some x ∧ RelV x v) → Vals vs us := by
    intro vs
    induction vs with
    | nil =>
      intro us hl _
      rw [List.length_eq_zero_iff.mp hl]
      exact .nil
    | cons y ys ih =>
      intro us hl h
      cases us with
      | nil => cases hl
      | cons u us =>
        obtain ⟨x, e, r⟩ := h 0 u rfl
        cases e
        exact .cons r (ih us (Nat.succ.inj hl) fun j v hj => h (j + 1) v hj)
  exact key vs acc.toList (by rw [Array.length_toList]; exact hl) fun j v hj => h j v (by rw [← Array.getElem?_toList]; exact hj)
/-- a new list of these values -/
theorem new_list {pins : List (Addr × Obj)} {σ : L2.St} {H : Hp} {s : Shared} {vs : List V} {h' : Heap} {tk : Nat} {acc : Array Value} {c : Nat} (I : Inv X pins σ H s) (k : ∀ b o, s.heap.get? b = some o → h'.get? b = some o)
    (e : h'.get? s.heap.objs.size = some { cls := .type "list", dict := none, data := .seq acc c, slots := #[] }) (r : Vals vs acc.toList) (hz : vs.length ≤ sizeLine) :
    Inv X pins σ (upd H s.heap.objs.size (.lst vs)) { s with heap := h', toks := tk } :=
  I.laid (t' := tk) k (Nat.le_refl _) ⟨hz, acc.toList, c, r, by simpa using e⟩
/-- list(d) -/
def rListM (K : PySem.W.Frag) (P : Program) (w : World) : List V → Hp → VK → Prop := fun xs H Q => ∃ d kvs, xs = [V.ref d] ∧ DAt P w K H d kvs ∧ ∀ p vs, H p = none → TpAll K H vs (kvs.map (·.1)) → Q (.ref p) (upd H p (.lst vs))
theorem call_listM (hc : X.calm = true) : CallR X (.type "list") (rListM X.K X.prog X.w) := by
  intro pins s σ H xs us Q I r h
  obtain ⟨d, kvs, rfl, m, q⟩ := h
  obtain ⟨u, rfl, ru⟩ := vals1 r
  obtain rfl : u = Value.ref d := ru
  obtain ⟨z, sm, ks, xs, eH, t, e1, e2, dd⟩ := dat_raw I m
  obtain ⟨es, ep, hr, hs, he⟩ := dd.raw
  have l1 : xs.length = kvs.length := by
    have q := e2.length
    rw [pairsH_length] at q
    exact q.symm
  have tt : ∀ (zs : List (NK × Addr × Value)), (∀ x ∈ zs, Tp X.K H (.ref x.2.1) x.1) → TpAll X.K H (zs.map fun x => V.ref x.2.1) (zs.map (·.1)) := by
    intro zs
    induction zs with
    | nil => intro _; exact .nil
    | cons y ys ih => intro hz; exact .cons (hz y List.mem_cons_self) (ih fun x hx => hz x (List.mem_cons_of_mem _ hx))
  have tall : TpAll X.K H (xs.map fun x => V.ref x.2.1) (kvs.map (·.1)) := by
    have e3 : kvs.map (·.1) = xs.map (·.1) := by
      rw [e2.keys]
      unfold pairsH
      rw [List.map_map]
      rfl
    rw [e3]
    refine tt xs fun x hx => (t (x.1, x.2.1) ?_).1
    rw [← e1]
    exact List.mem_map.mpr ⟨x, hx, rfl⟩
  refine PySem.W.kdl_call (KdlSrc.rawDict sm) (I.ok.hd hc) hr (by omega) fun h' tk acc c k e ia => ?_
  refine ⟨.ref _, _, new_list (vs := xs.map fun x => V.ref x.2.1) I k e (vals_of_items (by rw [List.length_map]; have := ia.1; omega) fun j v hj => ?_) (by rw [List.length_map]; omega), rfl, q _ _ (I.hok.fresh (Nat.le_refl _)) tall⟩
  obtain ⟨hi, ev⟩ := ia.2 j v hj
  obtain ⟨y, hy, hk, _, _⟩ := he j hi
  refine ⟨.ref y.2.1, by rw [List.getElem?_map, hy]; rfl, ?_⟩
  rw [ev, hk]
  rfl
/-- d.values() -/
def rValsM (K : PySem.W.Frag) (P : Program) (w : World) : V → List V → Hp → VK → Prop := fun x xs H Q => ∃ d kvs, x = V.ref d ∧ xs = [] ∧ DAt P w K H d kvs ∧ ∀ p, H p = none → Q (.ref p) (upd H p (vwO p d))
/-- list(view) -/
def rListVw (K : PySem.W.Frag) (P : Program) (w : World) : List V → Hp → VK → Prop := fun xs H Q => ∃ v d kvs, xs = [V.ref v] ∧ H v = some (vwO v d) ∧ DAt P w K H d kvs ∧ ∀ p, H p = none → Q (.ref p) (upd H p (.lst (kvs.map (·.2))))
theorem call_listVw (hc : X.calm = true) : CallR X (.type "list") (rListVw X.K X.prog X.w) := by
  intro pins s σ H xs us Q I r h
  obtain ⟨v, d, kvs, rfl, ev, m, q⟩ := h
  obtain ⟨u, rfl, ru⟩ := vals1 r
  obtain rfl : u = Value.ref v := ru
  obtain ⟨z, sm, ks, xs, eH, t, e1, e2, dd⟩ := dat_raw I m
  obtain ⟨es, ep, hr, hs, he⟩ := dd.raw
  have hv : s.heap.IsValuesView v d := (show ObjOk X.prog X.w H s.heap v (vwO v d) from I.hok v _ ev).1
  have l1 : xs.length = kvs.length := by
    have q := e2.length
    rw [pairsH_length] at q
    exact q.symm
  refine PySem.W.kdl_call (KdlSrc.rawValues (d := d)) (I.ok.hd hc) ⟨hv, hr⟩ (by omega) fun h' tk acc c k e ia => ?_
  refine ⟨.ref _, _, new_list (vs := kvs.map (·.2)) I k e (vals_of_items (by rw [List.length_map]; have := ia.1; omega) fun j u hj => ?_) (by rw [List.length_map]; omega), rfl, q _ (I.hok.fresh (Nat.le_refl _))⟩
  obtain ⟨hi, eu⟩ := ia.2 j u hj
  obtain ⟨y, hy, _, hval, _⟩ := he j hi
  have e3 : (pairsH xs)[j]? = some (y.1, y.2.2) := by
    unfold pairsH
    rw [List.getElem?_map, hy]
    rfl
  have hjl : j < kvs.length := by
    have := (List.getElem?_eq_some_iff.mp hy).1
    omega
  have e4 : kvs[j]? = some kvs[j] := List.getElem?_eq_getElem hjl
  obtain ⟨q5, e5, _, r5⟩ := paired_get e2 e4
  rw [e3] at e5
  cases e5
  refine ⟨kvs[j].2, by rw [List.getElem?_map, e4]; rfl, ?_⟩
  rw [eu, hval]
  exact r5
/-- dict(d) -/
def rDictM (K : PySem.W.Frag) (P : Program) (w : World) : List V → Hp → VK → Prop := fun xs H Q => ∃ d kvs, xs = [V.ref d] ∧ DAt P w K H d kvs ∧ (kvs.map fun p => p.1.hash w).Nodup ∧ ∀ p H', H p = none → (∀ c, c ≠ p → H' c = H c) → DAt P w K H' p kvs → Q (.ref p) H'
theorem dat_there {pins : List (Addr × Obj)} {σ : L2.St} {H : Hp} {s : Shared} {d : Addr} {kvs : List (NK × V)} (I : Inv X pins σ H s) (m : DAt X.prog X.w X.K H d kvs) : s.TypeIs (.ref d) "dict" ∧ ∃ ob, s.heap.get? d = some ob ∧ ob.dict = none := by
  obtain ⟨z, sm, ks, xs, eH, t, e1, e2, o, es, ep, ho, hx, r⟩ := dat_raw I m
  exact ⟨⟨o, ho, hx.1⟩, o, ho, hx.2.1⟩
def tValuesM (K : PySem.W.Frag) (P : Program) (w : World) (to : TE) : TE := fun σ H Q => to σ H fun x H1 => ∃ d kvs, x = V.ref d ∧ DAt P w K H1 d kvs ∧ ∀ p, H1 p = none → Q (.ref p) (upd H1 p (vwO p d))
theorem pe_valuesM {o : Expr} {apos cpos : Pos} {to : TE} (ho : PE X o to) (hbase : attributeBase o "values" X.env (eval o X.env) = eval o X.env := by rfl) (hline : (apos.endLine == cpos.line) = true := by rfl) :
    PE X (.Call (.Attribute o "values" apos) [] [] cpos) (tValuesM X.K X.prog X.w to) := by
  refine ⟨fun pins s σ H Q I h => ?_⟩
  refine wpAny_Call_method0_late hbase hline (thn (ho.run pins s σ H _ I h) fun v s1 ⟨x, H1, I1, r1, d, kvs, ex, m, q1⟩ => ?_)
  subst ex
  obtain rfl : v = Value.ref d := r1
  obtain ⟨hT, ob, hob, hnd⟩ := dat_there I1 m
  refine ⟨"dict", "dict.values", PySem.F.plainAttrs_dict, PySem.F.slot_dict_values, PySem.F.type_dict_values, hT, (fun a e => by cases e; exact ⟨ob, hob, hnd⟩), Calls.callWith_builtin rfl (PySem.evalArgs_none ?_)⟩
  obtain ⟨z, sm, ks, xs, eH, t, e1, e2, dd⟩ := dat_raw I1 m
  obtain ⟨es, ep, hr, _, _⟩ := dd.raw
  refine call_meetsIn PySem.F.slot_dict_values hT PySem.F.entry_dict_values (PySem.F.args_dict_values_1 _) (meets_dict_values_raw d sm) ⟨⟨es, ep, hr⟩, ?_⟩
  have hp : H1 s1.heap.objs.size = none := I1.hok.fresh (Nat.le_refl _)
  have new : (s1.heap.push { cls := .type "dict_values", data := .fields #[.ref d] }).IsValuesView s1.heap.objs.size d := ⟨_, Heap.get?_push_size _ rfl, rfl, rfl⟩
  refine ⟨.ref _, _, I1.laid (o := vwO s1.heap.objs.size d) (t' := s1.toks) (fun _ _ q => Heap.get?_push_of_some _ q) (Nat.le_refl _) ⟨new, ?_, fun h1 h2 y k => ?_⟩, rfl, q1 _ hp⟩
  · obtain ⟨o', ho', _⟩ := new
    exact ⟨o', ho'⟩
  · obtain ⟨o', ho', r⟩ := y
    exact ⟨o', k o' ho', r⟩
theorem call_dictM (hu : X.A.units + 12 < cLine) : CallR X (.type "dict") (rDictM X.K X.prog X.w) := by
  intro pins s σ H xs us Q I r h
  obtain ⟨d, kvs, rfl, m, hn, q⟩ := h
  obtain ⟨u, rfl, ru⟩ := vals1 r
  obtain rfl : u = Value.ref d := ru
  obtain ⟨z, sm, ks, ys, eH, t, e1, e2, dd⟩ := dat_raw I m
  have l1 : ys.length = kvs.length := by
    have q := e2.length
    rw [pairsH_length] at q
    exact q.symm
  have hp : H s.heap.objs.size = none := I.hok.fresh (Nat.le_refl _)
  have hdlt : d < s.heap.objs.size := by
    obtain ⟨_, ob, hob, _⟩ := dat_there I m
    exact Heap.lt_size hob
  refine callType_codes (Q₁ := fun obj s₁ => obj = .ref s.heap.objs.size ∧ s₁ = { s with heap := s.heap.push { cls := .type "dict", data := .dict #[] } }) PySem.F.kt_called_dict (PySem.F.kt_typeCall_dict_1 _) PySem.F.entry_dict_init (kt_code_dict_new _ ⟨rfl, rfl⟩) ?_
  rintro obj s₁ ⟨rfl, rfl⟩
  have dd0 : s.heap.DictOfH (nestedKind X.prog X.w) d ys := dd
  have dd1 : (s.heap.push { cls := .type "dict", data := .dict #[] }).DictOfH (nestedKind X.prog X.w) d ys := by
    obtain ⟨o, es, ep, ho, hx, hd, he, his, nd⟩ := dd0
    exact ⟨o, es, ep, Heap.get?_push_of_some _ ho, hx, hd, he, fun x hx' => nestedKind_stays.stays (fun b o' vs n e _ => Heap.get?_push_of_some _ e) (his x hx'), nd⟩
  have hnew : (s.heap.push { cls := .type "dict", data := .dict #[] }).DictOfH (nestedKind X.prog X.w) s.heap.objs.size [] := Heap.DictOfH.new s.heap
  have hty := raw_tuples I t e1
  refine ⟨hnew.typeIs, PySem.F.args_dict_init_2 _ _, ?_⟩
  unfold Builtin.«dict.__init__»
  refine wpAny_bind ?_
  unfold Builtin.Dict.selfAndRest
  refine wpAny_bind (wpAny_notOrdered_dict hnew.typeIs ?_)
  show wpAny _ _ (pure (s.heap.objs.size, [Value.ref d])) _ _ _
  refine wpAny_pure ?_
  show wpAny _ _ (Builtin.Dict.updateFrom "dict.__init__" s.heap.objs.size (.ref d) [] .none) _ _ _
  refine updateFrom_dictH (A := X.A.in1) (knd := nestedKind X.prog X.w) .none (by show X.A.units + 1 + 1 + 8 < cLine; omega) (Nat.ne_of_gt hdlt) sm hnew dd1 (.inr ⟨fun x hx => ?_, raw_hashes e2 hn⟩) (by rw [List.length_nil, Nat.zero_add]; omega) fun h' dd' _ hs => ?_
  · obtain ⟨o, ho, hc⟩ := hty x hx
    exact ⟨o, Heap.get?_push_of_some _ ho, hc⟩
  · rw [storedAllH_nil_of_nodup ys dd0.nodup] at dd'
    refine ⟨rfl, ?_⟩
    have kd : ∀ b u, s.heap.get? b = some u → h'.get? b = some u := fun b u e => (hs.2 b (Nat.ne_of_lt (Heap.lt_size e))).trans (Heap.get?_push_of_some _ e)
    have sm' : (s.heap.objs.size == sysModules) = false := beq_eq_false_iff_ne.mpr (Ne.symm (Nat.ne_of_lt I.big))
    have new := dm_of_raw (X := X) sm' z (fun p hp => (t p (by rw [← e1]; exact hp)).2) e2 dd'
    have hb : ∀ c, c ≠ s.heap.objs.size → (upd H s.heap.objs.size (DM X.prog X.w s.heap.objs.size (ys.map fun x => (x.1, x.2.1)) kvs)) c = H c := fun c hc => upd_ne hc
    refine ⟨.ref _, _, I.laid (o := DM X.prog X.w s.heap.objs.size (ys.map fun x => (x.1, x.2.1)) kvs) (t' := s.toks) kd (Nat.le_refl _) (dm_ok new), rfl, q _ _ hp hb ⟨_, upd_same, fun p hp' => ?_⟩⟩
    rw [e1] at hp'
    exact tp_but hb (not_tup_none hp) (t p hp').1
/-- {k: v} -/
def tDisp1 (P : Program) (w : World) (K : PySem.W.Frag) (tk tv : TE) : TE := fun σ H Q => ∀ p H1, H p = none → (∀ c, c ≠ p → H1 c = H c) → DAt P w K H1 p [] → tk σ H1 fun x H2 => tv σ H2 fun y H3 => ∃ b k, x = .ref b ∧ Tp K H3 (.ref b) k ∧ k.depth ≤ 8 ∧ DAt P w K H3 p [] ∧
  ∀ H4, (∀ c, c ≠ p → H4 c = H3 c) → DAt P w K H4 p [(k, y)] → Q (.ref p) H4
theorem pe_disp1 {a b : Expr} {pos : Pos} {ta tb : TE} (hu : X.A.units + 9 < cLine) (ha : PE X a ta) (hb : PE X b tb) : PE X (.Dict [some a] [b] pos) (tDisp1 X.prog X.w X.K ta tb) := by
  refine ⟨fun pins s σ H Q I h => ?_⟩
  rw [arm_eval_Dict]
  have hs : (evalEachOpt [some a] X.env).zip ((evalEach [b] X.env).map fun v => do let x ← v; standAt pos; pure x) = [(eval a X.env, do let x ← eval b X.env; standAt pos; pure x)].map fun p => (some p.1, p.2) := by rfl
  rw [hs, dictDisplay_pairs _ (by simp) (by show 1 < 17; decide)]
  refine wpAny_bind (wpAny_standAt (wpAny_bind ?_))
  unfold subDict
  refine wpAny_bind (wpAny_alloc ?_)
  have np : H s.heap.objs.size = none := I.hok.fresh (Nat.le_refl _)
  have I1 : Inv X pins σ (upd H s.heap.objs.size (DM X.prog X.w s.heap.objs.size [] [])) { s with heap := s.heap.push { cls := .type "dict", data := .dict #[] } } :=
    I.laid (t' := s.toks) (fun _ _ q => Heap.get?_push_of_some _ q) (Nat.le_refl _) (dm_ok (dm_new s.heap I.big))
  generalize s.heap.objs.size = p at np I1 ⊢
  have h1 := h p _ np (fun c hc => upd_ne hc) ⟨[], upd_same, fun q hq => by cases hq⟩
  refine wpAny_bind (wpAny_holding ?_)
  rw [if_pos (by show 1 ≤ 15; decide)]
  refine wpAny_bind (evalPairs_cons (thn (ha.run pins _ σ _ _ I1 h1) fun u s2 ⟨x, H2, I2, rx, q2⟩ => wpAny_bind (thn (hb.run pins _ σ _ _ I2 q2) fun v s3 ⟨y, H3, I3, ry, bb, k, ex, t, hd, m, q3⟩ => wpAny_bind (wpAny_standAt (wpAny_pure (evalPairs_nil ?_))))))
  subst ex
  obtain rfl : u = Value.ref bb := rx
  refine wpAny_holding ?_
  rw [List.forIn_cons]
  refine wpAny_bind (wpAny_bind ?_)
  show wpAny _ _ (dictSet p (Value.ref bb) v >>= fun _ => pure (ForInStep.yield PUnit.unit)) _ _ s3
  refine wpAny_bind (m_dictSet hu I3 t hd m (by rw [List.length_nil, sizeLine_eq]; decide) ry fun H4 s4 I4 e4 m4 => wpAny_pure ?_)
  show wpAny _ _ (forIn [] PUnit.unit _) _ _ s4
  rw [List.forIn_nil]
  exact wpAny_pure (wpAny_pure (wpAny_pure (wpAny_pure ⟨.ref p, H4, I4, rfl, q3 H4 e4 m4⟩)))
end
end SL
end

section
set_option Elab.async false
set_option linter.all false
set_option maxRecDepth 100000
set_option maxHeartbeats 4000000
/-! dict comprehensions with nested keys (one clause, no test) -/
namespace SL
open PySem PySem.Spec PyProof.Rows L2
section
variable {X : Cx}
/-- {k: v for target in iter}: D the new dict -/
def tDcM (P : Program) (w : World) (K : PySem.W.Frag) (wi : TI) (g : TG) (tk tv : TE) (vs : List Nat) : TE := fun σ H Q => wi σ H fun J H1 => ∀ D H2, H1 D = none → (∀ c, c ≠ D → H2 c = H1 c) → DAt P w K H2 D [] → ∃ W : Nat → Nat → Hp → Prop, (∃ m, W 0 m H2) ∧ ∀ i m H, W i m H →
  (J.stop i H ∧ Q (.ref D) H) ∨ (J.go i H ∧ ∃ Nx : Hp → Prop, (∀ H', Nx H' → ∃ m', m' < m ∧ W (i + 1) m' H') ∧ ∀ x H', J.yld i H x H' → g x (wipe σ vs) H' fun σ2 H2 => wipe σ2 vs = wipe σ vs ∧
    tk σ2 H2 fun y H4 => tv σ2 H4 fun z H5 => ∃ kvs b k, y = .ref b ∧ Tp K H5 (.ref b) k ∧ k.depth ≤ 8 ∧ DAt P w K H5 D kvs ∧ kvs.length < sizeLine ∧ ∀ H6, (∀ c, c ≠ D → H6 c = H5 c) → DAt P w K H6 D (putK kvs k z) → Nx H6)
theorem dcM_core {pins : List (Addr × Obj)} {s : Shared} {σ : L2.St} {H : Hp} {Q : VK} {kx vx tg iter : Expr} {scope : Scope} {own : List (Str × Nat)} {pos pos' : Pos} {wi : TI} {g : TG} {tk tv : TE} {use : Option (Value → Sem Unit)} {Qf : Value → Shared → Prop}
    (hu : X.A.units + 9 < cLine) (hc : X.calm = true) (hN : X.N.Nodup) (I : Inv X pins σ H s) (hi : PI X tg iter wi) (ok : BlkOk X.N X.env.scope scope own)
    (hg : ∀ (s : Shared) (H : Hp) (C : Addr) (cl : List (Str × Addr)) (fp : List Addr), PG (X.blk s H scope (compEnvC scope cl C X.env) fp) tg g)
    (hk : ∀ (s : Shared) (H : Hp) (C : Addr) (cl : List (Str × Addr)) (fp : List Addr), PE (X.blk s H scope (compEnvC scope cl C X.env) fp) kx tk)
    (he : ∀ (s : Shared) (H : Hp) (C : Addr) (cl : List (Str × Addr)) (fp : List Addr), PE (X.blk s H scope (compEnvC scope cl C X.env) fp) vx tv) (hs : ∀ x, foldedSetIterable iter X.env x = pure x)
    (h : tDcM X.prog X.w X.K wi g tk tv (own.map (·.2)) σ H Q)
    (hRR : ∀ D C s' m H', Inv X pins σ H' s' → Q (.ref D) H' → s'.heap.Ns C m → FpOk X pins H' C → compPost (model X.prog X.w) X.A X.xe use Qf (.ref D) C (.ok .next) s') :
    wpAny (model X.prog X.w) X.A (comprehension (.DictComp kx vx [⟨tg, iter, [], 0⟩] scope pos) scope X.env pos' newDict false (eval iter X.env) use) Qf X.xe s := by
  have hfree : ∀ y ∈ scope.names, y.2 = .free → ∃ c, X.env.cells.lookup y.1 = some c := fun y hy e => (ok.free y hy e).elim (fun k => I.ok.has _ (.inl k)) fun k => I.ok.has _ (.inr k)
  refine wpAny_comprehension_free (use := use) rfl hs (closure_ok hfree) ok.kind (fun y hy e => by rw [ok.uniq y hy, e])
    (thn (hi.run pins s σ H _ I h) fun xv s1 hx => thn hx fun itv s2 h2 => ?_)
  obtain ⟨it, fp, tn, J, H2, e, I2, T, st2, f2, q⟩ := h2
  subst e
  refine wpAny_newObj_type (newEnv_comp ?_)
  have hDn : H2 s2.heap.objs.size = none := I2.hok.fresh (Nat.le_refl _)
  have I3' : Inv X pins σ (upd H2 s2.heap.objs.size (DM X.prog X.w s2.heap.objs.size [] [])) { s2 with heap := s2.heap.push { cls := .type "dict", data := .dict #[] } } :=
    I2.laid (t' := s2.toks) (fun b o e => Heap.get?_push_of_some _ e) (Nat.le_refl _) (dm_ok (dm_new s2.heap I2.big))
  obtain ⟨W, ⟨m0, w0⟩, turn⟩ := q s2.heap.objs.size _ hDn (fun c hc => upd_ne hc) ⟨[], upd_same, fun q hq => by cases hq⟩
  have sz : ∀ b ∈ fp, b < s2.heap.objs.size := fun b hb => let ⟨_, e, _⟩ := T.obj _ _ st2 b hb; Heap.lt_size e
  generalize hs3 : ({ s2 with heap := s2.heap.push { cls := .type "dict", data := .dict #[] } } : Shared) = s3 at I3'
  have h3 : s3.heap = s2.heap.push { cls := .type "dict", data := .dict #[] } := by rw [← hs3]
  have f3 : ∀ b ∈ fp, FpOk X pins (upd H2 s2.heap.objs.size (DM X.prog X.w s2.heap.objs.size [] [])) b ∧ b < s3.heap.objs.size := fun b hb => by
    have hlt := sz b hb
    refine ⟨⟨?_, (f2 b hb).2⟩, by rw [h3, Heap.size_push]; exact Nat.lt_succ_of_lt hlt⟩
    rw [upd_ne (Nat.ne_of_lt hlt)]
    exact (f2 b hb).1
  have st3 : tn 0 s3.heap := T.keep _ _ _ st2 fun b _ o e => by rw [h3]; exact Heap.get?_push_of_some _ e
  generalize hH3 : upd H2 s2.heap.objs.size (DM X.prog X.w s2.heap.objs.size [] []) = H3 at I3' w0 f3
  generalize s2.heap.objs.size = D at turn ⊢
  have I4 := block_start I3' ok hN f3
  have pg := hg s3 H3 s3.heap.objs.size (cellsFrom (s3.heap.objs.size + 1) scope.names (cloFrom X.env.cells scope.names [])) fp
  have pk := hk s3 H3 s3.heap.objs.size (cellsFrom (s3.heap.objs.size + 1) scope.names (cloFrom X.env.cells scope.names [])) fp
  have pe := he s3 H3 s3.heap.objs.size (cellsFrom (s3.heap.objs.size + 1) scope.names (cloFrom X.env.cells scope.names [])) fp
  show codeAny _ _ (.compStart (.DictComp kx vx [⟨tg, iter, [], 0⟩] scope pos) 0 (.ref it) (.ref D) (compEnvC scope (cellsFrom (s3.heap.objs.size + 1) scope.names (cloFrom X.env.cells scope.names [])) s3.heap.objs.size X.env)) (compPost (model X.prog X.w) X.A X.xe use Qf (.ref D) s3.heap.objs.size) { s3 with heap := pushCells (s3.heap.push { cls := .type "dict", data := .dict #[] }) scope.names }
  have nfp : ∀ b ∈ fp, H3 b = none := fun b hb => (f3 b hb).1.1
  generalize hce : compEnvC scope (cellsFrom (s3.heap.objs.size + 1) scope.names (cloFrom X.env.cells scope.names [])) s3.heap.objs.size X.env = ce at I4 pg pk pe ⊢
  have cL : ce.locals = s3.heap.objs.size := by subst hce; rfl
  generalize hs4 : ({ s3 with heap := pushCells (s3.heap.push { cls := .type "dict", data := .dict #[] }) scope.names } : Shared) = s4 at I4 ⊢
  have st4 : tn 0 s4.heap := T.keep _ _ _ st3 fun b _ o e => by rw [← hs4]; exact pushCells_keeps _ _ _ _ (Heap.get?_push_of_some _ e)
  have stat : ∀ {σ' : L2.St} {H' : Hp} {s' : Shared}, Inv (X.blk s3 H3 scope ce fp) [] σ' H' s' → (∀ b ∈ fp, H' b = none) → ∀ b ∈ fp, FpOk (X.blk s3 H3 scope ce fp) [] H' b := fun {σ' H' s'} I' hn b hb =>
    ⟨hn b hb, (I'.ok.exf b hb).1, I'.ok.exfs b hb, .inl hb, fun x c e => (I'.ok.exf b hb).2 x c e, fun p hp => absurd (show p ∈ ([] : List (Addr × Obj)) ++ [] from hp) (by simp)⟩
  have loop : codeAny (model X.prog X.w) X.A (.compLoop (.DictComp kx vx [⟨tg, iter, [], 0⟩] scope pos) 0 (.ref it) (.ref D) ce) (compPost (model X.prog X.w) X.A X.xe use Qf (.ref D) s3.heap.objs.size) s4 := by
    refine compLoop_anyD (fun n s' => ∃ i H', Inv (X.blk s3 H3 scope ce fp) [] (wipe σ (own.map (·.2))) H' s' ∧ tn i s'.heap ∧ (∀ b ∈ fp, H' b = none) ∧ W i n H') ?_ m0 ⟨0, H3, I4, st4, nfp, w0⟩
    rintro n s5 ⟨i, H5, I5, st5, n5, w5⟩
    rcases turn i n H5 w5 with ⟨stop, qq⟩ | ⟨go, Nx, hNx, step⟩
    · refine thnF (T.done (X.blk s3 H3 scope ce fp) rfl rfl rfl hc i [] s5 _ H5 (fun _ _ => False) I5 (stat I5 n5) st5 stop) fun r s6 ⟨hr, I6⟩ => ?_
      subst hr
      have I7 : Inv X pins σ H5 s6 := I3'.call' (ch := fp) I6.os I6.base I6.hok I6.bare fun b hb => ⟨(f3 b hb).1.2.2.2.1, (f3 b hb).1.2.1, (f3 b hb).1.2.2.2.2.1, (f3 b hb).1.2.2.2.2.2⟩
      have nC : H5 s3.heap.objs.size = none := by
        have z : H5 ce.locals = none := I6.free
        rw [cL] at z
        exact z
      obtain ⟨m, hn, _⟩ := I6.loc
      have hn : s6.heap.Ns ce.locals m := hn
      rw [cL] at hn
      exact hRR D s3.heap.objs.size s6 m H5 I7 qq hn (I3'.fpOk (Nat.le_refl _) nC)
    · refine thnF (T.item (X.blk s3 H3 scope ce fp) rfl rfl rfl hc i [] s5 _ H5 (fun _ _ => False) I5 (stat I5 n5) st5 go) fun r s6 ⟨u, hr, h6⟩ => ?_
      subst hr
      refine thnF h6 fun _ s7 ⟨x, H7, I7, r7, y7, st7, n7⟩ => ?_
      have I7' := I7.pinned (stat I7 n7) (T.obj _ _ st7)
      refine thnF (pg.run _ s7 _ H7 x u _ I7' r7 (step x H7 y7)) fun _ s8 ⟨σ8, H8, I8, hw8, q8⟩ => wpAny_tests_nil ?_
      rw [if_pos rfl]
      refine thnF (pk.run _ s8 σ8 H8 _ I8 q8) fun z s10 ⟨yk, H10, I10, r10, q10⟩ => ?_
      refine thnF (pe.run _ s10 σ8 H10 _ I10 q10) fun z2 s11 ⟨yv, H11, I11, r11, kvs, b, k, ek, tb, db, m11, hz11, nx⟩ => ?_
      subst ek
      obtain rfl : z = Value.ref b := r10
      refine m_dictSet (X := X.blk s3 H3 scope ce fp) hu I11 tb db m11 hz11 r11 fun H12 s12 I12 e12 m12 => ?_
      obtain ⟨m', hm, w'⟩ := hNx H12 (nx H12 e12 m12)
      have pin' : ∀ b ∈ fp, ∀ o, s7.heap.get? b = some o → s12.heap.get? b = some o ∧ H12 b = none := fun b hb o e =>
        let z := I12.pin (b, o) (List.mem_append_right _ (List.mem_append_right _ (mem_pinsAt hb e)))
        ⟨z.1, z.2.1⟩
      have hl : (wipe σ (own.map (·.2))).length = σ8.length := by rw [← hw8, wipe_length]
      refine ⟨m', hm, i + 1, H12, (I12.unpinned (pins := [])).weak hl (fun j v e => ?_), T.keep _ _ _ st7 fun b hb o e => (pin' b hb o e).1, fun b hb => ?_, w'⟩
      · rw [← hw8] at e
        exact (wipe_some e).1
      · obtain ⟨o, e, _⟩ := T.obj _ _ st7 b hb
        exact (pin' b hb o e).2
  exact codeAny_compStart_dict loop (T.self X.A 0 _ _ _ st4 loop)
theorem pe_dcM {kx vx tg iter : Expr} {scope : Scope} {own : List (Str × Nat)} {pos : Pos} {wi : TI} {g : TG} {tk tv : TE} (hu : X.A.units + 9 < cLine) (hc : X.calm = true) (hN : X.N.Nodup) (hi : PI X tg iter wi) (ok : BlkOk X.N X.env.scope scope own)
    (hg : ∀ (s : Shared) (H : Hp) (C : Addr) (cl : List (Str × Addr)) (fp : List Addr), PG (X.blk s H scope (compEnvC scope cl C X.env) fp) tg g)
    (hk : ∀ (s : Shared) (H : Hp) (C : Addr) (cl : List (Str × Addr)) (fp : List Addr), PE (X.blk s H scope (compEnvC scope cl C X.env) fp) kx tk)
    (he : ∀ (s : Shared) (H : Hp) (C : Addr) (cl : List (Str × Addr)) (fp : List Addr), PE (X.blk s H scope (compEnvC scope cl C X.env) fp) vx tv) (hs : ∀ x, foldedSetIterable iter X.env x = pure x := by intro _; rfl) :
    PE X (.DictComp kx vx [⟨tg, iter, [], 0⟩] scope pos) (tDcM X.prog X.w X.K wi g tk tv (own.map (·.2))) := by
  refine ⟨fun pins s σ H Q I h => ?_⟩
  rw [arm_eval_DictComp]
  refine dcM_core hu hc hN I hi ok hg hk he hs h fun D C s' m H' I' q hn f => ⟨m, hn, fun h'' sb => ?_⟩
  obtain ⟨f0, f1, f2, f3, f4, f5⟩ := f
  exact ⟨.ref D, H', I'.turned (t' := s'.toks) (fun b o hb e => (sb.2 b hb).trans e) f0 f1 f3 f4 f5, rfl, q⟩
end
end SL
end

section
set_option Elab.async false
set_option linter.all false
set_option maxRecDepth 100000
set_option maxHeartbeats 4000000
/-! sorted of what holds nested tuples -/
namespace SL
open PySem PySem.Spec PyProof.Rows L2
/-- Python's order of keys -/
abbrev leK : NK → NK → Bool := PySem.W.dataLe false NestedKey.data
structure SortOk (ks : List NK) : Prop where
  alike : PySem.W.AllAlike (ks.map NestedKey.data)
  tup : ∀ k ∈ ks, ∃ x r, k = .tup (x :: r)
  depth : ∀ k ∈ ks, k.depth ≤ 8
theorem SortOk.able {ks : List NK} (h : SortOk ks) : PySem.W.Sortable (ks.map NestedKey.data) := .inl fun d hd => by
  obtain ⟨k, hk, rfl⟩ := List.mem_map.mp hd
  obtain ⟨x, r, rfl⟩ := h.tup k hk
  exact ⟨x.data, NestedKey.datas r, by rw [NestedKey.data, NestedKey.datas]⟩
theorem leK_total : PySem.W.TotalLe leK := PySem.W.sortLe_total (listOrd itemOrd) false fun b => PySem.W.keyToks (NestedKey.data b)
theorem leK_anti {a b : NK} (al : PySem.W.alike a.data b.data = true) (h1 : leK a b = true) (h2 : leK b a = true) : a = b := by
  have e1 : PySem.W.dataLt b.data a.data = false := by
    have h : (!PySem.W.dataLt b.data a.data) = true := h1
    simpa using h
  have e2 : PySem.W.dataLt a.data b.data = false := by
    have h : (!PySem.W.dataLt a.data b.data) = true := h2
    simpa using h
  have et : PySem.W.keyToks a.data = PySem.W.keyToks b.data := lex_total _ _ e2 e1
  cases q : PyData.eqv a.data b.data with
  | true =>
    rw [eqv_dec] at q
    exact of_decide_eq_true q
  | false =>
    have z := (PySem.W.toks_eqv a.data b.data al).2 q [Sum.inl 1] [Sum.inl 2]
    rw [et, PySem.W.lex_pre] at z
    have z2 : itemLt (Sum.inl 1) (Sum.inl 2) = true := by decide
    rw [PySem.W.lex_one, z2] at z
    rw [lex_irrefl] at z
    cases z
/-- two rows of the same keys, sorted, are one -/
theorem sort_perm {ks ls : List NK} (ok : SortOk ks) (p : ks.Perm ls) : ks.mergeSort leK = ls.mergeSort leK := by
  have al : ∀ a ∈ ks, ∀ b ∈ ks, PySem.W.alike a.data b.data = true := fun a ha b hb => ok.alike _ (List.mem_map.mpr ⟨a, ha, rfl⟩) _ (List.mem_map.mpr ⟨b, hb, rfl⟩)
  have p1 := PySem.W.sort_pairwise leK_total ks
  have p2 := PySem.W.sort_pairwise leK_total ls
  have pp : (ks.mergeSort leK).Perm (ls.mergeSort leK) := ((List.mergeSort_perm ks leK).trans p).trans (List.mergeSort_perm ls leK).symm
  refine List.Perm.eq_of_pairwise (fun a b ha hb h1 h2 => ?_) p1 p2 pp
  have ha' := (List.mergeSort_perm ks leK).mem_iff.mp ha
  have hb' := (List.mergeSort_perm ks leK).mem_iff.mp (pp.mem_iff.mpr hb)
  exact leK_anti (al a ha' b hb') h1 h2

section
variable {X : Cx} {pins : List (Addr × Obj)} {σ : L2.St} {H : Hp} {s : Shared}
mutual
theorem tp_reads (I : Inv X pins σ H s) : ∀ (k : NK) (v : V) (u : Value), Tp X.K H v k → RelV v u → Reads s.heap u k.data []
  | .num i, _, _, h, r => by
    cases h
    obtain ⟨t, rfl⟩ := r
    rw [NestedKey.data]
    exact .int i t
  | .tup ks, _, _, h, r => by
    cases h with
    | tup h1 h2 =>
      obtain rfl := r
      obtain ⟨its, rv, ⟨o, ho, hc, n, hd⟩, _⟩ := I.tuple h1
      rw [NestedKey.data]
      exact .tuple ho hc hd (by simpa using tps_reads I ks _ its h2 rv)
  | .none, _, _, h, _ => by cases h
  | .text _, _, _, h, _ => by cases h
theorem tps_reads (I : Inv X pins σ H s) : ∀ (ks : List NK) (vs : List V) (us : List Value), TpAll X.K H vs ks → Vals vs us → ReadsAll s.heap us (NestedKey.datas ks) []
  | [], _, _, h, r => by
    cases h
    cases r
    rw [NestedKey.datas]
    exact .nil
  | k :: ks, _, _, h, r => by
    cases h with
    | cons h1 h2 =>
      cases r with
      | cons r1 r2 =>
        rw [NestedKey.datas]
        exact .cons (as := []) (bs := []) (tp_reads I k _ _ h1 r1) (tps_reads I ks _ _ h2 r2)
end
theorem each_of_vals {F : Value → NK → Prop} : ∀ {vs : List V} {us : List Value} {ks : List NK}, Vals vs us → TpAll X.K H vs ks → (∀ v u k, RelV v u → Tp X.K H v k → F u k) → PySem.W.EachIs F us ks
  | [], _, _, r, t, _ => by
    cases r
    cases t
    exact .nil
  | _ :: _, _, _, r, t, f => by
    cases r with
    | cons r1 r2 =>
      cases t with
      | cons t1 t2 => exact .cons (f _ _ _ r1 t1) (each_of_vals r2 t2 f)
theorem vals_of_each : ∀ {us : List Value} {ks : List NK}, PySem.W.EachIs (fun u k => ∃ v, RelV v u ∧ Tp X.K H v k) us ks → ∃ vs, Vals vs us ∧ TpAll X.K H vs ks
  | _, _, .nil => ⟨[], .nil, .nil⟩
  | _, _, .cons ⟨v, r, t⟩ e => by
    obtain ⟨vs, r2, t2⟩ := vals_of_each e
    exact ⟨v :: vs, .cons r r2, .cons t t2⟩
/-- a new list of collected values is sorted -/
theorem sort_collected {A : Around} {E : Value → Shared → Prop} {vs : List V} {us : List Value} {ks : List NK} {α : Type} {k : Value → Sem α} {Q : α → Shared → Prop} (I : Inv X pins σ H s) (r : Vals vs us) (t : TpAll X.K H vs ks) (ok : SortOk ks) (hL : ks.length ≤ sizeLine) (hu : A.units + 12 < cLine)
    (h : ∀ p vs' s', Inv X pins σ (upd H p (.lst vs')) s' → H p = none → TpAll X.K H vs' (ks.mergeSort leK) → wpAny (model X.prog X.w) A (k (.ref p)) Q E s') :
    wpAny (model X.prog X.w) A (newList us >>= fun l => holding [l] (call (.builtin "list.sort") [l]) >>= fun _ => k l) Q E s := by
  have lv : us.length = ks.length := by rw [← r.length, t.length]
  refine wpAny_bind (wpAny_newList ?_ (by omega))
  have hp : H s.heap.objs.size = none := I.hok.fresh (Nat.le_refl _)
  have hoL : (s.heap.push (seqObj "list" us.toArray 0)).get? s.heap.objs.size = some (seqObj "list" us.toArray 0) := Heap.get?_push_size _ rfl
  have I2 : Inv X pins σ H { s with heap := s.heap.push (seqObj "list" us.toArray 0) } := I.kept (t' := s.toks) fun b o e => Heap.get?_push_of_some _ e
  refine wpAny_bind (wpAny_holding (PySem.W.list_sort_data (R := fun u k => ∃ v, RelV v u ∧ Tp X.K H v k) (enc := NestedKey.data) (bs := ks) hoL (each_of_vals r t fun v u k a b => ⟨v, a, b⟩)
    (each_of_vals r t fun v u k a b => ⟨[], tp_reads I2 k v u b a, by simp⟩) ok.alike ok.able hL (fun b hb => ?_) fun out ho eo => ?_))
  · have := ok.depth b hb
    rw [data_depth]
    omega
  · obtain ⟨vs', rv, tv⟩ := vals_of_each eo
    obtain ⟨c, hc⟩ := sortedHeap_at (vs := us) (out := out.toArray) hoL
    refine (h s.heap.objs.size vs' _ (I.laid (t' := s.toks) (fun b u e => ?_) (Nat.le_refl _) ⟨?_, out, c, rv, hc⟩) hp tv)
    · have hlt := Heap.lt_size e
      rw [sortedHeap_old (Nat.ne_of_lt hlt) (by rw [Heap.size_push]; exact Nat.lt_succ_of_lt hlt)]
      exact Heap.get?_push_of_some _ e
    · rw [tv.length, List.length_mergeSort]
      exact hL
end
section
variable {X : Cx}
/-- the keys as values -/
theorem dat_vals {pins : List (Addr × Obj)} {σ : L2.St} {H : Hp} {s : Shared} {d : Addr} {kvs : List (NK × V)} (I : Inv X pins σ H s) (m : DAt X.prog X.w X.K H d kvs) {ks : List (NK × Addr)} {xs : List (NK × Addr × Value)} (eH : H d = some (DM X.prog X.w d ks kvs))
    (t : ∀ p ∈ ks, Tp X.K H (.ref p.2) p.1 ∧ p.1.depth ≤ 8) (e1 : xs.map (fun x => (x.1, x.2.1)) = ks) (e2 : KV kvs (pairsH xs)) : xs.length = kvs.length ∧ TpAll X.K H (xs.map fun x => V.ref x.2.1) (kvs.map (·.1)) := by
  refine ⟨?_, ?_⟩
  · have q := e2.length
    rw [pairsH_length] at q
    exact q.symm
  · have tt : ∀ (zs : List (NK × Addr × Value)), (∀ x ∈ zs, Tp X.K H (.ref x.2.1) x.1) → TpAll X.K H (zs.map fun x => V.ref x.2.1) (zs.map (·.1)) := by
      intro zs
      induction zs with
      | nil => intro _; exact .nil
      | cons y ys ih => intro hz; exact .cons (hz y List.mem_cons_self) (ih fun x hx => hz x (List.mem_cons_of_mem _ hx))
    have e3 : kvs.map (·.1) = xs.map (·.1) := by
      rw [e2.keys]
      unfold pairsH
      rw [List.map_map]
      rfl
    rw [e3]
    refine tt xs fun x hx => (t (x.1, x.2.1) ?_).1
    rw [← e1]
    exact List.mem_map.mpr ⟨x, hx, rfl⟩
/-- sorted(xs), a list -/
def rSortedL (K : PySem.W.Frag) : List V → Hp → VK → Prop := fun xs H Q => ∃ l vs ks, xs = [V.ref l] ∧ SqL K H l vs ∧ TpAll K H vs ks ∧ SortOk ks ∧ ∀ p vs', H p = none → TpAll K H vs' (ks.mergeSort leK) → Q (.ref p) (upd H p (.lst vs'))
/-- sorted(d), a dict -/
def rSortedM (K : PySem.W.Frag) (P : Program) (w : World) : List V → Hp → VK → Prop := fun xs H Q => ∃ d kvs, xs = [V.ref d] ∧ DAt P w K H d kvs ∧ SortOk (kvs.map (·.1)) ∧ ∀ p vs', H p = none → TpAll K H vs' ((kvs.map (·.1)).mergeSort leK) → Q (.ref p) (upd H p (.lst vs'))
theorem call_sortedL (hu : X.A.units + 16 < cLine) : CallR X (.builtin "sorted") (rSortedL X.K) := by
  intro pins s σ H xs us Q I r h
  obtain ⟨l, vs, ks, rfl, hl, t, ok, q⟩ := h
  obtain ⟨u, rfl, ru⟩ := vals1 r
  obtain rfl : u = Value.ref l := ru
  obtain ⟨its, rv, pl, hz⟩ := I.list hl
  refine Calls.call_function_entry kind_sorted plain_sorted entry_sorted (args_sorted1 _) ?_
  unfold Builtin.«sorted»
  refine wpAny_bind (m := checkCount "sorted" 1 1 _) (wpAny_pure ?_)
  have lv : its.length = vs.length := rv.length.symm
  refine wpAny_bind (collect_list pl.isList ?_ (by omega))
  have lk : ks.length ≤ sizeLine := by rw [← t.length]; exact hz
  have I2 : Inv X pins σ H { s with heap := (s.heap.push (seqObj "list" #[] 0)).update s.heap.objs.size (Obj.mapSeq (· ++ its.toArray)) } := I.kept (t' := s.toks) fun b o e =>
    (Heap.get?_update_ne _ _ _ _ (Nat.ne_of_lt (Heap.lt_size e))).trans (Heap.get?_push_of_some _ e)
  exact sort_collected I2 rv t ok lk (by show X.A.units + 1 + 12 < cLine; omega) fun p vs' s' I3 hp t' => wpAny_pure ⟨_, rfl, .ref p, _, I3, rfl, q p vs' hp t'⟩
theorem call_sortedM (hc : X.calm = true) (hu : X.A.units + 16 < cLine) : CallR X (.builtin "sorted") (rSortedM X.K X.prog X.w) := by
  intro pins s σ H xs us Q I r h
  obtain ⟨d, kvs, rfl, m, ok, q⟩ := h
  obtain ⟨u, rfl, ru⟩ := vals1 r
  obtain rfl : u = Value.ref d := ru
  obtain ⟨z, sm, ks, xs, eH, t, e1, e2, dd⟩ := dat_raw I m
  obtain ⟨es, ep, hr, hs, he⟩ := dd.raw
  obtain ⟨hl1, tall⟩ := dat_vals I m eH t e1 e2
  refine Calls.call_function_entry kind_sorted plain_sorted entry_sorted (args_sorted1 _) ?_
  unfold Builtin.«sorted»
  refine wpAny_bind (m := checkCount "sorted" 1 1 _) (wpAny_pure ?_)
  refine wpAny_bind (PySem.W.kdu_collect (A := X.A.in1) (KdlSrc.rawDict sm) (I.ok.hd hc) hr (by omega) fun h' tk acc k ia => ?_)
  have rv : Vals (xs.map fun x => V.ref x.2.1) acc.toList := vals_of_items (by rw [List.length_map]; have := ia.1; omega) fun j v hj => by
    obtain ⟨hi, ev⟩ := ia.2 j v hj
    obtain ⟨y, hy, hk, _, _⟩ := he j hi
    refine ⟨.ref y.2.1, by rw [List.getElem?_map, hy]; rfl, ?_⟩
    rw [ev, hk]
    rfl
  have I2 : Inv X pins σ H { s with heap := h', toks := tk } := I.kept (t' := tk) k
  exact sort_collected I2 rv tall ok (by rw [List.length_map]; exact z) (by show X.A.units + 1 + 12 < cLine; omega) fun p vs' s' I3 hp t' => wpAny_pure ⟨_, rfl, .ref p, _, I3, rfl, q p vs' hp t'⟩
end
end SL
end

section
set_option Elab.async false
set_option linter.all false
set_option maxRecDepth 100000
set_option maxHeartbeats 4000000
/-! the mirrors: what the defs compute, in plain Lean -/
namespace SL
open PySem

/-! ### walks over a graph, level by level -/
section
variable {α : Type} [DecidableEq α]
/-- what is not yet found is found -/
def addNew (nb : List α) (st : List α × List α) : List α × List α := nb.foldl (fun st y => if y ∈ st.1 then st else (st.1 ++ [y], st.2 ++ [y])) st
def bfsTurn (nx : α → List α) (found rows : List α) : List α × List α := rows.foldl (fun st x => addNew (nx x) st) (found, [])
inductive Rch (nx : α → List α) (S : List α) : α → Prop
  | base {x : α} : x ∈ S → Rch nx S x
  | step {x y : α} : Rch nx S x → y ∈ nx x → Rch nx S y
structure BInv (nx : α → List α) (S : List α) (found rows : List α) : Prop where
  start : ∀ x ∈ S, x ∈ found
  nd : found.Nodup
  sub : ∀ x ∈ rows, x ∈ found
  cl : ∀ x ∈ found, x ∈ rows ∨ ∀ y ∈ nx x, y ∈ found
  rch : ∀ x ∈ found, Rch nx S x
theorem addNew_spec (nb : List α) : ∀ (st : List α × List α) (F : List α), st.1 = F ++ st.2 → st.1.Nodup → ∃ ext, addNew nb st = (st.1 ++ ext, st.2 ++ ext) ∧ (st.1 ++ ext).Nodup ∧ (∀ y ∈ nb, y ∈ st.1 ++ ext) ∧ ∀ y ∈ ext, y ∈ nb := by
  induction nb with
  | nil => intro st F h nd; exact ⟨[], by simp [addNew], by simpa using nd, fun y hy => (by cases hy), fun y hy => (by cases hy)⟩
  | cons a nb ih =>
    intro st F h nd
    by_cases ha : a ∈ st.1
    · obtain ⟨ext, e1, e2, e3, e4⟩ := ih st F h nd
      refine ⟨ext, ?_, e2, fun y hy => ?_, fun y hy => List.mem_cons_of_mem _ (e4 y hy)⟩
      · show addNew nb (if a ∈ st.1 then st else (st.1 ++ [a], st.2 ++ [a])) = _
        rw [if_pos ha]
        exact e1
      · rcases List.mem_cons.mp hy with e | hy
        · rw [e]; exact List.mem_append_left _ ha
        · exact e3 y hy
    · have nd' : (st.1 ++ [a]).Nodup := by
        rw [List.nodup_append]
        exact ⟨nd, by simp, fun x hx y hy => by rw [List.mem_singleton.mp hy]; exact fun e => ha (e ▸ hx)⟩
      obtain ⟨ext, e1, e2, e3, e4⟩ := ih (st.1 ++ [a], st.2 ++ [a]) F (by show st.1 ++ [a] = F ++ (st.2 ++ [a]); rw [h, List.append_assoc]) nd'
      refine ⟨a :: ext, ?_, by simpa using e2, fun y hy => ?_, fun y hy => ?_⟩
      · show addNew nb (if a ∈ st.1 then st else (st.1 ++ [a], st.2 ++ [a])) = _
        rw [if_neg ha, e1]
        simp
      · rcases List.mem_cons.mp hy with e | hy
        · rw [e]; simp
        · have := e3 y hy
          simpa using this
      · rcases List.mem_cons.mp hy with e | hy
        · rw [e]; exact List.mem_cons_self
        · exact List.mem_cons_of_mem _ (e4 y hy)
theorem bfsFold_spec (nx : α → List α) (rows : List α) : ∀ (st : List α × List α) (F : List α), st.1 = F ++ st.2 → st.1.Nodup → ∃ ext, rows.foldl (fun st x => addNew (nx x) st) st = (st.1 ++ ext, st.2 ++ ext) ∧ (st.1 ++ ext).Nodup ∧ (∀ x ∈ rows, ∀ y ∈ nx x, y ∈ st.1 ++ ext) ∧ ∀ y ∈ ext, ∃ x ∈ rows, y ∈ nx x := by
  induction rows with
  | nil => intro st F h nd; exact ⟨[], by simp, by simpa using nd, fun y hy => (by cases hy), fun y hy => (by cases hy)⟩
  | cons a rows ih =>
    intro st F h nd
    obtain ⟨e0, a1, a2, a3, a4⟩ := addNew_spec (nx a) st F h nd
    obtain ⟨ext, b1, b2, b3, b4⟩ := ih (st.1 ++ e0, st.2 ++ e0) F (by show st.1 ++ e0 = F ++ (st.2 ++ e0); rw [← List.append_assoc, ← h]) a2
    refine ⟨e0 ++ ext, ?_, by simpa [List.append_assoc] using b2, fun x hx y hy => ?_, fun y hy => ?_⟩
    · rw [List.foldl_cons, a1, b1]
      simp [List.append_assoc]
    · rcases List.mem_cons.mp hx with e | hx
      · rw [e] at hy
        have := a3 y hy
        rw [← List.append_assoc]
        exact List.mem_append_left _ this
      · have := b3 x hx y hy
        simpa [List.append_assoc] using this
    · rcases List.mem_append.mp hy with hy | hy
      · exact ⟨a, List.mem_cons_self, a4 y hy⟩
      · obtain ⟨x, hx, h⟩ := b4 y hy
        exact ⟨x, List.mem_cons_of_mem _ hx, h⟩
/-- one turn -/
theorem bfs_turn {nx : α → List α} {S found rows : List α} (I : BInv nx S found rows) : ∃ ext, bfsTurn nx found rows = (found ++ ext, ext) ∧ BInv nx S (found ++ ext) ext := by
  obtain ⟨ext, e1, e2, e3, e4⟩ := bfsFold_spec nx rows (found, []) found (by simp) I.nd
  refine ⟨ext, by unfold bfsTurn; rw [e1]; simp, fun x hx => List.mem_append_left _ (I.start x hx), e2, fun x hx => List.mem_append_right _ hx, fun x hx => ?_, fun x hx => ?_⟩
  · rcases List.mem_append.mp hx with hx | hx
    · rcases I.cl x hx with h | h
      · exact .inr (e3 x h)
      · exact .inr fun y hy => List.mem_append_left _ (h y hy)
    · exact .inl hx
  · rcases List.mem_append.mp hx with hx | hx
    · exact I.rch x hx
    · obtain ⟨z, hz, h⟩ := e4 x hx
      exact .step (I.rch z (I.sub z hz)) h
theorem bfs_end {nx : α → List α} {S found : List α} (I : BInv nx S found []) (x : α) : x ∈ found ↔ Rch nx S x := by
  refine ⟨I.rch x, fun h => ?_⟩
  induction h with
  | base h => exact I.start _ h
  | step _ hy ih =>
    rcases I.cl _ ih with h | h
    · cases h
    · exact h _ hy
theorem bfs_start {nx : α → List α} {S : List α} (nd : S.Nodup) : BInv nx S S S := ⟨fun _ h => h, nd, fun _ h => h, fun _ h => .inl h, fun _ h => .base h⟩
/-- the measure of a search that finds N things at the most -/
def bfsM (N : Nat) (found rows : List α) : Nat := 2 * (N - found.length) + (if rows = [] then 0 else 1)
theorem bfsM_lt {N : Nat} {found rows ext : List α} (hr : rows ≠ []) (h : (found ++ ext).length ≤ N) : bfsM N (found ++ ext) ext < bfsM N found rows := by
  unfold bfsM
  rw [if_neg hr]
  rw [List.length_append] at h ⊢
  by_cases he : ext = []
  · rw [if_pos he, he]
    simp
  · rw [if_neg he]
    have : 1 ≤ ext.length := by
      cases ext with
      | nil => exact absurd rfl he
      | cons _ _ => simp
    omega
/-- pigeons -/
theorem nodup_le : ∀ {l D : List α}, l.Nodup → (∀ x ∈ l, x ∈ D) → l.length ≤ D.length
  | [], _, _, _ => Nat.zero_le _
  | x :: l, D, nd, hs => by
    obtain ⟨h1, h2⟩ := List.nodup_cons.mp nd
    have hx : x ∈ D := hs x List.mem_cons_self
    have ih := nodup_le (D := D.erase x) h2 fun y hy => (List.mem_erase_of_ne (fun e : y = x => h1 (e ▸ hy))).2 (hs y (List.mem_cons_of_mem _ hy))
    have e := List.length_erase_of_mem hx
    have hp : 0 < D.length := List.length_pos_of_mem hx
    rw [List.length_cons]
    omega
theorem nodup_all {l D : List α} (nd : l.Nodup) (h : ∀ x ∈ l, x ∈ D) (hl : D.length ≤ l.length) : ∀ x ∈ D, x ∈ l := fun x hx => by
  rcases Classical.em (x ∈ l) with z | z
  · exact z
  · exfalso
    have := nodup_le (l := x :: l) (D := D) (List.nodup_cons.mpr ⟨z, nd⟩) fun y hy => by
      rcases List.mem_cons.mp hy with e | hy
      · rw [e]; exact hx
      · exact h y hy
    rw [List.length_cons] at this
    omega
end

/-! ### islands -/
abbrev Ch := Nat × List Nat
def at0 (cs : List Nat) (i : Nat) : Nat := cs.getD i 0
def lenOf (m : Ch) : Nat := (m.2.length - 1) / m.1
/-- the cell next towards the hub -/
def par (L c : Nat) : Nat := if (c - 1) % L = 0 then 0 else c - 1
def near (A L c : Nat) : List Nat := if c = 0 then (List.range A).map (fun a => 1 + a * L) else par L c :: (if (c - 1) % L + 1 < L then [c + 1] else [])
def held (cs : List Nat) (l : Nat) : List Nat := (List.range cs.length).filter fun i => at0 cs i == l
def hangB (L : Nat) : List Nat → Bool
  | [] => false
  | h :: t => t.all fun x => (h :: t).contains (par L x)
def maxL (cs : List Nat) : Nat := cs.foldl max 0
def landsOf (m : Ch) : Nat := maxL m.2 + 1
def hubOf (m : Ch) : Nat := at0 m.2 0
def outw (m : Ch) (a : Nat) : List Nat := (m.2.drop (1 + a * lenOf m)).take (lenOf m)
def ordStep (h : Nat) (acc : List Nat) (l : Nat) : List Nat := if l ≠ h ∧ l ∉ acc then acc ++ [l] else acc
def orderOn (m : Ch) (a : Nat) : List Nat := (outw m a).foldl (ordStep (hubOf m)) []
def ordersOf (m : Ch) : List (List Nat) := (List.range m.1).map (orderOn m)
abbrev Arr := Nat × List (List Nat)
def arrOf (m : Ch) : Arr := (hubOf m, ordersOf m)
def madeB (m : Ch) (l c : Nat) : Bool := (at0 m.2 c != l && (near m.1 (lenOf m) c).any fun x => at0 m.2 x == l) && hangB (lenOf m) ((held m.2 (at0 m.2 c)).filter fun x => x != c)
def takings (m : Ch) : List (Nat × Nat) := (List.range (landsOf m)).flatMap fun l => ((List.range m.2.length).filter fun c => madeB m l c).map fun c => (l, c)
def taken (m : Ch) (t : Nat × Nat) : Ch := (m.1, m.2.take t.2 ++ t.1 :: m.2.drop (t.2 + 1))
def bareB (m : Ch) (a : Nat) : Bool := (outw m a).all fun l => l == hubOf m
def bareN (m : Ch) : Nat := ((List.range m.1).filter fun a => bareB m a).length
def tipOf (m : Ch) (a : Nat) : Nat := at0 m.2 (a * lenOf m + lenOf m)
def tipsOf (m : Ch) : List Nat := (List.range m.1).map (tipOf m)
def nextsOf (m : Ch) : List Ch := (takings m).map (taken m)
def stillOf (m : Ch) : List Ch := ((takings m).filter fun t => t.2 != 0).map (taken m)

/-! ### as keys -/
abbrev kN (n : Nat) : NK := .num (n : Int)
abbrev kNs (ns : List Nat) : NK := .tup (ns.map kN)
def kCh (m : Ch) : NK := .tup [kN m.1, kNs m.2]
def kTk (t : Nat × Nat) : NK := .tup [kN t.1, kN t.2]
def kArr (a : Arr) : NK := .tup [kN a.1, .tup (a.2.map kNs)]
def kKey (m : Ch) : NK := if 1 < bareN m then .tup [kN m.1, kN m.2.length, kN (landsOf m), kN (hubOf m), .tup ((ordersOf m).map kNs)] else .tup [kN m.1, kN m.2.length, kN (landsOf m), kNs (tipsOf m)]
theorem kN_inj {a b : Nat} (h : kN a = kN b) : a = b := by
  have : (a : Int) = b := by injection h
  omega
theorem kNs_inj {a b : List Nat} (h : kNs a = kNs b) : a = b := by
  have h : a.map kN = b.map kN := by injection h
  exact List.map_inj_right (fun _ _ e => kN_inj e) |>.mp h
theorem kCh_inj {a b : Ch} (h : kCh a = kCh b) : a = b := by
  unfold kCh at h
  injection h with h
  injection h with h1 h2
  injection h2 with h2
  exact Prod.ext (kN_inj h1) (kNs_inj h2)
theorem kArr_inj {a b : Arr} (h : kArr a = kArr b) : a = b := by
  unfold kArr at h
  injection h with h
  injection h with h1 h2
  injection h2 with h2
  injection h2 with h2
  exact Prod.ext (kN_inj h1) (List.map_inj_right (fun _ _ e => kNs_inj e) |>.mp h2)

/-! ### the island's shape -/
structure Shp (A L : Nat) (m : Ch) : Prop where
  arms : m.1 = A
  a3 : 3 ≤ A
  a4 : A ≤ 4
  len : L = 1 ∨ L = 2 ∨ L = 3
  size : m.2.length = A * L + 1
  low : ∀ x ∈ m.2, x ≤ L
/-- a map -/
structure MapOk (A L : Nat) (m : Ch) : Prop extends Shp A L m where
  lands : 1 < landsOf m
  hang : ∀ l, l < landsOf m → hangB L (held m.2 l) = true
theorem Shp.lenOf {A L : Nat} {m : Ch} (h : Shp A L m) : lenOf m = L := by
  unfold SL.lenOf
  rw [h.size, h.arms, Nat.add_sub_cancel, Nat.mul_comm]
  exact Nat.mul_div_cancel _ (by have := h.a3; omega)
theorem mod_next {L c : Nat} (hL : L = 1 ∨ L = 2 ∨ L = 3) (hc : 1 ≤ c) : (c - 1) % L + 1 < L ↔ c % L ≠ 0 := by
  rcases hL with rfl | rfl | rfl <;> omega
theorem par_lt {L c : Nat} (hc : 1 ≤ c) : par L c < c := by
  unfold par
  split <;> omega
theorem near_iff {A L c y : Nat} (hA : 1 ≤ A) (hL : L = 1 ∨ L = 2 ∨ L = 3) (hc : c ≤ A * L) (hy : y ≤ A * L) : y ∈ near A L c ↔ (1 ≤ c ∧ y = par L c) ∨ (1 ≤ y ∧ par L y = c) := by
  unfold near
  by_cases h0 : c = 0
  · subst h0
    rw [if_pos rfl]
    simp only [List.mem_map, List.mem_range]
    constructor
    · rintro ⟨a, ha, rfl⟩
      refine .inr ⟨by omega, ?_⟩
      unfold par
      rw [if_pos]
      rcases hL with rfl | rfl | rfl <;> omega
    · rintro (⟨h, _⟩ | ⟨h1, h2⟩)
      · omega
      · unfold par at h2
        split at h2
        · rename_i hm
          refine ⟨(y - 1) / L, ?_, ?_⟩ <;> rcases hL with rfl | rfl | rfl <;> omega
        · have : y = 1 := by omega
          subst this
          exact ⟨0, by omega, by omega⟩
  · rw [if_neg h0]
    have hc1 : 1 ≤ c := by omega
    simp only [List.mem_cons]
    constructor
    · rintro (h | h)
      · exact .inl ⟨hc1, h⟩
      · split at h
        · rename_i hm
          have e : y = c + 1 := by simpa using h
          refine .inr ⟨by omega, ?_⟩
          subst e
          unfold par
          rw [if_neg]
          · omega
          · rw [Nat.add_sub_cancel]
            exact (mod_next hL hc1).mp hm
        · cases h
    · rintro (⟨_, h⟩ | ⟨h1, h2⟩)
      · exact .inl h
      · right
        unfold par at h2
        split at h2
        · exact absurd h2.symm h0
        · rename_i hm
          have e : y = c + 1 := by omega
          subst e
          rw [Nat.add_sub_cancel] at hm
          rw [if_pos ((mod_next hL hc1).mpr hm)]
          simp
theorem near_le {A L c y : Nat} (hL : L = 1 ∨ L = 2 ∨ L = 3) (hc : c ≤ A * L) (h : y ∈ near A L c) : y ≤ A * L := by
  unfold near at h
  split at h
  · obtain ⟨a, ha, rfl⟩ := List.mem_map.mp h
    have ha := List.mem_range.mp ha
    rcases hL with rfl | rfl | rfl <;> omega
  · rename_i h0
    rcases List.mem_cons.mp h with e | h
    · have := par_lt (L := L) (c := c) (by omega)
      omega
    · split at h
      · rename_i hm
        have e : y = c + 1 := by simpa using h
        have := (mod_next hL (by omega : 1 ≤ c)).mp hm
        subst e
        rcases hL with rfl | rfl | rfl <;> omega
      · cases h
inductive Up (L : Nat) (S : List Nat) (h : Nat) : Nat → Prop
  | top : Up L S h h
  | next {x : Nat} : x ∈ S → 1 ≤ x → Up L S h (par L x) → Up L S h x
/-- the search within S gives what hangB tells -/
theorem hang_bfs {A L h : Nat} {t found : List Nat} (hA : 1 ≤ A) (hL : L = 1 ∨ L = 2 ∨ L = 3) (hs : (h :: t).Pairwise (· < ·)) (hb : ∀ x ∈ h :: t, x ≤ A * L)
    (I : BInv (fun c => (near A L c).filter fun y => decide (y ∈ h :: t)) [h] found []) : decide (found.length = (h :: t).length) = hangB L (h :: t) := by
  have nd : (h :: t).Nodup := hs.imp fun h => Nat.ne_of_lt h
  have sub : ∀ x ∈ found, x ∈ h :: t := fun x hx => by
    have := I.rch x hx
    cases this with
    | base h => rw [List.mem_singleton.mp h]; exact List.mem_cons_self
    | step _ hy => simpa using (List.mem_filter.mp hy).2
  have hmin : ∀ x ∈ t, h < x := fun x hx => List.rel_of_pairwise_cons hs hx
  have hle := nodup_le I.nd sub
  have up : ∀ x, Rch (fun c => (near A L c).filter fun y => decide (y ∈ h :: t)) [h] x → x ∈ h :: t ∧ Up L (h :: t) h x := fun x hx => by
    induction hx with
    | base e => rw [List.mem_singleton.mp e]; exact ⟨List.mem_cons_self, .top⟩
    | @step x y rx hy ih =>
      obtain ⟨hn, hm⟩ := List.mem_filter.mp hy
      have hm : y ∈ h :: t := by simpa using hm
      refine ⟨hm, ?_⟩
      rcases (near_iff hA hL (hb x ih.1) (hb y hm)).mp hn with ⟨h1, h2⟩ | ⟨h1, h2⟩
      · cases ih.2 with
        | top =>
          have hlt := par_lt (L := L) h1
          rw [← h2] at hlt
          rcases List.mem_cons.mp hm with e | e
          · omega
          · have := hmin y e
            omega
        | next _ _ u => rw [h2]; exact u
      · exact .next hm h1 (by rw [h2]; exact ih.2)
  rw [Bool.eq_iff_iff, decide_eq_true_eq]
  constructor
  · intro hl
    have all := nodup_all I.nd sub (Nat.le_of_eq hl.symm)
    unfold hangB
    rw [List.all_eq_true]
    intro x hx
    have hxm : x ∈ h :: t := List.mem_cons_of_mem _ hx
    have hlt := hmin x hx
    cases (up x (I.rch x (all x hxm))).2 with
    | top => exact absurd hlt (Nat.lt_irrefl _)
    | next _ _ u =>
      rw [List.contains_iff_mem]
      cases u with
      | top => exact List.mem_cons_self
      | next h1 _ _ => exact h1
  · intro hh
    unfold hangB at hh
    rw [List.all_eq_true] at hh
    have all : ∀ n, ∀ x ∈ h :: t, x ≤ n → x ∈ found := by
      intro n
      induction n with
      | zero =>
        intro x hx hn
        rcases List.mem_cons.mp hx with e | e
        · rw [e]; exact I.start h (List.mem_singleton.mpr rfl)
        · have := hmin x e
          omega
      | succ n ih =>
        intro x hx hn
        rcases List.mem_cons.mp hx with e | e
        · rw [e]; exact I.start h (List.mem_singleton.mpr rfl)
        · have h1 := hmin x e
          have hp : par L x ∈ h :: t := by simpa using hh x e
          have hlt := par_lt (L := L) (c := x) (by omega)
          have hf := ih (par L x) hp (by omega)
          rw [bfs_end I] at hf ⊢
          refine .step hf (List.mem_filter.mpr ⟨(near_iff hA hL (hb _ hp) (hb _ hx)).mpr (.inr ⟨by omega, rfl⟩), by simpa using hx⟩)
    have hge := nodup_le nd fun x hx => all x x hx (Nat.le_refl _)
    omega
end SL
end

section
set_option Elab.async false
set_option linter.all false
set_option maxRecDepth 100000
set_option maxHeartbeats 4000000
/-! set(xs), xs a list of nested tuples of whole numbers; sorted of such a set.
Turned to nested keys from HandS.TupSets (which has flat tuples of ints); the table's own lemmas are imported from there. -/
namespace SL
open PySem PySem.Spec PyProof.Rows L2

/-! ### keys without texts -/
mutual
def noText : NK → Bool
  | .none => true
  | .num _ => true
  | .text _ => false
  | .tup ks => noTexts ks
def noTexts : List NK → Bool
  | [] => true
  | k :: ks => noText k && noTexts ks
end
abbrev nhash (P : Program) (w : World) (k : NK) : Int := (nestedKind P w).hash k
/-- the tuple at b is the key k, without texts -/
def IsN (P : Program) (w : World) (h : Heap) (k : NK) (b : Addr) : Prop := (nestedKind P w).is h k b ∧ noText k = true
section
variable {K : PySem.W.Frag} {H : Hp}
mutual
theorem tp_noText : ∀ (k : NK) (v : V), Tp K H v k → noText k = true
  | .num _, _, _ => by rw [noText]
  | .tup ks, _, h => by
    cases h with
    | tup _ h2 =>
      rw [noText]
      exact tps_noText ks _ h2
  | .none, _, h => by cases h
  | .text _, _, h => by cases h
theorem tps_noText : ∀ (ks : List NK) (vs : List V), TpAll K H vs ks → noTexts ks = true
  | [], _, _ => by rw [noTexts]
  | k :: ks, _, h => by
    cases h with
    | cons h1 h2 => rw [noTexts, tp_noText k _ h1, tps_noText ks _ h2]; rfl
end
end
section
variable {P : Program} {w : World} {A : Around} {E : Value → Shared → Prop} {s : Shared}
theorem IsN.typeIs {k : NK} {b : Addr} (h : IsN P w s.heap k b) : s.TypeIs (.ref b) "tuple" := by
  obtain ⟨⟨h, _⟩, _⟩ := h
  cases h with
  | tup h1 h2 _ _ => exact ⟨_, h1, h2⟩
/-- asked n levels down, v is of no class statement -/
def AClsAt (P : Program) (w : World) (n : Nat) (s : Shared) (v : Value) : Prop := ∀ (A : Around) (E : Value → Shared → Prop) (Q : Bool → Shared → Prop), Q false s → wpAny (model P w) A (ofAClassStatement n v) Q E s
def HashAt (P : Program) (w : World) (n : Nat) (s : Shared) (v : Value) : Prop := ∀ (A : Around) (E : Value → Shared → Prop) (Q : Bool → Shared → Prop), Q true s → wpAny (model P w) A (hashByValue n v) Q E s
theorem AClsAt.tuple {n : Nat} {a : Addr} {o : Obj} {vs : Array Value} {m : Nat} (ho : s.heap.get? a = some o) (hc : o.cls = .type "tuple") (hd : o.data = .seq vs m) (hq : ∀ v ∈ vs.toList, AClsAt P w n s v) : AClsAt P w (n + 1) s (.ref a) := fun A E Q h => by
  have hT : s.TypeIs (.ref a) "tuple" := ⟨o, ho, hc⟩
  unfold ofAClassStatement
  refine wpAny_bind (wpAny_typeOf hT ?_)
  dsimp only
  have e : (("tuple" : String) == "tuple") = true := by decide
  simp only [e, if_true, Bool.not_true, Bool.false_eq_true, if_false]
  try refine wpAny_bind (wpAny_pure ?_)
  try simp only [Bool.not_true, Bool.false_eq_true, if_false]
  refine wpAny_bind (wpAny_seqItems ho hd ?_)
  dsimp only
  refine wpAny_bind ?_
  show wpAny _ _ (forIn vs _ _) _ _ s
  rw [← Array.forIn_toList]
  refine wpAny_forIn_list _ (fun rest r s' => r.1 = none ∧ s' = s ∧ ∀ v ∈ rest, AClsAt P w n s v) _ ?_ ?_ _ _ ⟨rfl, rfl, hq⟩
  · rintro v rest r s' ⟨hr, rfl, hall⟩
    refine wpAny_bind (hall v List.mem_cons_self _ _ _ ?_)
    simp only [Bool.false_eq_true, if_false]
    exact wpAny_pure ⟨rfl, rfl, fun u hu' => hall u (List.mem_cons_of_mem _ hu')⟩
  · rintro ⟨r1, r2⟩ s' ⟨hr, rfl, _⟩
    simp only at hr
    subst hr
    exact wpAny_pure h
theorem HashAt.tuple {n : Nat} {a : Addr} {o : Obj} {vs : Array Value} {m : Nat} (ho : s.heap.get? a = some o) (hc : o.cls = .type "tuple") (hd : o.data = .seq vs m) (hq : ∀ v ∈ vs.toList, HashAt P w n s v) : HashAt P w (n + 1) s (.ref a) := fun A E Q h => by
  have hT : s.TypeIs (.ref a) "tuple" := ⟨o, ho, hc⟩
  unfold hashByValue
  refine wpAny_bind (wpAny_specialOf hT F.slot_tuple_hash.lookup ?_)
  dsimp only
  refine wpAny_bind (wpAny_seqItems ho hd ?_)
  refine wpAny_bind ?_
  show wpAny _ _ (forIn vs _ _) _ _ s
  rw [← Array.forIn_toList]
  refine wpAny_forIn_list _ (fun rest r s' => r.1 = none ∧ s' = s ∧ ∀ v ∈ rest, HashAt P w n s v) _ ?_ ?_ _ _ ⟨rfl, rfl, hq⟩
  · rintro v rest r s' ⟨hr, rfl, hall⟩
    refine wpAny_bind (hall v List.mem_cons_self _ _ _ ?_)
    simp only [Bool.not_true, Bool.false_eq_true, if_false]
    exact wpAny_pure ⟨rfl, rfl, fun u hu' => hall u (List.mem_cons_of_mem _ hu')⟩
  · rintro ⟨r1, r2⟩ s' ⟨hr, rfl, _⟩
    simp only at hr
    subst hr
    exact wpAny_pure h
mutual
theorem acls_key : ∀ (k : NK) (v : Value) (n : Nat) (s : Shared), NestedIs s.heap k v → k.depth ≤ n → AClsAt P w n s v
  | .none, _, n, s, x, _ => by
    cases x
    exact fun A E Q h => by cases n <;> exact wpAny_pure h
  | .num i, _, n, s, x, _ => by cases x <;> exact fun A E Q h => by cases n <;> exact wpAny_pure h
  | .text y, _, n, s, x, _ => by
    cases x
    exact fun A E Q h => by cases n <;> exact wpAny_pure h
  | .tup ks, _, n, s, x, hn => by
    cases x with
    | tup hg hc hd hk =>
      simp only [NestedKey.depth] at hn
      cases n with
      | zero => omega
      | succ n => exact .tuple hg hc hd (acls_keys ks _ n s hk (by omega))
theorem acls_keys : ∀ (ks : List NK) (vs : List Value) (n : Nat) (s : Shared), NestedAll s.heap ks vs → NestedKey.depthAll ks ≤ n → ∀ v ∈ vs, AClsAt P w n s v
  | [], _, n, s, x, _, v, hv => by cases x; cases hv
  | k :: ks, _, n, s, x, hn, v, hv => by
    cases x with
    | cons x1 x2 =>
      simp only [NestedKey.depthAll] at hn
      rcases List.mem_cons.mp hv with e | hv
      · rw [e]; exact acls_key k _ n s x1 (by omega)
      · exact acls_keys ks _ n s x2 (by omega) v hv
end
mutual
theorem hashAt_key : ∀ (k : NK) (v : Value) (n : Nat) (s : Shared), NestedIs s.heap k v → noText k = true → k.depth ≤ n → HashAt P w n s v
  | .none, _, n, s, x, _, _ => by
    cases x
    exact fun A E Q h => by cases n <;> exact wpAny_pure h
  | .num i, _, n, s, x, _, _ => by cases x <;> exact fun A E Q h => by cases n <;> exact wpAny_pure h
  | .text y, _, n, s, x, t, _ => by
    rw [noText] at t
    cases t
  | .tup ks, _, n, s, x, t, hn => by
    cases x with
    | tup hg hc hd hk =>
      rw [noText] at t
      simp only [NestedKey.depth] at hn
      cases n with
      | zero => omega
      | succ n => exact .tuple hg hc hd (hashAt_keys ks _ n s hk t (by omega))
theorem hashAt_keys : ∀ (ks : List NK) (vs : List Value) (n : Nat) (s : Shared), NestedAll s.heap ks vs → noTexts ks = true → NestedKey.depthAll ks ≤ n → ∀ v ∈ vs, HashAt P w n s v
  | [], _, n, s, x, _, _, v, hv => by cases x; cases hv
  | k :: ks, _, n, s, x, t, hn, v, hv => by
    cases x with
    | cons x1 x2 =>
      rw [noTexts, Bool.and_eq_true] at t
      simp only [NestedKey.depthAll] at hn
      rcases List.mem_cons.mp hv with e | hv
      · rw [e]; exact hashAt_key k _ n s x1 t.1 (by omega)
      · exact hashAt_keys ks _ n s x2 t.2 (by omega) v hv
end
theorem ofAClass_key {k : NK} {b : Addr} {Q : Bool → Shared → Prop} (hk : IsN P w s.heap k b) (h : Q false s) : wpAny (model P w) A (ofAClassStatement 8 (.ref b)) Q E s := acls_key k _ 8 s hk.1.1 hk.1.2 A E Q h
theorem hashBy_key {k : NK} {b : Addr} {Q : Bool → Shared → Prop} (hk : IsN P w s.heap k b) (h : Q true s) : wpAny (model P w) A (hashByValue 8 (.ref b)) Q E s := hashAt_key k _ 8 s hk.1.1 hk.2 hk.1.2 A E Q h
/-- a search among keys shows nothing -/
theorem seen_key {k : NK} {b : Addr} {Q : Bool → Shared → Prop} (hk : IsN P w s.heap k b) {ys : List Value} (hy : ∀ y ∈ ys, ∃ k' c, y = Value.ref c ∧ IsN P w s.heap k' c) (h : Q false s) :
    wpAny (model P w) A (searchCouldBeSeen (.ref b) ys) Q E s := by
  unfold searchCouldBeSeen
  refine wpAny_bind ?_
  refine wpAny_forIn_list _ (fun rest r s' => r.1 = none ∧ s' = s ∧ ∀ y ∈ rest, ∃ k' c, y = Value.ref c ∧ IsN P w s.heap k' c) _ ?_ ?_ _ _ ⟨rfl, rfl, hy⟩
  · rintro v rest r s' ⟨hr, rfl, hall⟩
    obtain ⟨k', c, rfl, hc⟩ := hall v List.mem_cons_self
    have rest' : ∀ y ∈ rest, ∃ k' c, y = Value.ref c ∧ IsN P w s'.heap k' c := fun u hu' => hall u (List.mem_cons_of_mem _ hu')
    dsimp only
    by_cases hv : (b == c || (carriedByValue (.ref b) && carriedByValue (.ref c))) = true
    · refine wp_if_pos hv ?_
      exact wpAny_pure ⟨rfl, rfl, rest'⟩
    · refine wp_if_neg hv ?_
      refine wpAny_bind ((nestedKind P w).quiet hk.1 ?_)
      simp only [Bool.not_true, Bool.false_eq_true, if_false]
      refine wpAny_bind ((nestedKind P w).quiet hc.1 ?_)
      simp only [Bool.not_true, Bool.false_eq_true, if_false]
      refine wpAny_bind (ofAClass_key hk ?_)
      simp only [Bool.false_eq_true, if_false]
      refine wpAny_bind (ofAClass_key hc ?_)
      simp only [Bool.false_eq_true, if_false]
      exact wpAny_pure ⟨rfl, rfl, rest'⟩
  · rintro ⟨r1, r2⟩ s' ⟨hr, rfl, _⟩
    simp only at hr
    subst hr
    exact wpAny_pure h

/-! ### the set of tuples -/
def rowsN (P : Program) (w : World) (L : List (Addr × NK)) : List (Int × Value) := L.map fun p => (nhash P w p.2, Value.ref p.1)
structure SetN (P : Program) (w : World) (h : Heap) (a : Addr) (L : List (Addr × NK)) (es : Array (Int × Value)) (ep : Nat) (t : SetTable) : Prop where
  ob : ∃ o, h.get? a = some o ∧ o.ExactSet ∧ o.data = .set es ep t
  rows : es.toList = rowsN P w L
  tab : TabOk t (L.map fun p => nhash P w p.2)
  nd : (L.map (·.2)).Nodup
  tup : ∀ p ∈ L, IsN P w h p.2 p.1
  plain : t.plain = true
  led : w.params.followText "set-order" = true ∨ t.led = true
  room : L.length * 5 < t.mask * 3
  few : L.length < 64
variable {a : Addr} {L : List (Addr × NK)} {es : Array (Int × Value)} {ep : Nat} {t : SetTable}
theorem SetN.size (R : SetN P w s.heap a L es ep t) : es.size = L.length := by
  have h := congrArg List.length R.rows
  unfold rowsN at h
  rw [Array.length_toList, List.length_map] at h
  exact h
theorem SetN.fits (R : SetN P w s.heap a L es ep t) : t.fits es.size = true := by
  have h1 := R.tab.sz
  rw [List.length_map] at h1
  have h2 := R.size
  have h3 := R.room
  unfold SetTable.fits SetTable.fill
  rw [R.tab.dm, Bool.and_eq_true, beq_iff_eq, decide_eq_true_eq]
  show t.place.size = es.size ∧ t.place.size + 0 ≤ t.mask
  omega
theorem SetN.entry (R : SetN P w s.heap a L es ep t) {i : Nat} {p : Addr × NK} (h : L[i]? = some p) : es[i]? = some (nhash P w p.2, Value.ref p.1) := by
  rw [← Array.getElem?_toList, R.rows]
  unfold rowsN
  rw [List.getElem?_map, h] <;> rfl
theorem SetN.gw (R : SetN P w s.heap a L es ep t) : ¬ t.gaveWay = true := by
  unfold SetTable.gaveWay
  rw [mask_odd R.tab.mok]
  decide
/-- THE SEARCH: from the c-th step of the way on -/
theorem searchN_from (R : SetN P w s.heap a L es ep t) {x : Addr} {k : NK} (hx : IsN P w s.heap k x) (hu : A.units + 8 < cLine) {K : Nat} (hKf : K < 10 * SetTable.turns t.mask)
    (hK : way t.mask (nhash P w k) K ∉ t.place.toList) (hKb : ∀ c, c < K → way t.mask (nhash P w k) c ∈ t.place.toList) {Q : SetFound → Shared → Prop}
    (hin : k ∈ L.map (·.2) → Q (.there none) s) (hout : k ∉ L.map (·.2) → Q (.free (way t.mask (nhash P w k) K) false) s) :
    ∀ (f c : Nat) (stand : Option SetTable.Probe), stand.getD (t.probeStart (nhash P w k)) = nth t.mask (runAt t.mask (SetTable.bits (nhash P w k) % (t.mask + 1)) (SetTable.bits (nhash P w k))) c → c ≤ K → K - c < f →
      (∀ (i : Nat) p, L[i]? = some p → p.2 = k → ∃ c', c ≤ c' ∧ c' < K ∧ t.place.toList[i]? = some (way t.mask (nhash P w k) c')) →
      wpAny (model P w) A (setSearchFrom a (.ref x) (nhash P w k) true f stand) Q E s
  | 0, c, stand, _, _, hf, _ => absurd hf (Nat.not_lt_zero _)
  | f + 1, c, stand, hst, hc, hf, hre => by
    obtain ⟨o, ho, hex, hd⟩ := R.ob
    rw [setSearchFrom_succ]
    refine wpAny_bind (wpAny_setState_of ho hd R.fits ?_)
    dsimp only
    refine wp_if_neg R.gw ?_
    try refine wpAny_bind (wpAny_pure ?_)
    have hnd : (nth t.mask (runAt t.mask (SetTable.bits (nhash P w k) % (t.mask + 1)) (SetTable.bits (nhash P w k))) c).dummy = none := by
      have key : ∀ (n : Nat) (p : SetTable.Probe), p.dummy = none → (nth t.mask p n).dummy = none := by
        intro n
        induction n with
        | zero => intro p h; exact h
        | succ n ih =>
          intro p h
          refine ih (adv t.mask p) ?_
          unfold adv
          split <;> exact h
      exact key c _ rfl
    have sh : ∀ q, nth t.mask (nth t.mask (runAt t.mask (SetTable.bits (nhash P w k) % (t.mask + 1)) (SetTable.bits (nhash P w k))) c) q = nth t.mask (runAt t.mask (SetTable.bits (nhash P w k) % (t.mask + 1)) (SetTable.bits (nhash P w k))) (c + q) := fun q => (nth_add t.mask c _ q).symm
    have e1 : ∀ q, (nth t.mask (nth t.mask (runAt t.mask (SetTable.bits (nhash P w k) % (t.mask + 1)) (SetTable.bits (nhash P w k))) c) q).j = way t.mask (nhash P w k) (c + q) := fun q => congrArg SetTable.Probe.j (sh q)
    have spec := go_spec t R.tab.ris R.tab.dm (fun i => (es[i]?.map (·.1)).getD 0) (nhash P w k) (10 * SetTable.turns t.mask) (K - c) _ hnd (by omega)
      (fun q hq => by rw [e1]; exact hKb (c + q) (by omega)) (by rw [e1, show c + (K - c) = K by omega]; exact hK)
    have hashAt : ∀ (i : Nat) p, L[i]? = some p → (fun i => (es[i]?.map (·.1)).getD 0) i = nhash P w p.2 := fun i p hp => by
      show (es[i]?.map (·.1)).getD 0 = _
      rw [R.entry hp] <;> rfl
    rcases spec with ⟨q, i, hq, hi, hh, hno, hpr⟩ | ⟨hno, hpr⟩
    · -- a candidate
      have hpr' : t.probe (fun i => (es[i]?.map (·.1)).getD 0) (nhash P w k) (stand.getD (t.probeStart (nhash P w k))) = some (.candidate (way t.mask (nhash P w k) (c + q)) i (nth t.mask (runAt t.mask (SetTable.bits (nhash P w k) % (t.mask + 1)) (SetTable.bits (nhash P w k))) (c + (q + 1)))) := by
        rw [hst, ← e1, ← sh]
        exact hpr
      rw [hpr']
      dsimp only
      rw [e1] at hi
      -- the entry
      have hil : i < L.length := by
        have h1 : i < t.place.toList.length := (List.getElem?_eq_some_iff.mp hi).1
        have h2 := R.tab.sz
        rw [List.length_map] at h2
        rw [Array.length_toList] at h1
        omega
      have hp : L[i]? = some L[i] := List.getElem?_eq_getElem hil
      generalize hpe : L[i] = p at hp
      have hmem : p ∈ L := List.mem_of_getElem? hp
      have hpt := R.tup p hmem
      have rest : wpAny (model P w) A (searchRest a (.ref x) (nhash P w k) true f es t (way t.mask (nhash P w k) (c + q)) i (nth t.mask (runAt t.mask (SetTable.bits (nhash P w k) % (t.mask + 1)) (SetTable.bits (nhash P w k))) (c + (q + 1)))) Q E s := by
        unfold searchRest
        rw [R.entry hp]
        dsimp only
        refine wpAny_bind (wpAny_holding ((nestedKind P w).eqBool hu hpt.1 hx.1 ?_))
        refine wpAny_bind (wpAny_setState_of ho hd R.fits ?_)
        dsimp only
        by_cases hkk : p.2 = k
        · refine wp_if_pos (by simp [hkk]) ?_
          refine wpAny_pure (hin ?_)
          exact List.mem_map.mpr ⟨p, hmem, hkk⟩
        · refine wp_if_neg (by simp [hkk]) ?_
          try refine wpAny_bind (wpAny_pure ?_)
          rw [L2.sameMem]
          dsimp only
          have hsl : t.slot (way t.mask (nhash P w k) (c + q)) = .live i := slot_live R.tab.ris hi
          simp only [if_true, hsl, R.entry hp]
          refine wpAny_bind (wpAny_isSame_ref_self (wpAny_bind (wpAny_pure ?_)))
          simp only [if_true]
          refine wp_if_neg (by simp [hkk]) ?_
          refine searchN_from R hx hu hKf hK hKb hin hout f (c + (q + 1)) _ rfl (by omega) (by omega) fun i0 p0 h0 hk0 => ?_
          obtain ⟨c', a1, a2, a3⟩ := hre i0 p0 h0 hk0
          refine ⟨c', ?_, a2, a3⟩
          -- it isn't passed
          rcases Nat.lt_or_ge c' (c + q) with z | z
          · exfalso
            refine hno (c' - c) i0 (by omega) (by rw [e1, show c + (c' - c) = c' by omega]; exact a3) ?_
            exact (hashAt i0 p0 h0).trans (congrArg (nhash P w) hk0)
          · rcases Nat.lt_or_ge (c + q) c' with y | y
            · omega
            · exfalso
              have ec : c' = c + q := Nat.le_antisymm y z
              rw [ec] at a3
              have s0 := slot_live R.tab.ris a3
              rw [hsl] at s0
              injection s0 with s0
              rw [← s0, hp] at h0
              exact hkk ((congrArg Prod.snd (Option.some.inj h0)).trans hk0)
      by_cases hl : t.led = true
      · refine wp_if_neg (by simp [hl]) ?_
        try refine wpAny_bind (wpAny_pure ?_)
        exact rest
      · refine wp_if_pos (by simp [hl]) ?_
        refine wpAny_bind (seen_key hx (fun y hy => ?_) ?_)
        · obtain ⟨e, he, ee⟩ := List.mem_map.mp hy
          have he1 : e ∈ es ∧ e.1 = nhash P w k := by simpa using he
          have he2 : e ∈ es.toList := by simpa using he1.1
          rw [R.rows] at he2
          obtain ⟨p2, hp2, e2⟩ := List.mem_map.mp he2
          refine ⟨p2.2, p2.1, ?_, R.tup p2 hp2⟩
          rw [← ee, ← e2]
        · refine wp_if_neg (by decide) ?_
          try refine wpAny_bind (wpAny_pure ?_)
          exact rest
    · -- the empty slot
      have hpr' : t.probe (fun i => (es[i]?.map (·.1)).getD 0) (nhash P w k) (stand.getD (t.probeStart (nhash P w k))) = some (.empty (way t.mask (nhash P w k) K) none) := by
        have e2 : way t.mask (nhash P w k) K = (nth t.mask (nth t.mask (runAt t.mask (SetTable.bits (nhash P w k) % (t.mask + 1)) (SetTable.bits (nhash P w k))) c) (K - c)).j := by
          rw [e1, show c + (K - c) = K by omega]
        rw [hst, e2]
        exact hpr
      rw [hpr']
      dsimp only
      refine wpAny_pure (hout fun hm => ?_)
      obtain ⟨p0, h0, hk0⟩ := List.mem_map.mp hm
      obtain ⟨i0, hi0, e0⟩ := List.getElem_of_mem h0
      have h00 : L[i0]? = some p0 := by rw [List.getElem?_eq_getElem hi0, e0]
      obtain ⟨c', a1, a2, a3⟩ := hre i0 p0 h00 hk0
      refine hno (c' - c) i0 (by omega) (by rw [e1, show c + (c' - c) = c' by omega]; exact a3) ?_
      exact (hashAt i0 p0 h00).trans (congrArg (nhash P w) hk0)

/-- the search as adding asks for it -/
theorem searchN_at (R : SetN P w s.heap a L es ep t) {x : Addr} {k : NK} (hx : IsN P w s.heap k x) (hu : A.units + 8 < cLine) {Q : SetFound → Shared → Prop}
    (hin : k ∈ L.map (·.2) → Q (.there none) s)
    (hout : ∀ K, k ∉ L.map (·.2) → way t.mask (nhash P w k) K ∉ t.place.toList → (∀ c, c < K → way t.mask (nhash P w k) c ∈ t.place.toList) → Q (.free (way t.mask (nhash P w k) K) false) s) :
    wpAny (model P w) A (setSearch a (.ref x) (nhash P w k) true) Q E s := by
  have hroom := R.room
  obtain ⟨K, hKf, hK, hKb⟩ := R.tab.first (by rw [List.length_map]; omega) (nhash P w k)
  have hbig : K < 100000 := by
    have : 10 * SetTable.turns t.mask ≤ 1420 := by
      unfold SetTable.turns
      rcases R.tab.mok with e | e | e <;> omega
    omega
  unfold setSearch
  refine searchN_from R hx hu hKf hK hKb hin (fun hn => hout K hn hK hKb) 100000 0 none rfl (Nat.zero_le _) (by omega) fun i p hp hk => ?_
  have hi : (L.map fun p => nhash P w p.2)[i]? = some (nhash P w k) := by rw [List.getElem?_map, hp, ← hk] <;> rfl
  have hil : i < t.place.toList.length := by
    have h1 : i < L.length := (List.getElem?_eq_some_iff.mp hp).1
    have h2 := R.tab.sz
    rw [List.length_map] at h2
    rw [Array.length_toList]
    omega
  have hj := List.getElem?_eq_getElem hil
  obtain ⟨c, hc, e⟩ := R.tab.before hK hi hj
  exact ⟨c, Nat.zero_le _, hc, by rw [hj, e]⟩

theorem isN_same {h h' : Heap} {k : NK} {a b : Addr} {o : Obj} {es : Array (Int × Value)} {ep : Nat} {t : SetTable} (hb : IsN P w h k b) (ho : h.get? a = some o) (hd : o.data = .set es ep t) (hs : Heap.SameBut a h h') : IsN P w h' k b := by
  refine ⟨⟨NestedIs.at (fun c o' vs n h1 h2 => (hs.2 c fun e => ?_).trans h1) k _ hb.1.1, hb.1.2⟩, hb.2⟩
  subst e
  rw [ho] at h1
  cases h1
  rw [hd] at h2
  exact nomatch h2
theorem rowsN_put (L : List (Addr × NK)) (p : Nat) (x : Addr) (k : NK) : rowsN P w (L.take p ++ (x, k) :: L.drop p) = (rowsN P w L).take p ++ (nhash P w k, Value.ref x) :: (rowsN P w L).drop p := by
  unfold rowsN
  rw [List.map_append, List.map_cons, List.map_take, List.map_drop]
theorem orderN (L : List (Addr × NK)) (es : Array (Int × Value)) (order : Array Nat) (hr : es.toList = rowsN P w L) (hp : order.toList.Perm (List.range L.length)) :
    ∃ L2, (order.filterMap (es[·]?)).toList = rowsN P w L2 ∧ L2.Perm L ∧ (L2.map fun p => nhash P w p.2) = order.toList.map fun i => (es.map (·.1)).getD i 0 := by
  have hsz : es.size = L.length := by
    have h := congrArg List.length hr
    unfold rowsN at h
    rw [Array.length_toList, List.length_map] at h
    exact h
  have ent : ∀ i (h : i < L.length), es[i]? = some (nhash P w (L[i]).2, Value.ref (L[i]).1) := fun i h => by
    rw [← Array.getElem?_toList, hr]
    unfold rowsN
    rw [List.getElem?_map, List.getElem?_eq_getElem h] <;> rfl
  have key : ∀ l : List Nat, (∀ i ∈ l, i < L.length) → ∃ L2 : List (Addr × NK), l.filterMap (fun i => es[i]?) = rowsN P w L2 ∧ L2 = l.filterMap (fun i => L[i]?) ∧ (L2.map fun p => nhash P w p.2) = l.map fun i => (es.map (·.1)).getD i 0 := by
    intro l
    induction l with
    | nil => intro _; exact ⟨[], rfl, rfl, rfl⟩
    | cons i l ih =>
      intro hl
      have hi := hl i List.mem_cons_self
      obtain ⟨L2, e1, e2, e3⟩ := ih fun j hj => hl j (List.mem_cons_of_mem _ hj)
      refine ⟨L[i] :: L2, ?_, ?_, ?_⟩
      · rw [List.filterMap_cons_some (ent i hi), e1] <;> rfl
      · rw [List.filterMap_cons_some (List.getElem?_eq_getElem hi), e2]
      · rw [List.map_cons, List.map_cons, e3]
        have hi2 : i < (es.map (·.1)).size := by rw [Array.size_map, hsz]; exact hi
        have e4 : (es.map (·.1)).getD i 0 = nhash P w (L[i]).2 := by
          have e5 : (es.map (·.1))[i]? = some (nhash P w (L[i]).2) := by rw [Array.getElem?_map, ent i hi] <;> rfl
          simp [Array.getD_eq_getD_getElem?, e5]
        rw [e4]
  obtain ⟨L2, e1, e2, e3⟩ := key order.toList fun i hi => List.mem_range.mp (hp.mem_iff.mp hi)
  refine ⟨L2, by first | (rw [Array.toList_filterMap]; exact e1) | simpa using e1, ?_, e3⟩
  have h1 : L2.Perm ((List.range L.length).filterMap fun i => L[i]?) := by
    rw [e2]
    exact hp.filterMap _
  have h2 : (List.range L.length).filterMap (fun i => L[i]?) = L := by
    have key2 : ∀ n, n ≤ L.length → (List.range n).filterMap (fun i => L[i]?) = L.take n := by
      intro n
      induction n with
      | zero => intro _; rfl
      | succ n ih =>
        intro hn
        have hlt : n < L.length := hn
        rw [List.range_succ, List.filterMap_append, ih (Nat.le_of_lt hlt), List.take_succ, List.getElem?_eq_getElem hlt]
        rw [List.filterMap_cons_some (List.getElem?_eq_getElem hlt)] <;> rfl
    rw [key2 L.length (Nat.le_refl _), List.take_length]
  rw [h2] at h1
  exact h1

variable {a : Addr} {L : List (Addr × NK)} {es : Array (Int × Value)} {ep : Nat} {t : SetTable}
/-- the table laid anew, larger -/
theorem relayN {o : Obj} (ho : s.heap.get? a = some o) (hex : o.ExactSet) (hd : o.data = .set es ep t) (hrows : es.toList = rowsN P w L) (hsz : t.place.size = es.size) (hdm : t.dummies = #[]) (hfl : es.size ≤ t.mask)
    (nd : (L.map (·.2)).Nodup) (tup : ∀ p ∈ L, IsN P w s.heap p.2 p.1) (pl : t.plain = true) (ld : w.params.followText "set-order" = true ∨ t.led = true) (few : L.length < 64) {wanted M : Nat}
    (hw : SetTable.sizeAbove wanted - 1 = M) (hM : MaskOk M) (hw2 : SetTable.sizeAbove wanted ≤ 128) (hn : L.length * 5 < M * 3) {Q : Unit → Shared → Prop}
    (hQ : ∀ h' L' es' ep' t', Heap.SameBut a s.heap h' → SetN P w h' a L' es' ep' t' → L'.Perm L → Q () { s with heap := h' }) : wpAny (model P w) A (setRelay a wanted) Q E s := by
  have hsl : es.size = L.length := by
    have h := congrArg List.length hrows
    unfold rowsN at h
    rw [Array.length_toList, List.length_map] at h
    exact h
  have hfits : t.fits es.size = true := by
    unfold SetTable.fits SetTable.fill
    rw [hdm, Bool.and_eq_true, beq_iff_eq, decide_eq_true_eq]
    show t.place.size = es.size ∧ t.place.size + 0 ≤ t.mask
    omega
  obtain ⟨t', order, e, hp, T, em, el, ep', ed⟩ := relaid_ok t (hs := es.map (·.1)) (wanted := wanted) hw hM (by rw [Array.size_map, hsl]; omega)
  rw [Array.size_map, hsl] at hp
  obtain ⟨L2, r1, r2, r3⟩ := orderN L es order hrows hp
  rw [← r3] at T
  have hs2 : (order.filterMap (es[·]?)).size = es.size := by
    have h := congrArg List.length r1
    unfold rowsN at h
    rw [Array.length_toList, List.length_map, r2.length_eq] at h
    rw [h, hsl]
  rw [setRelay_eq]
  refine wpAny_bind (wpAny_setState_of ho hd hfits ?_)
  dsimp only
  refine wp_if_neg (by rw [sizeLine_eq]; omega) ?_
  try refine wpAny_bind (wpAny_pure ?_)
  rw [e]
  dsimp only
  refine wpAny_bind ?_
  refine wp_if_neg (by rw [hs2]; simp) ?_
  try refine wpAny_bind (wpAny_pure ?_)
  refine wpAny_pure ?_
  dsimp only
  refine wpAny_storeSet_of ho hd ?_ (by rw [hs2, hsl, sizeLine_eq]; omega)
  have sb : Heap.SameBut a s.heap (s.heap.update a (Obj.putSet (order.filterMap (es[·]?)) t')) := Heap.SameBut.update ..
  refine hQ _ L2 (order.filterMap (es[·]?)) (ep + 1) t' sb ?_ r2
  refine ⟨⟨_, store_at ho hd, ⟨hex.1, hex.2.1, hex.2.2⟩, rfl⟩, r1, T, ?_, fun p hpm => isN_same (tup p (r2.mem_iff.mp hpm)) ho hd sb, by rw [ep']; exact pl, by rw [el]; exact ld, ?_, by rw [r2.length_eq]; exact few⟩
  · exact (r2.map (·.2)).nodup_iff.mpr nd
  · rw [r2.length_eq, em]
    exact hn

/-- ADDING -/
theorem addN (R : SetN P w s.heap a L es ep t) {x : Addr} {k : NK} (hx : IsN P w s.heap k x) (hu : A.units + 8 < cLine) (hfew : L.length + 1 < 64) {Q : Bool → Shared → Prop}
    (hQ : ∀ b h' L' es' ep' t', Heap.SameBut a s.heap h' → SetN P w h' a L' es' ep' t' → (k ∈ L.map (·.2) → L' = L) → (k ∉ L.map (·.2) → L'.Perm ((x, k) :: L)) → Q b { s with heap := h' }) :
    wpAny (model P w) A (setAddHashed a (.ref x) (nhash P w k)) Q E s := by
  obtain ⟨o, ho, hex, hd⟩ := R.ob
  have hsl := R.size
  have hroom := R.room
  unfold setAddHashed
  refine wpAny_holding ?_
  rw [show (100000 : Nat) = 99999 + 1 from rfl, setAddHashedIn_succ]
  refine wpAny_bind (wpAny_setState_of ho hd R.fits ?_)
  dsimp only
  refine wp_if_neg (by simp [byScan, Value.scannable]) ?_
  try refine wpAny_bind (wpAny_pure ?_)
  refine wpAny_bind (searchN_at R hx hu (fun hm => ?_) fun K hm hK hb => ?_)
  · dsimp only
    exact wpAny_pure (hQ false s.heap L es ep t (Heap.SameBut.refl a s.heap) R (fun _ => rfl) fun z => absurd hm z)
  · dsimp only
    refine wpAny_bind (wpAny_setState_of ho hd R.fits ?_)
    dsimp only
    obtain ⟨q1, q2, q3, q4, q5, q6, q7, q8, q9⟩ := R.tab.put hK hb
    have hp1 : (t.put (way t.mask (nhash P w k) K)).1.plain = true := by rw [q6]; exact R.plain
    generalize hpt : t.put (way t.mask (nhash P w k) K) = pt at q1 q3 q4 q5 q6 q7 q8 q9 hp1 ⊢
    obtain ⟨t1, p⟩ := pt
    dsimp only at q1 q3 q4 q5 q6 q7 q8 q9 hp1 ⊢
    subst q1
    first
      | (refine wpAny_bind ?_; refine wp_if_pos hp1 ?_; refine hashBy_key hx ?_)
      | refine wp_if_pos hp1 (wpAny_bind (hashBy_key hx ?_))
    simp only [if_true]
    have hin : (SetTable.insertAt es (SetTable.below t.place (way t.mask (nhash P w k) K)) (nhash P w k, Value.ref x)).toList = rowsN P w (L.take (SetTable.below t.place (way t.mask (nhash P w k) K)) ++ (x, k) :: L.drop (SetTable.below t.place (way t.mask (nhash P w k) K))) := by
      rw [SetTable.toList_insertAt, rowsN_put, R.rows]
    generalize hpp : SetTable.below t.place (way t.mask (nhash P w k) K) = p at q2 q3 hin ⊢
    have pm := L2.put_perm L p (x, k)
    have hlen : (L.take p ++ (x, k) :: L.drop p).length = L.length + 1 := pm.length_eq
    have hhs : (L.take p ++ (x, k) :: L.drop p).map (fun p => nhash P w p.2) = (L.map fun p => nhash P w p.2).take p ++ nhash P w k :: (L.map fun p => nhash P w p.2).drop p := by
      rw [List.map_append, List.map_cons, List.map_take, List.map_drop]
    rw [← hhs] at q3
    have nd1 : ((L.take p ++ (x, k) :: L.drop p).map (·.2)).Nodup := by
      refine (pm.map (·.2)).nodup_iff.mpr ?_
      rw [List.map_cons]
      exact List.nodup_cons.mpr ⟨hm, R.nd⟩
    have hes : (SetTable.insertAt es p (nhash P w k, Value.ref x)).size = L.length + 1 := by
      have h := congrArg List.length hin
      unfold rowsN at h
      rw [Array.length_toList, List.length_map, hlen] at h
      exact h
    generalize SetTable.insertAt es p (nhash P w k, Value.ref x) = es1 at hin hes ⊢
    generalize L.take p ++ (x, k) :: L.drop p = L1 at pm hlen q3 nd1 hin
    refine wpAny_bind (wpAny_storeSet_of ho hd ?_ (by rw [hes, sizeLine_eq]; omega))
    have sb : Heap.SameBut a s.heap (s.heap.update a (Obj.putSet es1 t1)) := Heap.SameBut.update ..
    have ho1 := store_at (es' := es1) (t' := t1) ho hd
    generalize s.heap.update a (Obj.putSet es1 t1) = h1 at sb ho1 ⊢
    have tup1 : ∀ p ∈ L1, IsN P w h1 p.2 p.1 := fun p hp => by
      rcases List.mem_cons.mp (pm.mem_iff.mp hp) with e | hp
      · rw [e]; exact isN_same hx ho hd sb
      · exact isN_same (R.tup p hp) ho hd sb
    have ld1 : w.params.followText "set-order" = true ∨ t1.led = true := by rw [q5]; exact R.led
    by_cases hf : t1.tooFull = true
    · first
        | (refine wpAny_bind ?_; refine wp_if_pos (by simp [hf]) ?_)
        | (refine wp_if_pos (by simp [hf]) ?_; refine wpAny_bind ?_)
      have hfull : (L.length + 1) * 5 ≥ t1.mask * 3 := by
        have h := hf
        unfold SetTable.tooFull at h
        rw [decide_eq_true_eq, q9, List.length_map] at h
        exact h
      rw [hsl]
      have hsz1 : t1.place.size = es1.size := by
        have h := q3.sz
        rw [List.length_map, hlen] at h
        rw [h, hes]
      have cases2 : (t.mask = 7 ∧ L.length = 4) ∨ (t.mask = 31 ∧ L.length = 18) := by
        rcases R.tab.mok with e | e | e
        · left; rw [q4, e] at hfull; rw [e] at hroom; exact ⟨e, by omega⟩
        · right; rw [q4, e] at hfull; rw [e] at hroom; exact ⟨e, by omega⟩
        · exfalso; rw [q4, e] at hfull; omega
      have go : ∀ M, SetTable.sizeAbove (SetTable.grown (L.length + 1)) - 1 = M → MaskOk M → SetTable.sizeAbove (SetTable.grown (L.length + 1)) ≤ 128 → (L.length + 1) * 5 < M * 3 →
          wpAny (model P w) A (setRelay a (SetTable.grown (L.length + 1))) (fun _ s' => wpAny (model P w) A (pure true) Q E s') E { s with heap := h1 } := fun M h1' h2' h3' h4' => by
        refine relayN (s := { s with heap := h1 }) ho1 ⟨hex.1, hex.2.1, hex.2.2⟩ rfl hin hsz1 q3.dm (by rw [hes, q4]; rcases cases2 with ⟨e, e2⟩ | ⟨e, e2⟩ <;> omega) nd1 tup1 hp1 ld1 (by rw [hlen]; exact hfew) h1' h2' h3' (by rw [hlen]; exact h4') ?_
        intro h2 L2 es2 ep2 t2 sb2 R2 pm2
        refine wpAny_pure (hQ true h2 L2 es2 ep2 t2 (sb.trans sb2) R2 (fun z => absurd z hm) fun _ => pm2.trans pm)
      rcases cases2 with ⟨_, e2⟩ | ⟨_, e2⟩
      · refine go 31 (by rw [e2, size_20]) (.inr (.inl rfl)) (by rw [e2, size_20]; decide) (by omega)
      · refine go 127 (by rw [e2, size_76]) (.inr (.inr rfl)) (by rw [e2, size_76]; decide) (by omega)
    · first
        | refine wp_if_neg (by simp [hf]) ?_
        | (refine wpAny_bind ?_; refine wp_if_neg (by simp [hf]) ?_; refine wpAny_pure ?_)
      refine wpAny_pure (hQ true h1 L1 es1 (ep + 1) t1 sb ⟨⟨_, ho1, ⟨hex.1, hex.2.1, hex.2.2⟩, rfl⟩, hin, q3, nd1, tup1, hp1, ld1, ?_, by rw [hlen]; exact hfew⟩ (fun z => absurd z hm) fun _ => pm)
      have h := hf
      unfold SetTable.tooFull at h
      rw [decide_eq_true_eq, q9, List.length_map] at h
      rw [hlen]
      omega

/-- what the set has got from the first i items -/
structure GotN (ks : List (Addr × NK)) (i : Nat) (L : List (Addr × NK)) : Prop where
  sub : ∀ p ∈ L, p ∈ ks.take i
  all : ∀ p ∈ ks.take i, p.2 ∈ L.map (·.2)
  len : L.length ≤ i
theorem GotN.zero (ks : List (Addr × NK)) : GotN ks 0 [] := ⟨fun p h => (by cases h), fun p h => (by simp at h), Nat.le_refl _⟩
theorem GotN.same {ks L : List (Addr × NK)} {i : Nat} {x : Addr × NK} (g : GotN ks i L) (h : ks[i]? = some x) (hm : x.2 ∈ L.map (·.2)) : GotN ks (i + 1) L := by
  refine ⟨fun p hp => ?_, fun p hp => ?_, Nat.le_succ_of_le g.len⟩
  · rw [take_next h]
    exact List.mem_append_left _ (g.sub p hp)
  · rw [take_next h] at hp
    rcases List.mem_append.mp hp with z | z
    · exact g.all p z
    · rw [List.mem_singleton.mp z]; exact hm
theorem GotN.more {ks L L' : List (Addr × NK)} {i : Nat} {x : Addr × NK} (g : GotN ks i L) (h : ks[i]? = some x) (pm : L'.Perm (x :: L)) : GotN ks (i + 1) L' := by
  refine ⟨fun p hp => ?_, fun p hp => ?_, ?_⟩
  · rw [take_next h]
    rcases List.mem_cons.mp (pm.mem_iff.mp hp) with e | z
    · rw [e]; exact List.mem_append_right _ (List.mem_singleton.mpr rfl)
    · exact List.mem_append_left _ (g.sub p z)
  · rw [(pm.map (·.2)).mem_iff, List.map_cons]
    rw [take_next h] at hp
    rcases List.mem_append.mp hp with z | z
    · exact List.mem_cons_of_mem _ (g.all p z)
    · rw [List.mem_singleton.mp z]; exact List.mem_cons_self
  · rw [pm.length_eq, List.length_cons]
    exact Nat.succ_le_succ g.len

theorem isN_keep {h h' : Heap} {k : NK} {b : Addr} (x : IsN P w h k b) (hk : ∀ c o, h.get? c = some o → h'.get? c = some o) : IsN P w h' k b := by
  exact ⟨⟨NestedIs.at (fun c o _ _ h1 _ => hk c o h1) k _ x.1.1, x.1.2⟩, x.2⟩
theorem SetN.keep {h h' : Heap} {a : Addr} {L : List (Addr × NK)} {es : Array (Int × Value)} {ep : Nat} {t : SetTable} (R : SetN P w h a L es ep t) (ha : ∀ o, h.get? a = some o → h'.get? a = some o) (ht : ∀ p ∈ L, IsN P w h' p.2 p.1) : SetN P w h' a L es ep t := by
  obtain ⟨o, ho, r⟩ := R.ob
  exact ⟨⟨o, ha o ho, r⟩, R.rows, R.tab, R.nd, ht, R.plain, R.led, R.room, R.few⟩
/-- a new set -/
theorem setN_fresh {h : Heap} {a : Addr} (ho : h.get? a = some { cls := .type "set", dict := none, data := .set #[] 0 (.fresh 0 0 (!w.params.followText "set-order")) }) : SetN P w h a [] #[] 0 (.fresh 0 0 (!w.params.followText "set-order")) where
  ob := ⟨_, ho, ⟨rfl, rfl, rfl⟩, rfl⟩
  rows := rfl
  tab := ⟨List.Pairwise.nil, rfl, rfl, .inl rfl, fun x hx => (by cases hx), fun i h j hi => (by simp at hi)⟩
  nd := List.nodup_nil
  tup := fun p hp => (by cases hp)
  plain := rfl
  led := by
    show _ ∨ (!w.params.followText "set-order") = true
    cases w.params.followText "set-order"
    · exact .inr rfl
    · exact .inl rfl
  room := by
    show 0 * 5 < 7 * 3
    decide
  few := by
    show 0 < 64
    decide

/-- set.update's loop -/
theorem set_updateN {I : Addr} {fp wr : List Addr} {G : Array GenState → Array GenState → Prop} {n : Nat} {Pv : Nat → Value → Prop} {St : Nat → Shared → Prop} {R : Result → Shared → Prop}
    (W : WalksS P w A.in1 I fp wr G n Pv St) (S : Addr) (hSf : S ∉ fp) (ks : List (Addr × NK)) (hn : n = ks.length) (hfew : ∀ l : List NK, l.Nodup → (∀ k ∈ l, k ∈ ks.map (·.2)) → l.length < 63) (hval : ∀ i v, Pv i v → ∃ p, ks[i]? = some p ∧ v = .ref p.1)
    (h0 : Heap) (hk : ∀ p ∈ ks, IsN P w h0 p.2 p.1) (hS0 : h0.get? S = none) (hw0 : ∀ b ∈ wr, h0.get? b = none) (hu : A.in1.units + 8 < cLine) :
    ∀ (k i : Nat) (s : Shared), n - i = k → i ≤ n → St i s → (∀ b o, h0.get? b = some o → s.heap.get? b = some o) → (∃ L es ep t, SetN P w s.heap S L es ep t ∧ GotN ks i L) →
      (∀ s' L es ep t, Moved (S :: wr) G s s' → SetN P w s'.heap S L es ep t → GotN ks n L → (∀ b o, h0.get? b = some o → s'.heap.get? b = some o) → R (.ok (.ret .none)) s') →
      codeAny (model P w) A (.builtin "set.update.loop" ⟨[.ref S, .ref I], []⟩) R s := by
  have hSw : S ∉ wr := fun h => hSf (W.sub _ h)
  have hsub : ∀ b ∈ wr, b ∈ S :: wr := fun b hb => List.mem_cons_of_mem _ hb
  have keepM : ∀ {s s' : Shared}, Moved wr G s s' → (∀ b o, h0.get? b = some o → s.heap.get? b = some o) → ∀ b o, h0.get? b = some o → s'.heap.get? b = some o := fun hm hkp b o e =>
    hm.heap b o (fun hb => by rw [hw0 b hb] at e; cases e) (hkp b o e)
  intro k
  induction k with
  | zero =>
    intro i s hk' hi hst hkp ⟨L, es, ep, t, hS, g⟩ hR
    have hin : i = n := by omega
    subst hin
    refine codeAny_builtin F.entry_set_update_loop ?_
    rw [Around.under_plainId F.plain_set_update_loop _]
    show wpAny _ A.in1 (pyNext (.ref I) >>= _) _ _ s
    refine wpAny_bind (W.done s _ _ hst fun s' hm => ?_)
    show wpAny _ A.in1 (ret Value.none) _ _ s'
    have hkp' := keepM hm hkp
    have sub : ∀ p ∈ L, p ∈ ks := fun p hp => List.mem_of_mem_take (g.sub p hp)
    exact wpAny_pure (hR s' L es ep t (hm.mono hsub) (hS.keep (fun o e => hm.heap S o hSw e) fun p hp => isN_keep (hk p (sub p hp)) hkp') g hkp')
  | succ k ih =>
    intro i s hk' hi hst hkp ⟨L, es, ep, t, hS, g⟩ hR
    have hlt : i < n := by omega
    refine codeAny_builtin F.entry_set_update_loop ?_
    rw [Around.under_plainId F.plain_set_update_loop _]
    show wpAny _ A.in1 (pyNext (.ref I) >>= _) _ _ s
    refine wpAny_bind (W.item i s _ _ hlt hst fun v s' hP hst' hm => ?_)
    obtain ⟨p, hp, rfl⟩ := hval i v hP
    have hkp' := keepM hm hkp
    have sub : ∀ p ∈ L, p ∈ ks := fun p hp => List.mem_of_mem_take (g.sub p hp)
    have hS' : SetN P w s'.heap S L es ep t := hS.keep (fun o e => hm.heap S o hSw e) fun q hq => isN_keep (hk q (sub q hq)) hkp'
    have hx : IsN P w s'.heap p.2 p.1 := isN_keep (hk p (List.mem_of_getElem? hp)) hkp'
    show wpAny _ A.in1 (holding [Value.ref p.1] (setAdd S (.ref p.1)) >>= _) _ _ s'
    refine wpAny_bind (wpAny_holding ?_)
    unfold setAdd
    refine wpAny_holding ?_
    refine wpAny_bind ((nestedKind P w).pyHash hu hx.1 ?_)
    refine addN (s := { s' with toks := s'.toks + (nestedKind P w).draws p.2 }) hS' hx hu (by have := hfew (L.map (·.2)) hS.nd (fun k hk => by obtain ⟨q, hq, e⟩ := List.mem_map.mp hk; exact List.mem_map.mpr ⟨q, sub q hq, e⟩); rw [List.length_map] at this; omega) fun b h' L' es' ep' t' hsb hS2 c1 c2 => ?_
    have g' : GotN ks (i + 1) L' := by
      rcases Classical.em (p.2 ∈ L.map (·.2)) with c | c
      · rw [c1 c]; exact g.same hp c
      · exact g.more hp (c2 c)
    have hkp2 : ∀ b o, h0.get? b = some o → h'.get? b = some o := fun b o e => (hsb.2 b (fun z => by rw [z, hS0] at e; cases e)).trans (hkp' b o e)
    refine wpAny_pure ⟨plainId_quiet F.plain_set_update_loop _, ih (i + 1) _ (by omega) hlt (W.frame _ s' _ _ hst' (Nat.le_add_right _ _) fun b hb o e => ?_) hkp2 ⟨L', es', ep', t', hS2, g'⟩ fun s'' L2 es2 ep2 t2 hm'' hS'' g'' hkp'' => ?_⟩
    · rw [hsb.2 b (fun h : b = S => hSf (by rw [← h]; exact hb))]; exact e
    · refine hR s'' L2 es2 ep2 t2 (Moved.trans W.gtrans ((hm.mono hsub).then_heap (Nat.le_add_right _ _) fun b o hb e => ?_) hm'') hS'' g'' hkp''
      rw [hsb.2 b (fun h : b = S => hb (by rw [h]; exact List.mem_cons_self))]; exact e

set_option maxRecDepth 100000 in
set_option maxHeartbeats 3200000 in
/-- set(xs) -/
theorem call_setN {l : Addr} {items : Array Value} (ks : List (Addr × NK)) {Q : Value → Shared → Prop} (hh : A.handled = none) (hl : s.heap.IsList l items) (hit : items.toList = ks.map fun p => Value.ref p.1)
    (hk : ∀ p ∈ ks, IsN P w s.heap p.2 p.1) (hfew : ∀ l : List NK, l.Nodup → (∀ k ∈ l, k ∈ ks.map (·.2)) → l.length < 63) (hu : A.units + 16 < cLine)
    (h : ∀ (h' : Heap) (tk : Nat) L es ep t, SetN P w h' s.heap.objs.size L es ep t → GotN ks ks.length L → (∀ b o, s.heap.get? b = some o → h'.get? b = some o) → Q (.ref s.heap.objs.size) { s with heap := h', toks := tk }) :
    wpAny (model P w) A (call (.type "set") [.ref l]) Q E s := by
  have hisz : items.size = ks.length := by
    have q := congrArg List.length hit
    rw [Array.length_toList, List.length_map] at q
    exact q
  obtain ⟨c, tl, hmro⟩ := F.called_set.mro
  have hmade := F.called_set.made
  have hsub := F.called_set.sub
  refine wpAny_call (codeAny_of_tree ?_)
  show wpAny _ _ (callAny (.type "set") _) _ _ _
  refine wpAny_pure ⟨Code.quiet_builtin _ (by decide +kernel), codeAny_builtin F.entry_type_call ?_⟩
  rw [Around.under_plain (weight_type_call_type "set" [.ref l] []) rfl]
  have h1 := F.called_set.notType
  have h2 := F.called_set.canCreate
  have hct := F.typeCall_set_1 (.ref l)
  repeat (any_goals (first | assumption | wp_step))

  refine codeAny_mono (code_set_led1 (.ref l) (E := E) (Q₁ := fun obj s₁ => obj = .ref s.heap.objs.size ∧ s₁ = { s with heap := s.heap.push { cls := .type "set", dict := none, data := .set #[] 0 (.fresh 0 0 (!w.params.followText "set-order")) } }) ⟨rfl, rfl⟩) fun r s₁ hr => ?_
  cases r with
  | error e => exact hr
  | ok fl =>
    cases fl with
    | ret obj =>
      obtain ⟨rfl, rfl⟩ := hr
      have hS : (s.heap.push { cls := .type "set", dict := none, data := .set #[] 0 (.fresh 0 0 (!w.params.followText "set-order")) }).get? s.heap.objs.size = some { cls := .type "set", dict := none, data := .set #[] 0 (.fresh 0 0 (!w.params.followText "set-order")) } := Heap.get?_push_size _ rfl
      have hT : Shared.TypeIs { s with heap := s.heap.push { cls := .type "set", dict := none, data := .set #[] 0 (.fresh 0 0 (!w.params.followText "set-order")) } } (.ref s.heap.objs.size) "set" := ⟨_, hS, rfl⟩
      have hli := F.called_set.init.lookup
      have hbi := F.called_set.init.bind (.ref s.heap.objs.size)
      repeat (any_goals (first | assumption | wp_step))

      refine codeAny_mono (codeAny_call_builtin (R := wants (fun r s₂ => r = .none ∧ ∃ h' tk L es ep t, s₂ = { s with heap := h', toks := tk } ∧ SetN P w h' s.heap.objs.size L es ep t ∧ GotN ks ks.length L ∧
          (∀ b o, s.heap.get? b = some o → h'.get? b = some o)) E) F.called_set.init.plain F.entry_set_init (check_set_init_1 hT ?_)) fun r₂ s₂ hr₂ => ?_
      · obtain ⟨ol, hol, hcl, nl, hdl⟩ := hl
        obtain ⟨ocls, odict, odata, oslots⟩ := ol
        simp only at hcl hdl
        subst hcl; subst hdl
        have hol' : (s.heap.push { cls := .type "set", dict := none, data := .set #[] 0 (.fresh 0 0 (!w.params.followText "set-order")) }).get? l = some { cls := .type "list", dict := odict, data := .seq items nl, slots := oslots } := Heap.get?_push_of_some _ hol
        have hsls := F.sub_list_set
        have hslf := F.sub_list_frozenset
        have hne : (Value.type "list" == Value.type "dict") = false := by decide
        have hl1 : (s.heap.push { cls := .type "set", dict := none, data := .set #[] 0 (.fresh 0 0 (!w.params.followText "set-order")) }).IsList l items := ⟨_, hol', rfl, nl, rfl⟩
        unfold Builtin.«set.__init__» noKeywords Builtin.Frozenset.updateFrom
        generalize hPI : pyIter = PI
        wp_walk
        subst hPI

        refine wpAny_pyIter_list hl1 ?_
        refine wpAny_bind (wpAny_runValue ?_)
        have hlS : l < s.heap.objs.size := Heap.lt_size hol
        have hh3 : A.in1.in1.in1.handled = none := by simp [hh]
        have hz1 : (s.heap.push { cls := .type "set", dict := none, data := .set #[] 0 (.fresh 0 0 (!w.params.followText "set-order")) }).objs.size = s.heap.objs.size + 1 := Heap.size_push ..
        have hneI : l ≠ (s.heap.push { cls := .type "set", dict := none, data := .set #[] 0 (.fresh 0 0 (!w.params.followText "set-order")) }).objs.size := by
          rw [Heap.size_push]; exact Nat.ne_of_lt (Nat.lt_succ_of_lt hlS)
        have hSf : s.heap.objs.size ∉ [(s.heap.push { cls := .type "set", dict := none, data := .set #[] 0 (.fresh 0 0 (!w.params.followText "set-order")) }).objs.size, l] := by
          rw [Heap.size_push]; simp only [List.mem_cons, List.mem_singleton, List.not_mem_nil, or_false, not_or]
          exact ⟨Nat.ne_of_lt (Nat.lt_succ_self _), Nat.ne_of_gt hlS⟩
        have hval : ∀ (i : Nat) (v : Value), items[i]? = some v → ∃ p, ks[i]? = some p ∧ v = .ref p.1 := fun i v hv => by
          have q : items.toList[i]? = some v := by rw [Array.getElem?_toList]; exact hv
          rw [hit, List.getElem?_map] at q
          cases hq : ks[i]? with
          | none => rw [hq] at q; cases q
          | some p =>
            rw [hq] at q
            exact ⟨p, rfl, (Option.some.inj q).symm⟩
        have none_of : ∀ b, s.heap.objs.size ≤ b → s.heap.get? b = none := fun b hb => by
          cases q : s.heap.get? b with
          | none => rfl
          | some o => exact absurd (Nat.lt_of_lt_of_le (Heap.lt_size q) hb) (Nat.lt_irrefl _)
        refine set_updateN ((Walks.list hh3 _ l hneI items).toS) s.heap.objs.size
          hSf ks hisz hfew hval s.heap hk (none_of _ (Nat.le_refl _)) (fun b hb => none_of b (by
            rw [List.mem_singleton.mp hb, Heap.size_push]
            exact Nat.le_succ _)) (by show A.units + 1 + 1 + 1 + 8 < cLine; omega) (items.size - 0) 0 _ (by omega) (Nat.zero_le _)
          ⟨⟨_, Heap.get?_push_size _ rfl, rfl, rfl⟩, (hl1.push _)⟩ (fun b o e => Heap.get?_push_of_some _ (Heap.get?_push_of_some _ e)) ?hS0 ?hR
        case hS0 =>
          have hget : ((s.heap.push { cls := .type "set", dict := none, data := .set #[] 0 (.fresh 0 0 (!w.params.followText "set-order")) }).push { cls := .type "list_iterator", data := .fields #[.ref l, .int 0 0] }).get? s.heap.objs.size
              = some { cls := .type "set", dict := none, data := .set #[] 0 (.fresh 0 0 (!w.params.followText "set-order")) } := Heap.get?_push_of_some _ hS
          exact ⟨[], #[], 0, _, setN_fresh hget, GotN.zero ks⟩
        case hR =>
          intro s' L es ep t hm hS' g' hkp
          obtain ⟨h', g2, d', tk', os'⟩ := s'
          have eg : g2 = s.gens := hm.gens
          have ed : d' = s.drawn := hm.drawn
          have eo : os' = s.os := hm.os
          subst eg; subst ed; subst eo
          show wpAny _ _ _ _ _ _
          refine wpAny_pure ?_
          show wpAny _ _ (ret Value.none) _ _ _
          rw [hisz] at g'
          exact wpAny_pure ⟨rfl, h', tk', L, es, ep, t, rfl, hS', g', hkp⟩

      · cases r₂ with
        | error e => exact hr₂
        | ok fl₂ =>
          cases fl₂ with
          | ret r =>
            obtain ⟨rfl, h', tk, L, es, ep, t, rfl, hS', g', hk'⟩ := hr₂
            repeat (any_goals (first | assumption | wp_step))
            exact h _ _ _ _ _ _ hS' g' hk'
          | _ => exact hr₂.elim
    | _ => exact hr.elim
end
/-! ### as tracked things -/
structure SetN0 (P : Program) (w : World) (h : Heap) (a : Addr) (L : List (Addr × NK)) : Prop where
  ex : ∃ (es : Array (Int × Value)) (ep : Nat) (t : SetTable), (∃ o, h.get? a = some o ∧ o.ExactSet ∧ o.data = .set es ep t) ∧ es.toList = rowsN P w L ∧ TabOk t (L.map fun p => nhash P w p.2) ∧ (L.map (·.2)).Nodup ∧ t.plain = true ∧
    (w.params.followText "set-order" = true ∨ t.led = true) ∧ L.length * 5 < t.mask * 3 ∧ L.length < 64
def SetNO (P : Program) (w : World) (a : Addr) (L : List (Addr × NK)) : HO := .ext fun h => SetN0 P w h a L
/-- at a stands a set of these keys -/
def SetAtN (P : Program) (w : World) (K : PySem.W.Frag) (H : Hp) (a : Addr) (ds : List NK) : Prop := ∃ L, H a = some (SetNO P w a L) ∧ L.map (·.2) = ds ∧ ∀ p ∈ L, Tp K H (.ref p.1) p.2 ∧ p.2.depth ≤ 8
theorem SetN.t0 {P : Program} {w : World} {h : Heap} {a : Addr} {L : List (Addr × NK)} {es : Array (Int × Value)} {ep : Nat} {t : SetTable} (R : SetN P w h a L es ep t) : SetN0 P w h a L :=
  ⟨es, ep, t, R.ob, R.rows, R.tab, R.nd, R.plain, R.led, R.room, R.few⟩
theorem SetN0.full {P : Program} {w : World} {h : Heap} {a : Addr} {L : List (Addr × NK)} (R : SetN0 P w h a L) (ht : ∀ p ∈ L, IsN P w h p.2 p.1) : ∃ es ep t, SetN P w h a L es ep t := by
  obtain ⟨es, ep, t, h1, h2, h3, h4, h5, h6, h7, h8⟩ := R.ex
  exact ⟨es, ep, t, h1, h2, h3, h4, ht, h5, h6, h7, h8⟩
theorem setNO_new {P : Program} {w : World} {H : Hp} {h : Heap} {a : Addr} {L : List (Addr × NK)} (R : SetN0 P w h a L) : ObjOk P w H h a (SetNO P w a L) := by
  have ⟨es, ep, t, ⟨o, ho, r⟩, q⟩ := R.ex
  refine ⟨R, ⟨o, ho⟩, fun h1 h2 p k => ?_⟩
  have ⟨es', ep', t', ⟨o', ho', r'⟩, q'⟩ := SetN0.ex p
  exact ⟨es', ep', t', ⟨o', k o' ho', r'⟩, q'⟩
section
variable {X : Cx}
theorem isN_of {pins : List (Addr × Obj)} {σ : L2.St} {H : Hp} {s : Shared} {b : Addr} {k : NK} (I : Inv X pins σ H s) (t : Tp X.K H (.ref b) k) (hd : k.depth ≤ 8) : IsN X.prog X.w s.heap k b :=
  ⟨⟨nested_of I k _ _ t rfl, hd⟩, tp_noText k _ t⟩
/-- items that are tuples: where they stand -/
theorem addrs_of {K : PySem.W.Frag} {H : Hp} : ∀ {vs : List V} {ks : List NK}, TpAll K H vs ks → (∀ k ∈ ks, ∃ r, k = .tup r) → ∃ L : List (Addr × NK), vs = L.map (fun p => V.ref p.1) ∧ L.map (·.2) = ks ∧ ∀ p ∈ L, Tp K H (.ref p.1) p.2
  | [], _, h, _ => by
    cases h
    exact ⟨[], rfl, rfl, fun p hp => by cases hp⟩
  | _ :: _, _, h, ht => by
    cases h with
    | cons h1 h2 =>
      obtain ⟨L, e1, e2, e3⟩ := addrs_of h2 fun k hk => ht k (List.mem_cons_of_mem _ hk)
      obtain ⟨r, rfl⟩ := ht _ List.mem_cons_self
      cases h1 with
      | @tup a xs _ q1 q2 =>
        refine ⟨(a, .tup r) :: L, by rw [List.map_cons, e1], by rw [List.map_cons, e2], fun p hp => ?_⟩
        rcases List.mem_cons.mp hp with z | z
        · rw [z]
          exact .tup q1 q2
        · exact e3 p z
/-- set(xs) -/
def rSetOfN (K : PySem.W.Frag) (P : Program) (w : World) : List V → Hp → VK → Prop := fun xs H Q => ∃ (l : Addr) (vs : List V) (ks : List NK), xs = [V.ref l] ∧ SqL K H l vs ∧ TpAll K H vs ks ∧ (∀ k ∈ ks, (∃ r, k = .tup r) ∧ k.depth ≤ 8) ∧
  (∀ l : List NK, l.Nodup → (∀ k ∈ l, k ∈ ks) → l.length < 63) ∧
  ∀ a H' ds, H a = none → (∀ b, b ≠ a → H' b = H b) → ds.Nodup → (∀ k, k ∈ ds ↔ k ∈ ks) → SetAtN P w K H' a ds → Q (.ref a) H'
theorem cr_setOfN (hc : X.calm = true) (hu : X.A.units + 64 < cLine) : CallR X (.type "set") (rSetOfN X.K X.prog X.w) := by
  intro pins s σ H xs us Q I r h
  obtain ⟨l, vs, ks, rfl, hl, tv, hk, hf, q⟩ := h
  obtain ⟨L0, rfl, rfl, hL⟩ := addrs_of tv fun k h => (hk k h).1
  obtain ⟨u, rfl, ru⟩ := vals1 r
  obtain rfl : u = Value.ref l := ru
  obtain ⟨its, rv, pl, hz⟩ := I.list hl
  have hn : H s.heap.objs.size = none := I.hok.fresh (Nat.le_refl _)
  have refs : ∀ (L : List (Addr × NK)) (us : List Value), Vals (L.map fun p => V.ref p.1) us → us = L.map fun p => Value.ref p.1 := by
    intro L
    induction L with
    | nil => intro us r; cases r; rfl
    | cons p L ih =>
      intro us r
      rw [List.map_cons] at r
      cases r with
      | cons r1 r2 =>
        cases r1
        rw [ih _ r2]
        rfl
  refine call_setN (P := X.prog) (w := X.w) L0 (I.ok.hd hc) pl.isList (by simpa using refs _ _ rv) (fun p hp => isN_of I (hL p hp) (hk p.2 (List.mem_map.mpr ⟨p, hp, rfl⟩)).2) hf (by omega) fun h' tk L es ep t R g k => ?_
  have sub : ∀ p ∈ L, p ∈ L0 := fun p hp => List.mem_of_mem_take (g.sub p hp)
  refine ⟨.ref s.heap.objs.size, upd H s.heap.objs.size (SetNO X.prog X.w s.heap.objs.size L), I.laid (t' := tk) k (Nat.le_refl _) (setNO_new R.t0), rfl, q _ _ (L.map (·.2)) hn (fun b hb => upd_ne hb) R.nd (fun k => ⟨fun hm => ?_, fun hm => ?_⟩) ⟨L, upd_same, rfl, fun p hp => ⟨?_, ?_⟩⟩⟩
  · obtain ⟨p, hp, e⟩ := List.mem_map.mp hm
    exact List.mem_map.mpr ⟨p, sub p hp, e⟩
  · obtain ⟨p, hp, e⟩ := List.mem_map.mp hm
    rw [← e]
    exact g.all p (by rw [List.take_length]; exact hp)
  · exact tp_but (fun b hb => upd_ne hb) (not_tup_none hn) (hL p (sub p hp))
  · exact (hk p.2 (List.mem_map.mpr ⟨p, sub p hp, rfl⟩)).2
/-- sorted(set) -/
def rSortedN (K : PySem.W.Frag) (P : Program) (w : World) : List V → Hp → VK → Prop := fun xs H Q => ∃ (a : Addr) (ds : List NK), xs = [V.ref a] ∧ SetAtN P w K H a ds ∧ SortOk ds ∧
  ∀ p vs', H p = none → TpAll K H vs' (ds.mergeSort leK) → Q (.ref p) (upd H p (.lst vs'))
theorem pulled {K : PySem.W.Frag} {H : Hp} {L : List (Addr × NK)} (hL : ∀ p ∈ L, Tp K H (.ref p.1) p.2) : ∀ us : List Value, (∀ u ∈ us, ∃ p ∈ L, u = Value.ref p.1) → ∃ L1 : List (Addr × NK), us = L1.map (fun p => Value.ref p.1) ∧ (∀ p ∈ L1, p ∈ L)
  | [], _ => ⟨[], rfl, fun p hp => by cases hp⟩
  | u :: us, h => by
    obtain ⟨p, hp, e⟩ := h u List.mem_cons_self
    obtain ⟨L1, e1, s1⟩ := pulled hL us fun v hv => h v (List.mem_cons_of_mem _ hv)
    refine ⟨p :: L1, by rw [List.map_cons, e, e1], fun q hq => ?_⟩
    rcases List.mem_cons.mp hq with z | z
    · rw [z]; exact hp
    · exact s1 q z
theorem cr_sortedN (hc : X.calm = true) (hu : X.A.units + 16 < cLine) : CallR X (.builtin "sorted") (rSortedN X.K X.prog X.w) := by
  intro pins s σ H xs us Q I r h
  obtain ⟨a, ds, rfl, ⟨L, hH, rfl, hL⟩, ok, q⟩ := h
  obtain ⟨u, rfl, ru⟩ := vals1 r
  obtain rfl : u = Value.ref a := ru
  have R0 : SetN0 X.prog X.w s.heap a L := (I.hok a _ hH).1
  obtain ⟨es, ep, t, R⟩ := R0.full fun p hp => isN_of I (hL p hp).1 (hL p hp).2
  obtain ⟨o, ho, hex, hd⟩ := R.ob
  have hsz := R.size
  have hfew := R.few
  refine Calls.call_function_entry kind_sorted plain_sorted entry_sorted (args_sorted1 _) ?_
  unfold Builtin.«sorted»
  refine wpAny_bind (m := checkCount "sorted" 1 1 _) (wpAny_pure ?_)
  refine wpAny_bind (collect_set (A := X.A.in1) (I.ok.hd hc) ⟨o, ho, hex.1, hd⟩ R.fits (by unfold scanBound; omega) R.tab.ris R.led fun s1 vs k1 hz g1 o1 pm => ?_)
  have hes : es.toList.map (·.2) = L.map fun q => Value.ref q.1 := by
    rw [R.rows]
    unfold rowsN
    rw [List.map_map]
    rfl
  rw [hes] at pm
  have I2 : Inv X pins σ H s1 := I.call' (ch := []) o1 (Un.kept k1) (I.hok.kept k1) (by rw [g1]; exact I.bare) (fun _ z => nomatch z)
  obtain ⟨L1, e1, s1'⟩ := pulled (fun p hp => (hL p hp).1) vs fun v hv => by
    obtain ⟨p, hp, e⟩ := List.mem_map.mp (pm.mem_iff.mp hv)
    exact ⟨p, hp, e.symm⟩
  -- an address has one key
  have one : ∀ p ∈ L, ∀ r ∈ L, p.1 = r.1 → p = r := fun p hp r hr e => by
    have a1 := (hL p hp).1
    rw [e] at a1
    exact Prod.ext e (tp_inj I a1 (hL r hr).1)
  have nL : L.Nodup := L2.nodup_of_map R.nd
  have nref : (L.map fun p => Value.ref p.1).Nodup := by
    refine List.pairwise_map.mpr (List.Pairwise.imp_of_mem (fun {p r} hp hr hne e => ?_) nL)
    injection e with e
    exact hne (one p hp r hr e)
  have n1 : L1.Nodup := by
    have z := pm.nodup_iff.mpr nref
    rw [e1] at z
    exact L2.nodup_of_map z
  have pL : L1.Perm L := (List.perm_ext_iff_of_nodup n1 nL).mpr fun p => ⟨s1' p, fun hp => by
    have hm : Value.ref p.1 ∈ vs := pm.mem_iff.mpr (List.mem_map.mpr ⟨p, hp, rfl⟩)
    rw [e1] at hm
    obtain ⟨r, hr, e⟩ := List.mem_map.mp hm
    injection e with e
    rw [← one r (s1' r hr) p hp e]
    exact hr⟩
  have pk : (L1.map (·.2)).Perm (L.map (·.2)) := pL.map _
  have ok1 : SortOk (L1.map (·.2)) := ⟨fun x hx y hy => ok.alike x ((pk.map NestedKey.data).mem_iff.mp hx) y ((pk.map NestedKey.data).mem_iff.mp hy), fun k hk => ok.tup k (pk.mem_iff.mp hk), fun k hk => ok.depth k (pk.mem_iff.mp hk)⟩
  have tt : ∀ (zs : List (Addr × NK)), (∀ z ∈ zs, z ∈ L) → TpAll X.K H (zs.map fun p => V.ref p.1) (zs.map (·.2)) := by
    intro zs
    induction zs with
    | nil => intro _; exact .nil
    | cons y ys ih => intro hz; exact .cons (hL y (hz y List.mem_cons_self)).1 (ih fun x hx => hz x (List.mem_cons_of_mem _ hx))
  have rv : ∀ (zs : List (Addr × NK)), Vals (zs.map fun p => V.ref p.1) (zs.map fun p => Value.ref p.1) := by
    intro zs
    induction zs with
    | nil => exact .nil
    | cons y ys ih => exact .cons rfl ih
  rw [e1]
  refine sort_collected I2 (rv L1) (tt L1 s1') ok1 ?_ (by show X.A.units + 1 + 12 < cLine; omega) fun p vs' s' I3 hp t' => wpAny_pure ⟨_, rfl, .ref p, _, I3, rfl, q p vs' hp (by rw [← sort_perm ok1 pk]; exact t')⟩
  rw [List.length_map, pL.length_eq, sizeLine_eq]
  omega
end
end SL
end

section
set_option Elab.async false
set_option linter.all false
set_option maxRecDepth 100000
set_option maxHeartbeats 4000000
/-! all(..), any(..) of a generator expression whose element is any expression (it may call) -/
namespace SL
open PySem PySem.Spec PyProof.Rows L2

/-- the context of a generator expression's frame -/
def gnC (X : Cx) (s : Shared) (H : Hp) (A : Around) (cenv : Env) (fp : List Addr) : Cx :=
  { X with A := A, s_0 := s, H_0 := H, env := cenv, outer := X.stack, stack := cenv :: X.stack, ex := fp, fn := fun _ => false, calm := true, pn := [], xe := fun _ _ => False }
/-- the frame's environment -/
abbrev gnE (X : Cx) (scope : Scope) (s : Shared) (code : Value) : Env := genEnv scope (cloFrom X.env.cells scope.names []) s.heap.objs.size code builtinsNs X.env
structure GnOk (N : List Str) (sc scope : Scope) (own : List (Str × Nat)) : Prop where
  kind : scope.kind = .function
  co : scope.isCoroutine = false
  cell : ∀ y ∈ scope.names, y.2 ≠ .cell
  dot : scope.names.lookup (".0" : Str) = some NameKind.local
  blk : BlkOk N sc scope own

section
variable {X : Cx} {pins : List (Addr × Obj)} {σ : L2.St} {H : Hp} {s : Shared}
theorem gn_start {scope : Scope} {own : List (Str × Nat)} {fp : List Addr} {A : Around} {code : Value} {h5 : Heap} {G : Array GenState} {tk : Nat} {m0 : Str → Option Value} (I : Inv X pins σ H s) (ok : GnOk X.N X.env.scope scope own) (hN : X.N.Nodup)
    (hfp : ∀ b ∈ fp, FpOk X pins H b ∧ b < s.heap.objs.size) (hA : A.handled = none) (hf : A.frames = some (gnE X scope s code :: X.stack))
    (kp : ∀ b o, s.heap.get? b = some o → h5.get? b = some o) (hn : h5.Ns s.heap.objs.size m0) (hG : AllBare G) :
    Inv (gnC X s H A (gnE X scope s code) fp) [] (wipe σ (own.map (·.2))) H { s with heap := h5, gens := G, toks := tk } := by
  have hfree : ∀ y ∈ scope.names, y.2 = .free → ∃ c, X.env.cells.lookup y.1 = some c := fun y hy e => by
    rcases ok.blk.free y hy e with k | k
    · exact I.ok.has _ (.inl k)
    · exact I.ok.has _ (.inr k)
  have cm : ∀ {y c}, (y, c) ∈ cloFrom X.env.cells scope.names [] → X.env.cells.lookup y = some c ∧ c < s.heap.objs.size := fun {y c} hm => by
    rcases cloFrom_mem hm with hm | ⟨h1, rfl⟩
    · cases hm
    · obtain ⟨c, hc⟩ := hfree _ h1 rfl
      rw [hc]
      obtain ⟨w, z⟩ := I.cell _ _ hc
      exact ⟨rfl, z.lt⟩
  have look : ∀ {y}, scope.names.lookup y = some .free → ∃ c, (cloFrom X.env.cells scope.names []).lookup y = some c ∧ X.env.cells.lookup y = some c := fun {y} hl => by
    have hy : (y, NameKind.free) ∈ scope.names := PySem.mem_of_lookup hl
    obtain ⟨c', e'⟩ := mem_lookup (cloFrom_has (cells := X.env.cells) (acc := []) hy)
    exact ⟨c', e', (cm (PySem.mem_of_lookup e')).1⟩
  have okB : (gnC X s H A (gnE X scope s code) fp).Ok := by
    refine ⟨I.ok.mod, ok.kind, I.ok.glob, rfl, Nat.le_refl _, fun y z c e1 e2 => ?_, fun y hy => ?_, fun y c z e => (by cases z), fun _ => hA, hf, .inr ⟨rfl, rfl⟩, fun b hb => ⟨?_, fun y c e z => ?_⟩, I.bs, Nat.le_trans I.ok.bsz I.sz, fun b o e hb => ?_, fun b hb z => ?_, I.stack, I.stkFree⟩
    · exact I.ok.inj y z c (cm (PySem.mem_of_lookup e1)).1 (cm (PySem.mem_of_lookup e2)).1
    · have hy : scope.names.lookup y = some .cell ∨ scope.names.lookup y = some .free := hy
      rcases hy with hy | hy
      · exact absurd rfl (ok.cell _ (PySem.mem_of_lookup hy))
      · obtain ⟨c, h1, _⟩ := look hy
        exact ⟨c, h1⟩
    · exact Nat.ne_of_lt (hfp b hb).2
    · exact (hfp b hb).1.2.2.2.2.1 y c (cm (PySem.mem_of_lookup e)).1 z
    · rcases (hfp b hb).1.2.2.2.1 with z | z
      · exact I.ok.noex b o e z
      · exact absurd (Nat.lt_of_lt_of_le (Heap.lt_size e) (Nat.le_trans I.ok.bsz z)) (Nat.lt_irrefl _)
    · rcases List.mem_cons.mp (I.stkSub b z) with z | z
      · exact (hfp b hb).1.2.1 z
      · exact (hfp b hb).1.2.2.1 z
  refine ⟨okB, rfl, hG, Un.kept kp, ⟨m0, hn, fun i y av e1 e2 e3 => ?_⟩, fun y c e => ?_, ?_, fun y c e => ?_, fun p hp => ?_, I.hok.kept kp, by rw [wipe_length]; exact I.len⟩
  · obtain ⟨e2, hne⟩ := wipe_some e2
    have no : ∀ k, scope.names.lookup y = some k → ¬ (k = .local ∨ k = .cell) := fun k e hh => by
      rcases ok.blk.own _ (PySem.mem_of_lookup e) hh with e' | e'
      · obtain ⟨p, hp, hpy⟩ := List.mem_map.mp e'
        have e3 := ok.blk.ix p hp
        have : p.1 = y := hpy
        rw [this] at e3
        exact hne (List.mem_map.mpr ⟨p, hp, nodup_ix hN e3 e1⟩)
      · exact e' (List.mem_of_getElem? e1)
    have hfr : scope.names.lookup y = some .free := by
      have e3 : Vis scope y := e3
      rcases e3 with e3 | e3 | e3
      · exact absurd (.inl rfl) (no _ e3)
      · exact absurd (.inr rfl) (no _ e3)
      · exact e3
    obtain ⟨m, hn, hl⟩ := I.loc
    have hvis : Vis X.env.scope y := (ok.blk.free _ (PySem.mem_of_lookup hfr) rfl).elim (fun k => .inr (.inl k)) (fun k => .inr (.inr k))
    obtain ⟨w, r, q⟩ := hl i y av e1 e2 hvis
    obtain ⟨c, h1, h2⟩ := look hfr
    refine ⟨w, r, .inr ⟨.inr hfr, c, h1, ?_⟩⟩
    rcases q with ⟨k, _⟩ | ⟨_, c', e', z⟩
    · have k : X.env.scope.names.lookup y = some .local := k
      rcases ok.blk.free _ (PySem.mem_of_lookup hfr) rfl with k' | k' <;> rw [show X.env.scope.names.lookup y = _ from k'] at k <;> cases k
    · rw [h2] at e'; cases e'
      exact z.keeps kp
  · obtain ⟨w, z⟩ := I.cell y c (cm (PySem.mem_of_lookup e)).1
    exact ⟨w, z.keeps kp⟩
  · exact I.hok.fresh (Nat.le_refl _)
  · exact I.freeC y c (cm (PySem.mem_of_lookup e)).1
  · exact absurd (show p ∈ ([] : List (Addr × Obj)) ++ [] from hp) (by simp)
/-- other generators' states -/
theorem inv_gens {G : Array GenState} (I : Inv X pins σ H s) (hG : AllBare G) : Inv X pins σ H { s with gens := G } := ⟨I.ok, I.os, hG, I.base, I.loc, I.cell, I.free, I.freeC, I.pin, I.hok, I.len⟩
end

/-! ### the loops of all, any -/
section
variable {prog : Program} {w : World} {A : Around} {R : Result → Shared → Prop} {g : Addr} {n : Nat} {tr : Nat → Bool} {It : Nat → Shared → Prop} {Fin : Shared → Prop}
theorem truthy_b {M : Model} {E : Value → Shared → Prop} {s : Shared} {b : Bool} {Q : Bool → Shared → Prop} (h : Q b s) : wpAny M A (truthy (.bool b)) Q E s := wpAny_truthy_bool h
theorem all_loop (turn : ∀ i s, i < n → It i s → wpAny (model prog w) A.in1 (pyNext (.ref g)) (fun r s' => r = some (.bool (tr i)) ∧ It (i + 1) s') (fun _ _ => False) s)
    (done : ∀ s, It n s → wpAny (model prog w) A.in1 (pyNext (.ref g)) (fun r s' => r = none ∧ Fin s') (fun _ _ => False) s) :
    ∀ (k i : Nat) (s : Shared), n - i = k → i ≤ n → It i s → (∀ s', ((∃ j, j ≤ n ∧ It j s') ∨ Fin s') → R (.ok (.ret (.bool (((List.range n).drop i).all tr)))) s') → codeAny (model prog w) A (.builtin "all.loop" ⟨[.ref g], []⟩) R s := by
  intro k
  induction k with
  | zero =>
    intro i s hk hi hst hR
    have hin : i = n := by omega
    subst hin
    refine codeAny_builtin F.entry_all_loop ?_
    rw [Around.under_plainId F.plain_all_loop _]
    show wpAny _ A.in1 (pyNext (.ref g) >>= _) _ _ s
    refine wpAny_bind (thnF (done s hst) fun r s' ⟨hr, hf⟩ => ?_)
    subst hr
    refine wpAny_bind (wpAny_rule (wpAny_pure ?_))
    have := hR s' (.inr hf)
    rw [List.drop_of_length_le (by simp)] at this
    exact this
  | succ k ih =>
    intro i s hk hi hst hR
    have hlt : i < n := by omega
    have hd : (List.range n).drop i = i :: (List.range n).drop (i + 1) := by
      rw [List.drop_eq_getElem_cons (by simpa using hlt)]; simp
    refine codeAny_builtin F.entry_all_loop ?_
    rw [Around.under_plainId F.plain_all_loop _]
    show wpAny _ A.in1 (pyNext (.ref g) >>= _) _ _ s
    refine wpAny_bind (thnF (turn i s hlt hst) fun r s' ⟨hr, hst'⟩ => ?_)
    subst hr
    refine wpAny_bind (wpAny_holding (wpAny_truthy_bool ?_))
    refine wpAny_bind (wpAny_letGo ?_)
    cases hb : tr i with
    | true =>
      simp only [if_true]
      refine wpAny_pure ⟨plainId_quiet F.plain_all_loop _, ih (i + 1) _ (by omega) hlt hst' fun s'' hm' => ?_⟩
      have := hR s'' hm'
      rw [hd, List.all_cons, hb, Bool.true_and] at this
      exact this
    | false =>
      simp only [Bool.false_eq_true, if_false]
      refine wpAny_bind (wpAny_rule (wpAny_pure ?_))
      have := hR s' (.inl ⟨i + 1, hlt, hst'⟩)
      rw [hd, List.all_cons, hb, Bool.false_and] at this
      exact this
theorem any_loop (turn : ∀ i s, i < n → It i s → wpAny (model prog w) A.in1 (pyNext (.ref g)) (fun r s' => r = some (.bool (tr i)) ∧ It (i + 1) s') (fun _ _ => False) s)
    (done : ∀ s, It n s → wpAny (model prog w) A.in1 (pyNext (.ref g)) (fun r s' => r = none ∧ Fin s') (fun _ _ => False) s) :
    ∀ (k i : Nat) (s : Shared), n - i = k → i ≤ n → It i s → (∀ s', ((∃ j, j ≤ n ∧ It j s') ∨ Fin s') → R (.ok (.ret (.bool (((List.range n).drop i).any tr)))) s') → codeAny (model prog w) A (.builtin "any.loop" ⟨[.ref g], []⟩) R s := by
  intro k
  induction k with
  | zero =>
    intro i s hk hi hst hR
    have hin : i = n := by omega
    subst hin
    refine codeAny_builtin F.entry_any_loop ?_
    rw [Around.under_plainId F.plain_any_loop _]
    show wpAny _ A.in1 (pyNext (.ref g) >>= _) _ _ s
    refine wpAny_bind (thnF (done s hst) fun r s' ⟨hr, hf⟩ => ?_)
    subst hr
    refine wpAny_bind (wpAny_rule (wpAny_pure ?_))
    have := hR s' (.inr hf)
    rw [List.drop_of_length_le (by simp)] at this
    exact this
  | succ k ih =>
    intro i s hk hi hst hR
    have hlt : i < n := by omega
    have hd : (List.range n).drop i = i :: (List.range n).drop (i + 1) := by
      rw [List.drop_eq_getElem_cons (by simpa using hlt)]; simp
    refine codeAny_builtin F.entry_any_loop ?_
    rw [Around.under_plainId F.plain_any_loop _]
    show wpAny _ A.in1 (pyNext (.ref g) >>= _) _ _ s
    refine wpAny_bind (thnF (turn i s hlt hst) fun r s' ⟨hr, hst'⟩ => ?_)
    subst hr
    refine wpAny_bind (wpAny_holding (wpAny_truthy_bool ?_))
    refine wpAny_bind (wpAny_letGo ?_)
    cases hb : tr i with
    | false =>
      simp only [Bool.false_eq_true, if_false]
      refine wpAny_pure ⟨plainId_quiet F.plain_any_loop _, ih (i + 1) _ (by omega) hlt hst' fun s'' hm' => ?_⟩
      have := hR s'' hm'
      rw [hd, List.any_cons, hb, Bool.false_or] at this
      exact this
    | true =>
      simp only [if_true]
      refine wpAny_bind (wpAny_rule (wpAny_pure ?_))
      have := hR s' (.inl ⟨i + 1, hlt, hst'⟩)
      rw [hd, List.any_cons, hb, Bool.true_or] at this
      exact this
theorem call_all_gen {E : Value → Shared → Prop} {s : Shared} {gn : Nat} {Q : Value → Shared → Prop} (hg : s.heap.IsGen g gn) (turn : ∀ i s, i < n → It i s → wpAny (model prog w) A.in1 (pyNext (.ref g)) (fun r s' => r = some (.bool (tr i)) ∧ It (i + 1) s') (fun _ _ => False) s)
    (done : ∀ s, It n s → wpAny (model prog w) A.in1 (pyNext (.ref g)) (fun r s' => r = none ∧ Fin s') (fun _ _ => False) s) (h0 : It 0 s)
    (hQ : ∀ s', ((∃ j, j ≤ n ∧ It j s') ∨ Fin s') → Q (.bool ((List.range n).all tr)) s') : wpAny (model prog w) A (call (.builtin "all") [.ref g]) Q E s := by
  refine call_function_tree F.kind_all F.plain_all F.entry_all (F.args_all1 _) ?_
  unfold Builtin.«all»
  refine wpAny_bind (m := oneArg "all" _) (wpAny_pure ?_)
  refine wpAny_bind (wpAny_pyIter_gen hg ?_)
  exact wpAny_pure ⟨plainId_quiet F.plain_all_loop _, all_loop turn done n 0 s rfl (Nat.zero_le _) h0 fun s' hm => by simpa using hQ s' hm⟩
theorem call_any_gen {E : Value → Shared → Prop} {s : Shared} {gn : Nat} {Q : Value → Shared → Prop} (hg : s.heap.IsGen g gn) (turn : ∀ i s, i < n → It i s → wpAny (model prog w) A.in1 (pyNext (.ref g)) (fun r s' => r = some (.bool (tr i)) ∧ It (i + 1) s') (fun _ _ => False) s)
    (done : ∀ s, It n s → wpAny (model prog w) A.in1 (pyNext (.ref g)) (fun r s' => r = none ∧ Fin s') (fun _ _ => False) s) (h0 : It 0 s)
    (hQ : ∀ s', ((∃ j, j ≤ n ∧ It j s') ∨ Fin s') → Q (.bool ((List.range n).any tr)) s') : wpAny (model prog w) A (call (.builtin "any") [.ref g]) Q E s := by
  refine call_function_tree F.kind_any F.plain_any F.entry_any (F.args_any1 _) ?_
  unfold Builtin.«any»
  refine wpAny_bind (m := oneArg "any" _) (wpAny_pure ?_)
  refine wpAny_bind (wpAny_pyIter_gen hg ?_)
  exact wpAny_pure ⟨plainId_quiet F.plain_any_loop _, any_loop turn done n 0 s rfl (Nat.zero_le _) h0 fun s' hm => by simpa using hQ s' hm⟩
end

/-! ### the generator's turns -/
section
variable {Y : Cx} {σ0 : L2.St} {fp : List Addr} {it : Addr} {tn : Nat → Heap → Prop} {W : Nat → Hp → Prop} {a : Addr} {ob : Obj} {g n : Nat} {tr : Nat → Bool} {J : It} {tg elt iter : Expr} {gT : TG} {te : TE} {scope : Scope} {gpos : Pos} {vs : List Nat}
/-- ahead of turn i -/
def GnI (Y : Cx) (σ0 : L2.St) (fp : List Addr) (tn : Nat → Heap → Prop) (W : Nat → Hp → Prop) (a : Addr) (ob : Obj) (g : Nat) (i : Nat) (H : Hp) (s : Shared) : Prop :=
  Inv Y [(a, ob)] σ0 H s ∧ tn i s.heap ∧ (∀ b ∈ fp, H b = none) ∧ W i H ∧ g < s.gens.size
def GnF (Y : Cx) (σ0 : L2.St) (W : Nat → Hp → Prop) (a : Addr) (ob : Obj) (g n : Nat) (s : Shared) : Prop := ∃ H, Inv Y [(a, ob)] σ0 H s ∧ W n H ∧ g < s.gens.size
def gnY (Y : Cx) (σ0 : L2.St) (fp : List Addr) (tn : Nat → Heap → Prop) (W : Nat → Hp → Prop) (a : Addr) (ob : Obj) (g n : Nat) (tr : Nat → Bool) : Protocol := fun m s₀ v s kap =>
  ∃ i H, i + m + 1 = n ∧ v = .bool (tr i) ∧ GnI Y σ0 fp tn W a ob g (i + 1) H s ∧ ∀ s'' H'', GnI Y σ0 fp tn W a ob g (i + 1) H'' s'' → kap (.send .none) s''
/-- what the text's turns do -/
structure GnT (σ0 : L2.St) (W : Nat → Hp → Prop) (n : Nat) (tr : Nat → Bool) (J : It) (gT : TG) (te : TE) (vs : List Nat) : Prop where
  stop : ∀ H, W n H → J.stop n H
  go : ∀ i H, i < n → W i H → J.go i H ∧ ∀ x H', J.yld i H x H' → gT x σ0 H' fun σ2 H2 => wipe σ2 vs = σ0 ∧ te σ2 H2 fun y H3 => y = .bl (tr i) ∧ W (i + 1) H3
theorem seg_gn {A : Around} (hA : A.over (.compLoop (.GeneratorExp elt [⟨tg, iter, [], 0⟩] scope gpos) 0 (.ref it) .none Y.env) [] = Y.A) (hc : Y.calm = true) (hxe : ∀ e s, ¬ Y.xe e s) (hpn : Y.pn = []) (hex : Y.ex = fp) (hw : wipe σ0 vs = σ0) (hco : Y.env.scope.isCoroutine = false)
    (T : Turn Y.prog Y.w Y.K tg J fp it tn) (hafp : ∀ b ∈ fp, a ≠ b) (pg : PG Y tg gT) (pe : PE Y elt te) (t : GnT σ0 W n tr J gT te vs) :
    ∀ (k i : Nat) (s₀ s : Shared) (H : Hp), i + k = n → GnI Y σ0 fp tn W a ob g i H s →
      Seg (model Y.prog Y.w) A (fun m s₀ r s₁ => r = .ok .next ∧ (m = 0 ∧ GnF Y σ0 W a ob g n s₁)) (gnY Y σ0 fp tn W a ob g n tr) k s₀
        (.compLoop (.GeneratorExp elt [⟨tg, iter, [], 0⟩] scope gpos) 0 (.ref it) .none Y.env)
        ((model Y.prog Y.w).den (.compLoop (.GeneratorExp elt [⟨tg, iter, [], 0⟩] scope gpos) 0 (.ref it) .none Y.env)) [] s := by
  have stat : ∀ {σ' : L2.St} {H' : Hp} {s' : Shared}, Inv Y [(a, ob)] σ' H' s' → (∀ b ∈ fp, H' b = none) → ∀ b ∈ fp, FpOk Y [(a, ob)] H' b := fun {σ' H' s'} I' hn b hb =>
    ⟨hn b hb, (I'.ok.exf b (by rw [hex]; exact hb)).1, I'.ok.exfs b (by rw [hex]; exact hb), .inl (by rw [hex]; exact hb), fun x c e => (I'.ok.exf b (by rw [hex]; exact hb)).2 x c e, fun p hp => by
      rw [hpn, List.nil_append, List.mem_singleton] at hp
      rw [hp]
      exact hafp b hb⟩
  intro k
  induction k with
  | zero =>
    intro i s₀ s H hk hI
    have hin : i = n := by omega
    subst hin
    obtain ⟨I, st, fr, w, hg⟩ := hI
    show Seg _ A _ _ _ s₀ _ ((compTurn (.GeneratorExp elt [⟨tg, iter, [], 0⟩] scope gpos) 0 (.ref it) .none Y.env).onRaise (leaving Y.env)) [] s
    rw [compTurn_gen, Sem.onRaise_eq_wrap]
    refine seg_bind_wrap (wpAny_standAt ?_)
    refine seg_bind_wrap ?_
    rw [hA]
    refine GenW.wpAny_gsz (n := s.gens.size) (Nat.le_refl _) (thnF (T.done Y rfl rfl rfl hc i [(a, ob)] s σ0 H (fun _ _ => False) I (stat I fr) st (t.stop H w)) fun r s1 ⟨hr, I1⟩ hz => ?_)
    subst hr
    exact seg_end (.ok .next) ⟨rfl, rfl, H, I1, w, Nat.lt_of_lt_of_le hg hz⟩
  | succ k ih =>
    intro i s₀ s H hk hI
    have hlt : i < n := by omega
    obtain ⟨I, st, fr, w, hg⟩ := hI
    obtain ⟨go, step⟩ := t.go i H hlt w
    show Seg _ A _ _ _ s₀ _ ((compTurn (.GeneratorExp elt [⟨tg, iter, [], 0⟩] scope gpos) 0 (.ref it) .none Y.env).onRaise (leaving Y.env)) [] s
    rw [compTurn_gen, Sem.onRaise_eq_wrap]
    refine seg_bind_wrap (wpAny_standAt ?_)
    refine seg_bind_wrap ?_
    rw [hA]
    refine GenW.wpAny_gsz (n := s.gens.size) (Nat.le_refl _) (thnF (T.item Y rfl rfl rfl hc i [(a, ob)] s σ0 H (fun _ _ => False) I (stat I fr) st go) fun r s1 ⟨u, hr, h1⟩ hz1 => ?_)
    subst hr
    refine seg_bind_wrap ?_
    rw [hA]
    refine GenW.wpAny_gsz (n := s1.gens.size) (Nat.le_refl _) (thnF h1 fun _ s2 ⟨x, H2, I2, r2, y2, st2, n2⟩ hz2 => ?_)
    have I2' := I2.pinned (stat I2 n2) (T.obj _ _ st2)
    refine seg_bind_wrap ?_
    rw [hA]
    refine GenW.wpAny_gsz (n := s2.gens.size) (Nat.le_refl _) (wpAny_mono (pg.run _ s2 σ0 H2 x u _ I2' r2 (step x H2 y2)) (fun _ s3 ⟨σ3, H3, I3, hw3, q3⟩ hz3 => ?_) fun e s' z => absurd z (hxe e s'))
    simp only [List.forIn_nil]
    refine seg_bind_wrap (wpAny_pure ?_)
    simp only [if_true]
    have hy : ∀ v, yieldOut Y.env v = yieldValue v := fun v => by simp only [yieldOut, hco, Bool.false_eq_true, if_false]
    simp only [hy]
    rw [Sem.bind_eq_wrap', Sem.bind_eq_wrap', Sem.wrap_wrap, Sem.wrap_wrap]
    refine seg_wrap ?_
    rw [hA]
    refine GenW.wpAny_gsz (n := s3.gens.size) (Nat.le_refl _) (wpAny_mono (pe.run _ s3 σ3 H3 _ I3 q3) (fun v s4 ⟨y, H4, I4, r4, e4, w4⟩ hz4 => ?_) fun e s' z => absurd z (hxe e s'))
    subst e4
    obtain rfl : v = Value.bool (tr i) := r4
    have pin' : ∀ b ∈ fp, ∀ o, s2.heap.get? b = some o → s4.heap.get? b = some o ∧ H4 b = none := fun b hb o e =>
      let z := I4.pin (b, o) (List.mem_append_right _ (List.mem_append_right _ (mem_pinsAt hb e)))
      ⟨z.1, z.2.1⟩
    have G4 : GnI Y σ0 fp tn W a ob g (i + 1) H4 s4 := by
      refine ⟨(I4.unpinned (pins := [(a, ob)])).weak (by rw [← hw3, wipe_length]) (fun j v e => ?_), T.keep _ _ _ st2 fun b hb o e => (pin' b hb o e).1, fun b hb => ?_, w4, by omega⟩
      · rw [← hw3] at e
        exact (wipe_some e).1
      · obtain ⟨o, e, _⟩ := T.obj _ _ st2 b hb
        exact (pin' b hb o e).2
    refine seg_at (seg_yield rfl rfl rfl ⟨i, H4, by omega, rfl, G4, fun s'' H'' hG => ?_⟩)
    exact seg_again rfl (ih (i + 1) s'' s'' H'' (by omega) hG)

theorem seg_gnStart {A : Around} (hA : A.over (.compLoop (.GeneratorExp elt [⟨tg, iter, [], 0⟩] scope gpos) 0 (.ref it) .none Y.env) [] = Y.A) (hc : Y.calm = true) (hxe : ∀ e s, ¬ Y.xe e s) (hpn : Y.pn = []) (hex : Y.ex = fp) (hw : wipe σ0 vs = σ0) (hco : Y.env.scope.isCoroutine = false)
    (T : Turn Y.prog Y.w Y.K tg J fp it tn) (hafp : ∀ b ∈ fp, a ≠ b) (pg : PG Y tg gT) (pe : PE Y elt te) (t : GnT σ0 W n tr J gT te vs) (s₀ s : Shared) (H : Hp) (hI : GnI Y σ0 fp tn W a ob g 0 H s) :
      Seg (model Y.prog Y.w) A (fun m s₀ r s₁ => r = .ok .next ∧ (m = 0 ∧ GnF Y σ0 W a ob g n s₁)) (gnY Y σ0 fp tn W a ob g n tr) n s₀
        (.compStart (.GeneratorExp elt [⟨tg, iter, [], 0⟩] scope gpos) 0 (.ref it) .none Y.env)
        ((model Y.prog Y.w).den (.compStart (.GeneratorExp elt [⟨tg, iter, [], 0⟩] scope gpos) 0 (.ref it) .none Y.env)) [] s := by
  have loop := seg_gn (σ0 := σ0) hA hc hxe hpn hex hw hco T hafp pg pe t n 0 s₀ s H (Nat.zero_add _) hI
  have st : tn 0 s.heap := hI.2.1
  show Seg _ A _ _ _ s₀ _ ((compStart (.GeneratorExp elt [⟨tg, iter, [], 0⟩] scope gpos) 0 (.ref it) .none Y.env).onRaise (leaving Y.env)) [] s
  unfold compStart
  rw [Sem.onRaise_eq_wrap]
  show Seg _ A _ _ _ s₀ _ ((ask >>= _).wrap _ _ _ _) [] s
  refine seg_bind_wrap (wpAny_askSetting ?_)
  split
  · exact seg_again rfl loop
  · first
      | exact seg_bind_wrap (wpAny_rule (seg_bind_wrap (wpAny_standAt (seg_bind_wrap (T.self _ 0 s _ _ st (seg_again rfl loop))))))
      | (refine seg_bind_wrap (wpAny_rule ?_); show Seg _ A _ _ _ s₀ _ ((standAt iter.pos >>= _).wrap _ _ _ _) [] s; exact seg_bind_wrap (wpAny_standAt (seg_bind_wrap (T.self _ 0 s _ _ st (seg_again rfl loop)))))
theorem allBare_setGen {s : Shared} {g : Nat} {x : GenState} (h : AllBare s.gens) (hx : x.bare = true) : AllBare (s.setGen g x).gens := fun y hy => by
  obtain ⟨i, hi, rfl⟩ := Array.mem_iff_getElem.mp hy
  have hi' : i < s.gens.size := by rw [GenW.setGen_size] at hi; exact hi
  by_cases e : g = i
  · subst e
    simp [Shared.setGen, hx]
  · have : (s.setGen g x).gens[i] = s.gens[i] := Array.getElem_setIfInBounds_ne hi' e
    rw [this]
    exact h _ (Array.getElem_mem hi')
/-- ahead of turn i, asleep -/
def GnS (A : Around) (Y : Cx) (σ0 : L2.St) (fp : List Addr) (tn : Nat → Heap → Prop) (W : Nat → Hp → Prop) (a : Addr) (ob : Obj) (g n : Nat) (tr : Nat → Bool) (i : Nat) (s : Shared) : Prop :=
  ∃ H, GnI Y σ0 fp tn W a ob g i H s ∧ ∃ gs, s.gens[g]? = some gs ∧ ∀ s'' H'', GnI Y σ0 fp tn W a ob g i H'' s'' →
    gs.Goes (model Y.prog Y.w) A (fun m s₀ r s₁ => r = .ok .next ∧ (m = 0 ∧ GnF Y σ0 W a ob g n s₁)) (gnY Y σ0 fp tn W a ob g n tr) (n - i) (.send .none) s''
theorem GnI.setGen {i : Nat} {H : Hp} {s : Shared} {x : GenState} (h : GnI Y σ0 fp tn W a ob g i H s) (hx : x.bare = true) : GnI Y σ0 fp tn W a ob g i H (s.setGen g x) :=
  ⟨inv_gens h.1 (allBare_setGen h.1.bare hx), h.2.1, h.2.2.1, h.2.2.2.1, by rw [GenW.setGen_size]; exact h.2.2.2.2⟩
theorem gens_at {s : Shared} {x : GenState} (h : g < s.gens.size) : (s.setGen g x).gens[g]? = some x := setGen_self (gs := s.gens[g]) (Array.getElem?_eq_getElem h)
theorem gn_item {A : Around} (hh : A.handled = none) (hroom : A.depth < recursionLimit) {nm qn : Value} (hob : ob = { cls := .type "generator", data := .fields #[.int g 0, nm, qn] }) (i : Nat) (s : Shared) (hi : i < n) (h : GnS A.in1 Y σ0 fp tn W a ob g n tr i s) :
    wpAny (model Y.prog Y.w) A (pyNext (.ref a)) (fun r s' => r = some (.bool (tr i)) ∧ GnS A.in1 Y σ0 fp tn W a ob g n tr (i + 1) s') (fun _ _ => False) s := by
  obtain ⟨H, hI, gs, hgs, hgo⟩ := h
  have hgen : s.heap.IsGen a g := by
    refine ⟨ob, nm, qn, (hI.1.pin (a, ob) (List.mem_append_right _ List.mem_cons_self)).1, ?_, ?_, ?_⟩ <;> rw [hob]
  obtain ⟨m, hm⟩ : ∃ m, n - i = m + 1 := ⟨n - i - 1, by omega⟩
  have hgo' := hgo (s.setGen g .running) H (hI.setGen rfl)
  rw [hm] at hgo'
  refine wpAny_pyNext_genexpQ (P := fun m s₀ s₁ => m = 0 ∧ GnF Y σ0 W a ob g n s₁) hh hI.1.nolimit hroom hgen hgs hgo' (fun v s₁ gs' hb hv => ?_) (fun s₁ hp h' hk => ?_)
  · obtain ⟨i', H', e1, rfl, G', kap⟩ := hv
    have ei : i' = i := by omega
    subst ei
    refine ⟨rfl, H', G'.setGen hb, gs', gens_at G'.2.2.2.2, fun s'' H'' hG => ?_⟩
    have z := kap s'' H'' hG
    have e : n - (i' + 1) = m := by omega
    rw [e]
    exact z
  · exact absurd hp.1 (Nat.succ_ne_zero m)
theorem gn_done {A : Around} (hh : A.handled = none) (hroom : A.depth < recursionLimit) {nm qn : Value} (hob : ob = { cls := .type "generator", data := .fields #[.int g 0, nm, qn] }) (s : Shared) (h : GnS A.in1 Y σ0 fp tn W a ob g n tr n s) :
    wpAny (model Y.prog Y.w) A (pyNext (.ref a)) (fun r s' => r = none ∧ GnF Y σ0 W a ob g n s') (fun _ _ => False) s := by
  obtain ⟨H, hI, gs, hgs, hgo⟩ := h
  have hgen : s.heap.IsGen a g := by
    refine ⟨ob, nm, qn, (hI.1.pin (a, ob) (List.mem_append_right _ List.mem_cons_self)).1, ?_, ?_, ?_⟩ <;> rw [hob]
  have hgo' := hgo (s.setGen g .running) H (hI.setGen rfl)
  rw [Nat.sub_self] at hgo'
  refine wpAny_pyNext_genexpQ (P := fun m s₀ s₁ => m = 0 ∧ GnF Y σ0 W a ob g n s₁) hh hI.1.nolimit hroom hgen hgs hgo' (fun v s₁ gs' hb hv => ?_) (fun s₁ hp h' hk => ?_)
  · obtain ⟨i', H', e1, _, G', kap⟩ := hv
    exact False.elim (kap s₁ H' G')
  · obtain ⟨_, H', I', w', hz⟩ := hp
    refine ⟨rfl, H', ?_, w', ?_⟩
    · exact (inv_gens I' (allBare_setGen (g := g) I'.bare rfl)).kept (t' := s₁.toks) hk
    · show g < (s₁.setGen g .finished).gens.size
      rw [GenW.setGen_size]
      exact hz
end

/-! ### all(..), any(..) -/
section
variable {X : Cx}
def tGn (P : Addr) (f : (Nat → Bool) → List Nat → Bool) (wi : TI) (gT : TG) (te : TE) (vs : List Nat) : TE := fun σ H Q => wi σ H fun J H1 => GxR.TabG H1 P ∧ ∀ H2, GxR.Tabbed P H1 H2 → ∃ (n : Nat) (tr : Nat → Bool) (W : Nat → Hp → Prop),
  W 0 H2 ∧ GnT (wipe σ vs) W n tr J gT te vs ∧ ∀ j H', j ≤ n → W j H' → Q (.bl (f tr (List.range n))) H'
theorem wipe_idem (σ : L2.St) : ∀ vs : List Nat, wipe (wipe σ vs) vs = wipe σ vs := fun vs => by
  refine List.ext_getElem? fun i => ?_
  have key : ∀ (vs : List Nat) (τ : L2.St), (wipe τ vs)[i]? = if i ∈ vs then τ[i]?.map fun _ => none else τ[i]? := by
    intro vs
    induction vs with
    | nil => intro τ; simp [wipe]
    | cons v vs ih =>
      intro τ
      unfold wipe
      by_cases hv : v = i
      · subst hv
        rw [List.getElem?_set, if_pos rfl, if_pos List.mem_cons_self, wipe_length]
        by_cases hl : v < τ.length
        · rw [if_pos hl, List.getElem?_eq_getElem hl]; rfl
        · rw [if_neg hl, List.getElem?_eq_none (by omega)]; rfl
      · rw [List.getElem?_set_ne hv, ih τ]
        have : i ∈ v :: vs ↔ i ∈ vs := by simp [Ne.symm hv]
        simp only [this]
  rw [key vs (wipe σ vs), key vs σ]
  split
  · cases σ[i]? <;> rfl
  · rfl
/-- the generator is made, and handed to f -/
theorem gn_make {c P : Addr} {tg elt iter : Expr} {gpos : Pos} {scope : Scope} {own : List (Str × Nat)} {wi : TI} {gT : TG} {te : TE} {k : Nat} {f : (Nat → Bool) → List Nat → Bool} {pins : List (Addr × Obj)} {s : Shared} {σ : L2.St} {H : Hp} {Q : VK} {Q' : Value → Shared → Prop}
    (hr : Room (k + 1) X.A) (TB : GxR.TabB X.base X.mg c P) (hcode : X.env.code = .ref c) (hN : X.N.Nodup) (ok : GnOk X.N X.env.scope scope own) (hi : PI X tg iter wi)
    (hgT : ∀ (s : Shared) (H : Hp) (A : Around) (code : Value) (fp : List Addr), Room k A → PG (gnC X s H A (gnE X scope s code) fp) tg gT) (he : ∀ (s : Shared) (H : Hp) (A : Around) (code : Value) (fp : List Addr), Room k A → PE (gnC X s H A (gnE X scope s code) fp) elt te)
    (hs : ∀ v, genFold iter X.env v = pure v) (I : Inv X pins σ H s) (h : tGn P f wi gT te (own.map (·.2)) σ H Q)
    (hQ : ∀ (a : Addr) (g n : Nat) (tr : Nat → Bool) (s5 : Shared) (It : Nat → Shared → Prop) (Fin : Shared → Prop), s5.heap.IsGen a g → It 0 s5 →
      (∀ i s, i < n → It i s → wpAny (model X.prog X.w) X.A.in1 (pyNext (.ref a)) (fun r s' => r = some (.bool (tr i)) ∧ It (i + 1) s') (fun _ _ => False) s) →
      (∀ s, It n s → wpAny (model X.prog X.w) X.A.in1 (pyNext (.ref a)) (fun r s' => r = none ∧ Fin s') (fun _ _ => False) s) →
      (∀ s', ((∃ j, j ≤ n ∧ It j s') ∨ Fin s') → EP X pins σ Q (.bool (f tr (List.range n))) s') → Q' (.ref a) s5) :
    wpAny (model X.prog X.w) X.A (eval (.GeneratorExp elt [⟨tg, iter, [], 0⟩] scope gpos) X.env) Q' X.xe s := by
  have hfree : ∀ y ∈ scope.names, y.2 = .free → ∃ c, X.env.cells.lookup y.1 = some c := fun y hy e => by
    rcases ok.blk.free y hy e with k | k
    · exact I.ok.has _ (.inl k)
    · exact I.ok.has _ (.inr k)
  refine wpAny_GeneratorExp_make ok.co (closure_ok hfree) ok.cell ok.dot ok.kind (by have := hr.dp; omega) (thn (hi.run pins s σ H _ I h) fun xv s1 hx => thn hx fun itv s2 h2 => ?_) hs
  obtain ⟨it, fp, tn, J, H1, e, I1, T, st1, f1, ⟨ps, hP, ht⟩, hh⟩ := h2
  subst e
  refine ⟨I1.nolimit, ?_⟩
  have hPs : s2.heap.get? P = some { cls := .none, data := .fields ps } := I1.hok P _ hP
  have hPlt : P < s2.heap.objs.size := Heap.lt_size hPs
  have cd : PySem.W.CodeHd s2.heap c P := TB.code.keeps fun b u e => I1.bk b u e
  have hPf : ∀ b ∈ fp, b ≠ P := fun b hb z => by
    have q := (f1 b hb).1
    rw [z, hP] at q
    cases q
  have lfp : ∀ b ∈ fp, b < s2.heap.objs.size := fun b hb => by
    obtain ⟨o, e, _⟩ := T.obj _ _ st1 b hb
    exact Heap.lt_size e
  have cont : ∀ (code : Value) (h3 : Heap) (tk : Nat) (ps' : Array Value), Heap.ExtBut P s2.heap h3 → s2.heap.objs.size ≤ h3.objs.size → h3.get? P = some { cls := .none, data := .fields ps' } → (∃ more, ps' = ps ++ more) → TriplesOk ps'.toList →
      wpAny (model X.prog X.w) X.A (builtinsFor X.env.globals X.env.builtins) (fun bi s₄ =>
        ∀ h', h'.Ns s₄.heap.objs.size (fun y => if y = ".0" then some (.ref it) else none) → Heap.SameBut s₄.heap.objs.size (s₄.heap.push { cls := .type "frame", data := .dict #[] }) h' →
          Q' (.ref h'.objs.size) { s₄ with
            gens := s₄.gens.push (.fresh (.compStart (.GeneratorExp elt [⟨tg, iter, [], 0⟩] scope gpos) 0 (.ref it) .none (genEnv scope (cloFrom X.env.cells scope.names []) s₄.heap.objs.size code bi X.env))),
            toks := s₄.toks + 1 + 1 + 1,
            heap := h'.push { cls := .type "generator", data := .fields #[.int s₄.gens.size 0, .str "<genexpr>" (s₄.toks + 1), .str (X.env.qual ++ "<genexpr>") (s₄.toks + 1 + 1)] } }) X.xe { s2 with heap := h3, toks := tk } := by
    intro code h3 tk ps' hx hsz hP3 hmore ht3
    obtain ⟨bm, bo, e1, e2, e3, e4, e5, e6, e7, e8⟩ := TB.bm
    have keep3 : ∀ b u, b ≠ P → s2.heap.get? b = some u → h3.get? b = some u := fun b u hb e => hx b u hb e
    refine wpAny_builtinsFor (m := X.mg) (by rw [I1.ok.glob]; exact (I1.mod.glob.keeps I1.bk).extBut hx TB.gP) e1 e2 (keep3 _ _ e4 (I1.bk _ _ e5)) e6 e7 e8 ?_
    obtain ⟨more, rfl⟩ := hmore
    have I4 : Inv X pins σ (upd H1 P (.tbl (ps ++ more))) { s2 with heap := h3, toks := tk } :=
      GxR.inv_tab (g' := s2.gens) (d' := s2.drawn) I1 hP (fun b u hb e => keep3 b u hb e) hP3 I1.bare
    have hTab : GxR.Tabbed P H1 (upd H1 P (.tbl (ps ++ more))) := ⟨⟨ps ++ more, upd_same, ht3⟩, fun b hb => upd_ne hb⟩
    obtain ⟨n, tr, W, w0, gt, qq⟩ := hh _ hTab
    generalize upd H1 P (.tbl (ps ++ more)) = H2 at I4 hTab w0
    generalize hs4 : ({ s2 with heap := h3, toks := tk } : Shared) = s4 at I4
    have e4h : s4.heap = h3 := by rw [← hs4]
    have f4 : ∀ b ∈ fp, FpOk X pins H2 b ∧ b < s4.heap.objs.size := fun b hb => by
      refine ⟨⟨?_, (f1 b hb).2⟩, by rw [e4h]; exact Nat.lt_of_lt_of_le (lfp b hb) hsz⟩
      rw [hTab.2 b (hPf b hb)]
      exact (f1 b hb).1
    have st4 : tn 0 s4.heap := T.keep _ _ _ st1 fun b hb o e => by rw [e4h]; exact keep3 b o (hPf b hb) e
    intro h' hn' hs'
    have hsz' : h'.objs.size = s4.heap.objs.size + 1 := by rw [hs'.1, Heap.size_push]
    have keep' : ∀ b o, s4.heap.get? b = some o → h'.get? b = some o := fun b o e => hs'.extBut b o (Nat.ne_of_lt (Heap.lt_size e)) (Heap.get?_push_of_some _ e)
    generalize hob : ({ cls := .type "generator", data := .fields #[.int s4.gens.size 0, .str "<genexpr>" (s4.toks + 1), .str (X.env.qual ++ "<genexpr>") (s4.toks + 1 + 1)] } : Obj) = ob
    have keep5 : ∀ b o, s4.heap.get? b = some o → (h'.push ob).get? b = some o := fun b o e => Heap.get?_push_of_some _ (keep' b o e)
    have hGb : AllBare (s4.gens.push (.fresh (.compStart (.GeneratorExp elt [⟨tg, iter, [], 0⟩] scope gpos) 0 (.ref it) .none (gnE X scope s4 code)))) := I4.bare.push rfl
    have hA1 : (X.A.in1.in1.over (.compLoop (.GeneratorExp elt [⟨tg, iter, [], 0⟩] scope gpos) 0 (.ref it) .none (gnE X scope s4 code)) []).handled = none := hr.hd
    have hA2 : (X.A.in1.in1.over (.compLoop (.GeneratorExp elt [⟨tg, iter, [], 0⟩] scope gpos) 0 (.ref it) .none (gnE X scope s4 code)) []).frames = some (gnE X scope s4 code :: X.stack) := by
      show pushEnvs [gnE X scope s4 code] (pushEnvs [] X.A.frames) = _
      rw [I4.ok.frames]
      rfl
    have hA3 : Room k (X.A.in1.in1.over (.compLoop (.GeneratorExp elt [⟨tg, iter, [], 0⟩] scope gpos) 0 (.ref it) .none (gnE X scope s4 code)) []) :=
      ⟨hr.hd, by have := hr.dp; show X.A.depth + 0 + 1 + 3 * k + 5 < _; omega, by have := hr.un; show X.A.units + 1 + 1 + 0 + 3 + 16 * k + 200 < _; omega⟩
    have I5 := gn_start (tk := s4.toks + 1 + 1 + 1) (h5 := h'.push ob) I4 ok hN f4 hA1 hA2 keep5 (hn'.push _) hGb
    have pg := hgT s4 H2 _ code fp hA3
    have pe := he s4 H2 _ code fp hA3
    -- the generator's own object
    have ga : (h'.push ob).get? h'.objs.size = some ob := Heap.get?_push_size _ (by rw [← hob]; rfl)
    have gH : H2 h'.objs.size = none := I4.hok.fresh (by rw [hsz']; exact Nat.le_succ _)
    have gfs : h'.objs.size ∉ frs X.stack := fun hm => by
      have hle : s4.heap.objs.size ≤ h'.objs.size := by rw [hsz']; exact Nat.le_succ _
      rcases List.mem_cons.mp (I4.stkSub _ hm) with z | z
      · exact absurd (Nat.lt_of_lt_of_le I4.lt hle) (by rw [z]; exact Nat.lt_irrefl _)
      · exact I4.nofs hle z
    have gL : h'.objs.size ≠ s4.heap.objs.size := by rw [hsz']; exact Nat.succ_ne_self _
    have I6 := I5.pins_of (pins' := [(h'.objs.size, ob)]) fun p hp => by
      rw [List.mem_singleton.mp hp]
      exact ⟨ga, gH, gL, gfs, fun v z => by rw [← hob] at z; cases z⟩
    have hafp : ∀ b ∈ fp, h'.objs.size ≠ b := fun b hb z => by
      have := (f4 b hb).2
      rw [← z, hsz'] at this
      exact absurd this (by simp)
    have hgsz : s4.gens.size < (s4.gens.push (.fresh (.compStart (.GeneratorExp elt [⟨tg, iter, [], 0⟩] scope gpos) 0 (.ref it) .none (gnE X scope s4 code)))).size := by rw [Array.size_push]; exact Nat.lt_succ_self _
    generalize hA0 : X.A.in1.in1.over (.compLoop (.GeneratorExp elt [⟨tg, iter, [], 0⟩] scope gpos) 0 (.ref it) .none (gnE X scope s4 code)) [] = A' at I5 I6 pg pe hA1 hA2 hA3
    have hroom : X.A.in1.depth < recursionLimit := by have := hr.dp; show X.A.depth < _; omega
    refine hQ h'.objs.size s4.gens.size n tr _ (GnS X.A.in1.in1 (gnC X s4 H2 A' (gnE X scope s4 code) fp) (wipe σ (own.map (·.2))) fp tn W h'.objs.size ob s4.gens.size n tr) (GnF (gnC X s4 H2 A' (gnE X scope s4 code) fp) (wipe σ (own.map (·.2))) W h'.objs.size ob s4.gens.size n)
      ⟨ob, _, _, ga, by rw [← hob], by rw [← hob], by rw [← hob]⟩ ⟨H2, ⟨I6, T.keep _ _ _ st4 fun b hb o e => keep5 b o e, fun b hb => (f4 b hb).1.1, w0, hgsz⟩, _, Array.getElem?_push_size .., fun s'' H'' hG => ⟨rfl, ?_⟩⟩
      (fun i s hi hh => gn_item (Y := gnC X s4 H2 A' (gnE X scope s4 code) fp) (A := X.A.in1) hr.hd hroom hob.symm i s hi hh) (fun s hh => gn_done (Y := gnC X s4 H2 A' (gnE X scope s4 code) fp) (A := X.A.in1) hr.hd hroom hob.symm s hh) fun s' hs => ?_
    · exact seg_gnStart (Y := gnC X s4 H2 A' (gnE X scope s4 code) fp) (vs := own.map (·.2)) hA0 rfl (fun _ _ z => z) rfl rfl (wipe_idem _ _) ok.co T hafp pg pe gt s'' s'' H'' hG
    · obtain ⟨j, H', hj, I', w'⟩ : ∃ j H', j ≤ n ∧ Inv (gnC X s4 H2 A' (gnE X scope s4 code) fp) [(h'.objs.size, ob)] (wipe σ (own.map (·.2))) H' s' ∧ W j H' := by
        rcases hs with ⟨j, hj, H', hG, _⟩ | ⟨H', I', w', _⟩
        · exact ⟨j, H', hj, hG.1, hG.2.2.2.1⟩
        · exact ⟨n, H', Nat.le_refl _, I', w'⟩
      exact ⟨.bl _, H', I4.call' (ch := fp) I'.os I'.base I'.hok I'.bare fun b hb => ⟨(f4 b hb).1.2.2.2.1, (f4 b hb).1.2.1, (f4 b hb).1.2.2.2.2.1, (f4 b hb).1.2.2.2.2.2⟩, rfl, qq j H' hj w'⟩
  cases hf : codeAmong gpos ps.toList with
  | none =>
    refine wpAny_genexprCodeX hcode (cd.code hPs ht) (cd.tab hPs) hf fun c' h' tk hx hge hlt hco' _ htab' _ => ?_
    obtain ⟨o1, vs, f1, tf, fl, tg, inF, tx, tt, op, _, _, _, _, _, _, _, _, _, htr, _⟩ := hco'
    exact cont _ h' tk _ hx (Nat.le_trans hge (Nat.le_of_lt hlt)) htab'.2 ⟨_, rfl⟩ htr
  | some cv =>
    refine wpAny_genexprCode_hit hcode (cd.code hPs ht) hf ?_
    exact cont cv s2.heap s2.toks ps (Heap.ExtBut.refl _ _) (Nat.le_refl _) hPs ⟨#[], by simp⟩ ht
theorem pe_allG {c P : Addr} {tg elt iter : Expr} {p pos gpos : Pos} {scope : Scope} {own : List (Str × Nat)} {wi : TI} {gT : TG} {te : TE} {k : Nat}
    (hr : Room (k + 1) X.A) (hg : Gl X "all") (hm : X.mg "all" = none) (TB : GxR.TabB X.base X.mg c P) (hcode : X.env.code = .ref c) (hN : X.N.Nodup) (ok : GnOk X.N X.env.scope scope own) (hi : PI X tg iter wi)
    (hgT : ∀ (s : Shared) (H : Hp) (A : Around) (code : Value) (fp : List Addr), Room k A → PG (gnC X s H A (gnE X scope s code) fp) tg gT) (he : ∀ (s : Shared) (H : Hp) (A : Around) (code : Value) (fp : List Addr), Room k A → PE (gnC X s H A (gnE X scope s code) fp) elt te)
    (hs : ∀ v, genFold iter X.env v = pure v)
    (hst : starEach [.GeneratorExp elt [⟨tg, iter, [], 0⟩] scope gpos] X.env = (false, eval (.GeneratorExp elt [⟨tg, iter, [], 0⟩] scope gpos) X.env) :: starEach [] X.env := by rfl) :
    PE X (.Call (.Name "all" p) [.GeneratorExp elt [⟨tg, iter, [], 0⟩] scope gpos] [] pos) (tGn P (fun tr l => l.all tr) wi gT te (own.map (·.2))) := by
  refine ⟨fun pins s σ H Q I h => ?_⟩
  refine wpAny_Call_Name_kw (ld_blt I hg hm (u := .builtin "all") (by kernel_rfl) ?_)
  refine PyProof.Rows.callWith_builtin1 ?_ hst (by rfl)
  rw [hst]
  show wpAny _ _ (spliced ((false, eval (.GeneratorExp elt [⟨tg, iter, [], 0⟩] scope gpos) X.env) :: backTo pos (starEach [] X.env))) _ _ s
  refine Calls.spliced_cons (gn_make hr TB hcode hN ok hi hgT he hs I h fun a g n tr s5 It Fin hgen h0 turn done hQ => ?_)
  refine Calls.spliced_nil ?_
  exact call_all_gen hgen turn done h0 hQ
theorem pe_anyG {c P : Addr} {tg elt iter : Expr} {p pos gpos : Pos} {scope : Scope} {own : List (Str × Nat)} {wi : TI} {gT : TG} {te : TE} {k : Nat}
    (hr : Room (k + 1) X.A) (hg : Gl X "any") (hm : X.mg "any" = none) (TB : GxR.TabB X.base X.mg c P) (hcode : X.env.code = .ref c) (hN : X.N.Nodup) (ok : GnOk X.N X.env.scope scope own) (hi : PI X tg iter wi)
    (hgT : ∀ (s : Shared) (H : Hp) (A : Around) (code : Value) (fp : List Addr), Room k A → PG (gnC X s H A (gnE X scope s code) fp) tg gT) (he : ∀ (s : Shared) (H : Hp) (A : Around) (code : Value) (fp : List Addr), Room k A → PE (gnC X s H A (gnE X scope s code) fp) elt te)
    (hs : ∀ v, genFold iter X.env v = pure v)
    (hst : starEach [.GeneratorExp elt [⟨tg, iter, [], 0⟩] scope gpos] X.env = (false, eval (.GeneratorExp elt [⟨tg, iter, [], 0⟩] scope gpos) X.env) :: starEach [] X.env := by rfl) :
    PE X (.Call (.Name "any" p) [.GeneratorExp elt [⟨tg, iter, [], 0⟩] scope gpos] [] pos) (tGn P (fun tr l => l.any tr) wi gT te (own.map (·.2))) := by
  refine ⟨fun pins s σ H Q I h => ?_⟩
  refine wpAny_Call_Name_kw (ld_blt I hg hm (u := .builtin "any") (by kernel_rfl) ?_)
  refine PyProof.Rows.callWith_builtin1 ?_ hst (by rfl)
  rw [hst]
  show wpAny _ _ (spliced ((false, eval (.GeneratorExp elt [⟨tg, iter, [], 0⟩] scope gpos) X.env) :: backTo pos (starEach [] X.env))) _ _ s
  refine Calls.spliced_cons (gn_make hr TB hcode hN ok hi hgT he hs I h fun a g n tr s5 It Fin hgen h0 turn done hQ => ?_)
  refine Calls.spliced_nil ?_
  exact call_any_gen hgen turn done h0 hQ
end
end SL
end

section
set_option Elab.async false
set_option linter.all false
set_option maxRecDepth 100000
set_option maxHeartbeats 4000000
/-! enumerate(t), t a tuple -/
namespace SL
open PySem PySem.Spec PyProof.Rows L2
theorem meets_enum1 {v : Value} {o : Obj} {H : Heap → Prop} (B : Begins v o H) :
    Meets (Builtin.«enumerate.__new__» ⟨[.type "enumerate", v], []⟩) (fun _ R s => H s.heap ∧
      R (.ok (.ret (.ref (s.heap.push o).objs.size))) { s with heap := (s.heap.push o).push { cls := .type "enumerate", data := .fields #[.none, .bool false, .ref s.heap.objs.size, rawInt 0, .none, .none] } }) :=
  .of_wp fun prog w A R s h => by
    obtain ⟨hp, g, d, tk, os⟩ := s; obtain ⟨h1, h⟩ := h
    have hsub := sub_enumerate
    have q1 : ∀ {A' : Around} {E : Value → Shared → Prop} {Q : Value → Shared → Prop}, Q (.ref hp.objs.size) ⟨hp.push o, g, d, tk, os⟩ → wpAny (model prog w) A' (pyIter v) Q E ⟨hp, g, d, tk, os⟩ :=
      fun q => B.iter prog w _ _ ⟨hp, g, d, tk, os⟩ _ h1 q
    wp_walk using q1
    refine wpAny_stack_any fun st => wpAny_pure ?_
    split
    · rename_i c _ _ _ _ _
      cases (c == Value.type "enumerate")
      · wp_walk using q1
        exact ⟨_, rfl, h⟩
      · wp_walk using q1
        exact ⟨_, rfl, h⟩
    · wp_walk using q1
      exact ⟨_, rfl, h⟩
section
variable {prog : Program} {w : World} {A : Around} {E : Value → Shared → Prop} {s : Shared}
theorem call_enum_begins {v : Value} {o : Obj} {H : Heap → Prop} {Q : Value → Shared → Prop} (B : Begins v o H) (h1 : H s.heap)
    (h : ∀ h', IsEnum h' (s.heap.objs.size + 1) s.heap.objs.size 0 .none → h'.get? s.heap.objs.size = some o → h'.objs.size = s.heap.objs.size + 2 →
      (∀ b o, s.heap.get? b = some o → h'.get? b = some o) → Q (.ref (s.heap.objs.size + 1)) { s with heap := h' }) :
    wpAny (model prog w) A (call (.type "enumerate") [v]) Q E s := by
  refine callType_new F.called_enumerate (by decide) (F.typeCall_enumerate_1 _) (F.newCall_enumerate_1 _) (fun obj => F.args_object_init_2 obj _) F.entry_enumerate_new
    (meets_enum1 B) ⟨h1, ?_⟩
  have hz : (s.heap.push o).objs.size = s.heap.objs.size + 1 := Heap.size_push ..
  show _ ∧ _
  rw [hz]
  have he : IsEnum ((s.heap.push o).push { cls := .type "enumerate", data := .fields #[.none, .bool false, .ref s.heap.objs.size, rawInt 0, .none, .none] }) (s.heap.objs.size + 1) s.heap.objs.size 0 .none := by
    have := Heap.get?_push_size (s.heap.push o) (o := { cls := .type "enumerate", data := .fields #[.none, .bool false, .ref s.heap.objs.size, rawInt 0, .none, .none] }) rfl
    rw [hz] at this; exact this
  refine ⟨⟨_, he, rfl⟩, h _ he (Heap.get?_push_of_some _ (Heap.get?_push_size _ B.free)) (by rw [Heap.size_push, hz]) fun b o x => Heap.get?_push_of_some _ (Heap.get?_push_of_some _ x)⟩
end
/-- the tuple at a, each item in a new pair -/
def IteT (K : PySem.W.Frag) (a : Addr) : It :=
  ⟨fun i H => ∃ (xs : List V) (x : V), SqT K H a xs ∧ xs[i]? = some x, fun i H v H' => ∃ T x, v = .ref T ∧ H T = none ∧ H' = upd H T (.tup [.int (i : Nat), x]) ∧ ∀ xs, SqT K H a xs → xs[i]? = some x, fun i H => ∃ xs : List V, SqT K H a xs ∧ xs.length ≤ i⟩
theorem turn_enumT {P : Program} {w : World} {K : PySem.W.Frag} {elts : List Expr} {kk : Nat} {tpos : Pos} (a e it : Addr) (hit : a ≠ it) (hea : e ≠ a) :
    Turn P w K (.Tuple elts kk tpos) (IteT K a) [e, it] e (fun i h => (∃ old, IsEnum h e it ((i : Nat) : Int) old) ∧ h.IsTupleIter it a i ∧ e ≠ it) where
  mem := by simp
  obj := fun i h st b hb => by
    obtain ⟨⟨old, he⟩, ⟨o, ho, hc, hd⟩, _⟩ := st
    have e' : b = e ∨ b = it := by simpa using hb
    rcases e' with z | z
    · rw [z]; exact ⟨_, he, fun v q => nomatch q⟩
    · rw [z]; exact ⟨o, ho, fun v q => by rw [hd] at q; cases q⟩
  keep := fun i h h' st k => let ⟨⟨old, he⟩, hi, hne⟩ := st; ⟨⟨old, k e (by simp) _ he⟩, hi.at fun o q => k it (by simp) o q, hne⟩
  item := by
    intro X hP hw hK hc i pins s σ H E I hf st hg
    subst hP hw hK
    obtain ⟨⟨old, he⟩, hit', hne⟩ := st
    obtain ⟨xs, x, hq, hx⟩ := hg
    obtain ⟨its, rv, p, hz⟩ := I.tuple hq
    obtain ⟨u, hu, ru⟩ := rv.get hx
    have hel : e < s.heap.objs.size := Heap.lt_size he
    have hil : it < s.heap.objs.size := by obtain ⟨_, q, _⟩ := hit'; exact Heap.lt_size q
    have hn : i < its.toArray.size := by
      have := (List.getElem?_eq_some_iff.mp hu).1
      simpa using this
    refine wpAny_pyNext_enum_itemD (Draws.tuple (prog := X.prog) (w := X.w) (A := X.A.in1) (I.ok.hd hc) it a hit its.toArray) he ⟨hit', p⟩ hn hne (by simp [hne, hea]) fun x' h' tk hx' ho hst hT hsz hk => ?_
    have ex : x' = u := by
      have q : its.toArray[i]? = some u := by simpa using hu
      rw [hx'] at q
      exact Option.some.inj q
    subst ex
    refine ⟨_, rfl, wpAny_letOwnedTupleGo_enum (s := { s with heap := h', toks := tk + 1 }) ho fun h'' he' sb => ?_⟩
    have hT2 : h''.get? s.heap.objs.size = some { cls := .type "tuple", data := .seq #[.int i tk, x'] } := (sb.2 _ (Nat.ne_of_gt hel)).trans hT
    have new : ObjOk X.prog X.w (upd H s.heap.objs.size (.tup [.int (i : Nat), x])) h'' s.heap.objs.size (.tup [.int (i : Nat), x]) :=
      ⟨by show 2 ≤ sizeLine; decide, [.int i tk, x'], .cons ⟨_, rfl⟩ (.cons ru .nil), ⟨_, hT2, rfl, _, rfl⟩⟩
    have I1 : Inv X pins σ (upd H s.heap.objs.size (.tup [.int (i : Nat), x])) { s with heap := h'', toks := tk + 1 } :=
      I.turnedNew (ch := [e, it]) (fun b ob hb q => (sb.2 b (fun z => hb (by simp [z]))).trans (hk b ob (fun z => hb (by simp [z])) (fun z => hb (by simp [z])) q)) hf (Nat.le_refl _) new
    refine ⟨.ref s.heap.objs.size, _, I1, rfl, ⟨_, x, rfl, I.hok.fresh (Nat.le_refl _), rfl, fun ys hy => by rw [I.tuple_inj hy hq]; exact hx⟩, ⟨⟨x', ?_⟩, hst.1.at fun o q => (sb.2 it (Ne.symm hne)).trans q, hne⟩, fun b hb => ?_⟩
    · have e1 : ((i + 1 : Nat) : Int) = (i : Int) + 1 := by omega
      rw [e1]; exact he'
    · have hb' : b < s.heap.objs.size := by
        have e' : b = e ∨ b = it := by simpa using hb
        rcases e' with z | z
        · rw [z]; exact hel
        · rw [z]; exact hil
      rw [upd_ne (Nat.ne_of_lt hb')]
      exact (hf b hb).1
  done := by
    intro X hP hw hK hc i pins s σ H E I hf st hg
    subst hP hw hK
    obtain ⟨⟨old, he⟩, hit', hne⟩ := st
    obtain ⟨xs, hq, hx⟩ := hg
    obtain ⟨its, rv, p, hz⟩ := I.tuple hq
    obtain ⟨f0, f1, f2, f3, f4, f5⟩ := hf it (by simp)
    have hl := rv.length
    have hT : s.TypeIs (.ref e) "enumerate" := ⟨_, he, rfl⟩
    unfold pyNext
    refine wpAny_bind (wpAny_attempt (wpAny_callSpecial?_slot (name := Str.ofString "__next__") hT F.slot_enumerate_next
      (wpAny_call_entry F.slot_enumerate_next hT F.entry_enumerate_next ?_ (F.args_enumerate_next_1 _))))
    show wpAny _ _ (field (.ref e) 2 >>= _) _ _ _
    refine wpAny_bind (wpAny_field he rfl (x := .ref it) rfl ?_)
    refine wpAny_bind (wpAny_nextOf_tuple_end (items := its.toArray) (I.ok.hd hc) hit' p (by simp; omega) fun h' x he' hx' => ?_)
    obtain ⟨o, ho, hcl⟩ := hx'
    refine wpAny_bind (wpAny_isInstance (T := "StopIteration") (b := true) ⟨o, ho, hcl⟩ isSubtype_stop ?_)
    exact wpAny_pure ⟨rfl, I.turned (t' := s.toks) (fun b o hb q => he' b o hb q) f0 f1 f3 f4 f5⟩
  self := fun A i s Q E st h => let ⟨⟨_, he⟩, _⟩ := st; wpAny_pyIter_enum he h
def iEnumT (K : PySem.W.Frag) (ta : TA) : TI := fun σ H R => ta σ H fun vs H1 => ∃ a xs, vs = [.ref a] ∧ SqT K H1 a xs ∧ R (IteT K a) H1
theorem pi_enumT {X : Cx} {e : Expr} {ta : TA} {p pos tpos : Pos} {elts : List Expr} {kk : Nat} (hg : Gl X "enumerate") (hm : X.mg "enumerate" = none) (ha : PA X [e] ta) (hs : starEach [e] X.env = [(false, eval e X.env)] := by rfl) :
    PI X (.Tuple elts kk tpos) (.Call (.Name "enumerate" p) [e] [] pos) (iEnumT X.K ta) := by
  refine ⟨fun pins s σ H R I h => ?_⟩
  refine Call_ (ld_blt I hg hm boot_enumerate (PyProof.Rows.callWith_type1 (thn (ha.run pos pins s σ H _ I h) fun us s1 ⟨vs, H1, I1, r1, q1⟩ => ?_) hs rfl))
  obtain ⟨a, xs, ex, hq, q⟩ := q1
  subst ex
  cases r1 with
  | cons r rr =>
    cases rr
    cases r
    obtain ⟨its, rv, p', hz⟩ := I1.tuple hq
    have hlt : a < s1.heap.objs.size := by obtain ⟨_, q, _⟩ := p'; exact Heap.lt_size q
    refine call_enum_begins (begins_tuple a its.toArray) p' fun h' he hit hsz hk => wpAny_pyIter_enum he ?_
    have I2 : Inv X pins σ H1 { s1 with heap := h' } := I1.kept (t' := s1.toks) hk
    refine ⟨s1.heap.objs.size + 1, [s1.heap.objs.size + 1, s1.heap.objs.size], _, _, H1, rfl, I2, turn_enumT a (s1.heap.objs.size + 1) s1.heap.objs.size (Nat.ne_of_lt hlt) (Nat.ne_of_gt (Nat.lt_succ_of_lt hlt)), ⟨⟨.none, he⟩, ⟨_, hit, rfl, rfl⟩, Nat.succ_ne_self _⟩, fun b hb => ?_, q⟩
    have e' : b = s1.heap.objs.size + 1 ∨ b = s1.heap.objs.size := by simpa using hb
    have hle : s1.heap.objs.size ≤ b := by
      rcases e' with z | z
      · rw [z]; exact Nat.le_add_right _ _
      · rw [z]; exact Nat.le_refl _
    exact I1.fpOk hle (I1.hok.fresh hle)
/-- the reading of a comprehension over it -/
theorem lc_enumT {K : PySem.W.Frag} {a : Addr} {xs : List V} {g : TG} {tt : TT} {te : TE} {vs : List Nat} {σ : L2.St} {H1 : Hp} {D : Addr} {Qd : Hp → Prop} (Pv : Nat → Hp → Prop) (h0 : Pv 0 (upd H1 D (.lst []))) (hl : ∀ i H, i ≤ xs.length → Pv i H → SqT K H a xs)
    (hs : ∀ i x T H, xs[i]? = some x → Pv i H → H T = none → g (.ref T) (wipe σ vs) (upd H T (.tup [.int (i : Nat), x])) fun σ2 H2 => wipe σ2 vs = wipe σ vs ∧ tt σ2 H2 fun b H3 =>
      if b = true then te σ2 H3 fun y H4 => ∃ acc, H4 D = some (.lst acc) ∧ acc.length < sizeLine ∧ Pv (i + 1) (upd H4 D (.lst (acc ++ [y]))) else Pv (i + 1) H3) (hd : ∀ H, Pv xs.length H → Qd H) :
    ∃ W : Nat → Nat → Hp → Prop, (∃ m, W 0 m (upd H1 D (.lst []))) ∧ ∀ i m H, W i m H →
      ((IteT K a).stop i H ∧ Qd H) ∨ ((IteT K a).go i H ∧ ∃ Nx : Hp → Prop, (∀ H', Nx H' → ∃ m', m' < m ∧ W (i + 1) m' H') ∧ ∀ x H', (IteT K a).yld i H x H' → g x (wipe σ vs) H' fun σ2 H2 => wipe σ2 vs = wipe σ vs ∧ tt σ2 H2 fun b H3 =>
        if b = true then te σ2 H3 fun y H4 => ∃ acc, H4 D = some (.lst acc) ∧ acc.length < sizeLine ∧ Nx (upd H4 D (.lst (acc ++ [y]))) else Nx H3) := by
  refine ⟨fun i m H => m = xs.length - i ∧ i ≤ xs.length ∧ Pv i H, ⟨xs.length, by simp, Nat.zero_le _, h0⟩, ?_⟩
  rintro i m H ⟨rfl, hi, p⟩
  have q := hl i H hi p
  by_cases hlt : i < xs.length
  · refine .inr ⟨⟨xs, xs[i], q, by simp [hlt]⟩, Pv (i + 1), fun H' p' => ⟨xs.length - (i + 1), by omega, rfl, hlt, p'⟩, fun x H' y => ?_⟩
    obtain ⟨T, x', rfl, hT, rfl, y⟩ := y
    exact hs i x' T H (y xs q) p hT
  · have e : i = xs.length := by omega
    subst e
    exact .inl ⟨⟨xs, q, Nat.le_refl _⟩, hd H p⟩
end SL
end

section
set_option Elab.async false
set_option linter.all false
set_option maxRecDepth 100000
set_option maxHeartbeats 4000000
/-! max of a list or tuple of nested keys -/
namespace SL
open PySem PySem.Spec PyProof.Rows L2
theorem depthAll_le' {ks : List NK} (h : ∀ k ∈ ks, k.depth ≤ 8) : PyData.depthAll (NestedKey.datas ks) ≤ 8 := by
  rw [datas_depth]
  exact depthAll_le h
/-- the greatest is not below any -/
theorem maxD_ge (x : NK) : ∀ ks : List NK, ∃ k ∈ x :: ks, PySem.W.maxD x.data (ks.map NestedKey.data) = k.data ∧ ∀ z ∈ x :: ks, leK z k = true := by
  intro ks
  unfold PySem.W.maxD
  induction ks generalizing x with
  | nil =>
    refine ⟨x, List.mem_cons_self, rfl, fun z hz => ?_⟩
    rw [List.mem_singleton.mp hz]
    exact (leK_total.total x x).elim id id
  | cons y ks ih =>
    rw [List.map_cons, List.foldl_cons]
    have hle : ∀ a b : NK, (PySem.W.dataLt a.data b.data = true → leK a b = true) ∧ (¬ PySem.W.dataLt a.data b.data = true → leK b a = true) := fun a b => by
      have e1 : leK b a = !PySem.W.dataLt a.data b.data := rfl
      refine ⟨fun h => ?_, fun h => ?_⟩
      · rcases leK_total.total a b with z | z
        · exact z
        · rw [e1, h] at z
          cases z
      · rw [e1]
        simpa using h
    by_cases hlt : PySem.W.dataLt x.data y.data = true
    · rw [if_pos hlt]
      obtain ⟨k, hk, e, hz⟩ := ih y
      refine ⟨k, List.mem_cons_of_mem _ hk, e, fun z hz' => ?_⟩
      rcases List.mem_cons.mp hz' with rfl | hz'
      · exact leK_total.trans _ _ _ ((hle z y).1 hlt) (hz y List.mem_cons_self)
      · exact hz z hz'
    · rw [if_neg hlt]
      obtain ⟨k, hk, e, hz⟩ := ih x
      refine ⟨k, ?_, e, fun z hz' => ?_⟩
      · rcases List.mem_cons.mp hk with r | r
        · rw [r]; exact List.mem_cons_self
        · exact List.mem_cons_of_mem _ (List.mem_cons_of_mem _ r)
      · rcases List.mem_cons.mp hz' with rfl | hz'
        · exact hz z List.mem_cons_self
        · rcases List.mem_cons.mp hz' with rfl | hz'
          · exact leK_total.trans _ _ _ ((hle x z).2 hlt) (hz x List.mem_cons_self)
          · exact hz z (List.mem_cons_of_mem _ hz')
section
variable {X : Cx}
def rMaxN (K : PySem.W.Frag) : List V → Hp → VK → Prop := fun xs H Q => ∃ (l : Addr) (vs : List V) (x : NK) (ks : List NK), xs = [V.ref l] ∧ (SqL K H l vs ∨ SqT K H l vs) ∧ TpAll K H vs (x :: ks) ∧ PySem.W.AllAlike ((x :: ks).map NestedKey.data) ∧ (∀ k ∈ x :: ks, k.depth ≤ 8) ∧
  ∀ v k, v ∈ vs → k ∈ x :: ks → Tp K H v k → (∀ z ∈ x :: ks, leK z k = true) → Q v H
theorem keeps_reads {h h' : Heap} {v : Value} {d : PyData} {as : List Addr} (k : ∀ b o, h.get? b = some o → h'.get? b = some o) (r : Reads h v d as) : Reads h' v d as := Reads.keeps k r
theorem cr_maxN (hc : X.calm = true) (hu : X.A.units + 16 < cLine) : CallR X (.builtin "max") (rMaxN X.K) := by
  intro pins s σ H xs us Q I r h
  obtain ⟨l, vs, x, ks, rfl, hl, t, al, dp, q⟩ := h
  obtain ⟨u, rfl, ru⟩ := vals1 r
  obtain rfl : u = Value.ref l := ru
  have go : ∀ (its : List Value), Vals vs its → ((∀ (i : Nat) v h' tk bs, its.toArray[i]? = some v → Reads h' v (PySem.W.maxD x.data (ks.map NestedKey.data)) bs → (∀ b o, s.heap.get? b = some o → h'.get? b = some o) → EP X pins σ Q v { s with heap := h', toks := tk }) ∧
      ReadsAll s.heap its.toArray.toList (x.data :: ks.map NestedKey.data) []) := by
    intro its rv
    refine ⟨fun i v h' tk bs hi rd k => ?_, ?_⟩
    · have hi' : its[i]? = some v := by simpa using hi
      have hlt : i < vs.length := by rw [rv.length]; exact (List.getElem?_eq_some_iff.mp hi').1
      have hv : vs[i]? = some vs[i] := List.getElem?_eq_getElem hlt
      obtain ⟨v', hv', rr⟩ := rv.get hv
      rw [hi'] at hv'
      cases hv'
      obtain ⟨ki, ek, tk'⟩ := t.get hv
      obtain ⟨km, hkm, em, hz⟩ := maxD_ge x ks
      have r1 : Reads h' v ki.data [] := keeps_reads k (tp_reads I ki _ v tk' rr)
      rw [em] at rd
      have hki : ki ∈ x :: ks := List.mem_of_getElem? ek
      have ed := PySem.W.alike_unique _ _ v _ _ (al _ (List.mem_map.mpr ⟨ki, hki, rfl⟩) _ (List.mem_map.mpr ⟨km, hkm, rfl⟩)) r1 rd
      have e2 : ki = km := by
        have z : PyData.eqv ki.data km.data = true := by
          rw [ed, eqv_dec]
          simp
        rw [eqv_dec] at z
        exact of_decide_eq_true z
      subst e2
      exact ⟨vs[i], H, I.kept k, rr, q _ _ (List.getElem_mem hlt) hki tk' hz⟩
    · have := tps_reads I (x :: ks) vs its t rv
      rw [datas_map] at this
      simpa using this
  have ha : PySem.W.AlikeAll (x.data :: ks.map NestedKey.data) := ⟨fun a ha b hb => al a ha b hb, fun a ha z => by
    obtain ⟨k, hk, rfl⟩ := List.mem_map.mp (show a ∈ (x :: ks).map NestedKey.data from ha)
    obtain ⟨v, hv, tv⟩ : ∃ v, v ∈ vs ∧ Tp X.K H v k := by
      obtain ⟨i, e⟩ := List.getElem?_of_mem hk
      obtain ⟨v, e1, e2⟩ := t.at_ e
      exact ⟨v, List.mem_of_getElem? e1, e2⟩
    cases tv with
    | num _ => simp [NestedKey.data] at z
    | tup _ _ => simp [NestedKey.data] at z⟩
  have hdep : X.A.units + 1 + PyData.depthAll (x.data :: ks.map NestedKey.data) < cLine := by
    have := depthAll_le' dp
    rw [datas_map, List.map_cons] at this
    omega
  rcases hl with hl | hl
  · obtain ⟨its, rv, pl, hz⟩ := I.list hl
    obtain ⟨g1, g2⟩ := go its rv
    exact PySem.W.max_list_data (I.ok.hd hc) pl.isList g2 ha hdep g1
  · obtain ⟨its, rv, pl, hz⟩ := I.tuple hl
    obtain ⟨g1, g2⟩ := go its rv
    exact PySem.W.max_tuple_data (I.ok.hd hc) pl g2 ha hdep g1
end
/-! ### list(xs), list(t) -/
section
variable {X : Cx}
def rListS (K : PySem.W.Frag) : List V → Hp → VK → Prop := fun xs H Q => ∃ (l : Addr) (vs : List V), xs = [V.ref l] ∧ (SqL K H l vs ∨ SqT K H l vs) ∧ ∀ p, H p = none → Q (.ref p) (upd H p (.lst vs))
theorem call_listS : CallR X (.type "list") (rListS X.K) := by
  intro pins s σ H xs us Q I r h
  obtain ⟨l, vs, rfl, hl, q⟩ := h
  obtain ⟨u, rfl, ru⟩ := vals1 r
  obtain rfl : u = Value.ref l := ru
  have go : ∀ (its : List Value), Vals vs its → vs.length ≤ sizeLine → ∀ h' (c' : Nat), (∀ b o, s.heap.get? b = some o → h'.get? b = some o) → h'.get? s.heap.objs.size = some (seqObj "list" its.toArray c') → EP X pins σ Q (.ref s.heap.objs.size) { s with heap := h' } := by
    intro its rv hz h' c' hk hD
    exact ⟨.ref s.heap.objs.size, upd H s.heap.objs.size (.lst vs), I.laid (t' := s.toks) hk (Nat.le_refl _) ⟨hz, its, c', rv, hD⟩, rfl, q _ (I.hok.fresh (Nat.le_refl _))⟩
  rcases hl with hl | hl
  · obtain ⟨its, rv, pl, hz⟩ := I.list hl
    obtain ⟨o, ho, hc, n, hd⟩ := pl.isList
    exact call_list_seq (hsz := by rw [List.size_toArray, ← rv.length]; exact hz) l (.inl rfl) ho hc hd fun h' c' hk hD => go its rv hz h' c' hk hD
  · obtain ⟨its, rv, pl, hz⟩ := I.tuple hl
    obtain ⟨o, ho, hc, n, hd⟩ := pl
    exact call_list_seq (hsz := by rw [List.size_toArray, ← rv.length]; exact hz) l (.inr rfl) ho hc hd fun h' c' hk hD => go its rv hz h' c' hk hD
end
/-! ### numbers -/
theorem leK_num {a b : Int} : leK (.num a) (.num b) = true ↔ a ≤ b := by
  have e : leK (.num a) (.num b) = !PySem.W.dataLt (.int b) (.int a) := by
    show (!PySem.W.dataLt (NestedKey.num b).data (NestedKey.num a).data) = _
    rw [NestedKey.data, NestedKey.data]
  rw [e, PySem.W.dataLt_int]
  simp
theorem alike_nums (ns : List Int) : PySem.W.AllAlike ((ns.map NestedKey.num).map NestedKey.data) := by
  intro a ha b hb
  simp only [List.map_map, List.mem_map, Function.comp_def] at ha hb
  obtain ⟨i, _, rfl⟩ := ha
  obtain ⟨j, _, rfl⟩ := hb
  rw [NestedKey.data, NestedKey.data, PySem.W.alike]
/-- (n, ..) ≤ (m, ..) makes n ≤ m -/
theorem leK_head {n m : Int} {a b : List NK} (h : leK (.tup (.num n :: a)) (.tup (.num m :: b)) = true) : n ≤ m := by
  rcases Int.lt_or_le m n with z | z
  · exfalso
    have e : leK (.tup (.num n :: a)) (.tup (.num m :: b)) = !PySem.W.dataLt (.tuple (.int m :: NestedKey.datas b)) (.tuple (.int n :: NestedKey.datas a)) := by
      show (!PySem.W.dataLt (NestedKey.tup (.num m :: b)).data (NestedKey.tup (.num n :: a)).data) = _
      rw [NestedKey.data, NestedKey.data, NestedKey.datas, NestedKey.datas, NestedKey.data, NestedKey.data]
    rw [e, PySem.W.dataLt_tuple, PySem.W.dataLt_all_no (by rw [PySem.W.alike]) (by rw [PyData.eqv]; simp; omega), PySem.W.dataLt_int, decide_eq_true z] at h
    cases h
  · exact z
end SL
end

section
set_option Elab.async false
set_option linter.all false
set_option maxRecDepth 100000
set_option maxHeartbeats 4000000
/-! what all walks share -/
namespace SL
open PySem PySem.Spec PyProof.Rows L2

/-- the tables of the three defs that hold generator expressions -/
def cs (K : PySem.W.Frag) : List (Addr × Addr) := tf.map (He.cT K)
abbrev P0 : Program := PySem.Challenge.rw_starlands_k26_whole_arrangements.prog
structure Tx (K : PySem.W.Frag) (mg : Str → Option Value) (base : Heap) : Prop where
  kin : K.In base
  ns : base.Ns mainGlobals mg
  tabs : ∀ p ∈ cs K, GxR.TabB base mg p.1 p.2
  says : He.SaysD fa fn K
section
variable {w : World} {K : PySem.W.Frag} {mg : Str → Option Value} {base : Heap}
def faIs (g : He.Fa → Bool) : Bool := fa.any g
def isFree (x : Str) : He.Fa → Bool
  | .free y => y == x
  | _ => false
def isGlo (x : Str) : He.Fa → Bool
  | .glo y => y == x
  | _ => false
def isIntF (x : Str) (i : Int) : He.Fa → Bool
  | .int y j => y == x && j == i
  | _ => false
theorem mem_free {x : Str} (h : fa.any (isFree x) = true) : He.Fa.free x ∈ fa := by
  obtain ⟨f, hf, e⟩ := List.any_eq_true.mp h
  cases f <;> simp [isFree] at e
  subst e
  exact hf
theorem mem_glo {x : Str} (h : fa.any (isGlo x) = true) : He.Fa.glo x ∈ fa := by
  obtain ⟨f, hf, e⟩ := List.any_eq_true.mp h
  cases f <;> simp [isGlo] at e
  subst e
  exact hf
theorem mem_int {x : Str} {i : Int} (h : fa.any (isIntF x i) = true) : He.Fa.int x i ∈ fa := by
  obtain ⟨f, hf, e⟩ := List.any_eq_true.mp h
  cases f <;> simp [isIntF] at e
  obtain ⟨e1, e2⟩ := e
  subst e1
  subst e2
  exact hf
theorem Tx.free (T : Tx K mg base) (x : Str) (h : fa.any (isFree x) = true := by decide +kernel) : mg x = none := He.free_ok T.kin T.ns (T.says.facts (mem_free h))
theorem Tx.glo (T : Tx K mg base) (x : Str) (h : fa.any (isGlo x) = true := by decide +kernel) : mg x = some (.ref (He.ga K x)) := He.glo_ok T.kin T.ns (T.says.facts (mem_glo h))
theorem Tx.int (T : Tx K mg base) (x : Str) (i : Int) (h : fa.any (isIntF x i) = true := by decide +kernel) : ∃ t, mg x = some (.int i t) := He.int_ok T.kin T.ns (T.says.facts (mem_int h))
/-- the def x keeps the promise sp at level k -/
structure Kp (w : World) (K : PySem.W.Frag) (mg : Str → Option Value) (base : Heap) (x : Str) (k : Nat) (ps : List Str) (sp : Sp) : Prop where
  ex : ∃ fd, FnOk P0 w K mg base CX0 k (He.ga K x) fd ps sp ∧ Binds K fd ps []
  kp : PySem.W.keepIn K (.ref (He.ga K x)) = true
  mg : mg x = some (.ref (He.ga K x))
theorem Kp.imp {x : Str} {k : Nat} {ps : List Str} {sp sp' : Sp} (F : Kp w K mg base x k ps sp) (h : ∀ vs H Q E, sp' vs H Q E → sp vs H Q E) : Kp w K mg base x k ps sp' := by
  obtain ⟨fd, o, b⟩ := F.ex
  exact ⟨⟨fd, o.imp h, b⟩, F.kp, F.mg⟩
/-- THE RULE for a def of this program -/
theorem kp_of {d : He.DefD} {x : Str} {k : Nat} {N ps : List Str} {sp : Sp} (T : Tx K mg base) (hd : d ∈ fn) (hx : fa.any (isGlo x) = true) (h0 : d.at_ = (x, none)) (hn : d.name = x) (hq : d.qual = x) (hdd : d.dfl = []) (hkd : d.kwd = []) (S : FnScope N ps d.scope) (len : ∀ vs H Q E, sp vs H Q E → vs.length = ps.length)
    (hb : ∀ (kV doc pm : Value) (an : Option Addr) (cdv ct : Value) (us : List Value), us.length = ps.length → bindArgs (PySem.W.fnOf x x d.params d.body d.scope .none kV doc pm an cdv ct) ⟨us, []⟩ = pure (ps.zip us))
    (hbody : ∀ (A : Around) (outer : List Env) (s : Shared) (H : Hp) (vs : List V) (Q : VK) (E : XK), Room k (A.deeper (envOfC x d.scope s.heap.objs.size (He.ga K x) (.ref (He.codeOf K (x, none))))) → sp vs H Q E →
      ∃ t, PSs (cxOf CX0 P0 w K mg base N x d.scope (He.ga K x) (.ref (He.codeOf K (x, none))) A outer s H E).nox d.body t ∧ t { nx := fun _ H' => Q .non H', rt := Q } (start N vs) H) : Kp w K mg base x (k + 1) ps sp := by
  obtain ⟨fd, F⟩ := T.says.defs hd
  have e1 : d.dvs K = [] := by unfold He.DefD.dvs; rw [hdd]; rfl
  have e2 : d.kws K = [] := by unfold He.DefD.kws; rw [hkd]; rfl
  rw [e1, e2, hn, hq, h0] at F
  refine ⟨⟨fd, ?_, F.bindsN hb⟩, F.kp, T.glo x hx⟩
  obtain ⟨oc, od, dV, kV, doc, pm, an, cdv, ct, osl, rfl, lk, hcd, _, _⟩ := F.ex
  obtain ⟨c, rfl⟩ := He.codeIn_ref hcd
  have ec : He.codeOf K (x, none) = c := He.codeOf_eq lk rfl
  rw [ec] at hbody
  refine fn_of lk hcd S len fun A outer s H vs Q E hr hsp => ?_
  obtain ⟨t, h, q⟩ := hbody A outer s H vs Q E hr hsp
  exact ⟨t, h.nox, q⟩
end
/-! ### short words -/
section
variable {X : Cx} {k : Nat} {x : Str} {ps : List Str} {sp : Sp} {p pos : Pos} {e : Expr} {es : List Expr} {t : TA} {w : World} {K : PySem.W.Frag} {mg : Str → Option Value} {base : Heap}
/-- f(e, ..) of a def of the program -/
theorem pe_k (F : Kp X.w X.K X.mg X.base x k ps sp) (hP : X.prog = P0) (hr : Room k X.A) (ha : PA X (e :: es) t) (hg : Gl X x := by rfl) (hdb : (x == ("__debug__" : Str)) = false := by decide)
    (he : starEach (e :: es) X.env = (false, eval e X.env) :: starEach es X.env := by rfl) (hpl : (backTo pos (starEach es X.env)).any (·.1) = false := by rfl) :
    PE X (.Call (.Name x p) (e :: es) [] pos) (tCall sp [] E0 t) := by
  obtain ⟨fd, o, b⟩ := F.ex
  rw [← hP] at o
  exact pe_call o hr hg F.mg F.kp b .nil pass0 ha hdb he hpl
end
abbrev pa1 {X : Cx} {e : Expr} {te : TE} (h : PE X e te) (hs : starEach [e] X.env = (false, eval e X.env) :: starEach [] X.env := by rfl) := pa_cons h pa_nil hs
abbrev vN (n : Nat) : V := .int (n : Int)

end SL
end

section
set_option Elab.async false
set_option linter.all false
set_option maxRecDepth 100000
set_option maxHeartbeats 4000000
/-! walks: is_in, near, length_of, hangs, held -/
namespace SL
open PySem PySem.Spec PyProof.Rows L2
theorem iteT' {b : Bool} {A B : Prop} (hb : b = true) (h : A) : if b = true then A else B := by rw [if_pos hb]; exact h
theorem iteF' {b : Bool} {A B : Prop} (hb : b = false) (h : B) : if b = true then A else B := by rw [if_neg (by rw [hb]; exact Bool.false_ne_true)]; exact h
section
variable {w : World} {K : PySem.W.Frag} {mg : Str → Option Value} {base : Heap}
def spIsIn : Sp := fun vs H Q _ => ∃ i a b : Int, vs = [.int i, .int a, .int b] ∧ Q (.bl (decide (a ≤ i ∧ i ≤ b))) H
theorem sc_is_in : FnScope ["value", "least", "most"] ["value", "least", "most"] (defScope s_is_in) := ⟨rfl, rfl, rfl, by decide +kernel, rfl, by decide +kernel, by decide +kernel⟩
theorem kp_is_in (T : Tx K mg base) : Kp w K mg base "is_in" 1 ["value", "least", "most"] spIsIn := by
  refine kp_of (d := d_is_in) (k := 0) T (by simp [fn]) (by decide +kernel) rfl rfl rfl rfl rfl sc_is_in (fun vs H Q E ⟨_, _, _, e, _⟩ => by rw [e]; rfl) (fun _ _ _ _ _ _ us hl => match us, hl with | [_, _, _], _ => rfl) fun A outer s H vs Q E hr hsp => ?_
  obtain ⟨i, a, b, rfl, hQ⟩ := hsp
  refine ⟨_, pss_one (ps_ret (pe_and (pe_callB call_isi (by rfl) (T.free "isinstance") (by decide +kernel) (pa_cons (pv 0) (pa1 (pe_bltn (v := .ty "int") (by rfl) (T.free "int") (by decide +kernel) rfl))))
    (pe_and (pe_not (pe_callB call_isi (by rfl) (T.free "isinstance") (by decide +kernel) (pa_cons (pv 0) (pa1 (pe_bltn (v := .ty "bool") (by rfl) (T.free "bool") (by decide +kernel) rfl)))))
    (pe_one (pe_chain op_le op_le (pv 1) (pv 0) (pv 2)))))), ?_⟩
  refine ⟨_, rfl, _, _, _, _, _, rfl, .ty "int", .base (.int i), kit_ty (r := true) (by decide +kernel), true, rfl, ?_⟩
  refine iteT ⟨_, rfl, _, _, _, _, _, rfl, .ty "bool", .base (.int i), kit_ty (r := false) (by decide +kernel), false, rfl, true, rfl, ?_⟩
  refine iteT ⟨_, rfl, _, rfl, a, i, rfl, rfl, decide (a ≤ i), rfl, ?_⟩
  by_cases h1 : a ≤ i
  · rw [if_pos (decide_eq_true h1)]
    refine ⟨_, rfl, i, b, rfl, rfl, ?_⟩
    have e : decide (a ≤ i ∧ i ≤ b) = decide (i ≤ b) := by simp [h1]
    rw [e] at hQ
    exact hQ
  · rw [if_neg (by simp [h1])]
    have e : decide (a ≤ i ∧ i ≤ b) = false := by simp [h1]
    rw [e] at hQ
    exact hQ

/-- a new list of numbers -/
def NewL (H : Hp) (Q : VK) (ns : List Nat) : Prop := ∀ H' p, Gr H H' → H p = none → H' p = some (.lst (ns.map vN)) → Q (.ref p) H'
def spNear : Sp := fun vs H Q _ => ∃ A L c : Nat, vs = [vN A, vN L, vN c] ∧ A ≤ 4 ∧ 1 ≤ L ∧ L ≤ 4 ∧ c ≤ 100 ∧ NewL H Q (near A L c)
theorem sc_near : FnScope ["arms", "length", "cell", "step", "found", "arm"] ["arms", "length", "cell"] (defScope s_near) := ⟨rfl, rfl, rfl, by decide +kernel, rfl, by decide +kernel, by decide +kernel⟩
theorem kp_near (T : Tx K mg base) : Kp w K mg base "near" 1 ["arms", "length", "cell"] spNear := by
  refine kp_of (d := d_near) (k := 0) T (by simp [fn]) (by decide +kernel) rfl rfl rfl rfl rfl sc_near (fun vs H Q E ⟨_, _, _, e, _⟩ => by rw [e]; rfl) (fun _ _ _ _ _ _ us hl => match us, hl with | [_, _, _], _ => rfl) fun Ar outer s H vs Q E hr hsp => ?_
  obtain ⟨A, L, c, rfl, hA, hL, hL4, hc, hQ⟩ := hsp
  refine ⟨_, pss_cons (ps_if (pt_cmpR op_eq (pv 2) pe_int (nomark _)) (pss_one (ps_ret (pe_lc (own := [("arm", 5)]) (g := gName 5) (tt := tYes) rfl sc_near.nd (pi_range1 (by rfl) (T.free "range") (pa1 (pv 0)))
      (blkOk_by (N := ["arms", "length", "cell", "step", "found", "arm"]) (sc := defScope s_near) (by decide +kernel)) (fun _ _ _ _ _ => pg_name (i := 5) sc_near.nd rfl (Or.inl rfl)) (fun _ _ _ _ _ => pts_nil) (fun _ _ _ _ _ => pe_op op_add pe_int (pe_op op_mul (pv 5) (pv 1)))))) pss_nil)
    (pss_cons (ps_set (i := 3) sc_near.nd rfl (.inl rfl) (pe_op op_mod (pe_op op_sub (pv 2) pe_int) (pv 1)))
    (pss_cons (ps_set (i := 4) sc_near.nd rfl (.inl rfl) (pe_lst (pa1 (pe_ifExp (pt_truth (pv 3) (by intro _; rfl)) (pe_op op_sub (pv 2) pe_int) pe_int))))
    (pss_cons (ps_if (pt_cmpR op_lt (pe_op op_add (pv 3) pe_int) (pv 1) (nomark _)) (pss_one (ps_expr (pe_bm PySem.F.plainAttrs_list PySem.F.slot_list_append PySem.F.type_list_append mt_append (pv 4) (pa1 (pe_op op_add (pv 2) pe_int))))) pss_nil)
    (pss_one (ps_ret (pv 4)))))), ?_⟩
  refine ⟨_, rfl, rfl, _, rfl, ?_⟩
  refine ite2 (fun h => ?_) fun h => ?_
  · have hc0 : c = 0 := by simpa using h
    subst hc0
    refine ⟨_, rfl, A, rfl, by omega, by omega, fun D hD => lc_range (lo := 0) (n := A) (fun i H' => H' D = some (.lst (((List.range i).map fun a => 1 + a * L).map vN)) ∧ Gr H H') ⟨upd_same, Gr.new hD⟩ ?_ ?_⟩
    · rintro i H1 hi ⟨h1, h2⟩
      refine ⟨rfl, _, rfl, _, rfl, _, _, rfl, rfl, .inr ⟨by omega, by omega⟩, _, _, rfl, rfl, _, h1, by simp [sizeLine_eq]; omega, ?_, Gr.put h2 hD⟩
      rw [upd_same, List.range_succ]
      simp
    · rintro H1 ⟨h1, h2⟩
      exact hQ _ _ h2 hD (by rw [h1]; unfold near; rw [if_pos rfl])
  · have hc1 : 1 ≤ c := by
      rcases Nat.eq_zero_or_pos c with z | z
      · subst z
        exact absurd (by simp) h
      · exact z
    have e1 : (c : Int) - 1 = ((c - 1 : Nat) : Int) := by omega
    refine ⟨_, rfl, _, _, rfl, rfl, _, rfl, _, _, rfl, rfl, by show (0 : Int) < L; omega, ?_⟩
    dsimp only
    rw [e1, ← Int.natCast_emod]
    generalize hs : (c - 1) % L = st
    refine ⟨_, rfl, st != 0, ?_, ?_⟩
    · show (st != 0) = ((st : Int) != 0)
      rw [Bool.eq_iff_iff]
      simp
    have key : (if st != 0 then V.int ((c - 1 : Nat) : Int) else V.int 0) = vN (par L c) := by
      unfold par
      rw [hs]
      by_cases h0 : st = 0 <;> simp [h0]
    have go : ∀ l, H l = none → ∀ z : V, z = vN (par L c) → (tIfS (tTest (tOp (rI0 fun i j => V.bl (decide (i < j))) (tOp (rI0 fun i j => V.int (i + j)) (tVar 3) (tC (V.int 1))) (tVar 1)))
        (tDrop (tBM K "list" rAppend (tVar 4) (tCons (tOp (rI0 fun i j => V.int (i + j)) (tVar 2) (tC (V.int 1))) tNil))) tNext)
        { nx := tRet (tVar 4) { nx := fun x H' => Q V.non H', rt := Q }, rt := Q } [some (vN A), some (vN L), some (vN c), some (vN st), some (.ref l), none] (upd H l (.lst [z])) := by
      intro l hl z hz
      refine ⟨_, rfl, _, _, rfl, rfl, _, rfl, _, _, rfl, rfl, _, rfl, ?_⟩
      by_cases h1 : st + 1 < L
      · refine iteT' (decide_eq_true (by omega)) ?_
        refine ⟨_, rfl, .inl ⟨rfl, _, SqL.of upd_same⟩, _, rfl, _, _, rfl, rfl, _, _, _, rfl, rfl, upd_same, by show 1 < sizeLine; rw [sizeLine_eq]; omega, ?_⟩
        refine ⟨_, rfl, hQ _ _ (Gr.put (Gr.new hl) hl) hl ?_⟩
        rw [upd_same, hz]
        unfold near
        rw [if_neg (by omega), hs, if_pos h1]
        simp
      · refine iteF' (decide_eq_false (by omega)) ?_
        refine ⟨_, rfl, hQ _ _ (Gr.new hl) hl ?_⟩
        rw [upd_same, hz]
        unfold near
        rw [if_neg (by omega), hs, if_neg h1]
        simp
    by_cases h0 : st = 0
    · refine iteF' (by simp [h0]) ⟨by show 1 ≤ sizeLine; rw [sizeLine_eq]; omega, fun l hl => go l hl _ ?_⟩
      rw [← key]
      simp [h0]
    · refine iteT' (by simp [h0]) ⟨_, rfl, _, _, rfl, rfl, by show 1 ≤ sizeLine; rw [sizeLine_eq]; omega, fun l hl => go l hl _ ?_⟩
      rw [← key]
      simp [h0]
      omega
end
end SL
end

section
set_option Elab.async false
set_option linter.all false
set_option maxRecDepth 100000
set_option maxHeartbeats 4000000
/-! walks: length_of, held, hangs -/
namespace SL
open PySem PySem.Spec PyProof.Rows L2
section
variable {K : PySem.W.Frag} {H H' : Hp}
theorem tp_nums {b : Addr} {ns : List Nat} (h : SqT K H b (ns.map vN)) : Tp K H (.ref b) (kNs ns) := by
  refine .tup h ?_
  have := TpAll.ints (K := K) (H := H) (ns.map fun n : Nat => (n : Int))
  simpa [List.map_map, Function.comp_def] using this
theorem tp_nums_at {v : V} {ns : List Nat} (h : Tp K H v (kNs ns)) : ∃ b, v = .ref b ∧ SqT K H b (ns.map vN) := by
  cases h with
  | @tup a xs _ h1 h2 =>
    refine ⟨a, rfl, ?_⟩
    have e : ns.map kN = (ns.map fun n : Nat => (n : Int)).map NestedKey.num := by simp [List.map_map, Function.comp_def]
    rw [e] at h2
    have := TpAll.ints_inv h2
    rw [this, List.map_map] at h1
    exact h1
theorem ch_at {v : V} {m : Ch} (h : Tp K H v (kCh m)) : ∃ c b, v = .ref c ∧ SqT K H c [vN m.1, .ref b] ∧ SqT K H b (m.2.map vN) := by
  unfold kCh at h
  cases h with
  | @tup a xs _ h1 h2 =>
    cases h2 with
    | cons t1 t2 =>
      cases t2 with
      | cons t2 t3 =>
        cases t3
        cases t1
        obtain ⟨b, rfl, hb⟩ := tp_nums_at t2
        exact ⟨a, b, rfl, h1, hb⟩
theorem ch_mk {c b : Addr} {m : Ch} (h1 : SqT K H c [vN m.1, .ref b]) (h2 : SqT K H b (m.2.map vN)) : Tp K H (.ref c) (kCh m) := .tup h1 (.cons (.num _) (.cons (tp_nums h2) .nil))
theorem ch_depth (m : Ch) : (kCh m).depth ≤ 8 := by
  have : NestedKey.depthAll (m.2.map kN) ≤ 0 := depthAll_le fun k hk => by
    obtain ⟨n, _, rfl⟩ := List.mem_map.mp hk
    simp [NestedKey.depth]
  simp only [kCh, NestedKey.depth, NestedKey.depthAll]
  omega
end
theorem vN_eq {a b : Nat} : vN a = vN b ↔ a = b := ⟨fun h => by injection h with h; omega, fun h => by rw [h]⟩
theorem vN_at {ns : List Nat} {i : Nat} (h : i < ns.length) : (ns.map vN)[i]? = some (vN (at0 ns i)) := by
  rw [List.getElem?_map, List.getElem?_eq_getElem h]
  simp [at0, List.getElem?_eq_getElem h]
theorem flat_vN (ns : List Nat) : (ns.map vN).all flatV = true := by
  rw [List.all_eq_true]
  intro x hx
  obtain ⟨n, _, rfl⟩ := List.mem_map.mp hx
  rfl
theorem inV_vN (n : Nat) (ns : List Nat) : inV (vN n) (ns.map vN) = decide (n ∈ ns) := by
  unfold inV
  rw [Bool.eq_iff_iff, List.any_eq_true]
  simp only [List.mem_map, decide_eq_true_eq]
  constructor
  · rintro ⟨x, ⟨m, hm, rfl⟩, e⟩
    have e' : ((m : Int) == (n : Int)) = true := e
    have : m = n := by
      have : (m : Int) = n := by simpa using e'
      omega
    rw [← this]
    exact hm
  · intro h
    exact ⟨vN n, ⟨n, h, rfl⟩, by simp [eqV]⟩
section
variable {w : World} {K : PySem.W.Frag} {mg : Str → Option Value} {base : Heap}
def spLen (K : PySem.W.Frag) : Sp := fun vs H Q _ => ∃ v m, vs = [v] ∧ Tp K H v (kCh m) ∧ 1 ≤ m.1 ∧ m.1 ≤ 4 ∧ 1 ≤ m.2.length ∧ Q (vN (lenOf m)) H
theorem sc_length_of : FnScope ["chart"] ["chart"] (defScope s_length_of) := ⟨rfl, rfl, rfl, by decide +kernel, rfl, by decide +kernel, by decide +kernel⟩
theorem kp_length_of (T : Tx K mg base) : Kp w K mg base "length_of" 1 ["chart"] (spLen K) := by
  refine kp_of (d := d_length_of) (k := 0) T (by simp [fn]) (by decide +kernel) rfl rfl rfl rfl rfl sc_length_of (fun vs H Q E ⟨_, _, e, _⟩ => by rw [e]; rfl) (fun _ _ _ _ _ _ us hl => match us, hl with | [_], _ => rfl) fun Ar outer s H vs Q E hr hsp => ?_
  obtain ⟨v, m, rfl, hv, h1, h4, hc, hQ⟩ := hsp
  obtain ⟨c, b, rfl, hcs, hbs⟩ := ch_at hv
  refine ⟨_, pss_one (ps_ret (pe_op op_fdiv (pe_op op_sub (pe_callB call_len_seq (by rfl) (T.free "len") PySem.boot_len (pa1 (pe_ix ix_tup (pv 0) pe_int (fun _ _ => rfl)))) pe_int) (pe_ix ix_tup (pv 0) pe_int (fun _ _ => rfl)))), ?_⟩
  refine ⟨_, rfl, c, _, _, _, rfl, rfl, hcs, atI_nat (j := 1) rfl, b, _, rfl, .inr hbs, _, _, rfl, rfl, _, rfl, c, _, _, _, rfl, rfl, hcs, atI_nat (j := 0) rfl, _, _, rfl, rfl, ⟨by omega, by omega⟩, ?_⟩
  have e : (((m.2.map vN).length : Int) - 1) / (m.1 : Int) = ((lenOf m : Nat) : Int) := by
    unfold lenOf
    rw [List.length_map, Int.natCast_ediv, Int.natCast_sub hc]
    rfl
  dsimp only
  rw [e]
  exact hQ
def spHeld (K : PySem.W.Frag) : Sp := fun vs H Q _ => ∃ (b : Addr) (cs : List Nat) (l : Nat), vs = [.ref b, vN l] ∧ SqT K H b (cs.map vN) ∧ cs.length ≤ 100 ∧ NewL H Q (held cs l)
theorem sc_held : FnScope ["cells", "land", "cell", "one"] ["cells", "land"] (defScope s_held) := ⟨rfl, rfl, rfl, by decide +kernel, rfl, by decide +kernel, by decide +kernel⟩
theorem held_step (cs : List Nat) (l i : Nat) : (List.range (i + 1)).filter (fun i => at0 cs i == l) = (List.range i).filter (fun i => at0 cs i == l) ++ (if at0 cs i == l then [i] else []) := by
  rw [List.range_succ, List.filter_append]
  congr 1
  rw [List.filter_cons]
  split <;> simp
theorem kp_held (T : Tx K mg base) : Kp w K mg base "held" 1 ["cells", "land"] (spHeld K) := by
  refine kp_of (d := d_held) (k := 0) T (by simp [fn]) (by decide +kernel) rfl rfl rfl rfl rfl sc_held (fun vs H Q E ⟨_, _, _, e, _⟩ => by rw [e]; rfl) (fun _ _ _ _ _ _ us hl => match us, hl with | [_, _], _ => rfl) fun Ar outer s H vs Q E hr hsp => ?_
  obtain ⟨b, cs, l, rfl, hb, hn, hQ⟩ := hsp
  refine ⟨_, pss_one (ps_ret (pe_lc (own := [("cell", 2), ("one", 3)]) (g := gTup K 2 (gCons (gName 2) (gCons (gName 3) gNil))) rfl sc_held.nd (pi_enumT (by rfl) (T.free "enumerate") (pa1 (pv 0)))
      (blkOk_by (N := ["cells", "land", "cell", "one"]) (sc := defScope s_held) (by decide +kernel)) (fun _ _ _ _ _ => pg_tup rfl (pgs_cons (pg_name (i := 2) sc_held.nd rfl (Or.inl rfl) (.inr rfl)) (pgs_cons (pg_name (i := 3) sc_held.nd rfl (Or.inl rfl) (.inr rfl)) pgs_nil)))
      (fun _ _ _ _ _ => pts_one (pt_cmpR op_eq (pv 3) (pv 1) (nomark _))) (fun _ _ _ _ _ => pv 2))), ?_⟩
  refine ⟨_, rfl, b, _, rfl, hb, fun D hD => lc_enumT (xs := cs.map vN) (fun i H' => H' D = some (.lst (((List.range i).filter fun i => at0 cs i == l).map vN)) ∧ Gr H H') ⟨upd_same, Gr.new hD⟩ (fun i H' _ h => h.2.sqT hb) ?_ ?_⟩
  · rintro i x T H1 hx ⟨h1, h2⟩ hT
    have hi : i < cs.length := by
      have := (List.getElem?_eq_some_iff.mp hx).1
      simpa using this
    have ex : x = vN (at0 cs i) := by
      rw [vN_at hi] at hx
      exact (Option.some.inj hx).symm
    subst ex
    have hDT : D ≠ T := ne_of_none h1 hT
    refine ⟨T, _, rfl, .inl (.inl upd_same), rfl, _, _, rfl, _, _, rfl, rfl, rfl, _, rfl, _, rfl, rfl, _, rfl, ?_⟩
    have hl : ((List.range i).filter fun i => at0 cs i == l).length < sizeLine := by
      have := List.length_filter_le (fun i => at0 cs i == l) (List.range i)
      rw [List.length_range] at this
      rw [sizeLine_eq]
      omega
    refine ite2 (fun h => ?_) fun h => ?_
    · have h' : at0 cs i = l := vN_eq.mp (of_decide_eq_true h)
      refine ⟨_, rfl, _, by rw [upd_ne hDT]; exact h1, by simpa using hl, ?_, Gr.put (Gr.put h2 (h2.free hT)) hD⟩
      rw [upd_same, held_step, if_pos (by simp [h'])]
      simp
    · have h' : ¬ at0 cs i = l := fun e => h (decide_eq_true (vN_eq.mpr e))
      refine ⟨?_, Gr.put h2 (h2.free hT)⟩
      rw [upd_ne hDT, h1, held_step, if_neg (by simpa using h')]
      simp
  · rintro H1 ⟨h1, h2⟩
    refine hQ _ _ h2 hD ?_
    rw [h1]
    unfold held
    simp

/-! ### hangs -/
def spHangs (K : PySem.W.Frag) : Sp := fun vs H Q _ => ∃ (b q : Addr) (A L : Nat) (cs S : List Nat), vs = [vN A, .ref b, .ref q] ∧ SqT K H b (cs.map vN) ∧ cs.length = A * L + 1 ∧ 1 ≤ A ∧ A ≤ 4 ∧ (L = 1 ∨ L = 2 ∨ L = 3) ∧ SqL K H q (S.map vN) ∧ S.Pairwise (· < ·) ∧ (∀ x ∈ S, x ≤ A * L) ∧
  ∀ H', Gr H H' → Q (.bl (hangB L S)) H'
theorem sc_hangs : FnScope ["arms", "cells", "some", "length", "found", "rows", "more", "cell", "other"] ["arms", "cells", "some"] (defScope s_hangs) := ⟨rfl, rfl, rfl, by decide +kernel, rfl, by decide +kernel, by decide +kernel⟩
def hStep (S : List Nat) (st : List Nat × List Nat) (y : Nat) : List Nat × List Nat := if y ∈ S ∧ y ∉ st.1 then (st.1 ++ [y], st.2 ++ [y]) else st
theorem hStep_filter (S nb : List Nat) (st : List Nat × List Nat) : addNew (nb.filter fun y => decide (y ∈ S)) st = nb.foldl (hStep S) st := by
  unfold addNew
  rw [List.foldl_filter]
  congr 1
  funext st y
  unfold hStep
  by_cases h1 : y ∈ S <;> by_cases h2 : y ∈ st.1 <;> simp [h1, h2]
structure HGood (S : List Nat) (st : List Nat × List Nat) : Prop where
  nd : st.1.Nodup
  sub : ∀ x ∈ st.1, x ∈ S
  le : st.2.length ≤ st.1.length
theorem HGood.step {S : List Nat} {st : List Nat × List Nat} (g : HGood S st) (y : Nat) : HGood S (hStep S st y) := by
  unfold hStep
  split
  · rename_i h
    refine ⟨?_, fun x hx => ?_, ?_⟩
    · rw [List.nodup_append]
      exact ⟨g.nd, by simp, fun x hx z hz => by rw [List.mem_singleton.mp hz]; exact fun e => h.2 (e ▸ hx)⟩
    · rcases List.mem_append.mp hx with hx | hx
      · exact g.sub x hx
      · rw [List.mem_singleton.mp hx]; exact h.1
    · have := g.le
      simp only [List.length_append, List.length_singleton]
      omega
  · exact g
theorem HGood.fold {S : List Nat} (nb : List Nat) : ∀ {st : List Nat × List Nat}, HGood S st → HGood S (nb.foldl (hStep S) st) := by
  induction nb with
  | nil => exact fun g => g
  | cons y nb ih => exact fun g => ih (g.step y)
theorem HGood.few {S : List Nat} {st : List Nat × List Nat} (g : HGood S st) {n : Nat} (hb : ∀ x ∈ S, x ≤ n) : st.1.length ≤ n + 1 := by
  have := nodup_le (D := List.range (n + 1)) g.nd fun x hx => List.mem_range.mpr (Nat.lt_succ_of_le (hb x (g.sub x hx)))
  rwa [List.length_range] at this
theorem take_succ_foldl {α β : Type} (f : β → α → β) (b : β) (l : List α) (i : Nat) (x : α) (h : l[i]? = some x) : (l.take (i + 1)).foldl f b = f ((l.take i).foldl f b) x := by
  rw [List.take_add_one, h]
  simp
theorem kp_hangs (T : Tx K mg base) (Fn : Kp w K mg base "near" 1 ["arms", "length", "cell"] spNear) : Kp w K mg base "hangs" 2 ["arms", "cells", "some"] (spHangs K) := by
  refine kp_of (d := d_hangs) (k := 1) T (by simp [fn]) (by decide +kernel) rfl rfl rfl rfl rfl sc_hangs (fun vs H Q E ⟨_, _, _, _, _, _, e, _⟩ => by rw [e]; rfl) (fun _ _ _ _ _ _ us hl => match us, hl with | [_, _, _], _ => rfl) fun Ar outer s H vs Q E hr hsp => ?_
  obtain ⟨b, q, A, L, cs, S, rfl, hb, hn, hA, hA4, hL, hq, hS, hSb, hQ⟩ := hsp
  refine ⟨_, pss_cons (ps_if (pt_not (pt_truth (pv 2) (by intro _; rfl))) (pss_one (ps_ret pe_bl)) pss_nil)
    (pss_cons (ps_par3 (i := 3) (j := 4) (l := 5) rfl sc_hangs.nd rfl rfl rfl (by decide) (by decide) (by decide) rfl rfl rfl
      (pa_cons (pe_op op_fdiv (pe_op op_sub (pe_callB call_len_seq (by rfl) (T.free "len") PySem.boot_len (pa1 (pv 1))) pe_int) (pv 0)) (pa_cons (pe_lst (pa1 (pe_ix ix_list (pv 2) pe_int (fun _ _ => rfl)))) (pa1 (pe_lst (pa1 (pe_ix ix_list (pv 2) pe_int (fun _ _ => rfl))))))) rfl)
    (pss_cons (ps_while PassesOwn.never (pt_truth (pv 5) (by intro _; rfl))
      (pss_cons (ps_set (i := 6) sc_hangs.nd rfl (.inl rfl) (pe_lst pa_nil))
      (pss_cons (ps_for PassesOwn.never rfl (pi_list (pv 5)) (pg_name (i := 7) sc_hangs.nd rfl (.inl rfl))
        (pss_one (ps_for PassesOwn.never rfl (pi_list (pe_k Fn rfl hr (pa_cons (pv 0) (pa_cons (pv 3) (pa1 (pv 7)))))) (pg_name (i := 8) sc_hangs.nd rfl (.inl rfl))
          (pss_one (ps_if (PW.pt (pw_and (pt_cmpR op_in_seq (pv 8) (pv 2) rfl) (pw_and1 (pt_cmpR op_notIn_seq (pv 8) (pv 4) rfl))))
            (pss_cons (ps_expr (pe_bm PySem.F.plainAttrs_list PySem.F.slot_list_append PySem.F.type_list_append mt_append (pv 4) (pa1 (pv 8))))
            (pss_one (ps_expr (pe_bm PySem.F.plainAttrs_list PySem.F.slot_list_append PySem.F.type_list_append mt_append (pv 6) (pa1 (pv 8))))))
            pss_nil)))))
      (pss_one (ps_set (i := 5) sc_hangs.nd rfl (.inl rfl) (pv 6))))))
    (pss_one (ps_ret (pe_cmpR op_eq (pe_callB call_len_seq (by rfl) (T.free "len") PySem.boot_len (pa1 (pv 4))) (pe_callB call_len_seq (by rfl) (T.free "len") PySem.boot_len (pa1 (pv 2))) (nomark _)))))), ?_⟩
  refine ⟨_, rfl, _, .inl ⟨_, hq, rfl⟩, ?_⟩
  cases S with
  | nil => exact iteT (hQ H (Gr.refl H))
  | cons h t =>
  refine iteF' rfl ?_
  have e0 : atI ((h :: t).map vN) 0 = some (vN h) := atI_nat (j := 0) rfl
  refine ⟨_, rfl, b, _, rfl, .inr hb, _, _, rfl, rfl, _, rfl, _, _, rfl, rfl, ⟨by omega, by omega⟩, ?_⟩
  have eL : (((cs.map vN).length : Int) - 1) / (A : Int) = (L : Int) := by
    rw [List.length_map, hn]
    have : ((A * L + 1 : Nat) : Int) - 1 = (A : Int) * (L : Int) := by push_cast; omega
    rw [this]
    exact Int.mul_ediv_cancel_left _ (by omega)
  dsimp only
  rw [eL]
  refine ⟨_, rfl, q, _, _, _, rfl, rfl, hq, e0, by show 1 ≤ sizeLine; rw [sizeLine_eq]; omega, fun f hf => ?_⟩
  refine ⟨_, rfl, q, _, _, _, rfl, rfl, (Gr.new hf).sqL hq, e0, by show 1 ≤ sizeLine; rw [sizeLine_eq]; omega, fun r hr' => ?_⟩
  have hfr : f ≠ r := ne_of_none upd_same hr'
  have hrn : H r = none := (Gr.new hf).free hr'
  refine ⟨_, _, _, rfl, ?_⟩
  have hAL : A * L ≤ 12 := by rcases hL with rfl | rfl | rfl <;> omega
  refine ⟨fun m σ H1 => ∃ found rows r x6 x7 x8, σ = [some (vN A), some (.ref b), some (.ref q), some (vN L), some (.ref f), some (.ref r), x6, x7, x8] ∧ Gr H H1 ∧ H1 f = some (.lst (found.map vN)) ∧ H1 r = some (.lst (rows.map vN)) ∧ f ≠ r ∧ H r = none ∧
      BInv (fun c => (near A L c).filter fun y => decide (y ∈ h :: t)) [h] found rows ∧ (∀ x ∈ found, x ∈ h :: t) ∧ m = bfsM (h :: t).length found rows,
    ⟨_, [h], [h], r, _, _, _, rfl, Gr.put (Gr.new hf) hrn, by rw [upd_ne hfr, upd_same]; rfl, by rw [upd_same]; rfl, hfr, hrn, bfs_start (by simp), fun x hx => by rw [List.mem_singleton.mp hx]; exact List.mem_cons_self, rfl⟩, ?_⟩
  rintro m σ H1 ⟨found, rows, r, x6, x7, x8, rfl, g1, h1f, h1r, hfr, hrn, BI, hsub, rfl⟩
  refine ⟨_, rfl, _, .inl ⟨_, SqL.of h1r, rfl⟩, ?_⟩
  cases rows with
  | nil =>
    refine iteF' rfl ?_
    refine ⟨_, rfl, f, _, rfl, .inl (SqL.of h1f), _, rfl, q, _, rfl, .inl (g1.sqL hq), rfl, ?_⟩
    have e := hang_bfs hA hL hS hSb BI
    have e2 : decide (V.int ((found.map vN).length : Int) = V.int (((h :: t).map vN).length : Int)) = hangB L (h :: t) := by
      rw [← e, List.length_map, List.length_map]
      exact decide_eq_decide.mpr vN_eq
    dsimp only
    rw [e2]
    exact hQ _ g1
  | cons z zs =>
    refine iteT' rfl ?_
    generalize hrows : z :: zs = rows at h1r BI
    have hrne : rows ≠ [] := by rw [← hrows]; simp
    refine ⟨fun σ' H' => ∃ m', m' < bfsM (h :: t).length found rows ∧ ∃ found rows r x6 x7 x8, σ' = [some (vN A), some (.ref b), some (.ref q), some (vN L), some (.ref f), some (.ref r), x6, x7, x8] ∧ Gr H H' ∧ H' f = some (.lst (found.map vN)) ∧ H' r = some (.lst (rows.map vN)) ∧ f ≠ r ∧ H r = none ∧
      BInv (fun c => (near A L c).filter fun y => decide (y ∈ h :: t)) [h] found rows ∧ (∀ x ∈ found, x ∈ h :: t) ∧ m' = bfsM (h :: t).length found rows, fun σ' H' hh => hh, ?_⟩
    refine ⟨by show 0 ≤ sizeLine; exact Nat.zero_le _, fun mo hmo => ?_⟩
    have hfm : f ≠ mo := ne_of_none h1f hmo
    have hrm : r ≠ mo := ne_of_none h1r hmo
    have hmn : H mo = none := g1.free hmo
    have g0 : HGood (h :: t) (found, []) := ⟨BI.nd, hsub, Nat.zero_le _⟩
    refine ⟨_, rfl, r, rfl, ⟨_, SqL.of (by rw [upd_ne hrm]; exact h1r)⟩, for_list (xs := rows.map vN) (fun i σ' H' => ∃ x7 x8, σ' = [some (vN A), some (.ref b), some (.ref q), some (vN L), some (.ref f), some (.ref r), some (.ref mo), x7, x8] ∧ Gr H H' ∧
        H' f = some (.lst (((rows.take i).foldl (fun st x => addNew ((near A L x).filter fun y => decide (y ∈ h :: t)) st) (found, [])).1.map vN)) ∧ H' mo = some (.lst (((rows.take i).foldl (fun st x => addNew ((near A L x).filter fun y => decide (y ∈ h :: t)) st) (found, [])).2.map vN)) ∧
        H' r = some (.lst (rows.map vN)) ∧ HGood (h :: t) ((rows.take i).foldl (fun st x => addNew ((near A L x).filter fun y => decide (y ∈ h :: t)) st) (found, [])))
      ⟨_, _, rfl, Gr.put g1 hmn, by rw [upd_ne hfm]; exact h1f, by rw [upd_same]; rfl, by rw [upd_ne hrm]; exact h1r, g0⟩ (fun i σ' H' _ ⟨_, _, _, _, _, _, e, _⟩ => SqL.of e) ?_ ?_⟩
    · rintro i x σ' H2 hx ⟨x7, x8, rfl, g2, h2f, h2m, h2r, gi⟩
      have hi : i < rows.length := by
        have := (List.getElem?_eq_some_iff.mp hx).1
        simpa using this
      obtain ⟨c, hc⟩ : ∃ c, rows[i]? = some c := ⟨rows[i], List.getElem?_eq_getElem hi⟩
      have ex : x = vN c := by
        rw [List.getElem?_map, hc] at hx
        exact (Option.some.inj hx).symm
      subst ex
      have hcS : c ≤ A * L := hSb c (hsub c (BI.sub c (List.mem_of_getElem? hc)))
      have et := take_succ_foldl (fun (st : List Nat × List Nat) x => addNew ((near A L x).filter fun y => decide (y ∈ h :: t)) st) (found, []) rows i c hc
      generalize (rows.take i).foldl (fun st x => addNew ((near A L x).filter fun y => decide (y ∈ h :: t)) st) (found, []) = st at h2f h2m gi et
      rw [et]
      rw [hStep_filter]
      refine ⟨_, rfl, _, rfl, _, rfl, A, L, c, rfl, hA4, by omega, by omega, by omega, fun H3 p g3 hp h3p => ?_⟩
      have hfp : f ≠ p := ne_of_none h2f hp
      have hmp : mo ≠ p := ne_of_none h2m hp
      have hrp : r ≠ p := ne_of_none h2r hp
      refine ⟨p, rfl, ⟨_, SqL.of h3p⟩, for_list (xs := (near A L c).map vN) (fun j σ' H' => ∃ x8, σ' = [some (vN A), some (.ref b), some (.ref q), some (vN L), some (.ref f), some (.ref r), some (.ref mo), some (vN c), x8] ∧ Gr H H' ∧
          H' f = some (.lst ((((near A L c).take j).foldl (hStep (h :: t)) st).1.map vN)) ∧ H' mo = some (.lst ((((near A L c).take j).foldl (hStep (h :: t)) st).2.map vN)) ∧
          H' r = some (.lst (rows.map vN)) ∧ H' p = some (.lst ((near A L c).map vN)) ∧ HGood (h :: t) (((near A L c).take j).foldl (hStep (h :: t)) st))
        ⟨_, rfl, g2.trans g3, g3.lst h2f, g3.lst h2m, g3.lst h2r, h3p, gi⟩ (fun i σ' H' _ ⟨_, _, _, _, _, _, e, _⟩ => SqL.of e) ?_ ?_⟩
      · rintro j x σ' H4 hx ⟨x8, rfl, g4, h4f, h4m, h4r, h4p, gj⟩
        have hj : j < (near A L c).length := by
          have := (List.getElem?_eq_some_iff.mp hx).1
          simpa using this
        obtain ⟨y, hy⟩ : ∃ y, (near A L c)[j]? = some y := ⟨(near A L c)[j], List.getElem?_eq_getElem hj⟩
        have ex : x = vN y := by
          rw [List.getElem?_map, hy] at hx
          exact (Option.some.inj hx).symm
        subst ex
        have et := take_succ_foldl (hStep (h :: t)) st (near A L c) j y hy
        generalize ((near A L c).take j).foldl (hStep (h :: t)) st = sj at h4f h4m gj et
        rw [et]
        have gj' := gj.step y
        have len := gj.few hSb
        have len2 := gj.le
        refine ⟨_, rfl, _, rfl, q, _, rfl, .inl (g4.sqL hq), rfl, flat_vN _, _, rfl, ?_⟩
        have ein : (if false = true then !inV (vN y) ((h :: t).map vN) else inV (vN y) ((h :: t).map vN)) = decide (y ∈ h :: t) := by
          rw [if_neg Bool.false_ne_true, inV_vN]
        rw [ein]
        by_cases h1 : y ∈ h :: t
        · refine iteT' (decide_eq_true h1) ⟨_, rfl, _, rfl, f, _, rfl, .inl (SqL.of h4f), rfl, flat_vN _, _, rfl, ?_⟩
          have ein2 : (if true = true then !inV (vN y) (sj.1.map vN) else inV (vN y) (sj.1.map vN)) = !decide (y ∈ sj.1) := by
            rw [if_pos rfl, inV_vN]
          rw [ein2]
          by_cases h2 : y ∈ sj.1
          · refine iteF' (by simp [h2]) ?_
            have es : hStep (h :: t) sj y = sj := by unfold hStep; rw [if_neg (fun z => z.2 h2)]
            rw [es]
            exact ⟨_, rfl, g4, h4f, h4m, h4r, h4p, gj⟩
          · refine iteT' (by simp [h2]) ?_
            have es : hStep (h :: t) sj y = (sj.1 ++ [y], sj.2 ++ [y]) := by unfold hStep; rw [if_pos ⟨h1, h2⟩]
            rw [es] at gj' ⊢
            refine ⟨_, rfl, .inl ⟨rfl, _, SqL.of h4f⟩, _, rfl, f, _, _, rfl, rfl, h4f, by rw [List.length_map, sizeLine_eq]; omega, ?_⟩
            refine ⟨_, rfl, .inl ⟨rfl, _, SqL.of (by rw [upd_ne (Ne.symm hfm)]; exact h4m)⟩, _, rfl, mo, _, _, rfl, rfl, by rw [upd_ne (Ne.symm hfm)]; exact h4m, by rw [List.length_map, sizeLine_eq]; omega, ?_⟩
            refine ⟨_, rfl, Gr.put (Gr.put g4 hf) hmn, ?_, ?_, ?_, ?_, gj'⟩
            · rw [upd_ne hfm, upd_same]; simp
            · rw [upd_same]; simp
            · rw [upd_ne hrm, upd_ne (Ne.symm hfr)]; exact h4r
            · rw [upd_ne (Ne.symm hmp), upd_ne (Ne.symm hfp)]; exact h4p
        · refine iteF' (decide_eq_false h1) ?_
          have es : hStep (h :: t) sj y = sj := by unfold hStep; rw [if_neg (fun z => h1 z.1)]
          rw [es]
          exact iteF' rfl ⟨_, rfl, g4, h4f, h4m, h4r, h4p, gj⟩
      · rintro σ' H4 ⟨x8, rfl, g4, h4f, h4m, h4r, h4p, gj⟩
        rw [List.length_map, List.take_length] at h4f h4m gj
        exact ⟨_, _, rfl, g4, h4f, h4m, h4r, gj⟩
    · rintro σ' H2 ⟨x7, x8, rfl, g2, h2f, h2m, h2r, gi⟩
      rw [List.length_map, List.take_length] at h2f h2m gi
      obtain ⟨ext, e1, BI2⟩ := bfs_turn BI
      unfold bfsTurn at e1
      rw [e1] at h2f h2m gi
      have hle : (found ++ ext).length ≤ (h :: t).length := nodup_le gi.nd gi.sub
      exact ⟨_, rfl, _, bfsM_lt hrne hle, found ++ ext, ext, mo, _, _, _, rfl, g2, h2f, h2m, hfm, hmn, BI2, gi.sub, rfl⟩
end
end SL
end

section
set_option Elab.async false
set_option linter.all false
set_option maxRecDepth 100000
set_option maxHeartbeats 4000000
/-! walks: lands_of, outward, order_on, all_orders -/
namespace SL
open PySem PySem.Spec PyProof.Rows L2
/-! ### lists of keys that grow -/
section
variable {K : PySem.W.Frag} {H H1 H4 : Hp} {D : Addr} {ks : List NK} {k : NK} {y : V}
def LcK (K : PySem.W.Frag) (D : Addr) (H : Hp) (ks : List NK) (H' : Hp) : Prop := ∃ xs, H' D = some (.lst xs) ∧ TpAll K H' xs ks ∧ Gr H H'
theorem tps_but {p : Addr} {vs : List V} {ks : List NK} (hb : ∀ b, b ≠ p → H1 b = H b) (ht : ∀ xs, ¬ Rd H p (.tup xs)) (t : TpAll K H vs ks) : TpAll K H1 vs ks :=
  TpAll.mono (fun a xs z => by
    rcases z with z | z
    · have ha : a ≠ p := fun ea => ht xs (ea ▸ z)
      rcases z with z | ⟨o, z⟩
      · exact .inl (.inl (by rw [hb a ha]; exact z))
      · exact .inl (.inr ⟨o, by rw [hb a ha]; exact z⟩)
    · exact .inr z) ks vs t
theorem LcK.start (hD : H D = none) : LcK K D H [] (upd H D (.lst [])) := ⟨[], upd_same, .nil, Gr.new hD⟩
theorem LcK.put (h : LcK K D H ks H1) (g : Gr H1 H4) (t : Tp K H4 y k) (hD : H D = none) : ∃ xs, H4 D = some (.lst xs) ∧ xs.length = ks.length ∧ LcK K D H (ks ++ [k]) (upd H4 D (.lst (xs ++ [y]))) := by
  obtain ⟨xs, e, tx, g1⟩ := h
  have e4 := g.lst e
  refine ⟨xs, e4, tx.length, xs ++ [y], upd_same, ?_, Gr.put (g1.trans g) hD⟩
  exact tps_but (fun b hb => upd_ne hb) (not_tup_lst e4) ((g.tps tx).append (.cons t .nil))
theorem LcK.step (h : LcK K D H ks H1) (g : Gr H1 H4) : LcK K D H ks H4 := by
  obtain ⟨xs, e, tx, g1⟩ := h
  exact ⟨xs, g.lst e, g.tps tx, g1.trans g⟩
theorem LcK.gr (h : LcK K D H ks H1) : Gr H H1 := by
  obtain ⟨_, _, _, g⟩ := h
  exact g
end
def NewK (K : PySem.W.Frag) (H : Hp) (Q : VK) (k : NK) : Prop := ∀ H' p, Gr H H' → Tp K H' (.ref p) k → Q (.ref p) H'
/-- a new list of keys -/
def NewLK (K : PySem.W.Frag) (H : Hp) (Q : VK) (ks : List NK) : Prop := ∀ H' p xs, Gr H H' → H p = none → H' p = some (.lst xs) → TpAll K H' xs ks → Q (.ref p) H'
theorem NewLK.of {K : PySem.W.Frag} {H : Hp} {Q : VK} {ks : List NK} {D : Addr} {H' : Hp} (q : NewLK K H Q ks) (hD : H D = none) (h : LcK K D H ks H') : Q (.ref D) H' := by
  obtain ⟨xs, e, t, g⟩ := h
  exact q H' D xs g hD e t

/-! ### max of numbers -/
theorem maxL_ge (cs : List Nat) : ∀ a, a ≤ cs.foldl max a ∧ ∀ x ∈ cs, x ≤ cs.foldl max a := by
  induction cs with
  | nil => intro a; exact ⟨Nat.le_refl _, fun x hx => (by cases hx)⟩
  | cons c cs ih =>
    intro a
    obtain ⟨h1, h2⟩ := ih (max a c)
    refine ⟨Nat.le_trans (Nat.le_max_left a c) h1, fun x hx => ?_⟩
    rcases List.mem_cons.mp hx with e | hx
    · rw [e]; exact Nat.le_trans (Nat.le_max_right a c) h1
    · exact h2 x hx
theorem maxL_mem (cs : List Nat) : ∀ a, cs.foldl max a = a ∨ cs.foldl max a ∈ cs := by
  induction cs with
  | nil => intro a; exact .inl rfl
  | cons c cs ih =>
    intro a
    rcases ih (max a c) with h | h
    · rw [List.foldl_cons, h]
      rcases Nat.le_total a c with z | z
      · right; rw [Nat.max_eq_right z]; exact List.mem_cons_self
      · left; rw [Nat.max_eq_left z]
    · right; exact List.mem_cons_of_mem _ h
theorem maxL_of {cs : List Nat} {m : Nat} (h : m ∈ cs) (hm : ∀ y ∈ cs, y ≤ m) : maxL cs = m := by
  unfold maxL
  have h1 := (maxL_ge cs 0).2 m h
  rcases maxL_mem cs 0 with e | e
  · omega
  · have := hm _ e
    omega
theorem maxL_in {cs : List Nat} (h : cs ≠ []) : maxL cs ∈ cs := by
  unfold maxL
  rcases maxL_mem cs 0 with e | e
  · cases cs with
    | nil => exact absurd rfl h
    | cons c cs =>
      have := (maxL_ge (c :: cs) 0).2 c List.mem_cons_self
      rw [e] at this ⊢
      have : c = 0 := by omega
      rw [this]; exact List.mem_cons_self
  · exact e
theorem le_maxL {cs : List Nat} {x : Nat} (h : x ∈ cs) : x ≤ maxL cs := (maxL_ge cs 0).2 x h
section
variable {X : Cx}
def rMaxNs (K : PySem.W.Frag) : List V → Hp → VK → Prop := fun xs H Q => ∃ (l : Addr) (ns : List Nat), xs = [V.ref l] ∧ (SqL K H l (ns.map vN) ∨ SqT K H l (ns.map vN)) ∧ ns ≠ [] ∧ Q (vN (maxL ns)) H
theorem tps_nums {K : PySem.W.Frag} {H : Hp} (ns : List Nat) : TpAll K H (ns.map vN) (ns.map kN) := by
  have := TpAll.ints (K := K) (H := H) (ns.map fun n : Nat => (n : Int))
  simpa [List.map_map, Function.comp_def] using this
theorem cr_maxNs (hc : X.calm = true) (hu : X.A.units + 16 < cLine) : CallR X (.builtin "max") (rMaxNs X.K) := by
  intro pins s σ H xs us Q I r h
  obtain ⟨l, ns, rfl, hl, hne, q⟩ := h
  refine cr_maxN hc hu pins s σ H _ us Q I r ?_
  cases ns with
  | nil => exact absurd rfl hne
  | cons n ns =>
    refine ⟨l, (n :: ns).map vN, kN n, ns.map kN, rfl, hl, tps_nums (n :: ns), ?_, fun k hk => ?_, fun v k hv hk tk hz => ?_⟩
    · have e : kN n :: ns.map kN = ((n :: ns).map fun m : Nat => (m : Int)).map NestedKey.num := by simp [List.map_map, Function.comp_def]
      rw [e]
      exact alike_nums _
    · obtain ⟨m, _, rfl⟩ := List.mem_map.mp (show k ∈ (n :: ns).map kN from hk)
      simp [NestedKey.depth]
    · obtain ⟨m, hm, rfl⟩ := List.mem_map.mp hv
      cases tk
      have e : maxL (n :: ns) = m := maxL_of hm fun y hy => by
        have := leK_num.mp (hz (kN y) (List.mem_map.mpr ⟨y, hy, rfl⟩))
        omega
      rw [e] at q
      exact q
end
theorem units16 {k : Nat} {A : Around} (r : Room k A) : A.units + 16 < cLine := by have := r.un; omega
theorem units9 {k : Nat} {A : Around} (r : Room k A) : A.units + 9 < cLine := by have := r.un; omega
theorem units64 {k : Nat} {A : Around} (r : Room k A) : A.units + 64 < cLine := by have := r.un; omega
theorem units65 {k : Nat} {A : Around} (r : Room k A) : A.units + 65 < cLine := by have := r.un; omega

section
variable {w : World} {K : PySem.W.Frag} {mg : Str → Option Value} {base : Heap}
def spLands (K : PySem.W.Frag) : Sp := fun vs H Q _ => ∃ v m, vs = [v] ∧ Tp K H v (kCh m) ∧ m.2 ≠ [] ∧ Q (vN (landsOf m)) H
theorem sc_lands_of : FnScope ["chart"] ["chart"] (defScope s_lands_of) := ⟨rfl, rfl, rfl, by decide +kernel, rfl, by decide +kernel, by decide +kernel⟩
theorem kp_lands_of (T : Tx K mg base) : Kp w K mg base "lands_of" 1 ["chart"] (spLands K) := by
  refine kp_of (d := d_lands_of) (k := 0) T (by simp [fn]) (by decide +kernel) rfl rfl rfl rfl rfl sc_lands_of (fun vs H Q E ⟨_, _, e, _⟩ => by rw [e]; rfl) (fun _ _ _ _ _ _ us hl => match us, hl with | [_], _ => rfl) fun Ar outer s H vs Q E hr hsp => ?_
  obtain ⟨v, m, rfl, hv, hne, hQ⟩ := hsp
  obtain ⟨c, b, rfl, hcs, hbs⟩ := ch_at hv
  refine ⟨_, pss_one (ps_ret (pe_op op_add (pe_callB (cr_maxNs rfl (units16 hr)) (by rfl) (T.free "max") (by decide +kernel) (pa1 (pe_ix ix_tup (pv 0) pe_int (fun _ _ => rfl)))) pe_int)), ?_⟩
  exact ⟨_, rfl, c, _, _, _, rfl, rfl, hcs, atI_nat (j := 1) rfl, b, m.2, rfl, .inr hbs, hne, _, _, rfl, rfl, hQ⟩
def spOutw (K : PySem.W.Frag) : Sp := fun vs H Q _ => ∃ v m A L a, vs = [v, vN a] ∧ Tp K H v (kCh m) ∧ Shp A L m ∧ a < A ∧ NewL H Q (outw m a)
theorem sc_outward : FnScope ["chart", "arm", "length"] ["chart", "arm"] (defScope s_outward) := ⟨rfl, rfl, rfl, by decide +kernel, rfl, by decide +kernel, by decide +kernel⟩
theorem cut_outw {A L a : Nat} {m : Ch} (h : Shp A L m) (ha : a < A) : cutV (m.2.map vN) (some (1 + (a : Int) * (L : Int))) (some (1 + ((a : Int) + 1) * (L : Int))) = (outw m a).map vN := by
  have e1 : (1 + (a : Int) * (L : Int)) = ((1 + a * L : Nat) : Int) := by push_cast; rfl
  have e2 : (1 + ((a : Int) + 1) * (L : Int)) = ((1 + (a + 1) * L : Nat) : Int) := by push_cast; rfl
  have hle : (a + 1) * L ≤ A * L := Nat.mul_le_mul_right _ ha
  have hl := h.size
  have h3 : (a + 1) * L = a * L + L := Nat.succ_mul a L
  unfold cutV outw
  rw [e1, e2, HT.sIx_nat, HT.sIx_nat, List.length_map, h.lenOf, hl, Nat.min_eq_left (by omega), Nat.min_eq_left (by omega), ← List.map_drop, ← List.map_take]
  congr 2
  omega
theorem kp_outward (T : Tx K mg base) (Fl : Kp w K mg base "length_of" 1 ["chart"] (spLen K)) : Kp w K mg base "outward" 2 ["chart", "arm"] (spOutw K) := by
  refine kp_of (d := d_outward) (k := 1) T (by simp [fn]) (by decide +kernel) rfl rfl rfl rfl rfl sc_outward (fun vs H Q E ⟨_, _, _, _, _, e, _⟩ => by rw [e]; rfl) (fun _ _ _ _ _ _ us hl => match us, hl with | [_, _], _ => rfl) fun Ar outer s H vs Q E hr hsp => ?_
  obtain ⟨v, m, A, L, a, rfl, hv, hm, ha, hQ⟩ := hsp
  have hv' := hv
  obtain ⟨c, b, rfl, hcs, hbs⟩ := ch_at hv
  have hA := hm.a3
  have hA4 := hm.a4
  have hL : 1 ≤ L ∧ L ≤ 3 := by rcases hm.len with e | e | e <;> omega
  refine ⟨_, pss_cons (ps_set (i := 2) sc_outward.nd rfl (.inl rfl) (pe_k Fl rfl hr (pa1 (pv 0))))
    (pss_one (ps_ret (pe_callTy call_listS (by rfl) (T.free "list") (by decide +kernel) (pa1 (pe_slice sl_tupA (pe_ix ix_tup (pv 0) pe_int (fun _ _ => rfl))
      (po_some (pe_op op_add pe_int (pe_op op_mul (pv 1) (pv 2)))) (po_some (pe_op op_add pe_int (pe_op op_mul (pe_op op_add (pv 1) pe_int) (pv 2))))))))), ?_⟩
  refine ⟨_, rfl, _, m, rfl, hv', by have := hm.arms; omega, by have := hm.arms; omega, by have := hm.size; omega, ?_⟩
  rw [hm.lenOf]
  refine ⟨_, rfl, c, _, _, _, rfl, rfl, hcs, atI_nat (j := 1) rfl, _, rfl, _, rfl, _, _, rfl, rfl, .inr ⟨by omega, by omega⟩, _, _, rfl, rfl, _, rfl, ?_⟩
  refine ⟨_, rfl, _, _, rfl, rfl, _, rfl, _, _, rfl, rfl, .inr ⟨by omega, by omega⟩, _, _, rfl, rfl, _, rfl, b, _, rfl, hbs, fun hw => ?_, fun _ p hp => ?_⟩
  · exfalso
    have h1 := hw.1
    have e1 : (1 + (a : Int) * (L : Int)) = ((1 + a * L : Nat) : Int) := by push_cast; rfl
    rw [e1, HT.sIx_nat, List.length_map, hm.size] at h1
    omega
  · refine ⟨p, _, rfl, .inr (.inl (.inl upd_same)), fun q hq => ?_⟩
    refine hQ _ _ (Gr.put (Gr.new hp) ((Gr.new hp).free hq)) ((Gr.new hp).free hq) ?_
    rw [upd_same]
    exact congrArg (fun z => some (HO.lst z)) (cut_outw hm ha)
end
end SL
end

section
set_option Elab.async false
set_option linter.all false
set_option maxRecDepth 100000
set_option maxHeartbeats 4000000
/-! walks: order_on, all_orders, tips, bare_of, freezes, key_of -/
namespace SL
open PySem PySem.Spec PyProof.Rows L2
/-- the code objects' tables stand -/
def Tabs (K : PySem.W.Frag) (H : Hp) : Prop := ∀ p ∈ cs K, GxR.TabG H p.2
theorem Tabs.gr {K : PySem.W.Frag} {H H' : Hp} (t : Tabs K H) (g : Gr H H') : Tabs K H' := fun p hp => g.tabG (t p hp)
section
variable {w : World} {K : PySem.W.Frag} {mg : Str → Option Value} {base : Heap}
def spOrd (K : PySem.W.Frag) : Sp := fun vs H Q _ => ∃ v m A L a, vs = [v, vN a] ∧ Tp K H v (kCh m) ∧ Shp A L m ∧ a < A ∧ NewK K H Q (kNs (orderOn m a))
theorem sc_order_on : FnScope ["chart", "arm", "found", "land"] ["chart", "arm"] (defScope s_order_on) := ⟨rfl, rfl, rfl, by decide +kernel, rfl, by decide +kernel, by decide +kernel⟩
theorem ordFold_le (h : Nat) (l : List Nat) : ∀ acc : List Nat, (l.foldl (ordStep h) acc).length ≤ acc.length + l.length := by
  induction l with
  | nil => intro acc; simp
  | cons x l ih =>
    intro acc
    rw [List.foldl_cons]
    have h1 := ih (ordStep h acc x)
    have h2 : (ordStep h acc x).length ≤ acc.length + 1 := by
      unfold ordStep
      split <;> simp
    rw [List.length_cons]
    omega
theorem kp_order_on (T : Tx K mg base) (Fo : Kp w K mg base "outward" 2 ["chart", "arm"] (spOutw K)) : Kp w K mg base "order_on" 3 ["chart", "arm"] (spOrd K) := by
  refine kp_of (d := d_order_on) (k := 2) T (by simp [fn]) (by decide +kernel) rfl rfl rfl rfl rfl sc_order_on (fun vs H Q E ⟨_, _, _, _, _, e, _⟩ => by rw [e]; rfl) (fun _ _ _ _ _ _ us hl => match us, hl with | [_, _], _ => rfl) fun Ar outer s H vs Q E hr hsp => ?_
  obtain ⟨v, m, A, L, a, rfl, hv, hm, ha, hQ⟩ := hsp
  have hv' := hv
  obtain ⟨c, b, rfl, hcs, hbs⟩ := ch_at hv
  have hsz : 0 < m.2.length := by have := hm.size; omega
  refine ⟨_, pss_cons (ps_set (i := 2) sc_order_on.nd rfl (.inl rfl) (pe_lst pa_nil))
    (pss_cons (ps_for PassesOwn.never rfl (pi_list (pe_k Fo rfl hr (pa_cons (pv 0) (pa1 (pv 1))))) (pg_name (i := 3) sc_order_on.nd rfl (.inl rfl))
      (pss_one (ps_if (PW.pt (pw_and (pt_cmpR op_ne (pv 3) (pe_ix ix_tup (pe_ix ix_tup (pv 0) pe_int (fun _ _ => rfl)) pe_int (fun _ _ => rfl)) (nomark _)) (pw_and1 (pt_cmpR op_notIn_seq (pv 3) (pv 2) rfl))))
        (pss_one (ps_expr (pe_bm PySem.F.plainAttrs_list PySem.F.slot_list_append PySem.F.type_list_append mt_append (pv 2) (pa1 (pv 3))))) pss_nil)))
    (pss_one (ps_ret (pe_tupleOf (by rfl) (T.free "tuple") (pv 2))))), ?_⟩
  refine ⟨by show 0 ≤ sizeLine; exact Nat.zero_le _, fun f hf => ?_⟩
  have hin := (Gr.new (o := .lst []) hf)
  refine ⟨_, rfl, _, rfl, _, m, A, L, a, rfl, hin.tp hv', hm, ha, fun H2 p g2 hp h2p => ?_⟩
  have hfp : f ≠ p := ne_of_none upd_same hp
  have hpn : H p = none := hin.free hp
  refine ⟨p, rfl, ⟨_, SqL.of h2p⟩, for_list (xs := (outw m a).map vN) (fun i σ' H' => ∃ x3, σ' = [some (.ref c), some (vN a), some (.ref f), x3] ∧ Gr H H' ∧ H' f = some (.lst ((((outw m a).take i).foldl (ordStep (hubOf m)) []).map vN)) ∧ H' p = some (.lst ((outw m a).map vN)))
    ⟨_, rfl, Gr.trans hin g2, by rw [g2.lst upd_same]; rfl, h2p⟩ (fun i σ' H' _ ⟨_, _, _, _, e⟩ => SqL.of e) ?_ ?_⟩
  · rintro i x σ' H3 hx ⟨x3, rfl, g3, h3f, h3p⟩
    have hi : i < (outw m a).length := by
      have := (List.getElem?_eq_some_iff.mp hx).1
      simpa using this
    obtain ⟨y, hy⟩ : ∃ y, (outw m a)[i]? = some y := ⟨(outw m a)[i], List.getElem?_eq_getElem hi⟩
    have ex : x = vN y := by
      rw [List.getElem?_map, hy] at hx
      exact (Option.some.inj hx).symm
    subst ex
    have et := take_succ_foldl (ordStep (hubOf m)) [] (outw m a) i y hy
    have hlen := ordFold_le (hubOf m) ((outw m a).take i) []
    rw [List.length_take] at hlen
    generalize ((outw m a).take i).foldl (ordStep (hubOf m)) [] = acc at h3f et hlen
    rw [et]
    have hlo : (outw m a).length ≤ 13 := by
      have := hm.size
      unfold outw
      rw [List.length_take, hm.lenOf]
      rcases hm.len with e | e | e <;> omega
    refine ⟨_, rfl, _, rfl, c, _, _, _, rfl, rfl, g3.sqT hcs, atI_nat (j := 1) rfl, b, _, _, _, rfl, rfl, g3.sqT hbs, atI_nat (j := 0) (vN_at hsz), rfl, _, rfl, ?_⟩
    by_cases h1 : y = hubOf m
    · refine iteF' (by show (!decide (vN y = vN (at0 m.2 0))) = false; rw [h1]; simp [hubOf]) ?_
      have es : ordStep (hubOf m) acc y = acc := by unfold ordStep; rw [if_neg (fun z => z.1 h1)]
      rw [es]
      exact iteF' rfl ⟨_, rfl, g3, h3f, h3p⟩
    · refine iteT' (by show (!decide (vN y = vN (at0 m.2 0))) = true; rw [decide_eq_false (fun e : vN y = vN (at0 m.2 0) => h1 (vN_eq.mp e))]; rfl) ⟨_, rfl, _, rfl, f, _, rfl, .inl (SqL.of h3f), rfl, flat_vN _, _, rfl, ?_⟩
      have ein2 : (if true = true then !inV (vN y) (acc.map vN) else inV (vN y) (acc.map vN)) = !decide (y ∈ acc) := by
        rw [if_pos rfl, inV_vN]
      rw [ein2]
      by_cases h2 : y ∈ acc
      · have es : ordStep (hubOf m) acc y = acc := by unfold ordStep; rw [if_neg (fun z => z.2 h2)]
        rw [es]
        exact iteF' (by simp [h2]) ⟨_, rfl, g3, h3f, h3p⟩
      · have es : ordStep (hubOf m) acc y = acc ++ [y] := by unfold ordStep; rw [if_pos ⟨h1, h2⟩]
        rw [es]
        refine iteT' (by simp [h2]) ⟨_, rfl, .inl ⟨rfl, _, SqL.of h3f⟩, _, rfl, f, _, _, rfl, rfl, h3f, by rw [List.length_map, sizeLine_eq]; simp at hlen; omega, ?_⟩
        refine ⟨_, rfl, Gr.put g3 hf, ?_, ?_⟩
        · rw [upd_same]; simp
        · rw [upd_ne (Ne.symm hfp)]; exact h3p
  · rintro σ' H3 ⟨x3, rfl, g3, h3f, h3p⟩
    rw [List.length_map, List.take_length] at h3f
    refine ⟨_, rfl, .inl ⟨f, _, rfl, SqL.of h3f, fun q hq => ?_⟩⟩
    exact hQ _ _ (Gr.put g3 (g3.free hq)) (tp_nums (.inl (.inl upd_same)))
def spOrds (K : PySem.W.Frag) : Sp := fun vs H Q _ => ∃ v m A L, vs = [v] ∧ Tp K H v (kCh m) ∧ Shp A L m ∧ NewK K H Q (.tup ((ordersOf m).map kNs))
theorem sc_all_orders : FnScope ["chart", "arm"] ["chart"] (defScope s_all_orders) := ⟨rfl, rfl, rfl, by decide +kernel, rfl, by decide +kernel, by decide +kernel⟩
theorem kp_all_orders (T : Tx K mg base) (Fo : Kp w K mg base "order_on" 3 ["chart", "arm"] (spOrd K)) : Kp w K mg base "all_orders" 4 ["chart"] (spOrds K) := by
  refine kp_of (d := d_all_orders) (k := 3) T (by simp [fn]) (by decide +kernel) rfl rfl rfl rfl rfl sc_all_orders (fun vs H Q E ⟨_, _, _, _, e, _⟩ => by rw [e]; rfl) (fun _ _ _ _ _ _ us hl => match us, hl with | [_], _ => rfl) fun Ar outer s H vs Q E hr hsp => ?_
  obtain ⟨v, m, A, L, rfl, hv, hm, hQ⟩ := hsp
  have hv' := hv
  obtain ⟨c, b, rfl, hcs, hbs⟩ := ch_at hv
  have hA := hm.a4
  refine ⟨_, pss_one (ps_ret (pe_tupleOf (by rfl) (T.free "tuple") (pe_lc (own := [("arm", 1)]) (g := gName 1) (tt := tYes) rfl sc_all_orders.nd (pi_range1 (by rfl) (T.free "range") (pa1 (pe_ix ix_tup (pv 0) pe_int (fun _ _ => rfl))))
      (blkOk_by (N := ["chart", "arm"]) (sc := defScope s_all_orders) (by decide +kernel)) (fun _ _ _ _ _ => pg_name (i := 1) sc_all_orders.nd rfl (Or.inl rfl)) (fun _ _ _ _ _ => pts_nil) (fun _ _ _ _ _ => pe_k Fo rfl hr (pa_cons (pv 0) (pa1 (pv 1))))))), ?_⟩
  refine ⟨_, rfl, c, _, _, _, rfl, rfl, hcs, atI_nat (j := 0) rfl, m.1, rfl, by have := hm.arms; omega, by have := hm.arms; omega, fun D hD => lc_range (lo := 0) (n := m.1) (fun i H' => LcK K D H (((List.range i).map (orderOn m)).map kNs) H') (LcK.start hD) ?_ ?_⟩
  · intro i H1 hi h
    have e0 : V.int (0 + (i : Int)) = vN i := by simp
    rw [e0]
    refine ⟨rfl, _, rfl, _, rfl, _, m, A, L, i, rfl, h.gr.tp hv', hm, by rw [← hm.arms]; exact hi, fun H2 p g t => ?_⟩
    obtain ⟨xs, e, el, h'⟩ := h.put g t hD
    refine ⟨xs, e, ?_, ?_⟩
    · rw [el]
      simp [sizeLine_eq]
      have := hm.arms
      omega
    · rw [List.range_succ]
      simpa using h'
  · rintro H1 ⟨xs, e, t, g⟩
    refine .inl ⟨D, xs, rfl, SqL.of e, fun q hq => ?_⟩
    refine hQ _ _ (Gr.put g (g.free hq)) (.tup (.inl (.inl upd_same)) ((Gr.new hq).tps t))

/-! ### tips -/
theorem outw_at {A L a : Nat} {m : Ch} (h : Shp A L m) (ha : a < A) : (outw m a).length = L ∧ ∀ i, i < L → (outw m a)[i]? = some (at0 m.2 (1 + a * L + i)) := by
  have hs := h.size
  have hle : (a + 1) * L ≤ A * L := Nat.mul_le_mul_right _ ha
  have h3 : (a + 1) * L = a * L + L := Nat.succ_mul a L
  have hl : (outw m a).length = L := by
    unfold outw
    rw [List.length_take, List.length_drop, h.lenOf, hs]
    omega
  refine ⟨hl, fun i hi => ?_⟩
  unfold outw
  rw [h.lenOf, List.getElem?_take_of_lt hi, List.getElem?_drop]
  unfold at0
  rw [List.getD_eq_getElem?_getD, List.getElem?_eq_getElem (by omega)]
  rfl
def spTips (K : PySem.W.Frag) : Sp := fun vs H Q _ => ∃ v m A L, vs = [v] ∧ Tp K H v (kCh m) ∧ Shp A L m ∧ NewK K H Q (kNs (tipsOf m))
theorem sc_tips : FnScope ["chart", "arm"] ["chart"] (defScope s_tips) := ⟨rfl, rfl, rfl, by decide +kernel, rfl, by decide +kernel, by decide +kernel⟩
theorem kp_tips (T : Tx K mg base) (Fo : Kp w K mg base "outward" 2 ["chart", "arm"] (spOutw K)) : Kp w K mg base "tips" 3 ["chart"] (spTips K) := by
  refine kp_of (d := d_tips) (k := 2) T (by simp [fn]) (by decide +kernel) rfl rfl rfl rfl rfl sc_tips (fun vs H Q E ⟨_, _, _, _, e, _⟩ => by rw [e]; rfl) (fun _ _ _ _ _ _ us hl => match us, hl with | [_], _ => rfl) fun Ar outer s H vs Q E hr hsp => ?_
  obtain ⟨v, m, A, L, rfl, hv, hm, hQ⟩ := hsp
  have hv' := hv
  obtain ⟨c, b, rfl, hcs, hbs⟩ := ch_at hv
  have hA := hm.a4
  refine ⟨_, pss_one (ps_ret (pe_tupleOf (by rfl) (T.free "tuple") (pe_lc (own := [("arm", 1)]) (g := gName 1) (tt := tYes) rfl sc_tips.nd (pi_range1 (by rfl) (T.free "range") (pa1 (pe_ix ix_tup (pv 0) pe_int (fun _ _ => rfl))))
      (blkOk_by (N := ["chart", "arm"]) (sc := defScope s_tips) (by decide +kernel)) (fun _ _ _ _ _ => pg_name (i := 1) sc_tips.nd rfl (Or.inl rfl)) (fun _ _ _ _ _ => pts_nil) (fun _ _ _ _ _ => pe_ix (r := rIxL K) ix_list (pe_k Fo rfl hr (pa_cons (pv 0) (pa1 (pv 1)))) (pe_un un_neg pe_int) (fun _ _ => rfl))))), ?_⟩
  refine ⟨_, rfl, c, _, _, _, rfl, rfl, hcs, atI_nat (j := 0) rfl, m.1, rfl, by have := hm.arms; omega, by have := hm.arms; omega, fun D hD => lc_range (lo := 0) (n := m.1) (fun i H' => LcK K D H (((List.range i).map (tipOf m)).map kN) H') (LcK.start hD) ?_ ?_⟩
  · intro i H1 hi h
    have e0 : V.int (0 + (i : Int)) = vN i := by simp
    rw [e0]
    have hi' : i < A := by rw [← hm.arms]; exact hi
    obtain ⟨ol, oa⟩ := outw_at hm hi'
    have hL : 1 ≤ L := by rcases hm.len with e | e | e <;> omega
    refine ⟨rfl, _, rfl, _, rfl, _, m, A, L, i, rfl, h.gr.tp hv', hm, hi', fun H2 p g hp h2 => ?_⟩
    have eat : atI ((outw m i).map vN) (-1) = some (vN (tipOf m i)) := by
      unfold atI ixN
      rw [List.length_map, ol, if_neg (by omega), if_pos (by omega)]
      have e1 : ((-1 : Int) + (L : Int)).toNat = L - 1 := by omega
      rw [e1]
      show ((outw m i).map vN)[L - 1]? = _
      rw [List.getElem?_map, oa (L - 1) (by omega)]
      unfold tipOf
      rw [hm.lenOf]
      have e2 : 1 + i * L + (L - 1) = i * L + L := by omega
      rw [e2]
      rfl
    obtain ⟨xs, e, el, h'⟩ := h.put (y := vN (tipOf m i)) g (.num _) hD
    refine ⟨1, rfl, p, _, _, _, rfl, rfl, SqL.of h2, eat, xs, e, ?_, ?_⟩
    · rw [el]
      simp [sizeLine_eq]
      have := hm.arms
      omega
    · rw [List.range_succ]
      simpa using h'
  · rintro H1 ⟨xs, e, t, g⟩
    refine .inl ⟨D, xs, rfl, SqL.of e, fun q hq => ?_⟩
    refine hQ _ _ (Gr.put g (g.free hq)) (.tup (.inl (.inl upd_same)) ?_)
    exact (Gr.new hq).tps t
end
end SL
end

section
set_option Elab.async false
set_option linter.all false
set_option maxRecDepth 100000
set_option maxHeartbeats 4000000
/-! walks: bare_of, freezes, key_of -/
namespace SL
open PySem PySem.Spec PyProof.Rows L2
def gnChk (N : List Str) (sc scope : Scope) (own : List (Str × Nat)) : Bool :=
  decide (scope.kind = .function) && !scope.isCoroutine && scope.names.all (fun y => decide (y.2 ≠ .cell)) && decide (scope.names.lookup (".0" : Str) = some NameKind.local) && blkC N sc scope own
theorem gnOk_by {N : List Str} {sc scope : Scope} {own : List (Str × Nat)} (h : gnChk N sc scope own = true) : GnOk N sc scope own := by
  unfold gnChk at h
  simp only [Bool.and_eq_true, decide_eq_true_eq, Bool.not_eq_true', List.all_eq_true] at h
  obtain ⟨⟨⟨⟨h1, h2⟩, h3⟩, h4⟩, h5⟩ := h
  exact ⟨h1, h2, h3, h4, blkOk_by h5⟩
theorem Tx.tab {K : PySem.W.Frag} {mg : Str → Option Value} {base : Heap} (T : Tx K mg base) (p : He.Defn) (h : p ∈ tf := by simp [tf]) : GxR.TabB base mg (He.cT K p).1 (He.cT K p).2 := T.tabs _ (List.mem_map.mpr ⟨p, h, rfl⟩)
theorem Tabs.at_ {K : PySem.W.Frag} {H : Hp} (t : Tabs K H) (p : He.Defn) (h : p ∈ tf := by simp [tf]) : GxR.TabG H (He.cT K p).2 := t _ (List.mem_map.mpr ⟨p, h, rfl⟩)
section
variable {w : World} {K : PySem.W.Frag} {mg : Str → Option Value} {base : Heap}
def spBare (K : PySem.W.Frag) : Sp := fun vs H Q _ => ∃ v m A L, vs = [v] ∧ Tp K H v (kCh m) ∧ Shp A L m ∧ Tabs K H ∧ ∀ H', Gr H H' → Q (vN (bareN m)) H'
theorem sc_bare_of : FnScope ["chart", "hub", "arm", "land"] ["chart"] (defScope s_bare_of) := ⟨rfl, rfl, rfl, by decide +kernel, rfl, by decide +kernel, by decide +kernel⟩
theorem all_range (p : Nat → Bool) (ns : List Nat) : (List.range ns.length).all (fun i => p (at0 ns i)) = ns.all p := by
  rw [Bool.eq_iff_iff, List.all_eq_true, List.all_eq_true]
  constructor
  · intro h x hx
    obtain ⟨i, hi, e⟩ := List.getElem_of_mem hx
    have := h i (List.mem_range.mpr hi)
    unfold at0 at this
    rw [List.getD_eq_getElem?_getD, List.getElem?_eq_getElem hi] at this
    rw [← e]
    exact this
  · intro h i hi
    have hi := List.mem_range.mp hi
    unfold at0
    rw [List.getD_eq_getElem?_getD, List.getElem?_eq_getElem hi]
    exact h _ (List.getElem_mem hi)
theorem any_range (p : Nat → Bool) (ns : List Nat) : (List.range ns.length).any (fun i => p (at0 ns i)) = ns.any p := by
  rw [Bool.eq_iff_iff, List.any_eq_true, List.any_eq_true]
  constructor
  · rintro ⟨i, hi, h⟩
    have hi := List.mem_range.mp hi
    unfold at0 at h
    rw [List.getD_eq_getElem?_getD, List.getElem?_eq_getElem hi] at h
    exact ⟨_, List.getElem_mem hi, h⟩
  · rintro ⟨x, hx, h⟩
    obtain ⟨i, hi, e⟩ := List.getElem_of_mem hx
    refine ⟨i, List.mem_range.mpr hi, ?_⟩
    unfold at0
    rw [List.getD_eq_getElem?_getD, List.getElem?_eq_getElem hi]
    show p ns[i] = true
    rw [e]
    exact h
theorem kp_bare_of (T : Tx K mg base) (Fo : Kp w K mg base "outward" 2 ["chart", "arm"] (spOutw K)) : Kp w K mg base "bare_of" 3 ["chart"] (spBare K) := by
  refine kp_of (d := d_bare_of) (k := 2) T (by simp [fn]) (by decide +kernel) rfl rfl rfl rfl rfl sc_bare_of (fun vs H Q E ⟨_, _, _, _, e, _⟩ => by rw [e]; rfl) (fun _ _ _ _ _ _ us hl => match us, hl with | [_], _ => rfl) fun Ar outer s H vs Q E hr hsp => ?_
  obtain ⟨v, m, A, L, rfl, hv, hm, hT, hQ⟩ := hsp
  have hv' := hv
  obtain ⟨c, b, rfl, hcs, hbs⟩ := ch_at hv
  have hA := hm.a4
  have hsz : 0 < m.2.length := by have := hm.size; omega
  refine ⟨_, pss_cons (ps_set (i := 1) sc_bare_of.nd rfl (.inr rfl) (pe_ix ix_tup (pe_ix ix_tup (pv 0) pe_int (fun _ _ => rfl)) pe_int (fun _ _ => rfl)))
    (pss_one (ps_ret (pe_callB call_len_seq (by rfl) (T.free "len") PySem.boot_len (pa1 (pe_lc (own := [("arm", 2)]) (g := gName 2) (tt := tB (tGn (He.cT K ("bare_of", none)).2 (fun tr l => l.all tr) (iList K (tCall (spOutw K) [] E0 (tCons (tVar 0) (tCons (tVar 2) tNil)))) (gName 3) (tOp rEq (tVar 3) (tVar 1)) [3])) rfl sc_bare_of.nd (pi_range1 (by rfl) (T.free "range") (pa1 (pe_ix ix_tup (pv 0) pe_int (fun _ _ => rfl))))
      (blkOk_by (N := ["chart", "hub", "arm", "land"]) (sc := defScope s_bare_of) (by decide +kernel)) (fun _ _ _ _ _ => pg_name (i := 2) sc_bare_of.nd rfl (Or.inl rfl) (.inr rfl))
      (fun _ _ _ _ _ => pts_one (pt_val (pe_allG (own := [("land", 3)]) (P := (He.cT K ("bare_of", none)).2) (c := (He.cT K ("bare_of", none)).1) (k := 1) hr (by rfl) (T.free "all") (T.tab ("bare_of", none)) rfl sc_bare_of.nd (gnOk_by (by kernel_rfl))
        (pi_list (pe_k Fo rfl hr (pa_cons (pv 0) (pa1 (pv 2))))) (fun _ _ _ _ _ _ => pg_name (i := 3) sc_bare_of.nd rfl (Or.inl rfl) (.inr rfl)) (fun _ _ _ _ _ _ => pe_cmpR op_eq (pv 3) (pv 1) (nomark _)) (fun _ => rfl))))
      (fun _ _ _ _ _ => pe_int)))))), ?_⟩
  have e0 : atI ([vN m.1, V.ref b] : List V) 1 = some (V.ref b) := atI_nat (j := 1) rfl
  refine ⟨_, rfl, c, _, _, _, rfl, rfl, hcs, e0, b, _, _, _, rfl, rfl, hbs, atI_nat (j := 0) (vN_at hsz), ?_⟩
  refine ⟨_, rfl, c, _, _, _, rfl, rfl, hcs, atI_nat (j := 0) rfl, m.1, rfl, by have := hm.arms; omega, by have := hm.arms; omega, fun D hD => lc_range (lo := 0) (n := m.1) (fun i H' => ∃ xs : List V, H' D = some (.lst xs) ∧ xs.length = ((List.range i).filter fun a => bareB m a).length ∧ Gr H H') ⟨[], upd_same, rfl, Gr.new hD⟩ ?_ ?_⟩
  · rintro i H1 hi ⟨xs, h1, h2, h3⟩
    have e0 : V.int (0 + (i : Int)) = vN i := by simp
    rw [e0]
    have hi' : i < A := by rw [← hm.arms]; exact hi
    have hxs : xs.length < sizeLine := by
      have := List.length_filter_le (fun a => bareB m a) (List.range i)
      rw [List.length_range] at this
      rw [sizeLine_eq]
      have := hm.arms
      omega
    refine ⟨rfl, _, rfl, _, rfl, _, m, A, L, i, rfl, h3.tp hv', hm, hi', fun H2 p g2 hp h2p => ⟨p, rfl, ⟨_, SqL.of h2p⟩, (hT.gr (h3.trans g2)).at_ ("bare_of", none), fun H3 ht => ?_⟩⟩
    have g3 := Gr.tabbed ((hT.gr (h3.trans g2)).at_ ("bare_of", none)) ht
    have fin : ∀ H', Gr H2 H' → H' D = some (.lst xs) ∧ Gr H H' := fun H' g => ⟨(g2.trans g).lst h1, h3.trans (g2.trans g)⟩
    have step : (List.range (i + 1)).filter (fun a => bareB m a) = (List.range i).filter (fun a => bareB m a) ++ (if bareB m i then [i] else []) := by
      rw [List.range_succ, List.filter_append]
      congr 1
      rw [List.filter_cons]
      split <;> simp
    refine ⟨(outw m i).length, fun j => at0 (outw m i) j == hubOf m, fun _ H' => Gr H2 H', g3, ⟨fun H' g => ⟨_, g.sqL (SqL.of h2p), by simp⟩, fun j H' hj g => ⟨⟨_, _, g.sqL (SqL.of h2p), vN_at hj⟩, fun x H'' hy => ?_⟩⟩, fun j H' _ g => ?_⟩
    · obtain ⟨rfl, hx⟩ := hy
      have ex : x = vN (at0 (outw m i) j) := by
        have := hx _ (g.sqL (SqL.of h2p))
        rw [vN_at hj] at this
        exact (Option.some.inj this).symm
      subst ex
      refine ⟨rfl, _, rfl, _, rfl, rfl, ?_, g⟩
      refine congrArg V.bl ?_
      rw [Bool.eq_iff_iff]
      simp only [decide_eq_true_eq, beq_iff_eq]
      exact vN_eq
    · refine ⟨_, rfl, ?_⟩
      obtain ⟨f1, f2⟩ := fin H' g
      have ea : (List.range (outw m i).length).all (fun j => at0 (outw m i) j == hubOf m) = bareB m i := all_range (fun l => l == hubOf m) (outw m i)
      cases hb : bareB m i with
      | true =>
        refine iteT' (ea.trans hb) ⟨xs, f1, hxs, xs ++ [V.int 1], upd_same, ?_, Gr.put f2 hD⟩
        rw [step, hb, List.length_append, List.length_append, h2]
        rfl
      | false =>
        refine iteF' (ea.trans hb) ⟨xs, f1, ?_, f2⟩
        rw [step, hb, List.length_append, h2]
        rfl
  · rintro H1 ⟨xs, h1, h2, h3⟩
    refine ⟨D, xs, rfl, .inl (SqL.of h1), ?_⟩
    rw [h2]
    exact hQ _ h3
def spFrz (K : PySem.W.Frag) : Sp := fun vs H Q _ => ∃ v m A L, vs = [v] ∧ Tp K H v (kCh m) ∧ Shp A L m ∧ Tabs K H ∧ ∀ H', Gr H H' → Q (.bl (decide (1 < bareN m))) H'
theorem sc_freezes : FnScope ["chart"] ["chart"] (defScope s_freezes) := ⟨rfl, rfl, rfl, by decide +kernel, rfl, by decide +kernel, by decide +kernel⟩
theorem kp_freezes (T : Tx K mg base) (Fb : Kp w K mg base "bare_of" 3 ["chart"] (spBare K)) : Kp w K mg base "freezes" 4 ["chart"] (spFrz K) := by
  refine kp_of (d := d_freezes) (k := 3) T (by simp [fn]) (by decide +kernel) rfl rfl rfl rfl rfl sc_freezes (fun vs H Q E ⟨_, _, _, _, e, _⟩ => by rw [e]; rfl) (fun _ _ _ _ _ _ us hl => match us, hl with | [_], _ => rfl) fun Ar outer s H vs Q E hr hsp => ?_
  obtain ⟨v, m, A, L, rfl, hv, hm, hT, hQ⟩ := hsp
  refine ⟨_, pss_one (ps_ret (pe_cmpR op_gt (pe_k Fb rfl hr (pa1 (pv 0))) pe_int (nomark _))), ?_⟩
  refine ⟨_, rfl, v, m, A, L, rfl, hv, hm, hT, fun H' g => ⟨_, _, rfl, rfl, ?_⟩⟩
  have e : decide ((1 : Int) < (bareN m : Int)) = decide (1 < bareN m) := decide_eq_decide.mpr (by omega)
  dsimp only
  rw [e]
  exact hQ H' g
def spKey (K : PySem.W.Frag) : Sp := fun vs H Q _ => ∃ v m A L, vs = [v] ∧ Tp K H v (kCh m) ∧ Shp A L m ∧ Tabs K H ∧ NewK K H Q (kKey m)
theorem sc_key_of : FnScope ["chart", "start"] ["chart"] (defScope s_key_of) := ⟨rfl, rfl, rfl, by decide +kernel, rfl, by decide +kernel, by decide +kernel⟩
theorem kp_key_of (T : Tx K mg base) (Fl : Kp w K mg base "lands_of" 1 ["chart"] (spLands K)) (Ff : Kp w K mg base "freezes" 4 ["chart"] (spFrz K)) (Fo : Kp w K mg base "all_orders" 4 ["chart"] (spOrds K)) (Ft : Kp w K mg base "tips" 3 ["chart"] (spTips K)) :
    Kp w K mg base "key_of" 5 ["chart"] (spKey K) := by
  refine kp_of (d := d_key_of) (k := 4) T (by simp [fn]) (by decide +kernel) rfl rfl rfl rfl rfl sc_key_of (fun vs H Q E ⟨_, _, _, _, e, _⟩ => by rw [e]; rfl) (fun _ _ _ _ _ _ us hl => match us, hl with | [_], _ => rfl) fun Ar outer s H vs Q E hr hsp => ?_
  obtain ⟨v, m, A, L, rfl, hv, hm, hT, hQ⟩ := hsp
  have hv' := hv
  obtain ⟨c, b, rfl, hcs, hbs⟩ := ch_at hv
  have hsz : 0 < m.2.length := by have := hm.size; omega
  have hne : m.2 ≠ [] := fun e => by rw [e] at hsz; simp at hsz
  refine ⟨_, pss_cons (ps_set (i := 1) sc_key_of.nd rfl (.inl rfl) (pe_tup (pa_cons (pe_ix ix_tup (pv 0) pe_int (fun _ _ => rfl)) (pa_cons (pe_callB call_len_seq (by rfl) (T.free "len") PySem.boot_len (pa1 (pe_ix ix_tup (pv 0) pe_int (fun _ _ => rfl)))) (pa1 (pe_k Fl rfl (hr.mono (by decide)) (pa1 (pv 0))))))))
    (pss_one (ps_ret (pe_ifExp (pt_val (pe_k Ff rfl hr (pa1 (pv 0))))
      (pe_tup (StX.pa_star (pv 1) (pa_cons (pe_ix ix_tup (pe_ix ix_tup (pv 0) pe_int (fun _ _ => rfl)) pe_int (fun _ _ => rfl)) (pa1 (pe_k Fo rfl hr (pa1 (pv 0)))))))
      (pe_tup (StX.pa_star (pv 1) (pa1 (pe_k Ft rfl (hr.mono (by decide)) (pa1 (pv 0))))))))), ?_⟩
  have e0 : atI ([vN m.1, V.ref b] : List V) 1 = some (V.ref b) := atI_nat (j := 1) rfl
  refine ⟨_, rfl, c, _, _, _, rfl, rfl, hcs, atI_nat (j := 0) rfl, _, rfl, c, _, _, _, rfl, rfl, hcs, e0, b, _, rfl, .inr hbs, _, rfl, _, m, rfl, hv', hne, by show 3 ≤ sizeLine; rw [sizeLine_eq]; omega, fun p hp => ?_⟩
  have gp := Gr.new (o := .tup [vN m.1, V.int (m.2.map vN).length, vN (landsOf m)]) hp
  refine ⟨_, rfl, _, m, A, L, rfl, gp.tp hv', hm, hT.gr gp, fun H2 g2 => ⟨_, rfl, ?_⟩⟩
  have gt := gp.trans g2
  have hpt : SqT K H2 p [vN m.1, V.int (m.2.map vN).length, vN (landsOf m)] := g2.sqT (.inl (.inl upd_same))
  have elen : V.int ((m.2.map vN).length : Int) = vN m.2.length := by rw [List.length_map]
  rw [elen] at hpt
  by_cases hf : 1 < bareN m
  · refine iteT' (decide_eq_true hf) ⟨_, rfl, p, _, rfl, .inl hpt, _, rfl, c, _, _, _, rfl, rfl, gt.sqT hcs, e0, b, _, _, _, rfl, rfl, gt.sqT hbs, atI_nat (j := 0) (vN_at hsz), _, rfl, _, m, A, L, rfl, gt.tp hv', hm, fun H3 q g3 t3 => ?_⟩
    refine ⟨by show 5 ≤ sizeLine; rw [sizeLine_eq]; omega, fun r hr' => ?_⟩
    have gr := Gr.new (o := .tup ([vN m.1, vN m.2.length, vN (landsOf m)] ++ [vN (at0 m.2 0), V.ref q])) hr'
    refine hQ _ _ ((gt.trans g3).trans gr) ?_
    unfold kKey
    rw [if_pos hf]
    exact .tup (.inl (.inl upd_same)) (.cons (.num _) (.cons (.num _) (.cons (.num _) (.cons (.num _) (.cons (gr.tp t3) .nil)))))
  · refine iteF' (decide_eq_false hf) ⟨_, rfl, p, _, rfl, .inl hpt, _, rfl, _, m, A, L, rfl, gt.tp hv', hm, fun H3 q g3 t3 => ?_⟩
    refine ⟨by show 4 ≤ sizeLine; rw [sizeLine_eq]; omega, fun r hr' => ?_⟩
    have gr := Gr.new (o := .tup ([vN m.1, vN m.2.length, vN (landsOf m)] ++ [V.ref q])) hr'
    refine hQ _ _ ((gt.trans g3).trans gr) ?_
    unfold kKey
    rw [if_neg hf]
    exact .tup (.inl (.inl upd_same)) (.cons (.num _) (.cons (.num _) (.cons (.num _) (.cons (gr.tp t3) .nil))))
end
end SL
end

section
set_option Elab.async false
set_option linter.all false
set_option maxRecDepth 100000
set_option maxHeartbeats 4000000
/-! walks: are_cells, is_map, need_map -/
namespace SL
open PySem PySem.Spec PyProof.Rows L2
theorem held_sorted (cs : List Nat) (l : Nat) : (held cs l).Pairwise (· < ·) := List.Pairwise.filter _ List.pairwise_lt_range
theorem held_le {cs : List Nat} {l n : Nat} (h : cs.length = n + 1) : ∀ x ∈ held cs l, x ≤ n := fun x hx => by
  have := List.mem_range.mp (List.mem_filter.mp hx).1
  omega
section
variable {w : World} {K : PySem.W.Frag} {mg : Str → Option Value} {base : Heap}
def spAre (K : PySem.W.Frag) : Sp := fun vs H Q _ => ∃ (b : Addr) (A : Nat) (cs : List Nat), vs = [vN A, .ref b] ∧ SqT K H b (cs.map vN) ∧ Tabs K H ∧ ((∃ L, MapOk A L (A, cs)) ∧ (∀ H', Gr H H' → Q (.bl true) H') ∨ (cs = [] ∧ 1 ≤ A ∧ Q (.bl false) H))
theorem sc_are_cells : FnScope ["arms", "cells", "length", "lands", "one", "land"] ["arms", "cells"] (defScope s_are_cells) := ⟨rfl, rfl, rfl, by decide +kernel, rfl, by decide +kernel, by decide +kernel⟩
theorem kp_are_cells (T : Tx K mg base) (Fi : Kp w K mg base "is_in" 1 ["value", "least", "most"] spIsIn) (Fh : Kp w K mg base "hangs" 2 ["arms", "cells", "some"] (spHangs K)) (Fe : Kp w K mg base "held" 1 ["cells", "land"] (spHeld K)) :
    Kp w K mg base "are_cells" 4 ["arms", "cells"] (spAre K) := by
  refine kp_of (d := d_are_cells) (k := 3) T (by simp [fn]) (by decide +kernel) rfl rfl rfl rfl rfl sc_are_cells (fun vs H Q E ⟨_, _, _, e, _⟩ => by rw [e]; rfl) (fun _ _ _ _ _ _ us hl => match us, hl with | [_, _], _ => rfl) fun Ar outer s H vs Q E hr hsp => ?_
  obtain ⟨b, A, cs, rfl, hb, hT, hcase⟩ := hsp
  obtain ⟨tk, hml⟩ := T.int "MOST_LENGTH" 4
  refine ⟨_, pss_cons (ps_if (PW.pt (pw_or (pt_cmpR op_lt (pe_callB call_len_seq (by rfl) (T.free "len") PySem.boot_len (pa1 (pv 1))) (pe_op op_add (pv 0) pe_int) (nomark _))
        (pw_or (pt_truth (pe_op op_mod (pe_op op_sub (pe_callB call_len_seq (by rfl) (T.free "len") PySem.boot_len (pa1 (pv 1))) pe_int) (pv 0)) (by intro _; rfl))
        (pw_or1 (pt_cmpR op_gt (pe_op op_fdiv (pe_op op_sub (pe_callB call_len_seq (by rfl) (T.free "len") PySem.boot_len (pa1 (pv 1))) pe_int) (pv 0)) (pe_glob (v := .int 4) (by rfl) hml ⟨_, rfl⟩) (nomark _))))))
      (pss_one (ps_ret pe_bl)) pss_nil)
    (pss_cons (ps_set (i := 2) sc_are_cells.nd rfl (.inr rfl) (pe_op op_fdiv (pe_op op_sub (pe_callB call_len_seq (by rfl) (T.free "len") PySem.boot_len (pa1 (pv 1))) pe_int) (pv 0)))
    (pss_cons (ps_if (pt_not (pt_val (pe_allG (own := [("one", 4)]) (P := (He.cT K ("are_cells", none)).2) (c := (He.cT K ("are_cells", none)).1) (k := 2) hr (by rfl) (T.free "all") (T.tab ("are_cells", none)) rfl sc_are_cells.nd (gnOk_by (by kernel_rfl))
          (pi_tup (pv 1)) (fun _ _ _ _ _ _ => pg_name (i := 4) sc_are_cells.nd rfl (Or.inl rfl) (.inr rfl)) (fun _ _ _ _ _ hr' => pe_k Fi rfl (hr'.mono (by decide)) (pa_cons (pv 4) (pa_cons pe_int (pa1 (pv 2))))) (fun _ => rfl))))
      (pss_one (ps_ret pe_bl)) pss_nil)
    (pss_cons (ps_set (i := 3) sc_are_cells.nd rfl (.inl rfl) (pe_op op_add (pe_callB (cr_maxNs rfl (units16 hr)) (by rfl) (T.free "max") (by decide +kernel) (pa1 (pv 1))) pe_int))
    (pss_one (ps_ret (pe_and (pe_cmpR op_gt (pv 3) pe_int (nomark _)) (pe_one (pe_allG (own := [("land", 5)]) (P := (He.cT K ("are_cells", none)).2) (c := (He.cT K ("are_cells", none)).1) (k := 2) hr (by rfl) (T.free "all") (T.tab ("are_cells", none)) rfl sc_are_cells.nd (gnOk_by (by kernel_rfl))
          (pi_range1 (by rfl) (T.free "range") (pa1 (pv 3))) (fun _ _ _ _ _ _ => pg_name (i := 5) sc_are_cells.nd rfl (Or.inl rfl) (.inr rfl)) (fun _ _ _ _ _ hr' => pe_k Fh rfl hr' (pa_cons (pv 0) (pa_cons (pv 1) (pa1 (pe_k Fe rfl (hr'.mono (by decide)) (pa_cons (pv 1) (pa1 (pv 5)))))))) (fun _ => rfl))))))))), ?_⟩
  rcases hcase with ⟨⟨L, hm⟩, hQ⟩ | ⟨rfl, hA, hQ⟩
  · have hA3 := hm.a3
    have hA4 := hm.a4
    have hn : cs.length = A * L + 1 := hm.size
    have hL3 : 1 ≤ L ∧ L ≤ 3 := by rcases hm.len with e | e | e <;> omega
    have hAL : A ≤ A * L := Nat.le_mul_of_pos_right A (by omega)
    have hAL12 : A * L ≤ 12 := by rcases hm.len with rfl | rfl | rfl <;> omega
    have elen : ((cs.map vN).length : Int) - 1 = (A : Int) * (L : Int) := by
      rw [List.length_map, hn]
      push_cast
      omega
    have eL : (((cs.map vN).length : Int) - 1) / (A : Int) = (L : Int) := by
      rw [elen]
      exact Int.mul_ediv_cancel_left _ (by omega)
    have eM : (((cs.map vN).length : Int) - 1) % (A : Int) = 0 := by
      rw [elen]
      exact Int.mul_emod_right _ _
    refine ⟨_, rfl, b, _, rfl, .inr hb, _, rfl, _, _, rfl, rfl, _, _, rfl, rfl, _, rfl, ?_⟩
    refine iteF' (decide_eq_false (by rw [List.length_map, hn]; omega)) ?_
    refine ⟨_, rfl, b, _, rfl, .inr hb, _, _, rfl, rfl, _, rfl, _, _, rfl, rfl, by show (0 : Int) < A; omega, false, ?_, ?_⟩
    · show false = ((((cs.map vN).length : Int) - 1) % (A : Int) != 0)
      rw [eM]
      rfl
    refine iteF' rfl ?_
    refine ⟨_, rfl, b, _, rfl, .inr hb, _, _, rfl, rfl, _, rfl, _, _, rfl, rfl, ⟨by omega, by omega⟩, ?_⟩
    refine ⟨_, _, rfl, rfl, _, rfl, ?_⟩
    refine iteF' (decide_eq_false (by rw [eL]; omega)) ?_
    refine ⟨_, rfl, b, _, rfl, .inr hb, _, _, rfl, rfl, _, rfl, _, _, rfl, rfl, ⟨by omega, by omega⟩, ?_⟩
    dsimp only
    rw [eL]
    refine ⟨_, rfl, b, rfl, ⟨_, hb⟩, hT.at_ ("are_cells", none), fun H2 ht => ?_⟩
    have g2 := Gr.tabbed (hT.at_ ("are_cells", none)) ht
    refine ⟨cs.length, fun j => true, fun _ H' => Gr H H', g2, ⟨fun H' g => ⟨_, g.sqT hb, by simp⟩, fun j H' hj g => ⟨⟨_, _, g.sqT hb, vN_at hj⟩, fun x H'' hy => ?_⟩⟩, fun j H' _ g => ?_⟩
    · obtain ⟨rfl, hx⟩ := hy
      have ex : x = vN (at0 cs j) := by
        have := hx _ (g.sqT hb)
        rw [vN_at hj] at this
        exact (Option.some.inj this).symm
      subst ex
      have hlo : at0 cs j ≤ L := by
        unfold at0
        rw [List.getD_eq_getElem?_getD, List.getElem?_eq_getElem hj]
        exact hm.low _ (List.getElem_mem hj)
      exact ⟨rfl, _, rfl, _, rfl, _, _, _, rfl, congrArg V.bl (decide_eq_true (by omega)), g⟩
    · have ea : (List.range cs.length).all (fun _ => true) = true := by simp
      refine ⟨_, rfl, ?_⟩
      refine iteF' (by show (!(List.range cs.length).all (fun _ => true)) = false; rw [ea]; rfl) ?_
      refine ⟨_, rfl, b, cs, rfl, .inr (g.sqT hb), fun e => by rw [e] at hn; simp at hn, _, _, rfl, rfl, ?_⟩
      have hlands := hm.lands
      have eln : (maxL cs : Int) + 1 = ((landsOf (A, cs) : Nat) : Int) := by unfold landsOf; push_cast; rfl
      dsimp only
      rw [eln]
      generalize hN : landsOf (A, cs) = n at hlands
      have hn5 : n ≤ 4 := by
        rw [← hN]
        unfold landsOf
        have hne : cs ≠ [] := fun e => by rw [e] at hn; simp at hn
        have : maxL cs ≤ L := hm.low _ (maxL_in hne)
        show maxL cs + 1 ≤ 4
        omega
      refine ⟨_, rfl, _, _, rfl, rfl, _, rfl, ?_⟩
      refine iteT' (decide_eq_true (by omega)) ?_
      refine ⟨_, rfl, n, rfl, by omega, by omega, (hT.gr g).at_ ("are_cells", none), fun H3 ht3 => ?_⟩
      have g3 := g.trans (Gr.tabbed ((hT.gr g).at_ ("are_cells", none)) ht3)
      refine ⟨n, fun j => true, fun _ H' => Gr H H', g3, ⟨fun H' g => Nat.le_refl _, fun j H' hj g => ⟨hj, fun x H'' hy => ?_⟩⟩, fun j H' _ g => ?_⟩
      · obtain ⟨rfl, rfl⟩ := hy
        have e0 : V.int (0 + (j : Int)) = vN j := by simp
        rw [e0]
        refine ⟨rfl, _, rfl, _, rfl, _, rfl, _, rfl, b, cs, j, rfl, g.sqT hb, by omega, fun H5 p g5 hp h5p => ?_⟩
        have g6 := g.trans g5
        refine ⟨b, p, A, L, cs, held cs j, rfl, g6.sqT hb, hn, by omega, hA4, hm.len, SqL.of h5p, held_sorted _ _, held_le hn, fun H7 g7 => ⟨?_, g6.trans g7⟩⟩
        rw [hm.hang j (by rw [hN]; exact hj)]
      · have ea : (List.range n).all (fun _ => true) = true := by simp
        show Q (.bl ((List.range n).all (fun _ => true))) H'
        rw [ea]
        exact hQ _ g
  · refine ⟨_, rfl, b, _, rfl, .inr hb, _, rfl, _, _, rfl, rfl, _, _, rfl, rfl, _, rfl, ?_⟩
    refine iteT' (decide_eq_true (by show (0 : Int) < (A : Int) + 1; omega)) ?_
    exact iteT hQ

/-! ### is_map, need_map -/
def spIsMap (K : PySem.W.Frag) : Sp := fun vs H Q _ => ∃ v, vs = [v] ∧ Tabs K H ∧ ((∃ m A L, Tp K H v (kCh m) ∧ MapOk A L m ∧ ∀ H', Gr H H' → Q (.bl true) H') ∨ ((TyX K H v (.type "list") ∨ TyX K H v (.type "NoneType") ∨ TyX K H v (.type "int")) ∧ Q (.bl false) H) ∨
  (∃ c b A, v = .ref c ∧ SqT K H c [vN A, .ref b] ∧ SqT K H b [] ∧ 3 ≤ A ∧ A ≤ 4 ∧ Q (.bl false) H))
theorem sc_is_map : FnScope ["value"] ["value"] (defScope s_is_map) := ⟨rfl, rfl, rfl, by decide +kernel, rfl, by decide +kernel, by decide +kernel⟩
theorem tyx_tup {H : Hp} {a : Addr} {xs : List V} (T : Tx K mg base) (h : SqT K H a xs) : TyX K H (.ref a) (.type "tuple") := by
  rcases h with (h | ⟨o, h⟩) | h
  · exact .base (.tup h)
  · exact .fTuple h
  · obtain ⟨o, _, _, h, hc, _⟩ := h
    exact .kTuple h hc
theorem kp_is_map (T : Tx K mg base) (Fi : Kp w K mg base "is_in" 1 ["value", "least", "most"] spIsIn) (Fa : Kp w K mg base "are_cells" 4 ["arms", "cells"] (spAre K)) : Kp w K mg base "is_map" 5 ["value"] (spIsMap K) := by
  refine kp_of (d := d_is_map) (k := 4) T (by simp [fn]) (by decide +kernel) rfl rfl rfl rfl rfl sc_is_map (fun vs H Q E ⟨_, e, _⟩ => by rw [e]; rfl) (fun _ _ _ _ _ _ us hl => match us, hl with | [_], _ => rfl) fun Ar outer s H vs Q E hr hsp => ?_
  obtain ⟨v, rfl, hT, hcase⟩ := hsp
  obtain ⟨t1, hm1⟩ := T.int "LEAST_ARMS" 3
  obtain ⟨t2, hm2⟩ := T.int "MOST_ARMS_islands" 4
  have hcase' : (∃ c b A cs, v = .ref c ∧ SqT K H c [vN A, .ref b] ∧ SqT K H b (cs.map vN) ∧ 3 ≤ A ∧ A ≤ 4 ∧ ((∃ L, MapOk A L (A, cs)) ∧ (∀ H', Gr H H' → Q (.bl true) H') ∨ (cs = [] ∧ 1 ≤ A ∧ Q (.bl false) H))) ∨
      ((TyX K H v (.type "list") ∨ TyX K H v (.type "NoneType") ∨ TyX K H v (.type "int")) ∧ Q (.bl false) H) := by
    rcases hcase with ⟨m, A, L, hv, hm, hQ⟩ | h | ⟨c, b, A, rfl, hc, hb, h3, h4, hQ⟩
    · obtain ⟨c, b, rfl, hc, hb⟩ := ch_at hv
      obtain ⟨A', cs⟩ := m
      obtain rfl : A' = A := hm.arms
      exact .inl ⟨c, b, A', cs, rfl, hc, hb, hm.a3, hm.a4, .inl ⟨⟨L, hm⟩, hQ⟩⟩
    · exact .inr h
    · exact .inl ⟨c, b, A, [], rfl, hc, hb, h3, h4, .inr ⟨rfl, by omega, hQ⟩⟩
  refine ⟨_, pss_cons (ps_if (PW.pt (pw_or (pt_not (pt_val (pe_callB call_isi (by rfl) (T.free "isinstance") (by decide +kernel) (pa_cons (pv 0) (pa1 (pe_bltn (v := .ty "tuple") (by rfl) (T.free "tuple") (by decide +kernel) rfl))))))
        (pw_or (pt_cmpR op_ne (pe_callB call_len_seq (by rfl) (T.free "len") PySem.boot_len (pa1 (pv 0))) pe_int (nomark _))
        (pw_or1 (pt_not (pt_val (pe_k Fi rfl (hr.mono (by decide)) (pa_cons (pe_ix ix_tup (pv 0) pe_int (fun _ _ => rfl)) (pa_cons (pe_glob (v := .int 3) (by rfl) hm1 ⟨_, rfl⟩) (pa1 (pe_glob (v := .int 4) (by rfl) hm2 ⟨_, rfl⟩)))))))))))
      (pss_one (ps_ret pe_bl)) pss_nil)
    (pss_one (ps_ret (pe_and (pe_callB call_isi (by rfl) (T.free "isinstance") (by decide +kernel) (pa_cons (pe_ix ix_tup (pv 0) pe_int (fun _ _ => rfl)) (pa1 (pe_bltn (v := .ty "tuple") (by rfl) (T.free "tuple") (by decide +kernel) rfl))))
      (pe_one (pe_k Fa rfl hr (pa_cons (pe_ix ix_tup (pv 0) pe_int (fun _ _ => rfl)) (pa1 (pe_ix ix_tup (pv 0) pe_int (fun _ _ => rfl))))))))), ?_⟩
  rcases hcase' with ⟨c, b, A, cs, rfl, hc, hb, h3, h4, hh⟩ | ⟨hty, hQ⟩
  · have e1 : atI ([vN A, V.ref b] : List V) 1 = some (V.ref b) := atI_nat (j := 1) rfl
    refine ⟨_, rfl, _, _, _, _, _, rfl, .ty "tuple", tyx_tup T hc, kit_ty (r := true) (by decide +kernel), true, rfl, ?_⟩
    refine iteF' rfl ⟨_, rfl, c, _, rfl, .inr hc, rfl, _, rfl, ?_⟩
    refine iteF' rfl ⟨_, rfl, c, _, _, _, rfl, rfl, hc, atI_nat (j := 0) rfl, _, _, _, rfl, _, rfl, ?_⟩
    refine iteF' (by show (!decide ((3 : Int) ≤ A ∧ (A : Int) ≤ 4)) = false; rw [decide_eq_true (by omega)]; rfl) ?_
    refine ⟨_, rfl, c, _, _, _, rfl, rfl, hc, e1, _, _, _, _, _, rfl, .ty "tuple", tyx_tup T hb, kit_ty (r := true) (by decide +kernel), true, rfl, ?_⟩
    exact iteT' rfl ⟨_, rfl, c, _, _, _, rfl, rfl, hc, atI_nat (j := 0) rfl, _, rfl, c, _, _, _, rfl, rfl, hc, e1, b, A, cs, rfl, hb, hT, hh⟩
  · rcases hty with ht | ht | ht
    · refine ⟨_, rfl, _, _, _, _, _, rfl, .ty "tuple", ht, kit_ty (r := false) (by decide +kernel), false, rfl, ?_⟩
      exact iteT' rfl (iteT' rfl hQ)
    · refine ⟨_, rfl, _, _, _, _, _, rfl, .ty "tuple", ht, kit_ty (r := false) (by decide +kernel), false, rfl, ?_⟩
      exact iteT' rfl (iteT' rfl hQ)
    · refine ⟨_, rfl, _, _, _, _, _, rfl, .ty "tuple", ht, kit_ty (r := false) (by decide +kernel), false, rfl, ?_⟩
      exact iteT' rfl (iteT' rfl hQ)
def spNeed (K : PySem.W.Frag) : Sp := fun vs H Q _ => ∃ v m A L, vs = [v] ∧ Tabs K H ∧ Tp K H v (kCh m) ∧ MapOk A L m ∧ ∀ H', Gr H H' → Q .non H'
theorem sc_need_map : FnScope ["chart"] ["chart"] (defScope s_need_map) := ⟨rfl, rfl, rfl, by decide +kernel, rfl, by decide +kernel, by decide +kernel⟩
theorem kp_need_map (T : Tx K mg base) (Fm : Kp w K mg base "is_map" 5 ["value"] (spIsMap K)) : Kp w K mg base "need_map" 6 ["chart"] (spNeed K) := by
  refine kp_of (d := d_need_map) (k := 5) T (by simp [fn]) (by decide +kernel) rfl rfl rfl rfl rfl sc_need_map (fun vs H Q E ⟨_, _, _, _, e, _⟩ => by rw [e]; rfl) (fun _ _ _ _ _ _ us hl => match us, hl with | [_], _ => rfl) fun Ar outer s H vs Q E hr hsp => ?_
  obtain ⟨v, m, A, L, rfl, hT, hv, hm, hQ⟩ := hsp
  refine ⟨_, pss_one (ps_if (pt_not (pt_val (pe_k Fm rfl hr (pa1 (pv 0))))) (pss_one ps_never) pss_nil), ?_⟩
  exact ⟨_, rfl, v, rfl, hT, .inl ⟨m, A, L, hv, hm, fun H' g => ⟨_, rfl, iteF' rfl (hQ H' g)⟩⟩⟩
end
end SL
end

section
set_option Elab.async false
set_option linter.all false
set_option maxRecDepth 100000
set_option maxHeartbeats 4000000
/-! walks: is_made, all_takings, taken -/
namespace SL
open PySem PySem.Spec PyProof.Rows L2
section
variable {K : PySem.W.Frag} {H H' : Hp}
theorem tk_at {v : V} {t : Nat × Nat} (h : Tp K H v (kTk t)) : ∃ a, v = .ref a ∧ SqT K H a [vN t.1, vN t.2] := by
  unfold kTk at h
  cases h with
  | @tup a xs _ h1 h2 =>
    cases h2 with
    | cons t1 t2 =>
      cases t2 with
      | cons t2 t3 =>
        cases t3
        cases t1
        cases t2
        exact ⟨a, rfl, h1⟩
theorem tk_mk {a : Addr} {t : Nat × Nat} (h : SqT K H a [vN t.1, vN t.2]) : Tp K H (.ref a) (kTk t) := .tup h (.cons (.num _) (.cons (.num _) .nil))
end
theorem at0_lt {cs : List Nat} {i : Nat} (h : i < cs.length) : at0 cs i ∈ cs := by
  unfold at0
  rw [List.getD_eq_getElem?_getD, List.getElem?_eq_getElem h]
  exact List.getElem_mem h
section
variable {w : World} {K : PySem.W.Frag} {mg : Str → Option Value} {base : Heap}
def spMade (K : PySem.W.Frag) : Sp := fun vs H Q _ => ∃ v t m A L l c, vs = [v, t] ∧ Tp K H v (kCh m) ∧ Tp K H t (kTk (l, c)) ∧ Shp A L m ∧ c < m.2.length ∧ Tabs K H ∧ ∀ H', Gr H H' → Q (.bl (madeB m l c)) H'
theorem sc_is_made : FnScope ["chart", "taking", "land", "cell", "other", "one"] ["chart", "taking"] (defScope s_is_made) := ⟨rfl, rfl, rfl, by decide +kernel, rfl, by decide +kernel, by decide +kernel⟩
theorem kp_is_made (T : Tx K mg base) (Fn : Kp w K mg base "near" 1 ["arms", "length", "cell"] spNear) (Fl : Kp w K mg base "length_of" 1 ["chart"] (spLen K)) (Fe : Kp w K mg base "held" 1 ["cells", "land"] (spHeld K)) (Fh : Kp w K mg base "hangs" 2 ["arms", "cells", "some"] (spHangs K)) :
    Kp w K mg base "is_made" 3 ["chart", "taking"] (spMade K) := by
  refine kp_of (d := d_is_made) (k := 2) T (by simp [fn]) (by decide +kernel) rfl rfl rfl rfl rfl sc_is_made (fun vs H Q E ⟨_, _, _, _, _, _, _, e, _⟩ => by rw [e]; rfl) (fun _ _ _ _ _ _ us hl => match us, hl with | [_, _], _ => rfl) fun Ar outer s H vs Q E hr hsp => ?_
  obtain ⟨v, t, m, A, L, l, cl, rfl, hv, ht, hm, hc, hT, hQ⟩ := hsp
  have hv' := hv
  obtain ⟨c, b, rfl, hcs, hbs⟩ := ch_at hv
  obtain ⟨ta, rfl, hta⟩ := tk_at ht
  have hA3 := hm.a3
  have hA4 := hm.a4
  have harm := hm.arms
  have hsize := hm.size
  have hlen := hm.lenOf
  have hL3 : 1 ≤ L ∧ L ≤ 3 := by rcases hm.len with e | e | e <;> omega
  have hAL12 : A * L ≤ 12 := by rcases hm.len with rfl | rfl | rfl <;> omega
  refine ⟨_, pss_cons (ps_asg (pv 1) (pg_tup (by rfl) (pgs_cons (pg_name (i := 2) sc_is_made.nd rfl (.inr rfl)) (pgs_cons (pg_name (i := 3) sc_is_made.nd rfl (.inr rfl)) pgs_nil))))
    (pss_cons (ps_set (i := 4) sc_is_made.nd rfl (.inl rfl) (pe_ix ix_tup (pe_ix ix_tup (pv 0) pe_int (fun _ _ => rfl)) (pv 3) (fun _ _ => rfl)))
    (pss_cons (ps_if (PW.pt (pw_or (pt_cmpR op_eq (pv 4) (pv 2) (nomark _)) (pw_or1 (pt_not (pt_val (pe_anyG (own := [("one", 5)]) (P := (He.cT K ("is_made", none)).2) (c := (He.cT K ("is_made", none)).1) (k := 1) hr (by rfl) (T.free "any") (T.tab ("is_made", none)) rfl sc_is_made.nd (gnOk_by (by kernel_rfl))
          (pi_list (pe_k Fn rfl (hr.mono (by decide)) (pa_cons (pe_ix ix_tup (pv 0) pe_int (fun _ _ => rfl)) (pa_cons (pe_k Fl rfl (hr.mono (by decide)) (pa1 (pv 0))) (pa1 (pv 3)))))) (fun _ _ _ _ _ _ => pg_name (i := 5) sc_is_made.nd rfl (Or.inl rfl) (.inr rfl))
          (fun _ _ _ _ _ _ => pe_cmpR op_eq (pe_ix (r := rIxT K) ix_tup (pe_ix (r := rIxT K) ix_tup (pv 0) pe_int (fun _ _ => rfl)) (pv 5) (fun _ _ => rfl)) (pv 2) (nomark _)) (fun _ => rfl)))))))
      (pss_one (ps_ret pe_bl)) pss_nil)
    (pss_one (ps_ret (pe_k Fh rfl hr (pa_cons (pe_ix ix_tup (pv 0) pe_int (fun _ _ => rfl)) (pa_cons (pe_ix ix_tup (pv 0) pe_int (fun _ _ => rfl)) (pa1 (pe_lc (own := [("one", 5)]) (g := gName 5) rfl sc_is_made.nd (pi_list (pe_k Fe rfl (hr.mono (by decide)) (pa_cons (pe_ix ix_tup (pv 0) pe_int (fun _ _ => rfl)) (pa1 (pv 4)))))
      (blkOk_by (N := ["chart", "taking", "land", "cell", "other", "one"]) (sc := defScope s_is_made) (by decide +kernel)) (fun _ _ _ _ _ => pg_name (i := 5) sc_is_made.nd rfl (Or.inl rfl)) (fun _ _ _ _ _ => pts_one (pt_cmpR op_ne (pv 5) (pv 3) (nomark _))) (fun _ _ _ _ _ => pv 5)))))))))), ?_⟩
  have e1 : atI ([vN m.1, V.ref b] : List V) 1 = some (V.ref b) := atI_nat (j := 1) rfl
  refine ⟨_, rfl, ta, _, rfl, hta, rfl, _, _, rfl, _, _, rfl, rfl, ?_⟩
  refine ⟨_, rfl, c, _, _, _, rfl, rfl, hcs, e1, _, rfl, b, _, _, _, rfl, rfl, hbs, atI_nat (vN_at hc), ?_⟩
  refine ⟨_, rfl, _, rfl, rfl, _, rfl, ?_⟩
  by_cases h1 : at0 m.2 cl = l
  · refine iteT' (decide_eq_true (vN_eq.mpr h1)) (iteT' rfl ?_)
    have e : madeB m l cl = false := by unfold madeB; simp [h1]
    rw [e] at hQ
    exact hQ H (Gr.refl H)
  · refine iteF' (decide_eq_false (fun e => h1 (vN_eq.mp e))) ?_
    refine ⟨_, rfl, c, _, _, _, rfl, rfl, hcs, atI_nat (j := 0) rfl, _, rfl, _, m, rfl, hv', by omega, by omega, by omega, _, rfl, m.1, lenOf m, cl, rfl, by omega, by omega, by omega, by omega, fun H2 p g2 hp h2p => ?_⟩
    refine ⟨p, rfl, ⟨_, SqL.of h2p⟩, (hT.gr g2).at_ ("is_made", none), fun H3 ht3 => ?_⟩
    have g3 := Gr.tabbed ((hT.gr g2).at_ ("is_made", none)) ht3
    refine ⟨(near m.1 (lenOf m) cl).length, fun j => at0 m.2 (at0 (near m.1 (lenOf m) cl) j) == l, fun _ H' => Gr H2 H', g3, ⟨fun H' g => ⟨_, g.sqL (SqL.of h2p), by simp⟩, fun j H' hj g => ⟨⟨_, _, g.sqL (SqL.of h2p), vN_at hj⟩, fun x H'' hy => ?_⟩⟩, fun j H' _ g => ?_⟩
    · obtain ⟨rfl, hx⟩ := hy
      have ex : x = vN (at0 (near m.1 (lenOf m) cl) j) := by
        have := hx _ (g.sqL (SqL.of h2p))
        rw [vN_at hj] at this
        exact (Option.some.inj this).symm
      subst ex
      have hlt : at0 (near m.1 (lenOf m) cl) j < m.2.length := by
        have h := near_le (A := A) (L := L) hm.len (c := cl) (by omega) (y := at0 (near m.1 (lenOf m) cl) j) (by rw [← harm, ← hlen]; exact at0_lt hj)
        omega
      have gg := g2.trans g
      refine ⟨rfl, _, rfl, c, _, _, _, rfl, rfl, gg.sqT hcs, e1, _, rfl, b, _, _, _, rfl, rfl, gg.sqT hbs, atI_nat (vN_at hlt), _, rfl, rfl, ?_, g⟩
      refine congrArg V.bl ?_
      rw [Bool.eq_iff_iff]
      simp only [decide_eq_true_eq, beq_iff_eq]
      exact vN_eq
    · refine ⟨_, rfl, ?_⟩
      have gg := g2.trans g
      have ea : (List.range (near m.1 (lenOf m) cl).length).any (fun j => at0 m.2 (at0 (near m.1 (lenOf m) cl) j) == l) = (near m.1 (lenOf m) cl).any fun x => at0 m.2 x == l := any_range (fun x => at0 m.2 x == l) _
      have eQ : ∀ bb, ((near m.1 (lenOf m) cl).any fun x => at0 m.2 x == l) = bb → (madeB m l cl = (bb && hangB (lenOf m) ((held m.2 (at0 m.2 cl)).filter fun x => x != cl))) := fun bb hb => by
        unfold madeB
        rw [hb]
        have : (at0 m.2 cl != l) = true := by simpa using h1
        rw [this, Bool.true_and]
      cases hb : (near m.1 (lenOf m) cl).any fun x => at0 m.2 x == l with
      | false =>
        refine iteT' (by show (!(List.range (near m.1 (lenOf m) cl).length).any (fun j => at0 m.2 (at0 (near m.1 (lenOf m) cl) j) == l)) = true; rw [ea, hb]; rfl) ?_
        have e := eQ false hb
        rw [Bool.false_and] at e
        rw [e] at hQ
        exact hQ _ gg
      | true =>
        refine iteF' (by show (!(List.range (near m.1 (lenOf m) cl).length).any (fun j => at0 m.2 (at0 (near m.1 (lenOf m) cl) j) == l)) = false; rw [ea, hb]; rfl) ?_
        have e := eQ true hb
        rw [Bool.true_and] at e
        rw [e] at hQ
        refine ⟨_, rfl, c, _, _, _, rfl, rfl, gg.sqT hcs, atI_nat (j := 0) rfl, _, rfl, c, _, _, _, rfl, rfl, gg.sqT hcs, e1, ?_⟩
        refine ⟨_, rfl, c, _, _, _, rfl, rfl, gg.sqT hcs, e1, _, rfl, b, m.2, at0 m.2 cl, rfl, gg.sqT hbs, by omega, fun H5 q g5 hq h5q => ?_⟩
        have g6 := gg.trans g5
        refine ⟨q, rfl, ⟨_, SqL.of h5q⟩, fun D hD => lc_list (xs := (held m.2 (at0 m.2 cl)).map vN) (fun i H' => H' D = some (.lst (((((held m.2 (at0 m.2 cl)).take i).filter fun x => x != cl)).map vN)) ∧ Gr H5 H') ⟨upd_same, Gr.new hD⟩ (fun i H' _ h => h.2.sqL (SqL.of h5q)) ?_ ?_⟩
        · rintro i x H7 hx ⟨h7, g7⟩
          have hi : i < (held m.2 (at0 m.2 cl)).length := by
            have := (List.getElem?_eq_some_iff.mp hx).1
            simpa using this
          obtain ⟨y, hy⟩ : ∃ y, (held m.2 (at0 m.2 cl))[i]? = some y := ⟨_, List.getElem?_eq_getElem hi⟩
          have ex : x = vN y := by
            rw [List.getElem?_map, hy] at hx
            exact (Option.some.inj hx).symm
          subst ex
          have hll : ((((held m.2 (at0 m.2 cl)).take i).filter fun x => x != cl).map vN).length < sizeLine := by
            have h2 := List.length_filter_le (fun x => x != cl) ((held m.2 (at0 m.2 cl)).take i)
            have h3 := List.length_take_le i (held m.2 (at0 m.2 cl))
            have h4 : (held m.2 (at0 m.2 cl)).length ≤ m.2.length := by
              have := List.length_filter_le (fun i => at0 m.2 i == at0 m.2 cl) (List.range m.2.length)
              rw [List.length_range] at this
              exact this
            rw [List.length_map, sizeLine_eq]
            omega
          have et : ((held m.2 (at0 m.2 cl)).take (i + 1)).filter (fun x => x != cl) = ((held m.2 (at0 m.2 cl)).take i).filter (fun x => x != cl) ++ (if y != cl then [y] else []) := by
            rw [List.take_add_one, hy, List.filter_append]
            congr 1
            show [y].filter _ = _
            rw [List.filter_cons]
            split <;> simp
          refine ⟨rfl, _, rfl, _, rfl, rfl, _, rfl, ?_⟩
          by_cases h2 : y = cl
          · refine iteF' (by show (!decide (vN y = vN cl)) = false; rw [decide_eq_true (vN_eq.mpr h2)]; rfl) ⟨?_, g7⟩
            rw [h7, et, h2]
            simp
          · refine iteT' (by show (!decide (vN y = vN cl)) = true; rw [decide_eq_false (fun e : vN y = vN cl => h2 (vN_eq.mp e))]; rfl) ⟨_, rfl, _, h7, hll, ?_, Gr.put g7 hD⟩
            rw [upd_same, et, if_pos (by simpa using h2)]
            simp
        · rintro H7 ⟨h7, g7⟩
          rw [List.length_map, List.take_length] at h7
          have g8 := g6.trans g7
          refine ⟨b, D, m.1, lenOf m, m.2, (held m.2 (at0 m.2 cl)).filter fun x => x != cl, rfl, g8.sqT hbs, by rw [harm, hlen]; exact hsize, by omega, by omega, by rw [hlen]; exact hm.len, SqL.of h7, List.Pairwise.filter _ (held_sorted _ _), fun x hx => ?_, fun H9 g9 => hQ _ (g8.trans g9)⟩
          rw [harm, hlen]
          exact held_le hsize x (List.mem_filter.mp hx).1

/-! ### all_takings -/
def tkRow (m : Ch) (l n : Nat) : List (Nat × Nat) := ((List.range n).filter fun c => madeB m l c).map fun c => (l, c)
theorem tkRow_succ (m : Ch) (l n : Nat) : tkRow m l (n + 1) = tkRow m l n ++ (if madeB m l n then [(l, n)] else []) := by
  unfold tkRow
  rw [List.range_succ, List.filter_append, List.map_append]
  congr 1
  rw [List.filter_cons]
  split <;> simp
theorem tkRow_len (m : Ch) (l n : Nat) : (tkRow m l n).length ≤ n := by
  unfold tkRow
  rw [List.length_map]
  have := List.length_filter_le (fun c => madeB m l c) (List.range n)
  rw [List.length_range] at this
  exact this
def tkUpto (m : Ch) (n : Nat) : List (Nat × Nat) := (List.range n).flatMap fun l => tkRow m l m.2.length
theorem tkUpto_succ (m : Ch) (n : Nat) : tkUpto m (n + 1) = tkUpto m n ++ tkRow m n m.2.length := by
  unfold tkUpto
  rw [List.range_succ, List.flatMap_append]
  simp
theorem tkUpto_len (m : Ch) (n : Nat) : (tkUpto m n).length ≤ n * m.2.length := by
  induction n with
  | zero => simp [tkUpto]
  | succ n ih =>
    rw [tkUpto_succ, List.length_append, Nat.succ_mul]
    have := tkRow_len m n m.2.length
    omega
theorem takings_eq (m : Ch) : takings m = tkUpto m (landsOf m) := rfl
theorem Shp.lands_le {A L : Nat} {m : Ch} (h : Shp A L m) : landsOf m ≤ L + 1 := by
  unfold landsOf
  have hne : m.2 ≠ [] := fun e => by have := h.size; rw [e] at this; simp at this
  have := h.low _ (maxL_in hne)
  omega
def spTks (K : PySem.W.Frag) : Sp := fun vs H Q _ => ∃ v m A L, vs = [v] ∧ Tp K H v (kCh m) ∧ Shp A L m ∧ Tabs K H ∧ NewLK K H Q ((takings m).map kTk)
theorem sc_all_takings : FnScope ["chart", "found", "land", "cell"] ["chart"] (defScope s_all_takings) := ⟨rfl, rfl, rfl, by decide +kernel, rfl, by decide +kernel, by decide +kernel⟩
theorem kp_all_takings (T : Tx K mg base) (Fl : Kp w K mg base "lands_of" 1 ["chart"] (spLands K)) (Fm : Kp w K mg base "is_made" 3 ["chart", "taking"] (spMade K)) : Kp w K mg base "all_takings" 4 ["chart"] (spTks K) := by
  refine kp_of (d := d_all_takings) (k := 3) T (by simp [fn]) (by decide +kernel) rfl rfl rfl rfl rfl sc_all_takings (fun vs H Q E ⟨_, _, _, _, e, _⟩ => by rw [e]; rfl) (fun _ _ _ _ _ _ us hl => match us, hl with | [_], _ => rfl) fun Ar outer s H vs Q E hr hsp => ?_
  obtain ⟨v, m, A, L, rfl, hv, hm, hT, hQ⟩ := hsp
  have hv' := hv
  obtain ⟨c, b, rfl, hcs, hbs⟩ := ch_at hv
  have hsize := hm.size
  have hl := hm.lands_le
  have hA4 := hm.a4
  have hL3 : 1 ≤ L ∧ L ≤ 3 := by rcases hm.len with e | e | e <;> omega
  have hAL12 : A * L ≤ 12 := by rcases hm.len with rfl | rfl | rfl <;> omega
  have hne : m.2 ≠ [] := fun e => by rw [e] at hsize; simp at hsize
  refine ⟨_, pss_cons (ps_set (i := 1) sc_all_takings.nd rfl (.inl rfl) (pe_lst pa_nil))
    (pss_cons (ps_for PassesOwn.never rfl (pi_range1 (by rfl) (T.free "range") (pa1 (pe_k Fl rfl (hr.mono (by decide)) (pa1 (pv 0))))) (pg_name (i := 2) sc_all_takings.nd rfl (.inr rfl))
      (pss_one (ps_set (i := 1) sc_all_takings.nd rfl (.inl rfl) (pe_op op_cat (pv 1) (pe_lc (own := [("cell", 3)]) (g := gName 3) rfl sc_all_takings.nd (pi_range1 (by rfl) (T.free "range") (pa1 (pe_callB call_len_seq (by rfl) (T.free "len") PySem.boot_len (pa1 (pe_ix ix_tup (pv 0) pe_int (fun _ _ => rfl))))))
        (blkOk_by (N := ["chart", "found", "land", "cell"]) (sc := defScope s_all_takings) (by decide +kernel)) (fun _ _ _ _ _ => pg_name (i := 3) sc_all_takings.nd rfl (Or.inl rfl)) (fun _ _ _ _ _ => pts_one (pt_val (pe_k Fm rfl hr (pa_cons (pv 0) (pa1 (pe_tup (pa_cons (pv 2) (pa1 (pv 3))))))))) (fun _ _ _ _ _ => pe_tup (pa_cons (pv 2) (pa1 (pv 3)))))))))
    (pss_one (ps_ret (pv 1)))), ?_⟩
  have e1 : atI ([vN m.1, V.ref b] : List V) 1 = some (V.ref b) := atI_nat (j := 1) rfl
  refine ⟨by show 0 ≤ sizeLine; exact Nat.zero_le _, fun f hf => ?_⟩
  have gf := Gr.new (o := .lst []) hf
  refine ⟨_, rfl, _, m, rfl, gf.tp hv', hne, ?_⟩
  refine ⟨landsOf m, rfl, by omega, by omega, for_range (lo := 0) (n := landsOf m) (fun i σ' H' => ∃ f x2 x3, σ' = [some (.ref c), some (.ref f), x2, x3] ∧ H f = none ∧ LcK K f H ((tkUpto m i).map kTk) H') ⟨f, _, _, rfl, hf, LcK.start hf⟩ ?_ ?_⟩
  · rintro i σ' H1 hi ⟨f, x2, x3, rfl, hf, h1⟩
    have e0 : V.int (0 + (i : Int)) = vN i := by simp
    rw [e0]
    have g1 := h1.gr
    refine ⟨_, rfl, _, rfl, c, _, _, _, rfl, rfl, g1.sqT hcs, e1, b, _, rfl, .inr (g1.sqT hbs), m.2.length, ?_, by omega, by omega, fun D hD => lc_range (lo := 0) (n := (m.2.length : Int).toNat) (fun j H' => LcK K D H1 ((tkRow m i j).map kTk) H') (LcK.start hD) ?_ ?_⟩
    · rw [List.length_map]
    · intro j H2 hj h2
      have hj' : j < m.2.length := by simpa using hj
      have e0 : V.int (0 + (j : Int)) = vN j := by simp
      rw [e0]
      have g2 := g1.trans h2.gr
      refine ⟨rfl, _, rfl, _, rfl, _, rfl, by show 2 ≤ sizeLine; rw [sizeLine_eq]; omega, fun t ht => ?_⟩
      have gt := Gr.new (o := .tup [vN i, vN j]) ht
      have g3 := g2.trans gt
      refine ⟨_, _, m, A, L, i, j, rfl, g3.tp hv', tk_mk (t := (i, j)) (.inl (.inl upd_same)), hm, hj', hT.gr g3, fun H3 g4 => ⟨_, rfl, ?_⟩⟩
      have h3 := (h2.step gt).step g4
      have hlen : ((tkRow m i j).map kTk).length < sizeLine := by
        have := tkRow_len m i j
        rw [List.length_map, sizeLine_eq]
        omega
      rw [tkRow_succ, List.map_append]
      cases hb : madeB m i j with
      | true =>
        refine iteT' rfl ⟨_, rfl, _, rfl, by show 2 ≤ sizeLine; rw [sizeLine_eq]; omega, fun u hu => ?_⟩
        have gu := Gr.new (o := .tup [vN i, vN j]) hu
        obtain ⟨xs, ex, el, h4⟩ := h3.put gu (tk_mk (t := (i, j)) (.inl (.inl upd_same))) hD
        exact ⟨xs, ex, by rw [el]; exact hlen, h4⟩
      | false =>
        refine iteF' rfl ?_
        simpa using h3
    · intro H2 h2
      have en : (m.2.length : Int).toNat = m.2.length := by simp
      rw [en] at h2
      have h12 := h1.step h2.gr
      obtain ⟨zs, ez, tz, _⟩ := h2
      obtain ⟨xs, ex, tx, gx⟩ := h12
      have l1 := tx.length
      have l2 := tz.length
      rw [List.length_map] at l1 l2
      have l3 := tkUpto_len m i
      have l4 := tkRow_len m i m.2.length
      have l5 : i * m.2.length ≤ 4 * 13 := Nat.mul_le_mul (by omega) (by omega)
      refine ⟨f, D, xs, zs, rfl, rfl, ex, ez, by rw [sizeLine_eq]; omega, fun p hp => ?_⟩
      refine ⟨p, _, _, rfl, gx.free hp, xs ++ zs, upd_same, ?_, Gr.put gx (gx.free hp)⟩
      rw [tkUpto_succ, List.map_append]
      exact ((Gr.new hp).tps tx).append ((Gr.new hp).tps tz)
  · rintro σ' H1 ⟨f, x2, x3, rfl, hf, h1⟩
    refine ⟨_, rfl, ?_⟩
    rw [takings_eq] at hQ
    exact hQ.of hf h1
/-! ### taken -/
def spTaken (K : PySem.W.Frag) : Sp := fun vs H Q _ => ∃ v t m l c, vs = [v, t] ∧ Tp K H v (kCh m) ∧ Tp K H t (kTk (l, c)) ∧ c < m.2.length ∧ m.2.length ≤ 100 ∧ NewK K H Q (kCh (taken m (l, c)))
theorem sc_taken : FnScope ["chart", "taking", "land", "cell"] ["chart", "taking"] (defScope s_taken) := ⟨rfl, rfl, rfl, by decide +kernel, rfl, by decide +kernel, by decide +kernel⟩
theorem cut_none_some (ns : List Nat) (c : Nat) (h : c < ns.length) : cutV (ns.map vN) none (some (c : Int)) = (ns.take c).map vN := by
  unfold cutV
  rw [HT.sIx_nat, HT.sIx_none, List.length_map, Nat.min_eq_left (Nat.le_of_lt h), List.drop_zero, ← List.map_take, Nat.sub_zero]
theorem cut_some_none (ns : List Nat) (c : Nat) (h : c + 1 ≤ ns.length) : cutV (ns.map vN) (some ((c : Int) + 1)) none = (ns.drop (c + 1)).map vN := by
  have e : (c : Int) + 1 = ((c + 1 : Nat) : Int) := by push_cast; rfl
  unfold cutV
  rw [e, HT.sIx_nat, HT.sIx_none, List.length_map, Nat.min_eq_left h, ← List.map_drop, ← List.map_take, List.take_of_length_le (by simp)]
theorem kp_taken (T : Tx K mg base) : Kp w K mg base "taken" 1 ["chart", "taking"] (spTaken K) := by
  refine kp_of (d := d_taken) (k := 0) T (by simp [fn]) (by decide +kernel) rfl rfl rfl rfl rfl sc_taken (fun vs H Q E ⟨_, _, _, _, _, e, _⟩ => by rw [e]; rfl) (fun _ _ _ _ _ _ us hl => match us, hl with | [_, _], _ => rfl) fun Ar outer s H vs Q E hr hsp => ?_
  obtain ⟨v, t, m, l, cl, rfl, hv, ht, hc, hlen, hQ⟩ := hsp
  obtain ⟨c, b, rfl, hcs, hbs⟩ := ch_at hv
  obtain ⟨ta, rfl, hta⟩ := tk_at ht
  refine ⟨_, pss_cons (ps_asg (pv 1) (pg_tup (by rfl) (pgs_cons (pg_name (i := 2) sc_taken.nd rfl (.inl rfl)) (pgs_cons (pg_name (i := 3) sc_taken.nd rfl (.inl rfl)) pgs_nil))))
    (pss_one (ps_ret (pe_tup (pa_cons (pe_ix ix_tup (pv 0) pe_int (fun _ _ => rfl)) (pa1 (pe_tup (StX.pa_star (pe_slice sl_tupA (pe_ix ix_tup (pv 0) pe_int (fun _ _ => rfl)) po_none (po_some (pv 3)))
      (pa_cons (pv 2) (StX.pa_star (pe_slice sl_tupA (pe_ix ix_tup (pv 0) pe_int (fun _ _ => rfl)) (po_some (pe_op op_add (pv 3) pe_int)) po_none) pa_nil))))))))), ?_⟩
  have e1 : atI ([vN m.1, V.ref b] : List V) 1 = some (V.ref b) := atI_nat (j := 1) rfl
  have elen : (m.2.map vN).length = m.2.length := List.length_map ..
  refine ⟨_, rfl, ta, _, rfl, hta, rfl, _, _, rfl, _, _, rfl, rfl, ?_⟩
  refine ⟨_, rfl, c, _, _, _, rfl, rfl, hcs, atI_nat (j := 0) rfl, _, rfl, c, _, _, _, rfl, rfl, hcs, e1, _, rfl, _, rfl, b, _, rfl, hbs, fun hw => ?_, fun _ p hp => ?_⟩
  · exfalso
    have h2 := hw.2
    rw [HT.sIx_nat, elen] at h2
    omega
  · have gp := Gr.new (o := .tup (cutV (m.2.map vN) none (some (cl : Int)))) hp
    refine ⟨p, _, rfl, .inl (.inl (.inl upd_same)), _, rfl, _, rfl, c, _, _, _, rfl, rfl, gp.sqT hcs, e1, _, rfl, _, _, rfl, rfl, _, rfl, b, _, rfl, gp.sqT hbs, fun hw => ?_, fun _ q hq => ?_⟩
    · exfalso
      have h2 := hw.1
      have e : (cl : Int) + 1 = ((cl + 1 : Nat) : Int) := by push_cast; rfl
      rw [e, HT.sIx_nat, elen] at h2
      omega
    · have gq := Gr.new (o := .tup (cutV (m.2.map vN) (some ((cl : Int) + 1)) none)) hq
      have eall : cutV (m.2.map vN) none (some (cl : Int)) ++ (vN l :: (cutV (m.2.map vN) (some ((cl : Int) + 1)) none ++ [])) = (taken m (l, cl)).2.map vN := by
        rw [cut_none_some _ _ hc, cut_some_none _ _ hc]
        simp [taken]
      refine ⟨q, _, rfl, .inl (.inl (.inl upd_same)), ?_⟩
      refine ⟨?_, fun r hr' => ?_⟩
      · have := congrArg List.length eall
        rw [this, List.length_map, sizeLine_eq]
        simp [taken]
        omega
      · have gr := Gr.new (o := .tup (cutV (m.2.map vN) none (some (cl : Int)) ++ (vN l :: (cutV (m.2.map vN) (some ((cl : Int) + 1)) none ++ [])))) hr'
        refine ⟨by show 2 ≤ sizeLine; rw [sizeLine_eq]; omega, fun u hu => ?_⟩
        have gu := Gr.new (o := .tup [vN m.1, V.ref r]) hu
        refine hQ _ _ (((gp.trans gq).trans gr).trans gu) (ch_mk (b := r) (.inl (.inl upd_same)) ?_)
        refine gu.sqT (.inl (.inl ?_))
        rw [upd_same, ← eall]
end
end SL
end

section
set_option Elab.async false
set_option linter.all false
set_option maxRecDepth 100000
set_option maxHeartbeats 4000000
/-! walks: all_of_class, all_still -/
namespace SL
open PySem PySem.Spec PyProof.Rows L2
/-! ### the search's state -/
def kvT (F : List Ch) : List (NK × V) := F.map fun x => (kCh x, V.bl true)
theorem kvT_val (F : List Ch) (y : Ch) : valV (kvT F) (kCh y) = if y ∈ F then some (.bl true) else none := by
  induction F with
  | nil => rfl
  | cons x F ih =>
    show valV ((kCh x, V.bl true) :: kvT F) (kCh y) = _
    by_cases e : x = y
    · subst e
      rw [valV_pos rfl, if_pos List.mem_cons_self]
    · rw [valV_neg (fun z => e (kCh_inj z)), ih]
      have : y ∈ x :: F ↔ y ∈ F := by simp [Ne.symm e]
      simp only [this]
theorem kvT_put {F : List Ch} {y : Ch} (h : y ∉ F) : putK (kvT F) (kCh y) (.bl true) = kvT (F ++ [y]) := by
  rw [putK_new _ (by rw [kvT_val, if_neg h])]
  simp [kvT]
theorem kvT_keys (F : List Ch) : (kvT F).map (·.1) = F.map kCh := by simp [kvT, Function.comp_def]
structure BfsSt (w : World) (K : PySem.W.Frag) (H : Hp) (d mo : Addr) (F M : List Ch) (H' : Hp) : Prop where
  gr : Gr H H'
  dat : DAt P0 w K H' d (kvT F)
  mol : ∃ xs, H' mo = some (.lst xs) ∧ TpAll K H' xs (M.map kCh)
section
variable {w : World} {K : PySem.W.Frag} {H H1 H2 : Hp} {d mo : Addr} {F M : List Ch}
theorem BfsSt.step (h : BfsSt w K H d mo F M H1) (g : Gr H1 H2) : BfsSt w K H d mo F M H2 := by
  obtain ⟨xs, e, t⟩ := h.mol
  exact ⟨h.gr.trans g, g.dat h.dat, xs, g.lst e, g.tps t⟩
theorem dat_not_tup (x : DAt P0 w K H1 d (kvT F)) : ∀ xs, ¬ Rd H1 d (.tup xs) := by
  obtain ⟨ks, e, _⟩ := x
  exact not_tup_ext e
/-- one is found -/
theorem BfsSt.add {vy : V} {y : Ch} (h : BfsSt w K H d mo F M H1) (hd : H d = none) (hm : H mo = none) (hdm : d ≠ mo) (ty : Tp K H1 vy (kCh y)) (hy : y ∉ F) (hb : ∀ c, c ≠ d → H2 c = H1 c) (D2 : DAt P0 w K H2 d (putK (kvT F) (kCh y) (.bl true))) :
    ∃ xs, H2 mo = some (.lst xs) ∧ xs.length = M.length ∧ BfsSt w K H d mo (F ++ [y]) (M ++ [y]) (upd H2 mo (.lst (xs ++ [vy]))) ∧
      (∀ b, b ≠ d → b ≠ mo → upd H2 mo (.lst (xs ++ [vy])) b = H1 b) ∧ ∀ vs ks, TpAll K H1 vs ks → TpAll K (upd H2 mo (.lst (xs ++ [vy]))) vs ks := by
  obtain ⟨xs, e, t⟩ := h.mol
  have e2 : H2 mo = some (.lst xs) := by rw [hb mo (Ne.symm hdm)]; exact e
  have tt : ∀ vs ks, TpAll K H1 vs ks → TpAll K (upd H2 mo (.lst (xs ++ [vy]))) vs ks := fun vs ks t =>
    tps_but (fun b hb => upd_ne hb) (not_tup_lst e2) (tps_but hb (dat_not_tup h.dat) t)
  refine ⟨xs, e2, by rw [t.length, List.length_map], ⟨?_, ?_, xs ++ [vy], upd_same, ?_⟩, fun b h1 h2 => ?_, tt⟩
  · exact Gr.put (h.gr.but hd hb) hm
  · rw [kvT_put hy] at D2
    exact D2.but hdm (fun b hb => upd_ne hb) (not_tup_lst e2)
  · rw [List.map_append]
    refine (tt _ _ t).append (.cons ?_ .nil)
    have := tt [vy] [kCh y] (.cons ty .nil)
    cases this with
    | cons t1 _ => exact t1
  · rw [upd_ne h2, hb b h1]
end
structure CGood (R : Ch → Prop) (st : List Ch × List Ch) : Prop where
  nd : st.1.Nodup
  rch : ∀ x ∈ st.1, R x
  le : st.2.length ≤ st.1.length
theorem CGood.add {R : Ch → Prop} {st : List Ch × List Ch} {y : Ch} (g : CGood R st) (hy : y ∉ st.1) (hr : R y) : CGood R (st.1 ++ [y], st.2 ++ [y]) := by
  refine ⟨?_, fun x hx => ?_, ?_⟩
  · rw [List.nodup_append]
    exact ⟨g.nd, by simp, fun x hx z hz => by rw [List.mem_singleton.mp hz]; exact fun e => hy (e ▸ hx)⟩
  · rcases List.mem_append.mp hx with hx | hx
    · exact g.rch x hx
    · rw [List.mem_singleton.mp hx]; exact hr
  · have := g.le
    simp only [List.length_append, List.length_singleton]
    omega
/-- what is searched is of one shape, and not too much -/
structure Clos (A L : Nat) (nx : Ch → List Ch) (S : List Ch) : Prop where
  shp : ∀ x, Rch nx S x → Shp A L x
  few : ∀ l : List Ch, l.Nodup → (∀ x ∈ l, Rch nx S x) → l.length ≤ sizeLine
def cStep (x : Ch) (st : List Ch × List Ch) (t : Nat × Nat) : List Ch × List Ch := if taken x t ∈ st.1 then st else (st.1 ++ [taken x t], st.2 ++ [taken x t])
theorem cStep_fold (x : Ch) (st : List Ch × List Ch) : addNew (nextsOf x) st = (takings x).foldl (cStep x) st := by
  unfold addNew nextsOf
  rw [List.foldl_map]
  congr 1
  funext st t
  unfold cStep
  by_cases h2 : taken x t ∈ st.1 <;> simp [h2]
def cStepS (x : Ch) (st : List Ch × List Ch) (t : Nat × Nat) : List Ch × List Ch := if t.2 ≠ 0 ∧ taken x t ∉ st.1 then (st.1 ++ [taken x t], st.2 ++ [taken x t]) else st
theorem cStepS_fold (x : Ch) (st : List Ch × List Ch) : addNew (stillOf x) st = (takings x).foldl (cStepS x) st := by
  unfold addNew stillOf
  rw [List.foldl_map, List.foldl_filter]
  congr 1
  funext st t
  unfold cStepS
  by_cases h1 : t.2 = 0 <;> by_cases h2 : taken x t ∈ st.1 <;> simp [h1, h2]
theorem takings_cell {m : Ch} {t : Nat × Nat} (h : t ∈ takings m) : t.2 < m.2.length ∧ t.1 < landsOf m ∧ madeB m t.1 t.2 = true := by
  unfold takings at h
  obtain ⟨l, hl, h⟩ := List.mem_flatMap.mp h
  obtain ⟨c, hc, rfl⟩ := List.mem_map.mp h
  obtain ⟨h1, h2⟩ := List.mem_filter.mp hc
  exact ⟨List.mem_range.mp h1, List.mem_range.mp hl, h2⟩
theorem ch_tup {K : PySem.W.Frag} {H : Hp} {v : V} {m : Ch} (h : Tp K H v (kCh m)) : ∃ c, v = .ref c := by
  obtain ⟨c, _, e, _⟩ := ch_at h
  exact ⟨c, e⟩
section
variable {w : World} {K : PySem.W.Frag} {mg : Str → Option Value} {base : Heap}
def spClass (K : PySem.W.Frag) : Sp := fun vs H Q _ => ∃ v m A L, vs = [v] ∧ Tp K H v (kCh m) ∧ Tabs K H ∧ Clos A L nextsOf [m] ∧ ∀ found : List Ch, found.Nodup → (∀ x, x ∈ found ↔ Rch nextsOf [m] x) → NewLK K H Q (found.map kCh)
theorem sc_all_of_class : FnScope ["chart", "found", "rows", "more", "here", "taking", "there"] ["chart"] (defScope s_all_of_class) := ⟨rfl, rfl, rfl, by decide +kernel, rfl, by decide +kernel, by decide +kernel⟩
theorem kp_all_of_class (T : Tx K mg base) (Ft : Kp w K mg base "all_takings" 4 ["chart"] (spTks K)) (Fk : Kp w K mg base "taken" 1 ["chart", "taking"] (spTaken K)) : Kp w K mg base "all_of_class" 5 ["chart"] (spClass K) := by
  refine kp_of (d := d_all_of_class) (k := 4) T (by simp [fn]) (by decide +kernel) rfl rfl rfl rfl rfl sc_all_of_class (fun vs H Q E ⟨_, _, _, _, e, _⟩ => by rw [e]; rfl) (fun _ _ _ _ _ _ us hl => match us, hl with | [_], _ => rfl) fun Ar outer s H vs Q E hr hsp => ?_
  obtain ⟨v, m, A, L, rfl, hv, hT, hC, hQ⟩ := hsp
  refine ⟨_, pss_cons (ps_par (i := 1) (j := 2) rfl sc_all_of_class.nd rfl rfl (by decide) rfl rfl (pa_cons (pe_disp1 (units9 hr) (pv 0) pe_bl) (pa1 (pe_lst (pa1 (pv 0))))) rfl)
    (pss_cons (ps_while PassesOwn.never (pt_truth (pv 2) (by intro _; rfl))
      (pss_cons (ps_set (i := 3) sc_all_of_class.nd rfl (.inl rfl) (pe_lst pa_nil))
      (pss_cons (ps_for PassesOwn.never rfl (pi_list (pv 2)) (pg_name (i := 4) sc_all_of_class.nd rfl (.inl rfl))
        (pss_one (ps_for PassesOwn.never rfl (pi_list (pe_k Ft rfl hr (pa1 (pv 4)))) (pg_name (i := 5) sc_all_of_class.nd rfl (.inl rfl))
          (pss_cons (ps_set (i := 6) sc_all_of_class.nd rfl (.inl rfl) (pe_k Fk rfl (hr.mono (by decide)) (pa_cons (pv 4) (pa1 (pv 5)))))
          (pss_one (ps_if (pt_cmpR (op_notinM (units9 hr)) (pv 6) (pv 1) rfl)
            (pss_cons (ps_asg pe_bl (pg_sub (pv 1) (pv 6) (set_M (units9 hr))))
            (pss_one (ps_expr (pe_bm PySem.F.plainAttrs_list PySem.F.slot_list_append PySem.F.type_list_append mt_append (pv 3) (pa1 (pv 6))))))
            pss_nil))))))
      (pss_one (ps_set (i := 2) sc_all_of_class.nd rfl (.inl rfl) (pv 3))))))
    (pss_one (ps_ret (pe_callTy (call_listM rfl) (by rfl) (T.free "list") (by decide +kernel) (pa1 (pv 1)))))), ?_⟩
  obtain ⟨c0, rfl⟩ := ch_tup hv
  refine fun d Hd hd hb0 hD0 => ⟨_, rfl, c0, kCh m, rfl, tp_but hb0 (not_tup_none hd) hv, ch_depth m, hD0, fun Hd2 hb1 hD1 => ?_⟩
  have hbb : ∀ c, c ≠ d → Hd2 c = H c := fun c hc => (hb1 c hc).trans (hb0 c hc)
  have gd : Gr H Hd2 := (Gr.refl H).but hd hbb
  refine ⟨_, rfl, by show 1 ≤ sizeLine; rw [sizeLine_eq]; omega, fun r hr' => ?_⟩
  have hdn : Hd2 d ≠ none := by
    obtain ⟨ks, e, _⟩ := hD1
    rw [e]
    simp
  have hdr : d ≠ r := fun e => hdn (e ▸ hr')
  have hrn : H r = none := by rw [← hbb r (Ne.symm hdr)]; exact hr'
  refine ⟨_, _, rfl, ?_⟩
  have gr := Gr.new (o := .lst [V.ref c0]) hr'
  have R := Rch nextsOf [m]
  refine ⟨fun mm σ H1 => ∃ found rows r xr x3 x4 x5 x6, σ = [some (.ref c0), some (.ref d), some (.ref r), x3, x4, x5, x6] ∧ Gr H H1 ∧ DAt P0 w K H1 d (kvT found) ∧ H1 r = some (.lst xr) ∧ TpAll K H1 xr (rows.map kCh) ∧ d ≠ r ∧ H r = none ∧
      BInv nextsOf [m] found rows ∧ mm = bfsM sizeLine found rows,
    ⟨_, [m], [m], r, _, _, _, _, _, rfl, gd.trans gr, gr.dat hD1, upd_same, .cons ((gd.trans gr).tp hv) .nil, hdr, hrn, bfs_start (by simp), rfl⟩, ?_⟩
  rintro mm σ H1 ⟨found, rows, r, xr, x3, x4, x5, x6, rfl, g1, D1, h1r, t1r, hdr, hrn, BI, rfl⟩
  refine ⟨_, rfl, _, .inl ⟨_, SqL.of h1r, rfl⟩, ?_⟩
  have lr := t1r.length
  rw [List.length_map] at lr
  cases rows with
  | nil =>
    obtain rfl : xr = [] := List.length_eq_zero_iff.mp lr
    refine iteF' rfl ?_
    refine ⟨_, rfl, d, _, rfl, D1, fun p vs hp tp => ?_⟩
    rw [kvT_keys] at tp
    exact hQ found BI.nd (bfs_end BI) _ _ _ (Gr.put g1 (g1.free hp)) (g1.free hp) upd_same ((Gr.new hp).tps tp)
  | cons z zs =>
    have hxe : xr.isEmpty = false := by cases xr with | nil => simp at lr | cons _ _ => rfl
    refine iteT' (by rw [hxe]; rfl) ?_
    generalize hrows : z :: zs = rows at t1r BI lr
    have hrne : rows ≠ [] := by rw [← hrows]; simp
    refine ⟨fun σ' H' => ∃ m', m' < bfsM sizeLine found rows ∧ ∃ found rows r xr x3 x4 x5 x6, σ' = [some (.ref c0), some (.ref d), some (.ref r), x3, x4, x5, x6] ∧ Gr H H' ∧ DAt P0 w K H' d (kvT found) ∧ H' r = some (.lst xr) ∧ TpAll K H' xr (rows.map kCh) ∧ d ≠ r ∧ H r = none ∧
      BInv nextsOf [m] found rows ∧ m' = bfsM sizeLine found rows, fun σ' H' hh => hh, ?_⟩
    refine ⟨by show 0 ≤ sizeLine; exact Nat.zero_le _, fun mo hmo => ?_⟩
    have hrm : r ≠ mo := ne_of_none h1r hmo
    have hdn : H1 d ≠ none := by
      obtain ⟨ks, e, _⟩ := D1
      rw [e]
      simp
    have hdm : d ≠ mo := fun e => hdn (e ▸ hmo)
    have hmn : H mo = none := g1.free hmo
    have gmo := Gr.new (o := .lst []) hmo
    have g0 : CGood (Rch nextsOf [m]) (found, []) := ⟨BI.nd, BI.rch, Nat.zero_le _⟩
    refine ⟨_, rfl, r, rfl, ⟨_, SqL.of (by rw [upd_ne hrm]; exact h1r)⟩, for_list (xs := xr) (fun i σ' H' => ∃ x4 x5 x6, σ' = [some (.ref c0), some (.ref d), some (.ref r), some (.ref mo), x4, x5, x6] ∧
        BfsSt w K H d mo ((rows.take i).foldl (fun st x => addNew (nextsOf x) st) (found, [])).1 ((rows.take i).foldl (fun st x => addNew (nextsOf x) st) (found, [])).2 H' ∧
        H' r = some (.lst xr) ∧ TpAll K H' xr (rows.map kCh) ∧ CGood (Rch nextsOf [m]) ((rows.take i).foldl (fun st x => addNew (nextsOf x) st) (found, [])))
      ⟨_, _, _, rfl, ⟨g1.trans gmo, gmo.dat D1, [], upd_same, .nil⟩, by rw [upd_ne hrm]; exact h1r, gmo.tps t1r, g0⟩ (fun i σ' H' _ ⟨_, _, _, _, _, e, _⟩ => SqL.of e) ?_ ?_⟩
    · rintro i x σ' H2 hx ⟨x4, x5, x6, rfl, B2, h2r, t2r, gi⟩
      obtain ⟨kc, ekc, tx⟩ := t2r.get hx
      obtain ⟨hc, ehc, rfl⟩ : ∃ hc, rows[i]? = some hc ∧ kCh hc = kc := by
        rw [List.getElem?_map] at ekc
        cases e : rows[i]? with
        | none => rw [e] at ekc; cases ekc
        | some y => rw [e] at ekc; exact ⟨y, rfl, Option.some.inj ekc⟩
      have hreach : Rch nextsOf [m] hc := BI.rch hc (BI.sub hc (List.mem_of_getElem? ehc))
      have hshp := hC.shp hc hreach
      have hsz := hshp.size
      have hAL12 : A * L ≤ 12 := by have := hshp.a4; rcases hshp.len with rfl | rfl | rfl <;> omega
      have et := take_succ_foldl (fun (st : List Ch × List Ch) x => addNew (nextsOf x) st) (found, []) rows i hc ehc
      generalize (rows.take i).foldl (fun st x => addNew (nextsOf x) st) (found, []) = st at B2 gi et
      rw [et]
      rw [cStep_fold]
      refine ⟨_, rfl, _, hc, A, L, rfl, tx, hshp, hT.gr B2.gr, fun H3 p xp g3 hp h3p t3p => ?_⟩
      obtain ⟨xm, h2m, t2m⟩ := B2.mol
      have hmp : mo ≠ p := ne_of_none h2m hp
      have hrp : r ≠ p := ne_of_none h2r hp
      have hdp : d ≠ p := fun e => by
        obtain ⟨ks, e2, _⟩ := B2.dat
        rw [e, hp] at e2
        cases e2
      refine ⟨p, rfl, ⟨_, SqL.of h3p⟩, for_list (xs := xp) (fun j σ' H' => ∃ x5 x6, σ' = [some (.ref c0), some (.ref d), some (.ref r), some (.ref mo), some x, x5, x6] ∧
          BfsSt w K H d mo (((takings hc).take j).foldl (cStep hc) st).1 (((takings hc).take j).foldl (cStep hc) st).2 H' ∧
          H' r = some (.lst xr) ∧ TpAll K H' xr (rows.map kCh) ∧ H' p = some (.lst xp) ∧ TpAll K H' xp ((takings hc).map kTk) ∧ TpAll K H' [x] [kCh hc] ∧ CGood (Rch nextsOf [m]) (((takings hc).take j).foldl (cStep hc) st))
        ⟨_, _, rfl, B2.step g3, g3.lst h2r, g3.tps t2r, h3p, t3p, .cons (g3.tp tx) .nil, gi⟩ (fun i σ' H' _ ⟨_, _, _, _, _, _, e, _⟩ => SqL.of e) ?_ ?_⟩
      · rintro j y σ' H4 hy ⟨x5, x6, rfl, B4, h4r, t4r, h4p, t4p, t4x, gj⟩
        obtain ⟨kt, ekt, ty⟩ := t4p.get hy
        obtain ⟨tk, etk, rfl⟩ : ∃ tk, (takings hc)[j]? = some tk ∧ kTk tk = kt := by
          rw [List.getElem?_map] at ekt
          cases e : (takings hc)[j]? with
          | none => rw [e] at ekt; cases ekt
          | some z => rw [e] at ekt; exact ⟨z, rfl, Option.some.inj ekt⟩
        have htk := List.mem_of_getElem? etk
        obtain ⟨hcell, _, _⟩ := takings_cell htk
        have et := take_succ_foldl (cStep hc) st (takings hc) j tk etk
        generalize ((takings hc).take j).foldl (cStep hc) st = sj at B4 gj et
        rw [et]
        have tx4 : Tp K H4 x (kCh hc) := by cases t4x with | cons t _ => exact t
        obtain ⟨tl, tc⟩ := tk
        refine ⟨_, rfl, _, rfl, x, y, hc, tl, tc, rfl, tx4, ty, hcell, by omega, fun H5 q g5 t5 => ?_⟩
        have B5 := B4.step g5
        refine ⟨_, rfl, _, rfl, q, kCh (taken hc (tl, tc)), d, _, rfl, rfl, t5, ch_depth _, B5.dat, _, rfl, ?_⟩
        by_cases hin : taken hc (tl, tc) ∈ sj.1
        · refine iteF' (by rw [kvT_val, if_pos hin]; rfl) ?_
          have es : cStep hc sj (tl, tc) = sj := by unfold cStep; rw [if_pos hin]
          rw [es]
          exact ⟨_, _, rfl, B5, g5.lst h4r, g5.tps t4r, g5.lst h4p, g5.tps t4p, g5.tps t4x, gj⟩
        · refine iteT' (by rw [kvT_val, if_neg hin]; rfl) ?_
          have es : cStep hc sj (tl, tc) = (sj.1 ++ [taken hc (tl, tc)], sj.2 ++ [taken hc (tl, tc)]) := by unfold cStep; rw [if_neg hin]
          rw [es]
          have gj' := gj.add hin (.step hreach (List.mem_map.mpr ⟨_, htk, rfl⟩))
          have hlen := hC.few _ gj'.nd gj'.rch
          rw [List.length_append, List.length_singleton] at hlen
          refine ⟨_, rfl, _, rfl, q, kCh (taken hc (tl, tc)), d, _, rfl, rfl, t5, ch_depth _, B5.dat, by unfold kvT; rw [List.length_map]; omega, fun H6 hb6 D6 => ?_⟩
          obtain ⟨xs, ex, lx, B7, hb7, tt7⟩ := B5.add hd hmn hdm t5 hin hb6 D6
          have h5r := g5.lst h4r
          have h5p := g5.lst h4p
          refine ⟨_, rfl, .inl ⟨rfl, _, SqL.of ex⟩, _, rfl, mo, xs, _, rfl, rfl, ex, by rw [lx]; have := gj.le; omega, ?_⟩
          exact ⟨_, _, rfl, B7, by rw [hb7 r (Ne.symm hdr) hrm]; exact h5r, tt7 _ _ (g5.tps t4r), by rw [hb7 p (Ne.symm hdp) (Ne.symm hmp)]; exact h5p, tt7 _ _ (g5.tps t4p), tt7 _ _ (g5.tps t4x), gj'⟩
      · rintro σ' H4 ⟨x5, x6, rfl, B4, h4r, t4r, h4p, t4p, t4x, gj⟩
        have ll := t4p.length
        rw [List.length_map] at ll
        rw [ll, List.take_length] at B4 gj
        exact ⟨_, _, _, rfl, B4, h4r, t4r, gj⟩
    · rintro σ' H2 ⟨x4, x5, x6, rfl, B2, h2r, t2r, gi⟩
      rw [lr, List.take_length] at B2 gi
      obtain ⟨ext, e1, BI2⟩ := bfs_turn BI
      unfold bfsTurn at e1
      rw [e1] at B2 gi
      have hle := hC.few _ gi.nd gi.rch
      obtain ⟨xm, h2m, t2m⟩ := B2.mol
      exact ⟨_, rfl, _, bfsM_lt hrne hle, found ++ ext, ext, mo, xm, _, _, _, _, rfl, B2.gr, B2.dat, h2m, t2m, hdm, hmn, BI2, rfl⟩
end
end SL
end

section
set_option Elab.async false
set_option linter.all false
set_option maxRecDepth 100000
set_option maxHeartbeats 4000000
/-! walks: all_still -/
namespace SL
open PySem PySem.Spec PyProof.Rows L2
section
variable {w : World} {K : PySem.W.Frag} {mg : Str → Option Value} {base : Heap}
def spStill (K : PySem.W.Frag) : Sp := fun vs H Q _ => ∃ (q : Addr) (xs : List V) (S : List Ch) (A L : Nat), vs = [.ref q] ∧ H q = some (.lst xs) ∧ TpAll K H xs (S.map kCh) ∧ S.Nodup ∧ Tabs K H ∧ Clos A L stillOf S ∧ ∀ found : List Ch, found.Nodup → (∀ x, x ∈ found ↔ Rch stillOf S x) → NewLK K H Q (found.map kCh)
theorem sc_all_still : FnScope ["some", "found", "rows", "more", "here", "taking", "there", "one"] ["some"] (defScope s_all_still) := ⟨rfl, rfl, rfl, by decide +kernel, rfl, by decide +kernel, by decide +kernel⟩
theorem kp_all_still (T : Tx K mg base) (Ft : Kp w K mg base "all_takings" 4 ["chart"] (spTks K)) (Fk : Kp w K mg base "taken" 1 ["chart", "taking"] (spTaken K)) : Kp w K mg base "all_still" 5 ["some"] (spStill K) := by
  refine kp_of (d := d_all_still) (k := 4) T (by simp [fn]) (by decide +kernel) rfl rfl rfl rfl rfl sc_all_still (fun vs H Q E ⟨_, _, _, _, _, e, _⟩ => by rw [e]; rfl) (fun _ _ _ _ _ _ us hl => match us, hl with | [_], _ => rfl) fun Ar outer s H vs Q E hr hsp => ?_
  obtain ⟨r0, xr0, S, A, L, rfl, hr0, tS, ndS, hT, hC, hQ⟩ := hsp
  refine ⟨_, pss_cons (ps_par (i := 1) (j := 2) rfl sc_all_still.nd rfl rfl (by decide) rfl rfl (pa_cons (pe_dcM (own := [("one", 7)]) (g := gName 7) (units9 hr) rfl sc_all_still.nd (pi_list (pv 0))
      (blkOk_by (N := ["some", "found", "rows", "more", "here", "taking", "there", "one"]) (sc := defScope s_all_still) (by decide +kernel)) (fun _ _ _ _ _ => pg_name (i := 7) sc_all_still.nd rfl (Or.inl rfl)) (fun _ _ _ _ _ => pv 7) (fun _ _ _ _ _ => pe_bl)) (pa1 (pv 0))) rfl)
    (pss_cons (ps_while PassesOwn.never (pt_truth (pv 2) (by intro _; rfl))
      (pss_cons (ps_set (i := 3) sc_all_still.nd rfl (.inl rfl) (pe_lst pa_nil))
      (pss_cons (ps_for PassesOwn.never rfl (pi_list (pv 2)) (pg_name (i := 4) sc_all_still.nd rfl (.inl rfl))
        (pss_one (ps_for PassesOwn.never rfl (pi_list (pe_k Ft rfl hr (pa1 (pv 4)))) (pg_name (i := 5) sc_all_still.nd rfl (.inl rfl))
          (pss_cons (ps_set (i := 6) sc_all_still.nd rfl (.inl rfl) (pe_k Fk rfl (hr.mono (by decide)) (pa_cons (pv 4) (pa1 (pv 5)))))
          (pss_one (ps_if (PW.pt (pw_and (pt_cmpR op_ne (pe_ix ix_tup (pv 5) pe_int (fun _ _ => rfl)) pe_int (nomark _)) (pw_and1 (pt_cmpR (op_notinM (units9 hr)) (pv 6) (pv 1) rfl))))
            (pss_cons (ps_asg pe_bl (pg_sub (pv 1) (pv 6) (set_M (units9 hr))))
            (pss_one (ps_expr (pe_bm PySem.F.plainAttrs_list PySem.F.slot_list_append PySem.F.type_list_append mt_append (pv 3) (pa1 (pv 6))))))
            pss_nil))))))
      (pss_one (ps_set (i := 2) sc_all_still.nd rfl (.inl rfl) (pv 3))))))
    (pss_one (ps_ret (pe_callTy (call_listM rfl) (by rfl) (T.free "list") (by decide +kernel) (pa1 (pv 1)))))), ?_⟩
  have l0 := tS.length
  rw [List.length_map] at l0
  have fewS := hC.few S ndS fun x hx => .base hx
  refine ⟨_, rfl, r0, rfl, ⟨_, SqL.of hr0⟩, fun d Hd hd hb0 hD0 => ⟨fun i mm H' => mm = S.length - i ∧ i ≤ S.length ∧ DAt P0 w K H' d (kvT (S.take i)) ∧ ∀ c, c ≠ d → H' c = H c, ⟨S.length, by simp, Nat.zero_le _, by rw [List.take_zero]; exact hD0, hb0⟩, ?_⟩⟩
  have hrd : r0 ≠ d := ne_of_none hr0 hd
  rintro i mm H' ⟨rfl, hi, D', hb'⟩
  have g' : Gr H H' := (Gr.refl H).but hd hb'
  by_cases hlt : i < S.length
  · refine .inr ⟨⟨xr0, xr0[i]'(by omega), SqL.of (g'.lst hr0), List.getElem?_eq_getElem _⟩, fun H'' => S.length - (i + 1) = S.length - (i + 1) ∧ DAt P0 w K H'' d (kvT (S.take (i + 1))) ∧ ∀ c, c ≠ d → H'' c = H c, fun H'' h => ⟨S.length - (i + 1), by omega, rfl, hlt, h.2.1, h.2.2⟩, fun x H'' hy => ?_⟩
    obtain ⟨rfl, hx⟩ := hy
    have hx := hx _ (SqL.of (g'.lst hr0))
    obtain ⟨kc, ekc, tx⟩ := (g'.tps tS).get hx
    obtain ⟨hc, ehc, rfl⟩ : ∃ hc, S[i]? = some hc ∧ kCh hc = kc := by
      rw [List.getElem?_map] at ekc
      cases e : S[i]? with
      | none => rw [e] at ekc; cases ekc
      | some y => rw [e] at ekc; exact ⟨y, rfl, Option.some.inj ekc⟩
    obtain ⟨cx, rfl⟩ := ch_tup tx
    refine ⟨rfl, _, rfl, kvT (S.take i), cx, kCh hc, rfl, tx, ch_depth _, D', ?_, fun H6 hb6 D6 => ⟨rfl, ?_, fun c hc => (hb6 c hc).trans (hb' c hc)⟩⟩
    · unfold kvT
      rw [List.length_map, List.length_take]
      omega
    · have et : S.take (i + 1) = S.take i ++ [hc] := by rw [List.take_add_one, ehc]; rfl
      have hn : hc ∉ S.take i := fun hm => by
        obtain ⟨j, hj, ej⟩ := List.getElem_of_mem hm
        rw [List.length_take] at hj
        rw [List.getElem_take] at ej
        obtain ⟨hi2, ei⟩ := List.getElem?_eq_some_iff.mp ehc
        have : j = i := (List.getElem_inj ndS).mp (ej.trans ei.symm)
        omega
      rw [et, ← kvT_put hn]
      exact D6
  have ei : i = S.length := by omega
  subst ei
  rw [List.take_length] at D'
  refine .inl ⟨⟨xr0, SqL.of (g'.lst hr0), by omega⟩, ?_⟩
  refine ⟨_, rfl, _, _, rfl, ?_⟩
  have hdr : d ≠ r0 := Ne.symm hrd
  refine ⟨fun mm σ H1 => ∃ found rows r xr x3 x4 x5 x6 x7, σ = [some (.ref r0), some (.ref d), some (.ref r), x3, x4, x5, x6, x7] ∧ Gr H H1 ∧ DAt P0 w K H1 d (kvT found) ∧ H1 r = some (.lst xr) ∧ TpAll K H1 xr (rows.map kCh) ∧ d ≠ r ∧
      BInv stillOf S found rows ∧ mm = bfsM sizeLine found rows,
    ⟨_, S, S, r0, xr0, _, _, _, _, _, rfl, g', D', g'.lst hr0, g'.tps tS, hdr, bfs_start ndS, rfl⟩, ?_⟩
  rintro mm σ H1 ⟨found, rows, r, xr, x3, x4, x5, x6, x7, rfl, g1, D1, h1r, t1r, hdr, BI, rfl⟩
  refine ⟨_, rfl, _, .inl ⟨_, SqL.of h1r, rfl⟩, ?_⟩
  have lr := t1r.length
  rw [List.length_map] at lr
  cases rows with
  | nil =>
    obtain rfl : xr = [] := List.length_eq_zero_iff.mp lr
    refine iteF' rfl ?_
    refine ⟨_, rfl, d, _, rfl, D1, fun p vs hp tp => ?_⟩
    rw [kvT_keys] at tp
    exact hQ found BI.nd (bfs_end BI) _ _ _ (Gr.put g1 (g1.free hp)) (g1.free hp) upd_same ((Gr.new hp).tps tp)
  | cons z zs =>
    have hxe : xr.isEmpty = false := by cases xr with | nil => simp at lr | cons _ _ => rfl
    refine iteT' (by rw [hxe]; rfl) ?_
    generalize hrows : z :: zs = rows at t1r BI lr
    have hrne : rows ≠ [] := by rw [← hrows]; simp
    refine ⟨fun σ' H' => ∃ m', m' < bfsM sizeLine found rows ∧ ∃ found rows r xr x3 x4 x5 x6 x7, σ' = [some (.ref r0), some (.ref d), some (.ref r), x3, x4, x5, x6, x7] ∧ Gr H H' ∧ DAt P0 w K H' d (kvT found) ∧ H' r = some (.lst xr) ∧ TpAll K H' xr (rows.map kCh) ∧ d ≠ r ∧
      BInv stillOf S found rows ∧ m' = bfsM sizeLine found rows, fun σ' H' hh => hh, ?_⟩
    refine ⟨by show 0 ≤ sizeLine; exact Nat.zero_le _, fun mo hmo => ?_⟩
    have hrm : r ≠ mo := ne_of_none h1r hmo
    have hdn : H1 d ≠ none := by
      obtain ⟨ks, e, _⟩ := D1
      rw [e]
      simp
    have hdm : d ≠ mo := fun e => hdn (e ▸ hmo)
    have hmn : H mo = none := g1.free hmo
    have gmo := Gr.new (o := .lst []) hmo
    have g0 : CGood (Rch stillOf S) (found, []) := ⟨BI.nd, BI.rch, Nat.zero_le _⟩
    refine ⟨_, rfl, r, rfl, ⟨_, SqL.of (by rw [upd_ne hrm]; exact h1r)⟩, for_list (xs := xr) (fun i σ' H' => ∃ x4 x5 x6 x7, σ' = [some (.ref r0), some (.ref d), some (.ref r), some (.ref mo), x4, x5, x6, x7] ∧
        BfsSt w K H d mo ((rows.take i).foldl (fun st x => addNew (stillOf x) st) (found, [])).1 ((rows.take i).foldl (fun st x => addNew (stillOf x) st) (found, [])).2 H' ∧
        H' r = some (.lst xr) ∧ TpAll K H' xr (rows.map kCh) ∧ CGood (Rch stillOf S) ((rows.take i).foldl (fun st x => addNew (stillOf x) st) (found, [])))
      ⟨_, _, _, _, rfl, ⟨g1.trans gmo, gmo.dat D1, [], upd_same, .nil⟩, by rw [upd_ne hrm]; exact h1r, gmo.tps t1r, g0⟩ (fun i σ' H' _ ⟨_, _, _, _, _, _, e, _⟩ => SqL.of e) ?_ ?_⟩
    · rintro i x σ' H2 hx ⟨x4, x5, x6, x7, rfl, B2, h2r, t2r, gi⟩
      obtain ⟨kc, ekc, tx⟩ := t2r.get hx
      obtain ⟨hc, ehc, rfl⟩ : ∃ hc, rows[i]? = some hc ∧ kCh hc = kc := by
        rw [List.getElem?_map] at ekc
        cases e : rows[i]? with
        | none => rw [e] at ekc; cases ekc
        | some y => rw [e] at ekc; exact ⟨y, rfl, Option.some.inj ekc⟩
      have hreach : Rch stillOf S hc := BI.rch hc (BI.sub hc (List.mem_of_getElem? ehc))
      have hshp := hC.shp hc hreach
      have hsz := hshp.size
      have hAL12 : A * L ≤ 12 := by have := hshp.a4; rcases hshp.len with rfl | rfl | rfl <;> omega
      have et := take_succ_foldl (fun (st : List Ch × List Ch) x => addNew (stillOf x) st) (found, []) rows i hc ehc
      generalize (rows.take i).foldl (fun st x => addNew (stillOf x) st) (found, []) = st at B2 gi et
      rw [et]
      rw [cStepS_fold]
      refine ⟨_, rfl, _, hc, A, L, rfl, tx, hshp, hT.gr B2.gr, fun H3 p xp g3 hp h3p t3p => ?_⟩
      obtain ⟨xm, h2m, t2m⟩ := B2.mol
      have hmp : mo ≠ p := ne_of_none h2m hp
      have hrp : r ≠ p := ne_of_none h2r hp
      have hdp : d ≠ p := fun e => by
        obtain ⟨ks, e2, _⟩ := B2.dat
        rw [e, hp] at e2
        cases e2
      refine ⟨p, rfl, ⟨_, SqL.of h3p⟩, for_list (xs := xp) (fun j σ' H' => ∃ x5 x6 x7, σ' = [some (.ref r0), some (.ref d), some (.ref r), some (.ref mo), some x, x5, x6, x7] ∧
          BfsSt w K H d mo (((takings hc).take j).foldl (cStepS hc) st).1 (((takings hc).take j).foldl (cStepS hc) st).2 H' ∧
          H' r = some (.lst xr) ∧ TpAll K H' xr (rows.map kCh) ∧ H' p = some (.lst xp) ∧ TpAll K H' xp ((takings hc).map kTk) ∧ TpAll K H' [x] [kCh hc] ∧ CGood (Rch stillOf S) (((takings hc).take j).foldl (cStepS hc) st))
        ⟨_, _, _, rfl, B2.step g3, g3.lst h2r, g3.tps t2r, h3p, t3p, .cons (g3.tp tx) .nil, gi⟩ (fun i σ' H' _ ⟨_, _, _, _, _, _, _, e, _⟩ => SqL.of e) ?_ ?_⟩
      · rintro j y σ' H4 hy ⟨x5, x6, x7, rfl, B4, h4r, t4r, h4p, t4p, t4x, gj⟩
        obtain ⟨kt, ekt, ty⟩ := t4p.get hy
        obtain ⟨tk, etk, rfl⟩ : ∃ tk, (takings hc)[j]? = some tk ∧ kTk tk = kt := by
          rw [List.getElem?_map] at ekt
          cases e : (takings hc)[j]? with
          | none => rw [e] at ekt; cases ekt
          | some z => rw [e] at ekt; exact ⟨z, rfl, Option.some.inj ekt⟩
        have htk := List.mem_of_getElem? etk
        obtain ⟨hcell, _, _⟩ := takings_cell htk
        have et := take_succ_foldl (cStepS hc) st (takings hc) j tk etk
        generalize ((takings hc).take j).foldl (cStepS hc) st = sj at B4 gj et
        rw [et]
        have tx4 : Tp K H4 x (kCh hc) := by cases t4x with | cons t _ => exact t
        obtain ⟨tl, tc⟩ := tk
        obtain ⟨ta, rfl, hta⟩ := tk_at ty
        refine ⟨_, rfl, _, rfl, x, _, hc, tl, tc, rfl, tx4, ty, hcell, by omega, fun H5 q g5 t5 => ?_⟩
        have B5 := B4.step g5
        refine ⟨_, rfl, ta, _, _, _, rfl, rfl, g5.sqT hta, atI_nat (j := 1) rfl, rfl, _, rfl, ?_⟩
        by_cases h0 : tc = 0
        · refine iteF' (by show (!decide (vN tc = vN 0)) = false; rw [h0]; rfl) (iteF' rfl ?_)
          have es : cStepS hc sj (tl, tc) = sj := by unfold cStepS; rw [if_neg (fun z => z.1 h0)]
          rw [es]
          exact ⟨_, _, _, rfl, B5, g5.lst h4r, g5.tps t4r, g5.lst h4p, g5.tps t4p, g5.tps t4x, gj⟩
        refine iteT' (by show (!decide (vN tc = vN 0)) = true; rw [decide_eq_false (fun e => h0 (vN_eq.mp e))]; rfl) ?_
        refine ⟨_, rfl, _, rfl, q, kCh (taken hc (tl, tc)), d, _, rfl, rfl, t5, ch_depth _, B5.dat, _, rfl, ?_⟩
        by_cases hin : taken hc (tl, tc) ∈ sj.1
        · refine iteF' (by rw [kvT_val, if_pos hin]; rfl) ?_
          have es : cStepS hc sj (tl, tc) = sj := by unfold cStepS; rw [if_neg (fun z => z.2 hin)]
          rw [es]
          exact ⟨_, _, _, rfl, B5, g5.lst h4r, g5.tps t4r, g5.lst h4p, g5.tps t4p, g5.tps t4x, gj⟩
        · refine iteT' (by rw [kvT_val, if_neg hin]; rfl) ?_
          have es : cStepS hc sj (tl, tc) = (sj.1 ++ [taken hc (tl, tc)], sj.2 ++ [taken hc (tl, tc)]) := by unfold cStepS; rw [if_pos ⟨h0, hin⟩]
          rw [es]
          have gj' := gj.add hin (.step hreach (List.mem_map.mpr ⟨_, List.mem_filter.mpr ⟨htk, by simpa using h0⟩, rfl⟩))
          have hlen := hC.few _ gj'.nd gj'.rch
          rw [List.length_append, List.length_singleton] at hlen
          refine ⟨_, rfl, _, rfl, q, kCh (taken hc (tl, tc)), d, _, rfl, rfl, t5, ch_depth _, B5.dat, by unfold kvT; rw [List.length_map]; omega, fun H6 hb6 D6 => ?_⟩
          obtain ⟨xs, ex, lx, B7, hb7, tt7⟩ := B5.add hd hmn hdm t5 hin hb6 D6
          have h5r := g5.lst h4r
          have h5p := g5.lst h4p
          refine ⟨_, rfl, .inl ⟨rfl, _, SqL.of ex⟩, _, rfl, mo, xs, _, rfl, rfl, ex, by rw [lx]; have := gj.le; omega, ?_⟩
          exact ⟨_, _, _, rfl, B7, by rw [hb7 r (Ne.symm hdr) hrm]; exact h5r, tt7 _ _ (g5.tps t4r), by rw [hb7 p (Ne.symm hdp) (Ne.symm hmp)]; exact h5p, tt7 _ _ (g5.tps t4p), tt7 _ _ (g5.tps t4x), gj'⟩
      · rintro σ' H4 ⟨x5, x6, x7, rfl, B4, h4r, t4r, h4p, t4p, t4x, gj⟩
        have ll := t4p.length
        rw [List.length_map] at ll
        rw [ll, List.take_length] at B4 gj
        exact ⟨_, _, _, _, rfl, B4, h4r, t4r, gj⟩
    · rintro σ' H2 ⟨x4, x5, x6, x7, rfl, B2, h2r, t2r, gi⟩
      rw [lr, List.take_length] at B2 gi
      obtain ⟨ext, e1, BI2⟩ := bfs_turn BI
      unfold bfsTurn at e1
      rw [e1] at B2 gi
      have hle := hC.few _ gi.nd gi.rch
      obtain ⟨xm, h2m, t2m⟩ := B2.mol
      exact ⟨_, rfl, _, bfsM_lt hrne hle, found ++ ext, ext, mo, xm, _, _, _, _, _, rfl, B2.gr, B2.dat, h2m, t2m, hdm, BI2, rfl⟩
end
end SL
end

section
set_option Elab.async false
set_option linter.all false
set_option maxRecDepth 100000
set_option maxHeartbeats 4000000
/-! ==, in, index of nested keys -/
namespace SL
open PySem PySem.Spec PyProof.Rows L2
section
variable {X : Cx}
def rEqK (K : PySem.W.Frag) : R2 := fun x y H Q => ∃ a b, Tp K H x a ∧ Tp K H y b ∧ a.depth ≤ 8 ∧ b.depth ≤ 8 ∧ Q (.bl (decide (a = b))) H
def rNeK (K : PySem.W.Frag) : R2 := fun x y H Q => ∃ a b, Tp K H x a ∧ Tp K H y b ∧ a.depth ≤ 8 ∧ b.depth ≤ 8 ∧ Q (.bl (!decide (a = b))) H
theorem op_eqK (hu : X.A.units + 64 < cLine) : OpR X (compareOp .Eq) (rEqK X.K) := by
  intro pins s σ H x y v u Q I rx ry h
  obtain ⟨a, b, ta, tb, da, db, q⟩ := h
  refine op_eqD hu pins s σ H x y v u Q I rx ry ⟨a.data, b.data, Tp.dp _ _ ta, Tp.dp _ _ tb, tp_shaped ta da, tp_shaped tb db, ?_⟩
  rw [eqv_dec]
  exact q
theorem op_neK (hu : X.A.units + 64 < cLine) : OpR X (compareOp .NotEq) (rNeK X.K) := by
  intro pins s σ H x y v u Q I rx ry h
  obtain ⟨a, b, ta, tb, da, db, q⟩ := h
  refine op_neD hu pins s σ H x y v u Q I rx ry ⟨a.data, b.data, Tp.dp _ _ ta, Tp.dp _ _ tb, tp_shaped ta da, tp_shaped tb db, ?_⟩
  rw [eqv_dec]
  exact q
theorem any_eqv (k : NK) (ks : List NK) : ((NestedKey.datas ks).any fun z => PyData.eqv z k.data) = decide (k ∈ ks) := by
  rw [datas_map, List.any_map]
  induction ks with
  | nil => simp
  | cons x ks ih =>
    rw [List.any_cons, ih]
    show (PyData.eqv x.data k.data || _) = _
    rw [eqv_dec]
    by_cases e : x = k
    · rw [decide_eq_true e, Bool.true_or, decide_eq_true (by rw [e]; exact List.mem_cons_self)]
    · rw [decide_eq_false e, Bool.false_or]
      exact decide_eq_decide.mpr ⟨fun h => List.mem_cons_of_mem _ h, fun h => (List.mem_cons.mp h).resolve_left (fun z => e z.symm)⟩
def rInK (K : PySem.W.Frag) : R2 := fun x y H Q => ∃ k l vs ks, y = .ref l ∧ Tp K H x k ∧ SqL K H l vs ∧ TpAll K H vs ks ∧ k.depth ≤ 8 ∧ (∀ z ∈ ks, z.depth ≤ 8) ∧ Q (.bl (decide (k ∈ ks))) H
def rNotInK (K : PySem.W.Frag) : R2 := fun x y H Q => ∃ k l vs ks, y = .ref l ∧ Tp K H x k ∧ SqL K H l vs ∧ TpAll K H vs ks ∧ k.depth ≤ 8 ∧ (∀ z ∈ ks, z.depth ≤ 8) ∧ Q (.bl (!decide (k ∈ ks))) H
theorem op_inK (hu : X.A.units + 65 < cLine) : OpR X (compareOp .In) (rInK X.K) := by
  intro pins s σ H x y v u Q I rx ry h
  obtain ⟨k, l, vs, ks, rfl, tx, hl, tv, dk, dz, q⟩ := h
  refine op_inD hu pins s σ H x _ v u Q I rx ry ⟨k.data, NestedKey.datas ks, Tp.dp _ _ tx, dp_list hl tv, tp_shaped tx dk, tps_shaped tv dz, ?_⟩
  rw [any_eqv]
  exact q
theorem op_notinK (hu : X.A.units + 65 < cLine) : OpR X (compareOp .NotIn) (rNotInK X.K) := by
  intro pins s σ H x y v u Q I rx ry h
  obtain ⟨k, l, vs, ks, rfl, tx, hl, tv, dk, dz, q⟩ := h
  refine op_notInD hu pins s σ H x _ v u Q I rx ry ⟨k.data, NestedKey.datas ks, Tp.dp _ _ tx, dp_list hl tv, tp_shaped tx dk, tps_shaped tv dz, ?_⟩
  rw [any_eqv]
  exact q
def rIndexK (K : PySem.W.Frag) : V → List V → Hp → VK → Prop := fun x xs H Q => ∃ (a : Addr) (y : V) (vs : List V) (k : NK) (ks : List NK) (j : Nat), x = V.ref a ∧ xs = [y] ∧ SqL K H a vs ∧ TpAll K H vs ks ∧ Tp K H y k ∧ k.depth ≤ 8 ∧ (∀ z ∈ ks, z.depth ≤ 8) ∧
  ks[j]? = some k ∧ ks.Nodup ∧ Q (vN j) H
theorem mt_indexK (hu : X.A.units + 65 < cLine) : MtR X "list.index" (rIndexK X.K) := by
  intro pins s σ H x xs v us Q I rx rxs h
  obtain ⟨a, y, vs, k, ks, j, rfl, rfl, hl, tv, ty, dk, dz, ej, nd, q⟩ := h
  refine mt_indexD hu pins s σ H _ _ v us Q I rx rxs ⟨a, y, k.data, NestedKey.datas ks, j, k.data, rfl, rfl, dp_list hl tv, Tp.dp _ _ ty, tps_shaped tv dz, tp_shaped ty dk, by rw [datas_map, List.getElem?_map, ej]; rfl, by rw [eqv_dec]; exact decide_eq_true rfl, fun m z' hm hz => ?_, q⟩
  rw [datas_map, List.getElem?_map] at hz
  cases e : ks[m]? with
  | none => rw [e] at hz; cases hz
  | some z =>
    rw [e] at hz
    obtain rfl : z.data = z' := Option.some.inj hz
    rw [eqv_dec]
    refine decide_eq_false fun ez => ?_
    subst ez
    obtain ⟨h1, h2⟩ := List.getElem?_eq_some_iff.mp e
    obtain ⟨h3, h4⟩ := List.getElem?_eq_some_iff.mp ej
    have := (List.getElem_inj nd).mp (h2.trans h4.symm)
    omega
end
end SL
end

section
set_option Elab.async false
set_option linter.all false
set_option maxRecDepth 100000
set_option maxHeartbeats 4000000
/-! walks: falling, need_numbers, shares, arrangement_count, all_arrangements -/
namespace SL
open PySem PySem.Spec PyProof.Rows L2
def falN (n : Nat) : Nat → Nat
  | 0 => 1
  | i + 1 => falN n i * (n - i)
theorem falN_le : ∀ n ≤ 6, ∀ i ≤ 6, falN n i ≤ 720 := by decide +kernel
def shStep (many : Nat) (f : List Nat) : List Nat := (List.range (many + 1)).map fun k => (f.take k).sum
def shN (many : Nat) : Nat → List Nat
  | 0 => 1 :: List.replicate many 0
  | i + 1 => shStep many (shN many i)
theorem shN_len (many i : Nat) : (shN many i).length = many + 1 := by
  cases i with
  | zero => simp [shN]
  | succ i => simp [shN, shStep]
def sharesN (many parts : Nat) : Nat := at0 (shN many parts) many
def arrCount (A n : Nat) : Nat := if n < A then 0 else (sharesN (n - 1) A + A * sharesN (n - 1) (A - 1)) * falN (n - A) (n - A)
def allCount (A n : Nat) : Nat := sharesN (n - 1 + A) A * falN n n
theorem sum_vN (l : List Nat) : ((l.map fun n : Nat => (n : Int))).sum = (l.sum : Int) := by
  induction l with
  | nil => rfl
  | cons x l ih => rw [List.map_cons, List.sum_cons, List.sum_cons, ih]; push_cast; rfl
section
variable {w : World} {K : PySem.W.Frag} {mg : Str → Option Value} {base : Heap}
def spFal : Sp := fun vs H Q _ => ∃ n i : Nat, vs = [vN n, vN i] ∧ n ≤ 6 ∧ i ≤ n ∧ Q (vN (falN n i)) H
theorem sc_falling : FnScope ["first", "many", "found", "k"] ["first", "many"] (defScope s_falling) := ⟨rfl, rfl, rfl, by decide +kernel, rfl, by decide +kernel, by decide +kernel⟩
theorem kp_falling (T : Tx K mg base) : Kp w K mg base "falling" 1 ["first", "many"] spFal := by
  refine kp_of (d := d_falling) (k := 0) T (by simp [fn]) (by decide +kernel) rfl rfl rfl rfl rfl sc_falling (fun vs H Q E ⟨_, _, e, _⟩ => by rw [e]; rfl) (fun _ _ _ _ _ _ us hl => match us, hl with | [_, _], _ => rfl) fun Ar outer s H vs Q E hr hsp => ?_
  obtain ⟨n, j, rfl, hn, hj, hQ⟩ := hsp
  refine ⟨_, pss_cons (ps_set (i := 2) sc_falling.nd rfl (.inl rfl) pe_int)
    (pss_cons (ps_for PassesOwn.never rfl (pi_range1 (by rfl) (T.free "range") (pa1 (pv 1))) (pg_name (i := 3) sc_falling.nd rfl (.inl rfl))
      (pss_one (ps_set (i := 2) sc_falling.nd rfl (.inl rfl) (pe_op op_mul (pv 2) (pe_op op_sub (pv 0) (pv 3))))))
    (pss_one (ps_ret (pv 2)))), ?_⟩
  refine ⟨_, rfl, j, rfl, by omega, by omega, for_range (lo := 0) (n := j) (fun i σ' H' => ∃ x3, σ' = [some (vN n), some (vN j), some (vN (falN n i)), x3] ∧ H' = H) ⟨_, rfl, rfl⟩ ?_ ?_⟩
  · rintro i σ' H' hi ⟨x3, rfl, rfl⟩
    have hb := falN_le n hn i (by omega)
    refine ⟨_, rfl, _, rfl, _, rfl, _, _, rfl, rfl, ?_⟩
    refine ⟨_, _, rfl, rfl, .inl ⟨by omega, by omega⟩, some (V.int (0 + (i : Int))), ?_, rfl⟩
    have e : (falN n i : Int) * ((n : Int) - (0 + (i : Int))) = ((falN n (i + 1) : Nat) : Int) := by
      show _ = ((falN n i * (n - i) : Nat) : Int)
      rw [Int.natCast_mul, Int.natCast_sub (by omega), Int.zero_add]
    show [some (vN n), some (vN j), some (V.int ((falN n i : Int) * ((n : Int) - (0 + (i : Int))))), some (V.int (0 + (i : Int)))] = _
    rw [e]
  · rintro σ' H' ⟨x3, rfl, rfl⟩
    exact ⟨_, rfl, hQ⟩
def spNums : Sp := fun vs H Q _ => ∃ a n : Nat, vs = [vN a, vN n] ∧ 3 ≤ a ∧ a ≤ 12 ∧ 2 ≤ n ∧ n ≤ 12 ∧ Q .non H
theorem sc_need_numbers : FnScope ["arms", "lands"] ["arms", "lands"] (defScope s_need_numbers) := ⟨rfl, rfl, rfl, by decide +kernel, rfl, by decide +kernel, by decide +kernel⟩
theorem kp_need_numbers (T : Tx K mg base) (Fi : Kp w K mg base "is_in" 1 ["value", "least", "most"] spIsIn) : Kp w K mg base "need_numbers" 2 ["arms", "lands"] spNums := by
  refine kp_of (d := d_need_numbers) (k := 1) T (by simp [fn]) (by decide +kernel) rfl rfl rfl rfl rfl sc_need_numbers (fun vs H Q E ⟨_, _, e, _⟩ => by rw [e]; rfl) (fun _ _ _ _ _ _ us hl => match us, hl with | [_, _], _ => rfl) fun Ar outer s H vs Q E hr hsp => ?_
  obtain ⟨a, n, rfl, h1, h2, h3, h4, hQ⟩ := hsp
  obtain ⟨t1, hm1⟩ := T.int "MOST_ARMS_arranged" 12
  obtain ⟨t2, hm2⟩ := T.int "MOST_LANDS" 12
  refine ⟨_, pss_cons (ps_if (pt_not (pt_val (pe_k Fi rfl hr (pa_cons (pv 0) (pa_cons pe_int (pa1 (pe_glob (v := .int 12) (by rfl) hm1 ⟨_, rfl⟩))))))) (pss_one ps_never) pss_nil)
    (pss_one (ps_if (pt_not (pt_val (pe_k Fi rfl hr (pa_cons (pv 1) (pa_cons pe_int (pa1 (pe_glob (v := .int 12) (by rfl) hm2 ⟨_, rfl⟩))))))) (pss_one ps_never) pss_nil)), ?_⟩
  refine ⟨_, rfl, _, _, _, rfl, _, rfl, iteF' (by show (!decide ((3 : Int) ≤ a ∧ (a : Int) ≤ 12)) = false; rw [decide_eq_true (by omega)]; rfl) ?_⟩
  exact ⟨_, rfl, _, _, _, rfl, _, rfl, iteF' (by show (!decide ((2 : Int) ≤ n ∧ (n : Int) ≤ 12)) = false; rw [decide_eq_true (by omega)]; rfl) hQ⟩
def spSh : Sp := fun vs H Q _ => ∃ m p : Nat, vs = [vN m, vN p] ∧ m ≤ 100 ∧ p ≤ 100 ∧ ∀ H', Gr H H' → Q (vN (sharesN m p)) H'
theorem sc_shares : FnScope ["many", "parts", "found", "part", "k"] ["many", "parts"] (defScope s_shares) := ⟨rfl, rfl, rfl, by decide +kernel, rfl, by decide +kernel, by decide +kernel⟩
theorem kp_shares (T : Tx K mg base) : Kp w K mg base "shares" 1 ["many", "parts"] spSh := by
  refine kp_of (d := d_shares) (k := 0) T (by simp [fn]) (by decide +kernel) rfl rfl rfl rfl rfl sc_shares (fun vs H Q E ⟨_, _, e, _⟩ => by rw [e]; rfl) (fun _ _ _ _ _ _ us hl => match us, hl with | [_, _], _ => rfl) fun Ar outer s H vs Q E hr hsp => ?_
  obtain ⟨m, p, rfl, hm, hp, hQ⟩ := hsp
  refine ⟨_, pss_cons (ps_set (i := 2) sc_shares.nd rfl (.inr rfl) (pe_op op_cat (pe_lst (pa1 pe_int)) (pe_op op_rep (pe_lst (pa1 pe_int)) (pv 0))))
    (pss_cons (ps_for PassesOwn.never rfl (pi_range1 (by rfl) (T.free "range") (pa1 (pv 1))) (pg_name (i := 3) sc_shares.nd rfl (.inl rfl))
      (pss_one (ps_set (i := 2) sc_shares.nd rfl (.inr rfl) (pe_lc (own := [("k", 4)]) (g := gName 4) (tt := tYes) rfl sc_shares.nd (pi_range1 (by rfl) (T.free "range") (pa1 (pe_op op_add (pv 0) pe_int)))
        (blkOk_by (N := ["many", "parts", "found", "part", "k"]) (sc := defScope s_shares) (by decide +kernel)) (fun _ _ _ _ _ => pg_name (i := 4) sc_shares.nd rfl (Or.inl rfl)) (fun _ _ _ _ _ => pts_nil)
        (fun _ _ _ _ _ => pe_callB (r := rSum K) (cr_sum rfl) (by rfl) (T.free "sum") boot_sum (pa1 (pe_slice (r := rSlL K) sl_list (pv 2) po_none (po_some (pv 4)))))))))
    (pss_one (ps_ret (pe_ix (r := rIxL K) ix_list (pv 2) (pv 0) (fun _ _ => rfl))))), ?_⟩
  refine ⟨by show 1 ≤ sizeLine; rw [sizeLine_eq]; omega, fun l1 h1 => ⟨by show 1 ≤ sizeLine; rw [sizeLine_eq]; omega, fun l2 h2 => ?_⟩⟩
  have g1 := Gr.new (o := .lst [V.int 1]) h1
  have g2 := Gr.new (o := .lst [V.int 0]) h2
  refine ⟨_, rfl, l2, m, _, rfl, rfl, upd_same, by omega, by omega, by rw [sizeLine_eq]; simp; omega, fun l3 h3 => ?_⟩
  have g3 := Gr.new (o := .lst (List.replicate (m : Int).toNat [V.int 0]).flatten) h3
  refine ⟨l1, l3, _, _, rfl, rfl, (g2.trans g3).lst upd_same, upd_same, by rw [sizeLine_eq]; simp; omega, fun l4 h4 => ?_⟩
  have g4 := ((g1.trans g2).trans g3).trans (Gr.new (o := .lst ([V.int 1] ++ (List.replicate (m : Int).toNat [V.int 0]).flatten)) h4)
  have e0 : [V.int 1] ++ (List.replicate (m : Int).toNat [V.int 0]).flatten = (shN m 0).map vN := by
    rw [Int.toNat_natCast]
    show V.int 1 :: (List.replicate m [V.int 0]).flatten = V.int 1 :: (List.replicate m 0).map vN
    congr 1
    rw [List.map_replicate]
    exact List.flatten_replicate_singleton
  refine ⟨_, rfl, p, rfl, by omega, by omega, for_range (lo := 0) (n := p) (fun i σ' H' => ∃ f x3 x4, σ' = [some (vN m), some (vN p), some (.ref f), x3, x4] ∧ Gr H H' ∧ H' f = some (.lst ((shN m i).map vN))) ⟨l4, _, _, rfl, g4, by rw [upd_same, e0]⟩ ?_ ?_⟩
  · rintro i σ' H1 hi ⟨f, x3, x4, rfl, g, hf⟩
    refine ⟨_, rfl, _, _, rfl, rfl, m + 1, rfl, by omega, by omega, fun D hD => lc_range (lo := 0) (n := m + 1) (fun j H' => H' D = some (.lst (((List.range j).map fun k => ((shN m i).take k).sum).map vN)) ∧ Gr H1 H') ⟨upd_same, Gr.new hD⟩ ?_ ?_⟩
    · rintro j H2 hj ⟨h2, g2⟩
      have ej : V.int (0 + (j : Int)) = vN j := by simp
      rw [ej]
      refine ⟨rfl, _, rfl, _, rfl, _, rfl, f, _, rfl, SqL.of (g2.lst hf), fun q hq => ?_⟩
      have ecut : cutV ((shN m i).map vN) none (some (j : Int)) = (((shN m i).take j).map fun n : Nat => (n : Int)).map V.int := by
        unfold cutV
        rw [HT.sIx_nat, HT.sIx_none, List.length_map, List.drop_zero, Nat.sub_zero, shN_len, Nat.min_eq_left (by omega), ← List.map_take, List.map_map]
        rfl
      have gq := Gr.new (o := .lst (cutV ((shN m i).map vN) none (some (j : Int)))) hq
      refine ⟨q, ((shN m i).take j).map fun n : Nat => (n : Int), rfl, SqL.of (by rw [upd_same, ecut]), ?_⟩
      rw [sum_vN]
      refine ⟨_, gq.lst h2, by simp [sizeLine_eq]; omega, ?_, Gr.put (g2.trans gq) hD⟩
      rw [upd_same, List.range_succ]
      simp
    · rintro H2 ⟨h2, g2⟩
      exact ⟨D, _, _, rfl, g.trans g2, h2⟩
  · rintro σ' H1 ⟨f, x3, x4, rfl, g, hf⟩
    refine ⟨_, rfl, _, rfl, f, _, _, _, rfl, rfl, SqL.of hf, atI_nat (vN_at (by rw [shN_len]; omega)), hQ _ g⟩
end
end SL
end

section
set_option Elab.async false
set_option linter.all false
set_option maxRecDepth 100000
set_option maxHeartbeats 4000000
/-! walks: arrangement_count, all_arrangements, need_one, arranged, arrangements -/
namespace SL
open PySem PySem.Spec PyProof.Rows L2
theorem shares_le : ∀ a ≤ 5, ∀ n ≤ 6, sharesN (n - 1) a ≤ 1000 ∧ sharesN (n - 1) (a - 1) ≤ 1000 ∧ sharesN (n - 1 + a) a ≤ 1000 := by decide +kernel
section
variable {w : World} {K : PySem.W.Frag} {mg : Str → Option Value} {base : Heap}
def spAC : Sp := fun vs H Q _ => ∃ a n : Nat, vs = [vN a, vN n] ∧ 3 ≤ a ∧ a ≤ 5 ∧ 2 ≤ n ∧ n ≤ 6 ∧ ∀ H', Gr H H' → Q (vN (arrCount a n)) H'
theorem sc_arrangement_count : FnScope ["arms", "lands", "shapes"] ["arms", "lands"] (defScope s_arrangement_count) := ⟨rfl, rfl, rfl, by decide +kernel, rfl, by decide +kernel, by decide +kernel⟩
theorem kp_arrangement_count (T : Tx K mg base) (Fn : Kp w K mg base "need_numbers" 2 ["arms", "lands"] spNums) (Fs : Kp w K mg base "shares" 1 ["many", "parts"] spSh) (Ff : Kp w K mg base "falling" 1 ["first", "many"] spFal) :
    Kp w K mg base "arrangement_count" 3 ["arms", "lands"] spAC := by
  refine kp_of (d := d_arrangement_count) (k := 2) T (by simp [fn]) (by decide +kernel) rfl rfl rfl rfl rfl sc_arrangement_count (fun vs H Q E ⟨_, _, e, _⟩ => by rw [e]; rfl) (fun _ _ _ _ _ _ us hl => match us, hl with | [_, _], _ => rfl) fun Ar outer s H vs Q E hr hsp => ?_
  obtain ⟨a, n, rfl, h1, h2, h3, h4, hQ⟩ := hsp
  refine ⟨_, pss_cons (ps_expr (pe_k Fn rfl hr (pa_cons (pv 0) (pa1 (pv 1)))))
    (pss_cons (ps_if (pt_cmpR op_lt (pv 1) (pv 0) (nomark _)) (pss_one (ps_ret pe_int)) pss_nil)
    (pss_cons (ps_set (i := 2) sc_arrangement_count.nd rfl (.inl rfl) (pe_op op_add (pe_k Fs rfl (hr.mono (by decide)) (pa_cons (pe_op op_sub (pv 1) pe_int) (pa1 (pv 0)))) (pe_op op_mul (pv 0) (pe_k Fs rfl (hr.mono (by decide)) (pa_cons (pe_op op_sub (pv 1) pe_int) (pa1 (pe_op op_sub (pv 0) pe_int)))))))
    (pss_one (ps_ret (pe_op op_mul (pv 2) (pe_k Ff rfl (hr.mono (by decide)) (pa_cons (pe_op op_sub (pv 1) (pv 0)) (pa1 (pe_op op_sub (pv 1) (pv 0)))))))))), ?_⟩
  obtain ⟨b1, b2, _⟩ := shares_le a h2 n h4
  refine ⟨_, rfl, _, rfl, a, n, rfl, h1, by omega, h3, by omega, ?_⟩
  refine ⟨_, rfl, _, rfl, _, _, rfl, rfl, _, rfl, ?_⟩
  by_cases h : n < a
  · refine iteT' (decide_eq_true (by omega)) ?_
    have e : arrCount a n = 0 := by unfold arrCount; rw [if_pos h]
    rw [e] at hQ
    exact hQ _ (Gr.refl _)
  refine iteF' (decide_eq_false (by omega)) ?_
  have e : arrCount a n = (sharesN (n - 1) a + a * sharesN (n - 1) (a - 1)) * falN (n - a) (n - a) := by unfold arrCount; rw [if_neg h]
  have en : (n : Int) - 1 = ((n - 1 : Nat) : Int) := by omega
  have ea : (a : Int) - 1 = ((a - 1 : Nat) : Int) := by omega
  have ed : (n : Int) - (a : Int) = ((n - a : Nat) : Int) := by omega
  refine ⟨_, rfl, _, _, rfl, rfl, _, rfl, n - 1, a, by dsimp only; rw [en]; rfl, by omega, by omega, fun H1 g1 => ?_⟩
  refine ⟨_, rfl, _, rfl, _, _, rfl, rfl, _, rfl, _, _, rfl, rfl, n - 1, a - 1, by dsimp only; rw [en, ea]; rfl, by omega, by omega, fun H2 g2 => ?_⟩
  refine ⟨_, _, rfl, rfl, .inl ⟨by omega, by omega⟩, _, _, rfl, rfl, ?_⟩
  refine ⟨_, rfl, _, rfl, _, rfl, _, _, rfl, rfl, _, rfl, _, rfl, _, _, rfl, rfl, n - a, n - a, by dsimp only; rw [ed]; rfl, by omega, Nat.le_refl _, ?_⟩
  have b3 := falN_le (n - a) (by omega) (n - a) (by omega)
  refine ⟨_, _, rfl, rfl, .inr ⟨by omega, by omega⟩, ?_⟩
  have := hQ _ (g1.trans g2)
  rw [e] at this
  have e2 : V.int (((sharesN (n - 1) a : Int) + (a : Int) * (sharesN (n - 1) (a - 1) : Int)) * (falN (n - a) (n - a) : Int)) = vN ((sharesN (n - 1) a + a * sharesN (n - 1) (a - 1)) * falN (n - a) (n - a)) := by
    show _ = V.int _
    push_cast
    rfl
  dsimp only
  rw [e2]
  exact this
def spAll : Sp := fun vs H Q _ => ∃ a n : Nat, vs = [vN a, vN n] ∧ 3 ≤ a ∧ a ≤ 5 ∧ 2 ≤ n ∧ n ≤ 6 ∧ ∀ H', Gr H H' → Q (vN (allCount a n)) H'
theorem sc_all_arrangements : FnScope ["arms", "lands"] ["arms", "lands"] (defScope s_all_arrangements) := ⟨rfl, rfl, rfl, by decide +kernel, rfl, by decide +kernel, by decide +kernel⟩
theorem kp_all_arrangements (T : Tx K mg base) (Fn : Kp w K mg base "need_numbers" 2 ["arms", "lands"] spNums) (Fs : Kp w K mg base "shares" 1 ["many", "parts"] spSh) (Ff : Kp w K mg base "falling" 1 ["first", "many"] spFal) :
    Kp w K mg base "all_arrangements" 3 ["arms", "lands"] spAll := by
  refine kp_of (d := d_all_arrangements) (k := 2) T (by simp [fn]) (by decide +kernel) rfl rfl rfl rfl rfl sc_all_arrangements (fun vs H Q E ⟨_, _, e, _⟩ => by rw [e]; rfl) (fun _ _ _ _ _ _ us hl => match us, hl with | [_, _], _ => rfl) fun Ar outer s H vs Q E hr hsp => ?_
  obtain ⟨a, n, rfl, h1, h2, h3, h4, hQ⟩ := hsp
  refine ⟨_, pss_cons (ps_expr (pe_k Fn rfl hr (pa_cons (pv 0) (pa1 (pv 1)))))
    (pss_one (ps_ret (pe_op op_mul (pe_k Fs rfl (hr.mono (by decide)) (pa_cons (pe_op op_add (pe_op op_sub (pv 1) pe_int) (pv 0)) (pa1 (pv 0)))) (pe_k Ff rfl (hr.mono (by decide)) (pa_cons (pv 1) (pa1 (pv 1))))))), ?_⟩
  obtain ⟨_, _, b1⟩ := shares_le a h2 n h4
  have b3 := falN_le n h4 n h4
  have en : (n : Int) - 1 + (a : Int) = ((n - 1 + a : Nat) : Int) := by omega
  refine ⟨_, rfl, _, rfl, a, n, rfl, h1, by omega, h3, by omega, ?_⟩
  refine ⟨_, rfl, _, _, rfl, rfl, _, rfl, _, _, rfl, rfl, _, rfl, n - 1 + a, a, by dsimp only; rw [en]; rfl, by omega, by omega, fun H1 g1 => ?_⟩
  refine ⟨_, rfl, _, rfl, n, n, rfl, h4, Nat.le_refl _, ?_⟩
  refine ⟨_, _, rfl, rfl, .inr ⟨by omega, by omega⟩, ?_⟩
  have := hQ _ g1
  have e2 : V.int ((sharesN (n - 1 + a) a : Int) * (falN n n : Int)) = vN (allCount a n) := by
    show _ = V.int _
    unfold allCount
    push_cast
    rfl
  dsimp only
  rw [e2]
  exact this

/-! ### need_one, arranged -/
theorem depth_kNs (ns : List Nat) : NestedKey.depthAll (ns.map kN) ≤ 0 := depthAll_le fun k hk => by
  obtain ⟨n, _, rfl⟩ := List.mem_map.mp hk
  simp [NestedKey.depth]
theorem kKey_depth (m : Ch) : (kKey m).depth ≤ 8 := by
  unfold kKey
  split
  · have h : NestedKey.depthAll ((ordersOf m).map kNs) ≤ 1 := depthAll_le fun k hk => by
      obtain ⟨n, _, rfl⟩ := List.mem_map.mp hk
      have := depth_kNs n
      simp only [NestedKey.depth]
      omega
    simp only [NestedKey.depth, NestedKey.depthAll]
    omega
  · have := depth_kNs (tipsOf m)
    simp only [NestedKey.depth, NestedKey.depthAll]
    omega
theorem kArr_depth (a : Arr) : (kArr a).depth ≤ 8 := by
  unfold kArr
  have h : NestedKey.depthAll (a.2.map kNs) ≤ 1 := depthAll_le fun k hk => by
    obtain ⟨n, _, rfl⟩ := List.mem_map.mp hk
    have := depth_kNs n
    simp only [NestedKey.depth]
    omega
  simp only [NestedKey.depth, NestedKey.depthAll]
  omega
def spOne (K : PySem.W.Frag) : Sp := fun vs H Q _ => ∃ v1 v2 m1 m2 A L, vs = [v1, v2] ∧ Tabs K H ∧ Tp K H v1 (kCh m1) ∧ Tp K H v2 (kCh m2) ∧ MapOk A L m1 ∧ MapOk A L m2 ∧ kKey m1 = kKey m2 ∧ ∀ H', Gr H H' → Q .non H'
theorem sc_need_one : FnScope ["one", "other"] ["one", "other"] (defScope s_need_one) := ⟨rfl, rfl, rfl, by decide +kernel, rfl, by decide +kernel, by decide +kernel⟩
theorem kp_need_one (T : Tx K mg base) (Fm : Kp w K mg base "need_map" 6 ["chart"] (spNeed K)) (Fk : Kp w K mg base "key_of" 5 ["chart"] (spKey K)) : Kp w K mg base "need_one" 7 ["one", "other"] (spOne K) := by
  refine kp_of (d := d_need_one) (k := 6) T (by simp [fn]) (by decide +kernel) rfl rfl rfl rfl rfl sc_need_one (fun vs H Q E ⟨_, _, _, _, _, _, e, _⟩ => by rw [e]; rfl) (fun _ _ _ _ _ _ us hl => match us, hl with | [_, _], _ => rfl) fun Ar outer s H vs Q E hr hsp => ?_
  obtain ⟨v1, v2, m1, m2, A, L, rfl, hT, t1, t2, h1, h2, hk, hQ⟩ := hsp
  refine ⟨_, pss_cons (ps_expr (pe_k Fm rfl hr (pa1 (pv 0)))) (pss_cons (ps_expr (pe_k Fm rfl hr (pa1 (pv 1))))
    (pss_one (ps_if (pt_cmpR (op_neK (units64 hr)) (pe_k Fk rfl (hr.mono (by decide)) (pa1 (pv 0))) (pe_k Fk rfl (hr.mono (by decide)) (pa1 (pv 1))) (nomark _)) (pss_one ps_never) pss_nil))), ?_⟩
  refine ⟨_, rfl, _, m1, A, L, rfl, hT, t1, h1, fun H1 g1 => ⟨_, rfl, _, m2, A, L, rfl, hT.gr g1, g1.tp t2, h2, fun H2 g2 => ?_⟩⟩
  have g := g1.trans g2
  refine ⟨_, rfl, _, m1, A, L, rfl, g.tp t1, h1.toShp, hT.gr g, fun H3 p g3 t3 => ?_⟩
  have g' := g.trans g3
  refine ⟨_, rfl, _, m2, A, L, rfl, g'.tp t2, h2.toShp, hT.gr g', fun H4 q g4 t4 => ?_⟩
  refine ⟨_, _, g4.tp t3, t4, kKey_depth _, kKey_depth _, _, rfl, iteF' (by rw [decide_eq_true hk]; rfl) (hQ _ (g'.trans g4))⟩
def spArd (K : PySem.W.Frag) : Sp := fun vs H Q _ => ∃ v m A L, vs = [v] ∧ Tp K H v (kCh m) ∧ Shp A L m ∧ NewK K H Q (kArr (arrOf m))
theorem sc_arranged : FnScope ["chart"] ["chart"] (defScope s_arranged) := ⟨rfl, rfl, rfl, by decide +kernel, rfl, by decide +kernel, by decide +kernel⟩
theorem kp_arranged (T : Tx K mg base) (Fo : Kp w K mg base "all_orders" 4 ["chart"] (spOrds K)) : Kp w K mg base "arranged" 5 ["chart"] (spArd K) := by
  refine kp_of (d := d_arranged) (k := 4) T (by simp [fn]) (by decide +kernel) rfl rfl rfl rfl rfl sc_arranged (fun vs H Q E ⟨_, _, _, _, e, _⟩ => by rw [e]; rfl) (fun _ _ _ _ _ _ us hl => match us, hl with | [_], _ => rfl) fun Ar outer s H vs Q E hr hsp => ?_
  obtain ⟨v, m, A, L, rfl, hv, hm, hQ⟩ := hsp
  have hv' := hv
  obtain ⟨c, b, rfl, hcs, hbs⟩ := ch_at hv
  have hsz : 0 < m.2.length := by have := hm.size; omega
  refine ⟨_, pss_one (ps_ret (pe_tup (pa_cons (pe_ix ix_tup (pe_ix ix_tup (pv 0) pe_int (fun _ _ => rfl)) pe_int (fun _ _ => rfl)) (pa1 (pe_k Fo rfl hr (pa1 (pv 0))))))), ?_⟩
  refine ⟨_, rfl, c, _, _, _, rfl, rfl, hcs, atI_nat (j := 1) rfl, b, _, _, _, rfl, rfl, hbs, atI_nat (j := 0) (vN_at hsz), _, rfl, _, m, A, L, rfl, hv', hm, fun H1 q g1 t1 => ?_⟩
  refine ⟨by show 2 ≤ sizeLine; rw [sizeLine_eq]; omega, fun r hr' => ?_⟩
  have gr := Gr.new (o := .tup [vN (at0 m.2 0), V.ref q]) hr'
  exact hQ _ _ (g1.trans gr) (.tup (.inl (.inl upd_same)) (.cons (.num _) (.cons (gr.tp t1) .nil)))
end
end SL
end

section
set_option Elab.async false
set_option linter.all false
set_option maxRecDepth 100000
set_option maxHeartbeats 4000000
/-! walks: arrangements -/
namespace SL
open PySem PySem.Spec PyProof.Rows L2
/-! ### keys of the arrangements -/
theorem alike_nums' : ∀ a b : List Nat, PySem.W.alikeAll (NestedKey.datas (a.map kN)) (NestedKey.datas (b.map kN)) = true
  | [], _ => by simp [NestedKey.datas, PySem.W.alikeAll]
  | _ :: _, [] => by simp [NestedKey.datas, PySem.W.alikeAll]
  | x :: a, y :: b => by
    have := alike_nums' a b
    simp [NestedKey.datas, NestedKey.data, PySem.W.alikeAll, PySem.W.alike, this]
theorem alike_kNs (a b : List Nat) : PySem.W.alike (kNs a).data (kNs b).data = true := by
  rw [NestedKey.data, NestedKey.data, PySem.W.alike]
  exact alike_nums' a b
theorem alike_kNss : ∀ a b : List (List Nat), PySem.W.alikeAll (NestedKey.datas (a.map kNs)) (NestedKey.datas (b.map kNs)) = true
  | [], _ => by simp [NestedKey.datas, PySem.W.alikeAll]
  | _ :: _, [] => by simp [NestedKey.datas, PySem.W.alikeAll]
  | x :: a, y :: b => by
    have h1 := alike_kNss a b
    have h2 := alike_kNs x y
    rw [List.map_cons, List.map_cons, NestedKey.datas, NestedKey.datas, PySem.W.alikeAll, h2, h1]
    rfl
theorem alike_kArr (a b : Arr) : PySem.W.alike (kArr a).data (kArr b).data = true := by
  unfold kArr
  have h := alike_kNss a.2 b.2
  simp [NestedKey.data, NestedKey.datas, PySem.W.alikeAll, PySem.W.alike, h]
theorem alike_kCh (a b : Ch) : PySem.W.alike (kCh a).data (kCh b).data = true := by
  unfold kCh
  have h := alike_nums' a.2 b.2
  simp [NestedKey.data, NestedKey.datas, PySem.W.alikeAll, PySem.W.alike, h]
theorem sortOk_arr {ks : List NK} (h : ∀ k ∈ ks, ∃ a, k = kArr a) : SortOk ks := by
  refine ⟨fun a ha b hb => ?_, fun k hk => ?_, fun k hk => ?_⟩
  · obtain ⟨k, hk, rfl⟩ := List.mem_map.mp ha
    obtain ⟨l, hl, rfl⟩ := List.mem_map.mp hb
    obtain ⟨x, rfl⟩ := h k hk
    obtain ⟨y, rfl⟩ := h l hl
    exact alike_kArr x y
  · obtain ⟨x, rfl⟩ := h k hk
    exact ⟨_, _, rfl⟩
  · obtain ⟨x, rfl⟩ := h k hk
    exact kArr_depth x
theorem sortOk_ch {ks : List NK} (h : ∀ k ∈ ks, ∃ a, k = kCh a) : SortOk ks := by
  refine ⟨fun a ha b hb => ?_, fun k hk => ?_, fun k hk => ?_⟩
  · obtain ⟨k, hk, rfl⟩ := List.mem_map.mp ha
    obtain ⟨l, hl, rfl⟩ := List.mem_map.mp hb
    obtain ⟨x, rfl⟩ := h k hk
    obtain ⟨y, rfl⟩ := h l hl
    exact alike_kCh x y
  · obtain ⟨x, rfl⟩ := h k hk
    exact ⟨_, _, rfl⟩
  · obtain ⟨x, rfl⟩ := h k hk
    exact ch_depth x
/-! ### a dict of keys with True -/
def kvY (L : List NK) : List (NK × V) := L.map fun k => (k, V.bl true)
theorem kvY_put (L : List NK) (k : NK) : putK (kvY L) k (.bl true) = kvY (if k ∈ L then L else L ++ [k]) := by
  unfold putK
  by_cases h : k ∈ L
  · have ha : (kvY L).any (fun kv => decide (kv.1 = k)) = true := List.any_eq_true.mpr ⟨(k, V.bl true), List.mem_map.mpr ⟨k, h, rfl⟩, decide_eq_true rfl⟩
    rw [if_pos h, if_pos ha]
    unfold kvY
    rw [List.map_map]
    refine List.map_congr_left fun x hx => ?_
    show (if x = k then (x, V.bl true) else (x, V.bl true)) = (x, V.bl true)
    split <;> rfl
  · rw [if_neg h, if_neg]
    · unfold kvY
      rw [List.map_append]
      rfl
    · intro z
      obtain ⟨p, hp, e⟩ := List.any_eq_true.mp z
      obtain ⟨x, hx, rfl⟩ := List.mem_map.mp hp
      exact h (by have : x = k := by simpa using e
                  exact this ▸ hx)
theorem kvY_keys (L : List NK) : (kvY L).map (·.1) = L := by simp [kvY, Function.comp_def]
section
variable {w : World} {K : PySem.W.Frag} {mg : Str → Option Value} {base : Heap}
def spArrs (K : PySem.W.Frag) : Sp := fun vs H Q _ => ∃ v m A L, vs = [v] ∧ Tp K H v (kCh m) ∧ Tabs K H ∧ MapOk A L m ∧ Clos A L nextsOf [m] ∧ ∀ ks : List NK, ks.Nodup → (∀ k, k ∈ ks ↔ ∃ x, Rch nextsOf [m] x ∧ k = kArr (arrOf x)) → NewK K H Q (.tup (ks.mergeSort leK))
theorem sc_arrangements : FnScope ["chart", "one"] ["chart"] (defScope s_arrangements) := ⟨rfl, rfl, rfl, by decide +kernel, rfl, by decide +kernel, by decide +kernel⟩
theorem kp_arrangements (T : Tx K mg base) (Fm : Kp w K mg base "need_map" 6 ["chart"] (spNeed K)) (Fc : Kp w K mg base "all_of_class" 5 ["chart"] (spClass K)) (Fa : Kp w K mg base "arranged" 5 ["chart"] (spArd K)) :
    Kp w K mg base "arrangements" 7 ["chart"] (spArrs K) := by
  refine kp_of (d := d_arrangements) (k := 6) T (by simp [fn]) (by decide +kernel) rfl rfl rfl rfl rfl sc_arrangements (fun vs H Q E ⟨_, _, _, _, e, _⟩ => by rw [e]; rfl) (fun _ _ _ _ _ _ us hl => match us, hl with | [_], _ => rfl) fun Ar outer s H vs Q E hr hsp => ?_
  obtain ⟨v, m, A, L, rfl, hv, hT, hm, hC, hQ⟩ := hsp
  refine ⟨_, pss_cons (ps_expr (pe_k Fm rfl hr (pa1 (pv 0))))
    (pss_one (ps_ret (pe_tupleOf (by rfl) (T.free "tuple") (pe_callB (call_sortedM rfl (units16 hr)) (by rfl) (T.free "sorted") (by decide +kernel) (pa1 (pe_dcM (own := [("one", 1)]) (g := gName 1) (units9 hr) rfl sc_arrangements.nd (pi_list (pe_k Fc rfl (hr.mono (by decide)) (pa1 (pv 0))))
      (blkOk_by (N := ["chart", "one"]) (sc := defScope s_arrangements) (by decide +kernel)) (fun _ _ _ _ _ => pg_name (i := 1) sc_arrangements.nd rfl (Or.inl rfl)) (fun _ _ _ _ _ => pe_k Fa rfl (hr.mono (by decide)) (pa1 (pv 1))) (fun _ _ _ _ _ => pe_bl))))))), ?_⟩
  refine ⟨_, rfl, _, m, A, L, rfl, hT, hv, hm, fun H1 g1 => ⟨_, rfl, _, m, A, L, rfl, g1.tp hv, hT.gr g1, hC, fun found ndF hF H2 p xs g2 hp h2p tp => ?_⟩⟩
  have l0 := tp.length
  rw [List.length_map] at l0
  have few := hC.few found ndF fun x hx => (hF x).mp hx
  refine ⟨p, rfl, ⟨_, SqL.of h2p⟩, fun D H3 hD hb3 D3 => ⟨fun i mm H' => mm = found.length - i ∧ i ≤ found.length ∧ Gr H2 H' ∧ ∃ ls : List NK, ls.length ≤ i ∧ ls.Nodup ∧ (∀ k, k ∈ ls ↔ ∃ x ∈ found.take i, k = kArr (arrOf x)) ∧ DAt P0 w K H' D (kvY ls), ⟨found.length, by simp, Nat.zero_le _, (Gr.refl H2).but hD hb3, [], Nat.le_refl _, .nil, fun k => by simp, D3⟩, ?_⟩⟩
  rintro i mm H' ⟨rfl, hi, g', ls, hll, nd, hls, D'⟩
  by_cases hlt : i < found.length
  · refine .inr ⟨⟨xs, xs[i]'(by omega), SqL.of (g'.lst h2p), List.getElem?_eq_getElem _⟩, fun H'' => found.length - (i + 1) = found.length - (i + 1) ∧ Gr H2 H'' ∧ ∃ ls : List NK, ls.length ≤ i + 1 ∧ ls.Nodup ∧ (∀ k, k ∈ ls ↔ ∃ x ∈ found.take (i + 1), k = kArr (arrOf x)) ∧ DAt P0 w K H'' D (kvY ls), fun H'' h => ⟨found.length - (i + 1), by omega, rfl, hlt, h.2⟩, fun x H'' hy => ?_⟩
    obtain ⟨rfl, hx⟩ := hy
    have hx := hx _ (SqL.of (g'.lst h2p))
    obtain ⟨kc, ekc, tx⟩ := (g'.tps tp).get hx
    obtain ⟨hc, ehc, rfl⟩ : ∃ hc, found[i]? = some hc ∧ kCh hc = kc := by
      rw [List.getElem?_map] at ekc
      cases e : found[i]? with
      | none => rw [e] at ekc; cases ekc
      | some y => rw [e] at ekc; exact ⟨y, rfl, Option.some.inj ekc⟩
    have hshp := hC.shp hc ((hF hc).mp (List.mem_of_getElem? ehc))
    refine ⟨rfl, _, rfl, _, hc, A, L, rfl, tx, hshp, fun H4 q g4 t4 => ?_⟩
    refine ⟨kvY ls, q, kArr (arrOf hc), rfl, t4, kArr_depth _, g4.dat D', by unfold kvY; rw [List.length_map]; omega, fun H6 hb6 D6 => ⟨rfl, (g'.trans g4).but hD hb6, _, ?_, ?_, ?_, by rw [kvY_put] at D6; exact D6⟩⟩
    · split
      · omega
      · rw [List.length_append, List.length_singleton]; omega
    · split
      · exact nd
      · rename_i hn
        rw [List.nodup_append]
        exact ⟨nd, by simp, fun x hx z hz => by rw [List.mem_singleton.mp hz]; exact fun e => hn (e ▸ hx)⟩
    · intro k
      have et : found.take (i + 1) = found.take i ++ [hc] := by rw [List.take_add_one, ehc]; rfl
      rw [et]
      have key : k ∈ (if kArr (arrOf hc) ∈ ls then ls else ls ++ [kArr (arrOf hc)]) ↔ k ∈ ls ∨ k = kArr (arrOf hc) := by
        split
        · rename_i hm
          exact ⟨.inl, fun h => h.elim id fun e => e ▸ hm⟩
        · simp
      rw [key, hls]
      constructor
      · rintro (⟨x, hx, e⟩ | e)
        · exact ⟨x, List.mem_append_left _ hx, e⟩
        · exact ⟨hc, by simp, e⟩
      · rintro ⟨x, hx, e⟩
        rcases List.mem_append.mp hx with hx | hx
        · exact .inl ⟨x, hx, e⟩
        · rw [List.mem_singleton.mp hx] at e
          exact .inr e
  have ei : i = found.length := by omega
  subst ei
  rw [List.take_length] at hls
  refine .inl ⟨⟨xs, SqL.of (g'.lst h2p), by omega⟩, ?_⟩
  have g := (g1.trans g2).trans g'
  refine ⟨D, _, rfl, D', sortOk_arr ?_, fun p2 vs2 hp2 t2 => ?_⟩
  · rw [kvY_keys]
    intro k hk
    obtain ⟨x, _, e⟩ := (hls k).mp hk
    exact ⟨_, e⟩
  rw [kvY_keys] at t2
  refine .inl ⟨p2, vs2, rfl, SqL.of upd_same, fun q hq => ?_⟩
  have gp := Gr.new (o := .lst vs2) hp2
  have gq := Gr.new (o := .tup vs2) hq
  refine hQ ls nd (fun k => ?_) _ _ ((g.trans gp).trans gq) (.tup (.inl (.inl upd_same)) (gq.tps (gp.tps t2)))
  rw [hls]
  exact ⟨fun ⟨x, hx, e⟩ => ⟨x, (hF x).mp hx, e⟩, fun ⟨x, hx, e⟩ => ⟨x, (hF x).mpr hx, e⟩⟩
end
end SL
end

section
set_option Elab.async false
set_option linter.all false
set_option maxRecDepth 100000
set_option maxHeartbeats 4000000
/-! walks: degree_counts, most_free, freest, shows_freest -/
namespace SL
open PySem PySem.Spec PyProof.Rows L2
def degOf (x : Ch) : Nat := (takings x).length
def kDeg (x : Ch) : NK := .tup [kN (degOf x), kCh x]
def degRow (D : List Nat) : List Nat := (List.range (maxL D + 1)).map fun k => D.count k
theorem count_vN (D : List Nat) (k : Nat) : (D.map fun n : Nat => (n : Int)).count (k : Int) = D.count k := by
  induction D with
  | nil => rfl
  | cons x D ih =>
    rw [List.map_cons, List.count_cons, List.count_cons, ih]
    congr 1
    by_cases e : x = k
    · subst e; simp
    · have e1 : ((x : Int) == (k : Int)) = false := beq_eq_false_iff_ne.mpr fun z => e (by omega)
      have e2 : (x == k) = false := beq_eq_false_iff_ne.mpr e
      rw [e1, e2]
theorem takings_len {A L : Nat} {m : Ch} (h : Shp A L m) : (takings m).length ≤ 52 := by
  have h1 := tkUpto_len m (landsOf m)
  have h2 := h.lands_le
  have h3 := h.size
  have h4 := h.a4
  have hL3 : L ≤ 3 := by rcases h.len with e | e | e <;> omega
  have hAL : A * L ≤ 4 * 3 := Nat.mul_le_mul h4 hL3
  rw [takings_eq]
  have : landsOf m * m.2.length ≤ 4 * 13 := Nat.mul_le_mul (by omega) (by omega)
  omega
theorem kDeg_depth (x : Ch) : (kDeg x).depth ≤ 8 := by
  have h : (kCh x).depth ≤ 6 := by
    unfold kCh
    have := depth_kNs x.2
    simp only [NestedKey.depth, NestedKey.depthAll]
    omega
  unfold kDeg
  simp only [NestedKey.depth, NestedKey.depthAll]
  omega
theorem alike_kDeg (a b : Ch) : PySem.W.alike (kDeg a).data (kDeg b).data = true := by
  unfold kDeg
  have h := alike_kCh a b
  simp [NestedKey.data, NestedKey.datas, PySem.W.alikeAll, PySem.W.alike, h]
def rLen (K : PySem.W.Frag) : List V → Hp → VK → Prop := fun xs H Q => ∃ (p : Addr) (ys : List V), xs = [.ref p] ∧ (SqL K H p ys ∨ SqT K H p ys) ∧ Q (.int ys.length) H
theorem cr_len {X : Cx} : CallR X (.builtin "len") (rLen X.K) := call_len_seq
theorem tpCh_get {K : PySem.W.Frag} {H : Hp} {xs : List V} {found : List Ch} {i : Nat} {x : V} (t : TpAll K H xs (found.map kCh)) (hx : xs[i]? = some x) : ∃ hc, found[i]? = some hc ∧ Tp K H x (kCh hc) := by
  obtain ⟨kc, ekc, tx⟩ := t.get hx
  rw [List.getElem?_map] at ekc
  cases e : found[i]? with
  | none => rw [e] at ekc; cases ekc
  | some y => rw [e] at ekc; exact ⟨y, rfl, by rw [show kCh y = kc from Option.some.inj ekc]; exact tx⟩
theorem rch_ne {m : Ch} {found : List Ch} (hF : ∀ x, x ∈ found ↔ Rch nextsOf [m] x) : found ≠ [] := fun e => by
  have := (hF m).mpr (.base (by simp))
  rw [e] at this
  cases this
section
variable {w : World} {K : PySem.W.Frag} {mg : Str → Option Value} {base : Heap}
def spDeg (K : PySem.W.Frag) : Sp := fun vs H Q _ => ∃ v m A L, vs = [v] ∧ Tp K H v (kCh m) ∧ Tabs K H ∧ MapOk A L m ∧ Clos A L nextsOf [m] ∧ ∀ found : List Ch, found.Nodup → (∀ x, x ∈ found ↔ Rch nextsOf [m] x) → NewK K H Q (kNs (degRow (found.map degOf)))
theorem sc_degree_counts : FnScope ["chart", "some", "one", "many"] ["chart"] (defScope s_degree_counts) := ⟨rfl, rfl, rfl, by decide +kernel, rfl, by decide +kernel, by decide +kernel⟩
theorem kp_degree_counts (T : Tx K mg base) (Fm : Kp w K mg base "need_map" 6 ["chart"] (spNeed K)) (Fc : Kp w K mg base "all_of_class" 5 ["chart"] (spClass K)) (Ft : Kp w K mg base "all_takings" 4 ["chart"] (spTks K)) :
    Kp w K mg base "degree_counts" 7 ["chart"] (spDeg K) := by
  refine kp_of (d := d_degree_counts) (k := 6) T (by simp [fn]) (by decide +kernel) rfl rfl rfl rfl rfl sc_degree_counts (fun vs H Q E ⟨_, _, _, _, e, _⟩ => by rw [e]; rfl) (fun _ _ _ _ _ _ us hl => match us, hl with | [_], _ => rfl) fun Ar outer s H vs Q E hr hsp => ?_
  obtain ⟨v, m, A, L, rfl, hv, hT, hm, hC, hQ⟩ := hsp
  refine ⟨_, pss_cons (ps_expr (pe_k Fm rfl hr (pa1 (pv 0))))
    (pss_cons (ps_set (i := 1) sc_degree_counts.nd rfl (.inr rfl) (pe_lc (own := [("one", 2)]) (g := gName 2) (tt := tYes) rfl sc_degree_counts.nd (pi_list (pe_k Fc rfl (hr.mono (by decide)) (pa1 (pv 0))))
      (blkOk_by (N := ["chart", "some", "one", "many"]) (sc := defScope s_degree_counts) (by decide +kernel)) (fun _ _ _ _ _ => pg_name (i := 2) sc_degree_counts.nd rfl (Or.inl rfl)) (fun _ _ _ _ _ => pts_nil) (fun _ _ _ _ _ => pe_callB (r := rLen K) cr_len (by rfl) (T.free "len") PySem.boot_len (pa1 (pe_k Ft rfl (hr.mono (by decide)) (pa1 (pv 2)))))))
    (pss_one (ps_ret (pe_tupleOf (by rfl) (T.free "tuple") (pe_lc (own := [("many", 3)]) (g := gName 3) (tt := tYes) (te := tBM K "list" (rCntI K) (tVar 1) (tCons (tVar 3) tNil)) rfl sc_degree_counts.nd (pi_range1 (by rfl) (T.free "range") (pa1 (pe_op op_add (pe_callB (cr_maxNs rfl (units16 hr)) (by rfl) (T.free "max") (by decide +kernel) (pa1 (pv 1))) pe_int)))
      (blkOk_by (N := ["chart", "some", "one", "many"]) (sc := defScope s_degree_counts) (by decide +kernel)) (fun _ _ _ _ _ => pg_name (i := 3) sc_degree_counts.nd rfl (Or.inl rfl)) (fun _ _ _ _ _ => pts_nil) (fun _ _ _ _ _ => pe_bm (r := rCntI K) PySem.F.plainAttrs_list PySem.F.slot_list_count PySem.F.type_list_count mt_lcount (pv 1) (pa1 (pv 3)))))))), ?_⟩
  refine ⟨_, rfl, _, m, A, L, rfl, hT, hv, hm, fun H1 g1 => ⟨_, rfl, _, m, A, L, rfl, g1.tp hv, hT.gr g1, hC, fun found ndF hF H2 p xs g2 hp h2p tp => ?_⟩⟩
  have l0 := tp.length
  rw [List.length_map] at l0
  have few := hC.few found ndF fun x hx => (hF x).mp hx
  have g12 := g1.trans g2
  refine ⟨p, rfl, ⟨_, SqL.of h2p⟩, fun D hD => lc_list (xs := xs) (fun i H' => H' D = some (.lst (((found.take i).map degOf).map vN)) ∧ Gr H2 H') ⟨upd_same, Gr.new hD⟩ (fun i H' _ h => SqL.of (h.2.lst h2p)) ?_ ?_⟩
  · rintro i x H3 hx ⟨h3, g3⟩
    obtain ⟨hc, ehc, tx⟩ := tpCh_get (g3.tps tp) hx
    have hshp := hC.shp hc ((hF hc).mp (List.mem_of_getElem? ehc))
    have hi := (List.getElem?_eq_some_iff.mp ehc).1
    refine ⟨rfl, _, rfl, _, hc, A, L, rfl, tx, hshp, hT.gr (g12.trans g3), fun H4 q ys g4 hq h4q t4 => ?_⟩
    refine ⟨q, ys, rfl, .inl (SqL.of h4q), _, g4.lst h3, by rw [List.length_map, List.length_map, List.length_take]; omega, ?_, Gr.put (g3.trans g4) hD⟩
    have e2 : ys.length = degOf hc := by have := t4.length; rw [List.length_map] at this; exact this
    rw [upd_same, List.take_add_one, ehc, e2]
    simp
  · rintro H3 ⟨h3, g3⟩
    rw [l0, List.take_length] at h3
    have hne := rch_ne hF
    have g := g12.trans g3
    generalize hDg : found.map degOf = Dg at h3
    have hne2 : Dg ≠ [] := by rw [← hDg]; simpa using hne
    have hmx : maxL Dg ≤ 52 := by
      have h := maxL_in hne2
      have hh : maxL Dg ∈ found.map degOf := by rw [hDg]; exact h
      obtain ⟨x, hx, e⟩ := List.mem_map.mp hh
      rw [← e]
      exact takings_len (hC.shp x ((hF x).mp hx))
    refine ⟨_, rfl, D, Dg, rfl, .inl (SqL.of h3), hne2, _, _, rfl, rfl, maxL Dg + 1, rfl, by omega, by omega, fun D2 hD2 => lc_range (lo := 0) (n := maxL Dg + 1) (fun j H' => H' D2 = some (.lst (((List.range j).map fun k => Dg.count k).map vN)) ∧ Gr H3 H') ⟨upd_same, Gr.new hD2⟩ ?_ ?_⟩
    · rintro j H4 hj ⟨h4, g4⟩
      have ej : V.int (0 + (j : Int)) = vN j := by simp
      rw [ej]
      refine ⟨rfl, _, rfl, .inl ⟨rfl, _, SqL.of (g4.lst h3)⟩, _, rfl, D, Dg.map fun n : Nat => (n : Int), (j : Int), rfl, rfl, SqL.of (by rw [g4.lst h3, List.map_map]; rfl), ?_⟩
      rw [count_vN]
      refine ⟨_, h4, by simp [sizeLine_eq]; omega, ?_, Gr.put g4 hD2⟩
      rw [upd_same, List.range_succ]
      simp
    · rintro H4 ⟨h4, g4⟩
      refine .inl ⟨D2, _, rfl, SqL.of h4, fun q hq => ?_⟩
      have gq := Gr.new (o := .tup (((List.range (maxL Dg + 1)).map fun k => Dg.count k).map vN)) hq
      have := hQ found ndF hF _ q ((g.trans g4).trans gq)
      rw [hDg] at this
      exact this (tp_nums (.inl (.inl upd_same)))
end
end SL
end

section
set_option Elab.async false
set_option linter.all false
set_option maxRecDepth 100000
set_option maxHeartbeats 4000000
/-! walks: most_free, freest, shows_freest -/
namespace SL
open PySem PySem.Spec PyProof.Rows L2
section
variable {w : World} {K : PySem.W.Frag} {mg : Str → Option Value} {base : Heap}
def TopOk (m x : Ch) : Prop := Rch nextsOf [m] x ∧ ∀ y, Rch nextsOf [m] y → leK (kDeg y) (kDeg x) = true
theorem TopOk.ge {m x y : Ch} (h : TopOk m x) (hy : Rch nextsOf [m] y) : degOf y ≤ degOf x := by
  have := leK_head (h.2 y hy)
  omega
def spMost (K : PySem.W.Frag) : Sp := fun vs H Q _ => ∃ v m A L, vs = [v] ∧ Tp K H v (kCh m) ∧ Tabs K H ∧ MapOk A L m ∧ Clos A L nextsOf [m] ∧ ∀ H' y x, Gr H H' → Tp K H' y (kDeg x) → TopOk m x → Q y H'
theorem sc_most_free : FnScope ["chart", "one"] ["chart"] (defScope s_most_free) := ⟨rfl, rfl, rfl, by decide +kernel, rfl, by decide +kernel, by decide +kernel⟩
theorem kp_most_free (T : Tx K mg base) (Fc : Kp w K mg base "all_of_class" 5 ["chart"] (spClass K)) (Ft : Kp w K mg base "all_takings" 4 ["chart"] (spTks K)) :
    Kp w K mg base "most_free" 6 ["chart"] (spMost K) := by
  refine kp_of (d := d_most_free) (k := 5) T (by simp [fn]) (by decide +kernel) rfl rfl rfl rfl rfl sc_most_free (fun vs H Q E ⟨_, _, _, _, e, _⟩ => by rw [e]; rfl) (fun _ _ _ _ _ _ us hl => match us, hl with | [_], _ => rfl) fun Ar outer s H vs Q E hr hsp => ?_
  obtain ⟨v, m, A, L, rfl, hv, hT, hm, hC, hQ⟩ := hsp
  refine ⟨_, pss_one (ps_ret (pe_callB (cr_maxN rfl (units16 hr)) (by rfl) (T.free "max") (by decide +kernel) (pa1 (pe_lc (own := [("one", 1)]) (g := gName 1) (tt := tYes) rfl sc_most_free.nd (pi_list (pe_k Fc rfl hr (pa1 (pv 0))))
      (blkOk_by (N := ["chart", "one"]) (sc := defScope s_most_free) (by decide +kernel)) (fun _ _ _ _ _ => pg_name (i := 1) sc_most_free.nd rfl (Or.inl rfl)) (fun _ _ _ _ _ => pts_nil) (fun _ _ _ _ _ => pe_tup (pa_cons (pe_callB (r := rLen K) cr_len (by rfl) (T.free "len") PySem.boot_len (pa1 (pe_k Ft rfl (hr.mono (by decide)) (pa1 (pv 1))))) (pa1 (pv 1)))))))), ?_⟩
  refine ⟨_, rfl, _, m, A, L, rfl, hv, hT, hC, fun found ndF hF H2 p xs g2 hp h2p tp => ?_⟩
  have l0 := tp.length
  rw [List.length_map] at l0
  have few := hC.few found ndF fun x hx => (hF x).mp hx
  refine ⟨p, rfl, ⟨_, SqL.of h2p⟩, fun D hD => lc_list (xs := xs) (fun i H' => LcK K D H2 ((found.take i).map kDeg) H') (LcK.start hD) (fun i H' _ h => SqL.of (h.gr.lst h2p)) ?_ ?_⟩
  · rintro i x H3 hx h3
    have g3 := h3.gr
    obtain ⟨hc, ehc, tx⟩ := tpCh_get (g3.tps tp) hx
    have hshp := hC.shp hc ((hF hc).mp (List.mem_of_getElem? ehc))
    have hi := (List.getElem?_eq_some_iff.mp ehc).1
    refine ⟨rfl, _, rfl, _, hc, A, L, rfl, tx, hshp, hT.gr (g2.trans g3), fun H4 q ys g4 hq h4q t4 => ?_⟩
    refine ⟨q, ys, rfl, .inl (SqL.of h4q), ?_⟩
    have e2 : ys.length = degOf hc := by have := t4.length; rw [List.length_map] at this; exact this
    rw [e2]
    refine ⟨_, rfl, by show 2 ≤ sizeLine; rw [sizeLine_eq]; omega, fun r hr' => ?_⟩
    have gr := Gr.new (o := .tup [V.int (degOf hc), x]) hr'
    obtain ⟨zs, e, el, h'⟩ := h3.put (g4.trans gr) (k := kDeg hc) (y := .ref r) (.tup (.inl (.inl upd_same)) (by exact .cons (.num _) (.cons ((g4.trans gr).tp tx) .nil))) hD
    refine ⟨zs, e, by rw [el, List.length_map, List.length_take]; omega, ?_⟩
    rw [List.take_add_one, ehc, List.map_append]
    exact h'
  · rintro H3 h3
    rw [l0, List.take_length] at h3
    obtain ⟨zs, e, tz, g3⟩ := h3
    have hne := rch_ne hF
    cases found with
    | nil => exact absurd rfl hne
    | cons f0 fs =>
      refine ⟨D, zs, kDeg f0, fs.map kDeg, rfl, .inl (SqL.of e), tz, ?_, fun k hk => ?_, fun y k hy hk tk hz => ?_⟩
      · intro a ha b hb
        rw [← List.map_cons, List.map_map] at ha hb
        obtain ⟨x, _, rfl⟩ := List.mem_map.mp ha
        obtain ⟨z, _, rfl⟩ := List.mem_map.mp hb
        exact alike_kDeg x z
      · obtain ⟨x, _, rfl⟩ := List.mem_map.mp (show k ∈ (f0 :: fs).map kDeg from hk)
        exact kDeg_depth x
      · obtain ⟨x, hx, rfl⟩ := List.mem_map.mp (show k ∈ (f0 :: fs).map kDeg from hk)
        exact hQ _ y x (g2.trans g3) tk ⟨(hF x).mp hx, fun z hz' => hz _ (List.mem_map.mpr ⟨z, (hF z).mpr hz', rfl⟩)⟩
theorem sc_freest : FnScope ["chart"] ["chart"] (defScope s_freest) := ⟨rfl, rfl, rfl, by decide +kernel, rfl, by decide +kernel, by decide +kernel⟩
theorem kp_freest (T : Tx K mg base) (Fm : Kp w K mg base "need_map" 6 ["chart"] (spNeed K)) (Fo : Kp w K mg base "most_free" 6 ["chart"] (spMost K)) : Kp w K mg base "freest" 7 ["chart"] (spMost K) := by
  refine kp_of (d := d_freest) (k := 6) T (by simp [fn]) (by decide +kernel) rfl rfl rfl rfl rfl sc_freest (fun vs H Q E ⟨_, _, _, _, e, _⟩ => by rw [e]; rfl) (fun _ _ _ _ _ _ us hl => match us, hl with | [_], _ => rfl) fun Ar outer s H vs Q E hr hsp => ?_
  obtain ⟨v, m, A, L, rfl, hv, hT, hm, hC, hQ⟩ := hsp
  refine ⟨_, pss_cons (ps_expr (pe_k Fm rfl hr (pa1 (pv 0)))) (pss_one (ps_ret (pe_k Fo rfl hr (pa1 (pv 0))))), ?_⟩
  exact ⟨_, rfl, _, m, A, L, rfl, hT, hv, hm, fun H1 g1 => ⟨_, rfl, _, m, A, L, rfl, g1.tp hv, hT.gr g1, hm, hC, fun H' y x g t tp => hQ H' y x (g1.trans g) t tp⟩⟩
/-! ### shows_freest -/
def NoTup (H : Hp) (u : V) : Prop := (∃ l vs, u = .ref l ∧ H l = some (.lst vs)) ∨ u = .non ∨ ∃ i, u = .int i
theorem NoTup.gr {H H' : Hp} (g : Gr H H') {u : V} (h : NoTup H u) : NoTup H' u := by
  rcases h with ⟨l, vs, e, h⟩ | h
  · exact .inl ⟨l, vs, e, g.lst h⟩
  · exact .inr h
theorem NoTup.ty {H : Hp} {u : V} (h : NoTup H u) : TyX K H u (.type "list") ∨ TyX K H u (.type "NoneType") ∨ TyX K H u (.type "int") := by
  rcases h with ⟨l, vs, rfl, h⟩ | rfl | ⟨i, rfl⟩
  · exact .inl (.base (.lst h))
  · exact .inr (.inl (.base .non))
  · exact .inr (.inr (.base (.int i)))
def spShows (K : PySem.W.Frag) : Sp := fun vs H Q _ => ∃ v u m A L best, vs = [v, u] ∧ Tp K H v (kCh m) ∧ Tabs K H ∧ MapOk A L m ∧ Clos A L nextsOf [m] ∧ (∃ x, Rch nextsOf [m] x ∧ degOf x = best) ∧ (∀ y, Rch nextsOf [m] y → degOf y ≤ best) ∧
  ((NoTup H u ∧ ∀ H', Gr H H' → Q (.bl false) H') ∨
  ∃ q i y, u = .ref q ∧ SqT K H q [vN i, y] ∧ ((i ≠ best ∧ ∀ H', Gr H H' → Q (.bl false) H') ∨ (i = best ∧ (
    (NoTup H y ∧ ∀ H', Gr H H' → Q (.bl false) H') ∨
    (∃ c b, y = .ref c ∧ SqT K H c [vN A, .ref b] ∧ SqT K H b [] ∧ ∀ H', Gr H H' → Q (.bl false) H') ∨
    (∃ x, Tp K H y (kCh x) ∧ MapOk A L x ∧ Rch nextsOf [m] x ∧ ∀ H', Gr H H' → Q (.bl (decide (degOf x = best))) H')))))
theorem sc_shows_freest : FnScope ["chart", "value", "best"] ["chart", "value"] (defScope s_shows_freest) := ⟨rfl, rfl, rfl, by decide +kernel, rfl, by decide +kernel, by decide +kernel⟩
theorem kp_shows_freest (T : Tx K mg base) (Fm : Kp w K mg base "need_map" 6 ["chart"] (spNeed K)) (Fo : Kp w K mg base "most_free" 6 ["chart"] (spMost K)) (Fi : Kp w K mg base "is_in" 1 ["value", "least", "most"] spIsIn) (Fp : Kp w K mg base "is_map" 5 ["value"] (spIsMap K))
    (Fc : Kp w K mg base "all_of_class" 5 ["chart"] (spClass K)) (Ft : Kp w K mg base "all_takings" 4 ["chart"] (spTks K)) :
    Kp w K mg base "shows_freest" 7 ["chart", "value"] (spShows K) := by
  refine kp_of (d := d_shows_freest) (k := 6) T (by simp [fn]) (by decide +kernel) rfl rfl rfl rfl rfl sc_shows_freest (fun vs H Q E ⟨_, _, _, _, _, _, e, _⟩ => by rw [e]; rfl) (fun _ _ _ _ _ _ us hl => match us, hl with | [_, _], _ => rfl) fun Ar outer s H vs Q E hr hsp => ?_
  obtain ⟨v, u, m, A, L, best, rfl, hv, hT, hm, hC, hb1, hb2, hcase⟩ := hsp
  refine ⟨_, pss_cons (ps_expr (pe_k Fm rfl hr (pa1 (pv 0))))
    (pss_cons (ps_set (i := 2) sc_shows_freest.nd rfl (.inl rfl) (pe_ix ix_tup (pe_k Fo rfl hr (pa1 (pv 0))) pe_int (fun _ _ => rfl)))
    (pss_cons (ps_if (PW.pt (pw_or (pt_not (pt_val (pe_callB call_isi (by rfl) (T.free "isinstance") (by decide +kernel) (pa_cons (pv 1) (pa1 (pe_bltn (v := .ty "tuple") (by rfl) (T.free "tuple") (by decide +kernel) rfl))))))
        (pw_or (pt_cmpR op_ne (pe_callB call_len_seq (by rfl) (T.free "len") PySem.boot_len (pa1 (pv 1))) pe_int (nomark _))
        (pw_or1 (pt_not (pt_val (pe_k Fi rfl (hr.mono (by decide)) (pa_cons (pe_ix ix_tup (pv 1) pe_int (fun _ _ => rfl)) (pa_cons (pv 2) (pa1 (pv 2)))))))))))
      (pss_one (ps_ret pe_bl)) pss_nil)
    (pss_one (ps_ret (pe_and (pe_k Fp rfl (hr.mono (by decide)) (pa1 (pe_ix ix_tup (pv 1) pe_int (fun _ _ => rfl))))
      (pe_and (pe_cmpR (op_inK (units65 hr)) (pe_ix ix_tup (pv 1) pe_int (fun _ _ => rfl)) (pe_k Fc rfl (hr.mono (by decide)) (pa1 (pv 0))) rfl)
      (pe_one (pe_cmpR op_eq (pe_callB call_len_seq (by rfl) (T.free "len") PySem.boot_len (pa1 (pe_k Ft rfl (hr.mono (by decide)) (pa1 (pe_ix ix_tup (pv 1) pe_int (fun _ _ => rfl)))))) (pv 2) (nomark _))))))))), ?_⟩
  refine ⟨_, rfl, _, m, A, L, rfl, hT, hv, hm, fun H1 g1 => ⟨_, rfl, _, m, A, L, rfl, g1.tp hv, hT.gr g1, hm, hC, fun H2 y x g2 t2 hx => ?_⟩⟩
  have hbest : degOf x = best := by
    obtain ⟨z, hz, e⟩ := hb1
    have h1 := hx.ge hz
    have h2 := hb2 x hx.1
    omega
  obtain ⟨r, rfl, hrs⟩ : ∃ r, y = .ref r ∧ ∃ z, SqT K H2 r [vN best, z] := by
    unfold kDeg at t2
    cases t2 with
    | @tup a xs _ h1 h2 =>
      cases h2 with
      | cons t1 t2 =>
        cases t2 with
        | cons t2 t3 =>
          cases t3
          cases t1
          exact ⟨a, rfl, _, by rw [← hbest]; exact h1⟩
  obtain ⟨z, hrs⟩ := hrs
  have g := g1.trans g2
  refine ⟨r, _, _, _, rfl, rfl, hrs, atI_nat (j := 0) rfl, ?_⟩
  have eQ : ∀ b, (∀ H', Gr H H' → Q (.bl b) H') → Q (.bl b) H2 := fun b h => h _ g
  rcases hcase with ⟨hty, hQ⟩ | ⟨q, i, y, rfl, hq, hcase⟩
  · rcases (hty.gr g).ty (K := K) with ht | ht | ht
    · refine ⟨_, rfl, _, _, _, _, _, rfl, .ty "tuple", ht, kit_ty (r := false) (by decide +kernel), false, rfl, ?_⟩
      exact iteT' rfl (iteT' rfl (eQ _ hQ))
    · refine ⟨_, rfl, _, _, _, _, _, rfl, .ty "tuple", ht, kit_ty (r := false) (by decide +kernel), false, rfl, ?_⟩
      exact iteT' rfl (iteT' rfl (eQ _ hQ))
    · refine ⟨_, rfl, _, _, _, _, _, rfl, .ty "tuple", ht, kit_ty (r := false) (by decide +kernel), false, rfl, ?_⟩
      exact iteT' rfl (iteT' rfl (eQ _ hQ))
  · have hq' := g.sqT hq
    have e1 : atI ([vN i, y] : List V) 1 = some y := atI_nat (j := 1) rfl
    refine ⟨_, rfl, _, _, _, _, _, rfl, .ty "tuple", tyx_tup T hq', kit_ty (r := true) (by decide +kernel), true, rfl, ?_⟩
    refine iteF' rfl ⟨_, rfl, q, _, rfl, .inr hq', rfl, _, rfl, ?_⟩
    refine iteF' rfl ⟨_, rfl, q, _, _, _, rfl, rfl, hq', atI_nat (j := 0) rfl, _, rfl, _, rfl, _, _, _, rfl, _, rfl, ?_⟩
    rcases hcase with ⟨hi, hQ⟩ | ⟨rfl, hcase⟩
    · refine iteT' (by show (!decide ((best : Int) ≤ i ∧ (i : Int) ≤ best)) = true; rw [decide_eq_false (by omega)]; rfl) (eQ _ hQ)
    · refine iteF' (by show (!decide ((i : Int) ≤ i ∧ (i : Int) ≤ i)) = false; rw [decide_eq_true (by omega)]; rfl) ?_
      rcases hcase with ⟨ht, hQ⟩ | ⟨c, b, rfl, hc, hb, hQ⟩ | ⟨x1, tx1, hm1, hr1, hQ⟩
      · exact ⟨_, rfl, q, _, _, _, rfl, rfl, hq', e1, _, rfl, hT.gr g, .inr (.inl ⟨(ht.gr g).ty, ⟨_, rfl, iteF' rfl (eQ _ hQ)⟩⟩)⟩
      · exact ⟨_, rfl, q, _, _, _, rfl, rfl, hq', e1, _, rfl, hT.gr g, .inr (.inr ⟨c, b, A, rfl, g.sqT hc, g.sqT hb, hm.a3, hm.a4, ⟨_, rfl, iteF' rfl (eQ _ hQ)⟩⟩)⟩
      · have tx' := g.tp tx1
        refine ⟨_, rfl, q, _, _, _, rfl, rfl, hq', e1, _, rfl, hT.gr g, .inl ⟨x1, A, L, tx', hm1, fun H3 g3 => ⟨_, rfl, iteT' rfl ?_⟩⟩⟩
        have g4 := g.trans g3
        refine ⟨_, rfl, q, _, _, _, rfl, rfl, g3.sqT hq', e1, _, rfl, _, m, A, L, rfl, g4.tp hv, hT.gr g4, hC, fun found ndF hF H5 p xs g5 hp h5p tp => ?_⟩
        refine ⟨kCh x1, p, xs, _, rfl, (g3.trans g5).tp tx', SqL.of h5p, tp, ch_depth _, fun z hz => ?_, ?_⟩
        · obtain ⟨z', _, rfl⟩ := List.mem_map.mp hz
          exact ch_depth _
        refine ⟨_, rfl, iteT' (decide_eq_true (List.mem_map.mpr ⟨x1, (hF x1).mpr hr1, rfl⟩)) ?_⟩
        have g6 := g4.trans g5
        refine ⟨_, rfl, q, _, _, _, rfl, rfl, g6.sqT hq, e1, _, x1, A, L, rfl, g6.tp tx1, hm1.toShp, hT.gr g6, fun H7 r7 ys g7 hr7 h7 t7 => ?_⟩
        have e2 : ys.length = degOf x1 := by have := t7.length; rw [List.length_map] at this; exact this
        refine ⟨r7, ys, rfl, .inl (SqL.of h7), _, rfl, rfl, ?_⟩
        rw [e2]
        have e3 : decide (V.int (degOf x1 : Int) = vN i) = decide (degOf x1 = i) := decide_eq_decide.mpr vN_eq
        rw [e3]
        exact hQ _ (g6.trans g7)
end
end SL
end

section
set_option Elab.async false
set_option linter.all false
set_option maxRecDepth 100000
set_option maxHeartbeats 4000000
/-! dicts of arrangements; the distance in hub turns; what a class keeps -/
namespace SL
open PySem PySem.Spec PyProof.Rows L2
theorem valV_in (kvs : List (NK × V)) (k : NK) : (valV kvs k).isSome = decide (k ∈ kvs.map (·.1)) := by
  induction kvs with
  | nil => rfl
  | cons p kvs ih =>
    obtain ⟨a, v⟩ := p
    by_cases e : a = k
    · subst e
      rw [valV_pos rfl]
      simp
    · rw [valV_neg e, ih]
      exact decide_eq_decide.mpr ⟨fun h => List.mem_cons_of_mem _ h, fun h => (List.mem_cons.mp h).resolve_left fun z => e z.symm⟩
theorem putK_keys (kvs : List (NK × V)) (k : NK) (v : V) : (putK kvs k v).map (·.1) = if k ∈ kvs.map (·.1) then kvs.map (·.1) else kvs.map (·.1) ++ [k] := by
  unfold putK
  have e : (kvs.any fun kv => decide (kv.1 = k)) = decide (k ∈ kvs.map (·.1)) := by
    rw [Bool.eq_iff_iff, List.any_eq_true, decide_eq_true_eq, List.mem_map]
    constructor
    · rintro ⟨p, hp, h⟩
      exact ⟨p, hp, of_decide_eq_true h⟩
    · rintro ⟨p, hp, h⟩
      exact ⟨p, hp, decide_eq_true h⟩
  rw [e]
  by_cases h : k ∈ kvs.map (·.1)
  · rw [if_pos h, if_pos (decide_eq_true h), List.map_map]
    refine List.map_congr_left fun x _ => ?_
    show (if x.1 = k then (x.1, v) else x).1 = x.1
    split <;> rfl
  · rw [if_neg h, if_neg (by rw [decide_eq_false h]; exact Bool.false_ne_true), List.map_append]
    rfl
theorem mergeP_keys (more : List (NK × V)) : ∀ kvs : List (NK × V), (kvs.map (·.1)).Nodup → ((mergeP kvs more).map (·.1)).Nodup ∧ ∀ k, k ∈ (mergeP kvs more).map (·.1) ↔ k ∈ kvs.map (·.1) ∨ k ∈ more.map (·.1) := by
  induction more with
  | nil => intro kvs nd; exact ⟨nd, fun k => ⟨.inl, fun h => h.elim id fun z => (by cases z)⟩⟩
  | cons p more ih =>
    intro kvs nd
    have hk := putK_keys kvs p.1 p.2
    have nd' : ((putK kvs p.1 p.2).map (·.1)).Nodup := by
      rw [hk]
      split
      · exact nd
      · rename_i hn
        rw [List.nodup_append]
        exact ⟨nd, by simp, fun x hx z hz => by rw [List.mem_singleton.mp hz]; exact fun e => hn (e ▸ hx)⟩
    obtain ⟨h1, h2⟩ := ih (putK kvs p.1 p.2) nd'
    refine ⟨h1, fun k => (h2 k).trans ?_⟩
    rw [hk, List.map_cons, List.mem_cons]
    split
    · rename_i hm
      constructor
      · rintro (h | h)
        · exact .inl h
        · exact .inr (.inr h)
      · rintro (h | h | h)
        · exact .inl h
        · exact .inl (h ▸ hm)
        · exact .inr h
    · rw [List.mem_append, List.mem_singleton, or_assoc]
/-- a dict from arrangements to maps -/
inductive KvC (K : PySem.W.Frag) (H : Hp) : List (NK × V) → List Ch → Prop
  | nil : KvC K H [] []
  | cons {kvs : List (NK × V)} {Ms : List Ch} {x : Ch} {v : V} : Tp K H v (kCh x) → KvC K H kvs Ms → KvC K H ((kArr (arrOf x), v) :: kvs) (x :: Ms)
section
variable {K : PySem.W.Frag} {H H' : Hp} {kvs : List (NK × V)} {Ms : List Ch}
theorem KvC.keys (h : KvC K H kvs Ms) : kvs.map (·.1) = (Ms.map arrOf).map kArr := by
  induction h with
  | nil => rfl
  | cons t _ ih => rw [List.map_cons, ih]; rfl
theorem KvC.vals (h : KvC K H kvs Ms) : TpAll K H (kvs.map (·.2)) (Ms.map kCh) := by
  induction h with
  | nil => exact .nil
  | cons t _ ih => exact .cons t ih
theorem KvC.mono (m : ∀ v k, Tp K H v k → Tp K H' v k) (h : KvC K H kvs Ms) : KvC K H' kvs Ms := by
  induction h with
  | nil => exact .nil
  | cons t _ ih => exact .cons (m _ _ t) ih
theorem KvC.gr (g : Gr H H') (h : KvC K H kvs Ms) : KvC K H' kvs Ms := h.mono fun _ _ => g.tp
theorem KvC.app {x : Ch} {v : V} (t : Tp K H v (kCh x)) (h : KvC K H kvs Ms) : KvC K H (kvs ++ [(kArr (arrOf x), v)]) (Ms ++ [x]) := by
  induction h with
  | nil => exact .cons t .nil
  | cons t _ ih => exact .cons t ih
theorem KvC.swap {y : Ch} {v : V} (t : Tp K H v (kCh y)) (h : KvC K H kvs Ms) : KvC K H (kvs.map fun kv => if kv.1 = kArr (arrOf y) then (kv.1, v) else kv) (Ms.map fun x => if arrOf x = arrOf y then y else x) := by
  induction h with
  | nil => exact .nil
  | @cons kvs Ms x u t1 h ih =>
    rw [List.map_cons, List.map_cons]
    by_cases e : arrOf x = arrOf y
    · rw [if_pos e, if_pos (by rw [e])]
      show KvC K H ((kArr (arrOf x), v) :: _) _
      rw [e]
      exact .cons t ih
    · rw [if_neg e, if_neg (fun z => e (kArr_inj z))]
      exact .cons t1 ih
theorem swap_arrs (y : Ch) (Ms : List Ch) : (Ms.map fun x => if arrOf x = arrOf y then y else x).map arrOf = Ms.map arrOf := by
  rw [List.map_map]
  refine List.map_congr_left fun x _ => ?_
  show arrOf (if arrOf x = arrOf y then y else x) = arrOf x
  split
  · rename_i e; exact e.symm
  · rfl
theorem KvC.put {y : Ch} {v : V} (h : KvC K H kvs Ms) (t : Tp K H v (kCh y)) (nd : (Ms.map arrOf).Nodup) : ∃ Ms', KvC K H (putK kvs (kArr (arrOf y)) v) Ms' ∧ (Ms'.map arrOf).Nodup ∧ (∀ a, a ∈ Ms'.map arrOf ↔ a ∈ Ms.map arrOf ∨ a = arrOf y) ∧ (∀ x ∈ Ms', x ∈ Ms ∨ x = y) := by
  have e : (kvs.any fun kv => decide (kv.1 = kArr (arrOf y))) = decide (arrOf y ∈ Ms.map arrOf) := by
    have hk := h.keys
    rw [Bool.eq_iff_iff, List.any_eq_true, decide_eq_true_eq]
    constructor
    · rintro ⟨p, hp, hz⟩
      have hz := of_decide_eq_true hz
      have : p.1 ∈ kvs.map (·.1) := List.mem_map.mpr ⟨p, hp, rfl⟩
      rw [hk, hz] at this
      obtain ⟨a, ha, ea⟩ := List.mem_map.mp this
      rw [← kArr_inj ea]
      exact ha
    · intro ha
      have : kArr (arrOf y) ∈ kvs.map (·.1) := by rw [hk]; exact List.mem_map.mpr ⟨_, ha, rfl⟩
      obtain ⟨p, hp, ep⟩ := List.mem_map.mp this
      exact ⟨p, hp, decide_eq_true ep⟩
  unfold putK
  rw [e]
  by_cases ha : arrOf y ∈ Ms.map arrOf
  · rw [if_pos (decide_eq_true ha)]
    refine ⟨_, h.swap t, by rw [swap_arrs]; exact nd, fun a => ?_, fun x hx => ?_⟩
    · rw [swap_arrs]
      exact ⟨.inl, fun z => z.elim id fun z => z ▸ ha⟩
    · obtain ⟨z, hz, e⟩ := List.mem_map.mp hx
      split at e
      · exact .inr e.symm
      · exact .inl (e ▸ hz)
  · rw [if_neg (by rw [decide_eq_false ha]; exact Bool.false_ne_true)]
    refine ⟨_, h.app t, ?_, fun a => ?_, fun x hx => ?_⟩
    · rw [List.map_append, List.nodup_append]
      exact ⟨nd, by simp, fun x hx z hz => by
        have : z = arrOf y := by simpa using hz
        rw [this]; exact fun e => ha (e ▸ hx)⟩
    · rw [List.map_append, List.mem_append]
      simp
    · rcases List.mem_append.mp hx with h | h
      · exact .inl h
      · exact .inr (List.mem_singleton.mp h)
end
/-- the arrangement a is reached by k turns of the hub -/
inductive Qd (m : Ch) : Nat → Arr → Prop
  | zero : Qd m 0 (arrOf m)
  | succ {k : Nat} {x : Ch} {t : Nat × Nat} : Qd m k (arrOf x) → Rch nextsOf [m] x → t ∈ takings x → t.2 = 0 → Qd m (k + 1) (arrOf (taken x t))
structure ClsOk (w : World) (A L : Nat) (m : Ch) : Prop where
  ok : ∀ x, Rch nextsOf [m] x → MapOk A L x
  few : ∀ l : List Ch, l.Nodup → (∀ x ∈ l, Rch nextsOf [m] x) → l.length ≤ sizeLine
  keep : ∀ x, Rch nextsOf [m] x → ∀ y ∈ stillOf x, arrOf y = arrOf x
  slide : ∀ x y, Rch nextsOf [m] x → Rch nextsOf [m] y → arrOf x = arrOf y → Rch stillOf [x] y
  hashes : ∀ l : List NK, l.Nodup → (∀ k ∈ l, ∃ x, Rch nextsOf [m] x ∧ k = kArr (arrOf x)) → (l.map (·.hash w)).Nodup
  arrs : ∀ l : List NK, l.Nodup → (∀ k ∈ l, ∃ x, Rch nextsOf [m] x ∧ k = kArr (arrOf x)) → l.length < 63
  key : ∀ x, Rch nextsOf [m] x → kKey m = kKey x
section
variable {w : World} {A L : Nat} {m : Ch}
theorem ClsOk.clos (h : ClsOk w A L m) : Clos A L nextsOf [m] := ⟨fun x hx => (h.ok x hx).toShp, h.few⟩
theorem still_next {x y : Ch} (h : y ∈ stillOf x) : y ∈ nextsOf x := by
  unfold stillOf at h
  obtain ⟨t, ht, e⟩ := List.mem_map.mp h
  exact List.mem_map.mpr ⟨t, (List.mem_filter.mp ht).1, e⟩
theorem rch_still {S : List Ch} (hS : ∀ x ∈ S, Rch nextsOf [m] x) : ∀ x, Rch stillOf S x → Rch nextsOf [m] x := fun x hx => by
  induction hx with
  | base h => exact hS _ h
  | step _ hy ih => exact .step ih (still_next hy)
theorem rch_mono {nx : Ch → List Ch} {S S' : List Ch} (hS : ∀ x ∈ S, x ∈ S') {x : Ch} (h : Rch nx S x) : Rch nx S' x := by
  induction h with
  | base h => exact .base (hS _ h)
  | step _ hy ih => exact .step ih hy
theorem ClsOk.closS (h : ClsOk w A L m) {S : List Ch} (hS : ∀ x ∈ S, Rch nextsOf [m] x) : Clos A L stillOf S :=
  ⟨fun x hx => (h.ok x (rch_still hS x hx)).toShp, fun l nd hl => h.few l nd fun x hx => rch_still hS x (hl x hx)⟩
/-- what slides from S: the maps of the class with an arrangement of S -/
theorem ClsOk.slides (h : ClsOk w A L m) {S : List Ch} (hS : ∀ x ∈ S, Rch nextsOf [m] x) (y : Ch) : Rch stillOf S y ↔ Rch nextsOf [m] y ∧ arrOf y ∈ S.map arrOf := by
  constructor
  · intro hy
    refine ⟨rch_still hS y hy, ?_⟩
    induction hy with
    | base h => exact List.mem_map.mpr ⟨_, h, rfl⟩
    | step hx hy ih => rw [h.keep _ (rch_still hS _ hx) _ hy]; exact ih
  · rintro ⟨hy, ha⟩
    obtain ⟨x, hx, e⟩ := List.mem_map.mp ha
    exact rch_mono (fun z hz => by rw [List.mem_singleton.mp hz]; exact hx) (h.slide x y (hS x hx) hy e)
theorem Qd.rch {k : Nat} {a : Arr} (h : Qd m k a) : ∃ x, Rch nextsOf [m] x ∧ arrOf x = a := by
  cases h with
  | zero => exact ⟨m, .base (by simp), rfl⟩
  | succ _ hx ht _ => exact ⟨_, .step hx (List.mem_map.mpr ⟨_, ht, rfl⟩), rfl⟩
theorem ClsOk.some (h : ClsOk w A L m) {x : Ch} (hx : Rch nextsOf [m] x) : ∃ k, Qd m k (arrOf x) := by
  induction hx with
  | base h => rw [List.mem_singleton.mp h]; exact ⟨0, .zero⟩
  | @step x y hx hy ih =>
    obtain ⟨k, hk⟩ := ih
    obtain ⟨t, ht, rfl⟩ := List.mem_map.mp hy
    by_cases h0 : t.2 = 0
    · exact ⟨k + 1, .succ hk hx ht h0⟩
    · refine ⟨k, ?_⟩
      rw [h.keep x hx _ (List.mem_map.mpr ⟨t, List.mem_filter.mpr ⟨ht, by simpa using h0⟩, rfl⟩)]
      exact hk
/-- the least number of hub turns -/
def Dist (m : Ch) (a : Arr) (d : Nat) : Prop := Qd m d a ∧ ∀ k, k < d → ¬ Qd m k a
theorem Dist.uniq {a : Arr} {d e : Nat} (h : Dist m a d) (h' : Dist m a e) : d = e := by
  rcases Nat.lt_trichotomy d e with z | z | z
  · exact absurd h.1 (h'.2 d z)
  · exact z
  · exact absurd h'.1 (h.2 e z)
theorem dist_ex {a : Arr} (h : ∃ k, Qd m k a) : ∃ d, Dist m a d := by
  obtain ⟨k, hk⟩ := h
  induction k using Nat.strongRecOn with
  | _ k ih =>
    by_cases z : ∃ j, j < k ∧ Qd m j a
    · obtain ⟨j, hj, h⟩ := z
      exact ih j hj h
    · exact ⟨k, hk, fun j hj h => z ⟨j, hj, h⟩⟩
theorem Qd.mono_ex {k : Nat} {a : Arr} : Qd m (k + 1) a → ∃ x, ∃ t, Qd m k (arrOf x) ∧ Rch nextsOf [m] x ∧ t ∈ takings x ∧ t.2 = 0 ∧ a = arrOf (taken x t) := fun h => by
  cases h with
  | succ h1 h2 h3 h4 => exact ⟨_, _, h1, h2, h3, h4, rfl⟩
end
end SL
end

section
set_option Elab.async false
set_option linter.all false
set_option maxRecDepth 100000
set_option maxHeartbeats 4000000
/-! walks: turns_between -/
namespace SL
open PySem PySem.Spec PyProof.Rows L2
theorem dat_nt {w : World} {K : PySem.W.Frag} {H : Hp} {d : Addr} {kvs : List (NK × V)} (x : DAt P0 w K H d kvs) : ∀ xs, ¬ Rd H d (.tup xs) := by
  obtain ⟨ks, e, _⟩ := x
  exact not_tup_ext e
theorem dat_some {w : World} {K : PySem.W.Frag} {H : Hp} {d : Addr} {kvs : List (NK × V)} (x : DAt P0 w K H d kvs) : H d ≠ none := by
  obtain ⟨ks, e, _⟩ := x
  rw [e]
  simp
def hubStep (x : Ch) (ts : List (Nat × Nat)) : List Ch := (ts.filter fun t => t.2 == 0).map (taken x)
theorem nodup_of_map {α β : Type} {f : α → β} : ∀ {l : List α}, (l.map f).Nodup → l.Nodup
  | [], _ => .nil
  | x :: l, h => by
    rw [List.map_cons] at h
    obtain ⟨h1, h2⟩ := List.nodup_cons.mp h
    exact List.nodup_cons.mpr ⟨fun z => h1 (List.mem_map.mpr ⟨x, z, rfl⟩), nodup_of_map h2⟩
theorem hubStep_succ {x : Ch} {ts : List (Nat × Nat)} {j : Nat} {t : Nat × Nat} (e : ts[j]? = some t) : hubStep x (ts.take (j + 1)) = hubStep x (ts.take j) ++ (if t.2 = 0 then [taken x t] else []) := by
  unfold hubStep
  rw [List.take_add_one, e, List.filter_append, List.map_append]
  congr 1
  show ([t].filter _).map _ = _
  rw [List.filter_cons]
  by_cases h : t.2 = 0
  · rw [if_pos h, if_pos (by simpa using h)]
    rfl
  · rw [if_neg h, if_neg (by simpa using h)]
    rfl
structure TSt (w : World) (K : PySem.W.Frag) (A L : Nat) (m : Ch) (H : Hp) (sd mo : Addr) (ks : List (NK × V)) (dn : List Ch) (H' : Hp) : Prop where
  gr : Gr H H'
  sn : DAt P0 w K H' sd ks
  mr : ∃ km Ms, DAt P0 w K H' mo km ∧ KvC K H' km Ms ∧ (Ms.map arrOf).Nodup ∧ (∀ x ∈ Ms, Rch nextsOf [m] x) ∧ ∀ a, a ∈ Ms.map arrOf ↔ (∃ y ∈ dn, arrOf y = a) ∧ kArr a ∉ ks.map (·.1)
theorem TSt.step {w : World} {K : PySem.W.Frag} {A L : Nat} {m : Ch} {H H1 H2 : Hp} {sd mo : Addr} {ks : List (NK × V)} {dn : List Ch} (h : TSt w K A L m H sd mo ks dn H1) (g : Gr H1 H2) : TSt w K A L m H sd mo ks dn H2 := by
  obtain ⟨km, Ms, d, c, r⟩ := h.mr
  exact ⟨h.gr.trans g, g.dat h.sn, km, Ms, g.dat d, c.gr g, r⟩
theorem nodup_map {α β : Type} {f : α → β} {l : List α} (nd : l.Nodup) (h : ∀ {a b}, f a = f b → a = b) : (l.map f).Nodup := List.Pairwise.map f (fun a b z e => z (h e)) nd
theorem units12 {k : Nat} {A : Around} (r : Room k A) : A.units + 12 < cLine := by have := r.un; omega
theorem units8 {k : Nat} {A : Around} (r : Room k A) : A.units + 8 < cLine := by have := r.un; omega
theorem arrs_len {w : World} {A L : Nat} {m : Ch} (C : ClsOk w A L m) {l : List Arr} (nd : l.Nodup) (h : ∀ a ∈ l, ∃ x, Rch nextsOf [m] x ∧ arrOf x = a) : l.length < 63 := by
  have := C.arrs (l.map kArr) (nodup_map nd fun e => kArr_inj e) (fun k hk => by
    obtain ⟨a, ha, rfl⟩ := List.mem_map.mp hk
    obtain ⟨x, hx, e⟩ := h a ha
    exact ⟨x, hx, by rw [e]⟩)
  rwa [List.length_map] at this
section
variable {w : World} {K : PySem.W.Frag} {mg : Str → Option Value} {base : Heap}
def spTurn (w : World) (K : PySem.W.Frag) : Sp := fun vs H Q _ => ∃ v1 v2 m1 m2 A L d, vs = [v1, v2] ∧ Tp K H v1 (kCh m1) ∧ Tp K H v2 (kCh m2) ∧ Tabs K H ∧ ClsOk w A L m1 ∧ Rch nextsOf [m1] m2 ∧ Dist m1 (arrOf m2) d ∧ ∀ H', Gr H H' → Q (vN d) H'
theorem sc_turns_between : FnScope ["one", "other", "goal", "rows", "turns", "seen", "more", "here", "taking", "there"] ["one", "other"] (defScope s_turns_between) := ⟨rfl, rfl, rfl, by decide +kernel, rfl, by decide +kernel, by decide +kernel⟩
theorem kp_turns_between (T : Tx K mg base) (Fo : Kp w K mg base "need_one" 7 ["one", "other"] (spOne K)) (Fa : Kp w K mg base "arranged" 5 ["chart"] (spArd K)) (Fs : Kp w K mg base "all_still" 5 ["some"] (spStill K)) (Ft : Kp w K mg base "all_takings" 4 ["chart"] (spTks K)) (Fk : Kp w K mg base "taken" 1 ["chart", "taking"] (spTaken K)) :
    Kp w K mg base "turns_between" 8 ["one", "other"] (spTurn w K) := by
  refine kp_of (d := d_turns_between) (k := 7) T (by simp [fn]) (by decide +kernel) rfl rfl rfl rfl rfl sc_turns_between (fun vs H Q E ⟨_, _, _, _, _, _, _, e, _⟩ => by rw [e]; rfl) (fun _ _ _ _ _ _ us hl => match us, hl with | [_, _], _ => rfl) fun Ar outer s H vs Q E hr hsp => ?_
  obtain ⟨v1, v2, m1, m2, A, L, d, rfl, t1, t2, hT, C, hm2, hd, hQ⟩ := hsp
  have h5 := hr.mono (show 5 ≤ 7 by decide)
  refine ⟨_, pss_cons (ps_expr (pe_k Fo rfl hr (pa_cons (pv 0) (pa1 (pv 1)))))
    (pss_cons (ps_par3 (i := 2) (j := 3) (l := 4) rfl sc_turns_between.nd rfl rfl rfl (by decide) (by decide) (by decide) rfl rfl rfl
      (pa_cons (pe_k Fa rfl h5 (pa1 (pv 1))) (pa_cons (pe_disp1 (units9 hr) (pe_k Fa rfl h5 (pa1 (pv 0))) (pv 0)) (pa1 pe_int))) rfl)
    (pss_cons (ps_set (i := 5) sc_turns_between.nd rfl (.inl rfl) (pe_callTy (call_dictM (units12 hr)) (by rfl) (T.free "dict") (by decide +kernel) (pa1 (pv 3))))
    (pss_cons (ps_while PassesOwn.never (pt_cmpR (op_notinM (units9 hr)) (pv 2) (pv 3) rfl)
      (pss_cons (ps_set (i := 6) sc_turns_between.nd rfl (.inl rfl) pe_dnewM)
      (pss_cons (ps_for PassesOwn.never rfl (pi_list (pe_k Fs rfl h5 (pa1 (pe_callTy (call_listVw rfl) (by rfl) (T.free "list") (by decide +kernel) (pa1 (pe_valuesM (pv 3))))))) (pg_name (i := 7) sc_turns_between.nd rfl (.inl rfl))
        (pss_one (ps_for PassesOwn.never rfl (pi_list (pe_k Ft rfl (hr.mono (by decide)) (pa1 (pv 7)))) (pg_name (i := 8) sc_turns_between.nd rfl (.inl rfl))
          (pss_cons (ps_set (i := 9) sc_turns_between.nd rfl (.inl rfl) (pe_k Fk rfl (hr.mono (by decide)) (pa_cons (pv 7) (pa1 (pv 8)))))
          (pss_one (ps_if (PW.pt (pw_and (pt_cmpR op_eq (pe_ix ix_tup (pv 8) pe_int (fun _ _ => rfl)) pe_int (nomark _)) (pw_and1 (pt_cmpR (op_notinM (units9 hr)) (pe_k Fa rfl h5 (pa1 (pv 9))) (pv 5) rfl))))
            (pss_one (ps_asg (pv 9) (pg_sub (pv 6) (pe_k Fa rfl h5 (pa1 (pv 9))) (set_M (units9 hr)))))
            pss_nil))))))
      (pss_cons (ps_par (i := 3) (j := 4) rfl sc_turns_between.nd rfl rfl (by decide) rfl rfl (pa_cons (pv 6) (pa1 (pe_op op_add (pv 4) pe_int))) rfl)
      (pss_one (ps_set (i := 5) sc_turns_between.nd rfl (.inl rfl) (pe_mergeM (units8 hr) (pv 5) (pv 6))))))))
    (pss_one (ps_ret (pv 4)))))), ?_⟩
  obtain ⟨c1, rfl⟩ := ch_tup t1
  obtain ⟨c2, rfl⟩ := ch_tup t2
  have hm1 : Rch nextsOf [m1] m1 := .base (by simp)
  have ok1 := C.ok m1 hm1
  have ok2 := C.ok m2 hm2
  refine ⟨_, rfl, _, rfl, _, _, m1, m2, A, L, rfl, hT, t1, t2, ok1, ok2, C.key m2 hm2, fun H1 g1 => ?_⟩
  refine ⟨_, rfl, _, m2, A, L, rfl, g1.tp t2, ok2.toShp, fun H2 gp g2 tg => ?_⟩
  have g12 := g1.trans g2
  refine fun r H3 hrn hb3 D3 => ?_
  have g3 : Gr H2 H3 := (Gr.refl H2).but hrn hb3
  refine ⟨_, rfl, _, m1, A, L, rfl, (g12.trans g3).tp t1, ok1.toShp, fun H4 kp g4 tk => ⟨_, rfl, kp, _, rfl, tk, kArr_depth _, g4.dat D3, fun H5 hb5 D5 => ?_⟩⟩
  have hrH : H r = none := g12.free hrn
  have gH4 : Gr H H4 := (g12.trans g3).trans g4
  have gH5 : Gr H H5 := gH4.but hrH hb5
  have nt4 := dat_nt (g4.dat D3)
  have tg5 : Tp K H5 (.ref gp) (kArr (arrOf m2)) := tp_but hb5 nt4 ((g3.trans g4).tp tg)
  refine ⟨_, _, _, rfl, _, rfl, r, _, rfl, D5, by simp, fun sd H6 hsn hb6 D6 => ?_⟩
  have g6 : Gr H5 H6 := (Gr.refl H5).but hsn hb6
  have hrs : r ≠ sd := fun e => dat_some D5 (e ▸ hsn)
  have gH6 := gH5.trans g6
  refine ⟨fun mm σ H1 => ∃ n r sd kr Rw ks x6 x7 x8 x9, σ = [some (.ref c1), some (.ref c2), some (.ref gp), some (.ref r), some (vN n), some (.ref sd), x6, x7, x8, x9] ∧ Gr H H1 ∧ Tp K H1 (.ref gp) (kArr (arrOf m2)) ∧
      DAt P0 w K H1 r kr ∧ KvC K H1 kr Rw ∧ (Rw.map arrOf).Nodup ∧ (∀ x ∈ Rw, Rch nextsOf [m1] x) ∧ (∀ a, a ∈ Rw.map arrOf ↔ Dist m1 a n) ∧ DAt P0 w K H1 sd ks ∧ (ks.map (·.1)).Nodup ∧ (∀ k, k ∈ ks.map (·.1) ↔ ∃ a j, j ≤ n ∧ Dist m1 a j ∧ k = kArr a) ∧ n ≤ d ∧ mm = d - n,
    ⟨d, 0, r, sd, [(kArr (arrOf m1), .ref c1)], [m1], [(kArr (arrOf m1), .ref c1)], _, _, _, _, rfl, gH6, g6.tp tg5, g6.dat D5, .cons (gH6.tp t1) .nil, by simp, fun x hx => by rw [List.mem_singleton.mp hx]; exact hm1, fun a => ?_, D6, by simp, fun k => ?_, Nat.zero_le _, rfl⟩, ?_⟩
  · have e0 : Dist m1 (arrOf m1) 0 := ⟨.zero, fun k hk => absurd hk (Nat.not_lt_zero k)⟩
    constructor
    · intro h
      rw [List.mem_singleton.mp h]; exact e0
    · rintro ⟨h, _⟩
      cases h
      exact List.mem_singleton.mpr rfl
  · have e0 : Dist m1 (arrOf m1) 0 := ⟨.zero, fun k hk => absurd hk (Nat.not_lt_zero k)⟩
    constructor
    · intro h
      exact ⟨arrOf m1, 0, Nat.le_refl _, e0, List.mem_singleton.mp h⟩
    · rintro ⟨a, j, hj, h, e⟩
      obtain rfl : j = 0 := by omega
      have h := h.1
      cases h
      exact List.mem_singleton.mpr e
  clear D6 D5 D3 hb6 hb5 hb3 g6 hrs hsn nt4 tg5 tg gH4 gH5 gH6 g3 g4 hrH
  rintro mm σ H1 ⟨n, r, sd, kr, Rw, ks, x6, x7, x8, x9, rfl, g1, tg, Dr, kc, ndR, clR, hR, Ds, ndS, hS, hnd, rfl⟩
  refine ⟨_, rfl, _, rfl, gp, kArr (arrOf m2), r, _, rfl, rfl, tg, kArr_depth _, Dr, _, rfl, ?_⟩
  rw [valV_in, kc.keys]
  have egoal : (kArr (arrOf m2) ∈ (Rw.map arrOf).map kArr) ↔ Dist m1 (arrOf m2) n := by
    rw [← hR]
    exact ⟨fun h => by obtain ⟨a, ha, e⟩ := List.mem_map.mp h; rw [← kArr_inj e]; exact ha, fun h => List.mem_map.mpr ⟨_, h, rfl⟩⟩
  by_cases hg : Dist m1 (arrOf m2) n
  · refine iteF' (by rw [decide_eq_true (egoal.mpr hg)]; rfl) ?_
    refine ⟨_, rfl, ?_⟩
    rw [hg.uniq hd]
    exact hQ _ g1
  refine iteT' (by rw [decide_eq_false (fun z => hg (egoal.mp z))]; rfl) ?_
  have hlt : n < d := by
    rcases Nat.lt_or_ge n d with z | z
    · exact z
    · exact absurd (by rw [show n = d by omega]; exact hd) hg
  refine ⟨fun σ' H' => ∃ m', m' < d - n ∧ ∃ n r sd kr Rw ks x6 x7 x8 x9, σ' = [some (.ref c1), some (.ref c2), some (.ref gp), some (.ref r), some (vN n), some (.ref sd), x6, x7, x8, x9] ∧ Gr H H' ∧ Tp K H' (.ref gp) (kArr (arrOf m2)) ∧
      DAt P0 w K H' r kr ∧ KvC K H' kr Rw ∧ (Rw.map arrOf).Nodup ∧ (∀ x ∈ Rw, Rch nextsOf [m1] x) ∧ (∀ a, a ∈ Rw.map arrOf ↔ Dist m1 a n) ∧ DAt P0 w K H' sd ks ∧ (ks.map (·.1)).Nodup ∧ (∀ k, k ∈ ks.map (·.1) ↔ ∃ a j, j ≤ n ∧ Dist m1 a j ∧ k = kArr a) ∧ n ≤ d ∧ m' = d - n, fun σ' H' hh => hh, ?_⟩
  refine fun mo H2 hmo hb2 D2 => ?_
  have g2 : Gr H1 H2 := (Gr.refl H1).but hmo hb2
  have hmn : H mo = none := g1.free hmo
  have hsm : sd ≠ mo := fun e => dat_some Ds (e ▸ hmo)
  have hrm : r ≠ mo := fun e => dat_some Dr (e ▸ hmo)
  refine ⟨_, rfl, r, kr, rfl, g2.dat Dr, fun vw hvw => ?_⟩
  have g3 := Gr.new (o := vwO vw r) hvw
  refine ⟨vw, r, kr, rfl, upd_same, g3.dat (g2.dat Dr), fun lq hlq => ?_⟩
  have g4 := Gr.new (o := .lst (kr.map (·.2))) hlq
  have g14 := (g2.trans g3).trans g4
  have gH4 := g1.trans g14
  refine ⟨lq, kr.map (·.2), Rw, A, L, rfl, upd_same, g14.tps kc.vals, nodup_of_map ndR, hT.gr gH4, C.closS clR, fun F ndF hF H3 q xq g5 hq h5q t5 => ?_⟩
  have g35 := (g3.trans g4).trans g5
  have D3 := g35.dat D2
  have hqm : mo ≠ q := fun e => dat_some ((g3.trans g4).dat D2) (e ▸ hq)
  have lq := t5.length
  rw [List.length_map] at lq
  refine ⟨q, rfl, ⟨_, SqL.of h5q⟩, for_list (xs := xq) (fun i σ' H' => ∃ x7 x8 x9, σ' = [some (.ref c1), some (.ref c2), some (.ref gp), some (.ref r), some (vN n), some (.ref sd), some (.ref mo), x7, x8, x9] ∧
      TSt w K A L m1 H sd mo ks ((F.take i).flatMap fun x => hubStep x (takings x)) H' ∧ Tp K H' (.ref gp) (kArr (arrOf m2)) ∧ H' q = some (.lst xq) ∧ TpAll K H' xq (F.map kCh))
    ⟨_, _, _, rfl, ⟨gH4.trans g5, (g14.trans g5).dat Ds, [], [], D3, .nil, .nil, fun x hx => (by cases hx), fun a => ⟨fun h => (by cases h), fun ⟨⟨y, hy, _⟩, _⟩ => by simp at hy⟩⟩, (g14.trans g5).tp tg, h5q, t5⟩ (fun i σ' H' _ ⟨_, _, _, _, _, _, e, _⟩ => SqL.of e) ?_ ?_⟩
  · rintro i x σ' H4 hx ⟨x7, x8, x9, rfl, B4, tg4, h4q, t4q⟩
    obtain ⟨hc, ehc, tx⟩ := tpCh_get t4q hx
    have hcl : Rch nextsOf [m1] hc := ((C.slides clR hc).mp ((hF hc).mp (List.mem_of_getElem? ehc))).1
    have hshp := (C.ok hc hcl).toShp
    have hsz := hshp.size
    have hAL12 : A * L ≤ 12 := by have := hshp.a4; rcases hshp.len with rfl | rfl | rfl <;> omega
    have et : (F.take (i + 1)).flatMap (fun x => hubStep x (takings x)) = (F.take i).flatMap (fun x => hubStep x (takings x)) ++ hubStep hc (takings hc) := by
      rw [List.take_add_one, ehc, List.flatMap_append]
      simp
    rw [et]
    generalize (F.take i).flatMap (fun x => hubStep x (takings x)) = dn at B4
    refine ⟨_, rfl, _, hc, A, L, rfl, tx, hshp, hT.gr B4.gr, fun H5 p xp g5 hp h5p t5p => ?_⟩
    have hmp : mo ≠ p := fun e => by
      obtain ⟨km, Ms, Dm, _⟩ := B4.mr
      exact dat_some Dm (e ▸ hp)
    refine ⟨p, rfl, ⟨_, SqL.of h5p⟩, for_list (xs := xp) (fun j σ' H' => ∃ x8 x9, σ' = [some (.ref c1), some (.ref c2), some (.ref gp), some (.ref r), some (vN n), some (.ref sd), some (.ref mo), some x, x8, x9] ∧
        TSt w K A L m1 H sd mo ks (dn ++ hubStep hc ((takings hc).take j)) H' ∧ Tp K H' (.ref gp) (kArr (arrOf m2)) ∧ H' q = some (.lst xq) ∧ TpAll K H' xq (F.map kCh) ∧ H' p = some (.lst xp) ∧ TpAll K H' xp ((takings hc).map kTk) ∧ TpAll K H' [x] [kCh hc])
      ⟨_, _, rfl, by simpa [hubStep] using B4.step g5, g5.tp tg4, g5.lst h4q, g5.tps t4q, h5p, t5p, .cons (g5.tp tx) .nil⟩ (fun i σ' H' _ ⟨_, _, _, _, _, _, _, e, _⟩ => SqL.of e) ?_ ?_⟩
    · rintro j y σ' H6 hy ⟨x8, x9, rfl, B6, tg6, h6q, t6q, h6p, t6p, t6x⟩
      obtain ⟨kt, ekt, ty⟩ := t6p.get hy
      obtain ⟨tk, etk, rfl⟩ : ∃ tk, (takings hc)[j]? = some tk ∧ kTk tk = kt := by
        rw [List.getElem?_map] at ekt
        cases e : (takings hc)[j]? with
        | none => rw [e] at ekt; cases ekt
        | some z => rw [e] at ekt; exact ⟨z, rfl, Option.some.inj ekt⟩
      have htk := List.mem_of_getElem? etk
      obtain ⟨hcell, _, _⟩ := takings_cell htk
      have tx6 : Tp K H6 x (kCh hc) := by cases t6x with | cons t _ => exact t
      have ets := hubStep_succ (x := hc) etk
      rw [ets]
      obtain ⟨tl, tc⟩ := tk
      have hcl2 : Rch nextsOf [m1] (taken hc (tl, tc)) := .step hcl (List.mem_map.mpr ⟨_, htk, rfl⟩)
      obtain ⟨ta, rfl, hta⟩ := tk_at ty
      refine ⟨_, rfl, _, rfl, x, _, hc, tl, tc, rfl, tx6, ty, hcell, by omega, fun H7 u g7 t7 => ?_⟩
      have B7 := B6.step g7
      refine ⟨_, rfl, ta, _, _, _, rfl, rfl, g7.sqT hta, atI_nat (j := 1) rfl, rfl, _, rfl, ?_⟩
      by_cases h0 : tc = 0
      · subst h0
        refine iteT' rfl ?_
        rw [if_pos rfl, ← List.append_assoc]
        generalize dn ++ hubStep hc ((takings hc).take j) = dj at B7
        refine ⟨_, rfl, _, taken hc (tl, 0), A, L, rfl, t7, (C.ok _ hcl2).toShp, fun H8 ka g8 t8 => ?_⟩
        have B8 := B7.step g8
        refine ⟨_, rfl, ka, _, sd, ks, rfl, rfl, t8, kArr_depth _, B8.sn, _, rfl, ?_⟩
        rw [valV_in]
        obtain ⟨km, Ms, Dm, kcm, ndm, clm, hm⟩ := B8.mr
        by_cases hin : kArr (arrOf (taken hc (tl, 0))) ∈ ks.map (·.1)
        · refine iteF' (by rw [decide_eq_true hin]; rfl) ?_
          have g78 := g7.trans g8
          refine ⟨_, _, rfl, ⟨B8.gr, B8.sn, km, Ms, Dm, kcm, ndm, clm, fun a => (hm a).trans ?_⟩, g78.tp tg6, g78.lst h6q, g78.tps t6q, g78.lst h6p, g78.tps t6p, g78.tps t6x⟩
          constructor
          · rintro ⟨⟨y, hy, e⟩, hn⟩
            exact ⟨⟨y, List.mem_append_left _ hy, e⟩, hn⟩
          · rintro ⟨⟨y, hy, e⟩, hn⟩
            rcases List.mem_append.mp hy with hy | hy
            · exact ⟨⟨y, hy, e⟩, hn⟩
            · rw [List.mem_singleton.mp hy] at e
              exact absurd (e ▸ hin) hn
        · refine iteT' (by rw [decide_eq_false hin]; rfl) ?_
          have hkm : km.length < sizeLine := by
            have h1 := arrs_len C ndm fun a ha => by
              obtain ⟨x, hx, e⟩ := List.mem_map.mp ha
              exact ⟨x, clm x hx, e⟩
            have h2 := congrArg List.length kcm.keys
            simp only [List.length_map] at h1 h2
            rw [sizeLine_eq]
            omega
          refine ⟨_, rfl, _, rfl, _, rfl, _, taken hc (tl, 0), A, L, rfl, g8.tp t7, (C.ok _ hcl2).toShp, fun H9 kb g9 t9 => ?_⟩
          have g79 := (g7.trans g8).trans g9
          refine ⟨kb, _, mo, km, rfl, rfl, t9, kArr_depth _, g9.dat Dm, hkm, fun H10 hb10 D10 => ?_⟩
          have nt := dat_nt (g9.dat Dm)
          obtain ⟨Ms', kc', nd', hm', cl'⟩ := (kcm.gr g9).put ((g8.trans g9).tp t7) ndm
          have B9 := B8.step g9
          refine ⟨_, _, rfl, ⟨B9.gr.but hmn hb10, B9.sn.but hsm hb10 nt, _, Ms', D10, kc'.mono fun v k t => tp_but hb10 nt t, nd', fun x hx => ?_, fun a => ?_⟩, tp_but hb10 nt (g79.tp tg6), by rw [hb10 q (Ne.symm hqm)]; exact g79.lst h6q, tps_but hb10 nt (g79.tps t6q), by rw [hb10 p (Ne.symm hmp)]; exact g79.lst h6p, tps_but hb10 nt (g79.tps t6p), tps_but hb10 nt (g79.tps t6x)⟩
          · rcases cl' x hx with h | h
            · exact clm x h
            · rw [h]; exact hcl2
          · rw [hm', hm]
            constructor
            · rintro (⟨⟨y, hy, e⟩, hn⟩ | e)
              · exact ⟨⟨y, List.mem_append_left _ hy, e⟩, hn⟩
              · exact ⟨⟨_, List.mem_append_right _ (List.mem_singleton.mpr rfl), e.symm⟩, e ▸ hin⟩
            · rintro ⟨⟨y, hy, e⟩, hn⟩
              rcases List.mem_append.mp hy with hy | hy
              · exact .inl ⟨⟨y, hy, e⟩, hn⟩
              · rw [List.mem_singleton.mp hy] at e
                exact .inr e.symm
      · refine iteF' (by show decide (vN tc = vN 0) = false; exact decide_eq_false fun e => h0 (vN_eq.mp e)) (iteF' rfl ?_)
        rw [if_neg h0, List.append_nil]
        exact ⟨_, _, rfl, B7, g7.tp tg6, g7.lst h6q, g7.tps t6q, g7.lst h6p, g7.tps t6p, g7.tps t6x⟩
    · rintro σ' H6 ⟨x8, x9, rfl, B6, tg6, h6q, t6q, h6p, t6p, t6x⟩
      have ll := t6p.length
      rw [List.length_map] at ll
      rw [ll, List.take_length] at B6
      exact ⟨_, _, _, rfl, B6, tg6, h6q, t6q⟩
  · rintro σ' H4 ⟨x7, x8, x9, rfl, B4, tg4, h4q, t4q⟩
    rw [lq, List.take_length] at B4
    obtain ⟨km, Ms, Dm, kcm, ndm, clm, hm⟩ := B4.mr
    have hkm : km.length < 63 := by
      have h1 := arrs_len C ndm fun a ha => by
        obtain ⟨x, hx, e⟩ := List.mem_map.mp ha
        exact ⟨x, clm x hx, e⟩
      have h2 := congrArg List.length kcm.keys
      simp only [List.length_map] at h1 h2
      omega
    have hDM : ∀ a, a ∈ Ms.map arrOf ↔ Dist m1 a (n + 1) := fun a => by
      rw [hm]
      constructor
      · rintro ⟨⟨y, hy, rfl⟩, hn⟩
        obtain ⟨x, hx, hy⟩ := List.mem_flatMap.mp hy
        obtain ⟨t, ht, rfl⟩ := List.mem_map.mp hy
        obtain ⟨ht1, ht2⟩ := List.mem_filter.mp ht
        obtain ⟨hx1, hx2⟩ := (C.slides clR x).mp ((hF x).mp hx)
        have hdx := (hR _).mp hx2
        refine ⟨.succ hdx.1 hx1 ht1 (by simpa using ht2), fun k hk hq => hn ?_⟩
        obtain ⟨j, hj⟩ := dist_ex ⟨k, hq⟩
        refine (hS _).mpr ⟨_, j, ?_, hj, rfl⟩
        rcases Nat.lt_or_ge k j with z | z
        · exact absurd hq (hj.2 k z)
        · omega
      · rintro ⟨hq, hmin⟩
        obtain ⟨x, t, h1, h2, h3, h4, rfl⟩ := hq.mono_ex
        refine ⟨⟨taken x t, List.mem_flatMap.mpr ⟨x, (hF x).mpr ((C.slides clR x).mpr ⟨h2, (hR _).mpr ⟨h1, fun k hk hz => hmin (k + 1) (by omega) (.succ hz h2 h3 h4)⟩⟩), List.mem_map.mpr ⟨t, List.mem_filter.mpr ⟨h3, by simpa using h4⟩, rfl⟩⟩, rfl⟩, fun hk => ?_⟩
        obtain ⟨a, j, hj, hd, e⟩ := (hS _).mp hk
        rw [← kArr_inj e] at hd
        exact hmin j (by omega) hd.1
    have hkS : ∀ k ∈ ks.map (·.1), ∃ x, Rch nextsOf [m1] x ∧ k = kArr (arrOf x) := fun k hk => by
      obtain ⟨a, j, _, hd, e⟩ := (hS k).mp hk
      obtain ⟨x, hx, ex⟩ := hd.1.rch
      exact ⟨x, hx, by rw [e, ex]⟩
    have hks : ks.length < 63 := by
      have := C.arrs _ ndS hkS
      rwa [List.length_map] at this
    have hnil : (([] : List (NK × V)).map (·.1)).Nodup := by simp
    obtain ⟨nd1, mem1⟩ := mergeP_keys ks [] hnil
    obtain ⟨nd2, mem2⟩ := mergeP_keys km (mergeP [] ks) nd1
    have e0 : Dist m1 (arrOf m1) 0 := ⟨.zero, fun k hk => absurd hk (Nat.not_lt_zero k)⟩
    have l1 := mergeP_length ks []
    refine ⟨_, rfl, _, rfl, _, _, rfl, rfl, _, _, rfl, ?_⟩
    refine fun sp H5 hsp hb5 D5 => ?_
    have g5 : Gr H4 H5 := (Gr.refl H4).but hsp hb5
    have hne1 : sp ≠ sd := fun e => dat_some B4.sn (e ▸ hsp)
    have hne2 : sp ≠ mo := fun e => dat_some Dm (e ▸ hsp)
    refine ⟨_, rfl, sd, ks, rfl, hne1, D5, g5.dat B4.sn, ?_, fun H6 hb6 D6 => ?_⟩
    · have := C.hashes _ ndS hkS
      rwa [List.map_map] at this
    have nt5 := dat_nt D5
    refine ⟨_, rfl, mo, km, mergeP [] ks, rfl, hne2, D6, ?_, (g5.dat Dm).but (Ne.symm hne2) hb6 nt5, by rw [sizeLine_eq]; simp at l1; omega, fun H7 hb7 D7 => ?_⟩
    · intro e
      have hk : kArr (arrOf m1) ∈ (mergeP [] ks).map (·.1) := (mem1 _).mpr (.inr ((hS _).mpr ⟨_, 0, Nat.zero_le _, e0, rfl⟩))
      rw [e] at hk
      cases hk
    have nt6 := dat_nt D6
    have hb47 : ∀ c, c ≠ sp → H7 c = H4 c := fun c hc => ((hb7 c hc).trans (hb6 c hc)).trans (hb5 c hc)
    have g7 : Gr H4 H7 := (Gr.refl H4).but hsp hb47
    refine ⟨d - (n + 1), by omega, n + 1, mo, sp, km, Ms, _, _, _, _, _, rfl, B4.gr.trans g7, g7.tp tg4, g7.dat Dm, kcm.gr g7, ndm, clm, hDM, D7, nd2, fun k => ?_, by omega, rfl⟩
    rw [mem2, mem1, kcm.keys]
    constructor
    · rintro ((h | h) | h)
      · cases h
      · obtain ⟨a, j, hj, hd, e⟩ := (hS k).mp h
        exact ⟨a, j, by omega, hd, e⟩
      · obtain ⟨a, ha, e⟩ := List.mem_map.mp h
        exact ⟨a, n + 1, Nat.le_refl _, (hDM a).mp ha, e.symm⟩
    · rintro ⟨a, j, hj, hd, e⟩
      rcases Nat.lt_or_ge n j with z | z
      · obtain rfl : j = n + 1 := by omega
        exact .inr (List.mem_map.mpr ⟨a, (hDM a).mpr hd, e.symm⟩)
      · exact .inl (.inr ((hS k).mpr ⟨a, j, z, hd, e⟩))
end
end SL
end

section
set_option Elab.async false
set_option linter.all false
set_option maxRecDepth 100000
set_option maxHeartbeats 4000000
/-! walks of the law: _law_taken, _law_pick, _law_island -/
namespace SL
open PySem PySem.Spec PyProof.Rows L2
/-- the row of the script -/
def RowAt (K : PySem.W.Frag) (H : Hp) (r : Addr) : Prop := ∃ (a : Addr) (ns : List Int) (pos seed rest : Int), H r = some (.lst [.ref a, .int pos, .int seed, .int rest]) ∧ SqL K H a (ns.map V.int) ∧ 0 ≤ pos ∧ (a ≠ r ∨ ∀ H', SqL K H' a (ns.map V.int))
section
variable {K : PySem.W.Frag} {H H' : Hp} {r : Addr}
theorem sqL_but {a : Addr} {xs : List V} (hb : ∀ b, b ≠ r → H' b = H b) (ha : a ≠ r ∨ ∀ H', SqL K H' a xs) (h : SqL K H a xs) : SqL K H' a xs := by
  rcases ha with ha | ha
  case inr => exact ha H'
  rcases h with (h | ⟨o, h⟩) | h
  · exact .inl (.inl (by rw [hb a ha]; exact h))
  · exact .inl (.inr ⟨o, by rw [hb a ha]; exact h⟩)
  · exact .inr h
theorem RowAt.put {a : Addr} {ns : List Int} {pos seed rest : Int} {xs : List V} (h : SqL K H a (ns.map V.int)) (hp : 0 ≤ pos) (ha : a ≠ r ∨ ∀ H', SqL K H' a (ns.map V.int)) : RowAt K (upd H r (.lst [.ref a, .int pos, .int seed, .int rest])) r :=
  ⟨a, ns, pos, seed, rest, upd_same, sqL_but (fun b hb => upd_ne hb) ha h, hp, ha⟩
end
section
variable {w : World} {K : PySem.W.Frag} {mg : Str → Option Value} {base : Heap}
def spTk (K : PySem.W.Frag) : Sp := fun vs H Q _ => ∃ (r : Addr) (n : Nat), vs = [.ref r, vN n] ∧ RowAt K H r ∧ 0 < n ∧ n ≤ 20000000 ∧ ∀ H' i, (∀ b, b ≠ r → H' b = H b) → RowAt K H' r → i < n → Q (vN i) H'
theorem sc__law_taken : FnScope ["_law_row", "_law_many", "_law_found", "_law_cell"] ["_law_row", "_law_many"] (defScope s__law_taken) := ⟨rfl, rfl, rfl, by decide +kernel, rfl, by decide +kernel, by decide +kernel⟩
theorem kp__law_taken (T : Tx K mg base) : Kp w K mg base "_law_taken" 1 ["_law_row", "_law_many"] (spTk K) := by
  refine kp_of (d := d__law_taken) (k := 0) T (by simp [fn]) (by decide +kernel) rfl rfl rfl rfl rfl sc__law_taken (fun vs H Q E ⟨_, _, e, _⟩ => by rw [e]; rfl) (fun _ _ _ _ _ _ us hl => match us, hl with | [_, _], _ => rfl) fun Ar outer s H vs Q E hr hsp => ?_
  obtain ⟨r, n, rfl, hrow, hn, hn2, hQ⟩ := hsp
  refine ⟨_, pss_cons (ps_if (pt_cmpR op_gt (pe_ix ix_list (pv 0) pe_int (fun _ _ => rfl)) pe_int (nomark _))
      (pss_cons (ps_set (i := 2) sc__law_taken.nd rfl (.inl rfl) (pe_op op_mod (pe_callTy call_int1 (by rfl) (T.free "int") (by decide +kernel) (pa1 (pe_ix ix_list (pv 0) pe_int (fun _ _ => rfl)))) (pv 1)))
      (pss_cons (ps_asg (pe_op op_fdivW (pe_ix ix_list (pv 0) pe_int (fun _ _ => rfl)) (pv 1)) (pg_sub (pv 0) pe_int set_list))
      (pss_one (ps_ret (pv 2))))) pss_nil)
    (pss_cons (ps_asg (pe_op op_add (pe_ix ix_list (pv 0) pe_int (fun _ _ => rfl)) pe_int) (pg_sub (pv 0) pe_int set_list))
    (pss_cons (ps_if (pt_cmpR op_gt (pe_ix ix_list (pv 0) pe_int (fun _ _ => rfl)) (pe_callB call_len_seq (by rfl) (T.free "len") PySem.boot_len (pa1 (pe_ix ix_list (pv 0) pe_int (fun _ _ => rfl)))) (nomark _))
      (pss_cons (ps_asg (pe_op op_mod (pe_callTy call_int1 (by rfl) (T.free "int") (by decide +kernel) (pa1 (pe_op op_add (pe_op op_mul (pe_ix ix_list (pv 0) pe_int (fun _ _ => rfl)) pe_int) pe_int))) pe_int) (pg_sub (pv 0) pe_int set_list))
      (pss_one (ps_ret (pe_op op_mod (pe_callTy call_int1 (by rfl) (T.free "int") (by decide +kernel) (pa1 (pe_op op_fdivW (pe_ix ix_list (pv 0) pe_int (fun _ _ => rfl)) pe_int))) (pv 1))))) pss_nil)
    (pss_cons (ps_set (i := 3) sc__law_taken.nd rfl (.inl rfl) (pe_ix ix_list (pe_ix ix_list (pv 0) pe_int (fun _ _ => rfl)) (pe_op op_sub (pe_ix ix_list (pv 0) pe_int (fun _ _ => rfl)) pe_int) (fun _ _ => rfl)))
    (pss_cons (ps_asg (pe_op op_mod (pe_callTy call_int1 (by rfl) (T.free "int") (by decide +kernel) (pa1 (pe_op op_add (pe_op op_add (pe_op op_mul (pe_ix ix_list (pv 0) pe_int (fun _ _ => rfl)) pe_int) (pv 3)) pe_int))) pe_int) (pg_sub (pv 0) pe_int set_list))
    (pss_cons (ps_if (pt_cmpR op_ge (pv 3) (pe_op op_pow pe_int pe_int) (nomark _)) (pss_one (ps_asg (pe_op op_fdivW (pv 3) (pv 1)) (pg_sub (pv 0) pe_int set_list))) pss_nil)
    (pss_one (ps_ret (pe_op op_mod (pe_callTy call_int1 (by rfl) (T.free "int") (by decide +kernel) (pa1 (pv 3))) (pv 1))))))))), ?_⟩
  obtain ⟨a, ns, pos, seed, rest, hH, ha, hp, har⟩ := hrow
  have hn' : (0 : Int) < n := by omega
  have hlog : ∀ m : Nat, m ≤ 20000000 → (m : Int).natAbs.log2 < 9000 := fun m hm => by
    have h25 : m < 2 ^ 25 := by omega
    have h : (m : Int).natAbs.log2 < 25 := PySem.Flt.log2_lt_of (by decide) (by rw [Int.natAbs_natCast]; exact h25)
    omega
  have out : ∀ (z : Int) (H' : Hp), (∀ b, b ≠ r → H' b = H b) → RowAt K H' r → Q (.int (z % n)) H' := fun z H' hb hrow => by
    have h1 := Int.emod_nonneg z (show (n : Int) ≠ 0 by omega)
    have h2 := Int.emod_lt_of_pos z hn'
    obtain ⟨k, hk⟩ := Int.eq_ofNat_of_zero_le h1
    rw [hk]
    exact hQ H' k hb hrow (by omega)
  refine ⟨_, rfl, r, _, _, _, rfl, rfl, SqL.of hH, atI_nat (j := 3) rfl, _, _, rfl, rfl, _, rfl, ?_⟩
  by_cases h0 : 0 < rest
  · refine iteT' (decide_eq_true h0) ?_
    refine ⟨_, rfl, r, _, _, _, rfl, rfl, SqL.of hH, atI_nat (j := 3) rfl, .inl ⟨rest, rfl, _, rfl, _, _, rfl, rfl, hn', ?_⟩⟩
    refine ⟨_, rfl, r, _, _, _, rfl, rfl, SqL.of hH, atI_nat (j := 3) rfl, _, rfl, _, _, rfl, rfl, ⟨hn', hlog n hn2⟩, ?_⟩
    refine ⟨_, rfl, r, _, 3, 3, rfl, rfl, hH, rfl, ?_⟩
    exact ⟨_, rfl, out _ _ (fun b hb => upd_ne hb) (RowAt.put (xs := []) ha hp har)⟩
  refine iteF' (decide_eq_false h0) ?_
  refine ⟨_, rfl, r, _, _, _, rfl, rfl, SqL.of hH, atI_nat (j := 1) rfl, _, _, rfl, rfl, ?_⟩
  refine ⟨_, rfl, r, _, 1, 1, rfl, rfl, hH, rfl, ?_⟩
  generalize hH1 : upd H r (HO.lst (List.set [V.ref a, V.int pos, V.int seed, V.int rest] 1 (V.int (pos + 1)))) = H1
  have h1 : H1 r = some (.lst [.ref a, .int (pos + 1), .int seed, .int rest]) := by rw [← hH1, upd_same]; rfl
  have hb1 : ∀ b, b ≠ r → H1 b = H b := fun b hb => by rw [← hH1]; exact upd_ne hb
  have ha1 := sqL_but hb1 har ha
  refine ⟨_, rfl, r, _, _, _, rfl, rfl, SqL.of h1, atI_nat (j := 1) rfl, _, rfl, r, _, _, _, rfl, rfl, SqL.of h1, atI_nat (j := 0) rfl, a, _, rfl, .inl ha1, _, _, rfl, rfl, _, rfl, ?_⟩
  rw [List.length_map]
  by_cases hl : (ns.length : Int) < pos + 1
  · refine iteT' (decide_eq_true hl) ?_
    refine ⟨_, rfl, r, _, _, _, rfl, rfl, SqL.of h1, atI_nat (j := 2) rfl, _, _, rfl, rfl, .inr ⟨by omega, by omega⟩, _, _, rfl, rfl, .inl ⟨_, rfl, _, _, rfl, rfl, by omega, ?_⟩⟩
    refine ⟨_, rfl, r, _, 2, 2, rfl, rfl, h1, rfl, ?_⟩
    refine ⟨_, rfl, r, _, _, _, rfl, rfl, SqL.of upd_same, atI_nat (j := 2) rfl, _, _, rfl, rfl, ⟨by omega, by decide⟩, .inl ⟨_, rfl, _, rfl, _, _, rfl, rfl, hn', ?_⟩⟩
    exact out _ _ (fun b hb => (upd_ne hb).trans (hb1 b hb)) (RowAt.put (xs := []) ha1 (by omega) har)
  refine iteF' (decide_eq_false hl) ?_
  obtain ⟨j, hj⟩ := Int.eq_ofNat_of_zero_le hp
  have hj : pos = (j : Int) := hj
  subst hj
  have hjl : j < ns.length := by omega
  have ez : (ns.map V.int)[j]? = some (V.int ns[j]) := by rw [List.getElem?_map, List.getElem?_eq_getElem hjl]; rfl
  have ej : (j : Int) + 1 - 1 = ((j : Nat) : Int) := by omega
  refine ⟨_, rfl, r, _, _, _, rfl, rfl, SqL.of h1, atI_nat (j := 0) rfl, _, rfl, r, _, _, _, rfl, rfl, SqL.of h1, atI_nat (j := 1) rfl, _, _, rfl, rfl, a, _, _, V.int ns[j], rfl, rfl, ha1, (by rw [ej]; exact atI_nat ez), ?_⟩
  refine ⟨_, rfl, r, _, _, _, rfl, rfl, SqL.of h1, atI_nat (j := 2) rfl, _, _, rfl, rfl, .inr ⟨by omega, by omega⟩, _, rfl, _, _, rfl, rfl, _, _, rfl, rfl, .inl ⟨_, rfl, _, _, rfl, rfl, by omega, ?_⟩⟩
  refine ⟨_, rfl, r, _, 2, 2, rfl, rfl, h1, rfl, ?_⟩
  generalize hH2 : upd H1 r _ = H2
  obtain ⟨s2, h2⟩ : ∃ s2, H2 r = some (.lst [.ref a, .int ((j : Int) + 1), .int s2, .int rest]) := ⟨_, by rw [← hH2, upd_same]; rfl⟩
  have hb2 : ∀ b, b ≠ r → H2 b = H b := fun b hb => by rw [← hH2]; exact (upd_ne hb).trans (hb1 b hb)
  have ha2 := sqL_but hb2 har ha
  refine ⟨_, rfl, _, _, rfl, rfl, ⟨by omega, by omega, by decide⟩, _, _, rfl, rfl, _, rfl, ?_⟩
  by_cases hbig : (10 : Int) ^ (18 : Int).toNat ≤ ns[j]
  · refine iteT' (decide_eq_true hbig) ?_
    refine ⟨_, rfl, _, rfl, _, _, rfl, rfl, ⟨hn', hlog n hn2⟩, ?_⟩
    refine ⟨_, rfl, r, _, 3, 3, rfl, rfl, h2, rfl, ?_⟩
    refine ⟨_, rfl, .inl ⟨_, rfl, _, rfl, _, _, rfl, rfl, hn', ?_⟩⟩
    exact out _ _ (fun b hb => (upd_ne hb).trans (hb2 b hb)) (RowAt.put (xs := []) ha2 (by omega) har)
  · refine iteF' (decide_eq_false hbig) ?_
    refine ⟨_, rfl, .inl ⟨_, rfl, _, rfl, _, _, rfl, rfl, hn', ?_⟩⟩
    exact out _ _ hb2 ⟨a, ns, _, _, _, h2, ha2, by omega, har⟩
end
end SL
end

section
set_option Elab.async false
set_option linter.all false
set_option maxRecDepth 100000
set_option maxHeartbeats 4000000
/-! walks of the law: _law_pick, _law_island -/
namespace SL
open PySem PySem.Spec PyProof.Rows L2
/-- nothing but r is changed -/
def Ext (r : Addr) (H H' : Hp) : Prop := ∀ b o, b ≠ r → H b = some o → H' b = some o
section
variable {K : PySem.W.Frag} {H H' H1 H2 : Hp} {r : Addr}
theorem Ext.refl : Ext r H H := fun _ _ _ h => h
theorem Ext.trans (a : Ext r H H1) (b : Ext r H1 H2) : Ext r H H2 := fun c o n h => b c o n (a c o n h)
theorem Ext.of (h : ∀ b, b ≠ r → H' b = H b) : Ext r H H' := fun b o n e => (h b n).trans e
theorem Ext.new {p : Addr} {o : HO} (h : H p = none) : Ext r H (upd H p o) := fun b u _ e => by rw [upd_ne (ne_of_none e h)]; exact e
theorem Ext.sqT {a : Addr} {xs : List V} (e : Ext r H H') (n : ∀ xs, ¬ Rd H r (.tup xs)) (h : SqT K H a xs) : SqT K H' a xs := by
  rcases h with z | z
  · have ha : a ≠ r := fun ea => n xs (ea ▸ z)
    rcases z with z | ⟨o, z⟩
    · exact .inl (.inl (e a _ ha z))
    · exact .inl (.inr ⟨o, e a _ ha z⟩)
  · exact .inr z
theorem Ext.tp {v : V} {k : NK} (e : Ext r H H') (n : ∀ xs, ¬ Rd H r (.tup xs)) (h : Tp K H v k) : Tp K H' v k := Tp.mono (fun _ _ => e.sqT n) k v h
theorem Ext.tps {vs : List V} {ks : List NK} (e : Ext r H H') (n : ∀ xs, ¬ Rd H r (.tup xs)) (h : TpAll K H vs ks) : TpAll K H' vs ks := TpAll.mono (fun _ _ => e.sqT n) ks vs h
theorem RowAt.nt (h : RowAt K H r) : ∀ xs, ¬ Rd H r (.tup xs) := by
  obtain ⟨a, ns, p, s, t, e, _⟩ := h
  exact not_tup_lst e
theorem RowAt.some (h : RowAt K H r) : H r ≠ none := by
  obtain ⟨a, ns, p, s, t, e, _⟩ := h
  rw [e]
  simp
theorem RowAt.new {p : Addr} {o : HO} (h : RowAt K H r) (hp : H p = none) : RowAt K (upd H p o) r := by
  obtain ⟨a, ns, pos, s, t, e, ha, h0, n⟩ := h
  exact ⟨a, ns, pos, s, t, by rw [upd_ne (ne_of_none e hp)]; exact e, (Gr.new hp).sqL ha, h0, n⟩
theorem RowAt.gr (h : RowAt K H r) (g : Gr H H') : RowAt K H' r := by
  obtain ⟨a, ns, pos, s, t, e, ha, h0, n⟩ := h
  exact ⟨a, ns, pos, s, t, g.lst e, g.sqL ha, h0, n⟩
theorem Gr.extR (g : Gr H H1) (h : H r = none) (e : Ext r H1 H2) : Gr H H2 := fun b o hb => by
  have n : b ≠ r := ne_of_none hb h
  rcases g b o hb with z | ⟨ps, qs, z1, z2, z3⟩
  · exact .inl (e b _ n z)
  · exact .inr ⟨ps, qs, z1, e b _ n z2, z3⟩
end
section
variable {w : World} {K : PySem.W.Frag} {mg : Str → Option Value} {base : Heap}
def spPick (K : PySem.W.Frag) : Sp := fun vs H Q _ => ∃ (r l : Addr) (xs : List V), vs = [.ref r, .ref l] ∧ RowAt K H r ∧ r ≠ l ∧ H l = some (.lst xs) ∧ xs ≠ [] ∧ xs.length ≤ 20000000 ∧ ∀ (H' : Hp) (i : Nat) (x : V), Ext r H H' → RowAt K H' r → xs[i]? = some x → Q x H'
theorem sc__law_pick : FnScope ["_law_row", "_law_things"] ["_law_row", "_law_things"] (defScope s__law_pick) := ⟨rfl, rfl, rfl, by decide +kernel, rfl, by decide +kernel, by decide +kernel⟩
theorem kp__law_pick (T : Tx K mg base) (Ft : Kp w K mg base "_law_taken" 1 ["_law_row", "_law_many"] (spTk K)) : Kp w K mg base "_law_pick" 2 ["_law_row", "_law_things"] (spPick K) := by
  refine kp_of (d := d__law_pick) (k := 1) T (by simp [fn]) (by decide +kernel) rfl rfl rfl rfl rfl sc__law_pick (fun vs H Q E ⟨_, _, _, e, _⟩ => by rw [e]; rfl) (fun _ _ _ _ _ _ us hl => match us, hl with | [_, _], _ => rfl) fun Ar outer s H vs Q E hr hsp => ?_
  obtain ⟨r, l, xs, rfl, hrow, hrl, hl, hne, hlen, hQ⟩ := hsp
  refine ⟨_, pss_one (ps_ret (pe_ix ix_list (pv 1) (pe_k Ft rfl hr (pa_cons (pv 0) (pa1 (pe_callB call_len_seq (by rfl) (T.free "len") PySem.boot_len (pa1 (pv 1)))))) (fun _ _ => rfl))), ?_⟩
  have hpos : 0 < xs.length := List.length_pos_iff.mpr hne
  refine ⟨_, rfl, _, rfl, _, rfl, l, xs, rfl, .inl (SqL.of hl), r, xs.length, rfl, hrow, hpos, hlen, fun H' i hb hrow' hi => ?_⟩
  have ex : xs[i]? = some xs[i] := List.getElem?_eq_getElem hi
  exact ⟨l, xs, i, xs[i], rfl, rfl, SqL.of (by rw [hb l (Ne.symm hrl)]; exact hl), atI_nat ex, hQ H' i _ (.of hb) hrow' ex⟩
def spIsl (K : PySem.W.Frag) : Sp := fun vs H Q _ => ∃ (r : Addr), vs = [.ref r, vN 3] ∧ RowAt K H r ∧ ∀ H' p A L n, Ext r H H' → RowAt K H' r → H' p = some (.tup [vN A, vN L, vN n]) → 3 ≤ A → A ≤ 4 → (L = 1 ∨ L = 2 ∨ L = 3) → 2 ≤ n → n ≤ L + 1 → Q (.ref p) H'
theorem sc__law_island : FnScope ["_law_row", "_law_most", "_law_length"] ["_law_row", "_law_most"] (defScope s__law_island) := ⟨rfl, rfl, rfl, by decide +kernel, rfl, by decide +kernel, by decide +kernel⟩
theorem kp__law_island (T : Tx K mg base) (Ft : Kp w K mg base "_law_taken" 1 ["_law_row", "_law_many"] (spTk K)) : Kp w K mg base "_law_island" 2 ["_law_row", "_law_most"] (spIsl K) := by
  refine kp_of (d := d__law_island) (k := 1) T (by simp [fn]) (by decide +kernel) rfl rfl rfl rfl rfl sc__law_island (fun vs H Q E ⟨_, e, _⟩ => by rw [e]; rfl) (fun _ _ _ _ _ _ us hl => match us, hl with | [_, _], _ => rfl) fun Ar outer s H vs Q E hr hsp => ?_
  obtain ⟨r, rfl, hrow, hQ⟩ := hsp
  refine ⟨_, pss_cons (ps_set (i := 2) sc__law_island.nd rfl (.inl rfl) (pe_op op_add pe_int (pe_k Ft rfl hr (pa_cons (pv 0) (pa1 (pv 1))))))
    (pss_one (ps_ret (pe_tup (pa_cons (pe_op op_add pe_int (pe_k Ft rfl hr (pa_cons (pv 0) (pa1 pe_int)))) (pa_cons (pv 2) (pa1 (pe_op op_add pe_int (pe_k Ft rfl hr (pa_cons (pv 0) (pa1 (pv 2))))))))))), ?_⟩
  refine ⟨_, rfl, _, rfl, r, 3, rfl, hrow, by decide, by decide, fun H1 i hb1 hrow1 hi => ?_⟩
  refine ⟨_, _, rfl, rfl, _, rfl, r, 2, rfl, hrow1, by decide, by decide, fun H2 j hb2 hrow2 hj => ?_⟩
  have ei : (1 : Int) + (i : Int) = ((1 + i : Nat) : Int) := by push_cast; rfl
  have ej : (3 : Int) + (j : Int) = ((3 + j : Nat) : Int) := by push_cast; rfl
  refine ⟨_, _, rfl, rfl, _, rfl, _, rfl, _, rfl, r, 1 + i, by dsimp only; rw [ei]; rfl, hrow2, by omega, by omega, fun H3 n hb3 hrow3 hn => ?_⟩
  have en : (2 : Int) + (n : Int) = ((2 + n : Nat) : Int) := by push_cast; rfl
  refine ⟨_, _, rfl, rfl, by show 3 ≤ sizeLine; rw [sizeLine_eq]; omega, fun p hp => ?_⟩
  have eX := (((Ext.of hb1).trans (.of hb2)).trans (.of hb3)).trans (Ext.new (o := .tup [V.int (3 + (j : Int)), V.int (1 + (i : Int)), V.int (2 + (n : Int))]) hp)
  refine hQ _ p (3 + j) (1 + i) (2 + n) eX (hrow3.new hp) ?_ (by omega) (by omega) (by omega) (by omega) (by omega)
  rw [upd_same]
  dsimp only
  rw [ei, ej, en]
end
end SL
end

section
set_option Elab.async false
set_option linter.all false
set_option maxRecDepth 100000
set_option maxHeartbeats 4000000
/-! plain: what is a map; the map that the law lays -/
namespace SL
/-- the cell x has the land of the cell before it, or a new one -/
def Pc (L : Nat) (cs : List Nat) (x : Nat) : Prop := at0 cs x = at0 cs (par L x) ∨ ∀ y, y < x → at0 cs y ≠ at0 cs x
theorem mem_held {cs : List Nat} {l x : Nat} : x ∈ held cs l ↔ x < cs.length ∧ at0 cs x = l := by
  unfold held
  rw [List.mem_filter, List.mem_range, beq_iff_eq]
theorem held_lt (cs : List Nat) (l : Nat) : (held cs l).Pairwise (· < ·) := List.Pairwise.filter _ List.pairwise_lt_range
theorem par_le (L x : Nat) : par L x ≤ x := by
  unfold par
  split <;> omega
theorem hangB_iff {L : Nat} {S : List Nat} : hangB L S = true ↔ ∃ h t, S = h :: t ∧ ∀ x ∈ t, par L x ∈ S := by
  cases S with
  | nil => constructor
           · intro h; cases h
           · rintro ⟨h, t, e, _⟩; cases e
  | cons h t =>
    unfold hangB
    rw [List.all_eq_true]
    constructor
    · intro hh
      exact ⟨h, t, rfl, fun x hx => by simpa using hh x hx⟩
    · rintro ⟨h', t', e, hh⟩
      cases e
      exact fun x hx => by simpa using hh x hx
/-- a map, by its cells -/
theorem mapOk_of {A L N : Nat} {cs : List Nat} (a3 : 3 ≤ A) (a4 : A ≤ 4) (hL : L = 1 ∨ L = 2 ∨ L = 3) (hs : cs.length = A * L + 1) (hN : 2 ≤ N) (hN2 : N ≤ L + 1) (hlow : ∀ x ∈ cs, x < N) (hall : ∀ l, l < N → l ∈ cs) (hp : ∀ x, 1 ≤ x → x < cs.length → Pc L cs x) :
    MapOk A L (A, cs) ∧ landsOf (A, cs) = N := by
  have hland : landsOf (A, cs) = N := by
    unfold landsOf
    have h1 : N - 1 ∈ cs := hall _ (by omega)
    rw [maxL_of h1 fun y hy => by have := hlow y hy; omega]
    omega
  refine ⟨⟨⟨rfl, a3, a4, hL, hs, fun x hx => by have := hlow x hx; omega⟩, by rw [hland]; omega, fun l hl => ?_⟩, hland⟩
  rw [hland] at hl
  show hangB L (held cs l) = true
  obtain ⟨i, hi⟩ := List.getElem_of_mem (hall l hl)
  obtain ⟨hi1, hi2⟩ := hi
  have him : i ∈ held cs l := mem_held.mpr ⟨hi1, by unfold at0; rw [List.getD_eq_getElem?_getD, List.getElem?_eq_getElem hi1]; exact hi2⟩
  have hlt := held_lt cs l
  cases e : held cs l with
  | nil => rw [e] at him; cases him
  | cons h t =>
    rw [e] at hlt
    refine hangB_iff.mpr ⟨h, t, rfl, fun x hx => ?_⟩
    have hxm : x ∈ held cs l := by rw [e]; exact List.mem_cons_of_mem _ hx
    have hhm : h ∈ held cs l := by rw [e]; exact List.mem_cons_self
    obtain ⟨hx1, hx2⟩ := mem_held.mp hxm
    obtain ⟨hh1, hh2⟩ := mem_held.mp hhm
    have hlt' : h < x := List.rel_of_pairwise_cons hlt hx
    rw [← e]
    rcases hp x (by omega) hx1 with z | z
    · exact mem_held.mpr ⟨Nat.lt_of_le_of_lt (par_le L x) hx1, by rw [← z]; exact hx2⟩
    · exact absurd (hh2.trans hx2.symm) (z h hlt')
/-! ### laying a map -/
def allP (A L : Nat) : List (Nat × Nat) := (List.range A).flatMap fun a => (List.range L).map fun s => (a, s)
abbrev CSt := List Nat × Nat × Nat
def stepC (cuts : List (Nat × Nat)) (ord : List Nat) (a : Nat) (st : CSt) (s : Nat) : CSt := if (a, s) ∈ cuts then (st.1 ++ [at0 ord st.2.2], at0 ord st.2.2, st.2.2 + 1) else (st.1 ++ [st.2.1], st.2.1, st.2.2)
def armC (cuts : List (Nat × Nat)) (ord : List Nat) (a : Nat) (st : CSt) (n : Nat) : CSt := (List.range n).foldl (stepC cuts ord a) (st.1, at0 ord 0, st.2.2)
def layC (cuts : List (Nat × Nat)) (ord : List Nat) (L A : Nat) : CSt := (List.range A).foldl (fun st a => armC cuts ord a st L) ([at0 ord 0], at0 ord 0, 1)
def cellsOf (A L : Nat) (cuts : List (Nat × Nat)) (ord : List Nat) : List Nat := (layC cuts ord L A).1
theorem armC_succ (cuts : List (Nat × Nat)) (ord : List Nat) (a : Nat) (st : CSt) (n : Nat) : armC cuts ord a st (n + 1) = stepC cuts ord a (armC cuts ord a st n) n := by
  unfold armC
  rw [List.range_succ, List.foldl_append]
  rfl
theorem layC_succ (cuts : List (Nat × Nat)) (ord : List Nat) (L A : Nat) : layC cuts ord L (A + 1) = armC cuts ord A (layC cuts ord L A) L := by
  unfold layC
  rw [List.range_succ, List.foldl_append]
  rfl
theorem allP_succ (A L : Nat) : allP (A + 1) L = allP A L ++ (List.range L).map fun s => (A, s) := by
  unfold allP
  rw [List.range_succ, List.flatMap_append]
  simp
theorem allP_mem {A L : Nat} {p : Nat × Nat} : p ∈ allP A L ↔ p.1 < A ∧ p.2 < L := by
  unfold allP
  rw [List.mem_flatMap]
  constructor
  · rintro ⟨a, ha, h⟩
    obtain ⟨s, hs, rfl⟩ := List.mem_map.mp h
    exact ⟨List.mem_range.mp ha, List.mem_range.mp hs⟩
  · rintro ⟨h1, h2⟩
    exact ⟨p.1, List.mem_range.mpr h1, List.mem_map.mpr ⟨p.2, List.mem_range.mpr h2, rfl⟩⟩
theorem allP_len (A L : Nat) : (allP A L).length = A * L := by
  induction A with
  | zero => simp [allP]
  | succ A ih =>
    rw [allP_succ, List.length_append, ih, List.length_map, List.length_range, Nat.succ_mul]
theorem allP_nodup (A L : Nat) : (allP A L).Nodup := by
  induction A with
  | zero => exact .nil
  | succ A ih =>
    rw [allP_succ, List.nodup_append]
    refine ⟨ih, nodup_map List.nodup_range fun e => by injection e, fun x hx y hy e => ?_⟩
    subst e
    have h1 := (allP_mem.mp hx).1
    obtain ⟨s, _, rfl⟩ := List.mem_map.mp hy
    exact Nat.lt_irrefl _ h1
theorem at0_app {cs ds : List Nat} {x : Nat} (h : x < cs.length) : at0 (cs ++ ds) x = at0 cs x := by
  unfold at0
  rw [List.getD_eq_getElem?_getD, List.getD_eq_getElem?_getD, List.getElem?_append_left h]
theorem at0_last (cs : List Nat) (y : Nat) : at0 (cs ++ [y]) cs.length = y := by
  unfold at0
  rw [List.getD_eq_getElem?_getD, List.getElem?_append_right (Nat.le_refl _), Nat.sub_self]
  rfl
theorem at0_mem {cs : List Nat} {x : Nat} (h : x < cs.length) : at0 cs x ∈ cs := at0_lt h
/-- what holds while the cells are laid -/
structure CI (L N : Nat) (cuts : List (Nat × Nat)) (ord : List Nat) (dn : List (Nat × Nat)) (cs : List Nat) (used : Nat) : Prop where
  len : cs.length = 1 + dn.length
  use : used = 1 + (dn.filter fun p => decide (p ∈ cuts)).length
  sub : ∀ x ∈ cs, ∃ j, j < used ∧ x = at0 ord j
  sup : ∀ j, j < used → at0 ord j ∈ cs
  hub : at0 cs 0 = at0 ord 0
  pc : ∀ x, 1 ≤ x → x < cs.length → Pc L cs x
section
variable {L N : Nat} {cuts dn : List (Nat × Nat)} {ord : List Nat} {cs : List Nat} {used : Nat}
theorem CI.start : CI L N cuts ord [] [at0 ord 0] 1 := by
  refine ⟨rfl, rfl, fun x hx => ⟨0, by decide, List.mem_singleton.mp hx⟩, fun j hj => ?_, rfl, fun x h1 h2 => ?_⟩
  · obtain rfl : j = 0 := by omega
    exact List.mem_singleton.mpr rfl
  · simp at h2
    omega
theorem Pc.app {x : Nat} {ds : List Nat} (h : Pc L cs x) (hx : x < cs.length) : Pc L (cs ++ ds) x := by
  unfold Pc
  rw [at0_app hx, at0_app (Nat.lt_of_le_of_lt (par_le L x) hx)]
  rcases h with h | h
  · exact .inl h
  · exact .inr fun y hy => by rw [at0_app (Nat.lt_trans hy hx)]; exact h y hy
/-- not all of the cuts were met yet -/
theorem CI.room (I : CI L N cuts ord dn cs used) {p : Nat × Nat} (nd : (dn ++ [p]).Nodup) (hp : p ∈ cuts) (hc : cuts.length + 1 = N) : used < N := by
  have h := nodup_le (l := (dn ++ [p]).filter fun p => decide (p ∈ cuts)) (D := cuts) (List.Pairwise.filter _ nd) fun x hx => of_decide_eq_true (List.mem_filter.mp hx).2
  rw [List.filter_append, List.length_append] at h
  have e : ([p].filter fun p => decide (p ∈ cuts)).length = 1 := by rw [List.filter_cons, if_pos (decide_eq_true hp)]; rfl
  rw [e] at h
  have := I.use
  omega
theorem CI.step (I : CI L N cuts ord dn cs used) {a s land : Nat} (nd : (dn ++ [(a, s)]).Nodup) (hc : cuts.length + 1 = N) (ho : ord.Nodup) (hol : ord.length = N) (hl : land = at0 cs (par L cs.length)) :
    CI L N cuts ord (dn ++ [(a, s)]) (stepC cuts ord a (cs, land, used) s).1 (stepC cuts ord a (cs, land, used) s).2.2 := by
  have hpos : 1 ≤ cs.length := by have := I.len; omega
  unfold stepC
  by_cases hp : (a, s) ∈ cuts
  · have hr := I.room nd hp hc
    rw [if_pos hp]
    refine ⟨?_, ?_, fun x hx => ?_, fun j hj => ?_, ?_, fun x h1 h2 => ?_⟩
    · simp only [List.length_append, List.length_singleton]
      have := I.len
      omega
    · rw [List.filter_append, List.length_append]
      have e : ([(a, s)].filter fun p => decide (p ∈ cuts)).length = 1 := by rw [List.filter_cons, if_pos (decide_eq_true hp)]; rfl
      rw [e]
      show used + 1 = _
      have := I.use
      omega
    · rcases List.mem_append.mp hx with hx | hx
      · obtain ⟨j, hj, e⟩ := I.sub x hx
        exact ⟨j, Nat.lt_succ_of_lt hj, e⟩
      · exact ⟨used, Nat.lt_succ_self _, List.mem_singleton.mp hx⟩
    · rcases Nat.lt_or_ge j used with z | z
      · exact List.mem_append_left _ (I.sup j z)
      · have hj : j < used + 1 := hj
        obtain rfl : j = used := by omega
        exact List.mem_append_right _ (List.mem_singleton.mpr rfl)
    · show at0 (cs ++ _) 0 = _
      rw [at0_app (by omega)]
      exact I.hub
    · rcases Nat.lt_or_ge x cs.length with z | z
      · exact (I.pc x h1 z).app z
      · have : x < cs.length + 1 := by simpa using h2
        obtain rfl : x = cs.length := by omega
        refine .inr fun y hy => ?_
        show at0 (cs ++ [_]) y ≠ at0 (cs ++ [_]) cs.length
        rw [at0_app hy, at0_last]
        obtain ⟨j, hj, e⟩ := I.sub _ (at0_mem hy)
        rw [e]
        intro e2
        show False
        have e2 : at0 ord j = at0 ord used := e2
        unfold at0 at e2
        rw [List.getD_eq_getElem?_getD, List.getD_eq_getElem?_getD, List.getElem?_eq_getElem (by omega), List.getElem?_eq_getElem (by omega)] at e2
        have := (List.getElem_inj ho).mp e2
        omega
  · rw [if_neg hp]
    refine ⟨?_, ?_, fun x hx => ?_, fun j hj => ?_, ?_, fun x h1 h2 => ?_⟩
    · simp only [List.length_append, List.length_singleton]
      have := I.len
      omega
    · rw [List.filter_append, List.length_append]
      have e : ([(a, s)].filter fun p => decide (p ∈ cuts)).length = 0 := by rw [List.filter_cons, if_neg (by simpa using hp)]; rfl
      rw [e]
      exact I.use
    · rcases List.mem_append.mp hx with hx | hx
      · exact I.sub x hx
      · rw [List.mem_singleton.mp hx]
        show ∃ j, j < used ∧ land = at0 ord j
        rw [hl]
        refine I.sub _ (at0_mem ?_)
        exact par_lt hpos
    · exact List.mem_append_left _ (I.sup j hj)
    · show at0 (cs ++ _) 0 = _
      rw [at0_app (by omega)]
      exact I.hub
    · rcases Nat.lt_or_ge x cs.length with z | z
      · exact (I.pc x h1 z).app z
      · have : x < cs.length + 1 := by simpa using h2
        obtain rfl : x = cs.length := by omega
        refine .inl ?_
        show at0 (cs ++ [_]) cs.length = at0 (cs ++ [_]) (par L cs.length)
        rw [at0_last, at0_app (par_lt hpos)]
        exact hl
theorem dn_nodup (i j : Nat) : (allP i L ++ (List.range j).map fun s => (i, s)).Nodup := by
  rw [List.nodup_append]
  refine ⟨allP_nodup i L, nodup_map List.nodup_range fun e => by injection e, fun x hx y hy e => ?_⟩
  subst e
  have h1 := (allP_mem.mp hx).1
  obtain ⟨s, _, rfl⟩ := List.mem_map.mp hy
  exact Nat.lt_irrefl _ h1
theorem CI.arm {i : Nat} {st : CSt} (I : CI L N cuts ord (allP i L) st.1 st.2.2) (hL : L = 1 ∨ L = 2 ∨ L = 3) (hc : cuts.length + 1 = N) (ho : ord.Nodup) (hol : ord.length = N) : ∀ j, j ≤ L →
    CI L N cuts ord (allP i L ++ (List.range j).map fun s => (i, s)) (armC cuts ord i st j).1 (armC cuts ord i st j).2.2 ∧ (j < L → (armC cuts ord i st j).2.1 = at0 (armC cuts ord i st j).1 (par L (armC cuts ord i st j).1.length)) := by
  intro j
  induction j with
  | zero =>
    intro _
    refine ⟨by simpa [armC] using I, fun _ => ?_⟩
    show at0 ord 0 = at0 st.1 (par L st.1.length)
    have hl := I.len
    rw [allP_len] at hl
    have : par L st.1.length = 0 := by
      unfold par
      rw [if_pos]
      rw [hl]
      rcases hL with rfl | rfl | rfl <;> omega
    rw [this]
    exact I.hub.symm
  | succ j ih =>
    intro hj
    obtain ⟨h1, h2⟩ := ih (by omega)
    have h2 := h2 (by omega)
    rw [armC_succ]
    have e : allP i L ++ (List.range (j + 1)).map (fun s => (i, s)) = (allP i L ++ (List.range j).map fun s => (i, s)) ++ [(i, j)] := by
      rw [List.range_succ, List.map_append, List.append_assoc]
      rfl
    have nd := dn_nodup (L := L) i (j + 1)
    rw [e] at nd ⊢
    generalize hst : armC cuts ord i st j = s1 at h1 h2
    obtain ⟨cs, land, used⟩ := s1
    refine ⟨h1.step nd hc ho hol h2, fun hjL => ?_⟩
    have hl := h1.len
    rw [List.length_append, allP_len, List.length_map, List.length_range] at hl
    have hlen : ∀ y : Nat, par L (cs ++ [y]).length = cs.length := fun y => by
      rw [List.length_append, List.length_singleton]
      unfold par
      rw [if_neg]
      · omega
      · have hl : cs.length = 1 + (i * L + j) := hl
        rw [hl]
        rcases hL with rfl | rfl | rfl <;> omega
    unfold stepC
    split
    · show at0 ord used = at0 (cs ++ [at0 ord used]) (par L (cs ++ [at0 ord used]).length)
      rw [hlen, at0_last]
    · show land = at0 (cs ++ [land]) (par L (cs ++ [land]).length)
      rw [hlen, at0_last]
theorem CI.lay (hL : L = 1 ∨ L = 2 ∨ L = 3) (hc : cuts.length + 1 = N) (ho : ord.Nodup) (hol : ord.length = N) : ∀ i, CI L N cuts ord (allP i L) (layC cuts ord L i).1 (layC cuts ord L i).2.2 := by
  intro i
  induction i with
  | zero => exact CI.start
  | succ i ih =>
    rw [layC_succ, allP_succ]
    exact (ih.arm hL hc ho hol L (Nat.le_refl _)).1
theorem CI.done {A : Nat} (I : CI L N cuts ord (allP A L) cs used) (a3 : 3 ≤ A) (a4 : A ≤ 4) (hL : L = 1 ∨ L = 2 ∨ L = 3) (hN : 2 ≤ N) (hN2 : N ≤ L + 1) (hc : cuts.length + 1 = N) (hcn : cuts.Nodup) (hcs : ∀ p ∈ cuts, p ∈ allP A L) (ho : ord.Nodup) (hol : ord.length = N) (hob : ∀ x ∈ ord, x < N) : MapOk A L (A, cs) := by
  have hu : used = N := by
    have h1 := nodup_le (l := (allP A L).filter fun p => decide (p ∈ cuts)) (D := cuts) (List.Pairwise.filter _ (allP_nodup A L)) fun x hx => of_decide_eq_true (List.mem_filter.mp hx).2
    have h2 := nodup_le (l := cuts) (D := (allP A L).filter fun p => decide (p ∈ cuts)) hcn fun x hx => List.mem_filter.mpr ⟨hcs x hx, decide_eq_true hx⟩
    have := I.use
    omega
  refine (mapOk_of (N := N) a3 a4 hL (by rw [I.len, allP_len]; omega) hN hN2 (fun x hx => ?_) (fun l hl => ?_) I.pc).1
  · obtain ⟨j, hj, e⟩ := I.sub x hx
    rw [e]
    exact hob _ (at0_mem (by omega))
  · have hall := nodup_all (l := ord) (D := List.range N) ho (fun x hx => List.mem_range.mpr (hob x hx)) (by rw [List.length_range, hol]; exact Nat.le_refl _)
    obtain ⟨j, hj, e⟩ := List.getElem_of_mem (hall l (List.mem_range.mpr hl))
    have := I.sup j (by omega)
    unfold at0 at this
    rw [List.getD_eq_getElem?_getD, List.getElem?_eq_getElem hj] at this
    rw [← e]
    exact this
end
end SL
end

section
set_option Elab.async false
set_option linter.all false
set_option maxRecDepth 100000
set_option maxHeartbeats 4000000
/-! walks of the law: _law_map -/
namespace SL
open PySem PySem.Spec PyProof.Rows L2
/-- nothing but r is changed; tables may grow -/
def GrX (r : Addr) (H H' : Hp) : Prop := ∀ b o, b ≠ r → H b = some o → H' b = some o ∨ ∃ ps qs, o = .tbl ps ∧ H' b = some (.tbl qs) ∧ (TriplesOk ps.toList → TriplesOk qs.toList)
section
variable {K : PySem.W.Frag} {H H' H1 H2 : Hp} {r : Addr}
theorem GrX.refl : GrX r H H := fun _ _ _ h => .inl h
theorem GrX.gr (g : Gr H H') : GrX r H H' := fun b o _ h => g b o h
theorem GrX.ext (g : Ext r H H') : GrX r H H' := fun b o n h => .inl (g b o n h)
theorem GrX.trans (a : GrX r H H1) (b : GrX r H1 H2) : GrX r H H2 := fun c o n h => by
  rcases a c o n h with z | ⟨ps, qs, e, z, t⟩
  · exact b c o n z
  · rcases b c _ n z with y | ⟨ps', qs', e', y, t'⟩
    · exact .inr ⟨ps, qs, e, y, t⟩
    · cases e'
      exact .inr ⟨ps, qs', e, y, fun h => t' (t h)⟩
theorem GrX.keep (g : GrX r H H') {b : Addr} {o : HO} (nb : b ≠ r) (h : H b = some o) (n : ∀ ps, o ≠ .tbl ps) : H' b = some o := by
  rcases g b o nb h with z | ⟨ps, _, e, _⟩
  · exact z
  · exact absurd e (n ps)
theorem GrX.lst (g : GrX r H H') {b : Addr} {xs : List V} (nb : b ≠ r) (h : H b = some (.lst xs)) : H' b = some (.lst xs) := g.keep nb h fun _ e => by cases e
theorem GrX.sqT {a : Addr} {xs : List V} (e : GrX r H H') (n : ∀ xs, ¬ Rd H r (.tup xs)) (h : SqT K H a xs) : SqT K H' a xs := by
  rcases h with z | z
  · have ha : a ≠ r := fun ea => n xs (ea ▸ z)
    rcases z with z | ⟨o, z⟩
    · exact .inl (.inl (e.keep ha z fun _ e => by cases e))
    · exact .inl (.inr ⟨o, e.keep ha z fun _ e => by cases e⟩)
  · exact .inr z
theorem GrX.tp {v : V} {k : NK} (e : GrX r H H') (n : ∀ xs, ¬ Rd H r (.tup xs)) (h : Tp K H v k) : Tp K H' v k := Tp.mono (fun _ _ => e.sqT n) k v h
theorem GrX.tps {vs : List V} {ks : List NK} (e : GrX r H H') (n : ∀ xs, ¬ Rd H r (.tup xs)) (h : TpAll K H vs ks) : TpAll K H' vs ks := TpAll.mono (fun _ _ => e.sqT n) ks vs h
theorem Gr.extX (g : Gr H H1) (h : H r = none) (e : GrX r H1 H2) : Gr H H2 := fun b o hb => by
  have n : b ≠ r := ne_of_none hb h
  rcases g b o hb with z | ⟨ps, qs, z1, z2, z3⟩
  · exact e b _ n z
  · rcases e b _ n z2 with y | ⟨ps', qs', e', y, t'⟩
    · exact .inr ⟨ps, qs, z1, y, z3⟩
    · cases e'
      exact .inr ⟨ps, qs', z1, y, fun h => t' (z3 h)⟩
end
theorem kTk_inj {a b : Nat × Nat} (h : kTk a = kTk b) : a = b := by
  unfold kTk at h
  injection h with h
  injection h with h1 h2
  injection h2 with h2
  exact Prod.ext (kN_inj h1) (kN_inj h2)
theorem kTk_depth (a : Nat × Nat) : (kTk a).depth ≤ 8 := by
  unfold kTk
  simp only [NestedKey.depth, NestedKey.depthAll]
  omega
theorem tpTk_get {K : PySem.W.Frag} {H : Hp} {xs : List V} {ts : List (Nat × Nat)} {i : Nat} {x : V} (t : TpAll K H xs (ts.map kTk)) (hx : xs[i]? = some x) : ∃ hc, ts[i]? = some hc ∧ Tp K H x (kTk hc) := by
  obtain ⟨kc, ekc, tx⟩ := t.get hx
  rw [List.getElem?_map] at ekc
  cases e : ts[i]? with
  | none => rw [e] at ekc; cases ekc
  | some y => rw [e] at ekc; exact ⟨y, rfl, by rw [show kTk y = kc from Option.some.inj ekc]; exact tx⟩
theorem filter_notinP (l cu : List (Nat × Nat)) (o : Nat × Nat) : (l.filter fun p => decide (p ∉ cu)).filter (fun p => !decide (p = o)) = l.filter fun p => decide (p ∉ cu ++ [o]) := by
  rw [List.filter_filter]
  refine List.filter_congr fun x _ => ?_
  rw [Bool.eq_iff_iff]
  simp only [List.mem_append, List.mem_singleton, Bool.and_eq_true, Bool.not_eq_true', decide_eq_false_iff_not, decide_eq_true_eq]
  exact ⟨fun h z => z.elim h.2 h.1, fun h => ⟨fun z => h (.inr z), fun z => h (.inl z)⟩⟩
theorem filter_notinN (l cu : List Nat) (o : Nat) : (l.filter fun p => decide (p ∉ cu)).filter (fun p => !decide (p = o)) = l.filter fun p => decide (p ∉ cu ++ [o]) := by
  rw [List.filter_filter]
  refine List.filter_congr fun x _ => ?_
  rw [Bool.eq_iff_iff]
  simp only [List.mem_append, List.mem_singleton, Bool.and_eq_true, Bool.not_eq_true', decide_eq_false_iff_not, decide_eq_true_eq]
  exact ⟨fun h z => z.elim h.2 h.1, fun h => ⟨fun z => h (.inr z), fun z => h (.inl z)⟩⟩
theorem filter_take_succ {α : Type} (p : α → Bool) {l : List α} {i : Nat} {x : α} (e : l[i]? = some x) : (l.take (i + 1)).filter p = (l.take i).filter p ++ (if p x = true then [x] else []) := by
  rw [List.take_add_one, e, List.filter_append]
  congr 1
  show [x].filter p = _
  rw [List.filter_cons]
  rfl
section
variable {w : World} {K : PySem.W.Frag} {mg : Str → Option Value} {base : Heap}
def spMap (K : PySem.W.Frag) : Sp := fun vs H Q _ => ∃ (r : Addr) (A L N : Nat), vs = [.ref r, vN A, vN L, vN N] ∧ RowAt K H r ∧ 3 ≤ A ∧ A ≤ 4 ∧ (L = 1 ∨ L = 2 ∨ L = 3) ∧ 2 ≤ N ∧ N ≤ L + 1 ∧ ∀ H' v m, GrX r H H' → RowAt K H' r → Tp K H' v (kCh m) → MapOk A L m → Q v H'
abbrev nMap : List Str := ["_law_row", "_law_arms", "_law_length", "_law_lands", "_law_left", "_law_cuts", "_law_arm", "_law_step", "_law_turn", "_law_one", "_law_names", "_law_order_here", "_law_cells", "_law_used", "_law_land", "_law_pair", "_law_k"]
theorem sc__law_map : FnScope nMap ["_law_row", "_law_arms", "_law_length", "_law_lands"] (defScope s__law_map) := ⟨rfl, rfl, rfl, by decide +kernel, rfl, by decide +kernel, by decide +kernel⟩
theorem kp__law_map (T : Tx K mg base) (Fp : Kp w K mg base "_law_pick" 2 ["_law_row", "_law_things"] (spPick K)) : Kp w K mg base "_law_map" 3 ["_law_row", "_law_arms", "_law_length", "_law_lands"] (spMap K) := by
  refine kp_of (d := d__law_map) (k := 2) T (by simp [fn]) (by decide +kernel) rfl rfl rfl rfl rfl sc__law_map (fun vs H Q E ⟨_, _, _, _, e, _⟩ => by rw [e]; rfl) (fun _ _ _ _ _ _ us hl => match us, hl with | [_, _, _, _], _ => rfl) fun Ar outer s H vs Q E hr hsp => ?_
  obtain ⟨r, A, L, N, rfl, hrow, a3, a4, hL, hN, hN2, hQ⟩ := hsp
  refine ⟨_, pss_cons (ps_par (i := 4) (j := 5) rfl sc__law_map.nd rfl rfl (by decide) rfl rfl (pa_cons (pe_lst pa_nil) (pa1 (pe_lst pa_nil))) rfl)
    (pss_cons (ps_for PassesOwn.never rfl (pi_range1 (by rfl) (T.free "range") (pa1 (pv 1))) (pg_name (i := 6) sc__law_map.nd rfl (.inr rfl))
      (pss_one (ps_set (i := 4) sc__law_map.nd rfl (.inl rfl) (pe_op op_cat (pv 4) (pe_lc (own := [("_law_step", 7)]) (g := gName 7) (tt := tYes) rfl sc__law_map.nd (pi_range1 (by rfl) (T.free "range") (pa1 (pv 2)))
        (blkOk_by (N := nMap) (sc := defScope s__law_map) (by decide +kernel)) (fun _ _ _ _ _ => pg_name (i := 7) sc__law_map.nd rfl (Or.inl rfl)) (fun _ _ _ _ _ => pts_nil) (fun _ _ _ _ _ => pe_tup (pa_cons (pv 6) (pa1 (pv 7)))))))))
    (pss_cons (ps_for PassesOwn.never rfl (pi_range1 (by rfl) (T.free "range") (pa1 (pe_op op_sub (pv 3) pe_int))) (pg_name (i := 8) sc__law_map.nd rfl (.inl rfl))
      (pss_cons (ps_set (i := 9) sc__law_map.nd rfl (.inr rfl) (pe_k Fp rfl hr (pa_cons (pv 0) (pa1 (pv 4)))))
      (pss_one (ps_par (i := 5) (j := 4) rfl sc__law_map.nd rfl rfl (by decide) rfl rfl (pa_cons (pe_op op_cat (pv 5) (pe_lst (pa1 (pv 9)))) (pa1 (pe_lc (own := [("_law_pair", 15)]) (g := gName 15) rfl sc__law_map.nd (pi_list (pv 4))
        (blkOk_by (N := nMap) (sc := defScope s__law_map) (by decide +kernel)) (fun _ _ _ _ _ => pg_name (i := 15) sc__law_map.nd rfl (Or.inl rfl)) (fun _ _ _ _ _ => pts_one (pt_cmpR (r := rNeK K) (op_neK (units64 hr)) (pv 15) (pv 9) (nomark _))) (fun _ _ _ _ _ => pv 15)))) rfl))))
    (pss_cons (ps_par (i := 10) (j := 11) rfl sc__law_map.nd rfl rfl (by decide) rfl rfl (pa_cons (pe_listRg rfl (by rfl) (T.free "list") (prg_1 (by rfl) (T.free "range") (pv 3))) (pa1 (pe_lst pa_nil))) rfl)
    (pss_cons (ps_for PassesOwn.never rfl (pi_range1 (by rfl) (T.free "range") (pa1 (pv 3))) (pg_name (i := 8) sc__law_map.nd rfl (.inl rfl))
      (pss_cons (ps_set (i := 9) sc__law_map.nd rfl (.inr rfl) (pe_k Fp rfl hr (pa_cons (pv 0) (pa1 (pv 10)))))
      (pss_one (ps_par (i := 11) (j := 10) rfl sc__law_map.nd rfl rfl (by decide) rfl rfl (pa_cons (pe_op op_cat (pv 11) (pe_lst (pa1 (pv 9)))) (pa1 (pe_lc (own := [("_law_k", 16)]) (g := gName 16) rfl sc__law_map.nd (pi_list (pv 10))
        (blkOk_by (N := nMap) (sc := defScope s__law_map) (by decide +kernel)) (fun _ _ _ _ _ => pg_name (i := 16) sc__law_map.nd rfl (Or.inl rfl)) (fun _ _ _ _ _ => pts_one (pt_cmpR op_ne (pv 16) (pv 9) (nomark _))) (fun _ _ _ _ _ => pv 16)))) rfl))))
    (pss_cons (ps_par (i := 12) (j := 13) rfl sc__law_map.nd rfl rfl (by decide) rfl rfl (pa_cons (pe_lst (pa1 (pe_ix ix_list (pv 11) pe_int (fun _ _ => rfl)))) (pa1 pe_int)) rfl)
    (pss_cons (ps_for PassesOwn.never rfl (pi_range1 (by rfl) (T.free "range") (pa1 (pv 1))) (pg_name (i := 6) sc__law_map.nd rfl (.inr rfl))
      (pss_cons (ps_set (i := 14) sc__law_map.nd rfl (.inl rfl) (pe_ix ix_list (pv 11) pe_int (fun _ _ => rfl)))
      (pss_one (ps_for PassesOwn.never rfl (pi_range1 (by rfl) (T.free "range") (pa1 (pv 2))) (pg_name (i := 7) sc__law_map.nd rfl (.inl rfl))
        (pss_cons (ps_if (pt_cmpR (op_inK (units65 hr)) (pe_tup (pa_cons (pv 6) (pa1 (pv 7)))) (pv 5) rfl)
          (pss_one (ps_par (i := 14) (j := 13) rfl sc__law_map.nd rfl rfl (by decide) rfl rfl (pa_cons (pe_ix ix_list (pv 11) (pv 13) (fun _ _ => rfl)) (pa1 (pe_op op_add (pv 13) pe_int))) rfl)) pss_nil)
        (pss_one (ps_expr (pe_bm PySem.F.plainAttrs_list PySem.F.slot_list_append PySem.F.type_list_append mt_append (pv 12) (pa1 (pv 14))))))))))
    (pss_one (ps_ret (pe_tup (pa_cons (pv 1) (pa1 (pe_tupleOf (by rfl) (T.free "tuple") (pv 12))))))))))))), ?_⟩
  have hAL : A * L ≤ 12 := by rcases hL with rfl | rfl | rfl <;> omega
  refine ⟨by show 0 ≤ sizeLine; exact Nat.zero_le _, fun l hl => ⟨by show 0 ≤ sizeLine; exact Nat.zero_le _, fun c hc => ?_⟩⟩
  have gl := Gr.new (o := .lst []) hl
  have gc := Gr.new (o := .lst []) hc
  have hlc : l ≠ c := ne_of_none upd_same hc
  have hcn : H c = none := gl.free hc
  refine ⟨_, _, rfl, ?_⟩
  refine ⟨_, rfl, A, rfl, by omega, by omega, for_range (lo := 0) (n := A) (fun i σ' H' => ∃ l x6, σ' = [some (.ref r), some (vN A), some (vN L), some (vN N), some (.ref l), some (.ref c), x6, none, none, none, none, none, none, none, none, none, none] ∧ Gr H H' ∧ l ≠ c ∧ H l = none ∧ H' c = some (.lst []) ∧ ∃ xs, H' l = some (.lst xs) ∧ TpAll K H' xs ((allP i L).map kTk))
    ⟨l, _, rfl, gl.trans gc, hlc, hl, upd_same, [], gc.lst upd_same, .nil⟩ ?_ ?_⟩
  · rintro i σ' H1 hi ⟨l, x6, rfl, g1, hlc, hln, h1c, xs, h1l, t1⟩
    have e0 : V.int (0 + (i : Int)) = vN i := by simp
    rw [e0]
    refine ⟨_, rfl, _, rfl, L, rfl, by omega, by omega, fun D hD => lc_range (lo := 0) (n := L) (fun j H' => LcK K D H1 (((List.range j).map fun s => (i, s)).map kTk) H') (LcK.start hD) ?_ ?_⟩
    · intro j H2 hj h2
      have ej : V.int (0 + (j : Int)) = vN j := by simp
      rw [ej]
      refine ⟨rfl, _, rfl, _, rfl, by show 2 ≤ sizeLine; rw [sizeLine_eq]; omega, fun t ht => ?_⟩
      have gt := Gr.new (o := .tup [vN i, vN j]) ht
      obtain ⟨zs, ez, el, h4⟩ := h2.put gt (y := .ref t) (tk_mk (t := (i, j)) (.inl (.inl upd_same))) hD
      refine ⟨zs, ez, by rw [el]; simp [sizeLine_eq]; omega, ?_⟩
      rw [List.range_succ, List.map_append, List.map_append]
      exact h4
    · rintro H2 ⟨zs, ez, tz, g2⟩
      have l1 := t1.length
      have l2 := tz.length
      rw [List.length_map, allP_len] at l1
      rw [List.length_map, List.length_map, List.length_range] at l2
      have hiL : i * L ≤ 4 * 3 := Nat.mul_le_mul (by omega) (by omega)
      refine ⟨l, D, xs, zs, rfl, rfl, g2.lst h1l, ez, by rw [sizeLine_eq]; omega, fun p hp => ?_⟩
      have g12 := g1.trans g2
      have gp := Gr.new (o := .lst (xs ++ zs)) hp
      refine ⟨p, _, rfl, g12.trans gp, (fun e => by rw [e, g2.lst h1c] at hp; cases hp), g12.free hp, gp.lst (g2.lst h1c), xs ++ zs, upd_same, ?_⟩
      rw [allP_succ, List.map_append]
      exact ((g2.trans gp).tps t1).append (gp.tps tz)
  rintro σ' H1 ⟨l, x6, rfl, g1, hlc, hln, h1c, xs, h1l, t1⟩
  have hrowS := hrow.some
  refine ⟨_, rfl, _, _, rfl, rfl, ((N - 1 : Nat) : Int), (by show [V.int ((N : Int) - 1)] = [V.int ((N - 1 : Nat) : Int)]; rw [Int.natCast_sub (by omega)]; rfl), by omega, by omega,
    for_range (lo := 0) (n := N - 1) (fun i σ' H' => ∃ l c cu x6 x8 x9, σ' = [some (.ref r), some (vN A), some (vN L), some (vN N), some (.ref l), some (.ref c), x6, none, x8, x9, none, none, none, none, none, none, none] ∧ GrX r H H' ∧ RowAt K H' r ∧ r ≠ l ∧ r ≠ c ∧
      (∃ xs, H' l = some (.lst xs) ∧ TpAll K H' xs (((allP A L).filter fun p => decide (p ∉ cu)).map kTk)) ∧ (∃ ys, H' c = some (.lst ys) ∧ TpAll K H' ys (cu.map kTk)) ∧ cu.length = i ∧ cu.Nodup ∧ ∀ p ∈ cu, p ∈ allP A L)
    ⟨l, c, [], _, _, _, rfl, .gr g1, hrow.gr g1, fun e => hrowS (e ▸ hln), fun e => hrowS (e ▸ hcn), ⟨xs, h1l, by
      have e : ((allP A L).filter fun p => decide (p ∉ ([] : List (Nat × Nat)))) = allP A L := List.filter_eq_self.mpr fun x _ => by simp
      rw [e]; exact t1⟩, ⟨[], h1c, .nil⟩, rfl, .nil, fun p hp => by cases hp⟩ ?_ ?_⟩
  · clear h1c h1l t1 hln hcn hlc hc hl gl gc g1
    rintro i σ' H1 hi ⟨l, c, cu, x6, x8, x9, rfl, g1, row1, hrl, hrc, ⟨xs, h1l, t1⟩, ⟨ys, h1c, ty1⟩, hcl, hcn, hcs⟩
    have hlf : (allP A L).filter (fun p => decide (p ∉ cu)) ≠ [] := fun e => by
      have h := nodup_le (l := allP A L) (D := cu) (allP_nodup A L) fun x hx => by
        rcases Classical.em (x ∈ cu) with z | z
        · exact z
        · have : x ∈ (allP A L).filter (fun p => decide (p ∉ cu)) := List.mem_filter.mpr ⟨hx, decide_eq_true z⟩
          rw [e] at this
          cases this
      rw [allP_len] at h
      have : 3 * L ≤ A * L := Nat.mul_le_mul_right _ a3
      omega
    have hlen := List.length_filter_le (fun p => decide (p ∉ cu)) (allP A L)
    rw [allP_len] at hlen
    generalize hlfd : (allP A L).filter (fun p => decide (p ∉ cu)) = lf at t1 hlf hlen
    have l1 := t1.length
    rw [List.length_map] at l1
    have l2 := ty1.length
    rw [List.length_map] at l2
    refine ⟨_, rfl, _, rfl, r, l, xs, rfl, row1, hrl, h1l, fun e => by rw [e] at l1; exact hlf (List.length_eq_zero_iff.mp l1.symm), by omega, fun H2 k x eX row2 hx => ?_⟩
    obtain ⟨o, eo, to⟩ := tpTk_get t1 hx
    have hom : o ∈ lf := List.mem_of_getElem? eo
    rw [← hlfd] at hom
    obtain ⟨ho1, ho2⟩ := List.mem_filter.mp hom
    have ho2 := of_decide_eq_true ho2
    have nt1 := row1.nt
    have to2 := eX.tp nt1 to
    have h2l := eX l _ (Ne.symm hrl) h1l
    have h2c := eX c _ (Ne.symm hrc) h1c
    have t2 := eX.tps nt1 t1
    have ty2 := eX.tps nt1 ty1
    refine ⟨_, rfl, _, rfl, by show 1 ≤ sizeLine; rw [sizeLine_eq]; omega, fun q hq => ?_⟩
    have gq := Gr.new (o := .lst [x]) hq
    refine ⟨c, q, ys, [x], rfl, rfl, gq.lst h2c, upd_same, by rw [List.length_singleton, sizeLine_eq]; omega, fun c2 hc2 => ?_⟩
    have gc2 := Gr.new (o := .lst (ys ++ [x])) hc2
    have gb := gq.trans gc2
    refine ⟨_, rfl, l, rfl, ⟨_, SqL.of (gb.lst h2l)⟩, fun D hD => lc_list (xs := xs) (fun j H' => LcK K D _ (((lf.take j).filter fun p => !decide (p = o)).map kTk) H') (LcK.start hD) (fun j H' _ h => SqL.of (h.gr.lst (gb.lst h2l))) ?_ ?_⟩
    · rintro j y H3 hy h3
      have g3 := gb.trans h3.gr
      obtain ⟨pj, ej, tj⟩ := tpTk_get (g3.tps t2) hy
      have hj := (List.getElem?_eq_some_iff.mp ej).1
      refine ⟨rfl, _, rfl, _, rfl, kTk pj, kTk o, tj, g3.tp to2, kTk_depth _, kTk_depth _, _, rfl, ?_⟩
      have hll := List.length_filter_le (fun p => !decide (p = o)) (lf.take j)
      rw [List.length_take] at hll
      rw [filter_take_succ _ ej]
      by_cases hpo : pj = o
      · refine iteF' (by rw [decide_eq_true (by rw [hpo])]; rfl) ?_
        rw [if_neg (by simpa using hpo), List.append_nil]
        exact h3
      · refine iteT' (by rw [decide_eq_false (fun e => hpo (kTk_inj e))]; rfl) ⟨_, rfl, ?_⟩
        rw [if_pos (by simpa using hpo)]
        obtain ⟨zs, ez, el, h4⟩ := h3.put (Gr.refl _) tj hD
        refine ⟨zs, ez, by rw [el, List.length_map, sizeLine_eq]; omega, ?_⟩
        rw [List.map_append]
        exact h4
    · rintro H3 ⟨zs, ez, tz, g3⟩
      rw [l1, List.take_length, ← hlfd, filter_notinP] at tz
      have g23 := gb.trans g3
      have hrD : r ≠ D := fun e => row2.some (gb.free (e ▸ hD))
      have hrc2 : r ≠ c2 := fun e => row2.some (gq.free (e ▸ hc2))
      refine ⟨_, _, rfl, D, c2, cu ++ [o], _, _, _, rfl, (g1.trans (.ext eX)).trans (.gr g23), row2.gr g23, hrD, hrc2, ⟨zs, ez, tz⟩, ⟨ys ++ [x], g3.lst upd_same, ?_⟩, by rw [List.length_append, hcl]; rfl, ?_, fun p hp => ?_⟩
      · rw [List.map_append]
        exact g23.tps (ty2.append (.cons to2 .nil))
      · rw [List.nodup_append]
        exact ⟨hcn, by simp, fun x hx z hz => by rw [List.mem_singleton.mp hz]; exact fun e => ho2 (e ▸ hx)⟩
      · rcases List.mem_append.mp hp with h | h
        · exact hcs p h
        · rw [List.mem_singleton.mp h]; exact ho1
  clear h1c h1l t1 hln hcn hlc hc hl gl gc g1
  rintro σ' H1 ⟨l, c, cu, x6, x8, x9, rfl, g1, row1, hrl, hrc, ⟨xs, h1l, t1⟩, ⟨ys, h1c, ty1⟩, hcl, hcn, hcs⟩
  refine ⟨_, rfl, N, rfl, .of_le (by omega) (by omega) (by omega) (by omega), fun nm hnm => ⟨by show 0 ≤ sizeLine; exact Nat.zero_le _, fun od hod => ?_⟩⟩
  have enm : rgV 0 (N : Int) = ((List.range N).filter fun k => decide (k ∉ ([] : List Nat))).map vN := by
    have e : ((List.range N).filter fun k => decide (k ∉ ([] : List Nat))) = List.range N := List.filter_eq_self.mpr fun x _ => by simp
    rw [e]
    unfold rgV
    simp
  have gnm := Gr.new (o := .lst (rgV 0 (N : Int))) hnm
  have god := Gr.new (o := .lst []) hod
  have gno := gnm.trans god
  have nt1 := row1.nt
  refine ⟨_, _, rfl, ?_⟩
  refine ⟨_, rfl, N, rfl, by omega, by omega, for_range (lo := 0) (n := N) (fun i σ' H' => ∃ nm od os x6 x8 x9, σ' = [some (.ref r), some (vN A), some (vN L), some (vN N), some (.ref l), some (.ref c), x6, none, x8, x9, some (.ref nm), some (.ref od), none, none, none, none, none] ∧ GrX r H H' ∧ RowAt K H' r ∧ r ≠ nm ∧ r ≠ od ∧
      H' nm = some (.lst (((List.range N).filter fun k => decide (k ∉ os)).map vN)) ∧ H' od = some (.lst (os.map vN)) ∧ H' c = some (.lst ys) ∧ TpAll K H' ys (cu.map kTk) ∧ os.length = i ∧ os.Nodup ∧ ∀ k ∈ os, k < N)
    ⟨nm, od, [], _, _, _, rfl, g1.trans (.gr gno), row1.gr gno, fun e => row1.some (e ▸ hnm), fun e => row1.some (gnm.free (e ▸ hod)), by rw [← enm]; exact god.lst upd_same, upd_same, gno.lst h1c, gno.tps ty1, rfl, .nil, fun k hk => by cases hk⟩ ?_ ?_⟩
  · rintro i σ' H2 hi ⟨nm, od, os, x6, x8, x9, rfl, g2, row2, hrn, hro, h2n, h2o, h2c, ty2, hol, hon, hos⟩
    have hlf : (List.range N).filter (fun k => decide (k ∉ os)) ≠ [] := fun e => by
      have h := nodup_le (l := List.range N) (D := os) List.nodup_range fun x hx => by
        rcases Classical.em (x ∈ os) with z | z
        · exact z
        · have : x ∈ (List.range N).filter (fun k => decide (k ∉ os)) := List.mem_filter.mpr ⟨hx, decide_eq_true z⟩
          rw [e] at this
          cases this
      rw [List.length_range] at h
      omega
    have hlen := List.length_filter_le (fun k => decide (k ∉ os)) (List.range N)
    rw [List.length_range] at hlen
    generalize hlfd : (List.range N).filter (fun k => decide (k ∉ os)) = lf at h2n hlf hlen
    refine ⟨_, rfl, _, rfl, r, nm, _, rfl, row2, hrn, h2n, by simpa using hlf, by rw [List.length_map]; omega, fun H3 k x eX row3 hx => ?_⟩
    obtain ⟨o, eo, rfl⟩ : ∃ o, lf[k]? = some o ∧ vN o = x := by
      rw [List.getElem?_map] at hx
      cases e : lf[k]? with
      | none => rw [e] at hx; cases hx
      | some y => rw [e] at hx; exact ⟨y, rfl, Option.some.inj hx⟩
    have hom : o ∈ lf := List.mem_of_getElem? eo
    rw [← hlfd] at hom
    obtain ⟨ho1, ho2⟩ := List.mem_filter.mp hom
    have ho2 := of_decide_eq_true ho2
    have ho1 := List.mem_range.mp ho1
    have nt2 := row2.nt
    have h3n := eX nm _ (Ne.symm hrn) h2n
    have h3o := eX od _ (Ne.symm hro) h2o
    have h3c := eX c _ (Ne.symm hrc) h2c
    have ty3 := eX.tps nt2 ty2
    refine ⟨_, rfl, _, rfl, by show 1 ≤ sizeLine; rw [sizeLine_eq]; omega, fun q hq => ?_⟩
    have gq := Gr.new (o := .lst [vN o]) hq
    refine ⟨od, q, os.map vN, [vN o], rfl, rfl, gq.lst h3o, upd_same, by rw [List.length_singleton, List.length_map, sizeLine_eq]; omega, fun o2 ho2' => ?_⟩
    have go2 := Gr.new (o := .lst (os.map vN ++ [vN o])) ho2'
    have gb := gq.trans go2
    refine ⟨_, rfl, nm, rfl, ⟨_, SqL.of (gb.lst h3n)⟩, fun D hD => lc_list (xs := lf.map vN) (fun j H' => H' D = some (.lst (((lf.take j).filter fun p => !decide (p = o)).map vN)) ∧ Gr _ H') ⟨upd_same, Gr.new hD⟩ (fun j H' _ h => SqL.of (h.2.lst (gb.lst h3n))) ?_ ?_⟩
    · rintro j y H4 hy ⟨h4, g4⟩
      obtain ⟨pj, ej, rfl⟩ : ∃ o, lf[j]? = some o ∧ vN o = y := by
        rw [List.getElem?_map] at hy
        cases e : lf[j]? with
        | none => rw [e] at hy; cases hy
        | some y => rw [e] at hy; exact ⟨y, rfl, Option.some.inj hy⟩
      refine ⟨rfl, _, rfl, _, rfl, rfl, _, rfl, ?_⟩
      have hll := List.length_filter_le (fun p => !decide (p = o)) (lf.take j)
      rw [List.length_take] at hll
      rw [filter_take_succ _ ej]
      by_cases hpo : pj = o
      · refine iteF' (by show (!decide (vN pj = vN o)) = false; rw [decide_eq_true (by rw [hpo])]; rfl) ?_
        rw [if_neg (by simpa using hpo), List.append_nil]
        exact ⟨h4, g4⟩
      · refine iteT' (by show (!decide (vN pj = vN o)) = true; rw [decide_eq_false (fun e : vN pj = vN o => hpo (vN_eq.mp e))]; rfl) ⟨_, rfl, ?_⟩
        rw [if_pos (by simpa using hpo)]
        refine ⟨_, h4, by rw [List.length_map, sizeLine_eq]; omega, ?_, Gr.put g4 hD⟩
        rw [upd_same, List.map_append]
        rfl
    · rintro H4 ⟨h4, g4⟩
      rw [List.length_map, List.take_length, ← hlfd, filter_notinN] at h4
      have g34 := gb.trans g4
      have hrD : r ≠ D := fun e => row3.some (gb.free (e ▸ hD))
      have hro2 : r ≠ o2 := fun e => row3.some (gq.free (e ▸ ho2'))
      refine ⟨_, _, rfl, D, o2, os ++ [o], _, _, _, rfl, (g2.trans (.ext eX)).trans (.gr g34), row3.gr g34, hrD, hro2, h4, ?_, g34.lst h3c, g34.tps ty3, by rw [List.length_append, hol]; rfl, ?_, fun p hp => ?_⟩
      · rw [g4.lst upd_same, List.map_append]
        rfl
      · rw [List.nodup_append]
        exact ⟨hon, by simp, fun x hx z hz => by rw [List.mem_singleton.mp hz]; exact fun e => ho2 (e ▸ hx)⟩
      · rcases List.mem_append.mp hp with h | h
        · exact hos p h
        · rw [List.mem_singleton.mp h]; exact ho1
  rintro σ' H2 ⟨nm, od, os, x6, x8, x9, rfl, g2, row2, hrn, hro, h2n, h2o, h2c, ty2, hol, hon, hos⟩
  have eo0 : (os.map vN)[0]? = some (vN (at0 os 0)) := vN_at (by omega)
  refine ⟨_, rfl, od, _, _, _, rfl, rfl, SqL.of h2o, atI_nat (j := 0) eo0, by show 1 ≤ sizeLine; rw [sizeLine_eq]; omega, fun q hq => ?_⟩
  have gq := Gr.new (o := .lst [vN (at0 os 0)]) hq
  refine ⟨_, _, rfl, ?_⟩
  have hcl' : cu.length + 1 = N := by omega
  have hlay := CI.lay (L := L) (cuts := cu) (ord := os) hL hcl' hon hol
  refine ⟨_, rfl, A, rfl, by omega, by omega, for_range (lo := 0) (n := A) (fun i σ' H' => ∃ x6 x7 x14, σ' = [some (.ref r), some (vN A), some (vN L), some (vN N), some (.ref l), some (.ref c), x6, x7, x8, x9, some (.ref nm), some (.ref od), some (.ref q), some (vN (layC cu os L i).2.2), x14, none, none] ∧ Gr H2 H' ∧ H' q = some (.lst ((layC cu os L i).1.map vN)))
    ⟨_, _, _, rfl, gq, upd_same⟩ ?_ ?_⟩
  · rintro i σ' H3 hi ⟨x6, x7, x14, rfl, g3, h3q⟩
    have e0 : V.int (0 + (i : Int)) = vN i := by simp
    rw [e0]
    have hCI := (hlay i).arm hL hcl' hon hol
    rw [layC_succ]
    generalize layC cu os L i = st at h3q hCI
    refine ⟨_, rfl, od, _, _, _, rfl, rfl, SqL.of (g3.lst h2o), atI_nat (j := 0) eo0, ?_⟩
    refine ⟨_, rfl, L, rfl, by omega, by omega, for_range (lo := 0) (n := L) (fun j σ' H' => ∃ x7, σ' = [some (.ref r), some (vN A), some (vN L), some (vN N), some (.ref l), some (.ref c), some (vN i), x7, x8, x9, some (.ref nm), some (.ref od), some (.ref q), some (vN (armC cu os i st j).2.2), some (vN (armC cu os i st j).2.1), none, none] ∧ Gr H2 H' ∧ H' q = some (.lst ((armC cu os i st j).1.map vN)))
      ⟨_, rfl, g3, h3q⟩ ?_ ?_⟩
    · rintro j σ' H4 hj ⟨x7, rfl, g4, h4q⟩
      have ej : V.int (0 + (j : Int)) = vN j := by simp
      rw [ej]
      obtain ⟨hI, _⟩ := hCI j (by omega)
      have nd := dn_nodup (L := L) i (j + 1)
      have e : allP i L ++ (List.range (j + 1)).map (fun s => (i, s)) = (allP i L ++ (List.range j).map fun s => (i, s)) ++ [(i, j)] := by
        rw [List.range_succ, List.map_append, List.append_assoc]
        rfl
      rw [e] at nd
      have hlen := hI.len
      rw [List.length_append, allP_len, List.length_map, List.length_range] at hlen
      have hiL : i * L ≤ 4 * 3 := Nat.mul_le_mul (by omega) (by omega)
      rw [armC_succ]
      generalize armC cu os i st j = s1 at h4q hI hlen
      obtain ⟨cs, land, used⟩ := s1
      refine ⟨_, rfl, _, rfl, by show 2 ≤ sizeLine; rw [sizeLine_eq]; omega, fun t ht => ?_⟩
      have gt := Gr.new (o := .tup [vN i, vN j]) ht
      refine ⟨_, rfl, kTk (i, j), c, ys, cu.map kTk, rfl, tk_mk (t := (i, j)) (.inl (.inl upd_same)), SqL.of ((g4.trans gt).lst h2c), (g4.trans gt).tps ty2, kTk_depth _, fun z hz => by obtain ⟨p, _, rfl⟩ := List.mem_map.mp hz; exact kTk_depth p, _, rfl, ?_⟩
      have g5 := g4.trans gt
      have h5q := gt.lst h4q
      by_cases hin : (i, j) ∈ cu
      · have hroom : used < N := hI.room nd hin hcl'
        have eou : (os.map vN)[used]? = some (vN (at0 os used)) := vN_at (by show used < _; omega)
        refine iteT' (decide_eq_true (List.mem_map.mpr ⟨_, hin, rfl⟩)) ?_
        refine ⟨_, rfl, _, rfl, od, _, _, _, rfl, rfl, SqL.of (g5.lst h2o), atI_nat eou, _, rfl, _, _, rfl, rfl, _, _, rfl, ?_⟩
        refine ⟨_, rfl, .inl ⟨rfl, _, SqL.of h5q⟩, _, rfl, q, _, _, rfl, rfl, h5q, by rw [List.length_map, sizeLine_eq]; show cs.length < _; have : cs.length = _ := hlen; omega, ?_⟩
        unfold stepC
        rw [if_pos hin]
        refine ⟨_, rfl, Gr.put g5 hq, ?_⟩
        rw [upd_same, List.map_append]
        rfl
      · refine iteF' (decide_eq_false fun z => hin (by obtain ⟨p, hp, e⟩ := List.mem_map.mp z; rw [← kTk_inj e]; exact hp)) ?_
        refine ⟨_, rfl, .inl ⟨rfl, _, SqL.of h5q⟩, _, rfl, q, _, _, rfl, rfl, h5q, by rw [List.length_map, sizeLine_eq]; show cs.length < _; have : cs.length = _ := hlen; omega, ?_⟩
        unfold stepC
        rw [if_neg hin]
        refine ⟨_, rfl, Gr.put g5 hq, ?_⟩
        rw [upd_same, List.map_append]
        rfl
    · rintro σ' H4 ⟨x7, rfl, g4, h4q⟩
      exact ⟨_, _, _, rfl, g4, h4q⟩
  · rintro σ' H3 ⟨x6, x7, x14, rfl, g3, h3q⟩
    refine ⟨_, rfl, _, rfl, .inl ⟨q, _, rfl, SqL.of h3q, fun t ht => ⟨by show 2 ≤ sizeLine; rw [sizeLine_eq]; omega, fun u hu => ?_⟩⟩⟩
    have gt := Gr.new (o := .tup ((layC cu os L A).1.map vN)) ht
    have gu := Gr.new (o := .tup [vN A, V.ref t]) hu
    have g := (g3.trans gt).trans gu
    exact hQ _ _ (A, (layC cu os L A).1) (g2.trans (.gr g)) (row2.gr g) (ch_mk (b := t) (.inl (.inl upd_same)) (gu.sqT (.inl (.inl upd_same)))) ((hlay A).done a3 a4 hL hN hN2 hcl' hcn hcs hon hol hos)
end
end SL
end

section
set_option Elab.async false
set_option linter.all false
set_option maxRecDepth 100000
set_option maxHeartbeats 4000000
/-! walks of the law: _law_near, _law_hangs -/
namespace SL
open PySem PySem.Spec PyProof.Rows L2
/-! ### _law_near -/
def lnS (L c a : Nat) (f : List Nat) (s : Nat) : List Nat := (f ++ (if c = (if s = 0 then 0 else a * L + s) then [1 + a * L + s] else [])) ++ (if c = 1 + a * L + s then [if s = 0 then 0 else a * L + s] else [])
def lnRow (L c a : Nat) (f : List Nat) (n : Nat) : List Nat := (List.range n).foldl (lnS L c a) f
def lnAll (L c A : Nat) : List Nat := (List.range A).foldl (fun f a => lnRow L c a f L) []
theorem lnRow_succ (L c a : Nat) (f : List Nat) (n : Nat) : lnRow L c a f (n + 1) = lnS L c a (lnRow L c a f n) n := by
  unfold lnRow
  rw [List.range_succ, List.foldl_append]
  rfl
theorem lnAll_succ (L c A : Nat) : lnAll L c (A + 1) = lnRow L c A (lnAll L c A) L := by
  unfold lnAll
  rw [List.range_succ, List.foldl_append]
  rfl
theorem ite1_len {α : Type} (p : Prop) [Decidable p] (x : α) : (if p then [x] else []).length ≤ 1 := by split <;> simp
theorem lnS_len (L c a : Nat) (f : List Nat) (s : Nat) : (lnS L c a f s).length ≤ f.length + 2 := by
  unfold lnS
  rw [List.length_append, List.length_append]
  have h1 := ite1_len (c = (if s = 0 then 0 else a * L + s)) (1 + a * L + s)
  have h2 := ite1_len (c = 1 + a * L + s) (if s = 0 then 0 else a * L + s)
  omega
theorem lnRow_len (L c a : Nat) (f : List Nat) (n : Nat) : (lnRow L c a f n).length ≤ f.length + 2 * n := by
  induction n with
  | zero => exact Nat.le_refl _
  | succ n ih =>
    rw [lnRow_succ]
    have := lnS_len L c a (lnRow L c a f n) n
    omega
theorem lnAll_len (L c A : Nat) : (lnAll L c A).length ≤ 2 * (A * L) := by
  induction A with
  | zero => simp [lnAll]
  | succ A ih =>
    rw [lnAll_succ]
    have := lnRow_len L c A (lnAll L c A) L
    rw [Nat.add_mul, Nat.one_mul]
    omega
theorem ln_perm : ∀ A ∈ [3, 4], ∀ L ∈ [1, 2, 3], ∀ c ≤ 12, c ≤ A * L → (near A L c).isPerm (lnAll L c A) = true ∧ (near A L c).Pairwise (· ≤ ·) ∧ (near A L c).Nodup := by decide +kernel
def spNear2 : Sp := fun vs H Q _ => ∃ A L c : Nat, vs = [vN A, vN L, vN c] ∧ 3 ≤ A ∧ A ≤ 4 ∧ (L = 1 ∨ L = 2 ∨ L = 3) ∧ c ≤ A * L ∧ NewL H Q (near A L c)
section
variable {w : World} {K : PySem.W.Frag} {mg : Str → Option Value} {base : Heap}
theorem sc__law_near : FnScope ["_law_arms", "_law_length", "_law_cell", "_law_found", "_law_arm", "_law_step", "_law_here", "_law_inner"] ["_law_arms", "_law_length", "_law_cell"] (defScope s__law_near) := ⟨rfl, rfl, rfl, by decide +kernel, rfl, by decide +kernel, by decide +kernel⟩
theorem kp__law_near (T : Tx K mg base) : Kp w K mg base "_law_near" 1 ["_law_arms", "_law_length", "_law_cell"] spNear2 := by
  refine kp_of (d := d__law_near) (k := 0) T (by simp [fn]) (by decide +kernel) rfl rfl rfl rfl rfl sc__law_near (fun vs H Q E ⟨_, _, _, e, _⟩ => by rw [e]; rfl) (fun _ _ _ _ _ _ us hl => match us, hl with | [_, _, _], _ => rfl) fun Ar outer s H vs Q E hr hsp => ?_
  obtain ⟨A, L, c, rfl, a3, a4, hL, hc, hQ⟩ := hsp
  refine ⟨_, pss_cons (ps_set (i := 3) sc__law_near.nd rfl (.inl rfl) (pe_lst pa_nil))
    (pss_cons (ps_for PassesOwn.never rfl (pi_range1 (by rfl) (T.free "range") (pa1 (pv 0))) (pg_name (i := 4) sc__law_near.nd rfl (.inl rfl))
      (pss_one (ps_for PassesOwn.never rfl (pi_range1 (by rfl) (T.free "range") (pa1 (pv 1))) (pg_name (i := 5) sc__law_near.nd rfl (.inl rfl))
        (pss_cons (ps_set (i := 6) sc__law_near.nd rfl (.inl rfl) (pe_op op_add (pe_op op_add pe_int (pe_op op_mul (pv 4) (pv 1))) (pv 5)))
        (pss_cons (ps_set (i := 7) sc__law_near.nd rfl (.inl rfl) (pe_ifExp (pt_cmpR op_eq (pv 5) pe_int (nomark _)) pe_int (pe_op op_sub (pv 6) pe_int)))
        (pss_cons (ps_if (pt_cmpR op_eq (pv 2) (pv 7) (nomark _)) (pss_one (ps_expr (pe_bm PySem.F.plainAttrs_list PySem.F.slot_list_append PySem.F.type_list_append mt_append (pv 3) (pa1 (pv 6))))) pss_nil)
        (pss_one (ps_if (pt_cmpR op_eq (pv 2) (pv 6) (nomark _)) (pss_one (ps_expr (pe_bm PySem.F.plainAttrs_list PySem.F.slot_list_append PySem.F.type_list_append mt_append (pv 3) (pa1 (pv 7))))) pss_nil))))))))
    (pss_one (ps_ret (pe_callB cr_sorted (by rfl) (T.free "sorted") (by decide +kernel) (pa1 (pv 3)))))), ?_⟩
  have hAL : A * L ≤ 12 := by rcases hL with rfl | rfl | rfl <;> omega
  have hp := ln_perm A (by rcases (by omega : A = 3 ∨ A = 4) with rfl | rfl <;> simp) L (by rcases hL with rfl | rfl | rfl <;> simp) c (by omega) hc
  refine ⟨by show 0 ≤ sizeLine; exact Nat.zero_le _, fun f hf => ?_⟩
  have gf := Gr.new (o := .lst []) hf
  refine ⟨_, rfl, A, rfl, by omega, by omega, for_range (lo := 0) (n := A) (fun i σ' H' => ∃ x4 x5 x6 x7, σ' = [some (vN A), some (vN L), some (vN c), some (.ref f), x4, x5, x6, x7] ∧ Gr H H' ∧ H' f = some (.lst ((lnAll L c i).map vN)))
    ⟨_, _, _, _, rfl, gf, upd_same⟩ ?_ ?_⟩
  · rintro i σ' H1 hi ⟨x4, x5, x6, x7, rfl, g1, h1⟩
    have e0 : V.int (0 + (i : Int)) = vN i := by simp
    rw [e0, lnAll_succ]
    have hlen := lnAll_len L c i
    have hiL : i * L ≤ 4 * 3 := Nat.mul_le_mul (by omega) (by rcases hL with rfl | rfl | rfl <;> omega)
    generalize lnAll L c i = fa at h1 hlen
    refine ⟨_, rfl, L, rfl, by rcases hL with rfl | rfl | rfl <;> omega, by rcases hL with rfl | rfl | rfl <;> omega, for_range (lo := 0) (n := L) (fun j σ' H' => ∃ x5 x6 x7, σ' = [some (vN A), some (vN L), some (vN c), some (.ref f), some (vN i), x5, x6, x7] ∧ Gr H H' ∧ H' f = some (.lst ((lnRow L c i fa j).map vN)))
      ⟨_, _, _, rfl, g1, h1⟩ ?_ ?_⟩
    · rintro j σ' H2 hj ⟨x5, x6, x7, rfl, g2, h2⟩
      have ej : V.int (0 + (j : Int)) = vN j := by simp
      rw [ej, lnRow_succ]
      have hlen2 := lnRow_len L c i fa j
      generalize lnRow L c i fa j = fr at h2 hlen2
      have hj3 : j ≤ 3 := by rcases hL with rfl | rfl | rfl <;> omega
      have eh : (1 : Int) + (i : Int) * (L : Int) + (j : Int) = ((1 + i * L + j : Nat) : Int) := by push_cast; rfl
      refine ⟨_, rfl, _, rfl, _, _, rfl, rfl, .inr ⟨by rcases hL with rfl | rfl | rfl <;> omega, by rcases hL with rfl | rfl | rfl <;> omega⟩, _, _, rfl, rfl, _, rfl, _, _, rfl, rfl, ?_⟩
      dsimp only
      rw [eh]
      generalize hhere : 1 + i * L + j = here
      have hfl : (fr.map vN).length < sizeLine := by rw [List.length_map, sizeLine_eq]; omega
      have fin : ∀ inner : Nat, inner = (if j = 0 then 0 else i * L + j) → lnS L c i fr j = (fr ++ (if c = inner then [here] else [])) ++ (if c = here then [inner] else []) := fun inner e => by
        unfold lnS
        rw [← e, hhere]
      refine ⟨_, rfl, rfl, _, rfl, ?_⟩
      by_cases hj0 : j = 0
      · refine iteT' (decide_eq_true (vN_eq.mpr hj0)) ?_
        have e1 := fin 0 (by rw [if_pos hj0])
        rw [e1]
        refine ⟨_, rfl, _, rfl, rfl, _, rfl, ?_⟩
        by_cases h1 : c = 0
        · refine iteT' (decide_eq_true (vN_eq.mpr h1)) ⟨_, rfl, .inl ⟨rfl, _, SqL.of h2⟩, _, rfl, f, _, _, rfl, rfl, h2, hfl, ?_⟩
          rw [if_pos h1]
          refine ⟨_, rfl, _, rfl, rfl, _, rfl, ?_⟩
          by_cases h3 : c = here
          · refine iteT' (decide_eq_true (vN_eq.mpr h3)) ⟨_, rfl, .inl ⟨rfl, _, SqL.of upd_same⟩, _, rfl, f, _, _, rfl, rfl, upd_same, by rw [List.length_append, List.length_map, sizeLine_eq, List.length_singleton]; omega, ?_⟩
            rw [if_pos h3]
            refine ⟨_, _, _, rfl, Gr.put (Gr.put g2 hf) hf, ?_⟩
            rw [upd_same]
            simp
          · refine iteF' (decide_eq_false (fun z => h3 (vN_eq.mp z))) ?_
            rw [if_neg h3, List.append_nil]
            refine ⟨_, _, _, rfl, Gr.put g2 hf, ?_⟩
            rw [upd_same]
            simp
        · refine iteF' (decide_eq_false (fun z => h1 (vN_eq.mp z))) ?_
          rw [if_neg h1, List.append_nil]
          refine ⟨_, rfl, _, rfl, rfl, _, rfl, ?_⟩
          by_cases h3 : c = here
          · refine iteT' (decide_eq_true (vN_eq.mpr h3)) ⟨_, rfl, .inl ⟨rfl, _, SqL.of h2⟩, _, rfl, f, _, _, rfl, rfl, h2, hfl, ?_⟩
            rw [if_pos h3]
            refine ⟨_, _, _, rfl, Gr.put g2 hf, ?_⟩
            rw [upd_same]
            simp
          · refine iteF' (decide_eq_false (fun z => h3 (vN_eq.mp z))) ?_
            rw [if_neg h3, List.append_nil]
            exact ⟨_, _, _, rfl, g2, h2⟩
      · refine iteF' (decide_eq_false (fun z => hj0 (vN_eq.mp z))) ?_
        have e1 := fin (i * L + j) (by rw [if_neg hj0])
        have e9 : (here : Int) - 1 = ((i * L + j : Nat) : Int) := by rw [← hhere]; push_cast; omega
        refine ⟨_, rfl, _, _, rfl, rfl, ?_⟩
        dsimp only
        rw [e9]
        rw [e1]
        refine ⟨_, rfl, _, rfl, rfl, _, rfl, ?_⟩
        by_cases h1 : c = i * L + j
        · refine iteT' (decide_eq_true (vN_eq.mpr h1)) ⟨_, rfl, .inl ⟨rfl, _, SqL.of h2⟩, _, rfl, f, _, _, rfl, rfl, h2, hfl, ?_⟩
          rw [if_pos h1]
          refine ⟨_, rfl, _, rfl, rfl, _, rfl, ?_⟩
          by_cases h3 : c = here
          · refine iteT' (decide_eq_true (vN_eq.mpr h3)) ⟨_, rfl, .inl ⟨rfl, _, SqL.of upd_same⟩, _, rfl, f, _, _, rfl, rfl, upd_same, by rw [List.length_append, List.length_map, sizeLine_eq, List.length_singleton]; omega, ?_⟩
            rw [if_pos h3]
            refine ⟨_, _, _, rfl, Gr.put (Gr.put g2 hf) hf, ?_⟩
            rw [upd_same]
            simp
          · refine iteF' (decide_eq_false (fun z => h3 (vN_eq.mp z))) ?_
            rw [if_neg h3, List.append_nil]
            refine ⟨_, _, _, rfl, Gr.put g2 hf, ?_⟩
            rw [upd_same]
            simp
        · refine iteF' (decide_eq_false (fun z => h1 (vN_eq.mp z))) ?_
          rw [if_neg h1, List.append_nil]
          refine ⟨_, rfl, _, rfl, rfl, _, rfl, ?_⟩
          by_cases h3 : c = here
          · refine iteT' (decide_eq_true (vN_eq.mpr h3)) ⟨_, rfl, .inl ⟨rfl, _, SqL.of h2⟩, _, rfl, f, _, _, rfl, rfl, h2, hfl, ?_⟩
            rw [if_pos h3]
            refine ⟨_, _, _, rfl, Gr.put g2 hf, ?_⟩
            rw [upd_same]
            simp
          · refine iteF' (decide_eq_false (fun z => h3 (vN_eq.mp z))) ?_
            rw [if_neg h3, List.append_nil]
            exact ⟨_, _, _, rfl, g2, h2⟩
    · rintro σ' H2 ⟨x5, x6, x7, rfl, g2, h2⟩
      exact ⟨_, _, _, _, rfl, g2, h2⟩
  · rintro σ' H1 ⟨x4, x5, x6, x7, rfl, g1, h1⟩
    have hlen := lnAll_len L c A
    refine ⟨_, rfl, f, (lnAll L c A).map fun n : Nat => (n : Int), rfl, SqL.of (by rw [h1, List.map_map]; rfl), by rw [List.length_map]; omega, fun ns' p hperm hsort hp' => ?_⟩
    have e : ns' = (near A L c).map fun n : Nat => (n : Int) := by
      have hp1 : (near A L c).Perm (lnAll L c A) := List.isPerm_iff.mp hp.1
      refine List.Perm.eq_of_pairwise (fun a b _ _ h1 h2 => Int.le_antisymm h1 h2) hsort ?_ (hperm.trans (hp1.map _).symm)
      exact List.Pairwise.map _ (fun a b h => by omega) hp.2.1
    rw [e, List.map_map]
    exact hQ _ p (Gr.put g1 (g1.free hp')) (g1.free hp') upd_same
end
end SL
end

section
set_option Elab.async false
set_option linter.all false
set_option maxRecDepth 100000
set_option maxHeartbeats 4000000
/-! walks of the law: _law_hangs -/
namespace SL
open PySem PySem.Spec PyProof.Rows L2
section
variable {X : Cx}
def rNeNil (K : PySem.W.Frag) : R2 := fun x y H Q => ∃ l vs ks e, x = .ref l ∧ y = .ref e ∧ SqL K H l vs ∧ TpAll K H vs ks ∧ (∀ k ∈ ks, k.depth ≤ 8) ∧ SqL K H e [] ∧ Q (.bl (!decide (vs = []))) H
def rEqNil (K : PySem.W.Frag) : R2 := fun x y H Q => ∃ l vs ks e, x = .ref l ∧ y = .ref e ∧ SqL K H l vs ∧ TpAll K H vs ks ∧ (∀ k ∈ ks, k.depth ≤ 8) ∧ SqL K H e [] ∧ Q (.bl (decide (vs = []))) H
theorem eqv_nil {K : PySem.W.Frag} {H : Hp} {vs : List V} {ks : List NK} (t : TpAll K H vs ks) : PyData.eqv (.list (NestedKey.datas ks)) (.list (NestedKey.datas [])) = decide (vs = []) := by
  cases t with
  | nil => simp [PyData.eqv, NestedKey.datas, PyData.eqvAll]
  | cons _ _ => simp [PyData.eqv, NestedKey.datas, PyData.eqvAll]
theorem op_neNil (hu : X.A.units + 64 < cLine) : OpR X (compareOp .NotEq) (rNeNil X.K) := by
  intro pins s σ H x y v u Q I rx ry h
  obtain ⟨l, vs, ks, e, rfl, rfl, hl, t, dz, he, q⟩ := h
  refine op_neD hu pins s σ H _ _ v u Q I rx ry ⟨_, _, dp_list hl t, dp_list he .nil, tps_shaped t dz, tps_shaped (K := X.K) (H := H) .nil (fun k hk => by cases hk), ?_⟩
  rw [eqv_nil t]
  exact q
theorem op_eqNil (hu : X.A.units + 64 < cLine) : OpR X (compareOp .Eq) (rEqNil X.K) := by
  intro pins s σ H x y v u Q I rx ry h
  obtain ⟨l, vs, ks, e, rfl, rfl, hl, t, dz, he, q⟩ := h
  refine op_eqD hu pins s σ H _ _ v u Q I rx ry ⟨_, _, dp_list hl t, dp_list he .nil, tps_shaped t dz, tps_shaped (K := X.K) (H := H) .nil (fun k hk => by cases hk), ?_⟩
  rw [eqv_nil t]
  exact q
end
theorem vN_get {ns : List Nat} {i : Nat} {x : V} (hx : (ns.map vN)[i]? = some x) : ∃ n, ns[i]? = some n ∧ vN n = x := by
  rw [List.getElem?_map] at hx
  cases e : ns[i]? with
  | none => rw [e] at hx; cases hx
  | some y => rw [e] at hx; exact ⟨y, rfl, Option.some.inj hx⟩
theorem kNs_depth {ns : List Nat} : ∀ k ∈ ns.map kN, k.depth ≤ 8 := fun k hk => by
  obtain ⟨n, _, rfl⟩ := List.mem_map.mp hk
  simp [NestedKey.depth]
/-- the law's way to add what is new -/
theorem addNew_nodup {nb : List Nat} : ∀ {F M : List Nat}, nb.Nodup → addNew nb (F, M) = (F ++ nb.filter (fun y => !decide (y ∈ F)), M ++ nb.filter (fun y => !decide (y ∈ F))) := by
  induction nb with
  | nil => intro F M _; simp [addNew]
  | cons a nb ih =>
    intro F M nd
    obtain ⟨h1, h2⟩ := List.nodup_cons.mp nd
    show addNew nb (if a ∈ F then (F, M) else (F ++ [a], M ++ [a])) = _
    by_cases ha : a ∈ F
    · rw [if_pos ha, ih h2, List.filter_cons, if_neg (by simp [ha])]
    · rw [if_neg ha, ih h2, List.filter_cons, if_pos (by simp [ha])]
      have e : nb.filter (fun y => !decide (y ∈ F ++ [a])) = nb.filter (fun y => !decide (y ∈ F)) := List.filter_congr fun y hy => by
        have hya : y ≠ a := fun e => h1 (e ▸ hy)
        rw [Bool.eq_iff_iff]
        simp [hya]
      rw [e]
      simp
def hgNx (A L : Nat) (S : List Nat) (c : Nat) : List Nat := (near A L c).filter fun y => decide (y ∈ S)
def lmStep (A L : Nat) (S seen : List Nat) (more : List Nat) (c : Nat) : List Nat := more ++ (near A L c).filter fun y => decide (y ∈ S) && (!decide (y ∈ seen) && !decide (y ∈ more))
theorem lm_add {A L c : Nat} {S seen more : List Nat} (nd : (near A L c).Nodup) : addNew (hgNx A L S c) (seen ++ more, more) = (seen ++ lmStep A L S seen more c, lmStep A L S seen more c) := by
  have nd2 : (hgNx A L S c).Nodup := List.Pairwise.filter _ nd
  rw [addNew_nodup nd2]
  have e : (hgNx A L S c).filter (fun y => !decide (y ∈ seen ++ more)) = (near A L c).filter fun y => decide (y ∈ S) && (!decide (y ∈ seen) && !decide (y ∈ more)) := by
    unfold hgNx
    rw [List.filter_filter]
    refine List.filter_congr fun y _ => ?_
    rw [Bool.eq_iff_iff]
    simp only [List.mem_append, Bool.and_eq_true, Bool.not_eq_true', decide_eq_false_iff_not, decide_eq_true_eq, not_or]
    exact ⟨fun ⟨⟨a, b⟩, c⟩ => ⟨c, a, b⟩, fun ⟨a, b, c⟩ => ⟨⟨b, c⟩, a⟩⟩
  rw [e]
  unfold lmStep
  rw [List.append_assoc]
theorem lm_fold {A L : Nat} {S seen : List Nat} : ∀ (rows : List Nat) (more : List Nat), (∀ c ∈ rows, (near A L c).Nodup) → rows.foldl (fun st x => addNew (hgNx A L S x) st) (seen ++ more, more) = (seen ++ rows.foldl (lmStep A L S seen) more, rows.foldl (lmStep A L S seen) more)
  | [], more, _ => rfl
  | c :: rows, more, h => by
    rw [List.foldl_cons, List.foldl_cons, lm_add (h c List.mem_cons_self), lm_fold rows _ fun x hx => h x (List.mem_cons_of_mem _ hx)]
theorem near_len {A L c : Nat} (h : A ≤ 4) : (near A L c).length ≤ 4 := by
  unfold near
  split
  · simp; exact h
  · split <;> simp
theorem lm_len {A L : Nat} {S seen : List Nat} (h : A ≤ 4) : ∀ (rows more : List Nat), (rows.foldl (lmStep A L S seen) more).length ≤ more.length + 4 * rows.length
  | [], more => by simp
  | c :: rows, more => by
    rw [List.foldl_cons]
    have h1 := lm_len (A := A) (L := L) (S := S) (seen := seen) h rows (lmStep A L S seen more c)
    have h2 : (lmStep A L S seen more c).length ≤ more.length + 4 := by
      unfold lmStep
      rw [List.length_append]
      have h3 := List.length_filter_le (fun y => decide (y ∈ S) && (!decide (y ∈ seen) && !decide (y ∈ more))) (near A L c)
      have h4 := near_len (L := L) (c := c) h
      omega
    rw [List.length_cons]
    omega
section
variable {w : World} {K : PySem.W.Frag} {mg : Str → Option Value} {base : Heap}
def spHangs2 (K : PySem.W.Frag) : Sp := fun vs H Q _ => ∃ (q : Addr) (A L : Nat) (S : List Nat), vs = [vN A, vN L, .ref q] ∧ 3 ≤ A ∧ A ≤ 4 ∧ (L = 1 ∨ L = 2 ∨ L = 3) ∧ H q = some (.lst (S.map vN)) ∧ S ≠ [] ∧ S.Pairwise (· < ·) ∧ (∀ x ∈ S, x ≤ A * L) ∧ ∀ H', Gr H H' → Q (.bl (hangB L S)) H'
abbrev nHg : List Str := ["_law_arms", "_law_length", "_law_some", "_law_seen", "_law_walk_here", "_law_more", "_law_cell", "_law_one"]
theorem sc__law_hangs : FnScope nHg ["_law_arms", "_law_length", "_law_some"] (defScope s__law_hangs) := ⟨rfl, rfl, rfl, by decide +kernel, rfl, by decide +kernel, by decide +kernel⟩
theorem kp__law_hangs (T : Tx K mg base) (Fn : Kp w K mg base "_law_near" 1 ["_law_arms", "_law_length", "_law_cell"] spNear2) : Kp w K mg base "_law_hangs" 2 ["_law_arms", "_law_length", "_law_some"] (spHangs2 K) := by
  refine kp_of (d := d__law_hangs) (k := 1) T (by simp [fn]) (by decide +kernel) rfl rfl rfl rfl rfl sc__law_hangs (fun vs H Q E ⟨_, _, _, _, e, _⟩ => by rw [e]; rfl) (fun _ _ _ _ _ _ us hl => match us, hl with | [_, _, _], _ => rfl) fun Ar outer s H vs Q E hr hsp => ?_
  obtain ⟨q, A, L, S, rfl, a3, a4, hL, hq, hne, hS, hSb, hQ⟩ := hsp
  refine ⟨_, pss_cons (ps_asg (pe_tup (pa_cons (pe_slice sl_list (pv 2) po_none (po_some pe_int)) (pa1 (pe_slice sl_list (pv 2) po_none (po_some pe_int))))) (pg_tup (by rfl) (pgs_cons (pg_name (i := 3) sc__law_hangs.nd rfl (.inr rfl)) (pgs_cons (pg_name (i := 4) sc__law_hangs.nd rfl (.inl rfl)) pgs_nil))))
    (pss_cons (ps_while PassesOwn.never (pt_cmpR (op_neNil (units64 hr)) (pv 4) (pe_lst pa_nil) (nomark _))
      (pss_cons (ps_set (i := 5) sc__law_hangs.nd rfl (.inr rfl) (pe_lst pa_nil))
      (pss_cons (ps_for PassesOwn.never rfl (pi_list (pv 4)) (pg_name (i := 6) sc__law_hangs.nd rfl (.inl rfl))
        (pss_one (ps_set (i := 5) sc__law_hangs.nd rfl (.inr rfl) (pe_op op_cat (pv 5) (pe_lc (own := [("_law_one", 7)]) (g := gName 7) rfl sc__law_hangs.nd (pi_list (pe_k Fn rfl hr (pa_cons (pv 0) (pa_cons (pv 1) (pa1 (pv 6))))))
          (blkOk_by (N := nHg) (sc := defScope s__law_hangs) (by decide +kernel)) (fun _ _ _ _ _ => pg_name (i := 7) sc__law_hangs.nd rfl (Or.inl rfl))
          (fun _ _ _ _ _ => pts_one (PW.pt (pw_and (pt_cmpR (r := rIn K false) op_in_seq (pv 7) (pv 2) rfl) (pw_and (pt_cmpR (r := rIn K true) op_notIn_seq (pv 7) (pv 3) rfl) (pw_and1 (pt_cmpR (r := rIn K true) op_notIn_seq (pv 7) (pv 5) rfl)))))) (fun _ _ _ _ _ => pv 7))))))
      (pss_one (ps_asg (pe_tup (pa_cons (pe_op op_cat (pv 3) (pv 5)) (pa1 (pv 5)))) (pg_tup (by rfl) (pgs_cons (pg_name (i := 3) sc__law_hangs.nd rfl (.inr rfl)) (pgs_cons (pg_name (i := 4) sc__law_hangs.nd rfl (.inl rfl)) pgs_nil))))))))
    (pss_one (ps_ret (pe_and (pe_cmpR (op_neNil (units64 hr)) (pv 2) (pe_lst pa_nil) (nomark _)) (pe_one (pe_cmpR op_eq (pe_callB call_len_seq (by rfl) (T.free "len") PySem.boot_len (pa1 (pv 3))) (pe_callB call_len_seq (by rfl) (T.free "len") PySem.boot_len (pa1 (pv 2))) (nomark _))))))), ?_⟩
  have hAL : A * L ≤ 12 := by rcases hL with rfl | rfl | rfl <;> omega
  obtain ⟨h, t, rfl⟩ : ∃ h t, S = h :: t := by
    cases S with
    | nil => exact absurd rfl hne
    | cons h t => exact ⟨h, t, rfl⟩
  have hnd : ∀ c, c ≤ A * L → (near A L c).Nodup := fun c hc => (ln_perm A (by rcases (by omega : A = 3 ∨ A = 4) with rfl | rfl <;> simp) L (by rcases hL with rfl | rfl | rfl <;> simp) c (by omega) hc).2.2
  have e1 : cutV ((h :: t).map vN) none (some (1 : Int)) = [h].map vN := by
    have e : (1 : Int) = ((1 : Nat) : Int) := rfl
    unfold cutV
    rw [e, HT.sIx_nat, HT.sIx_none, List.length_map, List.length_cons, Nat.min_eq_left (by omega)]
    rfl
  refine ⟨_, rfl, _, rfl, q, _, rfl, SqL.of hq, fun f1 hf1 => ?_⟩
  have g1 := Gr.new (o := .lst (cutV ((h :: t).map vN) none (some 1))) hf1
  refine ⟨_, rfl, _, rfl, q, _, rfl, SqL.of (g1.lst hq), fun f2 hf2 => ?_⟩
  have g2 := Gr.new (o := .lst (cutV ((h :: t).map vN) none (some 1))) hf2
  refine ⟨by show 2 ≤ sizeLine; rw [sizeLine_eq]; omega, fun tp htp => ?_⟩
  have g3 := Gr.new (o := .tup [V.ref f1, V.ref f2]) htp
  refine ⟨tp, _, rfl, .inl (.inl upd_same), rfl, _, _, rfl, _, _, rfl, rfl, ?_⟩
  have hh1 : h ≤ A * L := hSb h List.mem_cons_self
  have hSn : (h :: t).Nodup := hS.imp fun h => Nat.ne_of_lt h
  refine ⟨fun mm σ H1 => ∃ seen rows sn wk x5 x6 x7, σ = [some (vN A), some (vN L), some (.ref q), some (.ref sn), some (.ref wk), x5, x6, x7] ∧ Gr H H1 ∧ H1 sn = some (.lst (seen.map vN)) ∧ H1 wk = some (.lst (rows.map vN)) ∧ BInv (hgNx A L (h :: t)) [h] seen rows ∧ rows.length ≤ seen.length ∧ mm = bfsM (h :: t).length seen rows,
    ⟨_, [h], [h], f1, f2, _, _, _, rfl, (g1.trans g2).trans g3, by rw [(g2.trans g3).lst upd_same, e1], by rw [g3.lst upd_same, e1], bfs_start (by simp), Nat.le_refl _, rfl⟩, ?_⟩
  rintro mm σ H1 ⟨seen, rows, sn, wk, x5, x6, x7, rfl, gH1, h1s, h1w, BI, lrs, rfl⟩
  have sub : ∀ x, Rch (hgNx A L (h :: t)) [h] x → x ∈ h :: t := fun x hx => by
    cases hx with
    | base z => rw [List.mem_singleton.mp z]; exact List.mem_cons_self
    | step _ hy => exact of_decide_eq_true (List.mem_filter.mp hy).2
  have hseen : ∀ x ∈ seen, x ∈ h :: t := fun x hx => sub x (BI.rch x hx)
  have hrows : ∀ x ∈ rows, x ≤ A * L := fun x hx => hSb x (hseen x (BI.sub x hx))
  have lseen := nodup_le BI.nd hseen
  have lS : (h :: t).length ≤ A * L + 1 := by
    have := nodup_le (l := h :: t) (D := List.range (A * L + 1)) hSn fun x hx => List.mem_range.mpr (by have := hSb x hx; omega)
    rwa [List.length_range] at this
  refine ⟨_, rfl, by show 0 ≤ sizeLine; exact Nat.zero_le _, fun e he => ?_⟩
  have ge := Gr.new (o := .lst []) he
  refine ⟨wk, rows.map vN, rows.map kN, e, rfl, rfl, SqL.of (ge.lst h1w), tps_nums rows, kNs_depth, SqL.of upd_same, _, rfl, ?_⟩
  by_cases hr0 : rows = []
  · subst hr0
    refine iteF' rfl ?_
    have gE := gH1.trans ge
    refine ⟨_, rfl, by show 0 ≤ sizeLine; exact Nat.zero_le _, fun e2 he2 => ?_⟩
    have ge2 := Gr.new (o := .lst []) he2
    refine ⟨q, (h :: t).map vN, (h :: t).map kN, e2, rfl, rfl, SqL.of ((gE.trans ge2).lst hq), tps_nums (h :: t), kNs_depth, SqL.of upd_same, _, rfl, ?_⟩
    refine iteT' rfl ?_
    refine ⟨_, rfl, sn, _, rfl, .inl (SqL.of ((ge.trans ge2).lst h1s)), _, rfl, q, _, rfl, .inl (SqL.of ((gE.trans ge2).lst hq)), rfl, ?_⟩
    have e3 : decide (V.int ((seen.map vN).length : Int) = V.int (((h :: t).map vN).length : Int)) = hangB L (h :: t) := by
      rw [List.length_map, List.length_map, ← hang_bfs (by omega) hL hS hSb BI]
      exact decide_eq_decide.mpr vN_eq
    rw [e3]
    exact hQ _ (gE.trans ge2)
  refine iteT' (by rw [decide_eq_false (by simpa using hr0)]; rfl) ?_
  refine ⟨fun σ' H' => ∃ m', m' < bfsM (h :: t).length seen rows ∧ ∃ seen rows sn wk x5 x6 x7, σ' = [some (vN A), some (vN L), some (.ref q), some (.ref sn), some (.ref wk), x5, x6, x7] ∧ Gr H H' ∧ H' sn = some (.lst (seen.map vN)) ∧ H' wk = some (.lst (rows.map vN)) ∧ BInv (hgNx A L (h :: t)) [h] seen rows ∧ rows.length ≤ seen.length ∧ m' = bfsM (h :: t).length seen rows, fun σ' H' hh => hh, ?_⟩
  refine ⟨by show 0 ≤ sizeLine; exact Nat.zero_le _, fun mo hmo => ?_⟩
  have gmo := Gr.new (o := .lst []) hmo
  have gb := ge.trans gmo
  have lrows : rows.length ≤ 13 := by
    omega
  refine ⟨_, rfl, wk, rfl, ⟨_, SqL.of (gb.lst h1w)⟩, for_list (xs := rows.map vN) (fun i σ' H' => ∃ mo x6 x7, σ' = [some (vN A), some (vN L), some (.ref q), some (.ref sn), some (.ref wk), some (.ref mo), x6, x7] ∧ Gr H1 H' ∧ H' mo = some (.lst (((rows.take i).foldl (lmStep A L (h :: t) seen) []).map vN)))
    ⟨mo, _, _, rfl, gb, upd_same⟩ (fun i σ' H' _ ⟨_, _, _, _, g, _⟩ => SqL.of (g.lst h1w)) ?_ ?_⟩
  · rintro i x σ' H2 hx ⟨mo, x6, x7, rfl, g2, h2⟩
    obtain ⟨c, ec, rfl⟩ : ∃ c, rows[i]? = some c ∧ vN c = x := by
      rw [List.getElem?_map] at hx
      cases e : rows[i]? with
      | none => rw [e] at hx; cases hx
      | some y => rw [e] at hx; exact ⟨y, rfl, Option.some.inj hx⟩
    have hc := hrows c (List.mem_of_getElem? ec)
    have hi := (List.getElem?_eq_some_iff.mp ec).1
    have et := take_succ_foldl (lmStep A L (h :: t) seen) [] rows i c ec
    have hml := lm_len (A := A) (L := L) (S := h :: t) (seen := seen) a4 (rows.take i) []
    rw [List.length_take] at hml
    generalize (rows.take i).foldl (lmStep A L (h :: t) seen) [] = more at h2 et hml
    rw [et]
    have gH2 := gH1.trans g2
    refine ⟨_, rfl, _, rfl, _, rfl, _, rfl, A, L, c, rfl, a3, a4, hL, hc, fun H3 p g3 hp h3p => ?_⟩
    have gH3 := g2.trans g3
    refine ⟨p, rfl, ⟨_, SqL.of h3p⟩, fun D hD => lc_list (xs := (near A L c).map vN) (fun j H' => H' D = some (.lst ((((near A L c).take j).filter fun y => decide (y ∈ h :: t) && (!decide (y ∈ seen) && !decide (y ∈ more))).map vN)) ∧ Gr H3 H') ⟨upd_same, Gr.new hD⟩ (fun j H' _ h => SqL.of (h.2.lst h3p)) ?_ ?_⟩
    · rintro j y H4 hy ⟨h4, g4⟩
      obtain ⟨z, ez, rfl⟩ := vN_get hy
      have hll := List.length_filter_le (fun y => decide (y ∈ h :: t) && (!decide (y ∈ seen) && !decide (y ∈ more))) ((near A L c).take j)
      have hnl := near_len (L := L) (c := c) a4
      rw [List.length_take] at hll
      rw [filter_take_succ _ ez]
      have gH4 := gH3.trans g4
      have keep : ∀ b : Bool, (decide (z ∈ h :: t) && (!decide (z ∈ seen) && !decide (z ∈ more))) = b → b = false → H4 D = some (.lst (((((near A L c).take j).filter fun y => decide (y ∈ h :: t) && (!decide (y ∈ seen) && !decide (y ∈ more))) ++ (if (decide (z ∈ h :: t) && (!decide (z ∈ seen) && !decide (z ∈ more))) = true then [z] else [])).map vN)) ∧ Gr H3 H4 := fun b e1 e2 => by
        rw [e1, e2, if_neg Bool.false_ne_true, List.append_nil]
        exact ⟨h4, g4⟩
      have ein1 : ∀ l : List Nat, (if false = true then !inV (vN z) (l.map vN) else inV (vN z) (l.map vN)) = decide (z ∈ l) := fun l => by rw [if_neg Bool.false_ne_true, inV_vN]
      have ein2 : ∀ l : List Nat, (if true = true then !inV (vN z) (l.map vN) else inV (vN z) (l.map vN)) = !decide (z ∈ l) := fun l => by rw [if_pos rfl, inV_vN]
      refine ⟨rfl, _, rfl, _, rfl, q, _, rfl, .inl (SqL.of ((gH1.trans gH4).lst hq)), rfl, flat_vN _, _, rfl, ?_⟩
      rw [ein1]
      by_cases h1 : z ∈ h :: t
      · refine iteT' (decide_eq_true h1) ⟨_, rfl, _, rfl, sn, _, rfl, .inl (SqL.of (gH4.lst h1s)), rfl, flat_vN _, _, rfl, ?_⟩
        rw [ein2]
        by_cases h2' : z ∈ seen
        · refine iteF' (by rw [decide_eq_true h2']; rfl) (iteF' rfl ?_)
          exact keep _ rfl (by rw [decide_eq_true h2']; simp)
        · refine iteT' (by rw [decide_eq_false h2']; rfl) ⟨_, rfl, _, rfl, mo, _, rfl, .inl (SqL.of ((g3.trans g4).lst h2)), rfl, flat_vN _, _, rfl, ?_⟩
          rw [ein2]
          by_cases h3' : z ∈ more
          · refine iteF' (by rw [decide_eq_true h3']; rfl) ?_
            exact keep _ rfl (by rw [decide_eq_true h3']; simp)
          · refine iteT' (by rw [decide_eq_false h3']; rfl) ⟨_, rfl, _, h4, by rw [List.length_map, sizeLine_eq]; omega, ?_, Gr.put g4 hD⟩
            rw [upd_same, if_pos (by rw [decide_eq_true h1, decide_eq_false h2', decide_eq_false h3']; rfl), List.map_append]
            rfl
      · refine iteF' (decide_eq_false h1) (iteF' rfl ?_)
        exact keep _ rfl (by rw [decide_eq_false h1]; simp)
    · rintro H4 ⟨h4, g4⟩
      rw [List.length_map, List.take_length] at h4
      have hnl := near_len (L := L) (c := c) a4
      have hll := List.length_filter_le (fun y => decide (y ∈ h :: t) && (!decide (y ∈ seen) && !decide (y ∈ more))) (near A L c)
      refine ⟨mo, D, _, _, rfl, rfl, (g3.trans g4).lst h2, h4, by rw [List.length_map, List.length_map, sizeLine_eq]; simp at hml; omega, fun p2 hp2 => ?_⟩
      refine ⟨p2, _, _, rfl, (gH3.trans g4).trans (Gr.new hp2), ?_⟩
      rw [upd_same]
      unfold lmStep
      rw [List.map_append]
  · rintro σ' H2 ⟨mo, x6, x7, rfl, g2, h2⟩
    rw [List.length_map, List.take_length] at h2
    have ef := lm_fold (A := A) (L := L) (S := h :: t) (seen := seen) rows [] fun c hc => hnd c (hrows c hc)
    obtain ⟨ext, e1', BI2⟩ := bfs_turn BI
    unfold bfsTurn at e1'
    rw [List.append_nil] at ef
    have e4 := ef.symm.trans e1'
    have e5 : rows.foldl (lmStep A L (h :: t) seen) [] = ext := congrArg Prod.snd e4
    rw [e5] at h2
    have hle : (seen ++ ext).length ≤ (h :: t).length := nodup_le BI2.nd fun x hx => sub x (BI2.rch x hx)
    have gH2 := gH1.trans g2
    refine ⟨_, rfl, _, rfl, sn, mo, _, _, rfl, rfl, g2.lst h1s, h2, by rw [List.length_map, List.length_map, sizeLine_eq]; rw [List.length_append] at hle; omega, fun s2 hs2 => ?_⟩
    have gs := Gr.new (o := .lst (seen.map vN ++ ext.map vN)) hs2
    refine ⟨_, rfl, by show 2 ≤ sizeLine; rw [sizeLine_eq]; omega, fun tp htp => ?_⟩
    have gt := Gr.new (o := .tup [V.ref s2, V.ref mo]) htp
    refine ⟨tp, _, rfl, .inl (.inl upd_same), rfl, _, _, rfl, _, _, rfl, rfl, ?_⟩
    refine ⟨_, bfsM_lt hr0 hle, seen ++ ext, ext, s2, mo, _, _, _, rfl, (gH2.trans gs).trans gt, by rw [gt.lst upd_same, List.map_append], (gs.trans gt).lst h2, BI2, by rw [List.length_append]; omega, rfl⟩
end
end SL
end

section
set_option Elab.async false
set_option linter.all false
set_option maxRecDepth 100000
set_option maxHeartbeats 4000000
/-! walks of the law: _law_takings, _law_behind -/
namespace SL
open PySem PySem.Spec PyProof.Rows L2
theorem filter_ne_nil {ns : List Nat} {p : Nat → Bool} : (ns.filter p = []) ↔ ns.any p = false := by
  rw [List.filter_eq_nil_iff, List.any_eq_false]
theorem filter_two (n c o : Nat) (cs : List Nat) : ((List.range n).filter fun x => at0 cs x == o && x != c) = ((List.range n).filter fun i => at0 cs i == o).filter fun x => x != c := by
  rw [List.filter_filter]
  refine List.filter_congr fun x _ => ?_
  rw [Bool.and_comm]
theorem madeB_eq (m : Ch) (l c : Nat) : madeB m l c = ((at0 m.2 c != l && (near m.1 (lenOf m) c).any fun x => at0 m.2 x == l) && hangB (lenOf m) ((held m.2 (at0 m.2 c)).filter fun x => x != c)) := rfl
section
variable {w : World} {K : PySem.W.Frag} {mg : Str → Option Value} {base : Heap}
def spTks2 (K : PySem.W.Frag) : Sp := fun vs H Q _ => ∃ v m A L, vs = [v] ∧ Tp K H v (kCh m) ∧ Shp A L m ∧ NewLK K H Q ((takings m).map kTk)
abbrev nTk : List Str := ["_law_chart", "_law_arms", "_law_cells", "_law_length", "_law_found", "_law_land", "_law_cell", "_law_other", "_law_rest", "_law_one"]
theorem sc__law_takings : FnScope nTk ["_law_chart"] (defScope s__law_takings) := ⟨rfl, rfl, rfl, by decide +kernel, rfl, by decide +kernel, by decide +kernel⟩
theorem kp__law_takings (T : Tx K mg base) (Fn : Kp w K mg base "_law_near" 1 ["_law_arms", "_law_length", "_law_cell"] spNear2) (Fh : Kp w K mg base "_law_hangs" 2 ["_law_arms", "_law_length", "_law_some"] (spHangs2 K)) : Kp w K mg base "_law_takings" 3 ["_law_chart"] (spTks2 K) := by
  refine kp_of (d := d__law_takings) (k := 2) T (by simp [fn]) (by decide +kernel) rfl rfl rfl rfl rfl sc__law_takings (fun vs H Q E ⟨_, _, _, _, e, _⟩ => by rw [e]; rfl) (fun _ _ _ _ _ _ us hl => match us, hl with | [_], _ => rfl) fun Ar outer s H vs Q E hr hsp => ?_
  obtain ⟨v, m, A, L, rfl, hv, hm, hQ⟩ := hsp
  have hv' := hv
  obtain ⟨c, b, rfl, hcs, hbs⟩ := ch_at hv
  have hsize := hm.size
  have hl := hm.lands_le
  have a3 := hm.a3
  have a4 := hm.a4
  have harm := hm.arms
  have hlen := hm.lenOf
  have hL := hm.len
  have hL3 : 1 ≤ L ∧ L ≤ 3 := by rcases hm.len with e | e | e <;> omega
  have hAL12 : A * L ≤ 12 := by rcases hm.len with rfl | rfl | rfl <;> omega
  have hne : m.2 ≠ [] := fun e => by rw [e] at hsize; simp at hsize
  refine ⟨_, pss_cons (ps_asg (pv 0) (pg_tup (by rfl) (pgs_cons (pg_name (i := 1) sc__law_takings.nd rfl (.inl rfl)) (pgs_cons (pg_name (i := 2) sc__law_takings.nd rfl (.inr rfl)) pgs_nil))))
    (pss_cons (ps_par (i := 3) (j := 4) rfl sc__law_takings.nd rfl rfl (by decide) rfl rfl (pa_cons (pe_op op_fdiv (pe_op op_sub (pe_callB call_len_seq (by rfl) (T.free "len") PySem.boot_len (pa1 (pv 2))) pe_int) (pv 1)) (pa1 (pe_lst pa_nil))) rfl)
    (pss_cons (ps_for PassesOwn.never rfl (pi_range1 (by rfl) (T.free "range") (pa1 (pe_op op_add (pe_callB (cr_maxNs rfl (units16 hr)) (by rfl) (T.free "max") (by decide +kernel) (pa1 (pv 2))) pe_int))) (pg_name (i := 5) sc__law_takings.nd rfl (.inr rfl))
      (pss_one (ps_for PassesOwn.never rfl (pi_range1 (by rfl) (T.free "range") (pa1 (pe_callB call_len_seq (by rfl) (T.free "len") PySem.boot_len (pa1 (pv 2))))) (pg_name (i := 6) sc__law_takings.nd rfl (.inr rfl))
        (pss_cons (ps_set (i := 7) sc__law_takings.nd rfl (.inr rfl) (pe_ix ix_tup (pv 2) (pv 6) (fun _ _ => rfl)))
        (pss_one (ps_if (PW.pt (pw_and (pt_cmpR op_ne (pv 7) (pv 5) (nomark _)) (pw_and1 (pt_cmpR (op_neNil (units64 hr)) (pe_lc (own := [("_law_one", 9)]) (g := gName 9) rfl sc__law_takings.nd (pi_list (pe_k Fn rfl (hr.mono (by decide)) (pa_cons (pv 1) (pa_cons (pv 3) (pa1 (pv 6))))))
            (blkOk_by (N := nTk) (sc := defScope s__law_takings) (by decide +kernel)) (fun _ _ _ _ _ => pg_name (i := 9) sc__law_takings.nd rfl (Or.inl rfl))
            (fun _ _ _ _ _ => pts_one (pt_cmpR op_eq (pe_ix (r := rIxT K) ix_tup (pv 2) (pv 9) (fun _ _ => rfl)) (pv 5) (nomark _))) (fun _ _ _ _ _ => pv 9)) (pe_lst pa_nil) (nomark _)))))
          (pss_cons (ps_setLc (i := 8) (own := [("_law_one", 9)]) (g := gName 9) rfl sc__law_takings.nd rfl rfl (sw_true rfl rfl rfl (by decide +kernel)) (pi_range1 (by rfl) (T.free "range") (pa1 (pe_callB call_len_seq (by rfl) (T.free "len") PySem.boot_len (pa1 (pv 2)))))
            (blkOk_by (N := nTk) (sc := defScope s__law_takings) (by decide +kernel)) (fun _ _ _ _ _ => pg_name (i := 9) sc__law_takings.nd rfl (Or.inl rfl))
            (fun _ _ _ _ _ => pts_one (PW.pt (pw_and (pt_cmpR op_eq (pe_ix (r := rIxT K) ix_tup (pv 2) (pv 9) (fun _ _ => rfl)) (pv 7) (nomark _)) (pw_and1 (pt_cmpR op_ne (pv 9) (pv 6) (nomark _)))))) (fun _ _ _ _ _ => pv 9))
          (pss_one (ps_if (PW.pt (pw_and (pt_cmpR (op_neNil (units64 hr)) (pv 8) (pe_lst pa_nil) (nomark _)) (pw_and1 (pt_val (pe_k Fh rfl hr (pa_cons (pv 1) (pa_cons (pv 3) (pa1 (pv 8)))))))))
            (pss_one (ps_expr (pe_bm PySem.F.plainAttrs_list PySem.F.slot_list_append PySem.F.type_list_append mt_append (pv 4) (pa1 (pe_tup (pa_cons (pv 5) (pa1 (pv 6)))))))) pss_nil)))
          pss_nil))))))
    (pss_one (ps_ret (pv 4))))), ?_⟩
  refine ⟨_, rfl, c, _, rfl, hcs, rfl, _, _, rfl, _, _, rfl, rfl, ?_⟩
  have eL : (((m.2.map vN).length : Int) - 1) / (m.1 : Int) = (L : Int) := by
    rw [List.length_map, hsize, harm]
    have : ((A * L + 1 : Nat) : Int) - 1 = (A : Int) * (L : Int) := by push_cast; omega
    rw [this]
    exact Int.mul_ediv_cancel_left _ (by omega)
  refine ⟨_, rfl, b, _, rfl, .inr hbs, _, _, rfl, rfl, _, rfl, _, _, rfl, rfl, ⟨by omega, by omega⟩, by show 0 ≤ sizeLine; exact Nat.zero_le _, fun f hf => ?_⟩
  dsimp only
  rw [eL]
  have gf := Gr.new (o := .lst []) hf
  refine ⟨_, _, rfl, ?_⟩
  refine ⟨_, rfl, b, m.2, rfl, .inr (gf.sqT hbs), hne, _, _, rfl, rfl, landsOf m, rfl, by omega, by omega, for_range (lo := 0) (n := landsOf m) (fun i σ' H' => ∃ x5 x6 x7 x8, σ' = [some (.ref c), some (vN m.1), some (.ref b), some (vN L), some (.ref f), x5, x6, x7, x8, none] ∧ LcK K f H ((tkUpto m i).map kTk) H')
    ⟨_, _, _, _, rfl, LcK.start hf⟩ ?_ ?_⟩
  · rintro i σ' H1 hi ⟨x5, x6, x7, x8, rfl, h1⟩
    have e0 : V.int (0 + (i : Int)) = vN i := by simp
    rw [e0]
    have g1 := h1.gr
    refine ⟨_, rfl, b, _, rfl, .inr (g1.sqT hbs), m.2.length, by rw [List.length_map], by omega, by omega, for_range (lo := 0) (n := m.2.length) (fun j σ' H' => ∃ x6 x7 x8, σ' = [some (.ref c), some (vN m.1), some (.ref b), some (vN L), some (.ref f), some (vN i), x6, x7, x8, none] ∧ LcK K f H ((tkUpto m i ++ tkRow m i j).map kTk) H')
      ⟨_, _, _, rfl, by simpa [tkRow] using h1⟩ ?_ ?_⟩
    · rintro j σ' H2 hj ⟨x6, x7, x8, rfl, h2⟩
      have ej : V.int (0 + (j : Int)) = vN j := by simp
      rw [ej]
      have g2 := h2.gr
      refine ⟨_, rfl, _, rfl, b, _, _, _, rfl, rfl, g2.sqT hbs, atI_nat (vN_at hj), ?_⟩
      rw [tkRow_succ]
      have hlenf : ((tkUpto m i ++ tkRow m i j).map kTk).length < sizeLine := by
        have l3 := tkUpto_len m i
        have l4 := tkRow_len m i j
        have l5 : i * m.2.length ≤ 4 * 13 := Nat.mul_le_mul (by omega) (by omega)
        rw [List.length_map, List.length_append, sizeLine_eq]
        omega
      have skip : madeB m i j = false → ∀ H3, Gr H2 H3 → LcK K f H ((tkUpto m i ++ (tkRow m i j ++ (if madeB m i j = true then [(i, j)] else []))).map kTk) H3 := fun e H3 g => by
        rw [e, if_neg Bool.false_ne_true, List.append_nil]
        exact h2.step g
      refine ⟨_, rfl, _, rfl, rfl, _, rfl, ?_⟩
      by_cases h1' : at0 m.2 j = i
      · refine iteF' (by show (!decide (vN (at0 m.2 j) = vN i)) = false; rw [decide_eq_true (vN_eq.mpr h1')]; rfl) (iteF' rfl ?_)
        exact ⟨_, _, _, rfl, skip (by rw [madeB_eq]; simp [h1']) H2 (Gr.refl _)⟩
      refine iteT' (by show (!decide (vN (at0 m.2 j) = vN i)) = true; rw [decide_eq_false (fun e => h1' (vN_eq.mp e))]; rfl) ?_
      have e1' : (at0 m.2 j != i) = true := by simpa using h1'
      refine ⟨_, rfl, _, rfl, _, rfl, m.1, L, j, rfl, by omega, by omega, hL, by rw [harm]; omega, fun H3 p g3 hp h3p => ?_⟩
      have gg3 := g2.trans g3
      refine ⟨p, rfl, ⟨_, SqL.of h3p⟩, fun D hD => lc_list (xs := (near m.1 L j).map vN) (fun k H' => H' D = some (.lst ((((near m.1 L j).take k).filter fun y => at0 m.2 y == i).map vN)) ∧ Gr H3 H') ⟨upd_same, Gr.new hD⟩ (fun j H' _ h => SqL.of (h.2.lst h3p)) ?_ ?_⟩
      · rintro k y H4 hy ⟨h4, g4⟩
        obtain ⟨z, ez, rfl⟩ := vN_get hy
        have hll := List.length_filter_le (fun y => at0 m.2 y == i) ((near m.1 L j).take k)
        have hnl := near_len (A := m.1) (L := L) (c := j) (by omega)
        rw [List.length_take] at hll
        rw [filter_take_succ _ ez]
        have hz : z < m.2.length := by
          have := near_le (A := m.1) (L := L) hL (by rw [harm]; omega) (List.mem_of_getElem? ez)
          rw [harm] at this
          omega
        refine ⟨rfl, _, rfl, _, rfl, b, _, _, _, rfl, rfl, (gg3.trans g4).sqT hbs, atI_nat (vN_at hz), _, rfl, rfl, _, rfl, ?_⟩
        by_cases hz2 : at0 m.2 z = i
        · refine iteT' (decide_eq_true (vN_eq.mpr hz2)) ⟨_, rfl, _, h4, by rw [List.length_map, sizeLine_eq]; omega, ?_, Gr.put g4 hD⟩
          rw [upd_same, if_pos (by simpa using hz2), List.map_append]
          rfl
        · refine iteF' (decide_eq_false (fun e => hz2 (vN_eq.mp e))) ⟨?_, g4⟩
          rw [if_neg (by simpa using hz2), List.append_nil]
          exact h4
      · rintro H4 ⟨h4, g4⟩
        rw [List.length_map, List.take_length] at h4
        have g34 := g3.trans g4
        refine ⟨by show 0 ≤ sizeLine; exact Nat.zero_le _, fun e he => ?_⟩
        have ge := Gr.new (o := .lst []) he
        refine ⟨D, _, _, e, rfl, rfl, SqL.of (ge.lst h4), tps_nums _, kNs_depth, SqL.of upd_same, _, rfl, ?_⟩
        by_cases hn0 : (near m.1 L j).any (fun y => at0 m.2 y == i) = false
        · refine iteF' (by rw [decide_eq_true (by rw [filter_ne_nil.mpr hn0]; rfl)]; rfl) ?_
          exact ⟨_, _, _, rfl, skip (by rw [madeB_eq, hlen, hn0]; simp) _ (g34.trans ge)⟩
        refine iteT' (by rw [decide_eq_false (fun z => hn0 (filter_ne_nil.mp (List.map_eq_nil_iff.mp z)))]; rfl) ?_
        have hn1 : (near m.1 L j).any (fun y => at0 m.2 y == i) = true := by simpa using hn0
        have g2e := g34.trans ge
        have gHe := g2.trans g2e
        refine ⟨_, rfl, b, _, rfl, .inr (gHe.sqT hbs), m.2.length, by rw [List.length_map], by omega, by omega, fun D2 hD2 => lc_range (lo := 0) (n := m.2.length) (fun k H' => H' D2 = some (.lst (((List.range k).filter fun x => at0 m.2 x == at0 m.2 j && x != j).map vN)) ∧ Gr (upd H4 e (.lst [])) H') ⟨upd_same, Gr.new hD2⟩ ?_ ?_⟩
        · rintro k H5 hk ⟨h5, g5⟩
          have ek : V.int (0 + (k : Int)) = vN k := by simp
          rw [ek]
          have hll := List.length_filter_le (fun x => at0 m.2 x == at0 m.2 j && x != j) (List.range k)
          rw [List.length_range] at hll
          have eR : (List.range (k + 1)).filter (fun x => at0 m.2 x == at0 m.2 j && x != j) = (List.range k).filter (fun x => at0 m.2 x == at0 m.2 j && x != j) ++ (if (at0 m.2 k == at0 m.2 j && k != j) = true then [k] else []) := by
            rw [List.range_succ, List.filter_append, List.filter_cons]
            rfl
          rw [eR]
          refine ⟨rfl, _, rfl, _, rfl, b, _, _, _, rfl, rfl, (gHe.trans g5).sqT hbs, atI_nat (vN_at hk), _, rfl, rfl, _, rfl, ?_⟩
          by_cases hk1 : at0 m.2 k = at0 m.2 j
          · refine iteT' (decide_eq_true (vN_eq.mpr hk1)) ⟨_, rfl, _, rfl, rfl, _, rfl, ?_⟩
            by_cases hk2 : k = j
            · refine iteF' (by show (!decide (vN k = vN j)) = false; rw [decide_eq_true (vN_eq.mpr hk2)]; rfl) ⟨?_, g5⟩
              rw [if_neg (by simp [hk2]), List.append_nil]
              exact h5
            · refine iteT' (by show (!decide (vN k = vN j)) = true; rw [decide_eq_false (fun e => hk2 (vN_eq.mp e))]; rfl) ⟨_, rfl, _, h5, by rw [List.length_map, sizeLine_eq]; omega, ?_, Gr.put g5 hD2⟩
              rw [upd_same, if_pos (by simp [hk1, hk2]), List.map_append]
              rfl
          · refine iteF' (decide_eq_false (fun e => hk1 (vN_eq.mp e))) (iteF' rfl ⟨?_, g5⟩)
            rw [if_neg (by simp [hk1]), List.append_nil]
            exact h5
        · rintro H5 ⟨h5, g5⟩
          have erest : (List.range m.2.length).filter (fun x => at0 m.2 x == at0 m.2 j && x != j) = (held m.2 (at0 m.2 j)).filter fun x => x != j := filter_two _ _ _ _
          rw [erest] at h5
          have g25 := g2e.trans g5
          refine ⟨_, rfl, by show 0 ≤ sizeLine; exact Nat.zero_le _, fun e2 he2 => ?_⟩
          have ge2 := Gr.new (o := .lst []) he2
          have g26 := g25.trans ge2
          refine ⟨D2, _, _, e2, rfl, rfl, SqL.of (ge2.lst h5), tps_nums _, kNs_depth, SqL.of upd_same, _, rfl, ?_⟩
          by_cases hr0 : (held m.2 (at0 m.2 j)).filter (fun x => x != j) = []
          · refine iteF' (by rw [decide_eq_true (by rw [hr0]; rfl)]; rfl) (iteF' rfl ?_)
            exact ⟨_, _, _, rfl, skip (by rw [madeB_eq, hr0]; simp [hangB]) _ g26⟩
          refine iteT' (by rw [decide_eq_false (fun z => hr0 (List.map_eq_nil_iff.mp z))]; rfl) ?_
          refine ⟨_, rfl, _, rfl, _, rfl, D2, m.1, L, _, rfl, by omega, by omega, hL, ge2.lst h5, hr0, List.Pairwise.filter _ (held_lt _ _), fun x hx => ?_, fun H6 g6 => ⟨_, rfl, ?_⟩⟩
          · rw [harm]
            exact held_le hsize x (List.mem_filter.mp hx).1
          have em : madeB m i j = hangB L ((held m.2 (at0 m.2 j)).filter fun x => x != j) := by
            rw [madeB_eq, hlen, e1', hn1]
            rfl
          have g27 := g26.trans g6
          cases hh : hangB L ((held m.2 (at0 m.2 j)).filter fun x => x != j) with
          | false =>
            refine iteF' rfl ?_
            exact ⟨_, _, _, rfl, skip (em.trans hh) _ g27⟩
          | true =>
            refine iteT' rfl ?_
            have h7 := h2.step g27
            obtain ⟨xs, ex, tx, gx⟩ := h7
            have lx := tx.length
            refine ⟨_, rfl, .inl ⟨rfl, _, SqL.of ex⟩, _, rfl, _, rfl, by show 2 ≤ sizeLine; rw [sizeLine_eq]; omega, fun t ht => ?_⟩
            have gt := Gr.new (o := .tup [vN i, vN j]) ht
            obtain ⟨zs, ez, el, h8⟩ := (LcK.put ⟨xs, ex, tx, gx⟩ gt (y := .ref t) (tk_mk (t := (i, j)) (.inl (.inl upd_same))) hf)
            refine ⟨f, _, _, rfl, rfl, ez, by rw [el]; exact hlenf, ?_⟩
            rw [em, hh, if_pos rfl, ← List.append_assoc, List.map_append]
            exact ⟨_, _, _, rfl, h8⟩
    · rintro σ' H2 ⟨x6, x7, x8, rfl, h2⟩
      rw [tkUpto_succ]
      exact ⟨_, _, _, _, rfl, h2⟩
  · rintro σ' H1 ⟨x5, x6, x7, x8, rfl, h1⟩
    refine ⟨_, rfl, ?_⟩
    rw [takings_eq] at hQ
    exact hQ.of hf h1
end
end SL
end

section
set_option Elab.async false
set_option linter.all false
set_option maxRecDepth 100000
set_option maxHeartbeats 4000000
/-! walks of the law: _law_behind, _law_order -/
namespace SL
open PySem PySem.Spec PyProof.Rows L2
section
variable {w : World} {K : PySem.W.Frag} {mg : Str → Option Value} {base : Heap}
theorem sc__law_behind : FnScope ["_law_chart", "_law_taking", "_law_land", "_law_cell"] ["_law_chart", "_law_taking"] (defScope s__law_behind) := ⟨rfl, rfl, rfl, by decide +kernel, rfl, by decide +kernel, by decide +kernel⟩
theorem kp__law_behind (T : Tx K mg base) : Kp w K mg base "_law_behind" 1 ["_law_chart", "_law_taking"] (spTaken K) := by
  refine kp_of (d := d__law_behind) (k := 0) T (by simp [fn]) (by decide +kernel) rfl rfl rfl rfl rfl sc__law_behind (fun vs H Q E ⟨_, _, _, _, _, e, _⟩ => by rw [e]; rfl) (fun _ _ _ _ _ _ us hl => match us, hl with | [_, _], _ => rfl) fun Ar outer s H vs Q E hr hsp => ?_
  obtain ⟨v, t, m, l, cl, rfl, hv, ht, hc, hlen, hQ⟩ := hsp
  obtain ⟨c, b, rfl, hcs, hbs⟩ := ch_at hv
  obtain ⟨ta, rfl, hta⟩ := tk_at ht
  refine ⟨_, pss_cons (ps_asg (pv 1) (pg_tup (by rfl) (pgs_cons (pg_name (i := 2) sc__law_behind.nd rfl (.inl rfl)) (pgs_cons (pg_name (i := 3) sc__law_behind.nd rfl (.inl rfl)) pgs_nil))))
    (pss_one (ps_ret (pe_tup (pa_cons (pe_ix ix_tup (pv 0) pe_int (fun _ _ => rfl)) (pa1 (pe_op op_catA (pe_op op_catA (pe_slice sl_tupA (pe_ix ix_tup (pv 0) pe_int (fun _ _ => rfl)) po_none (po_some (pv 3))) (pe_tup (pa1 (pv 2))))
      (pe_slice sl_tupA (pe_ix ix_tup (pv 0) pe_int (fun _ _ => rfl)) (po_some (pe_op op_add (pv 3) pe_int)) po_none))))))), ?_⟩
  have e1 : atI ([vN m.1, V.ref b] : List V) 1 = some (V.ref b) := atI_nat (j := 1) rfl
  have elen : (m.2.map vN).length = m.2.length := List.length_map ..
  have c1 := cut_none_some _ _ hc
  have c2 := cut_some_none m.2 cl hc
  have ltk : (m.2.take cl).length ≤ 100 := by rw [List.length_take]; omega
  have ldr : (m.2.drop (cl + 1)).length ≤ 100 := by rw [List.length_drop]; omega
  refine ⟨_, rfl, ta, _, rfl, hta, rfl, _, _, rfl, _, _, rfl, rfl, ?_⟩
  refine ⟨_, rfl, c, _, _, _, rfl, rfl, hcs, atI_nat (j := 0) rfl, ?_⟩
  -- the last step, from the cells' tuple
  have last : ∀ (H' : Hp) (a : Addr), Gr H H' → SqT K H' a ((taken m (l, cl)).2.map vN) → ∀ u, H' u = none → Q (.ref u) (upd H' u (.tup [vN m.1, V.ref a])) := fun H' a g ha u hu => by
    have gu := Gr.new (o := .tup [vN m.1, V.ref a]) hu
    exact hQ _ _ (g.trans gu) (ch_mk (b := a) (.inl (.inl upd_same)) (gu.sqT ha))
  refine ⟨_, rfl, c, _, _, _, rfl, rfl, hcs, e1, _, rfl, _, rfl, b, _, rfl, hbs, fun hw => ?_, fun _ p hp => ?_⟩
  · exfalso
    have h2 := hw.2
    rw [HT.sIx_nat, elen] at h2
    omega
  rw [c1]
  have gp := Gr.new (o := .tup ((m.2.take cl).map vN)) hp
  refine ⟨_, rfl, by show 1 ≤ sizeLine; rw [sizeLine_eq]; omega, fun u hu => ?_⟩
  have gu := Gr.new (o := .tup [vN l]) hu
  have gpu := gp.trans gu
  -- the second slice, from where the first two stand
  have second : ∀ (H' : Hp) (a : Addr), Gr H H' → SqT K H' a ((m.2.take cl).map vN ++ [vN l]) → ∀ (R : V → Hp → Prop), (∀ H'' d, Gr H H'' → SqT K H'' d ((taken m (l, cl)).2.map vN) → R (.ref d) H'') → True := fun _ _ _ _ _ _ => trivial
  clear second
  by_cases h0 : cl = 0
  · subst h0
    refine ⟨p, u, _, _, rfl, rfl, gu.sqT (.inl (.inl upd_same)), .inl (.inl upd_same), by rw [List.length_map, List.length_singleton, sizeLine_eq]; omega, fun _ => ?_, fun h => absurd rfl h, fun h => absurd rfl h⟩
    refine ⟨_, rfl, c, _, _, _, rfl, rfl, gpu.sqT hcs, e1, _, rfl, _, _, rfl, rfl, _, rfl, b, _, rfl, gpu.sqT hbs, fun hw => ?_, fun _ q hq => ?_⟩
    · exfalso
      have h2 := hw.1
      have e : ((0 : Nat) : Int) + 1 = ((0 + 1 : Nat) : Int) := rfl
      rw [e, HT.sIx_nat, elen] at h2
      omega
    rw [c2]
    have gq := Gr.new (o := .tup ((m.2.drop (0 + 1)).map vN)) hq
    have g := gpu.trans gq
    refine ⟨u, q, _, _, rfl, rfl, gq.sqT (.inl (.inl upd_same)), .inl (.inl upd_same), by rw [List.length_map, List.length_singleton, sizeLine_eq]; omega, fun h => (by cases h), fun _ h => ?_, fun _ h d hd => ?_⟩
    · refine ⟨by show 2 ≤ sizeLine; rw [sizeLine_eq]; omega, last _ _ g ?_⟩
      have e : (taken m (l, 0)).2.map vN = [vN l] := by
        have : m.2.drop (0 + 1) = [] := List.map_eq_nil_iff.mp h
        simp only [taken, this, List.take_zero, List.nil_append]
        rfl
      rw [e]
      exact gq.sqT (.inl (.inl upd_same))
    · have gd := Gr.new (o := .tup ([vN l] ++ (m.2.drop (0 + 1)).map vN)) hd
      refine ⟨by show 2 ≤ sizeLine; rw [sizeLine_eq]; omega, last _ _ (g.trans gd) ?_⟩
      have e : (taken m (l, 0)).2.map vN = [vN l] ++ (m.2.drop (0 + 1)).map vN := by simp [taken]
      rw [e]
      exact .inl (.inl upd_same)
  · have hne : (m.2.take cl).map vN ≠ [] := fun h => by
      have h := congrArg List.length h
      rw [List.length_map, List.length_take, List.length_nil] at h
      omega
    refine ⟨p, u, _, _, rfl, rfl, gu.sqT (.inl (.inl upd_same)), .inl (.inl upd_same), by rw [List.length_map, List.length_singleton, sizeLine_eq]; omega, fun h => absurd h hne, fun _ h => (by cases h), fun _ _ x hx => ?_⟩
    have gx := Gr.new (o := .tup ((m.2.take cl).map vN ++ [vN l])) hx
    have gpx := gpu.trans gx
    refine ⟨_, rfl, c, _, _, _, rfl, rfl, gpx.sqT hcs, e1, _, rfl, _, _, rfl, rfl, _, rfl, b, _, rfl, gpx.sqT hbs, fun hw => ?_, fun _ q hq => ?_⟩
    · exfalso
      have h2 := hw.1
      have e : (cl : Int) + 1 = ((cl + 1 : Nat) : Int) := by push_cast; rfl
      rw [e, HT.sIx_nat, elen] at h2
      omega
    rw [c2]
    have gq := Gr.new (o := .tup ((m.2.drop (cl + 1)).map vN)) hq
    have g := gpx.trans gq
    have hne2 : (m.2.take cl).map vN ++ [vN l] ≠ [] := by simp
    refine ⟨x, q, _, _, rfl, rfl, gq.sqT (.inl (.inl upd_same)), .inl (.inl upd_same), by rw [List.length_append, List.length_map, List.length_map, List.length_singleton, sizeLine_eq]; omega, fun h => absurd h hne2, fun _ h => ?_, fun _ h d hd => ?_⟩
    · refine ⟨by show 2 ≤ sizeLine; rw [sizeLine_eq]; omega, last _ _ g ?_⟩
      have e : (taken m (l, cl)).2.map vN = (m.2.take cl).map vN ++ [vN l] := by
        have : m.2.drop (cl + 1) = [] := List.map_eq_nil_iff.mp h
        simp [taken, this]
      rw [e]
      exact gq.sqT (.inl (.inl upd_same))
    · have gd := Gr.new (o := .tup (((m.2.take cl).map vN ++ [vN l]) ++ (m.2.drop (cl + 1)).map vN)) hd
      refine ⟨by show 2 ≤ sizeLine; rw [sizeLine_eq]; omega, last _ _ (g.trans gd) ?_⟩
      have e : (taken m (l, cl)).2.map vN = ((m.2.take cl).map vN ++ [vN l]) ++ (m.2.drop (cl + 1)).map vN := by simp [taken]
      rw [e]
      exact .inl (.inl upd_same)
theorem sc__law_order : FnScope ["_law_chart", "_law_arms", "_law_cells", "_law_length", "_law_lines", "_law_arm", "_law_line", "_law_land"] ["_law_chart"] (defScope s__law_order) := ⟨rfl, rfl, rfl, by decide +kernel, rfl, by decide +kernel, by decide +kernel⟩
theorem kp__law_order (T : Tx K mg base) : Kp w K mg base "_law_order" 1 ["_law_chart"] (spArd K) := by
  refine kp_of (d := d__law_order) (k := 0) T (by simp [fn]) (by decide +kernel) rfl rfl rfl rfl rfl sc__law_order (fun vs H Q E ⟨_, _, _, _, e, _⟩ => by rw [e]; rfl) (fun _ _ _ _ _ _ us hl => match us, hl with | [_], _ => rfl) fun Ar outer s H vs Q E hr hsp => ?_
  obtain ⟨v, m, A, L, rfl, hv, hm, hQ⟩ := hsp
  have hv' := hv
  obtain ⟨c, b, rfl, hcs, hbs⟩ := ch_at hv
  have hsize := hm.size
  have a4 := hm.a4
  have a3 := hm.a3
  have harm := hm.arms
  have hL3 : 1 ≤ L ∧ L ≤ 3 := by rcases hm.len with e | e | e <;> omega
  have hsz : 0 < m.2.length := by omega
  refine ⟨_, pss_cons (ps_asg (pv 0) (pg_tup (by rfl) (pgs_cons (pg_name (i := 1) sc__law_order.nd rfl (.inl rfl)) (pgs_cons (pg_name (i := 2) sc__law_order.nd rfl (.inl rfl)) pgs_nil))))
    (pss_cons (ps_par (i := 3) (j := 4) rfl sc__law_order.nd rfl rfl (by decide) rfl rfl (pa_cons (pe_op op_fdiv (pe_op op_sub (pe_callB call_len_seq (by rfl) (T.free "len") PySem.boot_len (pa1 (pv 2))) pe_int) (pv 1)) (pa1 (pe_lst pa_nil))) rfl)
    (pss_cons (ps_for PassesOwn.never rfl (pi_range1 (by rfl) (T.free "range") (pa1 (pv 1))) (pg_name (i := 5) sc__law_order.nd rfl (.inl rfl))
      (pss_cons (ps_set (i := 6) sc__law_order.nd rfl (.inl rfl) (pe_tup pa_nil))
      (pss_cons (ps_for PassesOwn.never rfl (pi_tup (pe_slice sl_tupA (pv 2) (po_some (pe_op op_add pe_int (pe_op op_mul (pv 5) (pv 3)))) (po_some (pe_op op_add (pe_op op_add pe_int (pe_op op_mul (pv 5) (pv 3))) (pv 3))))) (pg_name (i := 7) sc__law_order.nd rfl (.inl rfl))
        (pss_one (ps_set (i := 6) sc__law_order.nd rfl (.inl rfl) (pe_ifExp (PW.pt (pw_or (pt_cmpR op_eq (pv 7) (pe_ix ix_tup (pv 2) pe_int (fun _ _ => rfl)) (nomark _)) (pw_or1 (pt_cmpR op_in_seq (pv 7) (pv 6) rfl)))) (pv 6) (pe_op op_catA (pv 6) (pe_tup (pa1 (pv 7))))))))
      (pss_one (ps_expr (pe_bm PySem.F.plainAttrs_list PySem.F.slot_list_append PySem.F.type_list_append mt_append (pv 4) (pa1 (pv 6)))))))) 
    (pss_one (ps_ret (pe_tup (pa_cons (pe_ix ix_tup (pv 2) pe_int (fun _ _ => rfl)) (pa1 (pe_tupleOf (by rfl) (T.free "tuple") (pv 4))))))))), ?_⟩
  refine ⟨_, rfl, c, _, rfl, hcs, rfl, _, _, rfl, _, _, rfl, rfl, ?_⟩
  have eL : (((m.2.map vN).length : Int) - 1) / (m.1 : Int) = (L : Int) := by
    rw [List.length_map, hsize, harm]
    have : ((A * L + 1 : Nat) : Int) - 1 = (A : Int) * (L : Int) := by push_cast; omega
    rw [this]
    exact Int.mul_ediv_cancel_left _ (by omega)
  refine ⟨_, rfl, b, _, rfl, .inr hbs, _, _, rfl, rfl, _, rfl, _, _, rfl, rfl, ⟨by omega, by omega⟩, by show 0 ≤ sizeLine; exact Nat.zero_le _, fun f hf => ?_⟩
  dsimp only
  rw [eL]
  have gf := Gr.new (o := .lst []) hf
  refine ⟨_, _, rfl, ?_⟩
  refine ⟨_, rfl, m.1, rfl, by omega, by omega, for_range (lo := 0) (n := m.1) (fun i σ' H' => ∃ x5 x6 x7, σ' = [some (.ref c), some (vN m.1), some (.ref b), some (vN L), some (.ref f), x5, x6, x7] ∧ LcK K f H (((List.range i).map (orderOn m)).map kNs) H')
    ⟨_, _, _, rfl, LcK.start hf⟩ ?_ ?_⟩
  · rintro i σ' H1 hi ⟨x5, x6, x7, rfl, h1⟩
    have e0 : V.int (0 + (i : Int)) = vN i := by simp
    rw [e0]
    have g1 := h1.gr
    have hiA : i < A := by omega
    refine ⟨by show 0 ≤ sizeLine; exact Nat.zero_le _, fun u0 hu => ?_⟩
    have gu := Gr.new (o := .tup []) hu
    have g2 := g1.trans gu
    have ehi : (1 : Int) + (i : Int) * (L : Int) + (L : Int) = 1 + ((i : Int) + 1) * (L : Int) := by rw [Int.add_mul, Int.one_mul]; omega
    have eL2 : m.2.length = A * L + 1 := hsize
    refine ⟨_, rfl, _, rfl, _, rfl, _, _, rfl, rfl, .inr ⟨by omega, by omega⟩, _, _, rfl, rfl, _, rfl, _, rfl, _, rfl, _, _, rfl, rfl, .inr ⟨by omega, by omega⟩, _, _, rfl, rfl, _, rfl, _, _, rfl, rfl, _, rfl, b, _, rfl, g2.sqT hbs, fun hw => ?_, fun _ p hp => ?_⟩
    · exfalso
      have h2 := hw.1
      have e : (1 : Int) + (i : Int) * (L : Int) = ((1 + i * L : Nat) : Int) := by push_cast; rfl
      rw [e, HT.sIx_nat, List.length_map] at h2
      omega
    · dsimp only
      rw [ehi]
      have ecut := cut_outw hm hiA
      rw [ecut]
      have gp := Gr.new (o := .tup ((outw m i).map vN)) hp
      have g3 := gu.trans gp
      have hlo : (outw m i).length ≤ 13 := by
        unfold outw
        rw [List.length_take, hm.lenOf]
        omega
      refine ⟨p, rfl, ⟨_, .inl (.inl upd_same)⟩, ?_⟩
      refine for_tup (K := K) (a := p) (D := { nx := _, rt := Q }) (xs := (outw m i).map vN) (fun j σ' H' => ∃ u x7, σ' = [some (.ref c), some (vN m.1), some (.ref b), some (vN L), some (.ref f), some (vN i), some (.ref u), x7] ∧ Gr (upd (upd H1 u0 (.tup [])) p (.tup ((outw m i).map vN))) H' ∧ SqT K H' u ((((outw m i).take j).foldl (ordStep (hubOf m)) []).map vN))
        ⟨u0, _, rfl, Gr.refl _, gp.sqT (.inl (.inl upd_same))⟩ (fun j σ' H' _ ⟨_, _, _, g, _⟩ => g.sqT (.inl (.inl upd_same))) ?_ ?_
      · rintro j x σ' H3 hx ⟨u, x7, rfl, g4, h4⟩
        obtain ⟨y, ey, rfl⟩ := vN_get hx
        have hj := (List.getElem?_eq_some_iff.mp ey).1
        have et := take_succ_foldl (ordStep (hubOf m)) [] (outw m i) j y ey
        have hlen := ordFold_le (hubOf m) ((outw m i).take j) []
        rw [List.length_take] at hlen
        generalize ((outw m i).take j).foldl (ordStep (hubOf m)) [] = acc at h4 et hlen
        rw [et]
        have gH := (g1.trans g3).trans g4
        refine ⟨_, rfl, _, rfl, b, _, _, _, rfl, rfl, gH.sqT hbs, atI_nat (j := 0) (vN_at hsz), rfl, _, rfl, ?_⟩
        by_cases e1 : y = hubOf m
        · refine iteT' (by show decide (vN y = vN (at0 m.2 0)) = true; exact decide_eq_true (vN_eq.mpr e1)) (iteT' rfl ⟨_, rfl, ?_⟩)
          have es : ordStep (hubOf m) acc y = acc := by unfold ordStep; rw [if_neg (fun z => z.1 e1)]
          rw [es]
          exact ⟨_, _, rfl, g4, h4⟩
        · refine iteF' (by show decide (vN y = vN (at0 m.2 0)) = false; exact decide_eq_false (fun z => e1 (vN_eq.mp z))) ⟨_, rfl, _, rfl, u, _, rfl, .inr h4, rfl, flat_vN _, _, rfl, ?_⟩
          have ein : (if false = true then !inV (vN y) (acc.map vN) else inV (vN y) (acc.map vN)) = decide (y ∈ acc) := by rw [if_neg Bool.false_ne_true, inV_vN]
          rw [ein]
          by_cases e2 : y ∈ acc
          · refine iteT' (decide_eq_true e2) ⟨_, rfl, ?_⟩
            have es : ordStep (hubOf m) acc y = acc := by unfold ordStep; rw [if_neg (fun z => z.2 e2)]
            rw [es]
            exact ⟨_, _, rfl, g4, h4⟩
          · have es : ordStep (hubOf m) acc y = acc ++ [y] := by unfold ordStep; rw [if_pos ⟨e1, e2⟩]
            rw [es]
            refine iteF' (decide_eq_false e2) ⟨_, rfl, _, rfl, by show 1 ≤ sizeLine; rw [sizeLine_eq]; omega, fun z hz => ?_⟩
            have gz := Gr.new (o := .tup [vN y]) hz
            simp at hlen
            refine ⟨u, z, _, _, rfl, rfl, gz.sqT h4, .inl (.inl upd_same), by rw [List.length_map, List.length_singleton, sizeLine_eq]; omega, fun h => ?_, fun _ h => (by cases h), fun _ _ z2 hz2 => ?_⟩
            · have : acc = [] := List.map_eq_nil_iff.mp h
              subst this
              exact ⟨_, _, rfl, g4.trans gz, .inl (.inl upd_same)⟩
            · have gz2 := Gr.new (o := .tup (acc.map vN ++ [vN y])) hz2
              refine ⟨_, _, rfl, (g4.trans gz).trans gz2, .inl (.inl ?_)⟩
              rw [upd_same, List.map_append]
              rfl
      · rintro σ' H3 ⟨u, x7, rfl, g4, h4⟩
        rw [List.length_map, List.take_length] at h4
        have g5 := g3.trans g4
        obtain ⟨zs, ez, el, h8⟩ := h1.put g5 (y := .ref u) (k := kNs (orderOn m i)) (tp_nums h4) hf
        refine ⟨_, rfl, .inl ⟨rfl, _, SqL.of ez⟩, _, rfl, f, _, _, rfl, rfl, ez, by rw [el, List.length_map, List.length_map, List.length_range, sizeLine_eq]; omega, ?_⟩
        refine ⟨_, _, _, rfl, ?_⟩
        rw [List.range_succ, List.map_append, List.map_append]
        exact h8
  · rintro σ' H1 ⟨x5, x6, x7, rfl, h1⟩
    obtain ⟨xs, ex, tx, gx⟩ := h1
    refine ⟨_, rfl, b, _, _, _, rfl, rfl, gx.sqT hbs, atI_nat (j := 0) (vN_at hsz), _, rfl, .inl ⟨f, xs, rfl, SqL.of ex, fun t ht => ⟨by show 2 ≤ sizeLine; rw [sizeLine_eq]; omega, fun u hu => ?_⟩⟩⟩
    have gt := Gr.new (o := .tup xs) ht
    have gu := Gr.new (o := .tup [vN (at0 m.2 0), V.ref t]) hu
    exact hQ _ _ ((gx.trans gt).trans gu) (.tup (.inl (.inl upd_same)) (.cons (.num _) (.cons (gu.tp (.tup (.inl (.inl upd_same)) (gt.tps tx))) .nil)))
end
end SL
end

section
set_option Elab.async false
set_option linter.all false
set_option maxRecDepth 100000
set_option maxHeartbeats 4000000
/-! walks of the law: _law_from -/
namespace SL
open PySem PySem.Spec PyProof.Rows L2
/-! ### a dict from maps to numbers -/
def kvI (lab : Ch → Nat) (F : List Ch) : List (NK × V) := F.map fun x => (kCh x, vN (lab x))
def labU (lab : Ch → Nat) (y : Ch) (n : Nat) : Ch → Nat := fun x => if x = y then n else lab x
theorem kvI_val (lab : Ch → Nat) (F : List Ch) (y : Ch) : valV (kvI lab F) (kCh y) = if y ∈ F then some (vN (lab y)) else none := by
  induction F with
  | nil => rfl
  | cons x F ih =>
    show valV ((kCh x, vN (lab x)) :: kvI lab F) (kCh y) = _
    by_cases e : x = y
    · subst e
      rw [valV_pos rfl, if_pos List.mem_cons_self]
    · rw [valV_neg (fun z => e (kCh_inj z)), ih]
      have : y ∈ x :: F ↔ y ∈ F := by simp [Ne.symm e]
      simp only [this]
theorem kvI_put {lab : Ch → Nat} {F : List Ch} {y : Ch} {n : Nat} (h : y ∉ F) : putK (kvI lab F) (kCh y) (vN n) = kvI (labU lab y n) (F ++ [y]) := by
  rw [putK_new _ (by rw [kvI_val, if_neg h])]
  unfold kvI
  rw [List.map_append]
  congr 1
  · refine List.map_congr_left fun x hx => ?_
    unfold labU
    rw [if_neg (fun e : x = y => h (e ▸ hx))]
  · show [(kCh y, vN n)] = [(kCh y, vN (labU lab y n y))]
    unfold labU
    rw [if_pos rfl]
theorem kvI_upd {lab : Ch → Nat} {F : List Ch} {y : Ch} {n : Nat} (h : y ∈ F) : putK (kvI lab F) (kCh y) (vN n) = kvI (labU lab y n) F := by
  unfold putK
  have ha : (kvI lab F).any (fun kv => decide (kv.1 = kCh y)) = true := List.any_eq_true.mpr ⟨_, List.mem_map.mpr ⟨y, h, rfl⟩, decide_eq_true rfl⟩
  rw [if_pos ha]
  unfold kvI
  rw [List.map_map]
  refine List.map_congr_left fun x hx => ?_
  show (if kCh x = kCh y then (kCh x, vN n) else (kCh x, vN (lab x))) = (kCh x, vN (labU lab y n x))
  unfold labU
  by_cases e : x = y
  · rw [if_pos (by rw [e]), if_pos e]
  · rw [if_neg (fun z => e (kCh_inj z)), if_neg e]
theorem kvI_keys (lab : Ch → Nat) (F : List Ch) : (kvI lab F).map (·.1) = F.map kCh := by simp [kvI, Function.comp_def]
structure BfsI (w : World) (K : PySem.W.Frag) (H : Hp) (d mo : Addr) (lab : Ch → Nat) (F M : List Ch) (H' : Hp) : Prop where
  gr : Gr H H'
  dat : DAt P0 w K H' d (kvI lab F)
  mol : ∃ xs, H' mo = some (.lst xs) ∧ TpAll K H' xs (M.map kCh)
section
variable {w : World} {K : PySem.W.Frag} {H H1 H2 : Hp} {d mo : Addr} {F M : List Ch} {lab : Ch → Nat}
theorem BfsI.step (h : BfsI w K H d mo lab F M H1) (g : Gr H1 H2) : BfsI w K H d mo lab F M H2 := by
  obtain ⟨xs, e, t⟩ := h.mol
  exact ⟨h.gr.trans g, g.dat h.dat, xs, g.lst e, g.tps t⟩
/-- a key is put, and listed -/
theorem BfsI.put {lab' : Ch → Nat} {F' : List Ch} {vy : V} {y : Ch} (h : BfsI w K H d mo lab F M H1) (hd : H d = none) (hm : H mo = none) (hdm : d ≠ mo) (ty : Tp K H1 vy (kCh y)) (hb : ∀ c, c ≠ d → H2 c = H1 c) (D2 : DAt P0 w K H2 d (kvI lab' F')) :
    ∃ xs, H2 mo = some (.lst xs) ∧ xs.length = M.length ∧ BfsI w K H d mo lab' F' (M ++ [y]) (upd H2 mo (.lst (xs ++ [vy]))) ∧
      (∀ b, b ≠ d → b ≠ mo → upd H2 mo (.lst (xs ++ [vy])) b = H1 b) ∧ ∀ vs ks, TpAll K H1 vs ks → TpAll K (upd H2 mo (.lst (xs ++ [vy]))) vs ks := by
  obtain ⟨xs, e, t⟩ := h.mol
  have e2 : H2 mo = some (.lst xs) := by rw [hb mo (Ne.symm hdm)]; exact e
  have tt : ∀ vs ks, TpAll K H1 vs ks → TpAll K (upd H2 mo (.lst (xs ++ [vy]))) vs ks := fun vs ks t =>
    tps_but (fun b hb => upd_ne hb) (not_tup_lst e2) (tps_but hb (dat_nt h.dat) t)
  refine ⟨xs, e2, by rw [t.length, List.length_map], ⟨?_, ?_, xs ++ [vy], upd_same, ?_⟩, fun b h1 h2 => ?_, tt⟩
  · exact Gr.put (h.gr.but hd hb) hm
  · exact D2.but hdm (fun b hb => upd_ne hb) (not_tup_lst e2)
  · rw [List.map_append]
    refine (tt _ _ t).append (.cons ?_ .nil)
    have := tt [vy] [kCh y] (.cons ty .nil)
    cases this with
    | cons t1 _ => exact t1
  · rw [upd_ne h2, hb b h1]
end
section
variable {w : World} {K : PySem.W.Frag} {mg : Str → Option Value} {base : Heap}
def spFrom (w : World) (K : PySem.W.Frag) : Sp := fun vs H Q _ => ∃ v m A L, vs = [v] ∧ Tp K H v (kCh m) ∧ Clos A L nextsOf [m] ∧ ∀ (found : List Ch) (lab : Ch → Nat) (d : Addr) (H' : Hp), found.Nodup → (∀ x, x ∈ found ↔ Rch nextsOf [m] x) → Gr H H' → H d = none → DAt P0 w K H' d (kvI lab found) → Q (.ref d) H'
theorem sc__law_from : FnScope ["_law_chart", "_law_found", "_law_walk_here", "_law_more", "_law_here", "_law_taking", "_law_there"] ["_law_chart"] (defScope s__law_from) := ⟨rfl, rfl, rfl, by decide +kernel, rfl, by decide +kernel, by decide +kernel⟩
theorem kp__law_from (T : Tx K mg base) (Ft : Kp w K mg base "_law_takings" 3 ["_law_chart"] (spTks2 K)) (Fk : Kp w K mg base "_law_behind" 1 ["_law_chart", "_law_taking"] (spTaken K)) : Kp w K mg base "_law_from" 4 ["_law_chart"] (spFrom w K) := by
  refine kp_of (d := d__law_from) (k := 3) T (by simp [fn]) (by decide +kernel) rfl rfl rfl rfl rfl sc__law_from (fun vs H Q E ⟨_, _, _, _, e, _⟩ => by rw [e]; rfl) (fun _ _ _ _ _ _ us hl => match us, hl with | [_], _ => rfl) fun Ar outer s H vs Q E hr hsp => ?_
  obtain ⟨v, m, A, L, rfl, hv, hC, hQ⟩ := hsp
  refine ⟨_, pss_cons (ps_par (i := 1) (j := 2) rfl sc__law_from.nd rfl rfl (by decide) rfl rfl (pa_cons (pe_disp1 (units9 hr) (pv 0) pe_int) (pa1 (pe_lst (pa1 (pv 0))))) rfl)
    (pss_cons (ps_while PassesOwn.never (pt_cmpR (op_neNil (units64 hr)) (pv 2) (pe_lst pa_nil) (nomark _))
      (pss_cons (ps_set (i := 3) sc__law_from.nd rfl (.inl rfl) (pe_lst pa_nil))
      (pss_cons (ps_for PassesOwn.never rfl (pi_list (pv 2)) (pg_name (i := 4) sc__law_from.nd rfl (.inl rfl))
        (pss_one (ps_for PassesOwn.never rfl (pi_list (pe_k Ft rfl hr (pa1 (pv 4)))) (pg_name (i := 5) sc__law_from.nd rfl (.inl rfl))
          (pss_cons (ps_set (i := 6) sc__law_from.nd rfl (.inl rfl) (pe_k Fk rfl (hr.mono (by decide)) (pa_cons (pv 4) (pa1 (pv 5)))))
          (pss_one (ps_if (pt_cmpR (op_notinM (units9 hr)) (pv 6) (pv 1) rfl)
            (pss_cons (ps_asg (pe_op op_add (pe_ix (ix_M (units9 hr)) (pv 1) (pv 4) (fun _ _ => rfl)) pe_int) (pg_sub (pv 1) (pv 6) (set_M (units9 hr))))
            (pss_one (ps_expr (pe_bm PySem.F.plainAttrs_list PySem.F.slot_list_append PySem.F.type_list_append mt_append (pv 3) (pa1 (pv 6))))))
            pss_nil))))))
      (pss_one (ps_set (i := 2) sc__law_from.nd rfl (.inl rfl) (pv 3))))))
    (pss_one (ps_ret (pv 1)))), ?_⟩
  obtain ⟨c0, rfl⟩ := ch_tup hv
  refine fun d Hd hd hb0 hD0 => ⟨_, rfl, c0, kCh m, rfl, tp_but hb0 (not_tup_none hd) hv, ch_depth m, hD0, fun Hd2 hb1 hD1 => ?_⟩
  have hbb : ∀ c, c ≠ d → Hd2 c = H c := fun c hc => (hb1 c hc).trans (hb0 c hc)
  have gd : Gr H Hd2 := (Gr.refl H).but hd hbb
  refine ⟨_, rfl, by show 1 ≤ sizeLine; rw [sizeLine_eq]; omega, fun r hr' => ?_⟩
  have hdn : Hd2 d ≠ none := by
    obtain ⟨ks, e, _⟩ := hD1
    rw [e]
    simp
  have hdr : d ≠ r := fun e => hdn (e ▸ hr')
  have hrn : H r = none := by rw [← hbb r (Ne.symm hdr)]; exact hr'
  refine ⟨_, _, rfl, ?_⟩
  have gr := Gr.new (o := .lst [V.ref c0]) hr'
  have R := Rch nextsOf [m]
  refine ⟨fun mm σ H1 => ∃ found rows r xr x3 x4 x5 x6, σ = [some (.ref c0), some (.ref d), some (.ref r), x3, x4, x5, x6] ∧ Gr H H1 ∧ (∃ lab, DAt P0 w K H1 d (kvI lab found)) ∧ H1 r = some (.lst xr) ∧ TpAll K H1 xr (rows.map kCh) ∧ d ≠ r ∧ H r = none ∧
      BInv nextsOf [m] found rows ∧ mm = bfsM sizeLine found rows,
    ⟨_, [m], [m], r, _, _, _, _, _, rfl, gd.trans gr, ⟨fun _ => 0, gr.dat hD1⟩, upd_same, .cons ((gd.trans gr).tp hv) .nil, hdr, hrn, bfs_start (by simp), rfl⟩, ?_⟩
  rintro mm σ H1 ⟨found, rows, r, xr, x3, x4, x5, x6, rfl, g1, ⟨lab, D1⟩, h1r, t1r, hdr, hrn, BI, rfl⟩
  refine ⟨_, rfl, by show 0 ≤ sizeLine; exact Nat.zero_le _, fun e he => ?_⟩
  have ge := Gr.new (o := .lst []) he
  have g1 := g1.trans ge
  have D1 := ge.dat D1
  have h1r := ge.lst h1r
  have t1r := ge.tps t1r
  refine ⟨r, xr, rows.map kCh, e, rfl, rfl, SqL.of h1r, t1r, fun k hk => by obtain ⟨x, _, rfl⟩ := List.mem_map.mp hk; exact ch_depth x, SqL.of upd_same, _, rfl, ?_⟩
  have lr := t1r.length
  rw [List.length_map] at lr
  cases rows with
  | nil =>
    obtain rfl : xr = [] := List.length_eq_zero_iff.mp lr
    refine iteF' rfl ?_
    exact ⟨_, rfl, hQ found lab d _ BI.nd (bfs_end BI) g1 hd D1⟩
  | cons z zs =>
    have hxe : xr ≠ [] := fun e => by rw [e] at lr; simp at lr
    refine iteT' (by rw [decide_eq_false hxe]; rfl) ?_
    generalize hrows : z :: zs = rows at t1r BI lr
    have hrne : rows ≠ [] := by rw [← hrows]; simp
    refine ⟨fun σ' H' => ∃ m', m' < bfsM sizeLine found rows ∧ ∃ found rows r xr x3 x4 x5 x6, σ' = [some (.ref c0), some (.ref d), some (.ref r), x3, x4, x5, x6] ∧ Gr H H' ∧ (∃ lab, DAt P0 w K H' d (kvI lab found)) ∧ H' r = some (.lst xr) ∧ TpAll K H' xr (rows.map kCh) ∧ d ≠ r ∧ H r = none ∧
      BInv nextsOf [m] found rows ∧ m' = bfsM sizeLine found rows, fun σ' H' hh => hh, ?_⟩
    refine ⟨by show 0 ≤ sizeLine; exact Nat.zero_le _, fun mo hmo => ?_⟩
    have hrm : r ≠ mo := ne_of_none h1r hmo
    have hdn := dat_some D1
    have hdm : d ≠ mo := fun e => hdn (e ▸ hmo)
    have hmn : H mo = none := g1.free hmo
    have gmo := Gr.new (o := .lst []) hmo
    have g0 : CGood (Rch nextsOf [m]) (found, []) := ⟨BI.nd, BI.rch, Nat.zero_le _⟩
    refine ⟨_, rfl, r, rfl, ⟨_, SqL.of (by rw [upd_ne hrm]; exact h1r)⟩, for_list (xs := xr) (fun i σ' H' => ∃ x4 x5 x6, σ' = [some (.ref c0), some (.ref d), some (.ref r), some (.ref mo), x4, x5, x6] ∧
        (∃ lab, BfsI w K H d mo lab ((rows.take i).foldl (fun st x => addNew (nextsOf x) st) (found, [])).1 ((rows.take i).foldl (fun st x => addNew (nextsOf x) st) (found, [])).2 H' ∧ ∀ z ∈ found, z ∈ ((rows.take i).foldl (fun st x => addNew (nextsOf x) st) (found, [])).1) ∧
        H' r = some (.lst xr) ∧ TpAll K H' xr (rows.map kCh) ∧ CGood (Rch nextsOf [m]) ((rows.take i).foldl (fun st x => addNew (nextsOf x) st) (found, [])))
      ⟨_, _, _, rfl, ⟨lab, ⟨g1.trans gmo, gmo.dat D1, [], upd_same, .nil⟩, fun z hz => hz⟩, by rw [upd_ne hrm]; exact h1r, gmo.tps t1r, g0⟩ (fun i σ' H' _ ⟨_, _, _, _, _, e, _⟩ => SqL.of e) ?_ ?_⟩
    · rintro i x σ' H2 hx ⟨x4, x5, x6, rfl, ⟨lab, B2, fsub⟩, h2r, t2r, gi⟩
      obtain ⟨kc, ekc, tx⟩ := t2r.get hx
      obtain ⟨hc, ehc, rfl⟩ : ∃ hc, rows[i]? = some hc ∧ kCh hc = kc := by
        rw [List.getElem?_map] at ekc
        cases e : rows[i]? with
        | none => rw [e] at ekc; cases ekc
        | some y => rw [e] at ekc; exact ⟨y, rfl, Option.some.inj ekc⟩
      have hreach : Rch nextsOf [m] hc := BI.rch hc (BI.sub hc (List.mem_of_getElem? ehc))
      have hshp := hC.shp hc hreach
      have hsz := hshp.size
      have hAL12 : A * L ≤ 12 := by have := hshp.a4; rcases hshp.len with rfl | rfl | rfl <;> omega
      have et := take_succ_foldl (fun (st : List Ch × List Ch) x => addNew (nextsOf x) st) (found, []) rows i hc ehc
      generalize (rows.take i).foldl (fun st x => addNew (nextsOf x) st) (found, []) = st at B2 gi et fsub
      rw [et]
      rw [cStep_fold]
      refine ⟨_, rfl, _, hc, A, L, rfl, tx, hshp, fun H3 p xp g3 hp h3p t3p => ?_⟩
      obtain ⟨xm, h2m, t2m⟩ := B2.mol
      have hmp : mo ≠ p := ne_of_none h2m hp
      have hrp : r ≠ p := ne_of_none h2r hp
      have hdp : d ≠ p := fun e => by
        obtain ⟨ks, e2, _⟩ := B2.dat
        rw [e, hp] at e2
        cases e2
      refine ⟨p, rfl, ⟨_, SqL.of h3p⟩, for_list (xs := xp) (fun j σ' H' => ∃ x5 x6, σ' = [some (.ref c0), some (.ref d), some (.ref r), some (.ref mo), some x, x5, x6] ∧
          (∃ lab, BfsI w K H d mo lab (((takings hc).take j).foldl (cStep hc) st).1 (((takings hc).take j).foldl (cStep hc) st).2 H' ∧ ∀ z ∈ found, z ∈ (((takings hc).take j).foldl (cStep hc) st).1) ∧
          H' r = some (.lst xr) ∧ TpAll K H' xr (rows.map kCh) ∧ H' p = some (.lst xp) ∧ TpAll K H' xp ((takings hc).map kTk) ∧ TpAll K H' [x] [kCh hc] ∧ CGood (Rch nextsOf [m]) (((takings hc).take j).foldl (cStep hc) st))
        ⟨_, _, rfl, ⟨lab, B2.step g3, fsub⟩, g3.lst h2r, g3.tps t2r, h3p, t3p, .cons (g3.tp tx) .nil, gi⟩ (fun i σ' H' _ ⟨_, _, _, _, _, _, e, _⟩ => SqL.of e) ?_ ?_⟩
      · rintro j y σ' H4 hy ⟨x5, x6, rfl, ⟨lab, B4, fsubj⟩, h4r, t4r, h4p, t4p, t4x, gj⟩
        obtain ⟨kt, ekt, ty⟩ := t4p.get hy
        obtain ⟨tk, etk, rfl⟩ : ∃ tk, (takings hc)[j]? = some tk ∧ kTk tk = kt := by
          rw [List.getElem?_map] at ekt
          cases e : (takings hc)[j]? with
          | none => rw [e] at ekt; cases ekt
          | some z => rw [e] at ekt; exact ⟨z, rfl, Option.some.inj ekt⟩
        have htk := List.mem_of_getElem? etk
        obtain ⟨hcell, _, _⟩ := takings_cell htk
        have et := take_succ_foldl (cStep hc) st (takings hc) j tk etk
        generalize ((takings hc).take j).foldl (cStep hc) st = sj at B4 gj et fsubj
        rw [et]
        have tx4 : Tp K H4 x (kCh hc) := by cases t4x with | cons t _ => exact t
        obtain ⟨tl, tc⟩ := tk
        refine ⟨_, rfl, _, rfl, x, y, hc, tl, tc, rfl, tx4, ty, hcell, by omega, fun H5 q g5 t5 => ?_⟩
        have B5 := B4.step g5
        refine ⟨_, rfl, _, rfl, q, kCh (taken hc (tl, tc)), d, _, rfl, rfl, t5, ch_depth _, B5.dat, _, rfl, ?_⟩
        by_cases hin : taken hc (tl, tc) ∈ sj.1
        · refine iteF' (by rw [kvI_val, if_pos hin]; rfl) ?_
          have es : cStep hc sj (tl, tc) = sj := by unfold cStep; rw [if_pos hin]
          rw [es]
          exact ⟨_, _, rfl, ⟨lab, B5, fsubj⟩, g5.lst h4r, g5.tps t4r, g5.lst h4p, g5.tps t4p, g5.tps t4x, gj⟩
        · refine iteT' (by rw [kvI_val, if_neg hin]; rfl) ?_
          have es : cStep hc sj (tl, tc) = (sj.1 ++ [taken hc (tl, tc)], sj.2 ++ [taken hc (tl, tc)]) := by unfold cStep; rw [if_neg hin]
          rw [es]
          have gj' := gj.add hin (.step hreach (List.mem_map.mpr ⟨_, htk, rfl⟩))
          have hlen := hC.few _ gj'.nd gj'.rch
          rw [List.length_append, List.length_singleton] at hlen
          have hcin : hc ∈ sj.1 := fsubj hc (BI.sub hc (List.mem_of_getElem? ehc))
          obtain ⟨cx, ecx⟩ := ch_tup (g5.tp tx4)
          refine ⟨_, rfl, _, rfl, cx, kCh hc, d, _, vN (lab hc), ecx, rfl, by rw [← ecx]; exact g5.tp tx4, ch_depth _, B5.dat, by rw [kvI_val, if_pos hcin], _, _, rfl, rfl, ?_⟩
          refine ⟨_, rfl, _, rfl, q, kCh (taken hc (tl, tc)), d, _, rfl, rfl, t5, ch_depth _, B5.dat, by unfold kvI; rw [List.length_map]; omega, fun H6 hb6 D6 => ?_⟩
          have D6' : DAt P0 w K H6 d (putK (kvI lab sj.1) (kCh (taken hc (tl, tc))) (vN (lab hc + 1))) := D6
          rw [kvI_put hin] at D6'
          obtain ⟨xs, ex, lx, B7, hb7, tt7⟩ := B5.put hd hmn hdm t5 hb6 D6'
          have h5r := g5.lst h4r
          have h5p := g5.lst h4p
          refine ⟨_, rfl, .inl ⟨rfl, _, SqL.of ex⟩, _, rfl, mo, xs, _, rfl, rfl, ex, by rw [lx]; have := gj.le; omega, ?_⟩
          exact ⟨_, _, rfl, ⟨_, B7, fun z hz => List.mem_append_left _ (fsubj z hz)⟩, by rw [hb7 r (Ne.symm hdr) hrm]; exact h5r, tt7 _ _ (g5.tps t4r), by rw [hb7 p (Ne.symm hdp) (Ne.symm hmp)]; exact h5p, tt7 _ _ (g5.tps t4p), tt7 _ _ (g5.tps t4x), gj'⟩
      · rintro σ' H4 ⟨x5, x6, rfl, ⟨lab, B4, fsubj⟩, h4r, t4r, h4p, t4p, t4x, gj⟩
        have ll := t4p.length
        rw [List.length_map] at ll
        rw [ll, List.take_length] at B4 gj fsubj
        exact ⟨_, _, _, rfl, ⟨lab, B4, fsubj⟩, h4r, t4r, gj⟩
    · rintro σ' H2 ⟨x4, x5, x6, rfl, ⟨lab, B2, fsub⟩, h2r, t2r, gi⟩
      rw [lr, List.take_length] at B2 gi
      obtain ⟨ext, e1, BI2⟩ := bfs_turn BI
      unfold bfsTurn at e1
      rw [e1] at B2 gi
      have hle := hC.few _ gi.nd gi.rch
      obtain ⟨xm, h2m, t2m⟩ := B2.mol
      exact ⟨_, rfl, _, bfsM_lt hrne hle, found ++ ext, ext, mo, xm, _, _, _, _, rfl, B2.gr, ⟨lab, B2.dat⟩, h2m, t2m, hdm, hmn, BI2, rfl⟩
end
end SL
end

section
set_option Elab.async false
set_option linter.all false
set_option maxRecDepth 100000
set_option maxHeartbeats 4000000
/-! walks of the law: _law_shares, _law_alike -/
namespace SL
open PySem PySem.Spec PyProof.Rows L2
def shs (many : Nat) : Nat → List (List Nat)
  | 0 => []
  | 1 => [[many]]
  | n + 2 => (List.range (many + 1)).flatMap fun f => (shs (many - f) (n + 1)).map (f :: ·)
def shUp (many n i : Nat) : List (List Nat) := (List.range i).flatMap fun f => (shs (many - f) n).map (f :: ·)
theorem shUp_succ (many n i : Nat) : shUp many n (i + 1) = shUp many n i ++ (shs (many - i) n).map (i :: ·) := by
  unfold shUp
  rw [List.range_succ, List.flatMap_append]
  simp
theorem sh_len : ∀ m ≤ 5, ∀ n ≤ 5, (shs m n).length ≤ 1000 ∧ ∀ i ≤ 6, (shUp m n i).length ≤ 1000 := by decide +kernel
theorem sh_row : ∀ m ≤ 5, ∀ n ≤ 5, ∀ r ∈ shs m n, r ≠ [] ∧ r.length ≤ 5 := by decide +kernel
section
variable {w : World} {K : PySem.W.Frag} {mg : Str → Option Value} {base : Heap}
def spLS (K : PySem.W.Frag) (n : Nat) : Sp := fun vs H Q _ => ∃ m : Nat, vs = [vN m, vN n] ∧ m ≤ 5 ∧ NewLK K H Q ((shs m n).map kNs)
theorem sc__law_shares : FnScope ["_law_many", "_law_arms", "_law_found", "_law_first", "_law_rest"] ["_law_many", "_law_arms"] (defScope s__law_shares) := ⟨rfl, rfl, rfl, by decide +kernel, rfl, by decide +kernel, by decide +kernel⟩
theorem kp__law_shares1 (T : Tx K mg base) : Kp w K mg base "_law_shares" 1 ["_law_many", "_law_arms"] (spLS K 1) := by
  refine kp_of (d := d__law_shares) (k := 0) T (by simp [fn]) (by decide +kernel) rfl rfl rfl rfl rfl sc__law_shares (fun vs H Q E ⟨_, e, _⟩ => by rw [e]; rfl) (fun _ _ _ _ _ _ us hl => match us, hl with | [_, _], _ => rfl) fun Ar outer s H vs Q E hr hsp => ?_
  obtain ⟨m, rfl, hm, hQ⟩ := hsp
  refine ⟨_, pss_cons (ps_if (pt_cmpR op_eq (pv 1) pe_int (nomark _)) (pss_one (ps_ret (pe_lst (pa1 (pe_tup (pa1 (pv 0))))))) pss_nil)
    (pss_cons ps_never (pss_cons ps_never (pss_one ps_never))), ?_⟩
  refine ⟨_, rfl, rfl, _, rfl, iteT' rfl ⟨_, rfl, by show 1 ≤ sizeLine; rw [sizeLine_eq]; omega, fun t ht => ⟨by show 1 ≤ sizeLine; rw [sizeLine_eq]; omega, fun l hl => ?_⟩⟩⟩
  have gt := Gr.new (o := .tup [vN m]) ht
  have gl := Gr.new (o := .lst [V.ref t]) hl
  exact hQ _ l _ (gt.trans gl) (gt.free hl) upd_same (.cons (gl.tp (tp_nums (ns := [m]) (.inl (.inl upd_same)))) .nil)
def spLU (K : PySem.W.Frag) (j : Nat) : Sp := fun vs H Q E => ∃ n, 1 ≤ n ∧ n ≤ j ∧ spLS K n vs H Q E
theorem kp__law_shares2 (T : Tx K mg base) (j : Nat) (hj5 : j + 2 ≤ 5) (F : Kp w K mg base "_law_shares" (j + 1) ["_law_many", "_law_arms"] (spLU K (j + 1))) : Kp w K mg base "_law_shares" (j + 2) ["_law_many", "_law_arms"] (spLU K (j + 2)) := by
  refine kp_of (d := d__law_shares) (k := j + 1) T (by simp [fn]) (by decide +kernel) rfl rfl rfl rfl rfl sc__law_shares (fun vs H Q E ⟨_, _, _, _, e, _⟩ => by rw [e]; rfl) (fun _ _ _ _ _ _ us hl => match us, hl with | [_, _], _ => rfl) fun Ar outer s H vs Q E hr hsp => ?_
  obtain ⟨n', hn1, hnj, m, rfl, hm, hQ⟩ := hsp
  refine ⟨_, pss_cons (ps_if (pt_cmpR op_eq (pv 1) pe_int (nomark _)) (pss_one (ps_ret (pe_lst (pa1 (pe_tup (pa1 (pv 0))))))) pss_nil)
    (pss_cons (ps_set (i := 2) sc__law_shares.nd rfl (.inl rfl) (pe_lst pa_nil))
    (pss_cons (ps_for PassesOwn.never rfl (pi_range1 (by rfl) (T.free "range") (pa1 (pe_op op_add (pv 0) pe_int))) (pg_name (i := 3) sc__law_shares.nd rfl (.inr rfl))
      (pss_one (ps_set (i := 2) sc__law_shares.nd rfl (.inl rfl) (pe_op op_cat (pv 2) (pe_lc (own := [("_law_rest", 4)]) (g := gName 4) (tt := tYes) rfl sc__law_shares.nd (pi_list (pe_k F rfl hr (pa_cons (pe_op op_sub (pv 0) (pv 3)) (pa1 (pe_op op_sub (pv 1) pe_int)))))
        (blkOk_by (N := ["_law_many", "_law_arms", "_law_found", "_law_first", "_law_rest"]) (sc := defScope s__law_shares) (by decide +kernel)) (fun _ _ _ _ _ => pg_name (i := 4) sc__law_shares.nd rfl (Or.inl rfl)) (fun _ _ _ _ _ => pts_nil)
        (fun _ _ _ _ _ => pe_op (r := rCatA K) op_catA (pe_tup (pa1 (pv 3))) (pv 4)))))))
    (pss_one (ps_ret (pv 2))))), ?_⟩
  by_cases hn0 : n' = 1
  · subst hn0
    refine ⟨_, rfl, rfl, _, rfl, iteT' rfl ⟨_, rfl, by show 1 ≤ sizeLine; rw [sizeLine_eq]; omega, fun t ht => ⟨by show 1 ≤ sizeLine; rw [sizeLine_eq]; omega, fun l hl => ?_⟩⟩⟩
    have gt := Gr.new (o := .tup [vN m]) ht
    have gl := Gr.new (o := .lst [V.ref t]) hl
    exact hQ _ l _ (gt.trans gl) (gt.free hl) upd_same (.cons (gl.tp (tp_nums (ns := [m]) (.inl (.inl upd_same)))) .nil)
  obtain ⟨n, rfl⟩ : ∃ n, n' = n + 2 := ⟨n' - 2, by omega⟩
  refine ⟨_, rfl, rfl, _, rfl, iteF' (by show decide (vN (n + 2) = vN 1) = false; exact decide_eq_false fun e => by have := vN_eq.mp e; omega) ?_⟩
  refine ⟨by show 0 ≤ sizeLine; exact Nat.zero_le _, fun f hf => ?_⟩
  have gf := Gr.new (o := .lst []) hf
  refine ⟨_, rfl, _, _, rfl, rfl, m + 1, rfl, by omega, by omega, for_range (lo := 0) (n := m + 1) (fun i σ' H' => ∃ f x3, σ' = [some (vN m), some (vN (n + 2)), some (.ref f), x3, none] ∧ H f = none ∧ LcK K f H ((shUp m (n + 1) i).map kNs) H') ⟨f, _, rfl, hf, LcK.start hf⟩ ?_ ?_⟩
  · rintro i σ' H1 hi ⟨f, x3, rfl, hf, h1⟩
    have e0 : V.int (0 + (i : Int)) = vN i := by simp
    rw [e0]
    have g1 := h1.gr
    obtain ⟨xs, ex, tx, gx⟩ := h1
    have lx := tx.length
    rw [List.length_map] at lx
    have hup := (sh_len m hm (n + 1) (by omega)).2 i (by omega)
    have hsub := (sh_len (m - i) (by omega) (n + 1) (by omega)).1
    have hrow := sh_row (m - i) (by omega) (n + 1) (by omega)
    have em : (m : Int) - (i : Int) = ((m - i : Nat) : Int) := by omega
    have en : ((n + 2 : Nat) : Int) - 1 = ((n + 1 : Nat) : Int) := by omega
    refine ⟨_, rfl, _, rfl, _, rfl, _, _, rfl, rfl, _, rfl, _, _, rfl, rfl, n + 1, by omega, by omega, m - i, by dsimp only; rw [em, en]; rfl, by omega, fun H2 p ys g2 hp h2p t2 => ?_⟩
    have ly := t2.length
    rw [List.length_map] at ly
    refine ⟨p, rfl, ⟨_, SqL.of h2p⟩, fun D hD => lc_list (xs := ys) (fun j H' => LcK K D H2 ((((shs (m - i) (n + 1)).take j).map (i :: ·)).map kNs) H') (LcK.start hD) (fun j H' _ h => SqL.of (h.gr.lst h2p)) ?_ ?_⟩
    · rintro j y H3 hy h3
      have g3 := h3.gr
      obtain ⟨kc, ekc, ty⟩ := (g3.tps t2).get hy
      obtain ⟨rw', er, rfl⟩ : ∃ r, (shs (m - i) (n + 1))[j]? = some r ∧ kNs r = kc := by
        rw [List.getElem?_map] at ekc
        cases e : (shs (m - i) (n + 1))[j]? with
        | none => rw [e] at ekc; cases ekc
        | some z => rw [e] at ekc; exact ⟨z, rfl, Option.some.inj ekc⟩
      obtain ⟨hne, hrl⟩ := hrow rw' (List.mem_of_getElem? er)
      have hj := (List.getElem?_eq_some_iff.mp er).1
      obtain ⟨ra, rfl, hra⟩ : ∃ ra, y = .ref ra ∧ SqT K H3 ra (rw'.map vN) := by
        cases ty with
        | @tup a xs _ h1 h2 =>
          refine ⟨a, rfl, ?_⟩
          have : xs = rw'.map vN := by
            have h2' : TpAll K H3 xs ((rw'.map fun n : Nat => (n : Int)).map NestedKey.num) := by rw [List.map_map]; exact h2
            rw [TpAll.ints_inv h2', List.map_map]
            rfl
          rw [← this]
          exact h1
      refine ⟨rfl, _, rfl, by show 1 ≤ sizeLine; rw [sizeLine_eq]; omega, fun u hu => ?_⟩
      have gu := Gr.new (o := .tup [vN i]) hu
      refine ⟨_, rfl, u, ra, [vN i], rw'.map vN, rfl, rfl, .inl (.inl upd_same), gu.sqT hra, by rw [List.length_map, List.length_singleton, sizeLine_eq]; omega, fun h => (by cases h), fun _ h => absurd (List.map_eq_nil_iff.mp h) hne, fun _ _ z hz => ?_⟩
      have gz := Gr.new (o := .tup ([vN i] ++ rw'.map vN)) hz
      obtain ⟨zs, ez, el, h8⟩ := h3.put (gu.trans gz) (y := .ref z) (k := kNs (i :: rw')) (tp_nums (ns := i :: rw') (.inl (.inl upd_same))) hD
      refine ⟨zs, ez, by rw [el, List.length_map, List.length_map, List.length_take, sizeLine_eq]; omega, ?_⟩
      rw [List.take_add_one, er, List.map_append, List.map_append]
      exact h8
    · rintro H3 ⟨zs, ez, tz, g3⟩
      rw [ly, List.take_length] at tz
      have lz := tz.length
      rw [List.length_map, List.length_map] at lz
      have g13 := g2.trans g3
      refine ⟨f, D, xs, zs, rfl, rfl, g13.lst ex, ez, by rw [sizeLine_eq]; omega, fun q hq => ?_⟩
      have gq := Gr.new (o := .lst (xs ++ zs)) hq
      refine ⟨q, _, rfl, (gx.trans g13).free hq, xs ++ zs, upd_same, ?_, (gx.trans g13).trans gq⟩
      rw [shUp_succ, List.map_append]
      exact ((g13.trans gq).tps tx).append (gq.tps tz)
  · rintro σ' H1 ⟨f, x3, rfl, hf, h1⟩
    exact ⟨_, rfl, hQ.of hf h1⟩
theorem kp__law_shares (T : Tx K mg base) : ∀ j, j + 1 ≤ 5 → Kp w K mg base "_law_shares" (j + 1) ["_law_many", "_law_arms"] (spLU K (j + 1))
  | 0, _ => (kp__law_shares1 T).imp fun vs H Q E ⟨n, h1, h2, h⟩ => by
    obtain rfl : n = 1 := by omega
    exact h
  | j + 1, h => kp__law_shares2 T j h (kp__law_shares T j (by omega))
end
end SL
end

section
set_option Elab.async false
set_option linter.all false
set_option maxRecDepth 100000
set_option maxHeartbeats 4000000
/-! walks of the law: _law_alike -/
namespace SL
open PySem PySem.Spec PyProof.Rows L2
/-- n levels of tuples at the most, not too wide -/
def AlOk : Nat → NK → Prop
  | _, .num _ => True
  | n + 1, .tup ks => ks.length ≤ 16000000 ∧ ∀ x ∈ ks, AlOk n x
  | _, _ => False
def SameV (K : PySem.W.Frag) (H : Hp) (n : Nat) (x y : V) : Prop := (∃ k, Tp K H x k ∧ Tp K H y k ∧ AlOk n k) ∨ ∃ b, x = .bl b ∧ y = .bl b
def spAl (K : PySem.W.Frag) (n : Nat) : Sp := fun vs H Q _ => ∃ x y, vs = [x, y] ∧ SameV K H n x y ∧ ∀ H', Gr H H' → Q (.bl true) H'
theorem paired2 {a b : String} : Paired ClsV [V.ty a, V.ty b] [.type a, .type b] := .cons (.ty a) (.cons (.ty b) .nil)
section
variable {w : World} {K : PySem.W.Frag} {mg : Str → Option Value} {base : Heap}
theorem any_tup : PySem.W.kitAny K (.type "tuple") [.type "tuple", .type "list"] = some true := kitAny_cons (b := true) (kit_ty (by decide +kernel)) (fun h => nomatch h) (fun _ => rfl)
theorem any_int : PySem.W.kitAny K (.type "int") [.type "tuple", .type "list"] = some false := kitAny_cons (b := false) (kit_ty (by decide +kernel)) (fun _ => kitAny_cons (b := false) (kit_ty (by decide +kernel)) (fun _ => kitAny_nil) (fun h => nomatch h)) (fun h => nomatch h)
theorem any_bool : PySem.W.kitAny K (.type "bool") [.type "tuple", .type "list"] = some false := kitAny_cons (b := false) (kit_ty (by decide +kernel)) (fun _ => kitAny_cons (b := false) (kit_ty (by decide +kernel)) (fun _ => kitAny_nil) (fun h => nomatch h)) (fun h => nomatch h)
abbrev nAl : List Str := ["_law_found", "_law_due", "_law_k"]
theorem sc__law_alike : FnScope nAl ["_law_found", "_law_due"] (defScope s__law_alike) := ⟨rfl, rfl, rfl, by decide +kernel, rfl, by decide +kernel, by decide +kernel⟩
theorem kp__law_alike0 (T : Tx K mg base) : Kp w K mg base "_law_alike" 1 ["_law_found", "_law_due"] (spAl K 0) := by
  refine kp_of (d := d__law_alike) (k := 0) T (by simp [fn]) (by decide +kernel) rfl rfl rfl rfl rfl sc__law_alike (fun vs H Q E ⟨_, _, e, _⟩ => by rw [e]; rfl) (fun _ _ _ _ _ _ us hl => match us, hl with | [_, _], _ => rfl) fun Ar outer s H vs Q E hr hsp => ?_
  obtain ⟨x, y, rfl, hxy, hQ⟩ := hsp
  refine ⟨_, pss_cons (ps_if (pt_val (pe_callB call_isiT (by rfl) (T.free "isinstance") (by decide +kernel) (pa_cons (pv 1) (pa1 (pe_tup (pa_cons (pe_bltn (v := .ty "tuple") (by rfl) (T.free "tuple") (by decide +kernel) rfl) (pa1 (pe_bltn (v := .ty "list") (by rfl) (T.free "list") (by decide +kernel) rfl))))))))
      (pss_cons ps_never (pss_cons ps_never (pss_one ps_never))) pss_nil)
    (pss_cons (ps_if (PW.pt (pw_or (pt_cmpR op_isN (pv 1) pe_non rfl) (pw_or1 (pt_val (pe_callB call_isi (by rfl) (T.free "isinstance") (by decide +kernel) (pa_cons (pv 1) (pa1 (pe_bltn (v := .ty "str") (by rfl) (T.free "str") (by decide +kernel) rfl)))))))) (pss_one ps_never) pss_nil)
    (pss_one (ps_ret (pe_and (pe_callB call_isi (by rfl) (T.free "isinstance") (by decide +kernel) (pa_cons (pv 0) (pa1 (pe_bltn (v := .ty "int") (by rfl) (T.free "int") (by decide +kernel) rfl))))
      (pe_and (pe_cmpR op_eq (pe_callB call_isi (by rfl) (T.free "isinstance") (by decide +kernel) (pa_cons (pv 0) (pa1 (pe_bltn (v := .ty "bool") (by rfl) (T.free "bool") (by decide +kernel) rfl)))) (pe_callB call_isi (by rfl) (T.free "isinstance") (by decide +kernel) (pa_cons (pv 1) (pa1 (pe_bltn (v := .ty "bool") (by rfl) (T.free "bool") (by decide +kernel) rfl)))) (nomark _))
      (pe_one (pe_cmpR op_eq (pv 0) (pv 1) (nomark _)))))))), ?_⟩
  refine ⟨_, rfl, by show 2 ≤ sizeLine; rw [sizeLine_eq]; omega, fun tp htp => ?_⟩
  have gt := Gr.new (o := .tup [V.ty "tuple", V.ty "list"]) htp
  rcases hxy with ⟨k, tx, ty, hk⟩ | ⟨b, rfl, rfl⟩
  · obtain ⟨i, rfl⟩ : ∃ i, k = .num i := by
      cases k with
      | num i => exact ⟨i, rfl⟩
      | tup ks => exact absurd hk (by simp [AlOk])
      | none => exact absurd hk (by simp [AlOk])
      | text _ => exact absurd hk (by simp [AlOk])
    cases tx
    cases ty
    refine ⟨_, _, _, _, _, _, rfl, upd_same, paired2, .base (.int i), any_int, false, rfl, ?_⟩
    refine iteF' rfl ⟨_, rfl, rfl, _, rfl, iteF' rfl ⟨_, rfl, _, _, _, _, _, rfl, .ty "str", .base (.int i), kit_ty (r := false) (by decide +kernel), false, rfl, iteF' rfl ?_⟩⟩
    refine ⟨_, rfl, _, _, _, _, _, rfl, .ty "int", .base (.int i), kit_ty (r := true) (by decide +kernel), true, rfl, iteT' rfl ?_⟩
    refine ⟨_, rfl, _, _, _, _, _, rfl, .ty "bool", .base (.int i), kit_ty (r := false) (by decide +kernel), _, rfl, _, _, _, _, _, rfl, .ty "bool", .base (.int i), kit_ty (r := false) (by decide +kernel), rfl, _, rfl, iteT' rfl ?_⟩
    refine ⟨_, rfl, _, rfl, rfl, ?_⟩
    rw [decide_eq_true rfl]
    exact hQ _ gt
  · refine ⟨_, _, _, _, _, _, rfl, upd_same, paired2, .base (.bl b), any_bool, false, rfl, ?_⟩
    refine iteF' rfl ⟨_, rfl, rfl, _, rfl, iteF' rfl ⟨_, rfl, _, _, _, _, _, rfl, .ty "str", .base (.bl b), kit_ty (r := false) (by decide +kernel), false, rfl, iteF' rfl ?_⟩⟩
    refine ⟨_, rfl, _, _, _, _, _, rfl, .ty "int", .base (.bl b), kit_ty (r := true) (by decide +kernel), true, rfl, iteT' rfl ?_⟩
    refine ⟨_, rfl, _, _, _, _, _, rfl, .ty "bool", .base (.bl b), kit_ty (r := true) (by decide +kernel), _, rfl, _, _, _, _, _, rfl, .ty "bool", .base (.bl b), kit_ty (r := true) (by decide +kernel), rfl, _, rfl, iteT' rfl ?_⟩
    refine ⟨_, rfl, _, rfl, rfl, ?_⟩
    rw [decide_eq_true rfl]
    exact hQ _ gt
theorem kp__law_alikeS (T : Tx K mg base) (n : Nat) (F : Kp w K mg base "_law_alike" (n + 1) ["_law_found", "_law_due"] (spAl K n)) (F0 : Kp w K mg base "_law_alike" 1 ["_law_found", "_law_due"] (spAl K 0)) : Kp w K mg base "_law_alike" (n + 2) ["_law_found", "_law_due"] (spAl K (n + 1)) := by
  refine kp_of (d := d__law_alike) (k := n + 1) T (by simp [fn]) (by decide +kernel) rfl rfl rfl rfl rfl sc__law_alike (fun vs H Q E ⟨_, _, e, _⟩ => by rw [e]; rfl) (fun _ _ _ _ _ _ us hl => match us, hl with | [_, _], _ => rfl) fun Ar outer s H vs Q E hr hsp => ?_
  obtain ⟨x, y, rfl, hxy, hQ⟩ := hsp
  refine ⟨_, pss_cons (ps_if (pt_val (pe_callB call_isiT (by rfl) (T.free "isinstance") (by decide +kernel) (pa_cons (pv 1) (pa1 (pe_tup (pa_cons (pe_bltn (v := .ty "tuple") (by rfl) (T.free "tuple") (by decide +kernel) rfl) (pa1 (pe_bltn (v := .ty "list") (by rfl) (T.free "list") (by decide +kernel) rfl))))))))
      (pss_cons (ps_if (PW.pt (pw_or (pt_not (pt_val (pe_callB call_isiT (by rfl) (T.free "isinstance") (by decide +kernel) (pa_cons (pv 0) (pa1 (pe_tup (pa_cons (pe_bltn (v := .ty "tuple") (by rfl) (T.free "tuple") (by decide +kernel) rfl) (pa1 (pe_bltn (v := .ty "list") (by rfl) (T.free "list") (by decide +kernel) rfl)))))))))
          (pw_or1 (pt_cmpR op_ne (pe_callB call_isi (by rfl) (T.free "isinstance") (by decide +kernel) (pa_cons (pv 0) (pa1 (pe_bltn (v := .ty "list") (by rfl) (T.free "list") (by decide +kernel) rfl)))) (pe_callB call_isi (by rfl) (T.free "isinstance") (by decide +kernel) (pa_cons (pv 1) (pa1 (pe_bltn (v := .ty "list") (by rfl) (T.free "list") (by decide +kernel) rfl)))) (nomark _))))) (pss_one ps_never) pss_nil)
      (pss_cons (ps_if (pt_cmpR op_ne (pe_callB call_len_seq (by rfl) (T.free "len") PySem.boot_len (pa1 (pv 0))) (pe_callB call_len_seq (by rfl) (T.free "len") PySem.boot_len (pa1 (pv 1))) (nomark _)) (pss_one ps_never) pss_nil)
      (pss_one (ps_ret (pe_cmpR (op_eqNil (units64 hr)) (pe_lc (own := [("_law_k", 2)]) (g := gName 2) rfl sc__law_alike.nd (pi_range1 (by rfl) (T.free "range") (pa1 (pe_callB call_len_seq (by rfl) (T.free "len") PySem.boot_len (pa1 (pv 1)))))
        (blkOk_by (N := nAl) (sc := defScope s__law_alike) (by decide +kernel)) (fun _ _ _ _ _ => pg_name (i := 2) sc__law_alike.nd rfl (Or.inl rfl)) (fun _ _ _ _ _ => pts_one (pt_not (pt_val (pe_k F rfl hr (pa_cons (pe_ix (r := rIxT K) ix_tup (pv 0) (pv 2) (fun _ _ => rfl)) (pa1 (pe_ix (r := rIxT K) ix_tup (pv 1) (pv 2) (fun _ _ => rfl)))))))) (fun _ _ _ _ _ => pv 2)) (pe_lst pa_nil) (nomark _)))))) pss_nil)
    (pss_cons (ps_if (PW.pt (pw_or (pt_cmpR op_isN (pv 1) pe_non rfl) (pw_or1 (pt_val (pe_callB call_isi (by rfl) (T.free "isinstance") (by decide +kernel) (pa_cons (pv 1) (pa1 (pe_bltn (v := .ty "str") (by rfl) (T.free "str") (by decide +kernel) rfl)))))))) (pss_one ps_never) pss_nil)
    (pss_one (ps_ret (pe_and (pe_callB call_isi (by rfl) (T.free "isinstance") (by decide +kernel) (pa_cons (pv 0) (pa1 (pe_bltn (v := .ty "int") (by rfl) (T.free "int") (by decide +kernel) rfl))))
      (pe_and (pe_cmpR op_eq (pe_callB call_isi (by rfl) (T.free "isinstance") (by decide +kernel) (pa_cons (pv 0) (pa1 (pe_bltn (v := .ty "bool") (by rfl) (T.free "bool") (by decide +kernel) rfl)))) (pe_callB call_isi (by rfl) (T.free "isinstance") (by decide +kernel) (pa_cons (pv 1) (pa1 (pe_bltn (v := .ty "bool") (by rfl) (T.free "bool") (by decide +kernel) rfl)))) (nomark _))
      (pe_one (pe_cmpR op_eq (pv 0) (pv 1) (nomark _)))))))), ?_⟩
  refine ⟨_, rfl, by show 2 ≤ sizeLine; rw [sizeLine_eq]; omega, fun tp htp => ?_⟩
  have gt := Gr.new (o := .tup [V.ty "tuple", V.ty "list"]) htp
  rcases hxy with ⟨k, tx, ty, hk⟩ | ⟨b, rfl, rfl⟩
  · cases tx with
    | num i =>
      cases ty
      refine ⟨_, _, _, _, _, _, rfl, upd_same, paired2, .base (.int i), any_int, false, rfl, ?_⟩
      refine iteF' rfl ⟨_, rfl, rfl, _, rfl, iteF' rfl ⟨_, rfl, _, _, _, _, _, rfl, .ty "str", .base (.int i), kit_ty (r := false) (by decide +kernel), false, rfl, iteF' rfl ?_⟩⟩
      refine ⟨_, rfl, _, _, _, _, _, rfl, .ty "int", .base (.int i), kit_ty (r := true) (by decide +kernel), true, rfl, iteT' rfl ?_⟩
      refine ⟨_, rfl, _, _, _, _, _, rfl, .ty "bool", .base (.int i), kit_ty (r := false) (by decide +kernel), _, rfl, _, _, _, _, _, rfl, .ty "bool", .base (.int i), kit_ty (r := false) (by decide +kernel), rfl, _, rfl, iteT' rfl ?_⟩
      refine ⟨_, rfl, _, rfl, rfl, ?_⟩
      rw [decide_eq_true rfl]
      exact hQ _ gt
    | @tup a xs ks hx txs =>
      obtain ⟨a2, ys, rfl, hy, tys⟩ : ∃ a2 ys, y = .ref a2 ∧ SqT K H a2 ys ∧ TpAll K H ys ks := by
        cases ty with
        | @tup a2 ys _ h1 h2 => exact ⟨a2, ys, rfl, h1, h2⟩
      obtain ⟨hk1, hk2⟩ : ks.length ≤ 16000000 ∧ ∀ x ∈ ks, AlOk n x := hk
      have lx := txs.length
      have ly := tys.length
      refine ⟨_, _, _, _, _, _, rfl, upd_same, paired2, tyx_tup T (gt.sqT hy), any_tup, true, rfl, ?_⟩
      refine iteT' rfl ⟨_, rfl, by show 2 ≤ sizeLine; rw [sizeLine_eq]; omega, fun tp2 htp2 => ?_⟩
      have gt2 := gt.trans (Gr.new (o := .tup [V.ty "tuple", V.ty "list"]) htp2)
      refine ⟨_, _, _, _, _, _, rfl, upd_same, paired2, tyx_tup T (gt2.sqT hx), any_tup, true, rfl, ?_⟩
      refine iteF' rfl ⟨_, rfl, _, _, _, _, _, rfl, .ty "list", tyx_tup T (gt2.sqT hx), kit_ty (r := false) (by decide +kernel), _, rfl, _, _, _, _, _, rfl, .ty "list", tyx_tup T (gt2.sqT hy), kit_ty (r := false) (by decide +kernel), rfl, _, rfl, iteF' rfl ?_⟩
      refine ⟨_, rfl, a, xs, rfl, .inr (gt2.sqT hx), _, rfl, a2, ys, rfl, .inr (gt2.sqT hy), rfl, _, rfl, iteF' (by rw [lx, ly, decide_eq_true rfl]; rfl) ?_⟩
      refine ⟨_, rfl, a2, ys, rfl, .inr (gt2.sqT hy), ys.length, rfl, by omega, by omega, fun D hD => lc_range (lo := 0) (n := ys.length) (fun j H' => H' D = some (.lst []) ∧ Gr H H') ⟨upd_same, gt2.trans (Gr.new hD)⟩ ?_ ?_⟩
      · rintro j H1 hj ⟨h1, g1⟩
        have ej : V.int (0 + (j : Int)) = vN j := by simp
        rw [ej]
        have exj : xs[j]? = some (xs[j]'(by omega)) := List.getElem?_eq_getElem _
        have eyj : ys[j]? = some ys[j] := List.getElem?_eq_getElem hj
        obtain ⟨k1, ek1, tk1⟩ := txs.get exj
        obtain ⟨k2, ek2, tk2⟩ := tys.get eyj
        obtain rfl : k1 = k2 := by rw [ek1] at ek2; exact Option.some.inj ek2
        refine ⟨rfl, _, rfl, _, rfl, a, _, _, _, rfl, rfl, g1.sqT hx, atI_nat exj, _, rfl, _, rfl, a2, _, _, _, rfl, rfl, g1.sqT hy, atI_nat eyj, _, _, rfl, .inl ⟨k1, g1.tp tk1, g1.tp tk2, hk2 k1 (List.mem_of_getElem? ek1)⟩, fun H2 g2 => ⟨_, rfl, iteF' rfl ⟨g2.lst h1, g1.trans g2⟩⟩⟩
      · rintro H1 ⟨h1, g1⟩
        refine ⟨by show 0 ≤ sizeLine; exact Nat.zero_le _, fun e he => ?_⟩
        have ge := Gr.new (o := .lst []) he
        exact ⟨D, [], [], e, rfl, rfl, SqL.of (ge.lst h1), .nil, fun k hk => (by cases hk), SqL.of upd_same, hQ _ (g1.trans ge)⟩
  · refine ⟨_, _, _, _, _, _, rfl, upd_same, paired2, .base (.bl b), any_bool, false, rfl, ?_⟩
    refine iteF' rfl ⟨_, rfl, rfl, _, rfl, iteF' rfl ⟨_, rfl, _, _, _, _, _, rfl, .ty "str", .base (.bl b), kit_ty (r := false) (by decide +kernel), false, rfl, iteF' rfl ?_⟩⟩
    refine ⟨_, rfl, _, _, _, _, _, rfl, .ty "int", .base (.bl b), kit_ty (r := true) (by decide +kernel), true, rfl, iteT' rfl ?_⟩
    refine ⟨_, rfl, _, _, _, _, _, rfl, .ty "bool", .base (.bl b), kit_ty (r := true) (by decide +kernel), _, rfl, _, _, _, _, _, rfl, .ty "bool", .base (.bl b), kit_ty (r := true) (by decide +kernel), rfl, _, rfl, iteT' rfl ?_⟩
    refine ⟨_, rfl, _, rfl, rfl, ?_⟩
    rw [decide_eq_true rfl]
    exact hQ _ gt
theorem kp__law_alike (T : Tx K mg base) : ∀ n, Kp w K mg base "_law_alike" (n + 1) ["_law_found", "_law_due"] (spAl K n)
  | 0 => kp__law_alike0 T
  | n + 1 => kp__law_alikeS T n (kp__law_alike T n) (kp__law_alike0 T)
end
end SL
end

section
set_option Elab.async false
set_option linter.all false
set_option maxRecDepth 100000
set_option maxHeartbeats 4000000
/-! the law: its last statements (the counts) -/
namespace SL
open PySem PySem.Spec PyProof.Rows L2
def factN : Nat → Nat
  | 0 => 1
  | i + 1 => factN i * (i + 1)
def zerosB (r : List Nat) : Bool := decide ((r.filter fun k => k == 0).length < 2)
def warmN (m n : Nat) : Nat := ((shs (m - 1) n).filter zerosB).length
theorem counts_ok : ∀ a ∈ [3, 4, 5], ∀ n ∈ [2, 3, 4, 5, 6], allCount a n = (shs (n - 1) a).length * factN n ∧ arrCount a n = (if a ≤ n then warmN n a * factN (n - a) else 0) := by decide +kernel
theorem fact_le : ∀ i ≤ 6, factN i ≤ 720 := by decide +kernel
abbrev nLaw : List Str := ["_law_script", "_law_row", "_law_arms", "_law_length", "_law_lands", "_law_chart", "_law_far", "_law_every", "_law_one", "_law_other", "_law_walk_here", "_law_turns", "_law_more", "_law_here", "_law_there", "_law_many", "_law_due", "_law_counts", "_law_k", "_law_best", "_law_found", "_law_value", "_law_good", "_law_wide", "_law_some", "_law_whole", "_law_rest", "_law_warm"]
theorem sc_law : FnScope nLaw ["_law_script"] (defScope s_law) := ⟨rfl, rfl, rfl, by decide +kernel, rfl, by decide +kernel, by decide +kernel⟩
abbrev LX (w : World) (K : PySem.W.Frag) (mg : Str → Option Value) (base : Heap) (Ar : Around) (outer : List Env) (s : Shared) (H : Hp) (E : XK) : Cx := (cxOf CX0 P0 w K mg base nLaw "law" d_law.scope (He.ga K "law") (.ref (He.codeOf K ("law", none))) Ar outer s H E).nox
def scW1 : Scope := { kind := .function, names := [(".0", .local), ("_law_one", .local), ("len", .globalImplicit)], isGenerator := false, isCoroutine := false }
section
variable {w : World} {K : PySem.W.Frag} {mg : Str → Option Value} {base : Heap} {Ar : Around} {outer : List Env} {s : Shared} {H0 : Hp} {E : XK}
/-- where the last part begins -/
def PreD (K : PySem.W.Frag) (σ : L2.St) (H : Hp) : Prop := ∃ r x0 x2 x3 x4 x5 x6 x7 x8 x9 x10 x11 x12 x13 x14 x15 x16 x17 x18 x19 x20 x21 x22 x23 x24 x25 x26 x27, σ = [x0, some (.ref r), x2, x3, x4, x5, x6, x7, x8, x9, x10, x11, x12, x13, x14, x15, x16, x17, x18, x19, x20, x21, x22, x23, x24, x25, x26, x27] ∧ RowAt K H r
theorem law_D (T : Tx K mg base) (hr : Room 8 (LX w K mg base Ar outer s H0 E).A) (Ft : Kp w K mg base "_law_taken" 1 ["_law_row", "_law_many"] (spTk K)) (Fs : Kp w K mg base "_law_shares" 5 ["_law_many", "_law_arms"] (spLU K 5)) (Fl : Kp w K mg base "_law_alike" 6 ["_law_found", "_law_due"] (spAl K 5))
    (Fa : Kp w K mg base "all_arrangements" 3 ["arms", "lands"] spAll) (Fc : Kp w K mg base "arrangement_count" 3 ["arms", "lands"] spAC) :
    ∃ t, PSs (LX w K mg base Ar outer s H0 E) (d_law.body.drop 17) t ∧ ∀ (Q : VK) (σ : L2.St) (H : Hp), (∀ H', Q (.bl true) H') → PreD K σ H → t { nx := fun _ H' => Q .non H', rt := Q } σ H := by
  refine ⟨_, pss_cons (ps_par (i := 23) (j := 15) rfl sc_law.nd rfl rfl (by decide) rfl rfl (pa_cons (pe_op op_add pe_int (pe_k Ft rfl (hr.mono (by decide)) (pa_cons (pv 1) (pa1 pe_int)))) (pa1 (pe_op op_add pe_int (pe_k Ft rfl (hr.mono (by decide)) (pa_cons (pv 1) (pa1 pe_int)))))) rfl)
    (pss_cons (ps_par3 (i := 24) (j := 25) (l := 26) rfl sc_law.nd rfl rfl rfl (by decide) (by decide) (by decide) rfl rfl rfl (pa_cons (pe_k Fs rfl (hr.mono (by decide)) (pa_cons (pe_op op_sub (pv 15) pe_int) (pa1 (pv 23)))) (pa_cons pe_int (pa1 pe_int))) rfl)
    (pss_cons (ps_for PassesOwn.never rfl (pi_range2 (by rfl) (T.free "range") (pa_cons pe_int (pa1 (pe_op op_add (pv 15) pe_int)))) (pg_name (i := 18) sc_law.nd rfl (.inl rfl))
      (pss_one (ps_set (i := 25) sc_law.nd rfl (.inl rfl) (pe_op op_mul (pv 25) (pv 18)))))
    (pss_cons (ps_for PassesOwn.never rfl (pi_range2 (by rfl) (T.free "range") (pa_cons pe_int (pa1 (pe_op op_add (pe_op op_sub (pv 15) (pv 23)) pe_int)))) (pg_name (i := 18) sc_law.nd rfl (.inl rfl))
      (pss_one (ps_set (i := 26) sc_law.nd rfl (.inl rfl) (pe_op op_mul (pv 26) (pv 18)))))
    (pss_cons (ps_set (i := 27) sc_law.nd rfl (.inl rfl) (pe_callB call_len_seq (by rfl) (T.free "len") PySem.boot_len (pa1 (pe_lc (own := [("_law_one", 8)]) (g := gName 8) rfl sc_law.nd (pi_list (pv 24))
        (blkOk_by (N := nLaw) (sc := defScope s_law) (by decide +kernel)) (fun _ _ _ _ _ => pg_name (i := 8) sc_law.nd rfl (Or.inl rfl))
        (fun _ _ _ _ _ => pts_one (pt_cmpR op_lt (pe_callB (r := rLen K) cr_len (by rfl) (T.free "len") PySem.boot_len (pa1 (pe_lc (own := [("_law_k", 18)]) (wi := iTup K (tVar 8)) (g := gName 18) (te := tVar 18) rfl sc_law.nd (pi_tup (pv 8))
          (blkOk_by (N := nLaw) (sc := scW1) (by decide +kernel)) (fun _ _ _ _ _ => pg_name (i := 18) sc_law.nd rfl (Or.inl rfl)) (fun _ _ _ _ _ => pts_one (pt_cmpR op_eq (pv 18) pe_int (nomark _))) (fun _ _ _ _ _ => pv 18)))) pe_int (nomark _))) (fun _ _ _ _ _ => pv 8)))))
    (pss_cons (ps_if (pt_not (pt_val (pe_k Fl rfl (hr.mono (by decide)) (pa_cons (pe_k Fa rfl (hr.mono (by decide)) (pa_cons (pv 23) (pa1 (pv 15)))) (pa1 (pe_op op_mul (pe_callB call_len_seq (by rfl) (T.free "len") PySem.boot_len (pa1 (pv 24))) (pv 25))))))) (pss_one ps_never) pss_nil)
    (pss_one (ps_ret (pe_k Fl rfl (hr.mono (by decide)) (pa_cons (pe_k Fc rfl (hr.mono (by decide)) (pa_cons (pv 23) (pa1 (pv 15)))) (pa1 (pe_ifExp (pt_cmpR op_ge (pv 15) (pv 23) (nomark _)) (pe_op op_mul (pv 27) (pv 26)) pe_int))))))))))), ?_⟩
  rintro Q σ H hQ ⟨r, x0, x2, x3, x4, x5, x6, x7, x8, x9, x10, x11, x12, x13, x14, x15, x16, x17, x18, x19, x20, x21, x22, x23, x24, x25, x26, x27, rfl, hrow⟩
  have hAl : ∀ {H : Hp} (n : Nat), SameV K H 5 (vN n) (vN n) := fun n => .inl ⟨.num n, .num _, .num _, by unfold AlOk; trivial⟩
  refine ⟨_, rfl, r, 3, rfl, hrow, by decide, by decide, fun H1 i hb1 row1 hi => ?_⟩
  refine ⟨_, _, rfl, rfl, _, rfl, r, 5, rfl, row1, by decide, by decide, fun H2 j hb2 row2 hj => ?_⟩
  refine ⟨_, _, rfl, rfl, _, _, rfl, ?_⟩
  have es : ∀ x, (x = (3 + i) → x ∈ [3, 4, 5]) := fun x e => by
    have : x = 3 ∨ x = 4 ∨ x = 5 := by omega
    rcases this with rfl | rfl | rfl <;> simp
  have et : (2 + j) ∈ [2, 3, 4, 5, 6] := by
    have : j = 0 ∨ j = 1 ∨ j = 2 ∨ j = 3 ∨ j = 4 := by omega
    rcases this with rfl | rfl | rfl | rfl | rfl <;> simp
  obtain ⟨cnt1, cnt2⟩ := counts_ok (3 + i) (es _ rfl) (2 + j) et
  refine ⟨_, rfl, _, _, rfl, rfl, _, rfl, 3 + i, by omega, by omega, 1 + j, ?_, by omega, fun H3 p ys g3 hp h3p t3 => ?_⟩
  · show [V.int ((2 : Int) + (j : Int) - 1), V.int ((3 : Int) + (i : Int))] = [vN (1 + j), vN (3 + i)]
    have e1 : (2 : Int) + (j : Int) - 1 = ((1 + j : Nat) : Int) := by push_cast; omega
    have e2 : (3 : Int) + (i : Int) = ((3 + i : Nat) : Int) := by push_cast; rfl
    rw [e1, e2]
  have ly := t3.length
  rw [List.length_map] at ly
  have hsl := (sh_len (1 + j) (by omega) (3 + i) (by omega)).1
  refine ⟨_, _, _, rfl, ?_⟩
  -- whole
  refine ⟨_, rfl, _, _, rfl, rfl, 1, ((3 + j : Nat) : Int), ?_, ⟨by omega, by omega, by omega, by omega⟩, ?_⟩
  · show [V.int 1, V.int ((2 : Int) + (j : Int) + 1)] = [V.int 1, V.int ((3 + j : Nat) : Int)]
    have e1 : (2 : Int) + (j : Int) + 1 = ((3 + j : Nat) : Int) := by push_cast; omega
    rw [e1]
  have eN : (((3 + j : Nat) : Int) - 1).toNat = 2 + j := by omega
  rw [eN]
  refine for_range (lo := 1) (n := 2 + j) (fun t σ' H' => ∃ x18, σ' = [x0, some (.ref r), x2, x3, x4, x5, x6, x7, x8, x9, x10, x11, x12, x13, x14, some (vN (2 + j)), x16, x17, x18, x19, x20, x21, x22, some (vN (3 + i)), some (.ref p), some (vN (factN t)), some (vN 1), x27] ∧ H' = H3) ⟨_, rfl, rfl⟩ ?_ ?_
  · rintro t σ' H' ht ⟨x18, rfl, rfl⟩
    have hb := fact_le t (by omega)
    refine ⟨_, rfl, _, rfl, _, _, rfl, rfl, .inl ⟨by omega, by omega⟩, some (V.int (1 + (t : Int))), ?_, rfl⟩
    have e : (factN t : Int) * (1 + (t : Int)) = ((factN (t + 1) : Nat) : Int) := by
      show _ = ((factN t * (t + 1) : Nat) : Int)
      rw [Int.natCast_mul, Int.add_comm]
      rfl
    show _ = [x0, some (V.ref r), x2, x3, x4, x5, x6, x7, x8, x9, x10, x11, x12, x13, x14, some (vN (2 + j)), x16, x17, _, x19, x20, x21, x22, some (vN (3 + i)), some (V.ref p), some (V.int ((factN (t + 1) : Nat) : Int)), some (vN 1), x27]
    rw [← e]
    rfl
  rintro σ' H' ⟨x18, rfl, rfl⟩
  -- rest
  refine ⟨_, rfl, _, rfl, _, _, rfl, rfl, _, _, rfl, rfl, 1, (2 : Int) + (j : Int) - (3 + (i : Int)) + 1, rfl, ⟨by omega, by omega, by omega, by omega⟩, ?_⟩
  have eN2 : ((2 : Int) + (j : Int) - (3 + (i : Int)) + 1 - 1).toNat = (2 + j) - (3 + i) := by omega
  rw [eN2]
  refine for_range (lo := 1) (n := (2 + j) - (3 + i)) (fun t σ' H'' => ∃ x18, σ' = [x0, some (.ref r), x2, x3, x4, x5, x6, x7, x8, x9, x10, x11, x12, x13, x14, some (vN (2 + j)), x16, x17, x18, x19, x20, x21, x22, some (vN (3 + i)), some (.ref p), some (vN (factN (2 + j))), some (vN (factN t)), x27] ∧ H'' = H') ⟨_, rfl, rfl⟩ ?_ ?_
  · rintro t σ' H'' ht ⟨x18, rfl, rfl⟩
    have hb := fact_le t (by omega)
    refine ⟨_, rfl, _, rfl, _, _, rfl, rfl, .inl ⟨by omega, by omega⟩, some (V.int (1 + (t : Int))), ?_, rfl⟩
    have e : (factN t : Int) * (1 + (t : Int)) = ((factN (t + 1) : Nat) : Int) := by
      show _ = ((factN t * (t + 1) : Nat) : Int)
      rw [Int.natCast_mul, Int.add_comm]
      rfl
    show _ = [x0, some (V.ref r), x2, x3, x4, x5, x6, x7, x8, x9, x10, x11, x12, x13, x14, some (vN (2 + j)), x16, x17, _, x19, x20, x21, x22, some (vN (3 + i)), some (V.ref p), some (vN (factN (2 + j))), some (V.int ((factN (t + 1) : Nat) : Int)), x27]
    rw [← e]
    rfl
  rintro σ' H'' ⟨x18, rfl, rfl⟩
  -- warm
  have hrow5 := sh_row (1 + j) (by omega) (3 + i) (by omega)
  refine ⟨_, rfl, p, rfl, ⟨_, SqL.of h3p⟩, fun D hD => lc_list (xs := ys) (fun k H' => (∃ zs, H' D = some (.lst zs) ∧ zs.length = (((shs (1 + j) (3 + i)).take k).filter zerosB).length) ∧ Gr H'' H') ⟨⟨[], upd_same, rfl⟩, Gr.new hD⟩ (fun k H' _ h => SqL.of (h.2.lst h3p)) ?_ ?_⟩
  · rintro k y H4 hy ⟨⟨zs, h4, lz⟩, g4⟩
    obtain ⟨kc, ekc, ty⟩ := (g4.tps t3).get hy
    obtain ⟨rw', er, rfl⟩ : ∃ r, (shs (1 + j) (3 + i))[k]? = some r ∧ kNs r = kc := by
      rw [List.getElem?_map] at ekc
      cases e : (shs (1 + j) (3 + i))[k]? with
      | none => rw [e] at ekc; cases ekc
      | some z => rw [e] at ekc; exact ⟨z, rfl, Option.some.inj ekc⟩
    have hrl := (hrow5 rw' (List.mem_of_getElem? er)).2
    have hll := List.length_filter_le zerosB ((shs (1 + j) (3 + i)).take k)
    have hk := (List.getElem?_eq_some_iff.mp er).1
    rw [List.length_take] at hll
    obtain ⟨ra, rfl, hra⟩ : ∃ ra, y = .ref ra ∧ SqT K H4 ra (rw'.map vN) := by
      cases ty with
      | @tup a xs _ h1 h2 =>
        refine ⟨a, rfl, ?_⟩
        have : xs = rw'.map vN := by
          have h2' : TpAll K H4 xs ((rw'.map fun n : Nat => (n : Int)).map NestedKey.num) := by rw [List.map_map]; exact h2
          rw [TpAll.ints_inv h2', List.map_map]
          rfl
        rw [← this]
        exact h1
    refine ⟨rfl, _, rfl, ra, rfl, ⟨_, hra⟩, fun D2 hD2 => lc_tup (xs := rw'.map vN) (fun q H' => H' D2 = some (.lst (((rw'.take q).filter fun k => k == 0).map vN)) ∧ Gr H4 H') ⟨upd_same, Gr.new hD2⟩ (fun q H' _ h => h.2.sqT hra) ?_ ?_⟩
    · rintro q z H5 hz ⟨h5, g5⟩
      obtain ⟨n, en, rfl⟩ := vN_get hz
      have hll2 := List.length_filter_le (fun k => k == 0) (rw'.take q)
      rw [List.length_take] at hll2
      rw [filter_take_succ _ en]
      refine ⟨rfl, _, rfl, rfl, _, rfl, ?_⟩
      by_cases hn : n = 0
      · refine iteT' (by show decide (vN n = vN 0) = true; exact decide_eq_true (vN_eq.mpr hn)) ⟨_, rfl, _, h5, by rw [List.length_map, sizeLine_eq]; omega, ?_, Gr.put g5 hD2⟩
        rw [upd_same, if_pos (by simp [hn]), List.map_append]
        rfl
      · refine iteF' (by show decide (vN n = vN 0) = false; exact decide_eq_false fun e => hn (vN_eq.mp e)) ⟨?_, g5⟩
        rw [if_neg (by simp [hn]), List.append_nil]
        exact h5
    · rintro H5 ⟨h5, g5⟩
      rw [List.length_map, List.take_length] at h5
      refine ⟨D2, _, rfl, .inl (SqL.of h5), _, _, rfl, rfl, _, rfl, ?_⟩
      rw [List.length_map, filter_take_succ _ er, List.length_append]
      have g45 := g4.trans g5
      by_cases hz : (rw'.filter fun k => k == 0).length < 2
      · refine iteT' (decide_eq_true (by omega)) ⟨_, rfl, zs, g5.lst h4, by rw [lz, sizeLine_eq]; omega, ⟨_, upd_same, ?_⟩, Gr.put g45 hD⟩
        rw [if_pos (show zerosB rw' = true from decide_eq_true hz), List.length_append, lz]
        rfl
      · refine iteF' (decide_eq_false (by omega)) ⟨⟨zs, g5.lst h4, ?_⟩, g45⟩
        rw [if_neg (show ¬ zerosB rw' = true from by unfold zerosB; rw [decide_eq_false hz]; exact Bool.false_ne_true), lz]
        rfl
  rintro H4 ⟨⟨zs, h4, lz⟩, g4⟩
  rw [ly, List.take_length] at lz
  refine ⟨D, zs, rfl, .inl (SqL.of h4), ?_⟩
  have hwarm : zs.length = warmN (2 + j) (3 + i) := by
    rw [lz]
    unfold warmN
    rw [show 2 + j - 1 = 1 + j by omega]
  have hwl : zs.length ≤ 1000 := by
    have := List.length_filter_le zerosB (shs (1 + j) (3 + i))
    omega
  -- all_arrangements
  refine ⟨_, rfl, _, rfl, 3 + i, 2 + j, rfl, by omega, by omega, by omega, by omega, fun H5 g5 => ?_⟩
  have g45 := g4.trans g5
  have hf1 := fact_le (2 + j) (by omega)
  refine ⟨_, rfl, p, ys, rfl, .inl (SqL.of (g45.lst h3p)), _, rfl, _, _, rfl, rfl, .inr ⟨by omega, by omega⟩, _, _, rfl, ?_, fun H6 g6 => ?_⟩
  · have e : (ys.length : Int) * (factN (2 + j) : Int) = ((allCount (3 + i) (2 + j) : Nat) : Int) := by
      rw [cnt1, ly, show 2 + j - 1 = 1 + j by omega]
      push_cast
      rfl
    show SameV K H5 5 (vN (allCount (3 + i) (2 + j))) (V.int ((ys.length : Int) * (factN (2 + j) : Int)))
    rw [e]
    exact hAl _
  refine ⟨_, rfl, iteF' rfl ?_⟩
  refine ⟨_, rfl, _, rfl, 3 + i, 2 + j, rfl, by omega, by omega, by omega, by omega, fun H7 g7 => ?_⟩
  have hf2 := fact_le ((2 + j) - (3 + i)) (by omega)
  refine ⟨_, rfl, _, rfl, _, _, rfl, rfl, _, rfl, ?_⟩
  by_cases hge : 3 + i ≤ 2 + j
  · refine iteT' (by show decide (((3 + i : Nat) : Int) ≤ ((2 + j : Nat) : Int)) = true; exact decide_eq_true (by omega)) ?_
    refine ⟨_, rfl, _, rfl, _, _, rfl, rfl, .inr ⟨by omega, by omega⟩, _, _, rfl, ?_, fun H8 g8 => hQ H8⟩
    have e : (zs.length : Int) * (factN (2 + j - (3 + i)) : Int) = ((arrCount (3 + i) (2 + j) : Nat) : Int) := by
      rw [cnt2, if_pos hge, hwarm]
      push_cast
      rfl
    show SameV K _ 5 (vN (arrCount (3 + i) (2 + j))) (V.int ((zs.length : Int) * (factN (2 + j - (3 + i)) : Int)))
    rw [e]
    exact hAl _
  · refine iteF' (by show decide (((3 + i : Nat) : Int) ≤ ((2 + j : Nat) : Int)) = false; exact decide_eq_false (by omega)) ?_
    refine ⟨_, _, rfl, ?_, fun H8 g8 => hQ H8⟩
    show SameV K _ 5 (vN (arrCount (3 + i) (2 + j))) (vN 0)
    rw [cnt2, if_neg hge]
    exact hAl 0
end
end SL
end

section
set_option Elab.async false
set_option linter.all false
set_option maxRecDepth 100000
set_option maxHeartbeats 4000000
/-! the law: degree_counts, freest, shows_freest -/
namespace SL
open PySem PySem.Spec PyProof.Rows L2
theorem perm_of {l r : List Ch} (h1 : l.Nodup) (h2 : r.Nodup) (h : ∀ x, x ∈ l ↔ x ∈ r) : l.Perm r := (List.perm_ext_iff_of_nodup h1 h2).mpr h
theorem maxL_perm {a b : List Nat} (h : a.Perm b) : maxL a = maxL b := by
  by_cases ha : a = []
  · subst ha
    rw [List.nil_perm.mp h]
  · have hb : b ≠ [] := fun e => ha (by subst e; exact List.perm_nil.mp h)
    refine maxL_of (h.mem_iff.mpr (maxL_in hb)) fun y hy => le_maxL (h.mem_iff.mp hy)
theorem degRow_perm {a b : List Nat} (h : a.Perm b) : degRow a = degRow b := by
  unfold degRow
  rw [maxL_perm h]
  refine List.map_congr_left fun k _ => h.count_eq k
/-- what the law knows of the class of m: its maps in a row -/
structure EvOk (m : Ch) (ev : List Ch) : Prop where
  nd : ev.Nodup
  mem : ∀ x, x ∈ ev ↔ Rch nextsOf [m] x
/-- the values that are shown -/
def ValOk (K : PySem.W.Frag) (A best : Nat) (ev : List Ch) (H : Hp) (v : V) : Prop := NoTup H v ∨ ∃ q n y, v = .ref q ∧ SqT K H q [vN n, y] ∧ ((n ≠ best ∧ ∃ x, Tp K H y (kCh x)) ∨ (n = best ∧
  ((∃ l vs, y = .ref l ∧ H l = some (.lst vs)) ∨ (∃ c b, y = .ref c ∧ SqT K H c [vN A, .ref b] ∧ SqT K H b []) ∨ (∃ x, Tp K H y (kCh x) ∧ x ∈ ev))))
theorem ValOk.gr {K : PySem.W.Frag} {A best : Nat} {ev : List Ch} {H H' : Hp} {v : V} (g : Gr H H') (h : ValOk K A best ev H v) : ValOk K A best ev H' v := by
  rcases h with h | ⟨q, n, y, e, hq, h⟩
  · exact .inl (h.gr g)
  · refine .inr ⟨q, n, y, e, g.sqT hq, ?_⟩
    rcases h with ⟨h, x, tx⟩ | ⟨h, h2⟩
    · exact .inl ⟨h, x, g.tp tx⟩
    · refine .inr ⟨h, ?_⟩
      rcases h2 with ⟨l, vs, e, h⟩ | ⟨c, b, e, h1, h2⟩ | ⟨x, tx, hx⟩
      · exact .inl ⟨l, vs, e, g.lst h⟩
      · exact .inr (.inl ⟨c, b, e, g.sqT h1, g.sqT h2⟩)
      · exact .inr (.inr ⟨x, g.tp tx, hx⟩)
theorem ValOk.lput {K : PySem.W.Frag} {A best : Nat} {ev : List Ch} {H : Hp} {v : V} {p : Addr} {xs ys : List V} (e : H p = some (.lst xs)) (h : ValOk K A best ev H v) : ValOk K A best ev (upd H p (.lst ys)) v := by
  have hb : ∀ b, b ≠ p → upd H p (.lst ys) b = H b := fun b hb => upd_ne hb
  have sq : ∀ {a zs}, SqT K H a zs → SqT K (upd H p (.lst ys)) a zs := fun {a zs} h => by
    rcases h with z | z
    · have ha : a ≠ p := fun ea => not_tup_lst e zs (ea ▸ z)
      rcases z with z | ⟨o, z⟩
      · exact .inl (.inl (by rw [hb a ha]; exact z))
      · exact .inl (.inr ⟨o, by rw [hb a ha]; exact z⟩)
    · exact .inr z
  have tpb : ∀ {v k}, Tp K H v k → Tp K (upd H p (.lst ys)) v k := fun {v k} h => tp_but hb (not_tup_lst e) h
  have lb : ∀ {l vs}, H l = some (.lst vs) → ∃ vs, upd H p (.lst ys) l = some (.lst vs) := fun {l vs} h => by
    by_cases hl : l = p
    · exact ⟨ys, by rw [hl]; exact upd_same⟩
    · exact ⟨vs, by rw [hb l hl]; exact h⟩
  rcases h with h | ⟨q, n, y, ev, hq, h⟩
  · refine .inl ?_
    rcases h with ⟨l, vs, ev, h⟩ | h
    · obtain ⟨vs', h'⟩ := lb h
      exact .inl ⟨l, vs', ev, h'⟩
    · exact .inr h
  · refine .inr ⟨q, n, y, ev, sq hq, ?_⟩
    rcases h with ⟨h, x, tx⟩ | ⟨h, h2⟩
    · exact .inl ⟨h, x, tpb tx⟩
    · refine .inr ⟨h, ?_⟩
      rcases h2 with ⟨l, vs, ev, h⟩ | ⟨c, b, ev, h1, h2⟩ | ⟨x, tx, hx⟩
      · obtain ⟨vs', h'⟩ := lb h
        exact .inl ⟨l, vs', ev, h'⟩
      · exact .inr (.inl ⟨c, b, ev, sq h1, sq h2⟩)
      · exact .inr (.inr ⟨x, tpb tx, hx⟩)
theorem arm_not_in {A : Nat} {ev : List Ch} (h : ∀ x ∈ ev, x.2 ≠ []) : NestedKey.tup [kN A, .tup []] ∉ ev.map kCh := fun z => by
  obtain ⟨x, hx, e⟩ := List.mem_map.mp z
  unfold kCh at e
  injection e with e
  injection e with e1 e2
  injection e2 with e2
  injection e2 with e2
  exact h x hx (List.map_eq_nil_iff.mp e2)
section
variable {w : World} {K : PySem.W.Frag} {mg : Str → Option Value} {base : Heap} {Ar : Around} {outer : List Env} {s : Shared} {H0 : Hp} {E : XK}
/-- where the third part begins -/
def PreC (w : World) (K : PySem.W.Frag) (σ : L2.St) (H : Hp) : Prop := ∃ r v e xs m A L ev x0 x3 x4 x6 x8 x9 x10 x11 x12 x13 x14 x15 x16 x17 x18 x19 x20 x21 x22 x23 x24 x25 x26 x27, σ = [x0, some (.ref r), some (vN A), x3, x4, some v, x6, some (.ref e), x8, x9, x10, x11, x12, x13, x14, x15, x16, x17, x18, x19, x20, x21, x22, x23, x24, x25, x26, x27] ∧
  RowAt K H r ∧ Tabs K H ∧ ClsOk w A L m ∧ EvOk m ev ∧ Tp K H v (kCh m) ∧ H e = some (.lst xs) ∧ TpAll K H xs (ev.map kCh)
theorem law_C (T : Tx K mg base) (hr : Room 8 (LX w K mg base Ar outer s H0 E).A) (Fl : Kp w K mg base "_law_alike" 6 ["_law_found", "_law_due"] (spAl K 5)) (Ft : Kp w K mg base "_law_takings" 3 ["_law_chart"] (spTks2 K))
    (Fd : Kp w K mg base "degree_counts" 7 ["chart"] (spDeg K)) (Ff : Kp w K mg base "freest" 7 ["chart"] (spMost K)) (Fs : Kp w K mg base "shows_freest" 7 ["chart", "value"] (spShows K))
    {tD : TS} (hD : PSs (LX w K mg base Ar outer s H0 E) (d_law.body.drop 17) tD) (qD : ∀ (Q : VK) (σ : L2.St) (H : Hp), (∀ H', Q (.bl true) H') → PreD K σ H → tD { nx := fun _ H' => Q .non H', rt := Q } σ H) :
    ∃ t, PSs (LX w K mg base Ar outer s H0 E) (d_law.body.drop 12) t ∧ ∀ (Q : VK) (σ : L2.St) (H : Hp), (∀ H', Q (.bl true) H') → PreC w K σ H → t { nx := fun _ H' => Q .non H', rt := Q } σ H := by
  refine ⟨_, pss_cons (ps_set (i := 17) sc_law.nd rfl (.inr rfl) (pe_lc (own := [("_law_one", 8)]) (g := gName 8) (tt := tYes) rfl sc_law.nd (pi_list (pv 7))
        (blkOk_by (N := nLaw) (sc := defScope s_law) (by decide +kernel)) (fun _ _ _ _ _ => pg_name (i := 8) sc_law.nd rfl (Or.inl rfl)) (fun _ _ _ _ _ => pts_nil) (fun _ _ _ _ _ => pe_callB (r := rLen K) cr_len (by rfl) (T.free "len") PySem.boot_len (pa1 (pe_k Ft rfl (hr.mono (by decide)) (pa1 (pv 8)))))))
    (pss_cons (ps_if (pt_not (pt_val (pe_k Fl rfl (hr.mono (by decide)) (pa_cons (pe_k Fd rfl (hr.mono (by decide)) (pa1 (pv 5))) (pa1 (pe_tupleOf (by rfl) (T.free "tuple") (pe_lc (own := [("_law_k", 18)]) (g := gName 18) (tt := tYes) (te := tBM K "list" (rCntI K) (tVar 17) (tCons (tVar 18) tNil)) rfl sc_law.nd (pi_range1 (by rfl) (T.free "range") (pa1 (pe_op op_add (pe_callB (cr_maxNs rfl (units16 hr)) (by rfl) (T.free "max") (by decide +kernel) (pa1 (pv 17))) pe_int)))
        (blkOk_by (N := nLaw) (sc := defScope s_law) (by decide +kernel)) (fun _ _ _ _ _ => pg_name (i := 18) sc_law.nd rfl (Or.inl rfl)) (fun _ _ _ _ _ => pts_nil) (fun _ _ _ _ _ => pe_bm (r := rCntI K) PySem.F.plainAttrs_list PySem.F.slot_list_count PySem.F.type_list_count mt_lcount (pv 17) (pa1 (pv 18)))))))))) (pss_one ps_never) pss_nil)
    (pss_cons (ps_asg (pe_tup (pa_cons (pe_callB (cr_maxNs rfl (units16 hr)) (by rfl) (T.free "max") (by decide +kernel) (pa1 (pv 17))) (pa1 (pe_k Ff rfl (hr.mono (by decide)) (pa1 (pv 5)))))) (pg_tup (by rfl) (pgs_cons (pg_name (i := 19) sc_law.nd rfl (.inr rfl)) (pgs_cons (pg_name (i := 20) sc_law.nd rfl (.inl rfl)) pgs_nil))))
    (pss_cons (ps_if (PW.pt (pw_or (pt_not (pt_val (pe_callB call_isi (by rfl) (T.free "isinstance") (by decide +kernel) (pa_cons (pv 20) (pa1 (pe_bltn (v := .ty "tuple") (by rfl) (T.free "tuple") (by decide +kernel) rfl))))))
        (pw_or (pt_cmpR op_ne (pe_callB call_len_seq (by rfl) (T.free "len") PySem.boot_len (pa1 (pv 20))) pe_int (nomark _))
        (pw_or (pt_cmpR op_ne (pe_ix ix_tup (pv 20) pe_int (fun _ _ => rfl)) (pv 19) (nomark _))
        (pw_or (pt_cmpR (op_notinK (units65 hr)) (pe_ix ix_tup (pv 20) pe_int (fun _ _ => rfl)) (pv 7) rfl)
        (pw_or1 (pt_cmpR op_ne (pe_ix ix_list (pv 17) (pe_bm PySem.F.plainAttrs_list PySem.F.slot_list_index PySem.F.type_list_index (mt_indexK (units65 hr)) (pv 7) (pa1 (pe_ix ix_tup (pv 20) pe_int (fun _ _ => rfl)))) (fun _ _ => rfl)) (pv 19) (nomark _)))))))) (pss_one ps_never) pss_nil)
    (pss_cons (ps_for PassesOwn.never rfl (pi_list (pe_op op_cat (pe_lst (pa_cons (pv 20) (pa_cons (pe_callTy call_listS (by rfl) (T.free "list") (by decide +kernel) (pa1 (pv 20))) (pa_cons (pe_tup (pa_cons (pe_op op_add (pv 19) pe_int) (pa1 (pe_ix ix_tup (pv 20) pe_int (fun _ _ => rfl)))))
          (pa_cons (pe_tup (pa_cons (pv 19) (pa1 (pe_callTy call_listS (by rfl) (T.free "list") (by decide +kernel) (pa1 (pe_ix ix_tup (pv 20) pe_int (fun _ _ => rfl))))))) (pa_cons (pe_tup (pa_cons (pv 19) (pa1 (pe_tup (pa_cons (pv 2) (pa1 (pe_tup pa_nil))))))) (pa_cons pe_non (pa1 pe_int))))))))
        (pe_lc (own := [("_law_one", 8)]) (g := gName 8) (tt := tYes) rfl sc_law.nd (pi_list (pe_slice sl_list (pv 7) po_none (po_some pe_int)))
          (blkOk_by (N := nLaw) (sc := defScope s_law) (by decide +kernel)) (fun _ _ _ _ _ => pg_name (i := 8) sc_law.nd rfl (Or.inl rfl)) (fun _ _ _ _ _ => pts_nil) (fun _ _ _ _ _ => pe_tup (pa_cons (pv 19) (pa1 (pv 8))))))) (pg_name (i := 21) sc_law.nd rfl (.inl rfl))
      (pss_cons (ps_set (i := 22) sc_law.nd rfl (.inl rfl) (pe_and (pe_callB call_isi (by rfl) (T.free "isinstance") (by decide +kernel) (pa_cons (pv 21) (pa1 (pe_bltn (v := .ty "tuple") (by rfl) (T.free "tuple") (by decide +kernel) rfl))))
        (pe_and (pe_cmpR op_eq (pe_callB call_len_seq (by rfl) (T.free "len") PySem.boot_len (pa1 (pv 21))) pe_int (nomark _))
        (pe_and (pe_cmpR op_eq (pe_ix ix_tup (pv 21) pe_int (fun _ _ => rfl)) (pv 19) (nomark _))
        (pe_one (pe_callB call_isi (by rfl) (T.free "isinstance") (by decide +kernel) (pa_cons (pe_ix ix_tup (pv 21) pe_int (fun _ _ => rfl)) (pa1 (pe_bltn (v := .ty "tuple") (by rfl) (T.free "tuple") (by decide +kernel) rfl)))))))))
      (pss_cons (ps_set (i := 22) sc_law.nd rfl (.inl rfl) (pe_and (pv 22) (pe_and (pe_cmpR (op_inK (units65 hr)) (pe_ix ix_tup (pv 21) pe_int (fun _ _ => rfl)) (pv 7) rfl)
        (pe_one (pe_cmpR op_eq (pe_ix ix_list (pv 17) (pe_bm PySem.F.plainAttrs_list PySem.F.slot_list_index PySem.F.type_list_index (mt_indexK (units65 hr)) (pv 7) (pa1 (pe_ix ix_tup (pv 21) pe_int (fun _ _ => rfl)))) (fun _ _ => rfl)) (pv 19) (nomark _))))))
      (pss_one (ps_if (pt_not (pt_val (pe_k Fl rfl (hr.mono (by decide)) (pa_cons (pe_k Fs rfl (hr.mono (by decide)) (pa_cons (pv 5) (pa1 (pv 21)))) (pa1 (pv 22)))))) (pss_one ps_never) pss_nil)))))
    hD)))), ?_⟩
  rintro Q σ H hQ ⟨r, v, e, xs, m, A, L, ev, x0, x3, x4, x6, x8, x9, x10, x11, x12, x13, x14, x15, x16, x17, x18, x19, x20, x21, x22, x23, x24, x25, x26, x27, rfl, hrow, hT, C, EV, hv, he, te⟩
  obtain ⟨ndE, hE⟩ := EV
  have le := te.length
  rw [List.length_map] at le
  have few := C.few ev ndE fun x hx => (hE x).mp hx
  have hme : m ∈ ev := (hE m).mpr (.base (by simp))
  have okm := C.ok m (.base (by simp))
  have hevd : ∀ z ∈ ev.map kCh, z.depth ≤ 8 := fun z hz => by
    obtain ⟨x, _, rfl⟩ := List.mem_map.mp hz
    exact ch_depth x
  have ndK : (ev.map kCh).Nodup := nodup_map ndE fun e => kCh_inj e
  -- counts
  refine ⟨_, rfl, e, rfl, ⟨_, SqL.of he⟩, fun D hD => lc_list (xs := xs) (fun i H' => H' D = some (.lst (((ev.take i).map degOf).map vN)) ∧ Gr H H') ⟨upd_same, Gr.new hD⟩ (fun i H' _ h => SqL.of (h.2.lst he)) ?_ ?_⟩
  · rintro i x H3 hx ⟨h3, g3⟩
    obtain ⟨hc, ehc, tx⟩ := tpCh_get (g3.tps te) hx
    have hshp := (C.ok hc ((hE hc).mp (List.mem_of_getElem? ehc))).toShp
    have hi := (List.getElem?_eq_some_iff.mp ehc).1
    refine ⟨rfl, _, rfl, _, hc, A, L, rfl, tx, hshp, fun H4 q ys g4 hq h4q t4 => ?_⟩
    refine ⟨q, ys, rfl, .inl (SqL.of h4q), _, g4.lst h3, by rw [List.length_map, List.length_map, List.length_take]; omega, ?_, Gr.put (g3.trans g4) hD⟩
    have e2 : ys.length = degOf hc := by have := t4.length; rw [List.length_map] at this; exact this
    rw [upd_same, List.take_add_one, ehc, e2]
    simp
  rintro H3 ⟨h3, g3⟩
  rw [le, List.take_length] at h3
  have hne2 : ev.map degOf ≠ [] := fun z => by
    have := List.map_eq_nil_iff.mp z
    rw [this] at hme
    cases hme
  have hmx : maxL (ev.map degOf) ≤ 52 := by
    obtain ⟨x, hx, e⟩ := List.mem_map.mp (maxL_in hne2)
    rw [← e]
    exact takings_len (C.ok x ((hE x).mp hx)).toShp
  have hDl : (ev.map degOf).length = ev.length := List.length_map ..
  generalize hDg : ev.map degOf = Dg at h3 hne2 hmx hDl
  -- degree_counts
  refine ⟨_, rfl, _, m, A, L, rfl, g3.tp hv, hT.gr g3, okm, C.clos, fun found ndF hF H4 p4 g4 t4 => ?_⟩
  have g34 := g3.trans g4
  have h4 := g4.lst h3
  refine ⟨_, rfl, D, Dg, rfl, .inl (SqL.of h4), hne2, _, _, rfl, rfl, maxL Dg + 1, rfl, by omega, by omega, fun D2 hD2 => lc_range (lo := 0) (n := maxL Dg + 1) (fun j H' => H' D2 = some (.lst (((List.range j).map fun k => Dg.count k).map vN)) ∧ Gr H4 H') ⟨upd_same, Gr.new hD2⟩ ?_ ?_⟩
  · rintro j H5 hj ⟨h5, g5⟩
    have ej : V.int (0 + (j : Int)) = vN j := by simp
    rw [ej]
    refine ⟨rfl, _, rfl, .inl ⟨rfl, _, SqL.of (g5.lst h4)⟩, _, rfl, D, Dg.map fun n : Nat => (n : Int), (j : Int), rfl, rfl, SqL.of (by rw [g5.lst h4, List.map_map]; rfl), ?_⟩
    rw [count_vN]
    refine ⟨_, h5, by simp [sizeLine_eq]; omega, ?_, Gr.put g5 hD2⟩
    rw [upd_same, List.range_succ]
    simp
  rintro H5 ⟨h5, g5⟩
  refine .inl ⟨D2, _, rfl, SqL.of h5, fun q5 hq5 => ?_⟩
  have gq5 := Gr.new (o := .tup (((List.range (maxL Dg + 1)).map fun k => Dg.count k).map vN)) hq5
  have g45 := g5.trans gq5
  have erow : degRow (found.map degOf) = (List.range (maxL Dg + 1)).map fun k => Dg.count k := by
    rw [← hDg]
    exact degRow_perm ((perm_of ndF ndE fun x => (hF x).trans (hE x).symm).map _)
  refine ⟨_, _, rfl, .inl ⟨kNs (degRow (found.map degOf)), g45.tp t4, ?_, ?_⟩, fun H6 g6 => ⟨_, rfl, iteF' rfl ?_⟩⟩
  · rw [erow]
    exact tp_nums (.inl (.inl upd_same))
  · show AlOk 5 (.tup _)
    refine ⟨?_, fun x hx => ?_⟩
    · rw [erow, List.length_map, List.length_map, List.length_range]
      omega
    · obtain ⟨n, _, rfl⟩ := List.mem_map.mp hx
      unfold AlOk
      trivial
  have gH6 := (g34.trans g45).trans g6
  have h6 := (g45.trans g6).lst h4
  -- best, found
  refine ⟨_, rfl, D, Dg, rfl, .inl (SqL.of h6), hne2, _, rfl, _, m, A, L, rfl, gH6.tp hv, hT.gr gH6, okm, C.clos, fun H7 y x g7 ty htop => ?_⟩
  refine ⟨by show 2 ≤ sizeLine; rw [sizeLine_eq]; omega, fun tp htp => ?_⟩
  have gtp := Gr.new (o := .tup [vN (maxL Dg), y]) htp
  refine ⟨tp, _, rfl, .inl (.inl upd_same), rfl, _, _, rfl, _, _, rfl, rfl, ?_⟩
  have gH8 := (gH6.trans g7).trans gtp
  have h8 := (g7.trans gtp).lst h6
  have ty8 := gtp.tp ty
  have hxe : x ∈ ev := (hE x).mpr htop.1
  have hbest : maxL Dg = degOf x := by
    refine maxL_of ?_ fun z hz => ?_
    · rw [← hDg]; exact List.mem_map.mpr ⟨x, hxe, rfl⟩
    · rw [← hDg] at hz
      obtain ⟨z', hz', rfl⟩ := List.mem_map.mp hz
      exact htop.ge ((hE z').mp hz')
  obtain ⟨q, cy, rfl, hq, tcy⟩ : ∃ q cy, y = .ref q ∧ SqT K (upd H7 tp (.tup [vN (maxL Dg), y])) q [vN (degOf x), cy] ∧ Tp K (upd H7 tp (.tup [vN (maxL Dg), y])) cy (kCh x) := by
    unfold kDeg at ty8
    generalize upd H7 tp (.tup [vN (maxL Dg), y]) = HH at ty8
    cases ty8 with
    | @tup a ys _ h1 h2 =>
      cases h2 with
      | cons t1 t2 =>
        cases t2 with
        | cons t2 t3 =>
          cases t3
          cases t1
          exact ⟨a, _, rfl, h1, t2⟩
  generalize upd H7 tp (.tup [vN (maxL Dg), V.ref q]) = H8 at gtp gH8 h8 ty8 hq tcy
  have hxj : ∀ z ∈ ev, ∃ j, ev[j]? = some z ∧ Dg[j]? = some (degOf z) := fun z hz => by
    obtain ⟨j, hj, e⟩ := List.getElem_of_mem hz
    refine ⟨j, by rw [List.getElem?_eq_getElem hj, e], ?_⟩
    rw [← hDg, List.getElem?_map, List.getElem?_eq_getElem hj, e]
    rfl
  have e1 : ∀ (n : Nat) (y : V), atI ([vN n, y] : List V) 1 = some y := fun _ _ => atI_nat (j := 1) rfl
  -- the answer is of the class
  refine ⟨_, rfl, _, _, _, _, _, rfl, .ty "tuple", tyx_tup T hq, kit_ty (r := true) (by decide +kernel), true, rfl, ?_⟩
  refine iteF' rfl ⟨_, rfl, q, _, rfl, .inr hq, rfl, _, rfl, iteF' rfl ?_⟩
  refine ⟨_, rfl, q, _, _, _, rfl, rfl, hq, atI_nat (j := 0) rfl, _, rfl, rfl, _, rfl, iteF' (by show (!decide (vN (degOf x) = vN (maxL Dg))) = false; rw [decide_eq_true (vN_eq.mpr hbest.symm)]; rfl) ?_⟩
  refine ⟨_, rfl, q, _, _, _, rfl, rfl, hq, e1 _ _, _, rfl, kCh x, e, xs, ev.map kCh, rfl, tcy, SqL.of (gH8.lst he), gH8.tps te, ch_depth _, hevd, _, rfl, iteF' (by rw [decide_eq_true (List.mem_map.mpr ⟨x, hxe, rfl⟩)]; rfl) ?_⟩
  obtain ⟨jx, ejx, edx⟩ := hxj x hxe
  refine ⟨_, rfl, _, rfl, .inl ⟨rfl, _, SqL.of (gH8.lst he)⟩, _, rfl, q, _, _, _, rfl, rfl, hq, e1 _ _, e, _, xs, kCh x, ev.map kCh, jx, rfl, rfl, SqL.of (gH8.lst he), gH8.tps te, tcy, ch_depth _, hevd, by rw [List.getElem?_map, ejx]; rfl, ndK, ?_⟩
  refine ⟨D, _, _, _, rfl, rfl, SqL.of h8, atI_nat (by rw [List.getElem?_map, edx]; rfl), _, rfl, rfl, _, rfl, iteF' (by show (!decide (vN (degOf x) = vN (maxL Dg))) = false; rw [decide_eq_true (vN_eq.mpr hbest.symm)]; rfl) ?_⟩
  -- the values
  obtain ⟨cc, cb, rfl, hcc, hcb⟩ := ch_at tcy
  have len2 : 2 ≤ sizeLine := by rw [sizeLine_eq]; omega
  refine ⟨_, rfl, _, rfl, q, _, rfl, .inr hq, fun l1 hl1 => ?_⟩
  have k1 := Gr.new (o := .lst [vN (degOf x), .ref cc]) hl1
  refine ⟨_, rfl, _, _, rfl, rfl, _, rfl, q, _, _, _, rfl, rfl, k1.sqT hq, e1 _ _, len2, fun t1 ht1 => ?_⟩
  have k2 := k1.trans (Gr.new (o := .tup [V.int ((maxL Dg : Int) + 1), .ref cc]) ht1)
  refine ⟨_, rfl, _, rfl, q, _, _, _, rfl, rfl, k2.sqT hq, e1 _ _, cc, _, rfl, .inr (k2.sqT hcc), fun l2 hl2 => ?_⟩
  have k3 := k2.trans (Gr.new (o := .lst [vN x.1, .ref cb]) hl2)
  refine ⟨len2, fun t2 ht2 => ?_⟩
  have k4 := k3.trans (Gr.new (o := .tup [vN (maxL Dg), .ref l2]) ht2)
  refine ⟨_, rfl, _, rfl, by show 0 ≤ sizeLine; exact Nat.zero_le _, fun u0 hu0 => ⟨len2, fun u1 hu1 => ⟨len2, fun t3 ht3 => ?_⟩⟩⟩
  have k5 := k4.trans (Gr.new (o := .tup []) hu0)
  have k6 := k5.trans (Gr.new (o := .tup [vN A, .ref u0]) hu1)
  have k7 := k6.trans (Gr.new (o := .tup [vN (maxL Dg), .ref u1]) ht3)
  have f1 := (Gr.new (o := .lst [vN (degOf x), .ref cc]) hl1)
  generalize hHa : upd _ t3 (.tup [vN (maxL Dg), .ref u1]) = Ha at k7
  have v0 : ValOk K A (maxL Dg) ev Ha (.ref q) := .inr ⟨q, degOf x, .ref cc, rfl, k7.sqT hq, .inr ⟨hbest.symm, .inr (.inr ⟨x, k7.tp tcy, hxe⟩)⟩⟩
  have v1 : ValOk K A (maxL Dg) ev Ha (.ref l1) := .inl (.inl ⟨l1, _, rfl, by
    rw [← hHa]
    exact (((((((Gr.new (o := .tup [V.int ((maxL Dg : Int) + 1), .ref cc]) ht1).trans (Gr.new (o := .lst [vN x.1, .ref cb]) hl2)).trans (Gr.new (o := .tup [vN (maxL Dg), .ref l2]) ht2)).trans (Gr.new (o := .tup []) hu0)).trans (Gr.new (o := .tup [vN A, .ref u0]) hu1)).trans (Gr.new (o := .tup [vN (maxL Dg), .ref u1]) ht3))).lst upd_same⟩)
  have v2 : ValOk K A (maxL Dg) ev Ha (.ref t1) := .inr ⟨t1, maxL Dg + 1, .ref cc, rfl, by
    rw [← hHa]
    exact ((((((Gr.new (o := .lst [vN x.1, .ref cb]) hl2).trans (Gr.new (o := .tup [vN (maxL Dg), .ref l2]) ht2)).trans (Gr.new (o := .tup []) hu0)).trans (Gr.new (o := .tup [vN A, .ref u0]) hu1)).trans (Gr.new (o := .tup [vN (maxL Dg), .ref u1]) ht3))).sqT (.inl (.inl upd_same)), .inl ⟨by omega, x, k7.tp tcy⟩⟩
  have v3 : ValOk K A (maxL Dg) ev Ha (.ref t2) := .inr ⟨t2, maxL Dg, .ref l2, rfl, by
    rw [← hHa]
    exact ((((Gr.new (o := .tup []) hu0).trans (Gr.new (o := .tup [vN A, .ref u0]) hu1)).trans (Gr.new (o := .tup [vN (maxL Dg), .ref u1]) ht3))).sqT (.inl (.inl upd_same)), .inr ⟨rfl, .inl ⟨l2, _, rfl, by
    rw [← hHa]
    exact (((((Gr.new (o := .tup [vN (maxL Dg), .ref l2]) ht2).trans (Gr.new (o := .tup []) hu0)).trans (Gr.new (o := .tup [vN A, .ref u0]) hu1)).trans (Gr.new (o := .tup [vN (maxL Dg), .ref u1]) ht3))).lst upd_same⟩⟩⟩
  have v4 : ValOk K A (maxL Dg) ev Ha (.ref t3) := .inr ⟨t3, maxL Dg, .ref u1, rfl, by
    rw [← hHa]
    exact .inl (.inl upd_same), .inr ⟨rfl, .inr (.inl ⟨u1, u0, rfl, by
    rw [← hHa]
    exact (Gr.new (o := .tup [vN (maxL Dg), .ref u1]) ht3).sqT (.inl (.inl upd_same)), by
    rw [← hHa]
    exact ((Gr.new (o := .tup [vN A, .ref u0]) hu1).trans (Gr.new (o := .tup [vN (maxL Dg), .ref u1]) ht3)).sqT (.inl (.inl upd_same))⟩)⟩⟩
  have v5 : ValOk K A (maxL Dg) ev Ha .non := .inl (.inr (.inl rfl))
  have v6 : ValOk K A (maxL Dg) ev Ha (.int 3) := .inl (.inr (.inr ⟨3, rfl⟩))
  clear hHa f1 ht3 hu1 hu0 ht2 hl2 ht1 hl1 k1 k2 k3 k4 k5 k6
  refine ⟨by show 7 ≤ sizeLine; rw [sizeLine_eq]; omega, fun ll hll => ?_⟩
  have m1 := Gr.new (o := .lst [V.ref q, .ref l1, .ref t1, .ref t2, .ref t3, .non, .int 3]) hll
  have m2 := (gH8.trans k7).trans m1
  refine ⟨_, rfl, _, rfl, e, _, rfl, SqL.of (m2.lst he), fun fl hfl => ?_⟩
  have ecut : cutV xs none (some (30 : Int)) = xs.take 30 := by
    have e : (30 : Int) = ((30 : Nat) : Int) := rfl
    unfold cutV
    rw [e, HT.sIx_nat, HT.sIx_none, List.drop_zero, Nat.sub_zero]
    rcases Nat.lt_or_ge 30 xs.length with z | z
    · rw [Nat.min_eq_left (by omega)]
    · rw [Nat.min_eq_right z, List.take_of_length_le (Nat.le_refl _), List.take_of_length_le z]
  rw [ecut]
  have m3 := Gr.new (o := .lst (xs.take 30)) hfl
  have m23 := m2.trans m3
  refine ⟨fl, rfl, ⟨_, SqL.of upd_same⟩, fun D3 hD3 => lc_list (xs := xs.take 30) (fun i H' => (∃ zs, H' D3 = some (.lst zs) ∧ zs.length ≤ i ∧ ∀ z ∈ zs, ValOk K A (maxL Dg) ev H' z) ∧ Gr (upd (upd Ha ll (.lst [V.ref q, .ref l1, .ref t1, .ref t2, .ref t3, .non, .int 3])) fl (.lst (xs.take 30))) H') ⟨⟨[], upd_same, Nat.le_refl _, fun z hz => by cases hz⟩, Gr.new hD3⟩ (fun i H' _ h => SqL.of (h.2.lst upd_same)) ?_ ?_⟩
  · rintro i y Hb hy ⟨⟨zs, hz, lz, vz⟩, gb⟩
    have mb := m23.trans gb
    have hy' : xs[i]? = some y := by
      rw [List.getElem?_take] at hy
      split at hy
      · exact hy
      · cases hy
    have hi30 : i < (xs.take 30).length := (List.getElem?_eq_some_iff.mp hy).1
    rw [List.length_take] at hi30
    obtain ⟨hc, ehc, tx⟩ := tpCh_get (mb.tps te) hy'
    refine ⟨rfl, _, rfl, _, rfl, len2, fun t ht => ?_⟩
    have gt := Gr.new (o := .tup [vN (maxL Dg), y]) ht
    have hz2 := gt.lst hz
    refine ⟨zs, hz2, by rw [sizeLine_eq]; omega, ⟨zs ++ [.ref t], upd_same, by rw [List.length_append, List.length_singleton]; omega, fun z hz3 => ?_⟩, Gr.put (gb.trans gt) hD3⟩
    refine ValOk.lput hz2 ?_
    rcases List.mem_append.mp hz3 with h | h
    · exact (vz z h).gr gt
    · rw [List.mem_singleton.mp h]
      exact .inr ⟨t, maxL Dg, y, rfl, .inl (.inl upd_same), .inr ⟨rfl, .inr (.inr ⟨hc, gt.tp tx, List.mem_of_getElem? ehc⟩)⟩⟩
  rintro Hc ⟨⟨zs, hz, lz, vz⟩, gc⟩
  have hll30 : (xs.take 30).length ≤ 30 := by rw [List.length_take]; omega
  refine ⟨ll, D3, _, _, rfl, rfl, (m3.trans gc).lst upd_same, hz, by rw [sizeLine_eq]; simp; omega, fun lv hlv => ?_⟩
  have gv := Gr.new (o := .lst ([V.ref q, .ref l1, .ref t1, .ref t2, .ref t3, .non, .int 3] ++ zs)) hlv
  have hall : ∀ z ∈ [V.ref q, .ref l1, .ref t1, .ref t2, .ref t3, .non, .int 3] ++ zs, ValOk K A (maxL Dg) ev (upd Hc lv (.lst ([V.ref q, .ref l1, .ref t1, .ref t2, .ref t3, .non, .int 3] ++ zs))) z := fun z hz' => by
    have gA := ((m1.trans m3).trans gc).trans gv
    rcases List.mem_append.mp hz' with h | h
    · simp only [List.mem_cons, List.not_mem_nil, or_false] at h
      rcases h with rfl | rfl | rfl | rfl | rfl | rfl | rfl
      · exact v0.gr gA
      · exact v1.gr gA
      · exact v2.gr gA
      · exact v3.gr gA
      · exact v4.gr gA
      · exact v5.gr gA
      · exact v6.gr gA
    · exact (vz z h).gr gv
  have gHv := (m23.trans gc).trans gv
  have hDv := (((k7.trans m1).trans m3).trans gc).trans gv
  have h8v := hDv.lst h8
  generalize hvals : [V.ref q, .ref l1, .ref t1, .ref t2, .ref t3, .non, .int 3] ++ zs = vals at hall gHv hDv h8v gv hlv
  have hlv2 : (upd Hc lv (.lst vals)) lv = some (.lst vals) := upd_same
  generalize upd Hc lv (.lst vals) = Hv at hall gHv hDv h8v gv hlv2 ⊢
  have hbex : ∃ y, Rch nextsOf [m] y ∧ degOf y = maxL Dg := ⟨x, htop.1, hbest.symm⟩
  have hball : ∀ y, Rch nextsOf [m] y → degOf y ≤ maxL Dg := fun y hy => by rw [hbest]; exact htop.ge hy
  refine ⟨lv, rfl, ⟨_, SqL.of hlv2⟩, for_list (xs := vals) (fun i σ' H' => ∃ x21 x22, σ' = [x0, some (.ref r), some (vN A), x3, x4, some v, x6, some (.ref e), x8, x9, x10, x11, x12, x13, x14, x15, x16, some (.ref D), x18, some (vN (maxL Dg)), some (.ref q), x21, x22, x23, x24, x25, x26, x27] ∧ Gr Hv H') ⟨_, _, rfl, Gr.refl _⟩ (fun i σ' H' _ ⟨_, _, _, g⟩ => SqL.of (g.lst hlv2)) ?_ ?_⟩
  · rintro i z σ' Hb hz ⟨x21, x22, rfl, gb⟩
    have hval := (hall z (List.mem_of_getElem? hz)).gr gb
    have mb := gHv.trans gb
    have h8b := gb.lst h8v
    rcases hval with hnt | ⟨q', n, y, rfl, hq', hcase⟩
    · have ht3 := hnt.ty (K := K)
      rcases ht3 with ht | ht | ht
      · refine ⟨_, rfl, _, _, _, _, _, rfl, .ty "tuple", ht, kit_ty (r := false) (by decide +kernel), false, rfl, iteF' rfl ?_⟩
        refine ⟨_, rfl, false, rfl, iteF' rfl ?_⟩
        exact ⟨_, rfl, _, rfl, v, z, m, A, L, maxL Dg, rfl, mb.tp hv, hT.gr mb, okm, C.clos, hbex, hball, .inl ⟨hnt, fun H' g' => ⟨_, rfl, _, _, rfl, .inr ⟨false, rfl, rfl⟩, fun H'' g'' => ⟨_, rfl, iteF' rfl ⟨_, _, rfl, (gb.trans g').trans g''⟩⟩⟩⟩⟩
      · refine ⟨_, rfl, _, _, _, _, _, rfl, .ty "tuple", ht, kit_ty (r := false) (by decide +kernel), false, rfl, iteF' rfl ?_⟩
        refine ⟨_, rfl, false, rfl, iteF' rfl ?_⟩
        exact ⟨_, rfl, _, rfl, v, z, m, A, L, maxL Dg, rfl, mb.tp hv, hT.gr mb, okm, C.clos, hbex, hball, .inl ⟨hnt, fun H' g' => ⟨_, rfl, _, _, rfl, .inr ⟨false, rfl, rfl⟩, fun H'' g'' => ⟨_, rfl, iteF' rfl ⟨_, _, rfl, (gb.trans g').trans g''⟩⟩⟩⟩⟩
      · refine ⟨_, rfl, _, _, _, _, _, rfl, .ty "tuple", ht, kit_ty (r := false) (by decide +kernel), false, rfl, iteF' rfl ?_⟩
        refine ⟨_, rfl, false, rfl, iteF' rfl ?_⟩
        exact ⟨_, rfl, _, rfl, v, z, m, A, L, maxL Dg, rfl, mb.tp hv, hT.gr mb, okm, C.clos, hbex, hball, .inl ⟨hnt, fun H' g' => ⟨_, rfl, _, _, rfl, .inr ⟨false, rfl, rfl⟩, fun H'' g'' => ⟨_, rfl, iteF' rfl ⟨_, _, rfl, (gb.trans g').trans g''⟩⟩⟩⟩⟩
    · have hty := tyx_tup T hq'
      rcases hcase with ⟨hn, xy, txy⟩ | ⟨rfl, hcase⟩
      · refine ⟨_, rfl, _, _, _, _, _, rfl, .ty "tuple", hty, kit_ty (r := true) (by decide +kernel), true, rfl, iteT' rfl ⟨_, rfl, q', _, rfl, .inr hq', rfl, _, rfl, iteT' rfl ?_⟩⟩
        refine ⟨_, rfl, q', _, _, _, rfl, rfl, hq', atI_nat (j := 0) rfl, _, rfl, rfl, _, rfl, iteF' (by show decide (vN n = vN (maxL Dg)) = false; exact decide_eq_false fun e => hn (vN_eq.mp e)) ?_⟩
        refine ⟨_, rfl, _, rfl, iteF' rfl ?_⟩
        refine ⟨_, rfl, _, rfl, v, .ref q', m, A, L, maxL Dg, rfl, mb.tp hv, hT.gr mb, okm, C.clos, hbex, hball, .inr ⟨q', n, y, rfl, hq', .inl ⟨hn, fun H' g' => ⟨_, rfl, _, _, rfl, .inr ⟨false, rfl, rfl⟩, fun H'' g'' => ⟨_, rfl, iteF' rfl ⟨_, _, rfl, (gb.trans g').trans g''⟩⟩⟩⟩⟩⟩
      · have eT : decide (vN (maxL Dg) = vN (maxL Dg)) = true := decide_eq_true rfl
        refine ⟨_, rfl, _, _, _, _, _, rfl, .ty "tuple", hty, kit_ty (r := true) (by decide +kernel), true, rfl, iteT' rfl ⟨_, rfl, q', _, rfl, .inr hq', rfl, _, rfl, iteT' rfl ?_⟩⟩
        refine ⟨_, rfl, q', _, _, _, rfl, rfl, hq', atI_nat (j := 0) rfl, _, rfl, rfl, _, rfl, iteT' (by show decide (vN (maxL Dg) = vN (maxL Dg)) = true; exact eT) ?_⟩
        rcases hcase with ⟨l, ys, rfl, hl⟩ | ⟨c2, b2, rfl, hc2, hb2⟩ | ⟨xx, txx, hxx⟩
        · refine ⟨_, rfl, q', _, _, _, rfl, rfl, hq', e1 _ _, _, _, _, _, _, rfl, .ty "tuple", .base (.lst hl), kit_ty (r := false) (by decide +kernel), ?_⟩
          refine ⟨_, rfl, _, rfl, iteF' rfl ?_⟩
          exact ⟨_, rfl, _, rfl, v, .ref q', m, A, L, maxL Dg, rfl, mb.tp hv, hT.gr mb, okm, C.clos, hbex, hball, .inr ⟨q', _, _, rfl, hq', .inr ⟨rfl, .inl ⟨.inl ⟨l, ys, rfl, hl⟩, fun H' g' => ⟨_, rfl, _, _, rfl, .inr ⟨false, rfl, rfl⟩, fun H'' g'' => ⟨_, rfl, iteF' rfl ⟨_, _, rfl, (gb.trans g').trans g''⟩⟩⟩⟩⟩⟩⟩
        · refine ⟨_, rfl, q', _, _, _, rfl, rfl, hq', e1 _ _, _, _, _, _, _, rfl, .ty "tuple", tyx_tup T hc2, kit_ty (r := true) (by decide +kernel), ?_⟩
          refine ⟨_, rfl, _, rfl, iteT' rfl ?_⟩
          have hnin : NestedKey.tup [kN A, .tup []] ∉ ev.map kCh := arm_not_in fun z hz' h => by
            have := (C.ok z ((hE z).mp hz')).size
            rw [h] at this
            simp at this
          refine ⟨_, rfl, q', _, _, _, rfl, rfl, hq', e1 _ _, _, rfl, .tup [kN A, .tup []], e, xs, ev.map kCh, rfl, .tup hc2 (.cons (.num _) (.cons (.tup hb2 .nil) .nil)), SqL.of (mb.lst he), mb.tps te, by simp [NestedKey.depth, NestedKey.depthAll], hevd, _, rfl, iteF' (decide_eq_false hnin) ?_⟩
          have eb : decide (NestedKey.tup [kN A, .tup []] ∈ ev.map kCh) = false := decide_eq_false hnin
          exact ⟨_, rfl, _, rfl, v, .ref q', m, A, L, maxL Dg, rfl, mb.tp hv, hT.gr mb, okm, C.clos, hbex, hball, .inr ⟨q', _, _, rfl, hq', .inr ⟨rfl, .inr (.inl ⟨c2, b2, rfl, hc2, hb2, fun H' g' => ⟨_, rfl, _, _, rfl, .inr ⟨false, rfl, rfl⟩, fun H'' g'' => ⟨_, rfl, iteF' rfl ⟨_, _, rfl, (gb.trans g').trans g''⟩⟩⟩⟩)⟩⟩⟩
        · obtain ⟨c3, b3, rfl, hc3, hb3⟩ := ch_at txx
          refine ⟨_, rfl, q', _, _, _, rfl, rfl, hq', e1 _ _, _, _, _, _, _, rfl, .ty "tuple", tyx_tup T hc3, kit_ty (r := true) (by decide +kernel), ?_⟩
          refine ⟨_, rfl, _, rfl, iteT' rfl ?_⟩
          have hin : kCh xx ∈ ev.map kCh := List.mem_map.mpr ⟨xx, hxx, rfl⟩
          refine ⟨_, rfl, q', _, _, _, rfl, rfl, hq', e1 _ _, _, rfl, kCh xx, e, xs, ev.map kCh, rfl, txx, SqL.of (mb.lst he), mb.tps te, ch_depth _, hevd, _, rfl, iteT' (decide_eq_true hin) ?_⟩
          obtain ⟨jx2, ejx2, edx2⟩ := hxj xx hxx
          refine ⟨_, rfl, _, rfl, .inl ⟨rfl, _, SqL.of (mb.lst he)⟩, _, rfl, q', _, _, _, rfl, rfl, hq', e1 _ _, e, _, xs, kCh xx, ev.map kCh, jx2, rfl, rfl, SqL.of (mb.lst he), mb.tps te, txx, ch_depth _, hevd, by rw [List.getElem?_map, ejx2]; rfl, ndK, ?_⟩
          refine ⟨D, _, _, _, rfl, rfl, SqL.of h8b, atI_nat (by rw [List.getElem?_map, edx2]; rfl), _, rfl, rfl, ?_⟩
          have eb : decide (vN (degOf xx) = vN (maxL Dg)) = decide (degOf xx = maxL Dg) := decide_eq_decide.mpr vN_eq
          exact ⟨_, rfl, _, rfl, v, .ref q', m, A, L, maxL Dg, rfl, mb.tp hv, hT.gr mb, okm, C.clos, hbex, hball, .inr ⟨q', _, _, rfl, hq', .inr ⟨rfl, .inr (.inr ⟨xx, txx, C.ok xx ((hE xx).mp hxx), (hE xx).mp hxx, fun H' g' => ⟨_, rfl, _, _, rfl, .inr ⟨(decide (degOf xx = maxL Dg)), rfl, congrArg V.bl eb⟩, fun H'' g'' => ⟨_, rfl, iteF' rfl ⟨_, _, rfl, (gb.trans g').trans g''⟩⟩⟩⟩)⟩⟩⟩
  · rintro σ' Hb ⟨x21, x22, rfl, gb⟩
    have mb := gHv.trans gb
    exact qD Q _ _ hQ ⟨r, _, _, _, _, _, _, _, _, _, _, _, _, _, _, _, _, _, _, _, _, _, _, _, _, _, _, _, rfl, hrow.gr mb⟩
end
end SL
end

section
set_option Elab.async false
set_option linter.all false
set_option maxRecDepth 100000
set_option maxHeartbeats 4000000
/-! plain: the law's labels -/
namespace SL
def cst (t : Nat × Nat) : Nat := if t.2 = 0 then 1 else 0
/-- x is reached from S with k turns of the hub -/
inductive Cq (S : List Ch) : Nat → Ch → Prop
  | base {x : Ch} : x ∈ S → Cq S 0 x
  | step {k : Nat} {x : Ch} {t : Nat × Nat} : Cq S k x → t ∈ takings x → Cq S (k + cst t) (taken x t)
def Phi (N : Nat) (F : List Ch) (lab : Ch → Nat) : Nat := (F.map lab).sum + (N - F.length) * N
def Good (F : List Ch) (lab : Ch → Nat) (x : Ch) (t : Nat × Nat) : Prop := taken x t ∈ F ∧ lab (taken x t) ≤ lab x + cst t
structure LInv (m : Ch) (N : Nat) (S F : List Ch) (lab : Ch → Nat) (pend : Ch → Prop) : Prop where
  nd : F.Nodup
  cls : ∀ x ∈ F, Rch nextsOf [m] x
  start : ∀ x ∈ S, x ∈ F ∧ lab x = 0
  sound : ∀ x ∈ F, Cq S (lab x) x
  lt : ∀ x ∈ F, lab x < F.length
  cl : ∀ x ∈ F, pend x ∨ ∀ t ∈ takings x, Good F lab x t
  le : F.length ≤ N
/-- within the takings of hc -/
structure LIn (m : Ch) (N : Nat) (S F : List Ch) (lab : Ch → Nat) (rest more : List Ch) (hc : Ch) (j : Nat) : Prop where
  inv : LInv m N S F lab fun x => x ∈ rest ∨ x ∈ more ∨ x = hc
  hF : hc ∈ F
  cur : ∀ t ∈ (takings hc).take j, Good F lab hc t
  mF : ∀ x ∈ more, x ∈ F
section
variable {m : Ch} {N : Nat} {S F rest more : List Ch} {lab : Ch → Nat} {hc : Ch} {j : Nat} {t : Nat × Nat}
theorem labU_same (lab : Ch → Nat) (y : Ch) (n : Nat) : labU lab y n y = n := if_pos rfl
theorem labU_ne (lab : Ch → Nat) {y x : Ch} (n : Nat) (h : x ≠ y) : labU lab y n x = lab x := if_neg h
theorem sum_upd : ∀ {F : List Ch} {y : Ch} {n : Nat}, F.Nodup → y ∈ F → n < lab y → (F.map (labU lab y n)).sum + 1 ≤ (F.map lab).sum
  | x :: F, y, n, nd, hy, hn => by
    obtain ⟨h1, h2⟩ := List.nodup_cons.mp nd
    rw [List.map_cons, List.map_cons, List.sum_cons, List.sum_cons]
    by_cases e : x = y
    · subst e
      have e2 : F.map (labU lab x n) = F.map lab := List.map_congr_left fun z hz => labU_ne lab n fun e => h1 (e ▸ hz)
      rw [labU_same, e2]
      omega
    · have hy' : y ∈ F := (List.mem_cons.mp hy).resolve_left fun z => e z.symm
      have := sum_upd h2 hy' hn
      rw [labU_ne lab n e]
      omega
theorem taken_ne (h : t ∈ takings hc) : taken hc t ≠ hc := fun e => by
  obtain ⟨h1, _, h3⟩ := takings_cell h
  have e2 := congrArg Prod.snd e
  have hm : at0 (taken hc t).2 t.2 = t.1 := by
    show at0 (hc.2.take t.2 ++ t.1 :: hc.2.drop (t.2 + 1)) t.2 = t.1
    unfold at0
    rw [List.getD_eq_getElem?_getD, List.getElem?_append_right (by rw [List.length_take]; omega), List.length_take, Nat.min_eq_left (by omega), Nat.sub_self]
    rfl
  rw [e] at hm
  rw [madeB_eq, hm] at h3
  simp at h3
/-- nothing to be done -/
theorem LIn.skip (I : LIn m N S F lab rest more hc j) (et : (takings hc)[j]? = some t) (h1 : taken hc t ∈ F) (h2 : ¬ lab hc + cst t < lab (taken hc t)) : LIn m N S F lab rest more hc (j + 1) := by
  refine ⟨I.inv, I.hF, fun t' ht' => ?_, I.mF⟩
  rw [List.take_add_one, et] at ht'
  rcases List.mem_append.mp ht' with h | h
  · exact I.cur t' h
  · have : t' = t := by simpa using h
    subst this
    exact ⟨h1, by omega⟩
/-- a label is made better -/
theorem LIn.better (I : LIn m N S F lab rest more hc j) (et : (takings hc)[j]? = some t) (h1 : taken hc t ∈ F) (h2 : lab hc + cst t < lab (taken hc t)) :
    LIn m N S F (labU lab (taken hc t) (lab hc + cst t)) rest (more ++ [taken hc t]) hc (j + 1) ∧ Phi N F (labU lab (taken hc t) (lab hc + cst t)) + 1 ≤ Phi N F lab := by
  have htk := List.mem_of_getElem? et
  have hne := taken_ne htk
  have le1 : ∀ x, labU lab (taken hc t) (lab hc + cst t) x ≤ lab x := fun x => by
    by_cases e : x = taken hc t
    · rw [e, labU_same]; omega
    · rw [labU_ne lab _ e]; exact Nat.le_refl _
  have ehc : labU lab (taken hc t) (lab hc + cst t) hc = lab hc := labU_ne lab _ (Ne.symm hne)
  have good : ∀ x t', x ≠ taken hc t → Good F lab x t' → Good F (labU lab (taken hc t) (lab hc + cst t)) x t' := fun x t' hx g => ⟨g.1, by rw [labU_ne lab _ hx]; exact Nat.le_trans (le1 _) g.2⟩
  refine ⟨⟨⟨I.inv.nd, I.inv.cls, fun x hx => ?_, fun x hx => ?_, fun x hx => Nat.lt_of_le_of_lt (le1 x) (I.inv.lt x hx), fun x hx => ?_, I.inv.le⟩, I.hF, fun t' ht' => ?_, fun x hx => ?_⟩, ?_⟩
  · obtain ⟨a, b⟩ := I.inv.start x hx
    exact ⟨a, by have := le1 x; omega⟩
  · by_cases e : x = taken hc t
    · rw [e, labU_same]
      exact .step (I.inv.sound hc I.hF) htk
    · rw [labU_ne lab _ e]
      exact I.inv.sound x hx
  · by_cases e : x = taken hc t
    · exact .inl (.inr (.inl (by rw [e]; exact List.mem_append_right _ (List.mem_singleton.mpr rfl))))
    · rcases I.inv.cl x hx with (h | h | h) | h
      · exact .inl (.inl h)
      · exact .inl (.inr (.inl (List.mem_append_left _ h)))
      · exact .inl (.inr (.inr h))
      · exact .inr fun t' ht' => good x t' e (h t' ht')
  · rw [List.take_add_one, et] at ht'
    rcases List.mem_append.mp ht' with h | h
    · exact good hc t' (Ne.symm hne) (I.cur t' h)
    · have : t' = t := by simpa using h
      subst this
      exact ⟨h1, by rw [labU_same, ehc]; exact Nat.le_refl _⟩
  · rcases List.mem_append.mp hx with h | h
    · exact I.mF x h
    · rw [List.mem_singleton.mp h]; exact h1
  · unfold Phi
    have := sum_upd (lab := lab) I.inv.nd h1 h2
    omega
/-- a map is labelled for the first time -/
theorem LIn.new (I : LIn m N S F lab rest more hc j) (et : (takings hc)[j]? = some t) (h1 : taken hc t ∉ F) (hN : ∀ l : List Ch, l.Nodup → (∀ x ∈ l, Rch nextsOf [m] x) → l.length ≤ N) :
    LIn m N S (F ++ [taken hc t]) (labU lab (taken hc t) (lab hc + cst t)) rest (more ++ [taken hc t]) hc (j + 1) ∧ Phi N (F ++ [taken hc t]) (labU lab (taken hc t) (lab hc + cst t)) + 1 ≤ Phi N F lab := by
  have htk := List.mem_of_getElem? et
  have hne := taken_ne htk
  have hcs : cst t ≤ 1 := by unfold cst; split <;> omega
  have nd' : (F ++ [taken hc t]).Nodup := by
    rw [List.nodup_append]
    exact ⟨I.inv.nd, by simp, fun x hx z hz => by rw [List.mem_singleton.mp hz]; exact fun e => h1 (e ▸ hx)⟩
  have cls' : ∀ x ∈ F ++ [taken hc t], Rch nextsOf [m] x := fun x hx => by
    rcases List.mem_append.mp hx with h | h
    · exact I.inv.cls x h
    · rw [List.mem_singleton.mp h]
      exact .step (I.inv.cls hc I.hF) (List.mem_map.mpr ⟨t, htk, rfl⟩)
  have hlen := hN _ nd' cls'
  have hF1 : (F ++ [taken hc t]).length = F.length + 1 := by rw [List.length_append]; rfl
  have eF : ∀ x ∈ F, labU lab (taken hc t) (lab hc + cst t) x = lab x := fun x hx => labU_ne lab _ fun e => h1 (e ▸ hx)
  have hlt := I.inv.lt hc I.hF
  have good : ∀ x t', x ∈ F → Good F lab x t' → Good (F ++ [taken hc t]) (labU lab (taken hc t) (lab hc + cst t)) x t' := fun x t' hx g => ⟨List.mem_append_left _ g.1, by rw [eF x hx, eF _ g.1]; exact g.2⟩
  refine ⟨⟨⟨nd', cls', fun x hx => ?_, fun x hx => ?_, fun x hx => ?_, fun x hx => ?_, hlen⟩, List.mem_append_left _ I.hF, fun t' ht' => ?_, fun x hx => ?_⟩, ?_⟩
  · obtain ⟨a, b⟩ := I.inv.start x hx
    exact ⟨List.mem_append_left _ a, by rw [eF x a]; exact b⟩
  · rcases List.mem_append.mp hx with h | h
    · rw [eF x h]; exact I.inv.sound x h
    · rw [List.mem_singleton.mp h, labU_same]
      exact .step (I.inv.sound hc I.hF) htk
  · rw [hF1]
    rcases List.mem_append.mp hx with h | h
    · rw [eF x h]; have := I.inv.lt x h; omega
    · rw [List.mem_singleton.mp h, labU_same]; omega
  · rcases List.mem_append.mp hx with h | h
    · rcases I.inv.cl x h with (z | z | z) | z
      · exact .inl (.inl z)
      · exact .inl (.inr (.inl (List.mem_append_left _ z)))
      · exact .inl (.inr (.inr z))
      · exact .inr fun t' ht' => good x t' h (z t' ht')
    · exact .inl (.inr (.inl (List.mem_append_right _ h)))
  · rw [List.take_add_one, et] at ht'
    rcases List.mem_append.mp ht' with h | h
    · exact good hc t' I.hF (I.cur t' h)
    · have : t' = t := by simpa using h
      subst this
      exact ⟨List.mem_append_right _ (List.mem_singleton.mpr rfl), by rw [labU_same, eF hc I.hF]; exact Nat.le_refl _⟩
  · rcases List.mem_append.mp hx with h | h
    · exact List.mem_append_left _ (I.mF x h)
    · exact List.mem_append_right _ h
  · unfold Phi
    have e1 : (F ++ [taken hc t]).map (labU lab (taken hc t) (lab hc + cst t)) = F.map lab ++ [lab hc + cst t] := by
      rw [List.map_append, List.map_congr_left eF, List.map_cons, labU_same]
      rfl
    rw [e1, List.sum_append, hF1]
    have e2 : N - F.length = (N - (F.length + 1)) + 1 := by omega
    rw [e2, Nat.add_mul, Nat.one_mul]
    simp
    omega
/-- hc is done -/
theorem LIn.done (I : LIn m N S F lab rest more hc j) (hj : (takings hc).length ≤ j) : LInv m N S F lab fun x => x ∈ rest ∨ x ∈ more := by
  refine ⟨I.inv.nd, I.inv.cls, I.inv.start, I.inv.sound, I.inv.lt, fun x hx => ?_, I.inv.le⟩
  rcases I.inv.cl x hx with (h | h | h) | h
  · exact .inl (.inl h)
  · exact .inl (.inr h)
  · subst h
    refine .inr fun t ht => I.cur t ?_
    rw [List.take_of_length_le hj]
    exact ht
  · exact .inr h
theorem LInv.least (I : LInv m N S F lab fun _ => False) {k : Nat} {x : Ch} (h : Cq S k x) : x ∈ F ∧ lab x ≤ k := by
  induction h with
  | base h =>
    obtain ⟨a, b⟩ := I.start _ h
    exact ⟨a, by omega⟩
  | step hx ht ih =>
    rcases I.cl _ ih.1 with z | z
    · cases z
    · obtain ⟨a, b⟩ := z _ ht
      exact ⟨a, by omega⟩
theorem LInv.imp {p q : Ch → Prop} (I : LInv m N S F lab p) (h : ∀ x, p x → q x) : LInv m N S F lab q :=
  ⟨I.nd, I.cls, I.start, I.sound, I.lt, fun x hx => (I.cl x hx).imp (h x) id, I.le⟩
end
/-! ### the least label is the distance -/
section
variable {w : PySem.World} {A L : Nat} {m : Ch} {S : List Ch}
theorem ClsOk.cq_qd (C : ClsOk w A L m) (hS : ∀ x, x ∈ S ↔ Rch nextsOf [m] x ∧ arrOf x = arrOf m) {k : Nat} {x : Ch} (h : Cq S k x) : Rch nextsOf [m] x ∧ Qd m k (arrOf x) := by
  induction h with
  | base h =>
    obtain ⟨a, b⟩ := (hS _).mp h
    exact ⟨a, by rw [b]; exact .zero⟩
  | @step k x t hx ht ih =>
    have hr : Rch nextsOf [m] (taken x t) := .step ih.1 (List.mem_map.mpr ⟨t, ht, rfl⟩)
    refine ⟨hr, ?_⟩
    unfold cst
    by_cases h0 : t.2 = 0
    · rw [if_pos h0]
      exact .succ ih.2 ih.1 ht h0
    · rw [if_neg h0, Nat.add_zero, C.keep x ih.1 _ (List.mem_map.mpr ⟨t, List.mem_filter.mpr ⟨ht, by simpa using h0⟩, rfl⟩)]
      exact ih.2
theorem cq_still {k : Nat} {x y : Ch} (hx : Cq S k x) (h : Rch stillOf [x] y) : Cq S k y := by
  induction h with
  | base h => rw [List.mem_singleton.mp h]; exact hx
  | @step a b ha hb ih =>
    obtain ⟨t, ht, rfl⟩ := List.mem_map.mp hb
    obtain ⟨h1, h2⟩ := List.mem_filter.mp ht
    have := Cq.step ih h1
    unfold cst at this
    rw [if_neg (by simpa using h2), Nat.add_zero] at this
    exact this
theorem ClsOk.qd_cq (C : ClsOk w A L m) (hS : ∀ x, x ∈ S ↔ Rch nextsOf [m] x ∧ arrOf x = arrOf m) {k : Nat} {a : Arr} (h : Qd m k a) : ∀ y, Rch nextsOf [m] y → arrOf y = a → Cq S k y := by
  induction h with
  | zero => exact fun y hy e => .base ((hS y).mpr ⟨hy, e⟩)
  | @succ k x t hq hx ht h0 ih =>
    intro y hy e
    have h1 := Cq.step (ih x hx rfl) ht
    unfold cst at h1
    rw [if_pos h0] at h1
    exact cq_still h1 (C.slide _ y (.step hx (List.mem_map.mpr ⟨t, ht, rfl⟩)) hy e.symm)
end
end SL
end

section
set_option Elab.async false
set_option linter.all false
set_option maxRecDepth 100000
set_option maxHeartbeats 4000000
/-! the law: turns_between -/
namespace SL
open PySem PySem.Spec PyProof.Rows L2
def startB (m : Ch) (ev : List Ch) : List Ch := ev.filter fun x => decide (kArr (arrOf x) = kArr (arrOf m))
theorem sum_zero : ∀ S : List Ch, (S.map fun _ => 0).sum = 0
  | [] => rfl
  | x :: S => by rw [List.map_cons, List.sum_cons, sum_zero S]
theorem cst_le (t : Nat × Nat) : cst t ≤ 1 := by unfold cst; split <;> omega
theorem startB_mem {m x : Ch} {ev : List Ch} : x ∈ startB m ev ↔ x ∈ ev ∧ arrOf x = arrOf m := by
  unfold startB
  rw [List.mem_filter, decide_eq_true_eq]
  exact ⟨fun h => ⟨h.1, kArr_inj h.2⟩, fun h => ⟨h.1, by rw [h.2]⟩⟩
section
variable {w : World} {K : PySem.W.Frag} {mg : Str → Option Value} {base : Heap} {Ar : Around} {outer : List Env} {s : Shared} {H0 : Hp} {E : XK}
/-- where the second part begins -/
def PreB (w : World) (K : PySem.W.Frag) (σ : L2.St) (H : Hp) : Prop := ∃ r v e o xs m A L ev oc x0 x3 x4 x6 x8 x10 x11 x12 x13 x14 x15 x16 x17 x18 x19 x20 x21 x22 x23 x24 x25 x26 x27, σ = [x0, some (.ref r), some (vN A), x3, x4, some v, x6, some (.ref e), x8, some o, x10, x11, x12, x13, x14, x15, x16, x17, x18, x19, x20, x21, x22, x23, x24, x25, x26, x27] ∧
  RowAt K H r ∧ Tabs K H ∧ ClsOk w A L m ∧ EvOk m ev ∧ Tp K H v (kCh m) ∧ H e = some (.lst xs) ∧ TpAll K H xs (ev.map kCh) ∧ Tp K H o (kCh oc) ∧ oc ∈ ev ∧ ev.length < sizeLine ∧ (ev.length - (startB m ev).length) * ev.length ≤ sizeLine
theorem law_B (T : Tx K mg base) (hr : Room 8 (LX w K mg base Ar outer s H0 E).A) (Fl : Kp w K mg base "_law_alike" 6 ["_law_found", "_law_due"] (spAl K 5)) (Ft : Kp w K mg base "_law_takings" 3 ["_law_chart"] (spTks2 K)) (Fk : Kp w K mg base "_law_behind" 1 ["_law_chart", "_law_taking"] (spTaken K))
    (Fo : Kp w K mg base "_law_order" 1 ["_law_chart"] (spArd K)) (Fb : Kp w K mg base "turns_between" 8 ["one", "other"] (spTurn w K))
    {tC : TS} (hC : PSs (LX w K mg base Ar outer s H0 E) (d_law.body.drop 12) tC) (qC : ∀ (Q : VK) (σ : L2.St) (H : Hp), (∀ H', Q (.bl true) H') → PreC w K σ H → tC { nx := fun _ H' => Q .non H', rt := Q } σ H) :
    ∃ t, PSs (LX w K mg base Ar outer s H0 E) (d_law.body.drop 7) t ∧ ∀ (Q : VK) (σ : L2.St) (H : Hp), (∀ H', Q (.bl true) H') → PreB w K σ H → t { nx := fun _ H' => Q .non H', rt := Q } σ H := by
  refine ⟨_, pss_cons (ps_asg (pe_tup (pa_cons (pe_lc (own := [("_law_one", 8)]) (g := gName 8) rfl sc_law.nd (pi_list (pv 7))
        (blkOk_by (N := nLaw) (sc := defScope s_law) (by decide +kernel)) (fun _ _ _ _ _ => pg_name (i := 8) sc_law.nd rfl (Or.inl rfl)) (fun _ _ _ _ _ => pts_one (pt_cmpR (r := rEqK K) (op_eqK (units64 hr)) (pe_k Fo rfl (hr.mono (by decide)) (pa1 (pv 8))) (pe_k Fo rfl (hr.mono (by decide)) (pa1 (pv 5))) (nomark _))) (fun _ _ _ _ _ => pv 8)) (pa1 pe_dnewM)))
      (pg_tup (by rfl) (pgs_cons (pg_name (i := 10) sc_law.nd rfl (.inl rfl)) (pgs_cons (pg_name (i := 11) sc_law.nd rfl (.inr rfl)) pgs_nil))))
    (pss_cons (ps_for PassesOwn.never rfl (pi_list (pv 10)) (pg_name (i := 8) sc_law.nd rfl (.inl rfl)) (pss_one (ps_asg pe_int (pg_sub (pv 11) (pv 8) (set_M (units9 hr))))))
    (pss_cons (ps_while PassesOwn.never (pt_cmpR (op_neNil (units64 hr)) (pv 10) (pe_lst pa_nil) (nomark _))
      (pss_cons (ps_set (i := 12) sc_law.nd rfl (.inl rfl) (pe_lst pa_nil))
      (pss_cons (ps_for PassesOwn.never rfl (pi_list (pv 10)) (pg_name (i := 13) sc_law.nd rfl (.inl rfl))
        (pss_one (ps_for PassesOwn.never rfl (pi_list (pe_k Ft rfl (hr.mono (by decide)) (pa1 (pv 13)))) (pg_name (i := 8) sc_law.nd rfl (.inl rfl))
          (pss_cons (ps_par (i := 14) (j := 15) rfl sc_law.nd rfl rfl (by decide) rfl rfl (pa_cons (pe_k Fk rfl (hr.mono (by decide)) (pa_cons (pv 13) (pa1 (pv 8)))) (pa1 (pe_op op_add (pe_ix (ix_M (units9 hr)) (pv 11) (pv 13) (fun _ _ => rfl)) (pe_callTy call_int1 (by rfl) (T.free "int") (by decide +kernel) (pa1 (pe_cmpR op_eq (pe_ix ix_tup (pv 8) pe_int (fun _ _ => rfl)) pe_int (nomark _))))))) rfl)
          (pss_one (ps_if (PW.pt (pw_or (pt_cmpR (op_notinM (units9 hr)) (pv 14) (pv 11) rfl) (pw_or1 (pt_cmpR op_lt (pv 15) (pe_ix (ix_M (units9 hr)) (pv 11) (pv 14) (fun _ _ => rfl)) (nomark _)))))
            (pss_cons (ps_asg (pv 15) (pg_sub (pv 11) (pv 14) (set_M (units9 hr))))
            (pss_one (ps_expr (pe_bm PySem.F.plainAttrs_list PySem.F.slot_list_append PySem.F.type_list_append mt_append (pv 12) (pa1 (pv 14)))))) pss_nil))))))
      (pss_one (ps_set (i := 10) sc_law.nd rfl (.inl rfl) (pv 12))))))
    (pss_cons (ps_set (i := 16) sc_law.nd rfl (.inl rfl) (pe_callB (cr_min rfl) (by rfl) (T.free "min") boot_min (pa1 (pe_lc (own := [("_law_one", 8)]) (g := gName 8) rfl sc_law.nd (pi_list (pv 7))
        (blkOk_by (N := nLaw) (sc := defScope s_law) (by decide +kernel)) (fun _ _ _ _ _ => pg_name (i := 8) sc_law.nd rfl (Or.inl rfl)) (fun _ _ _ _ _ => pts_one (pt_cmpR (r := rEqK K) (op_eqK (units64 hr)) (pe_k Fo rfl (hr.mono (by decide)) (pa1 (pv 8))) (pe_k Fo rfl (hr.mono (by decide)) (pa1 (pv 9))) (nomark _))) (fun _ _ _ _ _ => pe_ix (r := rIxM K P0 w) (ix_M (units9 hr)) (pv 11) (pv 8) (fun _ _ => rfl))))))
    (pss_cons (ps_if (pt_not (pt_val (pe_k Fl rfl (hr.mono (by decide)) (pa_cons (pe_k Fb rfl hr (pa_cons (pv 5) (pa1 (pv 9)))) (pa1 (pv 16)))))) (pss_one ps_never) pss_nil)
    hC)))), ?_⟩
  rintro Q σ H hQ ⟨r, v, e, o, xs, m, A, L, ev, oc, x0, x3, x4, x6, x8, x10, x11, x12, x13, x14, x15, x16, x17, x18, x19, x20, x21, x22, x23, x24, x25, x26, x27, rfl, hrow, hT, C, EV, hv, he, te, ho, hoc, hevl, hpot⟩
  have ndE := EV.nd
  have hE := EV.mem
  have le := te.length
  rw [List.length_map] at le
  have few := C.few ev ndE fun x hx => (hE x).mp hx
  have hme : m ∈ ev := (hE m).mpr (.base (by simp))
  have okS : ∀ x ∈ ev, Shp A L x := fun x hx => (C.ok x ((hE x).mp hx)).toShp
  have okm := okS m hme
  have len2 : 2 ≤ sizeLine := by rw [sizeLine_eq]; omega
  have hN : ∀ l : List Ch, l.Nodup → (∀ x ∈ l, Rch nextsOf [m] x) → l.length ≤ ev.length := fun l nd hl => nodup_le nd fun x hx => (hE x).mpr (hl x hx)
  -- walk_here
  refine ⟨_, rfl, e, rfl, ⟨_, SqL.of he⟩, fun D hD => lc_list (xs := xs) (fun i H' => LcK K D H (((ev.take i).filter fun x => decide (kArr (arrOf x) = kArr (arrOf m))).map kCh) H') (LcK.start hD) (fun i H' _ h => SqL.of (h.gr.lst he)) ?_ ?_⟩
  · rintro i x H3 hx h3
    have g3 := h3.gr
    obtain ⟨hc, ehc, tx⟩ := tpCh_get (g3.tps te) hx
    have hi := (List.getElem?_eq_some_iff.mp ehc).1
    have hll := List.length_filter_le (fun x => decide (kArr (arrOf x) = kArr (arrOf m))) (ev.take i)
    rw [List.length_take] at hll
    rw [filter_take_succ _ ehc]
    refine ⟨rfl, _, rfl, _, hc, A, L, rfl, tx, okS hc (List.mem_of_getElem? ehc), fun H4 p4 g4 t4 => ?_⟩
    refine ⟨_, rfl, _, m, A, L, rfl, (g3.trans g4).tp hv, okm, fun H5 p5 g5 t5 => ?_⟩
    refine ⟨_, _, g5.tp t4, t5, kArr_depth _, kArr_depth _, _, rfl, ?_⟩
    have g45 := g4.trans g5
    by_cases h : kArr (arrOf hc) = kArr (arrOf m)
    · refine iteT' (decide_eq_true h) ⟨_, rfl, ?_⟩
      obtain ⟨zs, ez, el, h8⟩ := h3.put g45 (g45.tp tx) hD
      refine ⟨zs, ez, by rw [el, List.length_map]; omega, ?_⟩
      rw [if_pos (decide_eq_true h), List.map_append]
      exact h8
    · refine iteF' (decide_eq_false h) ?_
      rw [if_neg (by rw [decide_eq_false h]; exact Bool.false_ne_true), List.append_nil]
      exact h3.step g45
  rintro H3 h3
  rw [le, List.take_length] at h3
  have eS : ev.filter (fun x => decide (kArr (arrOf x) = kArr (arrOf m))) = startB m ev := rfl
  rw [eS] at h3
  obtain ⟨zs, ez, tz, g3⟩ := h3
  have lz := tz.length
  rw [List.length_map] at lz
  have hSm : ∀ x, x ∈ startB m ev ↔ Rch nextsOf [m] x ∧ arrOf x = arrOf m := fun x => by rw [startB_mem, hE]
  have ndS : (startB m ev).Nodup := List.Pairwise.filter _ ndE
  generalize hSd : startB m ev = S at tz lz hSm ndS hpot
  have lS : S.length ≤ ev.length := hN S ndS fun x hx => ((hSm x).mp hx).1
  refine fun d H4 hd hb4 D4 => ⟨len2, fun tp htp => ?_⟩
  have g4 : Gr H3 H4 := (Gr.refl H3).but hd hb4
  have gt := Gr.new (o := .tup [V.ref D, V.ref d]) htp
  have hdH : H d = none := g3.free hd
  have hDd : D ≠ d := fun e => by rw [← e, ez] at hd; cases hd
  refine ⟨tp, _, rfl, .inl (.inl upd_same), rfl, _, _, rfl, _, _, rfl, rfl, ?_⟩
  have gH5 := (g3.trans g4).trans gt
  have ez5 := (g4.trans gt).lst ez
  -- turns[one] = 0
  refine ⟨_, rfl, D, rfl, ⟨_, SqL.of ez5⟩, for_list (xs := zs) (fun i σ' H' => ∃ x8, σ' = [x0, some (.ref r), some (vN A), x3, x4, some v, x6, some (.ref e), x8, some o, some (.ref D), some (.ref d), x12, x13, x14, x15, x16, x17, x18, x19, x20, x21, x22, x23, x24, x25, x26, x27] ∧ Gr H H' ∧ H' D = some (.lst zs) ∧ TpAll K H' zs (S.map kCh) ∧ DAt P0 w K H' d (kvI (fun _ => 0) (S.take i)))
    ⟨_, rfl, gH5, ez5, (g4.trans gt).tps tz, gt.dat D4⟩ (fun i σ' H' _ ⟨_, _, _, e, _⟩ => SqL.of e) ?_ ?_⟩
  · rintro i x σ' H6 hx ⟨x8, rfl, g6, h6, t6, D6⟩
    obtain ⟨hc, ehc, tx⟩ := tpCh_get t6 hx
    obtain ⟨cx, rfl⟩ := ch_tup tx
    have hi := (List.getElem?_eq_some_iff.mp ehc).1
    have hn : hc ∉ S.take i := fun hm => by
      obtain ⟨j, hj, ej⟩ := List.getElem_of_mem hm
      rw [List.length_take] at hj
      rw [List.getElem_take] at ej
      obtain ⟨hi2, ei⟩ := List.getElem?_eq_some_iff.mp ehc
      have : j = i := (List.getElem_inj ndS).mp (ej.trans ei.symm)
      omega
    refine ⟨_, rfl, _, rfl, cx, kCh hc, d, _, rfl, rfl, tx, ch_depth _, D6, by unfold kvI; rw [List.length_map, List.length_take]; omega, fun H7 hb7 D7 => ?_⟩
    have nt := dat_nt D6
    have D7' : DAt P0 w K H7 d (putK (kvI (fun _ => 0) (S.take i)) (kCh hc) (vN 0)) := D7
    rw [kvI_put hn] at D7'
    have e0 : labU (fun _ => 0) hc 0 = fun _ => 0 := funext fun x => by unfold labU; split <;> rfl
    rw [e0] at D7'
    have et : S.take (i + 1) = S.take i ++ [hc] := by rw [List.take_add_one, ehc]; rfl
    rw [et]
    exact ⟨_, rfl, g6.but hdH hb7, by rw [hb7 D hDd]; exact h6, tps_but hb7 nt t6, D7'⟩
  rintro σ' H6 ⟨x8, rfl, g6, h6, t6, D6⟩
  rw [lz, List.take_length] at D6
  -- the labels
  have inv0 : LInv m ev.length S S (fun _ => 0) fun x => x ∈ S := ⟨ndS, fun x hx => ((hSm x).mp hx).1, fun x hx => ⟨hx, rfl⟩, fun x hx => .base hx, fun x hx => List.length_pos_of_mem hx, fun x hx => .inl hx, lS⟩
  have phi0 : Phi ev.length S (fun _ => 0) ≤ sizeLine := by
    unfold Phi
    rw [sum_zero S]
    omega
  refine ⟨fun mm σ H1 => ∃ F lab rows rr xr x8 x12 x13 x14 x15, σ = [x0, some (.ref r), some (vN A), x3, x4, some v, x6, some (.ref e), x8, some o, some (.ref rr), some (.ref d), x12, x13, x14, x15, x16, x17, x18, x19, x20, x21, x22, x23, x24, x25, x26, x27] ∧ Gr H H1 ∧ DAt P0 w K H1 d (kvI lab F) ∧ H1 rr = some (.lst xr) ∧ TpAll K H1 xr (rows.map kCh) ∧ rr ≠ d ∧ LInv m ev.length S F lab (fun x => x ∈ rows) ∧ (∀ x ∈ rows, x ∈ F) ∧ Phi ev.length F lab ≤ sizeLine ∧ mm = 2 * Phi ev.length F lab + (if rows = [] then 0 else 1),
    ⟨_, S, fun _ => 0, S, D, zs, _, _, _, _, _, rfl, g6, D6, h6, t6, hDd, inv0, fun x hx => hx, phi0, rfl⟩, ?_⟩
  clear D6 h6 t6 g6 D4 hb4 ez5 gH5 gt g4 tz ez g3
  rintro mm σ H1 ⟨F, lab, rows, rr, xr, x8, x12, x13, x14, x15, rfl, g1, D1, h1r, t1r, hrd, inv, hrF, hphi, rfl⟩
  have lr := t1r.length
  rw [List.length_map] at lr
  refine ⟨_, rfl, by show 0 ≤ sizeLine; exact Nat.zero_le _, fun e2 he2 => ?_⟩
  have ge := Gr.new (o := .lst []) he2
  refine ⟨rr, xr, rows.map kCh, e2, rfl, rfl, SqL.of (ge.lst h1r), ge.tps t1r, fun k hk => by obtain ⟨x, _, rfl⟩ := List.mem_map.mp hk; exact ch_depth x, SqL.of upd_same, _, rfl, ?_⟩
  have g1e := g1.trans ge
  have D1e := ge.dat D1
  by_cases hr0 : rows = []
  · subst hr0
    obtain rfl : xr = [] := List.length_eq_zero_iff.mp lr
    refine iteF' rfl ?_
    have inv := inv.imp (q := fun _ => False) fun x hx => by cases hx
    have hmS : m ∈ S := (hSm m).mpr ⟨.base (by simp), rfl⟩
    -- due
    obtain ⟨dd, hdd⟩ := dist_ex (C.some ((hE oc).mp hoc))
    have hFall : ∀ x ∈ ev, x ∈ F := fun x hx => by
      obtain ⟨k, hk⟩ := C.some ((hE x).mp hx)
      exact (inv.least (C.qd_cq hSm hk x ((hE x).mp hx) rfl)).1
    refine ⟨_, rfl, e, rfl, ⟨_, SqL.of (g1e.lst he)⟩, fun M hM => lc_list (xs := xs) (fun i H' => H' M = some (.lst ((((ev.take i).filter fun x => decide (kArr (arrOf x) = kArr (arrOf oc))).map fun x => (lab x : Int)).map V.int)) ∧ Gr (upd H1 e2 (.lst [])) H') ⟨upd_same, Gr.new hM⟩ (fun i H' _ h => SqL.of ((g1e.trans h.2).lst he)) ?_ ?_⟩
    · rintro i x H3 hx ⟨h3, g3⟩
      have gH3 := g1e.trans g3
      obtain ⟨hc, ehc, tx⟩ := tpCh_get (gH3.tps te) hx
      have hcm := List.mem_of_getElem? ehc
      have hi := (List.getElem?_eq_some_iff.mp ehc).1
      have hll := List.length_filter_le (fun x => decide (kArr (arrOf x) = kArr (arrOf oc))) (ev.take i)
      rw [List.length_take] at hll
      rw [filter_take_succ _ ehc]
      refine ⟨rfl, _, rfl, _, hc, A, L, rfl, tx, okS hc hcm, fun H4 p4 g4 t4 => ?_⟩
      refine ⟨_, rfl, _, oc, A, L, rfl, (gH3.trans g4).tp ho, okS oc hoc, fun H5 p5 g5 t5 => ?_⟩
      refine ⟨_, _, g5.tp t4, t5, kArr_depth _, kArr_depth _, _, rfl, ?_⟩
      have g45 := g4.trans g5
      by_cases h : kArr (arrOf hc) = kArr (arrOf oc)
      · obtain ⟨cx, rfl⟩ := ch_tup tx
        refine iteT' (decide_eq_true h) ⟨_, rfl, _, rfl, cx, kCh hc, d, _, vN (lab hc), rfl, rfl, g45.tp tx, ch_depth _, (g3.trans g45).dat D1e, by rw [kvI_val, if_pos (hFall hc hcm)], _, g45.lst h3, by rw [List.length_map, List.length_map]; omega, ?_, Gr.put (g3.trans g45) hM⟩
        rw [upd_same, if_pos (decide_eq_true h), List.map_append, List.map_append]
        rfl
      · refine iteF' (decide_eq_false h) ⟨?_, g3.trans g45⟩
        rw [if_neg (by rw [decide_eq_false h]; exact Bool.false_ne_true), List.append_nil]
        exact g45.lst h3
    rintro H3 ⟨h3, g3⟩
    rw [le, List.take_length] at h3
    have gH3 := g1e.trans g3
    have hom : oc ∈ ev.filter fun x => decide (kArr (arrOf x) = kArr (arrOf oc)) := List.mem_filter.mpr ⟨hoc, decide_eq_true rfl⟩
    refine ⟨M, _, rfl, SqL.of h3, by rw [List.length_map]; exact List.length_pos_of_mem hom, fun mn hmn hmin => ?_⟩
    have emn : mn = (dd : Int) := by
      obtain ⟨x, hx, rfl⟩ := List.mem_map.mp hmn
      obtain ⟨hx1, hx2⟩ := List.mem_filter.mp hx
      have hx2 := kArr_inj (of_decide_eq_true hx2)
      have h1 := C.cq_qd hSm (inv.sound x (hFall x hx1))
      rw [hx2] at h1
      have h2 : ¬ lab x < dd := fun z => hdd.2 _ z h1.2
      have h3 := (inv.least (C.qd_cq hSm hdd.1 oc ((hE oc).mp hoc) rfl)).2
      have h4 := hmin (lab oc) (List.mem_map.mpr ⟨oc, hom, rfl⟩)
      omega
    subst emn
    refine ⟨_, rfl, _, rfl, _, _, m, oc, A, L, dd, rfl, gH3.tp hv, gH3.tp ho, hT.gr gH3, C, (hE oc).mp hoc, hdd, fun H4 g4 => ?_⟩
    refine ⟨_, rfl, _, _, rfl, .inl ⟨.num dd, .num _, .num _, by unfold AlOk; trivial⟩, fun H5 g5 => ⟨_, rfl, iteF' rfl ?_⟩⟩
    have gH5 := (gH3.trans g4).trans g5
    exact qC Q _ _ hQ ⟨r, v, e, xs, m, A, L, ev, _, _, _, _, _, _, _, _, _, _, _, _, _, _, _, _, _, _, _, _, _, _, _, _, rfl, hrow.gr gH5, hT.gr gH5, C, EV, gH5.tp hv, gH5.lst he, gH5.tps te⟩
  have hxr : xr ≠ [] := fun z => by
    rw [z] at lr
    exact hr0 (List.length_eq_zero_iff.mp lr.symm)
  refine iteT' (by rw [decide_eq_false hxr]; rfl) ?_
  refine ⟨fun σ' H' => ∃ m', m' < 2 * Phi ev.length F lab + (if rows = [] then 0 else 1) ∧ ∃ F lab rows rr xr x8 x12 x13 x14 x15, σ' = [x0, some (.ref r), some (vN A), x3, x4, some v, x6, some (.ref e), x8, some o, some (.ref rr), some (.ref d), x12, x13, x14, x15, x16, x17, x18, x19, x20, x21, x22, x23, x24, x25, x26, x27] ∧ Gr H H' ∧ DAt P0 w K H' d (kvI lab F) ∧ H' rr = some (.lst xr) ∧ TpAll K H' xr (rows.map kCh) ∧ rr ≠ d ∧ LInv m ev.length S F lab (fun x => x ∈ rows) ∧ (∀ x ∈ rows, x ∈ F) ∧ Phi ev.length F lab ≤ sizeLine ∧ m' = 2 * Phi ev.length F lab + (if rows = [] then 0 else 1), fun σ' H' hh => hh, ?_⟩
  refine ⟨by show 0 ≤ sizeLine; exact Nat.zero_le _, fun mo hmo => ?_⟩
  have gmo := Gr.new (o := .lst []) hmo
  have h1re := ge.lst h1r
  have t1re := ge.tps t1r
  have hrm : rr ≠ mo := ne_of_none h1re hmo
  have hdm : d ≠ mo := fun e => dat_some D1e (e ▸ hmo)
  have hmn : H mo = none := g1e.free hmo
  generalize hPhi : Phi ev.length F lab = P0' at hphi
  have start : BfsI w K H d mo lab F [] (upd (upd H1 e2 (.lst [])) mo (.lst [])) := ⟨g1e.trans gmo, gmo.dat D1e, [], upd_same, .nil⟩
  refine ⟨_, rfl, rr, rfl, ⟨_, SqL.of (gmo.lst h1re)⟩, for_list (xs := xr) (fun i σ' H' => ∃ x8 x13 x14 x15, σ' = [x0, some (.ref r), some (vN A), x3, x4, some v, x6, some (.ref e), x8, some o, some (.ref rr), some (.ref d), some (.ref mo), x13, x14, x15, x16, x17, x18, x19, x20, x21, x22, x23, x24, x25, x26, x27] ∧
      (∃ F lab more, BfsI w K H d mo lab F more H' ∧ LInv m ev.length S F lab (fun x => x ∈ rows.drop i ∨ x ∈ more) ∧ (∀ x ∈ rows, x ∈ F) ∧ (∀ x ∈ more, x ∈ F) ∧ more.length + Phi ev.length F lab ≤ P0') ∧ H' rr = some (.lst xr) ∧ TpAll K H' xr (rows.map kCh))
    ⟨_, _, _, _, rfl, ⟨F, lab, [], start, inv.imp fun x hx => .inl hx, hrF, fun x hx => (by cases hx), by rw [hPhi]; simp⟩, gmo.lst h1re, gmo.tps t1re⟩ (fun i σ' H' _ ⟨_, _, _, _, _, _, e, _⟩ => SqL.of e) ?_ ?_⟩
  · clear start inv hrF hPhi D1 D1e h1r t1r h1re t1re gmo ge g1 g1e
    rintro i x σ' H2 hx ⟨x8, x13, x14, x15, rfl, ⟨F, lab, more, B2, inv, hrF, hmF, hph⟩, h2r, t2r⟩
    obtain ⟨hc, ehc, tx⟩ := tpCh_get t2r hx
    have hi := (List.getElem?_eq_some_iff.mp ehc).1
    have hcr := List.mem_of_getElem? ehc
    have hcF := hrF hc hcr
    have hcl := inv.cls hc hcF
    have hshp := (C.ok hc hcl).toShp
    have hsz := hshp.size
    have hAL12 : A * L ≤ 12 := by have := hshp.a4; rcases hshp.len with rfl | rfl | rfl <;> omega
    have edrop : rows.drop i = hc :: rows.drop (i + 1) := by
      obtain ⟨h1, h2⟩ := List.getElem?_eq_some_iff.mp ehc
      rw [List.drop_eq_getElem_cons h1, h2]
    have I0 : LIn m ev.length S F lab (rows.drop (i + 1)) more hc 0 := ⟨inv.imp fun x hx => by
      rw [edrop] at hx
      rcases hx with h | h
      · rcases List.mem_cons.mp h with e | h
        · exact .inr (.inr e)
        · exact .inl h
      · exact .inr (.inl h), hcF, fun t ht => by simp at ht, hmF⟩
    refine ⟨_, rfl, _, hc, A, L, rfl, tx, hshp, fun H3 p xp g3 hp h3p t3p => ?_⟩
    obtain ⟨xm, h2m, t2m⟩ := B2.mol
    have hmp : mo ≠ p := ne_of_none h2m hp
    have hrp : rr ≠ p := ne_of_none h2r hp
    have hdp : d ≠ p := fun e => dat_some B2.dat (e ▸ hp)
    refine ⟨p, rfl, ⟨_, SqL.of h3p⟩, for_list (xs := xp) (fun j σ' H' => ∃ x8 x14 x15, σ' = [x0, some (.ref r), some (vN A), x3, x4, some v, x6, some (.ref e), x8, some o, some (.ref rr), some (.ref d), some (.ref mo), some x, x14, x15, x16, x17, x18, x19, x20, x21, x22, x23, x24, x25, x26, x27] ∧
        (∃ F lab more, BfsI w K H d mo lab F more H' ∧ LIn m ev.length S F lab (rows.drop (i + 1)) more hc j ∧ (∀ x ∈ rows, x ∈ F) ∧ more.length + Phi ev.length F lab ≤ P0') ∧ H' rr = some (.lst xr) ∧ TpAll K H' xr (rows.map kCh) ∧ H' p = some (.lst xp) ∧ TpAll K H' xp ((takings hc).map kTk) ∧ TpAll K H' [x] [kCh hc])
      ⟨_, _, _, rfl, ⟨F, lab, more, B2.step g3, I0, hrF, hph⟩, g3.lst h2r, g3.tps t2r, h3p, t3p, .cons (g3.tp tx) .nil⟩ (fun i σ' H' _ ⟨_, _, _, _, _, _, _, e, _⟩ => SqL.of e) ?_ ?_⟩
    · clear I0 B2 inv hrF hmF hph hcF hcl t2m h2m
      rintro j y σ' H4 hy ⟨x8, x14, x15, rfl, ⟨F, lab, more, B4, I4, hrF4, hph4⟩, h4r, t4r, h4p, t4p, t4x⟩
      obtain ⟨tk, etk, ty⟩ := tpTk_get t4p hy
      have htk := List.mem_of_getElem? etk
      obtain ⟨hcell, _, _⟩ := takings_cell htk
      have tx4 : Tp K H4 x (kCh hc) := by cases t4x with | cons t _ => exact t
      obtain ⟨tl, tc⟩ := tk
      obtain ⟨ta, rfl, hta⟩ := tk_at ty
      refine ⟨_, rfl, _, rfl, x, _, hc, tl, tc, rfl, tx4, ty, hcell, by omega, fun H5 q g5 t5 => ?_⟩
      have B5 := B4.step g5
      obtain ⟨cx, ecx⟩ := ch_tup (g5.tp tx4)
      have hcF := I4.hF
      refine ⟨_, rfl, _, rfl, cx, kCh hc, d, _, vN (lab hc), ecx, rfl, by rw [← ecx]; exact g5.tp tx4, ch_depth _, B5.dat, by rw [kvI_val, if_pos hcF], ?_⟩
      refine ⟨_, rfl, ta, _, _, _, rfl, rfl, g5.sqT hta, atI_nat (j := 1) rfl, rfl, .inr ⟨_, rfl, _, _, rfl, rfl, ?_⟩⟩
      have em : (lab hc : Int) + (if decide (vN tc = vN 0) = true then 1 else 0) = ((lab hc + cst (tl, tc) : Nat) : Int) := by
        unfold cst
        by_cases h0 : tc = 0
        · rw [if_pos (decide_eq_true (vN_eq.mpr h0)), if_pos h0]
          push_cast
          rfl
        · rw [if_neg (fun z => h0 (vN_eq.mp (of_decide_eq_true z))), if_neg h0]
          simp
      have h5r := g5.lst h4r
      have h5p := g5.lst h4p
      have hFl := I4.inv.le
      refine ⟨_, _, rfl, ?_⟩
      refine ⟨_, rfl, _, rfl, q, kCh (taken hc (tl, tc)), d, _, rfl, rfl, t5, ch_depth _, B5.dat, _, rfl, ?_⟩
      by_cases hin : taken hc (tl, tc) ∈ F
      · refine iteF' (by rw [kvI_val, if_pos hin]; rfl) ?_
        refine ⟨_, rfl, _, rfl, _, rfl, q, kCh (taken hc (tl, tc)), d, _, vN (lab (taken hc (tl, tc))), rfl, rfl, t5, ch_depth _, B5.dat, by rw [kvI_val, if_pos hin], _, _, rfl, rfl, _, rfl, ?_⟩
        by_cases hlt : lab hc + cst (tl, tc) < lab (taken hc (tl, tc))
        · refine iteT' (by show decide ((lab hc : Int) + (if decide (vN tc = vN 0) = true then 1 else 0) < (lab (taken hc (tl, tc)) : Int)) = true; rw [em]; exact decide_eq_true (by omega)) ?_
          obtain ⟨I6, hp6⟩ := I4.better etk hin hlt
          refine ⟨_, rfl, _, rfl, _, rfl, q, kCh (taken hc (tl, tc)), d, _, rfl, rfl, t5, ch_depth _, B5.dat, by unfold kvI; rw [List.length_map]; omega, fun H6 hb6 D6 => ?_⟩
          have D6' : DAt P0 w K H6 d (putK (kvI lab F) (kCh (taken hc (tl, tc))) (vN (lab hc + cst (tl, tc)))) := by
            have D6 : DAt P0 w K H6 d (putK (kvI lab F) (kCh (taken hc (tl, tc))) (.int ((lab hc : Int) + (if decide (vN tc = vN 0) = true then 1 else 0)))) := D6
            rw [em] at D6
            exact D6
          rw [kvI_upd hin] at D6'
          obtain ⟨zs', ex, lx, B7, hb7, tt7⟩ := B5.put hdH hmn hdm t5 hb6 D6'
          refine ⟨_, rfl, .inl ⟨rfl, _, SqL.of ex⟩, _, rfl, mo, zs', _, rfl, rfl, ex, by rw [lx]; omega, ?_⟩
          exact ⟨_, _, _, rfl, ⟨F, _, _, B7, I6, hrF4, by rw [List.length_append, List.length_singleton]; omega⟩, by rw [hb7 rr hrd hrm]; exact h5r, tt7 _ _ (g5.tps t4r), by rw [hb7 p (Ne.symm hdp) (Ne.symm hmp)]; exact h5p, tt7 _ _ (g5.tps t4p), tt7 _ _ (g5.tps t4x)⟩
        · refine iteF' (by show decide ((lab hc : Int) + (if decide (vN tc = vN 0) = true then 1 else 0) < (lab (taken hc (tl, tc)) : Int)) = false; rw [em]; exact decide_eq_false (by omega)) ?_
          exact ⟨_, _, _, rfl, ⟨F, lab, more, B5, I4.skip etk hin hlt, hrF4, hph4⟩, h5r, g5.tps t4r, h5p, g5.tps t4p, g5.tps t4x⟩
      · refine iteT' (by rw [kvI_val, if_neg hin]; rfl) (iteT' rfl ?_)
        obtain ⟨I6, hp6⟩ := I4.new etk hin hN
        have hF6 := I6.inv.le
        rw [List.length_append, List.length_singleton] at hF6
        refine ⟨_, rfl, _, rfl, _, rfl, q, kCh (taken hc (tl, tc)), d, _, rfl, rfl, t5, ch_depth _, B5.dat, by unfold kvI; rw [List.length_map]; omega, fun H6 hb6 D6 => ?_⟩
        have D6' : DAt P0 w K H6 d (putK (kvI lab F) (kCh (taken hc (tl, tc))) (vN (lab hc + cst (tl, tc)))) := by
          have D6 : DAt P0 w K H6 d (putK (kvI lab F) (kCh (taken hc (tl, tc))) (.int ((lab hc : Int) + (if decide (vN tc = vN 0) = true then 1 else 0)))) := D6
          rw [em] at D6
          exact D6
        rw [kvI_put hin] at D6'
        obtain ⟨zs', ex, lx, B7, hb7, tt7⟩ := B5.put hdH hmn hdm t5 hb6 D6'
        refine ⟨_, rfl, .inl ⟨rfl, _, SqL.of ex⟩, _, rfl, mo, zs', _, rfl, rfl, ex, by rw [lx]; omega, ?_⟩
        exact ⟨_, _, _, rfl, ⟨_, _, _, B7, I6, fun x hx => List.mem_append_left _ (hrF4 x hx), by rw [List.length_append, List.length_singleton]; omega⟩, by rw [hb7 rr hrd hrm]; exact h5r, tt7 _ _ (g5.tps t4r), by rw [hb7 p (Ne.symm hdp) (Ne.symm hmp)]; exact h5p, tt7 _ _ (g5.tps t4p), tt7 _ _ (g5.tps t4x)⟩
    · rintro σ' H4 ⟨x8, x14, x15, rfl, ⟨F, lab, more, B4, I4, hrF4, hph4⟩, h4r, t4r, h4p, t4p, t4x⟩
      have ll := t4p.length
      rw [List.length_map] at ll
      exact ⟨_, _, _, _, rfl, ⟨F, lab, more, B4, I4.done (by omega), hrF4, I4.mF, hph4⟩, h4r, t4r⟩
  · rintro σ' H2 ⟨x8, x13, x14, x15, rfl, ⟨F', lab', more, B2, inv2, hrF2, hmF2, hph2⟩, h2r, t2r⟩
    rw [lr, List.drop_length] at inv2
    obtain ⟨xm, h2m, t2m⟩ := B2.mol
    refine ⟨_, rfl, _, ?_, F', lab', more, mo, xm, _, _, _, _, _, rfl, B2.gr, B2.dat, h2m, t2m, Ne.symm hdm, inv2.imp fun x hx => hx.resolve_left (by simp), hmF2, by omega, rfl⟩
    rw [if_neg hr0]
    by_cases hm0 : more = []
    · rw [if_pos hm0]; omega
    · rw [if_neg hm0]
      have : 1 ≤ more.length := List.length_pos_iff.mpr hm0
      omega
end
end SL
end

section
set_option Elab.async false
set_option linter.all false
set_option maxRecDepth 100000
set_option maxHeartbeats 4000000
/-! the law: its first statements, and the whole -/
namespace SL
open PySem PySem.Spec PyProof.Rows L2
/-- the plain facts that the law's walk asks -/
def PlainOk (w : World) : Prop := ∀ (A L : Nat) (m : Ch), MapOk A L m → ClsOk w A L m ∧ ∀ ev, EvOk m ev → ev.length < sizeLine ∧ (ev.length - (startB m ev).length) * ev.length ≤ sizeLine
def spLaw (K : PySem.W.Frag) : Sp := fun vs H Q _ => ∃ (a : Addr) (ns : List Int), vs = [.ref a] ∧ SqL K H a (ns.map V.int) ∧ Tabs K H ∧ ∀ H', Q (.bl true) H'
theorem all_kCh : ∀ {ks : List NK}, (∀ k ∈ ks, ∃ x : Ch, k = kCh x) → ∃ ev : List Ch, ks = ev.map kCh
  | [], _ => ⟨[], rfl⟩
  | k :: ks, h => by
    obtain ⟨x, rfl⟩ := h k List.mem_cons_self
    obtain ⟨ev, e⟩ := all_kCh fun z hz => h z (List.mem_cons_of_mem _ hz)
    exact ⟨x :: ev, by rw [e]; rfl⟩
theorem arr_alok {ks : List NK} (h : ks.length < 63) (hk : ∀ k ∈ ks, ∃ a : Arr, k = kArr a ∧ a.2.length ≤ 4 ∧ ∀ r ∈ a.2, r.length ≤ 3) : AlOk 5 (.tup ks) := by
  refine ⟨by omega, fun k hk' => ?_⟩
  obtain ⟨a, rfl, h1, h2⟩ := hk k hk'
  refine ⟨by simp, fun x hx => ?_⟩
  simp only [List.mem_cons, List.not_mem_nil, or_false] at hx
  rcases hx with rfl | rfl
  · unfold AlOk; trivial
  · refine ⟨by rw [List.length_map]; omega, fun y hy => ?_⟩
    obtain ⟨ns, hns, rfl⟩ := List.mem_map.mp hy
    refine ⟨by rw [List.length_map]; have := h2 ns hns; omega, fun z hz => ?_⟩
    obtain ⟨n, _, rfl⟩ := List.mem_map.mp hz
    unfold AlOk; trivial
section
variable {w : World} {K : PySem.W.Frag} {mg : Str → Option Value} {base : Heap}
/-- kp_of for a function data that is given -/
theorem fn_at {d : He.DefD} {x : Str} {k : Nat} {N ps : List Str} {sp : Sp} {fd : FuncData} (T : Tx K mg base) (F : FunD K d.name d.qual d.params d.body d.scope (d.dvs K) (d.kws K) (He.fAd K d.at_) fd) (h0 : d.at_ = (x, none)) (hn : d.name = x) (hq : d.qual = x) (hdd : d.dfl = []) (hkd : d.kwd = []) (S : FnScope N ps d.scope) (len : ∀ vs H Q E, sp vs H Q E → vs.length = ps.length)
    (hb : ∀ (kV doc pm : Value) (an : Option Addr) (cdv ct : Value) (us : List Value), us.length = ps.length → bindArgs (PySem.W.fnOf x x d.params d.body d.scope .none kV doc pm an cdv ct) ⟨us, []⟩ = pure (ps.zip us))
    (hbody : ∀ (A : Around) (outer : List Env) (s : Shared) (H : Hp) (vs : List V) (Q : VK) (E : XK), Room k (A.deeper (envOfC x d.scope s.heap.objs.size (He.ga K x) (.ref (He.codeOf K (x, none))))) → sp vs H Q E →
      ∃ t, PSs (cxOf CX0 P0 w K mg base N x d.scope (He.ga K x) (.ref (He.codeOf K (x, none))) A outer s H E).nox d.body t ∧ t { nx := fun _ H' => Q .non H', rt := Q } (start N vs) H) : FnOk P0 w K mg base CX0 (k + 1) (He.ga K x) fd ps sp ∧ Binds K fd ps [] := by
  have e1 : d.dvs K = [] := by unfold He.DefD.dvs; rw [hdd]; rfl
  have e2 : d.kws K = [] := by unfold He.DefD.kws; rw [hkd]; rfl
  rw [e1, e2, hn, hq, h0] at F
  refine ⟨?_, F.bindsN hb⟩
  obtain ⟨oc, od, dV, kV, doc, pm, an, cdv, ct, osl, rfl, lk, hcd, _, _⟩ := F.ex
  obtain ⟨c, rfl⟩ := He.codeIn_ref hcd
  have ec : He.codeOf K (x, none) = c := He.codeOf_eq lk rfl
  rw [ec] at hbody
  refine fn_of lk hcd S len fun A outer s H vs Q E hr hsp => ?_
  obtain ⟨t, h, q⟩ := hbody A outer s H vs Q E hr hsp
  exact ⟨t, h.nox, q⟩
theorem kp_law (T : Tx K mg base) (hP : PlainOk w) (Fi : Kp w K mg base "_law_island" 2 ["_law_row", "_law_most"] (spIsl K)) (Fm : Kp w K mg base "_law_map" 3 ["_law_row", "_law_arms", "_law_length", "_law_lands"] (spMap K)) (Ff : Kp w K mg base "_law_from" 4 ["_law_chart"] (spFrom w K))
    (Fl : Kp w K mg base "_law_alike" 6 ["_law_found", "_law_due"] (spAl K 5)) (Fr : Kp w K mg base "arrangements" 7 ["chart"] (spArrs K)) (Fo : Kp w K mg base "_law_order" 1 ["_law_chart"] (spArd K)) (Fp : Kp w K mg base "_law_pick" 2 ["_law_row", "_law_things"] (spPick K))
    (hB : ∀ (Ar : Around) (outer : List Env) (s : Shared) (H0 : Hp) (E : XK), Room 8 (LX w K mg base Ar outer s H0 E).A → ∃ t, PSs (LX w K mg base Ar outer s H0 E) (d_law.body.drop 7) t ∧ ∀ (Q : VK) (σ : L2.St) (H : Hp), (∀ H', Q (.bl true) H') → PreB w K σ H → t { nx := fun _ H' => Q .non H', rt := Q } σ H) :
    ∀ fd, FunD K d_law.name d_law.qual d_law.params d_law.body d_law.scope (d_law.dvs K) (d_law.kws K) (He.fAd K d_law.at_) fd → FnOk P0 w K mg base CX0 9 (He.ga K "law") fd ["_law_script"] (spLaw K) ∧ Binds K fd ["_law_script"] [] := by
  intro fd F
  refine fn_at (d := d_law) (k := 8) T F rfl rfl rfl rfl rfl sc_law (fun vs H Q E ⟨_, _, e, _⟩ => by rw [e]; rfl) (fun _ _ _ _ _ _ us hl => match us, hl with | [_], _ => rfl) fun Ar outer s H vs Q E hr hsp => ?_
  obtain ⟨a, ns, rfl, ha, hT, hQ⟩ := hsp
  obtain ⟨tB, hBt, qB⟩ := hB Ar outer s H E hr
  refine ⟨_, pss_cons (ps_set (i := 1) sc_law.nd rfl (.inl rfl) (pe_lst (pa_cons (pv 0) (pa_cons pe_int (pa_cons pe_int (pa1 pe_int))))))
    (pss_cons (ps_asg (pe_k Fi rfl (hr.mono (by decide)) (pa_cons (pv 1) (pa1 pe_int))) (pg_tup (by rfl) (pgs_cons (pg_name (i := 2) sc_law.nd rfl (.inl rfl)) (pgs_cons (pg_name (i := 3) sc_law.nd rfl (.inl rfl)) (pgs_cons (pg_name (i := 4) sc_law.nd rfl (.inl rfl)) pgs_nil)))))
    (pss_cons (ps_set (i := 5) sc_law.nd rfl (.inr rfl) (pe_k Fm rfl (hr.mono (by decide)) (pa_cons (pv 1) (pa_cons (pv 2) (pa_cons (pv 3) (pa1 (pv 4)))))))
    (pss_cons (ps_set (i := 6) sc_law.nd rfl (.inl rfl) (pe_k Ff rfl (hr.mono (by decide)) (pa1 (pv 5))))
    (pss_cons (ps_set (i := 7) sc_law.nd rfl (.inl rfl) (pe_callB (call_sortedL (units16 hr)) (by rfl) (T.free "sorted") (by decide +kernel) (pa1 (pe_callTy (call_listM rfl) (by rfl) (T.free "list") (by decide +kernel) (pa1 (pv 6))))))
    (pss_cons (ps_if (pt_not (pt_val (pe_k Fl rfl (hr.mono (by decide)) (pa_cons (pe_k Fr rfl (hr.mono (by decide)) (pa1 (pv 5))) (pa1 (pe_tupleOf (by rfl) (T.free "tuple") (pe_callB (cr_sortedN rfl (units16 hr)) (by rfl) (T.free "sorted") (by decide +kernel) (pa1 (pe_callTy (cr_setOfN rfl (units64 hr)) (by rfl) (T.free "set") (by decide +kernel) (pa1 (pe_lc (own := [("_law_one", 8)]) (g := gName 8) (tt := tYes) rfl sc_law.nd (pi_list (pv 7))
        (blkOk_by (N := nLaw) (sc := defScope s_law) (by decide +kernel)) (fun _ _ _ _ _ => pg_name (i := 8) sc_law.nd rfl (Or.inl rfl)) (fun _ _ _ _ _ => pts_nil) (fun _ _ _ _ _ => pe_k Fo rfl (hr.mono (by decide)) (pa1 (pv 8)))))))))))))) (pss_one ps_never) pss_nil)
    (pss_cons (ps_set (i := 9) sc_law.nd rfl (.inr rfl) (pe_k Fp rfl (hr.mono (by decide)) (pa_cons (pv 1) (pa1 (pv 7)))))
    hBt)))))), ?_⟩
  refine ⟨_, rfl, by show 4 ≤ sizeLine; rw [sizeLine_eq]; omega, fun r hr0 => ?_⟩
  have g1 := Gr.new (o := .lst [V.ref a, .int 0, .int 13926, .int 0]) hr0
  have har : a ≠ r ∨ ∀ H', SqL K H' a (ns.map V.int) := by
    rcases ha with (h | ⟨o, h⟩) | h
    · exact .inl (ne_of_none h hr0)
    · exact .inl (ne_of_none h hr0)
    · exact .inr fun H' => .inr h
  have row1 : RowAt K (upd H r (.lst [V.ref a, .int 0, .int 13926, .int 0])) r := RowAt.put (xs := []) ha (Int.le_refl 0) har
  refine ⟨_, rfl, r, rfl, row1, fun H2 p A L n eX2 row2 h2p a3 a4 hL hn hn2 => ⟨p, _, rfl, .inl (.inl h2p), rfl, _, _, rfl, _, _, rfl, _, _, rfl, rfl, ?_⟩⟩
  have gH2 : Gr H H2 := Gr.extX (Gr.refl H) hr0 ((GrX.gr g1).trans (.ext eX2))
  refine ⟨_, rfl, _, rfl, _, rfl, _, rfl, r, A, L, n, rfl, row2, a3, a4, hL, hn, hn2, fun H3 v m gX3 row3 tv hm => ?_⟩
  have gH3 : Gr H H3 := gH2.extX hr0 gX3
  obtain ⟨C, hev⟩ := hP A L m hm
  refine ⟨_, rfl, _, m, A, L, rfl, tv, C.clos, fun found lab d H4 ndF hF g4 hd D4 => ?_⟩
  have row4 := row3.gr g4
  refine ⟨_, rfl, d, _, rfl, D4, fun p5 vs5 hp5 t5 => ?_⟩
  have g5 := Gr.new (o := .lst vs5) hp5
  rw [kvI_keys] at t5
  refine ⟨p5, vs5, found.map kCh, rfl, SqL.of upd_same, g5.tps t5, sortOk_ch fun k hk => by obtain ⟨x, _, e⟩ := List.mem_map.mp hk; exact ⟨x, e.symm⟩, fun p6 vs6 hp6 t6 => ?_⟩
  have g6 := Gr.new (o := .lst vs6) hp6
  have hperm : ((found.map kCh).mergeSort leK).Perm (found.map kCh) := List.mergeSort_perm _ _
  obtain ⟨ev, eev⟩ := all_kCh (ks := (found.map kCh).mergeSort leK) fun k hk => by
    obtain ⟨x, _, e⟩ := List.mem_map.mp (hperm.mem_iff.mp hk)
    exact ⟨x, e.symm⟩
  rw [eev] at t6 hperm
  have EV : EvOk m ev := by
    refine ⟨nodup_of_map (f := kCh) (hperm.nodup_iff.mpr (nodup_map ndF fun e => kCh_inj e)), fun x => ?_⟩
    rw [← hF]
    have h := hperm.mem_iff (a := kCh x)
    constructor
    · intro hx
      obtain ⟨y, hy, e⟩ := List.mem_map.mp (h.mp (List.mem_map.mpr ⟨x, hx, rfl⟩))
      rw [← kCh_inj e]; exact hy
    · intro hx
      obtain ⟨y, hy, e⟩ := List.mem_map.mp (h.mpr (List.mem_map.mpr ⟨x, hx, rfl⟩))
      rw [← kCh_inj e]; exact hy
  obtain ⟨hevl, hpot⟩ := hev ev EV
  have t7 := g6.tps t6
  have h7 : (upd (upd H4 p5 (.lst vs5)) p6 (.lst vs6)) p6 = some (.lst vs6) := upd_same
  have row7 := (row4.gr g5).gr g6
  have gH7 := ((gH3.trans g4).trans g5).trans g6
  have tv7 := g6.tp (g5.tp (g4.tp tv))
  have hp6r : r ≠ p6 := fun e => (row4.gr g5).some (e ▸ hp6)
  generalize upd (upd H4 p5 (.lst vs5)) p6 (.lst vs6) = H7 at t7 h7 row7 gH7 tv7 ⊢
  have le := t7.length
  rw [List.length_map] at le
  -- arrangements
  refine ⟨_, rfl, _, m, A, L, rfl, tv7, hT.gr gH7, hm, C.clos, fun ks ndk hk H8 p8 g8 t8 => ?_⟩
  refine ⟨_, rfl, p6, rfl, ⟨_, SqL.of (g8.lst h7)⟩, fun D hD => lc_list (xs := vs6) (fun i H' => LcK K D H8 ((ev.take i).map fun x => kArr (arrOf x)) H') (LcK.start hD) (fun i H' _ h => SqL.of (h.gr.lst (g8.lst h7))) ?_ ?_⟩
  · rintro i x H9 hx h9
    have g9 := g8.trans h9.gr
    obtain ⟨hc, ehc, tx⟩ := tpCh_get (g9.tps t7) hx
    have hi := (List.getElem?_eq_some_iff.mp ehc).1
    refine ⟨rfl, _, rfl, _, hc, A, L, rfl, tx, (C.ok hc ((EV.mem hc).mp (List.mem_of_getElem? ehc))).toShp, fun H10 p10 g10 t10 => ?_⟩
    obtain ⟨zs, ez, el, h8⟩ := h9.put g10 t10 hD
    refine ⟨zs, ez, by rw [el, List.length_map, List.length_take]; omega, ?_⟩
    rw [List.take_add_one, ehc, List.map_append]
    exact h8
  rintro H9 h9
  rw [le, List.take_length] at h9
  obtain ⟨zs, ez, tz, g9⟩ := h9
  have hcls : ∀ k ∈ ev.map (fun x => kArr (arrOf x)), ∃ x, Rch nextsOf [m] x ∧ k = kArr (arrOf x) := fun k hk' => by
    obtain ⟨x, hx, e⟩ := List.mem_map.mp hk'
    exact ⟨x, (EV.mem x).mp hx, e.symm⟩
  refine ⟨D, zs, _, rfl, SqL.of ez, tz, fun k hk' => ?_, fun l nd hl => C.arrs l nd fun k hk' => hcls k (hl k hk'), fun sa H10 ds hsa hb10 ndd memd setAt => ?_⟩
  · obtain ⟨x, _, rfl⟩ := hcls k hk'
    exact ⟨⟨_, rfl⟩, kArr_depth _⟩
  have g10 : Gr H9 H10 := (Gr.refl H9).but hsa hb10
  have hds : ∀ k ∈ ds, ∃ x, Rch nextsOf [m] x ∧ k = kArr (arrOf x) := fun k hk' => hcls k ((memd k).mp hk')
  refine ⟨sa, ds, rfl, setAt, sortOk_arr fun k hk' => by obtain ⟨x, _, e⟩ := hds k hk'; exact ⟨_, e⟩, fun p11 vs11 hp11 t11 => ?_⟩
  have g11 := Gr.new (o := .lst vs11) hp11
  refine .inl ⟨p11, vs11, rfl, SqL.of upd_same, fun q12 hq12 => ?_⟩
  have g12 := Gr.new (o := .tup vs11) hq12
  have gX := ((g9.trans g10).trans g11).trans g12
  have esort : ks.mergeSort leK = ds.mergeSort leK := sort_perm (sortOk_arr fun k hk' => by obtain ⟨x, _, e⟩ := (hk k).mp hk'; exact ⟨_, e⟩) ((List.perm_ext_iff_of_nodup ndk ndd).mpr fun k => by
    rw [hk, memd, List.mem_map]
    exact ⟨fun ⟨x, hx, e⟩ => ⟨x, (EV.mem x).mpr hx, e.symm⟩, fun ⟨x, hx, e⟩ => ⟨x, (EV.mem x).mp hx, e.symm⟩⟩)
  have hal : AlOk 5 (.tup (ks.mergeSort leK)) := by
    have hp := List.mergeSort_perm ks leK
    refine arr_alok (by rw [hp.length_eq]; exact C.arrs ks ndk fun k hk' => (hk k).mp hk') fun k hk' => ?_
    obtain ⟨x, hx, e⟩ := (hk k).mp (hp.mem_iff.mp hk')
    have hs := (C.ok x hx).toShp
    have hL3 : L ≤ 3 := by rcases hL with rfl | rfl | rfl <;> omega
    refine ⟨arrOf x, e, ?_, fun r hr => ?_⟩
    · show (ordersOf x).length ≤ 4
      unfold ordersOf
      rw [List.length_map, List.length_range, hs.arms]
      exact a4
    · obtain ⟨a, _, rfl⟩ := List.mem_map.mp (show r ∈ (List.range x.1).map (orderOn x) from hr)
      have h1 := ordFold_le (hubOf x) (outw x a) []
      have h2 : (outw x a).length ≤ L := by unfold outw; rw [List.length_take, hs.lenOf]; omega
      simp at h1
      unfold orderOn
      omega
  refine ⟨_, _, rfl, .inl ⟨.tup (ks.mergeSort leK), gX.tp t8, .tup (.inl (.inl upd_same)) (by rw [esort]; exact g12.tps (g11.tps t11)), hal⟩, fun H13 g13 => ⟨_, rfl, iteF' rfl ?_⟩⟩
  have gY := (g8.trans gX).trans g13
  have gHY := gH7.trans gY
  have row13 := row7.gr gY
  have hvs : vs6 ≠ [] := fun e => by
    rw [e] at le
    have := (EV.mem m).mpr (.base (by simp))
    rw [List.length_eq_zero_iff.mp le.symm] at this
    cases this
  refine ⟨_, rfl, _, rfl, r, p6, vs6, rfl, row13, hp6r, gY.lst h7, hvs, by have := sizeLine_eq; omega, fun H14 i x eX row14 hx => ?_⟩
  have nt := row13.nt
  obtain ⟨oc, eoc, toc⟩ := tpCh_get (gY.tps t7) hx
  have gH14 := gHY.extX hr0 (.ext eX)
  exact qB Q _ _ hQ ⟨r, v, p6, x, vs6, m, A, L, ev, oc, _, _, _, _, _, _, _, _, _, _, _, _, _, _, _, _, _, _, _, _, _, _, _, rfl, row14, hT.gr gH14, C, EV, eX.tp nt (gY.tp tv7), eX p6 _ (Ne.symm hp6r) (gY.lst h7), eX.tps nt (gY.tps t7), eX.tp nt toc, List.mem_of_getElem? eoc, hevl, hpot⟩
end
end SL
end

section
set_option Elab.async false
set_option linter.all false
set_option maxRecDepth 100000
set_option maxHeartbeats 4000000
/-! the chain of promises -/
namespace SL
open PySem PySem.Spec PyProof.Rows L2
theorem law_kp {w : World} {K : PySem.W.Frag} {mg : Str → Option Value} {base : Heap} (T : Tx K mg base) (hP : PlainOk w) : ∀ fd, FunD K d_law.name d_law.qual d_law.params d_law.body d_law.scope (d_law.dvs K) (d_law.kws K) (He.fAd K d_law.at_) fd → FnOk P0 w K mg base CX0 9 (He.ga K "law") fd ["_law_script"] (spLaw K) ∧ Binds K fd ["_law_script"] [] := by
  have is_in := kp_is_in (w := w) T
  have near := kp_near (w := w) T
  have length_of := kp_length_of (w := w) T
  have held := kp_held (w := w) T
  have hangs := kp_hangs T near
  have lands_of := kp_lands_of (w := w) T
  have outward := kp_outward T length_of
  have order_on := kp_order_on T outward
  have all_orders := kp_all_orders T order_on
  have tips := kp_tips T outward
  have bare_of := kp_bare_of T outward
  have freezes := kp_freezes T bare_of
  have key_of := kp_key_of T lands_of freezes all_orders tips
  have are_cells := kp_are_cells T is_in hangs held
  have is_map := kp_is_map T is_in are_cells
  have need_map := kp_need_map T is_map
  have is_made := kp_is_made T near length_of held hangs
  have all_takings := kp_all_takings T lands_of is_made
  have taken := kp_taken (w := w) T
  have all_of_class := kp_all_of_class T all_takings taken
  have all_still := kp_all_still T all_takings taken
  have falling := kp_falling (w := w) T
  have need_numbers := kp_need_numbers T is_in
  have shares := kp_shares (w := w) T
  have arrangement_count := kp_arrangement_count T need_numbers shares falling
  have all_arrangements := kp_all_arrangements T need_numbers shares falling
  have need_one := kp_need_one T need_map key_of
  have arranged := kp_arranged T all_orders
  have arrangements := kp_arrangements T need_map all_of_class arranged
  have degree_counts := kp_degree_counts T need_map all_of_class all_takings
  have most_free := kp_most_free T all_of_class all_takings
  have freest := kp_freest T need_map most_free
  have shows_freest := kp_shows_freest T need_map most_free is_in is_map all_of_class all_takings
  have turns_between := kp_turns_between T need_one arranged all_still all_takings taken
  have ltaken := kp__law_taken (w := w) T
  have lpick := kp__law_pick T ltaken
  have lisland := kp__law_island T ltaken
  have lmap := kp__law_map T lpick
  have lnear := kp__law_near (w := w) T
  have lhangs := kp__law_hangs T lnear
  have ltakings := kp__law_takings T lnear lhangs
  have lbehind := kp__law_behind (w := w) T
  have lorder := kp__law_order (w := w) T
  have lfrom := kp__law_from T ltakings lbehind
  have lshares := kp__law_shares (w := w) T 4 (by decide)
  have lalike := kp__law_alike (w := w) T 5
  refine kp_law T hP lisland lmap lfrom lalike arrangements lorder lpick fun Ar outer s H0 E hr => ?_
  obtain ⟨tD, hD, qD⟩ := law_D T hr ltaken lshares lalike all_arrangements arrangement_count
  obtain ⟨tC, hC, qC⟩ := law_C T hr lalike ltakings degree_counts freest shows_freest hD qD
  exact law_B T hr lalike ltakings lbehind lorder turns_between hC qC
end SL
end

section
set_option Elab.async false
set_option linter.all false
set_option maxRecDepth 100000
set_option maxHeartbeats 4000000
/-! plain: all maps up to the lands' names, and what is told of them by looking at each -/
namespace SL
open PySem
/-- one cell more: its parent's land, or the next land -/
def grow (L N : Nat) (p : List Nat × Nat) : List (List Nat × Nat) := (p.1 ++ [at0 p.1 (par L p.1.length)], p.2) :: (if p.2 < N then [(p.1 ++ [p.2], p.2 + 1)] else [])
def grown (L N : Nat) : Nat → List (List Nat × Nat)
  | 0 => [([0], 1)]
  | n + 1 => (grown L N n).flatMap (grow L N)
def shp : Nat → Nat → Nat → List (List Nat)
  | 3, 1, 2 => [[0, 0, 0, 1], [0, 0, 1, 0], [0, 1, 0, 0]]
  | 3, 2, 2 => [[0, 0, 0, 0, 0, 0, 1], [0, 0, 0, 0, 0, 1, 1], [0, 0, 0, 0, 1, 0, 0], [0, 0, 0, 1, 1, 0, 0], [0, 0, 1, 0, 0, 0, 0], [0, 1, 1, 0, 0, 0, 0]]
  | 3, 2, 3 => [[0, 0, 0, 0, 0, 1, 2], [0, 0, 0, 0, 1, 0, 2], [0, 0, 0, 0, 1, 2, 2], [0, 0, 0, 1, 1, 0, 2], [0, 0, 0, 1, 1, 2, 2], [0, 0, 0, 1, 2, 0, 0], [0, 0, 1, 0, 0, 0, 2], [0, 0, 1, 0, 0, 2, 2], [0, 0, 1, 0, 2, 0, 0], [0, 0, 1, 2, 2, 0, 0], [0, 1, 1, 0, 0, 0, 2], [0, 1, 1, 0, 0, 2, 2], [0, 1, 1, 0, 2, 0, 0], [0, 1, 1, 2, 2, 0, 0], [0, 1, 2, 0, 0, 0, 0]]
  | 3, 3, 2 => [[0, 0, 0, 0, 0, 0, 0, 0, 0, 1], [0, 0, 0, 0, 0, 0, 0, 0, 1, 1], [0, 0, 0, 0, 0, 0, 0, 1, 1, 1], [0, 0, 0, 0, 0, 0, 1, 0, 0, 0], [0, 0, 0, 0, 0, 1, 1, 0, 0, 0], [0, 0, 0, 0, 1, 1, 1, 0, 0, 0], [0, 0, 0, 1, 0, 0, 0, 0, 0, 0], [0, 0, 1, 1, 0, 0, 0, 0, 0, 0], [0, 1, 1, 1, 0, 0, 0, 0, 0, 0]]
  | 3, 3, 3 => [[0, 0, 0, 0, 0, 0, 0, 0, 1, 2], [0, 0, 0, 0, 0, 0, 0, 1, 1, 2], [0, 0, 0, 0, 0, 0, 0, 1, 2, 2], [0, 0, 0, 0, 0, 0, 1, 0, 0, 2], [0, 0, 0, 0, 0, 0, 1, 0, 2, 2], [0, 0, 0, 0, 0, 0, 1, 2, 2, 2], [0, 0, 0, 0, 0, 1, 1, 0, 0, 2], [0, 0, 0, 0, 0, 1, 1, 0, 2, 2], [0, 0, 0, 0, 0, 1, 1, 2, 2, 2], [0, 0, 0, 0, 0, 1, 2, 0, 0, 0], [0, 0, 0, 0, 1, 1, 1, 0, 0, 2], [0, 0, 0, 0, 1, 1, 1, 0, 2, 2], [0, 0, 0, 0, 1, 1, 1, 2, 2, 2], [0, 0, 0, 0, 1, 1, 2, 0, 0, 0], [0, 0, 0, 0, 1, 2, 2, 0, 0, 0], [0, 0, 0, 1, 0, 0, 0, 0, 0, 2], [0, 0, 0, 1, 0, 0, 0, 0, 2, 2], [0, 0, 0, 1, 0, 0, 0, 2, 2, 2], [0, 0, 0, 1, 0, 0, 2, 0, 0, 0], [0, 0, 0, 1, 0, 2, 2, 0, 0, 0], [0, 0, 0, 1, 2, 2, 2, 0, 0, 0], [0, 0, 1, 1, 0, 0, 0, 0, 0, 2], [0, 0, 1, 1, 0, 0, 0, 0, 2, 2], [0, 0, 1, 1, 0, 0, 0, 2, 2, 2], [0, 0, 1, 1, 0, 0, 2, 0, 0, 0], [0, 0, 1, 1, 0, 2, 2, 0, 0, 0], [0, 0, 1, 1, 2, 2, 2, 0, 0, 0], [0, 0, 1, 2, 0, 0, 0, 0, 0, 0], [0, 1, 1, 1, 0, 0, 0, 0, 0, 2], [0, 1, 1, 1, 0, 0, 0, 0, 2, 2], [0, 1, 1, 1, 0, 0, 0, 2, 2, 2], [0, 1, 1, 1, 0, 0, 2, 0, 0, 0], [0, 1, 1, 1, 0, 2, 2, 0, 0, 0], [0, 1, 1, 1, 2, 2, 2, 0, 0, 0], [0, 1, 1, 2, 0, 0, 0, 0, 0, 0], [0, 1, 2, 2, 0, 0, 0, 0, 0, 0]]
  | 3, 3, 4 => [[0, 0, 0, 0, 0, 0, 0, 1, 2, 3], [0, 0, 0, 0, 0, 0, 1, 0, 2, 3], [0, 0, 0, 0, 0, 0, 1, 2, 2, 3], [0, 0, 0, 0, 0, 0, 1, 2, 3, 3], [0, 0, 0, 0, 0, 1, 1, 0, 2, 3], [0, 0, 0, 0, 0, 1, 1, 2, 2, 3], [0, 0, 0, 0, 0, 1, 1, 2, 3, 3], [0, 0, 0, 0, 0, 1, 2, 0, 0, 3], [0, 0, 0, 0, 0, 1, 2, 0, 3, 3], [0, 0, 0, 0, 0, 1, 2, 3, 3, 3], [0, 0, 0, 0, 1, 1, 1, 0, 2, 3], [0, 0, 0, 0, 1, 1, 1, 2, 2, 3], [0, 0, 0, 0, 1, 1, 1, 2, 3, 3], [0, 0, 0, 0, 1, 1, 2, 0, 0, 3], [0, 0, 0, 0, 1, 1, 2, 0, 3, 3], [0, 0, 0, 0, 1, 1, 2, 3, 3, 3], [0, 0, 0, 0, 1, 2, 2, 0, 0, 3], [0, 0, 0, 0, 1, 2, 2, 0, 3, 3], [0, 0, 0, 0, 1, 2, 2, 3, 3, 3], [0, 0, 0, 0, 1, 2, 3, 0, 0, 0], [0, 0, 0, 1, 0, 0, 0, 0, 2, 3], [0, 0, 0, 1, 0, 0, 0, 2, 2, 3], [0, 0, 0, 1, 0, 0, 0, 2, 3, 3], [0, 0, 0, 1, 0, 0, 2, 0, 0, 3], [0, 0, 0, 1, 0, 0, 2, 0, 3, 3], [0, 0, 0, 1, 0, 0, 2, 3, 3, 3], [0, 0, 0, 1, 0, 2, 2, 0, 0, 3], [0, 0, 0, 1, 0, 2, 2, 0, 3, 3], [0, 0, 0, 1, 0, 2, 2, 3, 3, 3], [0, 0, 0, 1, 0, 2, 3, 0, 0, 0], [0, 0, 0, 1, 2, 2, 2, 0, 0, 3], [0, 0, 0, 1, 2, 2, 2, 0, 3, 3], [0, 0, 0, 1, 2, 2, 2, 3, 3, 3], [0, 0, 0, 1, 2, 2, 3, 0, 0, 0], [0, 0, 0, 1, 2, 3, 3, 0, 0, 0], [0, 0, 1, 1, 0, 0, 0, 0, 2, 3], [0, 0, 1, 1, 0, 0, 0, 2, 2, 3], [0, 0, 1, 1, 0, 0, 0, 2, 3, 3], [0, 0, 1, 1, 0, 0, 2, 0, 0, 3], [0, 0, 1, 1, 0, 0, 2, 0, 3, 3], [0, 0, 1, 1, 0, 0, 2, 3, 3, 3], [0, 0, 1, 1, 0, 2, 2, 0, 0, 3], [0, 0, 1, 1, 0, 2, 2, 0, 3, 3], [0, 0, 1, 1, 0, 2, 2, 3, 3, 3], [0, 0, 1, 1, 0, 2, 3, 0, 0, 0], [0, 0, 1, 1, 2, 2, 2, 0, 0, 3], [0, 0, 1, 1, 2, 2, 2, 0, 3, 3], [0, 0, 1, 1, 2, 2, 2, 3, 3, 3], [0, 0, 1, 1, 2, 2, 3, 0, 0, 0], [0, 0, 1, 1, 2, 3, 3, 0, 0, 0], [0, 0, 1, 2, 0, 0, 0, 0, 0, 3], [0, 0, 1, 2, 0, 0, 0, 0, 3, 3], [0, 0, 1, 2, 0, 0, 0, 3, 3, 3], [0, 0, 1, 2, 0, 0, 3, 0, 0, 0], [0, 0, 1, 2, 0, 3, 3, 0, 0, 0], [0, 0, 1, 2, 3, 3, 3, 0, 0, 0], [0, 1, 1, 1, 0, 0, 0, 0, 2, 3], [0, 1, 1, 1, 0, 0, 0, 2, 2, 3], [0, 1, 1, 1, 0, 0, 0, 2, 3, 3], [0, 1, 1, 1, 0, 0, 2, 0, 0, 3], [0, 1, 1, 1, 0, 0, 2, 0, 3, 3], [0, 1, 1, 1, 0, 0, 2, 3, 3, 3], [0, 1, 1, 1, 0, 2, 2, 0, 0, 3], [0, 1, 1, 1, 0, 2, 2, 0, 3, 3], [0, 1, 1, 1, 0, 2, 2, 3, 3, 3], [0, 1, 1, 1, 0, 2, 3, 0, 0, 0], [0, 1, 1, 1, 2, 2, 2, 0, 0, 3], [0, 1, 1, 1, 2, 2, 2, 0, 3, 3], [0, 1, 1, 1, 2, 2, 2, 3, 3, 3], [0, 1, 1, 1, 2, 2, 3, 0, 0, 0], [0, 1, 1, 1, 2, 3, 3, 0, 0, 0], [0, 1, 1, 2, 0, 0, 0, 0, 0, 3], [0, 1, 1, 2, 0, 0, 0, 0, 3, 3], [0, 1, 1, 2, 0, 0, 0, 3, 3, 3], [0, 1, 1, 2, 0, 0, 3, 0, 0, 0], [0, 1, 1, 2, 0, 3, 3, 0, 0, 0], [0, 1, 1, 2, 3, 3, 3, 0, 0, 0], [0, 1, 2, 2, 0, 0, 0, 0, 0, 3], [0, 1, 2, 2, 0, 0, 0, 0, 3, 3], [0, 1, 2, 2, 0, 0, 0, 3, 3, 3], [0, 1, 2, 2, 0, 0, 3, 0, 0, 0], [0, 1, 2, 2, 0, 3, 3, 0, 0, 0], [0, 1, 2, 2, 3, 3, 3, 0, 0, 0], [0, 1, 2, 3, 0, 0, 0, 0, 0, 0]]
  | 4, 1, 2 => [[0, 0, 0, 0, 1], [0, 0, 0, 1, 0], [0, 0, 1, 0, 0], [0, 1, 0, 0, 0]]
  | 4, 2, 2 => [[0, 0, 0, 0, 0, 0, 0, 0, 1], [0, 0, 0, 0, 0, 0, 0, 1, 1], [0, 0, 0, 0, 0, 0, 1, 0, 0], [0, 0, 0, 0, 0, 1, 1, 0, 0], [0, 0, 0, 0, 1, 0, 0, 0, 0], [0, 0, 0, 1, 1, 0, 0, 0, 0], [0, 0, 1, 0, 0, 0, 0, 0, 0], [0, 1, 1, 0, 0, 0, 0, 0, 0]]
  | 4, 2, 3 => [[0, 0, 0, 0, 0, 0, 0, 1, 2], [0, 0, 0, 0, 0, 0, 1, 0, 2], [0, 0, 0, 0, 0, 0, 1, 2, 2], [0, 0, 0, 0, 0, 1, 1, 0, 2], [0, 0, 0, 0, 0, 1, 1, 2, 2], [0, 0, 0, 0, 0, 1, 2, 0, 0], [0, 0, 0, 0, 1, 0, 0, 0, 2], [0, 0, 0, 0, 1, 0, 0, 2, 2], [0, 0, 0, 0, 1, 0, 2, 0, 0], [0, 0, 0, 0, 1, 2, 2, 0, 0], [0, 0, 0, 1, 1, 0, 0, 0, 2], [0, 0, 0, 1, 1, 0, 0, 2, 2], [0, 0, 0, 1, 1, 0, 2, 0, 0], [0, 0, 0, 1, 1, 2, 2, 0, 0], [0, 0, 0, 1, 2, 0, 0, 0, 0], [0, 0, 1, 0, 0, 0, 0, 0, 2], [0, 0, 1, 0, 0, 0, 0, 2, 2], [0, 0, 1, 0, 0, 0, 2, 0, 0], [0, 0, 1, 0, 0, 2, 2, 0, 0], [0, 0, 1, 0, 2, 0, 0, 0, 0], [0, 0, 1, 2, 2, 0, 0, 0, 0], [0, 1, 1, 0, 0, 0, 0, 0, 2], [0, 1, 1, 0, 0, 0, 0, 2, 2], [0, 1, 1, 0, 0, 0, 2, 0, 0], [0, 1, 1, 0, 0, 2, 2, 0, 0], [0, 1, 1, 0, 2, 0, 0, 0, 0], [0, 1, 1, 2, 2, 0, 0, 0, 0], [0, 1, 2, 0, 0, 0, 0, 0, 0]]
  | 4, 3, 2 => [[0, 0, 0, 0, 0, 0, 0, 0, 0, 0, 0, 0, 1], [0, 0, 0, 0, 0, 0, 0, 0, 0, 0, 0, 1, 1], [0, 0, 0, 0, 0, 0, 0, 0, 0, 0, 1, 1, 1], [0, 0, 0, 0, 0, 0, 0, 0, 0, 1, 0, 0, 0], [0, 0, 0, 0, 0, 0, 0, 0, 1, 1, 0, 0, 0], [0, 0, 0, 0, 0, 0, 0, 1, 1, 1, 0, 0, 0], [0, 0, 0, 0, 0, 0, 1, 0, 0, 0, 0, 0, 0], [0, 0, 0, 0, 0, 1, 1, 0, 0, 0, 0, 0, 0], [0, 0, 0, 0, 1, 1, 1, 0, 0, 0, 0, 0, 0], [0, 0, 0, 1, 0, 0, 0, 0, 0, 0, 0, 0, 0], [0, 0, 1, 1, 0, 0, 0, 0, 0, 0, 0, 0, 0], [0, 1, 1, 1, 0, 0, 0, 0, 0, 0, 0, 0, 0]]
  | 4, 3, 3 => [[0, 0, 0, 0, 0, 0, 0, 0, 0, 0, 0, 1, 2], [0, 0, 0, 0, 0, 0, 0, 0, 0, 0, 1, 1, 2], [0, 0, 0, 0, 0, 0, 0, 0, 0, 0, 1, 2, 2], [0, 0, 0, 0, 0, 0, 0, 0, 0, 1, 0, 0, 2], [0, 0, 0, 0, 0, 0, 0, 0, 0, 1, 0, 2, 2], [0, 0, 0, 0, 0, 0, 0, 0, 0, 1, 2, 2, 2], [0, 0, 0, 0, 0, 0, 0, 0, 1, 1, 0, 0, 2], [0, 0, 0, 0, 0, 0, 0, 0, 1, 1, 0, 2, 2], [0, 0, 0, 0, 0, 0, 0, 0, 1, 1, 2, 2, 2], [0, 0, 0, 0, 0, 0, 0, 0, 1, 2, 0, 0, 0], [0, 0, 0, 0, 0, 0, 0, 1, 1, 1, 0, 0, 2], [0, 0, 0, 0, 0, 0, 0, 1, 1, 1, 0, 2, 2], [0, 0, 0, 0, 0, 0, 0, 1, 1, 1, 2, 2, 2], [0, 0, 0, 0, 0, 0, 0, 1, 1, 2, 0, 0, 0], [0, 0, 0, 0, 0, 0, 0, 1, 2, 2, 0, 0, 0], [0, 0, 0, 0, 0, 0, 1, 0, 0, 0, 0, 0, 2], [0, 0, 0, 0, 0, 0, 1, 0, 0, 0, 0, 2, 2], [0, 0, 0, 0, 0, 0, 1, 0, 0, 0, 2, 2, 2], [0, 0, 0, 0, 0, 0, 1, 0, 0, 2, 0, 0, 0], [0, 0, 0, 0, 0, 0, 1, 0, 2, 2, 0, 0, 0], [0, 0, 0, 0, 0, 0, 1, 2, 2, 2, 0, 0, 0], [0, 0, 0, 0, 0, 1, 1, 0, 0, 0, 0, 0, 2], [0, 0, 0, 0, 0, 1, 1, 0, 0, 0, 0, 2, 2], [0, 0, 0, 0, 0, 1, 1, 0, 0, 0, 2, 2, 2], [0, 0, 0, 0, 0, 1, 1, 0, 0, 2, 0, 0, 0], [0, 0, 0, 0, 0, 1, 1, 0, 2, 2, 0, 0, 0], [0, 0, 0, 0, 0, 1, 1, 2, 2, 2, 0, 0, 0], [0, 0, 0, 0, 0, 1, 2, 0, 0, 0, 0, 0, 0], [0, 0, 0, 0, 1, 1, 1, 0, 0, 0, 0, 0, 2], [0, 0, 0, 0, 1, 1, 1, 0, 0, 0, 0, 2, 2], [0, 0, 0, 0, 1, 1, 1, 0, 0, 0, 2, 2, 2], [0, 0, 0, 0, 1, 1, 1, 0, 0, 2, 0, 0, 0], [0, 0, 0, 0, 1, 1, 1, 0, 2, 2, 0, 0, 0], [0, 0, 0, 0, 1, 1, 1, 2, 2, 2, 0, 0, 0], [0, 0, 0, 0, 1, 1, 2, 0, 0, 0, 0, 0, 0], [0, 0, 0, 0, 1, 2, 2, 0, 0, 0, 0, 0, 0], [0, 0, 0, 1, 0, 0, 0, 0, 0, 0, 0, 0, 2], [0, 0, 0, 1, 0, 0, 0, 0, 0, 0, 0, 2, 2], [0, 0, 0, 1, 0, 0, 0, 0, 0, 0, 2, 2, 2], [0, 0, 0, 1, 0, 0, 0, 0, 0, 2, 0, 0, 0], [0, 0, 0, 1, 0, 0, 0, 0, 2, 2, 0, 0, 0], [0, 0, 0, 1, 0, 0, 0, 2, 2, 2, 0, 0, 0], [0, 0, 0, 1, 0, 0, 2, 0, 0, 0, 0, 0, 0], [0, 0, 0, 1, 0, 2, 2, 0, 0, 0, 0, 0, 0], [0, 0, 0, 1, 2, 2, 2, 0, 0, 0, 0, 0, 0], [0, 0, 1, 1, 0, 0, 0, 0, 0, 0, 0, 0, 2], [0, 0, 1, 1, 0, 0, 0, 0, 0, 0, 0, 2, 2], [0, 0, 1, 1, 0, 0, 0, 0, 0, 0, 2, 2, 2], [0, 0, 1, 1, 0, 0, 0, 0, 0, 2, 0, 0, 0], [0, 0, 1, 1, 0, 0, 0, 0, 2, 2, 0, 0, 0], [0, 0, 1, 1, 0, 0, 0, 2, 2, 2, 0, 0, 0], [0, 0, 1, 1, 0, 0, 2, 0, 0, 0, 0, 0, 0], [0, 0, 1, 1, 0, 2, 2, 0, 0, 0, 0, 0, 0], [0, 0, 1, 1, 2, 2, 2, 0, 0, 0, 0, 0, 0], [0, 0, 1, 2, 0, 0, 0, 0, 0, 0, 0, 0, 0], [0, 1, 1, 1, 0, 0, 0, 0, 0, 0, 0, 0, 2], [0, 1, 1, 1, 0, 0, 0, 0, 0, 0, 0, 2, 2], [0, 1, 1, 1, 0, 0, 0, 0, 0, 0, 2, 2, 2], [0, 1, 1, 1, 0, 0, 0, 0, 0, 2, 0, 0, 0], [0, 1, 1, 1, 0, 0, 0, 0, 2, 2, 0, 0, 0], [0, 1, 1, 1, 0, 0, 0, 2, 2, 2, 0, 0, 0], [0, 1, 1, 1, 0, 0, 2, 0, 0, 0, 0, 0, 0], [0, 1, 1, 1, 0, 2, 2, 0, 0, 0, 0, 0, 0], [0, 1, 1, 1, 2, 2, 2, 0, 0, 0, 0, 0, 0], [0, 1, 1, 2, 0, 0, 0, 0, 0, 0, 0, 0, 0], [0, 1, 2, 2, 0, 0, 0, 0, 0, 0, 0, 0, 0]]
  | 4, 3, 4 => [[0, 0, 0, 0, 0, 0, 0, 0, 0, 0, 1, 2, 3], [0, 0, 0, 0, 0, 0, 0, 0, 0, 1, 0, 2, 3], [0, 0, 0, 0, 0, 0, 0, 0, 0, 1, 2, 2, 3], [0, 0, 0, 0, 0, 0, 0, 0, 0, 1, 2, 3, 3], [0, 0, 0, 0, 0, 0, 0, 0, 1, 1, 0, 2, 3], [0, 0, 0, 0, 0, 0, 0, 0, 1, 1, 2, 2, 3], [0, 0, 0, 0, 0, 0, 0, 0, 1, 1, 2, 3, 3], [0, 0, 0, 0, 0, 0, 0, 0, 1, 2, 0, 0, 3], [0, 0, 0, 0, 0, 0, 0, 0, 1, 2, 0, 3, 3], [0, 0, 0, 0, 0, 0, 0, 0, 1, 2, 3, 3, 3], [0, 0, 0, 0, 0, 0, 0, 1, 1, 1, 0, 2, 3], [0, 0, 0, 0, 0, 0, 0, 1, 1, 1, 2, 2, 3], [0, 0, 0, 0, 0, 0, 0, 1, 1, 1, 2, 3, 3], [0, 0, 0, 0, 0, 0, 0, 1, 1, 2, 0, 0, 3], [0, 0, 0, 0, 0, 0, 0, 1, 1, 2, 0, 3, 3], [0, 0, 0, 0, 0, 0, 0, 1, 1, 2, 3, 3, 3], [0, 0, 0, 0, 0, 0, 0, 1, 2, 2, 0, 0, 3], [0, 0, 0, 0, 0, 0, 0, 1, 2, 2, 0, 3, 3], [0, 0, 0, 0, 0, 0, 0, 1, 2, 2, 3, 3, 3], [0, 0, 0, 0, 0, 0, 0, 1, 2, 3, 0, 0, 0], [0, 0, 0, 0, 0, 0, 1, 0, 0, 0, 0, 2, 3], [0, 0, 0, 0, 0, 0, 1, 0, 0, 0, 2, 2, 3], [0, 0, 0, 0, 0, 0, 1, 0, 0, 0, 2, 3, 3], [0, 0, 0, 0, 0, 0, 1, 0, 0, 2, 0, 0, 3], [0, 0, 0, 0, 0, 0, 1, 0, 0, 2, 0, 3, 3], [0, 0, 0, 0, 0, 0, 1, 0, 0, 2, 3, 3, 3], [0, 0, 0, 0, 0, 0, 1, 0, 2, 2, 0, 0, 3], [0, 0, 0, 0, 0, 0, 1, 0, 2, 2, 0, 3, 3], [0, 0, 0, 0, 0, 0, 1, 0, 2, 2, 3, 3, 3], [0, 0, 0, 0, 0, 0, 1, 0, 2, 3, 0, 0, 0], [0, 0, 0, 0, 0, 0, 1, 2, 2, 2, 0, 0, 3], [0, 0, 0, 0, 0, 0, 1, 2, 2, 2, 0, 3, 3], [0, 0, 0, 0, 0, 0, 1, 2, 2, 2, 3, 3, 3], [0, 0, 0, 0, 0, 0, 1, 2, 2, 3, 0, 0, 0], [0, 0, 0, 0, 0, 0, 1, 2, 3, 3, 0, 0, 0], [0, 0, 0, 0, 0, 1, 1, 0, 0, 0, 0, 2, 3], [0, 0, 0, 0, 0, 1, 1, 0, 0, 0, 2, 2, 3], [0, 0, 0, 0, 0, 1, 1, 0, 0, 0, 2, 3, 3], [0, 0, 0, 0, 0, 1, 1, 0, 0, 2, 0, 0, 3], [0, 0, 0, 0, 0, 1, 1, 0, 0, 2, 0, 3, 3], [0, 0, 0, 0, 0, 1, 1, 0, 0, 2, 3, 3, 3], [0, 0, 0, 0, 0, 1, 1, 0, 2, 2, 0, 0, 3], [0, 0, 0, 0, 0, 1, 1, 0, 2, 2, 0, 3, 3], [0, 0, 0, 0, 0, 1, 1, 0, 2, 2, 3, 3, 3], [0, 0, 0, 0, 0, 1, 1, 0, 2, 3, 0, 0, 0], [0, 0, 0, 0, 0, 1, 1, 2, 2, 2, 0, 0, 3], [0, 0, 0, 0, 0, 1, 1, 2, 2, 2, 0, 3, 3], [0, 0, 0, 0, 0, 1, 1, 2, 2, 2, 3, 3, 3], [0, 0, 0, 0, 0, 1, 1, 2, 2, 3, 0, 0, 0], [0, 0, 0, 0, 0, 1, 1, 2, 3, 3, 0, 0, 0], [0, 0, 0, 0, 0, 1, 2, 0, 0, 0, 0, 0, 3], [0, 0, 0, 0, 0, 1, 2, 0, 0, 0, 0, 3, 3], [0, 0, 0, 0, 0, 1, 2, 0, 0, 0, 3, 3, 3], [0, 0, 0, 0, 0, 1, 2, 0, 0, 3, 0, 0, 0], [0, 0, 0, 0, 0, 1, 2, 0, 3, 3, 0, 0, 0], [0, 0, 0, 0, 0, 1, 2, 3, 3, 3, 0, 0, 0], [0, 0, 0, 0, 1, 1, 1, 0, 0, 0, 0, 2, 3], [0, 0, 0, 0, 1, 1, 1, 0, 0, 0, 2, 2, 3], [0, 0, 0, 0, 1, 1, 1, 0, 0, 0, 2, 3, 3], [0, 0, 0, 0, 1, 1, 1, 0, 0, 2, 0, 0, 3], [0, 0, 0, 0, 1, 1, 1, 0, 0, 2, 0, 3, 3], [0, 0, 0, 0, 1, 1, 1, 0, 0, 2, 3, 3, 3], [0, 0, 0, 0, 1, 1, 1, 0, 2, 2, 0, 0, 3], [0, 0, 0, 0, 1, 1, 1, 0, 2, 2, 0, 3, 3], [0, 0, 0, 0, 1, 1, 1, 0, 2, 2, 3, 3, 3], [0, 0, 0, 0, 1, 1, 1, 0, 2, 3, 0, 0, 0], [0, 0, 0, 0, 1, 1, 1, 2, 2, 2, 0, 0, 3], [0, 0, 0, 0, 1, 1, 1, 2, 2, 2, 0, 3, 3], [0, 0, 0, 0, 1, 1, 1, 2, 2, 2, 3, 3, 3], [0, 0, 0, 0, 1, 1, 1, 2, 2, 3, 0, 0, 0], [0, 0, 0, 0, 1, 1, 1, 2, 3, 3, 0, 0, 0], [0, 0, 0, 0, 1, 1, 2, 0, 0, 0, 0, 0, 3], [0, 0, 0, 0, 1, 1, 2, 0, 0, 0, 0, 3, 3], [0, 0, 0, 0, 1, 1, 2, 0, 0, 0, 3, 3, 3], [0, 0, 0, 0, 1, 1, 2, 0, 0, 3, 0, 0, 0], [0, 0, 0, 0, 1, 1, 2, 0, 3, 3, 0, 0, 0], [0, 0, 0, 0, 1, 1, 2, 3, 3, 3, 0, 0, 0], [0, 0, 0, 0, 1, 2, 2, 0, 0, 0, 0, 0, 3], [0, 0, 0, 0, 1, 2, 2, 0, 0, 0, 0, 3, 3], [0, 0, 0, 0, 1, 2, 2, 0, 0, 0, 3, 3, 3], [0, 0, 0, 0, 1, 2, 2, 0, 0, 3, 0, 0, 0], [0, 0, 0, 0, 1, 2, 2, 0, 3, 3, 0, 0, 0], [0, 0, 0, 0, 1, 2, 2, 3, 3, 3, 0, 0, 0], [0, 0, 0, 0, 1, 2, 3, 0, 0, 0, 0, 0, 0], [0, 0, 0, 1, 0, 0, 0, 0, 0, 0, 0, 2, 3], [0, 0, 0, 1, 0, 0, 0, 0, 0, 0, 2, 2, 3], [0, 0, 0, 1, 0, 0, 0, 0, 0, 0, 2, 3, 3], [0, 0, 0, 1, 0, 0, 0, 0, 0, 2, 0, 0, 3], [0, 0, 0, 1, 0, 0, 0, 0, 0, 2, 0, 3, 3], [0, 0, 0, 1, 0, 0, 0, 0, 0, 2, 3, 3, 3], [0, 0, 0, 1, 0, 0, 0, 0, 2, 2, 0, 0, 3], [0, 0, 0, 1, 0, 0, 0, 0, 2, 2, 0, 3, 3], [0, 0, 0, 1, 0, 0, 0, 0, 2, 2, 3, 3, 3], [0, 0, 0, 1, 0, 0, 0, 0, 2, 3, 0, 0, 0], [0, 0, 0, 1, 0, 0, 0, 2, 2, 2, 0, 0, 3], [0, 0, 0, 1, 0, 0, 0, 2, 2, 2, 0, 3, 3], [0, 0, 0, 1, 0, 0, 0, 2, 2, 2, 3, 3, 3], [0, 0, 0, 1, 0, 0, 0, 2, 2, 3, 0, 0, 0], [0, 0, 0, 1, 0, 0, 0, 2, 3, 3, 0, 0, 0], [0, 0, 0, 1, 0, 0, 2, 0, 0, 0, 0, 0, 3], [0, 0, 0, 1, 0, 0, 2, 0, 0, 0, 0, 3, 3], [0, 0, 0, 1, 0, 0, 2, 0, 0, 0, 3, 3, 3], [0, 0, 0, 1, 0, 0, 2, 0, 0, 3, 0, 0, 0], [0, 0, 0, 1, 0, 0, 2, 0, 3, 3, 0, 0, 0], [0, 0, 0, 1, 0, 0, 2, 3, 3, 3, 0, 0, 0], [0, 0, 0, 1, 0, 2, 2, 0, 0, 0, 0, 0, 3], [0, 0, 0, 1, 0, 2, 2, 0, 0, 0, 0, 3, 3], [0, 0, 0, 1, 0, 2, 2, 0, 0, 0, 3, 3, 3], [0, 0, 0, 1, 0, 2, 2, 0, 0, 3, 0, 0, 0], [0, 0, 0, 1, 0, 2, 2, 0, 3, 3, 0, 0, 0], [0, 0, 0, 1, 0, 2, 2, 3, 3, 3, 0, 0, 0], [0, 0, 0, 1, 0, 2, 3, 0, 0, 0, 0, 0, 0], [0, 0, 0, 1, 2, 2, 2, 0, 0, 0, 0, 0, 3], [0, 0, 0, 1, 2, 2, 2, 0, 0, 0, 0, 3, 3], [0, 0, 0, 1, 2, 2, 2, 0, 0, 0, 3, 3, 3], [0, 0, 0, 1, 2, 2, 2, 0, 0, 3, 0, 0, 0], [0, 0, 0, 1, 2, 2, 2, 0, 3, 3, 0, 0, 0], [0, 0, 0, 1, 2, 2, 2, 3, 3, 3, 0, 0, 0], [0, 0, 0, 1, 2, 2, 3, 0, 0, 0, 0, 0, 0], [0, 0, 0, 1, 2, 3, 3, 0, 0, 0, 0, 0, 0], [0, 0, 1, 1, 0, 0, 0, 0, 0, 0, 0, 2, 3], [0, 0, 1, 1, 0, 0, 0, 0, 0, 0, 2, 2, 3], [0, 0, 1, 1, 0, 0, 0, 0, 0, 0, 2, 3, 3], [0, 0, 1, 1, 0, 0, 0, 0, 0, 2, 0, 0, 3], [0, 0, 1, 1, 0, 0, 0, 0, 0, 2, 0, 3, 3], [0, 0, 1, 1, 0, 0, 0, 0, 0, 2, 3, 3, 3], [0, 0, 1, 1, 0, 0, 0, 0, 2, 2, 0, 0, 3], [0, 0, 1, 1, 0, 0, 0, 0, 2, 2, 0, 3, 3], [0, 0, 1, 1, 0, 0, 0, 0, 2, 2, 3, 3, 3], [0, 0, 1, 1, 0, 0, 0, 0, 2, 3, 0, 0, 0], [0, 0, 1, 1, 0, 0, 0, 2, 2, 2, 0, 0, 3], [0, 0, 1, 1, 0, 0, 0, 2, 2, 2, 0, 3, 3], [0, 0, 1, 1, 0, 0, 0, 2, 2, 2, 3, 3, 3], [0, 0, 1, 1, 0, 0, 0, 2, 2, 3, 0, 0, 0], [0, 0, 1, 1, 0, 0, 0, 2, 3, 3, 0, 0, 0], [0, 0, 1, 1, 0, 0, 2, 0, 0, 0, 0, 0, 3], [0, 0, 1, 1, 0, 0, 2, 0, 0, 0, 0, 3, 3], [0, 0, 1, 1, 0, 0, 2, 0, 0, 0, 3, 3, 3], [0, 0, 1, 1, 0, 0, 2, 0, 0, 3, 0, 0, 0], [0, 0, 1, 1, 0, 0, 2, 0, 3, 3, 0, 0, 0], [0, 0, 1, 1, 0, 0, 2, 3, 3, 3, 0, 0, 0], [0, 0, 1, 1, 0, 2, 2, 0, 0, 0, 0, 0, 3], [0, 0, 1, 1, 0, 2, 2, 0, 0, 0, 0, 3, 3], [0, 0, 1, 1, 0, 2, 2, 0, 0, 0, 3, 3, 3], [0, 0, 1, 1, 0, 2, 2, 0, 0, 3, 0, 0, 0], [0, 0, 1, 1, 0, 2, 2, 0, 3, 3, 0, 0, 0], [0, 0, 1, 1, 0, 2, 2, 3, 3, 3, 0, 0, 0], [0, 0, 1, 1, 0, 2, 3, 0, 0, 0, 0, 0, 0], [0, 0, 1, 1, 2, 2, 2, 0, 0, 0, 0, 0, 3], [0, 0, 1, 1, 2, 2, 2, 0, 0, 0, 0, 3, 3], [0, 0, 1, 1, 2, 2, 2, 0, 0, 0, 3, 3, 3], [0, 0, 1, 1, 2, 2, 2, 0, 0, 3, 0, 0, 0], [0, 0, 1, 1, 2, 2, 2, 0, 3, 3, 0, 0, 0], [0, 0, 1, 1, 2, 2, 2, 3, 3, 3, 0, 0, 0], [0, 0, 1, 1, 2, 2, 3, 0, 0, 0, 0, 0, 0], [0, 0, 1, 1, 2, 3, 3, 0, 0, 0, 0, 0, 0], [0, 0, 1, 2, 0, 0, 0, 0, 0, 0, 0, 0, 3], [0, 0, 1, 2, 0, 0, 0, 0, 0, 0, 0, 3, 3], [0, 0, 1, 2, 0, 0, 0, 0, 0, 0, 3, 3, 3], [0, 0, 1, 2, 0, 0, 0, 0, 0, 3, 0, 0, 0], [0, 0, 1, 2, 0, 0, 0, 0, 3, 3, 0, 0, 0], [0, 0, 1, 2, 0, 0, 0, 3, 3, 3, 0, 0, 0], [0, 0, 1, 2, 0, 0, 3, 0, 0, 0, 0, 0, 0], [0, 0, 1, 2, 0, 3, 3, 0, 0, 0, 0, 0, 0], [0, 0, 1, 2, 3, 3, 3, 0, 0, 0, 0, 0, 0], [0, 1, 1, 1, 0, 0, 0, 0, 0, 0, 0, 2, 3], [0, 1, 1, 1, 0, 0, 0, 0, 0, 0, 2, 2, 3], [0, 1, 1, 1, 0, 0, 0, 0, 0, 0, 2, 3, 3], [0, 1, 1, 1, 0, 0, 0, 0, 0, 2, 0, 0, 3], [0, 1, 1, 1, 0, 0, 0, 0, 0, 2, 0, 3, 3], [0, 1, 1, 1, 0, 0, 0, 0, 0, 2, 3, 3, 3], [0, 1, 1, 1, 0, 0, 0, 0, 2, 2, 0, 0, 3], [0, 1, 1, 1, 0, 0, 0, 0, 2, 2, 0, 3, 3], [0, 1, 1, 1, 0, 0, 0, 0, 2, 2, 3, 3, 3], [0, 1, 1, 1, 0, 0, 0, 0, 2, 3, 0, 0, 0], [0, 1, 1, 1, 0, 0, 0, 2, 2, 2, 0, 0, 3], [0, 1, 1, 1, 0, 0, 0, 2, 2, 2, 0, 3, 3], [0, 1, 1, 1, 0, 0, 0, 2, 2, 2, 3, 3, 3], [0, 1, 1, 1, 0, 0, 0, 2, 2, 3, 0, 0, 0], [0, 1, 1, 1, 0, 0, 0, 2, 3, 3, 0, 0, 0], [0, 1, 1, 1, 0, 0, 2, 0, 0, 0, 0, 0, 3], [0, 1, 1, 1, 0, 0, 2, 0, 0, 0, 0, 3, 3], [0, 1, 1, 1, 0, 0, 2, 0, 0, 0, 3, 3, 3], [0, 1, 1, 1, 0, 0, 2, 0, 0, 3, 0, 0, 0], [0, 1, 1, 1, 0, 0, 2, 0, 3, 3, 0, 0, 0], [0, 1, 1, 1, 0, 0, 2, 3, 3, 3, 0, 0, 0], [0, 1, 1, 1, 0, 2, 2, 0, 0, 0, 0, 0, 3], [0, 1, 1, 1, 0, 2, 2, 0, 0, 0, 0, 3, 3], [0, 1, 1, 1, 0, 2, 2, 0, 0, 0, 3, 3, 3], [0, 1, 1, 1, 0, 2, 2, 0, 0, 3, 0, 0, 0], [0, 1, 1, 1, 0, 2, 2, 0, 3, 3, 0, 0, 0], [0, 1, 1, 1, 0, 2, 2, 3, 3, 3, 0, 0, 0], [0, 1, 1, 1, 0, 2, 3, 0, 0, 0, 0, 0, 0], [0, 1, 1, 1, 2, 2, 2, 0, 0, 0, 0, 0, 3], [0, 1, 1, 1, 2, 2, 2, 0, 0, 0, 0, 3, 3], [0, 1, 1, 1, 2, 2, 2, 0, 0, 0, 3, 3, 3], [0, 1, 1, 1, 2, 2, 2, 0, 0, 3, 0, 0, 0], [0, 1, 1, 1, 2, 2, 2, 0, 3, 3, 0, 0, 0], [0, 1, 1, 1, 2, 2, 2, 3, 3, 3, 0, 0, 0], [0, 1, 1, 1, 2, 2, 3, 0, 0, 0, 0, 0, 0], [0, 1, 1, 1, 2, 3, 3, 0, 0, 0, 0, 0, 0], [0, 1, 1, 2, 0, 0, 0, 0, 0, 0, 0, 0, 3], [0, 1, 1, 2, 0, 0, 0, 0, 0, 0, 0, 3, 3], [0, 1, 1, 2, 0, 0, 0, 0, 0, 0, 3, 3, 3], [0, 1, 1, 2, 0, 0, 0, 0, 0, 3, 0, 0, 0], [0, 1, 1, 2, 0, 0, 0, 0, 3, 3, 0, 0, 0], [0, 1, 1, 2, 0, 0, 0, 3, 3, 3, 0, 0, 0], [0, 1, 1, 2, 0, 0, 3, 0, 0, 0, 0, 0, 0], [0, 1, 1, 2, 0, 3, 3, 0, 0, 0, 0, 0, 0], [0, 1, 1, 2, 3, 3, 3, 0, 0, 0, 0, 0, 0], [0, 1, 2, 2, 0, 0, 0, 0, 0, 0, 0, 0, 3], [0, 1, 2, 2, 0, 0, 0, 0, 0, 0, 0, 3, 3], [0, 1, 2, 2, 0, 0, 0, 0, 0, 0, 3, 3, 3], [0, 1, 2, 2, 0, 0, 0, 0, 0, 3, 0, 0, 0], [0, 1, 2, 2, 0, 0, 0, 0, 3, 3, 0, 0, 0], [0, 1, 2, 2, 0, 0, 0, 3, 3, 3, 0, 0, 0], [0, 1, 2, 2, 0, 0, 3, 0, 0, 0, 0, 0, 0], [0, 1, 2, 2, 0, 3, 3, 0, 0, 0, 0, 0, 0], [0, 1, 2, 2, 3, 3, 3, 0, 0, 0, 0, 0, 0], [0, 1, 2, 3, 0, 0, 0, 0, 0, 0, 0, 0, 0]]
  | _, _, _ => []
/-- where the borders are -/
def pot (L : Nat) (cs : List Nat) : Nat := (((List.range cs.length).filter fun x => at0 cs x != at0 cs (par L x)).foldl (· + ·) 0)
def lastD (d : Nat) : List Nat → Nat
  | [] => d
  | x :: t => lastD x t
/-- the map with an arrangement that has its borders innermost -/
def botOf (L : Nat) (a : Arr) : List Nat := a.1 :: a.2.flatMap fun o => o ++ List.replicate (L - o.length) (lastD a.1 o)
def okB (L N : Nat) (d : List Nat) : Bool := d.all (fun x => Nat.blt x N) && (List.range N).all fun l => hangB L (held d l)
def tkB (L N : Nat) (c : Ch) (t : Nat × Nat) : Bool :=
  let d := taken c t
  okB L N d.2 && tipsOf d == tipsOf c && (Nat.blt 1 (bareN d) == Nat.blt 1 (bareN c)) && (if t.2 = 0 then !(Nat.blt 1 (bareN c)) else arrOf d == arrOf c && madeB d (at0 c.2 t.2) t.2)
def shpB (L N : Nat) (c : Ch) : Bool :=
  let T := takings c
  c.2.length == c.1 * L + 1 && okB L N c.2 && T.all (tkB L N c) && (c.2 == botOf L (arrOf c) || T.any fun t => t.2 != 0 && Nat.blt (pot L (taken c t).2) (pot L c.2))
def allB (A L N : Nat) : Bool := (shp A L N).all fun c => shpB L N (A, c)
def sameB (A L N : Nat) : Bool := ((grown L N (A * L)).all fun p => p.2 != N || (shp A L N).contains p.1)
theorem allB_312 : allB 3 1 2 = true := by decide +kernel
theorem sameB_312 : sameB 3 1 2 = true := by decide +kernel
theorem allB_322 : allB 3 2 2 = true := by decide +kernel
theorem sameB_322 : sameB 3 2 2 = true := by decide +kernel
theorem allB_323 : allB 3 2 3 = true := by decide +kernel
theorem sameB_323 : sameB 3 2 3 = true := by decide +kernel
theorem allB_332 : allB 3 3 2 = true := by decide +kernel
theorem sameB_332 : sameB 3 3 2 = true := by decide +kernel
theorem allB_333 : allB 3 3 3 = true := by decide +kernel
theorem sameB_333 : sameB 3 3 3 = true := by decide +kernel
theorem allB_334 : allB 3 3 4 = true := by decide +kernel
theorem sameB_334 : sameB 3 3 4 = true := by decide +kernel
theorem allB_412 : allB 4 1 2 = true := by decide +kernel
theorem sameB_412 : sameB 4 1 2 = true := by decide +kernel
theorem allB_422 : allB 4 2 2 = true := by decide +kernel
theorem sameB_422 : sameB 4 2 2 = true := by decide +kernel
theorem allB_423 : allB 4 2 3 = true := by decide +kernel
theorem sameB_423 : sameB 4 2 3 = true := by decide +kernel
theorem allB_432 : allB 4 3 2 = true := by decide +kernel
theorem sameB_432 : sameB 4 3 2 = true := by decide +kernel
theorem allB_433 : allB 4 3 3 = true := by decide +kernel
theorem sameB_433 : sameB 4 3 3 = true := by decide +kernel
theorem allB_434 : allB 4 3 4 = true := by decide +kernel
theorem sameB_434 : sameB 4 3 4 = true := by decide +kernel
end SL
end

section
set_option Elab.async false
set_option linter.all false
set_option maxRecDepth 100000
set_option maxHeartbeats 4000000
/-! plain: new names of the lands -/
namespace SL
open PySem
structure Bij (N : Nat) (f : Nat → Nat) : Prop where
  lt : ∀ i, i < N → f i < N
  inj : ∀ i j, i < N → j < N → f i = f j → i = j
  sur : ∀ l, l < N → ∃ i, i < N ∧ f i = l
def ren (f : Nat → Nat) (m : Ch) : Ch := (m.1, m.2.map f)
/-- a map with N lands -/
structure Is (A L N : Nat) (c : Ch) : Prop where
  arms : c.1 = A
  a3 : 3 ≤ A
  a4 : A ≤ 4
  len : L = 1 ∨ L = 2 ∨ L = 3
  size : c.2.length = A * L + 1
  n2 : 2 ≤ N
  nL : N ≤ L + 1
  low : ∀ x ∈ c.2, x < N
  hang : ∀ l, l < N → hangB L (held c.2 l) = true
section
variable {A L N : Nat} {f : Nat → Nat} {cs : List Nat} {m c : Ch}
theorem at0_map {i : Nat} (h : i < cs.length) : at0 (cs.map f) i = f (at0 cs i) := by
  unfold at0
  rw [List.getD_eq_getElem?_getD, List.getD_eq_getElem?_getD, List.getElem?_map, List.getElem?_eq_getElem h]
  rfl
theorem held_ren (F : Bij N f) (h : ∀ x ∈ cs, x < N) {l : Nat} (hl : l < N) : held (cs.map f) (f l) = held cs l := by
  unfold held
  rw [List.length_map]
  refine List.filter_congr fun i hi => ?_
  have hi := List.mem_range.mp hi
  rw [at0_map hi, Bool.eq_iff_iff, beq_iff_eq, beq_iff_eq]
  exact ⟨F.inj _ _ (h _ (at0_lt hi)) hl, fun e => by rw [e]⟩
theorem lenOf_ren : lenOf (ren f m) = lenOf m := by unfold lenOf ren; simp
theorem Is.lenOf (h : Is A L N c) : lenOf c = L := by
  unfold SL.lenOf
  rw [h.size, h.arms, Nat.add_sub_cancel, Nat.mul_comm]
  exact Nat.mul_div_cancel _ (by have := h.a3; omega)
theorem Is.has (h : Is A L N c) {l : Nat} (hl : l < N) : l ∈ c.2 := by
  obtain ⟨x, t, e, _⟩ := hangB_iff.mp (h.hang l hl)
  have hx : x ∈ held c.2 l := by rw [e]; exact List.mem_cons_self
  obtain ⟨h1, h2⟩ := mem_held.mp hx
  rw [← h2]
  exact at0_lt h1
theorem Is.lands (h : Is A L N c) : landsOf c = N := by
  unfold landsOf
  have h2 := h.n2
  rw [maxL_of (h.has (l := N - 1) (by omega)) fun y hy => by have := h.low y hy; omega]
  omega
theorem Is.map (h : Is A L N c) : MapOk A L c := ⟨⟨h.arms, h.a3, h.a4, h.len, h.size, fun x hx => by have := h.low x hx; have := h.nL; omega⟩, by rw [h.lands]; exact h.n2, fun l hl => by rw [h.lands] at hl; exact h.hang l hl⟩
theorem _root_.SL.MapOk.is (h : MapOk A L m) : Is A L (landsOf m) m := by
  refine ⟨h.arms, h.a3, h.a4, h.len, h.size, h.lands, ?_, fun x hx => ?_, h.hang⟩
  · unfold landsOf
    have hne : m.2 ≠ [] := fun e => by have := h.size; rw [e] at this; simp at this
    have := h.low _ (maxL_in hne)
    omega
  · have := le_maxL hx
    unfold landsOf
    omega
theorem Is.ren (h : Is A L N c) (F : Bij N f) : Is A L N (ren f c) := by
  refine ⟨h.arms, h.a3, h.a4, h.len, by show (c.2.map f).length = _; rw [List.length_map]; exact h.size, h.n2, h.nL, fun x hx => ?_, fun l hl => ?_⟩
  · obtain ⟨y, hy, rfl⟩ := List.mem_map.mp (show x ∈ c.2.map f from hx)
    exact F.lt _ (h.low y hy)
  · obtain ⟨i, hi, rfl⟩ := F.sur l hl
    show hangB L (held (c.2.map f) (f i)) = true
    rw [held_ren F h.low hi]
    exact h.hang i hi
theorem Is.made_ren (h : Is A L N c) (F : Bij N f) {l x : Nat} (hl : l < N) (hx : x < c.2.length) : madeB (SL.ren f c) (f l) x = madeB c l x := by
  unfold madeB
  rw [lenOf_ren, h.lenOf]
  show ((at0 (c.2.map f) x != f l && (near c.1 L x).any fun y => at0 (c.2.map f) y == f l) && hangB L ((held (c.2.map f) (at0 (c.2.map f) x)).filter fun y => y != x)) = _
  have hx2 : at0 c.2 x < N := h.low _ (at0_lt hx)
  rw [at0_map hx, held_ren F h.low hx2, h.arms]
  congr 2
  · rw [Bool.eq_iff_iff]
    simp only [bne_iff_ne, ne_eq]
    exact not_congr ⟨F.inj _ _ hx2 hl, fun e => by rw [e]⟩
  · rw [Bool.eq_iff_iff, List.any_eq_true, List.any_eq_true]
    refine exists_congr fun y => and_congr_right fun hy => ?_
    have hy2 : y < c.2.length := by
      have := near_le h.len (by have := h.size; omega) hy
      have := h.size
      omega
    rw [at0_map hy2, beq_iff_eq, beq_iff_eq]
    exact ⟨F.inj _ _ (h.low _ (at0_lt hy2)) hl, fun e => by rw [e]⟩
theorem Is.tk (h : Is A L N c) {t : Nat × Nat} : t ∈ takings c ↔ t.1 < N ∧ t.2 < c.2.length ∧ madeB c t.1 t.2 = true := by
  constructor
  · intro ht
    obtain ⟨h1, h2, h3⟩ := takings_cell ht
    rw [h.lands] at h2
    exact ⟨h2, h1, h3⟩
  · rintro ⟨h1, h2, h3⟩
    unfold takings
    rw [h.lands]
    exact List.mem_flatMap.mpr ⟨t.1, List.mem_range.mpr h1, List.mem_map.mpr ⟨t.2, List.mem_filter.mpr ⟨List.mem_range.mpr h2, h3⟩, rfl⟩⟩
theorem Is.tk_ren (h : Is A L N c) (F : Bij N f) {t : Nat × Nat} (ht : t ∈ takings (SL.ren f c)) : ∃ l, t.1 = f l ∧ (l, t.2) ∈ takings c := by
  obtain ⟨h1, h2, h3⟩ := (h.ren F).tk.mp ht
  obtain ⟨l, hl, e⟩ := F.sur _ h1
  have h2 : t.2 < c.2.length := by
    have : t.2 < (c.2.map f).length := h2
    rwa [List.length_map] at this
  rw [← e, h.made_ren F hl h2] at h3
  exact ⟨l, e.symm, h.tk.mpr ⟨hl, h2, h3⟩⟩
theorem Is.ren_tk (h : Is A L N c) (F : Bij N f) {t : Nat × Nat} (ht : t ∈ takings c) : (f t.1, t.2) ∈ takings (SL.ren f c) := by
  obtain ⟨h1, h2, h3⟩ := h.tk.mp ht
  exact (h.ren F).tk.mpr ⟨F.lt _ h1, by show t.2 < (c.2.map f).length; rw [List.length_map]; exact h2, by rw [h.made_ren F h1 h2]; exact h3⟩
theorem taken_ren (l x : Nat) : taken (ren f c) (f l, x) = ren f (taken c (l, x)) := by
  unfold taken ren
  simp [List.map_take, List.map_drop]
theorem tips_ren (h1 : c.1 * lenOf c + 1 ≤ c.2.length) : tipsOf (ren f c) = (tipsOf c).map f := by
  unfold tipsOf
  rw [List.map_map]
  refine List.map_congr_left fun a ha => ?_
  have ha : a < c.1 := List.mem_range.mp ha
  show at0 (c.2.map f) (a * lenOf (ren f c) + lenOf (ren f c)) = f (at0 c.2 (a * lenOf c + lenOf c))
  rw [lenOf_ren]
  refine at0_map ?_
  have := Nat.mul_le_mul_right (lenOf c) (show a + 1 ≤ c.1 by omega)
  rw [Nat.succ_mul] at this
  omega
theorem Is.tips_ren (h : Is A L N c) : tipsOf (SL.ren f c) = (tipsOf c).map f := SL.tips_ren (by rw [h.lenOf, h.size, h.arms]; exact Nat.le_refl _)
theorem outw_ren (a : Nat) : outw (ren f c) a = (outw c a).map f := by
  unfold outw
  rw [lenOf_ren]
  show ((c.2.map f).drop _).take _ = _
  rw [← List.map_drop, ← List.map_take]
theorem outw_sub {a x : Nat} (h : x ∈ outw c a) : x ∈ c.2 := List.mem_of_mem_drop (List.mem_of_mem_take h)
theorem hub_ren (h : 0 < c.2.length) : hubOf (ren f c) = f (hubOf c) := at0_map h
theorem ordStep_ren (F : Bij N f) {h x : Nat} {acc : List Nat} (hh : h < N) (hx : x < N) (ha : ∀ y ∈ acc, y < N) : ordStep (f h) (acc.map f) (f x) = (ordStep h acc x).map f := by
  unfold ordStep
  have e : (f x ≠ f h ∧ f x ∉ acc.map f) ↔ (x ≠ h ∧ x ∉ acc) := by
    refine and_congr (not_congr ⟨F.inj _ _ hx hh, fun e => by rw [e]⟩) (not_congr ⟨fun z => ?_, fun z => List.mem_map.mpr ⟨x, z, rfl⟩⟩)
    obtain ⟨y, hy, e⟩ := List.mem_map.mp z
    rw [← F.inj _ _ (ha y hy) hx e]
    exact hy
  by_cases z : x ≠ h ∧ x ∉ acc
  · rw [if_pos z, if_pos (e.mpr z), List.map_append]; rfl
  · rw [if_neg z, if_neg (fun y => z (e.mp y))]
theorem ordStep_low {h x : Nat} {acc : List Nat} (hx : x < N) (ha : ∀ y ∈ acc, y < N) : ∀ y ∈ ordStep h acc x, y < N := fun y hy => by
  unfold ordStep at hy
  split at hy
  · rcases List.mem_append.mp hy with z | z
    · exact ha y z
    · rw [List.mem_singleton.mp z]; exact hx
  · exact ha y hy
theorem ordFold_ren (F : Bij N f) {h : Nat} (hh : h < N) : ∀ (l acc : List Nat), (∀ y ∈ l, y < N) → (∀ y ∈ acc, y < N) → (l.map f).foldl (ordStep (f h)) (acc.map f) = (l.foldl (ordStep h) acc).map f
  | [], acc, _, _ => rfl
  | x :: l, acc, hl, ha => by
    rw [List.map_cons, List.foldl_cons, List.foldl_cons, ordStep_ren F hh (hl x List.mem_cons_self) ha]
    exact ordFold_ren F hh l _ (fun y hy => hl y (List.mem_cons_of_mem _ hy)) (ordStep_low (hl x List.mem_cons_self) ha)
def renA (f : Nat → Nat) (a : Arr) : Arr := (f a.1, a.2.map fun r => r.map f)
theorem Is.arr_ren' (F : Bij N f) (hlow : ∀ x ∈ c.2, x < N) (hpos : 0 < c.2.length) : arrOf (SL.ren f c) = renA f (arrOf c) := by
  unfold arrOf renA ordersOf
  rw [hub_ren hpos, List.map_map]
  refine Prod.ext rfl (List.map_congr_left fun a _ => ?_)
  show orderOn (SL.ren f c) a = (orderOn c a).map f
  unfold orderOn
  rw [hub_ren hpos, outw_ren]
  exact ordFold_ren F (hlow _ (at0_lt hpos)) _ [] (fun y hy => hlow y (outw_sub hy)) (fun y hy => by cases hy)
theorem bare_ren (F : Bij N f) (hlow : ∀ x ∈ c.2, x < N) (hpos : 0 < c.2.length) : bareN (ren f c) = bareN c := by
  unfold bareN
  congr 1
  refine List.filter_congr fun a _ => ?_
  unfold bareB
  rw [outw_ren, hub_ren hpos, List.all_map, Bool.eq_iff_iff, List.all_eq_true, List.all_eq_true]
  refine forall_congr' fun x => imp_congr_right fun hx => ?_
  show (f x == f (hubOf c)) = true ↔ _
  rw [beq_iff_eq, beq_iff_eq]
  exact ⟨F.inj _ _ (hlow x (outw_sub hx)) (hlow _ (at0_lt hpos)), fun e => by rw [e]⟩
theorem pot_ren (F : Bij N f) (hlow : ∀ x ∈ cs, x < N) : pot L (cs.map f) = pot L cs := by
  unfold pot
  rw [List.length_map]
  congr 1
  refine List.filter_congr fun x hx => ?_
  have hx := List.mem_range.mp hx
  have hp : par L x < cs.length := Nat.lt_of_le_of_lt (par_le L x) hx
  rw [at0_map hx, at0_map hp, Bool.eq_iff_iff, bne_iff_ne, bne_iff_ne]
  exact not_congr ⟨F.inj _ _ (hlow _ (at0_lt hx)) (hlow _ (at0_lt hp)), fun e => by rw [e]⟩
theorem lastD_ren (d : Nat) : ∀ o : List Nat, lastD (f d) (o.map f) = f (lastD d o)
  | [] => rfl
  | x :: t => lastD_ren x t
theorem bot_ren (a : Arr) : botOf L (renA f a) = (botOf L a).map f := by
  unfold botOf renA
  rw [List.map_cons, List.flatMap_map, List.map_flatMap]
  congr 1
  refine congrArg (fun g => List.flatMap g a.2) (funext fun o => ?_)
  show o.map f ++ List.replicate (L - (o.map f).length) (lastD (f a.1) (o.map f)) = (o ++ _).map f
  rw [List.map_append, List.length_map, List.map_replicate, lastD_ren]
theorem okB_is (hA : c.1 = A) (a3 : 3 ≤ A) (a4 : A ≤ 4) (hL : L = 1 ∨ L = 2 ∨ L = 3) (hs : c.2.length = A * L + 1) (n2 : 2 ≤ N) (nL : N ≤ L + 1) (h : okB L N c.2 = true) : Is A L N c := by
  unfold okB at h
  rw [Bool.and_eq_true, List.all_eq_true, List.all_eq_true] at h
  exact ⟨hA, a3, a4, hL, hs, n2, nL, fun x hx => by simpa [Nat.blt_eq] using h.1 x hx, fun l hl => h.2 l (List.mem_range.mpr hl)⟩
end
end SL
end

section
set_option Elab.async false
set_option linter.all false
set_option maxRecDepth 100000
set_option maxHeartbeats 4000000
/-! plain: each map is one of those that were looked at, with new names -/
namespace SL
open PySem
def tuples (N : Nat) : Nat → List (List Nat)
  | 0 => [[]]
  | n + 1 => (List.range N).flatMap fun a => (tuples N n).map fun t => a :: t
def nodB : List Nat → Bool
  | [] => true
  | x :: t => !(t.contains x) && nodB t
def perms (N : Nat) : List (List Nat) := (tuples N N).filter nodB
theorem mem_tuples {N : Nat} : ∀ {n : Nat} {o : List Nat}, o.length = n → (∀ x ∈ o, x < N) → o ∈ tuples N n
  | 0, [], _, _ => List.mem_singleton.mpr rfl
  | n + 1, x :: t, hl, h => List.mem_flatMap.mpr ⟨x, List.mem_range.mpr (h x List.mem_cons_self), List.mem_map.mpr ⟨t, mem_tuples (by simpa using hl) fun y hy => h y (List.mem_cons_of_mem _ hy), rfl⟩⟩
theorem nodB_of : ∀ {o : List Nat}, o.Nodup → nodB o = true
  | [], _ => rfl
  | x :: t, h => by
    obtain ⟨h1, h2⟩ := List.nodup_cons.mp h
    unfold nodB
    rw [nodB_of h2, Bool.and_true]
    simpa using h1
theorem mem_perms {N : Nat} {o : List Nat} (hl : o.length = N) (h : ∀ x ∈ o, x < N) (nd : o.Nodup) : o ∈ perms N := List.mem_filter.mpr ⟨mem_tuples hl h, nodB_of nd⟩
theorem bij_of {N : Nat} {o : List Nat} (hl : o.length = N) (h : ∀ x ∈ o, x < N) (nd : o.Nodup) : Bij N (at0 o) := by
  have e : ∀ i, (hi : i < N) → at0 o i = o[i]'(by omega) := fun i hi => by
    unfold at0
    rw [List.getD_eq_getElem?_getD, List.getElem?_eq_getElem (by omega)]
    rfl
  refine ⟨fun i hi => h _ (at0_lt (by omega)), fun i j hi hj z => ?_, fun l hl' => ?_⟩
  · rw [e i hi, e j hj] at z
    exact (List.getElem_inj nd).mp z
  · have := nodup_all (l := o) (D := List.range N) nd (fun x hx => List.mem_range.mpr (h x hx)) (by rw [List.length_range, hl]; exact Nat.le_refl _) l (List.mem_range.mpr hl')
    obtain ⟨i, hi, z⟩ := List.getElem_of_mem this
    exact ⟨i, by omega, by rw [e i (by omega)]; exact z⟩
theorem at0_get {cs : List Nat} {i : Nat} (h : i < cs.length) : at0 cs i = cs[i] := by
  unfold at0
  rw [List.getD_eq_getElem?_getD, List.getElem?_eq_getElem h]
  rfl
section
variable {A L N : Nat} {m c : Ch} {f : Nat → Nat}
theorem Is.pc (h : Is A L N m) {x : Nat} (h1 : 1 ≤ x) (h2 : x < m.2.length) : at0 m.2 x = at0 m.2 (par L x) ∨ ∀ y, y < x → at0 m.2 y ≠ at0 m.2 x := by
  obtain ⟨r, t, e, ht⟩ := hangB_iff.mp (h.hang _ (h.low _ (at0_lt h2)))
  have hx : x ∈ held m.2 (at0 m.2 x) := mem_held.mpr ⟨h2, rfl⟩
  have hlt := held_lt m.2 (at0 m.2 x)
  rw [e] at hx hlt
  rcases List.mem_cons.mp hx with z | z
  · refine .inr fun y hy ey => ?_
    have hy2 : y ∈ held m.2 (at0 m.2 x) := mem_held.mpr ⟨by omega, ey⟩
    rw [e] at hy2
    rcases List.mem_cons.mp hy2 with q | q
    · omega
    · have := List.rel_of_pairwise_cons hlt q
      omega
  · exact .inl (mem_held.mp (ht x z)).2.symm
theorem shape_pre (h : Is A L N m) : ∀ n, n ≤ A * L → ∃ c ord, (c, ord.length) ∈ grown L N n ∧ c.length = n + 1 ∧ ord.Nodup ∧ (∀ x ∈ ord, x < N) ∧ m.2.take (n + 1) = c.map (at0 ord) ∧ (∀ x ∈ c, x < ord.length) ∧ ∀ l ∈ ord, l ∈ m.2.take (n + 1) := by
  intro n
  induction n with
  | zero =>
    intro _
    have hpos : 0 < m.2.length := by rw [h.size]; omega
    have e : m.2.take 1 = [at0 m.2 0] := by
      cases e : m.2 with
      | nil => rw [e] at hpos; cases hpos
      | cons x t => rfl
    refine ⟨[0], [at0 m.2 0], List.mem_singleton.mpr rfl, rfl, by simp, fun x hx => ?_, e, fun x hx => ?_, fun l hl => by rw [e]; exact hl⟩
    · rw [List.mem_singleton.mp hx]; exact h.low _ (at0_lt hpos)
    · rw [List.mem_singleton.mp hx]; exact Nat.zero_lt_one
  | succ n ih =>
    intro hn
    obtain ⟨c, ord, h1, h2, h3, h4, h5, h6, h7⟩ := ih (by omega)
    have hx : n + 1 < m.2.length := by rw [h.size]; omega
    have et : m.2.take (n + 1 + 1) = m.2.take (n + 1) ++ [at0 m.2 (n + 1)] := by
      rw [List.take_add_one (i := n + 1), List.getElem?_eq_getElem hx]
      unfold at0
      rw [List.getD_eq_getElem?_getD, List.getElem?_eq_getElem hx]
      rfl
    have tk : ∀ y, y < n + 1 → at0 m.2 y = at0 ord (at0 c y) := fun y hy => by
      rw [← at0_map (f := at0 ord) (by omega), ← h5]
      unfold at0
      rw [List.getD_eq_getElem?_getD, List.getD_eq_getElem?_getD, List.getElem?_take, if_pos hy]
    have hp := par_lt (L := L) (c := n + 1) (by omega)
    by_cases hb : at0 m.2 (n + 1) = at0 m.2 (par L (n + 1))
    · refine ⟨c ++ [at0 c (par L c.length)], ord, List.mem_flatMap.mpr ⟨_, h1, List.mem_cons_self⟩, by simp [h2], h3, h4, ?_, fun x hx => ?_, fun l hl => by rw [et]; exact List.mem_append_left _ (h7 l hl)⟩
      · rw [et, h5, List.map_append, h2, hb, tk _ hp]
        rfl
      · rcases List.mem_append.mp hx with z | z
        · exact h6 x z
        · rw [List.mem_singleton.mp z, h2]
          exact h6 _ (at0_lt (by omega))
    · have hnew : at0 m.2 (n + 1) ∉ ord := fun z => by
        have z := h7 _ z
        rw [h5] at z
        obtain ⟨i, hi, e⟩ := List.mem_iff_getElem.mp z
        rcases h.pc (by omega) hx with q | q
        · exact hb q
        · have hi' : i < n + 1 := by rw [List.length_map] at hi; omega
          refine q i hi' ?_
          rw [← e, tk i hi', List.getElem_map, at0_get (cs := c) (by omega)]
      have nd' : (ord ++ [at0 m.2 (n + 1)]).Nodup := by
        rw [List.nodup_append]
        exact ⟨h3, by simp, fun x hx y hy => by rw [List.mem_singleton.mp hy]; exact fun e => hnew (e ▸ hx)⟩
      have low' : ∀ x ∈ ord ++ [at0 m.2 (n + 1)], x < N := fun x hx' => by
        rcases List.mem_append.mp hx' with z | z
        · exact h4 x z
        · rw [List.mem_singleton.mp z]; exact h.low _ (at0_lt hx)
      have hu : ord.length < N := by
        have := nodup_le (D := List.range N) nd' fun x hx => List.mem_range.mpr (low' x hx)
        rw [List.length_range, List.length_append, List.length_singleton] at this
        omega
      refine ⟨c ++ [ord.length], ord ++ [at0 m.2 (n + 1)], List.mem_flatMap.mpr ⟨_, h1, ?_⟩, by simp [h2], nd', low', ?_, fun x hx => ?_, fun l hl => ?_⟩
      · unfold grow
        rw [if_pos hu, List.length_append]
        exact List.mem_cons_of_mem _ (List.mem_singleton.mpr rfl)
      · rw [et, h5, List.map_append]
        congr 1
        · refine List.map_congr_left fun x hx => ?_
          exact (at0_app (h6 x hx)).symm
        · show [_] = [at0 (ord ++ _) ord.length]
          rw [at0_last]
      · rw [List.length_append]
        rcases List.mem_append.mp hx with z | z
        · have := h6 x z
          simp
          omega
        · rw [List.mem_singleton.mp z]; simp
      · rw [et]
        rcases List.mem_append.mp hl with z | z
        · exact List.mem_append_left _ (h7 l z)
        · exact List.mem_append_right _ z
theorem Is.cases (h : Is A L N m) : (A = 3 ∨ A = 4) ∧ ((L = 1 ∧ N = 2) ∨ (L = 2 ∧ N = 2) ∨ (L = 2 ∧ N = 3) ∨ (L = 3 ∧ N = 2) ∨ (L = 3 ∧ N = 3) ∨ (L = 3 ∧ N = 4)) := by
  have h1 := h.a3
  have h2 := h.a4
  have h3 := h.n2
  have h4 := h.nL
  rcases h.len with e | e | e <;> omega
theorem same_all (h : Is A L N m) : sameB A L N = true := by
  obtain ⟨rfl | rfl, ⟨rfl, rfl⟩ | ⟨rfl, rfl⟩ | ⟨rfl, rfl⟩ | ⟨rfl, rfl⟩ | ⟨rfl, rfl⟩ | ⟨rfl, rfl⟩⟩ := h.cases
  · exact sameB_312
  · exact sameB_322
  · exact sameB_323
  · exact sameB_332
  · exact sameB_333
  · exact sameB_334
  · exact sameB_412
  · exact sameB_422
  · exact sameB_423
  · exact sameB_432
  · exact sameB_433
  · exact sameB_434
theorem allB_all (h : Is A L N m) : allB A L N = true := by
  obtain ⟨rfl | rfl, ⟨rfl, rfl⟩ | ⟨rfl, rfl⟩ | ⟨rfl, rfl⟩ | ⟨rfl, rfl⟩ | ⟨rfl, rfl⟩ | ⟨rfl, rfl⟩⟩ := h.cases
  · exact allB_312
  · exact allB_322
  · exact allB_323
  · exact allB_332
  · exact allB_333
  · exact allB_334
  · exact allB_412
  · exact allB_422
  · exact allB_423
  · exact allB_432
  · exact allB_433
  · exact allB_434
/-- each map is a map that was looked at, with new names -/
theorem Is.shape (h : Is A L N m) : ∃ c ord, c ∈ shp A L N ∧ ord ∈ perms N ∧ Bij N (at0 ord) ∧ m = SL.ren (at0 ord) (A, c) := by
  obtain ⟨c, ord, h1, h2, h3, h4, h5, h6, h7⟩ := shape_pre h (A * L) (Nat.le_refl _)
  rw [← h.size, List.take_length] at h5
  have hN : ord.length = N := by
    have hle := nodup_le (D := List.range N) h3 fun x hx => List.mem_range.mpr (h4 x hx)
    have hge := nodup_le (l := List.range N) (D := ord) List.nodup_range fun x hx => by
      have := h.has (List.mem_range.mp hx)
      rw [h5] at this
      obtain ⟨i, hi, e⟩ := List.mem_map.mp this
      rw [← e]
      exact at0_lt (h6 i hi)
    rw [List.length_range] at hle hge
    omega
  have hs := same_all h
  unfold sameB at hs
  rw [List.all_eq_true] at hs
  have := hs _ h1
  rw [hN] at this
  refine ⟨c, ord, by simpa using this, mem_perms hN h4 h3, bij_of hN h4 h3, Prod.ext h.arms ?_⟩
  exact h5
/-- what was looked at -/
structure Seen (A L N : Nat) (c : Ch) : Prop where
  is : Is A L N c
  tk : ∀ t ∈ takings c, tkB L N c t = true
  sink : c.2 = botOf L (arrOf c) ∨ ∃ t ∈ takings c, t.2 ≠ 0 ∧ pot L (taken c t).2 < pot L c.2
theorem Is.seen (h : Is A L N m) {c : List Nat} (hc : c ∈ shp A L N) : Seen A L N (A, c) := by
  have ha := allB_all h
  unfold allB at ha
  rw [List.all_eq_true] at ha
  have := ha c hc
  unfold shpB at this
  simp only [Bool.and_eq_true, Bool.or_eq_true, List.all_eq_true, List.any_eq_true, beq_iff_eq, bne_iff_ne, Nat.blt_eq] at this
  obtain ⟨⟨⟨h1, h2⟩, h3⟩, h4⟩ := this
  exact ⟨okB_is rfl h.a3 h.a4 h.len h1 h.n2 h.nL h2, h3, h4⟩
/-- what a taking does -/
structure Step (A L N : Nat) (m : Ch) (t : Nat × Nat) : Prop where
  is : Is A L N (taken m t)
  tips : tipsOf (taken m t) = tipsOf m
  bare : 1 < bareN (taken m t) ↔ 1 < bareN m
  hub : t.2 = 0 → ¬ 1 < bareN m
  arr : t.2 ≠ 0 → arrOf (taken m t) = arrOf m
  back : t.2 ≠ 0 → (at0 m.2 t.2, t.2) ∈ takings (taken m t)
theorem taken_len (h : t.2 < m.2.length) : (taken m t).2.length = m.2.length := by
  show (m.2.take t.2 ++ t.1 :: m.2.drop (t.2 + 1)).length = _
  rw [List.length_append, List.length_take, List.length_cons, List.length_drop]
  omega
theorem Seen.step (S : Seen A L N c) {t : Nat × Nat} (ht : t ∈ takings c) : Step A L N c t := by
  have h := S.tk t ht
  have ⟨_, tl, _⟩ := S.is.tk.mp ht
  have il := S.is.low _ (at0_lt tl)
  unfold tkB at h
  simp only [Bool.and_eq_true, beq_iff_eq] at h
  obtain ⟨⟨⟨h1, h2⟩, h3⟩, h4⟩ := h
  have hl := taken_len tl
  have is := okB_is (c := taken c t) S.is.arms S.is.a3 S.is.a4 S.is.len (by rw [hl]; exact S.is.size) S.is.n2 S.is.nL h1
  refine ⟨is, h2, ?_, fun e => ?_, fun e => ?_, fun e => ?_⟩
  · rw [Bool.eq_iff_iff] at h3
    simpa [Nat.blt_eq] using h3
  · rw [if_pos e] at h4
    rw [← Nat.blt_eq, Bool.not_eq_true]
    simpa using h4
  · rw [if_neg e] at h4
    simp only [Bool.and_eq_true, beq_iff_eq] at h4
    exact h4.1
  · rw [if_neg e] at h4
    simp only [Bool.and_eq_true] at h4
    exact is.tk.mpr ⟨il, by rw [hl]; exact tl, h4.2⟩
theorem Step.ren {t : Nat × Nat} (S : Step A L N c t) (I : Is A L N c) (F : Bij N f) (ht : t ∈ takings c) : Step A L N (SL.ren f c) (f t.1, t.2) := by
  have ⟨_, tl, _⟩ := I.tk.mp ht
  have hp : 0 < c.2.length := by rw [I.size]; omega
  have hp2 : 0 < (taken c t).2.length := by rw [S.is.size]; omega
  have e : taken (SL.ren f c) (f t.1, t.2) = SL.ren f (taken c t) := taken_ren t.1 t.2
  refine ⟨by rw [e]; exact S.is.ren F, ?_, ?_, fun h => ?_, fun h => ?_, fun h => ?_⟩
  · rw [e, S.is.tips_ren, I.tips_ren, S.tips]
  · rw [e, bare_ren F S.is.low hp2, bare_ren F I.low hp]; exact S.bare
  · rw [bare_ren F I.low hp]; exact S.hub h
  · rw [e, Is.arr_ren' F S.is.low hp2, Is.arr_ren' F I.low hp, S.arr h]
  · rw [e]
    show (at0 (c.2.map f) t.2, t.2) ∈ _
    rw [at0_map tl]
    exact S.is.ren_tk F (S.back h)
theorem Is.step (h : Is A L N m) {t : Nat × Nat} (ht : t ∈ takings m) : Step A L N m t := by
  obtain ⟨c, ord, hc, _, F, rfl⟩ := h.shape
  have S := h.seen hc
  obtain ⟨l, e, h2⟩ := S.is.tk_ren F ht
  have := (S.step h2).ren S.is F h2
  rw [← e] at this
  exact this
theorem Is.sink (h : Is A L N m) : m.2 = botOf L (arrOf m) ∨ ∃ t ∈ takings m, t.2 ≠ 0 ∧ pot L (taken m t).2 < pot L m.2 := by
  obtain ⟨c, ord, hc, _, F, rfl⟩ := h.shape
  have S := h.seen hc
  have hp : 0 < (A, c).2.length := by rw [S.is.size]; omega
  rw [Is.arr_ren' F S.is.low hp, bot_ren]
  rcases S.sink with e | ⟨t, ht, h0, hlt⟩
  · exact .inl (congrArg (List.map (at0 ord)) e)
  · refine .inr ⟨(at0 ord t.1, t.2), S.is.ren_tk F ht, h0, ?_⟩
    have e : taken (SL.ren (at0 ord) (A, c)) (at0 ord t.1, t.2) = SL.ren (at0 ord) (taken (A, c) t) := taken_ren t.1 t.2
    rw [e]
    show pot L ((taken (A, c) t).2.map (at0 ord)) < pot L (c.map (at0 ord))
    rw [pot_ren F (S.step ht).is.low, pot_ren F S.is.low]
    exact hlt
theorem taken_back {t : Nat × Nat} (h : t.2 < m.2.length) : taken (taken m t) (at0 m.2 t.2, t.2) = m := by
  refine Prod.ext rfl ?_
  show (m.2.take t.2 ++ t.1 :: m.2.drop (t.2 + 1)).take t.2 ++ at0 m.2 t.2 :: (m.2.take t.2 ++ t.1 :: m.2.drop (t.2 + 1)).drop (t.2 + 1) = m.2
  have e1 : (m.2.take t.2).length = t.2 := by rw [List.length_take]; omega
  have e2 : (m.2.take t.2 ++ t.1 :: m.2.drop (t.2 + 1)).take t.2 = m.2.take t.2 := by
    rw [List.take_append_of_le_length (by omega), List.take_of_length_le (by omega)]
  have e3 : (m.2.take t.2 ++ t.1 :: m.2.drop (t.2 + 1)).drop (t.2 + 1) = m.2.drop (t.2 + 1) := by
    rw [List.drop_append, e1, List.drop_of_length_le (by omega), Nat.add_sub_cancel_left]
    rfl
  rw [e2, e3]
  have e4 : at0 m.2 t.2 :: m.2.drop (t.2 + 1) = m.2.drop t.2 := by
    rw [List.drop_eq_getElem_cons h]
    unfold at0
    rw [List.getD_eq_getElem?_getD, List.getElem?_eq_getElem h]
    rfl
  rw [e4, List.take_append_drop]
theorem Is.still (h : Is A L N m) {y : Ch} (hy : y ∈ stillOf m) : Is A L N y ∧ arrOf y = arrOf m ∧ m ∈ stillOf y := by
  obtain ⟨t, ht, rfl⟩ := List.mem_map.mp hy
  obtain ⟨h1, h2⟩ := List.mem_filter.mp ht
  have h2 : t.2 ≠ 0 := by simpa using h2
  have S := h.step h1
  have ⟨_, tl, _⟩ := h.tk.mp h1
  refine ⟨S.is, S.arr h2, List.mem_map.mpr ⟨_, List.mem_filter.mpr ⟨S.back h2, by simpa using h2⟩, taken_back tl⟩⟩
theorem Is.sinks (h : Is A L N m) : Rch stillOf [m] (A, botOf L (arrOf m)) ∧ Rch stillOf [(A, botOf L (arrOf m))] m := by
  generalize hp : pot L m.2 = p
  induction p using Nat.strongRecOn generalizing m with
  | _ p ih =>
    rcases h.sink with e | ⟨t, ht, h0, hlt⟩
    · have e : (A, botOf L (arrOf m)) = m := Prod.ext h.arms.symm e.symm
      rw [e]
      exact ⟨.base (by simp), .base (by simp)⟩
    · have hy : taken m t ∈ stillOf m := List.mem_map.mpr ⟨t, List.mem_filter.mpr ⟨ht, by simpa using h0⟩, rfl⟩
      obtain ⟨i1, i2, i3⟩ := h.still hy
      obtain ⟨j1, j2⟩ := ih _ (by omega) i1 rfl
      rw [i2] at j1 j2
      refine ⟨?_, .step j2 i3⟩
      have : ∀ z, Rch stillOf [taken m t] z → Rch stillOf [m] z := fun z hz => by
        induction hz with
        | base e => rw [List.mem_singleton.mp e]; exact .step (.base (by simp)) hy
        | step _ hy ih => exact .step ih hy
      exact this _ j1
theorem rch_trans {nx : Ch → List Ch} {x y z : Ch} (h1 : Rch nx [x] y) (h2 : Rch nx [y] z) : Rch nx [x] z := by
  induction h2 with
  | base e => rw [List.mem_singleton.mp e]; exact h1
  | step _ hy ih => exact .step ih hy
theorem Is.slide (h : Is A L N m) {N' : Nat} {y : Ch} (hy : Is A L N' y) (e : arrOf m = arrOf y) : Rch stillOf [m] y := by
  refine rch_trans h.sinks.1 ?_
  rw [e]
  exact hy.sinks.2
end
end SL
end

section
set_option Elab.async false
set_option linter.all false
set_option maxRecDepth 100000
set_option maxHeartbeats 4000000
/-! plain: what a class keeps -/
namespace SL
open PySem
/-! ### how many -/
def fewB (N : Nat) : Bool := (List.range N).all fun i => (List.range N).all fun t => Nat.ble (((perms N).filter fun p => at0 p i == t).length) 6
theorem fewB_2 : fewB 2 = true := by decide +kernel
theorem fewB_3 : fewB 3 = true := by decide +kernel
theorem fewB_4 : fewB 4 = true := by decide +kernel
def shpN (A L N : Nat) : Bool := Nat.ble (shp A L N).length 220
def shpNs : Bool := [3, 4].all fun A => [(1, 2), (2, 2), (2, 3), (3, 2), (3, 3), (3, 4)].all fun p => shpN A p.1 p.2
theorem shpNs_ok : shpNs = true := by decide +kernel
/-! ### the arrangements of a class that is not frozen -/
def seeds : Nat → Nat → List (List Nat × Arr)
  | 3, 3 => [([0, 1, 2], (0, [[], [1], [2]])), ([1, 0, 2], (0, [[1], [], [2]])), ([1, 2, 0], (0, [[1], [2], []]))]
  | 3, 4 => [([0, 1, 3], (0, [[], [1], [2, 3]])), ([0, 2, 3], (0, [[], [1, 2], [3]])), ([1, 0, 3], (0, [[1], [], [2, 3]])), ([1, 2, 3], (0, [[1], [2], [3]])), ([1, 3, 0], (0, [[1], [2, 3], []])), ([2, 0, 3], (0, [[1, 2], [], [3]])), ([2, 3, 0], (0, [[1, 2], [3], []]))]
  | 4, 4 => [([0, 1, 2, 3], (0, [[], [1], [2], [3]])), ([1, 0, 2, 3], (0, [[1], [], [2], [3]])), ([1, 2, 0, 3], (0, [[1], [2], [], [3]])), ([1, 2, 3, 0], (0, [[1], [2], [3], []]))]
  | _, _ => []
def seedB (A L N : Nat) : Bool := (shp A L N).all fun c => Nat.blt 1 (bareN (A, c)) || (seeds A N).any fun s => s.1 == tipsOf (A, c) && s.2 == arrOf (A, c)
def seedBs : Bool := [3, 4].all fun A => [(1, 2), (2, 2), (2, 3), (3, 2), (3, 3), (3, 4)].all fun p => seedB A p.1 p.2
theorem seedBs_ok : seedBs = true := by decide +kernel
/-- the arrangements with these tips -/
def cand (A N : Nat) (T : List Nat) : List Arr := (seeds A N).flatMap fun s => ((perms N).filter fun p => s.1.map (at0 p) == T).map fun p => renA (at0 p) s.2
def hashNs (ns : List Int) : Int := reduceHash (Builtin.Tuple.tupleHashOf ns)
def hashN1 (r : List Nat) : Int := hashNs (r.map fun n => hashInt (Int.ofNat n))
def hashArr (a : Arr) : Int := hashNs [hashInt (Int.ofNat a.1), hashNs (a.2.map hashN1)]
def candB (A N : Nat) (T : List Nat) : Bool := Nat.ble (cand A N T).length 62 && (cand A N T).all fun a => (cand A N T).all fun b => a == b || hashArr a != hashArr b
def candBs (A N : Nat) : Bool := (seeds A N).all fun s => (perms N).all fun p => candB A N (s.1.map (at0 p))
theorem candBs_33 : candBs 3 3 = true := by decide +kernel
theorem candBs_34 : candBs 3 4 = true := by decide +kernel
theorem candBs_44 : candBs 4 4 = true := by decide +kernel
theorem hash_arr (w : World) (a : Arr) : (kArr a).hash w = hashArr a := by
  have e1 : ∀ r : List Nat, NestedKey.hashes w (r.map kN) = r.map fun n => hashInt (Int.ofNat n) := fun r => by
    induction r with
    | nil => rfl
    | cons n r ih => rw [List.map_cons, List.map_cons, ← ih]; rfl
  have e2 : ∀ rs : List (List Nat), NestedKey.hashes w (rs.map kNs) = rs.map hashN1 := fun rs => by
    induction rs with
    | nil => rfl
    | cons r rs ih =>
      rw [List.map_cons, List.map_cons, ← ih]
      show reduceHash (Builtin.Tuple.tupleHashOf (NestedKey.hashes w (r.map kN))) :: _ = _
      rw [e1]
      rfl
  show reduceHash (Builtin.Tuple.tupleHashOf [hashInt a.1, reduceHash (Builtin.Tuple.tupleHashOf (NestedKey.hashes w (a.2.map kNs)))]) = _
  rw [e2]
  rfl
/-! ### the class -/
/-- x is akin to m -/
structure Kin (A L N : Nat) (m x : Ch) : Prop where
  is : Is A L N x
  tips : tipsOf x = tipsOf m
  bare : 1 < bareN x ↔ 1 < bareN m
  arr : 1 < bareN m → arrOf x = arrOf m
section
variable {A L N : Nat} {m x : Ch}
theorem Is.kin (h : Is A L N m) (hx : Rch nextsOf [m] x) : Kin A L N m x := by
  induction hx with
  | base e => rw [List.mem_singleton.mp e]; exact ⟨h, rfl, Iff.rfl, fun _ => rfl⟩
  | @step x y _ hy ih =>
    obtain ⟨t, ht, rfl⟩ := List.mem_map.mp hy
    have S := ih.is.step ht
    refine ⟨S.is, S.tips.trans ih.tips, S.bare.trans ih.bare, fun hb => ?_⟩
    have h0 : t.2 ≠ 0 := fun e => S.hub e (ih.bare.mpr hb)
    exact (S.arr h0).trans (ih.arr hb)
theorem Is.tip0 (h : Is A L N m) (hx : Kin A L N m x) : at0 x.2 L = at0 m.2 L := by
  have a3 := h.a3
  have e : ∀ {y : Ch}, Is A L N y → (tipsOf y).getD 0 0 = at0 y.2 L := fun {y} hy => by
    unfold tipsOf
    rw [hy.arms]
    obtain ⟨B, rfl⟩ : ∃ B, A = B + 1 := ⟨A - 1, by omega⟩
    rw [List.range_succ_eq_map]
    show at0 y.2 (0 * SL.lenOf y + SL.lenOf y) = _
    rw [hy.lenOf]
    congr 1
    omega
  rw [← e hx.is, ← e h, hx.tips]
theorem few_all (h : Is A L N m) : fewB N = true := by
  obtain ⟨_, ⟨rfl, rfl⟩ | ⟨rfl, rfl⟩ | ⟨rfl, rfl⟩ | ⟨rfl, rfl⟩ | ⟨rfl, rfl⟩ | ⟨rfl, rfl⟩⟩ := h.cases
  · exact fewB_2
  · exact fewB_2
  · exact fewB_3
  · exact fewB_2
  · exact fewB_3
  · exact fewB_4
theorem pair_in (h : Is A L N m) : A ∈ [3, 4] ∧ (L, N) ∈ [(1, 2), (2, 2), (2, 3), (3, 2), (3, 3), (3, 4)] := by
  obtain ⟨rfl | rfl, ⟨rfl, rfl⟩ | ⟨rfl, rfl⟩ | ⟨rfl, rfl⟩ | ⟨rfl, rfl⟩ | ⟨rfl, rfl⟩ | ⟨rfl, rfl⟩⟩ := h.cases <;> exact ⟨by decide, by decide⟩
theorem shp_few (h : Is A L N m) : (shp A L N).length ≤ 220 := by
  obtain ⟨h1, h2⟩ := pair_in h
  have := shpNs_ok
  unfold shpNs at this
  rw [List.all_eq_true] at this
  have := this A h1
  rw [List.all_eq_true] at this
  have := this _ h2
  unfold shpN at this
  exact Nat.le_of_ble_eq_true this
theorem flat_len {α β : Type} {g : α → List β} {n : Nat} : ∀ {l : List α}, (∀ x ∈ l, (g x).length ≤ n) → (l.flatMap g).length ≤ l.length * n
  | [], _ => by simp
  | x :: l, h => by
    rw [List.flatMap_cons, List.length_append, List.length_cons, Nat.succ_mul]
    have := h x List.mem_cons_self
    have := flat_len (l := l) fun y hy => h y (List.mem_cons_of_mem _ hy)
    omega
/-- the class is small -/
theorem Is.few (h : Is A L N m) {l : List Ch} (nd : l.Nodup) (hl : ∀ x ∈ l, Rch nextsOf [m] x) : l.length ≤ 1320 := by
  have hLpos : 1 ≤ L := by rcases h.len with e | e | e <;> omega
  have hAL : L < A * L + 1 := by
    have := Nat.mul_le_mul_right L h.a3
    omega
  have hsub : ∀ x ∈ l, x ∈ (shp A L N).flatMap fun c => ((perms N).filter fun p => at0 p (at0 c L) == at0 m.2 L).map fun p => SL.ren (at0 p) (A, c) := fun x hx => by
    have K := h.kin (hl x hx)
    obtain ⟨c, p, hc, hp, F, e⟩ := K.is.shape
    have sz := (K.is.seen hc).is.size
    have et : at0 p (at0 c L) = at0 m.2 L := by
      rw [← h.tip0 K, e]
      show _ = at0 (c.map (at0 p)) L
      rw [at0_map (by
        have sz : c.length = A * L + 1 := sz
        omega)]
    exact List.mem_flatMap.mpr ⟨c, hc, List.mem_map.mpr ⟨p, List.mem_filter.mpr ⟨hp, by rw [et]; exact beq_self_eq_true _⟩, e.symm⟩⟩
  have h1 := nodup_le nd hsub
  have h2 : ((shp A L N).flatMap fun c => ((perms N).filter fun p => at0 p (at0 c L) == at0 m.2 L).map fun p => SL.ren (at0 p) (A, c)).length ≤ (shp A L N).length * 6 := by
    refine flat_len fun c hc => ?_
    have S := (h.seen hc).is
    rw [List.length_map]
    have hf := few_all h
    unfold fewB at hf
    rw [List.all_eq_true] at hf
    have hf := hf (at0 c L) (List.mem_range.mpr (S.low _ (at0_lt (by rw [S.size]; exact hAL))))
    rw [List.all_eq_true] at hf
    exact Nat.le_of_ble_eq_true (hf (at0 m.2 L) (List.mem_range.mpr (h.low _ (at0_lt (by rw [h.size]; exact hAL)))))
  have h3 := shp_few h
  have h4 := Nat.mul_le_mul_right 6 h3
  omega
theorem seeds_all (h : Is A L N m) {c : List Nat} (hc : c ∈ shp A L N) (hb : ¬ 1 < bareN (A, c)) : ∃ s ∈ seeds A N, s.1 = tipsOf (A, c) ∧ s.2 = arrOf (A, c) := by
  obtain ⟨h1, h2⟩ := pair_in h
  have := seedBs_ok
  unfold seedBs at this
  rw [List.all_eq_true] at this
  have := this A h1
  rw [List.all_eq_true] at this
  have := this _ h2
  unfold seedB at this
  rw [List.all_eq_true] at this
  have := this c hc
  rw [Bool.or_eq_true, Nat.blt_eq] at this
  have := this.resolve_left hb
  obtain ⟨s, hs, e⟩ := List.any_eq_true.mp this
  rw [Bool.and_eq_true, beq_iff_eq, beq_iff_eq] at e
  exact ⟨s, hs, e.1, e.2⟩
theorem cands_all {s : List Nat × Arr} (h : Is A L N m) (hs : s ∈ seeds A N) : candBs A N = true := by
  obtain ⟨rfl | rfl, ⟨rfl, rfl⟩ | ⟨rfl, rfl⟩ | ⟨rfl, rfl⟩ | ⟨rfl, rfl⟩ | ⟨rfl, rfl⟩ | ⟨rfl, rfl⟩⟩ := h.cases
  · exact absurd hs List.not_mem_nil
  · exact absurd hs List.not_mem_nil
  · exact candBs_33
  · exact absurd hs List.not_mem_nil
  · exact candBs_33
  · exact candBs_34
  · exact absurd hs List.not_mem_nil
  · exact absurd hs List.not_mem_nil
  · exact absurd hs List.not_mem_nil
  · exact absurd hs List.not_mem_nil
  · exact absurd hs List.not_mem_nil
  · exact candBs_44
/-- the arrangements of a class: few, with unlike hashes -/
theorem Is.arrs (h : Is A L N m) : ∃ D : List Arr, D.length ≤ 62 ∧ (∀ x, Rch nextsOf [m] x → arrOf x ∈ D) ∧ ∀ a ∈ D, ∀ b ∈ D, hashArr a = hashArr b → a = b := by
  by_cases hb : 1 < bareN m
  · refine ⟨[arrOf m], by simp, fun x hx => ?_, fun a ha b hb _ => ?_⟩
    · rw [(h.kin hx).arr hb]; exact List.mem_singleton.mpr rfl
    · rw [List.mem_singleton.mp ha, List.mem_singleton.mp hb]
  · have key : ∀ x, Rch nextsOf [m] x → ∃ s ∈ seeds A N, ∃ p ∈ perms N, s.1.map (at0 p) = tipsOf m ∧ renA (at0 p) s.2 = arrOf x := fun x hx => by
      have K := h.kin hx
      obtain ⟨c, p, hc, hp, F, e⟩ := K.is.shape
      have S := (K.is.seen hc).is
      have hpos : 0 < (A, c).2.length := by rw [S.size]; omega
      have hbx : ¬ 1 < bareN (A, c) := by
        rw [← bare_ren F S.low hpos, ← e, K.bare]
        exact hb
      obtain ⟨s, hs, e1, e2⟩ := seeds_all h hc hbx
      refine ⟨s, hs, p, hp, ?_, ?_⟩
      · rw [← K.tips, e, S.tips_ren, e1]
      · rw [e, Is.arr_ren' F S.low hpos, e2]
    obtain ⟨s, hs, p, hp, et, _⟩ := key m (.base (by simp))
    have hc := cands_all h hs
    unfold candBs at hc
    rw [List.all_eq_true] at hc
    have hc := hc s hs
    rw [List.all_eq_true] at hc
    have hc := hc p hp
    rw [et] at hc
    unfold candB at hc
    rw [Bool.and_eq_true] at hc
    refine ⟨cand A N (tipsOf m), Nat.le_of_ble_eq_true hc.1, fun x hx => ?_, fun a ha b hb' e => ?_⟩
    · obtain ⟨s, hs, p, hp, e1, e2⟩ := key x hx
      rw [← e2]
      exact List.mem_flatMap.mpr ⟨s, hs, List.mem_map.mpr ⟨p, List.mem_filter.mpr ⟨hp, by rw [e1]; exact beq_self_eq_true _⟩, rfl⟩⟩
    · have := hc.2
      rw [List.all_eq_true] at this
      have := this a ha
      rw [List.all_eq_true] at this
      have := this b hb'
      rw [Bool.or_eq_true, beq_iff_eq, bne_iff_ne] at this
      exact this.resolve_right fun z => z e
theorem Is.key (h : Is A L N m) (K : Kin A L N m x) : kKey m = kKey x := by
  unfold kKey
  have e1 : x.1 = m.1 := K.is.arms.trans h.arms.symm
  have e2 : x.2.length = m.2.length := K.is.size.trans h.size.symm
  have e3 : landsOf x = landsOf m := K.is.lands.trans h.lands.symm
  by_cases hb : 1 < bareN m
  · rw [if_pos hb, if_pos (K.bare.mpr hb), e1, e2, e3]
    have e := K.arr hb
    have e4 : hubOf x = hubOf m := congrArg Prod.fst e
    have e5 : ordersOf x = ordersOf m := congrArg Prod.snd e
    rw [e4, e5]
  · rw [if_neg hb, if_neg (fun z => hb (K.bare.mp z)), e1, e2, e3, K.tips]
end
theorem plain_ok (w : World) : PlainOk w := by
  intro A L m hm
  have h := hm.is
  have hs : sizeLine = 16777216 := by unfold sizeLine; decide
  refine ⟨⟨fun x hx => (h.kin hx).is.map, fun l nd hl => ?_, fun x hx y hy => ((h.kin hx).is.still hy).2.1, fun x y hx hy e => (h.kin hx).is.slide (h.kin hy).is e, fun l nd hl => ?_, fun l nd hl => ?_, fun x hx => h.key (h.kin hx)⟩, fun ev E => ?_⟩
  · have := h.few nd hl
    omega
  · obtain ⟨D, _, h2, h3⟩ := h.arrs
    rw [List.nodup_iff_pairwise_ne, List.pairwise_map]
    refine List.Pairwise.imp_of_mem (fun {a b} ha hb hne e => hne ?_) (List.nodup_iff_pairwise_ne.mp nd)
    obtain ⟨x, hx, rfl⟩ := hl a ha
    obtain ⟨y, hy, rfl⟩ := hl b hb
    rw [hash_arr, hash_arr] at e
    rw [h3 _ (h2 x hx) _ (h2 y hy) e]
  · obtain ⟨D, h1, h2, _⟩ := h.arrs
    have := nodup_le (D := D.map kArr) nd fun k hk => by
      obtain ⟨x, hx, rfl⟩ := hl k hk
      exact List.mem_map.mpr ⟨_, h2 x hx, rfl⟩
    rw [List.length_map] at this
    omega
  · have hl := h.few E.nd fun x hx => (E.mem x).mp hx
    refine ⟨by omega, ?_⟩
    have := Nat.mul_le_mul (show ev.length - (startB m ev).length ≤ 1320 by omega) hl
    omega
end SL
end

section
set_option Elab.async false
set_option linter.all false
set_option maxRecDepth 100000
set_option maxHeartbeats 0
open PySem PySem.W PySem.Calls PyProof.Rows
namespace SL
abbrev qv : Program := view R.prog [66]
abbrev lawD : DefRec := HandSHeadRun.topDef R.prog 66
theorem e1 : opening R.prog = plainProg R.prog.main.scope.names := by kernel_rfl
theorem e2 : ∀ s, fenceModules? R.prog s = some s := fun s => by kernel_rfl
theorem e3 : defOf qv R.name = some (lawD, []) := by kernel_rfl
theorem e4 : R.prog.theDef R.name = some (lawD.params, lawD.body, lawD.scope) := by kernel_rfl
theorem e5 : kwWritten? lawD.params.kwonlyargs lawD.params.kw_defaults = some [] := by kernel_rfl
theorem e6 : (!R.writes || R.records.isEmpty) = true := by rfl
theorem e7 : R.wellSaid = true := by decide +kernel
theorem e8 : (chainsOk qv && opensWell R.prog && (frees R.toRowW && R.within.isEmpty)) = true := by decide +kernel
theorem e9 : R.prog.bare := ⟨rfl, rfl, rfl, rfl, rfl, by decide +kernel⟩
theorem e10 : R.toRowW.promised := by w_witness2
theorem e11 : (lawD.name : PySem.Str) = "law" := by kernel_rfl
theorem e12 : lawD.params.defaults = [] := by kernel_rfl
end SL
/-- the law's def binds its one parameter -/
theorem SL.law_binds {K : PySem.W.Frag} {fd : FuncData} (F : L2.FunD K SL.d_law.name SL.d_law.qual SL.d_law.params SL.d_law.body SL.d_law.scope (SL.d_law.dvs K) (SL.d_law.kws K) (He.fAd K SL.d_law.at_) fd) (s : Shared) (u : Value) : BindsTo s fd ⟨[u], []⟩ [("_law_script", u)] := by
  have e1 : SL.d_law.dvs K = [] := rfl
  rw [e1] at F
  exact F.bindsA (ps := ["_law_script"]) (fun _ _ _ _ _ _ us hl => match us, hl with | [_], _ => rfl) s [u] rfl
/-- what is known of the law at the head's end -/
theorem SL.law_at {w : World} {K : PySem.W.Frag} {mg : PySem.Str → Option Value} {h : Heap} {fd : FuncData} (hP : SL.PlainOk w) (KX : K.In h)
    (c1 : ∀ q ∈ SL.tf, h.get? (He.cT K q).2 = some { cls := .none, data := .fields #[] }) (c2 : ∀ q ∈ SL.tf, K.lookup (He.cT K q).2 = none) (c3 : ∀ q ∈ SL.tf, PySem.W.CodeHd h (He.cT K q).1 (He.cT K q).2) (D : He.SaysD SL.fa SL.fn K)
    (F : L2.FunD K SL.d_law.name SL.d_law.qual SL.d_law.params SL.d_law.body SL.d_law.scope (SL.d_law.dvs K) (SL.d_law.kws K) (He.fAd K SL.d_law.at_) fd) : LamX.LawAtS PySem.Challenge.rw_starlands_k26_whole_arrangements w K L2.CX0 9 63 "_law_script" mg (He.ga K "law") h := by
  refine ⟨fd, SL.cs K, SL.spLaw K, fun p hp => ?_, fun p hp => ?_, fun p hp => ?_, SL.law_binds F, fun H a ns h1 h2 h3 h4 => ⟨a, ns, rfl, h4, fun p hp => ⟨#[], h3 p hp, trivial⟩, fun _ => rfl⟩, fun base X N T => (SL.law_kp ⟨X, N, fun p hp => ⟨(T p hp).code, (T p hp).bm, (T p hp).gP⟩, D⟩ hP fd F).1⟩
  · obtain ⟨q, hq, rfl⟩ := List.mem_map.mp hp
    exact c1 q hq
  · obtain ⟨q, hq, rfl⟩ := List.mem_map.mp hp
    exact c2 q hq
  · obtain ⟨q, hq, rfl⟩ := List.mem_map.mp hp
    exact c3 q hq
theorem SL.walk (hP : ∀ w : World, SL.PlainOk w) : PySem.W.WalkO SL.qv SL.loose (XL SL.qv []) SL.hk.says SL.R.toRowW SL.lawD [] fun f vs => PySem.call f vs := by
  refine LamX.walk_ofTsE (l := PySem.Challenge.rw_starlands_k26_whole_arrangements) (n := 63) (k := 9) (x := "_law_script") (CX := fun _ => L2.CX0) rfl (by decide) SL.e12 ⟨rfl, by decide, by decide⟩ ?F (fun _ _ _ _ _ z => z)
  intro w mg fa h Y G hmg0
  obtain ⟨K, KX, c⟩ := Y
  have hmg : mg ("law" : PySem.Str) = some (.ref fa) := by
    rw [← SL.e11]
    exact hmg0
  refine ⟨K, KX, ?_⟩
  have hd : SL.d_law ∈ SL.fn := by simp [SL.fn]
  obtain ⟨fd, F⟩ := c.t.d.defs hd
  have efa : fa = He.ga K "law" := by
    have e := He.glo_ok KX G (c.t.d.facts (SL.mem_glo (x := "law") (by decide +kernel)))
    rw [hmg] at e
    injection e with e
    injection e
  subst efa
  exact SL.law_at (hP w) KX c.empty c.out (fun q hq => PySem.W.codeHd_of_K KX (c.hd q hq)) c.t.d F
theorem SL.holds_of (hP : ∀ w : World, SL.PlainOk w) : PySem.Challenge.rw_starlands_k26_whole_arrangements.Holds := by
  w_on; o_law
  exact HandSHeadRun.head_any (r := SL.R) (q := SL.qv) (H := SL.hk) (ob := SL.ob) (M := 4000) (loose := SL.loose) (d := SL.lawD) (kwd := []) SL.ob_eq SL.e1 SL.e2 SL.run SL.e3 SL.e4 SL.e5 SL.e6 SL.e7 SL.e8 SL.e9 SL.e10 (SL.walk hP)
end

theorem PySem.Challenge.cw_starlands_k26_whole_arrangements_holds : PySem.Challenge.rw_starlands_k26_whole_arrangements.Holds := by
  exact SL.holds_of SL.plain_ok

import PyProof.Rows.All
import Wide.All
import OpenK.AllK
import Wide.FinOn
import HandS.Base
import HandS.Call
import HandS.Words
import HandS.Defaults
import HandS.ForMost
import HandS.More
import HandS.TupAny
import HandS.Deep
import HandS.Strs
import HandS.SetFor
import HandS.DictTup
import HandS.Walk
import HandS.Style
import HandS.IsInst
import HandS.SortOrd
import HandS.SortInts
import KE.KDictCopyH
import KE.KDictDisplayH
import KE.KeyNested
import KE.GoesMore
import KE.KDictPairs
import KE.SortData
import HandS.Conv
import KE.KStateDown
import HandS.Ends
import HandS.WordsExc
import HandS.Head0
import HandS.Head1
import HandS.Head2
import HandS.HeadEnd
import HandS.HeadHook1
import HandS.HeadHook2
import PySem.Challenge.RW_stonewalker_k88_whole_seen_or_missed
/-! SwText -/
set_option Elab.async false
set_option linter.all false
set_option maxRecDepth 100000
set_option maxHeartbeats 4000000
namespace Sw
open PySem L2
/-! ### the text by places -/
def top (i : Nat) : Stmt := PySem.Challenge.pw_stonewalker_k88_whole_seen_or_missed.main.body.getD i (.Pass ⟨0, 0, 0, 0⟩)
abbrev FnP (K : PySem.W.Frag) (x qual : Str) (st : Stmt) (f : Addr) (fd : FuncData) : Prop := FunD K x qual (defArgs st) (defBody st) (defScope st) [] [] f fd
abbrev s_is_count : Stmt := top 2
abbrev n_is_count : List Str := ["thing", "many"]
abbrev p_is_count : List Str := ["thing", "many"]
theorem sc_is_count : FnScope n_is_count p_is_count (defScope s_is_count) := ⟨rfl, rfl, rfl, by decide +kernel, rfl, by decide +kernel, by decide +kernel⟩
abbrev s_is_end_in : Stmt := top 3
abbrev n_is_end_in : List Str := ["web", "thing"]
abbrev p_is_end_in : List Str := ["web", "thing"]
theorem sc_is_end_in : FnScope n_is_end_in p_is_end_in (defScope s_is_end_in) := ⟨rfl, rfl, rfl, by decide +kernel, rfl, by decide +kernel, by decide +kernel⟩
abbrev s_are_told_ends : Stmt := top 4
abbrev n_are_told_ends : List Str := ["web", "number", "door", "end"]
abbrev p_are_told_ends : List Str := ["web", "number"]
theorem sc_are_told_ends : FnScope n_are_told_ends p_are_told_ends (defScope s_are_told_ends) := ⟨rfl, rfl, rfl, by decide +kernel, rfl, by decide +kernel, by decide +kernel⟩
abbrev s_rooms_met : Stmt := top 5
abbrev n_rooms_met : List Str := ["web", "first", "met", "place", "other", "door"]
abbrev p_rooms_met : List Str := ["web", "first"]
theorem sc_rooms_met : FnScope n_rooms_met p_rooms_met (defScope s_rooms_met) := ⟨rfl, rfl, rfl, by decide +kernel, rfl, by decide +kernel, by decide +kernel⟩
abbrev s_is_web : Stmt := top 6
abbrev n_is_web : List Str := ["thing", "one", "number"]
abbrev p_is_web : List Str := ["thing"]
theorem sc_is_web : FnScope n_is_web p_is_web (defScope s_is_web) := ⟨rfl, rfl, rfl, by decide +kernel, rfl, by decide +kernel, by decide +kernel⟩
abbrev s_gone : Stmt := top 7
abbrev n_gone : List Str := ["web", "room", "way", "came", "door"]
abbrev p_gone : List Str := ["web", "room", "way"]
theorem sc_gone : FnScope n_gone p_gone (defScope s_gone) := ⟨rfl, rfl, rfl, by decide +kernel, rfl, by decide +kernel, by decide +kernel⟩
abbrev s_free_end : Stmt := top 9
abbrev n_free_end : List Str := ["lead", "wide", "doors", "room", "door"]
abbrev p_free_end : List Str := ["lead", "wide", "doors"]
theorem sc_free_end : FnScope n_free_end p_free_end (defScope s_free_end) := ⟨rfl, rfl, rfl, by decide +kernel, rfl, by decide +kernel, by decide +kernel⟩
abbrev s_with_tie : Stmt := top 10
abbrev n_with_tie : List Str := ["lead", "end", "other", "made"]
abbrev p_with_tie : List Str := ["lead", "end", "other"]
theorem sc_with_tie : FnScope n_with_tie p_with_tie (defScope s_with_tie) := ⟨rfl, rfl, rfl, by decide +kernel, rfl, by decide +kernel, by decide +kernel⟩
abbrev s_web_of_ends : Stmt := top 11
abbrev n_web_of_ends : List Str := ["lead", "wide", "doors", "door", "room"]
abbrev p_web_of_ends : List Str := ["lead", "wide", "doors"]
theorem sc_web_of_ends : FnScope n_web_of_ends p_web_of_ends (defScope s_web_of_ends) := ⟨rfl, rfl, rfl, by decide +kernel, rfl, by decide +kernel, by decide +kernel⟩
abbrev s_ways_on_from : Stmt := top 12
abbrev n_ways_on_from : List Str := ["lead", "end", "come", "wide", "doors", "found", "room", "door"]
abbrev p_ways_on_from : List Str := ["lead", "end", "come", "wide", "doors"]
theorem sc_ways_on_from : FnScope n_ways_on_from p_ways_on_from (defScope s_ways_on_from) := ⟨rfl, rfl, rfl, by decide +kernel, rfl, by decide +kernel, by decide +kernel⟩
abbrev s_rooms_on : Stmt := top 13
abbrev n_rooms_on : List Str := ["web", "room", "way", "found", "many"]
abbrev p_rooms_on : List Str := ["web", "room", "way"]
theorem sc_rooms_on : FnScope n_rooms_on p_rooms_on (defScope s_rooms_on) := ⟨rfl, rfl, rfl, by decide +kernel, rfl, by decide +kernel, by decide +kernel⟩
abbrev s_sees_all : Stmt := top 14
abbrev n_sees_all : List Str := ["web", "room", "way"]
abbrev p_sees_all : List Str := ["web", "room", "way"]
theorem sc_sees_all : FnScope n_sees_all p_sees_all (defScope s_sees_all) := ⟨rfl, rfl, rfl, by decide +kernel, rfl, by decide +kernel, by decide +kernel⟩
abbrev s_renumbered : Stmt := top 16
abbrev n_renumbered : List Str := ["web", "numbers", "made", "number", "doors", "other", "door"]
abbrev p_renumbered : List Str := ["web", "numbers"]
theorem sc_renumbered : FnScope n_renumbered p_renumbered (defScope s_renumbered) := ⟨rfl, rfl, rfl, by decide +kernel, rfl, by decide +kernel, by decide +kernel⟩
abbrev s_told_from : Stmt := top 17
abbrev n_told_from : List Str := ["web", "room", "numbers", "place", "number"]
abbrev p_told_from : List Str := ["web", "room"]
theorem sc_told_from : FnScope n_told_from p_told_from (defScope s_told_from) := ⟨rfl, rfl, rfl, by decide +kernel, rfl, by decide +kernel, by decide +kernel⟩
abbrev s_Trace_init : Stmt := inClass (top 19) 0
abbrev n_Trace_init : List Str := ["self", "lead", "room", "at", "come"]
abbrev p_Trace_init : List Str := ["self", "lead", "room", "at", "come"]
theorem sc_Trace_init : FnScope n_Trace_init p_Trace_init (defScope s_Trace_init) := ⟨rfl, rfl, rfl, by decide +kernel, rfl, by decide +kernel, by decide +kernel⟩
abbrev s_Trace_gone_on : Stmt := inClass (top 19) 1
abbrev n_Trace_gone_on : List Str := ["self", "way"]
abbrev p_Trace_gone_on : List Str := ["self", "way"]
theorem sc_Trace_gone_on : FnScope n_Trace_gone_on p_Trace_gone_on (defScope s_Trace_gone_on) := ⟨rfl, rfl, rfl, by decide +kernel, rfl, by decide +kernel, by decide +kernel⟩
abbrev s_closed_web : Stmt := top 20
abbrev n_closed_web : List Str := ["lead", "come", "doors", "made", "end"]
abbrev p_closed_web : List Str := ["lead", "come", "doors"]
theorem sc_closed_web : FnScope n_closed_web p_closed_web (defScope s_closed_web) := ⟨rfl, rfl, rfl, by decide +kernel, rfl, by decide +kernel, by decide +kernel⟩
abbrev s_missed : Stmt := top 21
abbrev n_missed : List Str := ["wide", "doors", "way", "waiting", "trace", "lead", "come"]
abbrev p_missed : List Str := ["wide", "doors", "way"]
theorem sc_missed : FnScope n_missed p_missed (defScope s_missed) := ⟨rfl, rfl, rfl, by decide +kernel, rfl, by decide +kernel, by decide +kernel⟩
abbrev s_shows_missed : Stmt := top 22
abbrev n_shows_missed : List Str := ["wide", "doors", "way", "web", "room"]
abbrev p_shows_missed : List Str := ["wide", "doors", "way", "web"]
theorem sc_shows_missed : FnScope n_shows_missed p_shows_missed (defScope s_shows_missed) := ⟨rfl, rfl, rfl, by decide +kernel, rfl, by decide +kernel, by decide +kernel⟩
abbrev s_come_on : Stmt := top 23
abbrev n_come_on : List Str := ["web", "spots", "door", "made", "room", "met", "other"]
abbrev p_come_on : List Str := ["web", "spots", "door"]
theorem sc_come_on : FnScope n_come_on p_come_on (defScope s_come_on) := ⟨rfl, rfl, rfl, by decide +kernel, rfl, by decide +kernel, by decide +kernel⟩
abbrev s_is_all_met : Stmt := top 24
abbrev n_is_all_met : List Str := ["web", "spots", "room", "met"]
abbrev p_is_all_met : List Str := ["web", "spots"]
theorem sc_is_all_met : FnScope n_is_all_met p_is_all_met (defScope s_is_all_met) := ⟨rfl, rfl, rfl, by decide +kernel, rfl, by decide +kernel, by decide +kernel⟩
abbrev s_least_seeing : Stmt := top 25
abbrev n_least_seeing : List Str := ["web", "begun", "room", "known", "row", "longer", "way", "spots", "door", "made"]
abbrev p_least_seeing : List Str := ["web"]
theorem sc_least_seeing : FnScope n_least_seeing p_least_seeing (defScope s_least_seeing) := ⟨rfl, rfl, rfl, by decide +kernel, rfl, by decide +kernel, by decide +kernel⟩
abbrev s_Walker_init : Stmt := inClass (top 30) 0
abbrev n_Walker_init : List Str := ["self", "web", "room", "stones"]
abbrev p_Walker_init : List Str := ["self", "web", "room", "stones"]
theorem sc_Walker_init : FnScope n_Walker_init p_Walker_init (defScope s_Walker_init) := ⟨rfl, rfl, rfl, by decide +kernel, rfl, by decide +kernel, by decide +kernel⟩
abbrev s_Walker_here : Stmt := inClass (top 30) 1
abbrev n_Walker_here : List Str := ["self"]
abbrev p_Walker_here : List Str := ["self"]
theorem sc_Walker_here : FnScope n_Walker_here p_Walker_here (defScope s_Walker_here) := ⟨rfl, rfl, rfl, by decide +kernel, rfl, by decide +kernel, by decide +kernel⟩
abbrev s_Walker_go : Stmt := inClass (top 30) 2
abbrev n_Walker_go : List Str := ["self", "door"]
abbrev p_Walker_go : List Str := ["self", "door"]
theorem sc_Walker_go : FnScope n_Walker_go p_Walker_go (defScope s_Walker_go) := ⟨rfl, rfl, rfl, by decide +kernel, rfl, by decide +kernel, by decide +kernel⟩
abbrev s_onlooker : Stmt := top 31
abbrev n_onlooker : List Str := ["walker", "lying", "room", "many"]
abbrev p_onlooker : List Str := ["walker"]
theorem sc_onlooker : FnScope n_onlooker p_onlooker (defScope s_onlooker) := ⟨rfl, rfl, rfl, by decide +kernel, rfl, by decide +kernel, by decide +kernel⟩
abbrev s_l_box : Stmt := top 33
abbrev n_l_box : List Str := ["_law_script", "_law_k", "_law_cell", "_law_digits"]
abbrev p_l_box : List Str := ["_law_script", "_law_k"]
theorem sc_l_box : FnScope n_l_box p_l_box (defScope s_l_box) := ⟨rfl, rfl, rfl, by decide +kernel, rfl, by decide +kernel, by decide +kernel⟩
abbrev s_l_take : Stmt := top 34
abbrev n_l_take : List Str := ["_law_box_here", "_law_many", "_law_found", "_law_once"]
abbrev p_l_take : List Str := ["_law_box_here", "_law_many"]
theorem sc_l_take : FnScope n_l_take p_l_take (defScope s_l_take) := ⟨rfl, rfl, rfl, by decide +kernel, rfl, by decide +kernel, by decide +kernel⟩
abbrev s_l_told : Stmt := top 35
abbrev n_l_told : List Str := ["_law_web", "_law_room", "_law_order", "_law_at", "_law_other", "_law_door", "_law_place", "_law_k", "_law_one"]
abbrev p_l_told : List Str := ["_law_web", "_law_room"]
theorem sc_l_told : FnScope n_l_told p_l_told (defScope s_l_told) := ⟨rfl, rfl, rfl, by decide +kernel, rfl, by decide +kernel, by decide +kernel⟩
abbrev s_l_pairings : Stmt := top 36
abbrev n_l_pairings : List Str := ["_law_ends", "_law_first", "_law_rest", "_law_found", "_law_more", "_law_k", "_law_other"]
abbrev p_l_pairings : List Str := ["_law_ends"]
theorem sc_l_pairings : FnScope n_l_pairings p_l_pairings (defScope s_l_pairings) := ⟨rfl, rfl, rfl, by decide +kernel, rfl, by decide +kernel, by decide +kernel⟩
abbrev s_l_all_ends : Stmt := top 37
abbrev n_l_all_ends : List Str := ["_law_wide", "_law_doors", "_law_found", "_law_room", "_law_door"]
abbrev p_l_all_ends : List Str := ["_law_wide", "_law_doors"]
theorem sc_l_all_ends : FnScope n_l_all_ends p_l_all_ends (defScope s_l_all_ends) := ⟨rfl, rfl, rfl, by decide +kernel, rfl, by decide +kernel, by decide +kernel⟩
abbrev s_l_even : Stmt := top 38
abbrev n_l_even : List Str := ["_law_wide", "_law_doors", "_law_found", "_law_pairs", "_law_lead", "_law_end", "_law_other", "_law_web", "_law_door", "_law_room"]
abbrev p_l_even : List Str := ["_law_wide", "_law_doors"]
theorem sc_l_even : FnScope n_l_even p_l_even (defScope s_l_even) := ⟨rfl, rfl, rfl, by decide +kernel, rfl, by decide +kernel, by decide +kernel⟩
abbrev s_l_sizes : Stmt := top 39
abbrev n_l_sizes : List Str := ["_law_most", "_law_doors", "_law_found", "_law_wide", "_law_some", "_law_many"]
abbrev p_l_sizes : List Str := ["_law_most", "_law_doors"]
theorem sc_l_sizes : FnScope n_l_sizes p_l_sizes (defScope s_l_sizes) := ⟨rfl, rfl, rfl, by decide +kernel, rfl, by decide +kernel, by decide +kernel⟩
abbrev s_l_way : Stmt := top 40
abbrev n_l_way : List Str := ["_law_box_here", "_law_doors", "_law_many", "_law_k"]
abbrev p_l_way : List Str := ["_law_box_here", "_law_doors", "_law_many"]
theorem sc_l_way : FnScope n_l_way p_l_way (defScope s_l_way) := ⟨rfl, rfl, rfl, by decide +kernel, rfl, by decide +kernel, by decide +kernel⟩
abbrev s_l_seen_rooms : Stmt := top 41
abbrev n_l_seen_rooms : List Str := ["_law_web", "_law_room", "_law_way_here", "_law_found", "_law_door"]
abbrev p_l_seen_rooms : List Str := ["_law_web", "_law_room", "_law_way_here"]
theorem sc_l_seen_rooms : FnScope n_l_seen_rooms p_l_seen_rooms (defScope s_l_seen_rooms) := ⟨rfl, rfl, rfl, by decide +kernel, rfl, by decide +kernel, by decide +kernel⟩
abbrev s_l_folded : Stmt := top 42
abbrev n_l_folded : List Str := ["_law_script", "_law_many", "_law_cells", "_law_k", "_law_cell"]
abbrev p_l_folded : List Str := ["_law_script", "_law_many"]
theorem sc_l_folded : FnScope n_l_folded p_l_folded (defScope s_l_folded) := ⟨rfl, rfl, rfl, by decide +kernel, rfl, by decide +kernel, by decide +kernel⟩
abbrev s_l_joined : Stmt := top 43
abbrev n_l_joined : List Str := ["_law_halves", "_law_at", "_law_room", "_law_door", "_law_half", "_law_web", "_law_doors", "_law_tie", "_law_side"]
abbrev p_l_joined : List Str := ["_law_halves"]
theorem sc_l_joined : FnScope n_l_joined p_l_joined (defScope s_l_joined) := ⟨rfl, rfl, rfl, by decide +kernel, rfl, by decide +kernel, by decide +kernel⟩
abbrev s_l_doors_put : Stmt := top 44
abbrev n_l_doors_put : List Str := ["_law_box_here", "_law_pairs", "_law_many", "_law_halves", "_law_room", "_law_tie", "_law_one", "_law_other", "_law_sides", "_law_side"]
abbrev p_l_doors_put : List Str := ["_law_box_here", "_law_pairs", "_law_many"]
theorem sc_l_doors_put : FnScope n_l_doors_put p_l_doors_put (defScope s_l_doors_put) := ⟨rfl, rfl, rfl, by decide +kernel, rfl, by decide +kernel, by decide +kernel⟩
abbrev s_l_even_web : Stmt := top 45
abbrev n_l_even_web : List Str := ["_law_box_here", "_law_many", "_law_doors", "_law_left", "_law_pairs", "_law_room", "_law_free", "_law_one", "_law_end", "_law_some", "_law_other"]
abbrev p_l_even_web : List Str := ["_law_box_here", "_law_many", "_law_doors"]
theorem sc_l_even_web : FnScope n_l_even_web p_l_even_web (defScope s_l_even_web) := ⟨rfl, rfl, rfl, by decide +kernel, rfl, by decide +kernel, by decide +kernel⟩
abbrev s_l_walked : Stmt := top 46
abbrev n_l_walked : List Str := ["_law_web", "_law_room", "_law_way_here", "_law_walker", "_law_met", "_law_door"]
abbrev p_l_walked : List Str := ["_law_web", "_law_room", "_law_way_here"]
theorem sc_l_walked : FnScope n_l_walked p_l_walked (defScope s_l_walked) := ⟨rfl, rfl, rfl, by decide +kernel, rfl, by decide +kernel, by decide +kernel⟩
abbrev s_l_grown : Stmt := top 47
abbrev n_l_grown : List Str := ["_law_wide", "_law_doors", "_law_way_here", "_law_webs", "_law_told_here", "_law_web", "_law_more"]
abbrev p_l_grown : List Str := ["_law_wide", "_law_doors", "_law_way_here", "_law_webs"]
theorem sc_l_grown : FnScope n_l_grown p_l_grown (defScope s_l_grown) := ⟨rfl, rfl, rfl, by decide +kernel, rfl, by decide +kernel, by decide +kernel⟩
abbrev s_law : Stmt := top 48
abbrev n_law : List Str := ["_law_script", "_law_sizes_here", "_law_box_here", "_law_wide", "_law_doors", "_law_webs", "_law_many", "_law_way_here", "_law_shut", "_law_left", "_law_web", "_law_room"]
abbrev p_law : List Str := ["_law_script"]
theorem sc_law : FnScope n_law p_law (defScope s_law) := ⟨rfl, rfl, rfl, by decide +kernel, rfl, by decide +kernel, by decide +kernel⟩
end Sw
/-! SwM1 -/
set_option Elab.async false
set_option linter.all false
set_option maxRecDepth 100000
set_option maxHeartbeats 1000000
/-! webs, ways, the order in which rooms are come to, webs as told: plain Lean -/
namespace Sw

abbrev End := Nat × Nat
abbrev Web := List (List End)
def row (W : Web) (r : Nat) : List End := W.getD r []
def en (W : Web) (r i : Nat) : End := (row W r).getD i (0, 0)
def step (W : Web) (r i : Nat) : Nat := (en W r i).1
def walk (W : Web) : Nat → List Nat → Nat
  | r, [] => r
  | r, i :: w => walk W (step W r i) w
def vis (W : Web) : Nat → List Nat → List Nat
  | r, [] => [r]
  | r, i :: w => r :: vis W (step W r i) w
/-- the way comes to all rooms -/
def Sees (W : Web) (r : Nat) (w : List Nat) : Prop := ∀ t, t < W.length → t ∈ vis W r w

/-- n rooms of d doors each, all ends in range -/
structure Rg (W : Web) (n d : Nat) : Prop where
  len : W.length = n
  pos : 0 < n
  rows : ∀ r, r < n → (row W r).length = d
  rng : ∀ r i, r < n → i < d → (en W r i).1 < n ∧ (en W r i).2 < d
/-- an even web -/
structure Ev (W : Web) (n d : Nat) : Prop extends Rg W n d where
  sym : ∀ r i, r < n → i < d → en W (en W r i).1 (en W r i).2 = (r, i)
  conn : ∀ (S : Nat → Prop) (r0 : Nat), r0 < n → S r0 → (∀ r i, r < n → i < d → S r → S (step W r i)) → ∀ r, r < n → S r

/-! ### lists of numbers -/
theorem nodup_sub_len {α : Type} [DecidableEq α] : ∀ {l m : List α}, l.Nodup → (∀ x ∈ l, x ∈ m) → l.length ≤ m.length
  | [], _, _, _ => Nat.zero_le _
  | a :: t, m, h, s => by
    obtain ⟨h1, h2⟩ := List.nodup_cons.mp h
    have ha : a ∈ m := s a List.mem_cons_self
    have ih := nodup_sub_len (l := t) (m := m.erase a) h2 fun x hx => by
      have hne : x ≠ a := fun e => h1 (e ▸ hx)
      exact (List.mem_erase_of_ne hne).mpr (s x (List.mem_cons_of_mem _ hx))
    have e := List.length_erase_of_mem ha
    have hp : 0 < m.length := List.length_pos_of_mem ha
    rw [List.length_cons]
    omega
theorem nodup_lt_len {l : List Nat} {n : Nat} (h : l.Nodup) (s : ∀ x ∈ l, x < n) : l.length ≤ n := by
  have := nodup_sub_len (m := List.range n) h fun x hx => List.mem_range.mpr (s x hx)
  rwa [List.length_range] at this
/-- as many as there may be: all are there -/
theorem nodup_full {l : List Nat} {n : Nat} (h : l.Nodup) (s : ∀ x ∈ l, x < n) (hl : l.length = n) : ∀ t, t < n → t ∈ l := fun t ht => by
  by_cases hm : t ∈ l
  · exact hm
  · exfalso
    have h2 : (t :: l).Nodup := List.nodup_cons.mpr ⟨hm, h⟩
    have := nodup_lt_len (n := n) h2 fun x hx => by
      rcases List.mem_cons.mp hx with e | hx
      · rw [e]; exact ht
      · exact s x hx
    rw [List.length_cons] at this
    omega
theorem getD_of {α : Type} {l : List α} {i : Nat} {d x : α} (h : l[i]? = some x) : l.getD i d = x := by
  rw [List.getD_eq_getElem?_getD, h]; rfl
theorem get_of_lt {α : Type} {l : List α} {i : Nat} (d : α) (h : i < l.length) : l[i]? = some (l.getD i d) := by
  rw [List.getD_eq_getElem?_getD, List.getElem?_eq_getElem h]; rfl

/-! ### even webs -/
theorem Rg.get {W : Web} {n d : Nat} (h : Rg W n d) {r : Nat} (hr : r < n) : W[r]? = some (row W r) := get_of_lt [] (by rw [h.len]; exact hr)
theorem Rg.end_ {W : Web} {n d : Nat} (h : Rg W n d) {r i : Nat} (hr : r < n) (hi : i < d) : (row W r)[i]? = some (en W r i) := get_of_lt (0, 0) (by rw [h.rows r hr]; exact hi)
theorem Rg.step_lt {W : Web} {n d : Nat} (h : Rg W n d) {r i : Nat} (hr : r < n) (hi : i < d) : step W r i < n := (h.rng r i hr hi).1
theorem Rg.mem {W : Web} {n d : Nat} (h : Rg W n d) {r : Nat} (hr : r < n) {e : End} (he : e ∈ row W r) : ∃ i, i < d ∧ e = en W r i := by
  obtain ⟨i, hi, q⟩ := List.getElem_of_mem he
  refine ⟨i, by rw [← h.rows r hr]; exact hi, ?_⟩
  unfold en
  rw [getD_of (x := e) (by rw [List.getElem?_eq_getElem hi, q])]
theorem Rg.mem_en {W : Web} {n d : Nat} (h : Rg W n d) {r i : Nat} (hr : r < n) (hi : i < d) : en W r i ∈ row W r := List.mem_of_getElem? (h.end_ hr hi)
theorem Rg.mem_lt {W : Web} {n d : Nat} (h : Rg W n d) {r : Nat} (hr : r < n) {e : End} (he : e ∈ row W r) : e.1 < n ∧ e.2 < d := by
  obtain ⟨i, hi, q⟩ := h.mem hr he
  rw [q]; exact h.rng r i hr hi
theorem Rg.walk_lt {W : Web} {n d : Nat} (h : Rg W n d) : ∀ {w : List Nat} {r : Nat}, r < n → (∀ i ∈ w, i < d) → walk W r w < n
  | [], _, hr, _ => hr
  | i :: w, r, hr, hw => h.walk_lt (w := w) (h.step_lt hr (hw i List.mem_cons_self)) fun j hj => hw j (List.mem_cons_of_mem _ hj)
theorem Rg.vis_lt {W : Web} {n d : Nat} (h : Rg W n d) : ∀ {w : List Nat} {r : Nat}, r < n → (∀ i ∈ w, i < d) → ∀ t ∈ vis W r w, t < n
  | [], r, hr, _, t, ht => by
    have e : t = r := by simpa [vis] using ht
    rw [e]; exact hr
  | i :: w, r, hr, hw, t, ht => by
    rcases List.mem_cons.mp (show t ∈ r :: vis W (step W r i) w from ht) with e | ht
    · rw [e]; exact hr
    · exact h.vis_lt (w := w) (h.step_lt hr (hw i List.mem_cons_self)) (fun j hj => hw j (List.mem_cons_of_mem _ hj)) t ht
/-- two webs of the same rooms and ends are the same -/
theorem Rg.ext {W U : Web} {n d : Nat} (h : Rg W n d) (k : Rg U n d) (e : ∀ r i, r < n → i < d → en W r i = en U r i) : W = U := by
  refine List.ext_getElem? fun r => ?_
  by_cases hr : r < n
  · rw [h.get hr, k.get hr]
    congr 1
    refine List.ext_getElem? fun i => ?_
    by_cases hi : i < d
    · rw [h.end_ hr hi, k.end_ hr hi, e r i hr hi]
    · rw [List.getElem?_eq_none (by rw [h.rows r hr]; omega), List.getElem?_eq_none (by rw [k.rows r hr]; omega)]
  · rw [List.getElem?_eq_none (by rw [h.len]; omega), List.getElem?_eq_none (by rw [k.len]; omega)]

/-! ### ways -/
theorem walk_app {W : Web} : ∀ {v w : List Nat} {r : Nat}, walk W r (v ++ w) = walk W (walk W r v) w
  | [], _, _ => rfl
  | i :: v, w, r => walk_app (v := v) (w := w) (r := step W r i)
theorem vis_self {W : Web} (w : List Nat) (r : Nat) : r ∈ vis W r w := by cases w <;> simp [vis]
theorem vis_app {W : Web} {t : Nat} : ∀ {v w : List Nat} {r : Nat}, t ∈ vis W r (v ++ w) ↔ t ∈ vis W r v ∨ t ∈ vis W (walk W r v) w
  | [], w, r => by
    show t ∈ vis W r w ↔ t ∈ [r] ∨ t ∈ vis W r w
    refine ⟨.inr, fun h => h.elim (fun q => ?_) id⟩
    have e : t = r := by simpa using q
    rw [e]; exact vis_self w r
  | i :: v, w, r => by
    show t ∈ r :: vis W (step W r i) (v ++ w) ↔ t ∈ r :: vis W (step W r i) v ∨ t ∈ vis W (walk W (step W r i) v) w
    rw [List.mem_cons, List.mem_cons, vis_app (v := v) (w := w), or_assoc]
theorem vis_walk {W : Web} : ∀ {w : List Nat} {r : Nat}, walk W r w ∈ vis W r w
  | [], _ => by simp [vis, walk]
  | i :: w, r => List.mem_cons_of_mem _ (vis_walk (w := w) (r := step W r i))
/-- a room that a way comes to is where one of its beginnings leads -/
theorem vis_iff {W : Web} {t : Nat} : ∀ {w : List Nat} {r : Nat}, t ∈ vis W r w ↔ ∃ k, k ≤ w.length ∧ walk W r (w.take k) = t
  | [], r => by
    show t ∈ [r] ↔ _
    rw [List.mem_singleton]
    refine ⟨fun e => ⟨0, Nat.le_refl _, e.symm⟩, fun ⟨k, _, e⟩ => ?_⟩
    have q : ([] : List Nat).take k = [] := by simp
    rw [q] at e
    exact e.symm
  | i :: w, r => by
    show t ∈ r :: vis W (step W r i) w ↔ _
    rw [List.mem_cons, vis_iff (w := w)]
    constructor
    · rintro (e | ⟨k, hk, e⟩)
      · exact ⟨0, Nat.zero_le _, e.symm⟩
      · exact ⟨k + 1, by rw [List.length_cons]; omega, e⟩
    · rintro ⟨k, hk, e⟩
      cases k with
      | zero => exact .inl e.symm
      | succ k => exact .inr ⟨k, by rw [List.length_cons] at hk; omega, e⟩
theorem Sees.more {W : Web} {r : Nat} {v : List Nat} (h : Sees W r v) (w : List Nat) : Sees W r (v ++ w) := fun t ht => vis_app.mpr (.inl (h t ht))

/-! ### rooms as they are come to -/
def addAll (m : List Nat) : List End → List Nat
  | [] => m
  | e :: es => addAll (if e.1 ∈ m then m else m ++ [e.1]) es
def bfs (W : Web) : Nat → List Nat → Nat → List Nat
  | 0, m, _ => m
  | f + 1, m, p => match m[p]? with
    | none => m
    | some r => bfs W f (addAll m (row W r)) (p + 1)
def ord (W : Web) (r : Nat) : List Nat := bfs W (W.length + 1) [r] 0
def told (W : Web) (r : Nat) : Web := (ord W r).map fun x => (row W x).map fun e => ((ord W r).idxOf e.1, e.2)

theorem addAll_mem {x : Nat} : ∀ {es : List End} {m : List Nat}, x ∈ addAll m es ↔ x ∈ m ∨ ∃ e ∈ es, e.1 = x
  | [], m => by simp [addAll]
  | e :: es, m => by
    show x ∈ addAll (if e.1 ∈ m then m else m ++ [e.1]) es ↔ _
    rw [addAll_mem (es := es)]
    by_cases h : e.1 ∈ m
    · rw [if_pos h]
      constructor
      · rintro (q | ⟨e', he, q⟩)
        · exact .inl q
        · exact .inr ⟨e', List.mem_cons_of_mem _ he, q⟩
      · rintro (q | ⟨e', he, q⟩)
        · exact .inl q
        · rcases List.mem_cons.mp he with z | he
          · subst z; exact .inl (q ▸ h)
          · exact .inr ⟨e', he, q⟩
    · rw [if_neg h]
      constructor
      · rintro (q | ⟨e', he, q⟩)
        · rcases List.mem_append.mp q with q | q
          · exact .inl q
          · exact .inr ⟨e, List.mem_cons_self, (List.mem_singleton.mp q).symm⟩
        · exact .inr ⟨e', List.mem_cons_of_mem _ he, q⟩
      · rintro (q | ⟨e', he, q⟩)
        · exact .inl (List.mem_append_left _ q)
        · rcases List.mem_cons.mp he with z | he
          · subst z; exact .inl (List.mem_append_right _ (List.mem_singleton.mpr q.symm))
          · exact .inr ⟨e', he, q⟩
theorem snoc_nodup {l : List Nat} {a : Nat} (h : l.Nodup) (ha : a ∉ l) : (l ++ [a]).Nodup := by
  rw [List.nodup_append]
  exact ⟨h, by simp, fun x hx y hy e => ha (by rw [← List.mem_singleton.mp hy, ← e]; exact hx)⟩
theorem addAll_nodup : ∀ {es : List End} {m : List Nat}, m.Nodup → (addAll m es).Nodup
  | [], _, h => h
  | e :: es, m, h => by
    show (addAll (if e.1 ∈ m then m else m ++ [e.1]) es).Nodup
    by_cases q : e.1 ∈ m
    · rw [if_pos q]; exact addAll_nodup h
    · rw [if_neg q]; exact addAll_nodup (snoc_nodup h q)
theorem addAll_pre : ∀ (es : List End) (m : List Nat), ∃ t, addAll m es = m ++ t
  | [], m => ⟨[], by simp [addAll]⟩
  | e :: es, m => by
    show ∃ t, addAll (if e.1 ∈ m then m else m ++ [e.1]) es = m ++ t
    by_cases q : e.1 ∈ m
    · rw [if_pos q]; exact addAll_pre es m
    · rw [if_neg q]
      obtain ⟨t, ht⟩ := addAll_pre es (m ++ [e.1])
      exact ⟨e.1 :: t, by rw [ht]; simp⟩
theorem bfs_pre {W : Web} : ∀ (f : Nat) (m : List Nat) (p : Nat), ∃ t, bfs W f m p = m ++ t
  | 0, m, _ => ⟨[], by simp [bfs]⟩
  | f + 1, m, p => by
    unfold bfs
    cases h : m[p]? with
    | none => exact ⟨[], by simp⟩
    | some r =>
      obtain ⟨t, ht⟩ := addAll_pre (row W r) m
      obtain ⟨u, hu⟩ := bfs_pre (W := W) f (addAll m (row W r)) (p + 1)
      exact ⟨t ++ u, by show bfs W f (addAll m (row W r)) (p + 1) = _; rw [hu, ht]; simp⟩
theorem bfs_inv {W : Web} {P : Nat → Prop} (hP : ∀ r, P r → ∀ e ∈ row W r, P e.1) : ∀ (f : Nat) (m : List Nat) (p : Nat), m.Nodup → (∀ x ∈ m, P x) → (bfs W f m p).Nodup ∧ ∀ x ∈ bfs W f m p, P x
  | 0, m, _, h1, h2 => ⟨h1, h2⟩
  | f + 1, m, p, h1, h2 => by
    unfold bfs
    cases h : m[p]? with
    | none => exact ⟨h1, h2⟩
    | some r =>
      refine bfs_inv hP f _ (p + 1) (addAll_nodup h1) fun x hx => ?_
      rcases addAll_mem.mp hx with q | ⟨e, he, q⟩
      · exact h2 x q
      · rw [← q]; exact hP r (h2 r (List.mem_of_getElem? h)) e he
/-- the rooms behind which one has looked have their neighbours in -/
theorem bfs_closed {W : Web} : ∀ (f : Nat) (m : List Nat) (p : Nat), (∀ k, k < p → ∀ r, m[k]? = some r → ∀ e ∈ row W r, e.1 ∈ m) → (bfs W f m p).length ≤ p + f → ∀ r, (hr : r ∈ bfs W f m p) → ∀ e, (he : e ∈ row W r) → e.1 ∈ bfs W f m p
  | 0, m, p, h, hl, r, hr, e, he => by
    obtain ⟨k, hk, q⟩ := List.getElem_of_mem (show r ∈ m from hr)
    have hl' : m.length ≤ p := by simpa [bfs] using hl
    exact h k (by omega) r (by rw [List.getElem?_eq_getElem hk, q]) e he
  | f + 1, m, p, h, hl, r, hr, e, he => by
    unfold bfs at hl hr ⊢
    cases hm : m[p]? with
    | none =>
      rw [hm] at hr
      obtain ⟨k, hk, q⟩ := List.getElem_of_mem (show r ∈ m from hr)
      have hp : m.length ≤ p := List.getElem?_eq_none_iff.mp hm
      exact h k (by omega) r (by rw [List.getElem?_eq_getElem hk, q]) e he
    | some r0 =>
      rw [hm] at hl hr
      refine bfs_closed f _ (p + 1) (fun k hk r hr e he => ?_) (by show (bfs W f (addAll m (row W r0)) (p + 1)).length ≤ _; have : (bfs W f (addAll m (row W r0)) (p + 1)).length ≤ p + (f + 1) := hl; omega) r hr e he
      obtain ⟨t, ht⟩ := addAll_pre (row W r0) m
      have hpl : p < m.length := (List.getElem?_eq_some_iff.mp hm).1
      have hr' : m[k]? = some r := by
        rw [ht, List.getElem?_append_left (by omega)] at hr
        exact hr
      by_cases hkp : k = p
      · subst hkp
        rw [hm] at hr'
        cases hr'
        exact addAll_mem.mpr (.inr ⟨e, he, rfl⟩)
      · exact addAll_mem.mpr (.inl (h k (by omega) r hr' e he))
/-- enough fuel is enough -/
theorem bfs_fuel {W : Web} : ∀ (f g : Nat) (m : List Nat) (p : Nat), (bfs W f m p).length ≤ p + f → (bfs W f m p).length ≤ p + g → bfs W g m p = bfs W f m p
  | 0, g, m, p, h1, _ => by
    have hp : m.length ≤ p := by simpa [bfs] using h1
    cases g with
    | zero => rfl
    | succ g =>
      unfold bfs
      rw [List.getElem?_eq_none hp]
  | f + 1, g, m, p, h1, h2 => by
    cases hm : m[p]? with
    | none =>
      have e1 : bfs W (f + 1) m p = m := by unfold bfs; rw [hm]
      rw [e1]
      cases g with
      | zero => rfl
      | succ g => unfold bfs; rw [hm]
    | some r0 =>
      have e1 : bfs W (f + 1) m p = bfs W f (addAll m (row W r0)) (p + 1) := by rw [bfs, hm]
      rw [e1] at h1 h2 ⊢
      have hpl : p < m.length := (List.getElem?_eq_some_iff.mp hm).1
      obtain ⟨t, ht⟩ := addAll_pre (row W r0) m
      obtain ⟨u, hu⟩ := bfs_pre (W := W) f (addAll m (row W r0)) (p + 1)
      have hlen : m.length ≤ (bfs W f (addAll m (row W r0)) (p + 1)).length := by rw [hu, ht]; simp
      cases g with
      | zero => omega
      | succ g =>
        have e2 : bfs W (g + 1) m p = bfs W g (addAll m (row W r0)) (p + 1) := by rw [bfs, hm]
        rw [e2]
        exact bfs_fuel f g _ (p + 1) (by omega) (by omega)
/-- other names of the rooms: the same order -/
theorem addAll_map {φ : Nat → Nat} {S : Nat → Prop} (inj : ∀ x y, S x → S y → φ x = φ y → x = y) : ∀ (es : List End) (m : List Nat), (∀ x ∈ m, S x) → (∀ e ∈ es, S e.1) →
    addAll (m.map φ) (es.map fun e => (φ e.1, e.2)) = (addAll m es).map φ
  | [], m, _, _ => rfl
  | e :: es, m, hm, he => by
    have hS : S e.1 := he e List.mem_cons_self
    have hes : ∀ x ∈ es, S x.1 := fun x hx => he x (List.mem_cons_of_mem _ hx)
    show addAll (if φ e.1 ∈ m.map φ then m.map φ else m.map φ ++ [φ e.1]) (es.map fun e => (φ e.1, e.2)) = (addAll (if e.1 ∈ m then m else m ++ [e.1]) es).map φ
    by_cases q : e.1 ∈ m
    · rw [if_pos q, if_pos (List.mem_map_of_mem q)]
      exact addAll_map inj es m hm hes
    · rw [if_neg q, if_neg fun z => by
        obtain ⟨x, hx, ex⟩ := List.mem_map.mp z
        exact q (inj x e.1 (hm x hx) hS ex ▸ hx)]
      have e1 : m.map φ ++ [φ e.1] = (m ++ [e.1]).map φ := by simp
      rw [e1]
      refine addAll_map inj es (m ++ [e.1]) (fun x hx => ?_) hes
      rcases List.mem_append.mp hx with h | h
      · exact hm x h
      · rw [List.mem_singleton.mp h]; exact hS
theorem bfs_map {W U : Web} {φ : Nat → Nat} {S : Nat → Prop} (inj : ∀ x y, S x → S y → φ x = φ y → x = y) (cl : ∀ x, S x → ∀ e ∈ row W x, S e.1) (hU : ∀ x, S x → row U (φ x) = (row W x).map fun e => (φ e.1, e.2)) :
    ∀ (f : Nat) (m : List Nat) (p : Nat), (∀ x ∈ m, S x) → bfs U f (m.map φ) p = (bfs W f m p).map φ
  | 0, _, _, _ => rfl
  | f + 1, m, p, hm => by
    unfold bfs
    rw [List.getElem?_map]
    cases h : m[p]? with
    | none => rfl
    | some r =>
      have hr : S r := hm r (List.mem_of_getElem? h)
      show bfs U f (addAll (m.map φ) (row U (φ r))) (p + 1) = (bfs W f (addAll m (row W r)) (p + 1)).map φ
      rw [hU r hr, addAll_map inj (row W r) m hm (cl r hr)]
      refine bfs_map inj cl hU f _ (p + 1) fun x hx => ?_
      rcases addAll_mem.mp hx with q | ⟨e, he, q⟩
      · exact hm x q
      · rw [← q]; exact cl r hr e he

section
variable {W : Web} {n d : Nat} {r : Nat}
theorem Rg.ord_ok (h : Rg W n d) (hr : r < n) : (ord W r).Nodup ∧ ∀ x ∈ ord W r, x < n :=
  bfs_inv (P := fun x => x < n) (fun r hr e he => (h.mem_lt hr he).1) _ [r] 0 (by simp) (by simpa using hr)
theorem Rg.ord_len (h : Rg W n d) (hr : r < n) : (ord W r).length ≤ n := nodup_lt_len (h.ord_ok hr).1 (h.ord_ok hr).2
theorem ord_head (W : Web) (r : Nat) : (ord W r)[0]? = some r := by
  obtain ⟨t, ht⟩ := bfs_pre (W := W) (W.length + 1) [r] 0
  unfold ord
  rw [ht]; rfl
theorem ord_self (W : Web) (r : Nat) : r ∈ ord W r := List.mem_of_getElem? (ord_head W r)
theorem Rg.ord_closed (h : Rg W n d) (hr : r < n) : ∀ x ∈ ord W r, ∀ e ∈ row W x, e.1 ∈ ord W r :=
  bfs_closed _ [r] 0 (fun k hk => absurd hk (Nat.not_lt_zero _)) (by have := h.ord_len hr; unfold ord at this; rw [h.len] at this ⊢; omega)
theorem Ev.ord_all (h : Ev W n d) (hr : r < n) : ∀ x, x < n → x ∈ ord W r :=
  h.conn (fun x => x ∈ ord W r) r hr (ord_self W r) fun x i hx hi hm => h.ord_closed hr x hm _ (h.mem_en hx hi)
theorem Ev.ord_full (h : Ev W n d) (hr : r < n) : (ord W r).length = n := by
  have h1 := h.ord_len hr
  have h2 := nodup_sub_len (l := List.range n) (m := ord W r) List.nodup_range fun x hx => h.ord_all hr x (List.mem_range.mp hx)
  rw [List.length_range] at h2
  omega

/-! ### the web as told -/
abbrev pl (W : Web) (r x : Nat) : Nat := (ord W r).idxOf x
theorem told_len : (told W r).length = (ord W r).length := by unfold told; rw [List.length_map]
theorem idx_get {l : List Nat} {x : Nat} (h : x ∈ l) : l[l.idxOf x]? = some x := by
  have hl := List.idxOf_lt_length_of_mem h
  rw [List.getElem?_eq_getElem hl, List.getElem_idxOf]
theorem idx_inj {l : List Nat} {x y : Nat} (hx : x ∈ l) (hy : y ∈ l) (e : l.idxOf x = l.idxOf y) : x = y := by
  have h1 := idx_get hx
  have h2 := idx_get hy
  rw [e, h2] at h1
  exact (Option.some.inj h1).symm
theorem idx_of_get {l : List Nat} (hn : l.Nodup) {k x : Nat} (h : l[k]? = some x) : l.idxOf x = k := by
  have h2 := idx_get (List.mem_of_getElem? h)
  obtain ⟨a1, e1⟩ := List.getElem?_eq_some_iff.mp h
  obtain ⟨a2, e2⟩ := List.getElem?_eq_some_iff.mp h2
  exact (List.getElem_inj hn).mp (e2.trans e1.symm)
theorem pl_of (hn : (ord W r).Nodup) {k x : Nat} (h : (ord W r)[k]? = some x) : pl W r x = k := idx_of_get hn h
theorem told_row (hx : x ∈ ord W r) : row (told W r) (pl W r x) = (row W x).map fun e => (pl W r e.1, e.2) := by
  unfold row told
  refine getD_of ?_
  rw [List.getElem?_map, idx_get hx]
  rfl
theorem told_row_at {k x : Nat} (hx : (ord W r)[k]? = some x) : row (told W r) k = (row W x).map fun e => (pl W r e.1, e.2) := by
  unfold row told
  refine getD_of ?_
  rw [List.getElem?_map, hx]
  rfl
theorem Rg.told_en (h : Rg W n d) {k x i : Nat} (hx : (ord W r)[k]? = some x) (hxn : x < n) (hi : i < d) : en (told W r) k i = (pl W r (en W x i).1, (en W x i).2) := by
  unfold en
  rw [told_row_at hx]
  refine getD_of ?_
  rw [List.getElem?_map, h.end_ hxn hi]
  rfl
theorem Rg.told_rg (h : Rg W n d) (hr : r < n) : Rg (told W r) (ord W r).length d := by
  have ok := h.ord_ok hr
  refine ⟨told_len, List.length_pos_of_mem (ord_self W r), fun k hk => ?_, fun k i hk hi => ?_⟩
  · have hx := List.getElem?_eq_getElem hk
    rw [told_row_at hx, List.length_map]
    exact h.rows _ (ok.2 _ (List.getElem_mem hk))
  · have hx := List.getElem?_eq_getElem hk
    have hxn := ok.2 _ (List.getElem_mem hk)
    rw [h.told_en hx hxn hi]
    exact ⟨List.idxOf_lt_length_of_mem (h.ord_closed hr _ (List.getElem_mem hk) _ (h.mem_en hxn hi)), (h.rng _ i hxn hi).2⟩
/-- told again it is the same -/
theorem Rg.told_told (h : Rg W n d) (hr : r < n) : told (told W r) 0 = told W r := by
  have ok := h.ord_ok hr
  have hl := h.ord_len hr
  have tr := h.told_rg hr
  have e0 : pl W r r = 0 := idx_of_get ok.1 (ord_head W r)
  have key : ∀ f, bfs (told W r) f [0] 0 = (bfs W f [r] 0).map (pl W r) := fun f => by
    have q := bfs_map (W := W) (U := told W r) (φ := pl W r) (S := fun x => x ∈ ord W r) (fun x y hx hy e => idx_inj hx hy e) (fun x hx => h.ord_closed hr x hx) (fun x hx => told_row hx) f [r] 0 (by simpa using ord_self W r)
    rw [← q]
    show _ = bfs (told W r) f [pl W r r] 0
    rw [e0]
  have eo : ord (told W r) 0 = List.range (ord W r).length := by
    have e1 : (ord W r).map (pl W r) = List.range (ord W r).length := by
      refine List.ext_getElem? fun k => ?_
      rw [List.getElem?_map]
      by_cases hk : k < (ord W r).length
      · rw [List.getElem?_eq_getElem hk, List.getElem?_range hk]
        show some _ = some k
        rw [pl_of ok.1 (List.getElem?_eq_getElem hk)]
      · rw [List.getElem?_eq_none (by omega), List.getElem?_eq_none (by rw [List.length_range]; omega)]
        rfl
    rw [← e1]
    have e2 : bfs (told W r) (W.length + 1) [0] 0 = (ord W r).map (pl W r) := key (W.length + 1)
    rw [← e2]
    unfold ord
    refine bfs_fuel _ _ _ _ ?_ ?_
    · rw [e2, List.length_map, h.len]; omega
    · rw [e2, List.length_map, told_len]; omega
  refine (tr.told_rg tr.pos).ext (by rw [eo, List.length_range]; exact tr) fun k i hk hi => ?_
  rw [eo, List.length_range] at hk
  have hx : (ord (told W r) 0)[k]? = some k := by rw [eo, List.getElem?_range hk]
  rw [tr.told_en hx hk hi]
  have hb := (tr.rng k i hk hi).1
  show (pl (told W r) 0 _, _) = _
  have e3 : pl (told W r) 0 (en (told W r) k i).1 = (en (told W r) k i).1 := idx_of_get (by rw [eo]; exact List.nodup_range) (by rw [eo, List.getElem?_range hb])
  rw [e3]
theorem Ev.told_ev (h : Ev W n d) (hr : r < n) : Ev (told W r) n d := by
  have ok := h.ord_ok hr
  have hl := h.ord_full hr
  have tr := h.told_rg hr
  rw [hl] at tr
  have at_ : ∀ k, k < n → ∃ x, (ord W r)[k]? = some x ∧ x < n ∧ x ∈ ord W r := fun k hk =>
    ⟨_, List.getElem?_eq_getElem (by rw [hl]; exact hk), ok.2 _ (List.getElem_mem _), List.getElem_mem _⟩
  refine ⟨tr, fun k i hk hi => ?_, fun S k0 hk0 h0 cl k hk => ?_⟩
  · obtain ⟨x, hx, hxn, hm⟩ := at_ k hk
    rw [h.told_en hx hxn hi]
    have hb := h.rng x i hxn hi
    have hm2 : (en W x i).1 ∈ ord W r := h.ord_closed hr x hm _ (h.mem_en hxn hi)
    have e := h.told_en (r := r) (k := pl W r (en W x i).1) (x := (en W x i).1) (i := (en W x i).2) (idx_get hm2) hb.1 hb.2
    show en (told W r) (pl W r (en W x i).1) (en W x i).2 = _
    rw [e, h.sym x i hxn hi]
    show (pl W r x, i) = (k, i)
    rw [pl_of ok.1 hx]
  · obtain ⟨x0, hx0, hx0n, _⟩ := at_ k0 hk0
    obtain ⟨x, hx, hxn, _⟩ := at_ k hk
    have q := h.conn (fun y => S (pl W r y)) x0 hx0n (by show S (pl W r x0); rw [pl_of ok.1 hx0]; exact h0) (fun y i hy hi hS => by
      have hm := h.ord_all hr y hy
      have e := h.told_en (r := r) (idx_get hm) hy hi
      have z := cl (pl W r y) i (by rw [← hl]; exact List.idxOf_lt_length_of_mem hm) hi hS
      unfold step at z
      rw [e] at z
      exact z) x hxn
    have q : S (pl W r x) := q
    rw [pl_of ok.1 hx] at q
    exact q
theorem Ev.told_vis (h : Ev W n d) (hr : r < n) : ∀ (w : List Nat) (x : Nat), x < n → (∀ i ∈ w, i < d) → vis (told W r) (pl W r x) w = (vis W x w).map (pl W r)
  | [], _, _, _ => rfl
  | i :: w, x, hx, hw => by
    have hi : i < d := hw i List.mem_cons_self
    show pl W r x :: vis (told W r) (step (told W r) (pl W r x) i) w = pl W r x :: (vis W (step W x i) w).map (pl W r)
    have e : step (told W r) (pl W r x) i = pl W r (step W x i) := by
      unfold step
      rw [h.told_en (idx_get (h.ord_all hr x hx)) hx hi]
    rw [e, h.told_vis hr w (step W x i) (h.step_lt hx hi) fun j hj => hw j (List.mem_cons_of_mem _ hj)]
/-- what the told web's way sees, the web's does -/
theorem Ev.told_sees (h : Ev W n d) (hr : r < n) {w : List Nat} (hw : ∀ i ∈ w, i < d) : Sees (told W r) 0 w ↔ Sees W r w := by
  have hl := h.ord_full hr
  have e0 : pl W r r = 0 := idx_of_get (h.ord_ok hr).1 (ord_head W r)
  have q := h.told_vis hr w r hr hw
  rw [e0] at q
  unfold Sees
  rw [q, told_len, hl, h.len]
  constructor
  · intro a t ht
    have hm := h.ord_all hr t ht
    obtain ⟨x, hx, ex⟩ := List.mem_map.mp (a (pl W r t) (by rw [← hl]; exact List.idxOf_lt_length_of_mem hm))
    have hxn := h.vis_lt hr hw x hx
    rw [← idx_inj (h.ord_all hr x hxn) hm ex]
    exact hx
  · intro a k hk
    have hx := List.getElem?_eq_getElem (show k < (ord W r).length by rw [hl]; exact hk)
    refine List.mem_map.mpr ⟨_, a _ ((h.ord_ok hr).2 _ (List.getElem_mem _)), idx_of_get (h.ord_ok hr).1 hx⟩
/-- a web that is as told comes to all its rooms -/
theorem Rg.conn_of_told (h : Rg W n d) (hs : ∀ r i, r < n → i < d → en W (en W r i).1 (en W r i).2 = (r, i)) (e : told W 0 = W) : Ev W n d := by
  have hl : (ord W 0).length = n := by rw [← told_len, e, h.len]
  have ok := h.ord_ok h.pos
  have all := nodup_full ok.1 ok.2 hl
  -- each room but the first stands behind an earlier one
  have tree : ∀ (f : Nat) (m : List Nat) (p : Nat) (S : Nat → Prop), (∀ r i, r < n → i < d → S r → S (step W r i)) → (∀ x ∈ m, x < n) → (∀ x ∈ m, S x) → ∀ x ∈ bfs W f m p, S x := by
    intro f m p S cl hm hS
    induction f generalizing m p with
    | zero => exact hS
    | succ f ih =>
      unfold bfs
      cases q : m[p]? with
      | none => exact hS
      | some r =>
        have hr := hm r (List.mem_of_getElem? q)
        refine ih _ _ (fun x hx => ?_) (fun x hx => ?_)
        · rcases addAll_mem.mp hx with z | ⟨en', he, z⟩
          · exact hm x z
          · rw [← z]; exact (h.mem_lt hr he).1
        · rcases addAll_mem.mp hx with z | ⟨en', he, z⟩
          · exact hS x z
          · obtain ⟨i, hi, ei⟩ := h.mem hr he
            rw [← z, ei]
            exact cl r i hr hi (hS r (List.mem_of_getElem? q))
  refine ⟨h, hs, fun S r0 hr0 h0 cl r hr => ?_⟩
  -- from r0 back to 0, then on to r
  have back : S 0 := by
    have := tree (W.length + 1) [0] 0 (fun x => S x → S 0) (fun x i hx hi f hx' => f (by
      have e1 := cl (step W x i) (en W x i).2 (h.step_lt hx hi) (h.rng x i hx hi).2 hx'
      unfold step at e1
      rw [hs x i hx hi] at e1
      exact e1)) (by simpa using h.pos) (by intro x hx; rw [List.mem_singleton.mp hx]; exact id) r0 (all r0 hr0)
    exact this h0
  exact tree (W.length + 1) [0] 0 S cl (by simpa using h.pos) (by intro x hx; rw [List.mem_singleton.mp hx]; exact back) r (all r hr)
end
end Sw
/-! SwM2 -/
set_option Elab.async false
set_option linter.all false
set_option maxRecDepth 100000
set_option maxHeartbeats 1000000
/-! all pairings of ends, all even webs by them: plain Lean -/
namespace Sw
section
variable {α : Type}
def pairs : Nat → List α → List (List (α × α))
  | _, [] => [[]]
  | 0, _ :: _ => []
  | k + 1, a :: rest => (pairs k rest).map ((a, a) :: ·) ++ (List.range rest.length).flatMap fun j => (pairs k (rest.eraseIdx j)).map ((a, rest.getD j a) :: ·)
/-- x and y are put together -/
def Tog (p : List (α × α)) (x y : α) : Prop := (x, y) ∈ p ∨ (y, x) ∈ p
def invo : Nat → Nat
  | 0 => 1
  | 1 => 1
  | n + 2 => invo (n + 1) + (n + 1) * invo n
theorem flat_len {β : Type} {f : Nat → List β} {c : Nat} : ∀ {m : Nat}, (∀ j, j < m → (f j).length = c) → ((List.range m).flatMap f).length = m * c
  | 0, _ => by simp
  | m + 1, h => by
    rw [List.range_succ, List.flatMap_append, List.length_append, flat_len (m := m) fun j hj => h j (by omega)]
    have e : ([m].flatMap f).length = c := by simp [h m (by omega)]
    rw [e, Nat.succ_mul]
theorem pairs_len : ∀ (k : Nat) (l : List α), l.length ≤ k → (pairs k l).length = invo l.length
  | k, [], _ => by cases k <;> rfl
  | 0, _ :: _, h => by simp at h
  | k + 1, a :: rest, h => by
    have hr : rest.length ≤ k := by simpa using h
    show ((pairs k rest).map _ ++ (List.range rest.length).flatMap _).length = _
    rw [List.length_append, List.length_map, pairs_len k rest hr, flat_len (c := invo (rest.length - 1)) (fun j hj => by
      have e := List.length_eraseIdx_of_lt hj
      rw [List.length_map, pairs_len k _ (by rw [e]; omega), e])]
    cases rest with
    | nil => rfl
    | cons b t => rfl
theorem split_at : ∀ {l : List α} {j : Nat} (a : α), j < l.length → ∃ A b B, l = A ++ b :: B ∧ l.eraseIdx j = A ++ B ∧ l.getD j a = b ∧ A.length = j
  | [], j, _, h => by simp at h
  | x :: t, 0, _, _ => ⟨[], x, t, rfl, rfl, rfl, rfl⟩
  | x :: t, j + 1, a, h => by
    obtain ⟨A, b, B, h1, h2, h3, h4⟩ := split_at (l := t) (j := j) a (by simpa using h)
    refine ⟨x :: A, b, B, by rw [h1]; rfl, ?_, ?_, by simp [h4]⟩
    · rw [List.eraseIdx_cons_succ, h2]; rfl
    · rw [← h3]; rfl
theorem mem_pairs {k : Nat} {a : α} {rest : List α} {p : List (α × α)} (h : p ∈ pairs (k + 1) (a :: rest)) :
    (∃ q ∈ pairs k rest, p = (a, a) :: q) ∨ ∃ A b B, rest = A ++ b :: B ∧ ∃ q ∈ pairs k (A ++ B), p = (a, b) :: q := by
  rcases List.mem_append.mp (show p ∈ (pairs k rest).map ((a, a) :: ·) ++ (List.range rest.length).flatMap fun j => (pairs k (rest.eraseIdx j)).map ((a, rest.getD j a) :: ·) from h) with h | h
  · obtain ⟨q, hq, e⟩ := List.mem_map.mp h
    exact .inl ⟨q, hq, e.symm⟩
  · obtain ⟨j, hj, h⟩ := List.mem_flatMap.mp h
    obtain ⟨q, hq, e⟩ := List.mem_map.mp h
    obtain ⟨A, b, B, h1, h2, h3, _⟩ := split_at a (List.mem_range.mp hj)
    exact .inr ⟨A, b, B, h1, q, by rw [← h2]; exact hq, by rw [← h3]; exact e.symm⟩
/-- each end stands in just one pair -/
structure Whole (l : List α) (p : List (α × α)) : Prop where
  all : ∀ e ∈ l, ∃ f, Tog p e f
  mem : ∀ x y, Tog p x y → x ∈ l ∧ y ∈ l
  one : ∀ x y z, Tog p x y → Tog p x z → y = z
theorem tog_cons {a b : α} {p : List (α × α)} {x y : α} : Tog ((a, b) :: p) x y ↔ (x = a ∧ y = b) ∨ (x = b ∧ y = a) ∨ Tog p x y := by
  unfold Tog
  rw [List.mem_cons, List.mem_cons, Prod.mk.injEq, Prod.mk.injEq]
  constructor
  · rintro ((h | h) | (h | h))
    · exact .inl h
    · exact .inr (.inr (.inl h))
    · exact .inr (.inl ⟨h.2, h.1⟩)
    · exact .inr (.inr (.inr h))
  · rintro (h | h | h | h)
    · exact .inl (.inl h)
    · exact .inr (.inl ⟨h.2, h.1⟩)
    · exact .inl (.inr h)
    · exact .inr (.inr h)
theorem pairs_whole : ∀ (k : Nat) (l : List α) (p : List (α × α)), l.Nodup → p ∈ pairs k l → Whole l p
  | k, [], p, _, h => by
    have e : p = [] := by cases k <;> exact List.mem_singleton.mp h
    subst e
    exact ⟨fun e he => by simp at he, fun x y h => by simp [Tog] at h, fun x y z h => by simp [Tog] at h⟩
  | 0, _ :: _, p, _, h => by simp [pairs] at h
  | k + 1, a :: rest, p, hn, h => by
    obtain ⟨n1, n2⟩ := List.nodup_cons.mp hn
    rcases mem_pairs h with ⟨q, hq, rfl⟩ | ⟨A, b, B, rfl, q, hq, rfl⟩
    · have ih := pairs_whole k rest q n2 hq
      refine ⟨fun e he => ?_, fun x y hxy => ?_, fun x y z h1 h2 => ?_⟩
      · rcases List.mem_cons.mp he with e1 | he
        · exact ⟨a, tog_cons.mpr (.inl ⟨e1, rfl⟩)⟩
        · obtain ⟨f, hf⟩ := ih.all e he
          exact ⟨f, tog_cons.mpr (.inr (.inr hf))⟩
      · rcases tog_cons.mp hxy with ⟨e1, e2⟩ | ⟨e1, e2⟩ | hxy
        · rw [e1, e2]; exact ⟨List.mem_cons_self, List.mem_cons_self⟩
        · rw [e1, e2]; exact ⟨List.mem_cons_self, List.mem_cons_self⟩
        · exact ⟨List.mem_cons_of_mem _ (ih.mem x y hxy).1, List.mem_cons_of_mem _ (ih.mem x y hxy).2⟩
      · have no : ∀ w, ¬ Tog q a w := fun w hw => n1 (ih.mem a w hw).1
        rcases tog_cons.mp h1 with ⟨e1, e2⟩ | ⟨e1, e2⟩ | h1 <;> rcases tog_cons.mp h2 with ⟨f1, f2⟩ | ⟨f1, f2⟩ | h2
        · rw [e2, f2]
        · rw [e2, f2]
        · rw [e1] at h2; exact (no _ h2).elim
        · rw [e2, f2]
        · rw [e2, f2]
        · rw [e1] at h2; exact (no _ h2).elim
        · rw [f1] at h1; exact (no _ h1).elim
        · rw [f1] at h1; exact (no _ h1).elim
        · exact ih.one x y z h1 h2
    · have nAB : (A ++ B).Nodup ∧ b ∉ A ++ B := by
        rw [List.nodup_append] at n2
        obtain ⟨h1, h2, h3⟩ := n2
        obtain ⟨h4, h5⟩ := List.nodup_cons.mp h2
        refine ⟨List.nodup_append.mpr ⟨h1, h5, fun x hx y hy => h3 x hx y (List.mem_cons_of_mem _ hy)⟩, fun hb => ?_⟩
        rcases List.mem_append.mp hb with hb | hb
        · exact h3 b hb b List.mem_cons_self rfl
        · exact h4 hb
      have ih := pairs_whole k (A ++ B) q nAB.1 hq
      have inn : ∀ x, x ∈ A ++ B → x ∈ A ++ b :: B := fun x hx => by
        rcases List.mem_append.mp hx with hx | hx
        · exact List.mem_append_left _ hx
        · exact List.mem_append_right _ (List.mem_cons_of_mem _ hx)
      have out : ∀ x, x ∈ A ++ b :: B → x = b ∨ x ∈ A ++ B := fun x hx => by
        rcases List.mem_append.mp hx with hx | hx
        · exact .inr (List.mem_append_left _ hx)
        · rcases List.mem_cons.mp hx with e | hx
          · exact .inl e
          · exact .inr (List.mem_append_right _ hx)
      have hb : b ∈ A ++ b :: B := List.mem_append_right _ List.mem_cons_self
      have hab : a ≠ b := fun e => n1 (e ▸ hb)
      have noa : ∀ w, ¬ Tog q a w := fun w hw => n1 (inn _ (ih.mem a w hw).1)
      have nob : ∀ w, ¬ Tog q b w := fun w hw => nAB.2 (ih.mem b w hw).1
      refine ⟨fun e he => ?_, fun x y hxy => ?_, fun x y z h1 h2 => ?_⟩
      · rcases List.mem_cons.mp he with e1 | he
        · exact ⟨b, tog_cons.mpr (.inl ⟨e1, rfl⟩)⟩
        · rcases out e he with e1 | he
          · exact ⟨a, tog_cons.mpr (.inr (.inl ⟨e1, rfl⟩))⟩
          · obtain ⟨f, hf⟩ := ih.all e he
            exact ⟨f, tog_cons.mpr (.inr (.inr hf))⟩
      · rcases tog_cons.mp hxy with ⟨e1, e2⟩ | ⟨e1, e2⟩ | hxy
        · rw [e1, e2]; exact ⟨List.mem_cons_self, List.mem_cons_of_mem _ hb⟩
        · rw [e1, e2]; exact ⟨List.mem_cons_of_mem _ hb, List.mem_cons_self⟩
        · exact ⟨List.mem_cons_of_mem _ (inn _ (ih.mem x y hxy).1), List.mem_cons_of_mem _ (inn _ (ih.mem x y hxy).2)⟩
      · rcases tog_cons.mp h1 with ⟨e1, e2⟩ | ⟨e1, e2⟩ | h1 <;> rcases tog_cons.mp h2 with ⟨f1, f2⟩ | ⟨f1, f2⟩ | h2
        · rw [e2, f2]
        · exact (hab (e1.symm.trans f1)).elim
        · rw [e1] at h2; exact (noa _ h2).elim
        · exact (hab (f1.symm.trans e1)).elim
        · rw [e2, f2]
        · rw [e1] at h2; exact (nob _ h2).elim
        · rw [f1] at h1; exact (noa _ h1).elim
        · rw [f1] at h1; exact (nob _ h1).elim
        · exact ih.one x y z h1 h2
/-- every way to pair is among them -/
theorem pairs_all : ∀ (k : Nat) (l : List α) (f : α → α), l.length ≤ k → l.Nodup → (∀ e ∈ l, f e ∈ l ∧ f (f e) = e) → ∃ p ∈ pairs k l, ∀ x y, (x, y) ∈ p → y = f x ∧ x = f y
  | k, [], f, _, _, _ => ⟨[], by cases k <;> exact List.mem_singleton.mpr rfl, fun x y h => by simp at h⟩
  | 0, _ :: _, _, h, _, _ => by simp at h
  | k + 1, a :: rest, f, hk, hn, hf => by
    obtain ⟨n1, n2⟩ := List.nodup_cons.mp hn
    have hk' : rest.length ≤ k := by simpa using hk
    by_cases e : f a = a
    · obtain ⟨q, hq, hp⟩ := pairs_all k rest f hk' n2 fun x hx => by
        obtain ⟨h1, h2⟩ := hf x (List.mem_cons_of_mem _ hx)
        refine ⟨?_, h2⟩
        rcases List.mem_cons.mp h1 with z | h1
        · exfalso
          rw [z, e] at h2
          exact n1 (h2 ▸ hx)
        · exact h1
      refine ⟨(a, a) :: q, List.mem_append_left _ (List.mem_map.mpr ⟨q, hq, rfl⟩), fun x y h => ?_⟩
      rcases List.mem_cons.mp h with z | h
      · rw [Prod.mk.injEq] at z
        rw [z.1, z.2, e]; exact ⟨rfl, rfl⟩
      · exact hp x y h
    · have hb : f a ∈ rest := by
        rcases List.mem_cons.mp (hf a List.mem_cons_self).1 with z | z
        · exact (e z).elim
        · exact z
      have hba : f (f a) = a := (hf a List.mem_cons_self).2
      obtain ⟨A, B, hAB⟩ := List.append_of_mem hb
      have nAB : (A ++ B).Nodup ∧ f a ∉ A ++ B := by
        rw [hAB, List.nodup_append] at n2
        obtain ⟨h1, h2, h3⟩ := n2
        obtain ⟨h4, h5⟩ := List.nodup_cons.mp h2
        refine ⟨List.nodup_append.mpr ⟨h1, h5, fun x hx y hy => h3 x hx y (List.mem_cons_of_mem _ hy)⟩, fun hb => ?_⟩
        rcases List.mem_append.mp hb with hb | hb
        · exact h3 _ hb _ List.mem_cons_self rfl
        · exact h4 hb
      have inn : ∀ x, x ∈ A ++ B → x ∈ rest := fun x hx => by
        rw [hAB]
        rcases List.mem_append.mp hx with hx | hx
        · exact List.mem_append_left _ hx
        · exact List.mem_append_right _ (List.mem_cons_of_mem _ hx)
      obtain ⟨q, hq, hp⟩ := pairs_all k (A ++ B) f (by have : rest.length = A.length + (B.length + 1) := by rw [hAB]; simp
                                                       rw [List.length_append]; omega) nAB.1 fun x hx => by
        obtain ⟨h1, h2⟩ := hf x (List.mem_cons_of_mem _ (inn x hx))
        refine ⟨?_, h2⟩
        rcases List.mem_cons.mp h1 with z | h1
        · exfalso
          rw [z] at h2
          exact nAB.2 (h2 ▸ hx)
        · rw [hAB] at h1
          rcases List.mem_append.mp h1 with h1 | h1
          · exact List.mem_append_left _ h1
          · rcases List.mem_cons.mp h1 with z | h1
            · exfalso
              have : f (f x) = f (f a) := by rw [z]
              rw [h2, hba] at this
              exact n1 (this ▸ inn x hx)
            · exact List.mem_append_right _ h1
      refine ⟨(a, f a) :: q, List.mem_append_right _ (List.mem_flatMap.mpr ⟨A.length, List.mem_range.mpr (by rw [hAB]; simp), List.mem_map.mpr ⟨q, ?_, ?_⟩⟩), fun x y h => ?_⟩
      · have : rest.eraseIdx A.length = A ++ B := by
          rw [hAB, List.eraseIdx_append_of_length_le (Nat.le_refl _)]
          simp
        rw [this]; exact hq
      · show (a, rest.getD A.length a) :: q = _
        rw [getD_of (x := f a) (by rw [hAB, List.getElem?_append_right (Nat.le_refl _)]; simp)]
      · rcases List.mem_cons.mp h with z | h
        · rw [Prod.mk.injEq] at z
          rw [z.1, z.2, hba]; exact ⟨rfl, rfl⟩
        · exact hp x y h
theorem pairs_short : ∀ (k : Nat) (l : List α) (p : List (α × α)), p ∈ pairs k l → p.length ≤ l.length
  | k, [], p, h => by
    have e : p = [] := by cases k <;> exact List.mem_singleton.mp h
    subst e; simp
  | 0, _ :: _, p, h => by simp [pairs] at h
  | k + 1, a :: rest, p, h => by
    rcases mem_pairs h with ⟨q, hq, rfl⟩ | ⟨A, b, B, rfl, q, hq, rfl⟩
    · have := pairs_short k rest q hq
      simp; omega
    · have := pairs_short k (A ++ B) q hq
      simp at this ⊢; omega
end

/-! ### webs by pairings -/
def allEnds (n d : Nat) : List End := (List.range n).flatMap fun r => (List.range d).map fun i => (r, i)
def webOf (n d : Nat) (g : End → End) : Web := (List.range n).map fun r => (List.range d).map fun i => g (r, i)
/-- the last of a list of pairs -/
def look (Q : List (End × End)) (e : End) : End := ((Q.reverse.find? fun p => decide (p.1 = e)).map (·.2)).getD (0, 0)
def both (p : List (End × End)) : List (End × End) := p ++ p.map fun x => (x.2, x.1)
def evens (n d : Nat) : List Web := ((pairs (n * d) (allEnds n d)).map fun p => webOf n d (look (both p))).filter fun W => decide (told W 0 = W)

theorem mem_allEnds {n d : Nat} {e : End} : e ∈ allEnds n d ↔ e.1 < n ∧ e.2 < d := by
  unfold allEnds
  rw [List.mem_flatMap]
  constructor
  · rintro ⟨r, hr, h⟩
    obtain ⟨i, hi, rfl⟩ := List.mem_map.mp h
    exact ⟨List.mem_range.mp hr, List.mem_range.mp hi⟩
  · rintro ⟨h1, h2⟩
    exact ⟨e.1, List.mem_range.mpr h1, List.mem_map.mpr ⟨e.2, List.mem_range.mpr h2, rfl⟩⟩
theorem allEnds_succ (n d : Nat) : allEnds (n + 1) d = allEnds n d ++ (List.range d).map fun i => (n, i) := by
  unfold allEnds
  rw [List.range_succ, List.flatMap_append]
  simp
theorem allEnds_len (n d : Nat) : (allEnds n d).length = n * d := by
  induction n with
  | zero => simp [allEnds]
  | succ n ih => rw [allEnds_succ, List.length_append, ih, List.length_map, List.length_range, Nat.succ_mul]
theorem allEnds_nodup (n d : Nat) : (allEnds n d).Nodup := by
  induction n with
  | zero => simp [allEnds]
  | succ n ih =>
    rw [allEnds_succ, List.nodup_append]
    refine ⟨ih, ?_, fun x hx y hy e => ?_⟩
    · exact List.pairwise_map.mpr (List.nodup_range.imp fun h e => h (Prod.mk.inj e).2)
    · obtain ⟨i, _, q⟩ := List.mem_map.mp hy
      have := (mem_allEnds.mp hx).1
      rw [e, ← q] at this
      exact absurd this (Nat.lt_irrefl _)
theorem webOf_row {n d r : Nat} {g : End → End} (hr : r < n) : row (webOf n d g) r = (List.range d).map fun i => g (r, i) := by
  unfold row webOf
  refine getD_of ?_
  rw [List.getElem?_map, List.getElem?_range hr]
  rfl
theorem webOf_en {n d r i : Nat} {g : End → End} (hr : r < n) (hi : i < d) : en (webOf n d g) r i = g (r, i) := by
  unfold en
  rw [webOf_row hr]
  refine getD_of ?_
  rw [List.getElem?_map, List.getElem?_range hi]
  rfl
theorem webOf_len {n d : Nat} {g : End → End} : (webOf n d g).length = n := by unfold webOf; simp
theorem webOf_rg {n d : Nat} {g : End → End} (hn : 0 < n) (hg : ∀ r i, r < n → i < d → (g (r, i)).1 < n ∧ (g (r, i)).2 < d) : Rg (webOf n d g) n d :=
  ⟨webOf_len, hn, fun r hr => by rw [webOf_row hr]; simp, fun r i hr hi => by rw [webOf_en hr hi]; exact hg r i hr hi⟩
theorem mem_both {p : List (End × End)} {x y : End} : (x, y) ∈ both p ↔ Tog p x y := by
  unfold both Tog
  rw [List.mem_append, List.mem_map]
  constructor
  · rintro (h | ⟨z, hz, e⟩)
    · exact .inl h
    · obtain ⟨z1, z2⟩ := z
      rw [Prod.mk.injEq] at e
      obtain ⟨rfl, rfl⟩ := e
      exact .inr hz
  · rintro (h | h)
    · exact .inl h
    · exact .inr ⟨(y, x), h, rfl⟩
theorem look_mem {Q : List (End × End)} {e : End} (h : ∃ f, (e, f) ∈ Q) : (e, look Q e) ∈ Q := by
  obtain ⟨f, hf⟩ := h
  unfold look
  cases q : Q.reverse.find? fun p => decide (p.1 = e) with
  | none =>
    have := List.find?_eq_none.mp q (e, f) (List.mem_reverse.mpr hf)
    simp at this
  | some p =>
    have h1 := List.mem_reverse.mp (List.mem_of_find?_eq_some q)
    have h2 : p.1 = e := by simpa using List.find?_some q
    show (e, p.2) ∈ Q
    rw [← h2]; exact h1
theorem look_of {n d : Nat} {p : List (End × End)} (h : Whole (allEnds n d) p) {e f : End} (t : Tog p e f) : look (both p) e = f :=
  h.one e _ _ (mem_both.mp (look_mem ⟨f, mem_both.mpr t⟩)) t
section
variable {n d : Nat}
theorem pair_rg (hn : 0 < n) {p : List (End × End)} (hp : p ∈ pairs (n * d) (allEnds n d)) : Rg (webOf n d (look (both p))) n d ∧
    ∀ r i, r < n → i < d → en (webOf n d (look (both p))) (en (webOf n d (look (both p))) r i).1 (en (webOf n d (look (both p))) r i).2 = (r, i) := by
  have w := pairs_whole _ _ p (allEnds_nodup n d) hp
  have at_ : ∀ r i, r < n → i < d → Tog p (r, i) (look (both p) (r, i)) := fun r i hr hi => by
    obtain ⟨f, hf⟩ := w.all (r, i) (mem_allEnds.mpr ⟨hr, hi⟩)
    rw [look_of w hf]; exact hf
  have g : ∀ r i, r < n → i < d → (look (both p) (r, i)).1 < n ∧ (look (both p) (r, i)).2 < d := fun r i hr hi => mem_allEnds.mp (w.mem _ _ (at_ r i hr hi)).2
  refine ⟨webOf_rg hn g, fun r i hr hi => ?_⟩
  rw [webOf_en hr hi, webOf_en (g r i hr hi).1 (g r i hr hi).2]
  exact look_of w (Or.symm (at_ r i hr hi))
theorem evens_ev (hn : 0 < n) {W : Web} (h : W ∈ evens n d) : Ev W n d ∧ told W 0 = W := by
  obtain ⟨h1, h2⟩ := List.mem_filter.mp h
  obtain ⟨p, hp, rfl⟩ := List.mem_map.mp h1
  have e : told (webOf n d (look (both p))) 0 = webOf n d (look (both p)) := of_decide_eq_true h2
  obtain ⟨k1, k2⟩ := pair_rg hn hp
  exact ⟨k1.conn_of_told k2 e, e⟩
theorem ev_evens {W : Web} (h : Ev W n d) (e : told W 0 = W) : W ∈ evens n d := by
  obtain ⟨p, hp, hf⟩ := pairs_all (n * d) (allEnds n d) (fun x => en W x.1 x.2) (by rw [allEnds_len]; exact Nat.le_refl _) (allEnds_nodup n d) fun x hx => by
    obtain ⟨h1, h2⟩ := mem_allEnds.mp hx
    exact ⟨mem_allEnds.mpr (h.rng _ _ h1 h2), h.sym _ _ h1 h2⟩
  have w := pairs_whole _ _ p (allEnds_nodup n d) hp
  have q : webOf n d (look (both p)) = W := by
    refine (pair_rg h.pos hp).1.ext h.toRg fun r i hr hi => ?_
    rw [webOf_en hr hi]
    obtain ⟨f, ht⟩ := w.all (r, i) (mem_allEnds.mpr ⟨hr, hi⟩)
    rw [look_of w ht]
    rcases ht with ht | ht
    · exact (hf _ _ ht).1
    · exact (hf _ _ ht).2
  refine List.mem_filter.mpr ⟨List.mem_map.mpr ⟨p, hp, q⟩, decide_eq_true e⟩
theorem invo_le : ∀ m, m ≤ 9 → invo m ≤ 2620 := by decide
end
end Sw
/-! SwM3 -/
set_option Elab.async false
set_option linter.all false
set_option maxRecDepth 100000
set_option maxHeartbeats 1000000
/-! ways half gone in webs half known: plain Lean -/
namespace Sw
/-! ### ends that lead somewhere -/
abbrev Ld := List (End × End)
def lk (m : Ld) (k : End) : Option End := (m.find? fun p => decide (p.1 = k)).map (·.2)
def put (m : Ld) (k v : End) : Ld := if (m.any fun p => decide (p.1 = k)) = true then m.map (fun p => if p.1 = k then (p.1, v) else p) else m ++ [(k, v)]
def tie (m : Ld) (e x : End) : Ld := put (put m e x) x e
theorem lk_nil (k : End) : lk [] k = none := rfl
theorem lk_pos {p : End × End} {r : Ld} {k : End} (e : p.1 = k) : lk (p :: r) k = some p.2 := by simp [lk, e]
theorem lk_neg {p : End × End} {r : Ld} {k : End} (e : ¬ p.1 = k) : lk (p :: r) k = lk r k := by simp [lk, e]
theorem lk_any (k : End) : ∀ m : Ld, (m.any fun p => decide (p.1 = k)) = (lk m k).isSome
  | [] => rfl
  | p :: r => by
    rw [List.any_cons]
    by_cases e : p.1 = k
    · rw [lk_pos e, decide_eq_true e]; rfl
    · rw [lk_neg e, decide_eq_false e, Bool.false_or, lk_any k r]
theorem lk_map (k j v : End) : ∀ m : Ld, lk (m.map fun p => if p.1 = k then (p.1, v) else p) j = (lk m j).map fun x => if j = k then v else x
  | [] => rfl
  | p :: r => by
    rw [List.map_cons]
    by_cases h : p.1 = k
    · rw [if_pos h]
      by_cases e : p.1 = j
      · rw [lk_pos (p := (p.1, v)) e, lk_pos e, Option.map_some, if_pos (e.symm.trans h)]
      · rw [lk_neg (p := (p.1, v)) e, lk_neg e, lk_map k j v r]
    · rw [if_neg h]
      by_cases e : p.1 = j
      · rw [lk_pos e, lk_pos e, Option.map_some, if_neg fun z => h (e.trans z)]
      · rw [lk_neg e, lk_neg e, lk_map k j v r]
theorem lk_snoc (k j v : End) : ∀ m : Ld, lk m k = none → lk (m ++ [(k, v)]) j = if j = k then some v else lk m j
  | [], _ => by
    by_cases e : k = j
    · rw [if_pos e.symm, List.nil_append, lk_pos (p := (k, v)) e]
    · rw [if_neg fun z => e z.symm, List.nil_append, lk_neg (p := (k, v)) e]
  | p :: r, hn => by
    rw [List.cons_append]
    have hk : ¬ p.1 = k := fun z => by rw [lk_pos z] at hn; cases hn
    rw [lk_neg hk] at hn
    by_cases e : p.1 = j
    · rw [lk_pos e, lk_pos e, if_neg fun z => hk (e.trans z)]
    · rw [lk_neg e, lk_neg e, lk_snoc k j v r hn]
theorem lk_put (m : Ld) (k j v : End) : lk (put m k v) j = if j = k then some v else lk m j := by
  unfold put
  rw [lk_any]
  cases h : lk m k with
  | none => rw [if_neg (by simp), lk_snoc k j v m h]
  | some x =>
    rw [if_pos (by simp), lk_map]
    by_cases e : j = k
    · rw [if_pos e, e, h]; simp
    · rw [if_neg e]
      cases lk m j with
      | none => rfl
      | some y => rw [Option.map_some, if_neg e]
theorem lk_tie (m : Ld) (e x j : End) : lk (tie m e x) j = if j = x then some e else if j = e then some x else lk m j := by
  unfold tie
  rw [lk_put, lk_put]
theorem keys_put (m : Ld) (k v : End) (h : (m.map (·.1)).Nodup) : ((put m k v).map (·.1)).Nodup ∧ ∀ j, j ∈ (put m k v).map (·.1) ↔ j = k ∨ j ∈ m.map (·.1) := by
  unfold put
  rw [lk_any]
  have mem : ∀ j, (lk m j).isSome = true ↔ j ∈ m.map (·.1) := fun j => by
    rw [← lk_any, List.any_eq_true]
    constructor
    · rintro ⟨p, hp, e⟩
      exact List.mem_map.mpr ⟨p, hp, of_decide_eq_true e⟩
    · intro q
      obtain ⟨p, hp, e⟩ := List.mem_map.mp q
      exact ⟨p, hp, decide_eq_true e⟩
  by_cases hk : (lk m k).isSome = true
  · rw [if_pos hk]
    have e : (m.map fun p => if p.1 = k then (p.1, v) else p).map (·.1) = m.map (·.1) := by
      rw [List.map_map]
      refine List.map_congr_left fun p _ => ?_
      show (if p.1 = k then (p.1, v) else p).1 = p.1
      by_cases z : p.1 = k
      · rw [if_pos z]
      · rw [if_neg z]
    rw [e]
    exact ⟨h, fun j => ⟨.inr, fun q => q.elim (fun z => z ▸ (mem k).mp hk) id⟩⟩
  · rw [if_neg hk, List.map_append]
    refine ⟨?_, fun j => ?_⟩
    · rw [List.nodup_append]
      refine ⟨h, by simp, fun x hx y hy e => hk ?_⟩
      have e2 : y = k := by simpa using hy
      exact (mem k).mpr (by rw [← e2, ← e]; exact hx)
    · rw [List.mem_append]
      constructor
      · rintro (q | q)
        · exact .inr q
        · exact .inl (by simpa using q)
      · rintro (q | q)
        · exact .inr (by simpa using q)
        · exact .inl q
theorem lk_keys {m : Ld} {j : End} : (lk m j).isSome = true ↔ j ∈ m.map (·.1) := by
  rw [← lk_any, List.any_eq_true]
  constructor
  · rintro ⟨p, hp, e⟩
    exact List.mem_map.mpr ⟨p, hp, of_decide_eq_true e⟩
  · intro q
    obtain ⟨p, hp, e⟩ := List.mem_map.mp q
    exact ⟨p, hp, decide_eq_true e⟩
theorem keys_tie (m : Ld) (e x : End) (h : (m.map (·.1)).Nodup) : ((tie m e x).map (·.1)).Nodup := by
  unfold tie
  exact (keys_put _ x e (keys_put m e x h).1).1

/-! ### how many ends are free -/
def free (n d : Nat) (m : Ld) : Nat := (allEnds n d).countP fun e => (lk m e).isNone
theorem countP_lt {α : Type} {p q : α → Bool} {a : α} : ∀ {l : List α}, (∀ x ∈ l, p x = true → q x = true) → a ∈ l → q a = true → p a = false → l.countP p < l.countP q
  | [], _, h, _, _ => by simp at h
  | b :: t, h, ha, h1, h2 => by
    have hm : t.countP p ≤ t.countP q := List.countP_mono_left fun x hx => h x (List.mem_cons_of_mem _ hx)
    rw [List.countP_cons, List.countP_cons]
    by_cases e : a = b
    · rw [← e, h1, h2]
      simp only [Bool.false_eq_true, if_false, if_true]
      omega
    · have ht : a ∈ t := (List.mem_cons.mp ha).resolve_left e
      have ih := countP_lt (l := t) (fun x hx => h x (List.mem_cons_of_mem _ hx)) ht h1 h2
      have hb := h b List.mem_cons_self
      by_cases z : p b = true
      · rw [if_pos z, if_pos (hb z)]; omega
      · rw [if_neg z]; split <;> omega
theorem free_tie {n d : Nat} {m : Ld} {e x : End} (h1 : e ∈ allEnds n d) (h2 : lk m e = none) : free n d (tie m e x) < free n d m := by
  refine countP_lt (a := e) (fun y _ hy => ?_) h1 (by rw [h2]; rfl) ?_
  · rw [lk_tie] at hy
    by_cases a : y = x
    · rw [if_pos a] at hy; cases hy
    · rw [if_neg a] at hy
      by_cases b : y = e
      · rw [if_pos b] at hy; cases hy
      · rw [if_neg b] at hy; exact hy
  · rw [lk_tie]
    by_cases a : e = x
    · rw [if_pos a]; rfl
    · rw [if_neg a, if_pos rfl]; rfl
theorem free_le {n d : Nat} {m : Ld} : free n d m ≤ n * d := by
  unfold free
  rw [← allEnds_len n d]
  exact List.countP_le_length
/-- a trace's weight, by the free ends -/
def wgt : Nat → Nat
  | 0 => 1
  | n + 1 => 1 + (n + 1) * wgt n
theorem wgt_pos (k : Nat) : 1 ≤ wgt k := by cases k <;> simp [wgt]
theorem wgt_succ (k : Nat) : wgt k ≤ wgt (k + 1) := by
  show wgt k ≤ 1 + (k + 1) * wgt k
  have : 1 * wgt k ≤ (k + 1) * wgt k := Nat.mul_le_mul_right _ (by omega)
  omega
theorem wgt_mono {j k : Nat} (h : j ≤ k) : wgt j ≤ wgt k := by
  induction h with
  | refl => exact Nat.le_refl _
  | step _ ih => exact Nat.le_trans ih (wgt_succ _)
theorem wgt_le {k : Nat} (h : k ≤ 9) : wgt k ≤ 986410 := Nat.le_trans (wgt_mono h) (by decide)

/-! ### ways by known ends -/
def goM (m : Ld) : Nat → List Nat → Option Nat
  | r, [] => some r
  | r, i :: w => match lk m (r, i) with
    | none => none
    | some f => goM m f.1 w
def Le (m m' : Ld) : Prop := ∀ e f, lk m e = some f → lk m' e = some f
theorem goM_le {m m' : Ld} (h : Le m m') : ∀ {w : List Nat} {r x : Nat}, goM m r w = some x → goM m' r w = some x
  | [], _, _, q => q
  | i :: w, r, x, q => by
    unfold goM at q ⊢
    cases e : lk m (r, i) with
    | none => rw [e] at q; cases q
    | some f =>
      rw [e] at q
      rw [h _ _ e]
      exact goM_le h (w := w) q
theorem goM_app {m : Ld} : ∀ {v w : List Nat} {r x : Nat}, goM m r v = some x → goM m r (v ++ w) = goM m x w
  | [], _, _, _, q => by
    have e := Option.some.inj q
    rw [e]; rfl
  | i :: v, w, r, x, q => by
    unfold goM at q
    cases e : lk m (r, i) with
    | none => rw [e] at q; cases q
    | some f =>
      rw [e] at q
      show (match lk m (r, i) with
        | none => none
        | some f => goM m f.1 (v ++ w)) = _
      rw [e]
      exact goM_app (v := v) q
theorem le_tie {m : Ld} {e x : End} (h1 : lk m e = none) (h2 : lk m x = none) : Le m (tie m e x) := fun k f hk => by
  rw [lk_tie]
  by_cases a : k = x
  · rw [a, h2] at hk; cases hk
  · rw [if_neg a]
    by_cases b : k = e
    · rw [b, h1] at hk; cases hk
    · rw [if_neg b]; exact hk

/-! ### traces -/
structure Tr where
  m : Ld
  room : Nat
  at_ : Nat
  come : Nat
structure TrOk (n d : Nat) (way : List Nat) (t : Tr) : Prop where
  c1 : 1 ≤ t.come
  cn : t.come ≤ n
  nd : (t.m.map (·.1)).Nodup
  rng : ∀ e f, lk t.m e = some f → e.1 < t.come ∧ e.2 < d
  sym : ∀ e f, lk t.m e = some f → lk t.m f = some e
  room : t.room < t.come
  at_ : t.at_ ≤ way.length
  tree : ∀ r, 0 < r → r < t.come → ∃ i r' i', r' < r ∧ lk t.m (r, i) = some (r', i')
  path : goM t.m 0 (way.take t.at_) = some t.room
  seen : ∀ r, r < t.come → ∃ k, k ≤ way.length ∧ goM t.m 0 (way.take k) = some r
def tr0 : Tr := ⟨[], 0, 0, 1⟩
theorem tr0_ok {n d : Nat} (hn : 1 ≤ n) (way : List Nat) : TrOk n d way tr0 := by
  refine ⟨Nat.le_refl _, hn, List.nodup_nil, fun e f h => ?_, fun e f h => ?_, Nat.one_pos, Nat.zero_le _, fun r h1 h2 => ?_, rfl, fun r h => ⟨0, Nat.zero_le _, ?_⟩⟩
  · cases h
  · cases h
  · have h2 : r < 1 := h2
    omega
  · have h : r < 1 := h
    have e : r = 0 := by omega
    rw [e]; rfl
/-- one door on by a known end -/
def Tr.on (t : Tr) (f : End) : Tr := ⟨t.m, f.1, t.at_ + 1, t.come⟩
theorem take_snoc {w : List Nat} {k i : Nat} (h : w[k]? = some i) : w.take (k + 1) = w.take k ++ [i] := by
  rw [List.take_add_one, h]; rfl
section
variable {n d : Nat} {way : List Nat} {t : Tr}
theorem TrOk.rng2 (h : TrOk n d way t) {e f : End} (q : lk t.m e = some f) : f.1 < t.come ∧ f.2 < d := h.rng f e (h.sym e f q)
theorem TrOk.go (h : TrOk n d way t) {i : Nat} {f : End} (hi : way[t.at_]? = some i) (hf : lk t.m (t.room, i) = some f) : TrOk n d way (t.on f) :=
  ⟨h.c1, h.cn, h.nd, h.rng, h.sym, (h.rng2 hf).1, (List.getElem?_eq_some_iff.mp hi).1, h.tree, by
    show goM t.m 0 (way.take (t.at_ + 1)) = some f.1
    rw [take_snoc hi, goM_app h.path]
    unfold goM
    rw [hf]; rfl, h.seen⟩
/-- the traces behind a free end -/
def kid (t : Tr) (i : Nat) (x : End) : Tr := ⟨tie t.m (t.room, i) x, t.room, t.at_, max t.come (x.1 + 1)⟩
def spots (t : Tr) (d : Nat) : List End := (allEnds (t.come + 1) d).filter fun x => (lk t.m x).isNone
theorem mem_spots {x : End} : x ∈ spots t d ↔ x.1 < t.come + 1 ∧ x.2 < d ∧ lk t.m x = none := by
  unfold spots
  rw [List.mem_filter, mem_allEnds, and_assoc]
  constructor
  · rintro ⟨a, b, c⟩
    exact ⟨a, b, Option.isNone_iff_eq_none.mp c⟩
  · rintro ⟨a, b, c⟩
    exact ⟨a, b, by rw [c]; rfl⟩
theorem TrOk.kid (h : TrOk n d way t) (hc : t.come < n) {i : Nat} (hi : way[t.at_]? = some i) (hid : i < d) (hf : lk t.m (t.room, i) = none) {x : End} (hx : x ∈ spots t d) : TrOk n d way (kid t i x) := by
  obtain ⟨x1, x2, x3⟩ := mem_spots.mp hx
  have le := le_tie hf x3
  have ec : max t.come (x.1 + 1) ≤ t.come + 1 := by omega
  have lx : lk (tie t.m (t.room, i) x) x = some (t.room, i) := by rw [lk_tie, if_pos rfl]
  have le' : lk (tie t.m (t.room, i) x) (t.room, i) = some x := by
    rw [lk_tie]
    by_cases a : (t.room, i) = x
    · rw [if_pos a, a]
    · rw [if_neg a, if_pos rfl]
  have hr := h.room
  refine ⟨by have := h.c1; show 1 ≤ max t.come (x.1 + 1); omega, by show max t.come (x.1 + 1) ≤ n; omega, keys_tie _ _ _ h.nd, fun e f q => ?_, fun e f q => ?_, by show t.room < max t.come (x.1 + 1); omega, h.at_, fun r r0 r1 => ?_, goM_le le h.path, fun r r1 => ?_⟩
  · show e.1 < max t.come (x.1 + 1) ∧ e.2 < d
    have q : lk (tie t.m (t.room, i) x) e = some f := q
    rw [lk_tie] at q
    by_cases a : e = x
    · rw [a]; omega
    · rw [if_neg a] at q
      by_cases b : e = (t.room, i)
      · rw [b]
        show t.room < max t.come (x.1 + 1) ∧ i < d
        omega
      · rw [if_neg b] at q
        have := h.rng e f q
        omega
  · have q : lk (tie t.m (t.room, i) x) e = some f := q
    show lk (tie t.m (t.room, i) x) f = some e
    rw [lk_tie] at q
    by_cases a : e = x
    · rw [if_pos a] at q
      rw [← Option.some.inj q, le', a]
    · rw [if_neg a] at q
      by_cases b : e = (t.room, i)
      · rw [if_pos b] at q
        rw [← Option.some.inj q, lx, b]
      · rw [if_neg b] at q
        exact le _ _ (h.sym e f q)
  · have r1 : r < max t.come (x.1 + 1) := r1
    by_cases a : r < t.come
    · obtain ⟨j, r', j', z1, z2⟩ := h.tree r r0 a
      exact ⟨j, r', j', z1, le _ _ z2⟩
    · have e : r = x.1 := by omega
      exact ⟨x.2, t.room, i, by omega, by rw [e]; exact lx⟩
  · have r1 : r < max t.come (x.1 + 1) := r1
    by_cases a : r < t.come
    · obtain ⟨k, z1, z2⟩ := h.seen r a
      exact ⟨k, z1, goM_le le z2⟩
    · have e : r = x.1 := by omega
      refine ⟨t.at_ + 1, (List.getElem?_eq_some_iff.mp hi).1, ?_⟩
      show goM (tie t.m (t.room, i) x) 0 (way.take (t.at_ + 1)) = some r
      rw [take_snoc hi, goM_app (goM_le le h.path)]
      unfold goM
      rw [le', e]; rfl
/-- all kids together weigh less -/
theorem kids_wgt (hc : t.come < n) (hr : t.room < t.come) {i : Nat} (hid : i < d) (hf : lk t.m (t.room, i) = none) :
    ((spots t d).map fun x => wgt (free n d (kid t i x).m)).sum < wgt (free n d t.m) := by
  have he : (t.room, i) ∈ allEnds n d := mem_allEnds.mpr ⟨by show t.room < n; omega, hid⟩
  have hl : (spots t d).length ≤ free n d t.m := by
    unfold spots free
    rw [← List.countP_eq_length_filter]
    refine List.Sublist.countP_le ?_
    have z : ∀ k, (allEnds (t.come + 1) d).Sublist (allEnds (t.come + 1 + k) d) := fun k => by
      induction k with
      | zero => exact List.Sublist.refl _
      | succ k ih =>
        have e := allEnds_succ (t.come + 1 + k) d
        rw [show t.come + 1 + (k + 1) = t.come + 1 + k + 1 by omega, e]
        exact ih.trans (List.sublist_append_left _ _)
    have := z (n - (t.come + 1))
    rwa [show t.come + 1 + (n - (t.come + 1)) = n by omega] at this
  have hb : ∀ x ∈ spots t d, free n d (kid t i x).m < free n d t.m := fun x _ => free_tie he hf
  cases hk : free n d t.m with
  | zero =>
    rw [hk] at hl
    have e : spots t d = [] := List.length_eq_zero_iff.mp (by omega)
    rw [e]
    exact Nat.one_pos
  | succ k =>
    rw [hk] at hl hb
    have s : ∀ l : List End, (∀ x ∈ l, x ∈ spots t d) → (l.map fun x => wgt (free n d (Sw.kid t i x).m)).sum ≤ l.length * wgt k := by
      intro l
      induction l with
      | nil => intro _; simp
      | cons a r ih =>
        intro hs
        rw [List.map_cons, List.sum_cons, List.length_cons, Nat.succ_mul]
        have h1 := ih fun x hx => hs x (List.mem_cons_of_mem _ hx)
        have h2 := wgt_mono (Nat.le_of_lt_succ (hb a (hs a List.mem_cons_self)))
        omega
    have h1 := s (spots t d) fun _ h => h
    have h2 : (spots t d).length * wgt k ≤ (k + 1) * wgt k := Nat.mul_le_mul_right _ hl
    show _ < 1 + (k + 1) * wgt k
    omega

/-! ### a trace stands in a web -/
structure Emb (t : Tr) (W : Web) (N : Nat) (r0 : Nat) (φ : Nat → Nat) : Prop where
  zero : φ 0 = r0
  inj : ∀ r s, r < t.come → s < t.come → φ r = φ s → r = s
  lt : ∀ r, r < t.come → φ r < N
  hom : ∀ e f, lk t.m e = some f → en W (φ e.1) e.2 = (φ f.1, f.2)
theorem Emb.walk {W : Web} {N r0 : Nat} {φ : Nat → Nat} (E : Emb t W N r0 φ) : ∀ {w : List Nat} {r x : Nat}, goM t.m r w = some x → walk W (φ r) w = φ x
  | [], _, _, q => by rw [Option.some.inj q]; rfl
  | i :: w, r, x, q => by
    unfold goM at q
    cases e : lk t.m (r, i) with
    | none => rw [e] at q; cases q
    | some f =>
      rw [e] at q
      show Sw.walk W (step W (φ r) i) w = φ x
      have z : step W (φ r) i = φ f.1 := by
        unfold step
        rw [E.hom _ _ e]
      rw [z]
      exact E.walk (w := w) q
theorem Emb.see {W : Web} {N r0 : Nat} {φ : Nat → Nat} (E : Emb t W N r0 φ) (h : TrOk n d way t) {r : Nat} (hr : r < t.come) : φ r ∈ vis W r0 way := by
  obtain ⟨k, hk, q⟩ := h.seen r hr
  refine vis_iff.mpr ⟨k, hk, ?_⟩
  rw [← E.zero]
  exact E.walk q
/-- so many rooms are known as there are -/
theorem Emb.full {W : Web} {N r0 : Nat} {φ : Nat → Nat} (E : Emb t W N r0 φ) (h : TrOk n d way t) (hW : W.length = N) (hN : N ≤ n) (hc : t.come = n) : Sees W r0 way := by
  have nd : ((List.range n).map φ).Nodup := by
    refine List.pairwise_map.mpr (List.Pairwise.imp_of_mem (R := fun a b => a ≠ b) (fun {a b} ha hb hne e => hne ?_) List.nodup_range)
    exact E.inj a b (by rw [hc]; exact List.mem_range.mp ha) (by rw [hc]; exact List.mem_range.mp hb) e
  have lt : ∀ x ∈ (List.range n).map φ, x < N := fun x hx => by
    obtain ⟨r, hr, e⟩ := List.mem_map.mp hx
    rw [← e]; exact E.lt r (by rw [hc]; exact List.mem_range.mp hr)
  have l1 := nodup_lt_len nd lt
  rw [List.length_map, List.length_range] at l1
  have eN : N = n := by omega
  intro s hs
  rw [hW] at hs
  obtain ⟨r, hr, e⟩ := List.mem_map.mp (nodup_full nd lt (by rw [List.length_map, List.length_range]; exact eN.symm) s hs)
  rw [← e]
  exact E.see h (by rw [hc]; exact List.mem_range.mp hr)
/-- all ends of the known rooms are known -/
theorem Emb.shut {W : Web} {N r0 : Nat} {φ : Nat → Nat} (E : Emb t W N r0 φ) (h : TrOk n d way t) (hW : Ev W N d) (hr0 : r0 < N) (hs : ∀ r i, r < t.come → i < d → (lk t.m (r, i)).isSome = true) : Sees W r0 way := by
  have := hW.conn (fun x => ∃ r, r < t.come ∧ φ r = x) r0 hr0 ⟨0, h.c1, E.zero⟩ fun x i _ hi ⟨r, hr, e⟩ => by
    obtain ⟨f, hf⟩ := Option.isSome_iff_exists.mp (hs r i hr hi)
    refine ⟨f.1, (h.rng2 hf).1, ?_⟩
    unfold step
    rw [← e, E.hom _ _ hf]
  intro s hs'
  rw [hW.len] at hs'
  obtain ⟨r, hr, e⟩ := this s hs'
  rw [← e]
  exact E.see h hr
/-- behind a free end the web goes on as one of the kids does -/
theorem Emb.kid {W : Web} {N r0 : Nat} {φ : Nat → Nat} (E : Emb t W N r0 φ) (h : TrOk n d way t) (hW : Ev W N d) (hN : N ≤ n) {i : Nat} (hid : i < d) (hf : lk t.m (t.room, i) = none) :
    ∃ x ∈ spots t d, ∃ ψ, Emb (kid t i x) W N r0 ψ := by
  have hr := h.room
  have hR : φ t.room < N := E.lt _ hr
  have hb := hW.rng (φ t.room) i hR hid
  have hs := hW.sym (φ t.room) i hR hid
  generalize hy : en W (φ t.room) i = y at hb hs
  by_cases q : ∃ s, s < t.come ∧ φ s = y.1
  · obtain ⟨s, hs1, hs2⟩ := q
    have fr : lk t.m (s, y.2) = none := by
      cases z : lk t.m (s, y.2) with
      | none => rfl
      | some f =>
        exfalso
        have e1 := E.hom _ _ z
        have e2 : en W (φ s) y.2 = (φ t.room, i) := by rw [hs2]; exact hs
        have e3 : (φ f.1, f.2) = (φ t.room, i) := e1.symm.trans e2
        rw [Prod.mk.injEq] at e3
        have e4 : f = (t.room, i) := Prod.ext (E.inj _ _ (h.rng2 z).1 hr e3.1) e3.2
        have e5 := h.sym _ _ z
        rw [e4, hf] at e5
        cases e5
    have ec : max t.come (s + 1) = t.come := by omega
    refine ⟨(s, y.2), mem_spots.mpr ⟨by show s < t.come + 1; omega, hb.2, fr⟩, φ, E.zero, fun a b ha hb' e => E.inj a b (by rw [← ec]; exact ha) (by rw [← ec]; exact hb') e, fun a ha => E.lt a (by rw [← ec]; exact ha), fun e f z => ?_⟩
    have z : lk (tie t.m (t.room, i) (s, y.2)) e = some f := z
    rw [lk_tie] at z
    by_cases a : e = (s, y.2)
    · rw [if_pos a] at z
      rw [← Option.some.inj z, a]
      show en W (φ s) y.2 = (φ t.room, i)
      rw [hs2]; exact hs
    · rw [if_neg a] at z
      by_cases b : e = (t.room, i)
      · rw [if_pos b] at z
        rw [← Option.some.inj z, b]
        show en W (φ t.room) i = (φ s, y.2)
        rw [hy, hs2]
      · rw [if_neg b] at z
        exact E.hom _ _ z
  · have q' : ∀ s, s < t.come → φ s ≠ y.1 := fun s hs e => q ⟨s, hs, e⟩
    have fr : lk t.m (t.come, y.2) = none := by
      cases z : lk t.m (t.come, y.2) with
      | none => rfl
      | some f => exact absurd (h.rng _ _ z).1 (Nat.lt_irrefl _)
    have ec : max t.come (t.come + 1) = t.come + 1 := by omega
    have ψe : ∀ s, s < t.come → (if s = t.come then y.1 else φ s) = φ s := fun s hs => if_neg (by omega)
    refine ⟨(t.come, y.2), mem_spots.mpr ⟨by show t.come < t.come + 1; omega, hb.2, fr⟩, fun s => if s = t.come then y.1 else φ s, ?_, fun a b ha hb' e => ?_, fun a ha => ?_, fun e f z => ?_⟩
    · show (if 0 = t.come then y.1 else φ 0) = r0
      rw [ψe 0 h.c1]; exact E.zero
    · have ha : a < max t.come (t.come + 1) := ha
      have hb' : b < max t.come (t.come + 1) := hb'
      have e : (if a = t.come then y.1 else φ a) = (if b = t.come then y.1 else φ b) := e
      by_cases ca : a = t.come <;> by_cases cb : b = t.come
      · omega
      · rw [if_pos ca, if_neg cb] at e
        exact (q' b (by omega) e.symm).elim
      · rw [if_neg ca, if_pos cb] at e
        exact (q' a (by omega) e).elim
      · rw [if_neg ca, if_neg cb] at e
        exact E.inj a b (by omega) (by omega) e
    · have ha : a < max t.come (t.come + 1) := ha
      show (if a = t.come then y.1 else φ a) < N
      by_cases ca : a = t.come
      · rw [if_pos ca]; exact hb.1
      · rw [if_neg ca]; exact E.lt a (by omega)
    · have z : lk (tie t.m (t.room, i) (t.come, y.2)) e = some f := z
      show en W (if e.1 = t.come then y.1 else φ e.1) e.2 = (if f.1 = t.come then y.1 else φ f.1, f.2)
      rw [lk_tie] at z
      by_cases a : e = (t.come, y.2)
      · rw [if_pos a] at z
        rw [← Option.some.inj z, a]
        show en W (if t.come = t.come then y.1 else φ t.come) y.2 = (if t.room = t.come then y.1 else φ t.room, i)
        rw [if_pos rfl, ψe _ hr]; exact hs
      · rw [if_neg a] at z
        by_cases b : e = (t.room, i)
        · rw [if_pos b] at z
          rw [← Option.some.inj z, b]
          show en W (if t.room = t.come then y.1 else φ t.room) i = (if t.come = t.come then y.1 else φ t.come, y.2)
          rw [if_pos rfl, ψe _ hr]; exact hy
        · rw [if_neg b] at z
          rw [ψe _ (h.rng _ _ z).1, ψe _ (h.rng2 z).1]
          exact E.hom _ _ z
end
theorem emb0 {W : Web} {N d r0 : Nat} (hW : Ev W N d) (hr : r0 < N) : Emb tr0 W N r0 fun _ => r0 :=
  ⟨rfl, fun r s hr hs _ => by have h1 : r < 1 := hr; have h2 : s < 1 := hs; omega, fun _ _ => hr, fun e f z => by cases z⟩

/-! ### a web closed behind the known rooms -/
/-- each room but the first has a door to an earlier one: one comes everywhere -/
theorem Rg.conn_tree {W : Web} {n d : Nat} (h : Rg W n d) (hs : ∀ r i, r < n → i < d → en W (en W r i).1 (en W r i).2 = (r, i)) (tree : ∀ r, 0 < r → r < n → ∃ i, i < d ∧ step W r i < r) : Ev W n d := by
  refine ⟨h, hs, fun S r0 hr0 h0 cl r hr => ?_⟩
  have down : ∀ k r, r ≤ k → r < n → S r → S 0 := by
    intro k
    induction k with
    | zero => intro r hk _ hS; have e : r = 0 := by omega
              rw [e] at hS; exact hS
    | succ k ih =>
      intro r hk hr hS
      by_cases z : r = 0
      · rw [z] at hS; exact hS
      · obtain ⟨i, hi, hl⟩ := tree r (by omega) hr
        exact ih _ (by omega) (h.step_lt hr hi) (cl r i hr hi hS)
  have z : S 0 := down r0 r0 (Nat.le_refl _) hr0 h0
  have up : ∀ k r, r ≤ k → r < n → S r := by
    intro k
    induction k with
    | zero => intro r hk _; have e : r = 0 := by omega
              rw [e]; exact z
    | succ k ih =>
      intro r hk hr
      by_cases q : r = 0
      · rw [q]; exact z
      · obtain ⟨i, hi, hl⟩ := tree r (by omega) hr
        have hb := h.rng r i hr hi
        have := cl (step W r i) (en W r i).2 hb.1 hb.2 (ih _ (by omega) hb.1)
        unfold step at this
        rw [hs r i hr hi] at this
        exact this
  exact up r r (Nat.le_refl _) hr
def webM (n d : Nat) (m : Ld) : Web := webOf n d fun e => (lk m e).getD (0, 0)
/-- ends of n rooms, each known, that lead to one another -/
structure Shut (n d : Nat) (m : Ld) : Prop where
  all : ∀ r i, r < n → i < d → (lk m (r, i)).isSome = true
  rng : ∀ e f, lk m e = some f → e.1 < n ∧ e.2 < d
  sym : ∀ e f, lk m e = some f → lk m f = some e
theorem Shut.en_ {n d : Nat} {m : Ld} (h : Shut n d m) {r i : Nat} (hr : r < n) (hi : i < d) : lk m (r, i) = some (en (webM n d m) r i) := by
  obtain ⟨f, hf⟩ := Option.isSome_iff_exists.mp (h.all r i hr hi)
  unfold webM
  rw [webOf_en hr hi, hf]; rfl
theorem Shut.ev {n d : Nat} {m : Ld} (h : Shut n d m) (hn : 0 < n) (tree : ∀ r, 0 < r → r < n → ∃ i r' i', r' < r ∧ lk m (r, i) = some (r', i')) : Ev (webM n d m) n d := by
  have rg : Rg (webM n d m) n d := webOf_rg hn fun r i hr hi => by
    obtain ⟨f, hf⟩ := Option.isSome_iff_exists.mp (h.all r i hr hi)
    have : (lk m (r, i)).getD (0, 0) = f := by rw [hf]; rfl
    rw [this]
    exact h.rng _ _ (h.sym _ _ hf)
  refine rg.conn_tree (fun r i hr hi => ?_) fun r r0 r1 => ?_
  · have e1 := h.sym _ _ (h.en_ hr hi)
    have hb := rg.rng r i hr hi
    have e2 := h.en_ hb.1 hb.2
    exact Option.some.inj (e2.symm.trans e1)
  · obtain ⟨i, r', i', h1, h2⟩ := tree r r0 r1
    have hi := (h.rng _ _ h2).2
    refine ⟨i, hi, ?_⟩
    unfold step
    rw [Option.some.inj ((h.en_ r1 hi).symm.trans h2)]
    exact h1
/-- the way stays in the known rooms: the new one is missed -/
theorem shut_missed {n d : Nat} {way : List Nat} {t : Tr} (h : TrOk n d way t) (ha : t.at_ = way.length) {m : Ld} (le : Le t.m m) (sh : Shut (t.come + 1) d m) : ¬ Sees (webM (t.come + 1) d m) 0 way := by
  intro q
  have hp := h.path
  rw [ha, List.take_length] at hp
  have key : ∀ (w : List Nat) (r x : Nat), r < t.come → goM t.m r w = some x → ∀ y ∈ vis (webM (t.come + 1) d m) r w, y < t.come := by
    intro w
    induction w with
    | nil =>
      intro r x hr _ y hy
      have e : y = r := by simpa [vis] using hy
      rw [e]; exact hr
    | cons i w ih =>
      intro r x hr hg y hy
      unfold goM at hg
      cases e : lk t.m (r, i) with
      | none => rw [e] at hg; cases hg
      | some f =>
        rw [e] at hg
        have hi := (h.rng _ _ e).2
        have e2 : step (webM (t.come + 1) d m) r i = f.1 := by
          unfold step
          rw [Option.some.inj ((sh.en_ (show r < t.come + 1 by omega) hi).symm.trans (le _ _ e))]
        rcases List.mem_cons.mp (show y ∈ r :: vis (webM (t.come + 1) d m) (step (webM (t.come + 1) d m) r i) w from hy) with z | z
        · rw [z]; exact hr
        · rw [e2] at z
          exact ih f.1 x (h.rng2 e).1 hg y z
  exact absurd (key way 0 t.room h.c1 hp t.come (q t.come (by unfold webM; rw [webOf_len]; exact Nat.lt_succ_self _))) (Nat.lt_irrefl _)
end Sw
/-! SwM4 -/
set_option Elab.async false
set_option linter.all false
set_option maxRecDepth 100000
set_option maxHeartbeats 1000000
/-! walkers of all rooms at once: plain Lean -/
namespace Sw
/-- the members below n, rising -/
def asc (n : Nat) (l : List Nat) : List Nat := (List.range n).filter fun x => decide (x ∈ l)
theorem mem_asc {n x : Nat} {l : List Nat} : x ∈ asc n l ↔ x < n ∧ x ∈ l := by
  unfold asc
  rw [List.mem_filter, List.mem_range, decide_eq_true_iff]
theorem asc_congr {n : Nat} {l m : List Nat} (h : ∀ x, x < n → (x ∈ l ↔ x ∈ m)) : asc n l = asc n m := by
  unfold asc
  refine List.filter_congr fun x hx => ?_
  have := h x (List.mem_range.mp hx)
  by_cases a : x ∈ l
  · rw [decide_eq_true a, decide_eq_true (this.mp a)]
  · rw [decide_eq_false a, decide_eq_false fun z => a (this.mpr z)]
theorem range_lt (n : Nat) : (List.range n).Pairwise (· < ·) := by
  induction n with
  | zero => simp
  | succ n ih =>
    rw [List.range_succ, List.pairwise_append]
    exact ⟨ih, by simp, fun a ha b hb => by rw [List.mem_singleton.mp hb]; exact List.mem_range.mp ha⟩
theorem asc_lt (n : Nat) (l : List Nat) : (asc n l).Pairwise (· < ·) := (range_lt n).filter _
theorem lt_uniq : ∀ {l m : List Nat}, l.Pairwise (· < ·) → m.Pairwise (· < ·) → (∀ x, x ∈ l ↔ x ∈ m) → l = m
  | [], [], _, _, _ => rfl
  | [], b :: m, _, _, h => by have := (h b).mpr List.mem_cons_self; simp at this
  | a :: l, [], _, _, h => by have := (h a).mp List.mem_cons_self; simp at this
  | a :: l, b :: m, h1, h2, h => by
    obtain ⟨p1, p2⟩ := List.pairwise_cons.mp h1
    obtain ⟨q1, q2⟩ := List.pairwise_cons.mp h2
    have e : a = b := by
      rcases List.mem_cons.mp ((h a).mp List.mem_cons_self) with z | z
      · exact z
      · rcases List.mem_cons.mp ((h b).mpr List.mem_cons_self) with y | y
        · exact y.symm
        · have := q1 a z
          have := p1 b y
          omega
    subst e
    rw [lt_uniq p2 q2 fun x => ?_]
    constructor
    · intro hx
      rcases List.mem_cons.mp ((h x).mp (List.mem_cons_of_mem _ hx)) with z | z
      · have := p1 x hx
        omega
      · exact z
    · intro hx
      rcases List.mem_cons.mp ((h x).mpr (List.mem_cons_of_mem _ hx)) with z | z
      · have := q1 x hx
        omega
      · exact z
/-- a rising list of the same members -/
theorem asc_of {n : Nat} {l out : List Nat} (h1 : out.Pairwise (· < ·)) (h2 : ∀ x, x ∈ out ↔ x ∈ l) (h3 : ∀ x ∈ l, x < n) : out = asc n l :=
  lt_uniq h1 (asc_lt n l) fun x => by
    rw [mem_asc, h2]
    exact ⟨fun h => ⟨h3 x h, h⟩, fun h => h.2⟩
theorem asc_all {n : Nat} {l : List Nat} : (asc n l).length = n ↔ ∀ t, t < n → t ∈ l := by
  constructor
  · intro h t ht
    have nd : (asc n l).Nodup := (asc_lt n l).imp fun h => Nat.ne_of_lt h
    exact (mem_asc.mp (nodup_full nd (fun x hx => (mem_asc.mp hx).1) h t ht)).2
  · intro h
    unfold asc
    rw [List.filter_eq_self.mpr fun x hx => decide_eq_true (h x (List.mem_range.mp hx)), List.length_range]

abbrev Cfg := List (Nat × List Nat)
def cfg (W : Web) (n : Nat) (w : List Nat) : Cfg := (List.range n).map fun s => (walk W s w, asc n (vis W s w))
def on1 (W : Web) (n i : Nat) (p : Nat × List Nat) : Nat × List Nat := (step W p.1 i, asc n (p.2 ++ [step W p.1 i]))
def comeOn (W : Web) (n : Nat) (c : Cfg) (i : Nat) : Cfg := c.map (on1 W n i)
def allMet (n : Nat) (c : Cfg) : Bool := c.all fun p => decide (p.2.length = n)
theorem walk_snoc {W : Web} {s i : Nat} {w : List Nat} : walk W s (w ++ [i]) = step W (walk W s w) i := by rw [walk_app]; rfl
theorem cfg_on {W : Web} {n : Nat} {w : List Nat} {i : Nat} : comeOn W n (cfg W n w) i = cfg W n (w ++ [i]) := by
  unfold comeOn cfg
  rw [List.map_map]
  refine List.map_congr_left fun s hs => ?_
  show (step W (walk W s w) i, asc n (asc n (vis W s w) ++ [step W (walk W s w) i])) = _
  rw [walk_snoc]
  congr 1
  refine asc_congr fun x hx => ?_
  rw [List.mem_append, mem_asc, vis_app, List.mem_singleton]
  constructor
  · rintro (h | h)
    · exact .inl h.2
    · exact .inr (by rw [h]; simp [vis])
  · rintro (h | h)
    · exact .inl ⟨hx, h⟩
    · rcases (show x = walk W s w ∨ x = step W (walk W s w) i by simpa [vis] using h) with z | z
      · exact .inl ⟨hx, by rw [z]; exact vis_walk⟩
      · exact .inr z
theorem cfg_nil {W : Web} {n : Nat} : cfg W n [] = (List.range n).map fun s => (s, [s]) := by
  unfold cfg
  refine List.map_congr_left fun s hs => ?_
  have hs := List.mem_range.mp hs
  show (s, asc n [s]) = (s, [s])
  congr 1
  exact lt_uniq (asc_lt n _) (by simp) fun x => by
    rw [mem_asc, List.mem_singleton]
    exact ⟨fun h => h.2, fun h => ⟨by omega, h⟩⟩
theorem allMet_iff {W : Web} {n : Nat} (hW : W.length = n) {w : List Nat} : allMet n (cfg W n w) = true ↔ ∀ s, s < n → Sees W s w := by
  unfold allMet cfg Sees
  rw [List.all_map, List.all_eq_true, hW]
  constructor
  · intro h s hs
    have := h s (List.mem_range.mpr hs)
    exact asc_all.mp (of_decide_eq_true this)
  · intro h s hs
    exact decide_eq_true (asc_all.mpr (h s (List.mem_range.mp hs)))

section
variable {W : Web} {n d : Nat}
/-- from each room one comes to each by some way -/
theorem Ev.way (h : Ev W n d) {s t : Nat} (hs : s < n) (ht : t < n) : ∃ w, (∀ i ∈ w, i < d) ∧ walk W s w = t :=
  h.conn (fun t => ∃ w, (∀ i ∈ w, i < d) ∧ walk W s w = t) s hs ⟨[], by simp, rfl⟩ (fun r i hr hi ⟨w, hw, e⟩ => ⟨w ++ [i], fun j hj => by
    rcases List.mem_append.mp hj with z | z
    · exact hw j z
    · rw [List.mem_singleton.mp z]; exact hi, by rw [walk_snoc, e]⟩) t ht
theorem Ev.way_all (h : Ev W n d) : ∀ (l : List (Nat × Nat)), (∀ p ∈ l, p.1 < n ∧ p.2 < n) → ∃ w, (∀ i ∈ w, i < d) ∧ ∀ p ∈ l, p.2 ∈ vis W p.1 w
  | [], _ => ⟨[], by simp, by simp⟩
  | p :: l, hl => by
    obtain ⟨w, hw, hv⟩ := h.way_all l fun q hq => hl q (List.mem_cons_of_mem _ hq)
    have hp := hl p List.mem_cons_self
    obtain ⟨u, hu, eu⟩ := h.way (h.walk_lt hp.1 hw) hp.2
    refine ⟨w ++ u, fun i hi => ?_, fun q hq => ?_⟩
    · rcases List.mem_append.mp hi with z | z
      · exact hw i z
      · exact hu i z
    · rcases List.mem_cons.mp hq with z | hq
      · rw [z]
        exact vis_app.mpr (.inr (by rw [← eu]; exact vis_walk))
      · exact vis_app.mpr (.inl (hv q hq))
theorem Ev.seeing (h : Ev W n d) : ∃ w, (∀ i ∈ w, i < d) ∧ ∀ s, s < n → Sees W s w := by
  obtain ⟨w, hw, hv⟩ := h.way_all ((List.range n).flatMap fun s => (List.range n).map fun t => (s, t)) fun p hp => by
    obtain ⟨s, hs, q⟩ := List.mem_flatMap.mp hp
    obtain ⟨t, ht, e⟩ := List.mem_map.mp q
    rw [← e]; exact ⟨List.mem_range.mp hs, List.mem_range.mp ht⟩
  refine ⟨w, hw, fun s hs t ht => ?_⟩
  rw [h.len] at ht
  exact hv (s, t) (List.mem_flatMap.mpr ⟨s, List.mem_range.mpr hs, List.mem_map.mpr ⟨t, List.mem_range.mpr ht, rfl⟩⟩)
/-- what holds all that comes of it holds a config in which all are met -/
theorem Ev.closed_met (h : Ev W n d) {kn : List Cfg} (h0 : cfg W n [] ∈ kn) (hc : ∀ c ∈ kn, ∀ i, i < d → comeOn W n c i ∈ kn) : ∃ c ∈ kn, allMet n c = true := by
  have key : ∀ w : List Nat, (∀ i ∈ w, i < d) → cfg W n w ∈ kn := by
    intro w
    have : ∀ (v u : List Nat), (∀ i ∈ v, i < d) → cfg W n u ∈ kn → cfg W n (u ++ v) ∈ kn := by
      intro v
      induction v with
      | nil => intro u _ hu; rwa [List.append_nil]
      | cons i v ih =>
        intro u hv hu
        have := ih (u ++ [i]) (fun j hj => hv j (List.mem_cons_of_mem _ hj)) (by rw [← cfg_on]; exact hc _ hu i (hv i List.mem_cons_self))
        rwa [List.append_assoc] at this
    intro hw
    exact this w [] hw h0
  obtain ⟨w, hw, hs⟩ := h.seeing
  exact ⟨_, key w hw, (allMet_iff h.len).mpr hs⟩

/-! ### how many there are -/
theorem Ev.small (h : Ev W n d) (hd : 1 ≤ d) (hnd : n * d ≤ 9) : n ≤ 4 := by
  by_cases h1 : d = 1
  · subst h1
    have := h.conn (fun x => x = 0 ∨ x = step W 0 0) 0 h.pos (.inl rfl) fun r i hr hi hS => by
      have ei : i = 0 := by omega
      subst ei
      rcases hS with e | e
      · right; rw [e]
      · left
        have e2 : (en W 0 0).2 = 0 := by have := (h.rng 0 0 h.pos hi).2; omega
        have := h.sym 0 0 h.pos hi
        rw [e2] at this
        show (en W r 0).1 = 0
        rw [e]
        show (en W (en W 0 0).1 0).1 = 0
        rw [this]
    by_cases hn : n ≤ 2
    · omega
    · exfalso
      have a1 := this 1 (by omega)
      have a2 := this 2 (by omega)
      omega
  · have h2 : n * 2 ≤ n * d := Nat.mul_le_mul_left _ (by omega)
    omega
end
def subs : List Nat → List (List Nat)
  | [] => [[]]
  | a :: t => subs t ++ (subs t).map (a :: ·)
theorem filter_subs (p : Nat → Bool) : ∀ l : List Nat, l.filter p ∈ subs l
  | [] => by simp [subs]
  | a :: t => by
    have ih := filter_subs p t
    rw [List.filter_cons]
    by_cases h : p a = true
    · rw [if_pos h]
      exact List.mem_append_right _ (List.mem_map.mpr ⟨_, ih, rfl⟩)
    · rw [if_neg h]
      exact List.mem_append_left _ ih
def spotsOf (n : Nat) : List (Nat × List Nat) := (List.range n).flatMap fun r => ((subs (List.range n)).filter fun l => decide (r ∈ l)).map fun l => (r, l)
def tuples {α : Type} (P : List α) : Nat → List (List α)
  | 0 => [[]]
  | k + 1 => P.flatMap fun a => (tuples P k).map (a :: ·)
theorem tuples_len {α : Type} (P : List α) : ∀ k, (tuples P k).length = P.length ^ k
  | 0 => rfl
  | k + 1 => by
    show (P.flatMap fun a => (tuples P k).map (a :: ·)).length = _
    rw [Nat.pow_succ, ← tuples_len P k]
    have : ∀ Q : List α, (Q.flatMap fun a => (tuples P k).map (a :: ·)).length = (tuples P k).length * Q.length := by
      intro Q
      induction Q with
      | nil => simp
      | cons a Q ih => rw [List.flatMap_cons, List.length_append, ih, List.length_map, List.length_cons, Nat.mul_succ]; omega
    exact this P
theorem mem_tuples {α : Type} {P : List α} : ∀ {l : List α}, (∀ a ∈ l, a ∈ P) → l ∈ tuples P l.length
  | [], _ => by simp [tuples]
  | a :: l, h => List.mem_flatMap.mpr ⟨a, h a List.mem_cons_self, List.mem_map.mpr ⟨l, mem_tuples fun b hb => h b (List.mem_cons_of_mem _ hb), rfl⟩⟩
theorem spotsOf_len : ∀ n, n ≤ 4 → (spotsOf n).length ^ n ≤ 1048576 := by
  intro n hn
  match n, hn with
  | 0, _ => decide
  | 1, _ => decide
  | 2, _ => decide
  | 3, _ => decide
  | 4, _ => decide
theorem Ev.cfg_few {W : Web} {n d : Nat} (h : Ev W n d) (hn : n ≤ 4) {kn : List Cfg} (nd : kn.Nodup) (hk : ∀ c ∈ kn, ∃ w, (∀ i ∈ w, i < d) ∧ c = cfg W n w) : kn.length ≤ 1048576 := by
  refine Nat.le_trans (nodup_sub_len (m := tuples (spotsOf n) n) nd fun c hc => ?_) (by rw [tuples_len]; exact spotsOf_len n hn)
  obtain ⟨w, hw, e⟩ := hk c hc
  have hl : c.length = n := by rw [e]; unfold cfg; simp
  have z := mem_tuples (P := spotsOf n) (l := c) fun p hp => by
    rw [e] at hp
    obtain ⟨s, hs, ep⟩ := List.mem_map.mp hp
    have hs := List.mem_range.mp hs
    rw [← ep]
    have hw2 := h.walk_lt hs hw
    exact List.mem_flatMap.mpr ⟨walk W s w, List.mem_range.mpr hw2, List.mem_map.mpr ⟨asc n (vis W s w), List.mem_filter.mpr ⟨filter_subs _ _, decide_eq_true (mem_asc.mpr ⟨hw2, vis_walk⟩)⟩, rfl⟩⟩
  rwa [hl] at z
end Sw
/-! SwM5 -/
set_option Elab.async false
set_option linter.all false
set_option maxRecDepth 100000
set_option maxHeartbeats 1000000
/-! an even web drawn: plain Lean -/
namespace Sw
/-- half ties: (tie, side); side 2 leads to itself -/
abbrev Half := Nat × Nat
def tw (h : Half) : Half := (h.1, if h.2 = 0 then 1 else if h.2 = 1 then 0 else h.2)
def sidesOf (many k : Nat) (p : Nat × Nat) : List (Nat × Half) := if p.2 = many then [(p.1, (k, 2))] else [(p.1, (k, 0)), (p.2, (k, 1))]
def htsFrom (many : Nat) : Nat → List (Nat × Nat) → List (Nat × Half)
  | _, [] => []
  | k, p :: ps => sidesOf many k p ++ htsFrom many (k + 1) ps
abbrev hts (many : Nat) (ps : List (Nat × Nat)) : List (Nat × Half) := htsFrom many 0 ps
/-- the half ties of a room -/
def ofRoom (H : List (Nat × Half)) (r : Nat) : List Half := (H.filter fun x => decide (x.1 = r)).map (·.2)
theorem hts_app (many : Nat) : ∀ (k : Nat) (ps : List (Nat × Nat)) (p : Nat × Nat), htsFrom many k (ps ++ [p]) = htsFrom many k ps ++ sidesOf many (k + ps.length) p
  | k, [], p => by simp [htsFrom]
  | k, q :: ps, p => by
    show sidesOf many k q ++ htsFrom many (k + 1) (ps ++ [p]) = sidesOf many k q ++ htsFrom many (k + 1) ps ++ _
    rw [hts_app many (k + 1) ps p, List.append_assoc, List.length_cons]
    rw [show k + 1 + ps.length = k + (ps.length + 1) by omega]
theorem mem_sides {many k : Nat} {p : Nat × Nat} {x : Nat × Half} : x ∈ sidesOf many k p ↔ (p.2 = many ∧ x = (p.1, (k, 2))) ∨ (p.2 ≠ many ∧ (x = (p.1, (k, 0)) ∨ x = (p.2, (k, 1)))) := by
  unfold sidesOf
  by_cases h : p.2 = many
  · rw [if_pos h]; simp [h]
  · rw [if_neg h]; simp [h]
theorem mem_hts {many : Nat} {x : Nat × Half} : ∀ {ps : List (Nat × Nat)} {k : Nat}, x ∈ htsFrom many k ps ↔ ∃ j p, ps[j]? = some p ∧ x ∈ sidesOf many (k + j) p
  | [], k => by simp [htsFrom]
  | q :: ps, k => by
    show x ∈ sidesOf many k q ++ htsFrom many (k + 1) ps ↔ _
    rw [List.mem_append, mem_hts (ps := ps)]
    constructor
    · rintro (h | ⟨j, p, h1, h2⟩)
      · exact ⟨0, q, rfl, h⟩
      · exact ⟨j + 1, p, h1, by rw [show k + (j + 1) = k + 1 + j by omega]; exact h2⟩
    · rintro ⟨j, p, h1, h2⟩
      cases j with
      | zero => cases h1; exact .inl h2
      | succ j => exact .inr ⟨j, p, h1, by rw [show k + 1 + j = k + (j + 1) by omega]; exact h2⟩
theorem side_tie {many k : Nat} {p : Nat × Nat} {x : Nat × Half} (h : x ∈ sidesOf many k p) : x.2.1 = k := by
  rcases mem_sides.mp h with ⟨_, e⟩ | ⟨_, e | e⟩ <;> rw [e]
theorem hts_nodup {many : Nat} : ∀ (ps : List (Nat × Nat)) (k : Nat), ((htsFrom many k ps).map (·.2)).Nodup
  | [], k => by simp [htsFrom]
  | q :: ps, k => by
    show ((sidesOf many k q ++ htsFrom many (k + 1) ps).map (·.2)).Nodup
    rw [List.map_append, List.nodup_append]
    refine ⟨?_, hts_nodup ps (k + 1), fun x hx y hy e => ?_⟩
    · unfold sidesOf
      by_cases h : q.2 = many
      · rw [if_pos h]; simp
      · rw [if_neg h]; simp
    · obtain ⟨a, ha, ea⟩ := List.mem_map.mp hx
      obtain ⟨b, hb, eb⟩ := List.mem_map.mp hy
      obtain ⟨j, p, _, h2⟩ := mem_hts.mp hb
      have e1 := side_tie ha
      have e2 := side_tie h2
      rw [ea, e, ← eb] at e1
      omega
theorem hts_one {many : Nat} {ps : List (Nat × Nat)} {r r' : Nat} {h : Half} (h1 : (r, h) ∈ hts many ps) (h2 : (r', h) ∈ hts many ps) : r = r' := by
  have nd := hts_nodup (many := many) ps 0
  obtain ⟨i, hi, ei⟩ := List.getElem_of_mem h1
  obtain ⟨j, hj, ej⟩ := List.getElem_of_mem h2
  have hi' : i < ((hts many ps).map (·.2)).length := by rw [List.length_map]; exact hi
  have hj' : j < ((hts many ps).map (·.2)).length := by rw [List.length_map]; exact hj
  have e : ((hts many ps).map (·.2))[i] = ((hts many ps).map (·.2))[j] := by
    rw [List.getElem_map, List.getElem_map, ei, ej]
  have q := (List.getElem_inj nd).mp e
  subst q
  rw [ei] at ej
  exact (Prod.mk.inj ej).1
theorem mem_ofRoom {H : List (Nat × Half)} {r : Nat} {h : Half} : h ∈ ofRoom H r ↔ (r, h) ∈ H := by
  unfold ofRoom
  rw [List.mem_map]
  constructor
  · rintro ⟨x, hx, e⟩
    obtain ⟨h1, h2⟩ := List.mem_filter.mp hx
    have e2 : x.1 = r := of_decide_eq_true h2
    rw [← e2, ← e]; exact h1
  · intro q
    exact ⟨(r, h), List.mem_filter.mpr ⟨q, decide_eq_true rfl⟩, rfl⟩
theorem ofRoom_nodup {H : List (Nat × Half)} {r : Nat} (h : (H.map (·.2)).Nodup) : (ofRoom H r).Nodup := by
  unfold ofRoom
  exact List.Nodup.sublist (List.Sublist.map _ List.filter_sublist) h
theorem ofRoom_app {H : List (Nat × Half)} {x : Nat × Half} {r : Nat} : ofRoom (H ++ [x]) r = ofRoom H r ++ if x.1 = r then [x.2] else [] := by
  unfold ofRoom
  rw [List.filter_append, List.map_append]
  by_cases h : x.1 = r
  · rw [if_pos h]; simp [h]
  · rw [if_neg h]; simp [h]
/-- how many half ties a room has -/
def deg (many : Nat) (ps : List (Nat × Nat)) (r : Nat) : Nat := (ofRoom (hts many ps) r).length
theorem deg_app {many : Nat} {ps : List (Nat × Nat)} {a b r : Nat} : deg many (ps ++ [(a, b)]) r = deg many ps r + (if a = r then 1 else 0) + (if b ≠ many ∧ b = r then 1 else 0) := by
  unfold deg
  have e : hts many (ps ++ [(a, b)]) = hts many ps ++ sidesOf many (0 + ps.length) (a, b) := hts_app many 0 ps (a, b)
  rw [e]
  unfold sidesOf
  by_cases h : b = many
  · rw [if_pos h, ofRoom_app, List.length_append]
    by_cases k : a = r
    · simp [h, k]
    · simp [h, k]
  · rw [if_neg h]
    have e2 : hts many ps ++ [(a, (0 + ps.length, 0)), (b, (0 + ps.length, 1))] = (hts many ps ++ [(a, (0 + ps.length, 0))]) ++ [(b, (0 + ps.length, 1))] := by simp
    rw [show ([((a, b).1, (0 + ps.length, 0)), ((a, b).2, (0 + ps.length, 1))] : List (Nat × Half)) = [(a, (0 + ps.length, 0)), (b, (0 + ps.length, 1))] from rfl, e2, ofRoom_app, ofRoom_app, List.length_append, List.length_append]
    have e3 : (if b ≠ many ∧ b = r then 1 else 0) = if b = r then 1 else 0 := by
      by_cases j : b = r
      · rw [if_pos ⟨h, j⟩, if_pos j]
      · rw [if_neg fun z => j z.2, if_neg j]
    rw [e3]
    by_cases k : a = r <;> by_cases j : b = r <;> simp [k, j]

/-! ### the pairs of rooms -/
/-- pairs drawn, left: how many doors each room has left -/
structure Drawn (many doors : Nat) (left : List Nat) (ps : List (Nat × Nat)) : Prop where
  len : left.length = many
  deg : ∀ r, r < many → left.getD r 0 + deg many ps r = doors
  rng : ∀ p ∈ ps, p.1 < many ∧ p.2 ≤ many
/-- the rooms below k are put together -/
def Tree (k : Nat) (ps : List (Nat × Nat)) : Prop := ∀ r, 0 < r → r < k → ∃ p, (p, r) ∈ ps ∧ p < r
theorem getD_set {l : List Nat} {i j v : Nat} (h : i < l.length) : (l.set i v).getD j 0 = if j = i then v else l.getD j 0 := by
  rw [List.getD_eq_getElem?_getD, List.getD_eq_getElem?_getD]
  by_cases e : j = i
  · rw [if_pos e, e, List.getElem?_set_self h]; rfl
  · rw [if_neg e, List.getElem?_set_ne (Ne.symm e)]
theorem Drawn.start (many doors : Nat) : Drawn many doors (List.replicate many doors) [] :=
  ⟨by simp, fun r hr => by
    have : (List.replicate many doors).getD r 0 = doors := getD_of (by rw [List.getElem?_replicate, if_pos hr])
    rw [this]; rfl, by simp⟩
section
variable {many doors : Nat} {left : List Nat} {ps : List (Nat × Nat)}
/-- a door of one room and one of another -/
theorem Drawn.two (h : Drawn many doors left ps) {a b : Nat} (ha : a < many) (hb : b < many) (h1 : 0 < left.getD a 0) (h2 : 0 < (left.set a (left.getD a 0 - 1)).getD b 0) :
    Drawn many doors ((left.set a (left.getD a 0 - 1)).set b ((left.set a (left.getD a 0 - 1)).getD b 0 - 1)) (ps ++ [(a, b)]) := by
  have la : a < left.length := by rw [h.len]; exact ha
  refine ⟨by rw [List.length_set, List.length_set, h.len], fun r hr => ?_, fun p hp => ?_⟩
  · have hd := h.deg r hr
    have ga : ∀ j, (left.set a (left.getD a 0 - 1)).getD j 0 = if j = a then left.getD a 0 - 1 else left.getD j 0 := fun j => getD_set la
    rw [ga] at h2
    rw [deg_app, getD_set (by rw [List.length_set, h.len]; exact hb), ga, ga]
    have e4 : (if b ≠ many ∧ b = r then 1 else 0) = if r = b then 1 else 0 := by
      by_cases j : r = b
      · rw [if_pos ⟨by omega, j.symm⟩, if_pos j]
      · rw [if_neg fun z => j z.2.symm, if_neg j]
    have e5 : (if a = r then 1 else 0) = if r = a then 1 else 0 := by
      by_cases j : r = a
      · rw [if_pos j.symm, if_pos j]
      · rw [if_neg fun z => j z.symm, if_neg j]
    rw [e4, e5]
    by_cases e1 : r = b
    · subst e1
      by_cases e2 : r = a
      · subst e2
        simp only [eq_self, if_true] at h2 ⊢
        omega
      · simp only [eq_self, if_true, if_neg e2] at h2 ⊢
        omega
    · by_cases e2 : r = a
      · subst e2
        simp only [eq_self, if_true, if_neg e1] at h2 ⊢
        omega
      · simp only [if_neg e1, if_neg e2]
        omega
  · rcases List.mem_append.mp hp with z | z
    · exact h.rng p z
    · rw [List.mem_singleton.mp z]; exact ⟨ha, Nat.le_of_lt hb⟩
/-- a door that leads to itself -/
theorem Drawn.one (h : Drawn many doors left ps) {a : Nat} (ha : a < many) (h1 : 0 < left.getD a 0) : Drawn many doors (left.set a (left.getD a 0 - 1)) (ps ++ [(a, many)]) := by
  have la : a < left.length := by rw [h.len]; exact ha
  refine ⟨by rw [List.length_set, h.len], fun r hr => ?_, fun p hp => ?_⟩
  · have := h.deg r hr
    rw [deg_app, getD_set la]
    by_cases e2 : r = a
    · simp_all; omega
    · have : ¬ a = r := fun z => e2 z.symm
      simp_all
  · rcases List.mem_append.mp hp with z | z
    · exact h.rng p z
    · rw [List.mem_singleton.mp z]; exact ⟨ha, Nat.le_refl _⟩
theorem sum_set1 : ∀ {l : List Nat} {i : Nat}, i < l.length → 0 < l.getD i 0 → (l.set i (l.getD i 0 - 1)).sum + 1 = l.sum
  | [], i, h, _ => by simp at h
  | a :: t, 0, _, h => by
    have h : 0 < a := h
    show ((a - 1) :: t).sum + 1 = (a :: t).sum
    rw [List.sum_cons, List.sum_cons]; omega
  | a :: t, i + 1, h1, h2 => by
    have ih := sum_set1 (l := t) (i := i) (by simpa using h1) h2
    show (a :: t.set i (t.getD i 0 - 1)).sum + 1 = (a :: t).sum
    rw [List.sum_cons, List.sum_cons]
    omega
theorem sum_zero : ∀ {l : List Nat}, l.sum = 0 → ∀ i, l.getD i 0 = 0
  | [], _, i => by simp
  | a :: t, h, i => by
    rw [List.sum_cons] at h
    cases i with
    | zero => show a = 0; omega
    | succ i => exact sum_zero (l := t) (by omega) i
theorem sum_pos : ∀ {l : List Nat}, 0 < l.sum → ∃ i, i < l.length ∧ 0 < l.getD i 0
  | [], h => by simp at h
  | a :: t, h => by
    rw [List.sum_cons] at h
    by_cases z : 0 < a
    · exact ⟨0, by simp, z⟩
    · obtain ⟨i, h1, h2⟩ := sum_pos (l := t) (by omega)
      exact ⟨i + 1, by simpa using h1, h2⟩

/-! ### the half ties put into rooms -/
structure Put (many : Nat) (halves : List (List Half)) (H : List (Nat × Half)) : Prop where
  len : halves.length = many
  perm : ∀ r, r < many → (halves.getD r []).Perm (ofRoom H r)
theorem Put.add {halves : List (List Half)} {H : List (Nat × Half)} (h : Put many halves H) {r : Nat} (hr : r < many) (x : Half) {l : List Half} (hl : l.Perm (x :: halves.getD r [])) : Put many (halves.set r l) (H ++ [(r, x)]) := by
  refine ⟨by rw [List.length_set, h.len], fun s hs => ?_⟩
  rw [ofRoom_app]
  have hp := h.perm s hs
  by_cases e : s = r
  · subst e
    have e2 : (halves.set s l).getD s [] = l := getD_of (List.getElem?_set_self (by rw [h.len]; exact hs))
    rw [e2, if_pos rfl]
    exact hl.trans ((List.Perm.cons x hp).trans (List.perm_append_singleton x _).symm)
  · have e2 : (halves.set r l).getD s [] = halves.getD s [] := by
      rw [List.getD_eq_getElem?_getD, List.getD_eq_getElem?_getD, List.getElem?_set_ne (fun z => e z.symm)]
    rw [e2, if_neg (fun z => e z.symm), List.append_nil]
    exact hp
theorem Put.start (many : Nat) : Put many (List.replicate many []) [] :=
  ⟨by simp, fun r hr => by
    have : (List.replicate many ([] : List Half)).getD r [] = [] := getD_of (by rw [List.getElem?_replicate, if_pos hr])
    rw [this]; exact List.Perm.refl _⟩
/-- where the half tie stands -/
def Stands (halves : List (List Half)) (r i : Nat) (h : Half) : Prop := (halves.getD r [])[i]? = some h
structure Hv (many doors : Nat) (halves : List (List Half)) : Prop where
  len : halves.length = many
  rows : ∀ r, r < many → (halves.getD r []).length = doors
  uniq : ∀ r i r' i' h, Stands halves r i h → Stands halves r' i' h → r = r' ∧ i = i'
  twin : ∀ r i h, Stands halves r i h → ∃ r' i', Stands halves r' i' (tw h)
  side : ∀ r i h, Stands halves r i h → h.2 ≤ 2
  tree : ∀ r, 0 < r → r < many → ∃ i t p j, Stands halves r i (t, 1) ∧ Stands halves p j (t, 0) ∧ p < r
theorem stands_lt {halves : List (List Half)} {r i : Nat} {h : Half} (s : Stands halves r i h) : r < halves.length := by
  unfold Stands at s
  by_cases z : r < halves.length
  · exact z
  · rw [List.getD_eq_getElem?_getD, List.getElem?_eq_none (l := halves) (i := r) (by omega)] at s
    simp at s
theorem Put.hv {halves : List (List Half)} (h : Put many halves (hts many ps)) (D : Drawn many doors left ps) (h0 : left.sum = 0) (T : Tree many ps) : Hv many doors halves := by
  have mem : ∀ r, r < many → ∀ x, x ∈ halves.getD r [] ↔ (r, x) ∈ hts many ps := fun r hr x => (h.perm r hr).mem_iff.trans mem_ofRoom
  have nd : ∀ r, r < many → (halves.getD r []).Nodup := fun r hr => (h.perm r hr).nodup_iff.mpr (ofRoom_nodup (hts_nodup ps 0))
  have st : ∀ r, r < many → ∀ x, (r, x) ∈ hts many ps → ∃ i, Stands halves r i x := fun r hr x hx => by
    obtain ⟨i, hi, e⟩ := List.getElem_of_mem ((mem r hr x).mpr hx)
    exact ⟨i, by unfold Stands; rw [List.getElem?_eq_getElem hi, e]⟩
  have ts : ∀ r i x, Stands halves r i x → r < many ∧ (r, x) ∈ hts many ps := fun r i x s => by
    have hr : r < many := by rw [← h.len]; exact stands_lt s
    exact ⟨hr, (mem r hr x).mp (List.mem_of_getElem? s)⟩
  have rm : ∀ x, x ∈ hts many ps → x.1 < many := fun x hx => by
    obtain ⟨j, p, h1, h2⟩ := mem_hts.mp hx
    have hp := D.rng p (List.mem_of_getElem? h1)
    rcases mem_sides.mp h2 with ⟨_, e⟩ | ⟨hne, e | e⟩
    · rw [e]; exact hp.1
    · rw [e]; exact hp.1
    · rw [e]; show p.2 < many; omega
  refine ⟨h.len, fun r hr => ?_, fun r i r' i' x s s' => ?_, fun r i x s => ?_, fun r i x s => ?_, fun r r0 r1 => ?_⟩
  · rw [(h.perm r hr).length_eq]
    have := D.deg r hr
    rw [sum_zero h0 r] at this
    unfold deg at this
    omega
  · obtain ⟨a1, a2⟩ := ts r i x s
    obtain ⟨b1, b2⟩ := ts r' i' x s'
    have e := hts_one a2 b2
    subst e
    obtain ⟨c1, d1⟩ := List.getElem?_eq_some_iff.mp s
    obtain ⟨c2, d2⟩ := List.getElem?_eq_some_iff.mp s'
    exact ⟨rfl, (List.getElem_inj (nd r a1)).mp (d1.trans d2.symm)⟩
  · obtain ⟨a1, a2⟩ := ts r i x s
    obtain ⟨j, p, h1, h2⟩ := mem_hts.mp a2
    have fnd : ∀ y : Nat × Half, y ∈ sidesOf many (0 + j) p → ∃ r' i', Stands halves r' i' y.2 := fun y hy => by
      have hy2 : y ∈ hts many ps := mem_hts.mpr ⟨j, p, h1, hy⟩
      obtain ⟨i', hi'⟩ := st y.1 (rm y hy2) y.2 hy2
      exact ⟨y.1, i', hi'⟩
    rcases mem_sides.mp h2 with ⟨z, e⟩ | ⟨hne, e | e⟩
    · have e2 : x = (0 + j, 2) := (Prod.mk.inj e).2
      have := fnd (p.1, (0 + j, 2)) (mem_sides.mpr (.inl ⟨z, rfl⟩))
      rw [e2]
      exact this
    · have e2 : x = (0 + j, 0) := (Prod.mk.inj e).2
      have := fnd (p.2, (0 + j, 1)) (mem_sides.mpr (.inr ⟨hne, .inr rfl⟩))
      rw [e2]
      exact this
    · have e2 : x = (0 + j, 1) := (Prod.mk.inj e).2
      have := fnd (p.1, (0 + j, 0)) (mem_sides.mpr (.inr ⟨hne, .inl rfl⟩))
      rw [e2]
      exact this
  · obtain ⟨a1, a2⟩ := ts r i x s
    obtain ⟨j, p, h1, h2⟩ := mem_hts.mp a2
    rcases mem_sides.mp h2 with ⟨z, e⟩ | ⟨hne, e | e⟩ <;> rw [(Prod.mk.inj e).2] <;> simp
  · obtain ⟨p, hp, hl⟩ := T r r0 r1
    obtain ⟨j, hj, ej⟩ := List.getElem_of_mem hp
    have hj2 : ps[j]? = some (p, r) := by rw [List.getElem?_eq_getElem hj, ej]
    have hne : r ≠ many := by omega
    obtain ⟨i, hi⟩ := st r r1 (0 + j, 1) (mem_hts.mpr ⟨j, (p, r), hj2, mem_sides.mpr (.inr ⟨hne, .inr rfl⟩)⟩)
    obtain ⟨i', hi'⟩ := st p (by omega) (0 + j, 0) (mem_hts.mpr ⟨j, (p, r), hj2, mem_sides.mpr (.inr ⟨hne, .inl rfl⟩)⟩)
    exact ⟨i, 0 + j, p, i', hi, hi', hl⟩
theorem tw_tw {h : Half} (hs : h.2 ≤ 2) : tw (tw h) = h := by
  obtain ⟨t, s⟩ := h
  have hs : s ≤ 2 := hs
  rcases (show s = 0 ∨ s = 1 ∨ s = 2 by omega) with e | e | e <;> subst e <;> rfl
/-- the web in which each half tie leads to its twin -/
theorem Hv.ev {halves : List (List Half)} (h : Hv many doors halves) (hm : 0 < many) {W : Web} (l1 : W.length = many) (l2 : ∀ r, r < many → (row W r).length = doors)
    (he : ∀ r i x, Stands halves r i x → Stands halves (en W r i).1 (en W r i).2 (tw x)) : Ev W many doors := by
  have ex : ∀ r i, r < many → i < doors → ∃ x, Stands halves r i x := fun r i hr hi => ⟨_, List.getElem?_eq_getElem (by rw [h.rows r hr]; exact hi)⟩
  have lt : ∀ r i x, Stands halves r i x → r < many ∧ i < doors := fun r i x s => by
    have hr : r < many := by rw [← h.len]; exact stands_lt s
    have := (List.getElem?_eq_some_iff.mp s).1
    rw [h.rows r hr] at this
    exact ⟨hr, this⟩
  have rg : Rg W many doors := ⟨l1, hm, l2, fun r i hr hi => by
    obtain ⟨x, hx⟩ := ex r i hr hi
    exact lt _ _ _ (he r i x hx)⟩
  refine rg.conn_tree (fun r i hr hi => ?_) fun r r0 r1 => ?_
  · obtain ⟨x, hx⟩ := ex r i hr hi
    have s1 := he r i x hx
    have s2 := he _ _ _ s1
    rw [tw_tw (h.side r i x hx)] at s2
    obtain ⟨e1, e2⟩ := h.uniq _ _ _ _ _ s2 hx
    exact Prod.ext e1 e2
  · obtain ⟨i, t, p, j, s1, s2, hl⟩ := h.tree r r0 r1
    refine ⟨i, (lt _ _ _ s1).2, ?_⟩
    have s3 := he r i _ s1
    have e : tw (t, 1) = (t, 0) := rfl
    rw [e] at s3
    have := (h.uniq _ _ _ _ _ s3 s2).1
    unfold step
    rw [this]
    exact hl
end
end Sw
/-! SwL0 -/
set_option Elab.async false
set_option linter.all false
set_option maxRecDepth 100000
set_option maxHeartbeats 4000000
/-! data in the heap, calls, names -/
namespace Sw
open PySem L2

/-! ### pairs of lists -/
section
variable {α β : Type} {F : α → β → Prop}
theorem pd_get : ∀ {xs : List α} {ys : List β} {i : Nat} {y : β}, Paired F xs ys → ys[i]? = some y → ∃ x, xs[i]? = some x ∧ F x y
  | _, _, _, _, .nil, h => by simp at h
  | _, _, 0, _, .cons r _, h => by
    have e := Option.some.inj h
    subst e
    exact ⟨_, rfl, r⟩
  | _, _, i + 1, _, .cons _ t, h => pd_get (i := i) t h
theorem pd_get' : ∀ {xs : List α} {ys : List β} {i : Nat} {x : α}, Paired F xs ys → xs[i]? = some x → ∃ y, ys[i]? = some y ∧ F x y
  | _, _, _, _, .nil, h => by simp at h
  | _, _, 0, _, .cons r _, h => by
    have e := Option.some.inj h
    subst e
    exact ⟨_, rfl, r⟩
  | _, _, i + 1, _, .cons _ t, h => pd_get' (i := i) t h
theorem pd_app {xs xs' : List α} {ys ys' : List β} (h : Paired F xs ys) (h' : Paired F xs' ys') : Paired F (xs ++ xs') (ys ++ ys') := by
  induction h with
  | nil => exact h'
  | cons r _ ih => exact .cons r ih
theorem pd_mem {xs : List α} {ys : List β} (h : Paired F xs ys) {x : α} (hx : x ∈ xs) : ∃ y, y ∈ ys ∧ F x y := by
  obtain ⟨i, hi, e⟩ := List.getElem_of_mem hx
  obtain ⟨y, hy, r⟩ := pd_get' h (show xs[i]? = some x by rw [List.getElem?_eq_getElem hi, e])
  exact ⟨y, List.mem_of_getElem? hy, r⟩
theorem pd_mem' {xs : List α} {ys : List β} (h : Paired F xs ys) {y : β} (hy : y ∈ ys) : ∃ x, x ∈ xs ∧ F x y := by
  obtain ⟨i, hi, e⟩ := List.getElem_of_mem hy
  obtain ⟨x, hx, r⟩ := pd_get h (show ys[i]? = some y by rw [List.getElem?_eq_getElem hi, e])
  exact ⟨x, List.mem_of_getElem? hx, r⟩
theorem pd_imp {G : α → β → Prop} {xs : List α} {ys : List β} (h : Paired F xs ys) (k : ∀ x y, F x y → G x y) : Paired G xs ys := by
  induction h with
  | nil => exact .nil
  | cons r _ ih => exact .cons (k _ _ r) ih
theorem pd_map {γ : Type} (f : γ → α) (g : γ → β) {l : List γ} (h : ∀ c ∈ l, F (f c) (g c)) : Paired F (l.map f) (l.map g) := by
  induction l with
  | nil => exact .nil
  | cons c t ih => exact .cons (h c List.mem_cons_self) (ih fun d hd => h d (List.mem_cons_of_mem _ hd))
theorem pd_dropLast {xs : List α} {ys : List β} (h : Paired F xs ys) : Paired F xs.dropLast ys.dropLast := by
  induction h with
  | nil => exact .nil
  | cons r t ih =>
    cases t with
    | nil => exact .nil
    | cons r' t' => exact .cons r ih
end

/-! ### heaps -/
/-- what is no list stays -/
def NL (H H' : Hp) : Prop := ∀ a o, (∀ xs, o ≠ .lst xs) → H a = some o → H' a = some o
theorem NL.refl (H : Hp) : NL H H := fun _ _ _ h => h
theorem NL.trans {H H1 H2 : Hp} (a : NL H H1) (b : NL H1 H2) : NL H H2 := fun p o n h => b p o n (a p o n h)
theorem nl_of {H H' : Hp} (h : Same H H') : NL H H' := fun a o _ e => h a o e
theorem nl_new {H : Hp} {p : Addr} {o : HO} (h : H p = none) : NL H (upd H p o) := fun a u _ e => by
  rw [upd_ne (ne_of_none e h)]; exact e
theorem nl_lst {H : Hp} {p : Addr} {xs ys : List V} (h : H p = some (.lst xs)) : NL H (upd H p (.lst ys)) := fun a u n e => by
  rw [upd_ne fun q => by rw [q, h] at e; exact n _ (Option.some.inj e).symm]; exact e
theorem same_new {H : Hp} {p : Addr} {o : HO} (h : H p = none) : Same H (upd H p o) := fun a u e => by
  rw [upd_ne (ne_of_none e h)]; exact e
/-- an object that H doesn't know may change -/
theorem same_mut {H H' : Hp} {p : Addr} {o : HO} (e : Same H H') (h : H p = none) : Same H (upd H' p o) := fun a u ha => by
  rw [upd_ne (ne_of_none ha h)]; exact e a u ha
/-- all but what stands at b stays -/
def Kp (b : Addr) (H H' : Hp) : Prop := ∀ a o, a ≠ b → H a = some o → H' a = some o
theorem Kp.of {b : Addr} {H H' : Hp} (h : Same H H') : Kp b H H' := fun a o _ e => h a o e
theorem Kp.refl (b : Addr) (H : Hp) : Kp b H H := fun _ _ _ h => h
theorem Kp.trans {b : Addr} {H H1 H2 : Hp} (x : Kp b H H1) (y : Kp b H1 H2) : Kp b H H2 := fun a o n e => y a o n (x a o n e)
theorem Kp.put {b : Addr} {H H' : Hp} {o : HO} (h : Kp b H H') : Kp b H (upd H' b o) := fun a u n e => by
  rw [upd_ne n]; exact h a u n e
/-- .. and something new to H may change, too -/
theorem Kp.mut {b p : Addr} {H H' : Hp} {o : HO} (h : Kp b H H') (hp : H p = none) : Kp b H (upd H' p o) := fun a u n e => by
  rw [upd_ne (ne_of_none e hp)]; exact h a u n e
theorem Kp.same {b : Addr} {H H' : Hp} (h : Kp b H H') (hb : H b = none) : Same H H' := fun a o e => h a o (ne_of_none e hb) e
theorem same_t {K : PySem.W.Frag} {H H' : Hp} {a : Addr} {xs : List V} (e : Same H H') (h : SqT K H a xs) : SqT K H' a xs := by
  rcases h with (h | ⟨o, h⟩) | h
  · exact .inl (.inl (e _ _ h))
  · exact .inl (.inr ⟨o, e _ _ h⟩)
  · exact .inr h

/-! ### data -/
abbrev Rep (α : Type) := Hp → V → α → Prop
def IntR : Rep Nat := fun _ v n => v = .int (n : Int)
def EndR : Rep End := fun H v e => ∃ a, v = .ref a ∧ H a = some (.tup [.int (e.1 : Int), .int (e.2 : Int)])
def TupR {α : Type} (R : Rep α) : Rep (List α) := fun H v xs => ∃ a vs, v = .ref a ∧ H a = some (.tup vs) ∧ Paired (R H) vs xs
def ListR {α : Type} (R : Rep α) : Rep (List α) := fun H v xs => ∃ a vs, v = .ref a ∧ H a = some (.lst vs) ∧ Paired (R H) vs xs
abbrev RowR : Rep (List End) := TupR EndR
abbrev WebR : Rep Web := TupR RowR
abbrev WayR : Rep (List Nat) := TupR IntR
/-- data that no list bears -/
def Firm {α : Type} (R : Rep α) : Prop := ∀ H H' v x, NL H H' → R H v x → R H' v x
theorem firm_int : Firm IntR := fun _ _ _ _ _ h => h
theorem firm_end : Firm EndR := fun H H' v e n ⟨a, h1, h2⟩ => ⟨a, h1, n a _ (fun xs q => nomatch q) h2⟩
theorem firm_tup {α : Type} {R : Rep α} (h : Firm R) : Firm (TupR R) := fun H H' v xs n ⟨a, vs, h1, h2, h3⟩ => ⟨a, vs, h1, n a _ (fun xs q => nomatch q) h2, pd_imp h3 fun x y r => h H H' x y n r⟩
theorem firm_row : Firm RowR := firm_tup firm_end
theorem firm_web : Firm WebR := firm_tup firm_row
theorem firm_way : Firm WayR := firm_tup firm_int
theorem Firm.all {α : Type} {R : Rep α} (h : Firm R) {H H' : Hp} (n : NL H H') {vs : List V} {xs : List α} (p : Paired (R H) vs xs) : Paired (R H') vs xs := pd_imp p fun x y r => h H H' x y n r
section
variable {α : Type} {R : Rep α} {H : Hp} {a : Addr} {xs : List α} {K : PySem.W.Frag}
theorem tup_sq (h : TupR R H (.ref a) xs) : ∃ vs, SqT K H a vs ∧ Paired (R H) vs xs ∧ H a = some (.tup vs) ∧ vs.length = xs.length := by
  obtain ⟨b, vs, e, h1, h2⟩ := h
  cases e
  exact ⟨vs, SqT.of h1, h2, h1, Paired.length h2⟩
theorem tup_at (h : TupR R H (.ref a) xs) {i : Nat} {x : α} (hx : xs[i]? = some x) : ∃ vs u, SqT K H a vs ∧ atI vs (i : Int) = some u ∧ R H u x := by
  obtain ⟨vs, s, p, _⟩ := tup_sq (K := K) h
  obtain ⟨u, hu, r⟩ := pd_get p hx
  exact ⟨vs, u, s, atI_nat hu, r⟩
theorem tup_ref {v : V} (h : TupR R H v xs) : ∃ a, v = .ref a ∧ TupR R H (.ref a) xs := by
  obtain ⟨b, vs, e, h1, h2⟩ := h
  exact ⟨b, e, b, vs, rfl, h1, h2⟩
theorem ints_pd {ns : List Nat} : Paired (IntR H) (ns.map fun n : Nat => V.int (n : Int)) ns := by
  induction ns with
  | nil => exact .nil
  | cons n t ih => exact .cons rfl ih
theorem pd_ints {vs : List V} {ns : List Nat} (h : Paired (IntR H) vs ns) : vs = ns.map fun n : Nat => V.int (n : Int) := by
  induction h with
  | nil => rfl
  | cons r _ ih => rw [List.map_cons, ← ih, show _ = _ from r]
end
/-- a room of a web, an end of it -/
theorem web_row {K : PySem.W.Frag} {H : Hp} {a : Addr} {W : Web} {n d r : Nat} (h : WebR H (.ref a) W) (g : Rg W n d) (hr : r < n) : ∃ vs b, SqT K H a vs ∧ atI vs (r : Int) = some (.ref b) ∧ RowR H (.ref b) (row W r) := by
  obtain ⟨vs, u, h1, h2, h3⟩ := tup_at (K := K) h (g.get hr)
  obtain ⟨b, rfl, h4⟩ := tup_ref h3
  exact ⟨vs, b, h1, h2, h4⟩
theorem row_end {K : PySem.W.Frag} {H : Hp} {b : Addr} {W : Web} {n d r i : Nat} (h : RowR H (.ref b) (row W r)) (g : Rg W n d) (hr : r < n) (hi : i < d) :
    ∃ vs c, SqT K H b vs ∧ atI vs (i : Int) = some (.ref c) ∧ H c = some (.tup [.int ((en W r i).1 : Int), .int ((en W r i).2 : Int)]) := by
  obtain ⟨vs, u, h1, h2, c, rfl, h3⟩ := tup_at (K := K) h (g.end_ hr hi)
  exact ⟨vs, c, h1, h2, h3⟩

/-! ### calls of the text's own defs -/
structure Cal (P : Program) (w : World) (K : PySem.W.Frag) (mg : Str → Option Value) (base : Heap) (k : Nat) (x : Str) (ps : List Str) (sp : Sp) : Prop where
  ex : ∃ (f : Addr) (fd : FuncData), mg x = some (.ref f) ∧ PySem.W.keepIn K (.ref f) = true ∧ Binds K fd ps [] ∧ FnOk P w K mg base CX0 k f fd ps sp
theorem Cal.mono {P : Program} {w : World} {K : PySem.W.Frag} {mg : Str → Option Value} {base : Heap} {j k : Nat} {x : Str} {ps : List Str} {sp : Sp} (c : Cal P w K mg base j x ps sp) (h : j ≤ k) : Cal P w K mg base k x ps sp := by
  obtain ⟨f, fd, h1, h2, h3, h4⟩ := c.ex
  exact ⟨f, fd, h1, h2, h3, h4.mono h⟩
section
variable {X : Cx}
theorem pe_cal {k : Nat} {x : Str} {ps : List Str} {sp : Sp} {t : TA} {e : Expr} {es : List Expr} {p pos : Pos} (c : Cal X.prog X.w X.K X.mg X.base k x ps sp) (hr : Room k X.A) (ha : PA X (e :: es) t) (hg : Gl X x := by rfl)
    (hdb : (x == ("__debug__" : Str)) = false := by decide) (he : starEach (e :: es) X.env = (false, eval e X.env) :: starEach es X.env := by rfl) (hpl : (backTo pos (starEach es X.env)).any (·.1) = false := by rfl) :
    PE X (.Call (.Name x p) (e :: es) [] pos) (tCall sp [] E0 t) := by
  obtain ⟨f, fd, h1, h2, h3, h4⟩ := c.ex
  exact pe_call h4 hr hg h1 h2 h3 .nil pass0 ha hdb he hpl

/-! ### o.f as one of several targets -/
def gFld (K : PySem.W.Frag) (ta : TE) (f : Str) : TG := fun v σ H Q => ta σ H fun x H1 => ∃ a C dx fs, x = .ref a ∧ H1 a = some (.ins C dx fs) ∧ Cls K C ∧ NoAttr K C f ∧ fs.length < 1000 ∧ Q σ (upd H1 a (.ins C dx (putF f v fs)))
theorem pg_fld {o : Expr} {f : Str} {pos : Pos} {ta : TE} (ho : PE X o ta) : PG X (.Attribute o f pos) (gFld X.K ta f) := by
  refine ⟨fun pins s σ H v u Q I r h => ?_⟩
  rw [assign_Attribute]
  refine wpAny_bind (wpAny_holding (thn (ho.run pins s σ H _ I h) fun ov s1 q => ?_))
  obtain ⟨x, H1, I1, rx, a, C, dx, fs, rfl, ha, hc, hn, hl, hq⟩ := q
  cases rx
  refine wpAny_bind (wpAny_standAt (wpAny_bind (wpAny_holding ?_)))
  exact setattr_ok I1 ha hc hn hl r fun s2 I2 => wpAny_release ⟨σ, _, I2, hq⟩
end

/-! a def that lets no exception out -/
open PySem.Spec PyProof.Rows in
theorem okd {P : Program} {w : World} {K : PySem.W.Frag} {mg : Str → Option Value} {base : Heap} {x qual : Str} {st : Stmt} {f : Addr} {fd : FuncData} {N ps : List Str} {k : Nat} {sp : Sp} (F : FnP K x qual st f fd) (S : FnScope N ps (defScope st)) (len : ∀ vs H Q E, sp vs H Q E → vs.length = ps.length)
    (body : ∀ (cdv : Value) (A : Around) (outer : List Env) (s : Shared) (H : Hp) (vs : List V) (Q : VK) (E : XK), Room k (A.deeper (envOfC qual (defScope st) s.heap.objs.size f cdv)) → sp vs H Q E →
      ∃ t, PSs (cxOf CX0 P w K mg base N qual (defScope st) f cdv A outer s H E).nox (defBody st) t ∧ t { nx := fun _ H' => Q .non H', rt := Q } (start N vs) H) : FnOk P w K mg base CX0 (k + 1) f fd ps sp :=
  F.ok S len fun cdv A outer s H vs Q E hr h => by
    obtain ⟨t, h1, h2⟩ := body cdv A outer s H vs Q E hr h
    exact ⟨t, h1.nox, h2⟩
/-! ### the built-ins' names are not taken -/
structure Txt (mg : Str → Option Value) : Prop where
  len : mg "len" = none
  range : mg "range" = none
  enumerate : mg "enumerate" = none
  isinstance : mg "isinstance" = none
  tuple : mg "tuple" = none
  int : mg "int" = none
  bool : mg "bool" = none
  all : mg "all" = none
  any : mg "any" = none
  sorted : mg "sorted" = none
  set : mg "set" = none
  dict : mg "dict" = none
  min : mg "min" = none
  max : mg "max" = none
  list : mg "list" = none
  sum : mg "sum" = none
  abs : mg "abs" = none
end Sw
/-! SwL1 -/
set_option Elab.async false
set_option linter.all false
set_option maxRecDepth 100000
set_option maxHeartbeats 4000000
/-! enumerate(a tuple) in a for -/
namespace Sw
open PySem PySem.Spec PyProof.Rows L2
set_option maxHeartbeats 8000000 in
theorem enumT_made (a : Addr) (its : Array Value) : Meets (Builtin.«enumerate.__new__» ⟨[.type "enumerate", .ref a], []⟩) (fun _ R s => s.heap.IsTuple a its ∧
    R (.ok (.ret (.ref (s.heap.push { cls := .type "tuple_iterator", data := .fields #[.ref a, .int 0 0] }).objs.size)))
      { s with heap := (s.heap.push { cls := .type "tuple_iterator", data := .fields #[.ref a, .int 0 0] }).push { cls := .type "enumerate", data := .fields #[.none, .bool false, .ref s.heap.objs.size, rawInt 0, .none, .none] } }) :=
  .of_wp fun prog w A R s hw => by
    obtain ⟨heap, gs, dr, tks, osys⟩ := s
    obtain ⟨hT, hR⟩ := hw
    have sub := sub_enumerate
    have itr : ∀ {B : Around} {E : Value → Shared → Prop} {Q : Value → Shared → Prop}, Q (.ref heap.objs.size) ⟨heap.push { cls := .type "tuple_iterator", data := .fields #[.ref a, .int 0 0] }, gs, dr, tks, osys⟩ → wpAny (model prog w) B (pyIter (.ref a)) Q E ⟨heap, gs, dr, tks, osys⟩ :=
      fun q => (begins_tuple a its).iter prog w _ _ ⟨heap, gs, dr, tks, osys⟩ _ hT q
    wp_walk using itr
    refine wpAny_stack_any fun st => wpAny_pure ?_
    split
    case h_1 c _ _ _ _ _ =>
      by_cases z : (c == Value.type "enumerate") = true
      · simp only [z]
        wp_walk using itr
        exact ⟨_, rfl, hR⟩
      · simp only [z]
        wp_walk using itr
        exact ⟨_, rfl, hR⟩
    case h_2 =>
      wp_walk using itr
      exact ⟨_, rfl, hR⟩
theorem enumT_call {prog : Program} {w : World} {A : Around} {E : Value → Shared → Prop} {s : Shared} {a : Addr} {its : Array Value} {Q : Value → Shared → Prop} (hT : s.heap.IsTuple a its)
    (q : ∀ h', IsEnum h' (s.heap.objs.size + 1) s.heap.objs.size 0 .none → h'.IsTupleIter s.heap.objs.size a 0 → (∀ b o, s.heap.get? b = some o → h'.get? b = some o) → Q (.ref (s.heap.objs.size + 1)) { s with heap := h' }) :
    wpAny (model prog w) A (call (.type "enumerate") [.ref a]) Q E s := by
  refine callType_new F.called_enumerate (by decide) (F.typeCall_enumerate_1 _) (F.newCall_enumerate_1 _) (fun z => F.args_object_init_2 z _) F.entry_enumerate_new (enumT_made a its) ⟨hT, ?_⟩
  have sz : (s.heap.push { cls := .type "tuple_iterator", data := .fields #[.ref a, .int 0 0] }).objs.size = s.heap.objs.size + 1 := Heap.size_push ..
  have isE : IsEnum ((s.heap.push { cls := .type "tuple_iterator", data := .fields #[.ref a, .int 0 0] }).push { cls := .type "enumerate", data := .fields #[.none, .bool false, .ref s.heap.objs.size, rawInt 0, .none, .none] }) (s.heap.objs.size + 1) s.heap.objs.size 0 .none := by
    have z := Heap.get?_push_size (s.heap.push { cls := .type "tuple_iterator", data := .fields #[.ref a, .int 0 0] }) (o := { cls := .type "enumerate", data := .fields #[.none, .bool false, .ref s.heap.objs.size, rawInt 0, .none, .none] }) rfl
    rw [sz] at z
    exact z
  show _ ∧ _
  rw [sz]
  exact ⟨⟨_, isE, rfl⟩, q _ isE ⟨_, Heap.get?_push_of_some _ (Heap.get?_push_size _ rfl), rfl, rfl⟩ fun b o z => Heap.get?_push_of_some _ (Heap.get?_push_of_some _ z)⟩
def IteT (K : PySem.W.Frag) (a : Addr) : It :=
  ⟨fun i H => ∃ xs x, SqT K H a xs ∧ xs[i]? = some x, fun i H v H' => ∃ p x, v = .ref p ∧ H p = none ∧ H' = upd H p (.tup [.int (i : Nat), x]) ∧ ∀ xs, SqT K H a xs → xs[i]? = some x, fun i H => ∃ xs : List V, SqT K H a xs ∧ xs.length = i⟩
theorem walk_enumT {K : PySem.W.Frag} {a : Addr} {xs : List V} : Walk (IteT K a) xs.length (fun H => SqT K H a xs) (YPair (fun i => some (.int (i : Nat))) fun i => xs[i]?) :=
  ⟨fun i _ hi q => ⟨xs, xs[i], q, by simp [hi]⟩, fun _ q => ⟨xs, q, rfl⟩, fun i H v H' _ q ⟨p, x, h1, h2, h3, h4⟩ => ⟨p, .int (i : Nat), x, h1, h2, h3, rfl, h4 xs q⟩⟩
theorem turn_enumT {P : Program} {w : World} {K : PySem.W.Frag} {elts : List Expr} {kk : Nat} {tpos : Pos} (a e it : Addr) :
    Turn P w K (.Tuple elts kk tpos) (IteT K a) [e, it] e (fun i h => (∃ old, IsEnum h e it ((i : Nat) : Int) old) ∧ h.IsTupleIter it a i ∧ e ≠ it) := by
  have two : ∀ {b : Addr}, b ∈ [e, it] → b = e ∨ b = it := fun hb => by simpa using hb
  refine ⟨List.mem_cons_self, fun i h st b hb => ?_, fun i h h' st k => ?_, ?_, ?_, fun A i s Q E st q => ?_⟩
  · obtain ⟨⟨old, h1⟩, ⟨o, h2, _, h3⟩, _⟩ := st
    rcases two hb with z | z <;> subst z
    · exact ⟨_, h1, fun v q => nomatch q⟩
    · exact ⟨o, h2, fun v q => by rw [h3] at q; cases q⟩
  · obtain ⟨⟨old, h1⟩, h2, h3⟩ := st
    exact ⟨⟨old, k e List.mem_cons_self _ h1⟩, h2.at fun o q => k it (List.mem_cons_of_mem _ List.mem_cons_self) o q, h3⟩
  · rintro X rfl rfl rfl hc i pins s σ H E I hf ⟨⟨old, he⟩, hit, hne⟩ ⟨xs, x, hq, hx⟩
    obtain ⟨its, rv, p, hz⟩ := I.tuple hq
    obtain ⟨u, hu, ru⟩ := rv.get hx
    have lte : e < s.heap.objs.size := Heap.lt_size he
    have lti : it < s.heap.objs.size := by obtain ⟨_, q, _⟩ := hit; exact Heap.lt_size q
    have hai : a ≠ it := fun z => by
      subst z
      obtain ⟨o, q1, q2, _⟩ := hit
      obtain ⟨o', q3, q4, _⟩ := p
      rw [q1] at q3; cases q3
      rw [q2] at q4; exact absurd (Value.type.inj q4) (by decide)
    have hae : e ∉ [it, a] := fun z => by
      rcases (show e = it ∨ e = a by simpa using z) with z | z
      · exact hne z
      · subst z
        obtain ⟨o', q3, q4, _⟩ := p
        rw [show s.heap.get? e = _ from he] at q3; cases q3
        exact absurd (Value.type.inj q4) (by decide)
    refine wpAny_pyNext_enum_itemD (Draws.tuple (A := X.A.in1) (show X.A.in1.handled = none from I.ok.hd hc) it a hai its.toArray) he (show s.heap.IsTupleIter it a i ∧ s.heap.IsTuple a its.toArray from ⟨hit, p⟩) (i := i) (by simpa using (List.getElem?_eq_some_iff.mp hu).1) hne hae fun y h' tk hy ho st' hp hsz kp => ?_
    have ey : y = u := by
      rw [List.getElem?_toArray, hu] at hy
      exact (Option.some.inj hy).symm
    subst ey
    refine ⟨_, rfl, wpAny_letOwnedTupleGo_enum (s := { s with heap := h', toks := tk + 1 }) ho fun h'' he' sb => ?_⟩
    have hp2 : h''.get? s.heap.objs.size = some { cls := .type "tuple", data := .seq #[.int i tk, y] } := (sb.2 _ (Nat.ne_of_gt lte)).trans hp
    have made : ObjOk X.prog X.w (upd H s.heap.objs.size (.tup [.int (i : Nat), x])) h'' s.heap.objs.size (.tup [.int (i : Nat), x]) := ⟨by show 2 ≤ sizeLine; decide, [.int i tk, y], .cons ⟨_, rfl⟩ (.cons ru .nil), ⟨_, hp2, rfl, _, rfl⟩⟩
    have I1 : Inv X pins σ (upd H s.heap.objs.size (.tup [.int (i : Nat), x])) { s with heap := h'', toks := tk + 1 } :=
      I.turnedNew (ch := [e, it]) (fun b ob hb q => (sb.2 b fun z => hb (by simp [z])).trans (kp b ob (fun z => hb (by simp [z])) (fun z => hb (by simp [z])) q)) hf (Nat.le_refl _) made
    refine ⟨.ref s.heap.objs.size, _, I1, rfl, ⟨_, x, rfl, I.hok.fresh (Nat.le_refl _), rfl, fun ys hy => by rw [I.tuple_inj hy hq]; exact hx⟩, ⟨⟨y, ?_⟩, st'.1.at fun o q => (sb.2 it (Ne.symm hne)).trans q, hne⟩, fun b hb => ?_⟩
    · rw [show ((i + 1 : Nat) : Int) = (i : Int) + 1 by omega]
      exact he'
    · have hb' : b < s.heap.objs.size := by rcases two hb with z | z <;> subst z <;> assumption
      rw [upd_ne (Nat.ne_of_lt hb')]
      exact (hf b hb).1
  · rintro X rfl rfl rfl hc i pins s σ H E I hf ⟨⟨old, he⟩, hit, hne⟩ ⟨xs, hq, hx⟩
    obtain ⟨its, rv, p, hz⟩ := I.tuple hq
    have hl := rv.length
    obtain ⟨f0, f1, f2, f3, f4, f5⟩ := hf it (List.mem_cons_of_mem _ List.mem_cons_self)
    have hai : a ≠ it := fun z => by
      subst z
      obtain ⟨o, q1, q2, _⟩ := hit
      obtain ⟨o', q3, q4, _⟩ := p
      rw [q1] at q3; cases q3
      rw [q2] at q4; exact absurd (Value.type.inj q4) (by decide)
    have en : its.toArray.size = i := by rw [List.size_toArray, ← hl, hx]
    have D := Draws.tuple (prog := X.prog) (w := X.w) (A := X.A.in1) (show X.A.in1.handled = none from I.ok.hd hc) it a hai its.toArray
    rw [en] at D
    exact wpAny_pyNext_enum_endD D he (show s.heap.IsTupleIter it a i ∧ s.heap.IsTuple a its.toArray from ⟨hit, p⟩) fun h' eb => ⟨rfl, I.turned (t' := s.toks) (fun b o hb q => eb b o hb q) f0 f1 f3 f4 f5⟩
  · obtain ⟨⟨old, he⟩, _⟩ := st
    exact wpAny_pyIter_enum he q
def iEnumT (K : PySem.W.Frag) (ta : TA) : TI := fun σ H R => ta σ H fun vs H1 => ∃ a xs, vs = [.ref a] ∧ SqT K H1 a xs ∧ R (IteT K a) H1
theorem pi_enumT {X : Cx} {e : Expr} {ta : TA} {p pos tpos : Pos} {elts : List Expr} {kk : Nat} (hg : Gl X "enumerate") (hm : X.mg "enumerate" = none) (ha : PA X [e] ta) (hs : starEach [e] X.env = [(false, eval e X.env)] := by rfl) :
    PI X (.Tuple elts kk tpos) (.Call (.Name "enumerate" p) [e] [] pos) (iEnumT X.K ta) := by
  refine ⟨fun pins s σ H R I h => ?_⟩
  refine Call_ (ld_blt I hg hm boot_enumerate (PyProof.Rows.callWith_type1 (thn (ha.run pos pins s σ H _ I h) fun us s1 q => ?_) hs rfl))
  obtain ⟨vs, H1, I1, r1, a, xs, rfl, hq, q1⟩ := q
  obtain ⟨u, rfl, ru⟩ := vals1 r1
  cases ru
  obtain ⟨its, rv, pt, hz⟩ := I1.tuple hq
  refine enumT_call pt fun h' he hit kp => wpAny_pyIter_enum he ?_
  refine ⟨s1.heap.objs.size + 1, [s1.heap.objs.size + 1, s1.heap.objs.size], _, _, H1, rfl, I1.kept (t' := s1.toks) kp, turn_enumT a (s1.heap.objs.size + 1) s1.heap.objs.size, ⟨⟨.none, he⟩, hit, Nat.succ_ne_self _⟩, fun b hb => ?_, q1⟩
  have hle : s1.heap.objs.size ≤ b := by
    rcases (show b = s1.heap.objs.size + 1 ∨ b = s1.heap.objs.size by simpa using hb) with z | z
    · rw [z]; exact Nat.le_succ _
    · rw [z]; exact Nat.le_refl _
  exact I1.fpOk hle (I1.hok.fresh hle)
end Sw
/-! SwL2 -/
set_option Elab.async false
set_option linter.all false
set_option maxRecDepth 100000
set_option maxHeartbeats 4000000
/-! dict(d) and dict(pairs) where keys are tuples -/
namespace Sw
open PySem PySem.Spec PyProof.Rows L2
abbrev knT (P : Program) (w : World) : HeapKind P w (List Key) := tupleKind (mixKind P w)
abbrev TE3 := List (List Key × Addr × Value)
section
variable {P : Program} {w : World} {H : Hp} {h h' : Heap} {a : Addr}
/-- the entries of a dict of tuple keys -/
theorem dt_in {kvs : List (List Key × V)} (ok : HOk P w H h) (e : H a = some (.dT kvs)) : ∃ xs : TE3, KT H kvs xs ∧ h.DictOfH (knT P w) a xs ∧ (a == sysModules) = false ∧ kvs.length ≤ sizeLine := by
  obtain ⟨z, y, xs, r, d⟩ := dt_of ok e
  exact ⟨xs, r, d, y, z⟩
theorem kt_keys {kvs : List (List Key × V)} {xs : TE3} (r : KT H kvs xs) : xs.map (·.1) = kvs.map (·.1) := by
  induction r with
  | nil => rfl
  | cons q _ ih => rw [List.map_cons, List.map_cons, ih, q.1]
/-- tracked keys are keys -/
theorem kt_is (ok : HOk P w H h) {kvs : List (List Key × V)} {xs : TE3} (r : KT H kvs xs) : ∀ x ∈ xs, (knT P w).is h x.1 x.2.1 := fun x hx => by
  obtain ⟨p, _, q⟩ := pd_mem' r hx
  exact key_of ok (by rw [← q.1]; exact q.2.1)
theorem kt_put {kvs : List (List Key × V)} {xs : TE3} (z : kvs.length ≤ sizeLine) (hd : (a == sysModules) = false) (r : KT H kvs xs) (d : h.DictOfH (knT P w) a xs) : ObjOk P w H h a (.dT kvs) := by
  obtain ⟨o, es, ep, h1, h2, h3, h4, _, h5⟩ := d
  exact ⟨z, hd, xs, r, o, es, ep, h1, h2, h3, h4, h5⟩
end
section
variable {X : Cx}
/-- the hash of a key -/
abbrev hsT (P : Program) (w : World) (ks : List Key) : Int := tupleKeyHash (mixKind P w) ks
theorem cr_dictT_ (hu : X.A.units + 1 + 100 < cLine) : CallR X (.type "dict") (fun xs H Q => ∃ (a : Addr) (kvs : List (List Key × V)), xs = [.ref a] ∧ H a = some (.dT kvs) ∧ (kvs.map fun kv => hsT X.prog X.w kv.1).Nodup ∧
    ∀ p, H p = none → Q (.ref p) (upd H p (.dT kvs))) := by
  intro pins s σ H xs us Q I r ⟨a, kvs, ex, ha, nh, q⟩
  subst ex
  obtain ⟨u, eu, ru⟩ := vals1 r
  subst eu
  cases ru
  obtain ⟨xs, kt, dd, lo, sz⟩ := dt_in I.hok ha
  have lt : a < s.heap.objs.size := dd.lt_size
  have kp : ∀ b o, s.heap.get? b = some o → (s.heap.push { cls := .type "dict", data := .dict #[] }).get? b = some o := fun b o e => Heap.get?_push_of_some _ e
  have dd2 : (s.heap.push { cls := .type "dict", data := .dict #[] }).DictOfH (knT X.prog X.w) a xs := dd.at' (kp a) (kt_is (I.hok.kept kp) kt)
  have new : (s.heap.push { cls := .type "dict", data := .dict #[] }).DictOfH (knT X.prog X.w) s.heap.objs.size [] := Heap.DictOfH.new s.heap
  have hne : s.heap.objs.size ≠ a := Nat.ne_of_gt lt
  have hap : (xs.map fun x => (knT X.prog X.w).hash x.1).Nodup := by
    have e : (xs.map fun x => (knT X.prog X.w).hash x.1) = kvs.map fun kv => hsT X.prog X.w kv.1 := by
      have e1 : (xs.map fun x => (knT X.prog X.w).hash x.1) = (xs.map (·.1)).map (hsT X.prog X.w) := by rw [List.map_map]; rfl
      rw [e1, kt_keys kt, List.map_map]; rfl
    rw [e]; exact nh
  have hty : ∀ x ∈ xs, Shared.TypeIs { s with heap := s.heap.push { cls := .type "dict", data := .dict #[] } } (.ref x.2.1) "tuple" := fun x hx =>
    IsTupleKey.typeIs (s := { s with heap := s.heap.push { cls := .type "dict", data := .dict #[] } }) (show IsTupleKey (mixKind X.prog X.w) _ x.1 x.2.1 from kt_is (I.hok.kept kp) kt x hx)
  refine callType_codes (Q₁ := fun obj s₁ => obj = .ref s.heap.objs.size ∧ s₁ = { s with heap := s.heap.push { cls := .type "dict", data := .dict #[] } }) PySem.F.kt_called_dict (PySem.F.kt_typeCall_dict_1 _) PySem.F.entry_dict_init (kt_code_dict_new _ ⟨rfl, rfl⟩) ?_
  rintro obj s₁ ⟨rfl, rfl⟩
  refine ⟨new.typeIs, PySem.F.args_dict_init_2 _ _, ?_⟩
  unfold Builtin.«dict.__init__»
  refine wpAny_bind ?_
  unfold Builtin.Dict.selfAndRest
  refine wpAny_bind (wpAny_notOrdered_dict new.typeIs (show wpAny _ _ (pure (s.heap.objs.size, [Value.ref a])) _ _ _ from wpAny_pure ?_))
  refine updateFrom_dictH (A := X.A.in1) .none (show X.A.in1.in1.units < cLine from ?_) hne lo new dd2 (.inr ⟨hty, hap⟩) (by rw [List.length_nil, Nat.zero_add, ← Paired.length kt]; exact sz) fun h' hd' _ hs => ⟨rfl, ?_⟩
  · show X.A.units + 1 + 1 < cLine
    omega
  rw [storedAllH_nil_of_nodup xs dd.nodup] at hd'
  have kp2 : ∀ b o, s.heap.get? b = some o → h'.get? b = some o := fun b o e => (hs.2 b (Nat.ne_of_lt (Heap.lt_size e))).trans (kp b o e)
  have fr := I.hok.fresh (Nat.le_refl s.heap.objs.size)
  refine ⟨.ref s.heap.objs.size, upd H s.heap.objs.size (.dT kvs), I.laid (t' := s.toks) kp2 (Nat.le_refl _) (kt_put sz (beq_eq_false_iff_ne.mpr (Nat.ne_of_gt I.big)) (kt.keeps fun b ys e => ?_) hd'), rfl, q _ fr⟩
  rw [upd_ne (ne_of_none e fr)]; exact e
/-! ### dict(pairs) -/
def mergeT (kvs more : List (List Key × V)) : List (List Key × V) := more.foldl (fun acc kv => putK acc kv.1 kv.2) kvs
theorem length_mergeT : ∀ (more kvs : List (List Key × V)), (mergeT kvs more).length ≤ kvs.length + more.length
  | [], _ => Nat.le_refl _
  | p :: r, kvs => by
    have h1 := length_mergeT r (putK kvs p.1 p.2)
    have h2 := length_putK kvs p.1 p.2
    show (mergeT (putK kvs p.1 p.2) r).length ≤ kvs.length + (r.length + 1)
    omega
theorem kt_merge {H : Hp} : ∀ {more : List (List Key × V)} {ms xs : TE3} {kvs : List (List Key × V)}, KT H more ms → KT H kvs xs → KT H (mergeT kvs more) (storedAllH xs ms)
  | [], _, _, _, r, h => by cases r; exact h
  | p :: more, _, xs, kvs, r, h => by
    cases r with
    | @cons _ q _ ms hq t =>
      have e : KT H (putK kvs p.1 p.2) (storedH xs q.1 q.2.1 q.2.2) := by
        have := h.put p.1 (b := q.2.1) hq.2.1 hq.2.2
        rw [← hq.1]; exact this
      have z := kt_merge (more := more) (ms := ms) t e
      exact z
/-- pairs of a tuple and what it leads to, in the heap -/
theorem prs_of {pins : List (Addr × Obj)} {σ : L2.St} {H : Hp} {s : Shared} (I : Inv X pins σ H s) : ∀ {ps : List Addr} {kvs : List (List Key × V)}, Paired (fun p kv => ∃ b, H p = some (.tup [.ref b, kv.2]) ∧ H b = some (.tup (kv.1.map kV))) ps kvs →
    ∃ ms : TE3, KT H kvs ms ∧ ms.length = ps.length ∧ ∀ (j : Nat) (m : List Key × Addr × Value), ms[j]? = some m → ∃ p, ps[j]? = some p ∧ s.heap.IsTuple p #[.ref m.2.1, m.2.2]
  | _, _, .nil => ⟨[], .nil, rfl, fun j m e => by simp at e⟩
  | _, _, .cons (a := p) (b := kv) ⟨b, hp, hb⟩ t => by
    obtain ⟨ms, r, hl, hm⟩ := prs_of I t
    obtain ⟨its, rv, ht, _⟩ := I.tuple (SqT.of hp)
    obtain ⟨u, y, ei, ru, ry⟩ := vals2 rv
    subst ei
    cases ru
    refine ⟨(kv.1, b, y) :: ms, .cons ⟨rfl, hb, ry⟩ r, by rw [List.length_cons, List.length_cons, hl], fun j m e => ?_⟩
    cases j with
    | zero =>
      have e' : (kv.1, b, y) = m := Option.some.inj e
      subst e'
      exact ⟨p, rfl, ht⟩
    | succ j => exact hm j m e
theorem cr_dictPT_ (hc : X.calm = true) (hu : X.A.units + 1 + 100 < cLine) : CallR X (.type "dict") (fun xs H Q => ∃ (a : Addr) (ps : List Addr) (kvs : List (List Key × V)), xs = [.ref a] ∧ H a = some (.lst (ps.map V.ref)) ∧
    Paired (fun p kv => ∃ b, H p = some (.tup [.ref b, kv.2]) ∧ H b = some (.tup (kv.1.map kV))) ps kvs ∧ ∀ p, H p = none → Q (.ref p) (upd H p (.dT (mergeT [] kvs)))) := by
  intro pins s σ H xs us Q I r ⟨a, ps, kvs, ex, ha, hp, q⟩
  subst ex
  obtain ⟨u, eu, ru⟩ := vals1 r
  subst eu
  cases ru
  obtain ⟨its, rv, pl, hz⟩ := I.list (SqL.of ha)
  have ei := refs_at rv
  subst ei
  rw [List.length_map] at hz
  obtain ⟨ms, kt, hl, hm⟩ := prs_of I hp
  obtain ⟨o, n, ho, hcl, hd, hdat⟩ := pl
  have items : PairItems s.heap (ps.map Value.ref).toArray (fun j => ps.getD j 0) (ms.map fun m => (Value.ref m.2.1, m.2.2)) := by
    refine ⟨by simp [hl], fun j k v e => ?_⟩
    rw [List.getElem?_map] at e
    obtain ⟨m, hmj, em⟩ := Option.map_eq_some_iff.mp e
    obtain ⟨p, hpj, ht⟩ := hm j m hmj
    have eg : ps.getD j 0 = p := getD_of hpj
    rw [Prod.mk.injEq] at em
    refine ⟨by simp [hpj], .inl ?_⟩
    show s.heap.IsTuple (ps.getD j 0) #[k, v]
    rw [eg, ← em.1, ← em.2]; exact ht
  have A := PairArg.list (prog := X.prog) (w := X.w) a (ps.map Value.ref).toArray (fun j => ps.getD j 0) (ms.map fun m => (Value.ref m.2.1, m.2.2))
  have hk : PairsHaveH (knT X.prog X.w) (ms.map fun m => (Value.ref m.2.1, m.2.2)).length (PairRel (ms.map fun m => (Value.ref m.2.1, m.2.2))) ms := by
    refine ⟨by simp, fun i key v e => ?_⟩
    have e : (ms.map fun m => (Value.ref m.2.1, m.2.2))[i]? = some (key, v) := e
    rw [List.getElem?_map] at e
    obtain ⟨m, hmj, em⟩ := Option.map_eq_some_iff.mp e
    rw [Prod.mk.injEq] at em
    exact ⟨m.1, m.2.1, by rw [hmj, ← em.2], em.1.symm⟩
  refine call_dict_pairsH A (I.ok.hd hc) (show X.A.in1.in1.units < cLine from ?_) ⟨⟨o, n, ho, hcl, hd, hdat⟩, items⟩ hk (fun h' k x hx => ?_) (by simp [hl]; exact hz) fun h' tk hd' kp => ?_
  · show X.A.units + 1 + 1 < cLine
    omega
  · obtain ⟨p, _, z⟩ := pd_mem' kt hx
    refine key_of (HOk.kept I.hok (h' := h') fun b o e => ?_) (by rw [← z.1]; exact z.2.1)
    exact k b o (Nat.ne_of_lt (Heap.lt_size e)) (by simp) e
  · have fr := I.hok.fresh (Nat.le_refl s.heap.objs.size)
    have kt2 : KT H (mergeT [] kvs) (storedAllH [] ms) := kt_merge kt .nil
    have len : (mergeT [] kvs).length ≤ sizeLine := by
      have := length_mergeT kvs []
      have e1 := Paired.length kt
      rw [List.length_nil, Nat.zero_add] at this
      omega
    refine ⟨.ref s.heap.objs.size, upd H s.heap.objs.size (.dT (mergeT [] kvs)), I.laid (t' := tk) (fun b o e => kp b o (by simp) e) (Nat.le_refl _) (kt_put len (beq_eq_false_iff_ne.mpr (Nat.ne_of_gt I.big)) (kt2.keeps fun b ys e => ?_) hd'), rfl, q _ fr⟩
    rw [upd_ne (ne_of_none e fr)]; exact e
end
/-! ### the keys of ends -/
def keyE (e : End) : List Key := [.inl (e.1 : Int), .inl (e.2 : Int)]
theorem keyE_inj {e f : End} (h : keyE e = keyE f) : e = f := by
  unfold keyE at h
  simp only [List.cons.injEq, Sum.inl.injEq, and_true] at h
  exact Prod.ext (by omega) (by omega)
theorem keyE_kV {e : End} : (keyE e).map kV = [.int (e.1 : Int), .int (e.2 : Int)] := rfl
theorem keyE_dec {e f : End} : decide (keyE e = keyE f) = decide (e = f) := by
  by_cases h : e = f
  · rw [decide_eq_true h, h]; exact decide_eq_true rfl
  · rw [decide_eq_false h, decide_eq_false fun z => h (keyE_inj z)]
def hsE (e : End) : Int := reduceHash (Builtin.Tuple.tupleHashOf [hashInt (e.1 : Int), hashInt (e.2 : Int)])
theorem hsE_eq (P : Program) (w : World) (e : End) : hsT P w (keyE e) = hsE e := rfl
theorem hsE_all : ((allEnds 9 9).map hsE).Nodup := by decide +kernel
theorem map_inj_on {α β : Type} {f : α → β} : ∀ {l : List α}, (l.map f).Nodup → ∀ x ∈ l, ∀ y ∈ l, f x = f y → x = y
  | [], _, x, hx, _, _, _ => by simp at hx
  | a :: t, h, x, hx, y, hy, e => by
    obtain ⟨h1, h2⟩ := List.nodup_cons.mp h
    rcases List.mem_cons.mp hx with zx | zx <;> rcases List.mem_cons.mp hy with zy | zy
    · rw [zx, zy]
    · exact absurd (List.mem_map.mpr ⟨y, zy, by rw [← e, zx]⟩) h1
    · exact absurd (List.mem_map.mpr ⟨x, zx, by rw [e, zy]⟩) h1
    · exact map_inj_on h2 x zx y zy e
/-- keys that differ hash apart -/
theorem hsE_nodup {l : List End} (hn : l.Nodup) (h9 : ∀ e ∈ l, e.1 < 9 ∧ e.2 < 9) : (l.map hsE).Nodup := by
  refine List.pairwise_map.mpr (List.Pairwise.imp_of_mem (R := fun a b => a ≠ b) (fun {a b} ha hb hne e => hne ?_) hn)
  exact map_inj_on hsE_all a (mem_allEnds.mpr (h9 a ha)) b (mem_allEnds.mpr (h9 b hb)) e
/-! ### leads -/
def LdR (H : Hp) (kvs : List (List Key × V)) (m : Ld) : Prop := Paired (fun p q => p.1 = keyE q.1 ∧ EndR H p.2 q.2) kvs m
def LeadAt (H : Hp) (d : Addr) (m : Ld) : Prop := ∃ kvs, H d = some (.dT kvs) ∧ LdR H kvs m
theorem LdR.firm {H H' : Hp} {kvs : List (List Key × V)} {m : Ld} (n : NL H H') (h : LdR H kvs m) : LdR H' kvs m := pd_imp h fun p q z => ⟨z.1, firm_end H H' _ _ n z.2⟩
theorem LeadAt.firm {H H' : Hp} {d : Addr} {m : Ld} (n : NL H H') (h : LeadAt H d m) : LeadAt H' d m := by
  obtain ⟨kvs, h1, h2⟩ := h
  exact ⟨kvs, n d _ (fun xs q => nomatch q) h1, h2.firm n⟩
theorem LdR.look {H : Hp} {kvs : List (List Key × V)} {m : Ld} (h : LdR H kvs m) (e : End) : (lk m e = none ∧ valV kvs (keyE e) = none) ∨ ∃ f v, lk m e = some f ∧ valV kvs (keyE e) = some v ∧ EndR H v f := by
  induction h with
  | nil => exact .inl ⟨rfl, rfl⟩
  | @cons p q ps qs z t ih =>
    by_cases k : q.1 = e
    · have k2 : p.1 = keyE e := by rw [z.1, k]
      exact .inr ⟨q.2, p.2, lk_pos k, valV_pos k2, z.2⟩
    · have k2 : ¬ p.1 = keyE e := fun y => k (keyE_inj (z.1.symm.trans y))
      rw [lk_neg k, valV_neg k2]; exact ih
theorem LdR.some_ {H : Hp} {kvs : List (List Key × V)} {m : Ld} (h : LdR H kvs m) {e f : End} (q : lk m e = some f) : ∃ v, valV kvs (keyE e) = some v ∧ EndR H v f := by
  rcases h.look e with ⟨h1, _⟩ | ⟨f', v, h1, h2, h3⟩
  · rw [q] at h1; cases h1
  · rw [q] at h1; cases h1; exact ⟨v, h2, h3⟩
theorem LdR.isSome {H : Hp} {kvs : List (List Key × V)} {m : Ld} (h : LdR H kvs m) (e : End) : (valV kvs (keyE e)).isSome = (lk m e).isSome := by
  rcases h.look e with ⟨h1, h2⟩ | ⟨f', v, h1, h2, _⟩ <;> rw [h1, h2] <;> rfl
theorem LdR.put {H : Hp} {kvs : List (List Key × V)} {m : Ld} (h : LdR H kvs m) (e f : End) {v : V} (r : EndR H v f) : LdR H (putK kvs (keyE e) v) (put m e f) := by
  have q := h.isSome e
  unfold putK Sw.put
  rw [valV_any, lk_any, q]
  by_cases z : (lk m e).isSome = true
  · rw [if_pos z, if_pos z]
    clear q z
    induction h with
    | nil => exact .nil
    | @cons p y ps ys c t ih =>
      rw [List.map_cons, List.map_cons]
      refine .cons ?_ ih
      by_cases k : y.1 = e
      · have k2 : p.1 = keyE e := by rw [c.1, k]
        rw [if_pos k, if_pos k2]; exact ⟨c.1, r⟩
      · have k2 : ¬ p.1 = keyE e := fun b => k (keyE_inj (c.1.symm.trans b))
        rw [if_neg k, if_neg k2]; exact c
  · rw [if_neg z, if_neg z]
    exact pd_app h (.cons ⟨rfl, r⟩ .nil)
theorem LdR.hash {H : Hp} {kvs : List (List Key × V)} {m : Ld} (h : LdR H kvs m) (hn : (m.map (·.1)).Nodup) (h9 : ∀ e f, lk m e = some f → e.1 < 9 ∧ e.2 < 9) (P : Program) (w : World) : (kvs.map fun kv => hsT P w kv.1).Nodup := by
  have e : (kvs.map fun kv => hsT P w kv.1) = (m.map (·.1)).map hsE := by
    clear hn h9
    induction h with
    | nil => rfl
    | cons z _ ih => rw [List.map_cons, List.map_cons, List.map_cons, ih, z.1, hsE_eq]
  rw [e]
  refine hsE_nodup hn fun k hk => ?_
  obtain ⟨f, hf⟩ := Option.isSome_iff_exists.mp (lk_keys.mpr hk)
  exact h9 k f hf
end Sw
/-! SwK -/
set_option Elab.async false
set_option linter.all false
set_option maxRecDepth 100000
set_option maxHeartbeats 4000000
/-! the rules that ask for the kept part, said with it by name -/
namespace Sw
open PySem L2
theorem _root_.L2.Room.units1 {k : Nat} {A : Around} (r : Room k A) : A.units + 65 < cLine := by have := r.un; omega
theorem hu1_of {k : Nat} {A : Around} (r : Room k A) : A.units + 1 + 100 < cLine := by have := r.un; omega
theorem hu8_of {k : Nat} {A : Around} (r : Room k A) : A.units + 8 + 100 < cLine := by have := r.un; omega
section
variable {X : Cx} (K : PySem.W.Frag) (h : X.K = K := by rfl)
include h
theorem kIxT : IxR X (rIxT K) := h ▸ ix_tup
theorem kIxL : IxR X (rIxL K) := h ▸ ix_list
def rLn (K : PySem.W.Frag) : List V → Hp → VK → Prop := fun zs G Q => ∃ q vs, zs = [.ref q] ∧ (SqL K G q vs ∨ SqT K G q vs) ∧ Q (.int vs.length) G
theorem kLen : CallR X (.builtin "len") (rLn K) := h ▸ call_len_seq
def rTupOf (K : PySem.W.Frag) : List V → Hp → VK → Prop := fun xs H Q => ∃ p ys, xs = [.ref p] ∧ ((SqL K H p ys ∧ ∀ l, H l = none → Q (.ref l) (upd H l (.tup ys))) ∨ (SqT K H p ys ∧ Q (.ref p) H))
theorem kTupOf : CallR X (.type "tuple") (rTupOf K) := h ▸ call_tuple_of
def rLstOf (K : PySem.W.Frag) : List V → Hp → VK → Prop := fun xs H Q => ∃ p ys, xs = [.ref p] ∧ (SqL K H p ys ∨ SqT K H p ys) ∧ ∀ l, H l = none → Q (.ref l) (upd H l (.lst ys))
theorem kLstOf : CallR X (.type "list") (rLstOf K) := h ▸ call_list_of
theorem kIsi : CallR X (.builtin "isinstance") (rIsi K) := h ▸ call_isi
theorem kAll (hc : X.calm = true) : CallR X (.builtin "all") (rAll K) := h ▸ cr_all hc
theorem kAny (hc : X.calm = true) : CallR X (.builtin "any") (rAny K) := h ▸ cr_any hc
theorem kSum (hc : X.calm = true) : CallR X (.builtin "sum") (rSum K) := h ▸ cr_sum hc
theorem kEqD (hu : X.A.units + 64 < cLine) : OpR X (compareOp .Eq) (rEqD K) := h ▸ op_eqD hu
theorem kNeD (hu : X.A.units + 64 < cLine) : OpR X (compareOp .NotEq) (rNeD K) := h ▸ op_neD hu
theorem kInD (hu : X.A.units + 65 < cLine) : OpR X (compareOp .In) (rInD K) := h ▸ op_inD hu
theorem kNotInD (hu : X.A.units + 65 < cLine) : OpR X (compareOp .NotIn) (rNotInD K) := h ▸ op_notInD hu
theorem kIn : OpR X (compareOp .In) (rIn K false) := h ▸ op_in_seq
theorem kNotIn : OpR X (compareOp .NotIn) (rIn K true) := h ▸ op_notIn_seq
theorem kSlL : L2.SlR X (rSlL K) := h ▸ sl_list
theorem kSlT : L2.SlR X (rSlA K) := h ▸ sl_tupA
theorem kCatT : OpR X (binaryOp .Add) (rCatA K) := h ▸ op_catA
theorem kTup {tg l : Expr} {tl : TE} (hl : PE X l tl) : PI X tg l (iTup K tl) := h ▸ pi_tup hl
theorem kList {tg l : Expr} {tl : TE} (hl : PE X l tl) : PI X tg l (iList K tl) := h ▸ pi_list hl
theorem kEnum {e : Expr} {ta : TA} {p pos tpos : Pos} {elts : List Expr} {kk : Nat} (hg : Gl X "enumerate") (hm : X.mg "enumerate" = none) (ha : PA X [e] ta) (hs : starEach [e] X.env = [(false, eval e X.env)] := by rfl) :
    PI X (.Tuple elts kk tpos) (.Call (.Name "enumerate" p) [e] [] pos) (iEnum K ta) := h ▸ pi_enum hg hm ha hs
theorem kEnumT {e : Expr} {ta : TA} {p pos tpos : Pos} {elts : List Expr} {kk : Nat} (hg : Gl X "enumerate") (hm : X.mg "enumerate" = none) (ha : PA X [e] ta) (hs : starEach [e] X.env = [(false, eval e X.env)] := by rfl) :
    PI X (.Tuple elts kk tpos) (.Call (.Name "enumerate" p) [e] [] pos) (iEnumT K ta) := h ▸ pi_enumT hg hm ha hs
theorem kgTup {es : List Expr} {k : Nat} {t : TGs} {n : Nat} {pos : Pos} (hc : X.calm = true) (hp : PGs X es t)
    (hn : (assignEach es X.env).length = n := by rfl) (hst : (assignEach es X.env).findIdx? (·.1) = none := by rfl) : PG X (.Tuple es k pos) (gTup K n t) := h ▸ pg_tup hc hp hn hst
theorem kSetFld {o value : Expr} {f : Str} {pos pos' : Pos} {ta tv : TE} (ha : PE X o ta) (hv : PE X value tv) (hs : swapsWith value (some (.Attribute o f pos')) pos.line X.env = pure false) : PS X (.Assign [.Attribute o f pos'] value pos) (sFld K ta tv f) := h ▸ ps_fld ha hv hs
theorem kFldAug {o value : Expr} {f : Str} {pos tpos : Pos} {ta tv : TE} {op : Operator} {rd : V → V → Hp → VK → Prop} (ha : PE X o ta) (hv : PE X value tv) (hop : InOp X op rd) : PS X (.AugAssign (.Attribute o f tpos) op value pos) (sFldAug K ta tv rd f) := h ▸ ps_fldaug ha hv hop
theorem kgFld {o : Expr} {f : Str} {pos : Pos} {ta : TE} (ho : PE X o ta) : PG X (.Attribute o f pos) (gFld K ta f) := h ▸ pg_fld ho
theorem kFld {e : Expr} {f : Str} {pos : Pos} {ta : TE} (he : PE X e ta) (hb : attributeBase e f X.env (eval e X.env) = eval e X.env) : PE X (.Attribute e f pos) (tFld K ta f) := h ▸ pe_fld he hb
end
section
variable {X : Cx} (w : World) (h : X.w = w := by rfl)
include h
theorem kSortSet (hc : X.calm = true) : CallR X (.builtin "sorted") (rSortedSet w) := h ▸ cr_sortedSet hc
end
end Sw
/-! SwL3 -/
set_option Elab.async false
set_option linter.all false
set_option maxRecDepth 100000
set_option maxHeartbeats 4000000
/-! set(t) and set(xs) of ints, with the order known -/
namespace Sw
open PySem PySem.Spec PyProof.Rows L2
abbrev oS (w : World) : Obj := { cls := .type "set", dict := none, data := .set #[] 0 (.fresh 0 0 (!w.params.followText "set-order")) }
section
variable {P : Program} {w : World} {A : Around} {E : Value → Shared → Prop} {s : Shared}
set_option maxHeartbeats 8000000 in
theorem setL_made {l : Addr} {its : Array Value} (ns : List Int) {Q : Value → Shared → Prop} (hh : A.handled = none) (hl : s.heap.IsList l its) (hit : IntsAre its.toList ns) (hb : ns.length + 1 < scanBound)
    (h : ∀ (g : Heap) (tk c : Nat), SetR w g s.heap.objs.size (fun j => decide (j ∈ ns)) c → c ≤ ns.length → (∀ b o, s.heap.get? b = some o → g.get? b = some o) → Q (.ref s.heap.objs.size) { s with heap := g, toks := tk }) :
    wpAny (model P w) A (call (.type "set") [.ref l]) Q E s := by
  have hsz : its.size = ns.length := by rw [← IntsAre.length hit, Array.length_toList]
  obtain ⟨c, tl, hmro⟩ := F.called_set.mro
  have k1 := F.called_set.made
  have k2 := F.called_set.sub
  refine wpAny_call (codeAny_of_tree ?_)
  show wpAny _ _ (callAny (.type "set") _) _ _ _
  refine wpAny_pure ⟨Code.quiet_builtin _ (by decide +kernel), codeAny_builtin F.entry_type_call ?_⟩
  rw [Around.under_plain (weight_type_call_type "set" [.ref l] []) rfl]
  have k3 := F.called_set.notType
  have k4 := F.called_set.canCreate
  have k5 := F.typeCall_set_1 (.ref l)
  repeat (any_goals (first | assumption | wp_step))
  refine codeAny_mono (code_set_led1 (.ref l) (E := E) (Q₁ := fun o t => o = .ref s.heap.objs.size ∧ t = { s with heap := s.heap.push (oS w) }) ⟨rfl, rfl⟩) fun r t hr => ?_
  cases r with
  | error e => exact hr
  | ok fl =>
    cases fl with
    | ret o =>
      obtain ⟨rfl, rfl⟩ := hr
      have hS : (s.heap.push (oS w)).get? s.heap.objs.size = some (oS w) := Heap.get?_push_size _ rfl
      have hT : Shared.TypeIs { s with heap := s.heap.push (oS w) } (.ref s.heap.objs.size) "set" := ⟨_, hS, rfl⟩
      have k6 := F.called_set.init.lookup
      have k7 := F.called_set.init.bind (.ref s.heap.objs.size)
      repeat (any_goals (first | assumption | wp_step))
      refine codeAny_mono (codeAny_call_builtin (R := wants (fun r t => r = .none ∧ ∃ g tk c, t = { s with heap := g, toks := tk } ∧ SetR w g s.heap.objs.size (fun j => decide (j ∈ ns)) c ∧ c ≤ ns.length ∧ (∀ b o, s.heap.get? b = some o → g.get? b = some o)) E)
        F.called_set.init.plain F.entry_set_init (check_set_init_1 hT ?_)) fun r2 t2 hr2 => ?_
      · obtain ⟨⟨oc, od, odt, osl⟩, hol, hcl, nl, hdl⟩ := hl
        simp only at hcl hdl
        subst hcl; subst hdl
        have hol2 : (s.heap.push (oS w)).get? l = some { cls := .type "list", dict := od, data := .seq its nl, slots := osl } := Heap.get?_push_of_some _ hol
        have k8 := F.sub_list_set
        have k9 := F.sub_list_frozenset
        have k10 : (Value.type "list" == Value.type "dict") = false := by decide
        have hl1 : (s.heap.push (oS w)).IsList l its := ⟨_, hol2, rfl, nl, rfl⟩
        unfold Builtin.«set.__init__» noKeywords Builtin.Frozenset.updateFrom
        generalize hPI : pyIter = PI
        wp_walk
        subst hPI
        refine wpAny_pyIter_list hl1 (wpAny_bind (wpAny_runValue ?_))
        have hlt : l < s.heap.objs.size := Heap.lt_size hol
        have h3 : A.in1.in1.in1.handled = none := by simp [hh]
        have hp1 : (s.heap.push (oS w)).objs.size = s.heap.objs.size + 1 := Heap.size_push ..
        have hne : l ≠ (s.heap.push (oS w)).objs.size := by rw [hp1]; exact Nat.ne_of_lt (Nat.lt_succ_of_lt hlt)
        have hout : s.heap.objs.size ∉ [(s.heap.push (oS w)).objs.size, l] := by
          rw [hp1]
          intro z
          rcases List.mem_cons.mp z with z | z
          · exact absurd z (Nat.ne_of_lt (Nat.lt_succ_self _))
          · exact absurd (List.mem_singleton.mp z) (Nat.ne_of_gt hlt)
        have hat : ∀ (i : Nat) (v : Value), its[i]? = some v → ∃ k t, ns[i]? = some k ∧ v = .int k t := fun i v hv => by
          have hi : i < ns.length := by rw [← hsz]; exact (Array.getElem?_eq_some_iff.mp hv).1
          obtain ⟨t, e⟩ := IntsAre.int_at hit i v (by rw [Array.getElem?_toList]; exact hv)
          refine ⟨ns[i], t, List.getElem?_eq_getElem hi, ?_⟩
          rw [e, getD_of (List.getElem?_eq_getElem hi)]
        refine set_update_ints ((Walks.list h3 _ l hne its).toS) s.heap.objs.size hout ns hsz hb hat (its.size - 0) 0 _ (by omega) (Nat.zero_le _) ⟨⟨_, Heap.get?_push_size _ rfl, rfl, rfl⟩, hl1.push _⟩ ?hS0 ?hR
        case hS0 => exact ⟨0, Nat.le_refl 0, setR_new_at (Heap.get?_push_of_some _ hS)⟩
        case hR =>
          rintro ⟨g, g2, d2, tk2, os2⟩ c2 hm hc2 hS2
          have eg : g2 = s.gens := hm.gens
          have ed : d2 = s.drawn := hm.drawn
          have eo : os2 = s.os := hm.os
          subst eg; subst ed; subst eo
          show wpAny _ _ _ _ _ _
          refine wpAny_pure ?_
          show wpAny _ _ (ret Value.none) _ _ _
          rw [hsz] at hc2
          refine wpAny_pure ⟨rfl, g, tk2, c2, rfl, hS2, hc2, fun b o e => hm.heap b o (fun z => ?_) (Heap.get?_push_of_some _ (Heap.get?_push_of_some _ e))⟩
          have hb0 : b < s.heap.objs.size := Heap.lt_size e
          rcases List.mem_cons.mp z with z | z
          · exact absurd z (Nat.ne_of_lt hb0)
          · have z := List.mem_singleton.mp z
            rw [hp1] at z
            exact absurd z (Nat.ne_of_lt (Nat.lt_succ_of_lt hb0))
      · cases r2 with
        | error e => exact hr2
        | ok fl2 =>
          cases fl2 with
          | ret r =>
            obtain ⟨rfl, g, tk2, c2, rfl, hS2, hc2, hk2⟩ := hr2
            repeat (any_goals (first | assumption | wp_step))
            exact h _ _ _ hS2 hc2 hk2
          | _ => exact hr2.elim
    | _ => exact hr.elim
end
section
variable {X : Cx}
/-- no more members than any list that holds them -/
theorem few {w : World} {g : Heap} {a : Addr} {ns : List Int} {c : Nat} (R : SetR w g a (fun j => decide (j ∈ ns)) c) (ms : List Int) (h : ∀ x ∈ ns, x ∈ ms) : c ≤ ms.length := by
  obtain ⟨o, es, ep, t, _, _, _, _, nd, mem, _, _, hn, _⟩ := R
  have := nodup_sub_len (l := es.toList.map keyOf) (m := ms) nd fun x hx => h x (of_decide_eq_true ((mem x).mpr hx))
  rw [List.length_map, Array.length_toList] at this
  omega
/-- set(t) or set(xs), ints -/
def rSetI (K : PySem.W.Frag) (w : World) : List V → Hp → VK → Prop := fun xs H Q => ∃ (p : Addr) (ns : List Int), xs = [.ref p] ∧ (SqT K H p (ns.map V.int) ∨ SqL K H p (ns.map V.int)) ∧ ns.length ≤ 1000 ∧
  ∀ (q : Addr) (c : Nat), H q = none → (∀ ms : List Int, (∀ x ∈ ns, x ∈ ms) → c ≤ ms.length) → Q (.ref q) (upd H q (SetO w q (fun j => decide (j ∈ ns)) c))
theorem kSetI (K : PySem.W.Frag) (w : World) (hK : X.K = K := by rfl) (hw : X.w = w := by rfl) (hc : X.calm = true) : CallR X (.type "set") (rSetI K w) := by
  subst hK hw
  intro pins s σ H xs us Q I r ⟨p, ns, ex, hs, hl, q⟩
  subst ex
  obtain ⟨u, eu, ru⟩ := vals1 r
  subst eu
  cases ru
  have fr := I.hok.fresh (Nat.le_refl s.heap.objs.size)
  have fin : ∀ (g : Heap) (tk c : Nat), SetR X.w g s.heap.objs.size (fun j => decide (j ∈ ns)) c → c ≤ ns.length → (∀ b o, s.heap.get? b = some o → g.get? b = some o) → EP X pins σ Q (.ref s.heap.objs.size) { s with heap := g, toks := tk } := fun g tk c R hcn k =>
    ⟨.ref s.heap.objs.size, _, I.laid (t' := tk) k (Nat.le_refl _) (setO_new R), rfl, q _ c fr fun ms hms => few R ms hms⟩
  rcases hs with hs | hs
  · obtain ⟨its, rv, pt, hz⟩ := I.tuple hs
    exact call_set_tupI ns (I.ok.hd hc) (show s.heap.IsTuple p its.toArray from pt) (ints_of_vals rv) (by unfold scanBound; omega) fin
  · obtain ⟨its, rv, pl, hz⟩ := I.list hs
    exact setL_made ns (I.ok.hd hc) pl.isList (ints_of_vals rv) (by unfold scanBound; omega) fin
end
end Sw
/-! SwA1 -/
set_option Elab.async false
set_option linter.all false
set_option maxRecDepth 100000
set_option maxHeartbeats 4000000
namespace Sw
open PySem L2
section
variable {P : Program} {w : World} {K : PySem.W.Frag} {mg : Str → Option Value} {base : Heap}
/-- gone(web, room, way) -/
def spGone : Sp := fun vs H Q _ => ∃ (a b : Addr) (W : Web) (n d r : Nat) (l : List Nat), vs = [.ref a, .int (r : Int), .ref b] ∧ WebR H (.ref a) W ∧ WayR H (.ref b) l ∧ Rg W n d ∧ r < n ∧ (∀ i ∈ l, i < d) ∧
  ∀ (p : Addr) (H' : Hp) (c : V), H p = none → Same H H' → H' p = some (.tup [.int (walk W r l : Int), c]) → Q (.ref p) H'
theorem ok_gone {f : Addr} {fd : FuncData} (F : FnP K "gone" "gone" s_gone f fd) (T : Txt mg) : FnOk P w K mg base CX0 1 f fd p_gone spGone := by
  refine okd F sc_gone (fun vs H Q E h => ?_) (fun cdv A outer s H vs Q E hr h => ?_)
  · obtain ⟨a, b, W, n, d, r, l, rfl, _⟩ := h
    rfl
  · obtain ⟨a, b, W, n, d, r, l, rfl, hW, hl, g, hrn, hd, k⟩ := h
    refine ⟨_, pss_cons (ps_set (i := 3) sc_gone.nd rfl (Or.inl rfl) pe_non) (pss_cons (ps_for PassesOwn.never rfl (pi_tup (pv 2)) (pg_name (i := 4) sc_gone.nd rfl (Or.inl rfl))
      (pss_cons (ps_if (pt_cmpR op_ge (pv 4) (pe_callB call_len_seq (by rfl) T.len PySem.boot_len (pa_cons (pe_ix ix_tup (pv 0) (pv 1) (fun _ _ => rfl)) pa_nil)) (nomark _)) (pss_one (ps_ret pe_non)) pss_nil)
        (pss_one (ps_asg (pe_ix ix_tup (pe_ix ix_tup (pv 0) (pv 1) (fun _ _ => rfl)) (pv 4) (fun _ _ => rfl)) (pg_tup rfl (pgs_cons (pg_name (i := 1) sc_gone.nd rfl (Or.inl rfl)) (pgs_cons (pg_name (i := 3) sc_gone.nd rfl (Or.inl rfl)) pgs_nil)))))))
      (pss_one (ps_ret (pe_tup (pa_cons (pv 1) (pa_cons (pv 3) pa_nil)))))), ?_⟩
    obtain ⟨ls, hls, hlp, hb, _⟩ := tup_sq (K := K) hl
    have els := pd_ints hlp
    refine ⟨_, rfl, b, rfl, ⟨ls, hls⟩, for_tup (K := K) (a := b) (xs := ls) (fun i σ H' => ∃ c v, H' = H ∧ σ = [some (.ref a), some (.int (walk W r (l.take i) : Int)), some (.ref b), some c, v])
      ⟨.non, none, rfl, rfl⟩ (fun i σ H' _ ⟨_, _, e, _⟩ => by rw [e]; exact hls) ?_ ?_⟩
    · rintro i x σ H' hx ⟨c, v, rfl, rfl⟩
      rw [els, List.getElem?_map] at hx
      obtain ⟨j, hj, rfl⟩ := Option.map_eq_some_iff.mp hx
      have hjd := hd j (List.mem_of_getElem? hj)
      have hrt : walk W r (l.take i) < n := g.walk_lt hrn fun q hq => hd q (List.mem_of_mem_take hq)
      obtain ⟨vs1, b1, s1, a1, r1⟩ := web_row (K := K) hW g hrt
      obtain ⟨vs2, c2, s2, a2, r2⟩ := row_end (K := K) r1 g hrt hjd
      obtain ⟨vs3, s3, _, _, l3⟩ := tup_sq (K := K) r1
      refine ⟨_, rfl, _, rfl, _, rfl, _, _, _, _, rfl, rfl, s1, a1, _, _, rfl, .inr s3, _, _, rfl, rfl, _, rfl, ?_⟩
      have hlen : (vs3.length : Int) = (d : Int) := by rw [l3, g.rows _ hrt]
      rw [hlen]
      refine ite2 (fun hc => absurd (of_decide_eq_true hc) (by omega)) fun _ => ?_
      refine ⟨_, rfl, _, rfl, _, _, _, _, rfl, rfl, s1, a1, _, rfl, _, _, _, _, rfl, rfl, s2, a2, ?_⟩
      have e : walk W r (l.take (i + 1)) = (en W (walk W r (l.take i)) j).1 := by rw [take_snoc hj, walk_snoc]; rfl
      exact ⟨_, _, rfl, SqT.of r2, rfl, _, _, rfl, _, _, rfl, rfl, .int ((en W (walk W r (l.take i)) j).2 : Int), some (.int (j : Int)), rfl, by rw [e]; rfl⟩
    · rintro σ H' ⟨c, v, rfl, rfl⟩
      refine ⟨_, rfl, _, rfl, by show 2 ≤ sizeLine; decide, fun p hp => ?_⟩
      have e : l.take ls.length = l := by rw [List.take_of_length_le]; rw [els, List.length_map]; exact Nat.le_refl _
      rw [e]
      exact k p _ c hp (same_new hp) upd_same
end
end Sw
/-! SwA2 -/
set_option Elab.async false
set_option linter.all false
set_option maxRecDepth 100000
set_option maxHeartbeats 4000000
/-! data compared; what is a web -/
namespace Sw
open PySem L2
/-! ### data as told -/
def pdN (n : Nat) : PyData := .int (n : Int)
def pdE (e : End) : PyData := .tuple [.int (e.1 : Int), .int (e.2 : Int)]
def pdT {α : Type} (f : α → PyData) (l : List α) : PyData := .tuple (l.map f)
structure Told {α : Type} (f : α → PyData) (n : Nat) : Prop where
  eqv : ∀ x y, PyData.eqv (f x) (f y) = true ↔ x = y
  lay : ∀ x, (f x).canLay0 = true
  dep : ∀ x, (f x).depth ≤ n
theorem Told.dec {α : Type} [DecidableEq α] {f : α → PyData} {n : Nat} (t : Told f n) (x y : α) : PyData.eqv (f x) (f y) = decide (x = y) := by
  by_cases h : x = y
  · rw [decide_eq_true h]; exact (t.eqv x y).mpr h
  · rw [decide_eq_false h]
    cases z : PyData.eqv (f x) (f y) with
    | false => rfl
    | true => exact absurd ((t.eqv x y).mp z) h
theorem Told.shaped {α : Type} {f : α → PyData} {n : Nat} (t : Told f n) (h : n ≤ 64) (x : α) : SeqAt.shaped (f x) = true := by
  show ((f x).canLay0 && decide ((f x).depth ≤ 64)) = true
  rw [Bool.and_eq_true]
  exact ⟨t.lay x, decide_eq_true (Nat.le_trans (t.dep x) h)⟩
theorem toldN : Told pdN 0 := ⟨fun x y => by simp only [pdN, PyData.eqv, beq_iff_eq]; omega, fun x => by simp [pdN, PyData.canLay0], fun x => by simp [pdN, PyData.depth]⟩
theorem toldE : Told pdE 1 := ⟨fun x y => by
    simp only [pdE, PyData.eqv, PyData.eqvAll, Bool.and_true, Bool.and_eq_true, beq_iff_eq, Int.natCast_inj]
    exact ⟨fun h => Prod.ext h.1 h.2, fun h => by rw [h]; exact ⟨rfl, rfl⟩⟩, fun x => by simp [pdE, PyData.canLay0, PyData.canLayAll0], fun x => by simp [pdE, PyData.depth, PyData.depthAll]⟩
theorem Told.list {α : Type} {f : α → PyData} {n : Nat} (t : Told f n) : (∀ l m : List α, PyData.eqvAll (l.map f) (m.map f) = true ↔ l = m) ∧ (∀ l : List α, PyData.canLayAll0 (l.map f) = true) ∧ ∀ l : List α, PyData.depthAll (l.map f) ≤ n := by
  refine ⟨fun l => ?_, fun l => ?_, fun l => ?_⟩
  · induction l with
    | nil => intro m; cases m <;> simp [PyData.eqvAll]
    | cons a l ih =>
      intro m
      cases m with
      | nil => simp [PyData.eqvAll]
      | cons b m =>
        simp only [List.map_cons, PyData.eqvAll, Bool.and_eq_true, List.cons.injEq]
        rw [t.eqv a b, ih m]
  · induction l with
    | nil => simp [PyData.canLayAll0]
    | cons a l ih => simp only [List.map_cons, PyData.canLayAll0, Bool.and_eq_true]; exact ⟨t.lay a, ih⟩
  · induction l with
    | nil => simp [PyData.depthAll]
    | cons a l ih =>
      have := t.dep a
      simp only [List.map_cons, PyData.depthAll]
      omega
theorem Told.tup {α : Type} {f : α → PyData} {n : Nat} (t : Told f n) : Told (pdT f) (n + 1) :=
  ⟨fun x y => by unfold pdT; simp only [PyData.eqv]; exact t.list.1 x y, fun x => by unfold pdT; simp only [PyData.canLay0]; exact t.list.2.1 x, fun x => by have := t.list.2.2 x; unfold pdT; simp only [PyData.depth]; omega⟩
theorem Told.lst {α : Type} {f : α → PyData} {n : Nat} (t : Told f n) (h : n < 64) (l : List α) : SeqAt.shaped (.list (l.map f)) = true := by
  have := t.list.2.2 l
  show (PyData.canLay0 (.list (l.map f)) && decide (PyData.depth (.list (l.map f)) ≤ 64)) = true
  rw [Bool.and_eq_true]
  exact ⟨by simp only [PyData.canLay0]; exact t.list.2.1 l, decide_eq_true (by simp only [PyData.depth]; omega)⟩
abbrev pdRow : List End → PyData := pdT pdE
abbrev pdWeb : Web → PyData := pdT pdRow
theorem toldRow : Told pdRow 2 := toldE.tup
theorem toldWeb : Told pdWeb 3 := toldRow.tup
section
variable {K : PySem.W.Frag} {H : Hp}
theorem dp_end {v : V} {e : End} (h : EndR H v e) : Dp K H v (pdE e) := by
  obtain ⟨a, rfl, h⟩ := h
  exact .tup (SqT.of h) (.cons (.int _) (.cons (.int _) .nil))
theorem dp_all {α : Type} {R : Rep α} {f : α → PyData} (r : ∀ v x, R H v x → Dp K H v (f x)) : ∀ {vs : List V} {xs : List α}, Paired (R H) vs xs → DpAll K H vs (xs.map f)
  | _, _, .nil => .nil
  | _, _, .cons a t => .cons (r _ _ a) (dp_all r t)
theorem dp_tup {α : Type} {R : Rep α} {f : α → PyData} (r : ∀ v x, R H v x → Dp K H v (f x)) {v : V} {xs : List α} (h : TupR R H v xs) : Dp K H v (pdT f xs) := by
  obtain ⟨a, vs, rfl, h1, h2⟩ := h
  exact .tup (SqT.of h1) (dp_all r h2)
theorem dp_web {v : V} {W : Web} (h : WebR H v W) : Dp K H v (pdWeb W) := dp_tup (fun _ _ z => dp_tup (fun _ _ y => dp_end y) z) h
theorem isi_tup {a : Addr} {xs : List V} (h : H a = some (.tup xs)) : TyX K H (.ref a) (.type "tuple") := .base (.tup h)
end
abbrev nats (ns : List Nat) : List V := ns.map fun n : Nat => V.int (n : Int)
theorem Firm.s {α : Type} {R : Rep α} (h : Firm R) {H H' : Hp} (s : Same H H') {v : V} {x : α} (r : R H v x) : R H' v x := h H H' v x (nl_of s) r
theorem addAll_app : ∀ (es fs : List End) (m : List Nat), addAll m (es ++ fs) = addAll (addAll m es) fs
  | [], _, _ => rfl
  | e :: es, fs, m => addAll_app es fs _
theorem inV_nats {i : Nat} {ns : List Nat} : inV (.int (i : Int)) (ns.map fun n : Nat => V.int (n : Int)) = decide (i ∈ ns) := by
  unfold inV
  induction ns with
  | nil => simp
  | cons n t ih =>
    rw [List.map_cons, List.any_cons, ih]
    show (((n : Int) == (i : Int)) || _) = _
    by_cases h : n = i
    · subst h; simp
    · have : ((n : Int) == (i : Int)) = false := beq_eq_false_iff_ne.mpr (by omega)
      rw [this, Bool.false_or]
      by_cases k : i ∈ t
      · rw [decide_eq_true k, decide_eq_true (List.mem_cons_of_mem _ k)]
      · rw [decide_eq_false k, decide_eq_false fun z => (List.mem_cons.mp z).elim (fun y => h y.symm) k]
theorem flat_nats {ns : List Nat} : (ns.map fun n : Nat => V.int (n : Int)).all flatV = true := by
  rw [List.all_eq_true]
  intro x hx
  obtain ⟨n, _, rfl⟩ := List.mem_map.mp hx
  rfl
section
variable {P : Program} {w : World} {K : PySem.W.Frag} {mg : Str → Option Value} {base : Heap}
def spCount : Sp := fun vs H Q _ => ∃ n m : Nat, vs = [.int (n : Int), .int (m : Int)] ∧ n < m ∧ Q (.bl true) H
theorem ok_is_count {f : Addr} {fd : FuncData} (F : FnP K "is_count" "is_count" s_is_count f fd) (T : Txt mg) : FnOk P w K mg base CX0 1 f fd p_is_count spCount := by
  refine okd F sc_is_count (fun vs H Q E h => ?_) (fun cdv A outer s H vs Q E hr h => ?_)
  · obtain ⟨n, m, rfl, _⟩ := h
    rfl
  · obtain ⟨n, m, rfl, hn, k⟩ := h
    refine ⟨_, (pss_one (ps_ret (pe_and (pe_callB (kIsi K) (by rfl) T.isinstance (by decide +kernel) (pa_cons (pv 0) (pa_cons (pe_bltn (v := .ty "int") (u := .type "int") (by rfl) T.int (by decide +kernel) rfl) pa_nil))) (pe_and (pe_not (pe_callB (kIsi K) (by rfl) T.isinstance (by decide +kernel) (pa_cons (pv 0) (pa_cons (pe_bltn (v := .ty "bool") (u := .type "bool") (by rfl) T.bool (by decide +kernel) rfl) pa_nil)))) (pe_one (pe_chain op_le op_lt pe_int (pv 0) (pv 1))))))), ?_⟩
    refine ⟨_, rfl, _, _, _, _, true, rfl, .ty "int", .base (.int _), kit_ty (by decide +kernel), true, rfl, iteT ⟨_, rfl, _, _, _, _, false, rfl, .ty "bool", .base (.int _), kit_ty (by decide +kernel), false, rfl, true, rfl, iteT ⟨_, rfl, ?_⟩⟩⟩
    have e1 : decide ((0 : Int) ≤ (n : Int)) = true := decide_eq_true (by omega)
    have e2 : decide ((n : Int) < (m : Int)) = true := decide_eq_true (by omega)
    refine ⟨_, _, rfl, rfl, _, rfl, ?_⟩
    rw [e1]
    refine iteT ⟨_, rfl, _, _, rfl, rfl, ?_⟩
    show Q (.bl (decide ((n : Int) < (m : Int)))) H
    rw [e2]
    exact k
def spEndIn : Sp := fun vs H Q _ => ∃ (a : Addr) (v : V) (W : Web) (n d : Nat) (e : End), vs = [.ref a, v] ∧ WebR H (.ref a) W ∧ Rg W n d ∧ EndR H v e ∧ e.1 < n ∧ e.2 < d ∧ Q (.bl true) H
theorem ok_is_end_in {f : Addr} {fd : FuncData} (F : FnP K "is_end_in" "is_end_in" s_is_end_in f fd) (T : Txt mg) (c_is_count : Cal P w K mg base 1 "is_count" p_is_count spCount) : FnOk P w K mg base CX0 2 f fd p_is_end_in spEndIn := by
  refine okd F sc_is_end_in (fun vs H Q E h => ?_) (fun cdv A outer s H vs Q E hr h => ?_)
  · obtain ⟨a, v, W, n, d, e, rfl, _⟩ := h
    rfl
  · obtain ⟨a, v, W, n, d, e, rfl, hW, g, ⟨c, rfl, hc⟩, h1, h2, k⟩ := h
    refine ⟨_, (pss_cons (ps_if (PW.pt (pw_or (pt_not (pt_val (pe_callB (kIsi K) (by rfl) T.isinstance (by decide +kernel) (pa_cons (pv 1) (pa_cons (pe_bltn (v := .ty "tuple") (u := .type "tuple") (by rfl) T.tuple (by decide +kernel) rfl) pa_nil))))) (pw_or (pt_cmpR op_ne (pe_callB (kLen K) (by rfl) T.len PySem.boot_len (pa_cons (pv 1) pa_nil)) pe_int (nomark _)) (pw_or1 (pt_not (pt_val (pe_cal c_is_count (hr.mono (by decide)) (pa_cons (pe_ix (kIxT K) (pv 1) pe_int (fun _ _ => rfl)) (pa_cons (pe_callB (kLen K) (by rfl) T.len PySem.boot_len (pa_cons (pv 0) pa_nil)) pa_nil))))))))) (pss_one (ps_ret pe_bl)) pss_nil)
      (pss_one (ps_ret (pe_cal c_is_count (hr.mono (by decide)) (pa_cons (pe_ix (kIxT K) (pv 1) pe_int (fun _ _ => rfl)) (pa_cons (pe_callB (kLen K) (by rfl) T.len PySem.boot_len (pa_cons (pe_ix (kIxT K) (pv 0) (pe_ix (kIxT K) (pv 1) pe_int (fun _ _ => rfl)) (fun _ _ => rfl)) pa_nil)) pa_nil)))))), ?_⟩
    obtain ⟨ws, sW, _, _, lW⟩ := tup_sq (K := K) hW
    obtain ⟨vs1, b1, s1, a1, r1⟩ := web_row (K := K) hW g h1
    obtain ⟨vs3, s3, _, _, l3⟩ := tup_sq (K := K) r1
    have lW' : ws.length = n := by rw [lW, g.len]
    have l3' : vs3.length = d := by rw [l3, g.rows _ h1]
    refine ⟨_, rfl, _, _, _, _, true, rfl, .ty "tuple", isi_tup hc, kit_ty (by decide +kernel), true, rfl, iteF ⟨_, rfl, _, _, rfl, .inr (SqT.of hc), rfl, _, rfl, iteF ?_⟩⟩
    refine ⟨_, rfl, _, _, _, _, rfl, rfl, SqT.of hc, rfl, _, rfl, _, _, rfl, .inr (sW), _, _, rfl, by rw [lW']; exact h1, true, rfl, iteF ?_⟩
    exact ⟨_, rfl, _, _, _, _, rfl, rfl, SqT.of hc, rfl, _, rfl, _, rfl, _, _, _, _, rfl, rfl, SqT.of hc, rfl, _, _, _, _, rfl, rfl, s1, a1, _, _, rfl, .inr (s3), _, _, rfl, by rw [l3']; exact h2, k⟩
def spToldEnds : Sp := fun vs H Q _ => ∃ (a : Addr) (W : Web) (n d r : Nat), vs = [.ref a, .int (r : Int)] ∧ WebR H (.ref a) W ∧ Rg W n d ∧ (∀ r i, r < n → i < d → en W (en W r i).1 (en W r i).2 = (r, i)) ∧ r < n ∧ ∀ H', Same H H' → Q (.bl true) H'
theorem ok_are_told_ends {f : Addr} {fd : FuncData} (F : FnP K "are_told_ends" "are_told_ends" s_are_told_ends f fd) (T : Txt mg) (c_is_end_in : Cal P w K mg base 2 "is_end_in" p_is_end_in spEndIn) : FnOk P w K mg base CX0 3 f fd p_are_told_ends spToldEnds := by
  refine okd F sc_are_told_ends (fun vs H Q E h => ?_) (fun cdv A outer s H vs Q E hr h => ?_)
  · obtain ⟨a, W, n, d, r, rfl, _⟩ := h
    rfl
  · obtain ⟨a, W, n, d, r, rfl, hW, g, sy, hrn, k⟩ := h
    refine ⟨_, (pss_cons (ps_for PassesOwn.never rfl (kEnumT K rfl (by rfl) T.enumerate (pa_cons (pe_ix (kIxT K) (pv 0) (pv 1) (fun _ _ => rfl)) pa_nil)) (kgTup K rfl rfl (pgs_cons (pg_name (i := 2) sc_are_told_ends.nd rfl (by first | exact Or.inl rfl | exact Or.inr rfl)) (pgs_cons (pg_name (i := 3) sc_are_told_ends.nd rfl (by first | exact Or.inl rfl | exact Or.inr rfl)) pgs_nil)))
      (pss_one (ps_if (PW.pt (pw_or (pt_not (pt_val (pe_cal c_is_end_in (hr.mono (by decide)) (pa_cons (pv 0) (pa_cons (pv 3) pa_nil))))) (pw_or1 (pt_cmpR (kNeD K rfl hr.units) (pe_ix (kIxT K) (pe_ix (kIxT K) (pv 0) (pe_ix (kIxT K) (pv 3) pe_int (fun _ _ => rfl)) (fun _ _ => rfl)) (pe_ix (kIxT K) (pv 3) pe_int (fun _ _ => rfl)) (fun _ _ => rfl)) (pe_tup (pa_cons (pv 1) (pa_cons (pv 2) pa_nil))) (nomark _))))) (pss_one (ps_ret pe_bl)) pss_nil)))
      (pss_one (ps_ret pe_bl))), ?_⟩
    obtain ⟨vs1, b1, s1, a1, r1⟩ := web_row (K := K) hW g hrn
    obtain ⟨vs3, s3, p3, e3, l3⟩ := tup_sq (K := K) r1
    obtain ⟨ws, sW, _, _, lW⟩ := tup_sq (K := K) hW
    refine ⟨_, rfl, _, rfl, _, _, _, _, rfl, rfl, s1, a1, b1, vs3, rfl, s3, for_it (walk_enumT (K := K) (a := b1) (xs := vs3)) (fun i σ H' => ∃ c v, Same H H' ∧ σ = [some (.ref a), some (.int (r : Int)), c, v])
      ⟨none, none, fun _ _ z => z, rfl⟩ (fun i σ H' _ ⟨_, _, z, _⟩ => same_t z s3) ?_ ?_⟩
    · rintro i x σ H1 H2 hi ⟨c, v, hs, rfl⟩ ⟨T, x1, y, rfl, hT, rfl, e1, hy⟩
      cases e1
      have hid : i < d := by rw [l3, g.rows _ hrn] at hi; exact hi
      have hs2 : Same H (upd H1 T (.tup [.int (i : Nat), y])) := fun q o z => same_new hT q o (hs q o z)
      obtain ⟨e, he, re⟩ := pd_get' p3 hy
      rw [g.end_ hrn hid] at he
      cases he
      obtain ⟨o1, o2⟩ := g.rng r i hrn hid
      refine ⟨T, _, rfl, SqT.of upd_same, rfl, _, _, rfl, _, _, rfl, rfl, ?_⟩
      have re2 := firm_end.s hs2 re
      have hW2 := firm_web.s hs2 hW
      refine ⟨_, rfl, _, rfl, a, y, W, n, d, _, rfl, hW2, g, re2, o1, o2, true, rfl, iteF ?_⟩
      obtain ⟨c1, rfl, hc1⟩ := re2
      obtain ⟨vs4, b4, s4, a4, r4⟩ := web_row (K := K) hW2 g o1
      obtain ⟨vs5, s5, p5, e5, l5⟩ := tup_sq (K := K) r4
      obtain ⟨u5, hu5, ru5⟩ := pd_get p5 (g.end_ o1 o2)
      refine ⟨_, rfl, _, rfl, _, _, _, _, rfl, rfl, SqT.of hc1, rfl, _, _, _, _, rfl, rfl, s4, a4, _, rfl, _, _, _, _, rfl, rfl, SqT.of hc1, rfl, _, _, _, _, rfl, rfl, s5, atI_nat hu5, _, rfl, _, rfl, by show 2 ≤ sizeLine; decide, fun p hp => ?_⟩
      have sp := same_new (o := .tup [.int (r : Int), .int (i : Int)]) hp
      refine ⟨_, _, dp_end (firm_end.s sp ru5), dp_end (e := (r, i)) ⟨p, rfl, upd_same⟩, toldE.shaped (by decide) _, toldE.shaped (by decide) _, ?_⟩
      rw [toldE.dec, sy r i hrn hid, decide_eq_true (rfl : (r, i) = (r, i))]
      exact ⟨_, rfl, iteF ⟨some (.int (i : Nat)), some (.ref c1), fun q o z => sp q o (hs2 q o z), rfl⟩⟩
    · rintro σ H' ⟨c, v, hs, rfl⟩
      exact k H' hs
def spRoomsMet : Sp := fun vs H Q _ => ∃ (a : Addr) (W : Web) (n d r : Nat), vs = [.ref a, .int (r : Int)] ∧ WebR H (.ref a) W ∧ Rg W n d ∧ n ≤ 9 ∧ r < n ∧ ∀ p H', H p = none → Same H H' → H' p = some (.lst (nats (ord W r))) → Q (.ref p) H'
theorem ok_rooms_met {f : Addr} {fd : FuncData} (F : FnP K "rooms_met" "rooms_met" s_rooms_met f fd) (T : Txt mg) : FnOk P w K mg base CX0 1 f fd p_rooms_met spRoomsMet := by
  refine okd F sc_rooms_met (fun vs H Q E h => ?_) (fun cdv A outer s H vs Q E hr h => ?_)
  · obtain ⟨a, W, n, d, r, rfl, _⟩ := h
    rfl
  · obtain ⟨a, W, n, d, r, rfl, hW, g, hn, hrn, k⟩ := h
    refine ⟨_, (pss_cons (ps_set (i := 2) sc_rooms_met.nd rfl (by first | exact Or.inl rfl | exact Or.inr rfl) (pe_lst (pa_cons (pv 1) pa_nil)))
      (pss_cons (ps_set (i := 3) sc_rooms_met.nd rfl (by first | exact Or.inl rfl | exact Or.inr rfl) pe_int)
      (pss_cons (ps_while PassesOwn.never (pt_cmpR op_lt (pv 3) (pe_callB (kLen K) (by rfl) T.len PySem.boot_len (pa_cons (pv 2) pa_nil)) (nomark _)) (pss_cons (ps_for PassesOwn.never rfl (kTup K rfl (pe_ix (kIxT K) (pv 0) (pe_ix (kIxL K) (pv 2) (pv 3) (fun _ _ => rfl)) (fun _ _ => rfl))) (kgTup K rfl rfl (pgs_cons (pg_name (i := 4) sc_rooms_met.nd rfl (by first | exact Or.inl rfl | exact Or.inr rfl)) (pgs_cons (pg_name (i := 5) sc_rooms_met.nd rfl (by first | exact Or.inl rfl | exact Or.inr rfl)) pgs_nil)))
      (pss_one (ps_if (pt_cmpR (kNotIn K) (pv 4) (pv 2) (by rfl)) (pss_one (ps_expr (pe_bm PySem.F.plainAttrs_list PySem.F.slot_list_append PySem.F.type_list_append mt_append (pv 2) (pa_cons (pv 4) pa_nil)))) pss_nil)))
      (pss_one (ps_aug (i := 3) sc_rooms_met.nd rfl (by first | exact Or.inl rfl | exact Or.inr rfl) pe_int ip_add))))
      (pss_one (ps_ret (pv 2)))))), ?_⟩
    have hbig : sizeLine = 16777216 := PySem.sizeLine_eq
    obtain ⟨ws, sW, _, _, lW⟩ := tup_sq (K := K) hW
    refine ⟨_, rfl, by show 1 ≤ sizeLine; decide, fun b hb => ?_⟩
    refine ⟨fun j σ H' => ∃ m p f c v, j + p = n ∧ f + p = n + 1 ∧ bfs W f m p = ord W r ∧ p ≤ m.length ∧ Same H H' ∧ H' b = some (.lst (nats m)) ∧ σ = [some (.ref a), some (.int (r : Int)), some (.ref b), some (.int (p : Int)), c, v],
      ⟨n, [r], 0, n + 1, none, none, rfl, rfl, by rw [← g.len]; rfl, Nat.zero_le _, same_new hb, upd_same, rfl⟩, ?_⟩
    rintro j σ H1 ⟨m, p, f, c, v, hj, hf, hbf, hpm, hs, hb1, rfl⟩
    obtain ⟨t, ht⟩ := bfs_pre (W := W) f m p
    rw [hbf] at ht
    have hlen : m.length ≤ n := by
      have := g.ord_len hrn
      rw [ht, List.length_append] at this
      omega
    refine ⟨_, rfl, _, rfl, _, _, rfl, .inl (SqL.of hb1), _, _, rfl, rfl, _, rfl, ite2 (fun hc => ?_) fun hc => ?_⟩
    · have hpl : p < m.length := by
        have := of_decide_eq_true hc
        rw [List.length_map] at this
        omega
      have hmp : m[p]? = some m[p] := List.getElem?_eq_getElem hpl
      have hx : m[p] < n := (g.ord_ok hrn).2 _ (by rw [ht]; exact List.mem_append_left _ (List.getElem_mem hpl))
      obtain ⟨vs1, b1, s1, a1, r1⟩ := web_row (K := K) hW g hx
      obtain ⟨vs2, s2, p2, e2, l2⟩ := tup_sq (K := K) r1
      have hnb : bfs W f m p = bfs W (f - 1) (addAll m (row W m[p])) (p + 1) := by
        obtain ⟨f', rfl⟩ : ∃ f', f = f' + 1 := ⟨f - 1, by omega⟩
        show (match m[p]? with | none => m | some r => bfs W f' (addAll m (row W r)) (p + 1)) = _
        rw [hmp]
        rfl
      refine ⟨fun σ' H' => ∃ j', j' < j ∧ ∃ m p f c v, j' + p = n ∧ f + p = n + 1 ∧ bfs W f m p = ord W r ∧ p ≤ m.length ∧ Same H H' ∧ H' b = some (.lst (nats m)) ∧ σ' = [some (.ref a), some (.int (r : Int)), some (.ref b), some (.int (p : Int)), c, v], fun _ _ z => z, ?_⟩
      refine ⟨_, rfl, _, rfl, _, rfl, _, _, _, _, rfl, rfl, SqL.of hb1, atI_nat (by rw [List.getElem?_map, hmp]; rfl), _, _, _, _, rfl, rfl, same_t hs s1, a1, b1, rfl, ⟨_, same_t hs s2⟩, for_tup (K := K) (a := b1) (xs := vs2)
        (fun i σ H' => ∃ c v, Same H H' ∧ H' b = some (.lst (nats (addAll m ((row W m[p]).take i)))) ∧ σ = [some (.ref a), some (.int (r : Int)), some (.ref b), some (.int (p : Int)), c, v]) ⟨c, v, hs, hb1, rfl⟩ (fun i σ H' _ ⟨_, _, z, _⟩ => same_t z s2) ?_ ?_⟩
      · rintro i x σ H2 hx2 ⟨c, v, hs2, hb2, rfl⟩
        obtain ⟨e, he, c1, rfl, hc1⟩ := pd_get' p2 hx2
        have hc2 := hs2 _ _ hc1
        have hsub : ∀ z ∈ addAll m ((row W m[p]).take i), z < n := fun z hz => by
          rcases addAll_mem.mp hz with q | ⟨e', he', q⟩
          · exact (g.ord_ok hrn).2 _ (by rw [ht]; exact List.mem_append_left _ q)
          · rw [← q]; exact (g.mem_lt hx (List.mem_of_mem_take he')).1
        have hnd : (addAll m ((row W m[p]).take i)).Nodup := addAll_nodup (by have := (g.ord_ok hrn).1; rw [ht] at this; exact (List.nodup_append.mp this).1)
        have hl2 := nodup_lt_len hnd hsub
        have etk : addAll m ((row W m[p]).take (i + 1)) = if e.1 ∈ addAll m ((row W m[p]).take i) then addAll m ((row W m[p]).take i) else addAll m ((row W m[p]).take i) ++ [e.1] := by
          have z : (row W m[p]).take (i + 1) = (row W m[p]).take i ++ [e] := by rw [List.take_add_one, he]; rfl
          rw [z, addAll_app]; rfl
        refine ⟨c1, _, rfl, SqT.of hc2, rfl, _, _, rfl, _, _, rfl, rfl, _, rfl, _, rfl, b, _, rfl, .inl (SqL.of hb2), rfl, flat_nats, _, rfl, ?_⟩
        rw [inV_nats]
        by_cases hin : e.1 ∈ addAll m ((row W m[p]).take i)
        · rw [decide_eq_true hin]
          exact iteF ⟨some (.int (e.1 : Int)), some (.int (e.2 : Int)), hs2, by rw [etk, if_pos hin]; exact hb2, rfl⟩
        · rw [decide_eq_false hin]
          refine iteT ⟨_, rfl, .inl ⟨rfl, _, SqL.of hb2⟩, _, rfl, b, _, _, rfl, rfl, hb2, by rw [List.length_map]; omega, ?_⟩
          exact ⟨some (.int (e.1 : Int)), some (.int (e.2 : Int)), same_mut hs2 hb, by rw [etk, if_neg hin, upd_same]; simp [nats], rfl⟩
      · rintro σ H2 ⟨c, v, hs2, hb2, rfl⟩
        rw [l2, List.take_length] at hb2
        refine ⟨_, rfl, _, _, rfl, rfl, ?_⟩
        obtain ⟨t2, ht2⟩ := addAll_pre (row W m[p]) m
        exact ⟨j - 1, by omega, _, p + 1, f - 1, c, v, by omega, by omega, by rw [← hnb]; exact hbf, by rw [ht2, List.length_append]; omega, hs2, hb2, rfl⟩
    · have hpl : m.length ≤ p := by
        have : ¬ ((p : Int) < ((nats m).length : Nat)) := fun z => hc (decide_eq_true z)
        rw [List.length_map] at this
        omega
      have e : ord W r = m := by
        rw [← hbf]
        obtain ⟨f', rfl⟩ : ∃ f', f = f' + 1 := ⟨f - 1, by omega⟩
        show (match m[p]? with | none => m | some r => bfs W f' (addAll m (row W r)) (p + 1)) = _
        rw [List.getElem?_eq_none hpl]
      exact ⟨_, rfl, k b H1 hb hs (by rw [e]; exact hb1)⟩
end
end Sw
/-! SwA3 -/
set_option Elab.async false
set_option linter.all false
set_option maxRecDepth 100000
set_option maxHeartbeats 4000000
namespace Sw
open PySem L2
theorem z0 (i : Nat) : V.int ((0 : Int) + (i : Nat)) = V.int (i : Int) := by rw [Int.zero_add]
theorem yes {σ : L2.St} {H : Hp} {Q : Bool → Hp → Prop} (h : Q true H) : tYes σ H Q := h
theorem all_true {n : Nat} : (List.replicate n true).all id = true := by
  rw [List.all_eq_true]
  intro x hx
  rw [List.eq_of_mem_replicate hx]; rfl
theorem rep_snoc {α : Type} {n : Nat} {a : α} : List.replicate n a ++ [a] = List.replicate (n + 1) a := by rw [← List.replicate_succ']
section
variable {P : Program} {w : World} {K : PySem.W.Frag} {mg : Str → Option Value} {base : Heap}
def spIsWeb : Sp := fun vs H Q _ => ∃ (a : Addr) (W : Web) (n d : Nat), vs = [.ref a] ∧ WebR H (.ref a) W ∧ Ev W n d ∧ n ≤ 9 ∧ ∀ H', Same H H' → Q (.bl true) H'
theorem ok_is_web {f : Addr} {fd : FuncData} (F : FnP K "is_web" "is_web" s_is_web f fd) (T : Txt mg) (c_are_told_ends : Cal P w K mg base 3 "are_told_ends" p_are_told_ends spToldEnds) (c_rooms_met : Cal P w K mg base 3 "rooms_met" p_rooms_met spRoomsMet) : FnOk P w K mg base CX0 4 f fd p_is_web spIsWeb := by
  refine okd F sc_is_web (fun vs H Q E h => ?_) (fun cdv A outer s H vs Q E hr h => ?_)
  · obtain ⟨a, W, n, d, rfl, _⟩ := h
    rfl
  · obtain ⟨a, W, n, d, rfl, hW, g, hn, k⟩ := h
    refine ⟨_, (pss_cons (ps_if (PW.pt (pw_or (pt_not (pt_val (pe_callB (kIsi K) (by rfl) T.isinstance (by decide +kernel) (pa_cons (pv 0) (pa_cons (pe_bltn (v := .ty "tuple") (u := .type "tuple") (by rfl) T.tuple (by decide +kernel) rfl) pa_nil))))) (pw_or (pt_cmpR op_eq (pe_callB (kLen K) (by rfl) T.len PySem.boot_len (pa_cons (pv 0) pa_nil)) pe_int (nomark _)) (pw_or1 (pt_not (pt_val (pe_callB (kAll K rfl rfl) (by rfl) T.all (by decide +kernel) (pa_cons (pe_lc (own := [("one", 1)]) rfl sc_is_web.nd (kTup K rfl (pv 0)) (blkOk_by (N := n_is_web) (sc := defScope s_is_web) (by decide +kernel)) (fun _ _ _ _ _ => (pg_name (i := 1) sc_is_web.nd rfl (by first | exact Or.inl rfl | exact Or.inr rfl))) (fun _ _ _ _ _ => pts_nil) (fun _ _ _ _ _ => (pe_callB (kIsi K) (by rfl) T.isinstance (by decide +kernel) (pa_cons (pv 1) (pa_cons (pe_bltn (v := .ty "tuple") (u := .type "tuple") (by rfl) T.tuple (by decide +kernel) rfl) pa_nil))))) pa_nil)))))))) (pss_one (ps_ret pe_bl)) pss_nil)
      (pss_cons (ps_if (pt_not (pt_val (pe_callB (kAll K rfl rfl) (by rfl) T.all (by decide +kernel) (pa_cons (pe_lc (own := [("number", 2)]) rfl sc_is_web.nd (pi_range1 (by rfl) T.range (pa_cons (pe_callB (kLen K) (by rfl) T.len PySem.boot_len (pa_cons (pv 0) pa_nil)) pa_nil)) (blkOk_by (N := n_is_web) (sc := defScope s_is_web) (by decide +kernel)) (fun _ _ _ _ _ => (pg_name (i := 2) sc_is_web.nd rfl (by first | exact Or.inl rfl | exact Or.inr rfl))) (fun _ _ _ _ _ => pts_nil) (fun _ _ _ _ _ => (pe_cal c_are_told_ends (hr.mono (by decide)) (pa_cons (pv 0) (pa_cons (pv 2) pa_nil))))) pa_nil)))) (pss_one (ps_ret pe_bl)) pss_nil)
      (pss_one (ps_ret (pe_cmpR op_eq (pe_callB (kLen K) (by rfl) T.len PySem.boot_len (pa_cons (pe_cal c_rooms_met (hr.mono (by decide)) (pa_cons (pv 0) (pa_cons pe_int pa_nil))) pa_nil)) (pe_callB (kLen K) (by rfl) T.len PySem.boot_len (pa_cons (pv 0) pa_nil)) (nomark _)))))), ?_⟩
    have hbig : sizeLine = 16777216 := PySem.sizeLine_eq
    obtain ⟨ws, sW, pW, eW, lW⟩ := tup_sq (K := K) hW
    have lW' : ws.length = n := by rw [lW, g.len]
    have hpos := g.pos
    refine ⟨_, rfl, _, _, _, _, true, rfl, .ty "tuple", isi_tup eW, kit_ty (by decide +kernel), true, rfl, iteF ⟨_, rfl, _, _, rfl, .inr sW, rfl, _, rfl, ite2 (fun hc => ?_) fun _ => ?_⟩⟩
    · have := of_decide_eq_true hc
      rw [V.int.injEq] at this
      omega
    refine ⟨_, rfl, a, rfl, ⟨_, sW⟩, fun D hD => lc_tup (K := K) (a := a) (xs := ws) (fun i H' => Same H H' ∧ H' D = some (.lst (List.replicate i (.bl true)))) ⟨same_new hD, upd_same⟩ (fun i H' _ z => same_t z.1 sW) ?_ ?_⟩
    · rintro i x H1 hx ⟨hs, hd1⟩
      obtain ⟨r0, _, c1, vs1, rfl, hc1, _⟩ := pd_get' pW hx
      have hi : i < n := by rw [← lW']; exact (List.getElem?_eq_some_iff.mp hx).1
      refine ⟨rfl, yes (iteT ⟨_, rfl, _, _, _, _, true, rfl, .ty "tuple", isi_tup (hs _ _ hc1), kit_ty (by decide +kernel), _, hd1, by rw [List.length_replicate]; omega, same_mut hs hD, by rw [upd_same, rep_snoc]⟩)⟩
    · rintro H1 ⟨hs, hd1⟩
      refine ⟨D, List.replicate ws.length true, rfl, SqL.of (by rw [hd1, List.map_replicate]), ?_⟩
      rw [all_true]
      have hW1 := firm_web.s hs hW
      have sW1 := same_t hs sW
      have eN : ((ws.length : Nat) : Int).toNat = n := by omega
      refine ⟨_, rfl, iteF ⟨_, rfl, _, _, rfl, .inr sW1, _, rfl, by omega, by omega, fun D2 hD2 => ?_⟩⟩
      rw [eN]
      refine lc_range (fun i H' => Same H H' ∧ H' D2 = some (.lst (List.replicate i (.bl true)))) ⟨fun q o z => same_new hD2 q o (hs q o z), upd_same⟩ ?_ ?_
      · rintro i H2 hi ⟨hs2, hd2⟩
        refine ⟨rfl, yes (iteT ⟨_, rfl, _, rfl, a, W, n, d, i, by rw [z0]; rfl, firm_web.s hs2 hW, g.toRg, g.sym, hi, fun H3 hs3 => ⟨_, hs3 _ _ hd2, by rw [List.length_replicate]; omega, ?_, by rw [upd_same, rep_snoc]⟩⟩)⟩
        intro q o z
        by_cases e : q = D2
        · subst e
          exact absurd (hs q o z) (by rw [hD2]; exact nofun)
        · rw [upd_ne e]
          exact hs3 q o (hs2 q o z)
      · rintro H2 ⟨hs2, hd2⟩
        refine ⟨D2, List.replicate n true, rfl, SqL.of (by rw [hd2, List.map_replicate]), ?_⟩
        rw [all_true]
        have hW2 := firm_web.s hs2 hW
        refine ⟨_, rfl, iteF ⟨_, rfl, a, W, n, d, 0, rfl, hW2, g.toRg, hn, hpos, fun p H3 hp hs3 hq => ⟨_, _, rfl, .inl (SqL.of hq), _, rfl, _, _, rfl, .inr (same_t hs3 (same_t hs2 sW)), rfl, ?_⟩⟩⟩
        have e : decide (V.int ((nats (ord W 0)).length : Nat) = V.int ((ws.length : Nat) : Int)) = true := by
          rw [List.length_map, g.ord_full hpos, lW', decide_eq_true rfl]
        show Q (.bl (decide (V.int ((nats (ord W 0)).length : Nat) = V.int ((ws.length : Nat) : Int)))) H3
        rw [e]
        exact k H3 fun q o z => hs3 q o (hs2 q o z)
end
end Sw
/-! SwA4 -/
set_option Elab.async false
set_option linter.all false
set_option maxRecDepth 100000
set_option maxHeartbeats 4000000
namespace Sw
open PySem L2
/-! ### heaps, once more -/
theorem st {H H1 H2 : Hp} (a : Same H H1) (b : Same H1 H2) : Same H H2 := fun q o z => b q o (a q o z)
theorem sn {H H1 : Hp} {p : Addr} {o : HO} (a : Same H H1) (h : H1 p = none) : Same H (upd H1 p o) := fun q o z => same_new h q o (a q o z)
theorem none_back {H H1 : Hp} {p : Addr} (s : Same H H1) (h : H1 p = none) : H p = none := by
  cases z : H p with
  | none => rfl
  | some o => rw [s p o z] at h; cases h
theorem LeadAt.s {H H' : Hp} {d : Addr} {m : Ld} (s : Same H H') (h : LeadAt H d m) : LeadAt H' d m := h.firm (nl_of s)
/-! ### leads that are not large -/
structure Sm (m : Ld) : Prop where
  nd : (m.map (·.1)).Nodup
  lt : ∀ k f, lk m k = some f → k.1 < 9 ∧ k.2 < 9
theorem Sm.len {m : Ld} (h : Sm m) : m.length ≤ 81 := by
  have := nodup_sub_len (l := m.map (·.1)) (m := allEnds 9 9) h.nd fun k hk => by
    obtain ⟨f, hf⟩ := Option.isSome_iff_exists.mp (lk_keys.mpr hk)
    exact mem_allEnds.mpr (h.lt k f hf)
  rw [List.length_map, allEnds_len] at this
  exact this
theorem Sm.nil : Sm [] := ⟨List.nodup_nil, fun _ _ h => by cases h⟩
theorem Sm.tie {m : Ld} (h : Sm m) {e x : End} (he : e.1 < 9 ∧ e.2 < 9) (hx : x.1 < 9 ∧ x.2 < 9) : Sm (tie m e x) := ⟨keys_tie m e x h.nd, fun k f hk => by
  rw [lk_tie] at hk
  by_cases z : k = x
  · rw [z]; exact hx
  · rw [if_neg z] at hk
    by_cases y : k = e
    · rw [y]; exact he
    · rw [if_neg y] at hk; exact h.lt k f hk⟩
section
variable {P : Program} {w : World} {K : PySem.W.Frag} {mg : Str → Option Value} {base : Heap}
def spFree : Sp := fun vs H Q _ => ∃ (d : Addr) (m : Ld) (wd dr : Nat), vs = [.ref d, .int (wd : Int), .int (dr : Int)] ∧ LeadAt H d m ∧ wd ≤ 9 ∧ dr ≤ 9 ∧
  ((∀ r i, r < wd → i < dr → (lk m (r, i)).isSome = true) → ∀ H', Same H H' → Q .non H') ∧
  ∀ (e : End) (p : Addr) (H' : Hp), e.1 < wd → e.2 < dr → lk m e = none → H p = none → Same H H' → EndR H' (.ref p) e → Q (.ref p) H'
theorem ok_free_end {f : Addr} {fd : FuncData} (F : FnP K "free_end" "free_end" s_free_end f fd) (T : Txt mg) : FnOk P w K mg base CX0 1 f fd p_free_end spFree := by
  refine okd F sc_free_end (fun vs H Q E h => ?_) (fun cdv A outer s H vs Q E hr h => ?_)
  · obtain ⟨d, m, wd, dr, rfl, _⟩ := h
    rfl
  · obtain ⟨d, m, wd, dr, rfl, ⟨kvs, hd, hL⟩, hw, hdr, k1, k2⟩ := h
    refine ⟨_, (pss_cons (ps_for PassesOwn.never rfl (pi_range1 (by rfl) T.range (pa_cons (pv 1) pa_nil)) (pg_name (i := 3) sc_free_end.nd rfl (by first | exact Or.inl rfl | exact Or.inr rfl))
      (pss_one (ps_for PassesOwn.never rfl (pi_range1 (by rfl) T.range (pa_cons (pv 2) pa_nil)) (pg_name (i := 4) sc_free_end.nd rfl (by first | exact Or.inl rfl | exact Or.inr rfl))
      (pss_one (ps_if (pt_cmp (pc_dnotin (hu_of hr) (pe_tup (pa_cons (pv 3) (pa_cons (pv 4) pa_nil))) (pv 0)) (by rfl)) (pss_one (ps_ret (pe_tup (pa_cons (pv 3) (pa_cons (pv 4) pa_nil))))) pss_nil)))))
      (pss_one (ps_ret pe_non))), ?_⟩
    refine ⟨_, rfl, _, rfl, by omega, by omega, for_range (n := wd) (fun i σ H' => Same H H' ∧ (∀ r j, r < i → j < dr → (lk m (r, j)).isSome = true) ∧ ∃ c v, σ = [some (.ref d), some (.int (wd : Int)), some (.int (dr : Int)), c, v])
      ⟨fun _ _ z => z, fun r j hr => absurd hr (Nat.not_lt_zero _), none, none, rfl⟩ ?_ ?_⟩
    · rintro i σ H1 hi ⟨hs, ha, c, v, rfl⟩
      rw [z0]
      refine ⟨_, rfl, _, rfl, by omega, by omega, for_range (n := dr) (fun j σ H' => Same H H' ∧ (∀ r j, r < i → j < dr → (lk m (r, j)).isSome = true) ∧ (∀ j', j' < j → (lk m (i, j')).isSome = true) ∧ ∃ v, σ = [some (.ref d), some (.int (wd : Int)), some (.int (dr : Int)), some (.int (i : Int)), v])
        ⟨hs, ha, fun j hj => absurd hj (Nat.not_lt_zero _), _, rfl⟩ ?_ ?_⟩
      · rintro j σ H2 hj ⟨hs2, ha2, hb, v, rfl⟩
        rw [z0]
        refine ⟨_, rfl, _, rfl, by show 2 ≤ sizeLine; decide, fun p hp => ?_⟩
        refine ⟨_, rfl, d, _, rfl, DGet.t (k := keyE (i, j)) (same_new hp _ _ (hs2 _ _ hd)) upd_same, _, rfl, ?_⟩
        rw [hL.isSome]
        cases z : (lk m (i, j)).isSome with
        | true => exact iteF ⟨sn hs2 hp, ha2, fun j' hj' => by
            by_cases e : j' = j
            · rw [e]; exact z
            · exact hb j' (by omega), _, rfl⟩
        | false =>
          refine iteT ⟨_, rfl, _, rfl, by show 2 ≤ sizeLine; decide, fun q hq => ?_⟩
          have hs3 := sn (o := .tup [.int (i : Int), .int (j : Int)]) (sn (o := .tup [.int (i : Int), .int (j : Int)]) hs2 hp) hq
          exact k2 (i, j) q _ hi hj (by simpa using z) (none_back (sn hs2 hp) hq) hs3 ⟨q, rfl, upd_same⟩
      · rintro σ H2 ⟨hs2, ha2, hb, v, rfl⟩
        exact ⟨hs2, fun r j hr hj => by
          by_cases e : r = i
          · rw [e]; exact hb j hj
          · exact ha2 r j (by omega) hj, _, _, rfl⟩
    · rintro σ H1 ⟨hs, ha, c, v, rfl⟩
      exact k1 ha H1 hs
def spTie : Sp := fun vs H Q _ => ∃ (d : Addr) (v y : V) (m : Ld) (e x : End), vs = [.ref d, v, y] ∧ LeadAt H d m ∧ EndR H v e ∧ EndR H y x ∧ Sm m ∧
  ∀ (p : Addr) (H' : Hp), H p = none → Same H H' → LeadAt H' p (tie m e x) → Q (.ref p) H'
theorem ok_with_tie {f : Addr} {fd : FuncData} (F : FnP K "with_tie" "with_tie" s_with_tie f fd) (T : Txt mg) : FnOk P w K mg base CX0 1 f fd p_with_tie spTie := by
  refine okd F sc_with_tie (fun vs H Q E h => ?_) (fun cdv A outer s H vs Q E hr h => ?_)
  · obtain ⟨d, v, y, m, e, x, rfl, _⟩ := h
    rfl
  · obtain ⟨d, v, y, m, e, x, rfl, ⟨kvs, hd, hL⟩, he, hx, hm, k⟩ := h
    refine ⟨_, (pss_cons (ps_set (i := 3) sc_with_tie.nd rfl (by first | exact Or.inl rfl | exact Or.inr rfl) (pe_callTy (cr_dictT_ (hu1_of hr)) (by rfl) T.dict (by decide +kernel) (pa_cons (pv 0) pa_nil)))
      (pss_cons (ps_dput (hu_of hr) (pv 3) (pv 1) (pv 2) rfl)
      (pss_cons (ps_dput (hu_of hr) (pv 3) (pv 2) (pv 1) rfl)
      (pss_one (ps_ret (pv 3)))))), ?_⟩
    have hbig : sizeLine = 16777216 := PySem.sizeLine_eq
    have hk : kvs.length ≤ 81 := by rw [Paired.length hL]; exact hm.len
    refine ⟨_, rfl, d, kvs, rfl, hd, hL.hash hm.nd hm.lt P w, fun p hp => ?_⟩
    have he1 := firm_end.s (same_new (o := .dT kvs) hp) he
    have hx1 := firm_end.s (same_new (o := .dT kvs) hp) hx
    have hx0 := hx
    have he0 := he
    obtain ⟨b, rfl, hb⟩ := he
    obtain ⟨c, rfl, hc⟩ := hx
    have hb1 := same_new (o := .dT kvs) hp _ _ hb
    have hl1 := length_putK kvs (keyE e) (.ref c)
    refine ⟨_, rfl, _, rfl, _, rfl, p, _, rfl, DPut.t (k := keyE e) upd_same hb1 (by omega), ?_⟩
    have hne : c ≠ p := ne_of_none hc hp
    refine ⟨_, rfl, _, rfl, _, rfl, p, _, rfl, DPut.t (k := keyE x) upd_same (by rw [upd_ne hne, upd_ne hne]; exact hc) (by omega), ?_⟩
    rw [upd_upd, upd_upd]
    have hs : ∀ o, Same H (upd H p o) := fun o => same_new hp
    exact ⟨_, rfl, k p _ hp (hs _) ⟨_, upd_same, LdR.put (LdR.put (hL.firm (nl_of (hs _))) e x (firm_end.s (hs _) hx0)) x e (firm_end.s (hs _) he0)⟩⟩
def spWebOf : Sp := fun vs H Q _ => ∃ (d : Addr) (m : Ld) (wd dr : Nat), vs = [.ref d, .int (wd : Int), .int (dr : Int)] ∧ LeadAt H d m ∧ wd ≤ 9 ∧ dr ≤ 9 ∧ (∀ r i, r < wd → i < dr → (lk m (r, i)).isSome = true) ∧
  ∀ (p : Addr) (H' : Hp), H p = none → Same H H' → WebR H' (.ref p) (webM wd dr m) → Q (.ref p) H'
theorem rng_snoc {α : Type} (g : Nat → α) (i : Nat) : (List.range (i + 1)).map g = (List.range i).map g ++ [g i] := by rw [List.range_succ, List.map_append]; rfl
theorem ok_web_of_ends {f : Addr} {fd : FuncData} (F : FnP K "web_of_ends" "web_of_ends" s_web_of_ends f fd) (T : Txt mg) : FnOk P w K mg base CX0 1 f fd p_web_of_ends spWebOf := by
  refine okd F sc_web_of_ends (fun vs H Q E h => ?_) (fun cdv A outer s H vs Q E hr h => ?_)
  · obtain ⟨d, m, wd, dr, rfl, _⟩ := h
    rfl
  · obtain ⟨d, m, wd, dr, rfl, ⟨kvs, hd, hL⟩, hw, hdr, hall, k⟩ := h
    refine ⟨_, (pss_one (ps_ret (pe_callTy (kTupOf K) (by rfl) T.tuple (by decide +kernel) (pa_cons (pe_lc (own := [("room", 4)]) rfl sc_web_of_ends.nd (pi_range1 (by rfl) T.range (pa_cons (pv 1) pa_nil)) (blkOk_by (N := n_web_of_ends) (sc := defScope s_web_of_ends) (by decide +kernel)) (fun _ _ _ _ _ => (pg_name (i := 4) sc_web_of_ends.nd rfl (by first | exact Or.inl rfl | exact Or.inr rfl))) (fun _ _ _ _ _ => pts_nil) (fun _ _ _ _ _ => (pe_callTy (kTupOf K) (by rfl) T.tuple (by decide +kernel) (pa_cons (pe_lc (own := [("door", 3)]) rfl sc_web_of_ends.nd (pi_range1 (by rfl) T.range (pa_cons (pv 2) pa_nil)) (by refine blkOk_by ?_; dsimp only [Cx.blk, compEnvC, Cx.nox, Cx.wish, cxOf, PyProof.Rows.envOfC, relabel, Env.kindOf]; rfl) (fun _ _ _ _ _ => (pg_name (i := 3) sc_web_of_ends.nd rfl (by first | exact Or.inl rfl | exact Or.inr rfl))) (fun _ _ _ _ _ => pts_nil) (fun _ _ _ _ _ => (pe_dget (hu_of hr) (pv 0) (pe_tup (pa_cons (pv 4) (pa_cons (pv 3) pa_nil))) (fun _ _ => rfl)))) pa_nil)))) pa_nil)))), ?_⟩
    have hbig : sizeLine = 16777216 := PySem.sizeLine_eq
    refine ⟨_, rfl, _, rfl, by omega, by omega, fun D hD => ?_⟩
    refine lc_range (n := wd) (fun i H' => Same H H' ∧ ∃ vs, H' D = some (.lst vs) ∧ Paired (RowR H') vs ((List.range i).map fun r => (List.range dr).map fun i => (lk m (r, i)).getD (0, 0))) ⟨same_new hD, [], upd_same, .nil⟩ ?_ ?_
    · rintro i H1 hi ⟨hs, vs, hv, pv⟩
      rw [z0]
      refine ⟨rfl, yes (iteT ⟨_, rfl, _, rfl, by omega, by omega, fun D2 hD2 => ?_⟩)⟩
      refine lc_range (n := dr) (fun j H' => Same H1 H' ∧ ∃ us, H' D2 = some (.lst us) ∧ Paired (EndR H') us ((List.range j).map fun j => (lk m (i, j)).getD (0, 0))) ⟨same_new hD2, [], upd_same, .nil⟩ ?_ ?_
      · rintro j H2 hj ⟨hs2, us, hu, pu⟩
        rw [z0]
        refine ⟨rfl, yes (iteT ⟨_, rfl, _, rfl, _, rfl, by show 2 ≤ sizeLine; decide, fun p hp => ?_⟩)⟩
        obtain ⟨f, hf⟩ := Option.isSome_iff_exists.mp (hall i j hi hj)
        obtain ⟨y, hy, ry⟩ := hL.some_ hf
        have s3 := sn (o := .tup [.int (i : Int), .int (j : Int)]) (st hs hs2) hp
        refine ⟨d, y, rfl, by rw [← hy]; exact DGet.t (k := keyE (i, j)) (s3 _ _ hd) upd_same, us, same_new hp _ _ hu, ?_, ?_⟩
        · rw [Paired.length pu, List.length_map, List.length_range]; omega
        · have ne2 : NL H2 (upd (upd H2 p (.tup [.int (i : Int), .int (j : Int)])) D2 (.lst (us ++ [y]))) := NL.trans (nl_of (same_new hp)) (nl_lst (same_new hp _ _ hu))
          refine ⟨same_mut (sn hs2 hp) hD2, us ++ [y], upd_same, ?_⟩
          rw [rng_snoc (fun j => (lk m (i, j)).getD (0, 0)), hf]
          exact pd_app (firm_end.all ne2 pu) (.cons (firm_end _ _ _ _ (NL.trans (nl_of s3) (nl_lst (same_new hp _ _ hu))) ry) .nil)
      · rintro H2 ⟨hs2, us, hu, pu⟩
        refine ⟨D2, us, rfl, .inl ⟨SqL.of hu, fun l hl => ?_⟩⟩
        have s3 := sn (o := .tup us) hs2 hl
        refine ⟨vs, s3 _ _ hv, ?_, ?_⟩
        · rw [Paired.length pv, List.length_map, List.length_range]; omega
        · have hlD := s3 _ _ hv
          refine ⟨same_mut (st hs s3) hD, vs ++ [.ref l], upd_same, ?_⟩
          rw [rng_snoc (fun r => (List.range dr).map fun i => (lk m (r, i)).getD (0, 0))]
          refine pd_app (firm_row.all (NL.trans (nl_of s3) (nl_lst hlD)) pv) (.cons ?_ .nil)
          exact firm_row _ _ _ _ (nl_lst hlD) ⟨l, us, rfl, upd_same, firm_end.all (nl_of (same_new hl)) pu⟩
    · rintro H1 ⟨hs, vs, hv, pv⟩
      refine ⟨D, vs, rfl, .inl ⟨SqL.of hv, fun l hl => ?_⟩⟩
      exact k l _ (none_back hs hl) (sn hs hl) ⟨l, vs, rfl, upd_same, firm_row.all (nl_of (same_new hl)) pv⟩
end
end Sw
/-! SwA5 -/
set_option Elab.async false
set_option linter.all false
set_option maxRecDepth 100000
set_option maxHeartbeats 4000000
namespace Sw
open PySem L2
/-- a lead and how many rooms are known -/
def KidR : Rep (Ld × Nat) := fun H v q => ∃ a d, v = .ref a ∧ H a = some (.tup [.ref d, .int (q.2 : Int)]) ∧ LeadAt H d q.1
theorem firm_kid : Firm KidR := fun H H' v x n ⟨a, d, h1, h2, h3⟩ => ⟨a, d, h1, n a _ (fun xs q => nomatch q) h2, h3.firm n⟩
abbrev spotsN (m : Ld) (c d : Nat) : List End := (allEnds c d).filter fun x => (lk m x).isNone
def kidsOf (m : Ld) (e : End) (come c d : Nat) : List (Ld × Nat) := (spotsN m c d).map fun x => (tie m e x, max come (x.1 + 1))
theorem max_int (a b : Nat) : (if ((b : Nat) : Int) > (a : Nat) then ((b : Nat) : Int) else ((a : Nat) : Int)) = ((max a b : Nat) : Int) := by
  split <;> omega
section
variable {P : Program} {w : World} {K : PySem.W.Frag} {mg : Str → Option Value} {base : Heap}
def spWays : Sp := fun vs H Q _ => ∃ (d : Addr) (v : V) (m : Ld) (e : End) (cm wd dr : Nat), vs = [.ref d, v, .int (cm : Int), .int (wd : Int), .int (dr : Int)] ∧ LeadAt H d m ∧ EndR H v e ∧ Sm m ∧ cm < wd ∧ wd ≤ 9 ∧ dr ≤ 9 ∧
  ∀ (p : Addr) (H' : Hp), H p = none → Same H H' → ListR KidR H' (.ref p) (kidsOf m e cm (cm + 1) dr) → Q (.ref p) H'
theorem ok_ways_on_from {f : Addr} {fd : FuncData} (F : FnP K "ways_on_from" "ways_on_from" s_ways_on_from f fd) (T : Txt mg) (c_with_tie : Cal P w K mg base 1 "with_tie" p_with_tie spTie) : FnOk P w K mg base CX0 2 f fd p_ways_on_from spWays := by
  refine okd F sc_ways_on_from (fun vs H Q E h => ?_) (fun cdv A outer s H vs Q E hr h => ?_)
  · obtain ⟨d, v, m, e, cm, wd, dr, rfl, _⟩ := h
    rfl
  · obtain ⟨d, v, m, e, cm, wd, dr, rfl, hd, he, hm, hcw, hw, hdr, k⟩ := h
    refine ⟨_, (pss_cons (ps_set (i := 5) sc_ways_on_from.nd rfl (by first | exact Or.inl rfl | exact Or.inr rfl) (pe_lst pa_nil))
      (pss_cons (ps_for PassesOwn.never rfl (pi_range1 (by rfl) T.range (pa_cons (pe_callB (call_min2 rfl) (by rfl) T.min (by decide +kernel) (pa_cons (pe_op op_add (pv 2) pe_int) (pa_cons (pv 3) pa_nil))) pa_nil)) (pg_name (i := 6) sc_ways_on_from.nd rfl (by first | exact Or.inl rfl | exact Or.inr rfl))
      (pss_one (ps_for PassesOwn.never rfl (pi_range1 (by rfl) T.range (pa_cons (pv 4) pa_nil)) (pg_name (i := 7) sc_ways_on_from.nd rfl (by first | exact Or.inl rfl | exact Or.inr rfl))
      (pss_one (ps_if (pt_cmp (pc_dnotin (hu_of hr) (pe_tup (pa_cons (pv 6) (pa_cons (pv 7) pa_nil))) (pv 0)) (by rfl)) (pss_one (ps_expr (pe_bm PySem.F.plainAttrs_list PySem.F.slot_list_append PySem.F.type_list_append mt_append (pv 5) (pa_cons (pe_tup (pa_cons (pe_cal c_with_tie (hr.mono (by decide)) (pa_cons (pv 0) (pa_cons (pv 1) (pa_cons (pe_tup (pa_cons (pv 6) (pa_cons (pv 7) pa_nil))) pa_nil)))) (pa_cons (pe_callB (call_max2 rfl) (by rfl) T.max (by decide +kernel) (pa_cons (pv 2) (pa_cons (pe_op op_add (pv 6) pe_int) pa_nil))) pa_nil))) pa_nil)))) pss_nil)))))
      (pss_one (ps_ret (pv 5))))), ?_⟩
    have hbig : sizeLine = 16777216 := PySem.sizeLine_eq
    refine ⟨by show 0 ≤ sizeLine; decide, fun D hD => ?_⟩
    have emin : (if ((wd : Nat) : Int) < ((cm : Nat) : Int) + 1 then ((wd : Nat) : Int) else ((cm : Nat) : Int) + 1) = ((cm + 1 : Nat) : Int) := by split <;> omega
    refine ⟨_, rfl, _, _, rfl, rfl, _, rfl, _, _, rfl, _, rfl, by rw [emin]; omega, by rw [emin]; omega, ?_⟩
    have eN : (if ((wd : Nat) : Int) < ((cm : Nat) : Int) + 1 then ((wd : Nat) : Int) else ((cm : Nat) : Int) + 1).toNat = cm + 1 := by rw [emin]; exact Int.toNat_natCast _
    rw [eN]
    have hkl : ∀ c x, c ≤ 9 → (kidsOf m e x c dr).length ≤ 81 := fun c x hc => by
      unfold kidsOf
      rw [List.length_map]
      refine Nat.le_trans (List.length_filter_le _ _) ?_
      rw [allEnds_len]
      exact Nat.le_trans (Nat.mul_le_mul hc hdr) (by decide)
    refine for_range (n := cm + 1) (fun i σ H' => Same H H' ∧ ListR KidR H' (.ref D) (kidsOf m e cm i dr) ∧ ∃ a b, σ = [some (.ref d), some v, some (.int (cm : Int)), some (.int (wd : Int)), some (.int (dr : Int)), some (.ref D), a, b])
      ⟨same_new hD, ⟨D, [], rfl, upd_same, .nil⟩, none, none, rfl⟩ ?_ ?_
    · rintro i σ H1 hi ⟨hs, hl, a, b, rfl⟩
      rw [z0]
      refine ⟨_, rfl, _, rfl, by omega, by omega, for_range (n := dr) (fun j σ H' => Same H H' ∧ ListR KidR H' (.ref D) (kidsOf m e cm i dr ++ (((List.range j).map fun j => (i, j)).filter fun x => (lk m x).isNone).map fun x => (tie m e x, max cm (x.1 + 1))) ∧
        ∃ b, σ = [some (.ref d), some v, some (.int (cm : Int)), some (.int (wd : Int)), some (.int (dr : Int)), some (.ref D), some (.int (i : Int)), b])
        ⟨hs, by rw [List.range_zero, List.map_nil, List.filter_nil, List.map_nil, List.append_nil]; exact hl, _, rfl⟩ ?_ ?_⟩
      · rintro j σ H2 hj ⟨hs2, hl2, b, rfl⟩
        rw [z0]
        have esn : (((List.range (j + 1)).map fun j => (i, j)).filter fun x => (lk m x).isNone) = (((List.range j).map fun j => (i, j)).filter fun x => (lk m x).isNone) ++ if (lk m (i, j)).isSome = true then [] else [(i, j)] := by
          rw [rng_snoc (fun j => (i, j)), List.filter_append]
          congr 1
          cases z : lk m (i, j) with
          | none => rw [List.filter_cons_of_pos (by rw [z]; rfl)]; rfl
          | some f => rw [List.filter_cons_of_neg (by rw [z]; exact Bool.false_ne_true)]; rfl
        refine ⟨_, rfl, _, rfl, by show 2 ≤ sizeLine; decide, fun p hp => ?_⟩
        have s3 := sn (o := .tup [.int (i : Int), .int (j : Int)]) hs2 hp
        obtain ⟨kvs, hd3, hL⟩ := hd.s s3
        refine ⟨_, rfl, d, _, rfl, DGet.t (k := keyE (i, j)) hd3 upd_same, _, rfl, ?_⟩
        rw [hL.isSome]
        obtain ⟨_, us, e0, hu, pu⟩ := hl2
        cases e0
        have hz : (lk m (i, j)).isSome = true ∨ (lk m (i, j)).isSome = false := by cases (lk m (i, j)).isSome <;> simp
        rcases hz with z | z
        · rw [z]
          refine iteF ⟨s3, ?_, _, rfl⟩
          rw [esn, if_pos z, List.append_nil]
          exact ⟨D, us, rfl, same_new hp _ _ hu, firm_kid.all (nl_of (same_new hp)) pu⟩
        · rw [z]
          refine iteT ⟨_, rfl, .inl ⟨rfl, us, SqL.of (same_new hp _ _ hu)⟩, _, rfl, _, rfl, _, rfl, _, rfl, by show 2 ≤ sizeLine; decide, fun q hq => ?_⟩
          have s4 := sn (o := .tup [.int (i : Int), .int (j : Int)]) s3 hq
          refine ⟨d, v, .ref q, m, e, (i, j), rfl, hd.s s4, firm_end.s s4 he, ⟨q, rfl, upd_same⟩, hm, fun p5 H5 hp5 s5 hL5 => ?_⟩
          have s6 := st s4 s5
          refine ⟨_, rfl, _, rfl, _, _, rfl, rfl, _, _, rfl, by show 2 ≤ sizeLine; decide, fun p7 hp7 => ?_⟩
          have hDu := s5 _ _ (same_new hq _ _ (same_new hp _ _ hu))
          refine ⟨D, us, _, rfl, rfl, same_new hp7 _ _ hDu, ?_, ?_⟩
          · have h1 := Paired.length pu
            have h2 := hkl i cm (by omega)
            have h3 : ((((List.range j).map fun j => (i, j)).filter fun x => (lk m x).isNone).map fun x => (tie m e x, max cm (x.1 + 1))).length ≤ 9 := by
              rw [List.length_map]
              refine Nat.le_trans (List.length_filter_le _ _) ?_
              rw [List.length_map, List.length_range]; omega
            rw [List.length_append] at h1
            omega
          · have s7 := sn (o := .tup [.ref p5, .int (if (((i : Nat) : Int) + 1) > (cm : Nat) then (((i : Nat) : Int) + 1) else ((cm : Nat) : Int))]) s6 hp7
            refine ⟨same_mut s7 hD, ?_, _, rfl⟩
            rw [esn, if_neg (show ¬ (lk m (i, j)).isSome = true by rw [z]; exact Bool.false_ne_true), List.map_append, ← List.append_assoc]
            have hD7 := same_new (o := .tup [.ref p5, .int (if (((i : Nat) : Int) + 1) > (cm : Nat) then (((i : Nat) : Int) + 1) else ((cm : Nat) : Int))]) hp7 _ _ hDu
            have sx := st (same_new (o := .tup [.int (i : Int), .int (j : Int)]) hp) (st (same_new (o := .tup [.int (i : Int), .int (j : Int)]) hq) (st s5 (same_new (o := .tup [.ref p5, .int (if (((i : Nat) : Int) + 1) > (cm : Nat) then (((i : Nat) : Int) + 1) else ((cm : Nat) : Int))]) hp7)))
            refine ⟨D, us ++ [.ref p7], rfl, upd_same, pd_app (firm_kid.all (NL.trans (nl_of sx) (nl_lst hD7)) pu) (.cons ?_ .nil)⟩
            refine firm_kid _ _ _ _ (nl_lst hD7) ⟨p7, p5, rfl, ?_, hL5.s (same_new hp7)⟩
            rw [upd_same]
            have e9 := max_int cm (i + 1)
            rw [Int.natCast_add] at e9
            rw [← e9]; rfl
      · rintro σ H2 ⟨hs2, hl2, b, rfl⟩
        refine ⟨hs2, ?_, _, _, rfl⟩
        have e1 : kidsOf m e cm (i + 1) dr = kidsOf m e cm i dr ++ (((List.range dr).map fun j => (i, j)).filter fun x => (lk m x).isNone).map fun x => (tie m e x, max cm (x.1 + 1)) := by
          unfold kidsOf spotsN
          rw [allEnds_succ, List.filter_append, List.map_append]
        rw [e1]; exact hl2
    · rintro σ H1 ⟨hs, hl, a, b, rfl⟩
      exact ⟨_, rfl, k D H1 hD hs hl⟩
end
end Sw
/-! SwA6 -/
set_option Elab.async false
set_option linter.all false
set_option maxRecDepth 100000
set_option maxHeartbeats 4000000
namespace Sw
open PySem L2
theorem Le.trans {a b c : Ld} (h : Le a b) (k : Le b c) : Le a c := fun e f z => k e f (h e f z)
/-- ends of c rooms that lead to one another, each new room behind an earlier one -/
structure Grow (m0 : Ld) (c d : Nat) (m : Ld) : Prop where
  le : Le m0 m
  nd : (m.map (·.1)).Nodup
  rng : ∀ e f, lk m e = some f → e.1 < c ∧ e.2 < d
  sym : ∀ e f, lk m e = some f → lk m f = some e
  tree : ∀ r, 0 < r → r < c → ∃ i r' i', r' < r ∧ lk m (r, i) = some (r', i')
theorem Grow.sm {m0 m : Ld} {c d : Nat} (h : Grow m0 c d m) (hc : c ≤ 9) (hd : d ≤ 9) : Sm m := ⟨h.nd, fun k f z => by
  have := h.rng k f z
  omega⟩
theorem Grow.self {m0 m : Ld} {c d : Nat} (h : Grow m0 c d m) {e : End} (h1 : e.1 < c) (h2 : e.2 < d) (hn : lk m e = none) : Grow m0 c d (tie m e e) := by
  have lkt : ∀ j, lk (tie m e e) j = if j = e then some e else lk m j := fun j => by
    rw [lk_tie]
    by_cases z : j = e
    · rw [if_pos z, if_pos z]
    · rw [if_neg z, if_neg z]
  have le := le_tie hn hn
  refine ⟨h.le.trans le, keys_tie m e e h.nd, fun k f z => ?_, fun k f z => ?_, fun r r1 r2 => ?_⟩
  · rw [lkt] at z
    by_cases y : k = e
    · rw [y]; exact ⟨h1, h2⟩
    · rw [if_neg y] at z; exact h.rng k f z
  · rw [lkt] at z
    by_cases y : k = e
    · rw [if_pos y] at z; cases z; rw [lkt, if_pos rfl, y]
    · rw [if_neg y] at z; exact le f k (h.sym k f z)
  · obtain ⟨i, r', i', hr, hl⟩ := h.tree r r1 r2
    exact ⟨i, r', i', hr, le _ _ hl⟩
theorem TrOk.grow {n d : Nat} {way : List Nat} {t : Tr} (h : TrOk n d way t) {e : End} (h1 : e.1 < t.come) (h2 : e.2 < d) (hn : lk t.m e = none) : Grow t.m (t.come + 1) d (tie t.m e (t.come, 0)) := by
  have hx : lk t.m (t.come, 0) = none := by
    cases z : lk t.m (t.come, 0) with
    | none => rfl
    | some f => exact absurd (h.rng _ _ z).1 (Nat.lt_irrefl _)
  have le := le_tie hn hx
  refine ⟨le, keys_tie _ _ _ h.nd, fun k f z => ?_, fun k f z => ?_, fun r r1 r2 => ?_⟩
  · rw [lk_tie] at z
    by_cases y : k = (t.come, 0)
    · rw [y]; exact ⟨Nat.lt_succ_self _, by show 0 < d; omega⟩
    · rw [if_neg y] at z
      by_cases y2 : k = e
      · rw [y2]; exact ⟨by omega, h2⟩
      · rw [if_neg y2] at z
        have := h.rng k f z
        exact ⟨by omega, this.2⟩
  · rw [lk_tie] at z
    by_cases y : k = (t.come, 0)
    · rw [if_pos y] at z; cases z
      rw [lk_tie]
      by_cases y3 : e = (t.come, 0)
      · rw [y3] at h1; exact absurd h1 (Nat.lt_irrefl _)
      · rw [if_neg y3, if_pos rfl, y]
    · rw [if_neg y] at z
      by_cases y2 : k = e
      · rw [if_pos y2] at z; cases z
        rw [lk_tie, if_pos rfl, y2]
      · rw [if_neg y2] at z; exact le f k (h.sym k f z)
  · by_cases y : r = t.come
    · subst y
      refine ⟨0, e.1, e.2, h1, ?_⟩
      rw [lk_tie, if_pos rfl]
    · obtain ⟨i, r', i', hr, hl⟩ := h.tree r r1 (by omega)
      exact ⟨i, r', i', hr, le _ _ hl⟩
section
variable {P : Program} {w : World} {K : PySem.W.Frag} {mg : Str → Option Value} {base : Heap}
def spClosed : Sp := fun vs H Q _ => ∃ (d : Addr) (n dr : Nat) (way : List Nat) (t : Tr), vs = [.ref d, .int (t.come : Int), .int (dr : Int)] ∧ LeadAt H d t.m ∧ TrOk n dr way t ∧ t.come < n ∧ n ≤ 9 ∧ dr ≤ 9 ∧
  (∃ e : End, e.1 < t.come ∧ e.2 < dr ∧ lk t.m e = none) ∧
  ∀ (m : Ld) (p : Addr) (H' : Hp), H p = none → Same H H' → Grow t.m (t.come + 1) dr m → Shut (t.come + 1) dr m → WebR H' (.ref p) (webM (t.come + 1) dr m) → Q (.ref p) H'
theorem ok_closed_web {f : Addr} {fd : FuncData} (F : FnP K "closed_web" "closed_web" s_closed_web f fd) (T : Txt mg) (c_with_tie : Cal P w K mg base 1 "with_tie" p_with_tie spTie) (c_free_end : Cal P w K mg base 1 "free_end" p_free_end spFree) (c_web_of_ends : Cal P w K mg base 1 "web_of_ends" p_web_of_ends spWebOf) : FnOk P w K mg base CX0 2 f fd p_closed_web spClosed := by
  refine okd F sc_closed_web (fun vs H Q E h => ?_) (fun cdv A outer s H vs Q E hr h => ?_)
  · obtain ⟨d, n, dr, way, t, rfl, _⟩ := h
    rfl
  · obtain ⟨d, n, dr, way, t, rfl, hd, ht, hcn, hn, hdr, ⟨e0, h01, h02, h03⟩, k⟩ := h
    refine ⟨_, (pss_cons (ps_set (i := 3) sc_closed_web.nd rfl (by first | exact Or.inl rfl | exact Or.inr rfl) (pe_cal c_with_tie (hr.mono (by decide)) (pa_cons (pv 0) (pa_cons (pe_cal c_free_end (hr.mono (by decide)) (pa_cons (pv 0) (pa_cons (pv 1) (pa_cons (pv 2) pa_nil)))) (pa_cons (pe_tup (pa_cons (pv 1) (pa_cons pe_int pa_nil))) pa_nil)))))
      (pss_cons (ps_set (i := 4) sc_closed_web.nd rfl (by first | exact Or.inl rfl | exact Or.inr rfl) (pe_cal c_free_end (hr.mono (by decide)) (pa_cons (pv 3) (pa_cons (pe_op op_add (pv 1) pe_int) (pa_cons (pv 2) pa_nil)))))
      (pss_cons (ps_while PassesOwn.never (pt_cmpR op_notN (pv 4) pe_non (nomark _)) (pss_cons (ps_set (i := 3) sc_closed_web.nd rfl (by first | exact Or.inl rfl | exact Or.inr rfl) (pe_cal c_with_tie (hr.mono (by decide)) (pa_cons (pv 3) (pa_cons (pv 4) (pa_cons (pv 4) pa_nil)))))
      (pss_one (ps_set (i := 4) sc_closed_web.nd rfl (by first | exact Or.inl rfl | exact Or.inr rfl) (pe_cal c_free_end (hr.mono (by decide)) (pa_cons (pv 3) (pa_cons (pe_op op_add (pv 1) pe_int) (pa_cons (pv 2) pa_nil))))))))
      (pss_one (ps_ret (pe_cal c_web_of_ends (hr.mono (by decide)) (pa_cons (pv 3) (pa_cons (pe_op op_add (pv 1) pe_int) (pa_cons (pv 2) pa_nil))))))))), ?_⟩
    have sm0 : Sm t.m := ⟨ht.nd, fun k f z => by have := ht.rng k f z; omega⟩
    refine ⟨_, rfl, _, rfl, _, rfl, _, rfl, d, t.m, t.come, dr, rfl, hd, by omega, hdr, fun hall => ?_, fun e p H1 he1 he2 hlk hp hs hE => ?_⟩
    · have := hall e0.1 e0.2 h01 h02
      rw [h03] at this; cases this
    refine ⟨_, rfl, by show 2 ≤ sizeLine; decide, fun q hq => ?_⟩
    have s2 := sn (o := .tup [.int (t.come : Int), .int 0]) hs hq
    refine ⟨d, .ref p, .ref q, t.m, e, (t.come, 0), rfl, hd.s s2, firm_end.s (same_new hq) hE, ⟨q, rfl, upd_same⟩, sm0, fun b H3 hb s3 hL => ?_⟩
    have s4 := st s2 s3
    have g0 := ht.grow he1 he2 hlk
    -- the state behind the search of a free end
    let W : Nat → L2.St → Hp → Prop := fun j σ H' => ∃ (m : Ld) (b : Addr) (v : V), j = free (t.come + 1) dr m ∧ Same H H' ∧ Grow t.m (t.come + 1) dr m ∧ LeadAt H' b m ∧
      σ = [some (.ref d), some (.int (t.come : Int)), some (.int (dr : Int)), some (.ref b), some v] ∧
      ((v = .non ∧ ∀ r i, r < t.come + 1 → i < dr → (lk m (r, i)).isSome = true) ∨ ∃ q x, v = .ref q ∧ EndR H' (.ref q) x ∧ x.1 < t.come + 1 ∧ x.2 < dr ∧ lk m x = none)
    have start : ∀ (m : Ld) (b : Addr) (v : V) (H' : Hp), Same H H' → Grow t.m (t.come + 1) dr m → LeadAt H' b m →
        ((v = .non ∧ ∀ r i, r < t.come + 1 → i < dr → (lk m (r, i)).isSome = true) ∨ ∃ q x, v = .ref q ∧ EndR H' (.ref q) x ∧ x.1 < t.come + 1 ∧ x.2 < dr ∧ lk m x = none) →
        W (free (t.come + 1) dr m) [some (.ref d), some (.int (t.come : Int)), some (.int (dr : Int)), some (.ref b), some v] H' := fun m b v H' h1 h2 h3 h4 => ⟨m, b, v, rfl, h1, h2, h3, rfl, h4⟩
    refine ⟨_, rfl, _, rfl, _, _, rfl, rfl, _, rfl, b, _, t.come + 1, dr, rfl, hL, by omega, hdr, fun hall H5 s5 => ?_, fun x q5 H5 hx1 hx2 hx3 hq5 s5 hE5 => ?_⟩
    all_goals
      refine ⟨W, ⟨_, start _ b _ H5 (st s4 s5) g0 (hL.s s5) ?_⟩, ?_⟩
      first
        | exact .inl ⟨rfl, hall⟩
        | exact .inr ⟨q5, x, rfl, hE5, hx1, hx2, hx3⟩
      rintro j σ H6 ⟨m, b6, v6, hj, s6, g6, hL6, rfl, hv⟩
      rcases hv with ⟨rfl, hall6⟩ | ⟨q6, x6, rfl, hE6, hx61, hx62, hx63⟩
      · refine ⟨_, rfl, rfl, _, rfl, iteF ?_⟩
        refine ⟨_, rfl, _, rfl, _, _, rfl, rfl, _, rfl, b6, m, t.come + 1, dr, rfl, hL6, by omega, hdr, hall6, fun p7 H7 hp7 s7 hW7 => ?_⟩
        exact k m p7 H7 (none_back s6 hp7) (st s6 s7) g6 ⟨hall6, g6.rng, g6.sym⟩ hW7
      · refine ⟨_, rfl, rfl, _, rfl, iteT ⟨fun σ' H' => ∃ j', j' < j ∧ W j' σ' H', fun _ _ z => z, ?_⟩⟩
        refine ⟨_, rfl, _, rfl, _, rfl, b6, .ref q6, .ref q6, m, x6, x6, rfl, hL6, hE6, hE6, g6.sm (by omega) hdr, fun b7 H7 hb7 s7 hL7 => ?_⟩
        have g7 := g6.self hx61 hx62 hx63
        have lt7 : free (t.come + 1) dr (tie m x6 x6) < j := by rw [hj]; exact free_tie (mem_allEnds.mpr ⟨hx61, hx62⟩) hx63
        refine ⟨_, rfl, _, rfl, _, _, rfl, rfl, _, rfl, b7, _, t.come + 1, dr, rfl, hL7, by omega, hdr, fun hall8 H8 s8 => ?_, fun x8 q8 H8 hx81 hx82 hx83 hq8 s8 hE8 => ?_⟩
        · exact ⟨_, lt7, start _ b7 .non H8 (st s6 (st s7 s8)) g7 (hL7.s s8) (.inl ⟨rfl, hall8⟩)⟩
        · exact ⟨_, lt7, start _ b7 (.ref q8) H8 (st s6 (st s7 s8)) g7 (hL7.s s8) (.inr ⟨q8, x8, rfl, hE8, hx81, hx82, hx83⟩)⟩
end
end Sw
/-! SwA7 -/
set_option Elab.async false
set_option linter.all false
set_option maxRecDepth 100000
set_option maxHeartbeats 4000000
namespace Sw
open PySem L2
theorem flat_rep {α : Type} (v : α) : ∀ n : Nat, (List.replicate n [v]).flatten = List.replicate n v
  | 0 => rfl
  | n + 1 => by rw [List.replicate_succ, List.flatten_cons, flat_rep v n, List.replicate_succ]; rfl
theorem pd_of_get {α β : Type} {F : α → β → Prop} : ∀ {xs : List α} {ys : List β}, xs.length = ys.length → (∀ (i : Nat) (y : β), ys[i]? = some y → ∃ x, xs[i]? = some x ∧ F x y) → Paired F xs ys
  | [], [], _, _ => .nil
  | x :: xs, y :: ys, h, k => by
    obtain ⟨x', hx, r⟩ := k 0 y rfl
    cases hx
    exact .cons r (pd_of_get (by simpa using h) fun i z hz => k (i + 1) z hz)
theorem ixn {n j : Nat} (hj : j < n) : ixN n (j : Int) = some j := by
  unfold ixN
  rw [if_pos (by omega), if_pos (by omega), Int.toNat_natCast]
theorem at_nats {ns : List Nat} {i x : Nat} (h : ns[i]? = some x) : atI (nats ns) (i : Int) = some (.int (x : Int)) := atI_nat (by rw [List.getElem?_map, h]; rfl)
abbrev plRow (W : Web) (r x : Nat) : List End := (row W x).map fun e => (pl W r e.1, e.2)
theorem pl_inj {W : Web} {n d r x y : Nat} (h : Ev W n d) (hr : r < n) (hx : x < n) (hy : y < n) (e : pl W r x = pl W r y) : x = y := idx_inj (h.ord_all hr x hx) (h.ord_all hr y hy) e
theorem pl_lt {W : Web} {n d r x : Nat} (h : Ev W n d) (hr : r < n) (hx : x < n) : pl W r x < n := by
  have := List.idxOf_lt_length_of_mem (h.ord_all hr x hx)
  rw [h.ord_full hr] at this
  exact this
section
variable {P : Program} {w : World} {K : PySem.W.Frag} {mg : Str → Option Value} {base : Heap}
def spRenum : Sp := fun vs H Q _ => ∃ (a b : Addr) (W : Web) (n d r : Nat), vs = [.ref a, .ref b] ∧ WebR H (.ref a) W ∧ Ev W n d ∧ r < n ∧ n ≤ 9 ∧ d ≤ 9 ∧ H b = some (.lst (nats ((List.range n).map (pl W r)))) ∧
  ∀ (p : Addr) (H' : Hp), H p = none → Same H H' → WebR H' (.ref p) (told W r) → Q (.ref p) H'
theorem ok_renumbered {f : Addr} {fd : FuncData} (F : FnP K "renumbered" "renumbered" s_renumbered f fd) (T : Txt mg) : FnOk P w K mg base CX0 1 f fd p_renumbered spRenum := by
  refine okd F sc_renumbered (fun vs H Q E h => ?_) (fun cdv A outer s H vs Q E hr h => ?_)
  · obtain ⟨a, b, W, n, d, r, rfl, _⟩ := h
    rfl
  · obtain ⟨a, b, W, n, d, r, rfl, hW, g, hrn, hn, hd9, hb, k⟩ := h
    refine ⟨_, (pss_cons (ps_set (i := 2) sc_renumbered.nd rfl (by first | exact Or.inl rfl | exact Or.inr rfl) (pe_op op_rep (pe_lst (pa_cons (pe_tup pa_nil) pa_nil)) (pe_callB (kLen K) (by rfl) T.len PySem.boot_len (pa_cons (pv 0) pa_nil))))
      (pss_cons (ps_for PassesOwn.never rfl (kEnumT K rfl (by rfl) T.enumerate (pa_cons (pv 0) pa_nil)) (kgTup (n := 2) K rfl rfl (pgs_cons (pg_name (i := 3) sc_renumbered.nd rfl (by first | exact Or.inl rfl | exact Or.inr rfl)) (pgs_cons (pg_name (i := 4) sc_renumbered.nd rfl (by first | exact Or.inl rfl | exact Or.inr rfl)) pgs_nil)))
      (pss_one (ps_asg (pe_callTy (kTupOf K) (by rfl) T.tuple (by decide +kernel) (pa_cons (pe_lc (own := [("other", 5), ("door", 6)]) rfl sc_renumbered.nd (kTup K rfl (pv 4)) (blkOk_by (N := n_renumbered) (sc := defScope s_renumbered) (by decide +kernel)) (fun _ _ _ _ _ => (kgTup (n := 2) K rfl rfl (pgs_cons (pg_name (i := 5) sc_renumbered.nd rfl (by first | exact Or.inl rfl | exact Or.inr rfl)) (pgs_cons (pg_name (i := 6) sc_renumbered.nd rfl (by first | exact Or.inl rfl | exact Or.inr rfl)) pgs_nil)))) (fun _ _ _ _ _ => pts_nil) (fun _ _ _ _ _ => (pe_tup (pa_cons (pe_ix (kIxL K) (pv 1) (pv 5) (fun _ _ => rfl)) (pa_cons (pv 6) pa_nil))))) pa_nil)) (pg_sub (pv 2) (pe_ix (kIxL K) (pv 1) (pv 3) (fun _ _ => rfl)) set_list))))
      (pss_one (ps_ret (pe_callTy (kTupOf K) (by rfl) T.tuple (by decide +kernel) (pa_cons (pv 2) pa_nil)))))), ?_⟩
    have hbig : sizeLine = 16777216 := PySem.sizeLine_eq
    obtain ⟨ws, sW, pW, eW, lW⟩ := tup_sq (K := K) hW
    have lW' : ws.length = n := by rw [lW, g.len]
    refine ⟨by show 0 ≤ sizeLine; decide, fun p0 hp0 => ⟨by show 1 ≤ sizeLine; decide, fun q hq => ?_⟩⟩
    have s2 := sn (o := .lst [.ref p0]) (same_new (o := .tup []) hp0) hq
    have eN : ((ws.length : Nat) : Int).toNat = n := by rw [Int.toNat_natCast, lW']
    refine ⟨_, rfl, _, _, rfl, .inr (same_t s2 sW), q, _, _, rfl, rfl, upd_same, by omega, by omega, by rw [eN, List.length_singleton]; omega, fun D hD => ?_⟩
    rw [eN, flat_rep]
    have sD := sn (o := .lst (List.replicate n (V.ref p0))) s2 hD
    have hD0 := none_back s2 hD
    refine ⟨_, rfl, a, ws, rfl, same_t sD sW, for_it (walk_enumT (K := K) (a := a) (xs := ws)) (fun i σ H' => Same H H' ∧ (∃ vs, H' D = some (.lst vs) ∧ vs.length = n ∧ ∀ x, x < i → ∃ v, vs[pl W r x]? = some v ∧ RowR H' v (plRow W r x)) ∧
        ∃ c v, σ = [some (.ref a), some (.ref b), some (.ref D), c, v, none, none])
      ⟨sD, ⟨_, upd_same, List.length_replicate, fun x hx => absurd hx (Nat.not_lt_zero _)⟩, none, none, rfl⟩ (fun i σ H' _ z => same_t z.1 sW) ?_ ?_⟩
    · rintro i x σ H1 H2 hi ⟨hs, ⟨vs, hv, lv, hvs⟩, c, v, rfl⟩ ⟨T0, x1, y, rfl, hT, rfl, e1, hy⟩
      cases e1
      have hin : i < n := by rw [← lW']; exact hi
      obtain ⟨y0, hy0, ry⟩ := pd_get' pW hy
      rw [g.get hin] at hy0
      cases hy0
      have s3 := sn (o := .tup [.int (i : Nat), y]) hs hT
      obtain ⟨yb, rfl, ry2⟩ := tup_ref (firm_row.s s3 ry)
      obtain ⟨rs, sR, pR, eR, lR⟩ := tup_sq (K := K) ry2
      refine ⟨T0, _, rfl, SqT.of upd_same, rfl, _, _, rfl, _, _, rfl, rfl, ?_⟩
      refine ⟨_, rfl, yb, rfl, ⟨_, sR⟩, fun D2 hD2 => ?_⟩
      refine lc_tup (K := K) (a := yb) (xs := rs) (fun j H' => Same (upd H1 T0 (.tup [.int (i : Nat), .ref yb])) H' ∧ ∃ us, H' D2 = some (.lst us) ∧ Paired (EndR H') us (((row W i).take j).map fun e => (pl W r e.1, e.2))) ⟨same_new hD2, [], upd_same, .nil⟩ (fun j H' _ z => same_t z.1 sR) ?_ ?_
      · rintro j x H3 hx ⟨hs3, us, hu, pu⟩
        obtain ⟨e, he, c1, rfl, hc1⟩ := pd_get' pR hx
        have hj : j < d := by rw [← g.rows i hin]; exact (List.getElem?_eq_some_iff.mp he).1
        have em := g.mem_lt hin (List.mem_of_getElem? he)
        have sx := st s3 hs3
        refine ⟨c1, _, rfl, SqT.of (hs3 _ _ hc1), rfl, _, _, rfl, _, _, rfl, rfl, rfl, yes (iteT ?_)⟩
        refine ⟨_, rfl, _, rfl, _, _, _, _, rfl, rfl, SqL.of (sx _ _ hb), at_nats (x := pl W r e.1) (by rw [List.getElem?_map, List.getElem?_range em.1]; rfl), _, rfl, by show 2 ≤ sizeLine; decide, fun p hp => ?_⟩
        refine ⟨us, same_new hp _ _ hu, ?_, same_mut (sn hs3 hp) hD2, us ++ [.ref p], upd_same, ?_⟩
        · rw [Paired.length pu, List.length_map, List.length_take, g.rows i hin]; omega
        · have z : (row W i).take (j + 1) = (row W i).take j ++ [e] := by rw [List.take_add_one, he]; rfl
          rw [z, List.map_append]
          have hu3 := same_new (o := .tup [.int (pl W r e.1 : Nat), .int (e.2 : Nat)]) hp _ _ hu
          exact pd_app (firm_end.all (NL.trans (nl_of (same_new hp)) (nl_lst hu3)) pu) (.cons (firm_end _ _ _ _ (nl_lst hu3) ⟨p, rfl, upd_same⟩) .nil)
      · rintro H3 ⟨hs3, us, hu, pu⟩
        rw [lR, List.take_length] at pu
        refine ⟨D2, us, rfl, .inl ⟨SqL.of hu, fun l hl => ?_⟩⟩
        have s4 := sn (o := .tup us) (st s3 hs3) hl
        have hv4 := same_new (o := .tup us) hl _ _ (hs3 _ _ (same_new hT _ _ hv))
        have hp4 := pl_lt g hrn hin
        refine ⟨_, rfl, _, rfl, _, rfl, _, _, _, _, rfl, rfl, SqL.of (s4 _ _ hb), at_nats (x := pl W r i) (by rw [List.getElem?_map, List.getElem?_range hin]; rfl), D, vs, _, pl W r i, rfl, rfl, hv4, ixn (by rw [lv]; exact hp4), ?_⟩
        have nl4 : NL H1 (upd (upd H3 l (.tup us)) D (.lst (vs.set (pl W r i) (.ref l)))) := NL.trans (nl_of (st (same_new hT) (st hs3 (same_new hl)))) (nl_lst hv4)
        refine ⟨same_mut s4 hD0, ⟨_, upd_same, by rw [List.length_set]; exact lv, fun x hx => ?_⟩, _, _, rfl⟩
        by_cases e : x = i
        · subst e
          exact ⟨.ref l, List.getElem?_set_self (by rw [lv]; exact hp4), firm_row _ _ _ _ (nl_lst hv4) ⟨l, us, rfl, upd_same, firm_end.all (nl_of (same_new hl)) pu⟩⟩
        · obtain ⟨u, hu1, hu2⟩ := hvs x (by omega)
          refine ⟨u, ?_, firm_row _ _ _ _ nl4 hu2⟩
          rw [List.getElem?_set_ne fun z => e (pl_inj g hrn (by omega) hin z.symm)]
          exact hu1
    · rintro σ H1 ⟨hs, ⟨vs, hv, lv, hvs⟩, c, v, rfl⟩
      refine ⟨_, rfl, D, vs, rfl, .inl ⟨SqL.of hv, fun l hl => k l _ (none_back hs hl) (sn hs hl) ⟨l, vs, rfl, upd_same, firm_row.all (nl_of (same_new hl)) (pd_of_get ?_ ?_)⟩⟩⟩
      · rw [told_len, g.ord_full hrn, lv]
      · intro i y hy
        unfold told at hy
        rw [List.getElem?_map] at hy
        obtain ⟨x, hx, rfl⟩ := Option.map_eq_some_iff.mp hy
        have hxn := (g.ord_ok hrn).2 x (List.mem_of_getElem? hx)
        obtain ⟨u, hu, ru⟩ := hvs x (by rw [lW']; exact hxn)
        rw [pl_of (g.ord_ok hrn).1 hx] at hu
        exact ⟨u, hu, ru⟩
def spTold : Sp := fun vs H Q _ => ∃ (a : Addr) (W : Web) (n d r : Nat), vs = [.ref a, .int (r : Int)] ∧ WebR H (.ref a) W ∧ Ev W n d ∧ r < n ∧ n ≤ 9 ∧ d ≤ 9 ∧
  ∀ (p : Addr) (H' : Hp), H p = none → Same H H' → WebR H' (.ref p) (told W r) → Q (.ref p) H'
theorem set_nats {ns : List Nat} {i x : Nat} : (nats ns).set i (.int (x : Int)) = nats (ns.set i x) := by unfold nats; rw [List.map_set]
theorem ok_told_from {f : Addr} {fd : FuncData} (F : FnP K "told_from" "told_from" s_told_from f fd) (T : Txt mg) (c_rooms_met : Cal P w K mg base 1 "rooms_met" p_rooms_met spRoomsMet) (c_renumbered : Cal P w K mg base 1 "renumbered" p_renumbered spRenum) : FnOk P w K mg base CX0 2 f fd p_told_from spTold := by
  refine okd F sc_told_from (fun vs H Q E h => ?_) (fun cdv A outer s H vs Q E hr h => ?_)
  · obtain ⟨a, W, n, d, r, rfl, _⟩ := h
    rfl
  · obtain ⟨a, W, n, d, r, rfl, hW, g, hrn, hn, hd9, k⟩ := h
    refine ⟨_, (pss_cons (ps_set (i := 2) sc_told_from.nd rfl (by first | exact Or.inl rfl | exact Or.inr rfl) (pe_op op_rep (pe_lst (pa_cons pe_int pa_nil)) (pe_callB (kLen K) (by rfl) T.len PySem.boot_len (pa_cons (pv 0) pa_nil))))
      (pss_cons (ps_for PassesOwn.never rfl (kEnum K rfl (by rfl) T.enumerate (pa_cons (pe_cal c_rooms_met (hr.mono (by decide)) (pa_cons (pv 0) (pa_cons (pv 1) pa_nil))) pa_nil)) (kgTup (n := 2) K rfl rfl (pgs_cons (pg_name (i := 3) sc_told_from.nd rfl (by first | exact Or.inl rfl | exact Or.inr rfl)) (pgs_cons (pg_name (i := 4) sc_told_from.nd rfl (by first | exact Or.inl rfl | exact Or.inr rfl)) pgs_nil)))
      (pss_one (ps_asg (pv 3) (pg_sub (pv 2) (pv 4) set_list))))
      (pss_one (ps_ret (pe_cal c_renumbered (hr.mono (by decide)) (pa_cons (pv 0) (pa_cons (pv 2) pa_nil))))))), ?_⟩
    have hbig : sizeLine = 16777216 := PySem.sizeLine_eq
    obtain ⟨ws, sW, pW, eW, lW⟩ := tup_sq (K := K) hW
    have lW' : ws.length = n := by rw [lW, g.len]
    refine ⟨by show 1 ≤ sizeLine; decide, fun q hq => ?_⟩
    have s2 := same_new (H := H) (o := .lst [.int 0]) hq
    have eN : ((ws.length : Nat) : Int).toNat = n := by rw [Int.toNat_natCast, lW']
    refine ⟨_, rfl, _, _, rfl, .inr (same_t s2 sW), q, _, _, rfl, rfl, upd_same, by omega, by omega, by rw [eN, List.length_singleton]; omega, fun D hD => ?_⟩
    rw [eN, flat_rep]
    have sD := sn (o := .lst (List.replicate n (V.int 0))) s2 hD
    have hD0 := none_back s2 hD
    refine ⟨_, rfl, _, rfl, a, W, n, d, r, rfl, firm_web.s sD hW, g.toRg, hn, hrn, fun m0 H3 hm0 s3 hm => ?_⟩
    have hlo : (nats (ord W r)).length = n := by rw [List.length_map, g.ord_full hrn]
    have hmD : m0 ≠ D := fun z => by rw [z, upd_same] at hm0; cases hm0
    refine ⟨m0, _, rfl, SqL.of hm, for_it (walk_enum (K := K) (a := m0) (xs := nats (ord W r))) (fun i σ H' => Same H H' ∧ H' m0 = some (.lst (nats (ord W r))) ∧ (∃ ns : List Nat, H' D = some (.lst (nats ns)) ∧ ns.length = n ∧ ∀ j x, j < i → (ord W r)[j]? = some x → ns[x]? = some j) ∧
        ∃ c v, σ = [some (.ref a), some (.int (r : Int)), some (.ref D), c, v])
      ⟨st sD s3, hm, ⟨List.replicate n 0, s3 _ _ (by rw [upd_same]; unfold nats; rw [List.map_replicate]; rfl), List.length_replicate, fun j x hj => absurd hj (Nat.not_lt_zero _)⟩, none, none, rfl⟩ (fun i σ H' _ z => SqL.of z.2.1) ?_ ?_⟩
    · rintro i x σ H1 H2 hi ⟨hs, hmm, ⟨ns, hv, lv, hvs⟩, c, v, rfl⟩ ⟨T0, x1, y, rfl, hT, rfl, e1, hy⟩
      cases e1
      have hin : i < n := by rw [← hlo]; exact hi
      replace hy : (nats (ord W r))[i]? = some y := hy
      rw [List.getElem?_map] at hy
      obtain ⟨x, hx, rfl⟩ := Option.map_eq_some_iff.mp hy
      have hxn := (g.ord_ok hrn).2 x (List.mem_of_getElem? hx)
      refine ⟨T0, _, rfl, SqT.of upd_same, rfl, _, _, rfl, _, _, rfl, rfl, ?_⟩
      refine ⟨_, rfl, _, rfl, _, rfl, D, _, _, x, rfl, rfl, same_new hT _ _ hv, ixn (by rw [List.length_map, lv]; exact hxn), ?_⟩
      refine ⟨same_mut (sn hs hT) hD0, by rw [upd_ne hmD]; exact same_new hT _ _ hmm, ⟨ns.set x i, by rw [upd_same, set_nats], by rw [List.length_set]; exact lv, fun j z hj hz => ?_⟩, _, _, rfl⟩
      by_cases e : j = i
      · subst e
        rw [hx] at hz; cases hz
        exact List.getElem?_set_self (by rw [lv]; exact hxn)
      · rw [List.getElem?_set_ne fun z2 => e ?_]
        · exact hvs j z (by omega) hz
        · subst z2
          have h1 := pl_of (g.ord_ok hrn).1 hx
          have h2 := pl_of (g.ord_ok hrn).1 hz
          rw [← h1, ← h2]
    · rintro σ H1 ⟨hs, hmm, ⟨ns, hv, lv, hvs⟩, c, v, rfl⟩
      have ens : ns = (List.range n).map (pl W r) := by
        refine List.ext_getElem? fun x => ?_
        by_cases hx : x < n
        · rw [List.getElem?_map, List.getElem?_range hx]
          have hm := g.ord_all hrn x hx
          exact hvs (pl W r x) x (by rw [hlo]; exact pl_lt g hrn hx) (idx_get hm)
        · rw [List.getElem?_eq_none (by omega), List.getElem?_eq_none (by rw [List.length_map, List.length_range]; omega)]
      subst ens
      exact ⟨_, rfl, _, rfl, a, D, W, n, d, r, rfl, firm_web.s hs hW, g, hrn, hn, hd9, hv, fun p H4 hp s4 hW4 => k p H4 (none_back hs hp) (st hs s4) hW4⟩
end
end Sw
/-! SwA8 -/
set_option Elab.async false
set_option linter.all false
set_option maxRecDepth 100000
set_option maxHeartbeats 4000000
namespace Sw
open PySem L2
section
variable {K : PySem.W.Frag} {H : Hp}
theorem cut_take (xs : List V) (i : Nat) : cutV xs none (some (i : Int)) = xs.take i := by
  unfold cutV
  rw [HT.sIx_none, HT.sIx_nat, List.drop_zero, Nat.sub_zero]
  by_cases h : i ≤ xs.length
  · rw [Nat.min_eq_left h]
  · rw [Nat.min_eq_right (by omega), List.take_length, List.take_of_length_le (by omega)]
theorem pd_take {α β : Type} {F : α → β → Prop} {xs : List α} {ys : List β} (h : Paired F xs ys) (i : Nat) : Paired F (xs.take i) (ys.take i) := by
  induction h generalizing i with
  | nil => rw [List.take_nil, List.take_nil]; exact .nil
  | cons r t ih =>
    cases i with
    | zero => exact .nil
    | succ i => exact .cons r (ih i)
/-- the beginning of a tuple -/
theorem sl_take {α : Type} {R : Rep α} (hf : Firm R) {b : Addr} {l : List α} {i : Nat} {Q : VK} (h : TupR R H (.ref b) l) (k : ∀ (p : Addr) (H' : Hp), Same H H' → TupR R H' (.ref p) (l.take i) → Q (.ref p) H') : rSlA K (.ref b) none (some (i : Int)) H Q := by
  obtain ⟨vs, s, p, e, hl⟩ := tup_sq (K := K) h
  refine ⟨b, vs, rfl, s, fun hw => k b H (fun _ _ z => z) ?_, fun _ q hq => k q _ (same_new hq) ⟨q, _, rfl, upd_same, ?_⟩⟩
  · have e1 := hw.2
    rw [HT.sIx_nat] at e1
    rw [List.take_of_length_le (by omega)]
    exact h
  · rw [cut_take]
    exact hf.all (nl_of (same_new hq)) (pd_take p i)
/-- two tuples end to end -/
theorem cat_tup {α : Type} {R : Rep α} (hf : Firm R) {x y : V} {l m : List α} {Q : VK} (hx : TupR R H x l) (hy : TupR R H y m) (hz : l.length + m.length ≤ sizeLine) (k : ∀ (p : Addr) (H' : Hp), Same H H' → TupR R H' (.ref p) (l ++ m) → Q (.ref p) H') : rCatA K x y H Q := by
  obtain ⟨a, xs, rfl, h1, p1⟩ := hx
  obtain ⟨b, ys, rfl, h2, p2⟩ := hy
  have l1 := Paired.length p1
  have l2 := Paired.length p2
  refine ⟨a, b, xs, ys, rfl, rfl, SqT.of h1, SqT.of h2, by omega, fun e => k b H (fun _ _ z => z) ?_, fun _ e => k a H (fun _ _ z => z) ?_, fun _ _ q hq => k q _ (same_new hq) ⟨q, _, rfl, upd_same, hf.all (nl_of (same_new hq)) (pd_app p1 p2)⟩⟩
  · subst e
    cases p1
    exact ⟨b, ys, rfl, h2, p2⟩
  · subst e
    cases p2
    rw [List.append_nil]
    exact ⟨a, xs, rfl, h1, p1⟩
end
/-! ### a dict of numbers -/
abbrev marks (ks : List Nat) : List (Key × V) := ks.map fun k : Nat => ((Sum.inl (k : Int) : Key), V.bl true)
theorem marks_put (ks : List Nat) (k : Nat) : putK (marks ks) (Sum.inl (k : Int)) (.bl true) = marks (if k ∈ ks then ks else ks ++ [k]) := by
  have e : ((marks ks).any fun kv => decide (kv.1 = (Sum.inl (k : Int) : Key))) = decide (k ∈ ks) := by
    induction ks with
    | nil => simp [marks]
    | cons a t ih =>
      rw [show marks (a :: t) = ((Sum.inl (a : Int) : Key), V.bl true) :: marks t from rfl, List.any_cons, ih]
      by_cases h : a = k
      · subst h; simp
      · have h1 : ¬ ((Sum.inl (a : Int) : Key) = Sum.inl (k : Int)) := fun z => h (by have := Sum.inl.inj z; omega)
        rw [decide_eq_false h1, Bool.false_or]
        by_cases h2 : k ∈ t
        · rw [decide_eq_true h2, decide_eq_true (List.mem_cons_of_mem _ h2)]
        · rw [decide_eq_false h2, decide_eq_false fun z => (List.mem_cons.mp z).elim (fun y => h y.symm) h2]
  unfold putK
  rw [e]
  by_cases h : k ∈ ks
  · rw [if_pos (decide_eq_true h), if_pos h]
    have : ∀ p ∈ marks ks, (fun kv : Key × V => if kv.1 = (Sum.inl (k : Int) : Key) then (kv.1, V.bl true) else kv) p = p := fun p hp => by
      obtain ⟨x, _, rfl⟩ := List.mem_map.mp hp
      show (if _ then _ else _) = _
      by_cases z : (Sum.inl (x : Int) : Key) = Sum.inl (k : Int)
      · rw [if_pos z]
      · rw [if_neg z]
    rw [List.map_congr_left this]
    exact List.map_id _
  · rw [if_neg (by rw [decide_eq_false h]; exact Bool.false_ne_true), if_neg h]
    unfold marks
    rw [List.map_append]; rfl
/-- a rising list of ints that are numbers -/
theorem rise_nats {ns : List Nat} {ys : List Int} (hp : ys.Perm (ns.map fun n : Nat => (n : Int))) (hn : ns.Nodup) (hs : ys.Pairwise (· ≤ ·)) : ∃ out : List Nat, ys.map V.int = nats out ∧ out.Pairwise (· < ·) ∧ ∀ x, x ∈ out ↔ x ∈ ns := by
  refine ⟨ys.map Int.toNat, ?_, ?_, fun x => ?_⟩
  · unfold nats
    rw [List.map_map]
    refine List.map_congr_left fun y hy => ?_
    obtain ⟨n, _, rfl⟩ := List.mem_map.mp (hp.mem_iff.mp hy)
    rfl
  · rw [List.pairwise_map]
    have hd : ys.Nodup := hp.nodup_iff.mpr (List.pairwise_map.mpr (hn.imp fun h z => h (by omega)))
    refine List.Pairwise.imp_of_mem (R := fun a b => a ≤ b ∧ a ≠ b) (fun {a b} ha hb hab => ?_) (hs.and hd)
    obtain ⟨n, _, rfl⟩ := List.mem_map.mp (hp.mem_iff.mp ha)
    obtain ⟨m, _, rfl⟩ := List.mem_map.mp (hp.mem_iff.mp hb)
    omega
  · rw [List.mem_map]
    constructor
    · rintro ⟨y, hy, rfl⟩
      obtain ⟨n, hn', rfl⟩ := List.mem_map.mp (hp.mem_iff.mp hy)
      exact hn'
    · intro hx
      exact ⟨(x : Int), hp.mem_iff.mpr (List.mem_map.mpr ⟨x, hx, rfl⟩), Int.toNat_natCast _⟩
section
variable {P : Program} {w : World} {K : PySem.W.Frag} {mg : Str → Option Value} {base : Heap}
def spRoomsOn : Sp := fun vs H Q _ => ∃ (a b : Addr) (W : Web) (n d r : Nat) (l : List Nat), vs = [.ref a, .int (r : Int), .ref b] ∧ WebR H (.ref a) W ∧ WayR H (.ref b) l ∧ Rg W n d ∧ r < n ∧ n ≤ 9 ∧ (∀ i ∈ l, i < d) ∧ l.length ≤ 1000 ∧
  ∀ (p : Addr) (H' : Hp), H p = none → Same H H' → H' p = some (.lst (nats (asc n (vis W r l)))) → Q (.ref p) H'
theorem ok_rooms_on {f : Addr} {fd : FuncData} (F : FnP K "rooms_on" "rooms_on" s_rooms_on f fd) (T : Txt mg) (c_gone : Cal P w K mg base 1 "gone" p_gone spGone) : FnOk P w K mg base CX0 2 f fd p_rooms_on spRoomsOn := by
  refine okd F sc_rooms_on (fun vs H Q E h => ?_) (fun cdv A outer s H vs Q E hr h => ?_)
  · obtain ⟨a, b, W, n, d, r, l, rfl, _⟩ := h
    rfl
  · obtain ⟨a, b, W, n, d, r, l, rfl, hW, hl, g, hrn, hn, hd, hlen, k⟩ := h
    refine ⟨_, (pss_cons (ps_set (i := 3) sc_rooms_on.nd rfl (by first | exact Or.inl rfl | exact Or.inr rfl) pe_dnewK)
      (pss_cons (ps_for PassesOwn.never rfl (pi_range1 (by rfl) T.range (pa_cons (pe_op op_add (pe_callB (kLen K) (by rfl) T.len PySem.boot_len (pa_cons (pv 2) pa_nil)) pe_int) pa_nil)) (pg_name (i := 4) sc_rooms_on.nd rfl (by first | exact Or.inl rfl | exact Or.inr rfl))
      (pss_one (ps_dput (hu_of hr) (pv 3) (pe_ix (kIxT K) (pe_cal c_gone (hr.mono (by decide)) (pa_cons (pv 0) (pa_cons (pv 1) (pa_cons (pe_slice (kSlT K) (pv 2) po_none (po_some (pv 4))) pa_nil)))) pe_int (fun _ _ => rfl)) pe_bl rfl)))
      (pss_one (ps_ret (pe_callB (call_sortedDI rfl) (by rfl) T.sorted (by decide +kernel) (pa_cons (pv 3) pa_nil)))))), ?_⟩
    have hbig : sizeLine = 16777216 := PySem.sizeLine_eq
    obtain ⟨ls, hls, hlp, hb, lls⟩ := tup_sq (K := K) hl
    refine fun D hD => ?_
    refine ⟨_, rfl, _, _, rfl, .inr (same_t (same_new hD) hls), _, _, rfl, rfl, _, rfl, by omega, by omega, ?_⟩
    refine for_range (n := ls.length + 1) (fun i σ H' => Same H H' ∧ (∃ ks : List Nat, H' D = some (.dK (marks ks)) ∧ ks.Nodup ∧ ∀ x, x ∈ ks ↔ ∃ j, j < i ∧ walk W r (l.take j) = x) ∧ ∃ v, σ = [some (.ref a), some (.int (r : Int)), some (.ref b), some (.ref D), v])
      ⟨same_new hD, ⟨[], upd_same, List.nodup_nil, fun x => by simp⟩, none, rfl⟩ ?_ ?_
    · rintro i σ H1 hi ⟨hs, ⟨ks, hv, nk, mk⟩, v, rfl⟩
      rw [z0]
      have hkn : ∀ x ∈ ks, x < n := fun x hx => by
        obtain ⟨j, _, e⟩ := (mk x).mp hx
        rw [← e]
        exact g.walk_lt hrn fun q hq => hd q (List.mem_of_mem_take hq)
      have hkl := nodup_lt_len nk hkn
      refine ⟨_, rfl, _, rfl, _, rfl, _, rfl, _, rfl, _, rfl, sl_take (i := i) firm_int (firm_way.s hs hl) fun p H2 s2 hway => ?_⟩
      refine ⟨a, p, W, n, d, r, l.take i, rfl, firm_web.s (st hs s2) hW, hway, g, hrn, fun q hq => hd q (List.mem_of_mem_take hq), fun p3 H3 c hp3 s3 ht3 => ?_⟩
      have s4 := st hs (st s2 s3)
      refine ⟨_, _, _, _, rfl, rfl, SqT.of ht3, rfl, D, _, rfl, DPut.k (k := Sum.inl (walk W r (l.take i) : Int)) (s3 _ _ (s2 _ _ hv)) (by rw [List.length_map]; omega), ?_⟩
      refine ⟨same_mut s4 hD, ⟨if walk W r (l.take i) ∈ ks then ks else ks ++ [walk W r (l.take i)], by rw [upd_same, marks_put], ?_, fun x => ?_⟩, _, rfl⟩
      · by_cases e : walk W r (l.take i) ∈ ks
        · rw [if_pos e]; exact nk
        · rw [if_neg e]; exact snoc_nodup nk e
      · have e1 : (∃ j, j < i + 1 ∧ walk W r (l.take j) = x) ↔ x ∈ ks ∨ x = walk W r (l.take i) := by
          rw [mk]
          constructor
          · rintro ⟨j, hj, e⟩
            by_cases z : j = i
            · rw [← e, z]; exact .inr rfl
            · exact .inl ⟨j, by omega, e⟩
          · rintro (⟨j, hj, e⟩ | e)
            · exact ⟨j, by omega, e⟩
            · exact ⟨i, by omega, e.symm⟩
        rw [e1]
        by_cases e : walk W r (l.take i) ∈ ks
        · rw [if_pos e]
          exact ⟨.inl, fun z => z.elim id fun y => y ▸ e⟩
        · rw [if_neg e, List.mem_append, List.mem_singleton]
    · rintro σ H1 ⟨hs, ⟨ks, hv, nk, mk⟩, v, rfl⟩
      have hkn : ∀ x ∈ ks, x < n := fun x hx => by
        obtain ⟨j, _, e⟩ := (mk x).mp hx
        rw [← e]
        exact g.walk_lt hrn fun q hq => hd q (List.mem_of_mem_take hq)
      have hkl := nodup_lt_len nk hkn
      refine ⟨_, rfl, D, marks ks, ks.map fun x : Nat => (x : Int), rfl, .inl hv, ?_, by rw [List.length_map]; omega, fun ys p hp hle hpn => ?_⟩
      · unfold marks
        rw [List.map_map, List.map_map]; rfl
      · obtain ⟨out, e, hlt, hmem⟩ := rise_nats hp nk hle
        rw [e]
        have eo : out = asc n (vis W r l) := asc_of hlt (fun x => by
          rw [hmem, mk, vis_iff]
          constructor
          · rintro ⟨j, hj, z⟩
            exact ⟨j, by omega, z⟩
          · rintro ⟨j, hj, z⟩
            exact ⟨j, by omega, z⟩) (g.vis_lt hrn hd)
        exact k p _ (none_back hs hpn) (sn hs hpn) (by rw [upd_same, eo])
def spSees : Sp := fun vs H Q _ => ∃ (a b : Addr) (W : Web) (n d r : Nat) (l : List Nat), vs = [.ref a, .int (r : Int), .ref b] ∧ WebR H (.ref a) W ∧ WayR H (.ref b) l ∧ Rg W n d ∧ r < n ∧ n ≤ 9 ∧ (∀ i ∈ l, i < d) ∧ l.length ≤ 1000 ∧
  ∀ (c : Bool) (H' : Hp), Same H H' → (c = true ↔ Sees W r l) → Q (.bl c) H'
theorem ok_sees_all {f : Addr} {fd : FuncData} (F : FnP K "sees_all" "sees_all" s_sees_all f fd) (T : Txt mg) (c_gone : Cal P w K mg base 1 "gone" p_gone spGone) (c_rooms_on : Cal P w K mg base 2 "rooms_on" p_rooms_on spRoomsOn) : FnOk P w K mg base CX0 3 f fd p_sees_all spSees := by
  refine okd F sc_sees_all (fun vs H Q E h => ?_) (fun cdv A outer s H vs Q E hr h => ?_)
  · obtain ⟨a, b, W, n, d, r, l, rfl, _⟩ := h
    rfl
  · obtain ⟨a, b, W, n, d, r, l, rfl, hW, hl, g, hrn, hn, hd, hlen, k⟩ := h
    refine ⟨_, (pss_cons (ps_if (pt_cmpR op_isN (pe_cal c_gone (hr.mono (by decide)) (pa_cons (pv 0) (pa_cons (pv 1) (pa_cons (pv 2) pa_nil)))) pe_non (nomark _)) (pss_one (ps_ret pe_bl)) pss_nil)
      (pss_one (ps_ret (pe_cmpR op_eq (pe_callB (kLen K) (by rfl) T.len PySem.boot_len (pa_cons (pe_cal c_rooms_on (hr.mono (by decide)) (pa_cons (pv 0) (pa_cons (pv 1) (pa_cons (pv 2) pa_nil)))) pa_nil)) (pe_callB (kLen K) (by rfl) T.len PySem.boot_len (pa_cons (pv 0) pa_nil)) (nomark _))))), ?_⟩
    obtain ⟨ws, sW, pW, eW, lW⟩ := tup_sq (K := K) hW
    have lW' : ws.length = n := by rw [lW, g.len]
    refine ⟨_, rfl, _, rfl, _, rfl, a, b, W, n, d, r, l, rfl, hW, hl, g, hrn, hd, fun p H1 c hp hs ht => ?_⟩
    refine ⟨rfl, _, rfl, iteF ?_⟩
    refine ⟨_, rfl, _, rfl, _, rfl, a, b, W, n, d, r, l, rfl, firm_web.s hs hW, firm_way.s hs hl, g, hrn, hn, hd, hlen, fun p2 H2 hp2 s2 h2 => ?_⟩
    refine ⟨_, _, rfl, .inl (SqL.of h2), _, rfl, _, _, rfl, .inr (same_t (st hs s2) sW), rfl, ?_⟩
    refine k _ H2 (st hs s2) ?_
    rw [decide_eq_true_iff, V.int.injEq, List.length_map, lW']
    unfold Sees
    rw [g.len, ← asc_all]
    omega
end
end Sw
/-! SwA9 -/
set_option Elab.async false
set_option linter.all false
set_option maxRecDepth 100000
set_option maxHeartbeats 4000000
namespace Sw
open PySem L2
def SpotR : Rep (Nat × List Nat) := fun H v p => ∃ a u, v = .ref a ∧ H a = some (.tup [.int (p.1 : Int), u]) ∧ WayR H u p.2
theorem firm_spot : Firm SpotR := fun H H' v x n ⟨a, u, h1, h2, h3⟩ => ⟨a, u, h1, n a _ (fun xs q => nomatch q) h2, firm_way _ _ _ _ n h3⟩
abbrev CfgR : Rep Cfg := TupR SpotR
theorem firm_cfg : Firm CfgR := firm_tup firm_spot
abbrev ins (l : List Nat) : List Int := l.map fun x : Nat => (x : Int)
theorem ins_nats (l : List Nat) : (ins l).map V.int = nats l := by unfold ins nats; rw [List.map_map]; rfl
theorem mem_ins {l : List Nat} {x : Nat} : (x : Int) ∈ ins l ↔ x ∈ l := by
  rw [List.mem_map]
  constructor
  · rintro ⟨y, hy, e⟩
    have : y = x := by omega
    rw [← this]; exact hy
  · intro h; exact ⟨x, h, rfl⟩
theorem way_sq {K : PySem.W.Frag} {H : Hp} {p : Addr} {l : List Nat} (h : WayR H (.ref p) l) : SqT K H p ((ins l).map V.int) := by
  obtain ⟨vs, s, pp, _⟩ := tup_sq (K := K) h
  have e := pd_ints pp
  subst e
  rw [ins_nats]; exact s
/-- the members in order -/
theorem rise_asc {l : List Nat} {n : Nat} (h : ∀ x ∈ l, x < n) {ns : List Int} (hp : ns.Pairwise (· < ·)) (hm : ∀ k : Int, k ∈ ns ↔ decide (k ∈ ins l) = true) : ns = ins (asc n l) := by
  have hm : ∀ k : Int, k ∈ ns ↔ k ∈ ins l := fun k => (hm k).trans decide_eq_true_iff
  have nn : ∀ k ∈ ns, ∃ x : Nat, k = (x : Int) := fun k hk => by
    obtain ⟨x, _, e⟩ := List.mem_map.mp ((hm k).mp hk)
    exact ⟨x, e.symm⟩
  have e : ns = ins (ns.map Int.toNat) := by
    unfold ins
    rw [List.map_map]
    refine ((List.map_congr_left fun k hk => ?_).trans (List.map_id _)).symm
    obtain ⟨x, rfl⟩ := nn k hk
    rfl
  have e2 : ns.map Int.toNat = asc n l := asc_of (by
      rw [List.pairwise_map]
      refine List.Pairwise.imp_of_mem (R := (· < ·)) (fun {a b} ha hb hab => ?_) hp
      obtain ⟨x, rfl⟩ := nn a ha
      obtain ⟨y, rfl⟩ := nn b hb
      omega) (fun x => by
      rw [← mem_ins, ← e, hm, mem_ins]) h
  rw [e, e2]
section
variable {P : Program} {w : World} {K : PySem.W.Frag} {mg : Str → Option Value} {base : Heap}
def spComeOn : Sp := fun vs H Q _ => ∃ (a b : Addr) (W : Web) (n d i : Nat) (c : Cfg), vs = [.ref a, .ref b, .int (i : Int)] ∧ WebR H (.ref a) W ∧ CfgR H (.ref b) c ∧ Rg W n d ∧ n ≤ 9 ∧ i < d ∧ c.length ≤ 9 ∧ (∀ p ∈ c, p.1 < n ∧ p.2.length ≤ 9 ∧ ∀ x ∈ p.2, x < n) ∧
  ∀ (p : Addr) (H' : Hp), H p = none → Same H H' → CfgR H' (.ref p) (comeOn W n c i) → Q (.ref p) H'
theorem ok_come_on {f : Addr} {fd : FuncData} (F : FnP K "come_on" "come_on" s_come_on f fd) (T : Txt mg) : FnOk P w K mg base CX0 1 f fd p_come_on spComeOn := by
  refine okd F sc_come_on (fun vs H Q E h => ?_) (fun cdv A outer s H vs Q E hr h => ?_)
  · obtain ⟨a, b, W, n, d, i, c, rfl, _⟩ := h
    rfl
  · obtain ⟨a, b, W, n, d, i0, c, rfl, hW, hC, g, hn, hi0, hcl, hc, k⟩ := h
    refine ⟨_, (pss_cons (ps_set (i := 3) sc_come_on.nd rfl (by first | exact Or.inl rfl | exact Or.inr rfl) (pe_lst pa_nil))
      (pss_cons (ps_for PassesOwn.never rfl (kTup K rfl (pv 1)) (kgTup (n := 2) K rfl rfl (pgs_cons (pg_name (i := 4) sc_come_on.nd rfl (by first | exact Or.inl rfl | exact Or.inr rfl)) (pgs_cons (pg_name (i := 5) sc_come_on.nd rfl (by first | exact Or.inl rfl | exact Or.inr rfl)) pgs_nil)))
      (pss_cons (ps_set (i := 6) sc_come_on.nd rfl (by first | exact Or.inl rfl | exact Or.inr rfl) (pe_ix (kIxT K) (pe_ix (kIxT K) (pe_ix (kIxT K) (pv 0) (pv 4) (fun _ _ => rfl)) (pv 2) (fun _ _ => rfl)) pe_int (fun _ _ => rfl)))
      (pss_one (ps_expr (pe_bm PySem.F.plainAttrs_list PySem.F.slot_list_append PySem.F.type_list_append mt_append (pv 3) (pa_cons (pe_tup (pa_cons (pv 6) (pa_cons (pe_callTy (kTupOf K) (by rfl) T.tuple (by decide +kernel) (pa_cons (pe_callB (kSortSet w rfl rfl) (by rfl) T.sorted (by decide +kernel) (pa_cons (pe_callTy (kSetI K w rfl rfl rfl) (by rfl) T.set (by decide +kernel) (pa_cons (pe_op (kCatT K) (pv 5) (pe_tup (pa_cons (pv 6) pa_nil))) pa_nil)) pa_nil)) pa_nil)) pa_nil))) pa_nil))))))
      (pss_one (ps_ret (pe_callTy (kTupOf K) (by rfl) T.tuple (by decide +kernel) (pa_cons (pv 3) pa_nil)))))), ?_⟩
    have hbig : sizeLine = 16777216 := PySem.sizeLine_eq
    obtain ⟨cs, sC, pC, eC, lC⟩ := tup_sq (K := K) hC
    refine ⟨by show 0 ≤ sizeLine; decide, fun D hD => ?_⟩
    refine ⟨_, rfl, b, rfl, ⟨cs, same_t (same_new hD) sC⟩, for_tup (K := K) (a := b) (xs := cs) (fun i σ H' => Same H H' ∧ ListR SpotR H' (.ref D) ((c.take i).map (on1 W n i0)) ∧
        ∃ x y z, σ = [some (.ref a), some (.ref b), some (.int (i0 : Int)), some (.ref D), x, y, z]) ⟨same_new hD, ⟨D, [], rfl, upd_same, .nil⟩, none, none, none, rfl⟩ (fun i σ H' _ z => same_t z.1 sC) ?_ ?_⟩
    · rintro i x σ H1 hx ⟨hs, ⟨_, us, e0, hu, pu⟩, x1, y1, z1, rfl⟩
      cases e0
      obtain ⟨⟨r0, met⟩, hq, q1, mv, rfl, hq1, hmet⟩ := pd_get' pC hx
      obtain ⟨hr0, hml, hmx⟩ := hc _ (List.mem_of_getElem? hq)
      replace hml : met.length ≤ 9 := hml
      replace hr0 : r0 < n := hr0
      obtain ⟨ma, rfl, hmet⟩ := tup_ref hmet
      have hW1 := firm_web.s hs hW
      obtain ⟨vs1, b1, s1, a1, r1⟩ := web_row (K := K) hW1 g hr0
      obtain ⟨vs2, c2, s2, a2, r2⟩ := row_end (K := K) r1 g hr0 hi0
      obtain ⟨o1, o2⟩ := g.rng r0 i0 hr0 hi0
      refine ⟨q1, _, rfl, SqT.of (hs _ _ hq1), rfl, _, _, rfl, _, _, rfl, rfl, ?_⟩
      refine ⟨_, rfl, _, rfl, _, _, _, _, rfl, rfl, s1, a1, _, rfl, _, _, _, _, rfl, rfl, s2, a2, _, _, _, _, rfl, rfl, SqT.of r2, rfl, ?_⟩
      refine ⟨_, rfl, .inl ⟨rfl, us, SqL.of hu⟩, _, rfl, _, rfl, _, rfl, by show 1 ≤ sizeLine; decide, fun q hq2 => ?_⟩
      have s3 := sn (o := .tup [.int ((en W r0 i0).1 : Int)]) hs hq2
      have hone : WayR (upd H1 q (.tup [.int ((en W r0 i0).1 : Int)])) (.ref q) [step W r0 i0] := ⟨q, _, rfl, upd_same, .cons rfl .nil⟩
      refine cat_tup firm_int (firm_way.s s3 hmet) hone (by rw [List.length_singleton, hbig]; show met.length + 1 ≤ _; omega) fun p2 H2 s4 hway => ?_
      refine ⟨p2, ins (met ++ [step W r0 i0]), rfl, .inl (way_sq hway), by rw [List.length_map, List.length_append, List.length_singleton]; omega, fun q3 c3 hq3 hc3 => ?_⟩
      replace hc3 := hc3 _ fun _ h => h
      rw [List.length_map, List.length_append, List.length_singleton] at hc3
      refine ⟨q3, _, c3, rfl, upd_same, by omega, fun ns p4 h1 h2 h3 hp4 => ?_⟩
      have hns := rise_asc (n := n) (l := met ++ [step W r0 i0]) (fun x hx => by
        rcases List.mem_append.mp hx with z | z
        · exact hmx x z
        · rw [List.mem_singleton.mp z]; exact o1) h1 h2
      refine ⟨p4, _, rfl, .inl ⟨SqL.of upd_same, fun l5 hl5 => ⟨by show 2 ≤ sizeLine; decide, fun p6 hp6 => ?_⟩⟩⟩
      have hu2 := s4 _ _ (same_new (o := .tup [.int ((en W r0 i0).1 : Int)]) hq2 _ _ hu)
      have sx := st (sn (o := .lst (ns.map V.int)) (sn (o := SetO w q3 (fun j => decide (j ∈ ins (met ++ [step W r0 i0]))) c3) s4 hq3) hp4) (same_new (o := .tup (ns.map V.int)) hl5)
      have sy := sn (o := .tup [.int ((en W r0 i0).1 : Int), .ref l5]) sx hp6
      have hu3 := sy _ _ (same_new (o := .tup [.int ((en W r0 i0).1 : Int)]) hq2 _ _ hu)
      refine ⟨D, us, _, rfl, rfl, hu3, ?_, ?_⟩
      · rw [Paired.length pu, List.length_map, List.length_take]; omega
      · refine ⟨same_mut (st s3 sy) hD, ?_, _, _, _, rfl⟩
        have z : c.take (i + 1) = c.take i ++ [(r0, met)] := by rw [List.take_add_one, hq]; rfl
        rw [z, List.map_append]
        refine ⟨D, us ++ [.ref p6], rfl, upd_same, pd_app (firm_spot.all (NL.trans (nl_of (st (same_new hq2) sy)) (nl_lst hu3)) pu) (.cons ?_ .nil)⟩
        refine firm_spot _ _ _ _ (nl_lst hu3) ⟨p6, .ref l5, rfl, upd_same, l5, _, rfl, same_new hp6 _ _ upd_same, ?_⟩
        rw [hns, ins_nats]
        exact ints_pd
    · rintro σ H1 ⟨hs, ⟨_, us, e0, hu, pu⟩, x1, y1, z1, rfl⟩
      cases e0
      rw [lC, List.take_length] at pu
      exact ⟨_, rfl, D, us, rfl, .inl ⟨SqL.of hu, fun l hl => k l _ (none_back hs hl) (sn hs hl) ⟨l, us, rfl, upd_same, firm_spot.all (nl_of (same_new hl)) pu⟩⟩⟩
def spAllMet : Sp := fun vs H Q _ => ∃ (a b : Addr) (W : Web) (n : Nat) (c : Cfg), vs = [.ref a, .ref b] ∧ WebR H (.ref a) W ∧ CfgR H (.ref b) c ∧ W.length = n ∧ c.length ≤ 9 ∧ ∀ H', Same H H' → Q (.bl (allMet n c)) H'
theorem ok_is_all_met {f : Addr} {fd : FuncData} (F : FnP K "is_all_met" "is_all_met" s_is_all_met f fd) (T : Txt mg) : FnOk P w K mg base CX0 1 f fd p_is_all_met spAllMet := by
  refine okd F sc_is_all_met (fun vs H Q E h => ?_) (fun cdv A outer s H vs Q E hr h => ?_)
  · obtain ⟨a, b, W, n, c, rfl, _⟩ := h
    rfl
  · obtain ⟨a, b, W, n, c, rfl, hW, hC, hn, hcl, k⟩ := h
    refine ⟨_, (pss_one (ps_ret (pe_callB (kAll K rfl rfl) (by rfl) T.all (by decide +kernel) (pa_cons (pe_lc (own := [("room", 2), ("met", 3)]) rfl sc_is_all_met.nd (kTup K rfl (pv 1)) (blkOk_by (N := n_is_all_met) (sc := defScope s_is_all_met) (by decide +kernel)) (fun _ _ _ _ _ => (kgTup (n := 2) K rfl rfl (pgs_cons (pg_name (i := 2) sc_is_all_met.nd rfl (by first | exact Or.inl rfl | exact Or.inr rfl)) (pgs_cons (pg_name (i := 3) sc_is_all_met.nd rfl (by first | exact Or.inl rfl | exact Or.inr rfl)) pgs_nil)))) (fun _ _ _ _ _ => pts_nil) (fun _ _ _ _ _ => (pe_cmpR op_eq (pe_callB (kLen K) (by rfl) T.len PySem.boot_len (pa_cons (pv 3) pa_nil)) (pe_callB (kLen K) (by rfl) T.len PySem.boot_len (pa_cons (pv 0) pa_nil)) (nomark _)))) pa_nil)))), ?_⟩
    have hbig : sizeLine = 16777216 := PySem.sizeLine_eq
    obtain ⟨cs, sC, pC, eC, lC⟩ := tup_sq (K := K) hC
    obtain ⟨ws, sW, pW, eW, lW⟩ := tup_sq (K := K) hW
    refine ⟨_, rfl, b, rfl, ⟨cs, sC⟩, fun D hD => ?_⟩
    refine lc_tup (K := K) (a := b) (xs := cs) (fun i H' => Same H H' ∧ H' D = some (.lst (((c.take i).map fun p => decide (p.2.length = n)).map V.bl))) ⟨same_new hD, upd_same⟩ (fun i H' _ z => same_t z.1 sC) ?_ ?_
    · rintro i x H1 hx ⟨hs, hu⟩
      obtain ⟨⟨r0, met⟩, hq, q1, mv, rfl, hq1, hmet⟩ := pd_get' pC hx
      obtain ⟨ma, rfl, hmet⟩ := tup_ref hmet
      obtain ⟨ms, sM, _, _, lM⟩ := tup_sq (K := K) (firm_way.s hs hmet)
      refine ⟨q1, _, rfl, SqT.of (hs _ _ hq1), rfl, _, _, rfl, _, _, rfl, rfl, rfl, yes (iteT ?_)⟩
      refine ⟨_, rfl, _, _, rfl, .inr sM, _, rfl, _, _, rfl, .inr (same_t hs sW), rfl, _, hu, ?_, same_mut hs hD, ?_⟩
      · rw [List.length_map, List.length_map, List.length_take]; omega
      · have z : c.take (i + 1) = c.take i ++ [(r0, met)] := by rw [List.take_add_one, hq]; rfl
        rw [upd_same, z, List.map_append, List.map_append]
        have e : decide (V.int ((ms.length : Nat) : Int) = V.int ((ws.length : Nat) : Int)) = decide (met.length = n) := by
          rw [lM, lW, hn]
          by_cases h : met.length = n
          · rw [h, decide_eq_true rfl, decide_eq_true rfl]
          · rw [decide_eq_false h, decide_eq_false fun z => h (by rw [V.int.injEq] at z; exact Int.natCast_inj.mp z)]
        rw [e]; rfl
    · rintro H1 ⟨hs, hu⟩
      rw [lC, List.take_length] at hu
      refine ⟨D, _, rfl, SqL.of hu, ?_⟩
      have e : (c.map fun p => decide (p.2.length = n)).all id = allMet n c := by unfold allMet; rw [List.all_map]; rfl
      rw [e]
      exact k H1 hs
def spShows : Sp := fun vs H Q _ => ∃ (a b : Addr) (W : Web) (N wd dr : Nat) (l : List Nat), vs = [.int (wd : Int), .int (dr : Int), .ref b, .ref a] ∧ WebR H (.ref a) W ∧ WayR H (.ref b) l ∧ Ev W N dr ∧ N ≤ wd ∧ wd ≤ 9 ∧ dr ≤ 9 ∧ told W 0 = W ∧ (∀ i ∈ l, i < dr) ∧ l.length ≤ 1000 ∧ ¬ Sees W 0 l ∧
  ∀ H', Same H H' → Q (.bl true) H'
theorem ok_shows_missed {f : Addr} {fd : FuncData} (F : FnP K "shows_missed" "shows_missed" s_shows_missed f fd) (T : Txt mg) (c_is_web : Cal P w K mg base 4 "is_web" p_is_web spIsWeb) (c_told_from : Cal P w K mg base 4 "told_from" p_told_from spTold) (c_sees_all : Cal P w K mg base 4 "sees_all" p_sees_all spSees) : FnOk P w K mg base CX0 5 f fd p_shows_missed spShows := by
  refine okd F sc_shows_missed (fun vs H Q E h => ?_) (fun cdv A outer s H vs Q E hr h => ?_)
  · obtain ⟨a, b, W, N, wd, dr, l, rfl, _⟩ := h
    rfl
  · obtain ⟨a, b, W, N, wd, dr, l, rfl, hW, hl, g, hN, hwd, hdr, htold, hld, hlen, hns, k⟩ := h
    refine ⟨_, (pss_cons (ps_if (PW.pt (pw_or (pt_not (pt_val (pe_cal c_is_web (hr.mono (by decide)) (pa_cons (pv 3) pa_nil)))) (pw_or (pt_cmpR op_gt (pe_callB (kLen K) (by rfl) T.len PySem.boot_len (pa_cons (pv 3) pa_nil)) (pv 0) (nomark _)) (pw_or1 (pt_val (pe_callB (kAny K rfl rfl) (by rfl) T.any (by decide +kernel) (pa_cons (pe_lc (own := [("room", 4)]) rfl sc_shows_missed.nd (kTup K rfl (pv 3)) (blkOk_by (N := n_shows_missed) (sc := defScope s_shows_missed) (by decide +kernel)) (fun _ _ _ _ _ => (pg_name (i := 4) sc_shows_missed.nd rfl (by first | exact Or.inl rfl | exact Or.inr rfl))) (fun _ _ _ _ _ => pts_nil) (fun _ _ _ _ _ => (pe_cmpR op_ne (pe_callB (kLen K) (by rfl) T.len PySem.boot_len (pa_cons (pv 4) pa_nil)) (pv 1) (nomark _)))) pa_nil))))))) (pss_one (ps_ret pe_bl)) pss_nil)
      (pss_one (ps_ret (pe_and (pe_cmpR (kEqD K rfl hr.units) (pe_cal c_told_from (hr.mono (by decide)) (pa_cons (pv 3) (pa_cons pe_int pa_nil))) (pv 3) (nomark _)) (pe_one (pe_not (pe_cal c_sees_all (hr.mono (by decide)) (pa_cons (pv 3) (pa_cons pe_int (pa_cons (pv 2) pa_nil)))))))))), ?_⟩
    have hbig : sizeLine = 16777216 := PySem.sizeLine_eq
    obtain ⟨ws, sW, pW, eW, lW⟩ := tup_sq (K := K) hW
    have lW' : ws.length = N := by rw [lW, g.len]
    refine ⟨_, rfl, a, W, N, dr, rfl, hW, g, by omega, fun H1 s1 => ⟨true, rfl, iteF ?_⟩⟩
    refine ⟨_, rfl, _, _, rfl, .inr (same_t s1 sW), _, rfl, _, _, rfl, rfl, _, rfl, ite2 (fun z => absurd (of_decide_eq_true z) (by omega)) fun _ => ?_⟩
    refine ⟨_, rfl, a, rfl, ⟨ws, same_t s1 sW⟩, fun D hD => ?_⟩
    refine lc_tup (K := K) (a := a) (xs := ws) (fun i H' => Same H H' ∧ H' D = some (.lst (List.replicate i (.bl false)))) ⟨sn s1 hD, upd_same⟩ (fun i H' _ z => same_t z.1 sW) ?_ ?_
    · rintro i x H2 hx ⟨hs, hu⟩
      have hi : i < N := by rw [← lW']; exact (List.getElem?_eq_some_iff.mp hx).1
      obtain ⟨r0, hr0, hrow⟩ := pd_get' pW hx
      rw [g.get hi] at hr0
      cases hr0
      obtain ⟨c1, rfl, hrow⟩ := tup_ref hrow
      obtain ⟨rs, sR, _, _, lR⟩ := tup_sq (K := K) (firm_row.s hs hrow)
      refine ⟨rfl, yes (iteT ⟨_, rfl, _, _, rfl, .inr sR, _, rfl, rfl, _, hu, by rw [List.length_replicate]; omega, same_mut hs (none_back s1 hD), ?_⟩)⟩
      have e : (!decide (V.int ((rs.length : Nat) : Int) = V.int ((dr : Nat) : Int))) = false := by rw [lR, g.rows i hi, decide_eq_true rfl]; rfl
      rw [e, upd_same, rep_snoc]
    · rintro H2 ⟨hs, hu⟩
      refine ⟨D, List.replicate ws.length false, rfl, SqL.of (by rw [hu, List.map_replicate]), ?_⟩
      have e : (List.replicate ws.length false).any id = false := by
        rw [List.any_eq_false]
        intro x hx
        rw [List.eq_of_mem_replicate hx]; exact Bool.false_ne_true
      rw [e]
      refine ⟨false, rfl, iteF ?_⟩
      refine ⟨_, rfl, a, W, N, dr, 0, rfl, firm_web.s hs hW, g, g.pos, by omega, hdr, fun p H3 hp s3 hT3 => ?_⟩
      refine ⟨_, rfl, pdWeb (told W 0), pdWeb W, dp_web hT3, dp_web (firm_web.s (st hs s3) hW), toldWeb.shaped (by decide) _, toldWeb.shaped (by decide) _, ?_⟩
      rw [toldWeb.dec, htold, decide_eq_true rfl]
      refine ⟨true, rfl, iteT ?_⟩
      refine ⟨_, rfl, _, rfl, a, b, W, N, dr, 0, l, rfl, firm_web.s (st hs s3) hW, firm_way.s (st hs s3) hl, g.toRg, g.pos, by omega, hld, hlen, fun c H4 s4 hc => ?_⟩
      refine ⟨c, rfl, ?_⟩
      cases c with
      | false => exact k H4 (st hs (st s3 s4))
      | true => exact absurd (hc.mp rfl) hns
end
end Sw
/-! SwB1 -/
set_option Elab.async false
set_option linter.all false
set_option maxRecDepth 100000
set_option maxHeartbeats 4000000
namespace Sw
open PySem L2
/-! ### classes -/
structure Mkr (P : Program) (w : World) (K : PySem.W.Frag) (mg : Str → Option Value) (base : Heap) (k : Nat) (x : Str) (C : Addr) (ps : List Str) (sp : Sp) : Prop where
  ex : ∃ (f : Addr) (fd : FuncData), mg x = some (.ref C) ∧ Mk K C f ∧ Binds K fd ps [] ∧ FnOk P w K mg base CX0 k f fd ps sp
structure Mth (P : Program) (w : World) (K : PySem.W.Frag) (mg : Str → Option Value) (base : Heap) (k : Nat) (C : Addr) (m : Str) (ps : List Str) (sp : Sp) : Prop where
  ex : ∃ (f : Addr) (fd : FuncData), Cls K C ∧ Meth K C m f ∧ Binds K fd ps [] ∧ FnOk P w K mg base CX0 k f fd ps sp
section
variable {X : Cx} {k : Nat} {C : Addr} {x m : Str} {ps : List Str} {sp : Sp} {p pos apos : Pos} {o e : Expr} {es : List Expr} {ta : TE} {t : TA}
theorem pe_mk (c : Mkr X.prog X.w X.K X.mg X.base k x C ps sp) (hr : Room (k + 1) X.A) (ha : PA X (e :: es) t) (hg : Gl X x := by rfl) (hdb : (x == ("__debug__" : Str)) = false := by decide)
    (he : starEach (e :: es) X.env = (false, eval e X.env) :: starEach es X.env := by rfl) (hpl : (backTo pos (starEach es X.env)).any (·.1) = false := by rfl) : PE X (.Call (.Name x p) (e :: es) [] pos) (tMake C sp [] E0 t) := by
  obtain ⟨f, fd, h1, h2, h3, h4⟩ := c.ex
  exact pe_make h2 h4 hr hg h1 h3 .nil pass0 ha hdb he hpl
theorem pe_mt {pl : Sem Bool} (c : Mth X.prog X.w X.K X.mg X.base k C m ps sp) (hr : Room k X.A) (ho : PE X o ta) (ha : PA X (e :: es) t)
    (hst : starEach (e :: es) X.env = (false, eval e X.env) :: starEach es X.env := by rfl) (hpl : (backTo pos (starEach es X.env)).any (·.1) = false := by rfl)
    (ht : eval (.Call (.Attribute o m apos) (e :: es) [] pos) X.env = (do
      let v ← eval o X.env
      standAt apos.atName
      let (f, first) ← holding [v] (getMethod v m pl)
      callWith pos f first (backTo pos (starEach (e :: es) X.env)) (backToKw pos (keywordEach [] X.env))) := by rfl) : PE X (.Call (.Attribute o m apos) (e :: es) [] pos) (tMeth C m sp [] E0 ta t) := by
  obtain ⟨f, fd, h1, h2, h3, h4⟩ := c.ex
  exact pe_meth ho h1 h2 h4 hr h3 .nil pass0 ha hst hpl ht
theorem pe_mt0 {pl : Sem Bool} (c : Mth X.prog X.w X.K X.mg X.base k C m ps sp) (hr : Room k X.A) (ho : PE X o ta)
    (ht : eval (.Call (.Attribute o m apos) [] [] pos) X.env = (do
      let v ← eval o X.env
      standAt apos.atName
      let (f, first) ← holding [v] (getMethod v m pl)
      callWith pos f first (backTo pos (starEach [] X.env)) (backToKw pos (keywordEach [] X.env))) := by rfl) : PE X (.Call (.Attribute o m apos) [] [] pos) (tMeth C m sp [] E0 ta tNil) := by
  obtain ⟨f, fd, h1, h2, h3, h4⟩ := c.ex
  exact pe_meth0 ho h1 h2 h4 hr h3 .nil pass0 ht
end
theorem o_fld {K : PySem.W.Frag} {C : Addr} {σ : L2.St} {H : Hp} {Q : VK} {i : Nat} {a dx : Addr} {fs : List (Str × V)} {v : V} {f : Str} (hσ : σ[i]? = some (some (.ref a))) (ha : H a = some (.ins C dx fs)) (c : Cls K C) (n : NoAttr K C f) (l : fs.lookup f = some v) (q : Q v H) : tFld K (tVar i) f σ H Q :=
  ⟨_, hσ, a, C, dx, fs, v, rfl, ha, c, n, l, q⟩
/-! ### what is no list and no object of a class stays -/
def NX (H H' : Hp) : Prop := ∀ a o, (∀ xs, o ≠ .lst xs) → (∀ C dx fs, o ≠ .ins C dx fs) → H a = some o → H' a = some o
theorem nx_kp {a C dx : Addr} {fs : List (Str × V)} {H H' : Hp} (h : Kp a H H') (ha : H a = some (.ins C dx fs)) : NX H H' := fun b o _ n e => h b o (fun z => n C dx fs (by rw [z, ha] at e; exact (Option.some.inj e).symm)) e
def FirmX {α : Type} (R : Rep α) : Prop := ∀ H H' v x, NX H H' → R H v x → R H' v x
theorem fx_int : FirmX IntR := fun _ _ _ _ _ h => h
theorem fx_end : FirmX EndR := fun H H' v e n ⟨a, h1, h2⟩ => ⟨a, h1, n a _ (fun xs q => nomatch q) (fun _ _ _ q => nomatch q) h2⟩
theorem fx_tup {α : Type} {R : Rep α} (h : FirmX R) : FirmX (TupR R) := fun H H' v xs n ⟨a, vs, h1, h2, h3⟩ => ⟨a, vs, h1, n a _ (fun xs q => nomatch q) (fun _ _ _ q => nomatch q) h2, pd_imp h3 fun x y r => h H H' x y n r⟩
theorem fx_way : FirmX WayR := fx_tup fx_int
theorem fx_web : FirmX WebR := fx_tup (fx_tup fx_end)
theorem LeadAt.fx {H H' : Hp} {d : Addr} {m : Ld} (n : NX H H') (h : LeadAt H d m) : LeadAt H' d m := by
  obtain ⟨kvs, h1, h2⟩ := h
  exact ⟨kvs, n d _ (fun xs q => nomatch q) (fun _ _ _ q => nomatch q) h1, pd_imp h2 fun p q z => ⟨z.1, fx_end H H' _ _ n z.2⟩⟩
/-! ### traces in the heap -/
structure TraceK (K : PySem.W.Frag) (C : Addr) : Prop where
  c : Cls K C
  lead : NoAttr K C "lead"
  room : NoAttr K C "room"
  at_ : NoAttr K C "at"
  come : NoAttr K C "come"
def flT (d r a c : V) : List (Str × V) := [("lead", d), ("room", r), ("at", a), ("come", c)]
theorem flT_make (d r a c : V) : putF "come" c (putF "at" a (putF "room" r (putF "lead" d []))) = flT d r a c := rfl
theorem flT_room (d r a c r' : V) : putF "room" r' (flT d r a c) = flT d r' a c := rfl
theorem flT_at (d r a c a' : V) : putF "at" a' (flT d r a c) = flT d r a' c := rfl
theorem flT_lead {d r a c : V} : (flT d r a c).lookup ("lead" : Str) = some d := rfl
theorem flT_lroom {d r a c : V} : (flT d r a c).lookup ("room" : Str) = some r := rfl
theorem flT_lat {d r a c : V} : (flT d r a c).lookup ("at" : Str) = some a := rfl
theorem flT_lcome {d r a c : V} : (flT d r a c).lookup ("come" : Str) = some c := rfl
theorem flT_no {d r a c : V} : (flT d r a c).lookup ("gone_on" : Str) = none := rfl
abbrev flTr (d : Addr) (t : Tr) : List (Str × V) := flT (.ref d) (.int (t.room : Int)) (.int (t.at_ : Int)) (.int (t.come : Int))
def TrAt (C : Addr) (H : Hp) (a : Addr) (t : Tr) : Prop := ∃ d dx, H a = some (.ins C dx (flTr d t)) ∧ LeadAt H d t.m
theorem TrAt.firm {C : Addr} {H H' : Hp} {a : Addr} {t : Tr} (n : NL H H') (h : TrAt C H a t) : TrAt C H' a t := by
  obtain ⟨d, dx, h1, h2⟩ := h
  exact ⟨d, dx, n a _ (fun xs q => nomatch q) h1, h2.firm n⟩
theorem TrAt.kp {C : Addr} {H H' : Hp} {a b : Addr} {t : Tr} (k : Kp b H H') (n : NX H H') (hne : a ≠ b) (h : TrAt C H a t) : TrAt C H' a t := by
  obtain ⟨d, dx, h1, h2⟩ := h
  exact ⟨d, dx, k a _ hne h1, h2.fx n⟩
section
variable {P : Program} {w : World} {K : PySem.W.Frag} {mg : Str → Option Value} {base : Heap} {CT : Addr}
def spTrI (C : Addr) : Sp := fun vs H Q _ => ∃ (a dx : Addr) (d r at_ cm : V), vs = [.ref a, d, r, at_, cm] ∧ H a = some (.ins C dx []) ∧ Q .non (upd H a (.ins C dx (flT d r at_ cm)))
theorem ok_Trace_init {f : Addr} {fd : FuncData} (F : FnP K "__init__" "Trace.__init__" s_Trace_init f fd) (T : Txt mg) (kT : TraceK K CT) : FnOk P w K mg base CX0 1 f fd p_Trace_init (spTrI CT) := by
  refine okd F sc_Trace_init (fun vs H Q E h => ?_) (fun cdv A outer s H vs Q E hr h => ?_)
  · obtain ⟨a, dx, d, r, at_, cm, rfl, _⟩ := h
    rfl
  · obtain ⟨a, dx, d, r, at_, cm, rfl, ha, k⟩ := h
    refine ⟨_, (pss_cons (kSetFld K rfl (pv 0) (pv 1) rfl)
      (pss_cons (kSetFld K rfl (pv 0) (pv 2) rfl)
      (pss_cons (kSetFld K rfl (pv 0) (pv 3) rfl)
      (pss_one (kSetFld K rfl (pv 0) (pv 4) rfl))))), ?_⟩
    refine ⟨_, rfl, _, rfl, a, CT, dx, _, rfl, ha, kT.c, kT.lead, by show 0 < 1000; decide, ?_⟩
    refine ⟨_, rfl, _, rfl, a, CT, dx, _, rfl, upd_same, kT.c, kT.room, by show 1 < 1000; decide, ?_⟩
    refine ⟨_, rfl, _, rfl, a, CT, dx, _, rfl, upd_same, kT.c, kT.at_, by show 2 < 1000; decide, ?_⟩
    refine ⟨_, rfl, _, rfl, a, CT, dx, _, rfl, upd_same, kT.c, kT.come, by show 3 < 1000; decide, ?_⟩
    rw [upd_upd, upd_upd, upd_upd, flT_make]
    exact k
def spTrG (C : Addr) : Sp := fun vs H Q _ => ∃ (a b d dx : Addr) (n dr : Nat) (way : List Nat) (t : Tr), vs = [.ref a, .ref b] ∧ H a = some (.ins C dx (flTr d t)) ∧ LeadAt H d t.m ∧ WayR H (.ref b) way ∧ TrOk n dr way t ∧
  ∀ (t' : Tr) (H' : Hp), Kp a H H' → H' a = some (.ins C dx (flTr d t')) → TrOk n dr way t' → t'.m = t.m → t'.come = t.come → (t'.at_ = way.length ∨ ∃ i, way[t'.at_]? = some i ∧ lk t'.m (t'.room, i) = none) → Q (.bl (decide (t'.at_ = way.length))) H'
theorem ok_Trace_gone_on {f : Addr} {fd : FuncData} (F : FnP K "gone_on" "Trace.gone_on" s_Trace_gone_on f fd) (T : Txt mg) (kT : TraceK K CT) : FnOk P w K mg base CX0 1 f fd p_Trace_gone_on (spTrG CT) := by
  refine okd F sc_Trace_gone_on (fun vs H Q E h => ?_) (fun cdv A outer s H vs Q E hr h => ?_)
  · obtain ⟨a, b, d, dx, n, dr, way, t, rfl, _⟩ := h
    rfl
  · obtain ⟨a, b, d, dx, n, dr, way, t, rfl, ha, hd, hl, ht, k⟩ := h
    refine ⟨_, (pss_cons (ps_while PassesOwn.never (PW.pt (pw_and (pt_cmpR op_lt (kFld K rfl (pv 0) rfl) (pe_callB (kLen K) (by rfl) T.len PySem.boot_len (pa_cons (pv 1) pa_nil)) (nomark _)) (pw_and1 (pt_cmp (pc_din (hu_of hr) (pe_tup (pa_cons (kFld K rfl (pv 0) rfl) (pa_cons (pe_ix (kIxT K) (pv 1) (kFld K rfl (pv 0) rfl) (fun _ _ => rfl)) pa_nil))) (kFld K rfl (pv 0) rfl)) (by rfl))))) (pss_cons (kSetFld K rfl (pv 0) (pe_ix (kIxT K) (pe_dget (hu_of hr) (kFld K rfl (pv 0) rfl) (pe_tup (pa_cons (kFld K rfl (pv 0) rfl) (pa_cons (pe_ix (kIxT K) (pv 1) (kFld K rfl (pv 0) rfl) (fun _ _ => rfl)) pa_nil))) (fun _ _ => rfl)) pe_int (fun _ _ => rfl)) rfl)
      (pss_one (kFldAug K rfl (pv 0) pe_int in_add))))
      (pss_one (ps_ret (pe_cmpR op_eq (kFld K rfl (pv 0) rfl) (pe_callB (kLen K) (by rfl) T.len PySem.boot_len (pa_cons (pv 1) pa_nil)) (nomark _))))), ?_⟩
    refine ⟨fun j σ H' => ∃ t' : Tr, j = way.length - t'.at_ ∧ Kp a H H' ∧ H' a = some (.ins CT dx (flTr d t')) ∧ TrOk n dr way t' ∧ t'.m = t.m ∧ t'.come = t.come ∧ σ = [some (.ref a), some (.ref b)],
      ⟨_, t, rfl, Kp.refl a H, ha, ht, rfl, rfl, rfl⟩, ?_⟩
    rintro j σ H1 ⟨t1, hj, k1, ha1, ht1, em, ec, rfl⟩
    have n1 := nx_kp k1 ha
    have hl1 := fx_way _ _ _ _ n1 hl
    have hd1 : LeadAt H1 d t1.m := by rw [em]; exact hd.fx n1
    obtain ⟨ls, sL, pL, eL, lL⟩ := tup_sq (K := K) hl1
    have eLs := pd_ints pL
    have fin : ∀ H2, Kp a H H2 → H2 a = some (.ins CT dx (flTr d t1)) → (t1.at_ = way.length ∨ ∃ i, way[t1.at_]? = some i ∧ lk t1.m (t1.room, i) = none) → Q (.bl (decide (V.int (t1.at_ : Int) = V.int ((ls.length : Nat) : Int)))) H2 := fun H2 q1 q2 q3 => by
      have e : decide (V.int (t1.at_ : Int) = V.int ((ls.length : Nat) : Int)) = decide (t1.at_ = way.length) := by
        rw [lL]
        by_cases h : t1.at_ = way.length
        · rw [h, decide_eq_true rfl, decide_eq_true rfl]
        · rw [decide_eq_false h, decide_eq_false fun z => h (by rw [V.int.injEq] at z; exact Int.natCast_inj.mp z)]
      rw [e]
      exact k t1 H2 q1 q2 ht1 em ec q3
    refine ⟨_, rfl, _, CT, _, _, _, rfl, ha1, kT.c, kT.at_, flT_lat, _, rfl, _, _, rfl, .inr sL, _, _, rfl, rfl, _, rfl, ite2 (fun hc => ?_) fun hc => ?_⟩
    · have hlt : t1.at_ < way.length := by
        have := of_decide_eq_true hc
        rw [lL] at this
        omega
      have hi : way[t1.at_]? = some way[t1.at_] := List.getElem?_eq_getElem hlt
      have hat : atI ls (t1.at_ : Int) = some (.int (way[t1.at_] : Int)) := by rw [eLs]; exact at_nats hi
      refine ⟨_, rfl, _, CT, _, _, _, rfl, ha1, kT.c, kT.room, flT_lroom, _, rfl, ⟨_, rfl, _, CT, _, _, _, rfl, ha1, kT.c, kT.at_, flT_lat, _, _, _, _, rfl, rfl, sL, hat, by show 2 ≤ sizeLine; decide, fun p hp => ?_⟩⟩
      obtain ⟨kvs, hd2, hL⟩ := hd1
      have s2 := same_new (o := .tup [.int (t1.room : Int), .int (way[t1.at_] : Int)]) hp
      refine ⟨_, rfl, _, CT, _, _, _, rfl, (s2 _ _ ha1), kT.c, kT.lead, flT_lead, d, _, rfl, DGet.t (k := keyE (t1.room, way[t1.at_])) (s2 _ _ hd2) upd_same, _, rfl, ?_⟩
      rw [hL.isSome]
      have k2 : Kp a H (upd H1 p (.tup [.int (t1.room : Int), .int (way[t1.at_] : Int)])) := fun b o hb e => s2 b o (k1 b o hb e)
      cases z : lk t1.m (t1.room, way[t1.at_]) with
      | none => exact iteF (⟨_, rfl, _, CT, _, _, _, rfl, (s2 _ _ ha1), kT.c, kT.at_, flT_lat, _, rfl, _, _, rfl, .inr (same_t s2 sL), rfl, fin _ k2 (s2 _ _ ha1) (.inr ⟨_, hi, z⟩)⟩)
      | some g =>
        obtain ⟨y, hy, ry⟩ := hL.some_ z
        refine iteT ⟨fun σ' H' => ∃ j', j' < j ∧ ∃ t' : Tr, j' = way.length - t'.at_ ∧ Kp a H H' ∧ H' a = some (.ins CT dx (flTr d t')) ∧ TrOk n dr way t' ∧ t'.m = t.m ∧ t'.come = t.come ∧ σ' = [some (.ref a), some (.ref b)], fun _ _ z => z, ?_⟩
        refine ⟨_, rfl, _, CT, _, _, _, rfl, (s2 _ _ ha1), kT.c, kT.lead, flT_lead, (⟨_, rfl, _, CT, _, _, _, rfl, (s2 _ _ ha1), kT.c, kT.room, flT_lroom, _, rfl, ⟨_, rfl, _, CT, _, _, _, rfl, (s2 _ _ ha1), kT.c, kT.at_, flT_lat, _, _, _, _, rfl, rfl, same_t s2 sL, hat, by show 2 ≤ sizeLine; decide, fun q hq => ?_⟩⟩)⟩
        have s3 := sn (o := .tup [.int (t1.room : Int), .int (way[t1.at_] : Int)]) s2 hq
        obtain ⟨gb, rfl, hgb⟩ := firm_end.s s3 ry
        refine ⟨d, .ref gb, rfl, by rw [← hy]; exact DGet.t (k := keyE (t1.room, way[t1.at_])) (s3 _ _ hd2) upd_same, _, _, _, _, rfl, rfl, SqT.of hgb, rfl, _, rfl, a, CT, dx, _, rfl, s3 _ _ ha1, kT.c, kT.room, by show 4 < 1000; decide, ?_⟩
        refine ⟨_, rfl, a, CT, dx, _, _, rfl, upd_same, kT.c, kT.at_, flT_lat, _, _, rfl, rfl, dx, _, upd_same, by show 4 < 1000; decide, ?_⟩
        rw [upd_upd, flT_room, flT_at]
        refine ⟨way.length - (t1.at_ + 1), by omega, t1.on g, rfl, ?_, by rw [upd_same]; rfl, ht1.go hi z, em, ec, rfl⟩
        exact Kp.put fun b o hb e => s3 b o (k1 b o hb e)
    · have hle : ¬ t1.at_ < ls.length := fun z => hc (decide_eq_true (by omega))
      have hle2 := ht1.at_
      exact ⟨_, rfl, _, CT, _, _, _, rfl, ha1, kT.c, kT.at_, flT_lat, _, rfl, _, _, rfl, .inr sL, rfl, fin _ k1 ha1 (.inl (by omega))⟩
end
end Sw
/-! SwB2 -/
set_option Elab.async false
set_option linter.all false
set_option maxRecDepth 100000
set_option maxHeartbeats 4000000
namespace Sw
open PySem L2
theorem pd_snoc_inv {α β : Type} {F : α → β → Prop} {x : α} : ∀ {xs : List α} {ys : List β}, Paired F (xs ++ [x]) ys → ∃ zs y, ys = zs ++ [y] ∧ Paired F xs zs ∧ F x y
  | [], _, .cons r .nil => ⟨[], _, rfl, .nil, r⟩
  | a :: xs, _, .cons r t => by
    obtain ⟨zs, y, e, h1, h2⟩ := pd_snoc_inv (xs := xs) t
    exact ⟨_ :: zs, y, by rw [e]; rfl, .cons r h1, h2⟩
theorem pd_imp_mem {α β : Type} {F G : α → β → Prop} : ∀ {xs : List α} {ys : List β}, Paired F xs ys → (∀ x ∈ xs, ∀ y, F x y → G x y) → Paired G xs ys
  | _, _, .nil, _ => .nil
  | _, _, .cons r t, k => .cons (k _ List.mem_cons_self _ r) (pd_imp_mem t fun x hx => k x (List.mem_cons_of_mem _ hx))
theorem Emb.same {t t' : Tr} {W : Web} {N r : Nat} {φ : Nat → Nat} (E : Emb t W N r φ) (em : t'.m = t.m) (ec : t'.come = t.come) : Emb t' W N r φ := ⟨E.zero, by rw [ec]; exact E.inj, by rw [ec]; exact E.lt, by rw [em]; exact E.hom⟩
theorem nd_snoc {α : Type} {l : List α} {a : α} (h : l.Nodup) (ha : a ∉ l) : (l ++ [a]).Nodup := by
  rw [List.nodup_append]
  exact ⟨h, by simp, fun x hx y hy e => ha (by rw [List.mem_singleton.mp hy] at e; exact e ▸ hx)⟩
abbrev wtT (n d : Nat) (t : Tr) : Nat := wgt (free n d t.m)
theorem len_wt (n d : Nat) : ∀ ts : List Tr, ts.length ≤ (ts.map (wtT n d)).sum
  | [] => Nat.le_refl _
  | t :: ts => by
    have := len_wt n d ts
    have := wgt_pos (free n d t.m)
    rw [List.map_cons, List.sum_cons, List.length_cons]
    show _ ≤ wgt (free n d t.m) + _
    omega
/-- each even web that the way misses holds one of the traces -/
def Cov (n d : Nat) (way : List Nat) (ts : List Tr) : Prop := ∀ (N : Nat) (W : Web) (r : Nat), N ≤ n → Ev W N d → r < N → ¬ Sees W r way → ∃ t ∈ ts, ∃ φ, Emb t W N r φ
theorem Cov.drop {n d : Nat} {way : List Nat} {ts : List Tr} {t : Tr} (h : Cov n d way (ts ++ [t])) (k : ∀ (N : Nat) (W : Web) (r : Nat) (φ : Nat → Nat), N ≤ n → Ev W N d → r < N → Emb t W N r φ → Sees W r way) : Cov n d way ts := fun N W r h1 h2 h3 h4 => by
  obtain ⟨t', ht, φ, E⟩ := h N W r h1 h2 h3 h4
  rcases List.mem_append.mp ht with z | z
  · exact ⟨t', z, φ, E⟩
  · rw [List.mem_singleton.mp z] at E
    exact absurd (k N W r φ h1 h2 h3 E) h4
section
variable {P : Program} {w : World} {K : PySem.W.Frag} {mg : Str → Option Value} {base : Heap} {CT : Addr}
def spMissed : Sp := fun vs H Q _ => ∃ (b : Addr) (n dr : Nat) (way : List Nat), vs = [.int (n : Int), .int (dr : Int), .ref b] ∧ WayR H (.ref b) way ∧ 1 ≤ n ∧ 1 ≤ dr ∧ n ≤ 9 ∧ dr ≤ 9 ∧ n * dr ≤ 9 ∧ (∀ i ∈ way, i < dr) ∧
  ((∀ (N : Nat) (W : Web) (r : Nat), N ≤ n → Ev W N dr → r < N → Sees W r way) → ∀ H', Same H H' → Q .non H') ∧
  ∀ (W : Web) (N : Nat) (p : Addr) (H' : Hp), H p = none → Same H H' → N ≤ n → Ev W N dr → told W 0 = W → ¬ Sees W 0 way → WebR H' (.ref p) W → Q (.ref p) H'
theorem ok_missed {f : Addr} {fd : FuncData} (F : FnP K "missed" "missed" s_missed f fd) (T : Txt mg) (kT : TraceK K CT) (c_Trace : Mkr P w K mg base 1 "Trace" CT p_Trace_init (spTrI CT)) (c_Trace_gone_on : Mth P w K mg base 3 CT "gone_on" p_Trace_gone_on (spTrG CT))
    (c_free_end : Cal P w K mg base 3 "free_end" p_free_end spFree) (c_told_from : Cal P w K mg base 3 "told_from" p_told_from spTold) (c_closed_web : Cal P w K mg base 3 "closed_web" p_closed_web spClosed) (c_ways_on_from : Cal P w K mg base 3 "ways_on_from" p_ways_on_from spWays) : FnOk P w K mg base CX0 4 f fd p_missed spMissed := by
  refine okd F sc_missed (fun vs H Q E h => ?_) (fun cdv A outer s H vs Q E hr h => ?_)
  · obtain ⟨b, n, dr, way, rfl, _⟩ := h
    rfl
  · obtain ⟨b, n, dr, way, rfl, hl, hn1, hd1, hn9, hd9, hnd, hwd, kN, kW⟩ := h
    refine ⟨_, (pss_cons (ps_set (i := 3) sc_missed.nd rfl (by first | exact Or.inl rfl | exact Or.inr rfl) (pe_lst (pa_cons (pe_mk c_Trace (hr.mono (by decide)) (pa_cons pe_dnewT (pa_cons pe_int (pa_cons pe_int (pa_cons pe_int pa_nil))))) pa_nil)))
      (pss_cons (ps_while PassesOwn.never (pt_cmpR op_gt (pe_callB (kLen K) (by rfl) T.len PySem.boot_len (pa_cons (pv 3) pa_nil)) pe_int (nomark _)) (pss_cons (ps_set (i := 4) sc_missed.nd rfl (by first | exact Or.inl rfl | exact Or.inr rfl) (pe_bm0 PySem.F.plainAttrs_list PySem.F.slot_list_pop PySem.F.type_list_pop mt_pop (pv 3)))
      (pss_cons (ps_if (pt_cmpR op_eq (kFld K rfl (pv 4) rfl) (pv 0) (nomark _)) (pss_one ps_continue) pss_nil)
      (pss_cons (ps_if (pt_val (pe_mt c_Trace_gone_on (hr.mono (by decide)) (pv 4) (pa_cons (pv 2) pa_nil))) (pss_cons (ps_if (pt_cmpR op_notN (pe_cal c_free_end (hr.mono (by decide)) (pa_cons (kFld K rfl (pv 4) rfl) (pa_cons (kFld K rfl (pv 4) rfl) (pa_cons (pv 1) pa_nil)))) pe_non (nomark _)) (pss_one (ps_ret (pe_cal c_told_from (hr.mono (by decide)) (pa_cons (pe_cal c_closed_web (hr.mono (by decide)) (pa_cons (kFld K rfl (pv 4) rfl) (pa_cons (kFld K rfl (pv 4) rfl) (pa_cons (pv 1) pa_nil)))) (pa_cons pe_int pa_nil))))) pss_nil)
      (pss_one ps_continue)) pss_nil)
      (pss_one (ps_for PassesOwn.never rfl (kList K rfl (pe_cal c_ways_on_from (hr.mono (by decide)) (pa_cons (kFld K rfl (pv 4) rfl) (pa_cons (pe_tup (pa_cons (kFld K rfl (pv 4) rfl) (pa_cons (pe_ix (kIxT K) (pv 2) (kFld K rfl (pv 4) rfl) (fun _ _ => rfl)) pa_nil))) (pa_cons (kFld K rfl (pv 4) rfl) (pa_cons (pv 0) (pa_cons (pv 1) pa_nil))))))) (kgTup (n := 2) K rfl rfl (pgs_cons (pg_name (i := 5) sc_missed.nd rfl (by first | exact Or.inl rfl | exact Or.inr rfl)) (pgs_cons (pg_name (i := 6) sc_missed.nd rfl (by first | exact Or.inl rfl | exact Or.inr rfl)) pgs_nil)))
      (pss_one (ps_expr (pe_bm PySem.F.plainAttrs_list PySem.F.slot_list_append PySem.F.type_list_append mt_append (pv 3) (pa_cons (pe_mk c_Trace (hr.mono (by decide)) (pa_cons (pv 5) (pa_cons (kFld K rfl (pv 4) rfl) (pa_cons (kFld K rfl (pv 4) rfl) (pa_cons (pv 6) pa_nil))))) pa_nil))))))))))
      (pss_one (ps_ret pe_non)))), ?_⟩
    have hbig : sizeLine = 16777216 := PySem.sizeLine_eq
    refine fun d0 hd0 x dx hx hdx hne => ?_
    have s1 : Same H (upd (upd (upd H d0 (.dT [])) dx (.own x)) x (.ins CT dx [])) := sn (sn (same_new hd0) hdx) (by rw [upd_ne (Ne.symm hne)]; exact hx)
    refine ⟨x, dx, _, _, _, _, rfl, upd_same, rfl, by show 1 ≤ sizeLine; decide, fun D hD => ?_⟩
    rw [upd_upd] at hD ⊢
    have sx : Same H (upd (upd (upd H d0 (.dT [])) dx (.own x)) x (.ins CT dx (flTr d0 tr0))) := sn (sn (same_new hd0) hdx) (by rw [upd_ne (Ne.symm hne)]; exact hx)
    have sD := sn (o := .lst [.ref x]) sx hD
    have hxH : H x = none := none_back (same_new (o := .dT []) hd0) hx
    have hDH : H D = none := none_back sx hD
    have nlD : NL (upd (upd (upd H d0 (.dT [])) dx (.own x)) x (.ins CT dx (flTr d0 tr0))) (upd (upd (upd (upd H d0 (.dT [])) dx (.own x)) x (.ins CT dx (flTr d0 tr0))) D (.lst [.ref x])) := nl_of (same_new hD)
    have tr0At : TrAt CT (upd (upd (upd H d0 (.dT [])) dx (.own x)) x (.ins CT dx (flTr d0 tr0))) x tr0 :=
      ⟨d0, dx, upd_same, [], by rw [upd_ne (ne_of_none (H := upd H d0 (.dT [])) upd_same hx), upd_ne (ne_of_none (H := upd H d0 (.dT [])) upd_same hdx), upd_same], .nil⟩
    -- the turns
    refine ⟨fun k σ H' => ∃ (as : List Addr) (ts : List Tr) (tv lv cv : Option V), k = (ts.map (wtT n dr)).sum ∧ k ≤ 986410 ∧ Same H H' ∧ H' D = some (.lst (as.map V.ref)) ∧ as.Nodup ∧ (∀ a ∈ as, H a = none) ∧ Paired (TrAt CT H') as ts ∧
        (∀ t ∈ ts, TrOk n dr way t) ∧ Cov n dr way ts ∧ σ = [some (.int (n : Int)), some (.int (dr : Int)), some (.ref b), some (.ref D), tv, lv, cv],
      ⟨_, [x], [tr0], none, none, none, rfl, ?_, sD, upd_same, by simp, fun a ha => by rw [List.mem_singleton.mp ha]; exact hxH, .cons (tr0At.firm nlD) .nil, fun t ht => by rw [List.mem_singleton.mp ht]; exact tr0_ok hn1 way,
        fun N W r _ h2 h3 _ => ⟨tr0, List.mem_singleton.mpr rfl, _, emb0 h2 h3⟩, rfl⟩, ?_⟩
    · rw [List.map_cons, List.map_nil, List.sum_cons, List.sum_nil, Nat.add_zero]
      exact wgt_le (Nat.le_trans free_le hnd)
    rintro k σ H1 ⟨as, ts, tv, lv, cv, hk, hk2, hs, hL, hnd2, has, hts, hok, hcov, rfl⟩
    have hlen := Paired.length hts
    refine ⟨_, rfl, _, _, rfl, .inl (SqL.of hL), _, _, rfl, rfl, _, rfl, ite2 (fun hc => ?_) fun hc => ?_⟩
    · -- one trace more
      have hpos : as ≠ [] := fun z => by
        rw [z] at hc
        exact absurd (of_decide_eq_true hc) (by decide)
      obtain ⟨as', a, rfl⟩ : ∃ as' a, as = as' ++ [a] := ⟨_, _, (List.dropLast_concat_getLast hpos).symm⟩
      obtain ⟨ts', t, rfl, hts', hta⟩ := pd_snoc_inv hts
      have hsum : ((ts' ++ [t]).map (wtT n dr)).sum = (ts'.map (wtT n dr)).sum + wtT n dr t := by rw [List.map_append, List.sum_append]; simp
      have ht := hok t (by simp)
      have hok' : ∀ t ∈ ts', TrOk n dr way t := fun t h => hok t (List.mem_append_left _ h)
      have nda := List.nodup_append.mp hnd2
      have hnotin : a ∉ as' := fun z => nda.2.2 a z a (by simp) rfl
      have hwp := wgt_pos (free n dr t.m)
      refine ⟨fun σ' H' => ∃ k', k' < k ∧ ∃ (as : List Addr) (ts : List Tr) (tv lv cv : Option V), k' = (ts.map (wtT n dr)).sum ∧ k' ≤ 986410 ∧ Same H H' ∧ H' D = some (.lst (as.map V.ref)) ∧ as.Nodup ∧ (∀ a ∈ as, H a = none) ∧ Paired (TrAt CT H') as ts ∧
        (∀ t ∈ ts, TrOk n dr way t) ∧ Cov n dr way ts ∧ σ' = [some (.int (n : Int)), some (.int (dr : Int)), some (.ref b), some (.ref D), tv, lv, cv], fun _ _ z => z, ?_⟩
      refine ⟨_, rfl, .inl ⟨rfl, _, SqL.of hL⟩, D, _, .ref a, rfl, rfl, hL, by simp, ?_⟩
      have eDL : ((as' ++ [a]).map V.ref).dropLast = as'.map V.ref := by rw [List.map_append]; exact List.dropLast_concat
      rw [eDL]
      have nl1 : NL H1 (upd H1 D (.lst (as'.map V.ref))) := nl_lst hL
      have sH1 : Same H (upd H1 D (.lst (as'.map V.ref))) := same_mut hs hDH
      -- the rest without this trace
      have rest : ∀ (H' : Hp) (tv lv cv : Option V), Same H H' → H' D = some (.lst (as'.map V.ref)) → Paired (TrAt CT H') as' ts' → Cov n dr way ts' →
          ∃ k', k' < k ∧ ∃ (as : List Addr) (ts : List Tr) (tv' lv' cv' : Option V), k' = (ts.map (wtT n dr)).sum ∧ k' ≤ 986410 ∧ Same H H' ∧ H' D = some (.lst (as.map V.ref)) ∧ as.Nodup ∧ (∀ a ∈ as, H a = none) ∧ Paired (TrAt CT H') as ts ∧
            (∀ t ∈ ts, TrOk n dr way t) ∧ Cov n dr way ts ∧ ([some (.int (n : Int)), some (.int (dr : Int)), some (.ref b), some (.ref D), tv, lv, cv] : L2.St) = [some (.int (n : Int)), some (.int (dr : Int)), some (.ref b), some (.ref D), tv', lv', cv'] := fun H' tv lv cv q1 q2 q3 q4 =>
        ⟨_, by rw [hk, hsum]; show _ < _ + wgt (free n dr t.m); omega, as', ts', tv, lv, cv, rfl, by rw [hsum] at hk; omega, q1, q2, nda.1, fun z hz => has z (List.mem_append_left _ hz), q3, hok', q4, rfl⟩
      obtain ⟨d, dxa, hta1, hta2⟩ := hta.firm nl1
      have hts1 : Paired (TrAt CT (upd H1 D (.lst (as'.map V.ref)))) as' ts' := pd_imp hts' fun _ _ z => z.firm nl1
      refine ⟨_, rfl, _, CT, _, _, _, rfl, hta1, kT.c, kT.come, flT_lcome, _, rfl, rfl, _, rfl, ite2 (fun hc2 => ?_) fun hc2 => ?_⟩
      · have hcn : t.come = n := by
          have := of_decide_eq_true hc2
          rw [V.int.injEq] at this
          omega
        exact rest _ _ _ _ sH1 upd_same hts1 (hcov.drop fun N W r φ h1 h2 h3 E => E.full ht h2.len h1 hcn)
      · have hcn : t.come < n := by
          have h1 : t.come ≠ n := fun z => hc2 (decide_eq_true (by rw [z]))
          have := ht.cn
          omega
        refine ⟨_, rfl, a, dxa, _, rfl, hta1, flT_no, _, rfl, a, b, d, dxa, n, dr, way, t, rfl, hta1, hta2, firm_way.s sH1 hl, ht, fun t1 H2 k2 ha2 ht1 em ec hstop => ⟨_, rfl, ?_⟩⟩
        have nx2 := nx_kp k2 hta1
        have hDa : D ≠ a := fun z => by rw [← z, upd_same] at hta1; cases hta1
        have sH2 : Same H H2 := fun q o e => k2 q o (fun z => by
          have := has a (by simp)
          rw [← z, e] at this; cases this) (sH1 q o e)
        have hD2 : H2 D = some (.lst (as'.map V.ref)) := k2 _ _ hDa upd_same
        have hts2 : Paired (TrAt CT H2) as' ts' := pd_imp_mem hts1 fun z hz y r => r.kp k2 nx2 fun e => hnotin (e ▸ hz)
        have hd2 : LeadAt H2 d t1.m := by rw [em]; exact hta2.fx nx2
        have hc1 : t1.come < n := by rw [ec]; exact hcn
        refine ite2 (fun hc3 => ?_) fun hc3 => ?_
        · have hat := of_decide_eq_true hc3
          refine ⟨_, rfl, _, CT, _, _, _, rfl, ha2, kT.c, kT.lead, flT_lead, (⟨_, rfl, _, CT, _, _, _, rfl, ha2, kT.c, kT.come, flT_lcome, _, rfl, d, t1.m, t1.come, dr, rfl, hd2, by omega, hd9, fun hall H3 s3 => ⟨rfl, _, rfl, iteF ?_⟩, fun e p H3 he1 he2 hlk hp s3 hE => ⟨rfl, _, rfl, iteT ?_⟩⟩)⟩
          · exact rest _ _ _ _ (st sH2 s3) (s3 _ _ hD2) (pd_imp hts2 fun _ _ z => z.firm (nl_of s3)) (hcov.drop fun N W r φ h1 h2 h3 E => (E.same em ec).shut ht1 h2 h3 hall)
          · refine ⟨_, rfl, _, CT, _, _, _, rfl, (s3 _ _ ha2), kT.c, kT.lead, flT_lead, (⟨_, rfl, _, CT, _, _, _, rfl, (s3 _ _ ha2), kT.c, kT.come, flT_lcome, _, rfl, d, n, dr, way, t1, rfl, hd2.s s3, ht1, hc1, hn9, hd9, ⟨e, he1, he2, hlk⟩, fun m p4 H4 hp4 s4 hg hsh hweb => ?_⟩)⟩
            have ev := hsh.ev (Nat.succ_pos _) hg.tree
            have nos := shut_missed ht1 hat hg.le hsh
            refine ⟨p4, _, t1.come + 1, dr, 0, rfl, hweb, ev, Nat.succ_pos _, by omega, hd9, fun p5 H5 hp5 s5 hT5 => ?_⟩
            exact kW _ (t1.come + 1) p5 H5 (none_back (st sH2 (st s3 s4)) hp5) (st sH2 (st s3 (st s4 s5))) hc1 (ev.told_ev (Nat.succ_pos _)) (ev.told_told (Nat.succ_pos _)) (fun z => nos ((ev.told_sees (Nat.succ_pos _) hwd).mp z)) hT5
        · obtain ⟨i0, hi0, hlk0⟩ : ∃ i, way[t1.at_]? = some i ∧ lk t1.m (t1.room, i) = none := hstop.elim (fun z => absurd (decide_eq_true z) hc3) id
          have hid := hwd i0 (List.mem_of_getElem? hi0)
          obtain ⟨ls, sL, pL, eL, lL⟩ := tup_sq (K := K) (firm_way.s sH2 hl)
          have eLs := pd_ints pL
          have hat : atI ls (t1.at_ : Int) = some (.int (i0 : Int)) := by rw [eLs]; exact at_nats hi0
          have sm1 : Sm t1.m := ⟨ht1.nd, fun k f z => by have := ht1.rng k f z; omega⟩
          refine ⟨_, rfl, _, CT, _, _, _, rfl, ha2, kT.c, kT.lead, flT_lead, (⟨_, rfl, _, CT, _, _, _, rfl, ha2, kT.c, kT.room, flT_lroom, _, rfl, ⟨_, rfl, _, CT, _, _, _, rfl, ha2, kT.c, kT.at_, flT_lat, _, _, _, _, rfl, rfl, sL, hat, by show 2 ≤ sizeLine; decide, fun q hq => ?_⟩⟩)⟩
          have s3 := same_new (o := .tup [.int (t1.room : Int), .int (i0 : Int)]) hq
          refine ⟨_, rfl, _, CT, _, _, _, rfl, (s3 _ _ ha2), kT.c, kT.come, flT_lcome, _, rfl, _, rfl, d, .ref q, t1.m, (t1.room, i0), t1.come, n, dr, rfl, hd2.s s3, ⟨q, rfl, upd_same⟩, sm1, hc1, hn9, hd9, fun L H4 hL4 s4 hKids => ?_⟩
          obtain ⟨_, ks, e0, hLk, pk⟩ := hKids
          cases e0
          have s5 := st s3 s4
          have hKT : ∀ j (kd : Ld × Nat), (kidsOf t1.m (t1.room, i0) t1.come (t1.come + 1) dr)[j]? = some kd → ∃ x ∈ spots t1 dr, kd = (tie t1.m (t1.room, i0) x, max t1.come (x.1 + 1)) ∧ ((spots t1 dr).map (kid t1 i0))[j]? = some (kid t1 i0 x) := fun j kd h => by
            unfold kidsOf at h
            rw [List.getElem?_map] at h
            obtain ⟨x, hx, rfl⟩ := Option.map_eq_some_iff.mp h
            exact ⟨x, List.mem_of_getElem? hx, rfl, by rw [List.getElem?_map, show (spots t1 dr)[j]? = some x from hx]; rfl⟩
          have hks : ks.length = (spots t1 dr).length := by rw [Paired.length pk]; unfold kidsOf; rw [List.length_map]; rfl
          have hkw := kids_wgt (n := n) (d := dr) hc1 ht1.room hid hlk0
          have ewt : (((spots t1 dr).map (kid t1 i0)).map (wtT n dr)).sum < wtT n dr t := by
            rw [List.map_map]
            have : wtT n dr t = wgt (free n dr t1.m) := by rw [em]
            rw [this]; exact hkw
          have hall := len_wt n dr (ts' ++ (spots t1 dr).map (kid t1 i0))
          have hsumK : ((ts' ++ (spots t1 dr).map (kid t1 i0)).map (wtT n dr)).sum = (ts'.map (wtT n dr)).sum + (((spots t1 dr).map (kid t1 i0)).map (wtT n dr)).sum := by rw [List.map_append, List.sum_append]
          refine ⟨L, rfl, ⟨ks, SqL.of hLk⟩, for_list (K := K) (a := L) (xs := ks) (fun i σ H' => ∃ (news : List Addr) (lv cv : Option V), Same H H' ∧ H' L = some (.lst ks) ∧ H' D = some (.lst ((as' ++ news).map V.ref)) ∧ (as' ++ news).Nodup ∧ (∀ z ∈ as' ++ news, H z = none) ∧
              Paired (TrAt CT H') (as' ++ news) (ts' ++ ((spots t1 dr).map (kid t1 i0)).take i) ∧ H' a = some (.ins CT dxa (flTr d t1)) ∧ Paired (KidR H') ks (kidsOf t1.m (t1.room, i0) t1.come (t1.come + 1) dr) ∧
              σ = [some (.int (n : Int)), some (.int (dr : Int)), some (.ref b), some (.ref D), some (.ref a), lv, cv])
            ⟨[], _, _, st sH2 s5, hLk, by rw [List.append_nil]; exact s5 _ _ hD2, by rw [List.append_nil]; exact nda.1, by rw [List.append_nil]; exact fun z hz => has z (List.mem_append_left _ hz), by rw [List.append_nil, List.take_zero, List.append_nil]; exact pd_imp hts2 fun _ _ z => z.firm (nl_of s5), s5 _ _ ha2, pk, rfl⟩
            (fun i σ H' _ ⟨_, _, _, _, z, _⟩ => SqL.of z) ?_ ?_⟩
          · rintro i x σ H5 hx ⟨news, lv, cv, sH5, hL5, hD5, nd5, none5, tr5, ha5, pk5, rfl⟩
            obtain ⟨kd, hkd, c5, d5, rfl, hc5, hl5⟩ := pd_get' pk5 hx
            obtain ⟨sp, hsp, rfl, hkt⟩ := hKT i kd hkd
            have htk : ((spots t1 dr).map (kid t1 i0)).take (i + 1) = ((spots t1 dr).map (kid t1 i0)).take i ++ [kid t1 i0 sp] := by rw [List.take_add_one, hkt]; rfl
            refine ⟨c5, _, rfl, SqT.of hc5, rfl, _, _, rfl, _, _, rfl, rfl, ?_⟩
            refine ⟨_, rfl, .inl ⟨rfl, _, SqL.of hD5⟩, _, rfl, ⟨_, rfl, _, CT, _, _, _, rfl, ha5, kT.c, kT.room, flT_lroom, (⟨_, rfl, _, CT, _, _, _, rfl, ha5, kT.c, kT.at_, flT_lat, _, rfl, fun y dy hy hdy hne => ⟨y, dy, _, _, _, _, rfl, upd_same, rfl, ?_⟩⟩)⟩⟩
            rw [upd_upd]
            have s6 : ∀ o, Same H5 (upd (upd H5 dy (.own y)) y o) := fun o => sn (same_new hdy) (by rw [upd_ne (Ne.symm hne)]; exact hy)
            have hD6 := s6 (.ins CT dy (flT (.ref d5) (.int (t1.room : Int)) (.int (t1.at_ : Int)) (.int ((max t1.come (sp.1 + 1) : Nat) : Int)))) _ _ hD5
            have l5 := Paired.length tr5
            refine ⟨D, _, _, rfl, rfl, hD6, ?_, ?_⟩
            · rw [List.length_map, l5, List.length_append, List.length_take]
              rw [List.length_append] at hall
              rw [hsumK] at hall
              omega
            · have s6' := s6 (.ins CT dy (flT (.ref d5) (.int (t1.room : Int)) (.int (t1.at_ : Int)) (.int ((max t1.come (sp.1 + 1) : Nat) : Int))))
              have hyn : y ∉ as' ++ news := fun z => by
                obtain ⟨t9, _, d9, dx9, h9, _⟩ := pd_mem tr5 z
                rw [hy] at h9; cases h9
              have hLD : L ≠ D := fun z => by
                rw [z] at hL4
                rw [s3 _ _ hD2] at hL4
                cases hL4
              refine ⟨news ++ [y], _, _, same_mut (st sH5 s6') hDH, by rw [upd_ne hLD]; exact s6' _ _ hL5, by rw [upd_same, ← List.append_assoc]; simp, by rw [← List.append_assoc]; exact nd_snoc nd5 hyn, fun z hz => ?_, ?_, by rw [upd_ne (Ne.symm hDa)]; exact s6' _ _ ha5, firm_kid.all (NL.trans (nl_of s6') (nl_lst hD6)) pk5, rfl⟩
              · rw [← List.append_assoc] at hz
                rcases List.mem_append.mp hz with z1 | z1
                · exact none5 z z1
                · rw [List.mem_singleton.mp z1]; exact none_back sH5 hy
              · rw [htk, ← List.append_assoc, ← List.append_assoc]
                refine pd_app (pd_imp tr5 fun _ _ z => z.firm (NL.trans (nl_of s6') (nl_lst hD6))) (.cons ?_ .nil)
                exact TrAt.firm (nl_lst hD6) ⟨d5, dy, upd_same, hl5.s s6'⟩
          · rintro σ H5 ⟨news, lv, cv, sH5, hL5, hD5, nd5, none5, tr5, ha5, pk5, rfl⟩
            rw [hks, List.take_of_length_le (by rw [List.length_map]; exact Nat.le_refl _)] at tr5
            refine ⟨_, ?_, as' ++ news, ts' ++ (spots t1 dr).map (kid t1 i0), _, _, _, rfl, ?_, sH5, hD5, nd5, none5, tr5, fun z hz => ?_, fun N W r h1 h2 h3 h4 => ?_, rfl⟩
            · rw [hk, hsum, hsumK]; omega
            · rw [hk, hsum] at hk2
              rw [hsumK]; omega
            · rcases List.mem_append.mp hz with z1 | z1
              · exact hok' z z1
              · obtain ⟨x, hx, rfl⟩ := List.mem_map.mp z1
                exact ht1.kid hc1 hi0 hid hlk0 hx
            · obtain ⟨t', ht', φ, E⟩ := hcov N W r h1 h2 h3 h4
              rcases List.mem_append.mp ht' with z | z
              · exact ⟨t', List.mem_append_left _ z, φ, E⟩
              · rw [List.mem_singleton.mp z] at E
                obtain ⟨x, hx, ψ, E2⟩ := (E.same em ec).kid ht1 h2 h1 hid hlk0
                exact ⟨kid t1 i0 x, List.mem_append_right _ (List.mem_map.mpr ⟨x, hx, rfl⟩), ψ, E2⟩
    · have hnil : as = [] := by
        cases as with
        | nil => rfl
        | cons a t => exact absurd (decide_eq_true (by rw [List.length_map, List.length_cons]; omega)) hc
      subst hnil
      cases hts
      exact kN (fun N W r h1 h2 h3 => Classical.byContradiction fun z => by
        obtain ⟨t, ht, _⟩ := hcov N W r h1 h2 h3 z
        cases ht) H1 hs
end
end Sw
/-! SwB3 -/
set_option Elab.async false
set_option linter.all false
set_option maxRecDepth 100000
set_option maxHeartbeats 4000000
namespace Sw
open PySem L2
/-! ### the places of the rooms, as a dict -/
abbrev plKV (L : List Nat) (i : Nat) : List (Key × V) := (List.range i).map fun k => ((Sum.inl ((L.getD k 0 : Nat) : Int) : Key), V.int (k : Int))
theorem mergeK_snoc (kvs : List (Key × V)) (q : Key × V) : mergeK [] (kvs ++ [q]) = putK (mergeK [] kvs) q.1 q.2 := by unfold mergeK; rw [List.foldl_append]; rfl
theorem plKV_look {L : List Nat} (hL : L.Nodup) : ∀ i, i ≤ L.length → ∀ k, k < i → valV (mergeK [] (plKV L i)) (Sum.inl ((L.getD k 0 : Nat) : Int)) = some (.int (k : Int))
  | 0, _, k, hk => absurd hk (Nat.not_lt_zero _)
  | i + 1, hi, k, hk => by
    have e : plKV L (i + 1) = plKV L i ++ [((Sum.inl ((L.getD i 0 : Nat) : Int) : Key), V.int (i : Int))] := rng_snoc _ i
    rw [e, mergeK_snoc, valV_put]
    by_cases z : k = i
    · rw [z, if_pos rfl]
    · have ne : ¬ ((Sum.inl ((L.getD k 0 : Nat) : Int) : Key) = Sum.inl ((L.getD i 0 : Nat) : Int)) := fun y => by
        have y2 : L.getD k 0 = L.getD i 0 := by have := Sum.inl.inj y; omega
        have hk' : k < L.length := by omega
        have hi' : i < L.length := by omega
        rw [getD_of (List.getElem?_eq_getElem hk'), getD_of (List.getElem?_eq_getElem hi')] at y2
        exact z ((List.getElem_inj hL).mp y2)
      rw [if_neg ne]
      exact plKV_look hL i (by omega) k (by omega)
theorem plKV_at {L : List Nat} (hL : L.Nodup) {x : Nat} (hx : x ∈ L) : valV (mergeK [] (plKV L L.length)) (Sum.inl (x : Int)) = some (.int (L.idxOf x : Int)) := by
  have h := plKV_look hL L.length (Nat.le_refl _) (L.idxOf x) (List.idxOf_lt_length_of_mem hx)
  rw [getD_of (idx_get hx)] at h
  exact h
section
variable {P : Program} {w : World} {K : PySem.W.Frag} {mg : Str → Option Value} {base : Heap}
def spLTold : Sp := fun vs H Q _ => ∃ (a : Addr) (W : Web) (n d r : Nat), vs = [.ref a, .int (r : Int)] ∧ WebR H (.ref a) W ∧ Rg W n d ∧ n ≤ 9 ∧ d ≤ 9 ∧ r < n ∧ ∀ (p : Addr) (H' : Hp), H p = none → Same H H' → WebR H' (.ref p) (told W r) → Q (.ref p) H'
theorem ok_l_told {f : Addr} {fd : FuncData} (F : FnP K "_law_told" "_law_told" s_l_told f fd) (T : Txt mg) : FnOk P w K mg base CX0 1 f fd p_l_told spLTold := by
  refine okd F sc_l_told (fun vs H Q E h => ?_) (fun cdv A outer s H vs Q E hr h => ?_)
  · obtain ⟨a, W, n, d, r, rfl, _⟩ := h
    rfl
  · obtain ⟨a, W, n, d, r, rfl, hW, g, hn, hd9, hrn, k⟩ := h
    refine ⟨_, (pss_cons (ps_set (i := 2) sc_l_told.nd rfl (by first | exact Or.inl rfl | exact Or.inr rfl) (pe_lst (pa_cons (pv 1) pa_nil)))
      (pss_cons (ps_set (i := 3) sc_l_told.nd rfl (by first | exact Or.inl rfl | exact Or.inr rfl) pe_int)
      (pss_cons (ps_while PassesOwn.never (pt_cmpR op_lt (pv 3) (pe_callB (kLen K) (by rfl) T.len PySem.boot_len (pa_cons (pv 2) pa_nil)) (nomark _)) (pss_cons (ps_for PassesOwn.never rfl (kTup K rfl (pe_ix (kIxT K) (pv 0) (pe_ix (kIxL K) (pv 2) (pv 3) (fun _ _ => rfl)) (fun _ _ => rfl))) (kgTup (n := 2) K rfl rfl (pgs_cons (pg_name (i := 4) sc_l_told.nd rfl (by first | exact Or.inl rfl | exact Or.inr rfl)) (pgs_cons (pg_name (i := 5) sc_l_told.nd rfl (by first | exact Or.inl rfl | exact Or.inr rfl)) pgs_nil)))
      (pss_one (ps_if (pt_cmpR (kNotIn K) (pv 4) (pv 2) (by rfl)) (pss_one (ps_expr (pe_bm PySem.F.plainAttrs_list PySem.F.slot_list_append PySem.F.type_list_append mt_append (pv 2) (pa_cons (pv 4) pa_nil)))) pss_nil)))
      (pss_one (ps_set (i := 3) sc_l_told.nd rfl (by first | exact Or.inl rfl | exact Or.inr rfl) (pe_op op_add (pv 3) pe_int)))))
      (pss_cons (ps_set (i := 6) sc_l_told.nd rfl (by first | exact Or.inl rfl | exact Or.inr rfl) (pe_callTy (call_dictP rfl) (by rfl) T.dict (by decide +kernel) (pa_cons (pe_lc (own := [("_law_k", 7), ("_law_one", 8)]) rfl sc_l_told.nd (kEnum K rfl (by rfl) T.enumerate (pa_cons (pv 2) pa_nil)) (blkOk_by (N := n_l_told) (sc := defScope s_l_told) (by decide +kernel)) (fun _ _ _ _ _ => (kgTup (n := 2) K rfl rfl (pgs_cons (pg_name (i := 7) sc_l_told.nd rfl (by first | exact Or.inl rfl | exact Or.inr rfl)) (pgs_cons (pg_name (i := 8) sc_l_told.nd rfl (by first | exact Or.inl rfl | exact Or.inr rfl)) pgs_nil)))) (fun _ _ _ _ _ => pts_nil) (fun _ _ _ _ _ => (pe_tup (pa_cons (pv 8) (pa_cons (pv 7) pa_nil))))) pa_nil)))
      (pss_one (ps_ret (pe_callTy (kTupOf K) (by rfl) T.tuple (by decide +kernel) (pa_cons (pe_lc (own := [("_law_one", 8)]) rfl sc_l_told.nd (kList K rfl (pv 2)) (blkOk_by (N := n_l_told) (sc := defScope s_l_told) (by decide +kernel)) (fun _ _ _ _ _ => (pg_name (i := 8) sc_l_told.nd rfl (by first | exact Or.inl rfl | exact Or.inr rfl))) (fun _ _ _ _ _ => pts_nil) (fun _ _ _ _ _ => (pe_callTy (kTupOf K) (by rfl) T.tuple (by decide +kernel) (pa_cons (pe_lc (own := [("_law_other", 4), ("_law_door", 5)]) rfl sc_l_told.nd (kTup K rfl (pe_ix (kIxT K) (pv 0) (pv 8) (fun _ _ => rfl))) (by refine blkOk_by ?_; dsimp only [Cx.blk, compEnvC, Cx.nox, Cx.wish, cxOf, PyProof.Rows.envOfC, relabel, Env.kindOf]; rfl) (fun _ _ _ _ _ => (kgTup (n := 2) K rfl rfl (pgs_cons (pg_name (i := 4) sc_l_told.nd rfl (by first | exact Or.inl rfl | exact Or.inr rfl)) (pgs_cons (pg_name (i := 5) sc_l_told.nd rfl (by first | exact Or.inl rfl | exact Or.inr rfl)) pgs_nil)))) (fun _ _ _ _ _ => pts_nil) (fun _ _ _ _ _ => (pe_tup (pa_cons (pe_dget (hu_of hr) (pv 6) (pv 4) (fun _ _ => rfl)) (pa_cons (pv 5) pa_nil))))) pa_nil)))) pa_nil)))))))), ?_⟩
    have hbig : sizeLine = 16777216 := PySem.sizeLine_eq
    obtain ⟨ws, sW, _, _, lW⟩ := tup_sq (K := K) hW
    refine ⟨_, rfl, by show 1 ≤ sizeLine; decide, fun b hb => ?_⟩
    refine ⟨fun j σ H' => ∃ m p f c v, j + p = n ∧ f + p = n + 1 ∧ bfs W f m p = ord W r ∧ p ≤ m.length ∧ Same H H' ∧ H' b = some (.lst (nats m)) ∧ σ = [some (.ref a), some (.int (r : Int)), some (.ref b), some (.int (p : Int)), c, v, none, none, none],
      ⟨n, [r], 0, n + 1, none, none, rfl, rfl, by rw [← g.len]; rfl, Nat.zero_le _, same_new hb, upd_same, rfl⟩, ?_⟩
    rintro j σ H1 ⟨m, p, f, c, v, hj, hf, hbf, hpm, hs, hb1, rfl⟩
    obtain ⟨t, ht⟩ := bfs_pre (W := W) f m p
    rw [hbf] at ht
    have hlen : m.length ≤ n := by
      have := g.ord_len hrn
      rw [ht, List.length_append] at this
      omega
    refine ⟨_, rfl, _, rfl, _, _, rfl, .inl (SqL.of hb1), _, _, rfl, rfl, _, rfl, ite2 (fun hc => ?_) fun hc => ?_⟩
    · have hpl : p < m.length := by
        have := of_decide_eq_true hc
        rw [List.length_map] at this
        omega
      have hmp : m[p]? = some m[p] := List.getElem?_eq_getElem hpl
      have hx : m[p] < n := (g.ord_ok hrn).2 _ (by rw [ht]; exact List.mem_append_left _ (List.getElem_mem hpl))
      obtain ⟨vs1, b1, s1, a1, r1⟩ := web_row (K := K) hW g hx
      obtain ⟨vs2, s2, p2, e2, l2⟩ := tup_sq (K := K) r1
      have hnb : bfs W f m p = bfs W (f - 1) (addAll m (row W m[p])) (p + 1) := by
        obtain ⟨f', rfl⟩ : ∃ f', f = f' + 1 := ⟨f - 1, by omega⟩
        show (match m[p]? with | none => m | some r => bfs W f' (addAll m (row W r)) (p + 1)) = _
        rw [hmp]
        rfl
      refine ⟨fun σ' H' => ∃ j', j' < j ∧ ∃ m p f c v, j' + p = n ∧ f + p = n + 1 ∧ bfs W f m p = ord W r ∧ p ≤ m.length ∧ Same H H' ∧ H' b = some (.lst (nats m)) ∧ σ' = [some (.ref a), some (.int (r : Int)), some (.ref b), some (.int (p : Int)), c, v, none, none, none], fun _ _ z => z, ?_⟩
      refine ⟨_, rfl, _, rfl, _, rfl, _, _, _, _, rfl, rfl, SqL.of hb1, atI_nat (by rw [List.getElem?_map, hmp]; rfl), _, _, _, _, rfl, rfl, same_t hs s1, a1, b1, rfl, ⟨_, same_t hs s2⟩, for_tup (K := K) (a := b1) (xs := vs2)
        (fun i σ H' => ∃ c v, Same H H' ∧ H' b = some (.lst (nats (addAll m ((row W m[p]).take i)))) ∧ σ = [some (.ref a), some (.int (r : Int)), some (.ref b), some (.int (p : Int)), c, v, none, none, none]) ⟨c, v, hs, hb1, rfl⟩ (fun i σ H' _ ⟨_, _, z, _⟩ => same_t z s2) ?_ ?_⟩
      · rintro i x σ H2 hx2 ⟨c, v, hs2, hb2, rfl⟩
        obtain ⟨e, he, c1, rfl, hc1⟩ := pd_get' p2 hx2
        have hc2 := hs2 _ _ hc1
        have hsub : ∀ z ∈ addAll m ((row W m[p]).take i), z < n := fun z hz => by
          rcases addAll_mem.mp hz with q | ⟨e', he', q⟩
          · exact (g.ord_ok hrn).2 _ (by rw [ht]; exact List.mem_append_left _ q)
          · rw [← q]; exact (g.mem_lt hx (List.mem_of_mem_take he')).1
        have hnd : (addAll m ((row W m[p]).take i)).Nodup := addAll_nodup (by have := (g.ord_ok hrn).1; rw [ht] at this; exact (List.nodup_append.mp this).1)
        have hl2 := nodup_lt_len hnd hsub
        have etk : addAll m ((row W m[p]).take (i + 1)) = if e.1 ∈ addAll m ((row W m[p]).take i) then addAll m ((row W m[p]).take i) else addAll m ((row W m[p]).take i) ++ [e.1] := by
          have z : (row W m[p]).take (i + 1) = (row W m[p]).take i ++ [e] := by rw [List.take_add_one, he]; rfl
          rw [z, addAll_app]; rfl
        refine ⟨c1, _, rfl, SqT.of hc2, rfl, _, _, rfl, _, _, rfl, rfl, _, rfl, _, rfl, b, _, rfl, .inl (SqL.of hb2), rfl, flat_nats, _, rfl, ?_⟩
        rw [inV_nats]
        by_cases hin : e.1 ∈ addAll m ((row W m[p]).take i)
        · rw [decide_eq_true hin]
          exact iteF ⟨some (.int (e.1 : Int)), some (.int (e.2 : Int)), hs2, by rw [etk, if_pos hin]; exact hb2, rfl⟩
        · rw [decide_eq_false hin]
          refine iteT ⟨_, rfl, .inl ⟨rfl, _, SqL.of hb2⟩, _, rfl, b, _, _, rfl, rfl, hb2, by rw [List.length_map]; omega, ?_⟩
          exact ⟨some (.int (e.1 : Int)), some (.int (e.2 : Int)), same_mut hs2 hb, by rw [etk, if_neg hin, upd_same]; simp [nats], rfl⟩
      · rintro σ H2 ⟨c, v, hs2, hb2, rfl⟩
        rw [l2, List.take_length] at hb2
        refine ⟨_, rfl, _, _, rfl, rfl, ?_⟩
        obtain ⟨t2, ht2⟩ := addAll_pre (row W m[p]) m
        exact ⟨j - 1, by omega, _, p + 1, f - 1, c, v, by omega, by omega, by rw [← hnb]; exact hbf, by rw [ht2, List.length_append]; omega, hs2, hb2, rfl⟩
    · have hpl : m.length ≤ p := by
        have : ¬ ((p : Int) < ((nats m).length : Nat)) := fun z => hc (decide_eq_true z)
        rw [List.length_map] at this
        omega
      have e : ord W r = m := by
        rw [← hbf]
        obtain ⟨f', rfl⟩ : ∃ f', f = f' + 1 := ⟨f - 1, by omega⟩
        show (match m[p]? with | none => m | some r => bfs W f' (addAll m (row W r)) (p + 1)) = _
        rw [List.getElem?_eq_none hpl]
      subst e
      clear hc hpl
      have hol := g.ord_ok hrn
      -- the dict of places
      refine ⟨_, rfl, b, _, rfl, SqL.of hb1, fun D1 hD1 => ?_⟩
      have hln : (nats (ord W r)).length = (ord W r).length := List.length_map ..
      refine lc_it (walk_enum (K := K) (a := b) (xs := nats (ord W r))) (fun i H' => Same H H' ∧ H' b = some (.lst (nats (ord W r))) ∧ ∃ ps : List Addr, H' D1 = some (.lst (ps.map V.ref)) ∧ Paired (fun q kv => H' q = some (.tup [kV kv.1, kv.2])) ps (plKV (ord W r) i))
        ⟨sn hs hD1, same_new hD1 _ _ hb1, [], upd_same, .nil⟩ (fun i H' _ z => SqL.of z.2.1) ?_ ?_
      · rintro i x H2 H3 hi ⟨hs2, hb2, ps, hp2, pp2⟩ ⟨T0, x1, y, rfl, hT, rfl, e1, hy⟩
        cases e1
        replace hy : (nats (ord W r))[i]? = some y := hy
        rw [List.getElem?_map] at hy
        obtain ⟨x, hx, rfl⟩ := Option.map_eq_some_iff.mp hy
        refine ⟨T0, _, rfl, SqT.of upd_same, rfl, _, _, rfl, _, _, rfl, rfl, rfl, yes (iteT ⟨_, rfl, _, rfl, by show 2 ≤ sizeLine; decide, fun q hq => ?_⟩)⟩
        have s3 : Same H2 (upd (upd H2 T0 (.tup [.int (i : Nat), .int (x : Int)])) q (.tup [.int (x : Int), .int (i : Nat)])) := sn (same_new hT) hq
        have hD3 := s3 _ _ hp2
        have hDH : H D1 = none := none_back hs hD1
        refine ⟨_, hD3, ?_, same_mut (st hs2 s3) hDH, ?_, ps ++ [q], by rw [upd_same, List.map_append]; rfl, ?_⟩
        · have h1 := Paired.length pp2
          rw [List.length_map, List.length_range] at h1
          rw [List.length_map, h1]
          have := g.ord_len hrn
          omega
        · have hbD : b ≠ D1 := ne_of_none hb1 hD1
          rw [upd_ne hbD]
          exact s3 _ _ hb2
        · have z := rng_snoc (fun k => ((Sum.inl (((ord W r).getD k 0 : Nat) : Int) : Key), V.int (k : Int))) i
          show Paired _ _ ((List.range (i + 1)).map _)
          rw [z]
          refine pd_app (pd_imp pp2 fun a' kv h' => ?_) (.cons ?_ .nil)
          · have hne : a' ≠ D1 := fun y => by rw [y, hp2] at h'; cases h'
            rw [upd_ne hne]
            exact s3 _ _ h'
          · have hne : q ≠ D1 := fun y => by
              have := same_new (o := .tup [.int (i : Nat), .int (x : Int)]) hT _ _ hp2
              rw [← y, hq] at this
              cases this
            rw [upd_ne hne, upd_same, getD_of hx]
            rfl
      · rintro H2 ⟨hs2, hb2, ps, hp2, pp2⟩
        rw [hln] at pp2
        refine ⟨D1, ps, _, rfl, SqL.of hp2, pd_imp pp2 fun _ _ z => SqT.of z, fun Dp hDp => ?_⟩
        have s3 := sn (o := .dK (mergeK [] (plKV (ord W r) (ord W r).length))) hs2 hDp
        have hb3 := same_new (o := .dK (mergeK [] (plKV (ord W r) (ord W r).length))) hDp _ _ hb2
        -- the web
        refine ⟨_, rfl, b, rfl, ⟨_, SqL.of hb3⟩, fun D hD => ?_⟩
        have hDH : H D = none := none_back s3 hD
        have hbD : b ≠ D := ne_of_none hb3 hD
        have hpD : Dp ≠ D := ne_of_none (upd_same (H := H2)) hD
        refine lc_list (K := K) (a := b) (xs := nats (ord W r)) (fun i H' => Same H H' ∧ H' b = some (.lst (nats (ord W r))) ∧ H' Dp = some (.dK (mergeK [] (plKV (ord W r) (ord W r).length))) ∧ ∃ vs, H' D = some (.lst vs) ∧ Paired (RowR H') vs (((ord W r).take i).map (plRow W r)))
          ⟨sn s3 hD, same_new hD _ _ hb3, same_new hD _ _ upd_same, [], upd_same, .nil⟩ (fun i H' _ z => SqL.of z.2.1) ?_ ?_
        · rintro i x H4 hx ⟨hs4, hb4, hp4, vs, hv, pv⟩
          rw [List.getElem?_map] at hx
          obtain ⟨x, hx0, rfl⟩ := Option.map_eq_some_iff.mp hx
          clear hx
          have hx := hx0
          have hxn := hol.2 x (List.mem_of_getElem? hx)
          have hW4 := firm_web.s hs4 hW
          obtain ⟨vs1, b1, s1, a1, r1⟩ := web_row (K := K) hW4 g hxn
          obtain ⟨rs, sR, pR, eR, lR⟩ := tup_sq (K := K) r1
          refine ⟨rfl, yes (iteT ⟨_, rfl, _, rfl, _, _, _, _, rfl, rfl, s1, a1, b1, rfl, ⟨_, sR⟩, fun D2 hD2 => ?_⟩)⟩
          refine lc_tup (K := K) (a := b1) (xs := rs) (fun j H' => Same H4 H' ∧ ∃ us, H' D2 = some (.lst us) ∧ Paired (EndR H') us (((row W x).take j).map fun e => (pl W r e.1, e.2))) ⟨same_new hD2, [], upd_same, .nil⟩ (fun j H' _ z => same_t z.1 sR) ?_ ?_
          · rintro j y H5 hy ⟨hs5, us, hu, pu⟩
            obtain ⟨e, he, c1, rfl, hc1⟩ := pd_get' pR hy
            have hj : j < d := by rw [← g.rows x hxn]; exact (List.getElem?_eq_some_iff.mp he).1
            have hem := g.ord_closed hrn x (List.mem_of_getElem? hx) e (List.mem_of_getElem? he)
            refine ⟨c1, _, rfl, SqT.of (hs5 _ _ hc1), rfl, _, _, rfl, _, _, rfl, rfl, rfl, yes (iteT ?_)⟩
            refine ⟨_, rfl, _, rfl, Dp, _, rfl, by rw [← plKV_at hol.1 hem]; exact DGet.k (k := Sum.inl (e.1 : Int)) (hs5 _ _ hp4), _, rfl, by show 2 ≤ sizeLine; decide, fun p hp => ?_⟩
            refine ⟨us, same_new hp _ _ hu, ?_, same_mut (sn hs5 hp) hD2, us ++ [.ref p], upd_same, ?_⟩
            · rw [Paired.length pu, List.length_map, List.length_take, g.rows x hxn]; omega
            · have z : (row W x).take (j + 1) = (row W x).take j ++ [e] := by rw [List.take_add_one, he]; rfl
              rw [z, List.map_append]
              have hu3 := same_new (o := .tup [.int ((ord W r).idxOf e.1 : Nat), .int (e.2 : Nat)]) hp _ _ hu
              exact pd_app (firm_end.all (NL.trans (nl_of (same_new hp)) (nl_lst hu3)) pu) (.cons (firm_end _ _ _ _ (nl_lst hu3) ⟨p, rfl, upd_same⟩) .nil)
          · rintro H5 ⟨hs5, us, hu, pu⟩
            rw [lR, List.take_length] at pu
            refine ⟨D2, us, rfl, .inl ⟨SqL.of hu, fun l hl => ?_⟩⟩
            have s6 := sn (o := .tup us) hs5 hl
            have hv6 := s6 _ _ hv
            refine ⟨vs, hv6, ?_, same_mut (st hs4 s6) hDH, by rw [upd_ne hbD]; exact s6 _ _ hb4, by rw [upd_ne hpD]; exact s6 _ _ hp4, vs ++ [.ref l], upd_same, ?_⟩
            · have := g.ord_len hrn
              rw [Paired.length pv, List.length_map, List.length_take]; omega
            · have z : (ord W r).take (i + 1) = (ord W r).take i ++ [x] := by rw [List.take_add_one, hx]; rfl
              rw [z, List.map_append]
              exact pd_app (firm_row.all (NL.trans (nl_of s6) (nl_lst hv6)) pv) (.cons (firm_row _ _ _ _ (nl_lst hv6) ⟨l, us, rfl, upd_same, firm_end.all (nl_of (same_new hl)) pu⟩) .nil)
        · rintro H4 ⟨hs4, hb4, hp4, vs, hv, pv⟩
          rw [hln, List.take_length] at pv
          exact ⟨D, vs, rfl, .inl ⟨SqL.of hv, fun l hl => k l _ (none_back hs4 hl) (sn hs4 hl) ⟨l, vs, rfl, upd_same, firm_row.all (nl_of (same_new hl)) pv⟩⟩⟩
theorem cat_all (i d : Nat) : allEnds (i + 1) d = allEnds i d ++ (List.range d).map fun j => (i, j) := allEnds_succ i d
def spAllEnds : Sp := fun vs H Q _ => ∃ (n d : Nat), vs = [.int (n : Int), .int (d : Int)] ∧ n ≤ 9 ∧ d ≤ 9 ∧ ∀ (p : Addr) (H' : Hp), H p = none → Same H H' → ListR EndR H' (.ref p) (allEnds n d) → Q (.ref p) H'
theorem ok_l_all_ends {f : Addr} {fd : FuncData} (F : FnP K "_law_all_ends" "_law_all_ends" s_l_all_ends f fd) (T : Txt mg) : FnOk P w K mg base CX0 1 f fd p_l_all_ends spAllEnds := by
  refine okd F sc_l_all_ends (fun vs H Q E h => ?_) (fun cdv A outer s H vs Q E hr h => ?_)
  · obtain ⟨n, d, rfl, _⟩ := h
    rfl
  · obtain ⟨n, d, rfl, hn, hd, k⟩ := h
    refine ⟨_, (pss_cons (ps_set (i := 2) sc_l_all_ends.nd rfl (by first | exact Or.inl rfl | exact Or.inr rfl) (pe_lst pa_nil))
      (pss_cons (ps_for PassesOwn.never rfl (pi_range1 (by rfl) T.range (pa_cons (pv 0) pa_nil)) (pg_name (i := 3) sc_l_all_ends.nd rfl (by first | exact Or.inl rfl | exact Or.inr rfl))
      (pss_one (ps_expr (pe_bm PySem.F.plainAttrs_list PySem.F.slot_list_extend PySem.F.type_list_extend mt_extend (pv 2) (pa_cons (pe_lc (own := [("_law_door", 4)]) rfl sc_l_all_ends.nd (pi_range1 (by rfl) T.range (pa_cons (pv 1) pa_nil)) (blkOk_by (N := n_l_all_ends) (sc := defScope s_l_all_ends) (by decide +kernel)) (fun _ _ _ _ _ => (pg_name (i := 4) sc_l_all_ends.nd rfl (by first | exact Or.inl rfl | exact Or.inr rfl))) (fun _ _ _ _ _ => pts_nil) (fun _ _ _ _ _ => (pe_tup (pa_cons (pv 3) (pa_cons (pv 4) pa_nil))))) pa_nil)))))
      (pss_one (ps_ret (pv 2))))), ?_⟩
    have hbig : sizeLine = 16777216 := PySem.sizeLine_eq
    refine ⟨by show 0 ≤ sizeLine; decide, fun D hD => ?_⟩
    refine ⟨_, rfl, _, rfl, by omega, by omega, for_range (n := n) (fun i σ H' => Same H H' ∧ ListR EndR H' (.ref D) (allEnds i d) ∧ ∃ c, σ = [some (.int (n : Int)), some (.int (d : Int)), some (.ref D), c, none])
      ⟨same_new hD, ⟨D, [], rfl, upd_same, .nil⟩, none, rfl⟩ ?_ ?_⟩
    · rintro i σ H1 hi ⟨hs, ⟨_, us, e0, hu, pu⟩, c, rfl⟩
      cases e0
      rw [z0]
      refine ⟨_, rfl, .inl ⟨rfl, us, SqL.of hu⟩, _, rfl, _, rfl, by omega, by omega, fun D2 hD2 => ?_⟩
      refine lc_range (n := d) (fun j H' => Same H1 H' ∧ ∃ vs, H' D2 = some (.lst vs) ∧ Paired (EndR H') vs ((List.range j).map fun j => (i, j))) ⟨same_new hD2, [], upd_same, .nil⟩ ?_ ?_
      · rintro j H2 hj ⟨hs2, vs, hv, pv⟩
        rw [z0]
        refine ⟨rfl, yes (iteT ⟨_, rfl, _, rfl, by show 2 ≤ sizeLine; decide, fun p hp => ?_⟩)⟩
        refine ⟨vs, same_new hp _ _ hv, ?_, same_mut (sn hs2 hp) hD2, vs ++ [.ref p], upd_same, ?_⟩
        · rw [Paired.length pv, List.length_map, List.length_range]; omega
        · rw [rng_snoc (fun j => (i, j))]
          have hv3 := same_new (o := .tup [.int (i : Int), .int (j : Int)]) hp _ _ hv
          exact pd_app (firm_end.all (NL.trans (nl_of (same_new hp)) (nl_lst hv3)) pv) (.cons (firm_end _ _ _ _ (nl_lst hv3) ⟨p, rfl, upd_same⟩) .nil)
      · rintro H2 ⟨hs2, vs, hv, pv⟩
        have hu2 := hs2 _ _ hu
        refine ⟨D, D2, us, vs, rfl, rfl, hu2, hv, ?_, same_mut (st hs hs2) hD, ?_, _, rfl⟩
        · rw [Paired.length pu, Paired.length pv, List.length_map, List.length_range, allEnds_len]
          have : i * d ≤ 9 * 9 := Nat.mul_le_mul (by omega) hd
          omega
        · rw [cat_all]
          exact ⟨D, us ++ vs, rfl, upd_same, pd_app (firm_end.all (NL.trans (nl_of hs2) (nl_lst hu2)) pu) (firm_end.all (nl_lst hu2) pv)⟩
    · rintro σ H1 ⟨hs, hl, c, rfl⟩
      exact ⟨_, rfl, k D H1 hD hs hl⟩
end
end Sw
/-! SwB4 -/
set_option Elab.async false
set_option linter.all false
set_option maxRecDepth 100000
set_option maxHeartbeats 4000000
namespace Sw
open PySem L2
def PairR : Rep (End × End) := fun H v q => ∃ a u y, v = .ref a ∧ H a = some (.tup [u, y]) ∧ EndR H u q.1 ∧ EndR H y q.2
theorem firm_pair : Firm PairR := fun H H' v x n ⟨a, u, y, h1, h2, h3, h4⟩ => ⟨a, u, y, h1, n a _ (fun xs q => nomatch q) h2, firm_end _ _ _ _ n h3, firm_end _ _ _ _ n h4⟩
def KpS (S : List Addr) (H H' : Hp) : Prop := ∀ a o, a ∉ S → H a = some o → H' a = some o
theorem KpS.of {S : List Addr} {H H' : Hp} (h : Same H H') : KpS S H H' := fun a o _ e => h a o e
theorem KpS.put {S : List Addr} {H H' : Hp} {b : Addr} {o : HO} (h : KpS S H H') (hb : b ∈ S) : KpS S H (upd H' b o) := fun a u n e => by
  rw [upd_ne (show a ≠ b from fun z => n (by rw [z]; exact hb))]; exact h a u n e
theorem KpS.trans {S : List Addr} {H H1 H2 : Hp} (x : KpS S H H1) (y : KpS S H1 H2) : KpS S H H2 := fun a o n e => y a o n (x a o n e)
/-- a list, not one of these, of pairs -/
def LOff (S : List Addr) : Rep (List (End × End)) := fun H v x => ∃ a us, v = .ref a ∧ a ∉ S ∧ H a = some (.lst us) ∧ Paired (PairR H) us x
theorem LOff.mono {S : List Addr} {H H' : Hp} {v : V} {x : List (End × End)} (k : KpS S H H') (n : NL H H') (h : LOff S H v x) : LOff S H' v x := by
  obtain ⟨a, us, h1, h2, h3, h4⟩ := h
  exact ⟨a, us, h1, h2, k _ _ h2 h3, firm_pair.all n h4⟩
theorem LOff.sub {S S' : List Addr} {H : Hp} {v : V} {x : List (End × End)} (hs : ∀ a ∈ S', a ∈ S) (h : LOff S H v x) : LOff S' H v x := by
  obtain ⟨a, us, h1, h2, h3, h4⟩ := h
  exact ⟨a, us, h1, fun z => h2 (hs a z), h3, h4⟩
theorem LOff.lst {S : List Addr} {H : Hp} {v : V} {x : List (End × End)} (h : LOff S H v x) : ListR PairR H v x := by
  obtain ⟨a, us, h1, _, h3, h4⟩ := h
  exact ⟨a, us, h1, h3, h4⟩
theorem cut_drop (xs : List V) (i : Nat) : cutV xs (some (i : Int)) none = xs.drop i := by
  unfold cutV
  rw [HT.sIx_none, HT.sIx_nat]
  by_cases h : i ≤ xs.length
  · rw [Nat.min_eq_left h, List.take_of_length_le (by rw [List.length_drop]; exact Nat.le_refl _)]
  · rw [Nat.min_eq_right (by omega), Nat.sub_self, List.take_zero, List.drop_eq_nil_of_le (by omega)]
theorem pd_drop {α β : Type} {F : α → β → Prop} {xs : List α} {ys : List β} (h : Paired F xs ys) (i : Nat) : Paired F (xs.drop i) (ys.drop i) := by
  induction h generalizing i with
  | nil => rw [List.drop_nil, List.drop_nil]; exact .nil
  | cons r t ih =>
    cases i with
    | zero => exact .cons r t
    | succ i => exact ih i
theorem flat_le {α : Type} (f : Nat → List α) : ∀ {i n : Nat}, i ≤ n → ((List.range i).flatMap f).length ≤ ((List.range n).flatMap f).length := by
  intro i n h
  induction n with
  | zero => rw [Nat.le_zero.mp h]; exact Nat.le_refl _
  | succ n ih =>
    by_cases z : i = n + 1
    · rw [z]; exact Nat.le_refl _
    · have := ih (by omega)
      rw [List.range_succ, List.flatMap_append, List.length_append]
      omega
theorem flat_snoc {α : Type} (f : Nat → List α) (i : Nat) : (List.range (i + 1)).flatMap f = (List.range i).flatMap f ++ f i := by rw [List.range_succ, List.flatMap_append]; simp
def spP : Nat → Sp
  | 0 => fun _ _ _ _ => False
  | m + 1 => fun vs H Q _ => ∃ (a : Addr) (es : List End), vs = [.ref a] ∧ ListR EndR H (.ref a) es ∧ es.length ≤ m ∧ m ≤ 9 ∧
    ∀ (p : Addr) (H' : Hp), H p = none → Same H H' → ListR (ListR PairR) H' (.ref p) (pairs m es) → Q (.ref p) H'
theorem at0 {u : V} {ur : List V} : atI (u :: ur) 0 = some u := atI_nat (j := 0) rfl
/-- what a comprehension over a list asks -/
abbrev LcG (K : PySem.W.Frag) (L : Addr) (g : TG) (te : TE) (ws : List Nat) (σ : L2.St) (H1 : Hp) (D : Addr) (Qd : Hp → Prop) : Prop :=
  ∃ W : Nat → Nat → Hp → Prop, (∃ m, W 0 m (upd H1 D (.lst []))) ∧ ∀ (i m : Nat) (G : Hp), W i m G → ((Itl K L).stop i G ∧ Qd G) ∨ ((Itl K L).go i G ∧ ∃ N : Hp → Prop, (∀ G', N G' → ∃ m', m' < m ∧ W (i + 1) m' G') ∧
    ∀ x G', (Itl K L).yld i G x G' → g x (wipe σ ws) G' fun σ2 H2 => wipe σ2 ws = wipe σ ws ∧ tYes σ2 H2 fun c H3 => if c = true then te σ2 H3 fun y H4 => ∃ acc, H4 D = some (.lst acc) ∧ acc.length < sizeLine ∧ N (upd H4 D (.lst (acc ++ [y]))) else N H3)
/-- [[(x1, x2)] + more for more in ps] -/
theorem lc_pair {K : PySem.W.Frag} {S : List Addr} {H4 : Hp} {L D : Addr} {ks : List V} {ps : List (List (End × End))} {u1 u2 : V} {x1 x2 : End} {σ : L2.St} {ws : List Nat} {i1 i2 : Nat} {Qd : Hp → Prop}
    (e1 : ∀ x, ((wipe σ ws).set 4 (some x))[i1]? = some (some u1)) (e2 : ∀ x, ((wipe σ ws).set 4 (some x))[i2]? = some (some u2)) (e3 : ∀ x, ((wipe σ ws).set 4 (some x))[4]? = some (some x)) (e4 : ∀ x, wipe ((wipe σ ws).set 4 (some x)) ws = wipe σ ws)
    (hS : ∀ b ∈ S, ∃ o, H4 b = some o) (hL : H4 L = some (.lst ks)) (hD : H4 D = none) (pk : Paired (ListR PairR H4) ks ps) (hps : ps.length ≤ 2620) (hp9 : ∀ p ∈ ps, p.length ≤ 9) (hu1 : EndR H4 u1 x1) (hu2 : EndR H4 u2 x2)
    (hQ : ∀ H' vs, Same H4 H' → H' D = some (.lst vs) → Paired (LOff (D :: S) H') vs (ps.map ((x1, x2) :: ·)) → Qd H') :
    LcG K L (gName 4) (tOp rCat (tLst (tCons (tTup (tCons (tVar i1) (tCons (tVar i2) tNil))) tNil)) (tVar 4)) ws σ H4 D Qd := by
  have hbig : sizeLine = 16777216 := PySem.sizeLine_eq
  have hkl := Paired.length pk
  refine lc_list (K := K) (a := L) (xs := ks) (fun i H' => Same H4 H' ∧ ∃ vs, H' D = some (.lst vs) ∧ Paired (LOff (D :: S) H') vs ((ps.take i).map ((x1, x2) :: ·))) ⟨same_new hD, [], upd_same, .nil⟩ (fun i H' _ z => SqL.of (z.1 _ _ hL)) ?_ fun H' ⟨h1, vs, h2, h3⟩ => ?_
  · rintro i x H5 hx ⟨hs5, vs, hv, pv⟩
    obtain ⟨p, hp, b, more, rfl, hb, pb⟩ := pd_get' pk hx
    have hb5 := hs5 _ _ hb
    have hml : more.length ≤ 9 := by rw [Paired.length pb]; exact hp9 p (List.mem_of_getElem? hp)
    refine ⟨e4 _, yes (iteT ⟨u1, e1 _, u2, e2 _, by show 2 ≤ sizeLine; decide, fun t ht => ⟨by show 1 ≤ sizeLine; decide, fun l hl => ⟨_, e3 _, l, b, _, _, rfl, rfl, upd_same, sn (o := .lst [.ref t]) (same_new (o := .tup [u1, u2]) ht) hl _ _ hb5, by rw [List.length_singleton]; omega, fun q hq => ?_⟩⟩⟩)⟩
    have s6 : Same H5 (upd (upd (upd H5 t (.tup [u1, u2])) l (.lst [.ref t])) q (.lst (.ref t :: more))) := sn (sn (same_new ht) hl) hq
    have hv6 := s6 _ _ hv
    have hqD : q ≠ D := fun z => by
      have := sn (o := .lst [.ref t]) (same_new (o := .tup [u1, u2]) ht) hl _ _ hv
      rw [← z, hq] at this; cases this
    have hqS : q ∉ D :: S := fun z => by
      rcases List.mem_cons.mp z with z | z
      · exact hqD z
      · obtain ⟨o, ho⟩ := hS q z
        have := sn (o := .lst [.ref t]) (same_new (o := .tup [u1, u2]) ht) hl _ _ (hs5 _ _ ho)
        rw [hq] at this; cases this
    have nl6 := NL.trans (nl_of s6) (nl_lst (ys := vs ++ [.ref q]) hv6)
    refine ⟨vs, hv6, ?_, same_mut (st hs5 s6) hD, vs ++ [.ref q], upd_same, ?_⟩
    · rw [Paired.length pv, List.length_map, List.length_take]; omega
    · have z : ps.take (i + 1) = ps.take i ++ [p] := by rw [List.take_add_one, hp]; rfl
      rw [z, List.map_append]
      refine pd_app (pd_imp pv fun _ _ y => y.mono (KpS.put (.of s6) List.mem_cons_self) nl6) (.cons ⟨q, _, rfl, hqS, by rw [upd_ne hqD]; exact upd_same, .cons ?_ ?_⟩ .nil)
      · refine firm_pair _ _ _ _ (nl_lst hv6) ⟨t, u1, u2, rfl, ?_, firm_end.s (st hs5 s6) hu1, firm_end.s (st hs5 s6) hu2⟩
        have h1 : t ≠ l := ne_of_none (upd_same (H := H5) (a := t) (o := .tup [u1, u2])) hl
        have h2 : t ≠ q := ne_of_none (same_new (o := .lst [.ref t]) hl _ _ (upd_same (H := H5) (a := t) (o := .tup [u1, u2]))) hq
        rw [upd_ne h2, upd_ne h1, upd_same]
      · exact firm_pair.all (NL.trans (nl_of (st hs5 s6)) (nl_lst hv6)) pb
  · rw [hkl, List.take_length] at h3
    exact hQ H' vs h1 h2 h3
section
variable {P : Program} {w : World} {K : PySem.W.Frag} {mg : Str → Option Value} {base : Heap}
theorem step_l_pairings {f : Addr} {fd : FuncData} (F : FnP K "_law_pairings" "_law_pairings" s_l_pairings f fd) (T : Txt mg) {k m : Nat} (c_l_pairings : Cal P w K mg base k "_law_pairings" p_l_pairings (spP m)) : FnOk P w K mg base CX0 (k + 1) f fd p_l_pairings (spP (m + 1)) := by
  refine okd F sc_l_pairings (fun vs H Q E h => ?_) (fun cdv A outer s H vs Q E hr h => ?_)
  · obtain ⟨a, es, rfl, _⟩ := h
    rfl
  · obtain ⟨a, es, rfl, hl, hm, hm9, kk⟩ := h
    refine ⟨_, (pss_cons (ps_if (pt_cmpR (kEqD K rfl hr.units) (pv 0) (pe_lst pa_nil) (nomark _)) (pss_one (ps_ret (pe_lst (pa_cons (pe_lst pa_nil) pa_nil)))) pss_nil)
      (pss_cons (ps_asg (pe_tup (pa_cons (pe_ix (kIxL K) (pv 0) pe_int (fun _ _ => rfl)) (pa_cons (pe_slice (kSlL K) (pv 0) (po_some pe_int) po_none) pa_nil))) (kgTup (n := 2) K rfl rfl (pgs_cons (pg_name (i := 1) sc_l_pairings.nd rfl (by first | exact Or.inl rfl | exact Or.inr rfl)) (pgs_cons (pg_name (i := 2) sc_l_pairings.nd rfl (by first | exact Or.inl rfl | exact Or.inr rfl)) pgs_nil))))
      (pss_cons (ps_setLc (i := 3) (own := [("_law_more", 4)]) rfl sc_l_pairings.nd rfl rfl (sw_true rfl rfl rfl (by decide +kernel)) (kList K rfl (pe_cal c_l_pairings hr (pa_cons (pv 2) pa_nil))) (blkOk_by (N := n_l_pairings) (sc := defScope s_l_pairings) (by decide +kernel)) (fun _ _ _ _ _ => (pg_name (i := 4) sc_l_pairings.nd rfl (by first | exact Or.inl rfl | exact Or.inr rfl))) (fun _ _ _ _ _ => pts_nil) (fun _ _ _ _ _ => (pe_op op_cat (pe_lst (pa_cons (pe_tup (pa_cons (pv 1) (pa_cons (pv 1) pa_nil))) pa_nil)) (pv 4))))
      (pss_cons (ps_for PassesOwn.never rfl (kEnum K rfl (by rfl) T.enumerate (pa_cons (pv 2) pa_nil)) (kgTup (n := 2) K rfl rfl (pgs_cons (pg_name (i := 5) sc_l_pairings.nd rfl (by first | exact Or.inl rfl | exact Or.inr rfl)) (pgs_cons (pg_name (i := 6) sc_l_pairings.nd rfl (by first | exact Or.inl rfl | exact Or.inr rfl)) pgs_nil)))
      (pss_one (ps_expr (pe_bm PySem.F.plainAttrs_list PySem.F.slot_list_extend PySem.F.type_list_extend mt_extend (pv 3) (pa_cons (pe_lc (own := [("_law_more", 4)]) rfl sc_l_pairings.nd (kList K rfl (pe_cal c_l_pairings hr (pa_cons (pe_op op_cat (pe_slice (kSlL K) (pv 2) po_none (po_some (pv 5))) (pe_slice (kSlL K) (pv 2) (po_some (pe_op op_add (pv 5) pe_int)) po_none)) pa_nil))) (blkOk_by (N := n_l_pairings) (sc := defScope s_l_pairings) (by decide +kernel)) (fun _ _ _ _ _ => (pg_name (i := 4) sc_l_pairings.nd rfl (by first | exact Or.inl rfl | exact Or.inr rfl))) (fun _ _ _ _ _ => pts_nil) (fun _ _ _ _ _ => (pe_op op_cat (pe_lst (pa_cons (pe_tup (pa_cons (pv 1) (pa_cons (pv 6) pa_nil))) pa_nil)) (pv 4)))) pa_nil)))))
      (pss_one (ps_ret (pv 3))))))), ?_⟩
    have hbig : sizeLine = 16777216 := PySem.sizeLine_eq
    have hl0 := hl
    obtain ⟨_, us, e0, ha, pa⟩ := hl
    cases e0
    refine ⟨_, rfl, by show 0 ≤ sizeLine; decide, fun p0 hp0 => ?_⟩
    have s0 := same_new (o := .lst []) hp0
    refine ⟨.list (es.map pdE), .list (([] : List End).map pdE), .lst (SqL.of (s0 _ _ ha)) (dp_all (fun _ _ z => dp_end z) (firm_end.all (nl_of s0) pa)), .lst (SqL.of upd_same) .nil, toldE.lst (by decide) es, toldE.lst (by decide) [], _, rfl, ite2 (fun hc => ?_) fun hc => ?_⟩
    · have he : es = [] := (toldE.list.1 es []).mp (by simpa only [PyData.eqv] using hc)
      subst he
      refine ⟨by show 0 ≤ sizeLine; decide, fun p1 hp1 => ⟨by show 1 ≤ sizeLine; decide, fun p2 hp2 => ?_⟩⟩
      refine kk p2 _ (none_back (sn s0 hp1) hp2) (sn (sn s0 hp1) hp2) ?_
      have e : pairs m ([] : List End) = [[]] := by cases m <;> rfl
      rw [e]
      exact ⟨p2, _, rfl, upd_same, .cons ⟨p1, [], rfl, by rw [upd_ne (ne_of_none (upd_same (H := upd H p0 (.lst []))) hp2)]; exact upd_same, .nil⟩ .nil⟩
    · cases es with
      | nil => exact absurd (by simp [PyData.eqv, PyData.eqvAll]) hc
      | cons e0 rest =>
      cases pa with
      | @cons u0 _ ur _ r0 pr =>
      obtain ⟨m', rfl⟩ : ∃ m', m = m' + 1 := ⟨m - 1, by rw [List.length_cons] at hm; omega⟩
      have hrest : rest.length ≤ m' := by rw [List.length_cons] at hm; omega
      have hlr := Paired.length pr
      refine ⟨_, rfl, _, _, _, _, rfl, rfl, SqL.of (s0 _ _ ha), at0, _, rfl, _, rfl, a, _, rfl, SqL.of (s0 _ _ ha), fun q hq => ⟨by show 2 ≤ sizeLine; decide, fun t ht => ?_⟩⟩
      rw [show cutV (u0 :: ur) (some 1) none = ur from cut_drop (u0 :: ur) 1] at ht ⊢
      have s1 := sn (o := .lst ur) s0 hq
      have s2 := sn (o := .tup [u0, .ref q]) s1 ht
      refine ⟨t, _, rfl, SqT.of upd_same, rfl, _, _, rfl, _, _, rfl, rfl, ?_⟩
      have hq2 : upd (upd (upd H p0 (.lst [])) q (.lst ur)) t (.tup [u0, .ref q]) q = some (.lst ur) := same_new ht _ _ upd_same
      have r02 := firm_end.s s2 r0
      have pr2 := firm_end.all (nl_of s2) pr
      refine ⟨_, rfl, q, rest, rfl, ⟨q, ur, rfl, hq2, pr2⟩, hrest, by omega, fun L H4 hL4 s4 hP => ?_⟩
      obtain ⟨_, ks, ek, hLk, pk⟩ := hP
      cases ek
      have s04 := st s2 s4
      have hplen : ∀ (j : Nat) (l : List End), l.length ≤ j → j ≤ 9 → (pairs j l).length ≤ 2620 := fun j l h1 h2 => by
        rw [pairs_len j l h1]
        exact invo_le _ (by omega)
      have htot := hplen (m' + 1) (e0 :: rest) hm hm9
      have etot : pairs (m' + 1) (e0 :: rest) = (pairs m' rest).map ((e0, e0) :: ·) ++ (List.range rest.length).flatMap fun j => (pairs m' (rest.eraseIdx j)).map ((e0, rest.getD j e0) :: ·) := rfl
      refine ⟨L, rfl, ⟨ks, SqL.of hLk⟩, fun D hD => ?_⟩
      have hp9 : ∀ (j : Nat) (l : List End), l.length ≤ 9 → ∀ p ∈ pairs j l, p.length ≤ 9 := fun j l h p hp => Nat.le_trans (pairs_short j l p hp) h
      refine lc_pair (S := []) (fun _ => rfl) (fun _ => rfl) (fun _ => rfl) (fun _ => rfl) (fun b hb => by simp at hb) hLk hD pk (hplen m' rest hrest (by omega)) (hp9 m' rest (by omega)) (firm_end.s s4 r02) (firm_end.s s4 r02) fun H5 vs0 s5 hv0 pv0 => ?_
      have hqD : q ≠ D := ne_of_none (s4 _ _ hq2) hD
      have hDH : H D = none := none_back s04 hD
      have hpart : ∀ i, i ≤ rest.length → ((pairs m' rest).map ((e0, e0) :: ·) ++ (List.range i).flatMap fun j => (pairs m' (rest.eraseIdx j)).map ((e0, rest.getD j e0) :: ·)).length ≤ 2620 := fun i hi => by
        rw [etot, List.length_append] at htot
        rw [List.length_append]
        have := flat_le (fun j => (pairs m' (rest.eraseIdx j)).map ((e0, rest.getD j e0) :: ·)) hi
        omega
      refine ⟨_, rfl, q, ur, rfl, SqL.of (s5 _ _ (s4 _ _ hq2)), for_it (walk_enum (K := K) (a := q) (xs := ur)) (fun i σ H' => Same H H' ∧ KpS [D] H5 H' ∧ NL H5 H' ∧ (∃ vs, H' D = some (.lst vs) ∧ Paired (LOff [D] H') vs ((pairs m' rest).map ((e0, e0) :: ·) ++ (List.range i).flatMap fun j => (pairs m' (rest.eraseIdx j)).map ((e0, rest.getD j e0) :: ·))) ∧
          ∃ c v, σ = [some (.ref a), some u0, some (.ref q), some (.ref D), none, c, v])
        ⟨st s04 s5, fun _ _ _ z => z, NL.refl _, ⟨vs0, hv0, by rw [List.range_zero, List.flatMap_nil, List.append_nil]; exact pv0⟩, none, none, rfl⟩ (fun i σ H' _ z => SqL.of (z.2.1 _ _ (by simpa using hqD) (s5 _ _ (s4 _ _ hq2)))) ?_ ?_⟩
      · rintro i x σ H6 H7 hi ⟨hs6, kp6, nl6, ⟨vs, hv, pv⟩, c, v, rfl⟩ ⟨T0, x1, y, rfl, hT, rfl, e1, hy⟩
        cases e1
        replace hy : ur[i]? = some y := hy
        obtain ⟨oe, hoe, ry⟩ := pd_get' pr2 hy
        have hgd : rest.getD i e0 = oe := getD_of hoe
        have hir : i < rest.length := (List.getElem?_eq_some_iff.mp hoe).1
        have s7 := same_new (H := H6) (o := .tup [.int (i : Nat), y]) hT
        have hqL : ∀ H', Same H6 H' → H' q = some (.lst ur) := fun H' s => s _ _ (kp6 _ _ (by simpa using hqD) (s5 _ _ (s4 _ _ hq2)))
        have nl2 : NL (upd (upd (upd H p0 (.lst [])) q (.lst ur)) t (.tup [u0, .ref q])) H6 := NL.trans (nl_of (st s4 s5)) nl6
        refine ⟨T0, _, rfl, SqT.of upd_same, rfl, _, _, rfl, _, _, rfl, rfl, ?_⟩
        refine ⟨_, rfl, .inl ⟨rfl, _, SqL.of (s7 _ _ hv)⟩, _, rfl, _, rfl, _, rfl, q, _, rfl, SqL.of (hqL _ s7), fun q1 hq1 => ?_⟩
        have s8 := sn (o := .lst (cutV ur none (some ((i : Nat) : Int)))) s7 hq1
        refine ⟨_, rfl, _, rfl, _, _, rfl, rfl, _, rfl, q, _, rfl, SqL.of (hqL _ s8), fun q2 hq2' => ?_⟩
        have s9 := sn (o := .lst (cutV ur (some (((i : Nat) : Int) + 1)) none)) s8 hq2'
        have c1 : cutV ur none (some ((i : Nat) : Int)) = ur.take i := cut_take ur i
        have c2 : cutV ur (some (((i : Nat) : Int) + 1)) none = ur.drop (i + 1) := cut_drop ur (i + 1)
        have hul : ur.length ≤ 9 := by omega
        refine ⟨q1, q2, _, _, rfl, rfl, same_new hq2' _ _ upd_same, upd_same, by rw [c1, c2, List.length_take, List.length_drop]; omega, fun q3 hq3 => ?_⟩
        have s10 := sn (o := .lst (cutV ur none (some ((i : Nat) : Int)) ++ cutV ur (some (((i : Nat) : Int) + 1)) none)) s9 hq3
        have hel : (rest.eraseIdx i).length ≤ m' := Nat.le_trans (List.length_eraseIdx_le ..) hrest
        have er : Paired (EndR (upd (upd (upd (upd H6 T0 (.tup [.int (i : Nat), y])) q1 (.lst (cutV ur none (some ((i : Nat) : Int))))) q2 (.lst (cutV ur (some (((i : Nat) : Int) + 1)) none))) q3 (.lst (cutV ur none (some ((i : Nat) : Int)) ++ cutV ur (some (((i : Nat) : Int) + 1)) none))))
            (cutV ur none (some ((i : Nat) : Int)) ++ cutV ur (some (((i : Nat) : Int) + 1)) none) (rest.eraseIdx i) := by
          rw [List.eraseIdx_eq_take_drop_succ, c1, c2]
          have := firm_end.all (NL.trans nl2 (nl_of s10)) pr2
          rw [c1, c2] at this
          exact pd_app (pd_take this i) (pd_drop this (i + 1))
        refine ⟨q3, rest.eraseIdx i, rfl, ⟨q3, _, rfl, upd_same, er⟩, hel, by omega, fun L2 H8 hL2 s11 hP2 => ?_⟩
        obtain ⟨_, ks2, ek2, hLk2, pk2⟩ := hP2
        cases ek2
        have s12 := st s10 s11
        refine ⟨L2, rfl, ⟨ks2, SqL.of hLk2⟩, fun D2 hD2 => ?_⟩
        refine lc_pair (S := [D]) (fun _ => rfl) (fun _ => rfl) (fun _ => rfl) (fun _ => rfl) (fun b hb => by rw [List.mem_singleton.mp hb]; exact ⟨_, s12 _ _ hv⟩) hLk2 hD2 pk2 (hplen m' _ hel (by omega)) (hp9 m' _ (by omega)) (firm_end _ _ _ _ (NL.trans nl2 (nl_of s12)) r02) (firm_end _ _ _ _ (NL.trans nl2 (nl_of s12)) ry) fun H9 zs s13 hz pz => ?_
        have s14 := st s12 s13
        have hv9 := s14 _ _ hv
        have hpt := hpart (i + 1) (by omega)
        have esn : (List.range (i + 1)).flatMap (fun j => (pairs m' (rest.eraseIdx j)).map ((e0, rest.getD j e0) :: ·)) = (List.range i).flatMap (fun j => (pairs m' (rest.eraseIdx j)).map ((e0, rest.getD j e0) :: ·)) ++ (pairs m' (rest.eraseIdx i)).map ((e0, oe) :: ·) := by
          rw [flat_snoc, hgd]
        refine ⟨D, D2, vs, zs, rfl, rfl, hv9, hz, ?_, same_mut (st hs6 s14) hDH, ?_, ?_, ?_, _, _, rfl⟩
        · rw [esn, ← List.append_assoc, List.length_append, ← Paired.length pv, ← Paired.length pz] at hpt
          omega
        · exact KpS.put (kp6.trans (.of s14)) List.mem_cons_self
        · exact NL.trans nl6 (NL.trans (nl_of s14) (nl_lst hv9))
        · refine ⟨vs ++ zs, upd_same, ?_⟩
          rw [esn, ← List.append_assoc]
          refine pd_app (pd_imp pv fun _ _ y => y.mono (KpS.put (.of s14) List.mem_cons_self) (NL.trans (nl_of s14) (nl_lst hv9))) (pd_imp pz fun _ _ y => ?_)
          exact LOff.mono (KpS.put (fun _ _ _ z => z) List.mem_cons_self) (nl_lst hv9) (y.sub fun b hb => by rw [List.mem_singleton.mp hb]; simp)
      · rintro σ H6 ⟨hs6, kp6, nl6, ⟨vs, hv, pv⟩, c, v, rfl⟩
        rw [hlr] at pv
        exact ⟨_, rfl, kk D H6 hDH hs6 ⟨D, vs, rfl, hv, by rw [etot]; exact pd_imp pv fun _ _ y => y.lst⟩⟩
end
end Sw
/-! SwL4 -/
set_option Elab.async false
set_option linter.all false
set_option maxRecDepth 100000
set_option maxHeartbeats 4000000
/-! sum of lists from a list on; sorted of data of one kind -/
namespace Sw
open PySem PySem.Spec PyProof.Rows L2
theorem args_sum2 (a b : Value) : argsOk "sum" ⟨[a, b], []⟩ := by unfold argsOk; kernel_rfl
/-- a list object as such -/
abbrev oL (its : Array Value) (n : Nat) : Obj := { cls := .type "list", dict := none, data := .seq its n, slots := #[] }
def catN (its : Nat → Array Value) : Nat → Nat → Array Value
  | 0, _ => #[]
  | k + 1, i => its i ++ catN its k (i + 1)
section
variable {P : Program} {w : World} {A : Around} {E : Value → Shared → Prop}
theorem sumL_loop {I : Addr} {fp wr : List Addr} {n : Nat} {Pv : Nat → Value → Prop} {St : Nat → Heap → Prop} (W : Walks P w A.in1 I fp wr n Pv St) (S : Addr) (hSf : S ∉ fp) (h0 : Heap) (hS0 : h0.get? S = none) (hw0 : ∀ b ∈ wr, h0.get? b = none) (hwS : ∀ i h, St i h → ∀ b ∈ wr, ∃ o, h.get? b = some o)
    (its : Nat → Array Value) (hval : ∀ i v, Pv i v → ∃ b m, v = .ref b ∧ h0.get? b = some (oL (its i) m)) {R : Result → Shared → Prop} :
    ∀ (k i : Nat) (s : Shared) (T : Addr) (acc : Array Value) (c m : Nat), n - i = k → i ≤ n → St i s.heap → s.heap.get? S = some (oL #[.ref T] c) → s.heap.get? T = some (oL acc m) → T ∉ wr → T ≠ S → (∀ b o, h0.get? b = some o → s.heap.get? b = some o) →
      acc.size + (catN its k i).size ≤ sizeLine →
      (∀ (g : Heap) (tk : Nat) (T' : Addr) (m' : Nat), g.get? T' = some (oL (acc ++ catN its k i) m') → (∀ b o, h0.get? b = some o → g.get? b = some o) → (k ≠ 0 → S < T') → (k = 0 → T' = T) → R (.ok (.ret (.ref T'))) { s with heap := g, toks := tk }) →
      codeAny (model P w) A (.builtin "sum.loop" ⟨[.ref I, .ref S, rawInt 2, rawInt 0], []⟩) R s := by
  intro k
  have hSw : S ∉ wr := fun z => hSf (W.sub _ z)
  induction k with
  | zero =>
    intro i s T acc c m hk hi hst hS hT hTw hTS hkp hz hR
    have hin : i = n := by omega
    subst hin
    refine codeAny_builtin F.entry_sum_loop ?_
    rw [Around.under_plainId F.plain_sum_loop _]
    show wpAny _ A.in1 (seqItems? (.ref S) >>= _) _ _ s
    refine wpAny_bind (wpAny_seqItems hS rfl ?_)
    show wpAny _ A.in1 (tryCatch (pyNext (.ref I)) _ >>= _) _ _ s
    refine wpAny_bind (wpAny_tryCatch (W.done s _ _ hst fun g tk kp => ?_))
    refine wpAny_pure (hR g tk T m ?_ (fun b o e => kp b o (fun z => by rw [hw0 b z] at e; cases e) (hkp b o e)) (fun z => absurd rfl z) fun _ => rfl)
    show g.get? T = some (oL (acc ++ #[]) m)
    rw [Array.append_empty]
    exact kp T _ hTw hT
  | succ k ih =>
    intro i s T acc c m hk hi hst hS hT hTw hTS hkp hz hR
    have hlt : i < n := by omega
    refine codeAny_builtin F.entry_sum_loop ?_
    rw [Around.under_plainId F.plain_sum_loop _]
    show wpAny _ A.in1 (seqItems? (.ref S) >>= _) _ _ s
    refine wpAny_bind (wpAny_seqItems hS rfl ?_)
    show wpAny _ A.in1 (tryCatch (pyNext (.ref I)) _ >>= _) _ _ s
    refine wpAny_bind (wpAny_tryCatch (W.item i s _ _ hlt hst fun v g tk hP hst' kp => ?_))
    obtain ⟨b, mb, rfl, hb⟩ := hval i v hP
    have kp2 : ∀ b o, h0.get? b = some o → g.get? b = some o := fun b o e => kp b o (fun z => by rw [hw0 b z] at e; cases e) (hkp b o e)
    have hS' := kp S _ hSw hS
    have hT' := kp T _ hTw hT
    have hb' := kp2 b _ hb
    have ez : (catN its (k + 1) i).size = (its i).size + (catN its k (i + 1)).size := by show (its i ++ _).size = _; rw [Array.size_append]
    show wpAny _ A.in1 ((holding [Value.ref b] (binaryOp .Add (.ref T) (.ref b))).attempt >>= _) _ _ _
    refine wpAny_bind (wpAny_attempt (wpAny_holding (PySem.P.add_list (s := { s with heap := g, toks := tk }) hT' hb' ?_ (by omega))))
    show wpAny _ A.in1 (updateSeq S (fun _ => #[.ref g.objs.size]) >>= _) _ _ _
    have hltS : S < g.objs.size := Heap.lt_size hS'
    have hS1 : (g.push { cls := .type "list", data := .seq (acc ++ its i) }).get? S = some (oL #[.ref T] c) := Heap.get?_push_of_some _ hS'
    refine wpAny_bind (wpAny_updateSeq hS1 rfl ?_)
    have hS2 := Heap.get?_update_self (Obj.mapSeq fun _ => #[Value.ref g.objs.size]) hS1 rfl
    refine wpAny_bind (wpAny_letGo ?_)
    have hS3 := Heap.get?_update_self (Obj.mapSeq fun _ => #[Value.ref g.objs.size]) hS2 rfl
    have up : ∀ b o, b ≠ S → g.get? b = some o → (((g.push { cls := .type "list", data := .seq (acc ++ its i) }).update S (Obj.mapSeq fun _ => #[Value.ref g.objs.size])).update S (Obj.mapSeq fun _ => #[Value.ref g.objs.size])).get? b = some o := fun b o hb e =>
      (Heap.get?_update_other _ _ hb.symm).trans ((Heap.get?_update_other _ _ hb.symm).trans (Heap.get?_push_of_some _ e))
    have hnS : g.objs.size ≠ S := Nat.ne_of_gt hltS
    have hN : (((g.push { cls := .type "list", data := .seq (acc ++ its i) }).update S (Obj.mapSeq fun _ => #[Value.ref g.objs.size])).update S (Obj.mapSeq fun _ => #[Value.ref g.objs.size])).get? g.objs.size = some (oL (acc ++ its i) 0) :=
      (Heap.get?_update_other _ _ hnS.symm).trans ((Heap.get?_update_other _ _ hnS.symm).trans (Heap.get?_push_size _ rfl))
    have hwN : g.objs.size ∉ wr := fun z => by
      obtain ⟨o, e⟩ := hwS _ _ hst' _ z
      exact absurd (Heap.lt_size e) (Nat.lt_irrefl _)
    refine wpAny_bind (wpAny_updateSeq hS2 rfl (wpAny_pure ⟨plainId_quiet F.plain_sum_loop _, ih (i + 1) _ g.objs.size (acc ++ its i) _ 0 (by omega) hlt (W.frame _ _ _ hst' fun b hb o e => up b o (fun z => hSf (z ▸ hb)) e) hS3 hN hwN hnS
      (fun b o e => up b o (fun z => by rw [z, hS0] at e; cases e) (kp2 b o e)) (by rw [Array.size_append]; omega) fun g2 tk2 T2 m2 h1 h2 h3 h4 => ?_⟩))
    refine hR g2 tk2 T2 m2 ?_ h2 (fun _ => ?_) fun z => absurd z (Nat.succ_ne_zero k)
    · rw [h1, Array.append_assoc]; rfl
    · by_cases e : k = 0
      · rw [h4 e]; exact hltS
      · exact h3 e
set_option maxHeartbeats 8000000 in
theorem sumL_call {s : Shared} {l T : Addr} {ls : List Addr} {its : Nat → Array Value} {m : Nat} {Q : Value → Shared → Prop} (hh : A.handled = none) (hl : s.heap.IsList l (ls.map Value.ref).toArray) (hT : s.heap.get? T = some (oL #[] m)) (hi : ∀ (i : Nat) (b : Addr), ls[i]? = some b → ∃ m, s.heap.get? b = some (oL (its i) m))
    (hz : (catN its ls.length 0).size ≤ sizeLine) (hne : 0 < ls.length)
    (h : ∀ (g : Heap) (tk : Nat) (T' : Addr) (m' : Nat), g.get? T' = some (oL (catN its ls.length 0) m') → (∀ b o, s.heap.get? b = some o → g.get? b = some o) → s.heap.objs.size ≤ T' → Q (.ref T') { s with heap := g, toks := tk }) :
    wpAny (model P w) A (call (.builtin "sum") [.ref l, .ref T]) Q E s := by
  refine call_function_tree F.kind_sum F.plain_sum F.entry_sum (args_sum2 _ _) ?_
  unfold Builtin.«sum»
  simp only [List.length_cons, List.length_nil]
  rw [if_neg (by decide)]
  refine wpAny_bind (wpAny_of_eq (show Builtin.Builtins.bindParams "sum" ["start"] 0 ⟨[.ref T], []⟩ = pure [some (.ref T)] from rfl) ?_)
  refine wpAny_bind (wpAny_pyIter_list hl ?_)
  refine wpAny_bind (wpAny_pure ?_)
  have kp1 : ∀ b o, s.heap.get? b = some o → (s.heap.push { cls := .type "list_iterator", data := .fields #[.ref l, .int 0 0] }).get? b = some o := fun b o e => Heap.get?_push_of_some _ e
  have hT1 := kp1 _ _ hT
  have tyT : Shared.TypeIs { s with heap := s.heap.push { cls := .type "list_iterator", data := .fields #[.ref l, .int 0 0] } } (.ref T) "list" := ⟨_, hT1, rfl⟩
  simp only [List.forIn_cons, List.forIn_nil]
  refine wpAny_bind (wpAny_bind (wpAny_bind (wpAny_isInstance (T := "list") (b := false) tyT F.sub_list_str ?_)))
  simp only [Bool.false_eq_true, if_false]
  refine wpAny_pure (wpAny_bind (wpAny_bind (wpAny_isInstance (T := "list") (b := false) tyT F.sub_list_bytes ?_)))
  simp only [Bool.false_eq_true, if_false]
  refine wpAny_pure (wpAny_bind (wpAny_bind (wpAny_isInstance (T := "list") (b := false) tyT F.sub_list_bytearray ?_)))
  simp only [Bool.false_eq_true, if_false]
  refine wpAny_pure (wpAny_pure ?_)
  refine wpAny_bind (wpAny_newObj_type ?_)
  have sz : (s.heap.push { cls := .type "list_iterator", data := .fields #[.ref l, .int 0 0] }).objs.size = s.heap.objs.size + 1 := Heap.size_push ..
  obtain ⟨lo, hlo, _⟩ := id hl
  have hll : l < s.heap.objs.size := Heap.lt_size hlo
  have hlT : T < s.heap.objs.size := Heap.lt_size hT
  have hnone : ∀ b, s.heap.objs.size ≤ b → s.heap.get? b = none := fun b hb => by
    cases z : s.heap.get? b with
    | none => rfl
    | some o => exact absurd (Nat.lt_of_lt_of_le (Heap.lt_size z) hb) (Nat.lt_irrefl _)
  have W := Walks.list (prog := P) (w := w) (A := A.in1) (show A.in1.handled = none by simp [hh]) s.heap.objs.size l (Nat.ne_of_lt hll) (ls.map Value.ref).toArray
  have hn : (ls.map Value.ref).toArray.size = ls.length := by simp
  rw [hn] at W
  have hSf : (s.heap.push { cls := .type "list_iterator", data := .fields #[.ref l, .int 0 0] }).objs.size ∉ [s.heap.objs.size, l] := fun z => by
    rw [sz] at z
    rcases List.mem_cons.mp z with z | z
    · exact absurd z (Nat.succ_ne_self _)
    · exact absurd (List.mem_singleton.mp z).symm (Nat.ne_of_lt (Nat.lt_succ_of_lt hll))
  have hTw : T ∉ [s.heap.objs.size] := fun z => absurd (List.mem_singleton.mp z) (Nat.ne_of_lt hlT)
  have hTS : T ≠ (s.heap.push { cls := .type "list_iterator", data := .fields #[.ref l, .int 0 0] }).objs.size := by
    rw [sz]; exact Nat.ne_of_lt (Nat.lt_succ_of_lt hlT)
  refine wpAny_pure ⟨plainId_quiet F.plain_sum_loop _, sumL_loop (St := fun i h => h.IsListIter s.heap.objs.size l i ∧ h.IsList l (ls.map Value.ref).toArray) W _ hSf s.heap (hnone _ (by rw [sz]; exact Nat.le_succ _)) (fun b hb => by rw [List.mem_singleton.mp hb]; exact hnone _ (Nat.le_refl _)) (fun i h st b hb => by
      rw [List.mem_singleton.mp hb]
      obtain ⟨⟨o, e, _⟩, _⟩ := st
      exact ⟨o, e⟩) its (fun i v hP => ?_) ls.length 0 _ T #[] 0 m (by omega) (Nat.zero_le _) ⟨?_, ?_⟩ (Heap.get?_push_size _ rfl) (Heap.get?_push_of_some _ hT1) hTw hTS (fun b o e => Heap.get?_push_of_some _ (kp1 b o e)) (by simpa using hz) fun g tk T' m' h1 h2 h3 h4 => ?_⟩
  · have hP : (ls.map Value.ref).toArray[i]? = some v := hP
    rw [List.getElem?_toArray, List.getElem?_map] at hP
    obtain ⟨b, hb, rfl⟩ := Option.map_eq_some_iff.mp hP
    obtain ⟨mb, hmb⟩ := hi i b hb
    exact ⟨b, mb, rfl, hmb⟩
  · exact ⟨_, Heap.get?_push_of_some _ (Heap.get?_push_size _ rfl), rfl, rfl⟩
  · exact (hl.push _).push _
  · rw [Array.empty_append] at h1
    have h5 := h3 (by omega)
    rw [sz] at h5
    exact h g tk T' m' h1 h2 (Nat.le_of_lt (Nat.lt_of_succ_lt h5))
end
section
variable {X : Cx}
/-- sum(xs, []) of a list of lists -/
def rSumL (K : PySem.W.Frag) : List V → Hp → VK → Prop := fun vs H Q => ∃ (a T : Addr) (ls : List Addr) (its : List (List V)), vs = [.ref a, .ref T] ∧ SqL K H a (ls.map V.ref) ∧ H T = some (.lst []) ∧ Paired (fun b xs => H b = some (.lst xs)) ls its ∧
  its.flatten.length ≤ sizeLine ∧ 0 < ls.length ∧ ∀ p, H p = none → Q (.ref p) (upd H p (.lst its.flatten))
theorem cat_flat : ∀ {us : List (List Value)} (f : Nat → Array Value) (i : Nat), (∀ j xs, us[j]? = some xs → f (i + j) = xs.toArray) → (catN f us.length i).toList = us.flatten
  | [], f, i, _ => rfl
  | xs :: us, f, i, h => by
    show (f i ++ catN f us.length (i + 1)).toList = _
    rw [Array.toList_append, cat_flat (us := us) f (i + 1) fun j ys hy => by
      have := h (j + 1) ys (by simpa using hy)
      rw [← this]; congr 1; omega]
    have := h 0 xs rfl
    rw [Nat.add_zero] at this
    rw [this, List.flatten_cons]
theorem vals_flat : ∀ {its : List (List V)} {us : List (List Value)}, Paired Vals its us → Vals its.flatten us.flatten
  | _, _, .nil => .nil
  | _, _, .cons r t => by
    rw [List.flatten_cons, List.flatten_cons]
    exact Vals.append r (vals_flat t)
theorem kSumL (K : PySem.W.Frag) (hK : X.K = K := by rfl) (hc : X.calm = true) : CallR X (.builtin "sum") (rSumL K) := by
  subst hK
  intro pins s σ H vs us Q I r ⟨a, T, ls, its, ex, hs, hT, hp, hz, hne, q⟩
  subst ex
  obtain ⟨u1, u2, eu, r1, r2⟩ := vals2 r
  subst eu
  cases r1
  cases r2
  obtain ⟨its0, rv, pl, hz0⟩ := I.list hs
  have ei := refs_at rv
  subst ei
  obtain ⟨zT, uT, nT, rT, eT⟩ := I.hok T _ hT
  cases rT
  -- the lists' values
  have key : ∀ {ls : List Addr} {its : List (List V)}, Paired (fun b xs => H b = some (.lst xs)) ls its → ∃ us : List (List Value), Paired Vals its us ∧ us.length = ls.length ∧ ∀ (i : Nat) (b : Addr), ls[i]? = some b → ∃ xs m, us[i]? = some xs ∧ s.heap.get? b = some (oL xs.toArray m) := by
    intro ls its h
    induction h with
    | nil => exact ⟨[], .nil, rfl, fun i b e => by simp at e⟩
    | @cons b xs ls its hb t ih =>
      obtain ⟨us, h1, h2, h3⟩ := ih
      obtain ⟨zb, ub, nb, rb, eb⟩ := I.hok b _ hb
      refine ⟨ub :: us, .cons rb h1, by rw [List.length_cons, List.length_cons, h2], fun i b' e => ?_⟩
      cases i with
      | zero => cases e; exact ⟨ub, nb, rfl, eb⟩
      | succ i => exact h3 i b' e
  obtain ⟨us, h1, h2, h3⟩ := key hp
  have hf : (catN (fun i => (us.getD i []).toArray) ls.length 0).toList = us.flatten := by
    rw [← h2]
    exact cat_flat _ 0 fun j xs hj => by rw [Nat.zero_add, getD_of hj]
  have hv := vals_flat h1
  have hsz : (catN (fun i => (us.getD i []).toArray) ls.length 0).size = its.flatten.length := by rw [← Array.length_toList, hf, hv.length]
  refine sumL_call (its := fun i => (us.getD i []).toArray) (I.ok.hd hc) pl.isList eT (fun i b hb => ?_) (by rw [hsz]; exact hz) hne fun g tk T' m' g1 g2 g3 => ?_
  · obtain ⟨xs, m, hx, e⟩ := h3 i b hb
    exact ⟨m, by rw [e, getD_of hx]⟩
  · refine ⟨.ref T', _, I.laid (t' := tk) g2 g3 (o := .lst its.flatten) ⟨hz, us.flatten, m', hv, ?_⟩, rfl, q _ (I.hok.fresh g3)⟩
    rw [g1, ← hf]
/-- sorted(xs) of data that compare -/
def rSortD {α : Type} (K : PySem.W.Frag) (f : α → PyData) : List V → Hp → VK → Prop := fun vs H Q => ∃ (a : Addr) (qs : List (V × α)), vs = [.ref a] ∧ SqL K H a (qs.map (·.1)) ∧ (∀ q ∈ qs, Dp K H q.1 (f q.2)) ∧ PySem.W.AllAlike (qs.map fun q => f q.2) ∧ PySem.W.Sortable (qs.map fun q => f q.2) ∧ (∀ q ∈ qs, (f q.2).depth ≤ 60) ∧
  ∀ (zs : List (V × α)) (p : Addr), zs.Perm qs → H p = none → Q (.ref p) (upd H p (.lst (zs.map (·.1))))
theorem each_of {α : Type} {f : α → PyData} {H : Hp} {s : Shared} {pins : List (Addr × Obj)} {σ : L2.St} (I : Inv X pins σ H s) : ∀ {qs : List (V × α)} {us : List Value}, Vals (qs.map (·.1)) us → (∀ q ∈ qs, Dp X.K H q.1 (f q.2)) →
    PySem.W.EachIs (fun v (q : V × α) => RelV q.1 v) us qs ∧ PySem.W.EachIs (fun v (q : V × α) => ∃ as, Reads s.heap v (f q.2) as) us qs
  | [], us, r, _ => by cases r; exact ⟨.nil, .nil⟩
  | q :: qs, us, r, h => by
    rw [List.map_cons] at r
    cases r with
    | cons r t =>
      obtain ⟨h1, h2⟩ := each_of I t fun z hz => h z (List.mem_cons_of_mem _ hz)
      exact ⟨.cons r h1, .cons (Dp.reads I (f q.2) q.1 _ (h q List.mem_cons_self) r) h2⟩
theorem vals_each {α : Type} : ∀ {zs : List (V × α)} {us : List Value}, PySem.W.EachIs (fun v (q : V × α) => RelV q.1 v) us zs → Vals (zs.map (·.1)) us
  | _, _, .nil => .nil
  | _, _, .cons r t => .cons r (vals_each t)
theorem kSortD {α : Type} (K : PySem.W.Frag) (f : α → PyData) (hK : X.K = K := by rfl) (hu : X.A.units + 64 < cLine) : CallR X (.builtin "sorted") (rSortD K f) := by
  subst hK
  intro pins s σ H vs us Q I r ⟨a, qs, ex, hs, hd, ha, hso, hdep, q⟩
  subst ex
  obtain ⟨u, eu, ru⟩ := vals1 r
  subst eu
  cases ru
  obtain ⟨its, rv, pl, hz⟩ := I.list hs
  obtain ⟨e1, e2⟩ := each_of I rv hd
  rw [List.length_map] at hz
  refine PySem.W.sorted_data (enc := fun q : V × α => f q.2) pl.isList e1 e2 ha hso hz (fun z hz2 => by have := hdep z hz2; omega) fun out hl he => ?_
  obtain ⟨ep, he'⟩ := PyProof.Rows.sortedAll_at s.heap its out.toArray
  have pm := List.mergeSort_perm qs (PySem.W.dataLe false fun q : V × α => f q.2)
  have fr : s.heap.objs.size ≤ s.heap.objs.size + 1 := Nat.le_succ _
  exact ⟨.ref _, upd H (s.heap.objs.size + 1) (.lst ((qs.mergeSort (PySem.W.dataLe false fun q : V × α => f q.2)).map (·.1))), I.laid (t' := s.toks) (fun _ _ => PyProof.Rows.sortedAll_old) fr ⟨by rw [List.length_map, pm.length_eq]; exact hz, out, ep, vals_each he, he'⟩, rfl, q _ _ pm (I.hok.fresh fr)⟩
end
end Sw
/-! SwB5 -/
set_option Elab.async false
set_option linter.all false
set_option maxRecDepth 100000
set_option maxHeartbeats 4000000
namespace Sw
open PySem L2
/-! ### pairs as a lead -/
def mrg (m : Ld) (Q : List (End × End)) : Ld := Q.foldl (fun acc x => put acc x.1 x.2) m
theorem ldr_merge {H : Hp} : ∀ {more : List (List Key × V)} {Q : List (End × End)} {kvs : List (List Key × V)} {m : Ld}, LdR H more Q → LdR H kvs m → LdR H (mergeT kvs more) (mrg m Q)
  | [], _, _, _, .nil, h => h
  | p :: more, _, kvs, m, .cons (b := q) z t, h => by
    have e : LdR H (putK kvs p.1 p.2) (put m q.1 q.2) := by
      have := LdR.put h q.1 q.2 z.2
      rw [← z.1] at this
      exact this
    have z := ldr_merge (more := more) t e
    exact z
theorem mrg_snoc (Q : List (End × End)) (x : End × End) : mrg [] (Q ++ [x]) = put (mrg [] Q) x.1 x.2 := by unfold mrg; rw [List.foldl_append]; rfl
theorem lk_mrg (e : End) : ∀ R : List (End × End), lk (mrg [] R.reverse) e = (R.find? fun p => decide (p.1 = e)).map (·.2)
  | [] => rfl
  | x :: R => by
    rw [List.reverse_cons, mrg_snoc, lk_put]
    by_cases h : x.1 = e
    · rw [if_pos h.symm, List.find?_cons_of_pos (by rw [decide_eq_true h])]; rfl
    · rw [if_neg fun z => h z.symm, List.find?_cons_of_neg (by rw [decide_eq_false h]; exact Bool.false_ne_true), lk_mrg e R]
theorem webM_look (n d : Nat) (Q : List (End × End)) : webM n d (mrg [] Q) = webOf n d (look Q) := by
  unfold webM
  congr 1
  funext e
  have := lk_mrg e Q.reverse
  rw [List.reverse_reverse] at this
  rw [this]; rfl
theorem lk_both {n d : Nat} {p : List (End × End)} (h : Whole (allEnds n d) p) {r i : Nat} (hr : r < n) (hi : i < d) : (lk (mrg [] (both p)) (r, i)).isSome = true := by
  obtain ⟨f, hf⟩ := h.all (r, i) (mem_allEnds.mpr ⟨hr, hi⟩)
  have hm : ((r, i), f) ∈ both p := mem_both.mpr hf
  have := lk_mrg (r, i) (both p).reverse
  rw [List.reverse_reverse] at this
  rw [this, Option.isSome_map, List.find?_isSome]
  exact ⟨_, List.mem_reverse.mpr hm, decide_eq_true rfl⟩
/-! ### how webs compare -/
theorem alike_list {α : Type} {f : α → PyData} (h : ∀ x y, PySem.W.alike (f x) (f y) = true) : ∀ l m : List α, PySem.W.alikeAll (l.map f) (m.map f) = true
  | [], _ => by simp [PySem.W.alikeAll]
  | _ :: _, [] => by simp [PySem.W.alikeAll]
  | x :: l, y :: m => by
    rw [List.map_cons, List.map_cons, PySem.W.alikeAll, h x y, alike_list h l m]; rfl
theorem alike_tup {α : Type} {f : α → PyData} (h : ∀ x y, PySem.W.alike (f x) (f y) = true) (l m : List α) : PySem.W.alike (pdT f l) (pdT f m) = true := by
  unfold pdT
  rw [PySem.W.alike]
  exact alike_list h l m
theorem alike_end (x y : End) : PySem.W.alike (pdE x) (pdE y) = true := by simp [pdE, PySem.W.alike, PySem.W.alikeAll]
theorem alike_web (x y : Web) : PySem.W.alike (pdWeb x) (pdWeb y) = true := alike_tup (alike_tup alike_end) x y
theorem pd_zip {α β : Type} {F : α → β → Prop} : ∀ {xs : List α} {ys : List β}, Paired F xs ys → ∃ qs : List (α × β), xs = qs.map (·.1) ∧ ys = qs.map (·.2) ∧ ∀ q ∈ qs, F q.1 q.2
  | _, _, .nil => ⟨[], rfl, rfl, fun q h => by simp at h⟩
  | _, _, .cons (a := a) (b := b) r t => by
    obtain ⟨qs, h1, h2, h3⟩ := pd_zip t
    exact ⟨(a, b) :: qs, by rw [h1]; rfl, by rw [h2]; rfl, fun q hq => by
      rcases List.mem_cons.mp hq with z | z
      · rw [z]; exact r
      · exact h3 q z⟩
theorem pd_unzip {α β : Type} {F : α → β → Prop} : ∀ {qs : List (α × β)}, (∀ q ∈ qs, F q.1 q.2) → Paired F (qs.map (·.1)) (qs.map (·.2))
  | [], _ => .nil
  | q :: qs, h => .cons (h q List.mem_cons_self) (pd_unzip fun z hz => h z (List.mem_cons_of_mem _ hz))
def spPairs : Sp := fun vs H Q E => ∃ m : Nat, m ≤ 9 ∧ spP (m + 1) vs H Q E
section
variable {P : Program} {w : World} {K : PySem.W.Frag} {mg : Str → Option Value} {base : Heap}
theorem ok_l_pairings {f : Addr} {fd : FuncData} (F : FnP K "_law_pairings" "_law_pairings" s_l_pairings f fd) (T : Txt mg) (hm : mg "_law_pairings" = some (.ref f)) (hk : PySem.W.keepIn K (.ref f) = true) (hb : Binds K fd p_l_pairings []) : FnOk P w K mg base CX0 10 f fd p_l_pairings spPairs := by
  have all : ∀ m, FnOk P w K mg base CX0 m f fd p_l_pairings (spP m) := by
    intro m
    induction m with
    | zero => exact ⟨fun _ _ _ _ h => False.elim h, fun _ _ _ _ _ _ _ _ _ _ _ _ _ h => False.elim h⟩
    | succ m ih => exact step_l_pairings F T ⟨f, fd, hm, hk, hb, ih⟩
  refine ⟨fun vs H Q E ⟨m, _, h⟩ => (all (m + 1)).len vs H Q E h, fun A outer s H args us vs Q E hr e b v ⟨m, hm9, h⟩ => (all (m + 1)).run A outer s H args us vs Q E (hr.mono (by omega)) e b v h⟩
def spEven : Sp := fun vs H Q _ => ∃ (n d : Nat), vs = [.int (n : Int), .int (d : Int)] ∧ 1 ≤ n ∧ 1 ≤ d ∧ n ≤ 9 ∧ d ≤ 9 ∧ n * d ≤ 9 ∧
  ∀ (p : Addr) (H' : Hp) (Ws : List Web), H p = none → Same H H' → ListR WebR H' (.ref p) Ws → Ws.Perm (evens n d) → Q (.ref p) H'
theorem ok_l_even {f : Addr} {fd : FuncData} (F : FnP K "_law_even" "_law_even" s_l_even f fd) (T : Txt mg) (c_l_pairings : Cal P w K mg base 10 "_law_pairings" p_l_pairings spPairs) (c_l_all_ends : Cal P w K mg base 10 "_law_all_ends" p_l_all_ends spAllEnds) (c_l_told : Cal P w K mg base 10 "_law_told" p_l_told spLTold) : FnOk P w K mg base CX0 11 f fd p_l_even spEven := by
  refine okd F sc_l_even (fun vs H Q E h => ?_) (fun cdv A outer s H vs Q E hr h => ?_)
  · obtain ⟨n, d, rfl, _⟩ := h
    rfl
  · obtain ⟨n, d, rfl, hn1, hd1, hn9, hd9, hnd, k⟩ := h
    refine ⟨_, (pss_cons (ps_set (i := 2) sc_l_even.nd rfl (by first | exact Or.inl rfl | exact Or.inr rfl) (pe_lst pa_nil))
      (pss_cons (ps_for PassesOwn.never rfl (kList K rfl (pe_cal c_l_pairings (hr.mono (by decide)) (pa_cons (pe_cal c_l_all_ends (hr.mono (by decide)) (pa_cons (pv 0) (pa_cons (pv 1) pa_nil))) pa_nil))) (pg_name (i := 3) sc_l_even.nd rfl (by first | exact Or.inl rfl | exact Or.inr rfl))
      (pss_cons (ps_set (i := 4) sc_l_even.nd rfl (by first | exact Or.inl rfl | exact Or.inr rfl) (pe_callTy (cr_dictPT_ rfl (hu1_of hr)) (by rfl) T.dict (by decide +kernel) (pa_cons (pe_op op_cat (pv 3) (pe_lc (own := [("_law_end", 5), ("_law_other", 6)]) rfl sc_l_even.nd (kList K rfl (pv 3)) (blkOk_by (N := n_l_even) (sc := defScope s_l_even) (by decide +kernel)) (fun _ _ _ _ _ => (kgTup (n := 2) K rfl rfl (pgs_cons (pg_name (i := 5) sc_l_even.nd rfl (by first | exact Or.inl rfl | exact Or.inr rfl)) (pgs_cons (pg_name (i := 6) sc_l_even.nd rfl (by first | exact Or.inl rfl | exact Or.inr rfl)) pgs_nil)))) (fun _ _ _ _ _ => pts_nil) (fun _ _ _ _ _ => (pe_tup (pa_cons (pv 6) (pa_cons (pv 5) pa_nil)))))) pa_nil)))
      (pss_cons (ps_set (i := 7) sc_l_even.nd rfl (by first | exact Or.inl rfl | exact Or.inr rfl) (pe_callTy (kTupOf K) (by rfl) T.tuple (by decide +kernel) (pa_cons (pe_lc (own := [("_law_room", 9)]) rfl sc_l_even.nd (pi_range1 (by rfl) T.range (pa_cons (pv 0) pa_nil)) (blkOk_by (N := n_l_even) (sc := defScope s_l_even) (by decide +kernel)) (fun _ _ _ _ _ => (pg_name (i := 9) sc_l_even.nd rfl (by first | exact Or.inl rfl | exact Or.inr rfl))) (fun _ _ _ _ _ => pts_nil) (fun _ _ _ _ _ => (pe_callTy (kTupOf K) (by rfl) T.tuple (by decide +kernel) (pa_cons (pe_lc (own := [("_law_door", 8)]) rfl sc_l_even.nd (pi_range1 (by rfl) T.range (pa_cons (pv 1) pa_nil)) (by refine blkOk_by ?_; dsimp only [Cx.blk, compEnvC, Cx.nox, Cx.wish, cxOf, PyProof.Rows.envOfC, relabel, Env.kindOf]; rfl) (fun _ _ _ _ _ => (pg_name (i := 8) sc_l_even.nd rfl (by first | exact Or.inl rfl | exact Or.inr rfl))) (fun _ _ _ _ _ => pts_nil) (fun _ _ _ _ _ => (pe_dget (hu_of hr) (pv 4) (pe_tup (pa_cons (pv 9) (pa_cons (pv 8) pa_nil))) (fun _ _ => rfl)))) pa_nil)))) pa_nil)))
      (pss_one (ps_if (pt_cmpR (kEqD K rfl hr.units) (pe_cal c_l_told (hr.mono (by decide)) (pa_cons (pv 7) (pa_cons pe_int pa_nil))) (pv 7) (nomark _)) (pss_one (ps_expr (pe_bm PySem.F.plainAttrs_list PySem.F.slot_list_append PySem.F.type_list_append mt_append (pv 2) (pa_cons (pv 7) pa_nil)))) pss_nil)))))
      (pss_one (ps_ret (pe_callB (kSortD K pdWeb rfl hr.units) (by rfl) T.sorted (by decide +kernel) (pa_cons (pv 2) pa_nil)))))), ?_⟩
    have hbig : sizeLine = 16777216 := PySem.sizeLine_eq
    refine ⟨by show 0 ≤ sizeLine; decide, fun D hD => ?_⟩
    have sD := same_new (o := .lst []) hD
    refine ⟨_, rfl, _, rfl, n, d, rfl, hn9, hd9, fun p1 H1 hp1 s1 hE => ?_⟩
    refine ⟨n * d, hnd, p1, allEnds n d, rfl, hE, by rw [allEnds_len]; exact Nat.le_refl _, hnd, fun L H2 hL s2 hP => ?_⟩
    obtain ⟨_, ks, ek, hLk, pk⟩ := hP
    cases ek
    have s12 := st s1 s2
    have hD2 : H2 D = some (.lst []) := s12 _ _ upd_same
    have hLD : L ≠ D := fun z => by
      rw [z] at hL
      rw [s1 _ _ upd_same] at hL; cases hL
    have hplen : (pairs (n * d) (allEnds n d)).length ≤ 2620 := by
      rw [pairs_len _ _ (by rw [allEnds_len]; exact Nat.le_refl _), allEnds_len]
      exact invo_le _ hnd
    have hkl := Paired.length pk
    let mk : List (End × End) → Web := fun p => webOf n d (look (both p))
    refine ⟨L, rfl, ⟨ks, SqL.of hLk⟩, for_list (K := K) (a := L) (xs := ks) (fun i σ H' => Same H H' ∧ KpS [D] H2 H' ∧ NL H2 H' ∧ (∃ vs, H' D = some (.lst vs) ∧ Paired (WebR H') vs ((((pairs (n * d) (allEnds n d)).take i).map mk).filter fun W => decide (told W 0 = W))) ∧
        ∃ a b c, σ = [some (.int (n : Int)), some (.int (d : Int)), some (.ref D), a, b, none, none, c, none, none])
      ⟨st sD s12, fun _ _ _ z => z, NL.refl _, ⟨[], hD2, .nil⟩, none, none, none, rfl⟩ (fun i σ H' _ z => SqL.of (z.2.1 _ _ (by simpa using hLD) hLk)) ?_ ?_⟩
    · rintro i x σ H3 hx ⟨hs3, kp3, nl3, ⟨vs, hv, pv⟩, a0, b0, c0, rfl⟩
      obtain ⟨p, hp, pa, us, rfl, hpa, pu⟩ := pd_get' pk hx
      have hpm := List.mem_of_getElem? hp
      have wh := pairs_whole _ _ p (allEnds_nodup n d) hpm
      obtain ⟨rg, sy⟩ := pair_rg (by omega) hpm
      have hpne : p ≠ [] := fun z => by
        obtain ⟨f, hf⟩ := wh.all (0, 0) (mem_allEnds.mpr ⟨by show 0 < n; omega, by show 0 < d; omega⟩)
        rw [z] at hf
        rcases hf with q | q <;> cases q
      have hpaD : pa ≠ D := fun z => by
        rw [z, hD2] at hpa
        cases hpa
        cases pu
        exact hpne rfl
      have hpa3 : H3 pa = some (.lst us) := kp3 _ _ (by simpa using hpaD) hpa
      have pu3 := firm_pair.all nl3 pu
      have hul : us.length = p.length := Paired.length pu
      have hp9 : p.length ≤ 9 := by have := pairs_short _ _ p hpm; rw [allEnds_len] at this; omega
      refine ⟨_, rfl, _, rfl, pa, rfl, ⟨us, SqL.of hpa3⟩, fun D1 hD1 => ?_⟩
      have kvE : ∀ {H' : Hp} {v : V} {q : End × End}, PairR H' v q → ∃ (t : Addr) (u y : V), v = .ref t ∧ H' t = some (.tup [u, y]) ∧ EndR H' u q.1 ∧ EndR H' y q.2 := fun h => h
      refine lc_list (K := K) (a := pa) (xs := us) (fun j H' => Same H3 H' ∧ ∃ zs, H' D1 = some (.lst zs) ∧ Paired (PairR H') zs ((p.take j).map fun x => (x.2, x.1))) ⟨same_new hD1, [], upd_same, .nil⟩ (fun j H' _ z => SqL.of (z.1 _ _ hpa3)) ?_ ?_
      · rintro j y H4 hy ⟨hs4, zs, hz, pz⟩
        obtain ⟨q, hq, t, u, y2, rfl, ht, e1, e2⟩ := pd_get' pu3 hy
        refine ⟨t, _, rfl, SqT.of (hs4 _ _ ht), rfl, _, _, rfl, _, _, rfl, rfl, rfl, yes (iteT ⟨_, rfl, _, rfl, by show 2 ≤ sizeLine; decide, fun t2 ht2 => ?_⟩)⟩
        have hz2 := same_new (o := .tup [y2, u]) ht2 _ _ hz
        refine ⟨zs, hz2, ?_, same_mut (sn hs4 ht2) hD1, zs ++ [.ref t2], upd_same, ?_⟩
        · rw [Paired.length pz, List.length_map, List.length_take]; omega
        · have z : p.take (j + 1) = p.take j ++ [q] := by rw [List.take_add_one, hq]; rfl
          rw [z, List.map_append]
          have nl4 := NL.trans (nl_of (same_new (o := .tup [y2, u]) ht2)) (nl_lst (ys := zs ++ [.ref t2]) hz2)
          refine pd_app (firm_pair.all nl4 pz) (.cons ?_ .nil)
          exact firm_pair _ _ _ _ (nl_lst hz2) ⟨t2, y2, u, rfl, upd_same, firm_end.s (sn hs4 ht2) e2, firm_end.s (sn hs4 ht2) e1⟩
      · rintro H4 ⟨hs4, zs, hz, pz⟩
        rw [hul, List.take_length] at pz
        refine ⟨pa, D1, us, zs, rfl, rfl, hs4 _ _ hpa3, hz, ?_, fun q hq => ?_⟩
        · rw [Paired.length pz, List.length_map, hul]; omega
        have s5 := same_new (o := .lst (us ++ zs)) hq
        have pall : Paired (PairR (upd H4 q (.lst (us ++ zs)))) (us ++ zs) (both p) := pd_app (firm_pair.all (nl_of (st hs4 s5)) pu3) (firm_pair.all (nl_of s5) pz)
        -- the pairs' tuples and what they say
        have split : ∀ {H' : Hp} {vs : List V} {Q : List (End × End)}, Paired (PairR H') vs Q → ∃ (ts : List Addr) (kvs : List (List Key × V)), vs = ts.map V.ref ∧ LdR H' kvs Q ∧ Paired (fun t kv => ∃ b, H' t = some (.tup [.ref b, kv.2]) ∧ H' b = some (.tup (kv.1.map kV))) ts kvs := by
          intro H' vs Q h
          induction h with
          | nil => exact ⟨[], [], rfl, .nil, .nil⟩
          | @cons v x _ _ r _ ih =>
            obtain ⟨ts, kvs, h1, h2, h3⟩ := ih
            obtain ⟨t, u, y, rfl, ht, ⟨b, rfl, hb⟩, e2⟩ := r
            exact ⟨t :: ts, (keyE x.1, y) :: kvs, by rw [h1]; rfl, .cons ⟨rfl, e2⟩ h2, .cons ⟨b, ht, hb⟩ h3⟩
        obtain ⟨ts, kvs, ets, hkv, hts⟩ := split pall
        refine ⟨q, ts, kvs, rfl, by rw [upd_same, ets], hts, fun Dd hDd => ?_⟩
        have s6 := sn (o := .dT (mergeT [] kvs)) (st hs4 s5) hDd
        have hlead : LeadAt (upd (upd H4 q (.lst (us ++ zs))) Dd (.dT (mergeT [] kvs))) Dd (mrg [] (both p)) := ⟨_, upd_same, (ldr_merge hkv .nil).firm (nl_of (same_new hDd))⟩
        have hall : ∀ r i, r < n → i < d → (lk (mrg [] (both p)) (r, i)).isSome = true := fun r i hr hi => lk_both wh hr hi
        -- the web
        refine ⟨_, rfl, _, rfl, by omega, by omega, fun D3 hD3 => ?_⟩
        obtain ⟨kv2, hkd, hL2⟩ := hlead
        refine lc_range (n := n) (fun i H' => Same (upd (upd H4 q (.lst (us ++ zs))) Dd (.dT (mergeT [] kvs))) H' ∧ ∃ vs, H' D3 = some (.lst vs) ∧ Paired (RowR H') vs ((List.range i).map fun r => (List.range d).map fun i => (lk (mrg [] (both p)) (r, i)).getD (0, 0))) ⟨same_new hD3, [], upd_same, .nil⟩ ?_ ?_
        · rintro i H5 hi ⟨hs5, vs5, hv5, pv5⟩
          rw [z0]
          refine ⟨rfl, yes (iteT ⟨_, rfl, _, rfl, by omega, by omega, fun D4 hD4 => ?_⟩)⟩
          refine lc_range (n := d) (fun j H' => Same H5 H' ∧ ∃ us, H' D4 = some (.lst us) ∧ Paired (EndR H') us ((List.range j).map fun j => (lk (mrg [] (both p)) (i, j)).getD (0, 0))) ⟨same_new hD4, [], upd_same, .nil⟩ ?_ ?_
          · rintro j H6 hj ⟨hs6, us6, hu6, pu6⟩
            rw [z0]
            refine ⟨rfl, yes (iteT ⟨_, rfl, _, rfl, _, rfl, by show 2 ≤ sizeLine; decide, fun t ht => ?_⟩)⟩
            obtain ⟨f, hf⟩ := Option.isSome_iff_exists.mp (hall i j hi hj)
            obtain ⟨y, hy, ry⟩ := hL2.some_ hf
            have s7 := sn (o := .tup [.int (i : Int), .int (j : Int)]) (st hs5 hs6) ht
            refine ⟨Dd, y, rfl, by rw [← hy]; exact DGet.t (k := keyE (i, j)) (s7 _ _ hkd) upd_same, us6, same_new ht _ _ hu6, ?_, ?_⟩
            · rw [Paired.length pu6, List.length_map, List.length_range]; omega
            · have hu7 := same_new (o := .tup [.int (i : Int), .int (j : Int)]) ht _ _ hu6
              refine ⟨same_mut (sn hs6 ht) hD4, us6 ++ [y], upd_same, ?_⟩
              rw [rng_snoc (fun j => (lk (mrg [] (both p)) (i, j)).getD (0, 0)), hf]
              exact pd_app (firm_end.all (NL.trans (nl_of (same_new ht)) (nl_lst hu7)) pu6) (.cons (firm_end _ _ _ _ (NL.trans (nl_of s7) (nl_lst hu7)) ry) .nil)
          · rintro H6 ⟨hs6, us6, hu6, pu6⟩
            refine ⟨D4, us6, rfl, .inl ⟨SqL.of hu6, fun l hl => ?_⟩⟩
            have s7 := sn (o := .tup us6) hs6 hl
            have hv7 := s7 _ _ hv5
            refine ⟨vs5, hv7, ?_, same_mut (st hs5 s7) hD3, vs5 ++ [.ref l], upd_same, ?_⟩
            · rw [Paired.length pv5, List.length_map, List.length_range]; omega
            · rw [rng_snoc (fun r => (List.range d).map fun i => (lk (mrg [] (both p)) (r, i)).getD (0, 0))]
              exact pd_app (firm_row.all (NL.trans (nl_of s7) (nl_lst hv7)) pv5) (.cons (firm_row _ _ _ _ (nl_lst hv7) ⟨l, us6, rfl, upd_same, firm_end.all (nl_of (same_new hl)) pu6⟩) .nil)
        · rintro H5 ⟨hs5, vs5, hv5, pv5⟩
          refine ⟨D3, vs5, rfl, .inl ⟨SqL.of hv5, fun l hl => ?_⟩⟩
          have s7 : Same H3 (upd H5 l (.tup vs5)) := sn (st s6 hs5) hl
          have hweb : WebR (upd H5 l (.tup vs5)) (.ref l) (mk p) := by
            show WebR _ _ (webOf n d (look (both p)))
            rw [← webM_look]
            exact ⟨l, vs5, rfl, upd_same, firm_row.all (nl_of (same_new hl)) pv5⟩
          refine ⟨_, rfl, l, mk p, n, d, 0, rfl, hweb, rg, hn9, hd9, by omega, fun p8 H8 hp8 s8 hT8 => ?_⟩
          have hweb8 := firm_web.s s8 hweb
          have s9 := st s7 s8
          have hv9 := s9 _ _ hv
          have z : (pairs (n * d) (allEnds n d)).take (i + 1) = (pairs (n * d) (allEnds n d)).take i ++ [p] := by rw [List.take_add_one, hp]; rfl
          have eflt : (((pairs (n * d) (allEnds n d)).take (i + 1)).map mk).filter (fun W => decide (told W 0 = W)) = (((pairs (n * d) (allEnds n d)).take i).map mk).filter (fun W => decide (told W 0 = W)) ++ if told (mk p) 0 = mk p then [mk p] else [] := by
            rw [z, List.map_append, List.filter_append]
            congr 1
            show List.filter _ [mk p] = _
            by_cases h : told (mk p) 0 = mk p
            · rw [if_pos h, List.filter_cons_of_pos (by rw [decide_eq_true h])]; rfl
            · rw [if_neg h, List.filter_cons_of_neg (by rw [decide_eq_false h]; exact Bool.false_ne_true)]; rfl
          refine ⟨_, rfl, pdWeb (told (mk p) 0), pdWeb (mk p), dp_web hT8, dp_web hweb8, toldWeb.shaped (by decide) _, toldWeb.shaped (by decide) _, ?_⟩
          rw [toldWeb.dec]
          refine ⟨_, rfl, ?_⟩
          by_cases h : told (mk p) 0 = mk p
          · rw [decide_eq_true h]
            refine iteT ⟨_, rfl, .inl ⟨rfl, vs, SqL.of hv9⟩, _, rfl, D, vs, _, rfl, rfl, hv9, ?_, ?_⟩
            · have h1 := Paired.length pv
              have h2 := List.length_filter_le (fun W => decide (told W 0 = W)) (((pairs (n * d) (allEnds n d)).take i).map mk)
              rw [List.length_map, List.length_take] at h2
              omega
            · refine ⟨same_mut (st hs3 s9) hD, KpS.put (kp3.trans (.of s9)) List.mem_cons_self, NL.trans nl3 (NL.trans (nl_of s9) (nl_lst hv9)), ⟨vs ++ [.ref l], upd_same, ?_⟩, _, _, _, rfl⟩
              rw [eflt, if_pos h]
              exact pd_app (firm_web.all (NL.trans (nl_of s9) (nl_lst hv9)) pv) (.cons (firm_web _ _ _ _ (nl_lst hv9) hweb8) .nil)
          · rw [decide_eq_false h]
            refine iteF ⟨st hs3 s9, kp3.trans (.of s9), NL.trans nl3 (nl_of s9), ⟨vs, hv9, ?_⟩, _, _, _, rfl⟩
            rw [eflt, if_neg h, List.append_nil]
            exact firm_web.all (nl_of s9) pv
    · rintro σ H3 ⟨hs3, kp3, nl3, ⟨vs, hv, pv⟩, a0, b0, c0, rfl⟩
      rw [hkl, List.take_length] at pv
      have hev : (((pairs (n * d) (allEnds n d)).map mk).filter fun W => decide (told W 0 = W)) = evens n d := rfl
      rw [hev] at pv
      obtain ⟨qs, e1, e2, h3⟩ := pd_zip pv
      have hne : ∀ q ∈ qs, ∃ x r, pdWeb q.2 = .tuple (x :: r) := fun q hq => by
        have hm : q.2 ∈ evens n d := by rw [e2]; exact List.mem_map.mpr ⟨q, hq, rfl⟩
        have ev := (evens_ev (by omega) hm).1
        have hl := ev.len
        cases hq2 : q.2 with
        | nil => rw [hq2] at hl; simp at hl; omega
        | cons x r => exact ⟨pdRow x, r.map pdRow, rfl⟩
      refine ⟨_, rfl, D, qs, rfl, SqL.of (by rw [hv, e1]), fun q hq => dp_web (h3 q hq), PySem.W.AllAlike.of fun b b' => alike_web b.2 b'.2, .inl fun x hx => ?_, fun q hq => Nat.le_trans (toldWeb.dep q.2) (by decide), fun zs p pm hp => ?_⟩
      · obtain ⟨q, hq, rfl⟩ := List.mem_map.mp hx
        exact hne q hq
      · refine k p _ (zs.map (·.2)) (none_back hs3 hp) (sn hs3 hp) ⟨p, _, rfl, upd_same, pd_unzip fun q hq => firm_web.s (same_new hp) (h3 q (pm.mem_iff.mp hq))⟩ ?_
        rw [e2]
        exact pm.map _
end
end Sw
/-! SwC1 -/
set_option Elab.async false
set_option linter.all false
set_option maxRecDepth 100000
set_option maxHeartbeats 4000000
namespace Sw
open PySem L2
/-- a box of digits, a mixed number and a count that is c at most -/
def Box (H : Hp) (b : Addr) (c : Nat) : Prop := ∃ A B C : Int, H b = some (.lst [.int A, .int B, .int C]) ∧ 0 ≤ A ∧ 0 ≤ B ∧ B < 2147483648 ∧ 0 ≤ C ∧ C ≤ c
theorem Box.mono {H : Hp} {b : Addr} {c c' : Nat} (h : Box H b c) (hc : c ≤ c') : Box H b c' := by
  obtain ⟨A, B, C, h1, h2, h3, h4, h5, h6⟩ := h
  exact ⟨A, B, C, h1, h2, h3, h4, h5, by omega⟩
theorem Box.s {H H' : Hp} {b : Addr} {c : Nat} (s : Same H H') (h : Box H b c) : Box H' b c := by
  obtain ⟨A, B, C, h1, h2⟩ := h
  exact ⟨A, B, C, s _ _ h1, h2⟩
theorem Box.kp {H H' : Hp} {a b : Addr} {c : Nat} (k : Kp a H H') (n : b ≠ a) (h : Box H b c) : Box H' b c := by
  obtain ⟨A, B, C, h1, h2⟩ := h
  exact ⟨A, B, C, k _ _ n h1, h2⟩
theorem Box.some_ {H : Hp} {b : Addr} {c : Nat} (h : Box H b c) : ∃ xs, H b = some (.lst xs) := by
  obtain ⟨A, B, C, h1, _⟩ := h
  exact ⟨_, h1⟩
theorem nl_kp {H H' : Hp} {b : Addr} {xs : List V} (k : Kp b H H') (h : H b = some (.lst xs)) : NL H H' := fun a o n e => k a o (fun z => n xs (by rw [z, h] at e; exact (Option.some.inj e).symm)) e
theorem Box.nl {H H' : Hp} {b : Addr} {c : Nat} (h : Box H b c) (k : Kp b H H') : NL H H' := by
  obtain ⟨xs, e⟩ := h.some_
  exact nl_kp k e
theorem q1 : (0 : Int) < 2147483647 := by decide
theorem q2 : (0 : Int) < 2147483629 := by decide
theorem q3 : (0 : Int) < 998244353 := by decide
theorem q4 : (0 : Int) < 40009 := by decide
theorem q5 : (0 : Int) < 1009 := by decide
theorem int_nat {i : Int} (h : 0 ≤ i) : ∃ n : Nat, i = (n : Int) := ⟨i.toNat, by omega⟩
theorem vis_snoc (W : Web) : ∀ (w : List Nat) (r i : Nat), vis W r (w ++ [i]) = vis W r w ++ [walk W r (w ++ [i])]
  | [], r, i => rfl
  | j :: w, r, i => by
    show r :: vis W (step W r j) (w ++ [i]) = _
    rw [vis_snoc W w (step W r j) i]; rfl
section
variable {P : Program} {w : World} {K : PySem.W.Frag} {mg : Str → Option Value} {base : Heap}
def spBox : Sp := fun vs H Q _ => ∃ (a : Addr) (ns : List Int) (k : Nat), vs = [.ref a, .int (k : Int)] ∧ H a = some (.lst (ns.map V.int)) ∧ k ≤ 1000 ∧ ∀ (p : Addr) (H' : Hp), H p = none → Same H H' → Box H' p 0 → Q (.ref p) H'
theorem ok_l_box {f : Addr} {fd : FuncData} (F : FnP K "_law_box" "_law_box" s_l_box f fd) (T : Txt mg) : FnOk P w K mg base CX0 1 f fd p_l_box spBox := by
  refine okd F sc_l_box (fun vs H Q E h => ?_) (fun cdv A outer s H vs Q E hr h => ?_)
  · obtain ⟨a, ns, k, rfl, _⟩ := h
    rfl
  · obtain ⟨a, ns, k, rfl, ha, hk, kk⟩ := h
    refine ⟨_, (pss_cons (ps_set (i := 2) sc_l_box.nd rfl (by first | exact Or.inl rfl | exact Or.inr rfl) (pe_ifExp (pt_cmpR op_lt (pv 1) (pe_callB (kLen K) (by rfl) T.len PySem.boot_len (pa_cons (pv 0) pa_nil)) (nomark _)) (pe_ix (kIxL K) (pv 0) (pv 1) (fun _ _ => rfl)) pe_int))
      (pss_cons (ps_set (i := 3) sc_l_box.nd rfl (by first | exact Or.inl rfl | exact Or.inr rfl) (pe_ifExp (pt_cmpR op_ge (pe_callB call_abs (by rfl) T.abs (by decide +kernel) (pa_cons (pv 2) pa_nil)) (pe_op op_pow pe_int pe_int) (nomark _)) (pe_callB call_abs (by rfl) T.abs (by decide +kernel) (pa_cons (pv 2) pa_nil)) pe_int))
      (pss_one (ps_ret (pe_lst (pa_cons (pv 3) (pa_cons (pe_op op_mod (pe_op op_mul (pe_op op_add (pe_op op_add (pe_op op_mod (pv 2) pe_int) (pe_op op_mul pe_int (pv 1))) pe_int) pe_int) pe_int) (pa_cons pe_int pa_nil)))))))), ?_⟩
    have hb : ∀ x : Int, 0 ≤ (if x < 0 then -x else x) := fun x => by split <;> omega
    by_cases hkl : k < ns.length
    · have e1 : decide ((k : Int) < (((ns.map V.int).length : Nat) : Int)) = true := decide_eq_true (by rw [List.length_map]; omega)
      refine ⟨_, rfl, _, rfl, _, _, rfl, .inl (SqL.of ha), _, _, rfl, rfl, _, rfl, ?_⟩
      rw [e1]
      refine iteT ⟨_, rfl, _, rfl, _, _, _, _, rfl, rfl, SqL.of ha, atI_nat (by rw [List.getElem?_map, List.getElem?_eq_getElem hkl]; rfl), ?_⟩
      refine ⟨_, rfl, _, rfl, _, _, rfl, rfl, ⟨by decide, by decide, by decide⟩, _, _, rfl, rfl, _, rfl, ite2 (fun _ => ⟨_, rfl, _, rfl, ?_⟩) fun _ => ?_⟩
      · refine ⟨_, rfl, _, rfl, _, _, rfl, rfl, q1, _, rfl, _, _, rfl, rfl, .inl ⟨by decide, by decide⟩, _, _, rfl, rfl, _, _, rfl, rfl, _, _, rfl, rfl, .inr ⟨by decide, by decide⟩, _, _, rfl, rfl, q2, by show 3 ≤ sizeLine; decide, fun p hp => ?_⟩
        exact kk p _ hp (same_new hp) ⟨_, _, _, upd_same, hb _, Int.emod_nonneg _ (by decide), Int.lt_trans (Int.emod_lt_of_pos _ (by decide)) (by decide), by decide, by decide⟩
      · refine ⟨_, rfl, _, rfl, _, _, rfl, rfl, q1, _, rfl, _, _, rfl, rfl, .inl ⟨by decide, by decide⟩, _, _, rfl, rfl, _, _, rfl, rfl, _, _, rfl, rfl, .inr ⟨by decide, by decide⟩, _, _, rfl, rfl, q2, by show 3 ≤ sizeLine; decide, fun p hp => ?_⟩
        exact kk p _ hp (same_new hp) ⟨_, _, _, upd_same, by decide, Int.emod_nonneg _ (by decide), Int.lt_trans (Int.emod_lt_of_pos _ (by decide)) (by decide), by decide, by decide⟩
    · have e1 : decide ((k : Int) < (((ns.map V.int).length : Nat) : Int)) = false := decide_eq_false (by rw [List.length_map]; omega)
      refine ⟨_, rfl, _, rfl, _, _, rfl, .inl (SqL.of ha), _, _, rfl, rfl, _, rfl, ?_⟩
      rw [e1]
      refine iteF ?_
      refine ⟨_, rfl, _, rfl, _, _, rfl, rfl, ⟨by decide, by decide, by decide⟩, _, _, rfl, rfl, _, rfl, ite2 (fun _ => ⟨_, rfl, _, rfl, ?_⟩) fun _ => ?_⟩
      all_goals
        refine ⟨_, rfl, _, rfl, _, _, rfl, rfl, q1, _, rfl, _, _, rfl, rfl, .inl ⟨by decide, by decide⟩, _, _, rfl, rfl, _, _, rfl, rfl, _, _, rfl, rfl, .inr ⟨by decide, by decide⟩, _, _, rfl, rfl, q2, by show 3 ≤ sizeLine; decide, fun p hp => ?_⟩
        exact kk p _ hp (same_new hp) ⟨_, _, _, upd_same, by decide, Int.emod_nonneg _ (by decide), Int.lt_trans (Int.emod_lt_of_pos _ (by decide)) (by decide), by decide, by decide⟩
def spTake : Sp := fun vs H Q _ => ∃ (b : Addr) (c many : Nat), vs = [.ref b, .int (many : Int)] ∧ 1 ≤ many ∧ many ≤ 1000000 ∧ c ≤ 1000000000 ∧ Box H b c ∧ ∀ (r : Nat) (H' : Hp), r < many → Kp b H H' → Box H' b (c + 1) → Q (.int (r : Int)) H'
theorem ok_l_take {f : Addr} {fd : FuncData} (F : FnP K "_law_take" "_law_take" s_l_take f fd) (T : Txt mg) : FnOk P w K mg base CX0 1 f fd p_l_take spTake := by
  refine okd F sc_l_take (fun vs H Q E h => ?_) (fun cdv A outer s H vs Q E hr h => ?_)
  · obtain ⟨b, c, many, rfl, _⟩ := h
    rfl
  · obtain ⟨b, c, many, rfl, hm1, hm2, hc, ⟨A0, B0, C0, hb, hA, hB, hB2, hC, hC2⟩, kk⟩ := h
    refine ⟨_, (pss_cons (ps_if (pt_cmpR op_gt (pe_ix (kIxL K) (pv 0) pe_int (fun _ _ => rfl)) pe_int (nomark _)) (pss_cons (ps_set (i := 2) sc_l_take.nd rfl (by first | exact Or.inl rfl | exact Or.inr rfl) (pe_op op_mod (pe_ix (kIxL K) (pv 0) pe_int (fun _ _ => rfl)) (pv 1)))
      (pss_cons (ps_asg (pe_op op_fdiv (pe_ix (kIxL K) (pv 0) pe_int (fun _ _ => rfl)) (pv 1)) (pg_sub (pv 0) pe_int set_list))
      (pss_one (ps_ret (pv 2))))) pss_nil)
      (pss_cons (ps_asg (pe_op op_add (pe_ix (kIxL K) (pv 0) pe_int (fun _ _ => rfl)) pe_int) (pg_sub (pv 0) pe_int set_list))
      (pss_cons (ps_set (i := 3) sc_l_take.nd rfl (by first | exact Or.inl rfl | exact Or.inr rfl) (pe_op op_mod (pe_op op_mul (pe_op op_add (pe_ix (kIxL K) (pv 0) pe_int (fun _ _ => rfl)) (pe_op op_mul pe_int (pe_ix (kIxL K) (pv 0) pe_int (fun _ _ => rfl)))) (pe_op op_add pe_int (pe_ix (kIxL K) (pv 0) pe_int (fun _ _ => rfl)))) pe_int))
      (pss_cons (ps_asg (pe_op op_mod (pe_op op_add (pe_op op_mul (pv 3) (pe_op op_add (pe_op op_mod (pv 3) pe_int) pe_int)) (pe_ix (kIxL K) (pv 0) pe_int (fun _ _ => rfl))) pe_int) (pg_sub (pv 0) pe_int set_list))
      (pss_one (ps_ret (pe_op op_mod (pe_op op_fdiv (pe_op op_mod (pe_op op_mul (pe_ix (kIxL K) (pv 0) pe_int (fun _ _ => rfl)) (pe_op op_add (pe_op op_mod (pe_ix (kIxL K) (pv 0) pe_int (fun _ _ => rfl)) pe_int) pe_int)) pe_int) pe_int) (pv 1)))))))), ?_⟩
    have hpos : (0 : Int) < (many : Int) := by omega
    have hmod : ∀ x : Int, ∃ r : Nat, x % (many : Int) = (r : Int) ∧ r < many := fun x => by
      have h1 := Int.emod_nonneg x (show (many : Int) ≠ 0 by omega)
      have h2 := Int.emod_lt_of_pos x hpos
      obtain ⟨r, hr⟩ := int_nat h1
      exact ⟨r, hr, by omega⟩
    have key : ∀ (x : Int) (H' : Hp), Kp b H H' → Box H' b (c + 1) → Q (.int (x % (many : Int))) H' := fun x H' h1 h2 => by
      obtain ⟨r, e, h⟩ := hmod x
      rw [e]; exact kk r H' h h1 h2
    refine ⟨_, rfl, _, _, _, _, rfl, rfl, SqL.of hb, rfl, _, _, rfl, rfl, _, rfl, ite2 (fun _ => ?_) fun _ => ?_⟩
    · refine ⟨_, rfl, _, _, _, _, rfl, rfl, SqL.of hb, rfl, _, rfl, _, _, rfl, rfl, hpos, ?_⟩
      refine ⟨_, rfl, _, _, _, _, rfl, rfl, SqL.of hb, rfl, _, rfl, _, _, rfl, rfl, ⟨hpos, by omega⟩, _, rfl, b, _, _, 0, rfl, rfl, hb, rfl, _, rfl, ?_⟩
      exact key _ _ (Kp.put (Kp.refl b H)) ⟨_, _, _, upd_same, Int.ediv_nonneg hA (by omega), hB, hB2, hC, by omega⟩
    · refine ⟨_, rfl, _, _, _, _, rfl, rfl, SqL.of hb, rfl, _, _, rfl, rfl, _, rfl, b, _, _, 2, rfl, rfl, hb, rfl, ?_⟩
      refine ⟨_, rfl, _, _, _, _, rfl, rfl, SqL.of upd_same, rfl, _, rfl, _, _, _, _, rfl, rfl, SqL.of upd_same, rfl, _, _, rfl, rfl, .inl ⟨by decide, by decide⟩, _, _, rfl, rfl, _, rfl, _, _, _, _, rfl, rfl, SqL.of upd_same, rfl, _, _, rfl, rfl, _, _, rfl, rfl, .inr ⟨by omega, by omega⟩, _, _, rfl, rfl, q1, ?_⟩
      have hm1 := fun x : Int => Int.emod_nonneg x (show (40009 : Int) ≠ 0 by decide)
      have hm2 := fun x : Int => Int.emod_lt_of_pos x q4
      have hm3 := fun x : Int => Int.emod_nonneg x (show (1009 : Int) ≠ 0 by decide)
      have hm4 := fun x : Int => Int.emod_lt_of_pos x q5
      refine ⟨_, rfl, _, rfl, _, _, rfl, rfl, q4, _, _, rfl, rfl, _, _, rfl, rfl, .inr ⟨Int.lt_of_lt_of_le (by decide) (Int.add_nonneg (hm1 _) (by decide)), Int.lt_trans (Int.add_lt_add_right (hm2 _) 7) (by decide)⟩, _, rfl, _, _, _, _, rfl, rfl, SqL.of upd_same, rfl, _, _, rfl, rfl, _, _, rfl, rfl, q2, _, rfl, b, _, _, 1, rfl, rfl, upd_same, rfl, ?_⟩
      refine ⟨_, rfl, _, _, _, _, rfl, rfl, SqL.of upd_same, rfl, _, rfl, _, _, _, _, rfl, rfl, SqL.of upd_same, rfl, _, _, rfl, rfl, q5, _, _, rfl, rfl, _, _, rfl, rfl, .inr ⟨Int.lt_of_lt_of_le (by decide) (Int.add_nonneg (hm3 _) (by decide)), Int.lt_trans (Int.add_lt_add_right (hm4 _) 3) (by decide)⟩, _, _, rfl, rfl, q3, _, _, rfl, rfl, ⟨by decide, by decide⟩, _, rfl, _, _, rfl, rfl, hpos, ?_⟩
      exact key _ _ (Kp.put (Kp.put (Kp.refl b H))) ⟨_, _, _, upd_same, hA, Int.emod_nonneg _ (by decide), Int.lt_trans (Int.emod_lt_of_pos _ q2) (by decide), by omega, by omega⟩
end
end Sw
/-! SwC2 -/
set_option Elab.async false
set_option linter.all false
set_option maxRecDepth 100000
set_option maxHeartbeats 4000000
namespace Sw
open PySem L2
section
variable {P : Program} {w : World} {K : PySem.W.Frag} {mg : Str → Option Value} {base : Heap}
def spLWay : Sp := fun vs H Q _ => ∃ (b : Addr) (c d many : Nat), vs = [.ref b, .int (d : Int), .int (many : Int)] ∧ 1 ≤ d ∧ d ≤ 9 ∧ many ≤ 9 ∧ c ≤ 100000 ∧ Box H b c ∧
  ∀ (l : List Nat) (p : Addr) (H' : Hp), H p = none → l.length = many → (∀ i ∈ l, i < d) → Kp b H H' → Box H' b (c + many) → WayR H' (.ref p) l → Q (.ref p) H'
theorem ok_l_way {f : Addr} {fd : FuncData} (F : FnP K "_law_way" "_law_way" s_l_way f fd) (T : Txt mg) (c_l_take : Cal P w K mg base 1 "_law_take" p_l_take spTake) : FnOk P w K mg base CX0 2 f fd p_l_way spLWay := by
  refine okd F sc_l_way (fun vs H Q E h => ?_) (fun cdv A outer s H vs Q E hr h => ?_)
  · obtain ⟨b, c, d, many, rfl, _⟩ := h
    rfl
  · obtain ⟨b, c, d, many, rfl, hd1, hd9, hm, hc, hB, k⟩ := h
    refine ⟨_, (pss_one (ps_ret (pe_callTy (kTupOf K) (by rfl) T.tuple (by decide +kernel) (pa_cons (pe_lc (own := [("_law_k", 3)]) rfl sc_l_way.nd (pi_range1 (by rfl) T.range (pa_cons (pv 2) pa_nil)) (blkOk_by (N := n_l_way) (sc := defScope s_l_way) (by decide +kernel)) (fun _ _ _ _ _ => (pg_name (i := 3) sc_l_way.nd rfl (by first | exact Or.inl rfl | exact Or.inr rfl))) (fun _ _ _ _ _ => pts_nil) (fun _ _ _ _ _ => (pe_cal c_l_take (hr.mono (by decide)) (pa_cons (pv 0) (pa_cons (pv 1) pa_nil))))) pa_nil)))), ?_⟩
    have hbig : sizeLine = 16777216 := PySem.sizeLine_eq
    refine ⟨_, rfl, _, rfl, by omega, by omega, fun D hD => ?_⟩
    obtain ⟨bx, hbx⟩ := hB.some_
    have hbD : b ≠ D := ne_of_none hbx hD
    refine lc_range (n := many) (fun i H' => Kp b H H' ∧ Box H' b (c + i) ∧ ∃ l : List Nat, l.length = i ∧ (∀ x ∈ l, x < d) ∧ H' D = some (.lst (nats l))) ⟨.of (same_new hD), hB.s (same_new hD), [], rfl, fun x hx => by simp at hx, upd_same⟩ ?_ ?_
    · rintro i H1 hi ⟨hk, hB1, l, hl, hld, hv⟩
      refine ⟨rfl, yes (iteT ⟨_, rfl, _, rfl, b, c + i, d, rfl, hd1, by omega, by omega, hB1, fun r H2 hr2 k2 hB2 => ?_⟩)⟩
      have hv2 := k2 _ _ (Ne.symm hbD) hv
      refine ⟨nats l, hv2, by rw [List.length_map]; omega, (hk.trans k2).mut hD, ?_, l ++ [r], by rw [List.length_append, hl]; rfl, fun x hx => ?_, by rw [upd_same]; simp [nats]⟩
      · obtain ⟨A, B, C, h1, h2⟩ := hB2
        exact ⟨A, B, C, by rw [upd_ne hbD]; exact h1, h2⟩
      · rcases List.mem_append.mp hx with z | z
        · exact hld x z
        · rw [List.mem_singleton.mp z]; exact hr2
    · rintro H1 ⟨hk, hB1, l, hl, hld, hv⟩
      refine ⟨D, nats l, rfl, .inl ⟨SqL.of hv, fun p hp => ?_⟩⟩
      have hpH : H p = none := by
        cases z : H p with
        | none => rfl
        | some o =>
          by_cases e : p = b
          · obtain ⟨xs, hx⟩ := hB1.some_
            rw [e, hx] at hp; cases hp
          · rw [hk p o e z] at hp; cases hp
      exact k l p _ hpH hl hld (hk.mut hpH) (hB1.s (same_new hp)) ⟨p, _, rfl, upd_same, ints_pd⟩
/-- rooms and doors of nine ends at most -/
def sz (i : Nat) : List End := (List.range i).flatMap fun r => ((List.range 6).filter fun m => decide ((r + 1) * (m + 1) ≤ 9)).map fun m => (r + 1, m + 1)
theorem sz_ok : (sz 8).length ≤ 100 ∧ 0 < (sz 8).length ∧ ∀ e ∈ sz 8, 1 ≤ e.1 ∧ 1 ≤ e.2 ∧ e.1 ≤ 8 ∧ e.2 ≤ 6 ∧ e.1 * e.2 ≤ 9 := by decide +kernel
theorem sz_len : ∀ i, i ≤ 8 → (sz i).length ≤ 100 := by decide +kernel
def spSizes : Sp := fun vs H Q _ => vs = [.int 9, .int 1] ∧ ∀ (p : Addr) (H' : Hp), H p = none → Same H H' → ListR EndR H' (.ref p) (sz 8) → Q (.ref p) H'
theorem ok_l_sizes {f : Addr} {fd : FuncData} (F : FnP K "_law_sizes" "_law_sizes" s_l_sizes f fd) (T : Txt mg) : FnOk P w K mg base CX0 1 f fd p_l_sizes spSizes := by
  refine okd F sc_l_sizes (fun vs H Q E h => ?_) (fun cdv A outer s H vs Q E hr h => ?_)
  · obtain ⟨rfl, _⟩ := h
    rfl
  · obtain ⟨rfl, k⟩ := h
    refine ⟨_, (pss_cons (ps_set (i := 2) sc_l_sizes.nd rfl (by first | exact Or.inl rfl | exact Or.inr rfl) (pe_lst pa_nil))
      (pss_cons (ps_for PassesOwn.never rfl (pi_range2 (by rfl) T.range (pa_cons pe_int (pa_cons pe_int pa_nil))) (pg_name (i := 3) sc_l_sizes.nd rfl (by first | exact Or.inl rfl | exact Or.inr rfl))
      (pss_cons (ps_setLc (i := 4) (own := [("_law_many", 5)]) rfl sc_l_sizes.nd rfl rfl (sw_true rfl rfl rfl (by decide +kernel)) (pi_range2 (by rfl) T.range (pa_cons (pv 1) (pa_cons pe_int pa_nil))) (blkOk_by (N := n_l_sizes) (sc := defScope s_l_sizes) (by decide +kernel)) (fun _ _ _ _ _ => (pg_name (i := 5) sc_l_sizes.nd rfl (by first | exact Or.inl rfl | exact Or.inr rfl))) (fun _ _ _ _ _ => (pts_one (pt_cmpR op_le (pe_op op_mul (pv 3) (pv 5)) (pv 0) (nomark _)))) (fun _ _ _ _ _ => (pv 5)))
      (pss_one (ps_expr (pe_bm PySem.F.plainAttrs_list PySem.F.slot_list_extend PySem.F.type_list_extend mt_extend (pv 2) (pa_cons (pe_lc (own := [("_law_many", 5)]) rfl sc_l_sizes.nd (kList K rfl (pv 4)) (blkOk_by (N := n_l_sizes) (sc := defScope s_l_sizes) (by decide +kernel)) (fun _ _ _ _ _ => (pg_name (i := 5) sc_l_sizes.nd rfl (by first | exact Or.inl rfl | exact Or.inr rfl))) (fun _ _ _ _ _ => (pts_one (PW.pt (pw_or (pt_cmpR op_gt (pv 5) pe_int (nomark _)) (pw_or1 (pt_cmpR op_lt (pv 3) pe_int (nomark _))))))) (fun _ _ _ _ _ => (pe_tup (pa_cons (pv 3) (pa_cons (pv 5) pa_nil))))) pa_nil))))))
      (pss_one (ps_ret (pv 2))))), ?_⟩
    have hbig : sizeLine = 16777216 := PySem.sizeLine_eq
    refine ⟨by show 0 ≤ sizeLine; decide, fun D hD => ?_⟩
    refine ⟨1, 9, rfl, ⟨by decide, by decide, by decide, by decide⟩, for_range (n := 8) (fun i σ H' => Same H H' ∧ ListR EndR H' (.ref D) (sz i) ∧ ∃ a b, σ = [some (.int 9), some (.int 1), some (.ref D), a, b, none])
      ⟨same_new hD, ⟨D, [], rfl, upd_same, .nil⟩, none, none, rfl⟩ ?_ ?_⟩
    · rintro i σ H1 hi ⟨hs, ⟨_, us, e0, hu, pu⟩, a, b, rfl⟩
      cases e0
      have e1 : V.int (1 + (i : Int)) = V.int ((i + 1 : Nat) : Int) := by rw [V.int.injEq]; omega
      rw [e1]
      refine ⟨_, rfl, 1, 7, rfl, ⟨by decide, by decide, by decide, by decide⟩, fun D1 hD1 => ?_⟩
      refine lc_range (n := 6) (fun m H' => Same H1 H' ∧ H' D1 = some (.lst (nats (((List.range m).filter fun m => decide ((i + 1) * (m + 1) ≤ 9)).map fun m => m + 1)))) ⟨same_new hD1, upd_same⟩ ?_ ?_
      · rintro m H2 hm ⟨hs2, hv⟩
        have e2 : V.int (1 + (m : Int)) = V.int ((m + 1 : Nat) : Int) := by rw [V.int.injEq]; omega
        rw [e2]
        refine ⟨rfl, _, rfl, _, rfl, _, _, rfl, rfl, .inl ⟨by omega, by omega⟩, _, rfl, _, _, rfl, rfl, _, rfl, ?_⟩
        have e3 : decide (((i + 1 : Nat) : Int) * ((m + 1 : Nat) : Int) ≤ 9) = decide ((i + 1) * (m + 1) ≤ 9) := by
          rw [← Int.natCast_mul]
          exact decide_eq_decide.mpr (by omega)
        rw [e3]
        have e4 : ((List.range (m + 1)).filter fun m => decide ((i + 1) * (m + 1) ≤ 9)).map (fun m => m + 1) = ((List.range m).filter fun m => decide ((i + 1) * (m + 1) ≤ 9)).map (fun m => m + 1) ++ if (i + 1) * (m + 1) ≤ 9 then [m + 1] else [] := by
          rw [List.range_succ, List.filter_append, List.map_append]
          congr 1
          by_cases h : (i + 1) * (m + 1) ≤ 9
          · rw [if_pos h, List.filter_cons_of_pos (by rw [decide_eq_true h])]; rfl
          · rw [if_neg h, List.filter_cons_of_neg (by rw [decide_eq_false h]; exact Bool.false_ne_true)]; rfl
        by_cases h : (i + 1) * (m + 1) ≤ 9
        · rw [decide_eq_true h]
          refine iteT ⟨_, rfl, _, hv, ?_, same_mut hs2 hD1, ?_⟩
          · have := List.length_filter_le (fun m => decide ((i + 1) * (m + 1) ≤ 9)) (List.range m)
            rw [List.length_range] at this
            rw [List.length_map, List.length_map]; omega
          · rw [upd_same, e4, if_pos h]; simp [nats]
        · rw [decide_eq_false h]
          exact iteF ⟨hs2, by rw [e4, if_neg h, List.append_nil]; exact hv⟩
      · rintro H2 ⟨hs2, hv⟩
        refine ⟨_, rfl, .inl ⟨rfl, us, SqL.of (hs2 _ _ hu)⟩, _, rfl, D1, rfl, ⟨_, SqL.of hv⟩, fun D2 hD2 => ?_⟩
        refine lc_list (K := K) (a := D1) (xs := nats (((List.range 6).filter fun m => decide ((i + 1) * (m + 1) ≤ 9)).map fun m => m + 1)) (fun j H' => Same H2 H' ∧ ∃ zs, H' D2 = some (.lst zs) ∧ Paired (EndR H') zs (((((List.range 6).filter fun m => decide ((i + 1) * (m + 1) ≤ 9)).map fun m => (i + 1, m + 1))).take j)) ⟨same_new hD2, [], upd_same, .nil⟩ (fun j H' _ z => SqL.of (z.1 _ _ hv)) ?_ ?_
        · rintro j x H3 hx ⟨hs3, zs, hz, pz⟩
          rw [List.getElem?_map, List.getElem?_map] at hx
          obtain ⟨y, hy, rfl⟩ := Option.map_eq_some_iff.mp hx
          obtain ⟨m, hm, rfl⟩ := Option.map_eq_some_iff.mp hy
          have ed : decide ((0 : Int) < ((m + 1 : Nat) : Int)) = true := decide_eq_true (by omega)
          refine ⟨rfl, _, rfl, _, _, rfl, rfl, _, rfl, ?_⟩
          rw [ed]
          refine iteT (iteT ⟨_, rfl, _, rfl, by show 2 ≤ sizeLine; decide, fun p hp => ?_⟩)
          have hz3 := same_new (o := .tup [.int ((i + 1 : Nat) : Int), .int ((m + 1 : Nat) : Int)]) hp _ _ hz
          refine ⟨zs, hz3, ?_, same_mut (sn hs3 hp) hD2, zs ++ [.ref p], upd_same, ?_⟩
          · have h1 := List.length_filter_le (fun m => decide ((i + 1) * (m + 1) ≤ 9)) (List.range 6)
            rw [List.length_range] at h1
            rw [Paired.length pz, List.length_take, List.length_map]; omega
          · have z : ((((List.range 6).filter fun m => decide ((i + 1) * (m + 1) ≤ 9)).map fun m => (i + 1, m + 1))).take (j + 1) = ((((List.range 6).filter fun m => decide ((i + 1) * (m + 1) ≤ 9)).map fun m => (i + 1, m + 1))).take j ++ [(i + 1, m + 1)] := by
              rw [List.take_add_one, List.getElem?_map, hm]; rfl
            rw [z]
            exact pd_app (firm_end.all (NL.trans (nl_of (same_new hp)) (nl_lst hz3)) pz) (.cons (firm_end _ _ _ _ (nl_lst hz3) ⟨p, rfl, upd_same⟩) .nil)
        · rintro H3 ⟨hs3, zs, hz, pz⟩
          rw [List.length_map, List.length_map, List.take_of_length_le (by rw [List.length_map]; exact Nat.le_refl _)] at pz
          have hu3 := st hs2 hs3 _ _ hu
          have esz : sz (i + 1) = sz i ++ (((List.range 6).filter fun m => decide ((i + 1) * (m + 1) ≤ 9)).map fun m => (i + 1, m + 1)) := by
            unfold sz
            rw [flat_snoc]
          refine ⟨D, D2, us, zs, rfl, rfl, hu3, hz, ?_, same_mut (st hs (st hs2 hs3)) hD, ?_, _, _, rfl⟩
          · have h1 := sz_len (i + 1) (by omega)
            rw [esz, List.length_append, ← Paired.length pu, ← Paired.length pz] at h1
            omega
          · rw [esz]
            exact ⟨D, us ++ zs, rfl, upd_same, pd_app (firm_end.all (NL.trans (nl_of (st hs2 hs3)) (nl_lst hu3)) pu) (firm_end.all (nl_lst hu3) pz)⟩
    · rintro σ H1 ⟨hs, hl, a, b, rfl⟩
      exact ⟨_, rfl, k D H1 hD hs hl⟩
def spSeen : Sp := fun vs H Q _ => ∃ (a b : Addr) (W : Web) (n d r : Nat) (l : List Nat), vs = [.ref a, .int (r : Int), .ref b] ∧ WebR H (.ref a) W ∧ WayR H (.ref b) l ∧ Rg W n d ∧ r < n ∧ n ≤ 9 ∧ (∀ i ∈ l, i < d) ∧ l.length ≤ 900 ∧
  ∀ (p : Addr) (H' : Hp), H p = none → Same H H' → H' p = some (.lst (nats (asc n (vis W r l)))) → Q (.ref p) H'
theorem vis_len (W : Web) : ∀ (l : List Nat) (r : Nat), (vis W r l).length = l.length + 1
  | [], _ => rfl
  | i :: l, r => by show (vis W _ l).length + 1 = _; rw [vis_len W l]; rfl
theorem ok_l_seen_rooms {f : Addr} {fd : FuncData} (F : FnP K "_law_seen_rooms" "_law_seen_rooms" s_l_seen_rooms f fd) (T : Txt mg) : FnOk P w K mg base CX0 1 f fd p_l_seen_rooms spSeen := by
  refine okd F sc_l_seen_rooms (fun vs H Q E h => ?_) (fun cdv A outer s H vs Q E hr h => ?_)
  · obtain ⟨a, b, W, n, d, r, l, rfl, _⟩ := h
    rfl
  · obtain ⟨a, b, W, n, d, r, l, rfl, hW, hl, g, hrn, hn, hd, hlen, k⟩ := h
    refine ⟨_, (pss_cons (ps_set (i := 3) sc_l_seen_rooms.nd rfl (by first | exact Or.inl rfl | exact Or.inr rfl) (pe_lst (pa_cons (pv 1) pa_nil)))
      (pss_cons (ps_for PassesOwn.never rfl (kTup K rfl (pv 2)) (pg_name (i := 4) sc_l_seen_rooms.nd rfl (by first | exact Or.inl rfl | exact Or.inr rfl))
      (pss_cons (ps_set (i := 1) sc_l_seen_rooms.nd rfl (by first | exact Or.inl rfl | exact Or.inr rfl) (pe_ix (kIxT K) (pe_ix (kIxT K) (pe_ix (kIxT K) (pv 0) (pv 1) (fun _ _ => rfl)) (pv 4) (fun _ _ => rfl)) pe_int (fun _ _ => rfl)))
      (pss_one (ps_expr (pe_bm PySem.F.plainAttrs_list PySem.F.slot_list_append PySem.F.type_list_append mt_append (pv 3) (pa_cons (pv 1) pa_nil))))))
      (pss_one (ps_ret (pe_callB (kSortSet w rfl rfl) (by rfl) T.sorted (by decide +kernel) (pa_cons (pe_callTy (kSetI K w rfl rfl rfl) (by rfl) T.set (by decide +kernel) (pa_cons (pv 3) pa_nil)) pa_nil)))))), ?_⟩
    have hbig : sizeLine = 16777216 := PySem.sizeLine_eq
    obtain ⟨ls, hls, hlp, hb, lls⟩ := tup_sq (K := K) hl
    have els := pd_ints hlp
    refine ⟨_, rfl, by show 1 ≤ sizeLine; decide, fun D hD => ?_⟩
    refine ⟨_, rfl, b, rfl, ⟨ls, same_t (same_new hD) hls⟩, for_tup (K := K) (a := b) (xs := ls) (fun i σ H' => Same H H' ∧ H' D = some (.lst (nats (vis W r (l.take i)))) ∧ ∃ v, σ = [some (.ref a), some (.int (walk W r (l.take i) : Int)), some (.ref b), some (.ref D), v])
      ⟨same_new hD, upd_same, none, rfl⟩ (fun i σ H' _ z => same_t z.1 hls) ?_ ?_⟩
    · rintro i x σ H1 hx ⟨hs, hv, v, rfl⟩
      rw [els, List.getElem?_map] at hx
      obtain ⟨j, hj, rfl⟩ := Option.map_eq_some_iff.mp hx
      have hjd := hd j (List.mem_of_getElem? hj)
      have hrt : walk W r (l.take i) < n := g.walk_lt hrn fun q hq => hd q (List.mem_of_mem_take hq)
      have hW1 := firm_web.s hs hW
      obtain ⟨vs1, b1, s1, a1, r1⟩ := web_row (K := K) hW1 g hrt
      obtain ⟨vs2, c2, s2, a2, r2⟩ := row_end (K := K) r1 g hrt hjd
      have et := take_snoc hj
      have e : walk W r (l.take (i + 1)) = (en W (walk W r (l.take i)) j).1 := by rw [et, walk_snoc]; rfl
      refine ⟨_, rfl, _, rfl, _, _, _, _, rfl, rfl, s1, a1, _, rfl, _, _, _, _, rfl, rfl, s2, a2, _, _, _, _, rfl, rfl, SqT.of r2, rfl, ?_⟩
      have hlv : (nats (vis W r (l.take i))).length < sizeLine := by
        rw [List.length_map, vis_len, List.length_take]; omega
      refine ⟨_, rfl, .inl ⟨rfl, _, SqL.of hv⟩, _, rfl, D, _, _, rfl, rfl, hv, hlv, same_mut hs hD, ?_, _, by rw [e]; rfl⟩
      rw [upd_same, et, vis_snoc, ← et, e]
      simp [nats]
    · rintro σ H1 ⟨hs, hv, v, rfl⟩
      rw [lls, List.take_length] at hv
      refine ⟨_, rfl, D, ins (vis W r l), rfl, .inr (SqL.of (by rw [ins_nats]; exact hv)), by rw [List.length_map, vis_len]; omega, fun q c hq hc => ?_⟩
      have hvl : ∀ x ∈ vis W r l, x < n := g.vis_lt hrn hd
      have hc9 := hc (ins (List.range n)) fun x hx => by
        obtain ⟨y, hy, rfl⟩ := List.mem_map.mp hx
        exact List.mem_map.mpr ⟨y, List.mem_range.mpr (hvl y hy), rfl⟩
      rw [List.length_map, List.length_range] at hc9
      refine ⟨q, _, c, rfl, upd_same, by omega, fun ns p h1 h2 h3 hp => ?_⟩
      have hns := rise_asc (n := n) (l := vis W r l) hvl h1 h2
      exact k p _ (none_back (sn hs hq) hp) (sn (sn hs hq) hp) (by rw [upd_same, hns, ins_nats])
end
end Sw
/-! SwC3 -/
set_option Elab.async false
set_option linter.all false
set_option maxRecDepth 100000
set_option maxHeartbeats 4000000
namespace Sw
open PySem L2
theorem same_l {K : PySem.W.Frag} {H H' : Hp} {a : Addr} {xs : List V} (e : Same H H') (h : SqL K H a xs) : SqL K H' a xs := by
  rcases h with (h | ⟨o, h⟩) | h
  · exact .inl (.inl (e _ _ h))
  · exact .inl (.inr ⟨o, e _ _ h⟩)
  · exact .inr h
theorem lst_same {α : Type} {R : Rep α} {H H' : Hp} (s : Same H H') (r : ∀ v x, R H v x → R H' v x) {v : V} {xs : List α} (h : ListR R H v xs) : ListR R H' v xs := by
  obtain ⟨a, vs, h1, h2, h3⟩ := h
  exact ⟨a, vs, h1, s _ _ h2, pd_imp h3 r⟩
section
variable {P : Program} {w : World} {K : PySem.W.Frag} {mg : Str → Option Value} {base : Heap}
def spFolded (K : PySem.W.Frag) : Sp := fun vs H Q _ => ∃ (a : Addr) (ns : List Int), vs = [.ref a, .int 3] ∧ SqL K H a (ns.map V.int) ∧ ns.length ≤ 63 ∧
  ∀ (p : Addr) (H' : Hp) (bs : List Addr), H p = none → Same H H' → H' p = some (.lst (bs.map V.ref)) → bs.Nodup → (∀ b ∈ bs, Box H' b 0 ∧ b ≠ p ∧ H b = none) → bs.length ≤ 3 → Q (.ref p) H'
theorem ok_l_folded {f : Addr} {fd : FuncData} (F : FnP K "_law_folded" "_law_folded" s_l_folded f fd) (T : Txt mg) (c_l_box : Cal P w K mg base 1 "_law_box" p_l_box spBox) : FnOk P w K mg base CX0 2 f fd p_l_folded (spFolded K) := by
  refine okd F sc_l_folded (fun vs H Q E h => ?_) (fun cdv A outer s H vs Q E hr h => ?_)
  · obtain ⟨a, ns, rfl, _⟩ := h
    rfl
  · obtain ⟨a, ns, rfl, ha, hns, k⟩ := h
    refine ⟨_, (pss_cons (ps_set (i := 2) sc_l_folded.nd rfl (by first | exact Or.inl rfl | exact Or.inr rfl) (pe_callTy (kLstOf K) (by rfl) T.list (by decide +kernel) (pa_cons (pe_slice (kSlL K) (pv 0) po_none (po_some (pv 1))) pa_nil)))
      (pss_cons (ps_for PassesOwn.never rfl (kEnum K rfl (by rfl) T.enumerate (pa_cons (pe_slice (kSlL K) (pv 0) (po_some (pv 1)) (po_some pe_int)) pa_nil)) (kgTup (n := 2) K rfl rfl (pgs_cons (pg_name (i := 3) sc_l_folded.nd rfl (by first | exact Or.inl rfl | exact Or.inr rfl)) (pgs_cons (pg_name (i := 4) sc_l_folded.nd rfl (by first | exact Or.inl rfl | exact Or.inr rfl)) pgs_nil)))
      (pss_one (ps_asg (pe_op op_add (pe_ix (kIxL K) (pv 2) (pe_op op_mod (pv 3) (pv 1)) (fun _ _ => rfl)) (pe_op op_mul (pv 4) (pe_op op_add (pv 3) pe_int))) (pg_sub (pv 2) (pe_op op_mod (pv 3) (pv 1)) set_list))))
      (pss_one (ps_ret (pe_lc (own := [("_law_k", 3)]) rfl sc_l_folded.nd (pi_range1 (by rfl) T.range (pa_cons (pe_callB (call_max2 rfl) (by rfl) T.max (by decide +kernel) (pa_cons pe_int (pa_cons (pe_callB (kLen K) (by rfl) T.len PySem.boot_len (pa_cons (pv 2) pa_nil)) pa_nil))) pa_nil)) (blkOk_by (N := n_l_folded) (sc := defScope s_l_folded) (by decide +kernel)) (fun _ _ _ _ _ => (pg_name (i := 3) sc_l_folded.nd rfl (by first | exact Or.inl rfl | exact Or.inr rfl))) (fun _ _ _ _ _ => pts_nil) (fun _ _ _ _ _ => (pe_cal c_l_box (hr.mono (by decide)) (pa_cons (pv 2) (pa_cons (pv 3) pa_nil))))))))), ?_⟩
    have hbig : sizeLine = 16777216 := PySem.sizeLine_eq
    refine ⟨_, rfl, _, rfl, _, rfl, a, _, rfl, ha, fun q hq => ?_⟩
    have c1 : cutV (ns.map V.int) none (some 3) = (ns.take 3).map V.int := by rw [List.map_take]; exact cut_take (ns.map V.int) 3
    rw [c1]
    have s1 := same_new (H := H) (o := .lst ((ns.take 3).map V.int)) hq
    refine ⟨q, _, rfl, .inl (SqL.of upd_same), fun l hl => ?_⟩
    have s2 := sn (o := .lst ((ns.take 3).map V.int)) s1 hl
    have hlH := none_back s1 hl
    refine ⟨_, rfl, _, rfl, _, rfl, _, rfl, a, _, rfl, same_l s2 ha, fun q2 hq2 => ?_⟩
    obtain ⟨zs, hz1, hz2⟩ : ∃ zs : List Int, cutV (ns.map V.int) (some 3) (some 63) = zs.map V.int ∧ (zs ≠ [] → 3 ≤ ns.length) := by
      refine ⟨(ns.drop (HT.sIx ns.length 0 (some 3))).take (HT.sIx ns.length ns.length (some 63) - HT.sIx ns.length 0 (some 3)), ?_, fun hne => ?_⟩
      · unfold cutV
        rw [List.length_map, List.map_take, List.map_drop]
      · refine Classical.byContradiction fun hlt => hne ?_
        have e3 : HT.sIx ns.length 0 (some 3) = ns.length := (HT.sIx_nat ns.length 0 3).trans (Nat.min_eq_right (by omega))
        rw [e3, List.drop_length, List.take_nil]
    rw [hz1]
    have s3 := sn (o := .lst (zs.map V.int)) s2 hq2
    have hlq : q2 ≠ l := fun z => by rw [z, upd_same] at hq2; cases hq2
    refine ⟨q2, _, rfl, SqL.of upd_same, for_it (walk_enum (K := K) (a := q2) (xs := zs.map V.int)) (fun i σ H' => Same H H' ∧ H' q2 = some (.lst (zs.map V.int)) ∧ (∃ cs : List Int, cs.length = min 3 ns.length ∧ H' l = some (.lst (cs.map V.int))) ∧ ∃ c v, σ = [some (.ref a), some (.int 3), some (.ref l), c, v])
      ⟨s3, upd_same, ⟨ns.take 3, List.length_take, by rw [upd_ne (Ne.symm hlq)]; exact upd_same⟩, none, none, rfl⟩ (fun i σ H' _ z => SqL.of z.2.1) ?_ ?_⟩
    · rintro i x σ H1 H2 hi ⟨hs, hv2, ⟨cs, hcl, hv⟩, c, v, rfl⟩ ⟨T0, x1, y, rfl, hT, rfl, e1, hy⟩
      cases e1
      replace hy : (zs.map V.int)[i]? = some y := hy
      rw [List.getElem?_map] at hy
      obtain ⟨y, hy0, rfl⟩ := Option.map_eq_some_iff.mp hy
      have h3 : 3 ≤ ns.length := hz2 fun z => by rw [z] at hy0; simp at hy0
      have hc3 : cs.length = 3 := by omega
      have hm : i % 3 < cs.length := by omega
      have em : ((i : Nat) : Int) % 3 = ((i % 3 : Nat) : Int) := by omega
      have hs2 := sn (o := .tup [.int (i : Nat), .int y]) hs hT
      have hv3 := same_new (o := .tup [.int (i : Nat), .int y]) hT _ _ hv
      have hat : atI (cs.map V.int) (((i : Nat) : Int) % 3) = some (.int cs[i % 3]) := by
        rw [em]
        exact atI_nat (by rw [List.getElem?_map, List.getElem?_eq_getElem hm]; rfl)
      refine ⟨T0, _, rfl, SqT.of upd_same, rfl, _, _, rfl, _, _, rfl, rfl, ?_⟩
      refine ⟨_, rfl, _, rfl, _, rfl, _, _, rfl, rfl, by show (0 : Int) < 3; decide, _, _, _, _, rfl, rfl, SqL.of hv3, hat, _, rfl, _, rfl, _, _, rfl, rfl, _, _, rfl, rfl, .inr ⟨by omega, ?_⟩, _, _, rfl, rfl, _, rfl, _, rfl, _, rfl, _, _, rfl, rfl, by show (0 : Int) < 3; decide, l, _, _, i % 3, rfl, rfl, hv3, by rw [em]; exact ixn (by rw [List.length_map]; exact hm), ?_⟩
      · have : zs.length ≤ 63 ∨ True := .inr True.intro
        have hzl : i < zs.length := (List.getElem?_eq_some_iff.mp hy0).1
        have hzl2 : (zs.map V.int).length ≤ 63 := by
          rw [← hz1]
          exact Nat.le_trans (cutV_length _ _ _) (by rw [List.length_map]; exact hns)
        rw [List.length_map] at hzl2
        show ((i : Nat) : Int) + 2 < 2 ^ 64
        omega
      · refine ⟨same_mut hs2 hlH, by rw [upd_ne hlq]; exact same_new hT _ _ hv2, ⟨cs.set (i % 3) (cs[i % 3] + y * (((i : Nat) : Int) + 2)), by rw [List.length_set]; exact hcl, by rw [upd_same, List.map_set]⟩, _, _, rfl⟩
    · rintro σ H1 ⟨hs, hv2, ⟨cs, hcl, hv⟩, c, v, rfl⟩
      refine ⟨_, rfl, _, _, rfl, .inl (SqL.of hv), 1, _, rfl, _, rfl, ?_, ?_, fun D hD => ?_⟩
      · split <;> omega
      · rw [List.length_map]; split <;> omega
      have hnn : (if (((cs.map V.int).length : Nat) : Int) > 1 then (((cs.map V.int).length : Nat) : Int) else 1).toNat ≤ 3 := by
        rw [List.length_map]; split <;> omega
      generalize hN : (if (((cs.map V.int).length : Nat) : Int) > 1 then (((cs.map V.int).length : Nat) : Int) else 1).toNat = N at hnn
      have hDH := none_back hs hD
      refine lc_range (n := N) (fun i H' => Same H1 H' ∧ ∃ bs : List Addr, H' D = some (.lst (bs.map V.ref)) ∧ bs.length = i ∧ bs.Nodup ∧ ∀ b ∈ bs, Box H' b 0 ∧ b ≠ D ∧ H b = none) ⟨same_new hD, [], upd_same, rfl, List.nodup_nil, fun b hb => by simp at hb⟩ ?_ ?_
      · rintro i H2 hi ⟨hs2, bs, hb, hbl, hnd, hbs⟩
        rw [z0]
        refine ⟨rfl, yes (iteT ⟨_, rfl, _, rfl, l, cs, i, rfl, hs2 _ _ hv, by omega, fun p H3 hp s3 hB => ?_⟩)⟩
        have hb3 := s3 _ _ hb
        have hpD : p ≠ D := fun z => by rw [z, hb] at hp; cases hp
        have hpb : p ∉ bs := fun z => by
          obtain ⟨xs, hx⟩ := (hbs p z).1.some_
          rw [hp] at hx; cases hx
        refine ⟨_, hb3, by rw [List.length_map, hbl]; omega, same_mut (st hs2 s3) hD, bs ++ [p], by rw [upd_same, List.map_append]; rfl, by rw [List.length_append, hbl]; rfl, nd_snoc hnd hpb, fun b hb2 => ?_⟩
        have put : ∀ b, Box H3 b 0 → b ≠ D → Box (upd H3 D (.lst (bs.map V.ref ++ [.ref p]))) b 0 := fun b ⟨A, B, C, h1, h2⟩ hne => ⟨A, B, C, by rw [upd_ne hne]; exact h1, h2⟩
        rcases List.mem_append.mp hb2 with z | z
        · obtain ⟨h1, h2, h3⟩ := hbs b z
          exact ⟨put b (h1.s s3) h2, h2, h3⟩
        · rw [List.mem_singleton.mp z]
          exact ⟨put p hB hpD, hpD, none_back (st hs hs2) hp⟩
      · rintro H2 ⟨hs2, bs, hb, hbl, hnd, hbs⟩
        exact k D H2 bs hDH (st hs hs2) hb hnd hbs (by omega)
/-! ### half ties joined -/
theorem EndR.kd {H H' : Hp} {d : Addr} {kvs : List (List Key × V)} {v : V} {e : End} (k : Kp d H H') (hd : H d = some (.dT kvs)) (h : EndR H v e) : EndR H' v e := by
  obtain ⟨a, rfl, ha⟩ := h
  exact ⟨a, rfl, k _ _ (fun z => by rw [z, hd] at ha; cases ha) ha⟩
abbrev HalvesR : Rep (List (List Half)) := ListR (ListR EndR)
theorem halves_same {H H' : Hp} (s : Same H H') {v : V} {hs : List (List Half)} (h : HalvesR H v hs) : HalvesR H' v hs := lst_same s (fun _ _ z => lst_same s (fun _ _ y => firm_end.s s y) z) h
def spJoined : Sp := fun vs H Q _ => ∃ (hb : Addr) (many doors : Nat) (hs : List (List Half)), vs = [.ref hb] ∧ HalvesR H (.ref hb) hs ∧ Hv many doors hs ∧ 0 < many ∧ many ≤ 9 ∧ doors ≤ 9 ∧
  ∀ (p : Addr) (H' : Hp) (W : Web), H p = none → Same H H' → WebR H' (.ref p) W → Ev W many doors → Q (.ref p) H'
theorem ok_l_joined {f : Addr} {fd : FuncData} (F : FnP K "_law_joined" "_law_joined" s_l_joined f fd) (T : Txt mg) : FnOk P w K mg base CX0 1 f fd p_l_joined spJoined := by
  refine okd F sc_l_joined (fun vs H Q E h => ?_) (fun cdv A outer s H vs Q E hr h => ?_)
  · obtain ⟨hb, many, doors, hs, rfl, _⟩ := h
    rfl
  · obtain ⟨hb, many, doors, hs, rfl, hH, hv, hm0, hm9, hd9, k⟩ := h
    refine ⟨_, (pss_cons (ps_set (i := 1) sc_l_joined.nd rfl (by first | exact Or.inl rfl | exact Or.inr rfl) pe_dnewT)
      (pss_cons (ps_for PassesOwn.never rfl (pi_range1 (by rfl) T.range (pa_cons (pe_callB (kLen K) (by rfl) T.len PySem.boot_len (pa_cons (pv 0) pa_nil)) pa_nil)) (pg_name (i := 2) sc_l_joined.nd rfl (by first | exact Or.inl rfl | exact Or.inr rfl))
      (pss_one (ps_for PassesOwn.never rfl (kEnum K rfl (by rfl) T.enumerate (pa_cons (pe_ix (kIxL K) (pv 0) (pv 2) (fun _ _ => rfl)) pa_nil)) (kgTup (n := 2) K rfl rfl (pgs_cons (pg_name (i := 3) sc_l_joined.nd rfl (by first | exact Or.inl rfl | exact Or.inr rfl)) (pgs_cons (pg_name (i := 4) sc_l_joined.nd rfl (by first | exact Or.inl rfl | exact Or.inr rfl)) pgs_nil)))
      (pss_one (ps_dput (hu_of hr) (pv 1) (pv 4) (pe_tup (pa_cons (pv 2) (pa_cons (pv 3) pa_nil))) rfl)))))
      (pss_cons (ps_set (i := 5) sc_l_joined.nd rfl (by first | exact Or.inl rfl | exact Or.inr rfl) (pe_lst pa_nil))
      (pss_cons (ps_for PassesOwn.never rfl (kList K rfl (pv 0)) (pg_name (i := 6) sc_l_joined.nd rfl (by first | exact Or.inl rfl | exact Or.inr rfl))
      (pss_one (ps_expr (pe_bm PySem.F.plainAttrs_list PySem.F.slot_list_append PySem.F.type_list_append mt_append (pv 5) (pa_cons (pe_callTy (kTupOf K) (by rfl) T.tuple (by decide +kernel) (pa_cons (pe_lc (own := [("_law_tie", 7), ("_law_side", 8)]) rfl sc_l_joined.nd (kList K rfl (pv 6)) (blkOk_by (N := n_l_joined) (sc := defScope s_l_joined) (by decide +kernel)) (fun _ _ _ _ _ => (kgTup (n := 2) K rfl rfl (pgs_cons (pg_name (i := 7) sc_l_joined.nd rfl (by first | exact Or.inl rfl | exact Or.inr rfl)) (pgs_cons (pg_name (i := 8) sc_l_joined.nd rfl (by first | exact Or.inl rfl | exact Or.inr rfl)) pgs_nil)))) (fun _ _ _ _ _ => pts_nil) (fun _ _ _ _ _ => (pe_dget (hu_of hr) (pv 1) (pe_tup (pa_cons (pv 7) (pa_cons (pe_ix (kIxL K) (pe_lst (pa_cons pe_int (pa_cons pe_int (pa_cons pe_int pa_nil)))) (pv 8) (fun _ _ => rfl)) pa_nil))) (fun _ _ => rfl)))) pa_nil)) pa_nil)))))
      (pss_one (ps_ret (pe_callTy (kTupOf K) (by rfl) T.tuple (by decide +kernel) (pa_cons (pv 5) pa_nil)))))))), ?_⟩
    have hbig : sizeLine = 16777216 := PySem.sizeLine_eq
    obtain ⟨_, ras, e0, hra, pra⟩ := hH
    cases e0
    have hrl : ras.length = many := by rw [Paired.length pra, hv.len]
    refine fun Dt hDt => ?_
    have sT := same_new (o := .dT []) hDt
    refine ⟨_, rfl, _, _, rfl, .inl (SqL.of (sT _ _ hra)), _, rfl, by omega, by omega, ?_⟩
    have rowOf : ∀ r, r < many → ∃ ra vs, ras[r]? = some (.ref ra) ∧ H ra = some (.lst vs) ∧ Paired (EndR H) vs (hs.getD r []) := fun r hr => by
      have hg : hs[r]? = some (hs.getD r []) := get_of_lt [] (by rw [hv.len]; exact hr)
      obtain ⟨x, hx, ra, vs, rfl, h1, h2⟩ := pd_get pra hg
      exact ⟨ra, vs, hx, h1, h2⟩
    -- what the dict holds
    let Got : Nat → Nat → Ld → Prop := fun room door m => ∀ r i h, Stands hs r i h → (r < room ∨ (r = room ∧ i < door)) → lk m h = some (r, i)
    refine for_range (n := ras.length) (fun r σ H' => Same H H' ∧ (∃ kvs m, H' Dt = some (.dT kvs) ∧ LdR H' kvs m ∧ kvs.length ≤ r * 9 ∧ Got r 0 m) ∧ ∃ a b c, σ = [some (.ref hb), some (.ref Dt), a, b, c, none, none, none, none])
      ⟨sT, ⟨[], [], upd_same, .nil, Nat.zero_le _, fun r i h _ z => by omega⟩, none, none, none, rfl⟩ ?_ ?_
    · rintro r σ H1 hr ⟨hs1, ⟨kvs, m, hdt, hL, hkl, hgot⟩, a, b, c, rfl⟩
      rw [z0]
      rw [hrl] at hr
      obtain ⟨ra, vs, hx, hva, pv⟩ := rowOf r hr
      have hrow := hv.rows r hr
      have hvl : vs.length = doors := by rw [Paired.length pv, hrow]
      refine ⟨_, rfl, _, rfl, _, _, _, _, rfl, rfl, SqL.of (hs1 _ _ hra), atI_nat hx, ra, vs, rfl, SqL.of (hs1 _ _ hva), for_it (walk_enum (K := K) (a := ra) (xs := vs)) (fun i σ H' => Same H H' ∧ (∃ kvs m, H' Dt = some (.dT kvs) ∧ LdR H' kvs m ∧ kvs.length ≤ r * 9 + i ∧ Got r i m) ∧ ∃ b c, σ = [some (.ref hb), some (.ref Dt), some (.int (r : Int)), b, c, none, none, none, none])
        ⟨hs1, ⟨kvs, m, hdt, hL, by omega, hgot⟩, _, _, rfl⟩ (fun i σ H' _ z => SqL.of (z.1 _ _ hva)) ?_ ?_⟩
      · rintro i x σ H2 H3 hi ⟨hs2, ⟨kvs, m, hdt, hL, hkl, hgot⟩, b, c, rfl⟩ ⟨T0, x1, y, rfl, hT, rfl, e1, hy⟩
        cases e1
        obtain ⟨h, hh, rh⟩ := pd_get' pv hy
        have hst : Stands hs r i h := hh
        have s3 := sn (o := .tup [.int (i : Nat), y]) hs2 hT
        refine ⟨T0, _, rfl, SqT.of upd_same, rfl, _, _, rfl, _, _, rfl, rfl, ?_⟩
        refine ⟨_, rfl, _, rfl, by show 2 ≤ sizeLine; decide, fun p hp => ?_⟩
        have s4 := sn (o := .tup [.int (r : Int), .int (i : Int)]) s3 hp
        have s24 : Same H2 (upd (upd H2 T0 (.tup [.int (i : Nat), y])) p (.tup [.int (r : Int), .int (i : Int)])) := sn (same_new hT) hp
        obtain ⟨hc, rfl, hhc⟩ := firm_end.s s4 rh
        have hdt4 := s24 _ _ hdt
        refine ⟨_, rfl, _, rfl, Dt, _, rfl, DPut.t (k := keyE h) hdt4 hhc (by omega), ?_⟩
        have hL4 := hL.firm (nl_of s24)
        have hp2 : LdR (upd (upd H2 T0 (.tup [.int (i : Nat), .ref hc])) p (.tup [.int (r : Int), .int (i : Int)])) (putK kvs (keyE h) (.ref p)) (put m h (r, i)) := LdR.put hL4 h (r, i) ⟨p, rfl, upd_same⟩
        refine ⟨same_mut s4 hDt, ⟨_, put m h (r, i), upd_same, pd_imp hp2 fun _ _ z => ⟨z.1, EndR.kd (Kp.put (Kp.refl Dt _)) hdt4 z.2⟩, ?_, fun r' i' h' hst' hlt => ?_⟩, _, _, rfl⟩
        · have := length_putK kvs (keyE h) (.ref p)
          omega
        · rw [lk_put]
          by_cases e : h' = h
          · rw [if_pos e]
            obtain ⟨u1, u2⟩ := hv.uniq r i r' i' h hst (e ▸ hst')
            rw [u1, u2]
          · rw [if_neg e]
            refine hgot r' i' h' hst' ?_
            rcases hlt with z | ⟨z1, z2⟩
            · exact .inl z
            · refine .inr ⟨z1, ?_⟩
              have hne : i' ≠ i := fun z => e (by
                subst z; subst z1
                have a1 : (hs.getD r' [])[i']? = some h' := hst'
                have a2 : (hs.getD r' [])[i']? = some h := hst
                rw [a1] at a2
                exact Option.some.inj a2)
              omega
      · rintro σ H2 ⟨hs2, ⟨kvs, m, hdt, hL, hkl, hgot⟩, b, c, rfl⟩
        refine ⟨hs2, ⟨kvs, m, hdt, hL, by omega, fun r' i' h' hst' hlt => hgot r' i' h' hst' ?_⟩, _, _, _, rfl⟩
        rcases hlt with z | ⟨_, z⟩
        · by_cases e : r' = r
          · refine .inr ⟨e, ?_⟩
            have hl : (hs.getD r' [])[i']? = some h' := hst'
            have := (List.getElem?_eq_some_iff.mp hl).1
            rw [e, hrow] at this
            omega
          · exact .inl (by omega)
        · omega
    · rintro σ H1 ⟨hs1, ⟨kvs, m, hdt, hL, hkl, hgot⟩, a, b, c, rfl⟩
      have hget : ∀ r i h, Stands hs r i h → lk m h = some (r, i) := fun r i h s => hgot r i h s (.inl (by
        have := stands_lt s
        rw [hv.len] at this
        omega))
      -- the web
      refine ⟨by show 0 ≤ sizeLine; decide, fun D hD => ?_⟩
      have hDH := none_back hs1 hD
      have sD := sn (o := .lst []) hs1 hD
      have hDtD : Dt ≠ D := ne_of_none hdt hD
      let rowW : List Half → List End := fun hr => hr.map fun h => (lk m (tw h)).getD (0, 0)
      refine ⟨_, rfl, hb, rfl, ⟨ras, SqL.of (sD _ _ hra)⟩, for_list (K := K) (a := hb) (xs := ras) (fun r σ H' => Same H H' ∧ H' Dt = some (.dT kvs) ∧ LdR H' kvs m ∧ ListR RowR H' (.ref D) ((hs.take r).map rowW) ∧ ∃ a b c e, σ = [some (.ref hb), some (.ref Dt), a, b, c, some (.ref D), e, none, none])
        ⟨sD, same_new hD _ _ hdt, hL.firm (nl_of (same_new hD)), ⟨D, [], rfl, upd_same, .nil⟩, _, _, _, none, rfl⟩ (fun r σ H' _ z => SqL.of (z.1 _ _ hra)) ?_ ?_⟩
      · rintro r x σ H2 hx ⟨hs2, hdt2, hL2, ⟨_, ws, e1, hw, pw⟩, a, b, c, e, rfl⟩
        cases e1
        have hr : r < many := by rw [← hrl]; exact (List.getElem?_eq_some_iff.mp hx).1
        obtain ⟨ra, vs, hx', hva, pv⟩ := rowOf r hr
        rw [hx] at hx'
        cases hx'
        have hrow := hv.rows r hr
        have hvl : vs.length = doors := by rw [Paired.length pv, hrow]
        refine ⟨_, rfl, .inl ⟨rfl, ws, SqL.of hw⟩, _, rfl, ra, rfl, ⟨vs, SqL.of (hs2 _ _ hva)⟩, fun D2 hD2 => ?_⟩
        refine lc_list (K := K) (a := ra) (xs := vs) (fun i H' => Same H2 H' ∧ ∃ us, H' D2 = some (.lst us) ∧ Paired (EndR H') us (((hs.getD r []).take i).map fun h => (lk m (tw h)).getD (0, 0))) ⟨same_new hD2, [], upd_same, .nil⟩ (fun i H' _ z => SqL.of (z.1 _ _ (hs2 _ _ hva))) ?_ ?_
        · rintro i y H3 hy ⟨hs3, us, hu, pu⟩
          obtain ⟨h, hh, hc, rfl, hhc⟩ := pd_get' pv hy
          have hst : Stands hs r i h := hh
          have hhc3 := hs3 _ _ (hs2 _ _ hhc)
          refine ⟨hc, _, rfl, SqT.of hhc3, rfl, _, _, rfl, _, _, rfl, rfl, rfl, yes (iteT ?_)⟩
          have hside := hv.side r i h hst
          obtain ⟨r2, i2, hst2⟩ := hv.twin r i h hst
          have hlk := hget r2 i2 (tw h) hst2
          have hat : atI [V.int 1, V.int 0, V.int 2] (h.2 : Int) = some (.int ((tw h).2 : Int)) := by
            obtain ⟨h1, h2⟩ := h
            have hside : h2 ≤ 2 := hside
            match h2, hside with
            | 0, _ => rfl
            | 1, _ => rfl
            | 2, _ => rfl
          refine ⟨_, rfl, _, rfl, by show 3 ≤ sizeLine; decide, fun q hq => ⟨_, rfl, _, _, _, _, rfl, rfl, SqL.of upd_same, hat, by show 2 ≤ sizeLine; decide, fun t ht => ?_⟩⟩
          have s5 : Same H3 (upd (upd H3 q (.lst [V.int 1, V.int 0, V.int 2])) t (.tup [.int (h.1 : Int), .int ((tw h).2 : Int)])) := sn (same_new hq) ht
          have hL5 := (hL2.firm (nl_of hs3)).firm (nl_of s5)
          obtain ⟨y2, hy2, ry2⟩ := hL5.some_ hlk
          refine ⟨Dt, y2, rfl, by rw [← hy2]; exact DGet.t (k := keyE (tw h)) (s5 _ _ (hs3 _ _ hdt2)) upd_same, us, s5 _ _ hu, ?_, same_mut (st hs3 s5) hD2, us ++ [y2], upd_same, ?_⟩
          · rw [Paired.length pu, List.length_map, List.length_take, hrow]; omega
          · have z : (hs.getD r []).take (i + 1) = (hs.getD r []).take i ++ [h] := by rw [List.take_add_one, hh]; rfl
            rw [z, List.map_append]
            have hu5 := s5 _ _ hu
            refine pd_app (firm_end.all (NL.trans (nl_of s5) (nl_lst hu5)) pu) (.cons ?_ .nil)
            show EndR _ _ ((lk m (tw h)).getD (0, 0))
            rw [hlk]
            exact firm_end _ _ _ _ (nl_lst hu5) ry2
        · rintro H3 ⟨hs3, us, hu, pu⟩
          rw [Paired.length pv, List.take_length] at pu
          refine ⟨D2, us, rfl, .inl ⟨SqL.of hu, fun l hl => ?_⟩⟩
          have s4 := sn (o := .tup us) hs3 hl
          have hw4 := s4 _ _ hw
          have nl4 := NL.trans (nl_of s4) (nl_lst (ys := ws ++ [.ref l]) hw4)
          refine ⟨D, ws, _, rfl, rfl, hw4, ?_, same_mut (st hs2 s4) hDH, by rw [upd_ne hDtD]; exact s4 _ _ hdt2, hL2.firm nl4, ⟨D, ws ++ [.ref l], rfl, upd_same, ?_⟩, _, _, _, _, rfl⟩
          · rw [Paired.length pw, List.length_map, List.length_take, hv.len]; omega
          · have hg : hs[r]? = some (hs.getD r []) := get_of_lt [] (by rw [hv.len]; exact hr)
            have z : hs.take (r + 1) = hs.take r ++ [hs.getD r []] := by rw [List.take_add_one, hg]; rfl
            rw [z, List.map_append]
            exact pd_app (firm_row.all nl4 pw) (.cons (firm_row _ _ _ _ (nl_lst hw4) ⟨l, us, rfl, upd_same, firm_end.all (nl_of (same_new hl)) pu⟩) .nil)
      · rintro σ H2 ⟨hs2, hdt2, hL2, ⟨_, ws, e1, hw, pw⟩, a, b, c, e, rfl⟩
        cases e1
        rw [Paired.length pra, List.take_length] at pw
        refine ⟨_, rfl, D, ws, rfl, .inl ⟨SqL.of hw, fun l hl => ?_⟩⟩
        refine k l _ (hs.map rowW) (none_back hs2 hl) (sn hs2 hl) ⟨l, ws, rfl, upd_same, firm_row.all (nl_of (same_new hl)) pw⟩ ?_
        have hrowW : ∀ r, r < many → row (hs.map rowW) r = rowW (hs.getD r []) := fun r hr => by
          have hg : hs[r]? = some (hs.getD r []) := get_of_lt [] (by rw [hv.len]; exact hr)
          exact getD_of (by rw [List.getElem?_map, hg]; rfl)
        refine hv.ev hm0 (by rw [List.length_map, hv.len]) (fun r hr => by rw [hrowW r hr]; show (List.map _ _).length = _; rw [List.length_map]; exact hv.rows r hr) fun r i x hst => ?_
        have hr : r < many := by
          have := stands_lt hst
          rw [hv.len] at this; exact this
        obtain ⟨r2, i2, hst2⟩ := hv.twin r i x hst
        have hlk := hget r2 i2 (tw x) hst2
        have een : en (hs.map rowW) r i = (r2, i2) := by
          unfold en
          rw [hrowW r hr]
          refine getD_of ?_
          show ((hs.getD r []).map _)[i]? = _
          rw [List.getElem?_map, show (hs.getD r [])[i]? = some x from hst]
          show some ((lk m (tw x)).getD (0, 0)) = _
          rw [hlk]; rfl
        rw [een]
        exact hst2
end
end Sw
/-! SwC4 -/
set_option Elab.async false
set_option linter.all false
set_option maxRecDepth 100000
set_option maxHeartbeats 4000000
namespace Sw
open PySem L2
def HalvesAt (H : Hp) (ras : List Addr) (hs : List (List Half)) : Prop := Paired (fun ra h => ∃ vs, H ra = some (.lst vs) ∧ Paired (EndR H) vs h) ras hs
theorem HalvesAt.mono {H H' : Hp} {ras : List Addr} {hs : List (List Half)} (k : ∀ ra ∈ ras, ∀ o, H ra = some o → H' ra = some o) (n : NL H H') (h : HalvesAt H ras hs) : HalvesAt H' ras hs :=
  pd_imp_mem h fun ra hra y ⟨vs, h1, h2⟩ => ⟨vs, k ra hra _ h1, firm_end.all n h2⟩
theorem HalvesAt.set {H H' : Hp} {ras : List Addr} {hs : List (List Half)} {r : Nat} {ra : Addr} {l : List Half} {vs : List V} (k : ∀ x ∈ ras, x ≠ ra → ∀ o, H x = some o → H' x = some o) (n : NL H H') (nd : ras.Nodup) (hr : ras[r]? = some ra) (h : HalvesAt H ras hs) (hv : H' ra = some (.lst vs)) (pv : Paired (EndR H') vs l) :
    HalvesAt H' ras (hs.set r l) := by
  have hlen := Paired.length h
  refine pd_of_get (by rw [List.length_set]; exact hlen) fun i y hy => ?_
  have hri := (List.getElem?_eq_some_iff.mp hr)
  by_cases e : i = r
  · subst e
    rw [List.getElem?_set_self (by rw [← hlen]; exact hri.1)] at hy
    cases hy
    exact ⟨ra, hr, vs, hv, pv⟩
  · rw [List.getElem?_set_ne fun z => e z.symm] at hy
    obtain ⟨x, hx, us, h1, h2⟩ := pd_get h hy
    have hne : x ≠ ra := fun z => by
      subst z
      have hxi := List.getElem?_eq_some_iff.mp hx
      exact e ((List.getElem_inj nd).mp (hxi.2.trans hri.2.symm))
    exact ⟨x, hx, us, k x (List.mem_of_getElem? hx) hne _ h1, firm_end.all n h2⟩
theorem HalvesAt.rep {H : Hp} {ras : List Addr} {hs : List (List Half)} {hb : Addr} (h : HalvesAt H ras hs) (hh : H hb = some (.lst (ras.map V.ref))) : HalvesR H (.ref hb) hs := by
  refine ⟨hb, _, rfl, hh, ?_⟩
  clear hh
  induction h with
  | nil => exact .nil
  | cons r _ ih =>
    obtain ⟨vs, h1, h2⟩ := r
    exact .cons ⟨_, vs, rfl, h1, h2⟩ ih
theorem sides_len (many k : Nat) (p : Nat × Nat) : (sidesOf many k p).length ≤ 2 := by unfold sidesOf; split <;> simp
theorem hts_len (many : Nat) : ∀ (ps : List (Nat × Nat)) (k : Nat), (htsFrom many k ps).length ≤ 2 * ps.length
  | [], k => by simp [htsFrom]
  | p :: ps, k => by
    have h1 := sides_len many k p
    have h2 := hts_len many ps (k + 1)
    show (sidesOf many k p ++ htsFrom many (k + 1) ps).length ≤ 2 * (ps.length + 1)
    rw [List.length_append]; omega
theorem Put.few {many : Nat} {hs : List (List Half)} {HL : List (Nat × Half)} (h : Put many hs HL) {r : Nat} (hr : r < many) : (hs.getD r []).length ≤ HL.length := by
  rw [(h.perm r hr).length_eq]
  unfold ofRoom
  rw [List.length_map]
  exact List.length_filter_le _ _
theorem none_kp {b p : Addr} {H H' : Hp} {xs : List V} (k : Kp b H H') (hb : H' b = some (.lst xs)) (hp : H' p = none) : H p = none := by
  cases z : H p with
  | none => rfl
  | some o =>
    by_cases e : p = b
    · rw [e, hb] at hp; cases hp
    · rw [k p o e z] at hp; cases hp
section
variable {P : Program} {w : World} {K : PySem.W.Frag} {mg : Str → Option Value} {base : Heap}
theorem sides_te {σ : L2.St} {H : Hp} {Q : VK} {many k : Nat} {p : Nat × Nat} (h6 : σ[6]? = some (some (.int (p.1 : Int)))) (h7 : σ[7]? = some (some (.int (p.2 : Int)))) (h2 : σ[2]? = some (some (.int (many : Int))))
    (q : ∀ (sd : Addr) (H4 : Hp), H sd = none → Same H H4 → ListR EndR H4 (.ref sd) ((sidesOf many k p).map fun x => (x.1, x.2.2)) → Q (.ref sd) H4) :
    tIf (tTest (tOp rEq (tVar 7) (tVar 2))) (tLst (tCons (tTup (tCons (tVar 6) (tCons (tC (.int 2)) tNil))) tNil)) (tLst (tCons (tTup (tCons (tVar 6) (tCons (tC (.int 0)) tNil))) (tCons (tTup (tCons (tVar 7) (tCons (tC (.int 1)) tNil))) tNil))) σ H Q := by
  refine ⟨_, h7, _, h2, rfl, _, rfl, ite2 (fun hc => ?_) fun hc => ?_⟩
  · have e : p.2 = many := by have := of_decide_eq_true hc; rw [V.int.injEq] at this; omega
    refine ⟨_, h6, by show 2 ≤ sizeLine; decide, fun t ht => ⟨by show 1 ≤ sizeLine; decide, fun sd hsd => ?_⟩⟩
    refine q sd _ (none_back (same_new ht) hsd) (sn (same_new ht) hsd) ⟨sd, _, rfl, upd_same, ?_⟩
    unfold sidesOf
    rw [if_pos e]
    exact .cons ⟨t, rfl, same_new hsd _ _ upd_same⟩ .nil
  · have e : ¬ p.2 = many := fun z => hc (by rw [z]; exact decide_eq_true rfl)
    refine ⟨_, h6, by show 2 ≤ sizeLine; decide, fun t ht => ⟨_, h7, by show 2 ≤ sizeLine; decide, fun u hu => ⟨by show 2 ≤ sizeLine; decide, fun sd hsd => ?_⟩⟩⟩
    refine q sd _ (none_back (sn (same_new ht) hu) hsd) (sn (sn (same_new ht) hu) hsd) ⟨sd, _, rfl, upd_same, ?_⟩
    unfold sidesOf
    rw [if_neg e]
    exact .cons ⟨t, rfl, same_new hsd _ _ (same_new hu _ _ upd_same)⟩ (.cons ⟨u, rfl, same_new hsd _ _ upd_same⟩ .nil)
def spDoors : Sp := fun vs H Q _ => ∃ (b pb : Addr) (c many doors : Nat) (ps : List (Nat × Nat)) (left : List Nat), vs = [.ref b, .ref pb, .int (many : Int)] ∧ Box H b c ∧ c ≤ 10000 ∧ pb ≠ b ∧ ListR EndR H (.ref pb) ps ∧ Drawn many doors left ps ∧ left.sum = 0 ∧ Tree many ps ∧ 0 < many ∧ many ≤ 9 ∧ doors ≤ 9 ∧ ps.length ≤ 200 ∧
  ∀ (p : Addr) (W : Web) (H' : Hp), H p = none → Kp b H H' → Box H' b (c + 2 * ps.length) → WebR H' (.ref p) W → Ev W many doors → Q (.ref p) H'
theorem ok_l_doors_put {f : Addr} {fd : FuncData} (F : FnP K "_law_doors_put" "_law_doors_put" s_l_doors_put f fd) (T : Txt mg) (c_l_take : Cal P w K mg base 1 "_law_take" p_l_take spTake) (c_l_joined : Cal P w K mg base 1 "_law_joined" p_l_joined spJoined) : FnOk P w K mg base CX0 2 f fd p_l_doors_put spDoors := by
  refine okd F sc_l_doors_put (fun vs H Q E h => ?_) (fun cdv A outer s H vs Q E hr h => ?_)
  · obtain ⟨b, pb, c, many, doors, ps, left, rfl, _⟩ := h
    rfl
  · obtain ⟨b, pb, c, many, doors, ps, left, rfl, hB, hc, hpbb, hps, hDr, hsum, hTree, hm0, hm9, hd9, hpl, k⟩ := h
    refine ⟨_, (pss_cons (ps_setLc (i := 3) (own := [("_law_room", 4)]) rfl sc_l_doors_put.nd rfl rfl (sw_true rfl rfl rfl (by decide +kernel)) (pi_range1 (by rfl) T.range (pa_cons (pv 2) pa_nil)) (blkOk_by (N := n_l_doors_put) (sc := defScope s_l_doors_put) (by decide +kernel)) (fun _ _ _ _ _ => (pg_name (i := 4) sc_l_doors_put.nd rfl (by first | exact Or.inl rfl | exact Or.inr rfl))) (fun _ _ _ _ _ => pts_nil) (fun _ _ _ _ _ => (pe_lst pa_nil)))
      (pss_cons (ps_for PassesOwn.never rfl (kEnum K rfl (by rfl) T.enumerate (pa_cons (pv 1) pa_nil)) (kgTup (n := 2) K rfl rfl (pgs_cons (pg_name (i := 5) sc_l_doors_put.nd rfl (by first | exact Or.inl rfl | exact Or.inr rfl)) (pgs_cons (kgTup (n := 2) K rfl rfl (pgs_cons (pg_name (i := 6) sc_l_doors_put.nd rfl (by first | exact Or.inl rfl | exact Or.inr rfl)) (pgs_cons (pg_name (i := 7) sc_l_doors_put.nd rfl (by first | exact Or.inl rfl | exact Or.inr rfl)) pgs_nil))) pgs_nil)))
      (pss_cons (ps_set (i := 8) sc_l_doors_put.nd rfl (by first | exact Or.inl rfl | exact Or.inr rfl) (pe_ifExp (pt_cmpR op_eq (pv 7) (pv 2) (nomark _)) (pe_lst (pa_cons (pe_tup (pa_cons (pv 6) (pa_cons pe_int pa_nil))) pa_nil)) (pe_lst (pa_cons (pe_tup (pa_cons (pv 6) (pa_cons pe_int pa_nil))) (pa_cons (pe_tup (pa_cons (pv 7) (pa_cons pe_int pa_nil))) pa_nil)))))
      (pss_one (ps_for PassesOwn.never rfl (kList K rfl (pv 8)) (kgTup (n := 2) K rfl rfl (pgs_cons (pg_name (i := 4) sc_l_doors_put.nd rfl (by first | exact Or.inl rfl | exact Or.inr rfl)) (pgs_cons (pg_name (i := 9) sc_l_doors_put.nd rfl (by first | exact Or.inl rfl | exact Or.inr rfl)) pgs_nil)))
      (pss_one (ps_expr (pe_bm PySem.F.plainAttrs_list PySem.F.slot_list_insert PySem.F.type_list_insert mt_insert (pe_ix (kIxL K) (pv 3) (pv 4) (fun _ _ => rfl)) (pa_cons (pe_cal c_l_take (hr.mono (by decide)) (pa_cons (pv 0) (pa_cons (pe_op op_add (pe_callB (kLen K) (by rfl) T.len PySem.boot_len (pa_cons (pe_ix (kIxL K) (pv 3) (pv 4) (fun _ _ => rfl)) pa_nil)) pe_int) pa_nil))) (pa_cons (pe_tup (pa_cons (pv 5) (pa_cons (pv 9) pa_nil))) pa_nil)))))))))
      (pss_one (ps_ret (pe_cal c_l_joined (hr.mono (by decide)) (pa_cons (pv 3) pa_nil)))))), ?_⟩
    have hbig : sizeLine = 16777216 := PySem.sizeLine_eq
    obtain ⟨_, pvs, e0, hpb, ppv⟩ := hps
    cases e0
    have hpvl := Paired.length ppv
    obtain ⟨bx, hbx⟩ := hB.some_
    refine ⟨_, rfl, _, rfl, by omega, by omega, fun hb hhb => ?_⟩
    have hbb : b ≠ hb := ne_of_none hbx hhb
    refine lc_range (n := many) (fun i H' => Same H H' ∧ ∃ ras : List Addr, H' hb = some (.lst (ras.map V.ref)) ∧ ras.length = i ∧ ras.Nodup ∧ ∀ ra ∈ ras, H' ra = some (.lst []) ∧ H ra = none ∧ ra ≠ hb) ⟨same_new hhb, [], upd_same, rfl, List.nodup_nil, fun ra z => by simp at z⟩ ?_ ?_
    · rintro i H1 hi ⟨hs1, ras, hr1, hrl, hnd, hra⟩
      refine ⟨rfl, yes (iteT ⟨by show 0 ≤ sizeLine; decide, fun p hp => ?_⟩)⟩
      have hr2 := same_new (o := .lst []) hp _ _ hr1
      have hpb2 : p ≠ hb := fun z => by rw [z, hr1] at hp; cases hp
      have hpn : p ∉ ras := fun z => by rw [(hra p z).1] at hp; cases hp
      refine ⟨_, hr2, by rw [List.length_map, hrl]; omega, same_mut (sn hs1 hp) hhb, ras ++ [p], by rw [upd_same, List.map_append]; rfl, by rw [List.length_append, hrl]; rfl, nd_snoc hnd hpn, fun ra hra2 => ?_⟩
      rcases List.mem_append.mp hra2 with z | z
      · obtain ⟨h1, h2, h3⟩ := hra ra z
        exact ⟨by rw [upd_ne h3]; exact same_new hp _ _ h1, h2, h3⟩
      · rw [List.mem_singleton.mp z]
        exact ⟨by rw [upd_ne hpb2]; exact upd_same, none_back hs1 hp, hpb2⟩
    · rintro H1 ⟨hs1, ras, hr1, hrl, hnd, hra⟩
      have hbra : ∀ ra ∈ ras, ra ≠ b := fun ra z e => by have := (hra ra z).2.1; rw [e, hbx] at this; cases this
      have hpbra : ∀ ra ∈ ras, ra ≠ pb := fun ra z e => by have := (hra ra z).2.1; rw [e, hpb] at this; cases this
      have hpbhb : pb ≠ hb := ne_of_none hpb hhb
      have h0 : HalvesAt H1 ras (List.replicate many []) := pd_of_get (by rw [List.length_replicate]; exact hrl) fun i y hy => by
        have hi : i < many := by have := (List.getElem?_eq_some_iff.mp hy).1; rwa [List.length_replicate] at this
        have hi2 : i < ras.length := by rw [hrl]; exact hi
        have ey : y = [] := by rw [List.getElem?_replicate, if_pos hi] at hy; exact (Option.some.inj hy).symm
        subst ey
        exact ⟨ras[i], List.getElem?_eq_getElem hi2, [], (hra _ (List.getElem_mem hi2)).1, .nil⟩
      refine ⟨_, rfl, pb, pvs, rfl, SqL.of (hs1 _ _ hpb), for_it (walk_enum (K := K) (a := pb) (xs := pvs)) (fun i σ H' => Kp b H H' ∧ Box H' b (c + 2 * i) ∧ H' hb = some (.lst (ras.map V.ref)) ∧ (∃ hs, HalvesAt H' ras hs ∧ Put many hs (hts many (ps.take i))) ∧
          ∃ a4 a5 a6 a7 a8 a9, σ = [some (.ref b), some (.ref pb), some (.int (many : Int)), some (.ref hb), a4, a5, a6, a7, a8, a9])
        ⟨.of hs1, hB.s hs1, hr1, ⟨_, h0, Put.start many⟩, none, none, none, none, none, none, rfl⟩ (fun i σ H' _ z => SqL.of (z.1 _ _ hpbb hpb)) ?_ ?_⟩
      · rintro i x σ H2 H3 hi ⟨k2, hB2, hh2, ⟨hs, hat, hput⟩, a4, a5, a6, a7, a8, a9, rfl⟩ ⟨T0, x1, y, rfl, hT, rfl, e1, hy⟩
        cases e1
        obtain ⟨p, hp, re⟩ := pd_get' ppv hy
        have hpr := hDr.rng p (List.mem_of_getElem? hp)
        have nlH2 := hB.nl k2
        have hil : i < 200 := by omega
        obtain ⟨c1, rfl, hc1⟩ := firm_end _ _ _ _ nlH2 re
        have s3 := same_new (H := H2) (o := .tup [.int (i : Nat), .ref c1]) hT
        refine ⟨T0, _, rfl, SqT.of upd_same, rfl, _, _, rfl, _, _, rfl, c1, _, rfl, SqT.of (s3 _ _ hc1), rfl, _, _, rfl, _, _, rfl, rfl, rfl, ?_⟩
        dsimp only [tSeq, tAsg]
        refine sides_te (k := i) (p := p) rfl rfl rfl fun sd H4 hsd s4' hsl => ?_
        have s4 : Same H2 H4 := st s3 s4'
        have hsd2 : H2 sd = none := none_back s3 hsd
        obtain ⟨_, sv, e0, hsv, psv⟩ := hsl
        cases e0
        have hsdb : sd ≠ b := fun z => by
          obtain ⟨xs, hxs⟩ := hB2.some_
          rw [z, hxs] at hsd2; cases hsd2
        have hsdra : ∀ ra ∈ ras, ra ≠ sd := fun ra z e => by
          obtain ⟨y, _, vs, h1, _⟩ := pd_mem hat z
          rw [e, hsd2] at h1; cases h1
        have hsvl := Paired.length psv
        rw [List.length_map] at hsvl
        have hs2l := sides_len many i p
        have eht : hts many (ps.take (i + 1)) = hts many (ps.take i) ++ sidesOf many i p := by
          have z : ps.take (i + 1) = ps.take i ++ [p] := by rw [List.take_add_one, hp]; rfl
          have hlt : (ps.take i).length = i := by rw [List.length_take]; have := (List.getElem?_eq_some_iff.mp hp).1; omega
          rw [z]
          have := hts_app many 0 (ps.take i) p
          rw [hlt, Nat.zero_add] at this
          exact this
        have hhtl := hts_len many (ps.take i) 0
        have htl : (ps.take i).length ≤ 200 := by rw [List.length_take]; omega
        refine ⟨_, rfl, sd, rfl, ⟨sv, SqL.of hsv⟩, for_list (K := K) (a := sd) (xs := sv) (fun j σ H' => Kp b H H' ∧ Box H' b (c + 2 * i + j) ∧ H' hb = some (.lst (ras.map V.ref)) ∧ H' sd = some (.lst sv) ∧ NL H4 H' ∧ (∃ hs, HalvesAt H' ras hs ∧ Put many hs (hts many (ps.take i) ++ (sidesOf many i p).take j)) ∧
            ∃ a4 a9, σ = [some (.ref b), some (.ref pb), some (.int (many : Int)), some (.ref hb), a4, some (.int (i : Nat)), some (.int (p.1 : Int)), some (.int (p.2 : Int)), some (.ref sd), a9])
          ⟨k2.trans (.of s4), hB2.s s4, s4 _ _ hh2, hsv, NL.refl _, ⟨hs, hat.mono (fun _ _ o e => s4 _ o e) (nl_of s4), by rw [List.take_zero, List.append_nil]; exact hput⟩, _, _, rfl⟩ (fun j σ H' _ z => SqL.of z.2.2.2.1) ?_ ?_⟩
        · rintro j x σ H5 hx ⟨k5, hB5, hh5, hsd5, nl5, ⟨hs5, hat5, hput5⟩, a4, a9, rfl⟩
          obtain ⟨q, hq, re5⟩ := pd_get' (firm_end.all nl5 psv) hx
          rw [List.getElem?_map] at hq
          obtain ⟨sx, hsx, rfl⟩ := Option.map_eq_some_iff.mp hq
          obtain ⟨c5, rfl, hc5⟩ := re5
          have hj2 : j < 2 := by have := (List.getElem?_eq_some_iff.mp hsx).1; omega
          have hroom : sx.1 < many := by
            rcases mem_sides.mp (List.mem_of_getElem? hsx) with ⟨_, e⟩ | ⟨hne, e | e⟩
            · rw [e]; exact hpr.1
            · rw [e]; exact hpr.1
            · rw [e]; show p.2 < many; omega
          have htie : sx.2.1 = i := side_tie (List.mem_of_getElem? hsx)
          have hri : sx.1 < ras.length := by rw [hrl]; exact hroom
          have hrag : ras[sx.1]? = some ras[sx.1] := List.getElem?_eq_getElem hri
          obtain ⟨hy, hgy, vs, hvs, pvs5⟩ := pd_get' hat5 hrag
          have egy : hs5.getD sx.1 [] = hy := getD_of hgy
          have hvl : vs.length ≤ 402 := by
            have h1 := hput5.few hroom
            rw [egy, ← Paired.length pvs5, List.length_append, List.length_take] at h1
            have : (hts many (ps.take i)).length ≤ 400 := Nat.le_trans hhtl (by omega)
            omega
          have hram := List.getElem_mem hri
          have hatr : atI (ras.map V.ref) (sx.1 : Int) = some (.ref ras[sx.1]) := atI_nat (by rw [List.getElem?_map, hrag]; rfl)
          refine ⟨c5, _, rfl, SqT.of hc5, rfl, _, _, rfl, _, _, rfl, rfl, ?_⟩
          refine ⟨_, rfl, _, rfl, _, _, _, _, rfl, rfl, SqL.of hh5, hatr, .inl ⟨rfl, vs, SqL.of hvs⟩, _, rfl, _, rfl, _, rfl, _, _, _, _, rfl, rfl, SqL.of hh5, hatr, _, _, rfl, .inl (SqL.of hvs), _, _, rfl, rfl, b, c + 2 * i + j, vs.length + 1, rfl, by omega, by omega, by omega, hB5, fun r H6 hr6 k6 hB6 => ?_⟩
          have hne6 := hbra _ hram
          have hvs6 := k6 _ _ hne6 hvs
          have nl6 := hB5.nl k6
          refine ⟨_, rfl, _, rfl, by show 2 ≤ sizeLine; decide, fun t ht => ?_⟩
          have s7 := same_new (o := .tup [.int (i : Nat), .int (sx.2.2 : Int)]) ht
          refine ⟨ras[sx.1], vs, _, .ref t, rfl, rfl, s7 _ _ hvs6, by omega, by omega, by omega, ?_⟩
          have nl7 : NL H5 (upd (upd H6 t (.tup [.int (i : Nat), .int (sx.2.2 : Int)])) ras[sx.1] (.lst (vs.take (r : Int).toNat ++ [.ref t] ++ vs.drop (r : Int).toNat))) := NL.trans nl6 (NL.trans (nl_of s7) (nl_lst (s7 _ _ hvs6)))
          have hraH : H ras[sx.1] = none := (hra _ hram).2.1
          refine ⟨?_, ?_, ?_, ?_, NL.trans nl5 nl7, ⟨hs5.set sx.1 (hy.take (r : Int).toNat ++ [(i, sx.2.2)] ++ hy.drop (r : Int).toNat), ?_, ?_⟩, _, _, rfl⟩
          · exact (k5.trans (k6.trans (.of s7))).mut hraH
          · obtain ⟨A, B, C, h1, h2, h3, h4, h5, h6⟩ := hB6.s s7
            exact ⟨A, B, C, by rw [upd_ne (Ne.symm hne6)]; exact h1, h2, h3, h4, h5, by omega⟩
          · rw [upd_ne (Ne.symm (hra _ hram).2.2)]
            exact s7 _ _ (k6 _ _ (Ne.symm hbb) hh5)
          · rw [upd_ne (Ne.symm (hsdra _ hram))]
            exact s7 _ _ (k6 _ _ hsdb hsd5)
          · refine HalvesAt.set (fun x hx hxn o e => ?_) nl7 hnd hrag hat5 upd_same ?_
            · rw [upd_ne hxn]
              exact s7 _ _ (k6 _ _ (hbra x hx) e)
            · have pv7 := firm_end.all nl7 pvs5
              exact pd_app (pd_app (pd_take pv7 _) (.cons (firm_end _ _ _ _ (nl_lst (s7 _ _ hvs6)) ⟨t, rfl, upd_same⟩) .nil)) (pd_drop pv7 _)
          · have z : (sidesOf many i p).take (j + 1) = (sidesOf many i p).take j ++ [sx] := by rw [List.take_add_one, hsx]; rfl
            rw [z, ← List.append_assoc]
            have esx : sx = (sx.1, (i, sx.2.2)) := by rw [← htie]
            rw [esx]
            refine hput5.add hroom (i, sx.2.2) ?_
            rw [egy]
            have e1 : hy.take (r : Int).toNat ++ [(i, sx.2.2)] ++ hy.drop (r : Int).toNat = hy.take (r : Int).toNat ++ (i, sx.2.2) :: hy.drop (r : Int).toNat := by rw [List.append_assoc]; rfl
            rw [e1]
            refine List.perm_middle.trans ?_
            rw [List.take_append_drop]
        · rintro σ H5 ⟨k5, hB5, hh5, hsd5, nl5, ⟨hs5, hat5, hput5⟩, a4, a9, rfl⟩
          refine ⟨k5, hB5.mono (by omega), hh5, ⟨hs5, hat5, ?_⟩, _, _, _, _, _, _, rfl⟩
          rw [eht]
          have ez : (sidesOf many i p).take sv.length = sidesOf many i p := List.take_of_length_le (Nat.le_of_eq hsvl.symm)
          rw [ez] at hput5
          exact hput5
      · rintro σ H2 ⟨k2, hB2, hh2, ⟨hs, hat, hput⟩, a4, a5, a6, a7, a8, a9, rfl⟩
        rw [hpvl, List.take_length] at hput
        refine ⟨_, rfl, hb, many, doors, hs, rfl, hat.rep hh2, hput.hv hDr hsum hTree, hm0, hm9, hd9, fun p H3 W hp s3 hW hEv => ?_⟩
        obtain ⟨xs, hxs⟩ := hB2.some_
        refine k p W H3 (none_kp k2 hxs hp) (k2.trans (.of s3)) ?_ hW hEv
        rw [hpvl] at hB2
        exact hB2.s s3
end
end Sw
/-! SwC5 -/
set_option Elab.async false
set_option linter.all false
set_option maxRecDepth 100000
set_option maxHeartbeats 4000000
namespace Sw
open PySem L2
/-- the rooms below n that have a door left -/
def fr (left : List Nat) (n : Nat) : List Nat := (List.range n).filter fun r => decide (0 < left.getD r 0)
theorem mem_fr {left : List Nat} {n r : Nat} : r ∈ fr left n ↔ r < n ∧ 0 < left.getD r 0 := by
  unfold fr
  rw [List.mem_filter, List.mem_range, decide_eq_true_iff]
theorem fr_snoc (left : List Nat) (n : Nat) : fr left (n + 1) = fr left n ++ if 0 < left.getD n 0 then [n] else [] := by
  unfold fr
  rw [List.range_succ, List.filter_append]
  congr 1
  by_cases h : 0 < left.getD n 0
  · rw [if_pos h, List.filter_cons_of_pos (by rw [decide_eq_true h])]; rfl
  · rw [if_neg h, List.filter_cons_of_neg (by rw [decide_eq_false h]; exact Bool.false_ne_true)]; rfl
theorem fr_len (left : List Nat) (n : Nat) : (fr left n).length ≤ n := by
  unfold fr
  exact Nat.le_trans (List.length_filter_le _ _) (by rw [List.length_range]; exact Nat.le_refl _)
theorem at_nat {left : List Nat} {r : Nat} (h : r < left.length) : atI (nats left) (r : Int) = some (.int ((left.getD r 0 : Nat) : Int)) := at_nats (by rw [List.getElem?_eq_getElem h, getD_of (List.getElem?_eq_getElem h)])
theorem at_last (xs : List V) (v : V) : atI (xs ++ [v]) (-1) = some v := by
  unfold atI ixN
  rw [if_neg (by decide), if_pos (by rw [List.length_append, List.length_singleton]; omega)]
  have e : ((-1 : Int) + ((xs ++ [v]).length : Nat)).toNat = xs.length := by rw [List.length_append, List.length_singleton]; omega
  rw [e]
  show (xs ++ [v])[xs.length]? = some v
  rw [List.getElem?_append_right (Nat.le_refl _), Nat.sub_self]; rfl
theorem ins_sum : ∀ l : List Nat, (ins l).sum = ((l.sum : Nat) : Int)
  | [] => rfl
  | a :: t => by
    show (a : Int) + (ins t).sum = _
    rw [ins_sum t, List.sum_cons, Int.natCast_add]
/-- what a comprehension over a range asks -/
abbrev LcR (lo : Int) (n : Nat) (g : TG) (tt : TT) (te : TE) (ws : List Nat) (σ : L2.St) (H1 : Hp) (D : Addr) (Qd : Hp → Prop) : Prop :=
  ∃ W : Nat → Nat → Hp → Prop, (∃ m, W 0 m (upd H1 D (.lst []))) ∧ ∀ (i m : Nat) (G : Hp), W i m G → ((Itr lo n).stop i G ∧ Qd G) ∨ ((Itr lo n).go i G ∧ ∃ N : Hp → Prop, (∀ G', N G' → ∃ m', m' < m ∧ W (i + 1) m' G') ∧
    ∀ x G', (Itr lo n).yld i G x G' → g x (wipe σ ws) G' fun σ2 H2 => wipe σ2 ws = wipe σ ws ∧ tt σ2 H2 fun c H3 => if c = true then te σ2 H3 fun y H4 => ∃ acc, H4 D = some (.lst acc) ∧ acc.length < sizeLine ∧ N (upd H4 D (.lst (acc ++ [y]))) else N H3)
/-- [r for r in range(n) if left[r] > 0] -/
theorem lc_left {K : PySem.W.Frag} {H1 : Hp} {D la : Addr} {n j : Nat} {left : List Nat} {σ : L2.St} {ws : List Nat} {Qd : Hp → Prop} (e1 : ∀ x, ((wipe σ ws).set j (some x))[3]? = some (some (.ref la))) (e3 : ∀ x, ((wipe σ ws).set j (some x))[j]? = some (some x)) (e4 : ∀ x, wipe ((wipe σ ws).set j (some x)) ws = wipe σ ws)
    (hl : H1 la = some (.lst (nats left))) (hn : n ≤ left.length) (hn9 : n ≤ 1000) (hD : H1 D = none) (hQ : ∀ H', Same H1 H' → H' D = some (.lst (nats (fr left n))) → Qd H') :
    LcR 0 n (gName j) (tTest (tOp (rI0 fun a b => .bl (decide (b < a))) (tOp (rIxL K) (tVar 3) (tVar j)) (tC (.int 0)))) (tVar j) ws σ H1 D Qd := by
  have hbig : sizeLine = 16777216 := PySem.sizeLine_eq
  refine lc_range (n := n) (fun i H' => Same H1 H' ∧ H' D = some (.lst (nats (fr left i)))) ⟨same_new hD, upd_same⟩ ?_ fun H' ⟨h1, h2⟩ => hQ H' h1 h2
  rintro i H2 hi ⟨hs, hv⟩
  rw [z0]
  refine ⟨e4 _, _, e1 _, _, e3 _, _, _, _, _, rfl, rfl, SqL.of (hs _ _ hl), at_nat (by omega), _, _, rfl, rfl, _, rfl, ?_⟩
  have ed : decide ((0 : Int) < ((left.getD i 0 : Nat) : Int)) = decide (0 < left.getD i 0) := decide_eq_decide.mpr (by omega)
  rw [ed, fr_snoc]
  have hfl := fr_len left i
  by_cases h : 0 < left.getD i 0
  · rw [decide_eq_true h, if_pos h]
    exact iteT ⟨_, e3 _, _, hv, by rw [List.length_map]; omega, same_mut hs hD, by rw [upd_same]; simp [nats]⟩
  · rw [decide_eq_false h, if_neg h, List.append_nil]
    exact iteF ⟨hs, hv⟩
theorem sum_rep (n d : Nat) : (List.replicate n d).sum = n * d := by
  induction n with
  | zero => simp
  | succ n ih => rw [List.replicate_succ, List.sum_cons, ih, Nat.succ_mul]; omega
/-- one door less -/
theorem dec_nats {left : List Nat} {a : Nat} (h : 0 < left.getD a 0) : (nats left).set a (.int (((left.getD a 0 : Nat) : Int) - 1)) = nats (left.set a (left.getD a 0 - 1)) := by
  rw [← set_nats]
  congr 2
  omega
/-- nothing left below, all left from there on -/
theorem sum_parts {left : List Nat} {k d : Nat} (h0 : ∀ r, r < k → left.getD r 0 = 0) (h1 : ∀ r, k ≤ r → r < left.length → left.getD r 0 = d) (hk : k ≤ left.length) : left.sum = (left.length - k) * d := by
  have e : left = List.replicate k 0 ++ List.replicate (left.length - k) d := by
    refine List.ext_getElem? fun r => ?_
    by_cases hr : r < left.length
    · rw [get_of_lt 0 hr]
      by_cases hrk : r < k
      · rw [List.getElem?_append_left (by rw [List.length_replicate]; exact hrk), List.getElem?_replicate, if_pos hrk, h0 r hrk]
      · rw [List.getElem?_append_right (by rw [List.length_replicate]; omega), List.length_replicate, List.getElem?_replicate, if_pos (by omega), h1 r (by omega) hr]
    · rw [List.getElem?_eq_none (by omega), List.getElem?_eq_none (by rw [List.length_append, List.length_replicate, List.length_replicate]; omega)]
  have : (List.replicate k 0 ++ List.replicate (left.length - k) d).sum = (left.length - k) * d := by rw [List.sum_append, sum_rep, sum_rep]; simp
  rw [← e] at this
  exact this
section
variable {P : Program} {w : World} {K : PySem.W.Frag} {mg : Str → Option Value} {base : Heap}
def spEvenWeb : Sp := fun vs H Q _ => ∃ (b : Addr) (c many doors : Nat), vs = [.ref b, .int (many : Int), .int (doors : Int)] ∧ Box H b c ∧ c ≤ 1000 ∧ 1 ≤ many ∧ many ≤ 9 ∧ 1 ≤ doors ∧ doors ≤ 9 ∧ (doors = 1 → many ≤ 2) ∧
  ∀ (p : Addr) (W : Web) (H' : Hp), H p = none → Kp b H H' → Box H' b (c + 1000) → WebR H' (.ref p) W → Ev W many doors → Q (.ref p) H'
theorem ok_l_even_web {f : Addr} {fd : FuncData} (F : FnP K "_law_even_web" "_law_even_web" s_l_even_web f fd) (T : Txt mg) (c_l_take : Cal P w K mg base 2 "_law_take" p_l_take spTake) (c_l_doors_put : Cal P w K mg base 2 "_law_doors_put" p_l_doors_put spDoors) : FnOk P w K mg base CX0 3 f fd p_l_even_web spEvenWeb := by
  refine okd F sc_l_even_web (fun vs H Q E h => ?_) (fun cdv A outer s H vs Q E hr h => ?_)
  · obtain ⟨b, c, many, doors, rfl, _⟩ := h
    rfl
  · obtain ⟨b, c, many, doors, rfl, hB, hc, hm1, hm9, hd1, hd9, hm2, k⟩ := h
    refine ⟨_, (pss_cons (ps_set (i := 3) sc_l_even_web.nd rfl (by first | exact Or.inl rfl | exact Or.inr rfl) (pe_op op_rep (pe_lst (pa_cons (pv 2) pa_nil)) (pv 1)))
      (pss_cons (ps_set (i := 4) sc_l_even_web.nd rfl (by first | exact Or.inl rfl | exact Or.inr rfl) (pe_lst pa_nil))
      (pss_cons (ps_for PassesOwn.never rfl (pi_range2 (by rfl) T.range (pa_cons pe_int (pa_cons (pv 1) pa_nil))) (pg_name (i := 5) sc_l_even_web.nd rfl (by first | exact Or.inl rfl | exact Or.inr rfl))
      (pss_cons (ps_setLc (i := 6) (own := [("_law_one", 7)]) rfl sc_l_even_web.nd rfl rfl (sw_true rfl rfl rfl (by decide +kernel)) (pi_range1 (by rfl) T.range (pa_cons (pv 5) pa_nil)) (blkOk_by (N := n_l_even_web) (sc := defScope s_l_even_web) (by decide +kernel)) (fun _ _ _ _ _ => (pg_name (i := 7) sc_l_even_web.nd rfl (by first | exact Or.inl rfl | exact Or.inr rfl))) (fun _ _ _ _ _ => (pts_one (pt_cmpR op_gt (pe_ix (kIxL K) (pv 3) (pv 7) (fun _ _ => rfl)) pe_int (nomark _)))) (fun _ _ _ _ _ => (pv 7)))
      (pss_cons (ps_expr (pe_bm PySem.F.plainAttrs_list PySem.F.slot_list_append PySem.F.type_list_append mt_append (pv 4) (pa_cons (pe_tup (pa_cons (pe_ix (kIxL K) (pv 6) (pe_cal c_l_take (hr.mono (by decide)) (pa_cons (pv 0) (pa_cons (pe_callB (kLen K) (by rfl) T.len PySem.boot_len (pa_cons (pv 6) pa_nil)) pa_nil))) (fun _ _ => rfl)) (pa_cons (pv 5) pa_nil))) pa_nil)))
      (pss_one (ps_for PassesOwn.never rfl (kTup K rfl (pe_ix (kIxL K) (pv 4) (pe_un un_neg pe_int) (fun _ _ => rfl))) (pg_name (i := 8) sc_l_even_web.nd rfl (by first | exact Or.inl rfl | exact Or.inr rfl))
      (pss_one (ps_asg (pe_op op_sub (pe_ix (kIxL K) (pv 3) (pv 8) (fun _ _ => rfl)) pe_int) (pg_sub (pv 3) (pv 8) set_list))))))))
      (pss_cons (ps_while PassesOwn.never (pt_cmpR op_gt (pe_callB (kSum K rfl rfl) (by rfl) T.sum (by decide +kernel) (pa_cons (pv 3) pa_nil)) pe_int (nomark _)) (pss_cons (ps_set (i := 7) sc_l_even_web.nd rfl (by first | exact Or.inl rfl | exact Or.inr rfl) (pe_ix (kIxL K) (pe_lc (own := [("_law_room", 5)]) rfl sc_l_even_web.nd (pi_range1 (by rfl) T.range (pa_cons (pv 1) pa_nil)) (blkOk_by (N := n_l_even_web) (sc := defScope s_l_even_web) (by decide +kernel)) (fun _ _ _ _ _ => (pg_name (i := 5) sc_l_even_web.nd rfl (by first | exact Or.inl rfl | exact Or.inr rfl))) (fun _ _ _ _ _ => (pts_one (pt_cmpR op_gt (pe_ix (kIxL K) (pv 3) (pv 5) (fun _ _ => rfl)) pe_int (nomark _)))) (fun _ _ _ _ _ => (pv 5))) pe_int (fun _ _ => rfl)))
      (pss_cons (ps_asg (pe_op op_sub (pe_ix (kIxL K) (pv 3) (pv 7) (fun _ _ => rfl)) pe_int) (pg_sub (pv 3) (pv 7) set_list))
      (pss_cons (ps_set (i := 9) sc_l_even_web.nd rfl (by first | exact Or.inl rfl | exact Or.inr rfl) (pe_op op_cat (pe_lc (own := [("_law_room", 5)]) rfl sc_l_even_web.nd (pi_range1 (by rfl) T.range (pa_cons (pv 1) pa_nil)) (blkOk_by (N := n_l_even_web) (sc := defScope s_l_even_web) (by decide +kernel)) (fun _ _ _ _ _ => (pg_name (i := 5) sc_l_even_web.nd rfl (by first | exact Or.inl rfl | exact Or.inr rfl))) (fun _ _ _ _ _ => (pts_one (pt_cmpR op_gt (pe_ix (kIxL K) (pv 3) (pv 5) (fun _ _ => rfl)) pe_int (nomark _)))) (fun _ _ _ _ _ => (pv 5))) (pe_lst (pa_cons (pv 1) pa_nil))))
      (pss_cons (ps_set (i := 10) sc_l_even_web.nd rfl (by first | exact Or.inl rfl | exact Or.inr rfl) (pe_ix (kIxL K) (pv 9) (pe_cal c_l_take (hr.mono (by decide)) (pa_cons (pv 0) (pa_cons (pe_callB (kLen K) (by rfl) T.len PySem.boot_len (pa_cons (pv 9) pa_nil)) pa_nil))) (fun _ _ => rfl)))
      (pss_cons (ps_expr (pe_bm PySem.F.plainAttrs_list PySem.F.slot_list_append PySem.F.type_list_append mt_append (pv 4) (pa_cons (pe_tup (pa_cons (pv 7) (pa_cons (pv 10) pa_nil))) pa_nil)))
      (pss_one (ps_if (pt_cmpR op_lt (pv 10) (pv 1) (nomark _)) (pss_one (ps_asg (pe_op op_sub (pe_ix (kIxL K) (pv 3) (pv 10) (fun _ _ => rfl)) pe_int) (pg_sub (pv 3) (pv 10) set_list))) pss_nil))))))))
      (pss_one (ps_ret (pe_cal c_l_doors_put (hr.mono (by decide)) (pa_cons (pv 0) (pa_cons (pv 4) (pa_cons (pv 1) pa_nil)))))))))), ?_⟩
    have hbig : sizeLine = 16777216 := PySem.sizeLine_eq
    obtain ⟨bx, hbx⟩ := hB.some_
    refine ⟨_, rfl, by show 1 ≤ sizeLine; decide, fun q hq => ⟨_, rfl, q, _, _, rfl, rfl, upd_same, by omega, by omega, by rw [Int.toNat_natCast, List.length_singleton]; omega, fun la hla => ?_⟩⟩
    rw [Int.toNat_natCast, flat_rep]
    have hlaH := none_back (same_new (o := .lst [.int (doors : Int)]) hq) hla
    have s1 := sn (o := .lst (List.replicate many (V.int (doors : Int)))) (same_new (o := .lst [.int (doors : Int)]) hq) hla
    refine ⟨by show 0 ≤ sizeLine; decide, fun lp hlp => ?_⟩
    have hlpH := none_back s1 hlp
    have s2 := sn (o := .lst []) s1 hlp
    have hll : la ≠ lp := ne_of_none (upd_same (H := upd H q (.lst [.int (doors : Int)]))) hlp
    have hbla : b ≠ la := ne_of_none hbx hlaH
    have hblp : b ≠ lp := ne_of_none hbx hlpH
    have eN : ((many : Int) - 1).toNat = many - 1 := by omega
    refine ⟨_, rfl, 1, _, rfl, ⟨by decide, by decide, by omega, by omega⟩, ?_⟩
    rw [eN]
    -- a door of a room less
    have hmd : many * doors ≤ 81 := Nat.mul_le_mul hm9 hd9
    refine for_range (lo := 1) (n := many - 1) (fun i σ H' => Kp b H H' ∧ Box H' b (c + i) ∧ (∃ left ps, H' la = some (.lst (nats left)) ∧ ListR EndR H' (.ref lp) ps ∧ Drawn many doors left ps ∧ Tree (i + 1) ps ∧ (∀ r, i + 1 ≤ r → r < many → left.getD r 0 = doors) ∧ left.sum + 2 * i = many * doors ∧ ps.length = i) ∧
        ∃ a5 a6 a7 a8 a9 a10, σ = [some (.ref b), some (.int (many : Int)), some (.int (doors : Int)), some (.ref la), some (.ref lp), a5, a6, a7, a8, a9, a10])
      ⟨.of s2, hB.s s2, ⟨List.replicate many doors, [], by rw [upd_ne hll, upd_same]; unfold nats; rw [List.map_replicate], ⟨lp, [], rfl, upd_same, .nil⟩, Drawn.start many doors, fun r h1 h2 => by omega, fun r _ h => getD_of (by rw [List.getElem?_replicate, if_pos h]), by rw [sum_rep]; omega, rfl⟩, none, none, none, none, none, none, rfl⟩ ?_ ?_
    · rintro i σ H1 hi ⟨k1, hB1, ⟨left, ps, hla1, ⟨_, ws, e0, hlp1, pw⟩, hDr, hTr, hall, hsum, hpl⟩, a5, a6, a7, a8, a9, a10, rfl⟩
      cases e0
      have e1 : V.int (1 + (i : Int)) = V.int ((i + 1 : Nat) : Int) := by rw [V.int.injEq]; omega
      rw [e1]
      refine ⟨_, rfl, _, rfl, by omega, by omega, fun D hD => ?_⟩
      refine lc_left (n := i + 1) (j := 7) (fun _ => rfl) (fun _ => rfl) (fun _ => rfl) hla1 (by rw [hDr.len]; omega) (by omega) hD fun H2 s2 hfr => ?_
      -- one is free
      have hex : 0 < (fr left (i + 1)).length := by
        refine Nat.pos_of_ne_zero fun z => ?_
        have h0 : ∀ r, r < i + 1 → left.getD r 0 = 0 := fun r hr => by
          refine Classical.byContradiction fun h => ?_
          have := mem_fr.mpr ⟨hr, Nat.pos_of_ne_zero h⟩
          rw [List.length_eq_zero_iff.mp z] at this
          cases this
        have := sum_parts h0 (fun r h1 h2 => hall r h1 (by rw [← hDr.len]; exact h2)) (by rw [hDr.len]; omega)
        rw [hDr.len] at this
        have e3 : (many - (i + 1)) * doors + (i + 1) * doors = many * doors := by rw [← Nat.add_mul]; congr 1; omega
        by_cases hd : doors = 1
        · have hm3 := hm2 hd
          subst hd
          omega
        · have : (i + 1) * 2 ≤ (i + 1) * doors := Nat.mul_le_mul_left _ (by omega)
          omega
      have hfl := fr_len left (i + 1)
      have hB2 := hB1.s s2
      refine ⟨_, rfl, .inl ⟨rfl, ws, SqL.of (s2 _ _ hlp1)⟩, _, rfl, _, rfl, _, rfl, _, _, rfl, .inl (SqL.of hfr), b, c + i, (fr left (i + 1)).length, by rw [List.length_map]; rfl, hex, by omega, by omega, hB2, fun t H3 ht k3 hB3 => ?_⟩
      obtain ⟨one, hone⟩ : ∃ one, (fr left (i + 1))[t]? = some one := ⟨_, List.getElem?_eq_getElem ht⟩
      obtain ⟨ho1, ho2⟩ := mem_fr.mp (List.mem_of_getElem? hone)
      have hDb : D ≠ b := fun z => by
        obtain ⟨xs, hxs⟩ := hB1.some_
        rw [z, hxs] at hD; cases hD
      have hfr3 := k3 _ _ hDb hfr
      refine ⟨_, _, _, _, rfl, rfl, SqL.of hfr3, at_nats hone, _, rfl, by show 2 ≤ sizeLine; decide, fun t2 ht2 => ?_⟩
      have s4 := same_new (o := .tup [.int (one : Int), .int ((i + 1 : Nat) : Int)]) ht2
      have hlp4 := s4 _ _ (k3 _ _ (Ne.symm hblp) (s2 _ _ hlp1))
      have hla4 := s4 _ _ (k3 _ _ (Ne.symm hbla) (s2 _ _ hla1))
      have nl4 : NL H1 (upd (upd H3 t2 (.tup [.int (one : Int), .int ((i + 1 : Nat) : Int)])) lp (.lst (ws ++ [.ref t2]))) := NL.trans (nl_of s2) (NL.trans (hB2.nl k3) (NL.trans (nl_of s4) (nl_lst hlp4)))
      have pw4 : Paired (EndR (upd (upd H3 t2 (.tup [.int (one : Int), .int ((i + 1 : Nat) : Int)])) lp (.lst (ws ++ [.ref t2])))) (ws ++ [.ref t2]) (ps ++ [(one, i + 1)]) := pd_app (firm_end.all nl4 pw) (.cons (firm_end _ _ _ _ (nl_lst hlp4) ⟨t2, rfl, upd_same⟩) .nil)
      refine ⟨lp, ws, _, rfl, rfl, hlp4, by rw [Paired.length pw]; omega, ?_⟩
      have ht2lp : t2 ≠ lp := fun z => by
        have := k3 _ _ (Ne.symm hblp) (s2 _ _ hlp1)
        rw [← z, ht2] at this; cases this
      have ht2T : upd (upd H3 t2 (.tup [.int (one : Int), .int ((i + 1 : Nat) : Int)])) lp (.lst (ws ++ [.ref t2])) t2 = some (.tup [.int (one : Int), .int ((i + 1 : Nat) : Int)]) := by rw [upd_ne ht2lp]; exact upd_same
      have k4 : Kp b H (upd (upd H3 t2 (.tup [.int (one : Int), .int ((i + 1 : Nat) : Int)])) lp (.lst (ws ++ [.ref t2]))) := (k1.trans ((Kp.of s2).trans (k3.trans (.of s4)))).mut hlpH
      have hB4 : Box (upd (upd H3 t2 (.tup [.int (one : Int), .int ((i + 1 : Nat) : Int)])) lp (.lst (ws ++ [.ref t2]))) b (c + i + 1) := by
        obtain ⟨A, B, C, h1, h2⟩ := hB3.s s4
        exact ⟨A, B, C, by rw [upd_ne hblp]; exact h1, h2⟩
      have hone_ne : one ≠ i + 1 := by omega
      have hroom : left.getD (i + 1) 0 = doors := hall (i + 1) (Nat.le_refl _) (by omega)
      have holt : one < left.length := by rw [hDr.len]; omega
      have hrlt : i + 1 < (left.set one (left.getD one 0 - 1)).length := by rw [List.length_set, hDr.len]; omega
      have hg1 : (left.set one (left.getD one 0 - 1)).getD (i + 1) 0 = doors := by rw [getD_set holt, if_neg (Ne.symm hone_ne), hroom]
      let Lf : Nat → List Nat := fun j => if j = 0 then left else if j = 1 then left.set one (left.getD one 0 - 1) else (left.set one (left.getD one 0 - 1)).set (i + 1) ((left.set one (left.getD one 0 - 1)).getD (i + 1) 0 - 1)
      refine ⟨_, rfl, _, rfl, _, _, _, _, rfl, rfl, SqL.of upd_same, at_last _ _, t2, rfl, ⟨_, SqT.of ht2T⟩, for_tup (K := K) (a := t2) (xs := [.int (one : Int), .int ((i + 1 : Nat) : Int)]) (fun j σ H' => Kp b H H' ∧ Box H' b (c + i + 1) ∧ NL (upd (upd H3 t2 (.tup [.int (one : Int), .int ((i + 1 : Nat) : Int)])) lp (.lst (ws ++ [.ref t2]))) H' ∧ H' la = some (.lst (nats (Lf j))) ∧ H' lp = some (.lst (ws ++ [.ref t2])) ∧
          ∃ a6 a7 a8 a9 a10, σ = [some (.ref b), some (.int (many : Int)), some (.int (doors : Int)), some (.ref la), some (.ref lp), some (.int ((i + 1 : Nat) : Int)), a6, a7, a8, a9, a10])
        ⟨k4, hB4, NL.refl _, by rw [upd_ne hll]; exact hla4, upd_same, _, _, _, _, _, rfl⟩ (fun j σ H' _ z => SqT.of (z.2.2.1 _ _ (fun xs q => nomatch q) ht2T)) ?_ ?_⟩
      · rintro j x σ H5 hx ⟨k5, hB5, nl5, hla5, hlp5, b6, b7, b8, b9, b10, rfl⟩
        have upds : ∀ (a : Nat), a < (Lf j).length → 0 < (Lf j).getD a 0 → Lf (j + 1) = (Lf j).set a ((Lf j).getD a 0 - 1) → (Kp b H (upd H5 la (.lst ((nats (Lf j)).set a (.int ((((Lf j).getD a 0 : Nat) : Int) - 1))))) ∧ Box (upd H5 la (.lst ((nats (Lf j)).set a (.int ((((Lf j).getD a 0 : Nat) : Int) - 1))))) b (c + i + 1) ∧ NL (upd (upd H3 t2 (.tup [.int (one : Int), .int ((i + 1 : Nat) : Int)])) lp (.lst (ws ++ [.ref t2]))) (upd H5 la (.lst ((nats (Lf j)).set a (.int ((((Lf j).getD a 0 : Nat) : Int) - 1))))) ∧
            upd H5 la (.lst ((nats (Lf j)).set a (.int ((((Lf j).getD a 0 : Nat) : Int) - 1)))) la = some (.lst (nats (Lf (j + 1)))) ∧ upd H5 la (.lst ((nats (Lf j)).set a (.int ((((Lf j).getD a 0 : Nat) : Int) - 1)))) lp = some (.lst (ws ++ [.ref t2]))) := fun a ha1 ha2 ha3 => by
          refine ⟨k5.mut hlaH, ?_, NL.trans nl5 (nl_lst hla5), ?_, ?_⟩
          · obtain ⟨A, B, C, h1, h2⟩ := hB5
            exact ⟨A, B, C, by rw [upd_ne hbla]; exact h1, h2⟩
          · rw [upd_same, ha3, dec_nats ha2]
          · rw [upd_ne (Ne.symm hll)]; exact hlp5
        have hj : j = 0 ∨ j = 1 := by
          have := (List.getElem?_eq_some_iff.mp hx).1
          rw [show ([V.int (one : Int), V.int ((i + 1 : Nat) : Int)] : List V).length = 2 from rfl] at this
          omega
        rcases hj with rfl | rfl
        · cases hx
          obtain ⟨u1, u2, u3, u4, u5⟩ := upds one holt ho2 rfl
          exact ⟨_, rfl, _, rfl, _, _, _, _, rfl, rfl, SqL.of hla5, at_nat (left := Lf 0) holt, _, _, rfl, rfl, _, rfl, _, rfl, la, _, _, one, rfl, rfl, hla5, ixn (by rw [List.length_map]; exact holt), u1, u2, u3, u4, u5, _, _, _, _, _, rfl⟩
        · cases hx
          obtain ⟨u1, u2, u3, u4, u5⟩ := upds (i + 1) hrlt (by show 0 < (left.set one (left.getD one 0 - 1)).getD (i + 1) 0; rw [hg1]; omega) rfl
          exact ⟨_, rfl, _, rfl, _, _, _, _, rfl, rfl, SqL.of hla5, at_nat (left := Lf 1) hrlt, _, _, rfl, rfl, _, rfl, _, rfl, la, _, _, i + 1, rfl, rfl, hla5, ixn (by rw [List.length_map]; exact hrlt), u1, u2, u3, u4, u5, _, _, _, _, _, rfl⟩
      · rintro σ H5 ⟨k5, hB5, nl5, hla5, hlp5, b6, b7, b8, b9, b10, rfl⟩
        have hDr2 := hDr.two (a := one) (b := i + 1) (by omega) (by omega) ho2 (by rw [hg1]; omega)
        have hs1 := sum_set1 holt ho2
        have hs2 := sum_set1 hrlt (by rw [hg1]; omega)
        refine ⟨k5, hB5, ⟨_, ps ++ [(one, i + 1)], hla5, ⟨lp, _, rfl, hlp5, firm_end.all nl5 pw4⟩, hDr2, fun r h1 h2 => ?_, fun r h1 h2 => ?_, ?_, by rw [List.length_append, hpl]; rfl⟩, _, _, _, _, _, _, rfl⟩
        · by_cases e : r = i + 1
          · exact ⟨one, by rw [e]; simp, by omega⟩
          · obtain ⟨p, hp1, hp2⟩ := hTr r h1 (by omega)
            exact ⟨p, List.mem_append_left _ hp1, hp2⟩
        · show ((left.set one (left.getD one 0 - 1)).set (i + 1) ((left.set one (left.getD one 0 - 1)).getD (i + 1) 0 - 1)).getD r 0 = doors
          rw [getD_set hrlt, if_neg (by omega), getD_set holt, if_neg (by omega)]
          exact hall r (by omega) h2
        · show ((left.set one (left.getD one 0 - 1)).set (i + 1) ((left.set one (left.getD one 0 - 1)).getD (i + 1) 0 - 1)).sum + 2 * (i + 1) = many * doors
          omega
    · rintro σ H1 ⟨k1, hB1, ⟨left, ps, hla1, hlp1, hDr, hTr, hall, hsum, hpl⟩, a5, a6, a7, a8, a9, a10, rfl⟩
      have em : many - 1 + 1 = many := by omega
      rw [em] at hTr
      have hB1 : Box H1 b (c + many) := hB1.mono (by omega)
      refine ⟨fun j σ H' => ∃ left ps, j = left.sum ∧ Kp b H H' ∧ Box H' b (c + many + (many * doors - left.sum)) ∧ H' la = some (.lst (nats left)) ∧ ListR EndR H' (.ref lp) ps ∧ Drawn many doors left ps ∧ Tree many ps ∧ ps.length + left.sum ≤ 100 ∧ left.sum ≤ many * doors ∧
          ∃ a5 a6 a7 a8 a9 a10, σ = [some (.ref b), some (.int (many : Int)), some (.int (doors : Int)), some (.ref la), some (.ref lp), a5, a6, a7, a8, a9, a10],
        ⟨_, left, ps, rfl, k1, hB1.mono (by omega), hla1, hlp1, hDr, hTr, by omega, by omega, _, _, _, _, _, _, rfl⟩, ?_⟩
      rintro j σ H2 ⟨left, ps, hj, k2, hB2, hla2, ⟨_, ws, e0, hlp2, pw⟩, hDr, hTr, hpl, hsl, a5, a6, a7, a8, a9, a10, rfl⟩
      cases e0
      refine ⟨_, rfl, la, ins left, rfl, SqL.of (by rw [ins_nats]; exact hla2), _, _, rfl, rfl, _, rfl, ?_⟩
      rw [ins_sum]
      refine ite2 (fun hc => ?_) fun hc => ?_
      · have hpos : 0 < left.sum := by have := of_decide_eq_true hc; omega
        obtain ⟨a, ha1, ha2⟩ := sum_pos hpos
        rw [hDr.len] at ha1
        refine ⟨fun σ' H' => ∃ j', j' < j ∧ ∃ left ps, j' = left.sum ∧ Kp b H H' ∧ Box H' b (c + many + (many * doors - left.sum)) ∧ H' la = some (.lst (nats left)) ∧ ListR EndR H' (.ref lp) ps ∧ Drawn many doors left ps ∧ Tree many ps ∧ ps.length + left.sum ≤ 100 ∧ left.sum ≤ many * doors ∧
          ∃ a5 a6 a7 a8 a9 a10, σ' = [some (.ref b), some (.int (many : Int)), some (.int (doors : Int)), some (.ref la), some (.ref lp), a5, a6, a7, a8, a9, a10], fun _ _ z => z, ?_⟩
        refine ⟨_, rfl, _, rfl, by omega, by omega, fun D hD => ?_⟩
        refine lc_left (n := many) (j := 5) (fun _ => rfl) (fun _ => rfl) (fun _ => rfl) hla2 (by rw [hDr.len]; exact Nat.le_refl _) (by omega) hD fun H3 s3 hfr => ?_
        obtain ⟨one, rest, hfo⟩ : ∃ one rest, fr left many = one :: rest := by
          cases h : fr left many with
          | nil => have := mem_fr.mpr ⟨ha1, ha2⟩; rw [h] at this; cases this
          | cons x r => exact ⟨x, r, rfl⟩
        obtain ⟨ho1, ho2⟩ := mem_fr.mp (show one ∈ fr left many by rw [hfo]; exact List.mem_cons_self)
        have holt : one < left.length := by rw [hDr.len]; exact ho1
        have hla3 := s3 _ _ hla2
        refine ⟨_, _, _, _, rfl, rfl, SqL.of hfr, by rw [hfo]; exact at0, ?_⟩
        refine ⟨_, rfl, _, rfl, _, _, _, _, rfl, rfl, SqL.of hla3, at_nat holt, _, _, rfl, rfl, _, rfl, _, rfl, la, _, _, one, rfl, rfl, hla3, ixn (by rw [List.length_map]; exact holt), ?_⟩
        rw [dec_nats ho2]
        have nl4 : NL H2 (upd H3 la (.lst (nats (left.set one (left.getD one 0 - 1))))) := NL.trans (nl_of s3) (nl_lst hla3)
        have k4 : Kp b H (upd H3 la (.lst (nats (left.set one (left.getD one 0 - 1))))) := (k2.trans (.of s3)).mut hlaH
        have hB4 : Box (upd H3 la (.lst (nats (left.set one (left.getD one 0 - 1))))) b (c + many + (many * doors - left.sum)) := by
          obtain ⟨A, B, C, h1, h2⟩ := hB2.s s3
          exact ⟨A, B, C, by rw [upd_ne hbla]; exact h1, h2⟩
        have hlp4 : upd H3 la (.lst (nats (left.set one (left.getD one 0 - 1)))) lp = some (.lst ws) := by rw [upd_ne (Ne.symm hll)]; exact s3 _ _ hlp2
        have hs1 := sum_set1 holt ho2
        have hl1 : (left.set one (left.getD one 0 - 1)).length = many := by rw [List.length_set, hDr.len]
        refine ⟨_, rfl, _, rfl, by omega, by omega, fun D2 hD2 => ?_⟩
        refine lc_left (n := many) (j := 5) (left := left.set one (left.getD one 0 - 1)) (fun _ => rfl) (fun _ => rfl) (fun _ => rfl) upd_same (by rw [hl1]; exact Nat.le_refl _) (by omega) hD2 fun H5 s5 hfr5 => ?_
        refine ⟨_, rfl, by show 1 ≤ sizeLine; decide, fun q5 hq5 => ?_⟩
        have s6 := sn (o := .lst [.int (many : Int)]) s5 hq5
        have hfl := fr_len (left.set one (left.getD one 0 - 1)) many
        refine ⟨D2, q5, _, _, rfl, rfl, same_new hq5 _ _ hfr5, upd_same, by rw [List.length_map, List.length_singleton]; omega, fun sd hsd => ?_⟩
        have esd : nats (fr (left.set one (left.getD one 0 - 1)) many) ++ [V.int (many : Int)] = nats (fr (left.set one (left.getD one 0 - 1)) many ++ [many]) := by simp [nats]
        rw [esd]
        have s7 := sn (o := .lst (nats (fr (left.set one (left.getD one 0 - 1)) many ++ [many]))) s6 hsd
        have hB7 := hB4.s s7
        have hsdb : sd ≠ b := fun z => by
          obtain ⟨xs, hxs⟩ := hB4.some_
          have := s6 _ _ hxs
          rw [← z, hsd] at this; cases this
        refine ⟨_, rfl, _, rfl, _, rfl, _, _, rfl, .inl (SqL.of upd_same), b, _, (fr (left.set one (left.getD one 0 - 1)) many ++ [many]).length, by rw [List.length_map]; rfl, by rw [List.length_append, List.length_singleton]; omega, by rw [List.length_append, List.length_singleton]; omega, by omega, hB7, fun t H8 ht k8 hB8 => ?_⟩
        have hoth : (fr (left.set one (left.getD one 0 - 1)) many ++ [many])[t]? = some (fr (left.set one (left.getD one 0 - 1)) many ++ [many])[t] := List.getElem?_eq_getElem ht
        generalize hov : (fr (left.set one (left.getD one 0 - 1)) many ++ [many])[t] = other at hoth
        have hsd8 := k8 _ _ hsdb upd_same
        refine ⟨_, _, _, _, rfl, rfl, SqL.of hsd8, at_nats hoth, ?_⟩
        have nl8 : NL H2 H8 := NL.trans nl4 (NL.trans (nl_of s7) (hB7.nl k8))
        have hlp8 : H8 lp = some (.lst ws) := k8 _ _ (Ne.symm hblp) (s7 _ _ hlp4)
        have hla8 : H8 la = some (.lst (nats (left.set one (left.getD one 0 - 1)))) := k8 _ _ (Ne.symm hbla) (s7 _ _ upd_same)
        have k8' : Kp b H H8 := k4.trans ((Kp.of s7).trans k8)
        refine ⟨_, rfl, .inl ⟨rfl, ws, SqL.of hlp8⟩, _, rfl, _, rfl, by show 2 ≤ sizeLine; decide, fun t2 ht2 => ?_⟩
        have s9 := same_new (o := .tup [.int (one : Int), .int (other : Int)]) ht2
        have hlp9 := s9 _ _ hlp8
        refine ⟨lp, ws, _, rfl, rfl, hlp9, by rw [Paired.length pw]; omega, ?_⟩
        have nl9 : NL H2 (upd (upd H8 t2 (.tup [.int (one : Int), .int (other : Int)])) lp (.lst (ws ++ [.ref t2]))) := NL.trans nl8 (NL.trans (nl_of s9) (nl_lst hlp9))
        have pw9 : Paired (EndR (upd (upd H8 t2 (.tup [.int (one : Int), .int (other : Int)])) lp (.lst (ws ++ [.ref t2])))) (ws ++ [.ref t2]) (ps ++ [(one, other)]) := pd_app (firm_end.all nl9 pw) (.cons (firm_end _ _ _ _ (nl_lst hlp9) ⟨t2, rfl, upd_same⟩) .nil)
        have k9 : Kp b H (upd (upd H8 t2 (.tup [.int (one : Int), .int (other : Int)])) lp (.lst (ws ++ [.ref t2]))) := (k8'.trans (.of s9)).mut hlpH
        have hB9 : Box (upd (upd H8 t2 (.tup [.int (one : Int), .int (other : Int)])) lp (.lst (ws ++ [.ref t2]))) b (c + many + (many * doors - left.sum) + 1) := by
          obtain ⟨A, B, C, h1, h2⟩ := hB8.s s9
          exact ⟨A, B, C, by rw [upd_ne hblp]; exact h1, h2⟩
        have hla9 : upd (upd H8 t2 (.tup [.int (one : Int), .int (other : Int)])) lp (.lst (ws ++ [.ref t2])) la = some (.lst (nats (left.set one (left.getD one 0 - 1)))) := by rw [upd_ne hll]; exact s9 _ _ hla8
        have hTr9 : Tree many (ps ++ [(one, other)]) := fun r h1 h2 => by
          obtain ⟨p, hp1, hp2⟩ := hTr r h1 h2
          exact ⟨p, List.mem_append_left _ hp1, hp2⟩
        have hpl9 : (ps ++ [(one, other)]).length = ps.length + 1 := by rw [List.length_append]; rfl
        refine ⟨_, rfl, _, rfl, _, _, rfl, rfl, _, rfl, ite2 (fun hc2 => ?_) fun hc2 => ?_⟩
        · have hom : other < many := by have := of_decide_eq_true hc2; omega
          have hofr : 0 < (left.set one (left.getD one 0 - 1)).getD other 0 := by
            rcases List.mem_append.mp (List.mem_of_getElem? hoth) with z | z
            · exact (mem_fr.mp z).2
            · rw [List.mem_singleton.mp z] at hom; exact absurd hom (Nat.lt_irrefl _)
          have holt2 : other < (left.set one (left.getD one 0 - 1)).length := by rw [hl1]; exact hom
          have hs2 := sum_set1 holt2 hofr
          refine ⟨_, rfl, _, rfl, _, _, _, _, rfl, rfl, SqL.of hla9, at_nat holt2, _, _, rfl, rfl, _, rfl, _, rfl, la, _, _, other, rfl, rfl, hla9, ixn (by rw [List.length_map]; exact holt2), ?_⟩
          rw [dec_nats hofr]
          refine ⟨_, ?_, _, ps ++ [(one, other)], rfl, k9.mut hlaH, ?_, upd_same, ⟨lp, _, rfl, by rw [upd_ne (Ne.symm hll)]; exact upd_same, firm_end.all (nl_lst hla9) pw9⟩, hDr.two ho1 hom ho2 hofr, hTr9, by rw [hpl9]; omega, by omega, _, _, _, _, _, _, rfl⟩
          · omega
          · obtain ⟨A, B, C, h1, h2, h3, h4, h5, h6⟩ := hB9
            exact ⟨A, B, C, by rw [upd_ne hbla]; exact h1, h2, h3, h4, h5, by omega⟩
        · have hom : other = many := by
            have h1 : ¬ other < many := fun z => hc2 (decide_eq_true (by omega))
            rcases List.mem_append.mp (List.mem_of_getElem? hoth) with z | z
            · exact absurd (mem_fr.mp z).1 h1
            · exact List.mem_singleton.mp z
          refine ⟨_, ?_, _, ps ++ [(one, other)], rfl, k9, hB9.mono ?_, hla9, ⟨lp, _, rfl, upd_same, pw9⟩, by rw [hom]; exact hDr.one ho1 ho2, hTr9, by rw [hpl9]; omega, by omega, _, _, _, _, _, _, rfl⟩
          · omega
          · omega
      · have h0 : left.sum = 0 := by
          refine Classical.byContradiction fun z => hc (decide_eq_true (by omega))
        have hlpb : lp ≠ b := Ne.symm hblp
        refine ⟨_, rfl, _, rfl, _, rfl, b, lp, _, many, doors, ps, left, rfl, hB2, by omega, hlpb, ⟨lp, ws, rfl, hlp2, pw⟩, hDr, h0, hTr, by omega, hm9, hd9, by omega, fun p W H3 hp k3 hB3 hW hEv => ?_⟩
        obtain ⟨xs, hxs⟩ := hB2.some_
        obtain ⟨ys, hys⟩ := hB3.some_
        exact k p W H3 (none_kp k2 hxs hp) (k2.trans k3) (hB3.mono (by omega)) hW hEv
end
end Sw
/-! SwC6 -/
set_option Elab.async false
set_option linter.all false
set_option maxRecDepth 100000
set_option maxHeartbeats 4000000
namespace Sw
open PySem L2
structure WalkerK (K : PySem.W.Frag) (C : Addr) : Prop where
  c : Cls K C
  web : NoAttr K C "web"
  room : NoAttr K C "room"
  stones : NoAttr K C "stones_left"
  came : NoAttr K C "came_by"
  gone : NoAttr K C "gone_through"
  lying : NoAttr K C "lying"
def flW (wb r st cm gn ly : V) : List (Str × V) := [("web", wb), ("room", r), ("stones_left", st), ("came_by", cm), ("gone_through", gn), ("lying", ly)]
section
variable {wb r st cm gn ly : V}
theorem flW_make : putF "lying" ly (putF "gone_through" gn (putF "came_by" cm (putF "stones_left" st (putF "room" r (putF "web" wb []))))) = flW wb r st cm gn ly := rfl
theorem flW_room (r' : V) : putF "room" r' (flW wb r st cm gn ly) = flW wb r' st cm gn ly := rfl
theorem flW_came (c' : V) : putF "came_by" c' (flW wb r st cm gn ly) = flW wb r st c' gn ly := rfl
theorem flW_gone (g' : V) : putF "gone_through" g' (flW wb r st cm gn ly) = flW wb r st cm g' ly := rfl
theorem flW_lweb : (flW wb r st cm gn ly).lookup ("web" : Str) = some wb := rfl
theorem flW_lroom : (flW wb r st cm gn ly).lookup ("room" : Str) = some r := rfl
theorem flW_lcame : (flW wb r st cm gn ly).lookup ("came_by" : Str) = some cm := rfl
theorem flW_lgone : (flW wb r st cm gn ly).lookup ("gone_through" : Str) = some gn := rfl
theorem flW_llying : (flW wb r st cm gn ly).lookup ("lying" : Str) = some ly := rfl
theorem flW_here : (flW wb r st cm gn ly).lookup ("here" : Str) = none := rfl
theorem flW_go : (flW wb r st cm gn ly).lookup ("go" : Str) = none := rfl
end
/-- a walker in room r -/
def WkAt (C : Addr) (H : Hp) (a wa ly : Addr) (n r : Nat) : Prop := ∃ dx cm gn, H a = some (.ins C dx (flW (.ref wa) (.int (r : Int)) (.int 0) cm (.int gn) (.ref ly))) ∧ H ly = some (.lst (List.replicate n (.int 0)))
theorem WkAt.s {C a wa ly : Addr} {n r : Nat} {H H' : Hp} (s : Same H H') (h : WkAt C H a wa ly n r) : WkAt C H' a wa ly n r := by
  obtain ⟨dx, cm, gn, h1, h2⟩ := h
  exact ⟨dx, cm, gn, s _ _ h1, s _ _ h2⟩
section
variable {P : Program} {w : World} {K : PySem.W.Frag} {mg : Str → Option Value} {base : Heap} {CW : Addr}
def spWkI (C : Addr) : Sp := fun vs H Q _ => ∃ (a dx wa : Addr) (W : Web) (n r : Nat), vs = [.ref a, .ref wa, .int (r : Int), .int 0] ∧ H a = some (.ins C dx []) ∧ WebR H (.ref wa) W ∧ W.length = n ∧ n ≤ 9 ∧
  ∀ (ly : Addr) (H' : Hp), H ly = none → Kp a H H' → WkAt C H' a wa ly n r → Q .non H'
theorem ok_Walker_init {f : Addr} {fd : FuncData} (F : FnP K "__init__" "Walker.__init__" s_Walker_init f fd) (T : Txt mg) (kW : WalkerK K CW) : FnOk P w K mg base CX0 1 f fd p_Walker_init (spWkI CW) := by
  refine okd F sc_Walker_init (fun vs H Q E h => ?_) (fun cdv A outer s H vs Q E hr h => ?_)
  · obtain ⟨a, dx, wa, W, n, r, rfl, _⟩ := h
    rfl
  · obtain ⟨a, dx, wa, W, n, r, rfl, ha, hW, hn, hn9, k⟩ := h
    refine ⟨_, (pss_cons (kSetFld K rfl (pv 0) (pv 1) rfl)
      (pss_cons (kSetFld K rfl (pv 0) (pv 2) rfl)
      (pss_cons (kSetFld K rfl (pv 0) (pv 3) rfl)
      (pss_cons (kSetFld K rfl (pv 0) pe_non rfl)
      (pss_cons (kSetFld K rfl (pv 0) pe_int rfl)
      (pss_one (kSetFld K rfl (pv 0) (pe_op op_rep (pe_lst (pa_cons pe_int pa_nil)) (pe_callB (kLen K) (by rfl) T.len PySem.boot_len (pa_cons (pv 1) pa_nil))) rfl))))))), ?_⟩
    have hbig : sizeLine = 16777216 := PySem.sizeLine_eq
    obtain ⟨ws, sW, pW, eW, lW⟩ := tup_sq (K := K) hW
    have hwa : wa ≠ a := fun z => by rw [z, ha] at eW; cases eW
    refine ⟨_, rfl, _, rfl, a, CW, dx, _, rfl, ha, kW.c, kW.web, by show 0 < 1000; decide, ?_⟩
    refine ⟨_, rfl, _, rfl, a, CW, dx, _, rfl, upd_same, kW.c, kW.room, by show 1 < 1000; decide, ?_⟩
    refine ⟨_, rfl, _, rfl, a, CW, dx, _, rfl, upd_same, kW.c, kW.stones, by show 2 < 1000; decide, ?_⟩
    refine ⟨_, rfl, a, CW, dx, _, rfl, upd_same, kW.c, kW.came, by show 3 < 1000; decide, ?_⟩
    refine ⟨_, rfl, a, CW, dx, _, rfl, upd_same, kW.c, kW.gone, by show 4 < 1000; decide, ?_⟩
    rw [upd_upd, upd_upd, upd_upd, upd_upd]
    refine ⟨by show 1 ≤ sizeLine; decide, fun q hq => ?_⟩
    have hqa : q ≠ a := fun z => by rw [z, upd_same] at hq; cases hq
    have eN : ((ws.length : Nat) : Int).toNat = n := by rw [Int.toNat_natCast, lW, hn]
    refine ⟨_, rfl, _, _, rfl, .inr (SqT.of (same_new hq _ _ (by rw [upd_ne hwa]; exact eW))), q, _, _, rfl, rfl, upd_same, by omega, by omega, by rw [eN, List.length_singleton]; omega, fun ly hly => ?_⟩
    rw [eN, flat_rep]
    have hlya : ly ≠ a := fun z => by
      have h9 := same_new (o := .lst [V.int 0]) hq a _ (upd_same (H := H))
      rw [z, h9] at hly; cases hly
    refine ⟨_, rfl, a, CW, dx, _, rfl, by rw [upd_ne (Ne.symm hlya), upd_ne (Ne.symm hqa)]; exact upd_same, kW.c, kW.lying, by show 5 < 1000; decide, ?_⟩
    rw [flW_make]
    have hqH : H q = none := by rw [upd_ne hqa] at hq; exact hq
    have hlyH : H ly = none := by
      have h1 : ly ≠ q := fun z => by rw [z, upd_same] at hly; cases hly
      rw [upd_ne h1, upd_ne hlya] at hly; exact hly
    refine k ly _ hlyH (fun x o hx e => ?_) ⟨dx, .non, 0, upd_same, by rw [upd_ne hlya]; exact upd_same⟩
    rw [upd_ne hx, upd_ne (ne_of_none e hlyH), upd_ne (ne_of_none e hqH), upd_ne hx]
    exact e
def spWkH (C : Addr) : Sp := fun vs H Q _ => ∃ (a wa ly : Addr) (W : Web) (n d r : Nat), vs = [.ref a] ∧ WebR H (.ref wa) W ∧ Rg W n d ∧ r < n ∧ WkAt C H a wa ly n r ∧ ∀ (v : V) (H' : Hp), Same H H' → Q v H'
theorem rep_at {n r : Nat} (h : r < n) : atI (List.replicate n (V.int 0)) (r : Int) = some (.int 0) := atI_nat (by rw [List.getElem?_replicate, if_pos h])
theorem ok_Walker_here {f : Addr} {fd : FuncData} (F : FnP K "here" "Walker.here" s_Walker_here f fd) (T : Txt mg) (kW : WalkerK K CW) : FnOk P w K mg base CX0 1 f fd p_Walker_here (spWkH CW) := by
  refine okd F sc_Walker_here (fun vs H Q E h => ?_) (fun cdv A outer s H vs Q E hr h => ?_)
  · obtain ⟨a, wa, ly, W, n, d, r, rfl, _⟩ := h
    rfl
  · obtain ⟨a, wa, ly, W, n, d, r, rfl, hW, g, hr', ⟨dx, cm, gn, ha, hly⟩, k⟩ := h
    refine ⟨_, (pss_one (ps_ret (pe_tup (pa_cons (pe_callB (kLen K) (by rfl) T.len PySem.boot_len (pa_cons (pe_ix (kIxT K) (kFld K rfl (pv 0) rfl) (kFld K rfl (pv 0) rfl) (fun _ _ => rfl)) pa_nil)) (pa_cons (kFld K rfl (pv 0) rfl) (pa_cons (pe_ix (kIxL K) (kFld K rfl (pv 0) rfl) (kFld K rfl (pv 0) rfl) (fun _ _ => rfl)) pa_nil)))))), ?_⟩
    obtain ⟨vs1, b1, s1, a1, r1⟩ := web_row (K := K) hW g hr'
    obtain ⟨rs, sR, _, _, lR⟩ := tup_sq (K := K) r1
    refine ⟨_, rfl, _, CW, _, _, _, rfl, ha, kW.c, kW.web, flW_lweb, (⟨_, rfl, _, CW, _, _, _, rfl, ha, kW.c, kW.room, flW_lroom, _, _, _, _, rfl, rfl, s1, a1, _, _, rfl, .inr sR, ⟨_, rfl, _, CW, _, _, _, rfl, ha, kW.c, kW.came, flW_lcame, (⟨_, rfl, _, CW, _, _, _, rfl, ha, kW.c, kW.lying, flW_llying, (⟨_, rfl, _, CW, _, _, _, rfl, ha, kW.c, kW.room, flW_lroom, _, _, _, _, rfl, rfl, SqL.of hly, rep_at hr', by show 3 ≤ sizeLine; decide, fun p hp => k _ _ (same_new hp)⟩)⟩)⟩⟩)⟩
def spWkG (C : Addr) : Sp := fun vs H Q _ => ∃ (a wa ly : Addr) (W : Web) (n d r i : Nat), vs = [.ref a, .int (i : Int)] ∧ WebR H (.ref wa) W ∧ Rg W n d ∧ r < n ∧ i < d ∧ WkAt C H a wa ly n r ∧ ∀ (v : V) (H' : Hp), Kp a H H' → WkAt C H' a wa ly n (step W r i) → Q v H'
theorem ok_Walker_go {f : Addr} {fd : FuncData} (F : FnP K "go" "Walker.go" s_Walker_go f fd) (T : Txt mg) (kW : WalkerK K CW) (c_Walker_here : Mth P w K mg base 1 CW "here" p_Walker_here (spWkH CW)) : FnOk P w K mg base CX0 2 f fd p_Walker_go (spWkG CW) := by
  refine okd F sc_Walker_go (fun vs H Q E h => ?_) (fun cdv A outer s H vs Q E hr h => ?_)
  · obtain ⟨a, wa, ly, W, n, d, r, i, rfl, _⟩ := h
    rfl
  · obtain ⟨a, wa, ly, W, n, d, r, i, rfl, hW, g, hr', hi, ⟨dx, cm, gn, ha, hly⟩, k⟩ := h
    refine ⟨_, (pss_cons (ps_if (pt_not (pt_chain op_le op_lt pe_int (pv 1) (pe_callB (kLen K) (by rfl) T.len PySem.boot_len (pa_cons (pe_ix (kIxT K) (kFld K rfl (pv 0) rfl) (kFld K rfl (pv 0) rfl) (fun _ _ => rfl)) pa_nil)))) (pss_one ps_never) pss_nil)
      (pss_cons (ps_asg (pe_ix (kIxT K) (pe_ix (kIxT K) (kFld K rfl (pv 0) rfl) (kFld K rfl (pv 0) rfl) (fun _ _ => rfl)) (pv 1) (fun _ _ => rfl)) (kgTup (n := 2) K rfl rfl (pgs_cons (kgFld K rfl (pv 0)) (pgs_cons (kgFld K rfl (pv 0)) pgs_nil))))
      (pss_cons (kFldAug K rfl (pv 0) pe_int in_add)
      (pss_one (ps_ret (pe_mt0 c_Walker_here (hr.mono (by decide)) (pv 0))))))), ?_⟩
    obtain ⟨vs1, b1, s1, a1, r1⟩ := web_row (K := K) hW g hr'
    obtain ⟨rs, sR, _, _, lR⟩ := tup_sq (K := K) r1
    obtain ⟨vs2, c2, s2, a2, r2⟩ := row_end (K := K) r1 g hr' hi
    have lR' : rs.length = d := by rw [lR, g.rows r hr']
    have e1 : decide ((0 : Int) ≤ (i : Int)) = true := decide_eq_true (by omega)
    have e2 : decide ((i : Int) < ((rs.length : Nat) : Int)) = true := decide_eq_true (by omega)
    refine ⟨_, rfl, _, _, rfl, rfl, _, rfl, ?_⟩
    rw [e1]
    refine iteT (⟨_, rfl, _, CW, _, _, _, rfl, ha, kW.c, kW.web, flW_lweb, (⟨_, rfl, _, CW, _, _, _, rfl, ha, kW.c, kW.room, flW_lroom, _, _, _, _, rfl, rfl, s1, a1, _, _, rfl, .inr sR, _, _, rfl, rfl, _, rfl, ?_⟩)⟩)
    rw [e2]
    refine iteF ?_
    refine ⟨_, rfl, _, CW, _, _, _, rfl, ha, kW.c, kW.web, flW_lweb, (⟨_, rfl, _, CW, _, _, _, rfl, ha, kW.c, kW.room, flW_lroom, _, _, _, _, rfl, rfl, s1, a1, _, rfl, _, _, _, _, rfl, rfl, s2, a2, ?_⟩)⟩
    have hlya : ly ≠ a := fun z => by rw [z, ha] at hly; cases hly
    have hwa : ∀ x o, x ≠ a → H x = some o → ∀ fs, upd H a (.ins CW dx fs) x = some o := fun x o hx e fs => by rw [upd_ne hx]; exact e
    refine ⟨c2, _, rfl, SqT.of r2, rfl, _, _, rfl, _, rfl, a, CW, dx, _, rfl, ha, kW.c, kW.room, by show 6 < 1000; decide, _, _, rfl, _, rfl, a, CW, dx, _, rfl, upd_same, kW.c, kW.came, by show 6 < 1000; decide, rfl, ?_⟩
    rw [upd_upd, flW_room, flW_came]
    refine ⟨_, rfl, a, CW, dx, _, _, rfl, upd_same, kW.c, kW.gone, flW_lgone, _, _, rfl, rfl, dx, _, upd_same, by show 6 < 1000; decide, ?_⟩
    rw [upd_upd, flW_gone]
    have kp : Kp a H (upd H a (.ins CW dx (flW (.ref wa) (.int ((en W r i).1 : Int)) (.int 0) (.int ((en W r i).2 : Int)) (.int (gn + 1)) (.ref ly)))) := Kp.put (Kp.refl a H)
    have wk : WkAt CW (upd H a (.ins CW dx (flW (.ref wa) (.int ((en W r i).1 : Int)) (.int 0) (.int ((en W r i).2 : Int)) (.int (gn + 1)) (.ref ly)))) a wa ly n (step W r i) := ⟨dx, _, _, upd_same, by rw [upd_ne hlya]; exact hly⟩
    refine ⟨_, rfl, a, dx, _, rfl, upd_same, flW_here, a, wa, ly, W, n, d, step W r i, rfl, fx_web _ _ _ _ (nx_kp kp ha) hW, g, g.step_lt hr' hi, wk, fun v H' s' => k v H' (kp.trans (.of s')) (wk.s s')⟩
def spOnl (C : Addr) : Sp := fun vs H Q _ => ∃ (a wa ly : Addr) (n r : Nat), vs = [.ref a] ∧ n ≤ 9 ∧ WkAt C H a wa ly n r ∧ ∀ (p : Addr) (c : V) (H' : Hp), H p = none → Same H H' → H' p = some (.tup [.int (r : Int), c]) → Q (.ref p) H'
theorem ok_onlooker {f : Addr} {fd : FuncData} (F : FnP K "onlooker" "onlooker" s_onlooker f fd) (T : Txt mg) (kW : WalkerK K CW) : FnOk P w K mg base CX0 1 f fd p_onlooker (spOnl CW) := by
  refine okd F sc_onlooker (fun vs H Q E h => ?_) (fun cdv A outer s H vs Q E hr h => ?_)
  · obtain ⟨a, wa, ly, n, r, rfl, _⟩ := h
    rfl
  · obtain ⟨a, wa, ly, n, r, rfl, hn, ⟨dx, cm, gn, ha, hly⟩, k⟩ := h
    refine ⟨_, (pss_cons (ps_set (i := 1) sc_onlooker.nd rfl (by first | exact Or.inl rfl | exact Or.inr rfl) (pe_lst pa_nil))
      (pss_cons (ps_for PassesOwn.never rfl (kEnum K rfl (by rfl) T.enumerate (pa_cons (kFld K rfl (pv 0) rfl) pa_nil)) (kgTup (n := 2) K rfl rfl (pgs_cons (pg_name (i := 2) sc_onlooker.nd rfl (by first | exact Or.inl rfl | exact Or.inr rfl)) (pgs_cons (pg_name (i := 3) sc_onlooker.nd rfl (by first | exact Or.inl rfl | exact Or.inr rfl)) pgs_nil)))
      (pss_one (ps_expr (pe_bm PySem.F.plainAttrs_list PySem.F.slot_list_extend PySem.F.type_list_extend mt_extend (pv 1) (pa_cons (pe_op op_rep (pe_lst (pa_cons (pv 2) pa_nil)) (pv 3)) pa_nil)))))
      (pss_one (ps_ret (pe_tup (pa_cons (kFld K rfl (pv 0) rfl) (pa_cons (pe_callTy (kTupOf K) (by rfl) T.tuple (by decide +kernel) (pa_cons (pv 1) pa_nil)) pa_nil))))))), ?_⟩
    have hbig : sizeLine = 16777216 := PySem.sizeLine_eq
    refine ⟨by show 0 ≤ sizeLine; decide, fun D hD => ?_⟩
    have sD := same_new (o := .lst []) hD
    refine ⟨_, rfl, _, CW, _, _, _, rfl, (sD _ _ ha), kW.c, kW.lying, flW_llying, ly, _, rfl, SqL.of (sD _ _ hly), for_it (walk_enum (K := K) (a := ly) (xs := List.replicate n (V.int 0))) (fun i σ H' => Same H H' ∧ H' D = some (.lst []) ∧ ∃ c v, σ = [some (.ref a), some (.ref D), c, v])
      ⟨sD, upd_same, none, none, rfl⟩ (fun i σ H' _ z => SqL.of (z.1 _ _ hly)) ?_ ?_⟩
    · rintro i x σ H1 H2 hi ⟨hs, hv, c, v, rfl⟩ ⟨T0, x1, y, rfl, hT, rfl, e1, hy⟩
      cases e1
      have ey : y = .int 0 := List.eq_of_mem_replicate (List.mem_of_getElem? hy)
      subst ey
      have s3 := sn (o := .tup [.int (i : Nat), V.int 0]) hs hT
      have hv3 := same_new (o := .tup [.int (i : Nat), V.int 0]) hT _ _ hv
      refine ⟨T0, _, rfl, SqT.of upd_same, rfl, _, _, rfl, _, _, rfl, rfl, ?_⟩
      refine ⟨_, rfl, .inl ⟨rfl, _, SqL.of hv3⟩, _, rfl, by show 1 ≤ sizeLine; decide, fun q hq => ⟨_, rfl, q, _, _, rfl, rfl, upd_same, by decide, by decide, by show 1 * 0 ≤ sizeLine; decide, fun q2 hq2 => ?_⟩⟩
      have s5 := sn (o := .lst (List.replicate (0 : Int).toNat [V.int (i : Nat)]).flatten) (sn (o := .lst [V.int (i : Nat)]) s3 hq) hq2
      have hv5 : upd (upd (upd H1 T0 (.tup [.int (i : Nat), V.int 0])) q (.lst [V.int (i : Nat)])) q2 (.lst (List.replicate (0 : Int).toNat [V.int (i : Nat)]).flatten) D = some (.lst []) := same_new hq2 _ _ (same_new hq _ _ hv3)
      refine ⟨D, q2, _, _, rfl, rfl, hv5, upd_same, by show 0 + 0 ≤ sizeLine; decide, ?_⟩
      exact ⟨same_mut s5 hD, upd_same, _, _, rfl⟩
    · rintro σ H1 ⟨hs, hv, c, v, rfl⟩
      refine ⟨_, rfl, _, CW, _, _, _, rfl, (hs _ _ ha), kW.c, kW.room, flW_lroom, _, rfl, D, _, rfl, .inl ⟨SqL.of hv, fun l hl => ⟨by show 2 ≤ sizeLine; decide, fun p hp => ?_⟩⟩⟩
      exact k p _ _ (none_back (sn hs hl) hp) (sn (sn hs hl) hp) upd_same
end
end Sw
/-! SwC7 -/
set_option Elab.async false
set_option linter.all false
set_option maxRecDepth 100000
set_option maxHeartbeats 4000000
namespace Sw
open PySem L2
theorem asc_range {n : Nat} {l : List Nat} : asc n l = List.range n ↔ ∀ t, t < n → t ∈ l := by
  unfold asc
  rw [List.filter_eq_self]
  exact ⟨fun h t ht => of_decide_eq_true (h t (List.mem_range.mpr ht)), fun h t ht => decide_eq_true (h t (List.mem_range.mp ht))⟩
theorem dp_nats {K : PySem.W.Frag} {H : Hp} : ∀ l : List Nat, DpAll K H (nats l) (l.map pdN)
  | [] => .nil
  | a :: t => .cons (.int _) (dp_nats t)
theorem rg_nats (n : Nat) : rgV 0 (n : Int) = nats (List.range n) := by
  unfold rgV nats
  have e : ((n : Int) - 0).toNat = n := by omega
  rw [e]
  refine List.map_congr_left fun i _ => ?_
  rw [Int.zero_add]
section
variable {P : Program} {w : World} {K : PySem.W.Frag} {mg : Str → Option Value} {base : Heap} {CW : Addr}
def spWalked : Sp := fun vs H Q _ => ∃ (a b : Addr) (W : Web) (n d r : Nat) (l : List Nat), vs = [.ref a, .int (r : Int), .ref b] ∧ WebR H (.ref a) W ∧ WayR H (.ref b) l ∧ Rg W n d ∧ r < n ∧ n ≤ 9 ∧ (∀ i ∈ l, i < d) ∧ l.length ≤ 900 ∧
  ∀ (c : Bool) (H' : Hp), Same H H' → (c = true ↔ Sees W r l) → Q (.bl c) H'
theorem ok_l_walked {f : Addr} {fd : FuncData} (F : FnP K "_law_walked" "_law_walked" s_l_walked f fd) (T : Txt mg) (kW : WalkerK K CW) (c_Walker : Mkr P w K mg base 1 "Walker" CW p_Walker_init (spWkI CW)) (c_Walker_go : Mth P w K mg base 2 CW "go" p_Walker_go (spWkG CW))
    (c_onlooker : Cal P w K mg base 2 "onlooker" p_onlooker (spOnl CW)) : FnOk P w K mg base CX0 3 f fd p_l_walked spWalked := by
  refine okd F sc_l_walked (fun vs H Q E h => ?_) (fun cdv A outer s H vs Q E hr h => ?_)
  · obtain ⟨a, b, W, n, d, r, l, rfl, _⟩ := h
    rfl
  · obtain ⟨a, b, W, n, d, r, l, rfl, hW, hl, g, hrn, hn, hd, hlen, k⟩ := h
    refine ⟨_, (pss_cons (ps_set (i := 3) sc_l_walked.nd rfl (by first | exact Or.inl rfl | exact Or.inr rfl) (pe_mk c_Walker (hr.mono (by decide)) (pa_cons (pv 0) (pa_cons (pv 1) (pa_cons pe_int pa_nil)))))
      (pss_cons (ps_set (i := 4) sc_l_walked.nd rfl (by first | exact Or.inl rfl | exact Or.inr rfl) (pe_lst (pa_cons (pe_ix (kIxT K) (pe_cal c_onlooker (hr.mono (by decide)) (pa_cons (pv 3) pa_nil)) pe_int (fun _ _ => rfl)) pa_nil)))
      (pss_cons (ps_for PassesOwn.never rfl (kTup K rfl (pv 2)) (pg_name (i := 5) sc_l_walked.nd rfl (by first | exact Or.inl rfl | exact Or.inr rfl))
      (pss_cons (ps_expr (pe_mt c_Walker_go (hr.mono (by decide)) (pv 3) (pa_cons (pv 5) pa_nil)))
      (pss_one (ps_expr (pe_bm PySem.F.plainAttrs_list PySem.F.slot_list_append PySem.F.type_list_append mt_append (pv 4) (pa_cons (pe_ix (kIxT K) (pe_cal c_onlooker (hr.mono (by decide)) (pa_cons (pv 3) pa_nil)) pe_int (fun _ _ => rfl)) pa_nil))))))
      (pss_one (ps_ret (pe_cmpR (kEqD K rfl hr.units) (pe_callB (kSortSet w rfl rfl) (by rfl) T.sorted (by decide +kernel) (pa_cons (pe_callTy (kSetI K w rfl rfl rfl) (by rfl) T.set (by decide +kernel) (pa_cons (pv 4) pa_nil)) pa_nil)) (pe_listRg rfl (by rfl) T.list (prg_1 (by rfl) T.range (pe_callB (kLen K) (by rfl) T.len PySem.boot_len (pa_cons (pv 0) pa_nil)))) (nomark _))))))), ?_⟩
    have hbig : sizeLine = 16777216 := PySem.sizeLine_eq
    obtain ⟨ls, hls, hlp, hb, lls⟩ := tup_sq (K := K) hl
    obtain ⟨ws, sW, pW, eW, lW⟩ := tup_sq (K := K) hW
    have els := pd_ints hlp
    refine ⟨_, rfl, _, rfl, fun x dx hx hdx hne => ?_⟩
    have s1 : Same H (upd (upd H dx (.own x)) x (.ins CW dx [])) := sn (same_new hdx) (by rw [upd_ne (Ne.symm hne)]; exact hx)
    refine ⟨x, dx, a, W, n, r, rfl, upd_same, firm_web.s s1 hW, g.len, hn, fun ly H1 hly0 k1 hwk => ⟨rfl, ?_⟩⟩
    have sH1 : Same H H1 := fun q o e => k1 q o (ne_of_none e hx) (s1 q o e)
    refine ⟨_, rfl, x, a, ly, n, r, rfl, hn, hwk, fun p c H2 hp s2 hpt => ⟨_, _, _, _, rfl, rfl, SqT.of hpt, rfl, by show 1 ≤ sizeLine; decide, fun D hD => ?_⟩⟩
    have sH2 := st sH1 s2
    have hDH := none_back sH2 hD
    have hlyD : ly ≠ D := by
      obtain ⟨_, _, _, _, h62⟩ := hwk.s s2
      exact ne_of_none h62 hD
    refine ⟨_, rfl, b, rfl, ⟨ls, same_t (sn sH2 hD) hls⟩, for_tup (K := K) (a := b) (xs := ls) (fun i σ H' => Same H H' ∧ WkAt CW H' x a ly n (walk W r (l.take i)) ∧ H' D = some (.lst (nats (vis W r (l.take i)))) ∧ ∃ v, σ = [some (.ref a), some (.int (r : Int)), some (.ref b), some (.ref x), some (.ref D), v])
      ⟨sn sH2 hD, (hwk.s s2).s (same_new hD), upd_same, none, rfl⟩ (fun i σ H' _ z => same_t z.1 hls) ?_ ?_⟩
    · rintro i y σ H3 hy ⟨hs, hwk3, hv, v, rfl⟩
      rw [els, List.getElem?_map] at hy
      obtain ⟨j, hj, rfl⟩ := Option.map_eq_some_iff.mp hy
      have hjd := hd j (List.mem_of_getElem? hj)
      have hrt : walk W r (l.take i) < n := g.walk_lt hrn fun q hq => hd q (List.mem_of_mem_take hq)
      have et := take_snoc hj
      have e : walk W r (l.take (i + 1)) = step W (walk W r (l.take i)) j := by rw [et, walk_snoc]
      have hwk3' := hwk3
      obtain ⟨dx3, cm3, gn3, hx3, hly3⟩ := hwk3
      have hDx : D ≠ x := fun z => by rw [z, hx3] at hv; cases hv
      refine ⟨_, rfl, x, dx3, _, rfl, hx3, flW_go, _, rfl, x, a, ly, W, n, d, walk W r (l.take i), j, rfl, firm_web.s hs hW, g, hrt, hjd, hwk3', fun v4 H4 k4 hwk4 => ?_⟩
      have s4 : Same H H4 := fun q o e => k4 q o (ne_of_none e hx) (hs q o e)
      have hv4 := k4 _ _ hDx hv
      refine ⟨_, rfl, .inl ⟨rfl, _, SqL.of hv4⟩, _, rfl, x, a, ly, n, step W (walk W r (l.take i)) j, rfl, hn, hwk4, fun p5 c5 H5 hp5 s5 hpt5 => ⟨_, _, _, _, rfl, rfl, SqT.of hpt5, rfl, ?_⟩⟩
      have hv5 := s5 _ _ hv4
      have hlv : (nats (vis W r (l.take i))).length < sizeLine := by
        rw [List.length_map, vis_len, List.length_take]; omega
      refine ⟨D, _, _, rfl, rfl, hv5, hlv, same_mut (st s4 s5) hDH, ?_, ?_, _, rfl⟩
      · rw [e]
        obtain ⟨dx6, cm6, gn6, h61, h62⟩ := hwk4.s s5
        exact ⟨dx6, cm6, gn6, by rw [upd_ne (Ne.symm hDx)]; exact h61, by rw [upd_ne hlyD]; exact h62⟩
      · rw [upd_same, et, vis_snoc, ← et, e]
        simp [nats]
    · rintro σ H3 ⟨hs, hwk3, hv, v, rfl⟩
      rw [lls, List.take_length] at hv
      refine ⟨_, rfl, D, ins (vis W r l), rfl, .inr (SqL.of (by rw [ins_nats]; exact hv)), by rw [List.length_map, vis_len]; omega, fun q c hq hc => ?_⟩
      have hvl : ∀ x ∈ vis W r l, x < n := g.vis_lt hrn hd
      have hc9 := hc (ins (List.range n)) fun x hx => by
        obtain ⟨y, hy, rfl⟩ := List.mem_map.mp hx
        exact List.mem_map.mpr ⟨y, List.mem_range.mpr (hvl y hy), rfl⟩
      rw [List.length_map, List.length_range] at hc9
      refine ⟨q, _, c, rfl, upd_same, by omega, fun ns p h1 h2 h3 hp => ?_⟩
      have hns := rise_asc (n := n) (l := vis W r l) hvl h1 h2
      have s5 := sn (o := .lst (ns.map V.int)) (sn (o := SetO w q (fun j => decide (j ∈ ins (vis W r l))) c) hs hq) hp
      have lW' : ws.length = n := by rw [lW, g.len]
      refine ⟨_, rfl, _, _, rfl, .inr (same_t s5 sW), _, rfl, RgOk.of_le (by decide) (by omega) (by decide) (by omega), fun q2 hq2 => ?_⟩
      rw [lW', rg_nats] at *
      refine ⟨.list ((asc n (vis W r l)).map pdN), .list ((List.range n).map pdN), .lst (SqL.of (by rw [upd_ne (ne_of_none (upd_same (H := upd H3 q (SetO w q (fun j => decide (j ∈ ins (vis W r l))) c))) hq2), upd_same, hns, ins_nats])) (dp_nats _), .lst (SqL.of upd_same) (dp_nats _), toldN.lst (by decide) _, toldN.lst (by decide) _, ?_⟩
      refine k _ _ (sn s5 hq2) ?_
      have e1 : PyData.eqv (.list ((asc n (vis W r l)).map pdN)) (.list ((List.range n).map pdN)) = PyData.eqvAll ((asc n (vis W r l)).map pdN) ((List.range n).map pdN) := by simp only [PyData.eqv]
      rw [e1, toldN.list.1, asc_range]
      unfold Sees
      rw [g.len]
end
end Sw
/-! SwL5 -/
set_option Elab.async false
set_option linter.all false
set_option maxRecDepth 100000
set_option maxHeartbeats 4000000
/-! a dict with nested tuples for keys, each leading to True -/
namespace Sw
open PySem PySem.Spec PyProof.Rows L2
def nkS (p : Nat × List Nat) : NestedKey := .tup [.num (p.1 : Int), .tup (p.2.map fun x : Nat => .num (x : Int))]
def nk (c : Cfg) : NestedKey := .tup (c.map nkS)
theorem map_inj1 {α β : Type} {f : α → β} (h : ∀ x y, f x = f y → x = y) : ∀ {l m : List α}, l.map f = m.map f → l = m
  | [], [], _ => rfl
  | [], _ :: _, e => by cases e
  | _ :: _, [], e => by cases e
  | x :: l, y :: m, e => by
    rw [List.map_cons, List.map_cons, List.cons.injEq] at e
    rw [h x y e.1, map_inj1 h e.2]
theorem nkS_inj (p q : Nat × List Nat) (h : nkS p = nkS q) : p = q := by
  unfold nkS at h
  rw [NestedKey.tup.injEq, List.cons.injEq, NestedKey.num.injEq, List.cons.injEq, NestedKey.tup.injEq] at h
  refine Prod.ext (Int.natCast_inj.mp h.1) (map_inj1 (fun x y e => ?_) h.2.1)
  rw [NestedKey.num.injEq] at e
  exact Int.natCast_inj.mp e
theorem nk_inj {c d : Cfg} (h : nk c = nk d) : c = d := by
  unfold nk at h
  rw [NestedKey.tup.injEq] at h
  exact map_inj1 nkS_inj h
theorem dep_all {α : Type} {f : α → NestedKey} {n : Nat} (h : ∀ x, (f x).depth ≤ n) : ∀ l : List α, NestedKey.depthAll (l.map f) ≤ n
  | [] => by simp [NestedKey.depthAll]
  | x :: l => by
    have := h x
    have := dep_all h l
    rw [List.map_cons, NestedKey.depthAll]
    omega
theorem nkS_dep (p : Nat × List Nat) : (nkS p).depth ≤ 2 := by
  have := dep_all (f := fun x : Nat => NestedKey.num (x : Int)) (n := 0) (fun x => by simp [NestedKey.depth]) p.2
  unfold nkS
  simp only [NestedKey.depth, NestedKey.depthAll]
  omega
theorem nk_dep (c : Cfg) : (nk c).depth ≤ 8 := by
  have := dep_all nkS_dep c
  unfold nk
  simp only [NestedKey.depth]
  omega
section
variable {X : Cx} {pins : List (Addr × Obj)} {σ : L2.St} {H : Hp} {s : Shared}
/-- what the tracked heap tells is there -/
def Says {α : Type} (X : Cx) (H : Hp) (s : Shared) (R : Rep α) (f : α → NestedKey) : Prop := ∀ v x u, R H v x → RelV v u → NestedIs s.heap (f x) u
theorem says_all {α : Type} {R : Rep α} {f : α → NestedKey} (h : Says X H s R f) : ∀ {vs : List V} {xs : List α} {us : List Value}, Paired (R H) vs xs → Vals vs us → NestedAll s.heap (xs.map f) us
  | _, _, _, .nil, .nil => .nil
  | _, _, _, .cons r t, .cons q u => .cons (h _ _ _ r q) (says_all h t u)
theorem says_tup {α : Type} {R : Rep α} {f : α → NestedKey} (I : Inv X pins σ H s) (h : Says X H s R f) : Says X H s (TupR R) (fun xs => .tup (xs.map f)) := by
  intro v xs u ⟨a, vs, e, ha, hp⟩ r
  subst e
  cases r
  obtain ⟨its, rv, ⟨o, ho, hc, n, hd⟩, _⟩ := I.tuple (SqT.of ha)
  exact .tup ho hc hd (says_all h hp rv)
theorem says_int : Says X H s IntR (fun n => .num (n : Int)) := by
  intro v n u h r
  subst h
  obtain ⟨t, rfl⟩ := r
  exact .int _ _
theorem says_spot (I : Inv X pins σ H s) : Says X H s SpotR nkS := by
  intro v p u ⟨a, w, e, ha, hw⟩ r
  subst e
  cases r
  obtain ⟨its, rv, ⟨o, ho, hc, n, hd⟩, _⟩ := I.tuple (SqT.of ha)
  obtain ⟨u1, u2, e2, r1, r2⟩ := vals2 rv
  subst e2
  exact .tup ho hc hd (.cons (says_int (X := X) (H := H) (s := s) _ _ _ rfl r1) (.cons (says_tup I says_int _ _ _ hw r2) .nil))
theorem nk_is (I : Inv X pins σ H s) {b : Addr} {c : Cfg} (h : CfgR H (.ref b) c) : (nestedKind X.prog X.w).is s.heap (nk c) b := ⟨says_tup I (says_spot I) _ _ (.ref b) h rfl, nk_dep c⟩
end
abbrev rowsN (ks : List (Cfg × Addr)) : List (NestedKey × Addr × Value) := ks.map fun k => (nk k.1, k.2, Value.bool true)
def NdAt (P : Program) (w : World) (h : Heap) (d : Addr) (ks : List (Cfg × Addr)) : Prop := ∃ o es ep, h.get? d = some o ∧ o.ExactDict ∧ o.data = .dict es ep ∧ es.toList = (rowsN ks).map (entryOfKey (nestedKind P w)) ∧ ((rowsN ks).map (·.1)).Nodup ∧ (d == sysModules) = false
def NdO (P : Program) (w : World) (d : Addr) (ks : List (Cfg × Addr)) : HO := .ext fun h => NdAt P w h d ks
theorem nd_ok {P : Program} {w : World} {H : Hp} {h : Heap} {d : Addr} {ks : List (Cfg × Addr)} (n : NdAt P w h d ks) : ObjOk P w H h d (NdO P w d ks) := by
  obtain ⟨o, es, ep, ho, r⟩ := n
  exact ⟨⟨o, es, ep, ho, r⟩, ⟨o, ho⟩, fun h1 h2 ⟨o, es, ep, ho, r⟩ k => ⟨o, es, ep, k o ho, r⟩⟩
section
variable {X : Cx} {pins : List (Addr × Obj)} {σ : L2.St} {H : Hp} {s : Shared}
/-- all keys are where they were -/
def KeysIn (H : Hp) (ks : List (Cfg × Addr)) : Prop := ∀ k ∈ ks, CfgR H (.ref k.2) k.1
theorem KeysIn.firm {H H' : Hp} {ks : List (Cfg × Addr)} (n : NL H H') (h : KeysIn H ks) : KeysIn H' ks := fun k hk => firm_cfg _ _ _ _ n (h k hk)
theorem nd_get (I : Inv X pins σ H s) {d : Addr} {ks : List (Cfg × Addr)} (hd : H d = some (NdO X.prog X.w d ks)) (hk : KeysIn H ks) : s.heap.DictOfH (nestedKind X.prog X.w) d (rowsN ks) ∧ (d == sysModules) = false := by
  obtain ⟨⟨o, es, ep, ho, h1, h2, h3, h4, h5⟩, _⟩ := I.hok d _ hd
  refine ⟨⟨o, es, ep, ho, h1, h2, h3, fun x hx => ?_, h4⟩, h5⟩
  obtain ⟨k, hk2, rfl⟩ := List.mem_map.mp hx
  exact nk_is I (hk k hk2)
theorem at_rows {ks : List (Cfg × Addr)} {c : Cfg} : (atKey (rowsN ks) (nk c)).isSome = decide (c ∈ ks.map (·.1)) := by
  induction ks with
  | nil => rfl
  | cons k t ih =>
    have e : atKey (rowsN (k :: t)) (nk c) = if nk k.1 = nk c then some (k.2, Value.bool true) else atKey (rowsN t) (nk c) := by
      unfold atKey
      rw [show rowsN (k :: t) = (nk k.1, k.2, Value.bool true) :: rowsN t from rfl, List.find?_cons]
      by_cases h : nk k.1 = nk c
      · rw [if_pos h, decide_eq_true h]; rfl
      · rw [if_neg h, decide_eq_false h]
    rw [e]
    by_cases h : nk k.1 = nk c
    · have e2 := nk_inj h
      rw [if_pos h, decide_eq_true (by rw [← e2]; simp)]; rfl
    · have hne : ¬ c = k.1 := fun z => h (by rw [z])
      rw [if_neg h, ih, List.map_cons]
      by_cases h2 : c ∈ t.map (·.1)
      · rw [decide_eq_true h2, decide_eq_true (List.mem_cons_of_mem _ h2)]
      · rw [decide_eq_false h2, decide_eq_false fun z => (List.mem_cons.mp z).elim hne h2]
theorem hu9 {A : Around} (h : A.units + 8 + 100 < cLine) : A.in1.units + 8 < cLine := by show A.units + 1 + 8 < cLine; omega
/-- made not in known -/
def tNNotIn (P : Program) (w : World) (ti td : TE) : TE := fun σ H Q => ti σ H fun y H1 => td σ H1 fun x H2 => ∃ (b d : Addr) (c : Cfg) (ks : List (Cfg × Addr)), y = .ref b ∧ x = .ref d ∧ CfgR H2 (.ref b) c ∧ H2 d = some (NdO P w d ks) ∧ KeysIn H2 ks ∧ Q (.bl (!decide (c ∈ ks.map (·.1)))) H2
variable {o i e value k v : Expr} {pos pos' tpos : Pos} {td ti tv tk : TE}
theorem pc_nNotIn (P : Program) (w : World) (hP : X.prog = P := by rfl) (hw : X.w = w := by rfl) (hu : X.A.units + 8 + 100 < cLine) (hi : PE X i ti) (ho : PE X o td) : PC X .NotIn i o (tNNotIn P w ti td) := by
  subst hP hw
  refine ⟨fun pins s σ H Q I h => ?_⟩
  refine thn (hi.run pins s σ H _ I h) fun iv s1 ⟨y, H1, I1, ry, q1⟩ => thn (ho.run pins s1 σ H1 _ I1 q1) fun u s2 ⟨x, H2, I2, rx, b, d, c, ks, ey, ex, hc, hd, hk, q2⟩ => ?_
  subst ey ex
  cases rx
  cases ry
  obtain ⟨dd, lo⟩ := nd_get I2 hd hk
  refine wpAny_notIn_heap (knd := nestedKind X.prog X.w) (hu9 hu) (nk_is I2 hc) lo dd ?_
  rw [at_rows]
  exact ⟨.bl _, H2, I2.tok _, rfl, q2⟩
/-- known[made] = True, made not there -/
def sNPut (P : Program) (w : World) (td ti tv : TE) : TS := fun D σ H => tv σ H fun v H1 => td σ H1 fun x H2 => ti σ H2 fun y H3 => ∃ (b d : Addr) (c : Cfg) (ks : List (Cfg × Addr)), v = .bl true ∧ x = .ref d ∧ y = .ref b ∧ CfgR H3 (.ref b) c ∧ H3 d = some (NdO P w d ks) ∧ KeysIn H3 ks ∧ c ∉ ks.map (·.1) ∧ ks.length < sizeLine ∧
  D.nx σ (upd H3 d (NdO P w d (ks ++ [(c, b)])))
theorem ps_nput (P : Program) (w : World) (hP : X.prog = P := by rfl) (hw : X.w = w := by rfl) (hu : X.A.units + 8 + 100 < cLine) (ho : PE X o td) (hi : PE X i ti) (hv : PE X value tv) (hs : swapsWith value (some (.Subscript o i pos')) pos.line X.env = pure false) :
    PS X (.Assign [.Subscript o i pos'] value pos) (sNPut P w td ti tv) := by
  subst hP hw
  refine ⟨fun pins s σ H D I h => ?_⟩
  refine wpAny_Assign_Subscript (thn (hv.run pins s σ H _ I h) fun r s1 ⟨v, H1, I1, rv, q1⟩ => thn (ho.run pins s1 σ H1 _ I1 q1) fun u s2 ⟨x, H2, I2, rx, q2⟩ => thn (hi.run pins s2 σ H2 _ I2 q2) fun iv s3 ⟨y, H3, I3, ry, b, d, c, ks, ev, ex, ey, hc, hd, hk, hn, hl, q3⟩ => ?_) hs
  subst ev ex ey
  cases rx
  cases ry
  cases rv
  obtain ⟨dd, lo⟩ := nd_get I3 hd hk
  have hz : (rowsN ks).length ≤ sizeLine := by rw [List.length_map]; exact Nat.le_of_lt hl
  refine wpAny_setItem_heap (knd := nestedKind X.prog X.w) (hsz := hz) (hu9 hu) (nk_is I3 hc) dd fun h' dd' hsb => ?_
  have hno : atKey (rowsN ks) (nk c) = none := by
    have := at_rows (ks := ks) (c := c)
    rw [decide_eq_false hn] at this
    cases z : atKey (rowsN ks) (nk c) with
    | none => rfl
    | some p => rw [z] at this; cases this
  rw [storedH_new hno] at dd'
  obtain ⟨q, es, ep, hq, h2, h3, h4, _, h5⟩ := dd'
  have er : rowsN ks ++ [(nk c, b, Value.bool true)] = rowsN (ks ++ [(c, b)]) := by unfold rowsN; rw [List.map_append]; rfl
  rw [er] at h4 h5
  exact ⟨σ, _, d_write (t' := s3.toks + (nestedKind X.prog X.w).draws (nk c)) I3 (by rw [hd]; exact True.intro) hsb ⟨q, hq⟩ (nd_ok ⟨q, es, ep, hq, h2, h3, h4, h5, lo⟩), q3⟩
/-- {k: True} -/
def tNDisp (P : Program) (w : World) (tk tv : TE) : TE := fun σ H Q => ∀ d, H d = none → tk σ (upd H d (NdO P w d [])) fun x H1 => tv σ H1 fun y H2 => ∃ (b : Addr) (c : Cfg), x = .ref b ∧ y = .bl true ∧ H2 d = some (NdO P w d []) ∧ CfgR H2 (.ref b) c ∧ Q (.ref d) (upd H2 d (NdO P w d [(c, b)]))
theorem pe_ndisp (P : Program) (w : World) (hP : X.prog = P := by rfl) (hw : X.w = w := by rfl) (hu : X.A.units + 8 + 100 < cLine) (hk : PE X k tk) (hv : PE X v tv) : PE X (.Dict [some k] [v] pos) (tNDisp P w tk tv) := by
  subst hP hw
  refine ⟨fun pins s σ H Q I h => ?_⟩
  have fr := I.hok.fresh (Nat.le_refl s.heap.objs.size)
  have lo : (s.heap.objs.size == sysModules) = false := beq_eq_false_iff_ne.mpr (Nat.ne_of_gt I.big)
  have I1 := I.laid (a := s.heap.objs.size) (o := NdO X.prog X.w s.heap.objs.size []) (h' := s.heap.push { cls := .type "dict", data := .dict #[] }) (t' := s.toks) (fun _ _ q => Heap.get?_push_of_some _ q) (Nat.le_refl _)
    (nd_ok ⟨_, #[], 0, Heap.get?_push_size _ rfl, ⟨rfl, rfl, rfl⟩, rfl, rfl, List.nodup_nil, lo⟩)
  rw [arm_eval_Dict, zip_pairTrees [some k] [v] X.env pos rfl rfl, dictDisplay_pairs (pairTrees [some k] [v] X.env pos) (by simp [pairTrees]) (by simp [pairTrees])]
  refine wpAny_bind (wpAny_standAt (wpAny_bind (wpAny_subDictH (knd := nestedKind X.prog X.w) (by show X.A.units + 8 < cLine; omega) (by simp [pairTrees]) ?_)))
  refine pairTrees_cons_walk (thn (hk.run pins _ σ _ _ I1 (h _ fr)) fun u s1 ⟨x, H1, I2, rx, q1⟩ => thn (hv.run pins s1 σ H1 _ I2 q1) fun w2 s2 ⟨y, H2, I3, ry, b, c, ex, ey, hd, hc, q2⟩ => pairTrees_nil_walk ?_)
  subst ex ey
  cases rx
  cases ry
  obtain ⟨dd, _⟩ := nd_get I3 hd (fun z hz => by simp at hz)
  refine ⟨[(nk c, b, Value.bool true)], ⟨rfl, rfl, nk_is I3 hc, True.intro⟩, dd, fun h' tk' dd' hsb => wpAny_pure ?_⟩
  obtain ⟨q, es, ep, hq, h2, h3, h4, _, h5⟩ := dd'
  exact ⟨.ref s.heap.objs.size, _, d_write (t' := tk') I3 (by rw [hd]; exact True.intro) hsb ⟨q, hq⟩ (nd_ok (ks := [(c, b)]) ⟨q, es, ep, hq, h2, h3, h4, h5, lo⟩), rfl, q2⟩
end
end Sw
/-! SwD1 -/
set_option Elab.async false
set_option linter.all false
set_option maxRecDepth 100000
set_option maxHeartbeats 4000000
namespace Sw
open PySem L2
/-! ### tuples stay -/
def NT (H H' : Hp) : Prop := ∀ a xs, H a = some (.tup xs) → H' a = some (.tup xs)
theorem nt_nl {H H' : Hp} (n : NL H H') : NT H H' := fun a xs e => n a _ (fun ys q => nomatch q) e
theorem nt_s {H H' : Hp} (s : Same H H') : NT H H' := fun a xs e => s a _ e
theorem NT.trans {H H1 H2 : Hp} (a : NT H H1) (b : NT H1 H2) : NT H H2 := fun p xs e => b p xs (a p xs e)
theorem NT.refl (H : Hp) : NT H H := fun _ _ e => e
theorem nt_upd {H : Hp} {p : Addr} {o o' : HO} (h : H p = some o) (hn : ∀ xs, o ≠ .tup xs) : NT H (upd H p o') := fun a xs e => by
  rw [upd_ne fun z => hn xs (by rw [z, h] at e; exact Option.some.inj e)]; exact e
def FirmT {α : Type} (R : Rep α) : Prop := ∀ H H' v x, NT H H' → R H v x → R H' v x
theorem ft_int : FirmT IntR := fun _ _ _ _ _ h => h
theorem ft_end : FirmT EndR := fun H H' v e n ⟨a, h1, h2⟩ => ⟨a, h1, n a _ h2⟩
theorem ft_tup {α : Type} {R : Rep α} (h : FirmT R) : FirmT (TupR R) := fun H H' v xs n ⟨a, vs, h1, h2, h3⟩ => ⟨a, vs, h1, n a _ h2, pd_imp h3 fun x y r => h H H' x y n r⟩
theorem ft_way : FirmT WayR := ft_tup ft_int
theorem ft_spot : FirmT SpotR := fun H H' v x n ⟨a, u, h1, h2, h3⟩ => ⟨a, u, h1, n a _ h2, ft_way _ _ _ _ n h3⟩
theorem ft_cfg : FirmT CfgR := ft_tup ft_spot
abbrev Item := List Nat × Cfg
def ItemR : Rep Item := fun H v q => ∃ a u y, v = .ref a ∧ H a = some (.tup [u, y]) ∧ WayR H u q.1 ∧ CfgR H y q.2
theorem ft_item : FirmT ItemR := fun H H' v x n ⟨a, u, y, h1, h2, h3, h4⟩ => ⟨a, u, y, h1, n a _ h2, ft_way _ _ _ _ n h3, ft_cfg _ _ _ _ n h4⟩
theorem FirmT.all {α : Type} {R : Rep α} (h : FirmT R) {H H' : Hp} (n : NT H H') {vs : List V} {xs : List α} (p : Paired (R H) vs xs) : Paired (R H') vs xs := pd_imp p fun x y r => h H H' x y n r
theorem KeysIn.ft {H H' : Hp} {ks : List (Cfg × Addr)} (n : NT H H') (h : KeysIn H ks) : KeysIn H' ks := fun k hk => ft_cfg _ _ _ _ n (h k hk)
/-! ### the search -/
structure LsSt (W : Web) (n d : Nat) (kn : List Cfg) (rs : List Item) : Prop where
  nd : kn.Nodup
  ok : ∀ c ∈ kn, (∃ w, (∀ i ∈ w, i < d) ∧ c = cfg W n w) ∧ allMet n c = false
  z : cfg W n [] ∈ kn
  rok : ∀ q ∈ rs, (∀ i ∈ q.1, i < d) ∧ q.2 = cfg W n q.1 ∧ q.2 ∈ kn
  cl : ∀ c ∈ kn, (∃ q ∈ rs, q.2 = c) ∨ ∀ i, i < d → comeOn W n c i ∈ kn
theorem LsSt.some_ {W : Web} {n d : Nat} {kn : List Cfg} {rs : List Item} (h : LsSt W n d kn rs) (g : Ev W n d) : rs ≠ [] := fun e => by
  obtain ⟨c, hc, hm⟩ := g.closed_met h.z fun c hc => (h.cl c hc).elim (fun ⟨q, hq, _⟩ => by rw [e] at hq; cases hq) id
  rw [(h.ok c hc).2] at hm; cases hm
theorem LsSt.few {W : Web} {n d : Nat} {kn : List Cfg} {rs : List Item} (h : LsSt W n d kn rs) (g : Ev W n d) (hn : n ≤ 4) : kn.length ≤ 1048576 := g.cfg_few hn h.nd fun c hc => (h.ok c hc).1
theorem LsSt.more {W : Web} {n d : Nat} {kn : List Cfg} {pe ls : List Item} (h : LsSt W n d kn (pe ++ ls)) {w : List Nat} (hw : ∀ i ∈ w, i < d) (hm : allMet n (cfg W n w) = false) (hn : cfg W n w ∉ kn) : LsSt W n d (kn ++ [cfg W n w]) (pe ++ (ls ++ [(w, cfg W n w)])) := by
  refine ⟨nd_snoc h.nd hn, fun c hc => ?_, List.mem_append_left _ h.z, fun q hq => ?_, fun c hc => ?_⟩
  · rcases List.mem_append.mp hc with z | z
    · exact h.ok c z
    · rw [List.mem_singleton.mp z]; exact ⟨⟨w, hw, rfl⟩, hm⟩
  · rw [← List.append_assoc] at hq
    rcases List.mem_append.mp hq with z | z
    · obtain ⟨h1, h2, h3⟩ := h.rok q z
      exact ⟨h1, h2, List.mem_append_left _ h3⟩
    · rw [List.mem_singleton.mp z]; exact ⟨hw, rfl, by simp⟩
  · rcases List.mem_append.mp hc with z | z
    · rcases h.cl c z with ⟨q, hq, e⟩ | y
      · exact .inl ⟨q, by rw [← List.append_assoc]; exact List.mem_append_left _ hq, e⟩
      · exact .inr fun i hi => List.mem_append_left _ (y i hi)
    · exact .inl ⟨(w, cfg W n w), by simp, (List.mem_singleton.mp z).symm⟩
/-- the first one is done -/
theorem LsSt.next {W : Web} {n d : Nat} {kn : List Cfg} {q : Item} {pe ls : List Item} (h : LsSt W n d kn (q :: pe ++ ls)) (hd : ∀ i, i < d → comeOn W n q.2 i ∈ kn) : LsSt W n d kn (pe ++ ls) := by
  refine ⟨h.nd, h.ok, h.z, fun x hx => h.rok x (List.mem_cons_of_mem _ hx), fun c hc => ?_⟩
  rcases h.cl c hc with ⟨x, hx, e⟩ | y
  · rcases List.mem_cons.mp hx with z | z
    · exact .inr (by rw [← e, z]; exact hd)
    · exact .inl ⟨x, z, e⟩
  · exact .inr y
theorem asc_len (n : Nat) (l : List Nat) : (asc n l).length ≤ n := by
  unfold asc
  exact Nat.le_trans (List.length_filter_le _ _) (by rw [List.length_range]; exact Nat.le_refl _)
theorem cfg_ok {W : Web} {n d : Nat} (g : Rg W n d) (hn : n ≤ 9) {w : List Nat} (hw : ∀ i ∈ w, i < d) : (cfg W n w).length ≤ 9 ∧ ∀ p ∈ cfg W n w, p.1 < n ∧ p.2.length ≤ 9 ∧ ∀ x ∈ p.2, x < n := by
  unfold cfg
  refine ⟨by rw [List.length_map, List.length_range]; exact hn, fun p hp => ?_⟩
  obtain ⟨s, hs, rfl⟩ := List.mem_map.mp hp
  exact ⟨g.walk_lt (List.mem_range.mp hs) hw, Nat.le_trans (asc_len n _) hn, fun x hx => (mem_asc.mp hx).1⟩
section
variable {P : Program} {w : World} {K : PySem.W.Frag} {mg : Str → Option Value} {base : Heap}
def spLeast : Sp := fun vs H Q _ => ∃ (a : Addr) (W : Web) (n d : Nat), vs = [.ref a] ∧ WebR H (.ref a) W ∧ Ev W n d ∧ 1 ≤ d ∧ n * d ≤ 9 ∧
  ∀ (p : Addr) (l : List Nat) (H' : Hp), Same H H' → WayR H' (.ref p) l → (∀ i ∈ l, i < d) → (∀ s, s < n → Sees W s l) → Q (.ref p) H'
theorem ok_least_seeing {f : Addr} {fd : FuncData} (F : FnP K "least_seeing" "least_seeing" s_least_seeing f fd) (T : Txt mg) (c_come_on : Cal P w K mg base 1 "come_on" p_come_on spComeOn) (c_is_all_met : Cal P w K mg base 1 "is_all_met" p_is_all_met spAllMet) : FnOk P w K mg base CX0 2 f fd p_least_seeing spLeast := by
  refine okd F sc_least_seeing (fun vs H Q E h => ?_) (fun cdv A outer s H vs Q E hr h => ?_)
  · obtain ⟨a, W, n, d, rfl, _⟩ := h
    rfl
  · obtain ⟨a, W, n, d, rfl, hW, g, hd1, hnd, k⟩ := h
    refine ⟨_, (pss_cons (ps_set (i := 1) sc_least_seeing.nd rfl (by first | exact Or.inl rfl | exact Or.inr rfl) (pe_callTy (kTupOf K) (by rfl) T.tuple (by decide +kernel) (pa_cons (pe_lc (own := [("room", 2)]) rfl sc_least_seeing.nd (pi_range1 (by rfl) T.range (pa_cons (pe_callB (kLen K) (by rfl) T.len PySem.boot_len (pa_cons (pv 0) pa_nil)) pa_nil)) (blkOk_by (N := n_least_seeing) (sc := defScope s_least_seeing) (by decide +kernel)) (fun _ _ _ _ _ => (pg_name (i := 2) sc_least_seeing.nd rfl (by first | exact Or.inl rfl | exact Or.inr rfl))) (fun _ _ _ _ _ => pts_nil) (fun _ _ _ _ _ => (pe_tup (pa_cons (pv 2) (pa_cons (pe_tup (pa_cons (pv 2) pa_nil)) pa_nil))))) pa_nil)))
      (pss_cons (ps_if (pt_val (pe_cal c_is_all_met (hr.mono (by decide)) (pa_cons (pv 0) (pa_cons (pv 1) pa_nil)))) (pss_one (ps_ret (pe_tup pa_nil))) pss_nil)
      (pss_cons (ps_set (i := 3) sc_least_seeing.nd rfl (by first | exact Or.inl rfl | exact Or.inr rfl) (pe_ndisp P w rfl rfl (hu8_of hr) (pv 1) pe_bl))
      (pss_cons (ps_set (i := 4) sc_least_seeing.nd rfl (by first | exact Or.inl rfl | exact Or.inr rfl) (pe_lst (pa_cons (pe_tup (pa_cons (pe_tup pa_nil) (pa_cons (pv 1) pa_nil))) pa_nil)))
      (pss_one (ps_while PassesOwn.never (pt_val pe_bl) (pss_cons (ps_set (i := 5) sc_least_seeing.nd rfl (by first | exact Or.inl rfl | exact Or.inr rfl) (pe_lst pa_nil))
      (pss_cons (ps_for PassesOwn.never rfl (kList K rfl (pv 4)) (kgTup (n := 2) K rfl rfl (pgs_cons (pg_name (i := 6) sc_least_seeing.nd rfl (by first | exact Or.inl rfl | exact Or.inr rfl)) (pgs_cons (pg_name (i := 7) sc_least_seeing.nd rfl (by first | exact Or.inl rfl | exact Or.inr rfl)) pgs_nil)))
      (pss_one (ps_for PassesOwn.never rfl (pi_range1 (by rfl) T.range (pa_cons (pe_callB (kLen K) (by rfl) T.len PySem.boot_len (pa_cons (pe_ix (kIxT K) (pv 0) pe_int (fun _ _ => rfl)) pa_nil)) pa_nil)) (pg_name (i := 8) sc_least_seeing.nd rfl (by first | exact Or.inl rfl | exact Or.inr rfl))
      (pss_cons (ps_set (i := 9) sc_least_seeing.nd rfl (by first | exact Or.inl rfl | exact Or.inr rfl) (pe_cal c_come_on (hr.mono (by decide)) (pa_cons (pv 0) (pa_cons (pv 7) (pa_cons (pv 8) pa_nil)))))
      (pss_cons (ps_if (pt_val (pe_cal c_is_all_met (hr.mono (by decide)) (pa_cons (pv 0) (pa_cons (pv 9) pa_nil)))) (pss_one (ps_ret (pe_op (kCatT K) (pv 6) (pe_tup (pa_cons (pv 8) pa_nil))))) pss_nil)
      (pss_one (ps_if (pt_cmp (pc_nNotIn P w rfl rfl (hu8_of hr) (pv 9) (pv 3)) (by rfl)) (pss_cons (ps_nput P w rfl rfl (hu8_of hr) (pv 3) (pv 9) pe_bl rfl)
      (pss_one (ps_expr (pe_bm PySem.F.plainAttrs_list PySem.F.slot_list_append PySem.F.type_list_append mt_append (pv 5) (pa_cons (pe_tup (pa_cons (pe_op (kCatT K) (pv 6) (pe_tup (pa_cons (pv 8) pa_nil))) (pa_cons (pv 9) pa_nil))) pa_nil))))) pss_nil)))))))
      (pss_one (ps_set (i := 4) sc_least_seeing.nd rfl (by first | exact Or.inl rfl | exact Or.inr rfl) (pv 5))))))))))), ?_⟩
    have hbig : sizeLine = 16777216 := PySem.sizeLine_eq
    have hn4 := g.small hd1 hnd
    have hpos := g.pos
    obtain ⟨ws, sW, pW, eW, lW⟩ := tup_sq (K := K) hW
    have lW' : ws.length = n := by rw [lW, g.len]
    have eN : ((ws.length : Nat) : Int).toNat = n := by rw [Int.toNat_natCast, lW']
    refine ⟨_, rfl, _, _, rfl, .inr sW, _, rfl, by omega, by omega, fun D hD => ?_⟩
    rw [eN]
    refine lc_range (n := n) (fun i H' => Same H H' ∧ ∃ vs, H' D = some (.lst vs) ∧ Paired (SpotR H') vs ((List.range i).map fun s => (s, [s]))) ⟨same_new hD, [], upd_same, .nil⟩ ?_ ?_
    · rintro i H1 hi ⟨hs, vs, hv, pv⟩
      rw [z0]
      refine ⟨rfl, yes (iteT ⟨_, rfl, _, rfl, by show 1 ≤ sizeLine; decide, fun t ht => ⟨by show 2 ≤ sizeLine; decide, fun p hp => ?_⟩⟩)⟩
      have s2 : Same H1 (upd (upd H1 t (.tup [.int (i : Int)])) p (.tup [.int (i : Int), .ref t])) := sn (same_new ht) hp
      have hv2 := s2 _ _ hv
      have nl2 := NL.trans (nl_of s2) (nl_lst (ys := vs ++ [.ref p]) hv2)
      refine ⟨vs, hv2, by rw [Paired.length pv, List.length_map, List.length_range]; omega, same_mut (st hs s2) hD, vs ++ [.ref p], upd_same, ?_⟩
      rw [rng_snoc (fun s => (s, [s]))]
      refine pd_app (firm_spot.all nl2 pv) (.cons ?_ .nil)
      exact firm_spot _ _ _ _ (nl_lst hv2) ⟨p, .ref t, rfl, upd_same, t, _, rfl, same_new hp _ _ upd_same, .cons rfl .nil⟩
    · rintro H1 ⟨hs1, vs, hv, pv⟩
      refine ⟨D, vs, rfl, .inl ⟨SqL.of hv, fun b hb => ?_⟩⟩
      have s2 := sn (o := .tup vs) hs1 hb
      have hbegun : CfgR (upd H1 b (.tup vs)) (.ref b) (cfg W n []) := by
        rw [cfg_nil]
        exact ⟨b, vs, rfl, upd_same, firm_spot.all (nl_of (same_new hb)) pv⟩
      have hc0 := cfg_ok g.toRg (by omega) (w := []) (fun i hi => by simp at hi)
      refine ⟨_, rfl, _, rfl, a, b, W, n, cfg W n [], rfl, firm_web.s s2 hW, hbegun, g.len, hc0.1, fun H3 s3 => ⟨_, rfl, ?_⟩⟩
      have s23 := st s2 s3
      cases hm0 : allMet n (cfg W n []) with
      | true =>
        refine iteT ⟨by show 0 ≤ sizeLine; decide, fun p hp => ?_⟩
        exact k p [] _ (sn s23 hp) ⟨p, _, rfl, upd_same, .nil⟩ (fun i hi => by simp at hi) ((allMet_iff g.len).mp hm0)
      | false =>
        refine iteF ?_
        refine fun kd hkd => ⟨_, rfl, b, cfg W n [], rfl, rfl, upd_same, firm_cfg.s (st s3 (same_new hkd)) hbegun, ?_⟩
        rw [upd_upd]
        have hkdH := none_back s23 hkd
        have s4 := sn (o := NdO P w kd [(cfg W n [], b)]) s23 hkd
        have hb4 := firm_cfg.s (st s3 (same_new (o := NdO P w kd [(cfg W n [], b)]) hkd)) hbegun
        refine ⟨by show 0 ≤ sizeLine; decide, fun t0 ht0 => ⟨_, rfl, by show 2 ≤ sizeLine; decide, fun t1 ht1 => ⟨by show 1 ≤ sizeLine; decide, fun rA hrA => ?_⟩⟩⟩
        have s5 : Same (upd H3 kd (NdO P w kd [(cfg W n [], b)])) (upd (upd (upd (upd H3 kd (NdO P w kd [(cfg W n [], b)])) t0 (.tup [])) t1 (.tup [.ref t0, .ref b])) rA (.lst [.ref t1])) := sn (sn (same_new ht0) ht1) hrA
        -- the rows
        let Inv0 : Nat → L2.St → Hp → Prop := fun j σ H' => ∃ (ks : List (Cfg × Addr)) (rA : Addr) (rs : List Item) (a5 a6 a7 a8 a9 : Option V), j = 2 * (1048577 - ks.length) + (if rs = [] then 0 else 1) ∧ Same H H' ∧ H' kd = some (NdO P w kd ks) ∧ KeysIn H' ks ∧ LsSt W n d (ks.map (·.1)) rs ∧ ListR ItemR H' (.ref rA) rs ∧ (∀ q ∈ rs, q.1.length + 1 ≤ ks.length) ∧
          σ = [some (.ref a), some (.ref b), none, some (.ref kd), some (.ref rA), a5, a6, a7, a8, a9]
        refine ⟨Inv0, ⟨_, [(cfg W n [], b)], rA, [([], cfg W n [])], none, none, none, none, none, rfl, st s4 s5, s5 _ _ upd_same, fun q hq => by rw [List.mem_singleton.mp hq]; exact firm_cfg.s s5 hb4, ?_, ⟨rA, _, rfl, upd_same, .cons ⟨t1, .ref t0, .ref b, rfl, same_new hrA _ _ upd_same, ⟨t0, [], rfl, sn (same_new ht1) hrA _ _ upd_same, .nil⟩, firm_cfg.s s5 hb4⟩ .nil⟩, fun q hq => by rw [List.mem_singleton.mp hq]; exact Nat.le_refl _, rfl⟩, ?_⟩
        · refine ⟨by simp, fun c hc => ?_, by simp, fun q hq => ?_, fun c hc => ?_⟩
          · rw [List.mem_singleton.mp hc]; exact ⟨⟨[], fun i hi => by simp at hi, rfl⟩, hm0⟩
          · rw [List.mem_singleton.mp hq]; exact ⟨fun i hi => by simp at hi, rfl, by simp⟩
          · exact .inl ⟨_, List.mem_singleton.mpr rfl, (List.mem_singleton.mp hc).symm⟩
        rintro j σ H5 ⟨ks, rA, rs, a5, a6, a7, a8, a9, hj, hs5, hkd5, hks5, hst, hrow, hshort, rfl⟩
        obtain ⟨_, rvs, e0, hrv, prv⟩ := hrow
        cases e0
        have hrne := hst.some_ g
        rw [if_neg hrne] at hj
        refine ⟨true, rfl, iteT ⟨fun σ' H' => ∃ j', j' < j ∧ Inv0 j' σ' H', fun _ _ z => z, ?_⟩⟩
        refine ⟨by show 0 ≤ sizeLine; decide, fun lA hlA => ?_⟩
        have hlAH := none_back hs5 hlA
        have s6 := sn (o := .lst []) hs5 hlA
        have hrl : rA ≠ lA := ne_of_none hrv hlA
        have hkl : kd ≠ lA := ne_of_none hkd5 hlA
        have hrk : rA ≠ kd := fun z => by rw [z, hkd5] at hrv; cases hrv
        have hrvl := Paired.length prv
        have hk0 : (ks.map (·.1)).length = ks.length := List.length_map ..
        refine ⟨_, rfl, rA, rfl, ⟨rvs, SqL.of (same_new hlA _ _ hrv)⟩, for_list (K := K) (a := rA) (xs := rvs) (fun i σ H' => ∃ (ks' : List (Cfg × Addr)) (ls : List Item) (a6 a7 a8 a9 : Option V), Same H H' ∧ NT H5 H' ∧ H' rA = some (.lst rvs) ∧ H' kd = some (NdO P w kd ks') ∧ KeysIn H' ks' ∧ ListR ItemR H' (.ref lA) ls ∧ LsSt W n d (ks'.map (·.1)) (rs.drop i ++ ls) ∧
            ks'.length = ks.length + ls.length ∧ (∀ q ∈ ls, q.1.length ≤ ks.length) ∧ σ = [some (.ref a), some (.ref b), none, some (.ref kd), some (.ref rA), some (.ref lA), a6, a7, a8, a9])
          ⟨ks, [], _, _, _, _, s6, nt_s (same_new hlA), same_new hlA _ _ hrv, same_new hlA _ _ hkd5, hks5.ft (nt_s (same_new hlA)), ⟨lA, [], rfl, upd_same, .nil⟩, by rw [List.drop_zero, List.append_nil]; exact hst, rfl, fun q hq => by simp at hq, rfl⟩ (fun i σ H' _ ⟨_, _, _, _, _, _, _, _, z, _⟩ => SqL.of z) ?_ ?_⟩
        · rintro i x σ H6 hx ⟨ks', ls, a6, a7, a8, a9, hs6, nt6, hr6, hk6, hki6, hl6, hst6, hlen6, hsh6, rfl⟩
          obtain ⟨q, hq, c1, u1, y1, rfl, hc1, hway, hspots⟩ := pd_get' (ft_item.all nt6 prv) hx
          obtain ⟨wA, rfl, hway⟩ := tup_ref hway
          obtain ⟨cA, rfl, hspots⟩ := tup_ref hspots
          have hqd : rs.drop i = q :: rs.drop (i + 1) := by
            have hi := (List.getElem?_eq_some_iff.mp hq)
            rw [List.drop_eq_getElem_cons hi.1, hi.2]
          obtain ⟨hq1, hq2, hq3⟩ := hst6.rok q (by rw [hqd]; simp)
          obtain ⟨vs1, b1, s1', a1, r1⟩ := web_row (K := K) (firm_web.s hs6 hW) g.toRg hpos
          obtain ⟨rs1, sR, _, _, lR⟩ := tup_sq (K := K) r1
          have lR' : rs1.length = d := by rw [lR, g.rows 0 hpos]
          have eD : ((rs1.length : Nat) : Int).toNat = d := by rw [Int.toNat_natCast, lR']
          have hd9 : d ≤ 9 := by
            have : 1 * d ≤ n * d := Nat.mul_le_mul_right _ hpos
            omega
          refine ⟨c1, _, rfl, SqT.of hc1, rfl, _, _, rfl, _, _, rfl, rfl, ?_⟩
          refine ⟨_, rfl, _, _, _, _, rfl, rfl, s1', a1, _, _, rfl, .inr sR, _, rfl, by omega, by omega, ?_⟩
          rw [eD]
          refine for_range (n := d) (fun j σ H' => ∃ (ks' : List (Cfg × Addr)) (ls : List Item) (a8 a9 : Option V), Same H H' ∧ NT H5 H' ∧ NT H6 H' ∧ H' rA = some (.lst rvs) ∧ H' kd = some (NdO P w kd ks') ∧ KeysIn H' ks' ∧ ListR ItemR H' (.ref lA) ls ∧ LsSt W n d (ks'.map (·.1)) (rs.drop i ++ ls) ∧ ks'.length = ks.length + ls.length ∧ (∀ q ∈ ls, q.1.length ≤ ks.length) ∧
              (∀ j', j' < j → comeOn W n q.2 j' ∈ ks'.map (·.1)) ∧ σ = [some (.ref a), some (.ref b), none, some (.ref kd), some (.ref rA), some (.ref lA), some (.ref wA), some (.ref cA), a8, a9])
            ⟨ks', ls, _, _, hs6, nt6, NT.refl _, hr6, hk6, hki6, hl6, hst6, hlen6, hsh6, fun j' h => absurd h (Nat.not_lt_zero _), rfl⟩ ?_ ?_
          · rintro j2 σ H7 hj2 ⟨ks', ls, a8, a9, hs7, nt57, nt67, hr7, hk7, hki7, ⟨_, lvs, e1, hl7, pl7⟩, hst7, hlen7, hsh7, hpart, rfl⟩
            cases e1
            rw [z0]
            have hcq := cfg_ok g.toRg (by omega) hq1
            rw [← hq2] at hcq
            refine ⟨_, rfl, _, rfl, _, rfl, a, cA, W, n, d, j2, q.2, rfl, firm_web.s hs7 hW, ft_cfg _ _ _ _ nt67 hspots, g.toRg, by omega, hj2, hcq.1, hcq.2, fun mA H8 hmA s8 hmade => ?_⟩
            have emade : comeOn W n q.2 j2 = cfg W n (q.1 ++ [j2]) := by rw [hq2, cfg_on]
            rw [emade] at hmade
            have hw8 : ∀ x ∈ q.1 ++ [j2], x < d := fun x hx => by
              rcases List.mem_append.mp hx with z | z
              · exact hq1 x z
              · rw [List.mem_singleton.mp z]; exact hj2
            have hs8 := st hs7 s8
            refine ⟨_, rfl, _, rfl, a, mA, W, n, cfg W n (q.1 ++ [j2]), rfl, firm_web.s hs8 hW, hmade, g.len, (cfg_ok g.toRg (by omega) hw8).1, fun H9 s9 => ⟨_, rfl, ?_⟩⟩
            have hs9 := st hs8 s9
            have s79 := st s8 s9
            have hway9 := ft_way _ _ _ _ (nt67.trans (nt_s s79)) hway
            have hmade9 := firm_cfg.s s9 hmade
            have hqs := hshort q (List.mem_of_getElem? hq)
            have hfew0 := hst.few g hn4
            rw [List.length_map] at hfew0
            have one : ∀ (G : Hp) (t : Addr), WayR (upd G t (.tup [.int (j2 : Int)])) (.ref t) [j2] := fun G t => ⟨t, _, rfl, upd_same, .cons rfl .nil⟩
            cases hm : allMet n (cfg W n (q.1 ++ [j2])) with
            | true =>
              refine iteT ⟨_, rfl, _, rfl, by show 1 ≤ sizeLine; decide, fun t ht => ?_⟩
              refine cat_tup firm_int (firm_way.s (same_new ht) hway9) (one H9 t) (by rw [List.length_singleton]; omega) fun p H10 s10 hw10 => ?_
              exact k p (q.1 ++ [j2]) H10 (st (sn hs9 ht) s10) hw10 hw8 ((allMet_iff g.len).mp hm)
            | false =>
              refine iteF ?_
              have hk9 := s79 _ _ hk7
              have hki9 := hki7.ft (nt_s s79)
              have hr9 := s79 _ _ hr7
              have hl9 := s79 _ _ hl7
              have pl9 := ft_item.all (nt_s s79) pl7
              refine ⟨_, rfl, _, rfl, mA, kd, cfg W n (q.1 ++ [j2]), ks', rfl, rfl, hmade9, hk9, hki9, _, rfl, ?_⟩
              by_cases hin : cfg W n (q.1 ++ [j2]) ∈ ks'.map (·.1)
              · rw [decide_eq_true hin]
                refine iteF ⟨ks', ls, _, _, hs9, nt57.trans (nt_s s79), nt67.trans (nt_s s79), hr9, hk9, hki9, ⟨lA, lvs, rfl, hl9, pl9⟩, hst7, hlen7, hsh7, fun j' h => ?_, rfl⟩
                by_cases e : j' = j2
                · rw [e, emade]; exact hin
                · exact hpart j' (by omega)
              · rw [decide_eq_false hin]
                have hfew := hst7.few g hn4
                rw [List.length_map] at hfew
                refine iteT ⟨_, rfl, _, rfl, mA, kd, cfg W n (q.1 ++ [j2]), ks', rfl, rfl, rfl, hmade9, hk9, hki9, hin, by omega, ?_⟩
                have ntk : NT H9 (upd H9 kd (NdO P w kd (ks' ++ [(cfg W n (q.1 ++ [j2]), mA)]))) := nt_upd hk9 fun xs z => nomatch (show HO.ext _ = HO.tup xs from z)
                have hs10 : Same H (upd H9 kd (NdO P w kd (ks' ++ [(cfg W n (q.1 ++ [j2]), mA)]))) := same_mut hs9 hkdH
                have hl10 : upd H9 kd (NdO P w kd (ks' ++ [(cfg W n (q.1 ++ [j2]), mA)])) lA = some (.lst lvs) := by rw [upd_ne (Ne.symm hkl)]; exact hl9
                refine ⟨_, rfl, .inl ⟨rfl, lvs, SqL.of hl10⟩, _, rfl, _, rfl, by show 1 ≤ sizeLine; decide, fun t ht => ?_⟩
                refine cat_tup firm_int (firm_way.s (same_new ht) (ft_way _ _ _ _ ntk hway9)) (one _ t) (by rw [List.length_singleton]; omega) fun p H11 s11 hw11 => ⟨_, rfl, by show 2 ≤ sizeLine; decide, fun t2 ht2 => ?_⟩
                have s12 : Same (upd H9 kd (NdO P w kd (ks' ++ [(cfg W n (q.1 ++ [j2]), mA)]))) (upd H11 t2 (.tup [.ref p, .ref mA])) := sn (st (same_new ht) s11) ht2
                have hl12 := s12 _ _ hl10
                have nt12 : NT H9 (upd (upd H11 t2 (.tup [.ref p, .ref mA])) lA (.lst (lvs ++ [.ref t2]))) := ntk.trans ((nt_s s12).trans (nt_upd hl12 fun xs z => nomatch z))
                have nt79 := nt_s s79
                refine ⟨lA, lvs, _, rfl, rfl, hl12, by rw [Paired.length pl7]; omega, ?_⟩
                have hne1 : t2 ≠ lA := fun z => by
                  have := s11 _ _ (same_new (o := .tup [.int (j2 : Int)]) ht _ _ hl10)
                  rw [← z, ht2] at this; cases this
                refine ⟨ks' ++ [(cfg W n (q.1 ++ [j2]), mA)], ls ++ [(q.1 ++ [j2], cfg W n (q.1 ++ [j2]))], _, _, same_mut (st hs10 s12) hlAH, nt57.trans (nt79.trans nt12), nt67.trans (nt79.trans nt12), ?_, ?_, ?_, ⟨lA, _, rfl, upd_same, ?_⟩, ?_, ?_, ?_, ?_, rfl⟩
                · rw [upd_ne hrl]
                  exact s12 _ _ (by rw [upd_ne hrk]; exact hr9)
                · rw [upd_ne hkl]
                  exact s12 _ _ upd_same
                · intro x hx
                  rcases List.mem_append.mp hx with z | z
                  · exact ft_cfg _ _ _ _ nt12 (hki9 x z)
                  · rw [List.mem_singleton.mp z]; exact ft_cfg _ _ _ _ nt12 hmade9
                · refine pd_app (ft_item.all (nt79.trans nt12) pl7) (.cons ?_ .nil)
                  refine ⟨t2, .ref p, .ref mA, rfl, by rw [upd_ne hne1]; exact upd_same, ?_, ft_cfg _ _ _ _ nt12 hmade9⟩
                  exact ft_way _ _ _ _ ((nt_s (same_new ht2)).trans (nt_upd hl12 fun xs z => nomatch z)) hw11
                · rw [List.map_append]
                  exact hst7.more hw8 hm hin
                · rw [List.length_append, List.length_append, hlen7]
                  show ks.length + ls.length + 1 = ks.length + (ls.length + 1)
                  omega
                · intro x hx
                  rcases List.mem_append.mp hx with z | z
                  · exact hsh7 x z
                  · rw [List.mem_singleton.mp z]
                    show (q.1 ++ [j2]).length ≤ ks.length
                    rw [List.length_append, List.length_singleton]; exact hqs
                · intro j' h
                  rw [List.map_append]
                  by_cases e : j' = j2
                  · rw [e, emade]; simp
                  · exact List.mem_append_left _ (hpart j' (by omega))
          · rintro σ H7 ⟨ks', ls, a8, a9, hs7, nt57, nt67, hr7, hk7, hki7, hl7, hst7, hlen7, hsh7, hpart, rfl⟩
            rw [hqd] at hst7
            exact ⟨ks', ls, _, _, _, _, hs7, nt57, hr7, hk7, hki7, hl7, hst7.next hpart, hlen7, hsh7, rfl⟩
        · rintro σ H6 ⟨ks', ls, a6, a7, a8, a9, hs6, nt6, hr6, hk6, hki6, hl6, hst6, hlen6, hsh6, rfl⟩
          rw [hrvl, List.drop_length, List.nil_append] at hst6
          refine ⟨_, rfl, _, ?_, ks', lA, ls, _, _, _, _, _, rfl, hs6, hk6, hki6, hst6, hl6, fun q hq => ?_, rfl⟩
          rotate_left
          · have h1 := hsh6 q hq
            have h2 : 0 < ls.length := List.length_pos_of_mem hq
            omega
          have hfew := hst6.few g hn4
          rw [List.length_map] at hfew
          rw [hj]
          by_cases e : ls = []
          · rw [if_pos e]
            rw [e] at hlen6
            simp at hlen6
            omega
          · rw [if_neg e]
            have : 0 < ls.length := List.length_pos_iff.mpr e
            omega
end
end Sw
/-! SwD2 -/
set_option Elab.async false
set_option linter.all false
set_option maxRecDepth 100000
set_option maxHeartbeats 4000000
namespace Sw
open PySem L2
theorem any_web (W : Web) : ∀ Us : List Web, ((Us.map pdWeb).any fun z => PyData.eqv z (pdWeb W)) = decide (W ∈ Us)
  | [] => by simp
  | U :: Us => by
    rw [List.map_cons, List.any_cons, any_web W Us, toldWeb.dec]
    by_cases h : U = W
    · rw [decide_eq_true h, h, decide_eq_true List.mem_cons_self]; rfl
    · rw [decide_eq_false h, Bool.false_or]
      by_cases k : W ∈ Us
      · rw [decide_eq_true k, decide_eq_true (List.mem_cons_of_mem _ k)]
      · rw [decide_eq_false k, decide_eq_false fun z => (List.mem_cons.mp z).elim (fun y => h y.symm) k]
theorem dp_webs {K : PySem.W.Frag} {H : Hp} {a : Addr} {vs : List V} {Us : List Web} (h : H a = some (.lst vs)) (p : Paired (WebR H) vs Us) : Dp K H (.ref a) (.list (Us.map pdWeb)) := .lst (SqL.of h) (dp_all (fun _ _ z => dp_web z) p)
theorem ft_web : FirmT WebR := ft_tup (ft_tup ft_end)
section
variable {P : Program} {w : World} {K : PySem.W.Frag} {mg : Str → Option Value} {base : Heap}
def spGrown : Sp := fun vs H Q _ => ∃ (wa wb : Addr) (n dr : Nat) (way : List Nat) (Ws : List Web), vs = [.int (n : Int), .int (dr : Int), .ref wa, .ref wb] ∧ WayR H (.ref wa) way ∧ ListR WebR H (.ref wb) Ws ∧ (∀ N W, 1 ≤ N → N ≤ n → W ∈ evens N dr → W ∈ Ws) ∧ 1 ≤ n ∧ 1 ≤ dr ∧ n ≤ 9 ∧ dr ≤ 9 ∧ n * dr ≤ 9 ∧
  way.length ≤ 60 ∧ (∀ i ∈ way, i < dr) ∧ Ws.length ≤ 100000 ∧
  ∀ (way' : List Nat) (p wa' : Addr) (c : Bool) (H' : Hp), Same H H' → H' p = some (.tup [.ref wa', .bl c]) → WayR H' (.ref wa') way' → (∀ i ∈ way', i < dr) → way'.length ≤ 60 → (c = true → ∀ N W r, N ≤ n → Ev W N dr → r < N → Sees W r way') → Q (.ref p) H'
theorem ok_l_grown {f : Addr} {fd : FuncData} (F : FnP K "_law_grown" "_law_grown" s_l_grown f fd) (T : Txt mg) (c_missed : Cal P w K mg base 5 "missed" p_missed spMissed) (c_l_walked : Cal P w K mg base 5 "_law_walked" p_l_walked spWalked) (c_shows_missed : Cal P w K mg base 5 "shows_missed" p_shows_missed spShows)
    (c_least_seeing : Cal P w K mg base 5 "least_seeing" p_least_seeing spLeast) : FnOk P w K mg base CX0 6 f fd p_l_grown spGrown := by
  refine okd F sc_l_grown (fun vs H Q E h => ?_) (fun cdv A outer s H vs Q E hr h => ?_)
  · obtain ⟨wa, wb, n, dr, way, Ws, rfl, _⟩ := h
    rfl
  · obtain ⟨wa, wb, n, dr, way, Ws, rfl, hway, hWs, hall, hn1, hd1, hn9, hd9, hnd, hlen, hwd, hWs9, k⟩ := h
    refine ⟨_, (pss_cons (ps_set (i := 4) sc_l_grown.nd rfl (by first | exact Or.inl rfl | exact Or.inr rfl) (pe_lst pa_nil))
      (pss_one (ps_while PassesOwn.never (pt_val pe_bl) (pss_cons (ps_set (i := 5) sc_l_grown.nd rfl (by first | exact Or.inl rfl | exact Or.inr rfl) (pe_cal c_missed (hr.mono (by decide)) (pa_cons (pv 0) (pa_cons (pv 1) (pa_cons (pv 2) pa_nil)))))
      (pss_cons (ps_if (pt_cmpR op_isN (pv 5) pe_non (nomark _)) (pss_one (ps_ret (pe_tup (pa_cons (pv 2) (pa_cons pe_bl pa_nil))))) pss_nil)
      (pss_cons (ps_if (PW.pt (pw_or (pt_cmpR (kInD K rfl hr.units1) (pv 5) (pv 4) (by rfl)) (pw_or (pt_cmpR (kNotInD K rfl hr.units1) (pv 5) (pv 3) (by rfl)) (pw_or1 (pt_val (pe_cal c_l_walked (hr.mono (by decide)) (pa_cons (pv 5) (pa_cons pe_int (pa_cons (pv 2) pa_nil))))))))) (pss_one (ps_ret (pe_tup (pa_cons (pv 2) (pa_cons pe_non pa_nil))))) pss_nil)
      (pss_cons (ps_if (pt_cmpR op_notBl (pe_cal c_shows_missed (hr.mono (by decide)) (pa_cons (pv 0) (pa_cons (pv 1) (pa_cons (pv 2) (pa_cons (pv 5) pa_nil))))) pe_bl (nomark _)) (pss_one (ps_ret (pe_tup (pa_cons (pv 2) (pa_cons pe_non pa_nil))))) pss_nil)
      (pss_cons (ps_expr (pe_bm PySem.F.plainAttrs_list PySem.F.slot_list_append PySem.F.type_list_append mt_append (pv 4) (pa_cons (pv 5) pa_nil)))
      (pss_cons (ps_set (i := 6) sc_l_grown.nd rfl (by first | exact Or.inl rfl | exact Or.inr rfl) (pe_callTy (kTupOf K) (by rfl) T.tuple (by decide +kernel) (pa_cons (pe_cal c_least_seeing (hr.mono (by decide)) (pa_cons (pv 5) pa_nil)) pa_nil)))
      (pss_cons (ps_if (pt_cmpR op_gt (pe_op op_add (pe_callB (kLen K) (by rfl) T.len PySem.boot_len (pa_cons (pv 2) pa_nil)) (pe_callB (kLen K) (by rfl) T.len PySem.boot_len (pa_cons (pv 6) pa_nil))) pe_int (nomark _)) (pss_one (ps_ret (pe_tup (pa_cons (pv 2) (pa_cons pe_bl pa_nil))))) pss_nil)
      (pss_one (ps_set (i := 2) sc_l_grown.nd rfl (by first | exact Or.inl rfl | exact Or.inr rfl) (pe_op (kCatT K) (pv 2) (pv 6)))))))))))))), ?_⟩
    have hbig : sizeLine = 16777216 := PySem.sizeLine_eq
    obtain ⟨_, wvs, e0, hwb, pWs⟩ := hWs
    cases e0
    have hWl := Paired.length pWs
    refine ⟨by show 0 ≤ sizeLine; decide, fun D hD => ?_⟩
    have sD := same_new (o := .lst []) hD
    refine ⟨fun j σ H' => ∃ (wa : Addr) (way : List Nat) (Us : List Web) (a5 a6 : Option V), j = Ws.length - Us.length ∧ Same H H' ∧ WayR H' (.ref wa) way ∧ way.length ≤ 60 ∧ (∀ i ∈ way, i < dr) ∧ ListR WebR H' (.ref D) Us ∧ Us.Nodup ∧ (∀ U ∈ Us, U ∈ Ws ∧ Sees U 0 way) ∧
        σ = [some (.int (n : Int)), some (.int (dr : Int)), some (.ref wa), some (.ref wb), some (.ref D), a5, a6],
      ⟨_, wa, way, [], none, none, rfl, sD, firm_way.s sD hway, hlen, hwd, ⟨D, [], rfl, upd_same, .nil⟩, List.nodup_nil, fun U hU => by simp at hU, rfl⟩, ?_⟩
    rintro j σ H1 ⟨wa, way, Us, a5, a6, hj, hs1, hway, hlen, hwd, ⟨_, us, e1, hu, pu⟩, hnd1, hUs, rfl⟩
    cases e1
    have hUl := nodup_sub_len hnd1 fun U hU => (hUs U hU).1
    refine ⟨true, rfl, iteT ⟨fun σ' H' => ∃ j', j' < j ∧ ∃ (wa : Addr) (way : List Nat) (Us : List Web) (a5 a6 : Option V), j' = Ws.length - Us.length ∧ Same H H' ∧ WayR H' (.ref wa) way ∧ way.length ≤ 60 ∧ (∀ i ∈ way, i < dr) ∧ ListR WebR H' (.ref D) Us ∧ Us.Nodup ∧ (∀ U ∈ Us, U ∈ Ws ∧ Sees U 0 way) ∧
        σ' = [some (.int (n : Int)), some (.int (dr : Int)), some (.ref wa), some (.ref wb), some (.ref D), a5, a6], fun _ _ z => z, ?_⟩⟩
    refine ⟨_, rfl, _, rfl, _, rfl, wa, n, dr, way, rfl, hway, hn1, hd1, hn9, hd9, hnd, hwd, fun hnone H2 s2 => ?_, fun W N p H2 hp s2 hN hEv hT hns hW => ?_⟩
    · -- none is told
      refine ⟨_, rfl, rfl, _, rfl, iteT ⟨_, rfl, by show 2 ≤ sizeLine; decide, fun p hp => ?_⟩⟩
      exact k way p wa true _ (sn (st hs1 s2) hp) upd_same (firm_way.s (sn s2 hp) hway) hwd hlen fun _ => hnone
    · -- a web is told
      have hs2 := st hs1 s2
      have hu2 := s2 _ _ hu
      have pu2 := firm_web.all (nl_of s2) pu
      have hnotin : W ∉ Us := fun z => hns (hUs W z).2
      have hin : W ∈ Ws := hall N W hEv.pos hN (ev_evens hEv hT)
      refine ⟨_, rfl, rfl, _, rfl, iteF ?_⟩
      refine ⟨_, rfl, _, rfl, pdWeb W, Us.map pdWeb, dp_web hW, dp_webs hu2 pu2, toldWeb.shaped (by decide) _, toldWeb.lst (by decide) _, ?_⟩
      rw [any_web, decide_eq_false hnotin]
      refine ⟨_, rfl, iteF ?_⟩
      refine ⟨_, rfl, _, rfl, pdWeb W, Ws.map pdWeb, dp_web hW, dp_webs (hs2 _ _ hwb) (firm_web.all (nl_of hs2) pWs), toldWeb.shaped (by decide) _, toldWeb.lst (by decide) _, ?_⟩
      rw [any_web, decide_eq_true hin]
      refine ⟨_, rfl, iteF ?_⟩
      have hway2 := firm_way.s s2 hway
      refine ⟨_, rfl, _, rfl, p, wa, W, N, dr, 0, way, rfl, hW, hway2, hEv.toRg, hEv.pos, by omega, hwd, by omega, fun c H3 s3 hc => ⟨c, rfl, ?_⟩⟩
      have hcf : c = false := by
        cases c with
        | false => rfl
        | true => exact absurd (hc.mp rfl) hns
      rw [hcf]
      refine iteF ?_
      have hs3 := st hs2 s3
      have hW3 := firm_web.s s3 hW
      have hway3 := firm_way.s s3 hway2
      refine ⟨_, rfl, _, rfl, _, rfl, _, rfl, p, wa, W, N, n, dr, way, rfl, hW3, hway3, hEv, hN, hn9, hd9, hT, hwd, by omega, hns, fun H4 s4 => ?_⟩
      have hs4 := st hs3 s4
      have hu4 := s4 _ _ (s3 _ _ hu2)
      refine ⟨_, _, rfl, rfl, _, rfl, iteF ?_⟩
      have hus : us.length < sizeLine := by
        have h1 := Paired.length pu
        omega
      refine ⟨_, rfl, .inl ⟨rfl, us, SqL.of hu4⟩, _, rfl, D, us, _, rfl, rfl, hu4, hus, ?_⟩
      have nl5 : NL H2 (upd H4 D (.lst (us ++ [.ref p]))) := NL.trans (nl_of (st s3 s4)) (nl_lst hu4)
      have hs5 : Same H (upd H4 D (.lst (us ++ [.ref p]))) := same_mut hs4 hD
      have hW5 := firm_web _ _ _ _ nl5 hW
      have hnd9 : N * dr ≤ 9 := Nat.le_trans (Nat.mul_le_mul_right _ hN) hnd
      refine ⟨_, rfl, p, W, N, dr, rfl, hW5, hEv, hd1, hnd9, fun ma more H6 s6 hmore hmd hsee => ?_⟩
      obtain ⟨mvs, sM, pM, eM, lM⟩ := tup_sq (K := K) hmore
      have nl6 : NL H2 H6 := NL.trans nl5 (nl_of s6)
      have hway6 := firm_way _ _ _ _ nl6 hway2
      obtain ⟨yvs, sY, pY, eY, lY⟩ := tup_sq (K := K) hway6
      have hs6 := st hs5 s6
      refine ⟨ma, mvs, rfl, .inr ⟨sM, ?_⟩⟩
      refine ⟨_, rfl, _, _, rfl, .inr sY, _, rfl, _, _, rfl, .inr sM, _, _, rfl, rfl, _, _, rfl, rfl, _, rfl, ite2 (fun hc => ?_) fun hc => ?_⟩
      · refine ⟨_, rfl, by show 2 ≤ sizeLine; decide, fun q hq => ?_⟩
        exact k way q wa false _ (sn hs6 hq) upd_same (firm_way.s (same_new hq) hway6) hwd hlen fun z => by cases z
      · have hsum : way.length + more.length ≤ 60 := by
          refine Classical.byContradiction fun z => hc (decide_eq_true ?_)
          rw [lM, lY]
          omega
        refine ⟨_, rfl, _, rfl, cat_tup firm_int hway6 hmore (by omega) fun q H7 s7 hway7 => ?_⟩
        have hu7 := s7 _ _ (s6 _ _ (upd_same (H := H4) (a := D)))
        have nlU : NL H1 H7 := NL.trans (nl_of s2) (NL.trans nl6 (nl_of s7))
        refine ⟨_, ?_, q, way ++ more, Us ++ [W], _, _, rfl, st hs6 s7, hway7, by rw [List.length_append]; exact hsum, fun i hi => ?_, ⟨D, _, rfl, hu7, pd_app (firm_web.all nlU pu) (.cons (firm_web.s (st s6 s7) hW5) .nil)⟩, nd_snoc hnd1 hnotin, fun U hU => ?_, rfl⟩
        · have h2 := nodup_sub_len (m := Ws) (nd_snoc hnd1 hnotin) fun U hU => by
            rcases List.mem_append.mp hU with z | z
            · exact (hUs U z).1
            · rw [List.mem_singleton.mp z]; exact hin
          rw [List.length_append, List.length_singleton] at h2
          rw [hj, List.length_append, List.length_singleton]
          omega
        · rcases List.mem_append.mp hi with z | z
          · exact hwd i z
          · exact hmd i z
        · rcases List.mem_append.mp hU with z | z
          · exact ⟨(hUs U z).1, (hUs U z).2.more more⟩
          · rw [List.mem_singleton.mp z]
            refine ⟨hin, fun t ht => vis_app.mpr (.inr ?_)⟩
            exact hsee _ (hEv.walk_lt hEv.pos hwd) t ht
end
end Sw
/-! SwD3 -/
set_option Elab.async false
set_option linter.all false
set_option maxRecDepth 100000
set_option maxHeartbeats 4000000
namespace Sw
open PySem L2
theorem evens_len {n d : Nat} (h : n * d ≤ 9) : (evens n d).length ≤ 2620 := by
  unfold evens
  refine Nat.le_trans (List.length_filter_le _ _) ?_
  rw [List.length_map, pairs_len _ _ (by rw [allEnds_len]; exact Nat.le_refl _), allEnds_len]
  exact invo_le _ h
theorem pd_flat {α β : Type} {F : α → β → Prop} : ∀ {xs : List (List α)} {ys : List (List β)}, Paired (Paired F) xs ys → Paired F xs.flatten ys.flatten
  | _, _, .nil => .nil
  | _, _, .cons r t => by
    rw [List.flatten_cons, List.flatten_cons]
    exact pd_app r (pd_flat t)
theorem flat_len2 {α : Type} {m : Nat} : ∀ {xs : List (List α)}, (∀ x ∈ xs, x.length ≤ m) → xs.flatten.length ≤ xs.length * m
  | [], _ => by simp
  | x :: xs, h => by
    have h1 := h x List.mem_cons_self
    have h2 := flat_len2 (xs := xs) fun y hy => h y (List.mem_cons_of_mem _ hy)
    rw [List.flatten_cons, List.length_append, List.length_cons, Nat.succ_mul]
    omega
section
variable {P : Program} {w : World} {K : PySem.W.Frag} {mg : Str → Option Value} {base : Heap}
/-- shut and left != [] -/
theorem and_left {σ : L2.St} {H : Hp} {Q : Bool → Hp → Prop} {c : Bool} {D : Addr} {vs : List V} (h8 : σ[8]? = some (some (.bl c))) (h9 : σ[9]? = some (some (.ref D))) (hD : H D = some (.lst vs)) (hv : c = true → vs = []) (q : ∀ G, Same H G → Q false G) :
    tAnd (tB (tVar 8)) (tTest (tOp (rNeD K) (tVar 9) (tLst tNil))) σ H Q := by
  refine ⟨_, h8, c, rfl, ?_⟩
  cases c with
  | false => exact iteF (q H fun _ _ z => z)
  | true =>
    have e := hv rfl
    subst e
    refine iteT ⟨_, h9, by show 0 ≤ sizeLine; decide, fun p hp => ?_⟩
    refine ⟨.list (([] : List End).map pdE), .list (([] : List End).map pdE), .lst (SqL.of (same_new hp _ _ hD)) .nil, .lst (SqL.of upd_same) .nil, toldE.lst (by decide) [], toldE.lst (by decide) [], false, ?_, q _ (same_new hp)⟩
    have : PyData.eqv (.list (([] : List End).map pdE)) (.list (([] : List End).map pdE)) = true := by simp [PyData.eqv, PyData.eqvAll]
    rw [this]; rfl
/-- min(wide, 2 if doors == 1 else wide) -/
theorem min_te {σ : L2.St} {H : Hp} {Q : VK} {n d : Nat} (h3 : σ[3]? = some (some (.int (n : Int)))) (h4 : σ[4]? = some (some (.int (d : Int)))) (hn : 1 ≤ n) (q : ∀ m : Nat, 1 ≤ m → m ≤ n → (d = 1 → m ≤ 2) → Q (.int (m : Int)) H) :
    tCB (fun xs H Q => ∃ i j, xs = [.int i, .int j] ∧ Q (.int (if j < i then j else i)) H) (tCons (tVar 3) (tCons (tIf (tTest (tOp rEq (tVar 4) (tC (.int 1)))) (tC (.int 2)) (tVar 3)) tNil)) σ H Q := by
  refine ⟨_, h3, _, h4, rfl, _, rfl, ite2 (fun hc => ?_) fun hc => ?_⟩
  · refine ⟨_, _, rfl, ?_⟩
    have e : (if (2 : Int) < (n : Int) then (2 : Int) else (n : Int)) = ((min n 2 : Nat) : Int) := by split <;> omega
    rw [e]
    exact q _ (by omega) (by omega) fun _ => by omega
  · refine ⟨_, h3, _, _, rfl, ?_⟩
    have e : (if (n : Int) < (n : Int) then (n : Int) else (n : Int)) = (n : Int) := by split <;> rfl
    rw [e]
    exact q n hn (Nat.le_refl _) fun z => absurd (by rw [z]; exact decide_eq_true rfl) hc
def spLaw (K : PySem.W.Frag) : Sp := fun vs H Q _ => ∃ (a : Addr) (ns : List Int), vs = [.ref a] ∧ SqL K H a (ns.map V.int) ∧ ns.length ≤ 63 ∧ ∀ H', Q (.bl true) H'
theorem ok_law {f : Addr} {fd : FuncData} (F : FnP K "law" "law" s_law f fd) (T : Txt mg) (c_l_sizes : Cal P w K mg base 12 "_law_sizes" p_l_sizes spSizes) (c_l_folded : Cal P w K mg base 12 "_law_folded" p_l_folded (spFolded K)) (c_l_take : Cal P w K mg base 12 "_law_take" p_l_take spTake)
    (c_l_even : Cal P w K mg base 12 "_law_even" p_l_even spEven) (c_l_grown : Cal P w K mg base 12 "_law_grown" p_l_grown spGrown) (c_l_way : Cal P w K mg base 12 "_law_way" p_l_way spLWay) (c_l_seen_rooms : Cal P w K mg base 12 "_law_seen_rooms" p_l_seen_rooms spSeen)
    (c_l_even_web : Cal P w K mg base 12 "_law_even_web" p_l_even_web spEvenWeb) (c_l_walked : Cal P w K mg base 12 "_law_walked" p_l_walked spWalked) : FnOk P w K mg base CX0 13 f fd p_law (spLaw K) := by
  refine okd F sc_law (fun vs H Q E h => ?_) (fun cdv A outer s H vs Q E hr h => ?_)
  · obtain ⟨a, ns, rfl, _⟩ := h
    rfl
  · obtain ⟨a, ns, rfl, ha, hns, k⟩ := h
    refine ⟨_, (pss_cons (ps_set (i := 1) sc_law.nd rfl (by first | exact Or.inl rfl | exact Or.inr rfl) (pe_cal c_l_sizes (hr.mono (by decide)) (pa_cons pe_int (pa_cons pe_int pa_nil))))
      (pss_cons (ps_for PassesOwn.never rfl (kList K rfl (pe_cal c_l_folded (hr.mono (by decide)) (pa_cons (pv 0) (pa_cons pe_int pa_nil)))) (pg_name (i := 2) sc_law.nd rfl (by first | exact Or.inl rfl | exact Or.inr rfl))
      (pss_cons (ps_asg (pe_ix (kIxL K) (pv 1) (pe_cal c_l_take (hr.mono (by decide)) (pa_cons (pv 2) (pa_cons (pe_callB (kLen K) (by rfl) T.len PySem.boot_len (pa_cons (pv 1) pa_nil)) pa_nil))) (fun _ _ => rfl)) (kgTup (n := 2) K rfl rfl (pgs_cons (pg_name (i := 3) sc_law.nd rfl (by first | exact Or.inl rfl | exact Or.inr rfl)) (pgs_cons (pg_name (i := 4) sc_law.nd rfl (by first | exact Or.inl rfl | exact Or.inr rfl)) pgs_nil))))
      (pss_cons (ps_set (i := 5) sc_law.nd rfl (by first | exact Or.inl rfl | exact Or.inr rfl) (pe_callB (kSumL K rfl rfl) (by rfl) T.sum (by decide +kernel) (pa_cons (pe_lc (own := [("_law_many", 6)]) rfl sc_law.nd (pi_range2 (by rfl) T.range (pa_cons pe_int (pa_cons (pe_op op_add (pv 3) pe_int) pa_nil))) (blkOk_by (N := n_law) (sc := defScope s_law) (by decide +kernel)) (fun _ _ _ _ _ => (pg_name (i := 6) sc_law.nd rfl (by first | exact Or.inl rfl | exact Or.inr rfl))) (fun _ _ _ _ _ => pts_nil) (fun _ _ _ _ _ => (pe_cal c_l_even (hr.mono (by decide)) (pa_cons (pv 6) (pa_cons (pv 4) pa_nil))))) (pa_cons (pe_lst pa_nil) pa_nil))))
      (pss_cons (ps_asg (pe_cal c_l_grown (hr.mono (by decide)) (pa_cons (pv 3) (pa_cons (pv 4) (pa_cons (pe_cal c_l_way (hr.mono (by decide)) (pa_cons (pv 2) (pa_cons (pv 4) (pa_cons (pe_cal c_l_take (hr.mono (by decide)) (pa_cons (pv 2) (pa_cons pe_int pa_nil))) pa_nil)))) (pa_cons (pv 5) pa_nil))))) (kgTup (n := 2) K rfl rfl (pgs_cons (pg_name (i := 7) sc_law.nd rfl (by first | exact Or.inl rfl | exact Or.inr rfl)) (pgs_cons (pg_name (i := 8) sc_law.nd rfl (by first | exact Or.inl rfl | exact Or.inr rfl)) pgs_nil))))
      (pss_cons (ps_if (pt_cmpR op_isN (pv 8) pe_non (nomark _)) (pss_one (ps_ret pe_bl)) pss_nil)
      (pss_cons (ps_setLc (i := 9) (own := [("_law_web", 10)]) rfl sc_law.nd rfl rfl (sw_true rfl rfl rfl (by decide +kernel)) (kList K rfl (pv 5)) (blkOk_by (N := n_law) (sc := defScope s_law) (by decide +kernel)) (fun _ _ _ _ _ => (pg_name (i := 10) sc_law.nd rfl (by first | exact Or.inl rfl | exact Or.inr rfl))) (fun _ _ _ _ _ => (pts_one (pt_cmpR op_lt (pe_callB (kLen K) (by rfl) T.len PySem.boot_len (pa_cons (pe_cal c_l_seen_rooms (hr.mono (by decide)) (pa_cons (pv 10) (pa_cons pe_int (pa_cons (pv 7) pa_nil)))) pa_nil)) (pe_callB (kLen K) (by rfl) T.len PySem.boot_len (pa_cons (pv 10) pa_nil)) (nomark _)))) (fun _ _ _ _ _ => (pv 10)))
      (pss_cons (ps_if (PW.pt (pw_and (pt_val (pv 8)) (pw_and1 (pt_cmpR (kNeD K rfl hr.units) (pv 9) (pe_lst pa_nil) (nomark _))))) (pss_one (ps_ret pe_bl)) pss_nil)
      (pss_cons (ps_set (i := 6) sc_law.nd rfl (by first | exact Or.inl rfl | exact Or.inr rfl) (pe_op op_add pe_int (pe_cal c_l_take (hr.mono (by decide)) (pa_cons (pv 2) (pa_cons (pe_callB (call_min2 rfl) (by rfl) T.min (by decide +kernel) (pa_cons (pv 3) (pa_cons (pe_ifExp (pt_cmpR op_eq (pv 4) pe_int (nomark _)) pe_int (pv 3)) pa_nil))) pa_nil)))))
      (pss_cons (ps_set (i := 10) sc_law.nd rfl (by first | exact Or.inl rfl | exact Or.inr rfl) (pe_cal c_l_even_web (hr.mono (by decide)) (pa_cons (pv 2) (pa_cons (pv 6) (pa_cons (pv 4) pa_nil)))))
      (pss_cons (ps_set (i := 11) sc_law.nd rfl (by first | exact Or.inl rfl | exact Or.inr rfl) (pe_cal c_l_take (hr.mono (by decide)) (pa_cons (pv 2) (pa_cons (pv 6) pa_nil))))
      (pss_one (ps_if (PW.pt (pw_and (pt_val (pv 8)) (pw_and1 (pt_not (pt_val (pe_cal c_l_walked (hr.mono (by decide)) (pa_cons (pv 10) (pa_cons (pv 11) (pa_cons (pv 7) pa_nil))))))))) (pss_one (ps_ret pe_bl)) pss_nil))))))))))))
      (pss_one (ps_ret pe_bl)))), ?_⟩
    have hbig : sizeLine = 16777216 := PySem.sizeLine_eq
    obtain ⟨hz1, hz2, hz3⟩ := sz_ok
    refine ⟨rfl, fun sA H1 hsA s1 hsz => ?_⟩
    obtain ⟨_, sv, e0, hsv, psv⟩ := hsz
    cases e0
    have hsvl := Paired.length psv
    refine ⟨_, rfl, a, ns, rfl, same_l s1 ha, hns, fun bl H2 bs hbl s2 hbv hbn hbs hbl3 => ?_⟩
    have hsb : ∀ b ∈ bs, b ≠ sA := fun b hb e => by
      have := (hbs b hb).2.2
      rw [e, hsv] at this; cases this
    have hsblA : sA ≠ bl := ne_of_none hsv hbl
    refine ⟨bl, rfl, ⟨_, SqL.of hbv⟩, for_list (K := K) (a := bl) (xs := bs.map V.ref) (fun i σ H' => NL H1 H' ∧ H' sA = some (.lst sv) ∧ H' bl = some (.lst (bs.map V.ref)) ∧ (∀ j b, i ≤ j → bs[j]? = some b → Box H' b 0) ∧
        ∃ b2 b3 b4 b5 b6 b7 b8 b9 b10 b11, σ = [some (.ref a), some (.ref sA), b2, b3, b4, b5, b6, b7, b8, b9, b10, b11])
      ⟨nl_of s2, s2 _ _ hsv, hbv, fun j b _ hb => (hbs b (List.mem_of_getElem? hb)).1, none, none, none, none, none, none, none, none, none, none, rfl⟩ (fun i σ H' _ z => SqL.of z.2.2.1) ?_ ?_⟩
    · rintro i x σ H3 hx ⟨nl3, hs3, hb3, hbox3, b2, b3, b4, b5, b6, b7, b8, b9, b10, b11, rfl⟩
      rw [List.getElem?_map] at hx
      obtain ⟨b, hb, rfl⟩ := Option.map_eq_some_iff.mp hx
      have hbm := List.mem_of_getElem? hb
      have hbsA := hsb b hbm
      have hbbl := (hbs b hbm).2.1
      have hB3 := hbox3 i b (Nat.le_refl _) hb
      -- the size
      refine ⟨_, rfl, _, rfl, _, rfl, _, _, rfl, .inl (SqL.of hs3), b, 0, (sz 8).length, by rw [hsvl]; rfl, hz2, by omega, by decide, hB3, fun t H4 ht k4 hB4 => ?_⟩
      have hs4 := k4 _ _ (Ne.symm hbsA) hs3
      have hb4 := k4 _ _ (Ne.symm hbbl) hb3
      have nl34 := hB3.nl k4
      have nl4 := NL.trans nl3 nl34
      obtain ⟨e, he⟩ : ∃ e, (sz 8)[t]? = some e := ⟨_, List.getElem?_eq_getElem ht⟩
      obtain ⟨u, hu, ru⟩ := pd_get (firm_end.all nl4 psv) he
      obtain ⟨c1, rfl, hc1⟩ := ru
      obtain ⟨n, dr⟩ := e
      obtain ⟨hn1, hd1, hn8, hd6, hnd⟩ := hz3 (n, dr) (List.mem_of_getElem? he)
      replace hn1 : 1 ≤ n := hn1
      replace hd1 : 1 ≤ dr := hd1
      replace hn8 : n ≤ 8 := hn8
      replace hd6 : dr ≤ 6 := hd6
      replace hnd : n * dr ≤ 9 := hnd
      refine ⟨_, _, _, _, rfl, rfl, SqL.of hs4, atI_nat hu, c1, _, rfl, SqT.of hc1, rfl, _, _, rfl, _, _, rfl, rfl, ?_⟩
      -- all even webs
      refine ⟨_, rfl, _, _, rfl, rfl, 1, _, rfl, ⟨by decide, by decide, by show -(2 ^ 62) ≤ (n : Int) + 1; omega, by show (n : Int) + 1 < 2 ^ 62; omega⟩, fun D hD => ?_⟩
      have eN : ((n : Int) + 1 - 1).toNat = n := by omega
      rw [eN]
      refine lc_range (lo := 1) (n := n) (fun i H' => Same H4 H' ∧ ∃ (ps : List Addr) (its : List (List V)) (Wss : List (List Web)), H' D = some (.lst (ps.map V.ref)) ∧ (∀ p ∈ ps, p ≠ D) ∧ Paired (fun p xs => H' p = some (.lst xs)) ps its ∧ Paired (Paired (WebR H')) its Wss ∧ Wss.length = i ∧ ∀ (j : Nat) Wz, Wss[j]? = some Wz → Wz.Perm (evens (j + 1) dr))
        ⟨same_new hD, [], [], [], upd_same, fun p hp => by simp at hp, .nil, .nil, rfl, fun j Wz h => by simp at h⟩ ?_ ?_
      · rintro i2 H5 hi2 ⟨s5, ps, its, Wss, hps, hpD, pps, pit, hWl, hWp⟩
        have e1 : V.int (1 + (i2 : Int)) = V.int ((i2 + 1 : Nat) : Int) := by rw [V.int.injEq]; omega
        rw [e1]
        refine ⟨rfl, yes (iteT ⟨_, rfl, _, rfl, i2 + 1, dr, rfl, by omega, hd1, by omega, by omega, Nat.le_trans (Nat.mul_le_mul_right _ (by omega)) hnd, fun p H6 Wz hp s6 hWz hperm => ?_⟩)⟩
        obtain ⟨_, zv, e2, hzv, pz⟩ := hWz
        cases e2
        have hps6 := s6 _ _ hps
        have hpD2 : p ≠ D := fun z => by rw [z, hps] at hp; cases hp
        have hpl : ps.length = i2 := by rw [Paired.length pps, Paired.length pit, hWl]
        refine ⟨_, hps6, by rw [List.length_map, hpl]; omega, same_mut (st s5 s6) hD, ps ++ [p], its ++ [zv], Wss ++ [Wz], by rw [upd_same, List.map_append]; rfl, fun q hq => ?_, ?_, ?_, by rw [List.length_append, hWl]; rfl, fun j Wy hj => ?_⟩
        · rcases List.mem_append.mp hq with z | z
          · exact hpD q z
          · rw [List.mem_singleton.mp z]; exact hpD2
        · refine pd_app (pd_imp_mem pps fun q hq xs h => ?_) (.cons ?_ .nil)
          · rw [upd_ne (hpD q hq)]; exact s6 _ _ h
          · rw [upd_ne hpD2]; exact hzv
        · have nlx := nl_lst (ys := ps.map V.ref ++ [.ref p]) hps6
          exact pd_app (pd_imp pit fun _ _ h => firm_web.all (NL.trans (nl_of s6) nlx) h) (.cons (firm_web.all nlx pz) .nil)
        · by_cases hj2 : j < Wss.length
          · rw [List.getElem?_append_left hj2] at hj
            exact hWp j Wy hj
          · rw [List.getElem?_append_right (by omega)] at hj
            have h0 : j - Wss.length = 0 := by
              have := (List.getElem?_eq_some_iff.mp hj).1
              rw [List.length_singleton] at this
              omega
            rw [h0] at hj
            cases hj
            have : j = i2 := by omega
            rw [this]; exact hperm
      · rintro H5 ⟨s5, ps, its, Wss, hps, hpD, pps, pit, hWl, hWp⟩
        refine ⟨by show 0 ≤ sizeLine; decide, fun T0 hT0 => ?_⟩
        have s6 := sn (o := .lst []) s5 hT0
        have hit : ∀ x ∈ its, x.length ≤ 2620 := fun x hx => by
          obtain ⟨Wz, hWz, hp⟩ := pd_mem pit hx
          obtain ⟨j, hj, e⟩ := List.getElem_of_mem hWz
          have hperm := hWp j Wz (by rw [List.getElem?_eq_getElem hj, e])
          rw [Paired.length hp, hperm.length_eq]
          exact evens_len (Nat.le_trans (Nat.mul_le_mul_right _ (by omega)) hnd)
        have hil : its.length = n := by rw [Paired.length pit, hWl]
        have htot := flat_len2 hit
        rw [hil] at htot
        have htot2 : its.flatten.length ≤ 8 * 2620 := Nat.le_trans htot (Nat.mul_le_mul_right _ hn8)
        have hpl : ps.length = n := by rw [Paired.length pps, hil]
        refine ⟨D, T0, ps, its, rfl, SqL.of (same_new hT0 _ _ hps), upd_same, pd_imp pps fun _ _ h => same_new hT0 _ _ h, by omega, by omega, fun wb hwb => ?_⟩
        have s7 := sn (o := .lst its.flatten) s6 hwb
        have pall : Paired (WebR (upd (upd H5 T0 (.lst [])) wb (.lst its.flatten))) its.flatten Wss.flatten := firm_web.all (NL.trans (nl_of (same_new hT0)) (nl_of (same_new hwb))) (pd_flat pit)
        have hmem : ∀ W, W ∈ Wss.flatten ↔ ∃ N, 1 ≤ N ∧ N ≤ n ∧ W ∈ evens N dr := fun W => by
          rw [List.mem_flatten]
          constructor
          · rintro ⟨Wz, hWz, hW⟩
            obtain ⟨j, hj, e⟩ := List.getElem_of_mem hWz
            exact ⟨j + 1, by omega, by omega, (hWp j Wz (by rw [List.getElem?_eq_getElem hj, e])).mem_iff.mp hW⟩
          · rintro ⟨N, h1, h2, h3⟩
            have hj : N - 1 < Wss.length := by omega
            have hg : Wss[N - 1]? = some Wss[N - 1] := List.getElem?_eq_getElem hj
            have hp := hWp (N - 1) _ hg
            rw [show N - 1 + 1 = N by omega] at hp
            exact ⟨_, List.getElem_mem hj, hp.mem_iff.mpr h3⟩
        have hev : ∀ W ∈ Wss.flatten, ∃ N, N ≤ n ∧ Ev W N dr := fun W hW => by
          obtain ⟨N, h1, h2, h3⟩ := (hmem W).mp hW
          exact ⟨N, h2, (evens_ev (by omega) h3).1⟩
        have hB7 := hB4.s s7
        have hwbb : wb ≠ b := fun z => by
          obtain ⟨xs, hxs⟩ := hB4.some_
          have := s6 _ _ hxs
          rw [← z, hwb] at this; cases this
        -- the way
        refine ⟨_, rfl, _, rfl, _, rfl, _, rfl, _, rfl, b, 1, 7, rfl, by decide, by decide, by decide, hB7, fun m H8 hm k8 hB8 => ?_⟩
        refine ⟨b, 2, dr, m, rfl, hd1, by omega, by omega, by decide, hB8, fun l wa H9 hwaN hll hld k9 hB9 hway => ?_⟩
        have nl79 : NL (upd (upd H5 T0 (.lst [])) wb (.lst its.flatten)) H9 := NL.trans (hB7.nl k8) (hB8.nl k9)
        have hwb9 := k9 _ _ hwbb (k8 _ _ hwbb (upd_same (H := upd H5 T0 (.lst []))))
        have pall9 := firm_web.all nl79 pall
        refine ⟨_, rfl, wa, wb, n, dr, l, Wss.flatten, rfl, hway, ⟨wb, _, rfl, hwb9, pall9⟩, fun N W h1 h2 h3 => (hmem W).mpr ⟨N, h1, h2, h3⟩, hn1, hd1, by omega, by omega, hnd, by omega, hld, by rw [← Paired.length pall]; omega, fun way' p wa' c H10 s10 hpt hway' hwd' hwl' hc => ?_⟩
        refine ⟨p, _, rfl, SqT.of hpt, rfl, _, _, rfl, _, _, rfl, rfl, ?_⟩
        refine ⟨_, rfl, rfl, _, rfl, iteF ?_⟩
        have hwb10 := s10 _ _ hwb9
        have pall10 := firm_web.all (nl_of s10) pall9
        -- what is left
        refine ⟨_, rfl, wb, rfl, ⟨_, SqL.of hwb10⟩, fun D2 hD2 => ?_⟩
        refine lc_list (K := K) (a := wb) (xs := its.flatten) (fun i H' => Same H10 H' ∧ ∃ vs, H' D2 = some (.lst vs) ∧ vs.length ≤ i ∧ (c = true → vs = [])) ⟨same_new hD2, [], upd_same, Nat.le_refl _, fun _ => rfl⟩ (fun i H' _ z => SqL.of (z.1 _ _ hwb10)) ?_ ?_
        · rintro i3 x H11 hx3 ⟨s11, vs, hvs, hvl, hvc⟩
          obtain ⟨W, hW, rW⟩ := pd_get' (firm_web.all (nl_of s11) pall10) hx3
          obtain ⟨ga, rfl, rW⟩ := tup_ref rW
          obtain ⟨N, hN, hEv⟩ := hev W (List.mem_of_getElem? hW)
          obtain ⟨gs, sG, pG, eG, lG⟩ := tup_sq (K := K) rW
          have hil3 : i3 < its.flatten.length := (List.getElem?_eq_some_iff.mp hx3).1
          refine ⟨rfl, _, rfl, _, rfl, ga, wa', W, N, dr, 0, way', rfl, rW, firm_way.s s11 hway', hEv.toRg, hEv.pos, by omega, hwd', by omega, fun q H12 hq s12 hq12 => ?_⟩
          have hvs12 := s12 _ _ hvs
          refine ⟨_, _, rfl, .inl (SqL.of hq12), _, rfl, _, _, rfl, .inr (same_t s12 sG), _, _, rfl, rfl, _, rfl, ite2 (fun hlt => ?_) fun hlt => ?_⟩
          · refine ⟨_, rfl, vs, hvs12, by omega, same_mut (st s11 s12) hD2, _, upd_same, by rw [List.length_append, List.length_singleton]; omega, fun hct => ?_⟩
            have hsee := hc hct N W 0 hN hEv hEv.pos
            have := of_decide_eq_true hlt
            rw [List.length_map, asc_all.mpr (fun t ht => hsee t (by rw [hEv.len]; exact ht)), lG, hEv.len] at this
            omega
          · exact ⟨st s11 s12, vs, hvs12, by omega, hvc⟩
        · rintro H11 ⟨s11, vs, hvs, hvl, hvc⟩
          have nl911 : NL H9 H11 := nl_of (st s10 s11)
          have hway11 := firm_way.s s11 hway'
          have hB11 : Box H11 b 20 := ((hB9.mono (by omega)).s s10).s s11
          -- the rest of the turn
          have fin : ∀ (G : Hp) (x6 x10 x11 : Option V) (cB : Nat), Kp b H11 G → Box G b cB → (NL H1 G ∧ G sA = some (.lst sv) ∧ G bl = some (.lst (bs.map V.ref)) ∧ (∀ j b', i + 1 ≤ j → bs[j]? = some b' → Box G b' 0)) := fun G x6 x10 x11 cB kG hBG => by
            have kAll : Kp b H3 G := k4.trans ((Kp.of s7).trans (k8.trans (k9.trans ((Kp.of (st s10 s11)).trans kG))))
            refine ⟨NL.trans nl3 (hB3.nl kAll), kAll _ _ (Ne.symm hbsA) hs3, kAll _ _ (Ne.symm hbbl) hb3, fun j b' hj hb' => (hbox3 j b' (by omega) hb').kp kAll fun z => ?_⟩
            subst z
            have h1 := List.getElem?_eq_some_iff.mp hb
            have h2 := List.getElem?_eq_some_iff.mp hb'
            have := (List.getElem_inj hbn).mp (h1.2.trans h2.2.symm)
            omega
          dsimp only [tSeq, tIfS]
          refine and_left rfl rfl hvs hvc fun G sG => iteF ?_
          have hBG := hB11.s sG
          have hwayG := firm_way.s sG hway11
          dsimp only [tSeq, tIfS, tAsg, tOp, tC, tCall, tCons]
          refine ⟨_, rfl, min_te rfl rfl hn1 fun m0 hm1 hm2 hm3 => ⟨b, 20, m0, rfl, hm1, by omega, by decide, hBG, fun t2 H12 ht2 k12 hB12 => ⟨_, _, rfl, rfl, ?_⟩⟩⟩
          have hBk := hBG.nl k12
          have em : V.int (1 + (t2 : Int)) = V.int ((t2 + 1 : Nat) : Int) := by rw [V.int.injEq]; omega
          refine ⟨_, rfl, _, rfl, _, rfl, b, 21, t2 + 1, dr, by rw [← em]; rfl, hB12, by decide, by omega, by omega, hd1, by omega, fun z => by have := hm3 z; omega, fun wA Wd H13 hwA k13 hB13 hWd hEd => ?_⟩
          refine ⟨_, rfl, _, rfl, b, 1021, t2 + 1, by rw [← em]; rfl, by omega, by omega, by decide, hB13, fun rm H14 hrm k14 hB14 => ?_⟩
          have kG : Kp b H11 H14 := (Kp.of sG).trans (k12.trans (k13.trans k14))
          have way14 : WayR H14 (.ref wa') way' := firm_way _ _ _ _ (NL.trans hBk (NL.trans (hB12.nl k13) (hB13.nl k14))) hwayG
          have web14 := firm_web _ _ _ _ (hB13.nl k14) hWd
          refine ⟨_, rfl, c, rfl, ?_⟩
          cases c with
          | false =>
            obtain ⟨f1, f2, f3, f4⟩ := fin H14 none none none _ kG hB14
            exact iteF (iteF ⟨f1, f2, f3, f4, _, _, _, _, _, _, _, _, _, _, rfl⟩)
          | true =>
            refine iteT ⟨_, rfl, _, rfl, _, rfl, wA, wa', Wd, t2 + 1, dr, rm, way', rfl, web14, way14, hEd.toRg, hrm, by omega, hwd', by omega, fun c2 H15 s15 hc2 => ⟨c2, rfl, ?_⟩⟩
            have hc3 : c2 = true := hc2.mpr (hc rfl (t2 + 1) Wd rm (by omega) hEd hrm)
            rw [hc3]
            obtain ⟨f1, f2, f3, f4⟩ := fin H15 none none none _ (kG.trans (.of s15)) (hB14.s s15)
            exact iteF ⟨f1, f2, f3, f4, _, _, _, _, _, _, _, _, _, _, rfl⟩
    · rintro σ H3 _
      exact k H3
end
end Sw
/-! SwHead -/
set_option Elab.async false
set_option linter.all false
set_option maxRecDepth 100000
set_option maxHeartbeats 0
namespace Sw
open PySem PySem.Spec PyProof.Rows L2
/-! ### the head: facts by names, the run -/
def d_is_count : He.DefD := ⟨("is_count", none), "is_count", "is_count", defArgs s_is_count, defBody s_is_count, defScope s_is_count, [], []⟩
def d_is_end_in : He.DefD := ⟨("is_end_in", none), "is_end_in", "is_end_in", defArgs s_is_end_in, defBody s_is_end_in, defScope s_is_end_in, [], []⟩
def d_are_told_ends : He.DefD := ⟨("are_told_ends", none), "are_told_ends", "are_told_ends", defArgs s_are_told_ends, defBody s_are_told_ends, defScope s_are_told_ends, [], []⟩
def d_rooms_met : He.DefD := ⟨("rooms_met", none), "rooms_met", "rooms_met", defArgs s_rooms_met, defBody s_rooms_met, defScope s_rooms_met, [], []⟩
def d_is_web : He.DefD := ⟨("is_web", none), "is_web", "is_web", defArgs s_is_web, defBody s_is_web, defScope s_is_web, [], []⟩
def d_gone : He.DefD := ⟨("gone", none), "gone", "gone", defArgs s_gone, defBody s_gone, defScope s_gone, [], []⟩
def d_free_end : He.DefD := ⟨("free_end", none), "free_end", "free_end", defArgs s_free_end, defBody s_free_end, defScope s_free_end, [], []⟩
def d_with_tie : He.DefD := ⟨("with_tie", none), "with_tie", "with_tie", defArgs s_with_tie, defBody s_with_tie, defScope s_with_tie, [], []⟩
def d_web_of_ends : He.DefD := ⟨("web_of_ends", none), "web_of_ends", "web_of_ends", defArgs s_web_of_ends, defBody s_web_of_ends, defScope s_web_of_ends, [], []⟩
def d_ways_on_from : He.DefD := ⟨("ways_on_from", none), "ways_on_from", "ways_on_from", defArgs s_ways_on_from, defBody s_ways_on_from, defScope s_ways_on_from, [], []⟩
def d_rooms_on : He.DefD := ⟨("rooms_on", none), "rooms_on", "rooms_on", defArgs s_rooms_on, defBody s_rooms_on, defScope s_rooms_on, [], []⟩
def d_sees_all : He.DefD := ⟨("sees_all", none), "sees_all", "sees_all", defArgs s_sees_all, defBody s_sees_all, defScope s_sees_all, [], []⟩
def d_renumbered : He.DefD := ⟨("renumbered", none), "renumbered", "renumbered", defArgs s_renumbered, defBody s_renumbered, defScope s_renumbered, [], []⟩
def d_told_from : He.DefD := ⟨("told_from", none), "told_from", "told_from", defArgs s_told_from, defBody s_told_from, defScope s_told_from, [], []⟩
def d_Trace_init : He.DefD := ⟨("Trace", some "__init__"), "__init__", "Trace.__init__", defArgs s_Trace_init, defBody s_Trace_init, defScope s_Trace_init, [], []⟩
def d_Trace_gone_on : He.DefD := ⟨("Trace", some "gone_on"), "gone_on", "Trace.gone_on", defArgs s_Trace_gone_on, defBody s_Trace_gone_on, defScope s_Trace_gone_on, [], []⟩
def d_closed_web : He.DefD := ⟨("closed_web", none), "closed_web", "closed_web", defArgs s_closed_web, defBody s_closed_web, defScope s_closed_web, [], []⟩
def d_missed : He.DefD := ⟨("missed", none), "missed", "missed", defArgs s_missed, defBody s_missed, defScope s_missed, [], []⟩
def d_shows_missed : He.DefD := ⟨("shows_missed", none), "shows_missed", "shows_missed", defArgs s_shows_missed, defBody s_shows_missed, defScope s_shows_missed, [], []⟩
def d_come_on : He.DefD := ⟨("come_on", none), "come_on", "come_on", defArgs s_come_on, defBody s_come_on, defScope s_come_on, [], []⟩
def d_is_all_met : He.DefD := ⟨("is_all_met", none), "is_all_met", "is_all_met", defArgs s_is_all_met, defBody s_is_all_met, defScope s_is_all_met, [], []⟩
def d_least_seeing : He.DefD := ⟨("least_seeing", none), "least_seeing", "least_seeing", defArgs s_least_seeing, defBody s_least_seeing, defScope s_least_seeing, [], []⟩
def d_Walker_init : He.DefD := ⟨("Walker", some "__init__"), "__init__", "Walker.__init__", defArgs s_Walker_init, defBody s_Walker_init, defScope s_Walker_init, [], []⟩
def d_Walker_here : He.DefD := ⟨("Walker", some "here"), "here", "Walker.here", defArgs s_Walker_here, defBody s_Walker_here, defScope s_Walker_here, [], []⟩
def d_Walker_go : He.DefD := ⟨("Walker", some "go"), "go", "Walker.go", defArgs s_Walker_go, defBody s_Walker_go, defScope s_Walker_go, [], []⟩
def d_onlooker : He.DefD := ⟨("onlooker", none), "onlooker", "onlooker", defArgs s_onlooker, defBody s_onlooker, defScope s_onlooker, [], []⟩
def d_l_box : He.DefD := ⟨("_law_box", none), "_law_box", "_law_box", defArgs s_l_box, defBody s_l_box, defScope s_l_box, [], []⟩
def d_l_take : He.DefD := ⟨("_law_take", none), "_law_take", "_law_take", defArgs s_l_take, defBody s_l_take, defScope s_l_take, [], []⟩
def d_l_told : He.DefD := ⟨("_law_told", none), "_law_told", "_law_told", defArgs s_l_told, defBody s_l_told, defScope s_l_told, [], []⟩
def d_l_pairings : He.DefD := ⟨("_law_pairings", none), "_law_pairings", "_law_pairings", defArgs s_l_pairings, defBody s_l_pairings, defScope s_l_pairings, [], []⟩
def d_l_all_ends : He.DefD := ⟨("_law_all_ends", none), "_law_all_ends", "_law_all_ends", defArgs s_l_all_ends, defBody s_l_all_ends, defScope s_l_all_ends, [], []⟩
def d_l_even : He.DefD := ⟨("_law_even", none), "_law_even", "_law_even", defArgs s_l_even, defBody s_l_even, defScope s_l_even, [], []⟩
def d_l_sizes : He.DefD := ⟨("_law_sizes", none), "_law_sizes", "_law_sizes", defArgs s_l_sizes, defBody s_l_sizes, defScope s_l_sizes, [], []⟩
def d_l_way : He.DefD := ⟨("_law_way", none), "_law_way", "_law_way", defArgs s_l_way, defBody s_l_way, defScope s_l_way, [], []⟩
def d_l_seen_rooms : He.DefD := ⟨("_law_seen_rooms", none), "_law_seen_rooms", "_law_seen_rooms", defArgs s_l_seen_rooms, defBody s_l_seen_rooms, defScope s_l_seen_rooms, [], []⟩
def d_l_folded : He.DefD := ⟨("_law_folded", none), "_law_folded", "_law_folded", defArgs s_l_folded, defBody s_l_folded, defScope s_l_folded, [], []⟩
def d_l_joined : He.DefD := ⟨("_law_joined", none), "_law_joined", "_law_joined", defArgs s_l_joined, defBody s_l_joined, defScope s_l_joined, [], []⟩
def d_l_doors_put : He.DefD := ⟨("_law_doors_put", none), "_law_doors_put", "_law_doors_put", defArgs s_l_doors_put, defBody s_l_doors_put, defScope s_l_doors_put, [], []⟩
def d_l_even_web : He.DefD := ⟨("_law_even_web", none), "_law_even_web", "_law_even_web", defArgs s_l_even_web, defBody s_l_even_web, defScope s_l_even_web, [], []⟩
def d_l_walked : He.DefD := ⟨("_law_walked", none), "_law_walked", "_law_walked", defArgs s_l_walked, defBody s_l_walked, defScope s_l_walked, [], []⟩
def d_l_grown : He.DefD := ⟨("_law_grown", none), "_law_grown", "_law_grown", defArgs s_l_grown, defBody s_l_grown, defScope s_l_grown, [], []⟩
def d_law : He.DefD := ⟨("law", none), "law", "law", defArgs s_law, defBody s_law, defScope s_law, [], []⟩
def fn : List He.DefD := [d_is_count, d_is_end_in, d_are_told_ends, d_rooms_met, d_is_web, d_gone, d_free_end, d_with_tie, d_web_of_ends, d_ways_on_from, d_rooms_on, d_sees_all, d_renumbered, d_told_from, d_Trace_init, d_Trace_gone_on, d_closed_web, d_missed, d_shows_missed, d_come_on, d_is_all_met, d_least_seeing, d_Walker_init, d_Walker_here, d_Walker_go, d_onlooker, d_l_box, d_l_take, d_l_told, d_l_pairings, d_l_all_ends, d_l_even, d_l_sizes, d_l_way, d_l_seen_rooms, d_l_folded, d_l_joined, d_l_doors_put, d_l_even_web, d_l_walked, d_l_grown, d_law]
def fa : List He.Fa := [.glo "is_count", .glo "is_end_in", .glo "are_told_ends", .glo "rooms_met", .glo "is_web", .glo "gone", .glo "free_end", .glo "with_tie", .glo "web_of_ends", .glo "ways_on_from", .glo "rooms_on", .glo "sees_all", .glo "renumbered", .glo "told_from", .glo "closed_web", .glo "missed", .glo "shows_missed", .glo "come_on", .glo "is_all_met", .glo "least_seeing", .glo "onlooker", .glo "_law_box", .glo "_law_take", .glo "_law_told", .glo "_law_pairings", .glo "_law_all_ends", .glo "_law_even", .glo "_law_sizes", .glo "_law_way", .glo "_law_seen_rooms", .glo "_law_folded", .glo "_law_joined", .glo "_law_doors_put", .glo "_law_even_web", .glo "_law_walked", .glo "_law_grown", .glo "law", .free "len", .free "range", .free "enumerate", .free "isinstance", .free "tuple", .free "int", .free "bool", .free "all", .free "any", .free "sorted", .free "set", .free "dict", .free "min", .free "max", .free "list", .free "sum", .free "abs", .glo "Trace", .cls "Trace", .mkr "Trace", .meth "Trace" "gone_on", .noat "Trace" "lead", .noat "Trace" "room", .noat "Trace" "at", .noat "Trace" "come", .glo "Walker", .cls "Walker", .mkr "Walker", .meth "Walker" "go", .meth "Walker" "here", .noat "Walker" "web", .noat "Walker" "room", .noat "Walker" "stones_left", .noat "Walker" "came_by", .noat "Walker" "gone_through", .noat "Walker" "lying"]
abbrev hk : PySem.W.Hook := He.hookD 5 fa fn
abbrev Rw : PySem.W.OpenRow := PySem.W.OpenLaw.row PySem.Challenge.rw_stonewalker_k88_whole_seen_or_missed
def ob (s : PySem.W.SharedT) : He.AlD := He.obsDG 5 fa fn (HandSHeadRun.getT s)
theorem ob_eq (s : PySem.W.SharedT) : ob s = hk.obs s.abs := He.obsDG_eq (HandSHeadRun.getT_eq s)
def loose1 : List Str := ["_wall", "is_count", "is_end_in", "are_told_ends", "rooms_met", "is_web", "gone", "free_end", "with_tie", "web_of_ends", "ways_on_from", "rooms_on", "sees_all", "renumbered", "told_from", "Trace", "closed_web", "missed", "shows_missed", "come_on", "is_all_met", "least_seeing"]
def loose2 : List Str := ["WebError", "NoDoor", "Walker", "onlooker", "_law_box", "_law_take", "_law_told", "_law_pairings", "_law_all_ends", "_law_even", "_law_sizes", "_law_way", "_law_seen_rooms", "_law_folded", "_law_joined", "_law_doors_put", "_law_even_web", "_law_walked", "_law_grown"]
theorem run (w : World) : HandSHeadRun.RunEq Rw (PySem.W.view Rw.prog [48]) hk ob 20000 (loose1 ++ loose2) w := by
  intro os
  kernel_rfl
end Sw
/-! SwEnd -/
set_option Elab.async false
set_option linter.all false
set_option maxRecDepth 100000
set_option maxHeartbeats 4000000
namespace Sw
open PySem L2
theorem facts {P : Program} {w : World} {K : PySem.W.Frag} {h : Heap} {mg : Str → Option Value} {f : Addr} (X : K.In h) (G : h.Ns mainGlobals mg) (hf : mg ("law" : Str) = some (.ref f)) (c : He.SaysD fa fn K) :
    ∃ fd : FuncData, (∀ (s : Shared) (v : Value), BindsTo s fd ⟨[v], []⟩ [("_law_script", v)]) ∧ ∀ base : Heap, K.In base → base.Ns mainGlobals mg → FnOk P w K mg base CX0 13 f fd p_law (spLaw K) := by
  obtain ⟨fd_is_count, F_is_count⟩ := c.def_ 0 (d := d_is_count) rfl
  obtain ⟨fd_is_end_in, F_is_end_in⟩ := c.def_ 1 (d := d_is_end_in) rfl
  obtain ⟨fd_are_told_ends, F_are_told_ends⟩ := c.def_ 2 (d := d_are_told_ends) rfl
  obtain ⟨fd_rooms_met, F_rooms_met⟩ := c.def_ 3 (d := d_rooms_met) rfl
  obtain ⟨fd_is_web, F_is_web⟩ := c.def_ 4 (d := d_is_web) rfl
  obtain ⟨fd_gone, F_gone⟩ := c.def_ 5 (d := d_gone) rfl
  obtain ⟨fd_free_end, F_free_end⟩ := c.def_ 6 (d := d_free_end) rfl
  obtain ⟨fd_with_tie, F_with_tie⟩ := c.def_ 7 (d := d_with_tie) rfl
  obtain ⟨fd_web_of_ends, F_web_of_ends⟩ := c.def_ 8 (d := d_web_of_ends) rfl
  obtain ⟨fd_ways_on_from, F_ways_on_from⟩ := c.def_ 9 (d := d_ways_on_from) rfl
  obtain ⟨fd_rooms_on, F_rooms_on⟩ := c.def_ 10 (d := d_rooms_on) rfl
  obtain ⟨fd_sees_all, F_sees_all⟩ := c.def_ 11 (d := d_sees_all) rfl
  obtain ⟨fd_renumbered, F_renumbered⟩ := c.def_ 12 (d := d_renumbered) rfl
  obtain ⟨fd_told_from, F_told_from⟩ := c.def_ 13 (d := d_told_from) rfl
  obtain ⟨fd_Trace_init, F_Trace_init⟩ := c.def_ 14 (d := d_Trace_init) rfl
  obtain ⟨fd_Trace_gone_on, F_Trace_gone_on⟩ := c.def_ 15 (d := d_Trace_gone_on) rfl
  obtain ⟨fd_closed_web, F_closed_web⟩ := c.def_ 16 (d := d_closed_web) rfl
  obtain ⟨fd_missed, F_missed⟩ := c.def_ 17 (d := d_missed) rfl
  obtain ⟨fd_shows_missed, F_shows_missed⟩ := c.def_ 18 (d := d_shows_missed) rfl
  obtain ⟨fd_come_on, F_come_on⟩ := c.def_ 19 (d := d_come_on) rfl
  obtain ⟨fd_is_all_met, F_is_all_met⟩ := c.def_ 20 (d := d_is_all_met) rfl
  obtain ⟨fd_least_seeing, F_least_seeing⟩ := c.def_ 21 (d := d_least_seeing) rfl
  obtain ⟨fd_Walker_init, F_Walker_init⟩ := c.def_ 22 (d := d_Walker_init) rfl
  obtain ⟨fd_Walker_here, F_Walker_here⟩ := c.def_ 23 (d := d_Walker_here) rfl
  obtain ⟨fd_Walker_go, F_Walker_go⟩ := c.def_ 24 (d := d_Walker_go) rfl
  obtain ⟨fd_onlooker, F_onlooker⟩ := c.def_ 25 (d := d_onlooker) rfl
  obtain ⟨fd_l_box, F_l_box⟩ := c.def_ 26 (d := d_l_box) rfl
  obtain ⟨fd_l_take, F_l_take⟩ := c.def_ 27 (d := d_l_take) rfl
  obtain ⟨fd_l_told, F_l_told⟩ := c.def_ 28 (d := d_l_told) rfl
  obtain ⟨fd_l_pairings, F_l_pairings⟩ := c.def_ 29 (d := d_l_pairings) rfl
  obtain ⟨fd_l_all_ends, F_l_all_ends⟩ := c.def_ 30 (d := d_l_all_ends) rfl
  obtain ⟨fd_l_even, F_l_even⟩ := c.def_ 31 (d := d_l_even) rfl
  obtain ⟨fd_l_sizes, F_l_sizes⟩ := c.def_ 32 (d := d_l_sizes) rfl
  obtain ⟨fd_l_way, F_l_way⟩ := c.def_ 33 (d := d_l_way) rfl
  obtain ⟨fd_l_seen_rooms, F_l_seen_rooms⟩ := c.def_ 34 (d := d_l_seen_rooms) rfl
  obtain ⟨fd_l_folded, F_l_folded⟩ := c.def_ 35 (d := d_l_folded) rfl
  obtain ⟨fd_l_joined, F_l_joined⟩ := c.def_ 36 (d := d_l_joined) rfl
  obtain ⟨fd_l_doors_put, F_l_doors_put⟩ := c.def_ 37 (d := d_l_doors_put) rfl
  obtain ⟨fd_l_even_web, F_l_even_web⟩ := c.def_ 38 (d := d_l_even_web) rfl
  obtain ⟨fd_l_walked, F_l_walked⟩ := c.def_ 39 (d := d_l_walked) rfl
  obtain ⟨fd_l_grown, F_l_grown⟩ := c.def_ 40 (d := d_l_grown) rfl
  obtain ⟨fd_law, F_law⟩ := c.def_ 41 (d := d_law) rfl
  have e := hf.symm.trans (He.glo_ok X G (c.fact 36 (f := .glo "law") rfl))
  cases e
  have T : Txt mg := ⟨He.free_ok X G (c.fact 37 (f := .free "len") rfl), He.free_ok X G (c.fact 38 (f := .free "range") rfl), He.free_ok X G (c.fact 39 (f := .free "enumerate") rfl), He.free_ok X G (c.fact 40 (f := .free "isinstance") rfl), He.free_ok X G (c.fact 41 (f := .free "tuple") rfl), He.free_ok X G (c.fact 42 (f := .free "int") rfl), He.free_ok X G (c.fact 43 (f := .free "bool") rfl), He.free_ok X G (c.fact 44 (f := .free "all") rfl), He.free_ok X G (c.fact 45 (f := .free "any") rfl), He.free_ok X G (c.fact 46 (f := .free "sorted") rfl), He.free_ok X G (c.fact 47 (f := .free "set") rfl), He.free_ok X G (c.fact 48 (f := .free "dict") rfl), He.free_ok X G (c.fact 49 (f := .free "min") rfl), He.free_ok X G (c.fact 50 (f := .free "max") rfl), He.free_ok X G (c.fact 51 (f := .free "list") rfl), He.free_ok X G (c.fact 52 (f := .free "sum") rfl), He.free_ok X G (c.fact 53 (f := .free "abs") rfl)⟩
  have kT : TraceK K (He.ga K "Trace") := ⟨He.cls_ok (c.fact 55 (f := .cls "Trace") rfl), He.noat_ok (c.fact 58 (f := .noat "Trace" "lead") rfl), He.noat_ok (c.fact 59 (f := .noat "Trace" "room") rfl), He.noat_ok (c.fact 60 (f := .noat "Trace" "at") rfl), He.noat_ok (c.fact 61 (f := .noat "Trace" "come") rfl)⟩
  have kW : WalkerK K (He.ga K "Walker") := ⟨He.cls_ok (c.fact 63 (f := .cls "Walker") rfl), He.noat_ok (c.fact 67 (f := .noat "Walker" "web") rfl), He.noat_ok (c.fact 68 (f := .noat "Walker" "room") rfl), He.noat_ok (c.fact 69 (f := .noat "Walker" "stones_left") rfl), He.noat_ok (c.fact 70 (f := .noat "Walker" "came_by") rfl), He.noat_ok (c.fact 71 (f := .noat "Walker" "gone_through") rfl), He.noat_ok (c.fact 72 (f := .noat "Walker" "lying") rfl)⟩
  have b := FunD.bindsA (ps := ["_law_script"]) F_law fun _ _ _ _ _ _ us hl => match us, hl with | [_], _ => rfl
  refine ⟨fd_law, fun s v => b s [v] rfl, fun base _ _ => ?_⟩
  have A_is_count := ok_is_count (P := P) (w := w) (base := base) F_is_count T
  have c_is_count : Cal P w K mg base 1 "is_count" p_is_count spCount := ⟨_, fd_is_count, (He.glo_ok X G (c.fact 0 (f := .glo "is_count") rfl)), F_is_count.kp, F_is_count.bindsN fun _ _ _ _ _ _ us hl => match us, hl with | [_, _], _ => rfl, A_is_count⟩
  have A_is_end_in := ok_is_end_in (P := P) (w := w) (base := base) F_is_end_in T c_is_count
  have c_is_end_in : Cal P w K mg base 2 "is_end_in" p_is_end_in spEndIn := ⟨_, fd_is_end_in, (He.glo_ok X G (c.fact 1 (f := .glo "is_end_in") rfl)), F_is_end_in.kp, F_is_end_in.bindsN fun _ _ _ _ _ _ us hl => match us, hl with | [_, _], _ => rfl, A_is_end_in⟩
  have A_are_told_ends := ok_are_told_ends (P := P) (w := w) (base := base) F_are_told_ends T c_is_end_in
  have c_are_told_ends : Cal P w K mg base 3 "are_told_ends" p_are_told_ends spToldEnds := ⟨_, fd_are_told_ends, (He.glo_ok X G (c.fact 2 (f := .glo "are_told_ends") rfl)), F_are_told_ends.kp, F_are_told_ends.bindsN fun _ _ _ _ _ _ us hl => match us, hl with | [_, _], _ => rfl, A_are_told_ends⟩
  have A_rooms_met := ok_rooms_met (P := P) (w := w) (base := base) F_rooms_met T
  have c_rooms_met : Cal P w K mg base 1 "rooms_met" p_rooms_met spRoomsMet := ⟨_, fd_rooms_met, (He.glo_ok X G (c.fact 3 (f := .glo "rooms_met") rfl)), F_rooms_met.kp, F_rooms_met.bindsN fun _ _ _ _ _ _ us hl => match us, hl with | [_, _], _ => rfl, A_rooms_met⟩
  have A_is_web := ok_is_web (P := P) (w := w) (base := base) F_is_web T c_are_told_ends (c_rooms_met.mono (by decide))
  have c_is_web : Cal P w K mg base 4 "is_web" p_is_web spIsWeb := ⟨_, fd_is_web, (He.glo_ok X G (c.fact 4 (f := .glo "is_web") rfl)), F_is_web.kp, F_is_web.bindsN fun _ _ _ _ _ _ us hl => match us, hl with | [_], _ => rfl, A_is_web⟩
  have A_gone := ok_gone (P := P) (w := w) (base := base) F_gone T
  have c_gone : Cal P w K mg base 1 "gone" p_gone spGone := ⟨_, fd_gone, (He.glo_ok X G (c.fact 5 (f := .glo "gone") rfl)), F_gone.kp, F_gone.bindsN fun _ _ _ _ _ _ us hl => match us, hl with | [_, _, _], _ => rfl, A_gone⟩
  have A_free_end := ok_free_end (P := P) (w := w) (base := base) F_free_end T
  have c_free_end : Cal P w K mg base 1 "free_end" p_free_end spFree := ⟨_, fd_free_end, (He.glo_ok X G (c.fact 6 (f := .glo "free_end") rfl)), F_free_end.kp, F_free_end.bindsN fun _ _ _ _ _ _ us hl => match us, hl with | [_, _, _], _ => rfl, A_free_end⟩
  have A_with_tie := ok_with_tie (P := P) (w := w) (base := base) F_with_tie T
  have c_with_tie : Cal P w K mg base 1 "with_tie" p_with_tie spTie := ⟨_, fd_with_tie, (He.glo_ok X G (c.fact 7 (f := .glo "with_tie") rfl)), F_with_tie.kp, F_with_tie.bindsN fun _ _ _ _ _ _ us hl => match us, hl with | [_, _, _], _ => rfl, A_with_tie⟩
  have A_web_of_ends := ok_web_of_ends (P := P) (w := w) (base := base) F_web_of_ends T
  have c_web_of_ends : Cal P w K mg base 1 "web_of_ends" p_web_of_ends spWebOf := ⟨_, fd_web_of_ends, (He.glo_ok X G (c.fact 8 (f := .glo "web_of_ends") rfl)), F_web_of_ends.kp, F_web_of_ends.bindsN fun _ _ _ _ _ _ us hl => match us, hl with | [_, _, _], _ => rfl, A_web_of_ends⟩
  have A_ways_on_from := ok_ways_on_from (P := P) (w := w) (base := base) F_ways_on_from T c_with_tie
  have c_ways_on_from : Cal P w K mg base 2 "ways_on_from" p_ways_on_from spWays := ⟨_, fd_ways_on_from, (He.glo_ok X G (c.fact 9 (f := .glo "ways_on_from") rfl)), F_ways_on_from.kp, F_ways_on_from.bindsN fun _ _ _ _ _ _ us hl => match us, hl with | [_, _, _, _, _], _ => rfl, A_ways_on_from⟩
  have A_closed_web := ok_closed_web (P := P) (w := w) (base := base) F_closed_web T c_with_tie c_free_end c_web_of_ends
  have c_closed_web : Cal P w K mg base 2 "closed_web" p_closed_web spClosed := ⟨_, fd_closed_web, (He.glo_ok X G (c.fact 14 (f := .glo "closed_web") rfl)), F_closed_web.kp, F_closed_web.bindsN fun _ _ _ _ _ _ us hl => match us, hl with | [_, _, _], _ => rfl, A_closed_web⟩
  have A_renumbered := ok_renumbered (P := P) (w := w) (base := base) F_renumbered T
  have c_renumbered : Cal P w K mg base 1 "renumbered" p_renumbered spRenum := ⟨_, fd_renumbered, (He.glo_ok X G (c.fact 12 (f := .glo "renumbered") rfl)), F_renumbered.kp, F_renumbered.bindsN fun _ _ _ _ _ _ us hl => match us, hl with | [_, _], _ => rfl, A_renumbered⟩
  have A_told_from := ok_told_from (P := P) (w := w) (base := base) F_told_from T c_rooms_met c_renumbered
  have c_told_from : Cal P w K mg base 2 "told_from" p_told_from spTold := ⟨_, fd_told_from, (He.glo_ok X G (c.fact 13 (f := .glo "told_from") rfl)), F_told_from.kp, F_told_from.bindsN fun _ _ _ _ _ _ us hl => match us, hl with | [_, _], _ => rfl, A_told_from⟩
  have A_rooms_on := ok_rooms_on (P := P) (w := w) (base := base) F_rooms_on T c_gone
  have c_rooms_on : Cal P w K mg base 2 "rooms_on" p_rooms_on spRoomsOn := ⟨_, fd_rooms_on, (He.glo_ok X G (c.fact 10 (f := .glo "rooms_on") rfl)), F_rooms_on.kp, F_rooms_on.bindsN fun _ _ _ _ _ _ us hl => match us, hl with | [_, _, _], _ => rfl, A_rooms_on⟩
  have A_sees_all := ok_sees_all (P := P) (w := w) (base := base) F_sees_all T c_gone c_rooms_on
  have c_sees_all : Cal P w K mg base 3 "sees_all" p_sees_all spSees := ⟨_, fd_sees_all, (He.glo_ok X G (c.fact 11 (f := .glo "sees_all") rfl)), F_sees_all.kp, F_sees_all.bindsN fun _ _ _ _ _ _ us hl => match us, hl with | [_, _, _], _ => rfl, A_sees_all⟩
  have A_come_on := ok_come_on (P := P) (w := w) (base := base) F_come_on T
  have c_come_on : Cal P w K mg base 1 "come_on" p_come_on spComeOn := ⟨_, fd_come_on, (He.glo_ok X G (c.fact 17 (f := .glo "come_on") rfl)), F_come_on.kp, F_come_on.bindsN fun _ _ _ _ _ _ us hl => match us, hl with | [_, _, _], _ => rfl, A_come_on⟩
  have A_is_all_met := ok_is_all_met (P := P) (w := w) (base := base) F_is_all_met T
  have c_is_all_met : Cal P w K mg base 1 "is_all_met" p_is_all_met spAllMet := ⟨_, fd_is_all_met, (He.glo_ok X G (c.fact 18 (f := .glo "is_all_met") rfl)), F_is_all_met.kp, F_is_all_met.bindsN fun _ _ _ _ _ _ us hl => match us, hl with | [_, _], _ => rfl, A_is_all_met⟩
  have A_shows_missed := ok_shows_missed (P := P) (w := w) (base := base) F_shows_missed T c_is_web (c_told_from.mono (by decide)) (c_sees_all.mono (by decide))
  have c_shows_missed : Cal P w K mg base 5 "shows_missed" p_shows_missed spShows := ⟨_, fd_shows_missed, (He.glo_ok X G (c.fact 16 (f := .glo "shows_missed") rfl)), F_shows_missed.kp, F_shows_missed.bindsN fun _ _ _ _ _ _ us hl => match us, hl with | [_, _, _, _], _ => rfl, A_shows_missed⟩
  have A_Trace_init := ok_Trace_init (P := P) (w := w) (base := base) F_Trace_init T kT
  have mk_Trace : Mkr P w K mg base 1 "Trace" (He.ga K "Trace") p_Trace_init (spTrI (He.ga K "Trace")) := ⟨_, fd_Trace_init, (He.glo_ok X G (c.fact 54 (f := .glo "Trace") rfl)), He.mkr_ok (c.fact 56 (f := .mkr "Trace") rfl), F_Trace_init.bindsN fun _ _ _ _ _ _ us hl => match us, hl with | [_, _, _, _, _], _ => rfl, A_Trace_init⟩
  have A_Trace_gone_on := ok_Trace_gone_on (P := P) (w := w) (base := base) F_Trace_gone_on T kT
  have mt_gone_on : Mth P w K mg base 3 (He.ga K "Trace") "gone_on" p_Trace_gone_on (spTrG (He.ga K "Trace")) := ⟨_, fd_Trace_gone_on, kT.c, He.meth_ok (c.fact 57 (f := .meth "Trace" "gone_on") rfl), F_Trace_gone_on.bindsN fun _ _ _ _ _ _ us hl => match us, hl with | [_, _], _ => rfl, A_Trace_gone_on.mono (by decide)⟩
  have A_missed := ok_missed (P := P) (w := w) (base := base) F_missed T kT mk_Trace mt_gone_on (c_free_end.mono (by decide)) (c_told_from.mono (by decide)) (c_closed_web.mono (by decide)) (c_ways_on_from.mono (by decide))
  have c_missed : Cal P w K mg base 4 "missed" p_missed spMissed := ⟨_, fd_missed, (He.glo_ok X G (c.fact 15 (f := .glo "missed") rfl)), F_missed.kp, F_missed.bindsN fun _ _ _ _ _ _ us hl => match us, hl with | [_, _, _], _ => rfl, A_missed⟩
  have A_l_told := ok_l_told (P := P) (w := w) (base := base) F_l_told T
  have c_l_told : Cal P w K mg base 1 "_law_told" p_l_told spLTold := ⟨_, fd_l_told, (He.glo_ok X G (c.fact 23 (f := .glo "_law_told") rfl)), F_l_told.kp, F_l_told.bindsN fun _ _ _ _ _ _ us hl => match us, hl with | [_, _], _ => rfl, A_l_told⟩
  have A_l_all_ends := ok_l_all_ends (P := P) (w := w) (base := base) F_l_all_ends T
  have c_l_all_ends : Cal P w K mg base 1 "_law_all_ends" p_l_all_ends spAllEnds := ⟨_, fd_l_all_ends, (He.glo_ok X G (c.fact 25 (f := .glo "_law_all_ends") rfl)), F_l_all_ends.kp, F_l_all_ends.bindsN fun _ _ _ _ _ _ us hl => match us, hl with | [_, _], _ => rfl, A_l_all_ends⟩
  have b_l_pairings : Binds K fd_l_pairings p_l_pairings [] := F_l_pairings.bindsN fun _ _ _ _ _ _ us hl => match us, hl with | [_], _ => rfl
  have A_l_pairings := ok_l_pairings (P := P) (w := w) (base := base) F_l_pairings T (He.glo_ok X G (c.fact 24 (f := .glo "_law_pairings") rfl)) F_l_pairings.kp b_l_pairings
  have c_l_pairings : Cal P w K mg base 10 "_law_pairings" p_l_pairings spPairs := ⟨_, fd_l_pairings, (He.glo_ok X G (c.fact 24 (f := .glo "_law_pairings") rfl)), F_l_pairings.kp, b_l_pairings, A_l_pairings⟩
  have A_l_even := ok_l_even (P := P) (w := w) (base := base) F_l_even T c_l_pairings (c_l_all_ends.mono (by decide)) (c_l_told.mono (by decide))
  have c_l_even : Cal P w K mg base 11 "_law_even" p_l_even spEven := ⟨_, fd_l_even, (He.glo_ok X G (c.fact 26 (f := .glo "_law_even") rfl)), F_l_even.kp, F_l_even.bindsN fun _ _ _ _ _ _ us hl => match us, hl with | [_, _], _ => rfl, A_l_even⟩
  have A_l_box := ok_l_box (P := P) (w := w) (base := base) F_l_box T
  have c_l_box : Cal P w K mg base 1 "_law_box" p_l_box spBox := ⟨_, fd_l_box, (He.glo_ok X G (c.fact 21 (f := .glo "_law_box") rfl)), F_l_box.kp, F_l_box.bindsN fun _ _ _ _ _ _ us hl => match us, hl with | [_, _], _ => rfl, A_l_box⟩
  have A_l_take := ok_l_take (P := P) (w := w) (base := base) F_l_take T
  have c_l_take : Cal P w K mg base 1 "_law_take" p_l_take spTake := ⟨_, fd_l_take, (He.glo_ok X G (c.fact 22 (f := .glo "_law_take") rfl)), F_l_take.kp, F_l_take.bindsN fun _ _ _ _ _ _ us hl => match us, hl with | [_, _], _ => rfl, A_l_take⟩
  have A_l_way := ok_l_way (P := P) (w := w) (base := base) F_l_way T c_l_take
  have c_l_way : Cal P w K mg base 2 "_law_way" p_l_way spLWay := ⟨_, fd_l_way, (He.glo_ok X G (c.fact 28 (f := .glo "_law_way") rfl)), F_l_way.kp, F_l_way.bindsN fun _ _ _ _ _ _ us hl => match us, hl with | [_, _, _], _ => rfl, A_l_way⟩
  have A_l_sizes := ok_l_sizes (P := P) (w := w) (base := base) F_l_sizes T
  have c_l_sizes : Cal P w K mg base 1 "_law_sizes" p_l_sizes spSizes := ⟨_, fd_l_sizes, (He.glo_ok X G (c.fact 27 (f := .glo "_law_sizes") rfl)), F_l_sizes.kp, F_l_sizes.bindsN fun _ _ _ _ _ _ us hl => match us, hl with | [_, _], _ => rfl, A_l_sizes⟩
  have A_l_seen_rooms := ok_l_seen_rooms (P := P) (w := w) (base := base) F_l_seen_rooms T
  have c_l_seen_rooms : Cal P w K mg base 1 "_law_seen_rooms" p_l_seen_rooms spSeen := ⟨_, fd_l_seen_rooms, (He.glo_ok X G (c.fact 29 (f := .glo "_law_seen_rooms") rfl)), F_l_seen_rooms.kp, F_l_seen_rooms.bindsN fun _ _ _ _ _ _ us hl => match us, hl with | [_, _, _], _ => rfl, A_l_seen_rooms⟩
  have A_l_folded := ok_l_folded (P := P) (w := w) (base := base) F_l_folded T c_l_box
  have c_l_folded : Cal P w K mg base 2 "_law_folded" p_l_folded (spFolded K) := ⟨_, fd_l_folded, (He.glo_ok X G (c.fact 30 (f := .glo "_law_folded") rfl)), F_l_folded.kp, F_l_folded.bindsN fun _ _ _ _ _ _ us hl => match us, hl with | [_, _], _ => rfl, A_l_folded⟩
  have A_l_joined := ok_l_joined (P := P) (w := w) (base := base) F_l_joined T
  have c_l_joined : Cal P w K mg base 1 "_law_joined" p_l_joined spJoined := ⟨_, fd_l_joined, (He.glo_ok X G (c.fact 31 (f := .glo "_law_joined") rfl)), F_l_joined.kp, F_l_joined.bindsN fun _ _ _ _ _ _ us hl => match us, hl with | [_], _ => rfl, A_l_joined⟩
  have A_l_doors_put := ok_l_doors_put (P := P) (w := w) (base := base) F_l_doors_put T c_l_take c_l_joined
  have c_l_doors_put : Cal P w K mg base 2 "_law_doors_put" p_l_doors_put spDoors := ⟨_, fd_l_doors_put, (He.glo_ok X G (c.fact 32 (f := .glo "_law_doors_put") rfl)), F_l_doors_put.kp, F_l_doors_put.bindsN fun _ _ _ _ _ _ us hl => match us, hl with | [_, _, _], _ => rfl, A_l_doors_put⟩
  have A_l_even_web := ok_l_even_web (P := P) (w := w) (base := base) F_l_even_web T (c_l_take.mono (by decide)) c_l_doors_put
  have c_l_even_web : Cal P w K mg base 3 "_law_even_web" p_l_even_web spEvenWeb := ⟨_, fd_l_even_web, (He.glo_ok X G (c.fact 33 (f := .glo "_law_even_web") rfl)), F_l_even_web.kp, F_l_even_web.bindsN fun _ _ _ _ _ _ us hl => match us, hl with | [_, _, _], _ => rfl, A_l_even_web⟩
  have A_Walker_init := ok_Walker_init (P := P) (w := w) (base := base) F_Walker_init T kW
  have mk_Walker : Mkr P w K mg base 1 "Walker" (He.ga K "Walker") p_Walker_init (spWkI (He.ga K "Walker")) := ⟨_, fd_Walker_init, (He.glo_ok X G (c.fact 62 (f := .glo "Walker") rfl)), He.mkr_ok (c.fact 64 (f := .mkr "Walker") rfl), F_Walker_init.bindsN fun _ _ _ _ _ _ us hl => match us, hl with | [_, _, _, _], _ => rfl, A_Walker_init⟩
  have A_Walker_here := ok_Walker_here (P := P) (w := w) (base := base) F_Walker_here T kW
  have mt_here : Mth P w K mg base 1 (He.ga K "Walker") "here" p_Walker_here (spWkH (He.ga K "Walker")) := ⟨_, fd_Walker_here, kW.c, He.meth_ok (c.fact 66 (f := .meth "Walker" "here") rfl), F_Walker_here.bindsN fun _ _ _ _ _ _ us hl => match us, hl with | [_], _ => rfl, A_Walker_here⟩
  have A_Walker_go := ok_Walker_go (P := P) (w := w) (base := base) F_Walker_go T kW mt_here
  have mt_go : Mth P w K mg base 2 (He.ga K "Walker") "go" p_Walker_go (spWkG (He.ga K "Walker")) := ⟨_, fd_Walker_go, kW.c, He.meth_ok (c.fact 65 (f := .meth "Walker" "go") rfl), F_Walker_go.bindsN fun _ _ _ _ _ _ us hl => match us, hl with | [_, _], _ => rfl, A_Walker_go⟩
  have A_onlooker := ok_onlooker (P := P) (w := w) (base := base) F_onlooker T kW
  have c_onlooker : Cal P w K mg base 1 "onlooker" p_onlooker (spOnl (He.ga K "Walker")) := ⟨_, fd_onlooker, (He.glo_ok X G (c.fact 20 (f := .glo "onlooker") rfl)), F_onlooker.kp, F_onlooker.bindsN fun _ _ _ _ _ _ us hl => match us, hl with | [_], _ => rfl, A_onlooker⟩
  have A_l_walked := ok_l_walked (P := P) (w := w) (base := base) F_l_walked T kW mk_Walker mt_go (c_onlooker.mono (by decide))
  have c_l_walked : Cal P w K mg base 3 "_law_walked" p_l_walked spWalked := ⟨_, fd_l_walked, (He.glo_ok X G (c.fact 34 (f := .glo "_law_walked") rfl)), F_l_walked.kp, F_l_walked.bindsN fun _ _ _ _ _ _ us hl => match us, hl with | [_, _, _], _ => rfl, A_l_walked⟩
  have A_least_seeing := ok_least_seeing (P := P) (w := w) (base := base) F_least_seeing T c_come_on c_is_all_met
  have c_least_seeing : Cal P w K mg base 2 "least_seeing" p_least_seeing spLeast := ⟨_, fd_least_seeing, (He.glo_ok X G (c.fact 19 (f := .glo "least_seeing") rfl)), F_least_seeing.kp, F_least_seeing.bindsN fun _ _ _ _ _ _ us hl => match us, hl with | [_], _ => rfl, A_least_seeing⟩
  have A_l_grown := ok_l_grown (P := P) (w := w) (base := base) F_l_grown T (c_missed.mono (by decide)) (c_l_walked.mono (by decide)) c_shows_missed (c_least_seeing.mono (by decide))
  have c_l_grown : Cal P w K mg base 6 "_law_grown" p_l_grown spGrown := ⟨_, fd_l_grown, (He.glo_ok X G (c.fact 35 (f := .glo "_law_grown") rfl)), F_l_grown.kp, F_l_grown.bindsN fun _ _ _ _ _ _ us hl => match us, hl with | [_, _, _, _], _ => rfl, A_l_grown⟩
  exact ok_law F_law T (c_l_sizes.mono (by decide)) (c_l_folded.mono (by decide)) (c_l_take.mono (by decide)) (c_l_even.mono (by decide)) (c_l_grown.mono (by decide)) (c_l_way.mono (by decide)) (c_l_seen_rooms.mono (by decide)) (c_l_even_web.mono (by decide)) (c_l_walked.mono (by decide))
end Sw
open PySem PySem.W PySem.Calls PyProof.Rows
theorem PySem.Challenge.cw_stonewalker_k88_whole_seen_or_missed_holds : PySem.Challenge.rw_stonewalker_k88_whole_seen_or_missed.Holds := by
  w_on; o_law
  refine HandSHeadRun.head_any (r := OpenLaw.row PySem.Challenge.rw_stonewalker_k88_whole_seen_or_missed) (q := view (OpenLaw.row PySem.Challenge.rw_stonewalker_k88_whole_seen_or_missed).prog [48]) (H := Sw.hk) (ob := Sw.ob) (M := 20000) (loose := Sw.loose1 ++ Sw.loose2) (d := HandSHeadRun.topDef (OpenLaw.row PySem.Challenge.rw_stonewalker_k88_whole_seen_or_missed).prog 48) (kwd := []) Sw.ob_eq
    (by kernel_rfl) (fun s => by kernel_rfl) Sw.run (by kernel_rfl) (by kernel_rfl) (by kernel_rfl) (by rfl) (by first | assumption | decide +kernel) (by decide +kernel) ⟨rfl, rfl, rfl, rfl, rfl, by decide +kernel⟩ ?hw ?hc
  case hw => w_witness2
  case hc =>
    refine L2.walk_ofE (l := PySem.Challenge.rw_stonewalker_k88_whole_seen_or_missed) (n := 63) (k := 13) (x := "_law_script") (CX := L2.CX0) rfl (by decide) (by kernel_rfl) ⟨rfl, by decide, by decide⟩ ?F (fun _ _ _ _ z => z)
    intro w mg fa h Y G hmg0
    obtain ⟨K, KX, c⟩ := Y
    have hmg : mg ("law" : PySem.Str) = some (.ref fa) := by
      have e : (HandSHeadRun.topDef (OpenLaw.row PySem.Challenge.rw_stonewalker_k88_whole_seen_or_missed).prog 48).name = ("law" : PySem.Str) := by kernel_rfl
      rw [← e]
      exact hmg0
    obtain ⟨fd, hb, hF⟩ := Sw.facts (P := (PySem.Challenge.rw_stonewalker_k88_whole_seen_or_missed).prog) (w := w) KX G hmg c
    exact ⟨K, fd, Sw.spLaw K, KX, hb, fun H a ns hl _ hS => ⟨a, ns, rfl, hS, hl, fun _ => rfl⟩, hF⟩

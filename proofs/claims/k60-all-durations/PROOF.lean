import PyProof.Rows.All
import Wide.All
import OpenK.AllK
import Wide.FinOn
import KE.KStateDown
import Lean
import HandS.ForMost
import HandS.Defaults
import HandS.Head0
import HandS.Head1
import HandS.Head2
import HandS.HeadEnd
import HandS.HeadHook1
import HandS.HeadHook2
import PySem.Challenge.RW_anycritical_k60_whole_all_durations_trie
import HandS.TupAny
import HandS.Deep
import HandS.Conv
import HandS.Zip
import HandS.IsInst
import KE.KSortTup
import HandS.SortOrd
import HandS.SortRule
import HandS.TupSets
import HandS.Flt
import KE.GoesMore
import KE.GoesEnum
import KE.KDictZip
set_option Elab.async false
set_option linter.all false
set_option maxRecDepth 100000
set_option maxHeartbeats 0
namespace AC
open PySem PySem.Spec PyProof.Rows L2
def top (i : Nat) : Stmt := PySem.Challenge.pw_anycritical_k60_whole_all_durations_trie.main.body.getD i (.Pass ⟨0, 0, 0, 0⟩)

abbrev s_before : Stmt := top 1
abbrev s_behind : Stmt := top 2
abbrev s_heads : Stmt := top 4
abbrev s_tails : Stmt := top 5
abbrev s_whole_paths : Stmt := top 6
abbrev s_through : Stmt := top 7
abbrev s_around : Stmt := top 8
abbrev s_length : Stmt := top 9
abbrev s_longest : Stmt := top 10
abbrev s_lows : Stmt := top 12
abbrev s_raised : Stmt := top 13
abbrev s_greatest : Stmt := top 14
abbrev s_difference_of : Stmt := top 15
abbrev s_end_range : Stmt := top 17
abbrev s_start_range : Stmt := top 18
abbrev s_latest_range : Stmt := top 19
abbrev s_slack_range : Stmt := top 20
abbrev s_walk : Stmt := top 21
abbrev s_find_slack : Stmt := top 22
abbrev s_difference_range : Stmt := top 24
abbrev s_find_later : Stmt := top 25
abbrev s_never_later : Stmt := top 26
abbrev s_find_little : Stmt := top 28
abbrev s_find_much : Stmt := top 30
abbrev s_without : Stmt := top 32
abbrev s_find_change : Stmt := top 33
abbrev s_needless_arrows : Stmt := top 34
abbrev s_distance_range : Stmt := top 36
abbrev s_find_after : Stmt := top 37
abbrev s_never_after : Stmt := top 38
abbrev s_firsts : Stmt := top 39
abbrev s_word_for : Stmt := top 44
abbrev s_status_of : Stmt := top 45
abbrev s_status : Stmt := top 46
abbrev s_find_pivotal : Stmt := top 47
abbrev s_find_not_pivotal : Stmt := top 48
abbrev s_pivotal_status : Stmt := top 49
abbrev s__law_open : Stmt := top 51
abbrev s__law_spread : Stmt := top 52
abbrev s__law_take : Stmt := top 53
abbrev s__law_one_of : Stmt := top 54
abbrev s__law_draw_bounds : Stmt := top 55
abbrev s__law_draw_project : Stmt := top 56
abbrev s__law_draw_small : Stmt := top 57
abbrev s__law_all_durations : Stmt := top 58
abbrev s__law_starts : Stmt := top 59
abbrev s__law_rests : Stmt := top 60
abbrev s__law_slacks : Stmt := top 61
abbrev s__law_is_integer : Stmt := top 62
abbrev s__law_fits : Stmt := top 63
abbrev s__law_is_whole : Stmt := top 64
abbrev s__law_paths : Stmt := top 65
abbrev s__law_ends_of : Stmt := top 66
abbrev s__law_task_right : Stmt := top 67
abbrev s__law_is_later : Stmt := top 68
abbrev s__law_pivots : Stmt := top 69
abbrev s__law_pairs_right : Stmt := top 70
abbrev s__law_other_right : Stmt := top 71
abbrev s__law_arrows_right : Stmt := top 72
abbrev s_law : Stmt := top 73
abbrev FnP (K : PySem.W.Frag) (x : Str) (st : Stmt) (f : Addr) (fd : FuncData) : Prop := FunD K x x (defArgs st) (defBody st) (defScope st) [] [] f fd
def dd (x : Str) (st : Stmt) : He.DefD := ⟨(x, none), x, x, defArgs st, defBody st, defScope st, [], []⟩
def fns : List He.DefD := [dd "before" s_before,
  dd "behind" s_behind,
  dd "heads" s_heads,
  dd "tails" s_tails,
  dd "whole_paths" s_whole_paths,
  dd "through" s_through,
  dd "around" s_around,
  dd "length" s_length,
  dd "longest" s_longest,
  dd "lows" s_lows,
  dd "raised" s_raised,
  dd "greatest" s_greatest,
  dd "difference_of" s_difference_of,
  dd "end_range" s_end_range,
  dd "start_range" s_start_range,
  dd "latest_range" s_latest_range,
  dd "slack_range" s_slack_range,
  dd "walk" s_walk,
  dd "find_slack" s_find_slack,
  dd "difference_range" s_difference_range,
  dd "find_later" s_find_later,
  dd "never_later" s_never_later,
  dd "find_little" s_find_little,
  dd "find_much" s_find_much,
  dd "without" s_without,
  dd "find_change" s_find_change,
  dd "needless_arrows" s_needless_arrows,
  dd "distance_range" s_distance_range,
  dd "find_after" s_find_after,
  dd "never_after" s_never_after,
  dd "firsts" s_firsts,
  dd "word_for" s_word_for,
  dd "status_of" s_status_of,
  dd "status" s_status,
  dd "find_pivotal" s_find_pivotal,
  dd "find_not_pivotal" s_find_not_pivotal,
  dd "pivotal_status" s_pivotal_status,
  dd "_law_open" s__law_open,
  dd "_law_spread" s__law_spread,
  dd "_law_take" s__law_take,
  dd "_law_one_of" s__law_one_of,
  dd "_law_draw_bounds" s__law_draw_bounds,
  dd "_law_draw_project" s__law_draw_project,
  dd "_law_draw_small" s__law_draw_small,
  dd "_law_all_durations" s__law_all_durations,
  dd "_law_starts" s__law_starts,
  dd "_law_rests" s__law_rests,
  dd "_law_slacks" s__law_slacks,
  dd "_law_is_integer" s__law_is_integer,
  dd "_law_fits" s__law_fits,
  dd "_law_is_whole" s__law_is_whole,
  dd "_law_paths" s__law_paths,
  dd "_law_ends_of" s__law_ends_of,
  dd "_law_task_right" s__law_task_right,
  dd "_law_is_later" s__law_is_later,
  dd "_law_pivots" s__law_pivots,
  dd "_law_pairs_right" s__law_pairs_right,
  dd "_law_other_right" s__law_other_right,
  dd "_law_arrows_right" s__law_arrows_right,
  dd "law" s_law]
def fas : List He.Fa := [.glo "before",
  .glo "behind",
  .glo "heads",
  .glo "tails",
  .glo "whole_paths",
  .glo "through",
  .glo "around",
  .glo "length",
  .glo "longest",
  .glo "lows",
  .glo "raised",
  .glo "greatest",
  .glo "difference_of",
  .glo "end_range",
  .glo "start_range",
  .glo "latest_range",
  .glo "slack_range",
  .glo "walk",
  .glo "find_slack",
  .glo "difference_range",
  .glo "find_later",
  .glo "never_later",
  .glo "find_little",
  .glo "find_much",
  .glo "without",
  .glo "find_change",
  .glo "needless_arrows",
  .glo "distance_range",
  .glo "find_after",
  .glo "never_after",
  .glo "firsts",
  .glo "word_for",
  .glo "status_of",
  .glo "status",
  .glo "find_pivotal",
  .glo "find_not_pivotal",
  .glo "pivotal_status",
  .glo "_law_open",
  .glo "_law_spread",
  .glo "_law_take",
  .glo "_law_one_of",
  .glo "_law_draw_bounds",
  .glo "_law_draw_project",
  .glo "_law_draw_small",
  .glo "_law_all_durations",
  .glo "_law_starts",
  .glo "_law_rests",
  .glo "_law_slacks",
  .glo "_law_is_integer",
  .glo "_law_fits",
  .glo "_law_is_whole",
  .glo "_law_paths",
  .glo "_law_ends_of",
  .glo "_law_task_right",
  .glo "_law_is_later",
  .glo "_law_pivots",
  .glo "_law_pairs_right",
  .glo "_law_other_right",
  .glo "_law_arrows_right",
  .glo "law",
  .free "range",
  .free "set",
  .free "list",
  .free "bool",
  .free "isinstance",
  .free "enumerate",
  .free "max",
  .free "min",
  .free "len",
  .free "int",
  .free "tuple",
  .free "sum",
  .free "sorted",
  .free "zip",
  .str "ALWAYS" "always",
  .str "SOMETIMES" "sometimes",
  .str "NEVER" "never"]
abbrev R : PySem.W.OpenRow := PySem.W.OpenLaw.row PySem.Challenge.rw_anycritical_k60_whole_all_durations_trie
abbrev hk : PySem.W.Hook := He.hookD 4 fas fns
def ob (s : PySem.W.SharedT) : He.AlD := He.obsDG 4 fas fns (HandSHeadRun.getT s)
theorem ob_eq (s : PySem.W.SharedT) : ob s = hk.obs s.abs := He.obsDG_eq (HandSHeadRun.getT_eq s)
def loose1 : List Str := ["before", "behind", "heads", "tails", "whole_paths", "through", "around", "length", "longest", "lows", "raised", "greatest", "difference_of", "end_range", "start_range", "latest_range", "slack_range", "walk", "find_slack", "difference_range", "find_later", "never_later", "find_little", "find_much", "without", "find_change", "needless_arrows", "distance_range", "find_after", "never_after", "firsts"]
def loose2 : List Str := ["word_for", "status_of", "status", "find_pivotal", "find_not_pivotal", "pivotal_status", "_law_open", "_law_spread", "_law_take", "_law_one_of", "_law_draw_bounds", "_law_draw_project", "_law_draw_small", "_law_all_durations", "_law_starts", "_law_rests", "_law_slacks", "_law_is_integer", "_law_fits", "_law_is_whole", "_law_paths", "_law_ends_of", "_law_task_right", "_law_is_later", "_law_pivots", "_law_pairs_right", "_law_other_right", "_law_arrows_right", "ALWAYS", "SOMETIMES", "NEVER"]
theorem run (w : World) : HandSHeadRun.RunEq R (PySem.W.view R.prog [73]) hk ob 2000 (loose1 ++ loose2) w := by
  intro os
  kernel_rfl
end AC
set_option Elab.async false
set_option linter.all false
set_option maxRecDepth 100000
set_option maxHeartbeats 1000000
/-! A calculus of plain data over the layer: what an expression or a statement does, told by data alone. -/
namespace AC
open PySem PySem.Spec PyProof.Rows L2

/-! ### data in the heap -/
mutual
inductive Rp (H : Hp) : V → PyData → Prop
  | non : Rp H .non .none
  | bl (b : Bool) : Rp H (.bl b) (.bool b)
  | int (i : Int) : Rp H (.int i) (.int i)
  | str (x : Str) : Rp H (.str x) (.str x)
  | lst {a : Addr} {xs : List V} {ds : List PyData} : H a = some (.lst xs) → RpAll H xs ds → Rp H (.ref a) (.list ds)
  | tup {a : Addr} {xs : List V} {ds : List PyData} : H a = some (.tup xs) → RpAll H xs ds → Rp H (.ref a) (.tuple ds)
inductive RpAll (H : Hp) : List V → List PyData → Prop
  | nil : RpAll H [] []
  | cons {v : V} {vs : List V} {d : PyData} {ds : List PyData} : Rp H v d → RpAll H vs ds → RpAll H (v :: vs) (d :: ds)
end
mutual
theorem Rp.mono {H H' : Hp} (e : Same H H') : ∀ (d : PyData) (v : V), Rp H v d → Rp H' v d
  | .none, _, h => by cases h; exact .non
  | .bool b, _, h => by cases h; exact .bl b
  | .int i, _, h => by cases h; exact .int i
  | .str x, _, h => by cases h; exact .str x
  | .list ds, _, h => by
    cases h with
    | lst h1 h2 => exact .lst (e _ _ h1) (RpAll.mono e ds _ h2)
  | .tuple ds, _, h => by
    cases h with
    | tup h1 h2 => exact .tup (e _ _ h1) (RpAll.mono e ds _ h2)
  | .dict _, _, h => by cases h
theorem RpAll.mono {H H' : Hp} (e : Same H H') : ∀ (ds : List PyData) (vs : List V), RpAll H vs ds → RpAll H' vs ds
  | [], _, h => by cases h; exact .nil
  | d :: ds, _, h => by
    cases h with
    | cons h1 h2 => exact .cons (Rp.mono e d _ h1) (RpAll.mono e ds _ h2)
end
mutual
theorem Rp.dp {K : PySem.W.Frag} {H : Hp} : ∀ (d : PyData) (v : V), Rp H v d → Dp K H v d
  | .none, _, h => by cases h; exact .non
  | .bool b, _, h => by cases h; exact .bl b
  | .int i, _, h => by cases h; exact .int i
  | .str x, _, h => by cases h; exact .str x
  | .list ds, _, h => by
    cases h with
    | lst h1 h2 => exact .lst (SqL.of h1) (RpAll.dp ds _ h2)
  | .tuple ds, _, h => by
    cases h with
    | tup h1 h2 => exact .tup (SqT.of h1) (RpAll.dp ds _ h2)
  | .dict _, _, h => by cases h
theorem RpAll.dp {K : PySem.W.Frag} {H : Hp} : ∀ (ds : List PyData) (vs : List V), RpAll H vs ds → DpAll K H vs ds
  | [], _, h => by cases h; exact .nil
  | d :: ds, _, h => by
    cases h with
    | cons h1 h2 => exact .cons (Rp.dp d _ h1) (RpAll.dp ds _ h2)
end
section
variable {H : Hp} {v : V} {vs ws : List V} {d : PyData} {ds es : List PyData}
theorem RpAll.length : ∀ {ds : List PyData} {vs : List V}, RpAll H vs ds → vs.length = ds.length
  | [], _, h => by cases h; rfl
  | d :: ds, _, h => by
    cases h with
    | cons h1 h2 => exact congrArg Nat.succ (RpAll.length h2)
theorem RpAll.get : ∀ {ds : List PyData} {vs : List V} {i : Nat} {d : PyData}, RpAll H vs ds → ds[i]? = some d → ∃ v, vs[i]? = some v ∧ Rp H v d
  | [], _, i, d, h, e => by simp at e
  | d :: ds, _, 0, d', h, e => by
    cases h with
    | cons h1 h2 =>
      have e' : d = d' := Option.some.inj e
      subst e'
      exact ⟨_, rfl, h1⟩
  | d :: ds, _, i + 1, d', h, e => by
    cases h with
    | cons h1 h2 => exact RpAll.get (i := i) h2 e
theorem RpAll.append : ∀ {ds es : List PyData} {vs ws : List V}, RpAll H vs ds → RpAll H ws es → RpAll H (vs ++ ws) (ds ++ es)
  | [], _, _, _, h, k => by cases h; exact k
  | d :: ds, _, _, _, h, k => by
    cases h with
    | cons h1 h2 => exact .cons h1 (RpAll.append h2 k)
theorem RpAll.one (h : Rp H v d) : RpAll H [v] [d] := .cons h .nil
theorem RpAll.take : ∀ {ds : List PyData} {vs : List V} (n : Nat), RpAll H vs ds → RpAll H (vs.take n) (ds.take n)
  | _, _, 0, _ => .nil
  | [], _, _ + 1, h => by cases h; exact .nil
  | d :: ds, _, n + 1, h => by
    cases h with
    | cons h1 h2 => exact .cons h1 (RpAll.take n h2)
theorem RpAll.drop : ∀ {ds : List PyData} {vs : List V} (n : Nat), RpAll H vs ds → RpAll H (vs.drop n) (ds.drop n)
  | _, _, 0, h => h
  | [], _, _ + 1, h => by cases h; exact .nil
  | d :: ds, _, n + 1, h => by
    cases h with
    | cons h1 h2 => exact RpAll.drop n h2
theorem RpAll.set : ∀ {ds : List PyData} {vs : List V} (i : Nat), Rp H v d → RpAll H vs ds → RpAll H (vs.set i v) (ds.set i d)
  | [], _, _, _, h => by cases h; exact .nil
  | _ :: _, _, 0, k, h => by
    cases h with
    | cons h1 h2 => exact .cons k h2
  | _ :: _, _, i + 1, k, h => by
    cases h with
    | cons h1 h2 => exact .cons h1 (RpAll.set i k h2)
theorem Rp.list (h : Rp H v (.list ds)) : ∃ a xs, v = .ref a ∧ H a = some (.lst xs) ∧ RpAll H xs ds := by
  cases h with
  | lst h1 h2 => exact ⟨_, _, rfl, h1, h2⟩
theorem Rp.tuple (h : Rp H v (.tuple ds)) : ∃ a xs, v = .ref a ∧ H a = some (.tup xs) ∧ RpAll H xs ds := by
  cases h with
  | tup h1 h2 => exact ⟨_, _, rfl, h1, h2⟩
theorem Rp.int' {i : Int} (h : Rp H v (.int i)) : v = .int i := by cases h; rfl
theorem Rp.bool' {b : Bool} (h : Rp H v (.bool b)) : v = .bl b := by cases h; rfl
theorem Rp.none' (h : Rp H v .none) : v = .non := by cases h; rfl
theorem Rp.str' {x : Str} (h : Rp H v (.str x)) : v = .str x := by cases h; rfl
theorem RpAll.ints : ∀ {ns : List Int} {vs : List V}, RpAll H vs (ns.map PyData.int) → vs = ns.map V.int
  | [], _, h => by cases h; rfl
  | n :: ns, _, h => by
    cases h with
    | cons h1 h2 =>
      rw [h1.int', RpAll.ints h2] <;> rfl
theorem RpAll.ofInts : ∀ (ns : List Int), RpAll H (ns.map V.int) (ns.map PyData.int)
  | [] => .nil
  | n :: ns => .cons (.int n) (RpAll.ofInts ns)
theorem RpAll.bools : ∀ {bs : List Bool} {vs : List V}, RpAll H vs (bs.map PyData.bool) → vs = bs.map V.bl
  | [], _, h => by cases h; rfl
  | n :: ns, _, h => by
    cases h with
    | cons h1 h2 =>
      rw [h1.bool', RpAll.bools h2] <;> rfl
end

/-! ### data without lists -/
mutual
def flat : PyData → Bool
  | .list _ => false
  | .dict _ => false
  | .tuple ds => flatAll ds
  | _ => true
def flatAll : List PyData → Bool
  | [] => true
  | d :: ds => flat d && flatAll ds
end

/-! ### the part of the heap that no one here may change -/
def mask (X : Addr → Bool) (H : Hp) : Hp := fun b => if X b = true then none else H b
def ins (o : Addr) (X : Addr → Bool) : Addr → Bool := fun b => b == o || X b
theorem ins_self {o : Addr} {X : Addr → Bool} : ins o X o = true := by unfold ins; simp
theorem ins_old {o b : Addr} {X : Addr → Bool} (h : X b = true) : ins o X b = true := by unfold ins; rw [h]; simp
theorem ins_ne {o b : Addr} {X : Addr → Bool} (h : b ≠ o) : ins o X b = X b := by
  unfold ins
  have e : (b == o) = false := beq_eq_false_iff_ne.mpr h
  rw [e, Bool.false_or]
theorem mask_some {X : Addr → Bool} {H : Hp} {b : Addr} {o : HO} (h : mask X H b = some o) : X b = false ∧ H b = some o := by
  unfold mask at h
  by_cases hx : X b = true
  · rw [if_pos hx] at h; cases h
  · rw [if_neg hx] at h; exact ⟨Bool.eq_false_iff.mpr hx, h⟩
theorem mask_of {X : Addr → Bool} {H : Hp} {b : Addr} {o : HO} (h : X b = false) (e : H b = some o) : mask X H b = some o := by
  unfold mask
  rw [if_neg (by rw [h]; decide)]
  exact e
theorem mask_same {X : Addr → Bool} {H H' : Hp} (e : Same H H') : Same (mask X H) (mask X H') := fun b o h => by
  obtain ⟨h1, h2⟩ := mask_some h
  exact mask_of h1 (e _ _ h2)
theorem mask_sub {X Y : Addr → Bool} {H : Hp} (s : ∀ b, Y b = true → X b = true) : Same (mask X H) (mask Y H) := fun b o h => by
  obtain ⟨h1, h2⟩ := mask_some h
  refine mask_of ?_ h2
  cases q : Y b with
  | false => rfl
  | true => rw [s b q] at h1; cases h1
theorem mask_le {X : Addr → Bool} {H : Hp} : Same (mask X H) H := fun b o h => (mask_some h).2
/-- a tracked thing of X may change, X's part is out of sight -/
theorem mask_upd {X : Addr → Bool} {H : Hp} {o : Addr} {u : HO} (h : X o = true) : mask X (upd H o u) = mask X H := by
  funext b
  unfold mask
  by_cases hx : X b = true
  · rw [if_pos hx, if_pos hx]
  · rw [if_neg hx, if_neg hx]
    exact upd_ne (fun e => hx (e ▸ h))
/-- a new thing put out of sight -/
theorem mask_ins {X : Addr → Bool} {H : Hp} {o : Addr} {u : HO} (h : H o = none) : mask (ins o X) (upd H o u) = mask X H := by
  funext b
  by_cases hb : b = o
  · subst hb
    unfold mask
    rw [if_pos ins_self, h]
    split <;> rfl
  · unfold mask
    rw [ins_ne hb, upd_ne hb]
mutual
theorem Rp.hide {X Y : Addr → Bool} {H : Hp} (hY : ∀ b, Y b = true → ∃ xs, H b = some (.lst xs)) : ∀ (d : PyData) (v : V), flat d = true → Rp (mask X H) v d → Rp (mask Y H) v d
  | .none, _, _, h => by cases h; exact .non
  | .bool b, _, _, h => by cases h; exact .bl b
  | .int i, _, _, h => by cases h; exact .int i
  | .str x, _, _, h => by cases h; exact .str x
  | .list ds, _, f, h => by cases f
  | .tuple ds, _, f, h => by
    cases h with
    | @tup a xs ds h1 h2 =>
      obtain ⟨h3, h4⟩ := mask_some h1
      refine .tup (mask_of ?_ h4) (RpAll.hide hY ds _ f h2)
      cases q : Y a with
      | false => rfl
      | true =>
        obtain ⟨ys, e⟩ := hY a q
        rw [h4] at e
        cases e
  | .dict _, _, _, h => by cases h
theorem RpAll.hide {X Y : Addr → Bool} {H : Hp} (hY : ∀ b, Y b = true → ∃ xs, H b = some (.lst xs)) : ∀ (ds : List PyData) (vs : List V), flatAll ds = true → RpAll (mask X H) vs ds → RpAll (mask Y H) vs ds
  | [], _, _, h => by cases h; exact .nil
  | d :: ds, _, f, h => by
    cases h with
    | cons h1 h2 =>
      obtain ⟨f1, f2⟩ := Bool.and_eq_true_iff.mp (show (flat d && flatAll ds) = true from f)
      exact .cons (Rp.hide hY d _ f1 h1) (RpAll.hide hY ds _ f2 h2)
end

/-! ### the pen: a list that defs may change; its cells stand still -/
structure Pen where
  o : Addr
  c : Addr
  cs : List Int
def PenAt (X : Addr → Bool) (H : Hp) (p : Pen) (n : Nat) : Prop := ∃ a v : Int, H p.o = some (.lst [.ref p.c, .int a, .int v]) ∧ mask X H p.c = some (.lst (p.cs.map V.int)) ∧ p.cs.length ≤ 12 ∧ 0 ≤ a ∧ a ≤ n
structure Wd (pn : Option Pen) (X : Addr → Bool) (H : Hp) (n : Nat) : Prop where
  tr : ∀ b, X b = true → ∃ xs, H b = some (.lst xs)
  pen : ∀ p, pn = some p → X p.o = true ∧ PenAt X H p n
def Xt (pn : Option Pen) (H H' : Hp) : Prop := ∀ b u, (∀ p, pn = some p → p.o ≠ b) → H b = some u → H' b = some u
section
variable {pn : Option Pen} {X X0 : Addr → Bool} {H H' H2 H0 : Hp} {n n' : Nat} {σ : L2.St}
theorem Xt.refl : Xt pn H H := fun _ _ _ h => h
theorem Xt.trans (a : Xt pn H H') (b : Xt pn H' H2) : Xt pn H H2 := fun c u h e => b c u h (a c u h e)
theorem Xt.of (e : Same H H') : Xt pn H H' := fun b u _ h => e b u h
theorem Xt.mask (w : Wd pn X H n) (e : Xt pn H H') : Same (mask X H) (mask X H') := fun b u h => by
  obtain ⟨h1, h2⟩ := mask_some h
  refine mask_of h1 (e b u (fun p q z => ?_) h2)
  have h3 := (w.pen p q).1
  rw [z, h1] at h3
  cases h3
theorem Wd.same (w : Wd pn X H n) (e : Same H H') : Wd pn X H' n where
  tr := fun b h => by obtain ⟨xs, q⟩ := w.tr b h; exact ⟨xs, e _ _ q⟩
  pen := fun p q => by
    obtain ⟨h1, a, v, h2, h3, h4, h5, h6⟩ := w.pen p q
    exact ⟨h1, a, v, e _ _ h2, mask_same e _ _ h3, h4, h5, h6⟩
theorem Wd.le (w : Wd pn X H n) (h : n ≤ n') : Wd pn X H n' where
  tr := w.tr
  pen := fun p q => by
    obtain ⟨h1, a, v, h2, h3, h4, h5, h6⟩ := w.pen p q
    exact ⟨h1, a, v, h2, h3, h4, h5, Int.le_trans h6 (by omega)⟩
theorem Wd.fresh (w : Wd pn X H n) {o : Addr} (h : H o = none) : X o = false := by
  cases q : X o with
  | false => rfl
  | true =>
    obtain ⟨xs, e⟩ := w.tr o q
    rw [h] at e
    cases e
theorem Xt.fresh (w : Wd pn X H n) (e : Xt pn H0 H) {o : Addr} (h : H o = none) : H0 o = none := by
  cases q : H0 o with
  | none => rfl
  | some u =>
    rw [e o u (fun p hp z => by
      obtain ⟨_, a, v, h2, _⟩ := w.pen p hp
      rw [z, h] at h2
      cases h2) q] at h
    cases h
/-- the world with less, or more, out of sight -/
theorem Wd.sub (w : Wd pn X H n) (s : ∀ b, X0 b = true → X b = true) (hp : ∀ p, pn = some p → X0 p.o = true) : Wd pn X0 H n where
  tr := fun b h => w.tr b (s b h)
  pen := fun p q => by
    obtain ⟨h1, a, v, h2, h3, h4⟩ := w.pen p q
    exact ⟨hp p q, a, v, h2, mask_sub s _ _ h3, h4⟩
theorem Wd.back (w : Wd pn X H n) (w2 : Wd pn X0 H' n') (e : Xt pn H H') : Wd pn X H' n' where
  tr := fun b h => by
    obtain ⟨xs, q⟩ := w.tr b h
    by_cases hb : ∃ p, pn = some p ∧ p.o = b
    · obtain ⟨p, hp, rfl⟩ := hb
      obtain ⟨_, a, v, h2, _⟩ := w2.pen p hp
      exact ⟨_, h2⟩
    · exact ⟨xs, e b _ (fun p hp z => hb ⟨p, hp, z⟩) q⟩
  pen := fun p q => by
    obtain ⟨h1, _, _, _, h3, _⟩ := w.pen p q
    obtain ⟨_, a, v, h2, _, h4⟩ := w2.pen p q
    refine ⟨h1, a, v, h2, ?_, h4⟩
    exact Xt.mask w e _ _ h3
theorem Wd.ins (w : Wd pn X H n) (w2 : Wd pn X H' n') {o : Addr} {xs : List V} (h : H o = none) (e : H' o = some (.lst xs)) : Wd pn (ins o X) H' n' where
  tr := fun b hb => by
    by_cases z : b = o
    · rw [z]; exact ⟨xs, e⟩
    · rw [ins_ne z] at hb; exact w2.tr b hb
  pen := fun p q => by
    obtain ⟨h1, a, v, h2, h3, h4⟩ := w2.pen p q
    refine ⟨ins_old h1, a, v, h2, ?_, h4⟩
    obtain ⟨g1, g2⟩ := mask_some h3
    refine mask_of ?_ g2
    rw [ins_ne]
    · exact g1
    · intro z
      obtain ⟨_, _, _, _, k3, _⟩ := w.pen p q
      obtain ⟨_, k4⟩ := mask_some k3
      rw [z, h] at k4
      cases k4
/-- a change of what is out of sight (not the pen) -/
theorem Wd.upd (w : Wd pn X H n) {o : Addr} {xs : List V} (h : X o = true) (hp : ∀ p, pn = some p → p.o ≠ o) : Wd pn X (upd H o (.lst xs)) n where
  tr := fun b hb => by
    by_cases z : b = o
    · rw [z]; exact ⟨xs, upd_same⟩
    · rw [upd_ne z]; exact w.tr b hb
  pen := fun p q => by
    obtain ⟨h1, a, v, h2, h3, h4⟩ := w.pen p q
    refine ⟨h1, a, v, ?_, ?_, h4⟩
    · rw [upd_ne (hp p q)]; exact h2
    · rw [mask_upd h]; exact h3
end

/-! ### the slots, by data -/
inductive Sl where
  | un | dat (d : PyData) | own (ds : List PyData) | pen
abbrev En := List Sl
def SlOk (pn : Option Pen) (X0 X : Addr → Bool) (H : Hp) (s : Option V) : Sl → Prop
  | .un => True
  | .dat d => ∃ v, s = some v ∧ Rp (mask X H) v d
  | .own ds => ∃ o vs, s = some (.ref o) ∧ X o = true ∧ X0 o = false ∧ (∀ p, pn = some p → p.o ≠ o) ∧ H o = some (.lst vs) ∧ RpAll (mask X H) vs ds
  | .pen => ∃ p, pn = some p ∧ s = some (.ref p.o)
structure Rel (pn : Option Pen) (X0 X : Addr → Bool) (H : Hp) (σ : L2.St) (ρ : En) : Prop where
  sub : ∀ b, X0 b = true → X b = true
  pn0 : ∀ p, pn = some p → X0 p.o = true
  len : σ.length = ρ.length
  slot : ∀ (i : Nat) (s : Sl), ρ[i]? = some s → ∃ x, σ[i]? = some x ∧ SlOk pn X0 X H x s
  apart : ∀ (i j : Nat) (o : Addr) (ds es : List PyData), i ≠ j → ρ[i]? = some (.own ds) → ρ[j]? = some (.own es) → σ[i]? = some (some (.ref o)) → σ[j]? = some (some (.ref o)) → False
section
variable {pn : Option Pen} {X X' X0 : Addr → Bool} {H H' H2 H0 : Hp} {n n' : Nat} {σ : L2.St} {ρ : En} {d : PyData} {ds : List PyData} {v : V} {i j : Nat}
theorem Rel.mono (r : Rel pn X0 X H σ ρ) (w : Wd pn X H n) (e : Xt pn H H') : Rel pn X0 X H' σ ρ where
  sub := r.sub
  pn0 := r.pn0
  len := r.len
  slot := fun i s h => by
    obtain ⟨x, h1, h2⟩ := r.slot i s h
    refine ⟨x, h1, ?_⟩
    cases s with
    | un => trivial
    | dat d => obtain ⟨v, e1, e2⟩ := h2; exact ⟨v, e1, Rp.mono (Xt.mask w e) _ _ e2⟩
    | own ds =>
      obtain ⟨o, vs, e1, e2, e3, e4, e5, e6⟩ := h2
      exact ⟨o, vs, e1, e2, e3, e4, e o _ e4 e5, RpAll.mono (Xt.mask w e) _ _ e6⟩
    | pen => exact h2
  apart := r.apart
theorem Rel.set (r : Rel pn X0 X H σ ρ) (h : Rp (mask X H) v d) (i : Nat) : Rel pn X0 X H (σ.set i (some v)) (ρ.set i (.dat d)) where
  sub := r.sub
  pn0 := r.pn0
  len := by rw [List.length_set, List.length_set]; exact r.len
  slot := fun j s e => by
    by_cases hj : i = j
    · subst hj
      have hl : i < ρ.length := by
        have := (List.getElem?_eq_some_iff.mp e).1
        rw [List.length_set] at this
        exact this
      rw [List.getElem?_set_self hl] at e
      cases e
      exact ⟨some v, List.getElem?_set_self (by rw [r.len]; exact hl), v, rfl, h⟩
    · rw [List.getElem?_set_ne hj] at e ⊢
      exact r.slot j s e
  apart := fun a b o es fs hab e1 e2 g1 g2 => by
    by_cases ha : i = a
    · subst ha
      have hl : i < ρ.length := by
        have := (List.getElem?_eq_some_iff.mp e1).1
        rw [List.length_set] at this
        exact this
      rw [List.getElem?_set_self hl] at e1
      cases e1
    · by_cases hb : i = b
      · subst hb
        have hl : i < ρ.length := by
          have := (List.getElem?_eq_some_iff.mp e2).1
          rw [List.length_set] at this
          exact this
        rw [List.getElem?_set_self hl] at e2
        cases e2
      · rw [List.getElem?_set_ne ha] at e1 g1
        rw [List.getElem?_set_ne hb] at e2 g2
        exact r.apart a b o es fs hab e1 e2 g1 g2
/-- a new list becomes an owned one -/
theorem Rel.own (r : Rel pn X0 X H σ ρ) (w : Wd pn X H n) {o : Addr} {vs : List V} (h : H o = none) (e : Xt pn H H') (w2 : Wd pn X H' n') (ho : H' o = some (.lst vs)) (ha : RpAll (mask (ins o X) H') vs ds) (i : Nat) :
    Rel pn X0 (ins o X) H' (σ.set i (some (.ref o))) (ρ.set i (.own ds)) := by
  have nX : X o = false := w.fresh h
  have n0 : X0 o = false := by
    cases q : X0 o with
    | false => rfl
    | true => rw [r.sub o q] at nX; cases nX
  have np : ∀ p, pn = some p → p.o ≠ o := fun p hp z => by
    have := (w.pen p hp).1
    rw [z, nX] at this
    cases this
  have sm : Same (mask X H) (mask (ins o X) H') := fun b u q => by
    have q2 := Xt.mask w e b u q
    obtain ⟨q3, q4⟩ := mask_some q2
    refine mask_of ?_ q4
    rw [ins_ne]
    · exact q3
    · intro z
      obtain ⟨_, q5⟩ := mask_some q
      rw [z, h] at q5
      cases q5
  refine ⟨fun b hb => ins_old (r.sub b hb), r.pn0, by rw [List.length_set, List.length_set]; exact r.len, fun j s q => ?_, fun a b c es fs hab e1 e2 g1 g2 => ?_⟩
  · by_cases hj : i = j
    · subst hj
      have hl : i < ρ.length := by
        have := (List.getElem?_eq_some_iff.mp q).1
        rw [List.length_set] at this
        exact this
      rw [List.getElem?_set_self hl] at q
      cases q
      exact ⟨_, List.getElem?_set_self (by rw [r.len]; exact hl), o, vs, rfl, ins_self, n0, np, ho, ha⟩
    · rw [List.getElem?_set_ne hj] at q ⊢
      obtain ⟨x, h1, h2⟩ := r.slot j s q
      refine ⟨x, h1, ?_⟩
      cases s with
      | un => trivial
      | dat d => obtain ⟨v, e1, e2⟩ := h2; exact ⟨v, e1, Rp.mono sm _ _ e2⟩
      | own ds =>
        obtain ⟨o', vs', e1, e2, e3, e4, e5, e6⟩ := h2
        exact ⟨o', vs', e1, ins_old e2, e3, e4, e o' _ e4 e5, RpAll.mono sm _ _ e6⟩
      | pen => exact h2
  · have key : ∀ (k : Nat) (es : List PyData), ρ[k]? = some (.own es) → σ[k]? = some (some (.ref o)) → False := fun k es h1 h2 => by
      obtain ⟨x, h3, o', vs', e1, e2, _⟩ := r.slot k _ h1
      rw [h2] at h3
      cases h3
      cases e1
      rw [nX] at e2
      cases e2
    by_cases ha' : i = a
    · subst ha'
      have hl : i < σ.length := by
        have := (List.getElem?_eq_some_iff.mp g1).1
        rw [List.length_set] at this
        exact this
      rw [List.getElem?_set_self hl] at g1
      cases g1
      rw [List.getElem?_set_ne hab] at e2 g2
      exact key b fs e2 g2
    · by_cases hb : i = b
      · subst hb
        have hl : i < σ.length := by
          have := (List.getElem?_eq_some_iff.mp g2).1
          rw [List.length_set] at this
          exact this
        rw [List.getElem?_set_self hl] at g2
        cases g2
        rw [List.getElem?_set_ne ha'] at e1 g1
        exact key a es e1 g1
      · rw [List.getElem?_set_ne ha'] at e1 g1
        rw [List.getElem?_set_ne hb] at e2 g2
        exact r.apart a b c es fs hab e1 e2 g1 g2
/-- an owned list changes -/
theorem Rel.chg (r : Rel pn X0 X H σ ρ) {o : Addr} {ys : List V} {es : List PyData} (hi : ρ[i]? = some (.own ds)) (hs : σ[i]? = some (some (.ref o))) (ha : RpAll (mask X H) ys es) :
    Rel pn X0 X (upd H o (.lst ys)) σ (ρ.set i (.own es)) := by
  obtain ⟨x, h3, o', vs', e1, e2, e3, e4, e5, e6⟩ := r.slot i _ hi
  rw [hs] at h3
  cases h3
  cases e1
  have mu : mask X (upd H o (.lst ys)) = mask X H := mask_upd e2
  have hil : i < ρ.length := (List.getElem?_eq_some_iff.mp hi).1
  refine ⟨r.sub, r.pn0, by rw [List.length_set]; exact r.len, fun j s q => ?_, fun a b c f1 f2 hab e1 e2 g1 g2 => ?_⟩
  · by_cases hj : i = j
    · subst hj
      rw [List.getElem?_set_self hil] at q
      cases q
      exact ⟨_, hs, o, ys, rfl, e2, e3, e4, upd_same, by rw [mu]; exact ha⟩
    · rw [List.getElem?_set_ne hj] at q
      obtain ⟨x, h1, h2⟩ := r.slot j s q
      refine ⟨x, h1, ?_⟩
      cases s with
      | un => trivial
      | dat d => obtain ⟨v, e1, e2⟩ := h2; exact ⟨v, e1, by rw [mu]; exact e2⟩
      | own fs =>
        obtain ⟨q1, q2, f1, f2, f3, f4, f5, f6⟩ := h2
        refine ⟨q1, q2, f1, f2, f3, f4, ?_, by rw [mu]; exact f6⟩
        rw [upd_ne]
        · exact f5
        · intro z
          subst z
          subst f1
          exact r.apart i j q1 ds fs hj hi q hs h1
      | pen => exact h2
  · have old : ∀ (k : Nat) (fs : List PyData), (ρ.set i (.own es))[k]? = some (.own fs) → ∃ fs', ρ[k]? = some (Sl.own fs') := fun k fs h => by
      by_cases hk : i = k
      · subst hk; exact ⟨ds, hi⟩
      · rw [List.getElem?_set_ne hk] at h; exact ⟨fs, h⟩
    obtain ⟨k1, h1⟩ := old a f1 e1
    obtain ⟨k2, h2⟩ := old b f2 e2
    exact r.apart a b c k1 k2 hab h1 h2 g1 g2
/-- all owned lists read as data -/
def frz1 : Sl → Sl
  | .own ds => .dat (.list ds)
  | s => s
def frz (ρ : En) : En := ρ.map frz1
theorem Rel.frz (r : Rel pn X0 X H σ ρ) : Rel pn X0 X0 H σ (frz ρ) := by
  have sm : Same (mask X H) (mask X0 H) := mask_sub r.sub
  refine ⟨fun _ h => h, r.pn0, by unfold AC.frz; rw [List.length_map]; exact r.len, fun j s q => ?_, fun a b c f1 f2 hab e1 e2 g1 g2 => ?_⟩
  · unfold AC.frz at q
    rw [List.getElem?_map] at q
    obtain ⟨s', q1, q2⟩ := Option.map_eq_some_iff.mp q
    subst q2
    obtain ⟨x, h1, h2⟩ := r.slot j s' q1
    refine ⟨x, h1, ?_⟩
    cases s' with
    | un => trivial
    | dat d => obtain ⟨v, e1, e2⟩ := h2; exact ⟨v, e1, Rp.mono sm _ _ e2⟩
    | own fs =>
      obtain ⟨o, vs, f1, f2, f3, f4, f5, f6⟩ := h2
      exact ⟨.ref o, f1, .lst (mask_of f3 f5) (RpAll.mono sm _ _ f6)⟩
    | pen => exact h2
  · unfold AC.frz at e1
    rw [List.getElem?_map] at e1
    obtain ⟨s', q1, q2⟩ := Option.map_eq_some_iff.mp e1
    cases s' <;> cases q2
end
/-- the slots of a comprehension's own names forgotten -/
def wipeE (ρ : En) : List Nat → En
  | [] => ρ
  | v :: vs => (wipeE ρ vs).set v .un
theorem wipeE_length (ρ : En) : ∀ vs : List Nat, (wipeE ρ vs).length = ρ.length
  | [] => rfl
  | v :: vs => by unfold wipeE; rw [List.length_set, wipeE_length ρ vs]
theorem Rel.un {pn : Option Pen} {X X0 : Addr → Bool} {H : Hp} {σ : L2.St} {ρ : En} (r : Rel pn X0 X H σ ρ) (i : Nat) (x : Option V) : Rel pn X0 X H (σ.set i x) (ρ.set i .un) where
  sub := r.sub
  pn0 := r.pn0
  len := by rw [List.length_set, List.length_set]; exact r.len
  slot := fun j s e => by
    by_cases hj : i = j
    · subst hj
      have hl : i < ρ.length := by
        have := (List.getElem?_eq_some_iff.mp e).1
        rw [List.length_set] at this
        exact this
      rw [List.getElem?_set_self hl] at e
      cases e
      exact ⟨x, List.getElem?_set_self (by rw [r.len]; exact hl), trivial⟩
    · rw [List.getElem?_set_ne hj] at e ⊢
      exact r.slot j s e
  apart := fun a b o es fs hab e1 e2 g1 g2 => by
    by_cases ha : i = a
    · subst ha
      have hl : i < ρ.length := by
        have := (List.getElem?_eq_some_iff.mp e1).1
        rw [List.length_set] at this
        exact this
      rw [List.getElem?_set_self hl] at e1
      cases e1
    · by_cases hb : i = b
      · subst hb
        have hl : i < ρ.length := by
          have := (List.getElem?_eq_some_iff.mp e2).1
          rw [List.length_set] at this
          exact this
        rw [List.getElem?_set_self hl] at e2
        cases e2
      · rw [List.getElem?_set_ne ha] at e1 g1
        rw [List.getElem?_set_ne hb] at e2 g2
        exact r.apart a b o es fs hab e1 e2 g1 g2
theorem Rel.wipe {pn : Option Pen} {X X0 : Addr → Bool} {H : Hp} {σ : L2.St} {ρ : En} (r : Rel pn X0 X H σ ρ) : ∀ vs : List Nat, Rel pn X0 X H (wipe σ vs) (wipeE ρ vs)
  | [] => r
  | v :: vs => (Rel.wipe r vs).un v none
/-- wiping sees only what is not wiped -/
theorem wipe_eq {σ τ : L2.St} {vs : List Nat} (hl : σ.length = τ.length) (h : ∀ j, j ∉ vs → σ[j]? = τ[j]?) : wipe σ vs = wipe τ vs := by
  have key : ∀ (σ : L2.St) (vs : List Nat) (j : Nat), (L2.wipe σ vs)[j]? = if j ∈ vs ∧ j < σ.length then some none else σ[j]? := by
    intro σ vs
    induction vs with
    | nil => intro j; rw [if_neg (by simp)]; rfl
    | cons v vs ih =>
      intro j
      unfold L2.wipe
      by_cases hv : v = j
      · subst hv
        by_cases hl : v < σ.length
        · rw [List.getElem?_set_self (by rw [wipe_length]; exact hl), if_pos ⟨List.mem_cons_self, hl⟩]
        · rw [List.getElem?_eq_none (by rw [List.length_set, wipe_length]; omega), if_neg (fun z => hl z.2), List.getElem?_eq_none (by omega)]
      · rw [List.getElem?_set_ne hv, ih j]
        by_cases hm : j ∈ vs ∧ j < σ.length
        · rw [if_pos hm, if_pos ⟨List.mem_cons_of_mem _ hm.1, hm.2⟩]
        · rw [if_neg hm, if_neg (fun z => hm ⟨(List.mem_cons.mp z.1).resolve_left (fun e => hv e.symm), z.2⟩)]
  refine List.ext_getElem? fun j => ?_
  rw [key, key, hl]
  by_cases hj : j ∈ vs ∧ j < τ.length
  · rw [if_pos hj, if_pos hj]
  · rw [if_neg hj, if_neg hj]
    by_cases hm : j ∈ vs
    · have : ¬ j < τ.length := fun z => hj ⟨hm, z⟩
      rw [List.getElem?_eq_none (by omega), List.getElem?_eq_none (by omega)]
    · exact h j hm
theorem wipe_wipe {σ : L2.St} {vs : List Nat} : wipe (wipe σ vs) vs = wipe σ vs := wipe_eq (wipe_length _ _) fun j hj => wipe_out hj
end AC
set_option Elab.async false
set_option linter.all false
set_option maxRecDepth 100000
set_option maxHeartbeats 1000000
/-! The judgements of the calculus, and the rules of expressions, tests, targets, iterations. -/
namespace AC
open PySem PySem.Spec PyProof.Rows L2

def EvR (pn : Option Pen) (te : TE) (ρ : En) (n : Nat) (P : PyData → Nat → Prop) : Prop :=
  ∀ X0 X σ H, Wd pn X H n → Rel pn X0 X H σ ρ → ∀ Q : VK, (∀ v H2 d n2, Xt pn H H2 → Wd pn X H2 n2 → Rp (mask X H2) v d → P d n2 → Q v H2) → te σ H Q
def EvL (pn : Option Pen) (te : TE) (ρ : En) (n : Nat) (P : List PyData → Nat → Prop) : Prop :=
  ∀ X0 X σ H, Wd pn X H n → Rel pn X0 X H σ ρ → ∀ Q : VK, (∀ o H2 vs ds n2, H o = none → Xt pn H H2 → Wd pn X H2 n2 → H2 o = some (.lst vs) → RpAll (mask (ins o X) H2) vs ds → P ds n2 → Q (.ref o) H2) → te σ H Q
def EvT (pn : Option Pen) (t : TT) (ρ : En) (n : Nat) (P : Bool → Nat → Prop) : Prop :=
  ∀ X0 X σ H, Wd pn X H n → Rel pn X0 X H σ ρ → ∀ Q : Bool → Hp → Prop, (∀ b H2 n2, Xt pn H H2 → Wd pn X H2 n2 → P b n2 → Q b H2) → t σ H Q
def EvA (pn : Option Pen) (ta : TA) (ρ : En) (n : Nat) (P : List PyData → Nat → Prop) : Prop :=
  ∀ X0 X σ H, Wd pn X H n → Rel pn X0 X H σ ρ → ∀ Q : List V → Hp → Prop, (∀ vs H2 ds n2, Xt pn H H2 → Wd pn X H2 n2 → RpAll (mask X H2) vs ds → P ds n2 → Q vs H2) → ta σ H Q
def EvO (pn : Option Pen) (to : TO) (ρ : En) (n : Nat) (P : Option Int → Nat → Prop) : Prop :=
  ∀ X0 X σ H, Wd pn X H n → Rel pn X0 X H σ ρ → ∀ Q : Option Int → Hp → Prop, (∀ o H2 n2, Xt pn H H2 → Wd pn X H2 n2 → P o n2 → Q o H2) → to σ H Q
/-- an operation on values, by data -/
def OpD (r : R2) (a b : PyData) (P : PyData → Prop) : Prop :=
  ∀ (X : Addr → Bool) H x y, (∀ b, X b = true → ∃ xs, H b = some (.lst xs)) → Rp (mask X H) x a → Rp (mask X H) y b → ∀ Q : VK, (∀ z H2 d, Same H H2 → Rp (mask X H2) z d → P d → Q z H2) → r x y H Q
/-- .. that makes a new list -/
def OpL (r : R2) (a b : PyData) (P : List PyData → Prop) : Prop :=
  ∀ (X : Addr → Bool) H x y, (∀ b, X b = true → ∃ xs, H b = some (.lst xs)) → Rp (mask X H) x a → Rp (mask X H) y b → ∀ Q : VK, (∀ o H2 vs ds, H o = none → Same H H2 → H2 o = some (.lst vs) → RpAll (mask (ins o X) H2) vs ds → P ds → Q (.ref o) H2) → r x y H Q
def UnD (r : V → Hp → VK → Prop) (a : PyData) (P : PyData → Prop) : Prop :=
  ∀ (X : Addr → Bool) H x, (∀ b, X b = true → ∃ xs, H b = some (.lst xs)) → Rp (mask X H) x a → ∀ Q : VK, (∀ z H2 d, Same H H2 → Rp (mask X H2) z d → P d → Q z H2) → r x H Q
def CbD (r : List V → Hp → VK → Prop) (as : List PyData) (P : PyData → Prop) : Prop :=
  ∀ (X : Addr → Bool) H xs, (∀ b, X b = true → ∃ xs, H b = some (.lst xs)) → RpAll (mask X H) xs as → ∀ Q : VK, (∀ z H2 d, Same H H2 → Rp (mask X H2) z d → P d → Q z H2) → r xs H Q
def CbL (r : List V → Hp → VK → Prop) (as : List PyData) (P : List PyData → Prop) : Prop :=
  ∀ (X : Addr → Bool) H xs, (∀ b, X b = true → ∃ xs, H b = some (.lst xs)) → RpAll (mask X H) xs as → ∀ Q : VK, (∀ o H2 vs ds, H o = none → Same H H2 → H2 o = some (.lst vs) → RpAll (mask (ins o X) H2) vs ds → P ds → Q (.ref o) H2) → r xs H Q

/-- what is new is in sight -/
theorem mask_new {X : Addr → Bool} {H : Hp} {p : Addr} {o : HO} (tr : ∀ b, X b = true → ∃ xs, H b = some (.lst xs)) (h : H p = none) : mask X (upd H p o) p = some o := by
  refine mask_of ?_ upd_same
  cases q : X p with
  | false => rfl
  | true =>
    obtain ⟨xs, e⟩ := tr p q
    rw [h] at e
    cases e
theorem same_new {H : Hp} {p : Addr} {o : HO} (h : H p = none) : Same H (upd H p o) := fun b u e => by
  rw [upd_ne (ne_of_none e h)]
  exact e
/-- a new list, as data -/
theorem Rp.ofNew {X : Addr → Bool} {H H2 : Hp} {o : Addr} {vs : List V} {ds : List PyData} (tr : ∀ b, X b = true → ∃ xs, H b = some (.lst xs)) (h : H o = none) (e : H2 o = some (.lst vs)) (a : RpAll (mask (ins o X) H2) vs ds) : Rp (mask X H2) (.ref o) (.list ds) := by
  refine .lst (mask_of ?_ e) (RpAll.mono (mask_sub fun b hb => ins_old hb) _ _ a)
  cases q : X o with
  | false => rfl
  | true =>
    obtain ⟨xs, e⟩ := tr o q
    rw [h] at e
    cases e

section
variable {pn : Option Pen} {ρ : En} {n : Nat} {P : PyData → Nat → Prop} {PL : List PyData → Nat → Prop} {PT : Bool → Nat → Prop} {d : PyData} {ds : List PyData} {i : Nat} {ta tb te tc : TE} {t u : TT} {r : R2}

theorem EvR.imp {P' : PyData → Nat → Prop} (h : EvR pn te ρ n P) (k : ∀ d n, P d n → P' d n) : EvR pn te ρ n P' := fun X0 X σ H w r Q q => h X0 X σ H w r Q fun v H2 d n2 e w2 r2 p => q v H2 d n2 e w2 r2 (k d n2 p)
theorem EvL.imp {P' : List PyData → Nat → Prop} (h : EvL pn te ρ n PL) (k : ∀ d n, PL d n → P' d n) : EvL pn te ρ n P' := fun X0 X σ H w r Q q => h X0 X σ H w r Q fun o H2 vs ds n2 e1 e w2 r2 r3 p => q o H2 vs ds n2 e1 e w2 r2 r3 (k ds n2 p)
theorem ev_var (h : ρ[i]? = some (.dat d)) (k : P d n) : EvR pn (tVar i) ρ n P := fun X0 X σ H w r Q q => by
  obtain ⟨x, h1, v, h2, h3⟩ := r.slot i _ h
  subst h2
  exact ⟨v, h1, q v H d n Xt.refl w h3 k⟩
theorem ev_int {z : Int} (k : P (.int z) n) : EvR pn (tC (.int z)) ρ n P := fun X0 X σ H w r Q q => q _ H _ n Xt.refl w (.int z) k
theorem ev_bl {z : Bool} (k : P (.bool z) n) : EvR pn (tC (.bl z)) ρ n P := fun X0 X σ H w r Q q => q _ H _ n Xt.refl w (.bl z) k
theorem ev_non (k : P .none n) : EvR pn (tC .non) ρ n P := fun X0 X σ H w r Q q => q _ H _ n Xt.refl w .non k
theorem ev_str {z : Str} (k : P (.str z) n) : EvR pn (tC (.str z)) ρ n P := fun X0 X σ H w r Q q => q _ H _ n Xt.refl w (.str z) k
theorem ev_ofL (h : EvL pn te ρ n (fun ds n => P (.list ds) n)) : EvR pn te ρ n P := fun X0 X σ H w r Q q =>
  h X0 X σ H w r Q fun o H2 vs ds n2 h1 e w2 h2 h3 p => q _ H2 _ n2 e w2 (Rp.ofNew w.tr h1 h2 h3) p
/-- read the owned lists: what comes back holds no list -/
theorem ev_frz (h : EvR pn te (frz ρ) n (fun d n => flat d = true ∧ P d n)) : EvR pn te ρ n P := fun X0 X σ H w r Q q =>
  h X0 X0 σ H (w.sub r.sub r.pn0) r.frz Q fun v H2 d n2 e w2 h2 ⟨f, p⟩ => by
    have w3 := w.back w2 e
    exact q v H2 d n2 e w3 (Rp.hide w3.tr d v f h2) p
theorem ev_op (h : EvR pn ta ρ n (fun a n1 => EvR pn tb ρ n1 (fun b n2 => OpD r a b (fun d => P d n2)))) : EvR pn (tOp r ta tb) ρ n P := fun X0 X σ H w rr Q q =>
  h X0 X σ H w rr _ fun x H1 a n1 e1 w1 r1 h1 => h1 X0 X σ H1 w1 (rr.mono w e1) _ fun y H2 b n2 e2 w2 r2 h2 =>
    h2 X H2 x y w2.tr (Rp.mono (Xt.mask w1 e2) _ _ r1) r2 Q fun z H3 d s3 r3 p => q z H3 d n2 (e1.trans (e2.trans (Xt.of s3))) (w2.same s3) r3 p
theorem ev_opL (h : EvR pn ta ρ n (fun a n1 => EvR pn tb ρ n1 (fun b n2 => OpL r a b (fun d => PL d n2)))) : EvL pn (tOp r ta tb) ρ n PL := fun X0 X σ H w rr Q q =>
  h X0 X σ H w rr _ fun x H1 a n1 e1 w1 r1 h1 => h1 X0 X σ H1 w1 (rr.mono w e1) _ fun y H2 b n2 e2 w2 r2 h2 =>
    h2 X H2 x y w2.tr (Rp.mono (Xt.mask w1 e2) _ _ r1) r2 Q fun o H3 vs ds f1 s3 r3 r4 p => q o H3 vs ds n2 (Xt.fresh w2 (e1.trans e2) f1) (e1.trans (e2.trans (Xt.of s3))) (w2.same s3) r3 r4 p
theorem ev_un {r : V → Hp → VK → Prop} (h : EvR pn ta ρ n (fun a n1 => UnD r a (fun d => P d n1))) : EvR pn (tUn r ta) ρ n P := fun X0 X σ H w rr Q q =>
  h X0 X σ H w rr _ fun x H1 a n1 e1 w1 r1 h1 => h1 X H1 x w1.tr r1 Q fun z H3 d s3 r3 p => q z H3 d n1 (e1.trans (Xt.of s3)) (w1.same s3) r3 p
theorem ea_nil (k : PL [] n) : EvA pn tNil ρ n PL := fun X0 X σ H w rr Q q => q [] H [] n Xt.refl w .nil k
theorem ea_cons {ta' : TA} (h : EvR pn te ρ n (fun d n1 => EvA pn ta' ρ n1 (fun ds n2 => PL (d :: ds) n2))) : EvA pn (tCons te ta') ρ n PL := fun X0 X σ H w rr Q q =>
  h X0 X σ H w rr _ fun x H1 a n1 e1 w1 r1 h1 => h1 X0 X σ H1 w1 (rr.mono w e1) _ fun ys H2 bs n2 e2 w2 r2 p =>
    q (x :: ys) H2 (a :: bs) n2 (e1.trans e2) w2 (.cons (Rp.mono (Xt.mask w1 e2) _ _ r1) r2) p
theorem ev_cb {ta' : TA} {r : List V → Hp → VK → Prop} (h : EvA pn ta' ρ n (fun as n1 => CbD r as (fun d => P d n1))) : EvR pn (tCB r ta') ρ n P := fun X0 X σ H w rr Q q =>
  h X0 X σ H w rr _ fun x H1 a n1 e1 w1 r1 h1 => h1 X H1 x w1.tr r1 Q fun z H3 d s3 r3 p => q z H3 d n1 (e1.trans (Xt.of s3)) (w1.same s3) r3 p
theorem ev_cbL {ta' : TA} {r : List V → Hp → VK → Prop} (h : EvA pn ta' ρ n (fun as n1 => CbL r as (fun d => PL d n1))) : EvL pn (tCB r ta') ρ n PL := fun X0 X σ H w rr Q q =>
  h X0 X σ H w rr _ fun x H1 a n1 e1 w1 r1 h1 => h1 X H1 x w1.tr r1 Q fun o H3 vs ds f1 s3 r3 r4 p => q o H3 vs ds n1 (Xt.fresh w1 e1 f1) (e1.trans (Xt.of s3)) (w1.same s3) r3 r4 p
theorem ev_lst {ta' : TA} (h : EvA pn ta' ρ n (fun ds n1 => ds.length ≤ 100000 ∧ PL ds n1)) : EvL pn (tLst ta') ρ n PL := fun X0 X σ H w rr Q q =>
  h X0 X σ H w rr _ fun xs H1 ds n1 e1 w1 r1 ⟨hl, p⟩ => ⟨by rw [r1.length]; exact Nat.le_trans hl (by decide), fun o ho =>
    q o _ xs ds n1 (Xt.fresh w1 e1 ho) (e1.trans (Xt.of (same_new ho))) (w1.same (same_new ho)) upd_same (by rw [mask_ins ho]; exact r1) p⟩
theorem ev_tup {ta' : TA} (h : EvA pn ta' ρ n (fun ds n1 => ds.length ≤ 100000 ∧ P (.tuple ds) n1)) : EvR pn (tTup ta') ρ n P := fun X0 X σ H w rr Q q =>
  h X0 X σ H w rr _ fun xs H1 ds n1 e1 w1 r1 ⟨hl, p⟩ => ⟨by rw [r1.length]; exact Nat.le_trans hl (by decide), fun o ho =>
    q _ _ (.tuple ds) n1 (e1.trans (Xt.of (same_new ho))) (w1.same (same_new ho)) (.tup (mask_new w1.tr ho) (RpAll.mono (mask_same (same_new ho)) _ _ r1)) p⟩
theorem et_test (h : EvR pn te ρ n (fun d n1 => ∃ b, d = .bool b ∧ PT b n1)) : EvT pn (tTest te) ρ n PT := fun X0 X σ H w rr Q q =>
  h X0 X σ H w rr _ fun x H1 a n1 e1 w1 r1 ⟨b, e, p⟩ => by
    subst e
    exact ⟨b, r1.bool', q b H1 n1 e1 w1 p⟩
theorem et_B (h : EvR pn te ρ n (fun d n1 => ∃ b, d = .bool b ∧ PT b n1)) : EvT pn (tB te) ρ n PT := fun X0 X σ H w rr Q q =>
  h X0 X σ H w rr _ fun x H1 a n1 e1 w1 r1 ⟨b, e, p⟩ => by
    subst e
    exact ⟨b, r1.bool', q b H1 n1 e1 w1 p⟩
theorem et_yes (k : PT true n) : EvT pn tYes ρ n PT := fun X0 X σ H w rr Q q => q true H n Xt.refl w k
theorem et_not (h : EvT pn t ρ n (fun b n1 => PT (!b) n1)) : EvT pn (tNot t) ρ n PT := fun X0 X σ H w rr Q q =>
  h X0 X σ H w rr _ fun b H1 n1 e1 w1 p => q (!b) H1 n1 e1 w1 p
theorem et_and (h : EvT pn t ρ n (fun b n1 => if b = true then EvT pn u ρ n1 PT else PT false n1)) : EvT pn (tAnd t u) ρ n PT := fun X0 X σ H w rr Q q =>
  h X0 X σ H w rr _ fun b H1 n1 e1 w1 p => by
    cases b with
    | true => exact (show EvT pn u ρ n1 PT from p) X0 X σ H1 w1 (rr.mono w e1) _ fun c H2 n2 e2 w2 p2 => q c H2 n2 (e1.trans e2) w2 p2
    | false => exact q false H1 n1 e1 w1 p
theorem et_or (h : EvT pn t ρ n (fun b n1 => if b = true then PT true n1 else EvT pn u ρ n1 PT)) : EvT pn (tOr t u) ρ n PT := fun X0 X σ H w rr Q q =>
  h X0 X σ H w rr _ fun b H1 n1 e1 w1 p => by
    cases b with
    | false => exact (show EvT pn u ρ n1 PT from p) X0 X σ H1 w1 (rr.mono w e1) _ fun c H2 n2 e2 w2 p2 => q c H2 n2 (e1.trans e2) w2 p2
    | true => exact q true H1 n1 e1 w1 p
theorem ev_if (h : EvT pn t ρ n (fun b n1 => if b = true then EvR pn ta ρ n1 P else EvR pn tb ρ n1 P)) : EvR pn (tIf t ta tb) ρ n P := fun X0 X σ H w rr Q q =>
  h X0 X σ H w rr _ fun b H1 n1 e1 w1 p => by
    cases b with
    | true => exact (show EvR pn ta ρ n1 P from p) X0 X σ H1 w1 (rr.mono w e1) _ fun v H2 d n2 e2 w2 r2 p2 => q v H2 d n2 (e1.trans e2) w2 r2 p2
    | false => exact (show EvR pn tb ρ n1 P from p) X0 X σ H1 w1 (rr.mono w e1) _ fun v H2 d n2 e2 w2 r2 p2 => q v H2 d n2 (e1.trans e2) w2 r2 p2
theorem ev_andV (h : EvR pn ta ρ n (fun d n1 => ∃ b, d = .bool b ∧ if b = true then EvR pn tb ρ n1 P else P (.bool false) n1)) : EvR pn (tAndV ta tb) ρ n P := fun X0 X σ H w rr Q q =>
  h X0 X σ H w rr _ fun v H1 d n1 e1 w1 r1 ⟨b, e, p⟩ => by
    subst e
    refine ⟨b, r1.bool', ?_⟩
    cases b with
    | true => exact (show EvR pn tb ρ n1 P from p) X0 X σ H1 w1 (rr.mono w e1) _ fun v H2 d n2 e2 w2 r2 p2 => q v H2 d n2 (e1.trans e2) w2 r2 p2
    | false => exact q _ H1 _ n1 e1 w1 (.bl false) p
theorem ev_orV (h : EvR pn ta ρ n (fun d n1 => ∃ b, d = .bool b ∧ if b = true then P (.bool true) n1 else EvR pn tb ρ n1 P)) : EvR pn (tOrV ta tb) ρ n P := fun X0 X σ H w rr Q q =>
  h X0 X σ H w rr _ fun v H1 d n1 e1 w1 r1 ⟨b, e, p⟩ => by
    subst e
    refine ⟨b, r1.bool', ?_⟩
    cases b with
    | false => exact (show EvR pn tb ρ n1 P from p) X0 X σ H1 w1 (rr.mono w e1) _ fun v H2 d n2 e2 w2 r2 p2 => q v H2 d n2 (e1.trans e2) w2 r2 p2
    | true => exact q _ H1 _ n1 e1 w1 (.bl true) p
theorem ev_notV (h : EvR pn ta ρ n (fun d n1 => ∃ b, d = .bool b ∧ P (.bool (!b)) n1)) : EvR pn (tNotV ta) ρ n P := fun X0 X σ H w rr Q q =>
  h X0 X σ H w rr _ fun v H1 d n1 e1 w1 r1 ⟨b, e, p⟩ => by
    subst e
    exact ⟨b, r1.bool', q _ H1 _ n1 e1 w1 (.bl _) p⟩
theorem ev_isN (h : EvR pn ta ρ n (fun d n1 => P (.bool (match d with | .none => true | _ => false)) n1)) : EvR pn (tIsN ta) ρ n P := fun X0 X σ H w rr Q q =>
  h X0 X σ H w rr _ fun v H1 d n1 e1 w1 r1 p => by
    refine q _ H1 _ n1 e1 w1 ?_ p
    cases r1 <;> exact .bl _
theorem ev_notN (h : EvR pn ta ρ n (fun d n1 => P (.bool (match d with | .none => false | _ => true)) n1)) : EvR pn (tNotN ta) ρ n P := fun X0 X σ H w rr Q q =>
  h X0 X σ H w rr _ fun v H1 d n1 e1 w1 r1 p => by
    refine q _ H1 _ n1 e1 w1 ?_ p
    cases r1 <;> exact .bl _
theorem ev_chain {r r' : R2} (h : EvR pn ta ρ n (fun a n1 => EvR pn tb ρ n1 (fun b n2 => ∃ k, OpD r a b (fun d => d = .bool k) ∧ if k = true then EvR pn tc ρ n2 (fun c n3 => OpD r' b c (fun d => P d n3)) else P (.bool false) n2))) :
    EvR pn (tChain r r' ta tb tc) ρ n P := fun X0 X σ H w rr Q q =>
  h X0 X σ H w rr _ fun x H1 a n1 e1 w1 r1 h1 => h1 X0 X σ H1 w1 (rr.mono w e1) _ fun y H2 b n2 e2 w2 r2 ⟨k, h2, h3⟩ =>
    h2 X H2 x y w2.tr (Rp.mono (Xt.mask w1 e2) _ _ r1) r2 _ fun z H3 d s3 r3 p => by
      subst p
      have e3 : Xt pn H H3 := e1.trans (e2.trans (Xt.of s3))
      have w3 := w2.same s3
      refine ⟨k, r3.bool', ?_⟩
      cases k with
      | true =>
        exact (show EvR pn tc ρ n2 _ from h3) X0 X σ H3 w3 (rr.mono w e3) _ fun c H4 dc n4 e4 w4 r4 h4 =>
          h4 X H4 y c w4.tr (Rp.mono (Xt.mask w3 e4) _ _ (Rp.mono (mask_same s3) _ _ r2)) r4 _ fun z H5 d s5 r5 p => q z H5 d n4 (e3.trans (e4.trans (Xt.of s5))) (w4.same s5) r5 p
      | false => exact q _ H3 _ n2 e3 w3 (.bl false) h3
theorem eo_none {PO : Option Int → Nat → Prop} (k : PO none n) : EvO pn tNoPart ρ n PO := fun X0 X σ H w rr Q q => q none H n Xt.refl w k
theorem eo_some {PO : Option Int → Nat → Prop} (h : EvR pn te ρ n (fun d n1 => ∃ i, d = .int i ∧ PO (some i) n1)) : EvO pn (tPart te) ρ n PO := fun X0 X σ H w rr Q q =>
  h X0 X σ H w rr _ fun v H1 d n1 e1 w1 r1 ⟨i, e, p⟩ => by
    subst e
    exact ⟨i, r1.int', q _ H1 n1 e1 w1 p⟩
/-- a slice of a tuple -/
theorem ev_slT {K : PySem.W.Frag} {tl th : TO} (h : EvR pn te ρ n (fun d n1 => ∃ ds, d = .tuple ds ∧ EvO pn tl ρ n1 (fun lo n2 => EvO pn th ρ n2 (fun hi n3 =>
    P (.tuple ((ds.drop (HT.sIx ds.length 0 lo)).take (HT.sIx ds.length ds.length hi - HT.sIx ds.length 0 lo))) n3)))) : EvR pn (tSl (rSlA K) te tl th) ρ n P := fun X0 X σ H w rr Q q =>
  h X0 X σ H w rr _ fun v H1 d n1 e1 w1 r1 ⟨ds, e, h1⟩ => h1 X0 X σ H1 w1 (rr.mono w e1) _ fun lo H2 n2 e2 w2 h2 => h2 X0 X σ H2 w2 (rr.mono w (e1.trans e2)) _ fun hi H3 n3 e3 w3 p => by
    subst e
    have m3 : Rp (mask X H3) v (.tuple ds) := Rp.mono (Xt.mask w1 (e2.trans e3)) _ _ r1
    obtain ⟨a, xs, rfl, ha, hx⟩ := m3.tuple
    have hl := hx.length
    refine ⟨a, xs, rfl, SqT.of (mask_le _ _ ha), fun hw => ?_, fun hw p' hp => ?_⟩
    · refine q _ H3 _ n3 (e1.trans (e2.trans e3)) w3 m3 ?_
      rw [hl] at hw
      have e4 : (ds.drop (HT.sIx ds.length 0 lo)).take (HT.sIx ds.length ds.length hi - HT.sIx ds.length 0 lo) = ds := by
        rw [hw.1, hw.2, List.drop_zero, Nat.sub_zero, List.take_length]
      have p2 : P (.tuple ((ds.drop (HT.sIx ds.length 0 lo)).take (HT.sIx ds.length ds.length hi - HT.sIx ds.length 0 lo))) n3 := p
      rw [e4] at p2
      exact p2
    · refine q _ _ _ n3 (e1.trans (e2.trans (e3.trans (Xt.of (same_new hp))))) (w3.same (same_new hp)) (.tup (mask_new w3.tr hp) (RpAll.mono (mask_same (same_new hp)) _ _ ?_)) p
      unfold cutV
      rw [hl]
      exact (hx.drop _).take _
end

/-! ### operations by data -/
section
variable {P : PyData → Prop} {PL : List PyData → Prop} {i j : Int} {K : PySem.W.Frag} {ds es : List PyData} {a b d : PyData}
theorem od_I0 {g : Int → Int → V} {dz : PyData} (hz : ∀ H, Rp H (g i j) dz) (k : P dz) : OpD (rI0 g) (.int i) (.int j) P := fun X H x y tr rx ry Q q =>
  ⟨i, j, rx.int', ry.int', q _ H _ (fun _ _ h => h) (hz _) k⟩
theorem od_I {C : Int → Int → Prop} {g : Int → Int → V} {dz : PyData} (hz : ∀ H, Rp H (g i j) dz) (hc : C i j) (k : P dz) : OpD (rI C g) (.int i) (.int j) P := fun X H x y tr rx ry Q q =>
  ⟨i, j, rx.int', ry.int', hc, q _ H _ (fun _ _ h => h) (hz _) k⟩
theorem od_eqD (h1 : SeqAt.shaped a = true) (h2 : SeqAt.shaped b = true) (k : P (.bool (PyData.eqv a b))) : OpD (rEqD K) a b P := fun X H x y tr rx ry Q q =>
  ⟨a, b, Rp.dp _ _ (Rp.mono mask_le _ _ rx), Rp.dp _ _ (Rp.mono mask_le _ _ ry), h1, h2, q _ H _ (fun _ _ h => h) (.bl _) k⟩
theorem od_neD (h1 : SeqAt.shaped a = true) (h2 : SeqAt.shaped b = true) (k : P (.bool (!PyData.eqv a b))) : OpD (rNeD K) a b P := fun X H x y tr rx ry Q q =>
  ⟨a, b, Rp.dp _ _ (Rp.mono mask_le _ _ rx), Rp.dp _ _ (Rp.mono mask_le _ _ ry), h1, h2, q _ H _ (fun _ _ h => h) (.bl _) k⟩
theorem od_inL (h1 : SeqAt.shaped a = true) (h2 : SeqAt.shaped (.list ds) = true) (k : P (.bool (ds.any fun z => PyData.eqv z a))) : OpD (rInD K) a (.list ds) P := fun X H x y tr rx ry Q q =>
  ⟨a, ds, Rp.dp _ _ (Rp.mono mask_le _ _ rx), Rp.dp _ _ (Rp.mono mask_le _ _ ry), h1, h2, q _ H _ (fun _ _ h => h) (.bl _) k⟩
theorem od_niL (h1 : SeqAt.shaped a = true) (h2 : SeqAt.shaped (.list ds) = true) (k : P (.bool (!ds.any fun z => PyData.eqv z a))) : OpD (rNotInD K) a (.list ds) P := fun X H x y tr rx ry Q q =>
  ⟨a, ds, Rp.dp _ _ (Rp.mono mask_le _ _ rx), Rp.dp _ _ (Rp.mono mask_le _ _ ry), h1, h2, q _ H _ (fun _ _ h => h) (.bl _) k⟩
theorem RpAll.atI {H : Hp} {xs : List V} (h : RpAll H xs ds) (e : L2.atI ds i = some d) : ∃ v, L2.atI xs i = some v ∧ Rp H v d := by
  unfold L2.atI at e ⊢
  rw [h.length]
  cases q : ixN ds.length i with
  | none => rw [q] at e; cases e
  | some j =>
    rw [q] at e
    exact h.get e
theorem od_ixT (e : L2.atI ds i = some d) (k : P d) : OpD (rIx K) (.tuple ds) (.int i) P := fun X H x y tr rx ry Q q => by
  obtain ⟨a, xs, rfl, ha, hx⟩ := rx.tuple
  obtain ⟨v, h1, h2⟩ := hx.atI e
  exact .inr (.inl ⟨a, xs, i, v, rfl, ry.int', SqT.of (mask_le _ _ ha), h1, q _ H _ (fun _ _ h => h) h2 k⟩)
theorem od_ixL (e : L2.atI ds i = some d) (k : P d) : OpD (rIx K) (.list ds) (.int i) P := fun X H x y tr rx ry Q q => by
  obtain ⟨a, xs, rfl, ha, hx⟩ := rx.list
  obtain ⟨v, h1, h2⟩ := hx.atI e
  exact .inl ⟨a, xs, i, v, rfl, ry.int', SqL.of (mask_le _ _ ha), h1, q _ H _ (fun _ _ h => h) h2 k⟩
/-- + of ints, tuples, lists -/
def uAdd (K : PySem.W.Frag) : R2 := fun x y H Q => (rI0 (fun i j => .int (i + j))) x y H Q ∨ rCatA K x y H Q ∨ rCat x y H Q
theorem op_uAdd {X : Cx} : OpR X (binaryOp .Add) (uAdd X.K) := by
  intro pins s σ H x y v u Q I rx ry h
  rcases h with h | h | h
  · exact op_add pins s σ H x y v u Q I rx ry h
  · exact op_catA pins s σ H x y v u Q I rx ry h
  · exact op_cat pins s σ H x y v u Q I rx ry h
theorem od_add (k : P (.int (i + j))) : OpD (uAdd K) (.int i) (.int j) P := fun X H x y tr rx ry Q q => .inl (od_I0 (fun _ => .int _) k X H x y tr rx ry Q q)
theorem od_catT (hl : ds.length + es.length ≤ 100000) (k : P (.tuple (ds ++ es))) : OpD (uAdd K) (.tuple ds) (.tuple es) P := fun X H x y tr rx ry Q q => by
  obtain ⟨a, xs, rfl, ha, hx⟩ := id rx.tuple
  obtain ⟨b, ys, rfl, hb, hy⟩ := id ry.tuple
  have l1 := hx.length
  have l2 := hy.length
  refine .inr (.inl ⟨a, b, xs, ys, rfl, rfl, SqT.of (mask_le _ _ ha), SqT.of (mask_le _ _ hb), by rw [l1, l2]; exact Nat.le_trans hl (by decide), fun h => ?_, fun _ h => ?_, fun _ _ p hp => ?_⟩)
  · subst h
    have e : ds = [] := List.eq_nil_of_length_eq_zero l1.symm
    subst e
    exact q _ H _ (fun _ _ h => h) ry k
  · subst h
    have e : es = [] := List.eq_nil_of_length_eq_zero l2.symm
    subst e
    rw [List.append_nil] at k
    exact q _ H _ (fun _ _ h => h) rx k
  · exact q _ _ _ (same_new hp) (.tup (mask_new tr hp) (RpAll.mono (mask_same (same_new hp)) _ _ (hx.append hy))) k
theorem ol_cat (hl : ds.length + es.length ≤ 100000) (k : PL (ds ++ es)) : OpL (uAdd K) (.list ds) (.list es) PL := fun X H x y tr rx ry Q q => by
  obtain ⟨a, xs, rfl, ha, hx⟩ := rx.list
  obtain ⟨b, ys, rfl, hb, hy⟩ := ry.list
  have l1 := hx.length
  have l2 := hy.length
  refine .inr (.inr ⟨a, b, xs, ys, rfl, rfl, mask_le _ _ ha, mask_le _ _ hb, by rw [l1, l2]; exact Nat.le_trans hl (by decide), fun p hp => ?_⟩)
  exact q _ _ _ _ hp (same_new hp) upd_same (by rw [mask_ins hp]; exact hx.append hy) k
/-- * of ints, of a list and an int -/
def uMul : R2 := fun x y H Q => (rI CMul fun i j => .int (i * j)) x y H Q ∨ rRep x y H Q
theorem op_uMul {X : Cx} : OpR X (binaryOp .Mult) uMul := by
  intro pins s σ H x y v u Q I rx ry h
  rcases h with h | h
  · exact op_mul pins s σ H x y v u Q I rx ry h
  · exact op_rep pins s σ H x y v u Q I rx ry h
theorem od_mul (hc : CMul i j) (k : P (.int (i * j))) : OpD uMul (.int i) (.int j) P := fun X H x y tr rx ry Q q => .inl (od_I (fun _ => .int _) hc k X H x y tr rx ry Q q)
theorem RpAll.rep {H : Hp} {xs : List V} (h : RpAll H xs ds) : ∀ k : Nat, RpAll H (List.replicate k xs).flatten (List.replicate k ds).flatten
  | 0 => .nil
  | k + 1 => by
    rw [List.replicate_succ, List.replicate_succ, List.flatten_cons, List.flatten_cons]
    exact h.append (RpAll.rep h k)
theorem ol_rep (h0 : 0 ≤ j) (h1 : j ≤ 1000) (hl : ds.length ≤ 1000) (k : PL (List.replicate j.toNat ds).flatten) : OpL uMul (.list ds) (.int j) PL := fun X H x y tr rx ry Q q => by
  obtain ⟨a, xs, rfl, ha, hx⟩ := rx.list
  have l1 := hx.length
  refine .inr ⟨a, j, xs, rfl, ry.int', mask_le _ _ ha, by omega, by omega, ?_, fun p hp => ?_⟩
  · rw [l1]
    have a1 : ds.length * j.toNat ≤ 1000 * 1000 := Nat.mul_le_mul hl (by omega)
    exact Nat.le_trans a1 (by decide)
  · exact q _ _ _ _ hp (same_new hp) upd_same (by rw [mask_ins hp]; exact hx.rep _) k
end
end AC
set_option Elab.async false
set_option linter.all false
set_option maxRecDepth 100000
set_option maxHeartbeats 1000000
/-! Targets, iterations, comprehensions, statements. -/
namespace AC
open PySem PySem.Spec PyProof.Rows L2

/-! ### targets -/
/-- the target g takes d; only the slots of vs change -/
def Tg (vs : List Nat) (g : TG) (d : PyData) (ρ : En) (P : En → Prop) : Prop :=
  ∀ pn X0 X H σ x, Rel pn X0 X H σ ρ → Rp (mask X H) x d → ∀ Q : L2.St → Hp → Prop, (∀ σ' ρ', Rel pn X0 X H σ' ρ' → σ'.length = σ.length → (∀ j, j ∉ vs → σ'[j]? = σ[j]?) → P ρ' → Q σ' H) → g x σ H Q
def TgS (vs : List Nat) (g : TGs) (ds : List PyData) (ρ : En) (P : En → Prop) : Prop :=
  ∀ pn X0 X H σ xs, Rel pn X0 X H σ ρ → RpAll (mask X H) xs ds → ∀ Q : L2.St → Hp → Prop, (∀ σ' ρ', Rel pn X0 X H σ' ρ' → σ'.length = σ.length → (∀ j, j ∉ vs → σ'[j]? = σ[j]?) → P ρ' → Q σ' H) → g xs σ H Q
section
variable {vs : List Nat} {d : PyData} {ds : List PyData} {ρ : En} {P : En → Prop} {g : TG} {gs : TGs} {K : PySem.W.Frag}
theorem tg_name {i : Nat} (hi : i ∈ vs) (k : P (ρ.set i (.dat d))) : Tg vs (gName i) d ρ P := fun pn X0 X H σ x r h Q q =>
  q _ _ (r.set h i) (List.length_set ..) (fun j hj => List.getElem?_set_ne (fun e : i = j => hj (by rw [← e]; exact hi))) k
theorem tgs_nil (k : P ρ) : TgS vs gNil [] ρ P := fun pn X0 X H σ x r h Q q => by
  cases h
  exact ⟨rfl, q σ ρ r rfl (fun _ _ => rfl) k⟩
theorem tgs_cons (h : Tg vs g d ρ (fun ρ' => TgS vs gs ds ρ' P)) : TgS vs (gCons g gs) (d :: ds) ρ P := fun pn X0 X H σ x r hx Q q => by
  cases hx with
  | cons h1 h2 =>
    refine ⟨_, _, rfl, h pn X0 X H σ _ r h1 _ fun σ' ρ' r' l' k' p' => ?_⟩
    exact p' pn X0 X H σ' _ r' h2 Q fun σ2 ρ2 r2 l2 k2 p2 => q σ2 ρ2 r2 (l2.trans l') (fun j hj => (k2 j hj).trans (k' j hj)) p2
theorem tg_tup {m : Nat} (hm : ds.length = m) (h : TgS vs gs ds ρ P) : Tg vs (gTup K m gs) (.tuple ds) ρ P := fun pn X0 X H σ x r hx Q q => by
  obtain ⟨a, xs, rfl, ha, hs⟩ := hx.tuple
  exact ⟨a, xs, rfl, SqT.of (mask_le _ _ ha), hs.length.trans hm, h pn X0 X H σ xs r hs Q q⟩
end

/-! ### what is walked -/
def ItOk (F : Hp) (J : It) (ds : List PyData) : Prop := ∀ (X : Addr → Bool) (H : Hp) (i : Nat), Same F (mask X H) → (∀ b, X b = true → ∃ xs, H b = some (.lst xs)) →
  (i = ds.length → J.stop i H) ∧ (∀ d, ds[i]? = some d → J.go i H ∧ ∀ x H', J.yld i H x H' → Same H H' ∧ Rp (mask X H') x d)
def EvI (pn : Option Pen) (wi : TI) (ρ : En) (n : Nat) (P : List PyData → Nat → Prop) : Prop :=
  ∀ X0 X σ H, Wd pn X H n → Rel pn X0 X H σ ρ → ∀ R : It → Hp → Prop, (∀ J H2 ds n2, Xt pn H H2 → Wd pn X H2 n2 → ItOk (mask X H2) J ds → P ds n2 → R J H2) → wi σ H R
section
variable {K : PySem.W.Frag} {F : Hp} {a b : Addr} {xs ys : List V} {ds es : List PyData}
theorem it_list (h : F a = some (.lst xs)) (hx : RpAll F xs ds) : ItOk F (Itl K a) ds := fun X H i s tr => by
  have e := (mask_some (s _ _ h)).2
  refine ⟨fun hi => ⟨xs, SqL.of e, by rw [hx.length]; omega⟩, fun d hd => ?_⟩
  obtain ⟨v, h1, h2⟩ := hx.get hd
  refine ⟨⟨xs, v, SqL.of e, h1⟩, fun x H' hy => ?_⟩
  obtain ⟨rfl, hy⟩ := hy
  have h3 := hy xs (SqL.of e)
  rw [h1] at h3
  cases h3
  exact ⟨fun _ _ z => z, Rp.mono s _ _ h2⟩
theorem it_tup (h : F a = some (.tup xs)) (hx : RpAll F xs ds) : ItOk F (Itt K a) ds := fun X H i s tr => by
  have e := (mask_some (s _ _ h)).2
  refine ⟨fun hi => ⟨xs, SqT.of e, by rw [hx.length]; omega⟩, fun d hd => ?_⟩
  obtain ⟨v, h1, h2⟩ := hx.get hd
  refine ⟨⟨xs, v, SqT.of e, h1⟩, fun x H' hy => ?_⟩
  obtain ⟨rfl, hy⟩ := hy
  have h3 := hy xs (SqT.of e)
  rw [h1] at h3
  cases h3
  exact ⟨fun _ _ z => z, Rp.mono s _ _ h2⟩
def rgD (lo : Int) (n : Nat) : List PyData := (List.range n).map fun i : Nat => .int (lo + (i : Int))
theorem it_range {lo : Int} {n : Nat} : ItOk F (Itr lo n) (rgD lo n) := fun X H i s tr => by
  have hl : (rgD lo n).length = n := by unfold rgD; simp
  refine ⟨fun hi => by rw [hl] at hi; exact Nat.le_of_eq hi.symm, fun d hd => ?_⟩
  unfold rgD at hd
  rw [List.getElem?_map] at hd
  obtain ⟨j, h1, h2⟩ := Option.map_eq_some_iff.mp hd
  obtain ⟨h3, h4⟩ := List.getElem?_eq_some_iff.mp h1
  rw [List.length_range] at h3
  rw [List.getElem_range] at h4
  subst h4
  subst h2
  refine ⟨h3, fun x H' hy => ?_⟩
  obtain ⟨rfl, rfl⟩ := hy
  exact ⟨fun _ _ z => z, .int _⟩
def rgC (lo c : Int) (n : Nat) : List PyData := (List.range n).map fun i : Nat => .int (lo + (i : Int) * c)
theorem it_rangeC {lo c : Int} {n : Nat} : ItOk F (Itc lo c n) (rgC lo c n) := fun X H i s tr => by
  have hl : (rgC lo c n).length = n := by unfold rgC; simp
  refine ⟨fun hi => by rw [hl] at hi; exact Nat.le_of_eq hi.symm, fun d hd => ?_⟩
  unfold rgC at hd
  rw [List.getElem?_map] at hd
  obtain ⟨j, h1, h2⟩ := Option.map_eq_some_iff.mp hd
  obtain ⟨h3, h4⟩ := List.getElem?_eq_some_iff.mp h1
  rw [List.length_range] at h3
  rw [List.getElem_range] at h4
  subst h4
  subst h2
  refine ⟨h3, fun x H' hy => ?_⟩
  obtain ⟨rfl, rfl⟩ := hy
  exact ⟨fun _ _ z => z, .int _⟩
def zipD : List PyData → List PyData → List PyData
  | d :: ds, e :: es => .tuple [d, e] :: zipD ds es
  | _, _ => []
theorem zipD_len : ∀ ds es : List PyData, (zipD ds es).length = min ds.length es.length
  | [], es => by cases es <;> simp [zipD]
  | d :: ds, [] => by simp [zipD]
  | d :: ds, e :: es => by
    show (zipD ds es).length + 1 = _
    rw [zipD_len ds es, List.length_cons, List.length_cons]
    omega
theorem zipD_get : ∀ {ds es : List PyData} {i : Nat} {d : PyData}, (zipD ds es)[i]? = some d → ∃ x y, ds[i]? = some x ∧ es[i]? = some y ∧ d = .tuple [x, y]
  | [], es, i, d, h => by cases es <;> simp [zipD] at h
  | d :: ds, [], i, _, h => by simp [zipD] at h
  | d :: ds, e :: es, 0, _, h => ⟨d, e, rfl, rfl, (Option.some.inj h).symm⟩
  | d :: ds, e :: es, i + 1, _, h => zipD_get (ds := ds) (es := es) (i := i) h
theorem it_zipL (h : F a = some (.lst xs)) (hx : RpAll F xs ds) (h' : F b = some (.lst ys)) (hy : RpAll F ys es) : ItOk F (Itz K a b) (zipD ds es) := fun X H i s tr => by
  have e := (mask_some (s _ _ h)).2
  have e' := (mask_some (s _ _ h')).2
  refine ⟨fun hi => ⟨xs, ys, SqL.of e, SqL.of e', by rw [zipD_len] at hi; rw [hx.length, hy.length]; omega⟩, fun d hd => ?_⟩
  obtain ⟨x, y, h1, h2, rfl⟩ := zipD_get hd
  obtain ⟨v, h3, h4⟩ := hx.get h1
  obtain ⟨u, h5, h6⟩ := hy.get h2
  refine ⟨⟨xs, ys, v, u, SqL.of e, SqL.of e', h3, h5⟩, fun z H' hz => ?_⟩
  obtain ⟨T, p, q, rfl, hT, rfl, g1, g2⟩ := hz
  have h7 := g1 xs (SqL.of e)
  have h8 := g2 ys (SqL.of e')
  rw [h3] at h7
  rw [h5] at h8
  cases h7
  cases h8
  have sm := same_new (o := .tup [v, u]) hT
  exact ⟨sm, .tup (mask_new tr hT) (.cons (Rp.mono (mask_same sm) _ _ (Rp.mono s _ _ h4)) (.cons (Rp.mono (mask_same sm) _ _ (Rp.mono s _ _ h6)) .nil))⟩
theorem it_zipT (h : F a = some (.tup xs)) (hx : RpAll F xs ds) (h' : F b = some (.tup ys)) (hy : RpAll F ys es) : ItOk F (RZ.ItzT K a b) (zipD ds es) := fun X H i s tr => by
  have e := (mask_some (s _ _ h)).2
  have e' := (mask_some (s _ _ h')).2
  refine ⟨fun hi => ⟨xs, ys, SqT.of e, SqT.of e', by rw [zipD_len] at hi; rw [hx.length, hy.length]; omega⟩, fun d hd => ?_⟩
  obtain ⟨x, y, h1, h2, rfl⟩ := zipD_get hd
  obtain ⟨v, h3, h4⟩ := hx.get h1
  obtain ⟨u, h5, h6⟩ := hy.get h2
  refine ⟨⟨xs, ys, v, u, SqT.of e, SqT.of e', h3, h5⟩, fun z H' hz => ?_⟩
  obtain ⟨T, p, q, rfl, hT, rfl, g1, g2⟩ := hz
  have h7 := g1 xs (SqT.of e)
  have h8 := g2 ys (SqT.of e')
  rw [h3] at h7
  rw [h5] at h8
  cases h7
  cases h8
  have sm := same_new (o := .tup [v, u]) hT
  exact ⟨sm, .tup (mask_new tr hT) (.cons (Rp.mono (mask_same sm) _ _ (Rp.mono s _ _ h4)) (.cons (Rp.mono (mask_same sm) _ _ (Rp.mono s _ _ h6)) .nil))⟩
/-- (i, d) -/
def enumD (ds : List PyData) : List PyData := zipD (rgD 0 ds.length) ds
theorem enumD_len (ds : List PyData) : (enumD ds).length = ds.length := by
  unfold enumD
  rw [zipD_len]
  unfold rgD
  simp
theorem enumD_get {i : Nat} {d : PyData} (h : (enumD ds)[i]? = some d) : ∃ x, ds[i]? = some x ∧ d = .tuple [.int (i : Nat), x] := by
  obtain ⟨x, y, h1, h2, rfl⟩ := zipD_get h
  unfold rgD at h1
  rw [List.getElem?_map] at h1
  obtain ⟨j, g1, g2⟩ := Option.map_eq_some_iff.mp h1
  obtain ⟨g3, g4⟩ := List.getElem?_eq_some_iff.mp g1
  rw [List.getElem_range] at g4
  subst g4
  subst g2
  refine ⟨y, h2, ?_⟩
  rw [Int.zero_add]
theorem it_enumL (h : F a = some (.lst xs)) (hx : RpAll F xs ds) : ItOk F (Ite K a) (enumD ds) := fun X H i s tr => by
  have e := (mask_some (s _ _ h)).2
  refine ⟨fun hi => ⟨xs, SqL.of e, by rw [enumD_len] at hi; rw [hx.length]; omega⟩, fun d hd => ?_⟩
  obtain ⟨x, h1, rfl⟩ := enumD_get hd
  obtain ⟨v, h3, h4⟩ := hx.get h1
  refine ⟨⟨xs, v, SqL.of e, h3⟩, fun z H' hz => ?_⟩
  obtain ⟨T, p, rfl, hT, rfl, g1⟩ := hz
  have h7 := g1 xs (SqL.of e)
  rw [h3] at h7
  cases h7
  have sm := same_new (o := .tup [.int (i : Nat), v]) hT
  exact ⟨sm, .tup (mask_new tr hT) (.cons (.int _) (.cons (Rp.mono (mask_same sm) _ _ (Rp.mono s _ _ h4)) .nil))⟩
end
/-- a list or a tuple is walked -/
def uSeq (K : PySem.W.Frag) (tl : TE) : TI := fun σ H R => tl σ H fun x H1 => ∃ a, x = .ref a ∧ (((∃ xs, SqL K H1 a xs) ∧ R (Itl K a) H1) ∨ ((∃ xs, SqT K H1 a xs) ∧ R (Itt K a) H1))
theorem pi_seq {X : Cx} {tg l : Expr} {tl : TE} (hl : PE X l tl) : PI X tg l (uSeq X.K tl) := by
  refine ⟨fun pins s σ H R I h => ?_⟩
  refine thn (hl.run pins s σ H _ I h) fun v s1 ⟨x, H1, I1, r1, q1⟩ => ?_
  obtain ⟨a, e, q⟩ := q1
  subst e
  cases r1
  rcases q with ⟨⟨xs, hq⟩, q⟩ | ⟨⟨xs, hq⟩, q⟩
  · obtain ⟨its, rv, p, hz⟩ := I1.list hq
    refine wpAny_pyIter_list p.isList ?_
    refine ⟨s1.heap.objs.size, [s1.heap.objs.size], _, _, H1, rfl, I1.kept (t' := s1.toks) fun b o e => Heap.get?_push_of_some _ e, turn_list a _, ⟨_, Heap.get?_push_size _ rfl, rfl, rfl⟩, fun b hb => ?_, q⟩
    have e : b = s1.heap.objs.size := by simpa using hb
    subst e
    exact I1.fpOk (Nat.le_refl _) (I1.hok.fresh (Nat.le_refl _))
  · obtain ⟨its, rv, p, hz⟩ := I1.tuple hq
    refine wpAny_pyIter_tuple (show s1.heap.IsTuple a its.toArray from p) ?_
    refine ⟨s1.heap.objs.size, [s1.heap.objs.size], _, _, H1, rfl, I1.kept (t' := s1.toks) fun b o e => Heap.get?_push_of_some _ e, turn_tuple a _, ⟨_, Heap.get?_push_size _ rfl, rfl, rfl⟩, fun b hb => ?_, q⟩
    have e : b = s1.heap.objs.size := by simpa using hb
    subst e
    exact I1.fpOk (Nat.le_refl _) (I1.hok.fresh (Nat.le_refl _))
section
variable {pn : Option Pen} {ρ : En} {n : Nat} {P : List PyData → Nat → Prop} {tl : TE} {ta : TA} {K : PySem.W.Frag}
theorem ei_seq (h : EvR pn tl ρ n (fun d n1 => (∃ ds, d = .list ds ∧ P ds n1) ∨ (∃ ds, d = .tuple ds ∧ P ds n1))) : EvI pn (uSeq K tl) ρ n P := fun X0 X σ H w rr R q =>
  h X0 X σ H w rr _ fun x H1 d n1 e1 w1 r1 h1 => by
    rcases h1 with ⟨ds, rfl, p⟩ | ⟨ds, rfl, p⟩
    · obtain ⟨a, xs, rfl, ha, hx⟩ := r1.list
      exact ⟨a, rfl, .inl ⟨⟨xs, SqL.of (mask_le _ _ ha)⟩, q _ H1 ds n1 e1 w1 (it_list ha hx) p⟩⟩
    · obtain ⟨a, xs, rfl, ha, hx⟩ := r1.tuple
      exact ⟨a, rfl, .inr ⟨⟨xs, SqT.of (mask_le _ _ ha)⟩, q _ H1 ds n1 e1 w1 (it_tup ha hx) p⟩⟩
theorem ei_list (h : EvR pn tl ρ n (fun d n1 => ∃ ds, d = .list ds ∧ P ds n1)) : EvI pn (uSeq K tl) ρ n P := ei_seq (h.imp fun d n p => .inl p)
theorem ei_tup (h : EvR pn tl ρ n (fun d n1 => ∃ ds, d = .tuple ds ∧ P ds n1)) : EvI pn (uSeq K tl) ρ n P := ei_seq (h.imp fun d n p => .inr p)
theorem ei_rng1 (h : EvA pn ta ρ n (fun as n1 => ∃ j : Int, as = [.int j] ∧ -(2 ^ 62) ≤ j ∧ j < 2 ^ 62 ∧ P (rgD 0 j.toNat) n1)) : EvI pn (iRng1 ta) ρ n P := fun X0 X σ H w rr R q =>
  h X0 X σ H w rr _ fun xs H1 as n1 e1 w1 r1 ⟨j, e, h1, h2, p⟩ => by
    subst e
    cases r1 with
    | cons r2 r3 =>
      cases r3
      exact ⟨j, by rw [r2.int'], h1, h2, q _ H1 _ n1 e1 w1 it_range p⟩
theorem ei_rng2 (h : EvA pn ta ρ n (fun as n1 => ∃ i j : Int, as = [.int i, .int j] ∧ (-(2 ^ 62) ≤ i ∧ i < 2 ^ 62 ∧ -(2 ^ 62) ≤ j ∧ j < 2 ^ 62) ∧ P (rgD i (j - i).toNat) n1)) : EvI pn (iRng2 ta) ρ n P := fun X0 X σ H w rr R q =>
  h X0 X σ H w rr _ fun xs H1 as n1 e1 w1 r1 ⟨i, j, e, h1, p⟩ => by
    subst e
    cases r1 with
    | cons r2 r3 =>
      cases r3 with
      | cons r4 r5 =>
        cases r5
        exact ⟨i, j, by rw [r2.int', r4.int'], h1, q _ H1 _ n1 e1 w1 it_range p⟩
theorem ei_rng3 (h : EvA pn ta ρ n (fun as n1 => ∃ (i j c : Int) (m : Nat), as = [.int i, .int j, .int c] ∧ RgC i j c m ∧ P (rgC i c m) n1)) : EvI pn (iRng3 ta) ρ n P := fun X0 X σ H w rr R q =>
  h X0 X σ H w rr _ fun xs H1 as n1 e1 w1 r1 ⟨i, j, c, m, e, h1, p⟩ => by
    subst e
    cases r1 with
    | cons r2 r3 =>
      cases r3 with
      | cons r4 r5 =>
        cases r5 with
        | cons r6 r7 =>
          cases r7
          exact ⟨i, j, c, m, by rw [r2.int', r4.int', r6.int'], h1, q _ H1 _ n1 e1 w1 it_rangeC p⟩
theorem ei_zip (h : EvA pn ta ρ n (fun as n1 => (∃ ds es, as = [.list ds, .list es] ∧ P (zipD ds es) n1) ∨ (∃ ds es, as = [.tuple ds, .tuple es] ∧ P (zipD ds es) n1))) : EvI pn (RZ.iZipA K ta) ρ n P := fun X0 X σ H w rr R q =>
  h X0 X σ H w rr _ fun xs H1 as n1 e1 w1 r1 h1 => by
    rcases h1 with ⟨ds, es, rfl, p⟩ | ⟨ds, es, rfl, p⟩
    · cases r1 with
      | cons r2 r3 =>
        cases r3 with
        | cons r4 r5 =>
          cases r5
          obtain ⟨a, xs, rfl, ha, hx⟩ := r2.list
          obtain ⟨b, ys, rfl, hb, hy⟩ := r4.list
          exact ⟨a, b, xs, ys, rfl, .inl ⟨SqL.of (mask_le _ _ ha), SqL.of (mask_le _ _ hb), q _ H1 _ n1 e1 w1 (it_zipL ha hx hb hy) p⟩⟩
    · cases r1 with
      | cons r2 r3 =>
        cases r3 with
        | cons r4 r5 =>
          cases r5
          obtain ⟨a, xs, rfl, ha, hx⟩ := r2.tuple
          obtain ⟨b, ys, rfl, hb, hy⟩ := r4.tuple
          exact ⟨a, b, xs, ys, rfl, .inr ⟨SqT.of (mask_le _ _ ha), SqT.of (mask_le _ _ hb), q _ H1 _ n1 e1 w1 (it_zipT ha hx hb hy) p⟩⟩
theorem ei_enumL (h : EvA pn ta ρ n (fun as n1 => ∃ ds, as = [.list ds] ∧ P (enumD ds) n1)) : EvI pn (iEnum K ta) ρ n P := fun X0 X σ H w rr R q =>
  h X0 X σ H w rr _ fun xs H1 as n1 e1 w1 r1 ⟨ds, e, p⟩ => by
    subst e
    cases r1 with
    | cons r2 r3 =>
      cases r3
      obtain ⟨a, xs, rfl, ha, hx⟩ := r2.list
      exact ⟨a, xs, rfl, SqL.of (mask_le _ _ ha), q _ H1 _ n1 e1 w1 (it_enumL ha hx) p⟩
end

/-! ### comprehensions -/
theorem ev_lc {pn : Option Pen} {ρ : En} {n : Nat} {P : List PyData → Nat → Prop} {wi : TI} {g : TG} {tt : TT} {te : TE} {vs : List Nat}
    (h : EvI pn wi ρ n (fun ds n1 => ∃ Iv : Nat → List PyData → Nat → Prop, Iv 0 [] n1 ∧
      (∀ i d acc n', ds[i]? = some d → Iv i acc n' → Tg vs g d (wipeE ρ vs) (fun ρ' => EvT pn tt ρ' n' (fun b n2 => if b = true then EvR pn te ρ' n2 (fun e n3 => acc.length < 100000 ∧ Iv (i + 1) (acc ++ [e]) n3) else Iv (i + 1) acc n2))) ∧
      (∀ acc n', Iv ds.length acc n' → P acc n'))) : EvL pn (tLc wi g tt te vs) ρ n P := fun X0 X σ H w rr Q q =>
  h X0 X σ H w rr _ fun J H1 ds n1 e1 w1 it ⟨Iv, i0, step, fin⟩ => fun D hD => by
    have r1 : Rel pn X0 X H1 σ ρ := rr.mono w e1
    have nX : X D = false := w1.fresh hD
    have hH : H D = none := Xt.fresh w1 e1 hD
    refine ⟨fun i m H' => i + m = ds.length ∧ ∃ acc xs n', Xt pn H1 H' ∧ Wd pn (ins D X) H' n' ∧ Wd pn X H' n' ∧ H' D = some (.lst xs) ∧ RpAll (mask (ins D X) H') xs acc ∧ Iv i acc n',
      ⟨ds.length, by omega, [], [], n1, Xt.of (same_new hD), w1.ins (w1.same (same_new hD)) hD upd_same, w1.same (same_new hD), upd_same, .nil, i0⟩, ?_⟩
    rintro i m H' ⟨em, acc, xs, n', xt, wD, wX, hxs, hacc, iv⟩
    have sF : Same (mask X H1) (mask (ins D X) H') := fun b u hb => by
      have h2 := Xt.mask w1 xt b u hb
      obtain ⟨h3, h4⟩ := mask_some h2
      refine mask_of ?_ h4
      rw [ins_ne]
      · exact h3
      · intro z
        obtain ⟨_, h5⟩ := mask_some hb
        rw [z, hD] at h5
        cases h5
    obtain ⟨hstop, hgo⟩ := it (ins D X) H' i sF wD.tr
    by_cases hi : i < ds.length
    · obtain ⟨go, hy⟩ := hgo ds[i] (List.getElem?_eq_getElem hi)
      refine .inr ⟨go, fun H2 => (i + 1) + (m - 1) = ds.length ∧ ∃ acc xs n', Xt pn H1 H2 ∧ Wd pn (ins D X) H2 n' ∧ Wd pn X H2 n' ∧ H2 D = some (.lst xs) ∧ RpAll (mask (ins D X) H2) xs acc ∧ Iv (i + 1) acc n', fun H2 hw => ⟨m - 1, by omega, hw⟩, fun x H2 y => ?_⟩
      obtain ⟨s2, rx⟩ := hy x H2 y
      have wD2 : Wd pn (ins D X) H2 n' := wD.same s2
      have x12 : Xt pn H1 H2 := xt.trans (Xt.of s2)
      have np : ∀ p, pn = some p → p.o ≠ D := fun p hp z => by
        have := (w1.pen p hp).1
        rw [z, nX] at this
        cases this
      have s0 : ∀ b, X0 b = true → ins D X b = true := fun b hb => ins_old (r1.sub b hb)
      -- the slots, D out of sight
      have rD : Rel pn X0 (ins D X) H2 (wipe σ vs) (wipeE ρ vs) := by
        have sF2 : Same (mask X H1) (mask (ins D X) H2) := fun b u hb => mask_same s2 b u (sF b u hb)
        have rD0 : Rel pn X0 (ins D X) H2 σ ρ := by
          refine ⟨s0, r1.pn0, r1.len, fun j s hj => ?_, r1.apart⟩
          obtain ⟨x, h1, h2⟩ := r1.slot j s hj
          refine ⟨x, h1, ?_⟩
          cases s with
          | un => trivial
          | dat d => obtain ⟨v, e1, e2⟩ := h2; exact ⟨v, e1, Rp.mono sF2 _ _ e2⟩
          | own ds =>
            obtain ⟨o', vs', e1, e2, e3, e4, e5, e6⟩ := h2
            exact ⟨o', vs', e1, ins_old e2, e3, e4, x12 o' _ e4 e5, RpAll.mono sF2 _ _ e6⟩
          | pen => exact h2
        exact rD0.wipe vs
      refine step i ds[i] acc n' (List.getElem?_eq_getElem hi) iv pn X0 (ins D X) H2 (wipe σ vs) x rD rx _ fun σ3 ρ3 r3 l3 k3 ht => ?_
      refine ⟨?_, ?_⟩
      · rw [wipe_eq l3 k3]
        exact wipe_wipe
      · refine ht X0 (ins D X) σ3 H2 wD2 r3 _ fun b H4 n4 e4 w4 p4 => ?_
        have hD4 : H4 D = some (.lst xs) := e4 D _ np (s2 _ _ hxs)
        have ha4 : RpAll (mask (ins D X) H4) xs acc := RpAll.mono (Xt.mask wD2 e4) _ _ (RpAll.mono (mask_same s2) _ _ hacc)
        have wX4 : Wd pn X H4 n4 := by
          have := w4.sub (X0 := X) (fun b hb => ins_old hb) (fun p hp => (w1.pen p hp).1)
          exact this
        cases b with
        | true =>
          rw [if_pos rfl] at p4
          rw [if_pos rfl]
          refine p4 X0 (ins D X) σ3 H4 w4 (r3.mono wD2 e4) _ fun v H5 d5 n5 e5 w5 r5 ⟨hlen, p5⟩ => ?_
          have hD5 : H5 D = some (.lst xs) := e5 D _ np hD4
          have ha5 : RpAll (mask (ins D X) H5) xs acc := RpAll.mono (Xt.mask w4 e5) _ _ ha4
          have wX5 : Wd pn X H5 n5 := w5.sub (X0 := X) (fun b hb => ins_old hb) (fun p hp => (w1.pen p hp).1)
          refine ⟨xs, hD5, by rw [hacc.length]; exact Nat.lt_of_lt_of_le hlen (by decide), by omega, acc ++ [d5], xs ++ [v], n5, ?_, w5.upd ins_self np, ?_, upd_same, ?_, p5⟩
          · intro b u hb hbu
            by_cases z : b = D
            · rw [z, hD] at hbu; cases hbu
            · rw [upd_ne z]; exact e5 b u hb (e4 b u hb (x12 b u hb hbu))
          · refine ⟨fun b hb => ?_, fun p hp => ?_⟩
            · by_cases z : b = D
              · rw [z]; exact ⟨_, upd_same⟩
              · rw [upd_ne z]; exact wX5.tr b hb
            · obtain ⟨h1, a, v', h2, h3, h4⟩ := wX5.pen p hp
              refine ⟨h1, a, v', by rw [upd_ne (np p hp)]; exact h2, ?_, h4⟩
              obtain ⟨h5, h6⟩ := mask_some h3
              refine mask_of h5 ?_
              rw [upd_ne]
              · exact h6
              · intro z
                obtain ⟨_, _, _, _, k3, _⟩ := w1.pen p hp
                obtain ⟨_, k4⟩ := mask_some k3
                rw [z, hD] at k4
                cases k4
          · rw [mask_upd ins_self]
            exact ha5.append (.one r5)
        | false =>
          rw [if_neg Bool.false_ne_true] at p4
          rw [if_neg Bool.false_ne_true]
          exact ⟨by omega, acc, xs, n4, x12.trans e4, w4, wX4, hD4, ha4, p4⟩
    · have e : i = ds.length := by omega
      subst e
      exact .inl ⟨hstop rfl, q D H' xs acc n' hH (e1.trans xt) wX hxs hacc (fin acc n' iv)⟩
/-- a comprehension that computes: which items are taken, what becomes of them -/
theorem ev_lcM {pn : Option Pen} {ρ : En} {n : Nat} {P : List PyData → Nat → Prop} {wi : TI} {g : TG} {tt : TT} {te : TE} {vs : List Nat}
    (h : EvI pn wi ρ n (fun ds n1 => ds.length ≤ 10000 ∧ ∃ (p : PyData → Bool) (f : PyData → PyData),
      (∀ d, d ∈ ds → Tg vs g d (wipeE ρ vs) (fun ρ' => EvT pn tt ρ' n1 (fun b n2 => n2 = n1 ∧ b = p d) ∧ (p d = true → EvR pn te ρ' n1 (fun e n3 => n3 = n1 ∧ e = f d)))) ∧
      P ((ds.filter p).map f) n1)) : EvL pn (tLc wi g tt te vs) ρ n P := by
  refine ev_lc fun X0 X σ H w rr R q => h X0 X σ H w rr R fun J H2 ds n2 e w2 it ⟨hl, p, f, hs, hp⟩ => q J H2 ds n2 e w2 it ?_
  refine ⟨fun i acc n' => acc = ((ds.take i).filter p).map f ∧ n' = n2, ⟨rfl, rfl⟩, fun i d acc n' hd ⟨ha, hn⟩ => ?_, fun acc n' ⟨ha, hn⟩ => ?_⟩
  · subst hn
    have hm : d ∈ ds := List.mem_of_getElem? hd
    have et : ds.take (i + 1) = ds.take i ++ [d] := by
      rw [List.take_add_one, hd]
      rfl
    intro pn' Y0 Y H' σ' x r' hx Q' q'
    refine hs d hm pn' Y0 Y H' σ' x r' hx Q' fun σ2 ρ2 r2 l2 k2 ⟨h1, h2⟩ => q' σ2 ρ2 r2 l2 k2 ?_
    intro Z0 Z τ G wz rz Q3 q3
    refine h1 Z0 Z τ G wz rz Q3 fun b G2 m2 eg wg ⟨em, eb⟩ => q3 b G2 m2 eg wg ?_
    subst em
    cases hb : p d with
    | true =>
      rw [eb, hb, if_pos rfl]
      refine (h2 hb).imp fun e3 m3 ⟨em3, ee⟩ => ⟨?_, ?_, em3⟩
      · rw [ha, List.length_map]
        have := List.length_filter_le p (ds.take i)
        have h5 : (ds.take i).length ≤ ds.length := by rw [List.length_take]; omega
        omega
      · rw [et, List.filter_append, List.map_append, ha, ee]
        rw [List.filter_cons, if_pos hb]
        rfl
    | false =>
      rw [eb, hb, if_neg Bool.false_ne_true]
      refine ⟨?_, rfl⟩
      rw [et, List.filter_append, List.map_append, ha, List.filter_cons, if_neg (by rw [hb]; decide)]
      simp
  · rw [List.take_length] at ha
    rw [ha, hn]
    exact hp
end AC
set_option Elab.async false
set_option linter.all false
set_option maxRecDepth 100000
set_option maxHeartbeats 1000000
/-! Statements, defs. -/
namespace AC
open PySem PySem.Spec PyProof.Rows L2

structure Good (pn : Option Pen) (X0 : Addr → Bool) (H0 : Hp) (X : Addr → Bool) (H : Hp) (n : Nat) : Prop where
  tr0 : ∀ b, X0 b = true → ∃ xs, H0 b = some (.lst xs)
  new : ∀ b, X b = true → X0 b = false → H0 b = none
  xt : Xt pn H0 H
  w : Wd pn X H n
def Cont (pn : Option Pen) (X0 : Addr → Bool) (H0 : Hp) (F : Hp) (N : En → Nat → Prop) (k : L2.St → Hp → Prop) : Prop :=
  ∀ ρ' n' X' σ' H', Good pn X0 H0 X' H' n' → Same F (mask X' H') → Rel pn X0 X' H' σ' ρ' → N ρ' n' → k σ' H'
def ContR (pn : Option Pen) (X0 : Addr → Bool) (H0 : Hp) (R : PyData → Nat → Prop) (k : VK) : Prop :=
  ∀ v H' d n', Xt pn H0 H' → Wd pn X0 H' n' → Rp (mask X0 H') v d → R d n' → k v H'
/-- what a statement does: N where it goes on, R what it returns, B, C behind break, continue -/
def Run (pn : Option Pen) (ts : TS) (ρ : En) (n : Nat) (N : En → Nat → Prop) (R : PyData → Nat → Prop) (B C : En → Nat → Prop) : Prop :=
  ∀ X0 H0 X σ H (D : Ends), Good pn X0 H0 X H n → Rel pn X0 X H σ ρ → Cont pn X0 H0 (mask X H) N D.nx → ContR pn X0 H0 R D.rt → Cont pn X0 H0 (mask X H) B D.bk → Cont pn X0 H0 (mask X H) C D.ct → ts D σ H
section
variable {pn : Option Pen} {ρ : En} {n : Nat} {N B C : En → Nat → Prop} {R : PyData → Nat → Prop} {ts t u : TS} {te ta tb : TE} {tt : TT} {i j : Nat} {X0 X : Addr → Bool} {H0 H H2 : Hp} {n2 : Nat}
theorem Cont.up {F F' : Hp} {k : L2.St → Hp → Prop} (c : Cont pn X0 H0 F N k) (s : Same F F') : Cont pn X0 H0 F' N k := fun ρ' n' X' σ' H' g s' r p => c ρ' n' X' σ' H' g (s.trans s') r p
theorem Good.next (g : Good pn X0 H0 X H n) (e : Xt pn H H2) (w : Wd pn X H2 n2) : Good pn X0 H0 X H2 n2 := ⟨g.tr0, g.new, g.xt.trans e, w⟩
theorem run_next (k : N ρ n) : Run pn tNext ρ n N R B C := fun X0 H0 X σ H D g r hn hr hb hc => hn ρ n X σ H g (fun _ _ h => h) r k
theorem run_break (k : B ρ n) : Run pn tBreak ρ n N R B C := fun X0 H0 X σ H D g r hn hr hb hc => hb ρ n X σ H g (fun _ _ h => h) r k
theorem run_cont (k : C ρ n) : Run pn tCont ρ n N R B C := fun X0 H0 X σ H D g r hn hr hb hc => hc ρ n X σ H g (fun _ _ h => h) r k
theorem run_seq (h : Run pn t ρ n (fun ρ' n' => Run pn u ρ' n' N R B C) R B C) : Run pn (tSeq t u) ρ n N R B C := fun X0 H0 X σ H D g r hn hr hb hc =>
  h X0 H0 X σ H { D with nx := u D } g r (fun ρ' n' X' σ' H' g' s' r' p => p X0 H0 X' σ' H' D g' r' (hn.up s') hr (hb.up s') (hc.up s')) hr hb hc
theorem run_asg {g : TG} (h : EvR pn te ρ n (fun d n1 => Tg (List.range 64) g d ρ (fun ρ' => N ρ' n1))) : Run pn (tAsg te g) ρ n N R B C := fun X0 H0 X σ H D gd r hn hr hb hc =>
  h X0 X σ H gd.w r _ fun v H2 d n2 e w2 r2 p => p pn X0 X H2 σ v (r.mono gd.w e) r2 _ fun σ' ρ' r' _ _ p' => hn ρ' n2 X σ' H2 (gd.next e w2) (Xt.mask gd.w e) r' p'
theorem run_set (h : EvR pn te ρ n (fun d n1 => N (ρ.set i (.dat d)) n1)) : Run pn (tAsg te (gName i)) ρ n N R B C := fun X0 H0 X σ H D gd r hn hr hb hc =>
  h X0 X σ H gd.w r _ fun v H2 d n2 e w2 r2 p => hn _ n2 X _ H2 (gd.next e w2) (Xt.mask gd.w e) ((r.mono gd.w e).set r2 i) p
theorem Good.own (g : Good pn X0 H0 X H n) (r : ∀ b, X0 b = true → X b = true) {o : Addr} {vs : List V} (e : Xt pn H H2) (w : Wd pn X H2 n2) (ho : H o = none) (h2 : H2 o = some (.lst vs)) : Good pn X0 H0 (ins o X) H2 n2 where
  tr0 := g.tr0
  new := fun b hb h0 => by
    by_cases z : b = o
    · rw [z]; exact Xt.fresh g.w g.xt ho
    · rw [ins_ne z] at hb; exact g.new b hb h0
  xt := g.xt.trans e
  w := g.w.ins w ho h2
theorem mask_own (g : Wd pn X H n) {o : Addr} (e : Xt pn H H2) (ho : H o = none) : Same (mask X H) (mask (ins o X) H2) := fun b u q => by
  have q2 := Xt.mask g e b u q
  obtain ⟨q3, q4⟩ := mask_some q2
  refine mask_of ?_ q4
  rw [ins_ne]
  · exact q3
  · intro z
    obtain ⟨_, q5⟩ := mask_some q
    rw [z, ho] at q5
    cases q5
theorem run_own (h : EvL pn te ρ n (fun ds n1 => N (ρ.set i (.own ds)) n1)) : Run pn (tAsg te (gName i)) ρ n N R B C := fun X0 H0 X σ H D gd r hn hr hb hc =>
  h X0 X σ H gd.w r _ fun o H2 vs ds n2 ho e w2 h2 ha p => hn _ n2 (ins o X) _ H2 (gd.own r.sub e w2 ho h2) (mask_own gd.w e ho) (r.own gd.w ho e w2 h2 ha i) p
theorem run_par (h : EvR pn ta ρ n (fun a n1 => EvR pn tb ρ n1 (fun b n2 => N ((ρ.set i (.dat a)).set j (.dat b)) n2))) : Run pn (tPar i j (tCons ta (tCons tb tNil))) ρ n N R B C := fun X0 H0 X σ H D gd r hn hr hb hc =>
  h X0 X σ H gd.w r _ fun v H1 a n1 e1 w1 r1 h1 => h1 X0 X σ H1 w1 (r.mono gd.w e1) _ fun u H2 b n2 e2 w2 r2 p =>
    ⟨v, u, rfl, hn _ n2 X _ H2 (gd.next (e1.trans e2) w2) (Xt.mask gd.w (e1.trans e2)) (((r.mono gd.w (e1.trans e2)).set (Rp.mono (Xt.mask w1 e2) _ _ r1) i).set r2 j) p⟩
/-- found, x = [..], e -/
theorem run_parL (h : EvL pn ta ρ n (fun ds n1 => EvR pn tb ρ n1 (fun b n2 => N ((ρ.set i (.own ds)).set j (.dat b)) n2))) : Run pn (tPar i j (tCons ta (tCons tb tNil))) ρ n N R B C := fun X0 H0 X σ H D gd r hn hr hb hc =>
  h X0 X σ H gd.w r _ fun o H1 vs ds n1 ho e1 w1 h1 ha hk => by
    have w1' : Wd pn (ins o X) H1 n1 := gd.w.ins w1 ho h1
    have r1 : Rel pn X0 (ins o X) H1 σ ρ := by
      have q := r.own gd.w ho e1 w1 h1 ha σ.length
      rw [List.set_eq_of_length_le (Nat.le_refl _), List.set_eq_of_length_le (Nat.le_of_eq r.len.symm)] at q
      exact q
    refine hk X0 (ins o X) σ H1 w1' r1 _ fun u H2 b n2 e2 w2 r2 p => ?_
    have np : ∀ p, pn = some p → p.o ≠ o := fun p hp z => by
      obtain ⟨_, a, v, h3, _⟩ := gd.w.pen p hp
      rw [z, ho] at h3
      cases h3
    have h2o : H2 o = some (.lst vs) := e2 o _ np h1
    have g2 : Good pn X0 H0 (ins o X) H2 n2 := (gd.own r.sub e1 w1 ho h1).next e2 w2
    have wX2 : Wd pn X H2 n2 := w2.sub (X0 := X) (fun b hb => ins_old hb) (fun p hp => (gd.w.pen p hp).1)
    have ha2 : RpAll (mask (ins o X) H2) vs ds := RpAll.mono (Xt.mask w1' e2) _ _ ha
    have r3 := r.own gd.w ho (e1.trans e2) wX2 h2o ha2 i
    exact ⟨_, u, rfl, hn _ n2 (ins o X) _ H2 g2 (mask_own gd.w (e1.trans e2) ho) (r3.set r2 j) p⟩
/-- found, here = [..], [..] -/
theorem run_parLL (h : EvL pn ta ρ n (fun ds n1 => EvL pn tb ρ n1 (fun es n2 => N ((ρ.set i (.own ds)).set j (.own es)) n2))) : Run pn (tPar i j (tCons ta (tCons tb tNil))) ρ n N R B C := fun X0 H0 X σ H D gd r hn hr hb hc =>
  h X0 X σ H gd.w r _ fun o H1 vs ds n1 ho e1 w1 h1 ha hk => by
    have w1' : Wd pn (ins o X) H1 n1 := gd.w.ins w1 ho h1
    have r1 : Rel pn X0 (ins o X) H1 σ ρ := by
      have q := r.own gd.w ho e1 w1 h1 ha σ.length
      rw [List.set_eq_of_length_le (Nat.le_refl _), List.set_eq_of_length_le (Nat.le_of_eq r.len.symm)] at q
      exact q
    refine hk X0 (ins o X) σ H1 w1' r1 _ fun o2 H2 us es n2 ho2 e2 w2 h2 ha2 p => ?_
    have np : ∀ p, pn = some p → p.o ≠ o := fun p hp z => by
      obtain ⟨_, a, v, h3, _⟩ := gd.w.pen p hp
      rw [z, ho] at h3
      cases h3
    have r3 : Rel pn X0 (ins o X) H1 (σ.set i (some (.ref o))) (ρ.set i (.own ds)) := r.own gd.w ho e1 w1 h1 ha i
    have g1 : Good pn X0 H0 (ins o X) H1 n1 := gd.own r.sub e1 w1 ho h1
    have r4 := r3.own w1' ho2 e2 w2 h2 ha2 j
    have g2 : Good pn X0 H0 (ins o2 (ins o X)) H2 n2 := g1.own r3.sub e2 w2 ho2 h2
    exact ⟨_, _, rfl, hn _ n2 _ _ H2 g2 (Same.trans (mask_own gd.w e1 ho) (mask_own w1' e2 ho2)) r4 p⟩
theorem run_if (h : EvT pn tt ρ n (fun b n1 => if b = true then Run pn t ρ n1 N R B C else Run pn u ρ n1 N R B C)) : Run pn (tIfS tt t u) ρ n N R B C := fun X0 H0 X σ H D g r hn hr hb hc =>
  h X0 X σ H g.w r _ fun b H1 n1 e1 w1 p => by
    cases b with
    | true => exact (show Run pn t ρ n1 N R B C from p) X0 H0 X σ H1 D (g.next e1 w1) (r.mono g.w e1) (hn.up (Xt.mask g.w e1)) hr (hb.up (Xt.mask g.w e1)) (hc.up (Xt.mask g.w e1))
    | false => exact (show Run pn u ρ n1 N R B C from p) X0 H0 X σ H1 D (g.next e1 w1) (r.mono g.w e1) (hn.up (Xt.mask g.w e1)) hr (hb.up (Xt.mask g.w e1)) (hc.up (Xt.mask g.w e1))
theorem run_ret (h : EvR pn te (frz ρ) n R) : Run pn (tRet te) ρ n N R B C := fun X0 H0 X σ H D g r hn hr hb hc =>
  h X0 X0 σ H (g.w.sub r.sub r.pn0) r.frz _ fun v H2 d n2 e w2 r2 p => hr v H2 d n2 (g.xt.trans e) w2 r2 p
theorem run_app {K : PySem.W.Frag} {ds : List PyData} (hi : ρ[i]? = some (.own ds)) (h : EvR pn te ρ n (fun d n1 => ds.length < 100000 ∧ N (ρ.set i (.own (ds ++ [d]))) n1)) :
    Run pn (tDrop (tBM K "list" rAppend (tVar i) (tCons te tNil))) ρ n N R B C := fun X0 H0 X σ H D g r hn hr hb hc => by
  obtain ⟨x, h1, o, vs, rfl, e2, e3, e4, e5, e6⟩ := r.slot i _ hi
  refine ⟨.ref o, h1, .inl ⟨rfl, vs, SqL.of e5⟩, ?_⟩
  refine h X0 X σ H g.w r _ fun v H2 d n2 e w2 r2 ⟨hl, p⟩ => ?_
  have h5 : H2 o = some (.lst vs) := e o _ e4 e5
  have r3 : Rel pn X0 X H2 σ ρ := r.mono g.w e
  have ha : RpAll (mask X H2) (vs ++ [v]) (ds ++ [d]) := (RpAll.mono (Xt.mask g.w e) _ _ e6).append (.one r2)
  refine ⟨o, vs, v, rfl, rfl, h5, by rw [e6.length]; exact Nat.lt_of_lt_of_le hl (by decide), ?_⟩
  have wu : Wd pn X (upd H2 o (.lst (vs ++ [v]))) n2 := w2.upd e2 e4
  refine hn _ n2 X σ _ ⟨g.tr0, g.new, ?_, wu⟩ ?_ (r3.chg hi h1 ha) p
  · intro b u hb hbu
    by_cases z : b = o
    · rw [z, g.new o e2 e3] at hbu; cases hbu
    · rw [upd_ne z]; exact e b u hb (g.xt b u hb hbu)
  · rw [mask_upd e2]; exact Xt.mask g.w e
theorem run_ext {K : PySem.W.Frag} {ds : List PyData} (hi : ρ[i]? = some (.own ds)) (h : EvR pn te ρ n (fun d n1 => ∃ es, d = .list es ∧ ds.length + es.length ≤ 100000 ∧ N (ρ.set i (.own (ds ++ es))) n1)) :
    Run pn (tDrop (tBM K "list" rExtend (tVar i) (tCons te tNil))) ρ n N R B C := fun X0 H0 X σ H D g r hn hr hb hc => by
  obtain ⟨x, h1, o, vs, rfl, e2, e3, e4, e5, e6⟩ := r.slot i _ hi
  refine ⟨.ref o, h1, .inl ⟨rfl, vs, SqL.of e5⟩, ?_⟩
  refine h X0 X σ H g.w r _ fun v H2 d n2 e w2 r2 ⟨es, ed, hl, p⟩ => ?_
  subst ed
  obtain ⟨a, zs, rfl, hz, haz⟩ := r2.list
  have h5 : H2 o = some (.lst vs) := e o _ e4 e5
  have r3 : Rel pn X0 X H2 σ ρ := r.mono g.w e
  have ha : RpAll (mask X H2) (vs ++ zs) (ds ++ es) := (RpAll.mono (Xt.mask g.w e) _ _ e6).append haz
  refine ⟨o, a, vs, zs, rfl, rfl, h5, mask_le _ _ hz, by rw [e6.length, haz.length]; exact Nat.le_trans hl (by decide), ?_⟩
  have wu : Wd pn X (upd H2 o (.lst (vs ++ zs))) n2 := w2.upd e2 e4
  refine hn _ n2 X σ _ ⟨g.tr0, g.new, ?_, wu⟩ ?_ (r3.chg hi h1 ha) p
  · intro b u hb hbu
    by_cases z : b = o
    · rw [z, g.new o e2 e3] at hbu; cases hbu
    · rw [upd_ne z]; exact e b u hb (g.xt b u hb hbu)
  · rw [mask_upd e2]; exact Xt.mask g.w e
/-- found[k] = e -/
theorem run_setI {ti : TE} {ds : List PyData} (hi : ρ[i]? = some (.own ds)) (h : EvR pn te ρ n (fun d n1 => EvR pn ti ρ n1 (fun k n2 => ∃ z m, k = .int z ∧ ixN ds.length z = some m ∧ N (ρ.set i (.own (ds.set m d))) n2))) :
    Run pn (tAsg te (gSub (tVar i) ti rSetL)) ρ n N R B C := fun X0 H0 X σ H D g r hn hr hb hc => by
  refine h X0 X σ H g.w r _ fun v H1 d n1 f1 w1 r1 hk => ?_
  obtain ⟨x, h1, o, vs, rfl, e2, e3, e4, e5, e6⟩ := (r.mono g.w f1).slot i _ hi
  refine ⟨.ref o, h1, ?_⟩
  refine hk X0 X σ H1 w1 (r.mono g.w f1) _ fun kv H2 kd n2 f2 w2 r2 ⟨z, m, ek, em, p⟩ => ?_
  subst ek
  have e : Xt pn H H2 := f1.trans f2
  have h5 : H2 o = some (.lst vs) := f2 o _ e4 e5
  have r3 : Rel pn X0 X H2 σ ρ := r.mono g.w e
  have ha : RpAll (mask X H2) (vs.set m v) (ds.set m d) := (RpAll.mono (Xt.mask w1 f2) _ _ e6).set m (Rp.mono (Xt.mask w1 f2) _ _ r1)
  refine ⟨o, vs, z, m, rfl, r2.int', h5, by rw [e6.length]; exact em, ?_⟩
  have wu : Wd pn X (upd H2 o (.lst (vs.set m v))) n2 := w2.upd e2 e4
  refine hn _ n2 X σ _ ⟨g.tr0, g.new, ?_, wu⟩ ?_ (r3.chg hi h1 ha) p
  · intro b u hb hbu
    by_cases zz : b = o
    · rw [zz, g.new o e2 e3] at hbu; cases hbu
    · rw [upd_ne zz]; exact e b u hb (g.xt b u hb hbu)
  · rw [mask_upd e2]; exact Xt.mask g.w e
/-- an item of a list, by values -/
def rGetL (K : PySem.W.Frag) : V → V → Hp → VK → Prop := rIxL K
/-- found[k] += e, ints -/
theorem run_augI {ti : TE} {ds : List PyData} {K : PySem.W.Frag} {f : Int → Int → Int} (hi : ρ[i]? = some (.own ds)) (h : EvR pn ti ρ n (fun k n1 => ∃ z m a, k = .int z ∧ ixN ds.length z = some m ∧ ds[m]? = some (.int a) ∧
    EvR pn te ρ n1 (fun d n2 => ∃ b, d = .int b ∧ N (ρ.set i (.own (ds.set m (.int (f a b))))) n2))) :
    Run pn (tAugS (tVar i) ti te (rGetL K) (ipI f) rSetL) ρ n N R B C := fun X0 H0 X σ H D g r hn hr hb hc => by
  obtain ⟨x, h1, o, vs, rfl, e2, e3, e4, e5, e6⟩ := r.slot i _ hi
  refine ⟨.ref o, h1, ?_⟩
  refine h X0 X σ H g.w r _ fun kv H1 kd n1 f1 w1 r1 ⟨z, m, a, ek, em, ea, hk⟩ => ?_
  subst ek
  have e51 : H1 o = some (.lst vs) := f1 o _ e4 e5
  have e61 : RpAll (mask X H1) vs ds := RpAll.mono (Xt.mask g.w f1) _ _ e6
  obtain ⟨av, g1, g2⟩ := e61.get ea
  have hat : atI vs z = some av := by
    unfold atI
    rw [e61.length, em]
    exact g1
  refine ⟨o, vs, z, av, rfl, r1.int', SqL.of e51, hat, ?_⟩
  refine hk X0 X σ H1 w1 (r.mono g.w f1) _ fun bv H2 bd n2 f2 w2 r2 ⟨b, eb, p⟩ => ?_
  subst eb
  have e : Xt pn H H2 := f1.trans f2
  have h5 : H2 o = some (.lst vs) := f2 o _ e4 e51
  have r3 : Rel pn X0 X H2 σ ρ := r.mono g.w e
  have ha : RpAll (mask X H2) (vs.set m (.int (f a b))) (ds.set m (.int (f a b))) := (RpAll.mono (Xt.mask w1 f2) _ _ e61).set m (.int _)
  refine ⟨a, b, g2.int', r2.int', o, vs, z, m, rfl, r1.int', h5, by rw [e61.length]; exact em, ?_⟩
  have wu : Wd pn X (upd H2 o (.lst (vs.set m (.int (f a b))))) n2 := w2.upd e2 e4
  refine hn _ n2 X σ _ ⟨g.tr0, g.new, ?_, wu⟩ ?_ (r3.chg hi h1 ha) p
  · intro b u hb hbu
    by_cases zz : b = o
    · rw [zz, g.new o e2 e3] at hbu; cases hbu
    · rw [upd_ne zz]; exact e b u hb (g.xt b u hb hbu)
  · rw [mask_upd e2]; exact Xt.mask g.w e
/-- an owned list goes out of the def's hand: it is data from here on -/
theorem run_let {ds : List PyData} (hi : ρ[i]? = some (.own ds)) (h : Run pn ts (ρ.set i (.dat (.list ds))) n N R B C) : Run pn ts ρ n N R B C := fun X0 H0 X σ H D g r hn hr hb hc => by
  obtain ⟨x, h1, o, vs, rfl, e2, e3, e4, e5, e6⟩ := r.slot i _ hi
  -- o in sight again
  generalize hY : (fun b => if b = o then false else X b : Addr → Bool) = Y
  have Yo : Y o = false := by rw [← hY]; simp
  have Yn : ∀ b, b ≠ o → Y b = X b := fun b hb => by rw [← hY]; simp [hb]
  have sub : ∀ b, Y b = true → X b = true := fun b hb => by
    by_cases z : b = o
    · rw [z, Yo] at hb; cases hb
    · rw [Yn b z] at hb; exact hb
  have sub0 : ∀ b, X0 b = true → Y b = true := fun b hb => by
    rw [Yn b (fun z => by rw [z, e3] at hb; cases hb)]
    exact r.sub b hb
  have sm : Same (mask X H) (mask Y H) := mask_sub sub
  have wY : Wd pn Y H n := g.w.sub sub (fun p hp => sub0 _ (r.pn0 p hp))
  have gY : Good pn X0 H0 Y H n := ⟨g.tr0, fun b hb h0 => g.new b (sub b hb) h0, g.xt, wY⟩
  have hil : i < ρ.length := (List.getElem?_eq_some_iff.mp hi).1
  have rY : Rel pn X0 Y H σ (ρ.set i (.dat (.list ds))) := by
    refine ⟨sub0, r.pn0, by rw [List.length_set]; exact r.len, fun j s q => ?_, fun a b c f1 f2 hab q1 q2 g1 g2 => ?_⟩
    · by_cases hj : i = j
      · subst hj
        rw [List.getElem?_set_self hil] at q
        cases q
        exact ⟨_, h1, _, rfl, .lst (mask_of Yo e5) (RpAll.mono sm _ _ e6)⟩
      · rw [List.getElem?_set_ne hj] at q
        obtain ⟨x, k1, k2⟩ := r.slot j s q
        refine ⟨x, k1, ?_⟩
        cases s with
        | un => trivial
        | dat d => obtain ⟨v, l1, l2⟩ := k2; exact ⟨v, l1, Rp.mono sm _ _ l2⟩
        | own fs =>
          obtain ⟨q1, q2, l1, l2, l3, l4, l5, l6⟩ := k2
          refine ⟨q1, q2, l1, ?_, l3, l4, l5, RpAll.mono sm _ _ l6⟩
          rw [Yn]
          · exact l2
          · intro z
            subst z
            subst l1
            exact r.apart i j q1 ds fs hj hi q h1 k1
        | pen => exact k2
    · have old : ∀ (k : Nat) (fs : List PyData), (ρ.set i (.dat (.list ds)))[k]? = some (.own fs) → ρ[k]? = some (Sl.own fs) := fun k fs h => by
        by_cases hk : i = k
        · subst hk; rw [List.getElem?_set_self hil] at h; cases h
        · rw [List.getElem?_set_ne hk] at h; exact h
      exact r.apart a b c f1 f2 hab (old _ _ q1) (old _ _ q2) g1 g2
  exact h X0 H0 Y σ H D gY rY (hn.up sm) hr (hb.up sm) (hc.up sm)
theorem run_for {wi : TI} {g : TG} (h : EvI pn wi ρ n (fun ds n1 => ∃ Iv : Nat → En → Nat → Prop, Iv 0 ρ n1 ∧
    (∀ i d ρ' n', ds[i]? = some d → Iv i ρ' n' → Tg (List.range 64) g d ρ' (fun ρ2 => Run pn t ρ2 n' (Iv (i + 1)) R N (Iv (i + 1)))) ∧ (∀ ρ' n', Iv ds.length ρ' n' → N ρ' n'))) : Run pn (tFor wi g t) ρ n N R B C := fun X0 H0 X σ H D gd r hn hr hb hc =>
  h X0 X σ H gd.w r _ fun J H1 ds n1 e1 w1 it ⟨Iv, i0, step, fin⟩ => by
    have s1 : Same (mask X H) (mask X H1) := Xt.mask gd.w e1
    refine ⟨fun i m σ' H' => i + m = ds.length ∧ ∃ ρ' X' n', Good pn X0 H0 X' H' n' ∧ Rel pn X0 X' H' σ' ρ' ∧ Same (mask X H1) (mask X' H') ∧ Iv i ρ' n',
      ⟨ds.length, by omega, ρ, X, n1, gd.next e1 w1, r.mono gd.w e1, fun _ _ z => z, i0⟩, ?_⟩
    rintro i m σ' H' ⟨em, ρ', X', n', g', r', s', iv⟩
    obtain ⟨hstop, hgo⟩ := it X' H' i s' g'.w.tr
    by_cases hi : i < ds.length
    · obtain ⟨go, hy⟩ := hgo ds[i] (List.getElem?_eq_getElem hi)
      refine .inr ⟨go, fun σ2 H2 => (i + 1) + (m - 1) = ds.length ∧ ∃ ρ2 X2 n2, Good pn X0 H0 X2 H2 n2 ∧ Rel pn X0 X2 H2 σ2 ρ2 ∧ Same (mask X H1) (mask X2 H2) ∧ Iv (i + 1) ρ2 n2, fun σ2 H2 hw => ⟨m - 1, by omega, hw⟩, fun x H2 y => ?_⟩
      obtain ⟨s2, rx⟩ := hy x H2 y
      have g2 : Good pn X0 H0 X' H2 n' := g'.next (Xt.of s2) (g'.w.same s2)
      have r2 : Rel pn X0 X' H2 σ' ρ' := r'.mono g'.w (Xt.of s2)
      have s2' : Same (mask X H1) (mask X' H2) := s'.trans (mask_same s2)
      refine step i ds[i] ρ' n' (List.getElem?_eq_getElem hi) iv pn X0 X' H2 σ' x r2 rx _ fun σ3 ρ3 r3 _ _ hrun => ?_
      refine hrun X0 H0 X' σ3 H2 _ g2 r3 ?_ hr ?_ ?_
      · intro ρ4 n4 X4 σ4 H4 g4 s4 r4 p4
        exact ⟨by omega, ρ4, X4, n4, g4, r4, s2'.trans s4, p4⟩
      · exact hn.up (s1.trans s2')
      · intro ρ4 n4 X4 σ4 H4 g4 s4 r4 p4
        exact ⟨by omega, ρ4, X4, n4, g4, r4, s2'.trans s4, p4⟩
    · have e : i = ds.length := by omega
      subst e
      exact .inl ⟨hstop rfl, hn ρ' n' X' σ' H' g' (s1.trans s') r' (fin ρ' n' iv)⟩
theorem run_while (W : Nat → En → Nat → Prop) (m0 : Nat) (h0 : W m0 ρ n) (hs : ∀ m ρ' n', W m ρ' n' → EvT pn tt ρ' n' (fun b n2 => if b = true then Run pn t ρ' n2 (fun ρ2 n3 => ∃ m', m' < m ∧ W m' ρ2 n3) R N (fun ρ2 n3 => ∃ m', m' < m ∧ W m' ρ2 n3) else N ρ' n2)) :
    Run pn (tWhile tt t) ρ n N R B C := fun X0 H0 X σ H D gd r hn hr hb hc => by
  refine ⟨fun m σ' H' => ∃ ρ' X' n', Good pn X0 H0 X' H' n' ∧ Rel pn X0 X' H' σ' ρ' ∧ Same (mask X H) (mask X' H') ∧ W m ρ' n', ⟨m0, ρ, X, n, gd, r, fun _ _ z => z, h0⟩, ?_⟩
  rintro m σ' H' ⟨ρ', X', n', g', r', s', w'⟩
  refine hs m ρ' n' w' X0 X' σ' H' g'.w r' _ fun b H2 n2 e2 w2 p => ?_
  have g2 : Good pn X0 H0 X' H2 n2 := g'.next e2 w2
  have r2 : Rel pn X0 X' H2 σ' ρ' := r'.mono g'.w e2
  have s2 : Same (mask X H) (mask X' H2) := s'.trans (Xt.mask g'.w e2)
  cases b with
  | true =>
    rw [if_pos rfl] at p
    rw [if_pos rfl]
    refine ⟨fun σ3 H3 => ∃ m', m' < m ∧ ∃ ρ3 X3 n3, Good pn X0 H0 X3 H3 n3 ∧ Rel pn X0 X3 H3 σ3 ρ3 ∧ Same (mask X H) (mask X3 H3) ∧ W m' ρ3 n3, fun σ3 H3 h => h, ?_⟩
    refine p X0 H0 X' σ' H2 _ g2 r2 ?_ hr (hn.up s2) ?_
    · rintro ρ4 n4 X4 σ4 H4 g4 s4 r4 ⟨m', hm, p4⟩
      exact ⟨m', hm, ρ4, X4, n4, g4, r4, s2.trans s4, p4⟩
    · rintro ρ4 n4 X4 σ4 H4 g4 s4 r4 ⟨m', hm, p4⟩
      exact ⟨m', hm, ρ4, X4, n4, g4, r4, s2.trans s4, p4⟩
  | false =>
    rw [if_neg Bool.false_ne_true] at p
    rw [if_neg Bool.false_ne_true]
    exact hn ρ' n2 X' σ' H2 g2 s2 r2 p
end

/-! ### defs -/
/-- a def of plain data: S tells of the arguments what is known of the answer -/
abbrev Spec := List PyData → (PyData → Prop) → Prop
def fsp (S : Spec) : Sp := fun vs H Q _ => ∃ (X : Addr → Bool) (ds : List PyData) (R : PyData → Prop), (∀ b, X b = true → ∃ xs, H b = some (.lst xs)) ∧ RpAll (mask X H) vs ds ∧ S ds R ∧
  ∀ v H2 d, Same H H2 → Rp (mask X H2) v d → R d → Q v H2
/-- a def whose first argument is the pen -/
abbrev SpecP := List PyData → Nat → (PyData → Nat → Prop) → Prop
def psp (S : SpecP) : Sp := fun vs H Q _ => ∃ (X : Addr → Bool) (p : Pen) (n : Nat) (vs' : List V) (ds : List PyData) (R : PyData → Nat → Prop), vs = .ref p.o :: vs' ∧ Wd (some p) X H n ∧ RpAll (mask X H) vs' ds ∧ S ds n R ∧
  ∀ v H2 d n2, Xt (some p) H H2 → Wd (some p) X H2 n2 → Rp (mask X H2) v d → R d n2 → Q v H2
section
variable {pn : Option Pen} {ρ : En} {n : Nat} {P : PyData → Nat → Prop} {ta : TA} {E : XK}
theorem ev_call {S : Spec} (h : EvA pn ta ρ n (fun ds n1 => ∃ R, S ds R ∧ ∀ d, R d → P d n1)) : EvR pn (tCall (fsp S) [] E ta) ρ n P := fun X0 X σ H w r Q q =>
  h X0 X σ H w r _ fun vs H1 ds n1 e1 w1 r1 ⟨R, p1, p2⟩ => by
    rw [List.append_nil]
    exact ⟨X, ds, R, w1.tr, r1, p1, fun v H2 d s r2 hd => q v H2 d n1 (e1.trans (Xt.of s)) (w1.same s) r2 (p2 d hd)⟩
theorem ev_callP {S : SpecP} {i : Nat} (hi : ρ[i]? = some .pen) (h : EvA pn ta ρ n (fun ds n1 => ∃ R, S ds n1 R ∧ ∀ d n2, R d n2 → P d n2)) :
    EvR pn (tCall (psp S) [] E (tCons (tVar i) ta)) ρ n P := fun X0 X σ H w r Q q => by
  obtain ⟨x, h1, p, hp, rfl⟩ := r.slot i _ hi
  subst hp
  refine ⟨_, h1, ?_⟩
  refine h X0 X σ H w r _ fun vs H1 ds n1 e1 w1 r1 ⟨R, p1, p2⟩ => ?_
  show psp S ((.ref p.o :: vs) ++ []) H1 Q E
  rw [List.append_nil]
  exact ⟨X, p, n1, vs, ds, R, rfl, w1, r1, p1, fun v H2 d n2 s w2 r2 hd => q v H2 d n2 (e1.trans s) w2 r2 (p2 d n2 hd)⟩
end
def startE (N : List Str) (ds : List PyData) : En := ds.map .dat ++ List.replicate (N.length - ds.length) .un
def startP (N : List Str) (ds : List PyData) : En := .pen :: (ds.map .dat ++ List.replicate (N.length - (ds.length + 1)) .un)
theorem rel_start {X : Addr → Bool} {H : Hp} {vs : List V} {ds : List PyData} (N : List Str) (h : RpAll (mask X H) vs ds) : Rel none X X H (L2.start N vs) (startE N ds) := by
  have hl := h.length
  refine ⟨fun _ z => z, fun p hp => (by cases hp), ?_, fun i s e => ?_, fun i j o ds es hij e1 e2 g1 g2 => ?_⟩
  · unfold L2.start startE
    simp [hl]
  · unfold startE at e
    unfold L2.start
    by_cases hi : i < ds.length
    · rw [List.getElem?_append_left (by rw [List.length_map]; exact hi), List.getElem?_map] at e
      obtain ⟨d, e1, rfl⟩ := Option.map_eq_some_iff.mp e
      obtain ⟨v, g1, g2⟩ := h.get e1
      refine ⟨some v, ?_, v, rfl, g2⟩
      rw [List.getElem?_append_left (by rw [List.length_map, hl]; exact hi), List.getElem?_map, g1]
      rfl
    · rw [List.getElem?_append_right (by rw [List.length_map]; omega), List.length_map] at e
      obtain ⟨g1, g2⟩ := List.getElem?_eq_some_iff.mp e
      rw [List.getElem_replicate] at g2
      subst g2
      rw [List.length_replicate] at g1
      refine ⟨none, ?_, trivial⟩
      rw [List.getElem?_append_right (by rw [List.length_map, hl]; omega), List.length_map, hl]
      rw [List.getElem?_replicate, if_pos g1]
  · unfold startE at e1
    by_cases hi : i < ds.length
    · exfalso
      have : ∀ (l : List PyData) (k m : Nat) (fs : List PyData), (l.map Sl.dat ++ List.replicate m Sl.un)[k]? = some (.own fs) → False := fun l k m fs hh => by
        have := List.mem_of_getElem? hh
        simp at this
      exact this _ _ _ _ e1
    · have : ∀ (l : List PyData) (k m : Nat) (fs : List PyData), (l.map Sl.dat ++ List.replicate m Sl.un)[k]? = some (.own fs) → False := fun l k m fs hh => by
        have := List.mem_of_getElem? hh
        simp at this
      exact this _ _ _ _ e1
section
variable {P : Program} {w : World} {K : PySem.W.Frag} {mg : Str → Option Value} {base : Heap} {x qual : Str} {params : Arguments} {body : List Stmt} {scope : Scope} {f : Addr} {fd : FuncData} {N ps : List Str} {k : Nat}
/-- THE RULE: a def's body, run over data -/
theorem fn_ok {Sp0 : Spec} (F : FunD K x qual params body scope [] [] f fd) (S : FnScope N ps scope) (len : ∀ ds R, Sp0 ds R → ds.length = ps.length)
    (hbody : ∀ (cdv : Value) (A : Around) (outer : List Env) (s : Shared) (H : Hp) (E : XK), Room k (A.deeper (envOfC qual scope s.heap.objs.size f cdv)) →
      ∃ t, PSs (cxOf CX0 P w K mg base N qual scope f cdv A outer s H E) body t ∧ ∀ ds R, Sp0 ds R → Run none t (startE N ds) 0 (fun _ _ => R .none) (fun d _ => R d) (fun _ _ => False) (fun _ _ => False)) :
    FnOk P w K mg base CX0 (k + 1) f fd ps (fsp Sp0) := by
  refine F.ok S (fun vs H Q E h => ?_) fun cdv A outer s H vs Q E hr h => ?_
  · obtain ⟨X, ds, R, tr, r, p, _⟩ := h
    rw [r.length, len ds R p]
  · obtain ⟨X, ds, R, tr, r, p, q⟩ := h
    obtain ⟨t, ht, hrun⟩ := hbody cdv A outer s H E hr
    refine ⟨t, ht, ?_⟩
    have xs : ∀ {H' : Hp}, Xt none H H' → Same H H' := fun e b u hb => e b u (fun p hp => (by cases hp)) hb
    have w0 : Wd none X H 0 := ⟨tr, fun p hp => (by cases hp)⟩
    refine hrun ds R p X H X (L2.start N vs) H _ ⟨tr, fun b h1 h2 => (by rw [h1] at h2; cases h2), Xt.refl, w0⟩ (rel_start N r) ?_ ?_ ?_ ?_
    · intro ρ' n' X' σ' H' g' s' r' p'
      exact q .non H' .none (xs g'.xt) .non p'
    · intro v H' d n' e w' r' p'
      exact q v H' d (xs e) r' p'
    · intro ρ' n' X' σ' H' g' s' r' p'
      exact p'.elim
    · intro ρ' n' X' σ' H' g' s' r' p'
      exact p'.elim
theorem fn_okP {Sp0 : SpecP} (F : FunD K x qual params body scope [] [] f fd) (S : FnScope N ps scope) (len : ∀ ds n R, Sp0 ds n R → ds.length + 1 = ps.length)
    (hbody : ∀ (cdv : Value) (A : Around) (outer : List Env) (s : Shared) (H : Hp) (E : XK), Room k (A.deeper (envOfC qual scope s.heap.objs.size f cdv)) →
      ∃ t, PSs (cxOf CX0 P w K mg base N qual scope f cdv A outer s H E) body t ∧ ∀ p ds n R, Sp0 ds n R → Run (some p) t (startP N ds) n (fun _ n2 => R .none n2) R (fun _ _ => False) (fun _ _ => False)) :
    FnOk P w K mg base CX0 (k + 1) f fd ps (psp Sp0) := by
  refine F.ok S (fun vs H Q E h => ?_) fun cdv A outer s H vs Q E hr h => ?_
  · obtain ⟨X, p, n, vs', ds, R, rfl, _, r, hp, _⟩ := h
    rw [List.length_cons, r.length, len ds n R hp]
  · obtain ⟨X, p, n, vs', ds, R, rfl, w0, r, hp, q⟩ := h
    obtain ⟨t, ht, hrun⟩ := hbody cdv A outer s H E hr
    refine ⟨t, ht, ?_⟩
    have r0 := rel_start N r
    have rl : Rel (some p) X X H (L2.start N (.ref p.o :: vs')) (startP N ds) := by
      have hl := r.length
      have z := Rel.len r0
      have eσ : L2.start N (.ref p.o :: vs') = some (.ref p.o) :: (vs'.map some ++ List.replicate (N.length - (vs'.length + 1)) none) := by unfold L2.start; rfl
      refine ⟨fun _ z => z, fun p' hp' => (by cases hp'; exact (w0.pen p rfl).1), ?_, fun i s e => ?_, fun i j o es fs hij e1 e2 g1 g2 => ?_⟩
      · rw [eσ]; unfold startP; simp [hl]
      · rw [eσ]
        cases i with
        | zero =>
          have es : Sl.pen = s := Option.some.inj e
          subst es
          exact ⟨_, rfl, p, rfl, rfl⟩
        | succ i =>
          have e' : (ds.map Sl.dat ++ List.replicate (N.length - (ds.length + 1)) Sl.un)[i]? = some s := e
          show ∃ x, (vs'.map some ++ List.replicate (N.length - (vs'.length + 1)) none)[i]? = some x ∧ _
          by_cases hi : i < ds.length
          · rw [List.getElem?_append_left (by rw [List.length_map]; exact hi), List.getElem?_map] at e'
            obtain ⟨d, e1, rfl⟩ := Option.map_eq_some_iff.mp e'
            obtain ⟨v, g1, g2⟩ := r.get e1
            refine ⟨some v, ?_, v, rfl, g2⟩
            rw [List.getElem?_append_left (by rw [List.length_map, hl]; exact hi), List.getElem?_map, g1]
            rfl
          · rw [List.getElem?_append_right (by rw [List.length_map]; omega), List.length_map] at e'
            obtain ⟨g1, g2⟩ := List.getElem?_eq_some_iff.mp e'
            rw [List.getElem_replicate] at g2
            subst g2
            rw [List.length_replicate] at g1
            refine ⟨none, ?_, trivial⟩
            rw [List.getElem?_append_right (by rw [List.length_map, hl]; omega), List.length_map, hl]
            rw [List.getElem?_replicate, if_pos g1]
      · have := List.mem_of_getElem? e1
        unfold startP at this
        simp at this
    refine hrun p ds n R hp X H X (L2.start N (.ref p.o :: vs')) H _ ⟨w0.tr, fun b h1 h2 => (by rw [h1] at h2; cases h2), Xt.refl, w0⟩ rl ?_ ?_ ?_ ?_
    · intro ρ' n' X' σ' H' g' s' r' p'
      have w2 : Wd (some p) X H' n' := g'.w.sub r'.sub r'.pn0
      exact q .non H' .none n' g'.xt w2 .non p'
    · intro v H' d n' e w' r' p'
      exact q v H' d n' e w' r' p'
    · intro ρ' n' X' σ' H' g' s' r' p'
      exact p'.elim
    · intro ρ' n' X' σ' H' g' s' r' p'
      exact p'.elim
end
end AC
set_option Elab.async false
set_option linter.all false
set_option maxRecDepth 100000
set_option maxHeartbeats 1000000
/-! Built-ins over data: in, len, sum, max, min, tuple, list, int, isinstance, sorted, set. -/
namespace AC
open PySem PySem.Spec PyProof.Rows L2

section
variable {P : PyData → Prop} {PL : List PyData → Prop} {i j : Int} {K : PySem.W.Frag} {ds es : List PyData} {a b d : PyData} {X : Cx}
/-! ### in -/
def uIn (K : PySem.W.Frag) : R2 := fun x y H Q => rInD K x y H Q ∨ ∃ d ds, Dp K H x d ∧ Dp K H y (.tuple ds) ∧ SeqAt.shaped d = true ∧ SeqAt.shaped (.tuple ds) = true ∧ Q (.bl (ds.any fun z => PyData.eqv z d)) H
def uNi (K : PySem.W.Frag) : R2 := fun x y H Q => rNotInD K x y H Q ∨ ∃ d ds, Dp K H x d ∧ Dp K H y (.tuple ds) ∧ SeqAt.shaped d = true ∧ SeqAt.shaped (.tuple ds) = true ∧ Q (.bl (!ds.any fun z => PyData.eqv z d)) H
theorem op_uIn (hu : X.A.units + 65 < cLine) : OpR X (compareOp .In) (uIn X.K) := by
  intro pins s σ H x y v u Q I rx ry h
  rcases h with h | ⟨d, ds, hd, he, sd, se, q⟩
  · exact op_inD hu pins s σ H x y v u Q I rx ry h
  · obtain ⟨as, r1⟩ := Dp.reads I d x v hd rx
    obtain ⟨bs, r2⟩ := Dp.reads I (.tuple ds) y u he ry
    exact SeqAt.in_tuple_reads r2 r1 (SeqAt.canLay_of_shaped se) (SeqAt.canLay_of_shaped sd) (room_in_shaped sd hu) ⟨.bl _, H, I, rfl, q⟩
theorem op_uNi (hu : X.A.units + 65 < cLine) : OpR X (compareOp .NotIn) (uNi X.K) := by
  intro pins s σ H x y v u Q I rx ry h
  rcases h with h | ⟨d, ds, hd, he, sd, se, q⟩
  · exact op_notInD hu pins s σ H x y v u Q I rx ry h
  · obtain ⟨as, r1⟩ := Dp.reads I d x v hd rx
    obtain ⟨bs, r2⟩ := Dp.reads I (.tuple ds) y u he ry
    exact SeqAt.notIn_tuple_reads r2 r1 (SeqAt.canLay_of_shaped se) (SeqAt.canLay_of_shaped sd) (room_in_shaped sd hu) ⟨.bl _, H, I, rfl, q⟩
theorem od_uInL (h1 : SeqAt.shaped a = true) (h2 : SeqAt.shaped (.list ds) = true) (k : P (.bool (ds.any fun z => PyData.eqv z a))) : OpD (uIn K) a (.list ds) P := fun X H x y tr rx ry Q q => .inl (od_inL h1 h2 k X H x y tr rx ry Q q)
theorem od_uNiL (h1 : SeqAt.shaped a = true) (h2 : SeqAt.shaped (.list ds) = true) (k : P (.bool (!ds.any fun z => PyData.eqv z a))) : OpD (uNi K) a (.list ds) P := fun X H x y tr rx ry Q q => .inl (od_niL h1 h2 k X H x y tr rx ry Q q)
theorem od_uInT (h1 : SeqAt.shaped a = true) (h2 : SeqAt.shaped (.tuple ds) = true) (k : P (.bool (ds.any fun z => PyData.eqv z a))) : OpD (uIn K) a (.tuple ds) P := fun X H x y tr rx ry Q q =>
  .inr ⟨a, ds, Rp.dp _ _ (Rp.mono mask_le _ _ rx), Rp.dp _ _ (Rp.mono mask_le _ _ ry), h1, h2, q _ H _ (fun _ _ h => h) (.bl _) k⟩
theorem od_uNiT (h1 : SeqAt.shaped a = true) (h2 : SeqAt.shaped (.tuple ds) = true) (k : P (.bool (!ds.any fun z => PyData.eqv z a))) : OpD (uNi K) a (.tuple ds) P := fun X H x y tr rx ry Q q =>
  .inr ⟨a, ds, Rp.dp _ _ (Rp.mono mask_le _ _ rx), Rp.dp _ _ (Rp.mono mask_le _ _ ry), h1, h2, q _ H _ (fun _ _ h => h) (.bl _) k⟩
/-! ### calls -/
theorem one_arg' {H : Hp} {xs : List V} (h : RpAll H xs [a]) : ∃ x, xs = [x] ∧ Rp H x a := by
  cases h with
  | cons h1 h2 => cases h2; exact ⟨_, rfl, h1⟩
abbrev rLenQ (K : PySem.W.Frag) : List V → Hp → VK → Prop := fun xs H Q => ∃ p ys, xs = [.ref p] ∧ (SqL K H p ys ∨ SqT K H p ys) ∧ Q (.int ys.length) H
theorem cb_lenL (k : P (.int ds.length)) : CbD (rLenQ K) [.list ds] P := fun X H xs tr r Q q => by
  obtain ⟨x, rfl, rx⟩ := one_arg' r
  obtain ⟨p, ys, rfl, hp, hy⟩ := rx.list
  exact ⟨p, ys, rfl, .inl (SqL.of (mask_le _ _ hp)), q _ H _ (fun _ _ h => h) (by rw [hy.length]; exact .int _) k⟩
theorem cb_lenT (k : P (.int ds.length)) : CbD (rLenQ K) [.tuple ds] P := fun X H xs tr r Q q => by
  obtain ⟨x, rfl, rx⟩ := one_arg' r
  obtain ⟨p, ys, rfl, hp, hy⟩ := rx.tuple
  exact ⟨p, ys, rfl, .inr (SqT.of (mask_le _ _ hp)), q _ H _ (fun _ _ h => h) (by rw [hy.length]; exact .int _) k⟩
theorem cb_sum {ns : List Int} (k : P (.int ns.sum)) : CbD (rSum K) [.list (ns.map PyData.int)] P := fun X H xs tr r Q q => by
  obtain ⟨x, rfl, rx⟩ := one_arg' r
  obtain ⟨p, ys, rfl, hp, hy⟩ := rx.list
  have e := hy.ints
  subst e
  exact ⟨p, ns, rfl, SqL.of (mask_le _ _ hp), q _ H _ (fun _ _ h => h) (.int _) k⟩
theorem cb_max {ns : List Int} (h0 : ns ≠ []) (k : ∀ m, m ∈ ns → (∀ y, y ∈ ns → y ≤ m) → P (.int m)) : CbD (rMax K) [.list (ns.map PyData.int)] P := fun X H xs tr r Q q => by
  obtain ⟨x, rfl, rx⟩ := one_arg' r
  obtain ⟨p, ys, rfl, hp, hy⟩ := rx.list
  have e := hy.ints
  subst e
  exact ⟨p, ns, rfl, SqL.of (mask_le _ _ hp), List.length_pos_iff.mpr h0, fun m h1 h2 => q _ H _ (fun _ _ h => h) (.int _) (k m h1 h2)⟩
theorem cb_min {ns : List Int} (h0 : ns ≠ []) (k : ∀ m, m ∈ ns → (∀ y, y ∈ ns → m ≤ y) → P (.int m)) : CbD (rMin K) [.list (ns.map PyData.int)] P := fun X H xs tr r Q q => by
  obtain ⟨x, rfl, rx⟩ := one_arg' r
  obtain ⟨p, ys, rfl, hp, hy⟩ := rx.list
  have e := hy.ints
  subst e
  exact ⟨p, ns, rfl, SqL.of (mask_le _ _ hp), List.length_pos_iff.mpr h0, fun m h1 h2 => q _ H _ (fun _ _ h => h) (.int _) (k m h1 h2)⟩
abbrev rTupQ (K : PySem.W.Frag) : List V → Hp → VK → Prop := fun xs H Q => ∃ p ys, xs = [.ref p] ∧ ((SqL K H p ys ∧ ∀ l, H l = none → Q (.ref l) (upd H l (.tup ys))) ∨ (SqT K H p ys ∧ Q (.ref p) H))
theorem cb_tupL (k : P (.tuple ds)) : CbD (rTupQ K) [.list ds] P := fun X H xs tr r Q q => by
  obtain ⟨x, rfl, rx⟩ := one_arg' r
  obtain ⟨p, ys, rfl, hp, hy⟩ := rx.list
  exact ⟨p, ys, rfl, .inl ⟨SqL.of (mask_le _ _ hp), fun l hl => q _ _ _ (same_new hl) (.tup (mask_new tr hl) (RpAll.mono (mask_same (same_new hl)) _ _ hy)) k⟩⟩
abbrev rLstQ (K : PySem.W.Frag) : List V → Hp → VK → Prop := fun xs H Q => ∃ p ys, xs = [.ref p] ∧ (SqL K H p ys ∨ SqT K H p ys) ∧ ∀ l, H l = none → Q (.ref l) (upd H l (.lst ys))
theorem cl_lstL (k : PL ds) : CbL (rLstQ K) [.list ds] PL := fun X H xs tr r Q q => by
  obtain ⟨x, rfl, rx⟩ := one_arg' r
  obtain ⟨p, ys, rfl, hp, hy⟩ := rx.list
  exact ⟨p, ys, rfl, .inl (SqL.of (mask_le _ _ hp)), fun l hl => q _ _ _ _ hl (same_new hl) upd_same (by rw [mask_ins hl]; exact hy) k⟩
theorem cl_lstT (k : PL ds) : CbL (rLstQ K) [.tuple ds] PL := fun X H xs tr r Q q => by
  obtain ⟨x, rfl, rx⟩ := one_arg' r
  obtain ⟨p, ys, rfl, hp, hy⟩ := rx.tuple
  exact ⟨p, ys, rfl, .inr (SqT.of (mask_le _ _ hp)), fun l hl => q _ _ _ _ hl (same_new hl) upd_same (by rw [mask_ins hl]; exact hy) k⟩
abbrev rIntQ : List V → Hp → VK → Prop := fun xs H Q => (∃ i, xs = [.int i] ∧ Q (.int i) H) ∨ ∃ k, xs = [.bl k] ∧ Q (.int (if k then 1 else 0)) H
theorem cb_intB {c : Bool} (k : P (.int (if c then 1 else 0))) : CbD rIntQ [.bool c] P := fun X H xs tr r Q q => by
  obtain ⟨x, rfl, rx⟩ := one_arg' r
  exact .inr ⟨c, by rw [rx.bool'], q _ H _ (fun _ _ h => h) (.int _) k⟩
abbrev rMin2Q : List V → Hp → VK → Prop := fun xs H Q => ∃ i j, xs = [.int i, .int j] ∧ Q (.int (if j < i then j else i)) H
theorem cb_min2 (k : P (.int (if j < i then j else i))) : CbD rMin2Q [.int i, .int j] P := fun X H xs tr r Q q => by
  cases r with
  | cons r1 r2 =>
    obtain ⟨y, rfl, ry⟩ := one_arg' r2
    exact ⟨i, j, by rw [r1.int', ry.int'], q _ H _ (fun _ _ h => h) (.int _) k⟩
def rMin3Q : List V → Hp → VK → Prop := fun xs H Q => ∃ a b c : Int, xs = [.int a, .int b, .int c] ∧ Q (.int (if b < a then (if c < b then c else b) else (if c < a then c else a))) H
theorem call_min3q (hc : X.calm = true) : CallR X (.builtin "min") rMin3Q := by
  intro pins s σ H xs us Q I r h
  obtain ⟨a, b, c, rfl, q⟩ := h
  obtain ⟨u1, u2, u3, rfl, ⟨t1, rfl⟩, ⟨t2, rfl⟩, ⟨t3, rfl⟩⟩ := vals3 r
  refine min_three_ints (I.ok.hd hc) fun h' tk hk => ⟨_, H, I.kept hk, ?_, q⟩
  split <;> split <;> exact ⟨_, rfl⟩
theorem cb_min3 {c : Int} (k : P (.int (if j < i then (if c < j then c else j) else (if c < i then c else i)))) : CbD rMin3Q [.int i, .int j, .int c] P := fun X H xs tr r Q q => by
  cases r with
  | cons r1 r2 =>
    cases r2 with
    | cons r3 r4 =>
      obtain ⟨y, rfl, ry⟩ := one_arg' r4
      exact ⟨i, j, c, by rw [r1.int', r3.int', ry.int'], q _ H _ (fun _ _ h => h) (.int _) k⟩
/-- isinstance(x, T), T a built-in type -/
def tyD : PyData → String
  | .none => "NoneType"
  | .bool _ => "bool"
  | .int _ => "int"
  | .str _ => "str"
  | .list _ => "list"
  | .tuple _ => "tuple"
  | .dict _ => "dict"
theorem ev_isi {pn : Option Pen} {ρ : En} {n : Nat} {PN : PyData → Nat → Prop} {te : TE} {T : String} (h : EvR pn te ρ n (fun d n1 => ∃ c, kitB (tyD d) T = some c ∧ PN (.bool c) n1)) :
    EvR pn (tCB (rIsi K) (tCons te (tCons (tC (.ty T)) tNil))) ρ n PN := fun X0 X σ H w rr Q q =>
  h X0 X σ H w rr _ fun x H1 d n1 e1 w1 r1 ⟨c, hk, p⟩ => by
    have ty : TyX K H1 x (.type (tyD d)) := by
      cases r1 with
      | non => exact .base .non
      | bl b => exact .base (.bl b)
      | int i => exact .base (.int i)
      | str z => exact .base (.str z)
      | lst e _ => exact .base (.lst (mask_le _ _ e))
      | tup e _ => exact .base (.tup (mask_le _ _ e))
    exact ⟨x, .ty T, _, _, c, rfl, .ty T, ty, kit_ty hk, q _ H1 _ n1 e1 w1 (.bl c) p⟩
/-- list(range(a, b)) -/
theorem ev_lstRg {pn : Option Pen} {ρ : En} {n : Nat} {PN : List PyData → Nat → Prop} {ta tb : TE}
    (h : EvR pn ta ρ n (fun a n1 => EvR pn tb ρ n1 (fun b n2 => ∃ i j : Int, a = .int i ∧ b = .int j ∧ 0 ≤ i ∧ j ≤ 10000 ∧ i ≤ 10000 ∧ 0 ≤ j ∧ PN (rgD i (j - i).toNat) n2))) : EvL pn (tLstRg (tRg2 ta tb)) ρ n PN := fun X0 X σ H w rr Q q =>
  h X0 X σ H w rr _ fun x H1 a n1 e1 w1 r1 h1 => h1 X0 X σ H1 w1 (rr.mono w e1) _ fun y H2 b n2 e2 w2 r2 ⟨i, j, ea, eb, g1, g2, g3, g4, p⟩ => by
    subst ea
    subst eb
    refine ⟨i, j, r1.int', r2.int', RgOk.of_le g1 (by omega) (by omega) g4, fun o ho => ?_⟩
    refine q o _ (rgV i j) _ n2 (Xt.fresh w2 (e1.trans e2) ho) ((e1.trans e2).trans (Xt.of (same_new ho))) (w2.same (same_new ho)) upd_same ?_ p
    have : ∀ m : Nat, RpAll (mask (ins o X) (upd H2 o (.lst (rgV i j)))) ((List.range m).map fun k : Nat => V.int (i + (k : Nat))) ((List.range m).map fun k : Nat => PyData.int (i + (k : Int))) := by
      intro m
      induction m with
      | zero => exact .nil
      | succ m ih =>
        rw [List.range_succ, List.map_append, List.map_append]
        exact ih.append (.one (.int _))
    exact this _
/-- l.index(x) -/
theorem ev_index {pn : Option Pen} {ρ : En} {n : Nat} {PN : PyData → Nat → Prop} {to te : TE}
    (h : EvR pn to ρ n (fun l n1 => ∃ ds, l = .list ds ∧ EvR pn te ρ n1 (fun d n2 => ∃ j z, SeqAt.shaped (.list ds) = true ∧ SeqAt.shaped d = true ∧ ds[j]? = some z ∧ PyData.eqv z d = true ∧ (∀ (m : Nat) (z' : PyData), m < j → ds[m]? = some z' → PyData.eqv z' d = false) ∧ PN (.int (j : Nat)) n2))) :
    EvR pn (tBM K "list" (rIndexD K) to (tCons te tNil)) ρ n PN := fun X0 X σ H w rr Q q =>
  h X0 X σ H w rr _ fun x H1 a n1 e1 w1 r1 ⟨ds, ea, h1⟩ => by
    subst ea
    obtain ⟨p, ys, rfl, hp, hy⟩ := id r1.list
    refine ⟨.inl ⟨rfl, ys, SqL.of (mask_le _ _ hp)⟩, ?_⟩
    refine h1 X0 X σ H1 w1 (rr.mono w e1) _ fun y H2 d n2 e2 w2 r2 ⟨j, z, s1, s2, g1, g2, g3, pj⟩ => ?_
    have r3 : Rp (mask X H2) (.ref p) (.list ds) := Rp.mono (Xt.mask w1 e2) _ _ r1
    exact ⟨p, y, d, ds, j, z, rfl, rfl, Rp.dp _ _ (Rp.mono mask_le _ _ r3), Rp.dp _ _ (Rp.mono mask_le _ _ r2), s1, s2, g1, g2, g3, q _ H2 _ n2 (e1.trans e2) w2 (.int _) pj⟩

/-! ### sorted: tuples of ints, none of them empty -/
def lexI : List Int → List Int → Bool
  | [], [] => false
  | [], _ :: _ => true
  | _ :: _, [] => false
  | a :: r, b :: q => if a = b then lexI r q else decide (a < b)
theorem lexI_asym : ∀ x y : List Int, lexI x y = true → lexI y x = false
  | [], [], h => by cases h
  | [], _ :: _, _ => rfl
  | _ :: _, [], h => by cases h
  | a :: r, b :: q, h => by
    unfold lexI at h ⊢
    by_cases e : a = b
    · rw [if_pos e] at h
      rw [if_pos e.symm]
      exact lexI_asym r q h
    · rw [if_neg e] at h
      rw [if_neg (fun z => e z.symm)]
      have := of_decide_eq_true h
      exact decide_eq_false (by omega)
theorem lexI_tr : ∀ x y z : List Int, lexI y x = false → lexI z y = false → lexI z x = false
  | [], [], [], _, _ => rfl
  | [], [], _ :: _, _, _ => rfl
  | [], _ :: _, [], _, _ => rfl
  | [], _ :: _, _ :: _, _, _ => rfl
  | _ :: _, [], z, h, _ => by cases h
  | _ :: _, _ :: _, [], _, h => by cases h
  | a :: r, b :: q, c :: p, h1, h2 => by
    unfold lexI at h1 h2 ⊢
    by_cases e1 : b = a
    · rw [if_pos e1] at h1
      by_cases e2 : c = b
      · rw [if_pos e2] at h2
        rw [if_pos (e2.trans e1)]
        exact lexI_tr r q p h1 h2
      · rw [if_neg e2] at h2
        rw [if_neg (fun z => e2 (z.trans e1.symm))]
        have := of_decide_eq_false h2
        exact decide_eq_false (by omega)
    · rw [if_neg e1] at h1
      have g1 := of_decide_eq_false h1
      by_cases e2 : c = b
      · rw [if_neg (fun z => e1 (e2.symm.trans z))]
        exact decide_eq_false (by omega)
      · rw [if_neg e2] at h2
        have g2 := of_decide_eq_false h2
        rw [if_neg (by omega)]
        exact decide_eq_false (by omega)
end
section
variable {prog : Program} {w : World} {A : Around} {E : Value → Shared → Prop} {s : Shared} {Q : Bool → Shared → Prop}
theorem lexI_run {b : Bool} {xs : List Value} {ns : List Int} (hx : IntsAre xs ns) : ∀ {ys : List Value} {ms : List Int} (i : Nat), IntsAre ys ms → Q (lexI ns ms) s → PySem.W.KatLex prog w A b (decide (xs.length < ys.length)) Q (xs.zip ys) i s := by
  have main : ∀ (fin : Bool) {xs : List Value} {ns : List Int}, IntsAre xs ns → ∀ {ys : List Value} {ms : List Int} (i : Nat), IntsAre ys ms → fin = decide (xs.length < ys.length) → Q (lexI ns ms) s → PySem.W.KatLex prog w A b fin Q (xs.zip ys) i s := by
    intro fin xs ns hx
    induction hx with
    | nil =>
      intro ys ms i hy hf h
      cases hy with
      | nil => rw [hf]; exact PySem.W.kat_nil h
      | cons q u hy => rw [hf]; exact PySem.W.kat_nil h
    | @cons p t xs ns hx ih =>
      intro ys ms i hy hf h
      cases hy with
      | nil => rw [hf]; exact PySem.W.kat_nil h
      | @cons q u ys ms hy =>
        show PySem.W.KatLex prog w A b fin Q ((Value.int p t, Value.int q u) :: xs.zip ys) i s
        refine PySem.W.kat_cons (wpAny_eqBool_int ?_)
        by_cases e : p = q
        · rw [show (p == q) = true from beq_iff_eq.mpr e]
          refine PySem.W.kat_yes ?_
          have h' : Q (lexI ns ms) s := by
            have e2 : lexI (p :: ns) (q :: ms) = lexI ns ms := if_pos e
            rw [← e2]; exact h
          have hf' : fin = decide (xs.length < ys.length) := by
            rw [hf]
            refine decide_eq_decide.mpr ?_
            rw [List.length_cons, List.length_cons]
            omega
          exact ih (i + 1) hy hf' h'
        · rw [show (p == q) = false from beq_eq_false_iff_ne.mpr e]
          have h' : Q (decide (p < q)) s := by
            have e2 : lexI (p :: ns) (q :: ms) = decide (p < q) := if_neg e
            rw [← e2]; exact h
          exact PySem.W.kat_no (TS.oneLt_ints _ h')
  intro ys ms i hy h
  exact main _ hx i hy rfl h
/-- what may be sorted: tuples of ints, none empty -/
def TupsP (h : Heap) (vs : List Value) : Prop := ∀ v, v ∈ vs → ∃ ns, TS.TupInts h v ns ∧ ns ≠ []
theorem TupsP.firsts {h : Heap} : ∀ vs : List Value, TupsP h vs → ∃ fs, PySem.W.KatTups h vs fs ∧ fs.length = vs.length ∧ ∀ f, f ∈ fs → ∃ n t, f = Value.int n t
  | [], _ => ⟨[], PySem.W.KatTups.nil, rfl, fun f hf => by simp at hf⟩
  | v :: vs, x => by
    obtain ⟨fs, k, hl, hi⟩ := TupsP.firsts vs fun u hu => x u (List.mem_cons_of_mem _ hu)
    obtain ⟨ns, ⟨a, xs, rfl, ⟨o, ho, hc, n, hdt⟩, i⟩, hn⟩ := x v (List.mem_cons_self ..)
    obtain ⟨y, ys, e⟩ : ∃ y ys, xs.toList = y :: ys := by
      cases q : xs.toList with
      | nil =>
        rw [q] at i
        cases i
        exact absurd rfl hn
      | cons y ys => exact ⟨y, ys, rfl⟩
    obtain ⟨m, t, hy⟩ := i.all y (by rw [e]; exact List.mem_cons_self ..)
    refine ⟨y :: fs, PySem.W.KatTups.cons ho hc hdt ?_ k, by rw [List.length_cons, List.length_cons, hl], ?_⟩
    · have z := congrArg (fun l : List Value => l[0]?) e
      simpa using z
    · intro f hf
      rcases List.mem_cons.mp hf with rfl | hf
      · exact ⟨m, t, hy⟩
      · exact hi f hf
def ltU (h : Heap) (u v : Value) : Bool := lexI (TS.intsOf h u) (TS.intsOf h v)
theorem ltU_swo (h : Heap) : SrtO.Swo (ltU h) := ⟨fun x y e => lexI_asym _ _ e, fun x y z e1 e2 => lexI_tr _ _ _ e1 e2⟩
theorem paths_sortable {a : Addr} {vs : List Value} (h0 : Heap) (hp : TupsP s.heap vs) (hi : ∀ v ∈ vs, ∀ ns, TS.TupInts s.heap v ns → TS.intsOf h0 v = ns) (h2 : 0 < vs.length) (ha : ∀ o, s.heap.get? a = some o → o.cls ≠ .type "tuple") : SrtO.SortableO prog w A s a vs (ltU h0) := by
  intro h' keep
  have kp : ∀ b o, s.heap.get? b = some o → o.cls = .type "tuple" → h'.get? b = some o := fun b o e c => keep b o (fun z => by subst z; exact ha o e c) e
  have hp' : TupsP h' vs := fun v hv => by obtain ⟨ns, t, r⟩ := hp v hv; exact ⟨ns, t.keeps kp, r⟩
  obtain ⟨fs, k1, k2, k3⟩ := TupsP.firsts vs hp'
  refine ⟨tuples' true, fun Q E hq => ?_, ?_⟩
  · refine PySem.W.kat_kind (T := .type "int") k1 (by omega) (fun f hm => ?_) (by rfl) ?_
    · obtain ⟨x, t, rfl⟩ := k3 f hm
      exact PySem.W.Looks.now
    · exact hq
  · intro p q hm hm'
    obtain ⟨ns, tp, _⟩ := hp _ hm
    obtain ⟨ms, tq, _⟩ := hp _ hm'
    have e1 := hi _ hm _ tp
    have e2 := hi _ hm' _ tq
    obtain ⟨x, xs, ex, ⟨o, ho, hc, n, hdt⟩, i⟩ := tp.keeps kp
    obtain ⟨y, ys, ey, ⟨o', ho', hc', n', hdt'⟩, i'⟩ := tq.keeps kp
    show wpAny (model prog w) A (keyLt' (tuples' true) p.1 q.1) (fun r s' => s' = { s with heap := h' } ∧ r = lexI (TS.intsOf h0 p.1) (TS.intsOf h0 q.1)) (fun _ _ => False) { s with heap := h' }
    rw [e1, e2, ex, ey]
    refine PySem.W.kat_lt ho hdt ho' hdt' ?_
    have sz : decide (xs.size < ys.size) = decide (xs.toList.length < ys.toList.length) := by rw [Array.length_toList, Array.length_toList]
    rw [sz]
    exact lexI_run (s := { s with heap := h' }) (xs := xs.toList) i 0 i' ⟨rfl, rfl⟩
end
section
variable {X : Cx} {K : PySem.W.Frag}
/-- sorted(xs), xs a list of tuples of ints, none empty: a new list of the same tuples -/
def rSortQ (K : PySem.W.Frag) : List V → Hp → VK → Prop := fun vs H Q => ∃ (a : Addr) (xs : List V), vs = [V.ref a] ∧ SqL K H a xs ∧ (∀ x ∈ xs, ∃ t ns, x = V.ref t ∧ SqT K H t (ns.map V.int) ∧ ns ≠ []) ∧
  ∀ ys p, ys.Perm xs → H p = none → Q (.ref p) (upd H p (.lst ys))
theorem cr_sortQ : CallR X (.builtin "sorted") (rSortQ X.K) := by
  intro pins s σ H vs us Q I r h
  obtain ⟨a, xs, rfl, hs, hx, q⟩ := h
  obtain ⟨its, rv, hl, hz⟩ := I.list hs
  obtain ⟨u, rfl, ru⟩ := vals1 r
  obtain rfl : u = Value.ref a := ru
  obtain ⟨e1, e2⟩ := refs_back rv fun x m => by
    obtain ⟨t, ns, e, _⟩ := hx x m
    exact ⟨t, e⟩
  have tp : TupsP s.heap its := fun v hv => by
    obtain ⟨t, rfl⟩ := e2 v hv
    have hm : V.ref t ∈ xs := by rw [e1]; exact List.mem_map.mpr ⟨_, hv, rfl⟩
    obtain ⟨t', ns, e, ht, hn⟩ := hx _ hm
    cases e
    exact ⟨ns, tupI_raw I ht, hn⟩
  have zl : its.length ≤ sizeLine := by rw [← rv.length]; exact hz
  refine SrtO.sorted_ord (ltU_swo s.heap) hl.isList zl (fun h2 h₁ a' ha' kk => ?_) fun out h1 h2 => ?_
  · have kp : ∀ b o, s.heap.get? b = some o → o.cls = .type "tuple" → h₁.get? b = some o := fun b o e _ => (kk b o e).2
    refine paths_sortable (s := { s with heap := h₁ }) s.heap (fun v hv => ?_) (fun v hv ns t => ?_) (by omega) fun o e => ?_
    · obtain ⟨ns, t, r⟩ := tp v hv
      exact ⟨ns, t.keeps kp, r⟩
    · obtain ⟨ms, t', _⟩ := tp v hv
      have := (t'.keeps kp).ints.symm.trans t.ints
      rw [t'.ints, this]
    · have e' : some o = some (seqObj "list" its.toArray 0) := e.symm.trans ha'
      cases e'
      intro c
      exact absurd (Value.type.inj c) (by decide)
  · have h3 : ∀ u ∈ out, ∃ a, u = Value.ref a := fun u hu => e2 u (h2.perm.mem_iff.mp hu)
    obtain ⟨ep, he'⟩ := PyProof.Rows.sortedAll_at s.heap its out.toArray
    have pm : (out.map backV).Perm xs := by
      rw [e1]
      exact h2.perm.map backV
    have hlen : (out.map backV).length ≤ sizeLine := by rw [pm.length_eq]; exact hz
    exact ⟨.ref _, upd H (s.heap.objs.size + 1) (.lst (out.map backV)), I.laid (t' := s.toks) (fun _ _ => PyProof.Rows.sortedAll_old) (Nat.le_succ _) ⟨hlen, out, ep, vals_back h3, he'⟩, rfl, q _ _ pm (I.hok.fresh (Nat.le_succ _))⟩
/-- a path as data -/
def ptD (p : List Nat) : PyData := .tuple (p.map fun k : Nat => .int (k : Int))
theorem Rp.pt {H : Hp} {v : V} {p : List Nat} (h : Rp H v (ptD p)) : ∃ t, v = .ref t ∧ H t = some (.tup ((p.map fun k : Nat => (k : Int)).map V.int)) := by
  unfold ptD at h
  obtain ⟨t, xs, rfl, ht, hx⟩ := h.tuple
  have e : (p.map fun k : Nat => PyData.int (k : Int)) = (p.map fun k : Nat => (k : Int)).map PyData.int := by rw [List.map_map]; rfl
  rw [e] at hx
  have := hx.ints
  subst this
  exact ⟨t, rfl, ht⟩
theorem cl_sort {ps : List (List Nat)} {PL : List PyData → Prop} (hn : ∀ p ∈ ps, p ≠ []) (k : ∀ qs : List (List Nat), qs.Perm ps → PL (qs.map ptD)) : CbL (rSortQ K) [.list (ps.map ptD)] PL := fun X H xs tr r Q q => by
  obtain ⟨x, rfl, rx⟩ := one_arg' r
  obtain ⟨a, ys, rfl, ha, hy⟩ := rx.list
  have hy2 : ∀ i y, ys[i]? = some y → ∃ p, ps[i]? = some p ∧ Rp (mask X H) y (ptD p) := fun i y hi => by
    have hl : i < ps.length := by
      have := (List.getElem?_eq_some_iff.mp hi).1
      rw [hy.length, List.length_map] at this
      exact this
    have e : (ps.map ptD)[i]? = some (ptD ps[i]) := by rw [List.getElem?_map, List.getElem?_eq_getElem hl]; rfl
    obtain ⟨v, h1, h2⟩ := hy.get e
    rw [hi] at h1
    cases h1
    exact ⟨ps[i], List.getElem?_eq_getElem hl, h2⟩
  refine ⟨a, ys, rfl, SqL.of (mask_le _ _ ha), fun y hm => ?_, fun zs p hp hnew => ?_⟩
  · obtain ⟨i, hi⟩ := List.mem_iff_getElem?.mp hm
    obtain ⟨p, h1, h2⟩ := hy2 i y hi
    obtain ⟨t, e, ht⟩ := h2.pt
    refine ⟨t, p.map fun k : Nat => (k : Int), e, SqT.of (mask_le _ _ ht), fun z => ?_⟩
    have := hn p (List.mem_of_getElem? h1)
    exact this (List.map_eq_nil_iff.mp z)
  · -- the same rearrangement of the paths
    have key : ∀ {ys zs : List V}, zs.Perm ys → ∀ ps : List (List Nat), RpAll (mask X H) ys (ps.map ptD) → ∃ qs : List (List Nat), qs.Perm ps ∧ RpAll (mask X H) zs (qs.map ptD) := by
      intro ys zs hp0
      have hp := hp0.symm
      clear hp0
      induction hp with
      | nil => intro ps h; exact ⟨ps, .refl _, h⟩
      | @cons x l1 l2 _ ih =>
        intro ps h
        cases ps with
        | nil => cases h
        | cons p ps =>
          cases h with
          | cons h1 h2 =>
            obtain ⟨qs, g1, g2⟩ := ih ps h2
            exact ⟨p :: qs, g1.cons p, .cons h1 g2⟩
      | swap x y l =>
        intro ps h
        match ps, h with
        | [], h => cases h
        | [_], h => cases h with | cons h1 h2 => cases h2
        | p :: q :: ps, h =>
          cases h with
          | cons h1 h2 =>
            cases h2 with
            | cons h3 h4 => exact ⟨q :: p :: ps, .swap _ _ _, .cons h3 (.cons h1 h4)⟩
      | trans _ _ ih1 ih2 =>
        intro ps h
        obtain ⟨qs, g1, g2⟩ := ih1 ps h
        obtain ⟨rs, g3, g4⟩ := ih2 qs g2
        exact ⟨rs, g3.trans g1, g4⟩
    obtain ⟨qs, g1, g2⟩ := key hp ps hy
    exact q p _ zs _ hnew (same_new hnew) upd_same (by rw [mask_ins hnew]; exact g2) (k qs g1)
end
end AC
set_option Elab.async false
set_option linter.all false
set_option maxRecDepth 100000
set_option maxHeartbeats 1000000
/-! A def by its name; the built-ins by their names. -/
namespace AC
open PySem PySem.Spec PyProof.Rows L2

/-- what the def of that name keeps, as a caller sees it -/
def Def (P : Program) (w : World) (K : PySem.W.Frag) (mg : Str → Option Value) (base : Heap) (k : Nat) (x : Str) (ps : List Str) (sp : Sp) : Prop :=
  ∃ (f : Addr) (fd : FuncData), FnOk P w K mg base CX0 k f fd ps sp ∧ Binds K fd ps [] ∧ PySem.W.keepIn K (.ref f) = true ∧ mg x = some (.ref f)
/-- a def as the top leaves it -/
def Raw (K : PySem.W.Frag) (mg : Str → Option Value) (x : Str) (st : Stmt) (ps : List Str) : Prop :=
  ∃ (f : Addr) (fd : FuncData), FnP K x st f fd ∧ mg x = some (.ref f) ∧ Binds K fd ps []
structure Bl (mg : Str → Option Value) : Prop where
  range : mg "range" = none
  set : mg "set" = none
  list : mg "list" = none
  bool : mg "bool" = none
  isinstance : mg "isinstance" = none
  enumerate : mg "enumerate" = none
  max : mg "max" = none
  min : mg "min" = none
  len : mg "len" = none
  int : mg "int" = none
  tuple : mg "tuple" = none
  sum : mg "sum" = none
  sorted : mg "sorted" = none
  zip : mg "zip" = none
theorem bb_len : bootBuiltins "len" = some (.builtin "len") := PySem.boot_len
theorem bb_max : bootBuiltins "max" = some (.builtin "max") := by decide +kernel
theorem bb_min : bootBuiltins "min" = some (.builtin "min") := by decide +kernel
theorem bb_sum : bootBuiltins "sum" = some (.builtin "sum") := by decide +kernel
theorem bb_sorted : bootBuiltins "sorted" = some (.builtin "sorted") := by decide +kernel
theorem bb_isinstance : bootBuiltins "isinstance" = some (.builtin "isinstance") := by decide +kernel
theorem bb_tuple : bootBuiltins "tuple" = some (.type "tuple") := by decide +kernel
theorem bb_list : bootBuiltins "list" = some (.type "list") := by decide +kernel
theorem bb_int : bootBuiltins "int" = some (.type "int") := by decide +kernel
theorem bb_bool : bootBuiltins "bool" = some (.type "bool") := by decide +kernel
theorem bb_set : bootBuiltins "set" = some (.type "set") := by decide +kernel
theorem u65 {k : Nat} {A : Around} (r : Room k A) : A.units + 65 < cLine := by have := r.un; omega
section
variable {P : Program} {w : World} {K : PySem.W.Frag} {mg : Str → Option Value} {base : Heap} {k j : Nat} {x : Str} {ps N : List Str} {sp : Sp} {st : Stmt}
theorem Def.mono (D : Def P w K mg base j x ps sp) (h : j ≤ k) : Def P w K mg base k x ps sp := by
  obtain ⟨f, fd, F, r⟩ := D
  exact ⟨f, fd, F.mono h, r⟩
theorem pe_def {X : Cx} {e : Expr} {es : List Expr} {p pos : Pos} {t : TA} (D : Def X.prog X.w X.K X.mg X.base k x ps sp) (hr : Room k X.A) (hg : Gl X x) (ha : PA X (e :: es) t) (hdb : (x == ("__debug__" : Str)) = false := by decide)
    (he : starEach (e :: es) X.env = (false, eval e X.env) :: starEach es X.env := by rfl) (hpl : (backTo pos (starEach es X.env)).any (·.1) = false := by rfl) : PE X (.Call (.Name x p) (e :: es) [] pos) (tCall sp [] E0 t) := by
  obtain ⟨f, fd, F, b, kp, m⟩ := D
  exact pe_call F hr hg m kp b .nil pass0 ha hdb he hpl
/-- THE RULE for a def of plain data -/
theorem def_ok {Sp0 : Spec} (R : Raw K mg x st ps) (S : FnScope N ps (defScope st)) (len : ∀ ds R, Sp0 ds R → ds.length = ps.length)
    (hbody : ∀ (f : Addr) (cdv : Value) (A : Around) (outer : List Env) (s : Shared) (H : Hp) (E : XK), Room k (A.deeper (envOfC x (defScope st) s.heap.objs.size f cdv)) →
      ∃ t, PSs (cxOf CX0 P w K mg base N x (defScope st) f cdv A outer s H E).nox (defBody st) t ∧ ∀ ds R, Sp0 ds R → Run none t (startE N ds) 0 (fun _ _ => R .none) (fun d _ => R d) (fun _ _ => False) (fun _ _ => False)) :
    Def P w K mg base (k + 1) x ps (fsp Sp0) := by
  obtain ⟨f, fd, F, m, b⟩ := R
  refine ⟨f, fd, fn_ok F S len fun cdv A outer s H E hr => ?_, b, F.kp, m⟩
  obtain ⟨t, h1, h2⟩ := hbody f cdv A outer s H E hr
  exact ⟨t, PSs.nox h1, h2⟩
theorem def_okP {Sp0 : SpecP} (R : Raw K mg x st ps) (S : FnScope N ps (defScope st)) (len : ∀ ds n R, Sp0 ds n R → ds.length + 1 = ps.length)
    (hbody : ∀ (f : Addr) (cdv : Value) (A : Around) (outer : List Env) (s : Shared) (H : Hp) (E : XK), Room k (A.deeper (envOfC x (defScope st) s.heap.objs.size f cdv)) →
      ∃ t, PSs (cxOf CX0 P w K mg base N x (defScope st) f cdv A outer s H E).nox (defBody st) t ∧ ∀ p ds n R, Sp0 ds n R → Run (some p) t (startP N ds) n (fun _ n2 => R .none n2) R (fun _ _ => False) (fun _ _ => False)) :
    Def P w K mg base (k + 1) x ps (psp Sp0) := by
  obtain ⟨f, fd, F, m, b⟩ := R
  refine ⟨f, fd, fn_okP F S len fun cdv A outer s H E hr => ?_, b, F.kp, m⟩
  obtain ⟨t, h1, h2⟩ := hbody f cdv A outer s H E hr
  exact ⟨t, PSs.nox h1, h2⟩
end
end AC
set_option Elab.async false
set_option linter.all false
set_option maxRecDepth 100000
set_option maxHeartbeats 1000000
/-! Projects, paths, greatest lengths: the mathematics, with no program in sight. -/
namespace AC
structure Pr where
  ts : List (Int × Int)
  ar : List (Nat × Nat)
structure Pr.Ok (p : Pr) : Prop where
  n1 : 1 ≤ p.ts.length
  n6 : p.ts.length ≤ 6
  bd : ∀ b ∈ p.ts, 0 ≤ b.1 ∧ b.1 ≤ b.2 ∧ b.2 ≤ b.1 + 3 ∧ b.2 ≤ 100
  ar : ∀ a ∈ p.ar, a.1 < a.2 ∧ a.2 < p.ts.length
  nd : p.ar.Nodup
  few : p.ar.length ≤ 50
def bef (p : Pr) (t : Nat) : List Nat := (p.ar.filter fun a => decide (a.2 = t)).map (·.1)
def beh (p : Pr) (t : Nat) : List Nat := (p.ar.filter fun a => decide (a.1 = t)).map (·.2)
theorem mem_bef {p : Pr} {e t : Nat} : e ∈ bef p t ↔ (e, t) ∈ p.ar := by
  unfold bef
  rw [List.mem_map]
  constructor
  · rintro ⟨⟨a, b⟩, h, rfl⟩
    obtain ⟨h1, h2⟩ := List.mem_filter.mp h
    have : b = t := of_decide_eq_true h2
    subst this
    exact h1
  · intro h
    exact ⟨(e, t), List.mem_filter.mpr ⟨h, decide_eq_true rfl⟩, rfl⟩
theorem mem_beh {p : Pr} {e t : Nat} : e ∈ beh p t ↔ (t, e) ∈ p.ar := by
  unfold beh
  rw [List.mem_map]
  constructor
  · rintro ⟨⟨a, b⟩, h, rfl⟩
    obtain ⟨h1, h2⟩ := List.mem_filter.mp h
    have : a = t := of_decide_eq_true h2
    subst this
    exact h1
  · intro h
    exact ⟨(t, e), List.mem_filter.mpr ⟨h, decide_eq_true rfl⟩, rfl⟩
theorem bef_beh {p : Pr} {e t : Nat} : e ∈ bef p t ↔ t ∈ beh p e := mem_bef.trans mem_beh.symm
theorem nodup_map_inj {α β : Type} {f : α → β} : ∀ {l : List α}, l.Nodup → (∀ a ∈ l, ∀ b ∈ l, f a = f b → a = b) → (l.map f).Nodup
  | [], _, _ => List.nodup_nil
  | a :: l, h, hf => by
    obtain ⟨h1, h2⟩ := List.nodup_cons.mp h
    rw [List.map_cons]
    refine List.nodup_cons.mpr ⟨fun hm => ?_, nodup_map_inj h2 fun x hx y hy => hf x (List.mem_cons_of_mem _ hx) y (List.mem_cons_of_mem _ hy)⟩
    obtain ⟨b, hb, e⟩ := List.mem_map.mp hm
    have := hf b (List.mem_cons_of_mem _ hb) a List.mem_cons_self e
    subst this
    exact h1 hb
theorem nodup_filter {α : Type} {p : α → Bool} {l : List α} (h : l.Nodup) : (l.filter p).Nodup := h.sublist List.filter_sublist
theorem bef_nd {p : Pr} (h : p.ar.Nodup) (t : Nat) : (bef p t).Nodup := by
  refine nodup_map_inj (nodup_filter h) fun a ha b hb e => ?_
  have h1 : a.2 = t := of_decide_eq_true (List.mem_filter.mp ha).2
  have h2 : b.2 = t := of_decide_eq_true (List.mem_filter.mp hb).2
  exact Prod.ext e (h1.trans h2.symm)
theorem beh_nd {p : Pr} (h : p.ar.Nodup) (t : Nat) : (beh p t).Nodup := by
  refine nodup_map_inj (nodup_filter h) fun a ha b hb e => ?_
  have h1 : a.1 = t := of_decide_eq_true (List.mem_filter.mp ha).2
  have h2 : b.1 = t := of_decide_eq_true (List.mem_filter.mp hb).2
  exact Prod.ext (h1.trans h2.symm) e
theorem bef_lt {p : Pr} (ok : p.Ok) {e t : Nat} (h : e ∈ bef p t) : e < t ∧ t < p.ts.length := ok.ar _ (mem_bef.mp h)
theorem beh_lt {p : Pr} (ok : p.Ok) {e t : Nat} (h : e ∈ beh p t) : t < e ∧ e < p.ts.length := ok.ar _ (mem_beh.mp h)

/-! ### paths -/
inductive Head (p : Pr) : List Nat → Nat → Prop
  | nil {t : Nat} : bef p t = [] → Head p [] t
  | snoc {h : List Nat} {e t : Nat} : e ∈ bef p t → Head p h e → Head p (h ++ [e]) t
inductive Tail (p : Pr) : List Nat → Nat → Prop
  | one {t : Nat} : beh p t = [] → Tail p [t] t
  | cons {q : List Nat} {e t : Nat} : e ∈ beh p t → Tail p q e → Tail p (t :: q) t
def Whole (p : Pr) (q : List Nat) : Prop := ∃ t, t < p.ts.length ∧ bef p t = [] ∧ Tail p q t
theorem eq_nil_or {α : Type} (l : List α) : l = [] ∨ ∃ a, a ∈ l := by
  cases l with
  | nil => exact .inl rfl
  | cons a l => exact .inr ⟨a, List.mem_cons_self⟩
theorem head_ex {p : Pr} (ok : p.Ok) : ∀ (k t : Nat), t < k → ∃ h, Head p h t
  | 0, t, h => absurd h (Nat.not_lt_zero t)
  | k + 1, t, h => by
    rcases eq_nil_or (bef p t) with e | ⟨e, he⟩
    · exact ⟨[], .nil e⟩
    · obtain ⟨q, hq⟩ := head_ex ok k e (by have := (bef_lt ok he).1; omega)
      exact ⟨q ++ [e], .snoc he hq⟩
theorem tail_ex {p : Pr} (ok : p.Ok) : ∀ (k t : Nat), p.ts.length ≤ t + k → t < p.ts.length → ∃ q, Tail p q t
  | 0, t, h, h2 => absurd h2 (by omega)
  | k + 1, t, h, h2 => by
    rcases eq_nil_or (beh p t) with e | ⟨e, he⟩
    · exact ⟨[t], .one e⟩
    · have := beh_lt ok he
      obtain ⟨q, hq⟩ := tail_ex ok k e (by omega) this.2
      exact ⟨t :: q, .cons he hq⟩
theorem Head.lt {p : Pr} (ok : p.Ok) {h : List Nat} {t : Nat} (x : Head p h t) : (∀ e ∈ h, e < t) ∧ h.Nodup := by
  induction x with
  | nil _ => exact ⟨fun e he => (by cases he), List.nodup_nil⟩
  | @snoc h e t he _ ih =>
    have := bef_lt ok he
    refine ⟨fun z hz => ?_, ?_⟩
    · rcases List.mem_append.mp hz with hz | hz
      · have := ih.1 z hz; omega
      · have : z = e := by simpa using hz
        omega
    · refine List.nodup_append.mpr ⟨ih.2, by simp, fun a ha b hb => ?_⟩
      have e1 : b = e := by simpa using hb
      have := ih.1 a ha
      omega
theorem Tail.ge {p : Pr} (ok : p.Ok) {q : List Nat} {t : Nat} (x : Tail p q t) : t < p.ts.length → (∀ e ∈ q, t ≤ e ∧ e < p.ts.length) ∧ q.Nodup := by
  induction x with
  | @one t _ =>
    intro ht
    refine ⟨fun e he => ?_, by simp⟩
    have : e = t := by simpa using he
    omega
  | @cons q e t he _ ih =>
    intro ht
    have hl := beh_lt ok he
    obtain ⟨i1, i2⟩ := ih hl.2
    refine ⟨fun z hz => ?_, List.nodup_cons.mpr ⟨fun hm => ?_, i2⟩⟩
    · rcases List.mem_cons.mp hz with e1 | hz
      · omega
      · have := i1 z hz; omega
    · have := (i1 t hm).1; omega
theorem Tail.mem {p : Pr} {q : List Nat} {t : Nat} (x : Tail p q t) : t ∈ q := by
  cases x with
  | one _ => exact List.mem_cons_self
  | cons _ _ => exact List.mem_cons_self
theorem head_tail {p : Pr} (ok : p.Ok) {h : List Nat} {t : Nat} (x : Head p h t) : ∀ {q : List Nat}, t < p.ts.length → Tail p q t → Whole p (h ++ q) := by
  induction x with
  | @nil t hb => intro q ht y; exact ⟨t, ht, hb, y⟩
  | @snoc h e t he _ ih =>
    intro q ht y
    have hl := bef_lt ok he
    have := ih (q := e :: q) (by omega) (.cons (bef_beh.mp he) y)
    rw [List.append_assoc]
    exact this
theorem tail_split {p : Pr} {q : List Nat} {s t : Nat} (x : Tail p q s) : t ∈ q → ∀ h, Head p h s → ∃ h' q', h ++ q = h' ++ q' ∧ Head p h' t ∧ Tail p q' t := by
  induction x with
  | @one s hb =>
    intro ht h y
    have : t = s := by simpa using ht
    subst this
    exact ⟨h, [t], rfl, y, .one hb⟩
  | @cons q e s he x ih =>
    intro ht h y
    rcases List.mem_cons.mp ht with e1 | ht
    · subst e1
      exact ⟨h, _, rfl, y, .cons he x⟩
    · obtain ⟨h', q', e1, a, b⟩ := ih ht (h ++ [s]) (.snoc (bef_beh.mpr he) y)
      refine ⟨h', q', ?_, a, b⟩
      rw [← e1, List.append_assoc]
      rfl
theorem whole_split {p : Pr} {w : List Nat} {t : Nat} (x : Whole p w) (ht : t ∈ w) : ∃ h q, w = h ++ q ∧ Head p h t ∧ Tail p q t := by
  obtain ⟨s, _, hb, y⟩ := x
  obtain ⟨h', q', e, a, b⟩ := tail_split y ht [] (.nil hb)
  exact ⟨h', q', e, a, b⟩
theorem Whole.mem {p : Pr} (ok : p.Ok) {w : List Nat} (x : Whole p w) : (∀ e ∈ w, e < p.ts.length) ∧ w.Nodup ∧ w ≠ [] := by
  obtain ⟨s, hs, _, y⟩ := x
  have := y.ge ok hs
  refine ⟨fun e he => (this.1 e he).2, this.2, fun e => ?_⟩
  rw [e] at y
  cases y
/-- through each task leads a whole path -/
theorem thru_ex {p : Pr} (ok : p.Ok) {t : Nat} (ht : t < p.ts.length) : ∃ w, Whole p w ∧ t ∈ w := by
  obtain ⟨h, a⟩ := head_ex ok (t + 1) t (Nat.lt_succ_self t)
  obtain ⟨q, b⟩ := tail_ex ok p.ts.length t (by omega) ht
  exact ⟨h ++ q, head_tail ok a ht b, List.mem_append_right _ b.mem⟩

/-! ### counting -/
def twos : List Nat → Nat
  | [] => 0
  | a :: l => 2 ^ a + twos l
theorem twos_perm {l m : List Nat} (h : l.Perm m) : twos l = twos m := by
  induction h with
  | nil => rfl
  | cons x _ ih => show 2 ^ x + _ = 2 ^ x + _; rw [ih]
  | swap x y l => show 2 ^ y + (2 ^ x + twos l) = 2 ^ x + (2 ^ y + twos l); omega
  | trans _ _ a b => exact a.trans b
theorem twos_lt : ∀ (t : Nat) (l : List Nat), l.Nodup → (∀ e ∈ l, e < t) → twos l + 1 ≤ 2 ^ t
  | 0, l, _, h => by
    cases l with
    | nil => exact Nat.le_refl _
    | cons a l => exact absurd (h a List.mem_cons_self) (Nat.not_lt_zero a)
  | t + 1, l, hn, h => by
    by_cases hm : t ∈ l
    · have hp := List.perm_cons_erase hm
      have hn2 : (t :: l.erase t).Nodup := hp.nodup_iff.mp hn
      obtain ⟨h1, h2⟩ := List.nodup_cons.mp hn2
      have ih := twos_lt t (l.erase t) h2 fun e he => by
        have h3 := h e (List.mem_of_mem_erase he)
        have h4 : e ≠ t := fun z => h1 (z ▸ he)
        omega
      rw [twos_perm hp]
      show 2 ^ t + twos (l.erase t) + 1 ≤ 2 ^ (t + 1)
      rw [Nat.pow_succ]
      omega
    · have ih := twos_lt t l hn fun e he => by
        have h3 := h e he
        have h4 : e ≠ t := fun z => hm (z ▸ he)
        omega
      rw [Nat.pow_succ]
      omega

/-! ### lengths -/
def len (d : List Int) (q : List Nat) : Int := (q.map fun t => d.getD t 0).sum
theorem len_nil (d : List Int) : len d [] = 0 := rfl
theorem len_cons (d : List Int) (a : Nat) (q : List Nat) : len d (a :: q) = d.getD a 0 + len d q := by unfold len; rw [List.map_cons, List.sum_cons]
theorem len_append (d : List Int) (q r : List Nat) : len d (q ++ r) = len d q + len d r := by unfold len; rw [List.map_append, List.sum_append]
theorem len_one (d : List Int) (a : Nat) : len d [a] = d.getD a 0 := by rw [len_cons, len_nil]; omega
/-- the greatest value of f over S -/
def MaxP {α : Type} (S : α → Prop) (f : α → Int) (m : Int) : Prop := (∃ q, S q ∧ f q = m) ∧ ∀ q, S q → f q ≤ m
theorem MaxP.uniq {α : Type} {S : α → Prop} {f : α → Int} {m n : Int} (a : MaxP S f m) (b : MaxP S f n) : m = n := by
  obtain ⟨⟨q, h1, h2⟩, h3⟩ := a
  obtain ⟨⟨r, g1, g2⟩, g3⟩ := b
  have := h3 r g1
  have := g3 q h1
  omega
theorem MaxP.congr {α : Type} {S T : α → Prop} {f g : α → Int} {m : Int} (h : ∀ q, S q ↔ T q) (hf : ∀ q, T q → f q = g q) (a : MaxP S f m) : MaxP T g m := by
  obtain ⟨⟨q, h1, h2⟩, h3⟩ := a
  refine ⟨⟨q, (h q).mp h1, ?_⟩, fun r hr => ?_⟩
  · rw [← hf q ((h q).mp h1)]; exact h2
  · rw [← hf r hr]; exact h3 r ((h r).mpr hr)
theorem maxp_ex {α : Type} (f : α → Int) : ∀ l : List α, l ≠ [] → ∃ m, MaxP (· ∈ l) f m
  | [], h => absurd rfl h
  | [a], _ => ⟨f a, ⟨a, List.mem_cons_self, rfl⟩, fun q hq => by
    have : q = a := by simpa using hq
    rw [this]; exact Int.le_refl _⟩
  | a :: b :: l, _ => by
    obtain ⟨m, ⟨q, h1, h2⟩, h3⟩ := maxp_ex f (b :: l) (by simp)
    by_cases h : f a ≤ m
    · exact ⟨m, ⟨q, List.mem_cons_of_mem _ h1, h2⟩, fun r hr => (List.mem_cons.mp hr).elim (fun e => e ▸ h) (h3 r)⟩
    · exact ⟨f a, ⟨a, List.mem_cons_self, rfl⟩, fun r hr => (List.mem_cons.mp hr).elim (fun e => by rw [e]; exact Int.le_refl _) (fun e => by have := h3 r e; omega)⟩
abbrev StartV (p : Pr) (d : List Int) (t : Nat) (m : Int) : Prop := MaxP (fun h => Head p h t) (len d) m
abbrev RestV (p : Pr) (d : List Int) (t : Nat) (m : Int) : Prop := MaxP (fun q => Tail p q t) (len d) m
abbrev EndV (p : Pr) (d : List Int) (m : Int) : Prop := MaxP (Whole p) (len d) m
abbrev ThruV (p : Pr) (d : List Int) (t : Nat) (m : Int) : Prop := MaxP (fun w => Whole p w ∧ t ∈ w) (len d) m
theorem thru_of {p : Pr} (ok : p.Ok) {d : List Int} {t : Nat} {a b : Int} (ht : t < p.ts.length) (x : StartV p d t a) (y : RestV p d t b) : ThruV p d t (a + b) := by
  obtain ⟨⟨h, h1, h2⟩, h3⟩ := x
  obtain ⟨⟨q, g1, g2⟩, g3⟩ := y
  refine ⟨⟨h ++ q, ⟨head_tail ok h1 ht g1, List.mem_append_right _ g1.mem⟩, by rw [len_append, h2, g2]⟩, fun w ⟨hw, hm⟩ => ?_⟩
  obtain ⟨h', q', e, k1, k2⟩ := whole_split hw hm
  rw [e, len_append]
  have := h3 h' k1
  have := g3 q' k2
  omega
theorem end_of {p : Pr} (ok : p.Ok) {d : List Int} {f : Nat → Int} {m : Int} (h : ∀ t, t < p.ts.length → ThruV p d t (f t)) (hm : MaxP (fun t => t < p.ts.length) f m) : EndV p d m := by
  obtain ⟨⟨t, h1, h2⟩, h3⟩ := hm
  obtain ⟨⟨w, ⟨hw, _⟩, e⟩, _⟩ := h t h1
  refine ⟨⟨w, hw, e.trans h2⟩, fun q hq => ?_⟩
  obtain ⟨k1, k2, k3⟩ := hq.mem ok
  obtain ⟨s, hs⟩ := List.exists_mem_of_ne_nil q k3
  have g1 := (h s (k1 s hs)).2 q ⟨hq, hs⟩
  have g2 := h3 s (k1 s hs)
  omega

/-! ### durations -/
structure Dur (p : Pr) (d : List Int) : Prop where
  l : d.length = p.ts.length
  b : ∀ (i : Nat) (b : Int × Int), p.ts[i]? = some b → b.1 ≤ d.getD i 0 ∧ d.getD i 0 ≤ b.2
def raised (p : Pr) (q : List Nat) : List Int := p.ts.mapIdx fun i b => if i ∈ q then b.2 else b.1
theorem raised_len (p : Pr) (q : List Nat) : (raised p q).length = p.ts.length := List.length_mapIdx
theorem raised_at {p : Pr} {q : List Nat} {i : Nat} {b : Int × Int} (h : p.ts[i]? = some b) : (raised p q).getD i 0 = if i ∈ q then b.2 else b.1 := by
  unfold raised
  rw [List.getD_eq_getElem?_getD, List.getElem?_mapIdx, h]
  rfl
theorem raised_dur {p : Pr} (ok : p.Ok) (q : List Nat) : Dur p (raised p q) := by
  refine ⟨raised_len p q, fun i b h => ?_⟩
  rw [raised_at h]
  have := ok.bd b (List.mem_of_getElem? h)
  split <;> omega
theorem sum_nn (f : Nat → Int) : ∀ s : List Nat, (∀ t ∈ s, 0 ≤ f t) → 0 ≤ (s.map f).sum
  | [], _ => Int.le_refl _
  | a :: s, h => by
    rw [List.map_cons, List.sum_cons]
    have h1 := h a List.mem_cons_self
    have h2 := sum_nn f s fun t ht => h t (List.mem_cons_of_mem _ ht)
    omega
theorem sum_le (f : Nat → Int) : ∀ (q s : List Nat), q.Nodup → (∀ t ∈ s, 0 ≤ f t) → (∀ t ∈ q, t ∉ s → f t ≤ 0) → (q.map f).sum ≤ (s.map f).sum
  | [], s, _, h, _ => sum_nn f s h
  | a :: q, s, hn, h1, h2 => by
    obtain ⟨n1, n2⟩ := List.nodup_cons.mp hn
    rw [List.map_cons, List.sum_cons]
    by_cases ha : a ∈ s
    · have hp := List.perm_cons_erase ha
      have e : (s.map f).sum = f a + ((s.erase a).map f).sum := by
        have h3 := (hp.map f)
        have h4 : ∀ {l m : List Int}, l.Perm m → l.sum = m.sum := by
          intro l m h
          induction h with
          | nil => rfl
          | cons x _ ih => rw [List.sum_cons, List.sum_cons, ih]
          | swap x y l => rw [List.sum_cons, List.sum_cons, List.sum_cons, List.sum_cons]; omega
          | trans _ _ a b => exact a.trans b
        rw [h4 h3, List.map_cons, List.sum_cons]
      have ih := sum_le f q (s.erase a) n2 (fun t ht => h1 t (List.mem_of_mem_erase ht)) fun t ht hne => h2 t (List.mem_cons_of_mem _ ht) fun hs => by
        have hta : t ≠ a := fun z => n1 (z ▸ ht)
        exact hne ((List.mem_erase_of_ne hta).mpr hs)
      omega
    · have ih := sum_le f q s n2 h1 fun t ht => h2 t (List.mem_cons_of_mem _ ht)
      have := h2 a List.mem_cons_self ha
      omega
theorem len_sub (d e : List Int) : ∀ q : List Nat, len d q - len e q = (q.map fun t => d.getD t 0 - e.getD t 0).sum
  | [] => rfl
  | a :: q => by
    rw [len_cons, len_cons, List.map_cons, List.sum_cons, ← len_sub d e q]
    omega
/-- the durations that are high on s and low elsewhere let s be as far ahead of q as can be -/
theorem raised_best {p : Pr} (ok : p.Ok) {d : List Int} (hd : Dur p d) (s q : List Nat) (hq : q.Nodup) : len d s - len d q ≤ len (raised p s) s - len (raised p s) q := by
  have h1 := len_sub (raised p s) d s
  have h2 := len_sub (raised p s) d q
  have h3 : (q.map fun t => (raised p s).getD t 0 - d.getD t 0).sum ≤ (s.map fun t => (raised p s).getD t 0 - d.getD t 0).sum := by
    refine sum_le _ q s hq (fun t ht => ?_) fun t _ ht => ?_
    · cases e : p.ts[t]? with
      | none =>
        have l1 : p.ts.length ≤ t := List.getElem?_eq_none_iff.mp e
        rw [List.getD_eq_getElem?_getD, List.getD_eq_getElem?_getD, List.getElem?_eq_none (by rw [raised_len]; exact l1), List.getElem?_eq_none (by rw [hd.l]; exact l1)]
        exact Int.le_refl _
      | some b =>
        rw [raised_at e, if_pos ht]
        have := (hd.b t b e).2
        omega
    · cases e : p.ts[t]? with
      | none =>
        have l1 : p.ts.length ≤ t := List.getElem?_eq_none_iff.mp e
        rw [List.getD_eq_getElem?_getD, List.getD_eq_getElem?_getD, List.getElem?_eq_none (by rw [raised_len]; exact l1), List.getElem?_eq_none (by rw [hd.l]; exact l1)]
        exact Int.le_refl _
      | some b =>
        rw [raised_at e, if_neg ht]
        have := (hd.b t b e).1
        omega
  omega
/-- b is the greatest lead of A over B over all durations, and c shows it -/
structure Best (p : Pr) (A B : List Nat → Prop) (b : Int) (c : List Int) : Prop where
  dur : Dur p c
  at_ : ∀ x y, MaxP A (len c) x → MaxP B (len c) y → x - y = b
  le : ∀ d, Dur p d → ∀ x y, MaxP A (len d) x → MaxP B (len d) y → x - y ≤ b
theorem best_of {p : Pr} (ok : p.Ok) {A B : List Nat → Prop} (hB : ∀ q, B q → q.Nodup) {b : Int} {s : List Nat} (hs : A s) {y : Int} (hy : MaxP B (len (raised p s)) y) (hb : b = len (raised p s) s - y)
    (all : ∀ q, A q → ∃ z, MaxP B (len (raised p q)) z ∧ len (raised p q) q - z ≤ b) : Best p A B b (raised p s) := by
  have le : ∀ d, Dur p d → ∀ x y, MaxP A (len d) x → MaxP B (len d) y → x - y ≤ b := fun d hd x y hx hy => by
    obtain ⟨⟨q, h1, h2⟩, _⟩ := hx
    obtain ⟨z, ⟨⟨r, g1, g2⟩, _⟩, g3⟩ := all q h1
    have k1 := raised_best ok hd q r (hB r g1)
    have k2 := hy.2 r g1
    omega
  refine ⟨raised_dur ok s, fun x z hx hz => ?_, le⟩
  have h1 := hy.uniq hz
  have h2 := le _ (raised_dur ok s) x z hx hz
  have h3 := hx.2 s hs
  omega
/-- the least and the greatest of (greatest of A) - (greatest of B) over all durations -/
structure Rng (p : Pr) (A B : List Nat → Prop) (lo hi : Int) : Prop where
  lo_le : ∀ d, Dur p d → ∀ x y, MaxP A (len d) x → MaxP B (len d) y → lo ≤ x - y
  le_hi : ∀ d, Dur p d → ∀ x y, MaxP A (len d) x → MaxP B (len d) y → x - y ≤ hi
  lo_at : ∃ c, Dur p c ∧ ∀ x y, MaxP A (len c) x → MaxP B (len c) y → x - y = lo
  hi_at : ∃ c, Dur p c ∧ ∀ x y, MaxP A (len c) x → MaxP B (len c) y → x - y = hi
theorem rng_of {p : Pr} {A B : List Nat → Prop} {b1 b2 : Int} {c1 c2 : List Int} (h1 : Best p B A b1 c1) (h2 : Best p A B b2 c2) : Rng p A B (0 - b1) b2 where
  lo_le := fun d hd x y hx hy => by have := h1.le d hd y x hy hx; omega
  le_hi := h2.le
  lo_at := ⟨c1, h1.dur, fun x y hx hy => by have := h1.at_ y x hy hx; omega⟩
  hi_at := ⟨c2, h2.dur, h2.at_⟩
theorem Best.congr {p : Pr} {A B A' B' : List Nat → Prop} {b : Int} {c : List Int} (h : Best p A B b c) (ha : ∀ q, A q ↔ A' q) (hb : ∀ q, B q ↔ B' q) : Best p A' B' b c where
  dur := h.dur
  at_ := fun x y hx hy => h.at_ x y (hx.congr (fun q => (ha q).symm) fun _ _ => rfl) (hy.congr (fun q => (hb q).symm) fun _ _ => rfl)
  le := fun d hd x y hx hy => h.le d hd x y (hx.congr (fun q => (ha q).symm) fun _ _ => rfl) (hy.congr (fun q => (hb q).symm) fun _ _ => rfl)
theorem Rng.congr {p : Pr} {A B A' B' : List Nat → Prop} {lo hi : Int} (h : Rng p A B lo hi) (ha : ∀ q, A q ↔ A' q) (hb : ∀ q, B q ↔ B' q) : Rng p A' B' lo hi where
  lo_le := fun d hd x y hx hy => h.lo_le d hd x y (hx.congr (fun q => (ha q).symm) fun _ _ => rfl) (hy.congr (fun q => (hb q).symm) fun _ _ => rfl)
  le_hi := fun d hd x y hx hy => h.le_hi d hd x y (hx.congr (fun q => (ha q).symm) fun _ _ => rfl) (hy.congr (fun q => (hb q).symm) fun _ _ => rfl)
  lo_at := by obtain ⟨c, h1, h2⟩ := h.lo_at; exact ⟨c, h1, fun x y hx hy => h2 x y (hx.congr (fun q => (ha q).symm) fun _ _ => rfl) (hy.congr (fun q => (hb q).symm) fun _ _ => rfl)⟩
  hi_at := by obtain ⟨c, h1, h2⟩ := h.hi_at; exact ⟨c, h1, fun x y hx hy => h2 x y (hx.congr (fun q => (ha q).symm) fun _ _ => rfl) (hy.congr (fun q => (hb q).symm) fun _ _ => rfl)⟩

/-! ### a step of one task, by one: greatest lengths move by at most one, the same way -/
def Up1 (d e : List Int) : Prop := ∃ k, k < d.length ∧ e = d.set k (d.getD k 0 + 1)
theorem up_len {d : List Int} {k : Nat} (hk : k < d.length) {q : List Nat} (hq : q.Nodup) : len (d.set k (d.getD k 0 + 1)) q = len d q + (if k ∈ q then 1 else 0) := by
  induction q with
  | nil => rfl
  | cons a q ih =>
    obtain ⟨n1, n2⟩ := List.nodup_cons.mp hq
    rw [len_cons, len_cons, ih n2]
    by_cases e : k = a
    · subst e
      rw [if_neg n1, if_pos List.mem_cons_self]
      have : (d.set k (d.getD k 0 + 1)).getD k 0 = d.getD k 0 + 1 := by
        rw [List.getD_eq_getElem?_getD, List.getElem?_set_self hk]
        rfl
      rw [this]
      omega
    · have : (d.set k (d.getD k 0 + 1)).getD a 0 = d.getD a 0 := by
        rw [List.getD_eq_getElem?_getD, List.getElem?_set_ne e, ← List.getD_eq_getElem?_getD]
      rw [this]
      by_cases hm : k ∈ q
      · rw [if_pos hm, if_pos (List.mem_cons_of_mem _ hm)]; omega
      · rw [if_neg hm, if_neg (fun z => (List.mem_cons.mp z).elim e hm)]; omega
theorem up_max {d e : List Int} (h : Up1 d e) {S : List Nat → Prop} (hS : ∀ q, S q → q.Nodup) {a b : Int} (ha : MaxP S (len d) a) (hb : MaxP S (len e) b) : a ≤ b ∧ b ≤ a + 1 := by
  obtain ⟨k, hk, rfl⟩ := h
  obtain ⟨⟨q, h1, h2⟩, h3⟩ := ha
  obtain ⟨⟨r, g1, g2⟩, g3⟩ := hb
  have k1 := g3 q h1
  rw [up_len hk (hS q h1)] at k1
  have k2 := h3 r g1
  rw [up_len hk (hS r g1)] at g2
  constructor
  · split at k1 <;> omega
  · split at g2 <;> omega
/-- between the values at its ends each number is met by a list whose values step by at most one -/
def Lk {α : Type} (R : α → α → Prop) : List α → Prop
  | a :: b :: l => R a b ∧ Lk R (b :: l)
  | _ => True
theorem ivt : ∀ (l : List Int) (s : Int), Lk (fun a b => a ≤ b + 1 ∧ b ≤ a + 1) l → (∃ x, x ∈ l ∧ x ≤ s) → (∃ y, y ∈ l ∧ s ≤ y) → s ∈ l
  | [], s, _, ⟨x, hx, _⟩, _ => by cases hx
  | [a], s, _, ⟨x, hx, h1⟩, ⟨y, hy, h2⟩ => by
    have e1 : x = a := by simpa using hx
    have e2 : y = a := by simpa using hy
    have : s = a := by omega
    rw [this]; exact List.mem_cons_self
  | a :: b :: l, s, hc, ⟨x, hx, h1⟩, ⟨y, hy, h2⟩ => by
    obtain ⟨hab, hc'⟩ := hc
    by_cases e : s = a
    · rw [e]; exact List.mem_cons_self
    · refine List.mem_cons_of_mem _ (ivt (b :: l) s hc' ?_ ?_)
      · rcases List.mem_cons.mp hx with e1 | hx
        · exact ⟨b, List.mem_cons_self, by omega⟩
        · exact ⟨x, hx, h1⟩
      · rcases List.mem_cons.mp hy with e1 | hy
        · exact ⟨b, List.mem_cons_self, by omega⟩
        · exact ⟨y, hy, h2⟩
end AC
set_option Elab.async false
set_option linter.all false
set_option maxRecDepth 100000
set_option maxHeartbeats 1000000
/-! The program's values as data; equality of data; shapes. -/
namespace AC
open PySem PySem.Spec PyProof.Rows L2

/-! ### shapes -/
def OkD (k : Nat) (d : PyData) : Prop := d.canLay0 = true ∧ d.depth ≤ k
theorem canAll : ∀ {xs : List PyData}, (∀ x ∈ xs, x.canLay0 = true) → PyData.canLayAll0 xs = true
  | [], _ => by simp [PyData.canLayAll0]
  | x :: xs, h => by
    have h1 := h x List.mem_cons_self
    have h2 := canAll (xs := xs) fun y hy => h y (List.mem_cons_of_mem _ hy)
    simp [PyData.canLayAll0, h1, h2]
theorem depAll {k : Nat} : ∀ {xs : List PyData}, (∀ x ∈ xs, x.depth ≤ k) → PyData.depthAll xs ≤ k
  | [], _ => by simp [PyData.depthAll]
  | x :: xs, h => by
    have h1 := h x List.mem_cons_self
    have h2 := depAll (xs := xs) fun y hy => h y (List.mem_cons_of_mem _ hy)
    simp only [PyData.depthAll]
    omega
theorem okd_int {k : Nat} {i : Int} : OkD k (.int i) := ⟨by simp [PyData.canLay0], by simp [PyData.depth]⟩
theorem okd_bool {k : Nat} {i : Bool} : OkD k (.bool i) := ⟨by simp [PyData.canLay0], by simp [PyData.depth]⟩
theorem okd_none {k : Nat} : OkD k .none := ⟨by simp [PyData.canLay0], by simp [PyData.depth]⟩
theorem okd_tup {k : Nat} {xs : List PyData} (h : ∀ x ∈ xs, OkD k x) : OkD (k + 1) (.tuple xs) := ⟨by
  simp only [PyData.canLay0]; exact canAll fun x hx => (h x hx).1, by
  have := depAll fun x hx => (h x hx).2
  simp only [PyData.depth]; omega⟩
theorem okd_lst {k : Nat} {xs : List PyData} (h : ∀ x ∈ xs, OkD k x) : OkD (k + 1) (.list xs) := ⟨by
  simp only [PyData.canLay0]; exact canAll fun x hx => (h x hx).1, by
  have := depAll fun x hx => (h x hx).2
  simp only [PyData.depth]; omega⟩
theorem OkD.sh {k : Nat} {d : PyData} (h : OkD k d) (hk : k ≤ 64) : SeqAt.shaped d = true := by
  show (d.canLay0 && decide (d.depth ≤ 64)) = true
  rw [Bool.and_eq_true]
  exact ⟨h.1, decide_eq_true (Nat.le_trans h.2 hk)⟩
theorem okd_map {α : Type} {k : Nat} {f : α → PyData} {l : List α} (h : ∀ a ∈ l, OkD k (f a)) : ∀ x ∈ l.map f, OkD k x := fun x hx => by
  obtain ⟨a, ha, rfl⟩ := List.mem_map.mp hx
  exact h a ha
theorem sh_int {i : Int} : SeqAt.shaped (.int i) = true := (okd_int (k := 0)).sh (by decide)
theorem sh_bool {i : Bool} : SeqAt.shaped (.bool i) = true := (okd_bool (k := 0)).sh (by decide)
theorem sh_none : SeqAt.shaped .none = true := (okd_none (k := 0)).sh (by decide)

/-! ### equality -/
theorem eqvAll_map {α : Type} (f : α → PyData) (R : α → α → Bool) (h : ∀ a b, PyData.eqv (f a) (f b) = R a b) (hR : ∀ a b, R a b = true ↔ a = b) [DecidableEq α] : ∀ l m : List α, PyData.eqvAll (l.map f) (m.map f) = decide (l = m)
  | [], [] => by simp [PyData.eqvAll]
  | [], b :: m => by simp [PyData.eqvAll]
  | a :: l, [] => by simp [PyData.eqvAll]
  | a :: l, b :: m => by
    rw [List.map_cons, List.map_cons, PyData.eqvAll, eqvAll_map f R h hR l m, h]
    by_cases e : a = b
    · subst e
      rw [(hR a a).mpr rfl]
      by_cases e2 : l = m
      · subst e2; simp
      · simp [e2]
    · have : R a b = false := by
        cases q : R a b with
        | false => rfl
        | true => exact absurd ((hR a b).mp q) e
      rw [this]
      simp [e]
theorem eqv_int (a b : Int) : PyData.eqv (.int a) (.int b) = decide (a = b) := by
  simp only [PyData.eqv]
  by_cases h : a = b <;> simp [h]
theorem eqv_bool (a b : Bool) : PyData.eqv (.bool a) (.bool b) = (a == b) := by simp only [PyData.eqv]
def duD (d : List Int) : PyData := .tuple (d.map PyData.int)
def liD (d : List Int) : PyData := .list (d.map PyData.int)
theorem eqvAll_ints (a b : List Int) : PyData.eqvAll (a.map PyData.int) (b.map PyData.int) = decide (a = b) := eqvAll_map PyData.int (fun a b => decide (a = b)) eqv_int (fun a b => decide_eq_true_iff) a b
theorem eqv_du (a b : List Int) : PyData.eqv (duD a) (duD b) = decide (a = b) := by
  unfold duD
  simp only [PyData.eqv]
  exact eqvAll_ints a b
theorem eqv_li (a b : List Int) : PyData.eqv (liD a) (liD b) = decide (a = b) := by
  unfold liD
  simp only [PyData.eqv]
  exact eqvAll_ints a b
theorem ptD_du (p : List Nat) : ptD p = duD (p.map fun k : Nat => (k : Int)) := by
  unfold ptD duD
  rw [List.map_map]
  rfl
theorem map_cast_inj : ∀ {p q : List Nat}, (p.map fun k : Nat => (k : Int)) = (q.map fun k : Nat => (k : Int)) → p = q
  | [], [], _ => rfl
  | [], _ :: _, h => by cases h
  | _ :: _, [], h => by cases h
  | a :: p, b :: q, h => by
    rw [List.map_cons, List.map_cons] at h
    obtain ⟨h1, h2⟩ := List.cons.inj h
    rw [map_cast_inj h2]
    congr 1
    omega
theorem eqv_pt (p q : List Nat) : PyData.eqv (ptD p) (ptD q) = decide (p = q) := by
  rw [ptD_du, ptD_du, eqv_du]
  by_cases h : p = q
  · subst h; simp
  · rw [decide_eq_false h, decide_eq_false fun e => h (map_cast_inj e)]
theorem okd_du {d : List Int} : OkD 1 (duD d) := okd_tup (okd_map fun _ _ => okd_int)
theorem okd_li {d : List Int} : OkD 1 (liD d) := okd_lst (okd_map fun _ _ => okd_int)
theorem okd_pt {p : List Nat} : OkD 1 (ptD p) := okd_tup (okd_map fun _ _ => okd_int)
/-- an arrow, the bounds of a task, a project -/
def arD (a : Nat × Nat) : PyData := .tuple [.int (a.1 : Int), .int (a.2 : Int)]
def bdD (a : Int × Int) : PyData := .tuple [.int a.1, .int a.2]
def pjD (P : Pr) : PyData := .tuple [.tuple (P.ts.map bdD), .tuple (P.ar.map arD)]
theorem okd_ar {a : Nat × Nat} : OkD 1 (arD a) := okd_tup fun x hx => by
  rcases List.mem_cons.mp hx with rfl | hx
  · exact okd_int
  · rcases List.mem_cons.mp hx with rfl | hx
    · exact okd_int
    · cases hx
theorem eqv_ar (a b : Nat × Nat) : PyData.eqv (arD a) (arD b) = decide (a = b) := by
  obtain ⟨a1, a2⟩ := a
  obtain ⟨b1, b2⟩ := b
  unfold arD
  simp only [PyData.eqv, PyData.eqvAll]
  by_cases h1 : a1 = b1
  · by_cases h2 : a2 = b2
    · subst h1 h2; simp
    · have : ((a2 : Int) == (b2 : Int)) = false := beq_eq_false_iff_ne.mpr (by omega)
      simp [this, h2]
  · have : ((a1 : Int) == (b1 : Int)) = false := beq_eq_false_iff_ne.mpr (by omega)
    simp [this, h1]
/-- a list of tasks; a list of paths told by what stands in it -/
def naD (l : List Nat) : PyData := .list (l.map fun k : Nat => .int (k : Int))
def psD (ps : List (List Nat)) : PyData := .list (ps.map ptD)
def PsD (S : List Nat → Prop) (B : Nat) (d : PyData) : Prop := ∃ ps : List (List Nat), d = psD ps ∧ ps.length ≤ B ∧ ∀ q, q ∈ ps ↔ S q
theorem eqvAll_na (a b : List Nat) : PyData.eqvAll (a.map fun k : Nat => .int (k : Int)) (b.map fun k : Nat => .int (k : Int)) = decide (a = b) := eqvAll_map (fun k : Nat => PyData.int (k : Int)) (fun a b => decide (a = b)) (fun a b => by
  rw [eqv_int]
  exact decide_eq_decide.mpr (by omega)) (fun a b => decide_eq_true_iff) a b
theorem eqv_na (a b : List Nat) : PyData.eqv (naD a) (naD b) = decide (a = b) := by
  unfold naD
  simp only [PyData.eqv]
  exact eqvAll_na a b
theorem any_na (l : List Nat) (t : Nat) : ((l.map fun k : Nat => PyData.int (k : Int)).any fun z => PyData.eqv z (.int (t : Nat))) = decide (t ∈ l) := by
  induction l with
  | nil => rfl
  | cons a l ih =>
    rw [List.map_cons, List.any_cons, ih, eqv_int]
    by_cases h : t = a
    · subst h; simp
    · have h2 : ¬ ((a : Int) = (t : Int)) := by omega
      simp [h, h2]
theorem any_map {α : Type} [DecidableEq α] (f : α → PyData) (h : ∀ a b, PyData.eqv (f a) (f b) = decide (a = b)) (l : List α) (t : α) : ((l.map f).any fun z => PyData.eqv z (f t)) = decide (t ∈ l) := by
  induction l with
  | nil => rfl
  | cons a l ih =>
    rw [List.map_cons, List.any_cons, ih, h]
    by_cases e : t = a
    · subst e; simp
    · have h2 : ¬ (a = t) := fun z => e z.symm
      simp [e, h2]
theorem okd_ps {ps : List (List Nat)} : OkD 2 (psD ps) := okd_lst (okd_map fun _ _ => okd_pt)
theorem okd_na {l : List Nat} : OkD 1 (naD l) := okd_lst (okd_map fun _ _ => okd_int)
theorem eqvAll_pts (a b : List (List Nat)) : PyData.eqvAll (a.map ptD) (b.map ptD) = decide (a = b) := eqvAll_map ptD (fun a b => decide (a = b)) eqv_pt (fun a b => decide_eq_true_iff) a b
theorem eqv_ps (a b : List (List Nat)) : PyData.eqv (psD a) (psD b) = decide (a = b) := by
  unfold psD
  simp only [PyData.eqv]
  exact eqvAll_pts a b
theorem atI_natD {ds : List PyData} {j : Nat} {v : PyData} (h : ds[j]? = some v) : L2.atI ds (j : Int) = some v := atI_nat h
theorem at_0 {d : PyData} {ds : List PyData} : L2.atI (d :: ds) 0 = some d := atI_nat (j := 0) rfl
theorem at_1 {d e : PyData} {ds : List PyData} : L2.atI (d :: e :: ds) 1 = some e := atI_nat (j := 1) rfl
theorem at_2 {d e f : PyData} {ds : List PyData} : L2.atI (d :: e :: f :: ds) 2 = some f := atI_nat (j := 2) rfl
end AC
set_option Elab.async false
set_option linter.all false
set_option maxRecDepth 100000
set_option maxHeartbeats 1000000
/-! Comprehensions and loops over told items. -/
namespace AC
open PySem PySem.Spec PyProof.Rows L2
section
variable {pn : Option Pen} {ρ : En} {n : Nat} {wi : TI} {g : TG} {tt : TT} {te : TE} {vs : List Nat} {α : Type}
theorem get_map {xs : List α} {f : α → PyData} {i : Nat} {d : PyData} (h : (xs.map f)[i]? = some d) : ∃ a, xs[i]? = some a ∧ d = f a := by
  rw [List.getElem?_map] at h
  obtain ⟨a, h1, h2⟩ := Option.map_eq_some_iff.mp h
  exact ⟨a, h1, h2.symm⟩
/-- a comprehension that computes, item by item -/
theorem ev_lcA {PL : List PyData → Nat → Prop} (enc : α → PyData)
    (h : EvI pn wi ρ n (fun ds n1 => ∃ xs : List α, ds = xs.map enc ∧ xs.length ≤ 90000 ∧ ∃ (p : α → Bool) (f : α → PyData),
      (∀ a, a ∈ xs → Tg vs g (enc a) (wipeE ρ vs) (fun ρ' => EvT pn tt ρ' n1 (fun b n2 => n2 = n1 ∧ b = p a) ∧ (p a = true → EvR pn te ρ' n1 (fun e n3 => n3 = n1 ∧ e = f a)))) ∧
      PL ((xs.filter p).map f) n1)) : EvL pn (tLc wi g tt te vs) ρ n PL := by
  refine ev_lc fun X0 X σ H w rr R q => h X0 X σ H w rr R fun J H2 ds n2 e w2 it ⟨xs, ed, hl, p, f, hs, hp⟩ => q J H2 ds n2 e w2 it ?_
  subst ed
  refine ⟨fun i acc n' => acc = ((xs.take i).filter p).map f ∧ n' = n2, ⟨rfl, rfl⟩, fun i d acc n' hd ⟨ha, hn⟩ => ?_, fun acc n' ⟨ha, hn⟩ => ?_⟩
  · subst hn
    obtain ⟨a, hxa, rfl⟩ := get_map hd
    have et : xs.take (i + 1) = xs.take i ++ [a] := by
      rw [List.take_add_one, hxa]
      rfl
    intro pn' Y0 Y H' σ' x r' hx Q' q'
    refine hs a (List.mem_of_getElem? hxa) pn' Y0 Y H' σ' x r' hx Q' fun σ2 ρ2 r2 l2 k2 ⟨h1, h2⟩ => q' σ2 ρ2 r2 l2 k2 ?_
    intro Z0 Z τ G wz rz Q3 q3
    refine h1 Z0 Z τ G wz rz Q3 fun b G2 m2 eg wg ⟨em, eb⟩ => q3 b G2 m2 eg wg ?_
    subst em
    cases hb : p a with
    | true =>
      rw [eb, hb, if_pos rfl]
      refine (h2 hb).imp fun e3 m3 ⟨em3, ee⟩ => ⟨?_, ?_, em3⟩
      · rw [ha, List.length_map]
        have := List.length_filter_le p (xs.take i)
        have h5 : (xs.take i).length ≤ xs.length := by rw [List.length_take]; omega
        omega
      · rw [et, List.filter_append, List.map_append, ha, ee]
        rw [List.filter_cons, if_pos hb]
        rfl
    | false =>
      rw [eb, hb, if_neg Bool.false_ne_true]
      refine ⟨?_, rfl⟩
      rw [et, List.filter_append, List.map_append, ha, List.filter_cons, if_neg (by rw [hb]; decide)]
      simp
  · rw [List.length_map, List.take_length] at ha
    rw [ha, hn]
    exact hp
/-- without a test -/
theorem ev_lcB {PL : List PyData → Nat → Prop} (enc : α → PyData)
    (h : EvI pn wi ρ n (fun ds n1 => ∃ xs : List α, ds = xs.map enc ∧ xs.length ≤ 90000 ∧ ∃ (f : α → PyData),
      (∀ a, a ∈ xs → Tg vs g (enc a) (wipeE ρ vs) (fun ρ' => EvR pn te ρ' n1 (fun e n3 => n3 = n1 ∧ e = f a))) ∧
      PL (xs.map f) n1)) : EvL pn (tLc wi g tYes te vs) ρ n PL := by
  refine ev_lcA enc fun X0 X σ H w rr R q => h X0 X σ H w rr R fun J H2 ds n2 e w2 it ⟨xs, ed, hl, f, hs, hp⟩ => q J H2 ds n2 e w2 it ?_
  refine ⟨xs, ed, hl, fun _ => true, f, fun a ha => ?_, ?_⟩
  · intro pn' Y0 Y H' σ' x r' hx Q' q'
    exact hs a ha pn' Y0 Y H' σ' x r' hx Q' fun σ2 ρ2 r2 l2 k2 h1 => q' σ2 ρ2 r2 l2 k2 ⟨et_yes ⟨rfl, rfl⟩, fun _ => h1⟩
  · rw [List.filter_eq_self.mpr (fun _ _ => rfl)]
    exact hp
/-- a comprehension whose items are told by a relation -/
theorem ev_lcR {PL : List PyData → Nat → Prop} (enc : α → PyData) (Q : α → PyData → Prop)
    (h : EvI pn wi ρ n (fun ds n1 => ∃ xs : List α, ds = xs.map enc ∧ xs.length ≤ 90000 ∧
      (∀ a, a ∈ xs → Tg vs g (enc a) (wipeE ρ vs) (fun ρ' => EvR pn te ρ' n1 (fun e n3 => n3 = n1 ∧ Q a e))) ∧
      ∀ es : List PyData, es.length = xs.length → (∀ (i : Nat) a, xs[i]? = some a → ∃ e, es[i]? = some e ∧ Q a e) → PL es n1)) : EvL pn (tLc wi g tYes te vs) ρ n PL := by
  refine ev_lc fun X0 X σ H w rr R q => h X0 X σ H w rr R fun J H2 ds n2 e w2 it ⟨xs, ed, hl, hs, hp⟩ => q J H2 ds n2 e w2 it ?_
  subst ed
  refine ⟨fun i acc n' => n' = n2 ∧ acc.length = i ∧ i ≤ xs.length ∧ ∀ (j : Nat) a, j < i → xs[j]? = some a → ∃ e, acc[j]? = some e ∧ Q a e, ⟨rfl, rfl, Nat.zero_le _, fun j a hj => absurd hj (Nat.not_lt_zero j)⟩, fun i d acc n' hd ⟨hn, ha, hi, hq⟩ => ?_, fun acc n' ⟨hn, ha, hi, hq⟩ => ?_⟩
  · subst hn
    obtain ⟨a, hxa, rfl⟩ := get_map hd
    intro pn' Y0 Y H' σ' x r' hx Q' q'
    refine hs a (List.mem_of_getElem? hxa) pn' Y0 Y H' σ' x r' hx Q' fun σ2 ρ2 r2 l2 k2 h1 => q' σ2 ρ2 r2 l2 k2 ?_
    refine et_yes ?_
    rw [if_pos rfl]
    refine h1.imp fun e3 m3 ⟨em3, ee⟩ => ⟨by omega, em3, by rw [List.length_append, ha]; rfl, (List.getElem?_eq_some_iff.mp hxa).1, fun j b hj hb => ?_⟩
    by_cases hjl : j < acc.length
    · obtain ⟨e, g1, g2⟩ := hq j b (by omega) hb
      exact ⟨e, by rw [List.getElem?_append_left hjl]; exact g1, g2⟩
    · have ej : j = i := by omega
      subst ej
      rw [hxa] at hb
      cases hb
      refine ⟨e3, ?_, ee⟩
      rw [List.getElem?_append_right (by omega), ha, Nat.sub_self]
      rfl
  · rw [List.length_map] at ha hq hi
    rw [hn]
    exact hp acc ha fun i a hia => hq i a ((List.getElem?_eq_some_iff.mp hia).1) hia
/-- a for over told items -/
theorem run_forA {t : TS} {N B C : En → Nat → Prop} {R : PyData → Nat → Prop} (enc : α → PyData) (h : EvI pn wi ρ n (fun ds n1 => ∃ xs : List α, ds = xs.map enc ∧ ∃ Iv : Nat → En → Nat → Prop, Iv 0 ρ n1 ∧
    (∀ i a ρ' n', xs[i]? = some a → Iv i ρ' n' → Tg (List.range 64) g (enc a) ρ' (fun ρ2 => Run pn t ρ2 n' (Iv (i + 1)) R N (Iv (i + 1)))) ∧ (∀ ρ' n', Iv xs.length ρ' n' → N ρ' n'))) : Run pn (tFor wi g t) ρ n N R B C := by
  refine run_for fun X0 X σ H w rr R q => h X0 X σ H w rr R fun J H2 ds n2 e w2 it ⟨xs, ed, Iv, i0, hs, hp⟩ => q J H2 ds n2 e w2 it ?_
  subst ed
  refine ⟨Iv, i0, fun i d ρ' n' hd iv => ?_, by rw [List.length_map]; exact hp⟩
  obtain ⟨a, hxa, rfl⟩ := get_map hd
  exact hs i a ρ' n' hxa iv
theorem Run.imp {t : TS} {N N' B C : En → Nat → Prop} {R R' : PyData → Nat → Prop} (h : Run pn t ρ n N R B C) (h1 : ∀ ρ n, N ρ n → N' ρ n) (h2 : ∀ d n, R d n → R' d n) : Run pn t ρ n N' R' B C := fun X0 H0 X σ H D g r hn hr hb hc =>
  h X0 H0 X σ H D g r (fun ρ' n' X' σ' H' g' s' r' p => hn ρ' n' X' σ' H' g' s' r' (h1 _ _ p)) (fun v H' d n' e w r p => hr v H' d n' e w r (h2 _ _ p)) hb hc
theorem rgD_map (lo : Int) (m : Nat) : rgD lo m = (List.range m).map fun i : Nat => .int (lo + (i : Int)) := rfl
end
end AC
set_option Elab.async false
set_option linter.all false
set_option maxRecDepth 100000
set_option maxHeartbeats 1000000
/-! The rules whose readings name the written part, with that part given. -/
namespace AC
open PySem PySem.Spec PyProof.Rows L2
section
variable (K : PySem.W.Frag) {X : Cx} (hK : X.K = K)
include hK
theorem k_eq (hu : X.A.units + 64 < cLine) : OpR X (compareOp .Eq) (rEqD K) := by subst hK; exact op_eqD hu
theorem k_ne (hu : X.A.units + 64 < cLine) : OpR X (compareOp .NotEq) (rNeD K) := by subst hK; exact op_neD hu
theorem k_in (hu : X.A.units + 65 < cLine) : OpR X (compareOp .In) (uIn K) := by subst hK; exact op_uIn hu
theorem k_ni (hu : X.A.units + 65 < cLine) : OpR X (compareOp .NotIn) (uNi K) := by subst hK; exact op_uNi hu
theorem k_add : OpR X (binaryOp .Add) (uAdd K) := by subst hK; exact op_uAdd
theorem k_ix : IxR X (rIx K) := by subst hK; exact ix_seq
theorem k_slT : SlR X (rSlA K) := by subst hK; exact sl_tupA
theorem k_slL : SlR X (rSlL K) := by subst hK; exact sl_list
theorem k_len : CallR X (.builtin "len") (rLenQ K) := by subst hK; exact call_len_seq
theorem k_sum (hc : X.calm = true) : CallR X (.builtin "sum") (rSum K) := by subst hK; exact cr_sum hc
theorem k_max (hc : X.calm = true) : CallR X (.builtin "max") (rMax K) := by subst hK; exact cr_max hc
theorem k_min (hc : X.calm = true) : CallR X (.builtin "min") (rMin K) := by subst hK; exact cr_min hc
theorem k_sorted : CallR X (.builtin "sorted") (rSortQ K) := by subst hK; exact cr_sortQ
theorem k_isi : CallR X (.builtin "isinstance") (rIsi K) := by subst hK; exact call_isi
theorem k_tuple : CallR X (.type "tuple") (rTupQ K) := by subst hK; exact call_tuple_of
theorem k_list : CallR X (.type "list") (rLstQ K) := by subst hK; exact call_list_of
theorem k_seq {tg l : Expr} {tl : TE} (hl : PE X l tl) : PI X tg l (uSeq K tl) := by subst hK; exact pi_seq hl
theorem k_tup {es : List Expr} {k : Nat} {t : TGs} {pos : Pos} (n : Nat) (hc : X.calm = true) (h : PGs X es t) (hn : (assignEach es X.env).length = n := by rfl) (hst : (assignEach es X.env).findIdx? (·.1) = none := by rfl) : PG X (.Tuple es k pos) (gTup K n t) := by
  subst hK; exact pg_tup hc h hn hst
theorem k_zip {e e2 : Expr} {ta : TA} {p pos tpos : Pos} {elts : List Expr} {kk : Nat} (hg : Gl X "zip") (hm : X.mg "zip" = none) (ha : PA X [e, e2] ta)
    (hs : starEach [e, e2] X.env = (false, eval e X.env) :: starEach [e2] X.env := by rfl) (hpl : (backTo pos (starEach [e2] X.env)).any (·.1) = false := by rfl) :
    PI X (.Tuple elts kk tpos) (.Call (.Name "zip" p) [e, e2] [] pos) (RZ.iZipA K ta) := by subst hK; exact RZ.pi_zipA hg hm ha hs hpl
theorem k_enum {e : Expr} {ta : TA} {p pos tpos : Pos} {elts : List Expr} {kk : Nat} (hg : Gl X "enumerate") (hm : X.mg "enumerate" = none) (ha : PA X [e] ta) (hs : starEach [e] X.env = [(false, eval e X.env)] := by rfl) :
    PI X (.Tuple elts kk tpos) (.Call (.Name "enumerate" p) [e] [] pos) (iEnum K ta) := by subst hK; exact pi_enum hg hm ha hs
theorem k_setOf (hc : X.calm = true) (hu : X.A.units + 64 < cLine) : CallR X (.type "set") (rSetOfT K X.prog X.w) := by subst hK; exact cr_setOfT hc hu
theorem k_sortedT (hc : X.calm = true) : CallR X (.builtin "sorted") (rSortedT K X.prog X.w) := by subst hK; exact cr_sortedT hc
theorem k_index (hu : X.A.units + 65 < cLine) : MtR X "list.index" (rIndexD K) := by subst hK; exact mt_indexD hu
theorem k_bm {o e : Expr} {es : List Expr} {to : TE} {t : TA} {name : Str} {apos cpos : Pos} {T id : String} {r : V → List V → Hp → VK → Prop} (pa : PlainAttrs T) (slot : Slot T name id) (hty : typeOf (.builtin id) = pure (.type "method_descriptor")) (hm : MtR X id r) (ho : PE X o to) (ha : PA X (e :: es) t)
    (hbase : attributeBase o name X.env (eval o X.env) = eval o X.env := by rfl)
    (hfew : ((backTo cpos (starEach (e :: es) X.env)).all (fun x => !x.1) && (backToKw cpos (keywordEach [] X.env)).all (fun x => x.1.isSome) && decide ((e :: es).length + ([] : List Keyword).length + (if ([] : List Keyword).isEmpty then 0 else 1) < 30)) = true := by rfl)
    (hline : (apos.endLine == cpos.line) = true := by rfl) (hs : starEach (e :: es) X.env = (false, eval e X.env) :: starEach es X.env := by rfl) (hplain : (backTo cpos (starEach es X.env)).any (·.1) = false := by rfl) :
    PE X (.Call (.Attribute o name apos) (e :: es) [] cpos) (tBM K T r to t) := by subst hK; exact pe_bm pa slot hty hm ho ha hbase hfew hline hs hplain
/-- an item of a list, to be changed -/
theorem k_get : PGet X (rGetL K) := by
  subst hK
  intro pins s σ H o i ov iv Q I ro ri h
  obtain ⟨p, xs, z, v, rfl, rfl, hq, he, q⟩ := h
  cases ro
  obtain ⟨t, rfl⟩ := ri
  obtain ⟨its, r, pl, hz⟩ := I.list hq
  obtain ⟨j, h1, h2, h3, h4, h5⟩ := atI_get he
  obtain ⟨w, ew, rw'⟩ := r.get h2
  have hl := r.length
  have hn := line63
  have fin : EP X pins σ Q w s := ⟨v, H, I, rw', q⟩
  by_cases h0 : 0 ≤ z
  · have hj : z.toNat = j := by
      rw [seqIndex_of h0 h5] at h1
      exact Option.some.inj h1
    exact wpAny_getItem_list pl.isList h0 (by omega) (by rw [hj]; simpa using ew) fin
  · have hj : (z + (its.toArray.size : Int)).toNat = j := by
      rw [seqIndex_neg (by omega) h4] at h1
      rw [List.size_toArray, ← hl]
      exact Option.some.inj h1
    exact wpAny_getItem_list_neg pl.isList (by omega) (by rw [List.size_toArray] <;> omega) (by omega) (by rw [hj]; simpa using ew) fin
end
end AC
set_option Elab.async false
set_option linter.all false
set_option maxRecDepth 100000
set_option maxHeartbeats 1000000
/-! The library's walks over fresh tuples (WalksT) as the layer's iterations; enumerate(a tuple). -/
namespace AC
open PySem PySem.Spec PyProof.Rows L2
open Sem (wp)
/-- a walk that yields a new tuple each turn -/
theorem turn_walks {P : Program} {w : World} {K : PySem.W.Frag} {elts : List Expr} {kk : Nat} {tpos : Pos} {it : Addr} {fp : List Addr} {J : It} {tn : Nat → Heap → Prop} (mem : it ∈ fp)
    (obj : ∀ i h, tn i h → ∀ b ∈ fp, ∃ o, h.get? b = some o ∧ ∀ v, o.data ≠ .cell v) (keep : ∀ i h h', tn i h → (∀ b ∈ fp, ∀ o, h.get? b = some o → h'.get? b = some o) → tn i h')
    (self : ∀ (A : Around) (i : Nat) (s : Shared) (Q : Value → Shared → Prop) (E : Value → Shared → Prop), tn i s.heap → Q (.ref it) s → wpAny (model P w) A (pyIter (.ref it)) Q E s)
    (walk : ∀ (X : Cx), X.prog = P → X.w = w → X.K = K → X.A.handled = none → ∀ (i : Nat) (pins : List (Addr × Obj)) (s : Shared) (σ : L2.St) (H : Hp), Inv X pins σ H s → (∀ b ∈ fp, H b = none) → tn i s.heap → (J.go i H ∨ J.stop i H) →
      ∃ (fpw wr : List Addr) (n : Nat) (Pt : Nat → Array Value → Prop) (St : Nat → Heap → Prop) (Mid : Nat → Addr → Heap → Prop), WalksT P w X.A it fpw wr n Pt St Mid ∧ (∀ b ∈ wr, b ∈ fp) ∧ St i s.heap ∧ (∀ h, St (i + 1) h → tn (i + 1) h) ∧
        (J.go i H → i < n ∧ ∀ vals, Pt i vals → ∃ xs : List V, Vals xs vals.toList ∧ xs.length ≤ sizeLine ∧ ∀ T, H T = none → J.yld i H (.ref T) (upd H T (.tup xs))) ∧ (J.stop i H → i = n)) :
    Turn P w K (.Tuple elts kk tpos) J fp it tn where
  mem := mem
  obj := obj
  keep := keep
  self := self
  item := fun X hP hw hK hc i pins s σ H E I hf st hg => by
    have hd : X.A.handled = none := I.ok.hd hc
    obtain ⟨fpw, wr, n, Pt, St, Mid, W, sub, st0, nxt, go, _⟩ := walk X hP hw hK hd i pins s σ H I (fun b hb => (hf b hb).1) st (.inl hg)
    obtain ⟨hlt, hval⟩ := go hg
    refine W.item i s _ _ hlt st0 fun T vals h1 t1 hv hT hTup mid k1 => ⟨_, rfl, W.go elts kk tpos i T { s with heap := h1, toks := t1 } _ _ mid fun h2 st2 k2 => ?_⟩
    obtain ⟨xs, rv, hsz, hy⟩ := hval vals hv
    have out : ∀ b, b ∉ fp → b ∉ wr := fun b hb z => hb (sub b z)
    have free : H T = none := I.hok.fresh hT
    have here : ObjOk X.prog X.w (upd H T (.tup xs)) h2 T (.tup xs) := ⟨hsz, _, rv, hTup.at fun o q => k2 T o (W.apart _ _ _ mid) q⟩
    refine ⟨.ref T, _, I.turnedNew (t' := t1) (ch := fp) (fun c o hb q => k2 c o (out c hb) (k1 c o (out c hb) q)) hf hT here, rfl, hy T free, nxt h2 st2, fun b hb => ?_⟩
    obtain ⟨o, ho, _⟩ := obj i s.heap st b hb
    rw [upd_ne (Nat.ne_of_lt (Nat.lt_of_lt_of_le (Heap.lt_size ho) hT))]
    exact (hf b hb).1
  done := fun X hP hw hK hc i pins s σ H E I hf st hg => by
    have hd : X.A.handled = none := I.ok.hd hc
    obtain ⟨fpw, wr, n, Pt, St, Mid, W, sub, st0, _, _, stop⟩ := walk X hP hw hK hd i pins s σ H I (fun b hb => (hf b hb).1) st (.inr hg)
    have e := stop hg
    subst e
    exact W.done s _ _ st0 fun h1 t1 k1 => ⟨rfl, I.turnedL (t' := t1) (ch := fp) (fun c o hb q => k1 c o (fun z => hb (sub c z)) q) hf⟩
/-- enumerate(v): one argument, whatever v is -/
theorem meets_enumB1 {v : Value} {o : Obj} {H : Heap → Prop} (B : Begins v o H) :
    Meets (Builtin.«enumerate.__new__» ⟨[.type "enumerate", v], []⟩) (fun _ R s => H s.heap ∧
      R (.ok (.ret (.ref (s.heap.push o).objs.size))) { s with heap := (s.heap.push o).push { cls := .type "enumerate", data := .fields #[.none, .bool false, .ref s.heap.objs.size, rawInt 0, .none, .none] } }) :=
  .of_wp fun prog w A R s ⟨h1, h2⟩ => by
    have kind := sub_enumerate
    have begin_ : ∀ {A' : Around} {E : Value → Shared → Prop} {Q : Value → Shared → Prop}, Q (.ref s.heap.objs.size) { s with heap := s.heap.push o } → wpAny (model prog w) A' (pyIter v) Q E s := fun q => B.iter prog w _ _ s _ h1 q
    cases s
    wp_walk using begin_
    refine wpAny_stack_any fun st => wpAny_pure ?_
    split
    · rename_i c _ _ _ _ _
      cases (c == Value.type "enumerate") <;> (wp_walk using begin_; exact ⟨_, rfl, h2⟩)
    · wp_walk using begin_
      exact ⟨_, rfl, h2⟩
theorem call_enumB1 {prog : Program} {w : World} {A : Around} {E : Value → Shared → Prop} {s : Shared} {v : Value} {o : Obj} {H : Heap → Prop} {Q : Value → Shared → Prop} (B : Begins v o H) (h1 : H s.heap)
    (h : ∀ h', IsEnum h' (s.heap.objs.size + 1) s.heap.objs.size 0 .none → h'.get? s.heap.objs.size = some o → (∀ b o, s.heap.get? b = some o → h'.get? b = some o) → Q (.ref (s.heap.objs.size + 1)) { s with heap := h' }) :
    wpAny (model prog w) A (call (.type "enumerate") [v]) Q E s := by
  have len1 : (s.heap.push o).objs.size = s.heap.objs.size + 1 := Heap.size_push ..
  have made : ∀ e : Obj, e.isFreed = false → ((s.heap.push o).push e).get? (s.heap.objs.size + 1) = some e := fun e he => len1 ▸ Heap.get?_push_size (s.heap.push o) he
  refine callType_new F.called_enumerate (by decide) (F.typeCall_enumerate_1 _) (F.newCall_enumerate_1 _) (fun obj => F.args_object_init_2 obj _) F.entry_enumerate_new (meets_enumB1 B) ⟨h1, ?_⟩
  rw [len1]
  exact ⟨⟨_, made _ rfl, rfl⟩, h _ (made _ rfl) (Heap.get?_push_of_some _ (Heap.get?_push_size _ B.free)) fun b u x => Heap.get?_push_of_some _ (Heap.get?_push_of_some _ x)⟩
/-- the tuple at a, each item in a new pair -/
def IteT (K : PySem.W.Frag) (a : Addr) : It where
  go i H := ∃ (xs : List V) (x : V), SqT K H a xs ∧ xs[i]? = some x
  yld i H v H' := ∃ T x, v = .ref T ∧ H T = none ∧ H' = upd H T (.tup [.int (i : Nat), x]) ∧ ∀ xs, SqT K H a xs → xs[i]? = some x
  stop i H := ∃ xs : List V, SqT K H a xs ∧ i = xs.length
theorem turn_enumT {P : Program} {w : World} {K : PySem.W.Frag} {elts : List Expr} {kk : Nat} {tpos : Pos} (a e it : Addr) (hae : a ≠ it) (hne : e ≠ it) :
    Turn P w K (.Tuple elts kk tpos) (IteT K a) [e, it] e (fun i h => (∃ old, IsEnum h e it ((i : Nat) : Int) old) ∧ h.IsTupleIter it a i) := by
  refine turn_walks (List.mem_cons_self ..) (fun i h ⟨⟨old, he⟩, ⟨o, ho, _, hd⟩⟩ b hb => ?_) (fun i h h' ⟨⟨old, he⟩, hi⟩ k => ⟨⟨old, k e (by simp) _ he⟩, hi.at fun o q => k it (by simp) o q⟩) (fun A i s Q E ⟨⟨_, he⟩, _⟩ h => wpAny_pyIter_enum he h) ?_
  · rcases List.mem_cons.mp hb with rfl | hb
    · exact ⟨_, he, fun v q => nomatch q⟩
    · have : b = it := by simpa using hb
      exact ⟨o, this ▸ ho, fun v q => by rw [hd] at q; cases q⟩
  · intro X hP hw hK hd i pins s σ H I hfree ⟨⟨old, he⟩, hit⟩ hgs
    subst hP hw hK
    obtain ⟨xs, hq⟩ : ∃ xs, SqT X.K H a xs := by
      rcases hgs with ⟨xs, _, h, _⟩ | ⟨xs, h, _⟩
      · exact ⟨xs, h⟩
      · exact ⟨xs, h⟩
    obtain ⟨its, rv, p, hz⟩ := I.tuple hq
    have tupA : s.heap.IsTuple a its.toArray := p
    have ea : e ≠ a := fun z => by
      obtain ⟨o2, ho2, hc2, _⟩ := tupA
      rw [← z, show s.heap.get? e = some _ from he] at ho2
      have := Option.some.inj ho2
      rw [← this] at hc2
      injection hc2 with h4
      exact absurd h4 (by decide)
    refine ⟨_, _, _, _, _, _, WalksT.enumerateD (Draws.tuple (show X.A.in1.handled = none from hd) it a hae its.toArray) e hne (by simp [hne, ea]) (by simp), fun b hb => hb, ⟨⟨old, he⟩, hit, tupA⟩, fun h ⟨o, st, _⟩ => ⟨o, st⟩, fun hg => ?_, fun hs => ?_⟩
    · obtain ⟨ys, x, hq2, hx⟩ := hg
      have ey := I.tuple_inj hq2 hq
      subst ey
      obtain ⟨u, hu, ru⟩ := rv.get hx
      have hu2 : its.toArray[i]? = some u := by simpa using hu
      have hlt : i < its.length := (List.getElem?_eq_some_iff.mp hu).1
      refine ⟨by rw [List.size_toArray]; exact hlt, fun vals ⟨t, y, hy, hvals⟩ => ?_⟩
      rw [hu2] at hy
      cases hy
      subst hvals
      exact ⟨[.int (i : Nat), x], .cons ⟨_, rfl⟩ (.cons ru .nil), by show 2 ≤ sizeLine; decide, fun T hT => ⟨T, x, rfl, hT, rfl, fun zs hz => by rw [I.tuple_inj hz hq]; exact hx⟩⟩
    · obtain ⟨ys, hq2, hx⟩ := hs
      have ey := I.tuple_inj hq2 hq
      subst ey
      rw [List.size_toArray, hx]
      exact rv.length
def iEnumT (K : PySem.W.Frag) (ta : TA) : TI := fun σ H R => ta σ H fun vs H1 => ∃ a xs, vs = [.ref a] ∧ SqT K H1 a xs ∧ R (IteT K a) H1
theorem pi_enumT {X : Cx} {e : Expr} {ta : TA} {p pos tpos : Pos} {elts : List Expr} {kk : Nat} (hg : Gl X "enumerate") (hm : X.mg "enumerate" = none) (ha : PA X [e] ta) (hs : starEach [e] X.env = [(false, eval e X.env)] := by rfl) :
    PI X (.Tuple elts kk tpos) (.Call (.Name "enumerate" p) [e] [] pos) (iEnumT X.K ta) where
  run := fun pins s σ H R I h => by
    refine Call_ (ld_blt I hg hm boot_enumerate (PyProof.Rows.callWith_type1 (thn (ha.run pos pins s σ H _ I h) fun us s1 q0 => ?_) hs rfl))
    obtain ⟨vs, H1, I1, r1, a, xs, rfl, hq, q⟩ := q0
    obtain ⟨y, rfl, ry⟩ := vals1 r1
    obtain rfl : y = Value.ref a := ry
    obtain ⟨its, rv, tupA, _⟩ := I1.tuple hq
    obtain ⟨o2, ho2, _⟩ := id tupA
    refine call_enumB1 (begins_tuple a its.toArray) tupA fun h1 he hit hk => wpAny_pyIter_enum he ?_
    refine ⟨_, [s1.heap.objs.size + 1, s1.heap.objs.size], _, _, H1, rfl, I1.kept (t' := s1.toks) hk, turn_enumT a (s1.heap.objs.size + 1) s1.heap.objs.size (Nat.ne_of_lt (Heap.lt_size ho2)) (Nat.succ_ne_self _), ⟨⟨.none, he⟩, _, hit, rfl, rfl⟩, fun b hb => ?_, q⟩
    have hle : s1.heap.objs.size ≤ b := by
      rcases List.mem_cons.mp hb with rfl | hb
      · exact Nat.le_succ _
      · have : b = s1.heap.objs.size := by simpa using hb
        exact Nat.le_of_eq this.symm
    exact I1.fpOk hle (I1.hok.fresh hle)
section
variable (K : PySem.W.Frag) {X : Cx} (hK : X.K = K)
include hK
theorem k_enumT {e : Expr} {ta : TA} {p pos tpos : Pos} {elts : List Expr} {kk : Nat} (hg : Gl X "enumerate") (hm : X.mg "enumerate" = none) (ha : PA X [e] ta) (hs : starEach [e] X.env = [(false, eval e X.env)] := by rfl) :
    PI X (.Tuple elts kk tpos) (.Call (.Name "enumerate" p) [e] [] pos) (iEnumT K ta) := by subst hK; exact pi_enumT hg hm ha hs
end
theorem it_enumT {K : PySem.W.Frag} {F : Hp} {a : Addr} {xs : List V} {ds : List PyData} (h : F a = some (.tup xs)) (hx : RpAll F xs ds) : ItOk F (IteT K a) (enumD ds) := fun X H i s tr => by
  have e := (mask_some (s _ _ h)).2
  refine ⟨fun hi => ⟨xs, SqT.of e, by rw [enumD_len] at hi; rw [hx.length]; exact hi⟩, fun d hd => ?_⟩
  obtain ⟨x, h1, rfl⟩ := enumD_get hd
  obtain ⟨v, h3, h4⟩ := hx.get h1
  refine ⟨⟨xs, v, SqT.of e, h3⟩, fun z H' hz => ?_⟩
  obtain ⟨T, p, rfl, hT, rfl, g1⟩ := hz
  have h7 := g1 xs (SqT.of e)
  rw [h3] at h7
  cases h7
  have sm := same_new (o := .tup [.int (i : Nat), v]) hT
  exact ⟨sm, .tup (mask_new tr hT) (.cons (.int _) (.cons (Rp.mono (mask_same sm) _ _ (Rp.mono s _ _ h4)) .nil))⟩
theorem ei_enumT {pn : Option Pen} {ρ : En} {n : Nat} {P : List PyData → Nat → Prop} {ta : TA} {K : PySem.W.Frag} (h : EvA pn ta ρ n (fun as n1 => ∃ ds, as = [.tuple ds] ∧ P (enumD ds) n1)) : EvI pn (iEnumT K ta) ρ n P := fun X0 X σ H w rr R q =>
  h X0 X σ H w rr _ fun xs H1 as n1 e1 w1 r1 ⟨ds, e, p⟩ => by
    subst e
    cases r1 with
    | cons r2 r3 =>
      cases r3
      obtain ⟨a, xs, rfl, ha, hx⟩ := r2.tuple
      exact ⟨a, xs, rfl, SqT.of (mask_le _ _ ha), q _ H1 _ n1 e1 w1 (it_enumT ha hx) p⟩
end AC
set_option Elab.async false
set_option linter.all false
set_option maxRecDepth 100000
set_option maxHeartbeats 1000000
/-! zip of a list and a tuple (a walk of the library's); zip of two tuples with one name for the pair: then the zip still knows its last
pair when it is asked again, and that pair is alive or freed. -/
namespace AC
open PySem PySem.Spec PyProof.Rows L2
open Sem (wp)
/-! ### a list and a tuple -/
/-- the list at a, the tuple at b, the items in new pairs -/
def ItzM (K : PySem.W.Frag) (a b : Addr) : It where
  go i H := ∃ (xs ys : List V) (x y : V), SqL K H a xs ∧ SqT K H b ys ∧ xs[i]? = some x ∧ ys[i]? = some y
  yld i H v H' := ∃ T x y, v = .ref T ∧ H T = none ∧ H' = upd H T (.tup [x, y]) ∧ (∀ xs, SqL K H a xs → xs[i]? = some x) ∧ ∀ ys, SqT K H b ys → ys[i]? = some y
  stop i H := ∃ xs ys : List V, SqL K H a xs ∧ SqT K H b ys ∧ i = min xs.length ys.length
theorem turn_zipM {P : Program} {w : World} {K : PySem.W.Frag} {elts : List Expr} {kk : Nat} {tpos : Pos} {a b z TI TO i1 i2 : Addr} (D : ZipSep2 z TI TO i1 i2 [i1, a] [i2, b]) (ha : a ≠ i1) (hb : b ≠ i2) :
    Turn P w K (.Tuple elts kk tpos) (ItzM K a b) [z, TO, i1, i2, TI] z (fun i h => IsZip h z TI TO .none ∧ IsTupOf2 h TI (.ref i1) (.ref i2) ∧ (∃ x y, IsTupOf2 h TO x y) ∧ h.IsListIter i1 a i ∧ h.IsTupleIter i2 b i) := by
  refine turn_walks (List.mem_cons_self ..) (fun i h st c hc => ?_) (fun i h h' st k => ?_) (fun A i s Q E st h => wpAny_pyIter_zip st.1 h) ?_
  · obtain ⟨hz, hTI, ⟨x, y, hTO⟩, ⟨o1, e1, _, d1⟩, ⟨o2, e2, _, d2⟩⟩ := st
    simp only [List.mem_cons, List.not_mem_nil, or_false] at hc
    rcases hc with rfl | rfl | rfl | rfl | rfl
    · exact ⟨_, hz, fun v q => nomatch q⟩
    · exact ⟨_, hTO, fun v q => nomatch q⟩
    · exact ⟨o1, e1, fun v q => nomatch d1.symm.trans q⟩
    · exact ⟨o2, e2, fun v q => nomatch d2.symm.trans q⟩
    · exact ⟨_, hTI, fun v q => nomatch q⟩
  · obtain ⟨hz, hTI, ⟨x, y, hTO⟩, h1, h2⟩ := st
    exact ⟨k z (by simp) _ hz, k TI (by simp) _ hTI, ⟨x, y, k TO (by simp) _ hTO⟩, h1.at (k i1 (by simp)), h2.at (k i2 (by simp))⟩
  · intro X hP hw hK hd i pins s σ H I hfree ⟨hz, hTI, hTO, h1, h2⟩ hgs
    subst hP hw hK
    obtain ⟨xs, ys, hqx, hqy⟩ : ∃ xs ys, SqL X.K H a xs ∧ SqT X.K H b ys := by
      rcases hgs with ⟨xs, ys, _, _, p, q, _⟩ | ⟨xs, ys, p, q, _⟩ <;> exact ⟨xs, ys, p, q⟩
    obtain ⟨its, rv, p1, _⟩ := I.list hqx
    obtain ⟨its2, rv2, p2, _⟩ := I.tuple hqy
    have hd1 : X.A.in1.handled = none := hd
    refine ⟨_, _, _, _, _, _, WalksT.zipD2 D (Draws.list hd1 i1 a ha its.toArray) (Draws.tuple hd1 i2 b hb its2.toArray), fun c hc => ?_, ⟨hz, hTI, hTO, ⟨h1, p1.isList⟩, ⟨h2, p2⟩⟩, fun h ⟨g1, g2, g3, g4, g5⟩ => ⟨g1, g2, g3, g4.1, g5.1⟩, fun hg => ?_, fun hs => ?_⟩
    · simp only [List.mem_cons, List.not_mem_nil, or_false] at hc ⊢
      rcases hc with h | h | h | h <;> simp [h]
    · obtain ⟨xs', ys', x, y, q1, q2, hx, hy⟩ := hg
      obtain rfl := I.list_inj q1 hqx
      obtain rfl := I.tuple_inj q2 hqy
      obtain ⟨u, hu, ru⟩ := rv.get hx
      obtain ⟨u2, hu2, ru2⟩ := rv2.get hy
      have lt1 : i < its.length := (List.getElem?_eq_some_iff.mp hu).1
      have lt2 : i < its2.length := (List.getElem?_eq_some_iff.mp hu2).1
      refine ⟨by rw [List.size_toArray, List.size_toArray]; omega, fun vals ⟨w1, w2, g1, g2, e⟩ => ?_⟩
      have e1 : w1 = u := Option.some.inj (g1.symm.trans (by simpa using hu))
      have e2 : w2 = u2 := Option.some.inj (g2.symm.trans (by simpa using hu2))
      subst e1 e2 e
      exact ⟨[x, y], .cons ru (.cons ru2 .nil), by show 2 ≤ sizeLine; decide, fun T hT => ⟨T, x, y, rfl, hT, rfl, fun l hl => by rw [I.list_inj hl hqx]; exact hx, fun l hl => by rw [I.tuple_inj hl hqy]; exact hy⟩⟩
    · obtain ⟨xs', ys', q1, q2, e⟩ := hs
      obtain rfl := I.list_inj q1 hqx
      obtain rfl := I.tuple_inj q2 hqy
      rw [List.size_toArray, List.size_toArray, e, rv.length, rv2.length]
theorem five {N c : Addr} (h : c ∈ [N + 4, N + 3, N, N + 1, N + 2]) : N ≤ c := by
  simp only [List.mem_cons, List.not_mem_nil, or_false] at h
  rcases h with rfl | rfl | rfl | rfl | rfl <;> first | exact Nat.le_refl _ | exact Nat.le_add_right _ _
def iZipM (K : PySem.W.Frag) (ta : TA) : TI := fun σ H R => ta σ H fun vs H1 => ∃ a b xs ys, vs = [.ref a, .ref b] ∧ SqL K H1 a xs ∧ SqT K H1 b ys ∧ R (ItzM K a b) H1
theorem vals2 {a b : Addr} {us : List Value} (r : Vals [.ref a, .ref b] us) : us = [.ref a, .ref b] := by
  cases r with
  | cons r1 r2 =>
    obtain ⟨u, rfl, ru⟩ := vals1 r2
    cases r1
    cases ru
    rfl
theorem pi_zipM {X : Cx} {e e2 : Expr} {ta : TA} {p pos tpos : Pos} {elts : List Expr} {kk : Nat} (hg : Gl X "zip") (hm : X.mg "zip" = none) (ha : PA X [e, e2] ta)
    (hs : starEach [e, e2] X.env = (false, eval e X.env) :: starEach [e2] X.env := by rfl) (hpl : (backTo pos (starEach [e2] X.env)).any (·.1) = false := by rfl) :
    PI X (.Tuple elts kk tpos) (.Call (.Name "zip" p) [e, e2] [] pos) (iZipM X.K ta) where
  run := fun pins s σ H R I h => by
    refine Call_ (ld_blt I hg hm PyProof.Rows.boot_zip (PyProof.Rows.callWith_type1 (thn (ha.run pos pins s σ H _ I h) fun us s1 q0 => ?_) hs hpl))
    obtain ⟨vs, H1, I1, r1, a, b, xs, ys, rfl, hqx, hqy, q⟩ := q0
    obtain rfl := vals2 r1
    obtain ⟨its, rv, p1, _⟩ := I1.list hqx
    obtain ⟨its2, rv2, p2, _⟩ := I1.tuple hqy
    obtain ⟨o2, ho2, _⟩ := id p2
    have al : a < s1.heap.objs.size := p1.lt
    have bl : b < s1.heap.objs.size := Heap.lt_size ho2
    have one : ∀ {x c : Addr}, x < s1.heap.objs.size → c ∈ [x] → c < s1.heap.objs.size := fun hx hc => by
      rw [List.mem_singleton.mp hc]; exact hx
    exact zip_begins2 (begins_list a its.toArray) (begins_tuple b its2.toArray) p1.isList p2 fun h1 hz hTI hTO e1 e2 hsz hk => wpAny_pyIter_zip hz
      ⟨_, _, _, _, H1, rfl, I1.kept (t' := s1.toks) hk, turn_zipM (zip_sep2 (fun _ hc => one al hc) fun _ hc => one bl hc) (Nat.ne_of_lt al) (Nat.ne_of_lt (Nat.lt_succ_of_lt bl)), ⟨hz, hTI, ⟨_, _, hTO⟩, ⟨_, e1, rfl, rfl⟩, ⟨_, e2, rfl, rfl⟩⟩, fun c hc => I1.fpOk (five hc) (I1.hok.fresh (five hc)), q⟩
/-! ### two tuples, one name -/
local macro_rules | `(tactic| walk_at "zp") => `(tactic| (show wpAny _ _ (field _ 2 >>= _) _ _ _; refine wpAny_bind (wpAny_field (by assumption) rfl rfl ?_); show wpAny _ _ (field _ 3 >>= _) _ _ _; refine wpAny_bind (wpAny_field (by assumption) rfl rfl (wpAny_bind (wpAny_seqItems (by assumption) rfl ?_))); show wpAny _ _ (Builtin.SmallTypes.ownedTupleIsFree _ >>= _) _ _ _))
local macro_rules | `(tactic| walk_at "zt") => `(tactic| (simp only [if_true]; refine wpAny_bind (wpAny_rule ?_)))
local macro_rules | `(tactic| walk_at "z1") => `(tactic| (refine wpAny_bind ?_; simp only [List.zipIdx_cons, List.zipIdx_nil, List.forIn_cons, List.forIn_nil]; refine wpAny_bind (wpAny_bind (wpAny_onRaise ?_)); show wpAny _ _ (Builtin.SmallTypes.nextOf _ >>= _) _ _ _))
local macro_rules | `(tactic| walk_at "z2") => `(tactic| (refine wpAny_bind (wpAny_bind (wpAny_onRaise ?_)); show wpAny _ _ (Builtin.SmallTypes.nextOf _ >>= _) _ _ _))
local macro_rules | `(tactic| walk_at "zh") => `(tactic| (simp only [Bool.false_eq_true, if_false]; refine wpAny_bind ?_; rw [← Array.forIn_toList]; simp only [List.forIn_cons, List.forIn_nil]; refine wpAny_bind (wpAny_bind (wpAny_holding ?_)); show wpAny _ _ (Builtin.SmallTypes.nextOf _ >>= _) _ _ _))
section
variable {prog : Program} {w : World} {A : Around} {E : Value → Shared → Prop} {s : Shared}
/-- a zip, whatever it knows of its last tuple -/
abbrev ZS (h : Heap) (z TI TO : Addr) (f0 : Value) (fb : Bool) : Prop := h.get? z = some { cls := .type "zip", data := .fields #[f0, .bool fb, .bool false, .ref TI, .ref TO] }
def Ow (f0 : Value) : Prop := f0 = .none ∨ ∃ T : Addr, f0 = rawInt T
/-- its last tuple is free for it, or it notes that it is not -/
theorem zn_free {z TI TO : Addr} {f0 : Value} {fb : Bool} {Q : Bool → Shared → Prop} (hz : ZS s.heap z TI TO f0 fb) (hf : Ow f0) (h1 : Q true s)
    (h2 : ∀ h', ZS h' z TI TO f0 true → Heap.SameBut z s.heap h' → Q false { s with heap := h' }) : wpAny (model prog w) A (Builtin.SmallTypes.ownedTupleIsFree (.ref z)) Q E s := by
  unfold Builtin.SmallTypes.ownedTupleIsFree
  rcases hf with rfl | ⟨T, rfl⟩
  · exact wpAny_bind (wpAny_field hz rfl rfl (wpAny_pure h1))
  · have ask : ∀ {R : Option Obj → Shared → Prop}, R (s.heap.get? T) s → wpAny (model prog w) A (loadIfAlive T) R E s := fun h _ _ _ => h
    refine wpAny_bind (wpAny_field hz rfl (x := rawInt T) rfl ?_)
    show wpAny _ _ (loadIfAlive (Int.toNat (T : Int)) >>= _) _ _ _
    rw [Int.toNat_natCast]
    refine wpAny_bind (ask ?_)
    cases s.heap.get? T with
    | none => exact wpAny_pure h1
    | some o =>
      refine wpAny_bind (wpAny_field hz rfl (x := .bool fb) rfl ?_)
      cases fb with
      | true => exact wpAny_pure (h2 s.heap hz (Heap.SameBut.refl _ _))
      | false => exact wpAny_bind (wpAny_setField_rec hz (by simp) fun h' hz' hs' => wpAny_pure (h2 h' hz' hs'))
theorem zn_item {z TI TO i1 i2 l1 l2 : Addr} {f0 : Value} {fb : Bool} {k1 k2 : Nat} {xs ys : Array Value} {x y a b : Value} {Q : Value → Shared → Prop} (D : ZipApart z TI TO i1 i2 l1 l2)
    (hz : ZS s.heap z TI TO f0 fb) (hf : Ow f0) (hTI : IsPair s.heap TI (.ref i1) (.ref i2)) (hTO : IsPair s.heap TO a b)
    (h1 : s.heap.IsTupleIter i1 l1 k1) (h2 : s.heap.IsTupleIter i2 l2 k2) (hl1 : s.heap.IsTuple l1 xs) (hl2 : s.heap.IsTuple l2 ys) (hx : xs[k1]? = some x) (hy : ys[k2]? = some y)
    (hQ : ∀ h' f0' fb', Ow f0' → ZS h' z TI TO f0' fb' → (∃ a b, IsPair h' TO a b) → h'.IsTupleIter i1 l1 (k1 + 1) → h'.IsTupleIter i2 l2 (k2 + 1) → IsPair h' s.heap.objs.size x y →
      (∀ c o, c ≠ z → c ≠ TO → c ≠ i1 → c ≠ i2 → s.heap.get? c = some o → h'.get? c = some o) → Q (.ref s.heap.objs.size) { s with heap := h' }) :
    wpAny (model prog w) A (Builtin.«zip.__next__» ⟨[.ref z], []⟩) (fun fin s' => ∃ v, fin = .done (.ret v) ∧ Q v s') E s := by
  walk_at "zp"
  refine wpAny_bind (zn_free hz hf ?_ fun g₁ hz₁ hs₁ => ?_)
  · walk_at "zt"
    refine wpAny_bind (wpAny_field hz rfl (x := .ref TO) rfl (wpAny_bind (wpAny_setField_rec hz (by simp) fun g₁ hz₁ hs₁ => ?_)))
    have hz₁ : ZS g₁ z TI TO .ellipsis fb := hz₁
    walk_at "z1"
    refine wpAny_bind (RZ.nextOf_tuple_item (h1.extBut hs₁.extBut D.i1z) (hl1.extBut hs₁.extBut D.l1z) hx fun g₂ j1 hs₂ => wpAny_pure ?_)
    have t₂ : IsPair g₂ TO a b := hs₂.extBut _ _ D.TOi1 (hs₁.extBut _ _ D.TOz hTO)
    refine wpAny_bind (wpAny_seqItems t₂ rfl (wpAny_bind (wpAny_updateSeq_pair t₂ fun g₃ t₃ hs₃ => wpAny_bind (wpAny_letGo (wpAny_pure ?_)))))
    walk_at "z2"
    refine wpAny_bind (RZ.nextOf_tuple_item (((h2.extBut hs₁.extBut D.i2z).extBut hs₂.extBut D.i12.symm).extBut hs₃.extBut D.TOi2.symm) (((hl2.extBut hs₁.extBut D.l2z).extBut hs₂.extBut D.l2i1).extBut hs₃.extBut D.l2TO) hy fun g₄ j2 hs₄ => wpAny_pure ?_)
    have t₄ : IsPair g₄ TO x b := hs₄.extBut _ _ D.TOi2 t₃
    refine wpAny_bind (wpAny_seqItems t₄ rfl (wpAny_bind (wpAny_updateSeq_pair t₄ fun g₅ t₅ hs₅ => wpAny_bind (wpAny_letGo (wpAny_pure (wpAny_pure ?_))))))
    have t₅ : IsPair g₅ TO x y := t₅
    refine wpAny_bind (wpAny_seqItems t₅ rfl (wpAny_bind (wpAny_newTuple ?_)))
    have up : ∀ c o, c ≠ z → c ≠ TO → c ≠ i1 → c ≠ i2 → s.heap.get? c = some o → g₅.get? c = some o := fun c o c1 c2 c3 c4 e => hs₅.extBut _ _ c2 (hs₄.extBut _ _ c4 (hs₃.extBut _ _ c2 (hs₂.extBut _ _ c3 (hs₁.extBut _ _ c1 e))))
    have z₅ : ZS g₅ z TI TO .ellipsis fb := hs₅.extBut _ _ D.TOz.symm (hs₄.extBut _ _ D.i2z.symm (hs₃.extBut _ _ D.TOz.symm (hs₂.extBut _ _ D.i1z.symm hz₁)))
    have size5 : g₅.objs.size = s.heap.objs.size := by rw [hs₅.1, hs₄.1, hs₃.1, hs₂.1, hs₁.1]
    have zne : z ≠ g₅.objs.size := Nat.ne_of_lt (Heap.lt_size z₅)
    show wpAny _ _ (Builtin.SmallTypes.ownedTupleHandOut (.ref z) (.ref g₅.objs.size) >>= _) _ _ _
    unfold Builtin.SmallTypes.ownedTupleHandOut
    have z₆ : ZS (g₅.push { cls := .type "tuple", data := .seq #[x, y] }) z TI TO .ellipsis fb := Heap.get?_push_of_some _ z₅
    refine wpAny_bind (wpAny_bind (wpAny_setField_rec z₆ (by simp) fun g₇ z₇ hs₇ => ?_))
    refine wpAny_setField_rec (show ZS g₇ z TI TO (rawInt g₅.objs.size) fb from z₇) (by simp) fun g₈ z₈ hs₈ => wpAny_pure ⟨_, rfl, ?_⟩
    have last : ∀ c o, c ≠ z → (g₅.push { cls := .type "tuple", data := .seq #[x, y] }).get? c = some o → g₈.get? c = some o := fun c o c1 e => hs₈.extBut _ _ c1 (hs₇.extBut _ _ c1 e)
    have last5 : ∀ c o, c ≠ z → g₅.get? c = some o → g₈.get? c = some o := fun c o c1 e => last c o c1 (Heap.get?_push_of_some _ e)
    have new : IsPair g₈ g₅.objs.size x y := last _ _ zne.symm (Heap.get?_push_size _ rfl)
    rw [size5] at new
    show Q (.ref g₅.objs.size) _
    rw [size5]
    exact hQ g₈ _ false (.inr ⟨_, rfl⟩) z₈ ⟨_, _, last5 _ _ D.TOz t₅⟩ ((((j1.extBut hs₃.extBut D.TOi1.symm).extBut hs₄.extBut D.i12).extBut hs₅.extBut D.TOi1.symm).at fun o e => last5 _ o D.i1z e)
      ((j2.extBut hs₅.extBut D.TOi2.symm).at fun o e => last5 _ o D.i2z e) new fun c o c1 c2 c3 c4 e => last5 c o c1 (up c o c1 c2 c3 c4 e)
  · walk_at "zh"
    refine wpAny_bind (RZ.nextOf_tuple_item (s := { s with heap := g₁ }) (h1.extBut hs₁.extBut D.i1z) (hl1.extBut hs₁.extBut D.l1z) hx fun g₂ j1 hs₂ => wpAny_pure (wpAny_pure (wpAny_bind (wpAny_bind (wpAny_holding ?_)))))
    show wpAny _ _ (Builtin.SmallTypes.nextOf _ >>= _) _ _ _
    refine wpAny_bind (RZ.nextOf_tuple_item (s := { s with heap := g₂ }) ((h2.extBut hs₁.extBut D.i2z).extBut hs₂.extBut D.i12.symm) ((hl2.extBut hs₁.extBut D.l2z).extBut hs₂.extBut D.l2i1) hy fun g₃ j2 hs₃ => wpAny_pure (wpAny_pure (wpAny_pure ?_)))
    show wpAny _ _ (newTuple [x, y] >>= _) _ _ _
    refine wpAny_bind (wpAny_newTuple (wpAny_pure ⟨_, rfl, ?_⟩))
    have up : ∀ c o, c ≠ z → c ≠ i1 → c ≠ i2 → s.heap.get? c = some o → g₃.get? c = some o := fun c o c1 c3 c4 e => hs₃.extBut _ _ c4 (hs₂.extBut _ _ c3 (hs₁.extBut _ _ c1 e))
    have size3 : g₃.objs.size = s.heap.objs.size := by rw [hs₃.1, hs₂.1, hs₁.1]
    have new : IsPair (g₃.push { cls := .type "tuple", data := .seq #[x, y] }) g₃.objs.size x y := Heap.get?_push_size _ rfl
    rw [size3] at new
    show Q (.ref g₃.objs.size) _
    rw [size3]
    exact hQ _ _ true hf (Heap.get?_push_of_some _ (hs₃.extBut _ _ D.i2z.symm (hs₂.extBut _ _ D.i1z.symm hz₁))) ⟨_, _, Heap.get?_push_of_some _ (up TO _ D.TOz D.TOi1 D.TOi2 hTO)⟩
      ((j1.extBut hs₃.extBut D.i12).at fun o e => Heap.get?_push_of_some _ e) (j2.at fun o e => Heap.get?_push_of_some _ e) new fun c o c1 c2 c3 c4 e => Heap.get?_push_of_some _ (up c o c1 c3 c4 e)
theorem zn_end {z TI TO i1 i2 l1 l2 : Addr} {f0 : Value} {fb : Bool} {k1 k2 : Nat} {xs ys : Array Value} {a b : Value} {Q : Fin → Shared → Prop} (hh : A.handled = none) (D : ZipApart z TI TO i1 i2 l1 l2)
    (hz : ZS s.heap z TI TO f0 fb) (hf : Ow f0) (hTI : IsPair s.heap TI (.ref i1) (.ref i2)) (hTO : IsPair s.heap TO a b)
    (h1 : s.heap.IsTupleIter i1 l1 k1) (h2 : s.heap.IsTupleIter i2 l2 k2) (hl1 : s.heap.IsTuple l1 xs) (hl2 : s.heap.IsTuple l2 ys) (hend : xs[k1]? = none ∨ ys[k2]? = none)
    (hE : ∀ h' e, (∀ c o, c ≠ z → c ≠ TO → c ≠ i1 → c ≠ i2 → s.heap.get? c = some o → h'.get? c = some o) → (∃ o, h'.get? e = some o ∧ o.cls = .type "StopIteration") → E (.ref e) { s with heap := h' }) :
    wpAny (model prog w) A (Builtin.«zip.__next__» ⟨[.ref z], []⟩) Q E s := by
  have unlike : ∀ {g : Heap} {e : Addr} {f : Value} {o : Obj}, ZS g z TI TO f fb → g.get? e = some o → o.cls = .type "StopIteration" → e ≠ z := fun hg ho hc q => by
    rw [q, hg] at ho
    cases ho
    exact absurd hc (by simp)
  walk_at "zp"
  refine wpAny_bind (zn_free hz hf ?_ fun g₁ hz₁ hs₁ => ?_)
  · walk_at "zt"
    refine wpAny_bind (wpAny_field hz rfl (x := .ref TO) rfl (wpAny_bind (wpAny_setField_rec hz (by simp) fun g₁ hz₁ hs₁ => ?_)))
    have hz₁ : ZS g₁ z TI TO .ellipsis fb := hz₁
    walk_at "z1"
    cases hx : xs[k1]? with
    | none =>
      refine wpAny_bind (RZ.nextOf_tuple_end hh (h1.extBut hs₁.extBut D.i1z) (hl1.extBut hs₁.extBut D.l1z) hx fun g₂ e hs₂ ⟨oe, hoe, hce⟩ => ?_)
      have hz₂ : ZS g₂ z TI TO .ellipsis fb := hs₂ _ _ D.i1z.symm hz₁
      exact wpAny_setField_rec hz₂ (by simp) fun g₃ _ hs₃ => hE g₃ e (fun c o c1 _ c3 _ q => hs₃.extBut _ _ c1 (hs₂ _ _ c3 (hs₁.extBut _ _ c1 q))) ⟨oe, hs₃.extBut _ _ (unlike hz₂ hoe hce) hoe, hce⟩
    | some x =>
      have hy : ys[k2]? = none := hend.resolve_left fun q => by rw [hx] at q; cases q
      refine wpAny_bind (RZ.nextOf_tuple_item (h1.extBut hs₁.extBut D.i1z) (hl1.extBut hs₁.extBut D.l1z) hx fun g₂ j1 hs₂ => wpAny_pure ?_)
      have t₂ : IsPair g₂ TO a b := hs₂.extBut _ _ D.TOi1 (hs₁.extBut _ _ D.TOz hTO)
      refine wpAny_bind (wpAny_seqItems t₂ rfl (wpAny_bind (wpAny_updateSeq_pair t₂ fun g₃ t₃ hs₃ => wpAny_bind (wpAny_letGo (wpAny_pure ?_)))))
      walk_at "z2"
      refine wpAny_bind (RZ.nextOf_tuple_end hh (((h2.extBut hs₁.extBut D.i2z).extBut hs₂.extBut D.i12.symm).extBut hs₃.extBut D.TOi2.symm) (((hl2.extBut hs₁.extBut D.l2z).extBut hs₂.extBut D.l2i1).extBut hs₃.extBut D.l2TO) hy fun g₄ e hs₄ ⟨oe, hoe, hce⟩ => ?_)
      have hz₄ : ZS g₄ z TI TO .ellipsis fb := hs₄ _ _ D.i2z.symm (hs₃.extBut _ _ D.TOz.symm (hs₂.extBut _ _ D.i1z.symm hz₁))
      exact wpAny_setField_rec hz₄ (by simp) fun g₅ _ hs₅ => hE g₅ e (fun c o c1 c2 c3 c4 q => hs₅.extBut _ _ c1 (hs₄ _ _ c4 (hs₃.extBut _ _ c2 (hs₂.extBut _ _ c3 (hs₁.extBut _ _ c1 q))))) ⟨oe, hs₅.extBut _ _ (unlike hz₄ hoe hce) hoe, hce⟩
  · walk_at "zh"
    cases hx : xs[k1]? with
    | none => exact wpAny_bind (RZ.nextOf_tuple_end (s := { s with heap := g₁ }) hh (h1.extBut hs₁.extBut D.i1z) (hl1.extBut hs₁.extBut D.l1z) hx fun g₂ e hs₂ he => hE g₂ e (fun c o c1 _ c3 _ q => hs₂ _ _ c3 (hs₁.extBut _ _ c1 q)) he)
    | some x =>
      have hy : ys[k2]? = none := hend.resolve_left fun q => by rw [hx] at q; cases q
      refine wpAny_bind (RZ.nextOf_tuple_item (s := { s with heap := g₁ }) (h1.extBut hs₁.extBut D.i1z) (hl1.extBut hs₁.extBut D.l1z) hx fun g₂ j1 hs₂ => wpAny_pure (wpAny_pure (wpAny_bind (wpAny_bind (wpAny_holding ?_)))))
      show wpAny _ _ (Builtin.SmallTypes.nextOf _ >>= _) _ _ _
      exact wpAny_bind (RZ.nextOf_tuple_end (s := { s with heap := g₂ }) hh ((h2.extBut hs₁.extBut D.i2z).extBut hs₂.extBut D.i12.symm) ((hl2.extBut hs₁.extBut D.l2z).extBut hs₂.extBut D.l2i1) hy fun g₃ e hs₃ he => hE g₃ e (fun c o c1 _ c3 c4 q => hs₃ _ _ c4 (hs₂.extBut _ _ c3 (hs₁.extBut _ _ c1 q))) he)
end
theorem turn_zipN {P : Program} {w : World} {K : PySem.W.Frag} {x : Str} {xpos : Pos} {a b z TI TO i1 i2 : Addr} (D : ZipApart z TI TO i1 i2 a b) :
    Turn P w K (.Name x xpos) (RZ.ItzT K a b) [z, TO, i1, i2, TI] z (fun i h => (∃ f0 fb, Ow f0 ∧ ZS h z TI TO f0 fb) ∧ IsPair h TI (.ref i1) (.ref i2) ∧ (∃ x y, IsPair h TO x y) ∧ h.IsTupleIter i1 a i ∧ h.IsTupleIter i2 b i) := by
  have here : ∀ i (h : Heap), ((∃ f0 fb, Ow f0 ∧ ZS h z TI TO f0 fb) ∧ IsPair h TI (.ref i1) (.ref i2) ∧ (∃ x y, IsPair h TO x y) ∧ h.IsTupleIter i1 a i ∧ h.IsTupleIter i2 b i) → ∀ c ∈ [z, TO, i1, i2, TI], ∃ o, h.get? c = some o ∧ ∀ v, o.data ≠ .cell v := by
    rintro i h ⟨⟨f0, fb, _, hz⟩, hTI, ⟨u, v, hTO⟩, ⟨o1, e1, _, d1⟩, ⟨o2, e2, _, d2⟩⟩ c hc
    simp only [List.mem_cons, List.not_mem_nil, or_false] at hc
    rcases hc with rfl | rfl | rfl | rfl | rfl
    · exact ⟨_, hz, fun v q => nomatch q⟩
    · exact ⟨_, hTO, fun v q => nomatch q⟩
    · exact ⟨o1, e1, fun v q => nomatch d1.symm.trans q⟩
    · exact ⟨o2, e2, fun v q => nomatch d2.symm.trans q⟩
    · exact ⟨_, hTI, fun v q => nomatch q⟩
  have off : ∀ {c : Addr}, c ∉ [z, TO, i1, i2, TI] → c ≠ z ∧ c ≠ TO ∧ c ≠ i1 ∧ c ≠ i2 := fun hc => by
    simp only [List.mem_cons, List.not_mem_nil, or_false, not_or] at hc
    exact ⟨hc.1, hc.2.1, hc.2.2.1, hc.2.2.2.1⟩
  refine ⟨List.mem_cons_self .., here, fun i h h' st k => ?_, ?_, ?_, fun A i s Q E st h => ?_⟩
  · obtain ⟨⟨f0, fb, hf, hz⟩, hTI, ⟨u, v, hTO⟩, h1, h2⟩ := st
    exact ⟨⟨f0, fb, hf, k z (by simp) _ hz⟩, k TI (by simp) _ hTI, ⟨u, v, k TO (by simp) _ hTO⟩, h1.at (k i1 (by simp)), h2.at (k i2 (by simp))⟩
  · intro X hP hw hK hc i pins s σ H E I hf st hg
    subst hP hw hK
    have old := here i s.heap st
    obtain ⟨⟨f0, fb, hfo, hz⟩, hTI, ⟨u0, v0, hTO⟩, h1, h2⟩ := st
    obtain ⟨xs, ys, x, y, hqx, hqy, hx, hy⟩ := hg
    obtain ⟨its, rv, p, _⟩ := I.tuple hqx
    obtain ⟨its2, rv2, p2, _⟩ := I.tuple hqy
    obtain ⟨u, hu, ru⟩ := rv.get hx
    obtain ⟨u2, hu2, ru2⟩ := rv2.get hy
    have isz : s.TypeIs (.ref z) "zip" := ⟨_, hz, rfl⟩
    unfold pyNext
    refine wpAny_bind (wpAny_attempt (wpAny_callSpecial?_slot (name := Str.ofString "__next__") isz F.slot_zip_next (wpAny_call_entry F.slot_zip_next isz F.entry_zip_next
      (zn_item D hz hfo hTI hTO h1 h2 p p2 (x := u) (y := u2) (by simpa using hu) (by simpa using hu2) fun g f0' fb' hf' z' TO' j1 j2 hT hk => wpAny_pure ⟨_, rfl, ?_⟩) (F.args_zip_next_1 _))))
    have pair : ObjOk X.prog X.w (upd H s.heap.objs.size (.tup [x, y])) g s.heap.objs.size (.tup [x, y]) := ⟨by show 2 ≤ sizeLine; decide, [u, u2], .cons ru (.cons ru2 .nil), ⟨_, hT, rfl, _, rfl⟩⟩
    have I1 : Inv X pins σ (upd H s.heap.objs.size (.tup [x, y])) { s with heap := g } := I.turnedNew (t' := s.toks) (ch := [z, TO, i1, i2, TI]) (fun c o hb q => hk c o (off hb).1 (off hb).2.1 (off hb).2.2.1 (off hb).2.2.2 q) hf (Nat.le_refl _) pair
    refine (show wpAny _ _ (letOwnedTupleGo (.Name _ _) _ _) _ _ _ from wpAny_pure ?_)
    refine ⟨.ref s.heap.objs.size, _, I1, rfl, ⟨_, x, y, rfl, I.hok.fresh (Nat.le_refl _), rfl, fun l hl => by rw [I.tuple_inj hl hqx]; exact hx, fun l hl => by rw [I.tuple_inj hl hqy]; exact hy⟩, ⟨⟨_, _, hf', z'⟩, hk _ _ D.TIz D.TITO D.TIi1 D.TIi2 hTI, TO', j1, j2⟩, fun c hcm => ?_⟩
    obtain ⟨o, ho, _⟩ := old c hcm
    rw [upd_ne (Nat.ne_of_lt (Heap.lt_size ho))]
    exact (hf c hcm).1
  · intro X hP hw hK hc i pins s σ H E I hf st hg
    subst hP hw hK
    obtain ⟨⟨f0, fb, hfo, hz⟩, hTI, ⟨u0, v0, hTO⟩, h1, h2⟩ := st
    obtain ⟨xs, ys, hqx, hqy, hend⟩ := hg
    obtain ⟨its, rv, p, _⟩ := I.tuple hqx
    obtain ⟨its2, rv2, p2, _⟩ := I.tuple hqy
    have e1 := rv.length
    have e2 := rv2.length
    have isz : s.TypeIs (.ref z) "zip" := ⟨_, hz, rfl⟩
    unfold pyNext
    refine wpAny_bind (wpAny_attempt (wpAny_callSpecial?_slot (name := Str.ofString "__next__") isz F.slot_zip_next (wpAny_call_entry F.slot_zip_next isz F.entry_zip_next
      (zn_end (show X.A.in1.handled = none from I.ok.hd hc) D hz hfo hTI hTO h1 h2 p p2 (hend.imp (fun q => by simp; omega) fun q => by simp; omega) fun g e hk ⟨o, ho, hc⟩ => ?_) (F.args_zip_next_1 _))))
    exact wpAny_bind (wpAny_isInstance (T := "StopIteration") (b := true) ⟨o, ho, hc⟩ isSubtype_stop (wpAny_pure ⟨rfl, I.turnedL (t' := s.toks) (ch := [z, TO, i1, i2, TI]) (fun c o hb q => hk c o (off hb).1 (off hb).2.1 (off hb).2.2.1 (off hb).2.2.2 q) hf⟩))
  · obtain ⟨⟨f0, fb, _, hz⟩, _⟩ := st
    have isz : s.TypeIs (.ref z) "zip" := ⟨_, hz, rfl⟩
    exact wpAny_pyIter_slot isz F.slot_zip_iter (wpAny_call_entry F.slot_zip_iter isz F.entry_zip_iter (show wpAny _ _ (ret (.ref z)) _ _ s from wpAny_pure ⟨_, rfl, "zip", _, isz, F.slot_zip_next.lookup, h⟩) (F.args_zip_iter_1 _))
def iZipN (K : PySem.W.Frag) (ta : TA) : TI := fun σ H R => ta σ H fun vs H1 => ∃ a b xs ys, vs = [.ref a, .ref b] ∧ SqT K H1 a xs ∧ SqT K H1 b ys ∧ R (RZ.ItzT K a b) H1
theorem pi_zipN {X : Cx} {e e2 : Expr} {ta : TA} {p pos xpos : Pos} {x : Str} (hg : Gl X "zip") (hm : X.mg "zip" = none) (ha : PA X [e, e2] ta)
    (hs : starEach [e, e2] X.env = (false, eval e X.env) :: starEach [e2] X.env := by rfl) (hpl : (backTo pos (starEach [e2] X.env)).any (·.1) = false := by rfl) :
    PI X (.Name x xpos) (.Call (.Name "zip" p) [e, e2] [] pos) (iZipN X.K ta) where
  run := fun pins s σ H R I h => by
    refine Call_ (ld_blt I hg hm PyProof.Rows.boot_zip (PyProof.Rows.callWith_type1 (thn (ha.run pos pins s σ H _ I h) fun us s1 q0 => ?_) hs hpl))
    obtain ⟨vs, H1, I1, r1, a, b, xs, ys, rfl, hqx, hqy, q⟩ := q0
    obtain rfl := vals2 r1
    obtain ⟨its, rv, p1, _⟩ := I1.tuple hqx
    obtain ⟨its2, rv2, p2, _⟩ := I1.tuple hqy
    obtain ⟨o1, ho1, _⟩ := id p1
    obtain ⟨o2, ho2, _⟩ := id p2
    exact RZ.call_zipT p1 p2 fun h1 hz hTI hTO e1 e2 hsz hk => wpAny_pyIter_zip hz
      ⟨_, _, _, _, H1, rfl, I1.kept (t' := s1.toks) hk, turn_zipN (PySem.W.ktu_apart s1.heap.objs.size a b (Heap.lt_size ho1) (Heap.lt_size ho2)), ⟨⟨_, _, .inl rfl, hz⟩, hTI, ⟨_, _, hTO⟩, e1, e2⟩, fun c hc => I1.fpOk (five hc) (I1.hok.fresh (five hc)), q⟩
section
variable (K : PySem.W.Frag) {X : Cx} (hK : X.K = K)
include hK
theorem k_zipN {e e2 : Expr} {ta : TA} {p pos xpos : Pos} {x : Str} (hg : Gl X "zip") (hm : X.mg "zip" = none) (ha : PA X [e, e2] ta)
    (hs : starEach [e, e2] X.env = (false, eval e X.env) :: starEach [e2] X.env := by rfl) (hpl : (backTo pos (starEach [e2] X.env)).any (·.1) = false := by rfl) :
    PI X (.Name x xpos) (.Call (.Name "zip" p) [e, e2] [] pos) (iZipN K ta) := by subst hK; exact pi_zipN hg hm ha hs hpl
theorem k_zipM {e e2 : Expr} {ta : TA} {p pos tpos : Pos} {elts : List Expr} {kk : Nat} (hg : Gl X "zip") (hm : X.mg "zip" = none) (ha : PA X [e, e2] ta)
    (hs : starEach [e, e2] X.env = (false, eval e X.env) :: starEach [e2] X.env := by rfl) (hpl : (backTo pos (starEach [e2] X.env)).any (·.1) = false := by rfl) :
    PI X (.Tuple elts kk tpos) (.Call (.Name "zip" p) [e, e2] [] pos) (iZipM K ta) := by subst hK; exact pi_zipM hg hm ha hs hpl
end
theorem it_zipM {K : PySem.W.Frag} {F : Hp} {a b : Addr} {xs ys : List V} {ds es : List PyData} (h : F a = some (.lst xs)) (hx : RpAll F xs ds) (h' : F b = some (.tup ys)) (hy : RpAll F ys es) : ItOk F (ItzM K a b) (zipD ds es) := fun X H i s tr => by
  have e := (mask_some (s _ _ h)).2
  have e' := (mask_some (s _ _ h')).2
  refine ⟨fun hi => ⟨xs, ys, SqL.of e, SqT.of e', by rw [zipD_len] at hi; rw [hx.length, hy.length]; exact hi⟩, fun d hd => ?_⟩
  obtain ⟨x, y, h1, h2, rfl⟩ := zipD_get hd
  obtain ⟨v, h3, h4⟩ := hx.get h1
  obtain ⟨u, h5, h6⟩ := hy.get h2
  refine ⟨⟨xs, ys, v, u, SqL.of e, SqT.of e', h3, h5⟩, fun z H' hz => ?_⟩
  obtain ⟨T, p, q, rfl, hT, rfl, g1, g2⟩ := hz
  have h7 := g1 xs (SqL.of e)
  have h8 := g2 ys (SqT.of e')
  rw [h3] at h7
  rw [h5] at h8
  cases h7
  cases h8
  have sm := same_new (o := .tup [v, u]) hT
  exact ⟨sm, .tup (mask_new tr hT) (.cons (Rp.mono (mask_same sm) _ _ (Rp.mono s _ _ h4)) (.cons (Rp.mono (mask_same sm) _ _ (Rp.mono s _ _ h6)) .nil))⟩
section
variable {pn : Option Pen} {ρ : En} {n : Nat} {P : List PyData → Nat → Prop} {ta : TA} {K : PySem.W.Frag}
theorem ei_zipM (h : EvA pn ta ρ n (fun as n1 => ∃ ds es, as = [.list ds, .tuple es] ∧ P (zipD ds es) n1)) : EvI pn (iZipM K ta) ρ n P := fun X0 X σ H w rr R q =>
  h X0 X σ H w rr _ fun xs H1 as n1 e1 w1 r1 ⟨ds, es, e, p⟩ => by
    subst e
    cases r1 with
    | cons r2 r3 =>
      cases r3 with
      | cons r4 r5 =>
        cases r5
        obtain ⟨a, xs, rfl, ha, hx⟩ := r2.list
        obtain ⟨b, ys, rfl, hb, hy⟩ := r4.tuple
        exact ⟨a, b, xs, ys, rfl, SqL.of (mask_le _ _ ha), SqT.of (mask_le _ _ hb), q _ H1 _ n1 e1 w1 (it_zipM ha hx hb hy) p⟩
theorem ei_zipN (h : EvA pn ta ρ n (fun as n1 => ∃ ds es, as = [.tuple ds, .tuple es] ∧ P (zipD ds es) n1)) : EvI pn (iZipN K ta) ρ n P := fun X0 X σ H w rr R q =>
  h X0 X σ H w rr _ fun xs H1 as n1 e1 w1 r1 ⟨ds, es, e, p⟩ => by
    subst e
    cases r1 with
    | cons r2 r3 =>
      cases r3 with
      | cons r4 r5 =>
        cases r5
        obtain ⟨a, xs, rfl, ha, hx⟩ := r2.tuple
        obtain ⟨b, ys, rfl, hb, hy⟩ := r4.tuple
        exact ⟨a, b, xs, ys, rfl, SqT.of (mask_le _ _ ha), SqT.of (mask_le _ _ hb), q _ H1 _ n1 e1 w1 (it_zipT ha hx hb hy) p⟩
end
end AC
set_option Elab.async false
set_option linter.all false
set_option maxRecDepth 100000
set_option maxHeartbeats 1000000
namespace AC
open PySem PySem.Spec PyProof.Rows L2
local macro_rules | `(tactic| walk_at "sh") => `(tactic| first | exact sh_int | exact sh_bool | exact sh_none | exact okd_du.sh (by decide) | exact okd_li.sh (by decide) | exact okd_pt.sh (by decide) | exact okd_ar.sh (by decide) | exact okd_ps.sh (by decide) | exact okd_na.sh (by decide) | exact (okd_tup (okd_map fun _ _ => okd_int)).sh (by decide) | exact (okd_tup (okd_map fun _ _ => okd_ar)).sh (by decide) | exact (okd_lst (okd_map fun _ _ => okd_du)).sh (by decide) | exact (okd_lst (okd_map fun _ _ => okd_ar)).sh (by decide))
local macro_rules | `(tactic| walk_at "e1") => `(tactic| first | with_reducible refine ev_int ?_ | with_reducible refine ev_non ?_ | with_reducible refine ev_bl ?_ | with_reducible refine ev_str ?_ | with_reducible refine ea_nil ?_ | with_reducible refine ea_cons ?_ | with_reducible refine ev_op ?_ | with_reducible refine ev_call ?_ | with_reducible refine ev_cb ?_ | with_reducible refine ev_tup ?_ | with_reducible refine ev_if ?_ | with_reducible refine et_test ?_ | with_reducible refine et_B ?_ | with_reducible refine ev_isN ?_ | with_reducible refine ev_notN ?_ | with_reducible refine ev_un ?_ | with_reducible refine ev_chain ?_ | with_reducible refine ev_andV ?_ | with_reducible refine ev_orV ?_ | with_reducible refine ev_notV ?_ | with_reducible refine et_and ?_ | with_reducible refine et_or ?_ | with_reducible refine et_not ?_ | refine ev_var rfl ?_ | refine od_add ?_ | refine od_I0 (fun _ => .int _) ?_ | refine od_I0 (fun _ => .bl _) ?_ | refine od_ixT at_0 ?_ | refine od_ixT at_1 ?_)
local macro_rules | `(tactic| walk_at "ev") => `(tactic| (walk_at "e1"; repeat walk_at "e1"))

section
variable {P : Program} {w : World} {K : PySem.W.Frag} {mg : Str → Option Value} {base : Heap}
/-! ### before, behind -/
abbrev S_before : Spec := fun ds R => ∃ p t, ds = [pjD p, .int (t : Nat)] ∧ p.ar.length ≤ 50 ∧ R = (· = naD (bef p t))
abbrev N_before : List Str := ["project", "task", "i", "j"]
theorem sc_before : FnScope N_before ["project", "task"] (defScope s_before) := ⟨rfl, rfl, rfl, by decide +kernel, rfl, by decide +kernel, by decide +kernel⟩
theorem ok_before (Rw : Raw K mg "before" s_before ["project", "task"]) (B : Bl mg) : Def P w K mg base 1 "before" ["project", "task"] (fsp S_before) := by
  refine def_ok Rw sc_before (fun ds R h => ?_) fun f cdv A outer s H E hr => ⟨_, (pss_one (ps_ret (pe_lc rfl sc_before.nd (k_seq K rfl (pe_ix (k_ix K rfl) (pv 0) pe_int (fun _ _ => rfl))) (blkOk_by (own := [("i", 2), ("j", 3)]) (N := N_before) (sc := defScope s_before) (by decide +kernel)) (fun _ _ _ _ _ => (k_tup K rfl 2 rfl (pgs_cons (pg_name (i := 2) sc_before.nd rfl (Or.inl rfl)) (pgs_cons (pg_name (i := 3) sc_before.nd rfl (Or.inl rfl)) pgs_nil)))) (fun _ _ _ _ _ => pts_one (pt_cmpR (k_eq K rfl hr.units) (pv 3) (pv 1) (nomark _))) (fun _ _ _ _ _ => (pv 2))))), fun ds R h => ?_⟩
  · obtain ⟨p, t, rfl, _⟩ := h; rfl
  · obtain ⟨p, t, rfl, hl, rfl⟩ := h
    refine run_ret (ev_ofL (ev_lcA arD (ei_tup ?_)))
    walk_at "ev"
    refine ⟨_, rfl, p.ar, rfl, by omega, fun a => decide (a.2 = t), fun a => .int (a.1 : Int), fun a _ => ?_, ?_⟩
    · refine tg_tup rfl (tgs_cons (tg_name (by decide) (tgs_cons (tg_name (by decide) (tgs_nil ⟨?_, fun _ => ?_⟩)))))
      · walk_at "ev"
        refine od_eqD sh_int sh_int ⟨_, rfl, rfl, ?_⟩
        rw [eqv_int]
        exact decide_eq_decide.mpr (by omega)
      · exact ev_var rfl ⟨rfl, rfl⟩
    · show PyData.list _ = naD _
      unfold naD bef
      rw [List.map_map]
      rfl
abbrev S_behind : Spec := fun ds R => ∃ p t, ds = [pjD p, .int (t : Nat)] ∧ p.ar.length ≤ 50 ∧ R = (· = naD (beh p t))
abbrev N_behind : List Str := ["project", "task", "i", "j"]
theorem sc_behind : FnScope N_behind ["project", "task"] (defScope s_behind) := ⟨rfl, rfl, rfl, by decide +kernel, rfl, by decide +kernel, by decide +kernel⟩
theorem ok_behind (Rw : Raw K mg "behind" s_behind ["project", "task"]) (B : Bl mg) : Def P w K mg base 1 "behind" ["project", "task"] (fsp S_behind) := by
  refine def_ok Rw sc_behind (fun ds R h => ?_) fun f cdv A outer s H E hr => ⟨_, (pss_one (ps_ret (pe_lc rfl sc_behind.nd (k_seq K rfl (pe_ix (k_ix K rfl) (pv 0) pe_int (fun _ _ => rfl))) (blkOk_by (own := [("i", 2), ("j", 3)]) (N := N_behind) (sc := defScope s_behind) (by decide +kernel)) (fun _ _ _ _ _ => (k_tup K rfl 2 rfl (pgs_cons (pg_name (i := 2) sc_behind.nd rfl (Or.inl rfl)) (pgs_cons (pg_name (i := 3) sc_behind.nd rfl (Or.inl rfl)) pgs_nil)))) (fun _ _ _ _ _ => pts_one (pt_cmpR (k_eq K rfl hr.units) (pv 2) (pv 1) (nomark _))) (fun _ _ _ _ _ => (pv 3))))), fun ds R h => ?_⟩
  · obtain ⟨p, t, rfl, _⟩ := h; rfl
  · obtain ⟨p, t, rfl, hl, rfl⟩ := h
    refine run_ret (ev_ofL (ev_lcA arD (ei_tup ?_)))
    walk_at "ev"
    refine ⟨_, rfl, p.ar, rfl, by omega, fun a => decide (a.1 = t), fun a => .int (a.2 : Int), fun a _ => ?_, ?_⟩
    · refine tg_tup rfl (tgs_cons (tg_name (by decide) (tgs_cons (tg_name (by decide) (tgs_nil ⟨?_, fun _ => ?_⟩)))))
      · walk_at "ev"
        refine od_eqD sh_int sh_int ⟨_, rfl, rfl, ?_⟩
        rw [eqv_int]
        exact decide_eq_decide.mpr (by omega)
      · exact ev_var rfl ⟨rfl, rfl⟩
    · show PyData.list _ = naD _
      unfold naD beh
      rw [List.map_map]
      rfl
/-! ### heads -/
theorem def_none {x : Str} {st : Stmt} {ps : List Str} {k : Nat} {S : Spec} (Rw : Raw K mg x st ps) (h : ∀ ds R, ¬ S ds R) : Def P w K mg base k x ps (fsp S) := by
  obtain ⟨f, fd, F, m, b⟩ := Rw
  exact ⟨f, fd, ⟨fun vs H Q E z => by obtain ⟨X, ds, R, _, _, q, _⟩ := z; exact absurd q (h ds R), fun A outer s H args us vs Q E _ _ _ _ z => by obtain ⟨X, ds, R, _, _, q, _⟩ := z; exact absurd q (h ds R)⟩, b, F.kp, m⟩
theorem take_succ {α : Type} {l : List α} {i : Nat} {a : α} (h : l[i]? = some a) : l.take (i + 1) = l.take i ++ [a] := by
  rw [List.take_add_one, h]
  rfl
theorem twos_app : ∀ l m : List Nat, twos (l ++ m) = twos l + twos m
  | [], m => by show twos m = 0 + twos m; omega
  | a :: l, m => by
    show 2 ^ a + twos (l ++ m) = 2 ^ a + twos l + twos m
    rw [twos_app l m]; omega
theorem ptD_snoc {h : List Nat} {e : Nat} : ptD (h ++ [e]) = .tuple (h.map (fun k : Nat => .int (k : Int)) ++ [.int (e : Int)]) := by
  unfold ptD
  rw [List.map_append]
  rfl
theorem ptD_cons {h : List Nat} {e : Nat} : ptD (e :: h) = .tuple ([.int (e : Int)] ++ h.map (fun k : Nat => .int (k : Int))) := rfl
abbrev S_heads (m : Nat) : Spec := fun ds R => ∃ p t, ds = [pjD p, .int (t : Nat)] ∧ p.Ok ∧ t < p.ts.length ∧ t < m ∧ R = PsD (fun q => Head p q t) (2 ^ t)
abbrev N_heads : List Str := ["project", "task", "found", "earlier", "head"]
theorem sc_heads : FnScope N_heads ["project", "task"] (defScope s_heads) := ⟨rfl, rfl, rfl, by decide +kernel, rfl, by decide +kernel, by decide +kernel⟩
theorem ok_heads1 {m : Nat} (Rw : Raw K mg "heads" s_heads ["project", "task"]) (B : Bl mg) (Dbefore : Def P w K mg base 1 "before" ["project", "task"] (fsp S_before)) (Dheads : Def P w K mg base (m + 1) "heads" ["project", "task"] (fsp (S_heads m))) :
    Def P w K mg base (m + 2) "heads" ["project", "task"] (fsp (S_heads (m + 1))) := by
  refine def_ok Rw sc_heads (fun ds R h => ?_) fun f cdv A outer s H E hr => ⟨_, (pss_cons (ps_set (i := 2) sc_heads.nd rfl (Or.inl rfl) (pe_lst pa_nil))
      (pss_cons (ps_for PassesOwn.never rfl (k_seq K rfl (pe_def Dbefore (hr.mono (by first | decide | omega)) (by rfl) (pa_cons (pv 0) (pa_cons (pv 1) pa_nil)))) (pg_name (i := 3) sc_heads.nd rfl (Or.inr rfl)) (pss_one (ps_expr (k_bm K rfl PySem.F.plainAttrs_list PySem.F.slot_list_extend PySem.F.type_list_extend mt_extend (pv 2) (pa_cons (pe_lc rfl sc_heads.nd (k_seq K rfl (pe_def Dheads (hr.mono (by first | decide | omega)) (by rfl) (pa_cons (pv 0) (pa_cons (pv 3) pa_nil)))) (blkOk_by (own := [("head", 4)]) (N := N_heads) (sc := defScope s_heads) (by decide +kernel)) (fun _ _ _ _ _ => (pg_name (i := 4) sc_heads.nd rfl (Or.inl rfl))) (fun _ _ _ _ _ => pts_nil) (fun _ _ _ _ _ => (pe_op (k_add K rfl) (pv 4) (pe_tup (pa_cons (pv 3) pa_nil))))) pa_nil)))))
      (pss_one (ps_ret (pe_ifExp (pt_cmpR (k_ne K rfl hr.units) (pv 2) (pe_lst pa_nil) (nomark _)) (pe_callB (k_sorted K rfl) (by rfl) B.sorted bb_sorted (pa_cons (pv 2) pa_nil)) (pe_lst (pa_cons (pe_tup pa_nil) pa_nil))))))), fun ds R h => ?_⟩
  · obtain ⟨p, t, rfl, _⟩ := h; rfl
  · obtain ⟨p, t, rfl, ok, ht, hm, rfl⟩ := h
    have h6 := ok.n6
    refine run_seq (run_own (ev_lst (ea_nil ⟨by decide, ?_⟩)))
    refine run_seq (run_forA (fun e : Nat => .int (e : Int)) (ei_list ?_))
    walk_at "ev"
    refine ⟨_, ⟨p, t, rfl, ok.few, rfl⟩, ?_⟩
    rintro d rfl
    refine ⟨_, rfl, bef p t, rfl, fun i ρ n => n = 0 ∧ ∃ ps s3 s4, ρ = [.dat (pjD p), .dat (.int (t : Nat)), .own (ps.map ptD), s3, s4] ∧ ps.length ≤ twos ((bef p t).take i) ∧
      ∀ q, q ∈ ps ↔ ∃ e, e ∈ (bef p t).take i ∧ ∃ h, Head p h e ∧ q = h ++ [e], ⟨rfl, [], _, _, rfl, Nat.zero_le _, fun q => ⟨fun h => (by cases h), fun ⟨e, h, _⟩ => (by cases h)⟩⟩, ?_, ?_⟩
    · rintro i e ρ n he ⟨rfl, ps, s3, s4, rfl, hl, hq⟩
      have hem : e ∈ bef p t := List.mem_of_getElem? he
      have hlt := bef_lt ok hem
      refine tg_name (by decide) ?_
      refine run_ext rfl (ev_ofL (ev_lcB ptD (ei_list ?_)))
      walk_at "ev"
      refine ⟨_, ⟨p, e, rfl, ok, by omega, by omega, rfl⟩, ?_⟩
      rintro d ⟨hs, rfl, hsl, hsm⟩
      have b1 : 2 ^ e ≤ 2 ^ 6 := Nat.pow_le_pow_right (by decide) (by omega)
      have tw := twos_lt t (bef p t) (bef_nd ok.nd t) fun z hz => (bef_lt ok hz).1
      have tw2 : twos ((bef p t).take i) ≤ twos (bef p t) := by
        have := twos_app ((bef p t).take i) ((bef p t).drop i)
        rw [List.take_append_drop] at this
        omega
      have b2 : 2 ^ t ≤ 2 ^ 6 := Nat.pow_le_pow_right (by decide) (by omega)
      refine ⟨_, rfl, hs, rfl, by omega, fun h => ptD (h ++ [e]), fun h hh => ?_, _, rfl, ?_, ?_⟩
      · refine tg_name (by decide) ?_
        walk_at "ev"
        refine ⟨Nat.succ_le_of_lt (by decide), od_catT ?_ ⟨rfl, ?_⟩⟩
        · obtain ⟨k1, k2⟩ := ((hsm h).mp hh).lt ok
          have := twos_lt e h k2 k1
          have hlen : ∀ l : List Nat, l.length ≤ twos l := fun l => by
            induction l with
            | nil => exact Nat.le_refl _
            | cons a l ih => show l.length + 1 ≤ 2 ^ a + twos l; have := Nat.one_le_two_pow (n := a); omega
          have := hlen h
          rw [List.length_map]
          show h.length + 1 ≤ 100000
          omega
        · exact ptD_snoc.symm
      · rw [List.length_map, List.length_map]; omega
      · refine ⟨rfl, ps ++ hs.map (fun h => h ++ [e]), .dat (.int (e : Int)), s4, ?_, ?_, ?_⟩
        · rw [List.map_append, List.map_map]
          rfl
        · rw [List.length_append, List.length_map, take_succ he, twos_app]
          show _ ≤ _ + (2 ^ e + 0)
          omega
        · intro q
          rw [List.mem_append, take_succ he, hq]
          constructor
          · rintro (⟨e', h1, h2⟩ | h1)
            · exact ⟨e', List.mem_append_left _ h1, h2⟩
            · obtain ⟨h, h2, rfl⟩ := List.mem_map.mp h1
              exact ⟨e, List.mem_append_right _ List.mem_cons_self, h, (hsm h).mp h2, rfl⟩
          · rintro ⟨e', h1, h, h2, rfl⟩
            rcases List.mem_append.mp h1 with h1 | h1
            · exact .inl ⟨e', h1, h, h2, rfl⟩
            · have : e' = e := by simpa using h1
              subst this
              exact .inr (List.mem_map.mpr ⟨h, (hsm h).mpr h2, rfl⟩)
    · rintro ρ n ⟨rfl, ps, s3, s4, rfl, hl, hq⟩
      rw [List.take_length] at hl hq
      have tw := twos_lt t (bef p t) (bef_nd ok.nd t) fun z hz => (bef_lt ok hz).1
      refine run_ret ?_
      walk_at "ev"
      refine ev_ofL (ev_lst (ea_nil ⟨by decide, ?_⟩))
      refine od_neD (okd_ps (ps := ps).sh (by decide)) (okd_ps (ps := []).sh (by decide)) ⟨_, rfl, ?_⟩
      rw [show PyData.eqv (.list (ps.map ptD)) (.list []) = decide (ps = []) from eqv_ps ps []]
      by_cases he : ps = []
      · subst he
        rw [decide_eq_true rfl]
        show if (!true) = true then _ else _
        rw [if_neg (by decide)]
        refine ev_ofL (ev_lst (ea_cons (ev_tup (ea_nil ⟨by decide, ea_nil ⟨by decide, ?_⟩⟩))))
        refine ⟨[[]], rfl, Nat.one_le_two_pow, fun q => ?_⟩
        have hb : bef p t = [] := by
          rcases eq_nil_or (bef p t) with e | ⟨e, he⟩
          · exact e
          · obtain ⟨h, hh⟩ := head_ex ok (e + 1) e (Nat.lt_succ_self e)
            have := (hq (h ++ [e])).mpr ⟨e, he, h, hh, rfl⟩
            cases this
        constructor
        · intro h
          have : q = [] := by simpa using h
          subst this
          exact .nil hb
        · intro h
          cases h with
          | nil _ => exact List.mem_cons_self
          | snoc h1 _ => rw [hb] at h1; cases h1
      · rw [decide_eq_false he]
        show if (!false) = true then _ else _
        rw [if_pos (by decide)]
        refine ev_ofL (ev_cbL (ea_cons (ev_var rfl (ea_nil (cl_sort (ps := ps) (fun q hqm => ?_) fun qs hp => ?_)))))
        · obtain ⟨e, _, h, _, rfl⟩ := (hq q).mp hqm
          simp
        · refine ⟨qs, rfl, by rw [hp.length_eq]; omega, fun q => ?_⟩
          rw [hp.mem_iff, hq]
          constructor
          · rintro ⟨e, h1, h, h2, rfl⟩
            exact .snoc h1 h2
          · intro h
            cases h with
            | nil hb =>
              exfalso
              obtain ⟨r, hr2⟩ := List.exists_mem_of_ne_nil ps he
              obtain ⟨e, h1, _⟩ := (hq r).mp hr2
              rw [hb] at h1
              cases h1
            | @snoc h e _ h1 h2 => exact ⟨e, h1, h, h2, rfl⟩
theorem ok_heads (Rw : Raw K mg "heads" s_heads ["project", "task"]) (B : Bl mg) (Dbefore : Def P w K mg base 1 "before" ["project", "task"] (fsp S_before)) : ∀ m : Nat, Def P w K mg base (m + 1) "heads" ["project", "task"] (fsp (S_heads m))
  | 0 => def_none Rw fun ds R h => by obtain ⟨p, t, _, _, _, h, _⟩ := h; exact absurd h (Nat.not_lt_zero t)
  | m + 1 => ok_heads1 Rw B Dbefore (ok_heads Rw B Dbefore m)
end
end AC
set_option Elab.async false
set_option linter.all false
set_option maxRecDepth 100000
set_option maxHeartbeats 1000000
namespace AC
open PySem PySem.Spec PyProof.Rows L2
local macro_rules | `(tactic| walk_at "sh") => `(tactic| first | exact sh_int | exact sh_bool | exact sh_none | exact okd_du.sh (by decide) | exact okd_li.sh (by decide) | exact okd_pt.sh (by decide) | exact okd_ar.sh (by decide) | exact okd_ps.sh (by decide) | exact okd_na.sh (by decide) | exact (okd_tup (okd_map fun _ _ => okd_int)).sh (by decide) | exact (okd_tup (okd_map fun _ _ => okd_ar)).sh (by decide) | exact (okd_lst (okd_map fun _ _ => okd_du)).sh (by decide) | exact (okd_lst (okd_map fun _ _ => okd_ar)).sh (by decide))
local macro_rules | `(tactic| walk_at "e1") => `(tactic| first | with_reducible refine ev_int ?_ | with_reducible refine ev_non ?_ | with_reducible refine ev_bl ?_ | with_reducible refine ev_str ?_ | with_reducible refine ea_nil ?_ | with_reducible refine ea_cons ?_ | with_reducible refine ev_op ?_ | with_reducible refine ev_call ?_ | with_reducible refine ev_cb ?_ | with_reducible refine ev_tup ?_ | with_reducible refine ev_if ?_ | with_reducible refine et_test ?_ | with_reducible refine et_B ?_ | with_reducible refine ev_isN ?_ | with_reducible refine ev_notN ?_ | with_reducible refine ev_un ?_ | with_reducible refine ev_chain ?_ | with_reducible refine ev_andV ?_ | with_reducible refine ev_orV ?_ | with_reducible refine ev_notV ?_ | with_reducible refine et_and ?_ | with_reducible refine et_or ?_ | with_reducible refine et_not ?_ | refine ev_var rfl ?_ | refine od_add ?_ | refine od_I0 (fun _ => .int _) ?_ | refine od_I0 (fun _ => .bl _) ?_ | refine od_ixT at_0 ?_ | refine od_ixT at_1 ?_)
local macro_rules | `(tactic| walk_at "ev") => `(tactic| (walk_at "e1"; repeat walk_at "e1"))

section
variable {P : Program} {w : World} {K : PySem.W.Frag} {mg : Str → Option Value} {base : Heap}
/-! ### tails -/
theorem twos_le : ∀ l : List Nat, l.length ≤ twos l
  | [] => Nat.le_refl _
  | a :: l => by
    have := twos_le l
    have := Nat.one_le_two_pow (n := a)
    show l.length + 1 ≤ 2 ^ a + twos l
    omega
theorem twos_take (l : List Nat) (i : Nat) : twos (l.take i) ≤ twos l := by
  have := twos_app (l.take i) (l.drop i)
  rw [List.take_append_drop] at this
  omega
theorem nd_len : ∀ (n : Nat) (l : List Nat), l.Nodup → (∀ e ∈ l, e < n) → l.length ≤ n
  | 0, l, _, h => by
    cases l with
    | nil => exact Nat.le_refl _
    | cons a l => exact absurd (h a List.mem_cons_self) (Nat.not_lt_zero a)
  | n + 1, l, hn, h => by
    have h2 : (l.erase n).length ≤ n := nd_len n (l.erase n) (hn.erase n) fun e he => by
      have h3 := h e (List.mem_of_mem_erase he)
      have h4 : e ≠ n := fun z => by
        subst z
        exact (hn.not_mem_erase) he
      omega
    by_cases hm : n ∈ l
    · have := List.length_erase_of_mem hm
      omega
    · rw [List.erase_of_not_mem hm] at h2
      omega
def rev (p : Pr) (l : List Nat) : List Nat := l.map fun e => p.ts.length - 1 - e
abbrev S_tails (m : Nat) : Spec := fun ds R => ∃ p t, ds = [pjD p, .int (t : Nat)] ∧ p.Ok ∧ t < p.ts.length ∧ p.ts.length ≤ t + m ∧ R = PsD (fun q => Tail p q t) (2 ^ (p.ts.length - 1 - t))
abbrev N_tails : List Str := ["project", "task", "found", "later", "tail"]
theorem sc_tails : FnScope N_tails ["project", "task"] (defScope s_tails) := ⟨rfl, rfl, rfl, by decide +kernel, rfl, by decide +kernel, by decide +kernel⟩
theorem ok_tails1 (Rw : Raw K mg "tails" s_tails ["project", "task"]) (B : Bl mg)
    (Dbehind : Def P w K mg base 1 "behind" ["project", "task"] (fsp S_behind))
    (Dtails : Def P w K mg base (m+1) "tails" ["project", "task"] (fsp (S_tails m))) :
    Def P w K mg base (m+2) "tails" ["project", "task"] (fsp (S_tails (m + 1))) := by
  refine def_ok Rw sc_tails (fun ds R h => ?_) fun f cdv A outer s H E hr => ⟨_, (pss_cons (ps_set (i := 2) sc_tails.nd rfl (Or.inl rfl) (pe_lst pa_nil))
      (pss_cons (ps_for PassesOwn.never rfl (k_seq K rfl (pe_def Dbehind (hr.mono (by first | decide | omega)) (by rfl) (pa_cons (pv 0) (pa_cons (pv 1) pa_nil)))) (pg_name (i := 3) sc_tails.nd rfl (Or.inl rfl)) (pss_one (ps_expr (k_bm K rfl PySem.F.plainAttrs_list PySem.F.slot_list_extend PySem.F.type_list_extend mt_extend (pv 2) (pa_cons (pe_lc rfl sc_tails.nd (k_seq K rfl (pe_def Dtails (hr.mono (by first | decide | omega)) (by rfl) (pa_cons (pv 0) (pa_cons (pv 3) pa_nil)))) (blkOk_by (own := [("tail", 4)]) (N := N_tails) (sc := defScope s_tails) (by decide +kernel)) (fun _ _ _ _ _ => (pg_name (i := 4) sc_tails.nd rfl (Or.inl rfl))) (fun _ _ _ _ _ => pts_nil) (fun _ _ _ _ _ => (pe_op (k_add K rfl) (pe_tup (pa_cons (pv 1) pa_nil)) (pv 4)))) pa_nil)))))
      (pss_one (ps_ret (pe_ifExp (pt_cmpR (k_ne K rfl hr.units) (pv 2) (pe_lst pa_nil) (nomark _)) (pe_callB (k_sorted K rfl) (by rfl) B.sorted bb_sorted (pa_cons (pv 2) pa_nil)) (pe_lst (pa_cons (pe_tup (pa_cons (pv 1) pa_nil)) pa_nil))))))), fun ds R h => ?_⟩
  · obtain ⟨p, t, rfl, _⟩ := h; rfl
  · obtain ⟨p, t, rfl, ok, ht, hm, rfl⟩ := h
    have h6 := ok.n6
    refine run_seq (run_own (ev_lst (ea_nil ⟨by decide, ?_⟩)))
    refine run_seq (run_forA (fun e : Nat => .int (e : Int)) (ei_list ?_))
    walk_at "ev"
    refine ⟨_, ⟨p, t, rfl, ok.few, rfl⟩, ?_⟩
    rintro d rfl
    have tw : twos (rev p (beh p t)) + 1 ≤ 2 ^ (p.ts.length - 1 - t) := twos_lt _ _ (nodup_map_inj (beh_nd ok.nd t) fun a ha b hb e => by
      have := beh_lt ok ha
      have := beh_lt ok hb
      omega) fun e he => by
      obtain ⟨z, hz, rfl⟩ := List.mem_map.mp he
      have := beh_lt ok hz
      omega
    have b2 : 2 ^ (p.ts.length - 1 - t) ≤ 2 ^ 6 := Nat.pow_le_pow_right (by decide) (by omega)
    refine ⟨_, rfl, beh p t, rfl, fun i ρ n => n = 0 ∧ ∃ ps s3 s4, ρ = [.dat (pjD p), .dat (.int (t : Nat)), .own (ps.map ptD), s3, s4] ∧ ps.length ≤ twos (rev p ((beh p t).take i)) ∧
      ∀ q, q ∈ ps ↔ ∃ e, e ∈ (beh p t).take i ∧ ∃ h, Tail p h e ∧ q = t :: h, ⟨rfl, [], _, _, rfl, Nat.zero_le _, fun q => ⟨fun h => (by cases h), fun ⟨e, h, _⟩ => (by cases h)⟩⟩, ?_, ?_⟩
    · rintro i e ρ n he ⟨rfl, ps, s3, s4, rfl, hl, hq⟩
      have hem : e ∈ beh p t := List.mem_of_getElem? he
      have hlt := beh_lt ok hem
      refine tg_name (by decide) ?_
      refine run_ext rfl (ev_ofL (ev_lcB ptD (ei_list ?_)))
      walk_at "ev"
      refine ⟨_, ⟨p, e, rfl, ok, by omega, by omega, rfl⟩, ?_⟩
      rintro d ⟨hs, rfl, hsl, hsm⟩
      have b1 : 2 ^ (p.ts.length - 1 - e) ≤ 2 ^ 6 := Nat.pow_le_pow_right (by decide) (by omega)
      have tw2 : twos (rev p ((beh p t).take i)) ≤ twos (rev p (beh p t)) := by
        unfold rev
        rw [List.map_take]
        exact twos_take _ _
      refine ⟨_, rfl, hs, rfl, by omega, fun h => ptD (t :: h), fun h hh => ?_, _, rfl, ?_, ?_⟩
      · refine tg_name (by decide) ?_
        walk_at "ev"
        refine ⟨Nat.succ_le_of_lt (by decide), ?_⟩
        walk_at "ev"
        refine od_catT ?_ ⟨rfl, ?_⟩
        · obtain ⟨k2, k1⟩ := ((hsm h).mp hh).ge ok hlt.2
          have := nd_len _ _ k1 fun e he => (k2 e he).2
          rw [List.length_map]
          show 1 + h.length ≤ 100000
          omega
        · exact ptD_cons.symm
      · rw [List.length_map, List.length_map]; omega
      · refine ⟨rfl, ps ++ hs.map (fun h => t :: h), .dat (.int (e : Int)), s4, ?_, ?_, ?_⟩
        · rw [List.map_append, List.map_map]
          rfl
        · rw [List.length_append, List.length_map, take_succ he]
          unfold rev at hl ⊢
          rw [List.map_append, twos_app]
          show _ ≤ _ + (2 ^ (p.ts.length - 1 - e) + 0)
          omega
        · intro q
          rw [List.mem_append, take_succ he, hq]
          constructor
          · rintro (⟨e', h1, h2⟩ | h1)
            · exact ⟨e', List.mem_append_left _ h1, h2⟩
            · obtain ⟨h, h2, rfl⟩ := List.mem_map.mp h1
              exact ⟨e, List.mem_append_right _ List.mem_cons_self, h, (hsm h).mp h2, rfl⟩
          · rintro ⟨e', h1, h, h2, rfl⟩
            rcases List.mem_append.mp h1 with h1 | h1
            · exact .inl ⟨e', h1, h, h2, rfl⟩
            · have : e' = e := by simpa using h1
              subst this
              exact .inr (List.mem_map.mpr ⟨h, (hsm h).mpr h2, rfl⟩)
    · rintro ρ n ⟨rfl, ps, s3, s4, rfl, hl, hq⟩
      rw [List.take_length] at hl hq
      refine run_ret ?_
      walk_at "ev"
      refine ev_ofL (ev_lst (ea_nil ⟨by decide, ?_⟩))
      refine od_neD (okd_ps (ps := ps).sh (by decide)) (okd_ps (ps := []).sh (by decide)) ⟨_, rfl, ?_⟩
      rw [show PyData.eqv (.list (ps.map ptD)) (.list []) = decide (ps = []) from eqv_ps ps []]
      by_cases he : ps = []
      · subst he
        rw [decide_eq_true rfl]
        show if (!true) = true then _ else _
        rw [if_neg (by decide)]
        refine ev_ofL (ev_lst ?_)
        walk_at "ev"
        refine ⟨Nat.succ_le_of_lt (by decide), ?_⟩
        walk_at "ev"
        refine ⟨Nat.succ_le_of_lt (by decide), ?_⟩
        refine ⟨[[t]], rfl, Nat.one_le_two_pow, fun q => ?_⟩
        have hb : beh p t = [] := by
          rcases eq_nil_or (beh p t) with e | ⟨e, he⟩
          · exact e
          · have hlt := beh_lt ok he
            obtain ⟨h, hh⟩ := tail_ex ok p.ts.length e (by omega) hlt.2
            have := (hq (t :: h)).mpr ⟨e, he, h, hh, rfl⟩
            cases this
        constructor
        · intro h
          have : q = [t] := by simpa using h
          subst this
          exact .one hb
        · intro h
          cases h with
          | one _ => exact List.mem_cons_self
          | cons h1 _ => rw [hb] at h1; cases h1
      · rw [decide_eq_false he]
        show if (!false) = true then _ else _
        rw [if_pos (by decide)]
        refine ev_ofL (ev_cbL (ea_cons (ev_var rfl (ea_nil (cl_sort (ps := ps) (fun q hqm => ?_) fun qs hp => ?_)))))
        · obtain ⟨e, _, h, _, rfl⟩ := (hq q).mp hqm
          simp
        · refine ⟨qs, rfl, by rw [hp.length_eq]; omega, fun q => ?_⟩
          rw [hp.mem_iff, hq]
          constructor
          · rintro ⟨e, h1, h, h2, rfl⟩
            exact .cons h1 h2
          · intro h
            cases h with
            | one hb =>
              exfalso
              obtain ⟨r, hr2⟩ := List.exists_mem_of_ne_nil ps he
              obtain ⟨e, h1, _⟩ := (hq r).mp hr2
              rw [hb] at h1
              cases h1
            | @cons h e _ h1 h2 => exact ⟨e, h1, h, h2, rfl⟩
theorem ok_tails (Rw : Raw K mg "tails" s_tails ["project", "task"]) (B : Bl mg) (Dbehind : Def P w K mg base 1 "behind" ["project", "task"] (fsp S_behind)) : ∀ m : Nat, Def P w K mg base (m+1) "tails" ["project", "task"] (fsp (S_tails m))
  | 0 => def_none Rw fun ds R h => by obtain ⟨p, t, _, _, h1, h, _⟩ := h; omega
  | m + 1 => ok_tails1 Rw B Dbehind (ok_tails Rw B Dbehind m)
/-! ### whole paths -/
abbrev S_whole : Spec := fun ds R => ∃ p, ds = [pjD p] ∧ p.Ok ∧ R = PsD (Whole p) 64
abbrev N_whole_paths : List Str := ["project", "found", "task"]
theorem sc_whole_paths : FnScope N_whole_paths ["project"] (defScope s_whole_paths) := ⟨rfl, rfl, rfl, by decide +kernel, rfl, by decide +kernel, by decide +kernel⟩
theorem ok_whole_paths (Rw : Raw K mg "whole_paths" s_whole_paths ["project"]) (B : Bl mg)
    (Dbefore : Def P w K mg base 1 "before" ["project", "task"] (fsp S_before))
    (Dtails : Def P w K mg base 7 "tails" ["project", "task"] (fsp (S_tails 6))) :
    Def P w K mg base 9 "whole_paths" ["project"] (fsp S_whole) := by
  refine def_ok Rw sc_whole_paths (fun ds R h => ?_) fun f cdv A outer s H E hr => ⟨_, (pss_cons (ps_set (i := 1) sc_whole_paths.nd rfl (Or.inl rfl) (pe_lst pa_nil))
      (pss_cons (ps_for PassesOwn.never rfl (pi_range1 (by rfl) B.range (pa_cons (pe_callB (k_len K rfl) (by rfl) B.len bb_len (pa_cons (pe_ix (k_ix K rfl) (pv 0) pe_int (fun _ _ => rfl)) pa_nil)) pa_nil)) (pg_name (i := 2) sc_whole_paths.nd rfl (Or.inl rfl)) (pss_one (ps_if (pt_cmpR (k_eq K rfl hr.units) (pe_def Dbefore (hr.mono (by first | decide | omega)) (by rfl) (pa_cons (pv 0) (pa_cons (pv 2) pa_nil))) (pe_lst pa_nil) (nomark _)) (pss_one (ps_expr (k_bm K rfl PySem.F.plainAttrs_list PySem.F.slot_list_extend PySem.F.type_list_extend mt_extend (pv 1) (pa_cons (pe_def Dtails (hr.mono (by first | decide | omega)) (by rfl) (pa_cons (pv 0) (pa_cons (pv 2) pa_nil))) pa_nil)))) pss_nil)))
      (pss_one (ps_ret (pe_callB (k_sorted K rfl) (by rfl) B.sorted bb_sorted (pa_cons (pv 1) pa_nil)))))), fun ds R h => ?_⟩
  · obtain ⟨p, rfl, _⟩ := h; rfl
  · obtain ⟨p, rfl, ok, rfl⟩ := h
    have h6 := ok.n6
    have h1 := ok.n1
    refine run_seq (run_own (ev_lst (ea_nil ⟨by decide, ?_⟩)))
    refine run_seq (run_forA (fun e : Nat => .int (e : Int)) (ei_rng1 ?_))
    walk_at "ev"
    refine cb_lenT ?_
    walk_at "ev"
    refine ⟨_, rfl, by rw [List.length_map]; omega, by rw [List.length_map]; omega, List.range p.ts.length, ?_, fun i ρ n => n = 0 ∧ ∃ ps s3, ρ = [.dat (pjD p), .own (ps.map ptD), s3] ∧ ps.length ≤ twos (rev p (List.range i)) ∧
      ∀ q, q ∈ ps ↔ ∃ e, e < i ∧ bef p e = [] ∧ Tail p q e, ⟨rfl, [], _, rfl, Nat.zero_le _, fun q => ⟨fun h => (by cases h), fun ⟨e, h, _⟩ => (by cases h)⟩⟩, ?_, ?_⟩
    · rw [List.length_map]
      unfold rgD
      rw [Int.toNat_natCast]
      exact List.map_congr_left fun a _ => by rw [Int.zero_add]
    · rintro i e ρ n he ⟨rfl, ps, s3, rfl, hl, hq⟩
      obtain ⟨g1, g2⟩ := List.getElem?_eq_some_iff.mp he
      rw [List.getElem_range] at g2
      subst g2
      rw [List.length_range] at g1
      have tw : ∀ j, j ≤ p.ts.length → twos (rev p (List.range j)) + 1 ≤ 2 ^ p.ts.length := fun j hj => twos_lt _ _ (nodup_map_inj List.nodup_range fun a ha b hb e => by
        have := List.mem_range.mp ha
        have := List.mem_range.mp hb
        omega) fun e he => by
        obtain ⟨z, hz, rfl⟩ := List.mem_map.mp he
        have := List.mem_range.mp hz
        omega
      have tw1 := tw (i + 1) g1
      have b2 : 2 ^ p.ts.length ≤ 2 ^ 6 := Nat.pow_le_pow_right (by decide) (by omega)
      have tw3 : twos (rev p (List.range (i + 1))) = twos (rev p (List.range i)) + 2 ^ (p.ts.length - 1 - i) := by
        unfold rev
        rw [List.range_succ, List.map_append, twos_app]
        rfl
      refine tg_name (by decide) ?_
      refine run_if ?_
      walk_at "ev"
      refine ⟨_, ⟨p, i, rfl, ok.few, rfl⟩, ?_⟩
      rintro d rfl
      refine ev_ofL (ev_lst (ea_nil ⟨by decide, ?_⟩))
      refine od_eqD (okd_na.sh (by decide)) (okd_na (l := []).sh (by decide)) ⟨_, rfl, ?_⟩
      rw [show PyData.eqv (naD (bef p i)) (.list []) = decide (bef p i = []) from eqv_na _ []]
      by_cases hb : bef p i = []
      · rw [decide_eq_true hb, if_pos rfl]
        refine run_ext rfl ?_
        walk_at "ev"
        refine ⟨_, ⟨p, i, rfl, ok, g1, by omega, rfl⟩, ?_⟩
        rintro d ⟨hs, rfl, hsl, hsm⟩
        refine ⟨_, rfl, ?_, rfl, ps ++ hs, .dat (.int (i : Int)), ?_, ?_, ?_⟩
        · rw [List.length_map, List.length_map]; omega
        · rw [List.map_append]; rfl
        · rw [List.length_append, tw3]
          omega
        · intro q
          rw [List.mem_append, hq, hsm]
          constructor
          · rintro (⟨e, h1, h2⟩ | h1)
            · exact ⟨e, by omega, h2⟩
            · exact ⟨i, by omega, hb, h1⟩
          · rintro ⟨e, h1, h2, h3⟩
            by_cases z : e = i
            · subst z; exact .inr h3
            · exact .inl ⟨e, by omega, h2, h3⟩
      · rw [decide_eq_false hb, if_neg (by decide)]
        refine run_next ⟨rfl, ps, .dat (.int (i : Int)), rfl, Nat.le_trans hl (by rw [tw3]; exact Nat.le_add_right _ _), fun q => ?_⟩
        rw [hq]
        constructor
        · rintro ⟨e, h1, h2⟩
          exact ⟨e, by omega, h2⟩
        · rintro ⟨e, h1, h2, h3⟩
          refine ⟨e, ?_, h2, h3⟩
          by_cases z : e = i
          · subst z; exact absurd h2 hb
          · omega
    · rintro ρ n ⟨rfl, ps, s3, rfl, hl, hq⟩
      rw [List.length_range] at hl hq
      have tw := twos_lt p.ts.length (rev p (List.range p.ts.length)) (nodup_map_inj List.nodup_range fun a ha b hb e => by
        have := List.mem_range.mp ha
        have := List.mem_range.mp hb
        omega) fun e he => by
        obtain ⟨z, hz, rfl⟩ := List.mem_map.mp he
        have := List.mem_range.mp hz
        omega
      have b2 : 2 ^ p.ts.length ≤ 2 ^ 6 := Nat.pow_le_pow_right (by decide) (by omega)
      refine run_ret (ev_ofL (ev_cbL (ea_cons (ev_var rfl (ea_nil (cl_sort (ps := ps) (fun q hqm => ?_) fun qs hp => ?_))))))
      · have hw : Whole p q := (hq q).mp hqm
        exact (hw.mem ok).2.2
      · refine ⟨qs, rfl, by rw [hp.length_eq]; omega, fun q => ?_⟩
        rw [hp.mem_iff, hq]
        exact Iff.rfl
end
end AC
set_option Elab.async false
set_option linter.all false
set_option maxRecDepth 100000
set_option maxHeartbeats 1000000
namespace AC
open PySem PySem.Spec PyProof.Rows L2
local macro_rules | `(tactic| walk_at "sh") => `(tactic| first | exact sh_int | exact sh_bool | exact sh_none | exact okd_du.sh (by decide) | exact okd_li.sh (by decide) | exact okd_pt.sh (by decide) | exact okd_ar.sh (by decide) | exact okd_ps.sh (by decide) | exact okd_na.sh (by decide) | exact (okd_tup (okd_map fun _ _ => okd_int)).sh (by decide) | exact (okd_tup (okd_map fun _ _ => okd_ar)).sh (by decide) | exact (okd_lst (okd_map fun _ _ => okd_du)).sh (by decide) | exact (okd_lst (okd_map fun _ _ => okd_ar)).sh (by decide))
local macro_rules | `(tactic| walk_at "e1") => `(tactic| first | with_reducible refine ev_int ?_ | with_reducible refine ev_non ?_ | with_reducible refine ev_bl ?_ | with_reducible refine ev_str ?_ | with_reducible refine ea_nil ?_ | with_reducible refine ea_cons ?_ | with_reducible refine ev_op ?_ | with_reducible refine ev_call ?_ | with_reducible refine ev_cb ?_ | with_reducible refine ev_tup ?_ | with_reducible refine ev_if ?_ | with_reducible refine et_test ?_ | with_reducible refine et_B ?_ | with_reducible refine ev_isN ?_ | with_reducible refine ev_notN ?_ | with_reducible refine ev_un ?_ | with_reducible refine ev_chain ?_ | with_reducible refine ev_andV ?_ | with_reducible refine ev_orV ?_ | with_reducible refine ev_notV ?_ | with_reducible refine et_and ?_ | with_reducible refine et_or ?_ | with_reducible refine et_not ?_ | refine ev_var rfl ?_ | refine od_add ?_ | refine od_I0 (fun _ => .int _) ?_ | refine od_I0 (fun _ => .bl _) ?_ | refine od_ixT at_0 ?_ | refine od_ixT at_1 ?_)
local macro_rules | `(tactic| walk_at "ev") => `(tactic| (walk_at "e1"; repeat walk_at "e1"))

section
variable {P : Program} {w : World} {K : PySem.W.Frag} {mg : Str → Option Value} {base : Heap}
abbrev S_through : Spec := fun ds R => ∃ p t, ds = [pjD p, .int (t : Nat)] ∧ p.Ok ∧ R = PsD (fun q => Whole p q ∧ t ∈ q) 64
abbrev N_through : List Str := ["project", "task", "path"]
theorem sc_through : FnScope N_through ["project", "task"] (defScope s_through) := ⟨rfl, rfl, rfl, by decide +kernel, rfl, by decide +kernel, by decide +kernel⟩
theorem ok_through (Rw : Raw K mg "through" s_through ["project", "task"]) (B : Bl mg)
    (Dwhole_paths : Def P w K mg base 9 "whole_paths" ["project"] (fsp S_whole)) :
    Def P w K mg base 10 "through" ["project", "task"] (fsp S_through) := by
  refine def_ok Rw sc_through (fun ds R h => ?_) fun f cdv A outer s H E hr => ⟨_, (pss_one (ps_ret (pe_lc rfl sc_through.nd (k_seq K rfl (pe_def Dwhole_paths (hr.mono (by first | decide | omega)) (by rfl) (pa_cons (pv 0) pa_nil))) (blkOk_by (own := [("path", 2)]) (N := N_through) (sc := defScope s_through) (by decide +kernel)) (fun _ _ _ _ _ => (pg_name (i := 2) sc_through.nd rfl (Or.inl rfl))) (fun _ _ _ _ _ => pts_one (pt_cmpR (k_in K rfl (u65 hr)) (pv 1) (pv 2) (by rfl))) (fun _ _ _ _ _ => (pv 2))))), fun ds R h => ?_⟩
  · obtain ⟨p, t, rfl, _⟩ := h; rfl
  · obtain ⟨p, t, rfl, ok, rfl⟩ := h
    refine run_ret (ev_ofL (ev_lcA ptD (ei_list ?_)))
    walk_at "ev"
    refine ⟨_, ⟨p, rfl, ok, rfl⟩, ?_⟩
    rintro d ⟨ps, rfl, hl, hq⟩
    refine ⟨_, rfl, ps, rfl, by omega, fun q => decide (t ∈ q), fun q => ptD q, fun q _ => ?_, ?_⟩
    · refine tg_name (by decide) ⟨?_, fun _ => ?_⟩
      · walk_at "ev"
        refine od_uInT sh_int (okd_pt.sh (by decide)) ⟨_, rfl, rfl, ?_⟩
        exact any_na q t
      · walk_at "ev"
        exact ⟨rfl, rfl⟩
    · refine ⟨ps.filter fun q => decide (t ∈ q), rfl, Nat.le_trans (List.length_filter_le _ _) hl, fun q => ?_⟩
      rw [List.mem_filter, hq, decide_eq_true_iff]
abbrev S_around : Spec := fun ds R => ∃ p t, ds = [pjD p, .int (t : Nat)] ∧ p.Ok ∧ R = PsD (fun q => Whole p q ∧ ¬ t ∈ q) 64
abbrev N_around : List Str := ["project", "task", "path"]
theorem sc_around : FnScope N_around ["project", "task"] (defScope s_around) := ⟨rfl, rfl, rfl, by decide +kernel, rfl, by decide +kernel, by decide +kernel⟩
theorem ok_around (Rw : Raw K mg "around" s_around ["project", "task"]) (B : Bl mg)
    (Dwhole_paths : Def P w K mg base 9 "whole_paths" ["project"] (fsp S_whole)) :
    Def P w K mg base 10 "around" ["project", "task"] (fsp S_around) := by
  refine def_ok Rw sc_around (fun ds R h => ?_) fun f cdv A outer s H E hr => ⟨_, (pss_one (ps_ret (pe_lc rfl sc_around.nd (k_seq K rfl (pe_def Dwhole_paths (hr.mono (by first | decide | omega)) (by rfl) (pa_cons (pv 0) pa_nil))) (blkOk_by (own := [("path", 2)]) (N := N_around) (sc := defScope s_around) (by decide +kernel)) (fun _ _ _ _ _ => (pg_name (i := 2) sc_around.nd rfl (Or.inl rfl))) (fun _ _ _ _ _ => pts_one (pt_cmpR (k_ni K rfl (u65 hr)) (pv 1) (pv 2) (by rfl))) (fun _ _ _ _ _ => (pv 2))))), fun ds R h => ?_⟩
  · obtain ⟨p, t, rfl, _⟩ := h; rfl
  · obtain ⟨p, t, rfl, ok, rfl⟩ := h
    refine run_ret (ev_ofL (ev_lcA ptD (ei_list ?_)))
    walk_at "ev"
    refine ⟨_, ⟨p, rfl, ok, rfl⟩, ?_⟩
    rintro d ⟨ps, rfl, hl, hq⟩
    refine ⟨_, rfl, ps, rfl, by omega, fun q => !decide (t ∈ q), fun q => ptD q, fun q _ => ?_, ?_⟩
    · refine tg_name (by decide) ⟨?_, fun _ => ?_⟩
      · walk_at "ev"
        refine od_uNiT sh_int (okd_pt.sh (by decide)) ⟨_, rfl, rfl, ?_⟩
        rw [any_na q t]
      · walk_at "ev"
        exact ⟨rfl, rfl⟩
    · refine ⟨ps.filter fun q => !decide (t ∈ q), rfl, Nat.le_trans (List.length_filter_le _ _) hl, fun q => ?_⟩
      rw [List.mem_filter, hq]
      simp
theorem atI_du {d : List Int} {t : Nat} (h : t < d.length) : L2.atI (d.map PyData.int) (t : Int) = some (.int (d.getD t 0)) := by
  refine atI_nat ?_
  rw [List.getElem?_map, List.getD_eq_getElem?_getD, List.getElem?_eq_getElem h]
  rfl
abbrev S_length : Spec := fun ds R => ∃ d q, ds = [duD d, ptD q] ∧ (∀ e ∈ q, e < d.length) ∧ q.length ≤ 1000 ∧ R = (· = .int (len d q))
abbrev N_length : List Str := ["durations", "path", "task"]
theorem sc_length : FnScope N_length ["durations", "path"] (defScope s_length) := ⟨rfl, rfl, rfl, by decide +kernel, rfl, by decide +kernel, by decide +kernel⟩
theorem ok_length (Rw : Raw K mg "length" s_length ["durations", "path"]) (B : Bl mg) :
    Def P w K mg base 1 "length" ["durations", "path"] (fsp S_length) := by
  refine def_ok Rw sc_length (fun ds R h => ?_) fun f cdv A outer s H E hr => ⟨_, (pss_one (ps_ret (pe_callB (k_sum K rfl rfl) (by rfl) B.sum bb_sum (pa_cons (pe_lc rfl sc_length.nd (k_seq K rfl (pv 1)) (blkOk_by (own := [("task", 2)]) (N := N_length) (sc := defScope s_length) (by decide +kernel)) (fun _ _ _ _ _ => (pg_name (i := 2) sc_length.nd rfl (Or.inl rfl))) (fun _ _ _ _ _ => pts_nil) (fun _ _ _ _ _ => (pe_ix (k_ix K rfl) (pv 0) (pv 2) (fun _ _ => rfl)))) pa_nil)))), fun ds R h => ?_⟩
  · obtain ⟨d, q, rfl, _⟩ := h; rfl
  · obtain ⟨d, q, rfl, hb, hl, rfl⟩ := h
    refine run_ret ?_
    walk_at "ev"
    refine ev_ofL (ev_lcB (fun e : Nat => .int (e : Int)) (ei_tup ?_))
    walk_at "ev"
    refine ⟨_, rfl, q, rfl, by omega, fun e => .int (d.getD e 0), fun e he => ?_, ?_⟩
    · refine tg_name (by decide) ?_
      walk_at "ev"
      refine od_ixT (atI_du (hb e he)) ?_
      exact ⟨rfl, rfl⟩
    · rw [show q.map (fun e => PyData.int (d.getD e 0)) = (q.map fun e => d.getD e 0).map PyData.int by rw [List.map_map]; rfl]
      walk_at "ev"
      refine cb_sum ?_
      rfl
/-- m is the greatest of the lengths -/
abbrev S_longest : Spec := fun ds R => ∃ d ps, ds = [duD d, psD ps] ∧ ps ≠ [] ∧ ps.length ≤ 1000 ∧ (∀ q ∈ ps, (∀ e ∈ q, e < d.length) ∧ q.length ≤ 1000) ∧ R = fun x => ∃ m, x = .int m ∧ MaxP (· ∈ ps) (len d) m
abbrev N_longest : List Str := ["durations", "paths", "path"]
theorem sc_longest : FnScope N_longest ["durations", "paths"] (defScope s_longest) := ⟨rfl, rfl, rfl, by decide +kernel, rfl, by decide +kernel, by decide +kernel⟩
theorem ok_longest (Rw : Raw K mg "longest" s_longest ["durations", "paths"]) (B : Bl mg)
    (Dlength : Def P w K mg base 1 "length" ["durations", "path"] (fsp S_length)) :
    Def P w K mg base 2 "longest" ["durations", "paths"] (fsp S_longest) := by
  refine def_ok Rw sc_longest (fun ds R h => ?_) fun f cdv A outer s H E hr => ⟨_, (pss_one (ps_ret (pe_callB (k_max K rfl rfl) (by rfl) B.max bb_max (pa_cons (pe_lc rfl sc_longest.nd (k_seq K rfl (pv 1)) (blkOk_by (own := [("path", 2)]) (N := N_longest) (sc := defScope s_longest) (by decide +kernel)) (fun _ _ _ _ _ => (pg_name (i := 2) sc_longest.nd rfl (Or.inl rfl))) (fun _ _ _ _ _ => pts_nil) (fun _ _ _ _ _ => (pe_def Dlength (hr.mono (by first | decide | omega)) (by rfl) (pa_cons (pv 0) (pa_cons (pv 2) pa_nil))))) pa_nil)))), fun ds R h => ?_⟩
  · obtain ⟨d, q, rfl, _⟩ := h; rfl
  · obtain ⟨d, ps, rfl, h0, hl, hb, rfl⟩ := h
    refine run_ret ?_
    walk_at "ev"
    refine ev_ofL (ev_lcB ptD (ei_list ?_))
    walk_at "ev"
    refine ⟨_, rfl, ps, rfl, by omega, fun q => .int (len d q), fun q hq => ?_, ?_⟩
    · refine tg_name (by decide) ?_
      walk_at "ev"
      refine ⟨_, ⟨d, q, rfl, (hb q hq).1, (hb q hq).2, rfl⟩, ?_⟩
      rintro _ rfl
      exact ⟨rfl, rfl⟩
    · rw [show ps.map (fun q => PyData.int (len d q)) = (ps.map (len d)).map PyData.int by rw [List.map_map]; rfl]
      walk_at "ev"
      refine cb_max (by simpa using h0) fun m hm hle => ?_
      obtain ⟨q, h1, h2⟩ := List.mem_map.mp hm
      exact ⟨m, rfl, ⟨q, h1, h2⟩, fun r hr => hle _ (List.mem_map.mpr ⟨r, hr, rfl⟩)⟩
abbrev S_lows : Spec := fun ds R => ∃ p, ds = [pjD p] ∧ p.Ok ∧ R = (· = duD (p.ts.map (·.1)))
abbrev N_lows : List Str := ["project", "low", "high"]
theorem sc_lows : FnScope N_lows ["project"] (defScope s_lows) := ⟨rfl, rfl, rfl, by decide +kernel, rfl, by decide +kernel, by decide +kernel⟩
theorem ok_lows (Rw : Raw K mg "lows" s_lows ["project"]) (B : Bl mg) :
    Def P w K mg base 1 "lows" ["project"] (fsp S_lows) := by
  refine def_ok Rw sc_lows (fun ds R h => ?_) fun f cdv A outer s H E hr => ⟨_, (pss_one (ps_ret (pe_callTy (k_tuple K rfl) (by rfl) B.tuple bb_tuple (pa_cons (pe_lc rfl sc_lows.nd (k_seq K rfl (pe_ix (k_ix K rfl) (pv 0) pe_int (fun _ _ => rfl))) (blkOk_by (own := [("low", 1), ("high", 2)]) (N := N_lows) (sc := defScope s_lows) (by decide +kernel)) (fun _ _ _ _ _ => (k_tup K rfl 2 rfl (pgs_cons (pg_name (i := 1) sc_lows.nd rfl (Or.inl rfl)) (pgs_cons (pg_name (i := 2) sc_lows.nd rfl (Or.inl rfl)) pgs_nil)))) (fun _ _ _ _ _ => pts_nil) (fun _ _ _ _ _ => (pv 1))) pa_nil)))), fun ds R h => ?_⟩
  · obtain ⟨p, rfl, _⟩ := h; rfl
  · obtain ⟨p, rfl, ok, rfl⟩ := h
    have h6 := ok.n6
    refine run_ret ?_
    walk_at "ev"
    refine ev_ofL (ev_lcB bdD (ei_tup ?_))
    walk_at "ev"
    refine ⟨_, rfl, p.ts, rfl, by omega, fun b => .int b.1, fun b hb => ?_, ?_⟩
    · refine tg_tup rfl (tgs_cons (tg_name (by decide) (tgs_cons (tg_name (by decide) (tgs_nil ?_)))))
      walk_at "ev"
      exact ⟨rfl, rfl⟩
    · walk_at "ev"
      refine cb_tupL ?_
      unfold duD
      rw [List.map_map]
      rfl
abbrev S_raised : Spec := fun ds R => ∃ p q, ds = [pjD p, ptD q] ∧ p.Ok ∧ R = (· = duD (raised p q))
/-- paths that can be measured -/
structure GP (p : Pr) (ps : List (List Nat)) : Prop where
  ne : ps ≠ []
  few : ps.length ≤ 1000
  nd : ∀ q ∈ ps, q.Nodup
  lt : ∀ q ∈ ps, ∀ e ∈ q, e < p.ts.length
theorem GP.len {p : Pr} (ok : p.Ok) {ps : List (List Nat)} (g : GP p ps) : ∀ q ∈ ps, q.length ≤ 1000 := fun q hq => by
  have := nd_len _ q (g.nd q hq) (g.lt q hq)
  have := ok.n6
  omega
abbrev S_greatest : Spec := fun ds R => ∃ p ps os, ds = [pjD p, psD ps, psD os] ∧ p.Ok ∧ GP p ps ∧ GP p os ∧ R = fun x => ∃ b c, x = .tuple [.int b, duD c] ∧ Best p (· ∈ ps) (· ∈ os) b c
abbrev N_greatest : List Str := ["project", "some", "others", "best", "chosen", "path", "durations", "lead"]
theorem sc_greatest : FnScope N_greatest ["project", "some", "others"] (defScope s_greatest) := ⟨rfl, rfl, rfl, by decide +kernel, rfl, by decide +kernel, by decide +kernel⟩
theorem ok_greatest (Rw : Raw K mg "greatest" s_greatest ["project", "some", "others"]) (B : Bl mg)
    (Dlength : Def P w K mg base 1 "length" ["durations", "path"] (fsp S_length))
    (Dlongest : Def P w K mg base 2 "longest" ["durations", "paths"] (fsp S_longest))
    (Draised : Def P w K mg base 1 "raised" ["project", "path"] (fsp S_raised)) :
    Def P w K mg base 3 "greatest" ["project", "some", "others"] (fsp S_greatest) := by
  refine def_ok Rw sc_greatest (fun ds R h => ?_) fun f cdv A outer s H E hr => ⟨_, (pss_cons (ps_asg (pe_tup (pa_cons pe_non (pa_cons pe_non pa_nil))) (k_tup K rfl 2 rfl (pgs_cons (pg_name (i := 3) sc_greatest.nd rfl (Or.inl rfl)) (pgs_cons (pg_name (i := 4) sc_greatest.nd rfl (Or.inl rfl)) pgs_nil))))
      (pss_cons (ps_for PassesOwn.never rfl (k_seq K rfl (pv 1)) (pg_name (i := 5) sc_greatest.nd rfl (Or.inl rfl)) (pss_cons (ps_set (i := 6) sc_greatest.nd rfl (Or.inl rfl) (pe_def Draised (hr.mono (by first | decide | omega)) (by rfl) (pa_cons (pv 0) (pa_cons (pv 5) pa_nil))))
      (pss_cons (ps_set (i := 7) sc_greatest.nd rfl (Or.inl rfl) (pe_op op_sub (pe_def Dlength (hr.mono (by first | decide | omega)) (by rfl) (pa_cons (pv 6) (pa_cons (pv 5) pa_nil))) (pe_def Dlongest (hr.mono (by first | decide | omega)) (by rfl) (pa_cons (pv 6) (pa_cons (pv 2) pa_nil)))))
      (pss_one (ps_if (PW.pt (pw_or (pt_cmp (pc_isN (pv 3)) rfl) (pw_or1 (pt_cmpR op_gt (pv 7) (pv 3) (nomark _))))) (pss_one (ps_par (i := 3) (j := 4) rfl sc_greatest.nd rfl rfl (by decide) rfl rfl (pa_cons (pv 7) (pa_cons (pv 6) pa_nil)) (by rfl))) pss_nil)))))
      (pss_one (ps_ret (pe_tup (pa_cons (pv 3) (pa_cons (pv 4) pa_nil))))))), fun ds R h => ?_⟩
  · obtain ⟨p, ps, os, rfl, _⟩ := h; rfl
  · obtain ⟨p, ps, os, rfl, ok, gp, go, rfl⟩ := h
    refine run_seq (run_asg ?_)
    walk_at "ev"
    refine ⟨by simp, tg_tup rfl (tgs_cons (tg_name (by decide) (tgs_cons (tg_name (by decide) (tgs_nil ?_)))))⟩
    refine run_seq (run_forA ptD (ei_list ?_))
    walk_at "ev"
    refine ⟨_, rfl, ps, rfl, fun i ρ n => n = 0 ∧ ∃ b c s5 s6 s7, ρ = [.dat (pjD p), .dat (psD ps), .dat (psD os), .dat b, .dat c, s5, s6, s7] ∧
      ((i = 0 ∧ b = .none ∧ c = .none) ∨ (0 < i ∧ ∃ m s y, b = .int m ∧ c = duD (raised p s) ∧ s ∈ ps ∧ MaxP (· ∈ os) (AC.len (raised p s)) y ∧ m = AC.len (raised p s) s - y ∧ ∀ q ∈ ps.take i, ∃ z, MaxP (· ∈ os) (AC.len (raised p q)) z ∧ AC.len (raised p q) q - z ≤ m)),
      ⟨rfl, _, _, _, _, _, rfl, .inl ⟨rfl, rfl, rfl⟩⟩, ?_, ?_⟩
    · rintro i q ρ n hq ⟨rfl, b, c, s5, s6, s7, rfl, hi⟩
      have hqm : q ∈ ps := List.mem_of_getElem? hq
      refine tg_name (by decide) ?_
      refine run_seq (run_set ?_)
      walk_at "ev"
      refine ⟨_, ⟨p, q, rfl, ok, rfl⟩, ?_⟩
      rintro _ rfl
      refine run_seq (run_set ?_)
      walk_at "ev"
      refine ⟨_, ⟨raised p q, q, rfl, by rw [raised_len]; exact gp.lt q hqm, gp.len ok q hqm, rfl⟩, ?_⟩
      rintro _ rfl
      walk_at "ev"
      refine ⟨_, ⟨raised p q, os, rfl, go.ne, go.few, fun r hr => ⟨by rw [raised_len]; exact go.lt r hr, go.len ok r hr⟩, rfl⟩, ?_⟩
      rintro _ ⟨y, rfl, hy⟩
      walk_at "ev"
      refine run_if ?_
      walk_at "ev"
      rcases hi with ⟨rfl, rfl, rfl⟩ | ⟨h0, m, s, y2, rfl, rfl, hs, hy2, hm, hall⟩
      · refine ⟨true, rfl, ?_⟩
        rw [if_pos rfl, if_pos rfl]
        refine run_par ?_
        walk_at "ev"
        refine ⟨rfl, _, _, _, _, _, rfl, .inr ⟨by omega, _, q, y, rfl, rfl, hqm, hy, rfl, fun r hr => ?_⟩⟩
        have : r = q := by
          rw [take_succ hq] at hr
          simpa using hr
        subst this
        exact ⟨y, hy, Int.le_refl _⟩
      · refine ⟨false, rfl, ?_⟩
        rw [if_neg (by decide)]
        walk_at "ev"
        refine ⟨_, rfl, ?_⟩
        by_cases hgt : m < AC.len (raised p q) q - y
        · rw [if_pos (by simpa using hgt)]
          refine run_par ?_
          walk_at "ev"
          refine ⟨rfl, _, _, _, _, _, rfl, .inr ⟨by omega, _, q, y, rfl, rfl, hqm, hy, rfl, fun r hr => ?_⟩⟩
          rw [take_succ hq] at hr
          rcases List.mem_append.mp hr with hr | hr
          · obtain ⟨z, k1, k2⟩ := hall r hr
            exact ⟨z, k1, by omega⟩
          · have : r = q := by simpa using hr
            subst this
            exact ⟨y, hy, Int.le_refl _⟩
        · rw [if_neg (by simpa using hgt)]
          refine run_next ⟨rfl, _, _, _, _, _, rfl, .inr ⟨by omega, m, s, y2, rfl, rfl, hs, hy2, hm, fun r hr => ?_⟩⟩
          rw [take_succ hq] at hr
          rcases List.mem_append.mp hr with hr | hr
          · exact hall r hr
          · have : r = q := by simpa using hr
            subst this
            exact ⟨y, hy, by omega⟩
    · rintro ρ n ⟨rfl, b, c, s5, s6, s7, rfl, hi⟩
      rcases hi with ⟨h0, _⟩ | ⟨h0, m, s, y, rfl, rfl, hs, hy, hm, hall⟩
      · exact absurd (List.eq_nil_of_length_eq_zero h0) gp.ne
      · refine run_ret ?_
        walk_at "ev"
        refine ⟨by simp, m, _, rfl, ?_⟩
        rw [List.take_length] at hall
        exact best_of ok go.nd hs hy hm hall
abbrev S_diff : Spec := fun ds R => ∃ p ps os, ds = [pjD p, psD ps, psD os] ∧ p.Ok ∧ GP p ps ∧ GP p os ∧ R = fun x => ∃ lo hi, x = .tuple [.int lo, .int hi] ∧ Rng p (· ∈ ps) (· ∈ os) lo hi
abbrev N_difference_of : List Str := ["project", "some", "others"]
theorem sc_difference_of : FnScope N_difference_of ["project", "some", "others"] (defScope s_difference_of) := ⟨rfl, rfl, rfl, by decide +kernel, rfl, by decide +kernel, by decide +kernel⟩
theorem ok_difference_of (Rw : Raw K mg "difference_of" s_difference_of ["project", "some", "others"]) (B : Bl mg)
    (Dgreatest : Def P w K mg base 3 "greatest" ["project", "some", "others"] (fsp S_greatest)) :
    Def P w K mg base 4 "difference_of" ["project", "some", "others"] (fsp S_diff) := by
  refine def_ok Rw sc_difference_of (fun ds R h => ?_) fun f cdv A outer s H E hr => ⟨_, (pss_one (ps_ret (pe_tup (pa_cons (pe_op op_sub pe_int (pe_ix (k_ix K rfl) (pe_def Dgreatest (hr.mono (by first | decide | omega)) (by rfl) (pa_cons (pv 0) (pa_cons (pv 2) (pa_cons (pv 1) pa_nil)))) pe_int (fun _ _ => rfl))) (pa_cons (pe_ix (k_ix K rfl) (pe_def Dgreatest (hr.mono (by first | decide | omega)) (by rfl) (pa_cons (pv 0) (pa_cons (pv 1) (pa_cons (pv 2) pa_nil)))) pe_int (fun _ _ => rfl)) pa_nil))))), fun ds R h => ?_⟩
  · obtain ⟨p, ps, os, rfl, _⟩ := h; rfl
  · obtain ⟨p, ps, os, rfl, ok, gp, go, rfl⟩ := h
    refine run_ret ?_
    walk_at "ev"
    refine ⟨_, ⟨p, os, ps, rfl, ok, go, gp, rfl⟩, ?_⟩
    rintro _ ⟨b1, c1, rfl, h1⟩
    walk_at "ev"
    refine ⟨_, ⟨p, ps, os, rfl, ok, gp, go, rfl⟩, ?_⟩
    rintro _ ⟨b2, c2, rfl, h2⟩
    walk_at "ev"
    exact ⟨by simp, 0 - b1, b2, rfl, rng_of h1 h2⟩
end
end AC
set_option Elab.async false
set_option linter.all false
set_option maxRecDepth 100000
set_option maxHeartbeats 1000000
namespace AC
open PySem PySem.Spec PyProof.Rows L2
local macro_rules | `(tactic| walk_at "sh") => `(tactic| first | exact sh_int | exact sh_bool | exact sh_none | exact okd_du.sh (by decide) | exact okd_li.sh (by decide) | exact okd_pt.sh (by decide) | exact okd_ar.sh (by decide) | exact okd_ps.sh (by decide) | exact okd_na.sh (by decide) | exact (okd_tup (okd_map fun _ _ => okd_int)).sh (by decide) | exact (okd_tup (okd_map fun _ _ => okd_ar)).sh (by decide) | exact (okd_lst (okd_map fun _ _ => okd_du)).sh (by decide) | exact (okd_lst (okd_map fun _ _ => okd_ar)).sh (by decide))
local macro_rules | `(tactic| walk_at "e1") => `(tactic| first | with_reducible refine ev_int ?_ | with_reducible refine ev_non ?_ | with_reducible refine ev_bl ?_ | with_reducible refine ev_str ?_ | with_reducible refine ea_nil ?_ | with_reducible refine ea_cons ?_ | with_reducible refine ev_op ?_ | with_reducible refine ev_call ?_ | with_reducible refine ev_cb ?_ | with_reducible refine ev_tup ?_ | with_reducible refine ev_if ?_ | with_reducible refine et_test ?_ | with_reducible refine et_B ?_ | with_reducible refine ev_isN ?_ | with_reducible refine ev_notN ?_ | with_reducible refine ev_un ?_ | with_reducible refine ev_chain ?_ | with_reducible refine ev_andV ?_ | with_reducible refine ev_orV ?_ | with_reducible refine ev_notV ?_ | with_reducible refine et_and ?_ | with_reducible refine et_or ?_ | with_reducible refine et_not ?_ | refine ev_var rfl ?_ | refine od_add ?_ | refine od_I0 (fun _ => .int _) ?_ | refine od_I0 (fun _ => .bl _) ?_ | refine od_ixT at_0 ?_ | refine od_ixT at_1 ?_)
local macro_rules | `(tactic| walk_at "ev") => `(tactic| (walk_at "e1"; repeat walk_at "e1"))

section
variable {P : Program} {w : World} {K : PySem.W.Frag} {mg : Str → Option Value} {base : Heap}
abbrev N_raised : List Str := ["project", "path", "found", "task", "low", "high"]
theorem sc_raised : FnScope N_raised ["project", "path"] (defScope s_raised) := ⟨rfl, rfl, rfl, by decide +kernel, rfl, by decide +kernel, by decide +kernel⟩
theorem ok_raised (Rw : Raw K mg "raised" s_raised ["project", "path"]) (B : Bl mg) :
    Def P w K mg base 1 "raised" ["project", "path"] (fsp S_raised) := by
  refine def_ok Rw sc_raised (fun ds R h => ?_) fun f cdv A outer s H E hr => ⟨_, (pss_cons (ps_set (i := 2) sc_raised.nd rfl (Or.inl rfl) (pe_lst pa_nil))
      (pss_cons (ps_for PassesOwn.never rfl (k_enumT K rfl (by rfl) B.enumerate (pa_cons (pe_ix (k_ix K rfl) (pv 0) pe_int (fun _ _ => rfl)) pa_nil)) (k_tup K rfl 2 rfl (pgs_cons (pg_name (i := 3) sc_raised.nd rfl (Or.inl rfl)) (pgs_cons (k_tup K rfl 2 rfl (pgs_cons (pg_name (i := 4) sc_raised.nd rfl (Or.inl rfl)) (pgs_cons (pg_name (i := 5) sc_raised.nd rfl (Or.inl rfl)) pgs_nil))) pgs_nil))) (pss_one (ps_expr (k_bm K rfl PySem.F.plainAttrs_list PySem.F.slot_list_append PySem.F.type_list_append mt_append (pv 2) (pa_cons (pe_ifExp (pt_cmpR (k_in K rfl (u65 hr)) (pv 3) (pv 1) (by rfl)) (pv 5) (pv 4)) pa_nil)))))
      (pss_one (ps_ret (pe_callTy (k_tuple K rfl) (by rfl) B.tuple bb_tuple (pa_cons (pv 2) pa_nil)))))), fun ds R h => ?_⟩
  · obtain ⟨p, q, rfl, _⟩ := h; rfl
  · obtain ⟨p, q, rfl, ok, rfl⟩ := h
    have h6 := ok.n6
    refine run_seq (run_own (ev_lst (ea_nil ⟨by decide, ?_⟩)))
    refine run_seq (run_for (ei_enumT ?_))
    walk_at "ev"
    refine ⟨_, rfl, fun i ρ n => n = 0 ∧ ∃ s3 s4 s5, ρ = [.dat (pjD p), .dat (ptD q), .own (((raised p q).take i).map PyData.int), s3, s4, s5], ⟨rfl, _, _, _, rfl⟩, ?_, ?_⟩
    · rintro i d ρ n hd ⟨rfl, s3, s4, s5, rfl⟩
      obtain ⟨x, h1, rfl⟩ := enumD_get hd
      obtain ⟨b, hb, rfl⟩ := get_map h1
      refine tg_tup rfl (tgs_cons (tg_name (by decide) (tgs_cons (tg_tup rfl (tgs_cons (tg_name (by decide) (tgs_cons (tg_name (by decide) (tgs_nil (tgs_nil ?_)))))) ))))
      refine run_app rfl ?_
      have hlen : (((raised p q).take i).map PyData.int).length < 100000 := by
        rw [List.length_map, List.length_take, raised_len]
        omega
      have hr : (raised p q)[i]? = some (if i ∈ q then b.2 else b.1) := by
        unfold raised
        rw [List.getElem?_mapIdx, hb]
        rfl
      have fin : (((raised p q).take i).map PyData.int) ++ [.int (if i ∈ q then b.2 else b.1)] = ((raised p q).take (i + 1)).map PyData.int := by
        rw [take_succ hr, List.map_append]
        rfl
      walk_at "ev"
      refine od_uInT sh_int (okd_pt.sh (by decide)) ⟨_, rfl, ?_⟩
      rw [any_na q i]
      by_cases hm : i ∈ q
      · rw [if_pos (decide_eq_true hm)]
        walk_at "ev"
        rw [if_pos hm] at fin
        refine ⟨hlen, rfl, .dat (.int (i : Int)), .dat (.int b.1), .dat (.int b.2), ?_⟩
        rw [← fin]
        rfl
      · rw [if_neg (by rw [decide_eq_true_iff]; exact hm)]
        walk_at "ev"
        rw [if_neg hm] at fin
        refine ⟨hlen, rfl, .dat (.int (i : Int)), .dat (.int b.1), .dat (.int b.2), ?_⟩
        rw [← fin]
        rfl
    · rintro ρ n ⟨rfl, s3, s4, s5, rfl⟩
      refine run_ret ?_
      walk_at "ev"
      refine cb_tupL ?_
      show _ = duD _
      unfold duD
      rw [enumD_len, List.length_map, ← raised_len p q, List.take_length]
end
end AC
set_option Elab.async false
set_option linter.all false
set_option maxRecDepth 100000
set_option maxHeartbeats 1000000
/-! Greatest lengths as functions; how they come about step by step; what the searches find. -/
namespace AC
open Classical in
noncomputable def mv (S : List Nat → Prop) (d : List Int) : Int := if h : ∃ m, MaxP S (len d) m then Classical.choose h else 0
theorem mv_spec {S : List Nat → Prop} {d : List Int} (h : ∃ m, MaxP S (len d) m) : MaxP S (len d) (mv S d) := by
  unfold mv
  rw [dif_pos h]
  exact Classical.choose_spec h
theorem mv_of {S : List Nat → Prop} {d : List Int} {m : Int} (h : MaxP S (len d) m) : mv S d = m := (mv_spec ⟨m, h⟩).uniq h
theorem mv_congr {S T : List Nat → Prop} (h : ∀ q, S q ↔ T q) (d : List Int) : mv S d = mv T d := by
  have : S = T := funext fun q => propext (h q)
  rw [this]
noncomputable abbrev sv (p : Pr) (d : List Int) (t : Nat) : Int := mv (fun h => Head p h t) d
noncomputable abbrev rv (p : Pr) (d : List Int) (t : Nat) : Int := mv (fun q => Tail p q t) d
noncomputable abbrev enV (p : Pr) (d : List Int) : Int := mv (Whole p) d
noncomputable abbrev tv (p : Pr) (d : List Int) (t : Nat) : Int := mv (fun w => Whole p w ∧ t ∈ w) d
noncomputable abbrev av (p : Pr) (d : List Int) (t : Nat) : Int := mv (fun w => Whole p w ∧ ¬ t ∈ w) d
def NN (d : List Int) : Prop := ∀ i, 0 ≤ d.getD i 0
theorem Dur.nn {p : Pr} (ok : p.Ok) {d : List Int} (h : Dur p d) : NN d := fun i => by
  cases e : p.ts[i]? with
  | none =>
    have l1 : p.ts.length ≤ i := List.getElem?_eq_none_iff.mp e
    rw [List.getD_eq_getElem?_getD, List.getElem?_eq_none (by rw [h.l]; exact l1)]
    exact Int.le_refl _
  | some b =>
    have := (h.b i b e).1
    have := (ok.bd b (List.mem_of_getElem? e)).1
    omega
theorem len_nn {d : List Int} (h : NN d) : ∀ q, 0 ≤ len d q
  | [] => Int.le_refl _
  | a :: q => by
    rw [len_cons]
    have := h a
    have := len_nn h q
    omega
theorem MaxP.nn {S : List Nat → Prop} {d : List Int} {m : Int} (h : NN d) (x : MaxP S (len d) m) : 0 ≤ m := by
  obtain ⟨⟨q, _, e⟩, _⟩ := x
  have := len_nn h q
  omega
theorem start_dp {p : Pr} {d : List Int} {t : Nat} {x : Nat → Int} {m : Int} (h0 : NN d) (hx : ∀ e ∈ bef p t, StartV p d e (x e)) (hm : 0 ≤ m) (le : ∀ e ∈ bef p t, x e + d.getD e 0 ≤ m)
    (at_ : m = 0 ∨ ∃ e, e ∈ bef p t ∧ m = x e + d.getD e 0) : StartV p d t m := by
  refine ⟨?_, fun h hh => ?_⟩
  · have pick : ∀ e, e ∈ bef p t → m = x e + d.getD e 0 → ∃ q, Head p q t ∧ len d q = m := fun e he hme => by
      obtain ⟨⟨h, h1, h2⟩, _⟩ := hx e he
      exact ⟨h ++ [e], .snoc he h1, by rw [len_append, len_one, h2, hme]⟩
    rcases at_ with e0 | ⟨e, he, hme⟩
    · rcases eq_nil_or (bef p t) with hb | ⟨e, he⟩
      · exact ⟨[], .nil hb, by rw [e0]; rfl⟩
      · refine pick e he ?_
        have := le e he
        have := (hx e he).nn h0
        have := h0 e
        omega
    · exact pick e he hme
  · cases hh with
    | nil _ => exact hm
    | @snoc h e _ he hh =>
      rw [len_append, len_one]
      have := (hx e he).2 h hh
      have := le e he
      omega
theorem rest_dp {p : Pr} {d : List Int} {t : Nat} {x : Nat → Int} {m : Int} (h0 : NN d) (hx : ∀ e ∈ beh p t, RestV p d e (x e)) (hm : 0 ≤ m) (le : ∀ e ∈ beh p t, x e ≤ m)
    (at_ : m = 0 ∨ ∃ e, e ∈ beh p t ∧ m = x e) : RestV p d t (d.getD t 0 + m) := by
  refine ⟨?_, fun h hh => ?_⟩
  · have pick : ∀ e, e ∈ beh p t → m = x e → ∃ q, Tail p q t ∧ len d q = d.getD t 0 + m := fun e he hme => by
      obtain ⟨⟨h, h1, h2⟩, _⟩ := hx e he
      exact ⟨t :: h, .cons he h1, by rw [len_cons, h2, hme]⟩
    rcases at_ with e0 | ⟨e, he, hme⟩
    · rcases eq_nil_or (beh p t) with hb | ⟨e, he⟩
      · exact ⟨[t], .one hb, by rw [e0, len_one]; omega⟩
      · refine pick e he ?_
        have := le e he
        have := (hx e he).nn h0
        omega
    · exact pick e he hme
  · cases hh with
    | one _ => rw [len_one]; omega
    | @cons h e _ he hh =>
      rw [len_cons]
      have := (hx e he).2 h hh
      have := le e he
      omega
theorem max_ex (l : List Int) : ∃ m, 0 ≤ m ∧ (∀ y ∈ l, y ≤ m) ∧ (m = 0 ∨ m ∈ l) := by
  obtain ⟨m, ⟨q, h1, h2⟩, h3⟩ := maxp_ex (fun x : Int => x) (0 :: l) (by simp)
  subst h2
  refine ⟨q, h3 0 List.mem_cons_self, fun y hy => h3 y (List.mem_cons_of_mem _ hy), ?_⟩
  rcases List.mem_cons.mp h1 with e | e
  · exact .inl e
  · exact .inr e
theorem start_ex {p : Pr} (ok : p.Ok) {d : List Int} (h0 : NN d) : ∀ (k t : Nat), t < k → ∃ m, StartV p d t m
  | 0, t, h => absurd h (Nat.not_lt_zero t)
  | k + 1, t, h => by
    have ih : ∀ e ∈ bef p t, StartV p d e (sv p d e) := fun e he => mv_spec (start_ex ok h0 k e (by have := (bef_lt ok he).1; omega))
    obtain ⟨m, h1, h2, h3⟩ := max_ex ((bef p t).map fun e => sv p d e + d.getD e 0)
    refine ⟨m, start_dp h0 ih h1 (fun e he => h2 _ (List.mem_map.mpr ⟨e, he, rfl⟩)) ?_⟩
    rcases h3 with e | e
    · exact .inl e
    · obtain ⟨e, he, h4⟩ := List.mem_map.mp e
      exact .inr ⟨e, he, h4.symm⟩
theorem rest_ex {p : Pr} (ok : p.Ok) {d : List Int} (h0 : NN d) : ∀ (k t : Nat), p.ts.length ≤ t + k → t < p.ts.length → ∃ m, RestV p d t m
  | 0, t, h, h2 => absurd h2 (by omega)
  | k + 1, t, h, ht => by
    have ih : ∀ e ∈ beh p t, RestV p d e (rv p d e) := fun e he => mv_spec (rest_ex ok h0 k e (by have := (beh_lt ok he).1; omega) (beh_lt ok he).2)
    obtain ⟨m, h1, h2, h3⟩ := max_ex ((beh p t).map fun e => rv p d e)
    refine ⟨_, rest_dp h0 ih h1 (fun e he => h2 _ (List.mem_map.mpr ⟨e, he, rfl⟩)) ?_⟩
    rcases h3 with e | e
    · exact .inl e
    · obtain ⟨e, he, h4⟩ := List.mem_map.mp e
      exact .inr ⟨e, he, h4.symm⟩
section
variable {p : Pr} (ok : p.Ok) {d : List Int} (h0 : NN d) {t : Nat}
include ok h0
theorem sv_spec : StartV p d t (sv p d t) := mv_spec (start_ex ok h0 (t + 1) t (Nat.lt_succ_self t))
theorem rv_spec (ht : t < p.ts.length) : RestV p d t (rv p d t) := mv_spec (rest_ex ok h0 p.ts.length t (by omega) ht)
theorem tv_spec (ht : t < p.ts.length) : ThruV p d t (tv p d t) := mv_spec ⟨_, thru_of ok ht (sv_spec ok h0) (rv_spec ok h0 ht)⟩
theorem tv_eq (ht : t < p.ts.length) : tv p d t = sv p d t + rv p d t := mv_of (thru_of ok ht (sv_spec ok h0) (rv_spec ok h0 ht))
theorem en_spec : EndV p d (enV p d) := by
  obtain ⟨m, hm⟩ := maxp_ex (fun t => tv p d t) (List.range p.ts.length) (by
    intro h
    have := List.range_eq_nil.mp h
    have := ok.n1
    omega)
  exact mv_spec ⟨m, end_of ok (fun t ht => tv_spec ok h0 ht) (hm.congr (fun q => List.mem_range) fun _ _ => rfl)⟩
theorem tv_le (ht : t < p.ts.length) : tv p d t ≤ enV p d := by
  obtain ⟨⟨q, ⟨h1, _⟩, h2⟩, _⟩ := tv_spec ok h0 ht
  have := (en_spec ok h0).2 q h1
  omega
/-- m is the greatest of 0 and of the starts before, with their tasks -/
theorem sv_dp {m : Int} (hm : 0 ≤ m) (le : ∀ e ∈ bef p t, sv p d e + d.getD e 0 ≤ m) (at_ : m = 0 ∨ ∃ e, e ∈ bef p t ∧ m = sv p d e + d.getD e 0) : sv p d t = m :=
  mv_of (start_dp h0 (x := sv p d) (fun e _ => sv_spec ok h0) hm le at_)
theorem sv_ge {e : Nat} (he : e ∈ bef p t) : sv p d e + d.getD e 0 ≤ sv p d t := by
  obtain ⟨⟨q, h1, h2⟩, _⟩ := sv_spec ok h0 (t := e)
  have := (sv_spec ok h0 (t := t)).2 _ (.snoc he h1)
  rw [len_append, len_one, h2] at this
  exact this
theorem sv_nn : 0 ≤ sv p d t := (sv_spec ok h0).nn h0
theorem sv_at : sv p d t = 0 ∨ ∃ e, e ∈ bef p t ∧ sv p d t = sv p d e + d.getD e 0 := by
  obtain ⟨⟨q, h1, h2⟩, _⟩ := sv_spec ok h0 (t := t)
  cases h1 with
  | nil _ => exact .inl h2.symm
  | @snoc h e _ he hh =>
    refine .inr ⟨e, he, ?_⟩
    rw [len_append, len_one] at h2
    have := (sv_spec ok h0 (t := e)).2 h hh
    have := sv_ge ok h0 he
    omega
theorem rv_dp {m : Int} (ht : t < p.ts.length) (hm : 0 ≤ m) (le : ∀ e ∈ beh p t, rv p d e ≤ m) (at_ : m = 0 ∨ ∃ e, e ∈ beh p t ∧ m = rv p d e) : rv p d t = d.getD t 0 + m :=
  mv_of (rest_dp h0 (x := rv p d) (fun e he => rv_spec ok h0 (beh_lt ok he).2) hm le at_)
end

/-! ### what the ranges and the searches tell -/
structure RngV (p : Pr) (v : List Int → Int) (lo hi : Int) : Prop where
  le : ∀ d, Dur p d → lo ≤ v d ∧ v d ≤ hi
  lo_at : ∃ c, Dur p c ∧ v c = lo
  hi_at : ∃ c, Dur p c ∧ v c = hi
theorem Rng.v {p : Pr} {A B : List Nat → Prop} {lo hi : Int} {v : List Int → Int} (h : Rng p A B lo hi) (hv : ∀ d, Dur p d → ∃ a b, MaxP A (len d) a ∧ MaxP B (len d) b ∧ v d = a - b) : RngV p v lo hi where
  le := fun d hd => by
    obtain ⟨a, b, h1, h2, h3⟩ := hv d hd
    rw [h3]
    exact ⟨h.lo_le d hd a b h1 h2, h.le_hi d hd a b h1 h2⟩
  lo_at := by
    obtain ⟨c, hc, k⟩ := h.lo_at
    obtain ⟨a, b, h1, h2, h3⟩ := hv c hc
    exact ⟨c, hc, h3.trans (k a b h1 h2)⟩
  hi_at := by
    obtain ⟨c, hc, k⟩ := h.hi_at
    obtain ⟨a, b, h1, h2, h3⟩ := hv c hc
    exact ⟨c, hc, h3.trans (k a b h1 h2)⟩
theorem RngV.eq {p : Pr} {v : List Int → Int} {lo hi : Int} (h : RngV p v lo hi) {l : List (List Int)} (hl : ∀ d, d ∈ l ↔ Dur p d) {a b : Int} (ha : a ∈ l.map v) (ha' : ∀ y ∈ l.map v, a ≤ y) (hb : b ∈ l.map v) (hb' : ∀ y ∈ l.map v, y ≤ b) : lo = a ∧ hi = b := by
  obtain ⟨c, hc, e1⟩ := h.lo_at
  obtain ⟨c2, hc2, e2⟩ := h.hi_at
  obtain ⟨x, hx, e3⟩ := List.mem_map.mp ha
  obtain ⟨y, hy, e4⟩ := List.mem_map.mp hb
  have := ha' _ (List.mem_map.mpr ⟨c, (hl c).mpr hc, rfl⟩)
  have := hb' _ (List.mem_map.mpr ⟨c2, (hl c2).mpr hc2, rfl⟩)
  have := h.le x ((hl x).mp hx)
  have := h.le y ((hl y).mp hy)
  omega
/-- b is the greatest of v, c has it -/
structure BestV (p : Pr) (v : List Int → Int) (b : Int) (c : List Int) : Prop where
  dur : Dur p c
  at_ : v c = b
  le : ∀ d, Dur p d → v d ≤ b
theorem Best.v {p : Pr} {A B : List Nat → Prop} {b : Int} {c : List Int} {v : List Int → Int} (h : Best p A B b c) (hv : ∀ d, Dur p d → ∃ a b, MaxP A (len d) a ∧ MaxP B (len d) b ∧ v d = a - b) : BestV p v b c where
  dur := h.dur
  at_ := by
    obtain ⟨a, b, h1, h2, h3⟩ := hv c h.dur
    exact h3.trans (h.at_ a b h1 h2)
  le := fun d hd => by
    obtain ⟨a, b, h1, h2, h3⟩ := hv d hd
    rw [h3]
    exact h.le d hd a b h1 h2

/-! ### the one-arrow-less project -/
def cut (p : Pr) (a : Nat × Nat) : Pr := ⟨p.ts, p.ar.filter fun b => !decide (b = a)⟩
theorem cut_ok {p : Pr} (ok : p.Ok) (a : Nat × Nat) : (cut p a).Ok := ⟨ok.n1, ok.n6, ok.bd, fun b hb => ok.ar b (List.mem_filter.mp hb).1, nodup_filter ok.nd, Nat.le_trans (List.length_filter_le _ _) ok.few⟩
theorem cut_dur {p : Pr} {a : Nat × Nat} {d : List Int} : Dur (cut p a) d ↔ Dur p d := ⟨fun h => ⟨h.l, h.b⟩, fun h => ⟨h.l, h.b⟩⟩
theorem cut_bef {p : Pr} {i j e t : Nat} : e ∈ bef (cut p (i, j)) t ↔ e ∈ bef p t ∧ ¬ (e = i ∧ t = j) := by
  rw [mem_bef, mem_bef]
  show (e, t) ∈ p.ar.filter _ ↔ _
  rw [List.mem_filter]
  have : ((e, t) = (i, j)) ↔ (e = i ∧ t = j) := by rw [Prod.mk.injEq]
  simp only [Bool.not_eq_true', decide_eq_false_iff_not, this]
/-- an arrow counts for nothing exactly where its end would start no earlier without it -/
theorem cut_same {p : Pr} (ok : p.Ok) {d : List Int} (hd : Dur p d) {i j : Nat} (hij : (i, j) ∈ p.ar) : (∀ t, sv p d t = sv (cut p (i, j)) d t) ↔ sv p d i + d.getD i 0 ≤ sv (cut p (i, j)) d j := by
  have h0 := hd.nn ok
  have ok' := cut_ok ok (i, j)
  have hi : i ∈ bef p j := mem_bef.mpr hij
  constructor
  · intro h
    rw [← h j]
    exact sv_ge ok h0 hi
  · intro h t
    have main : ∀ k t, t < k → sv p d t = sv (cut p (i, j)) d t := by
      intro k
      induction k with
      | zero => intro t ht; exact absurd ht (Nat.not_lt_zero t)
      | succ k ih =>
        intro t ht
        refine sv_dp ok h0 (sv_nn ok' h0) (fun e he => ?_) ?_
        · have hlt := (bef_lt ok he).1
          by_cases z : e = i ∧ t = j
          · obtain ⟨rfl, rfl⟩ := z
            exact h
          · rw [ih e (by omega)]
            exact sv_ge ok' h0 (cut_bef.mpr ⟨he, z⟩)
        · rcases sv_at ok' h0 (t := t) with e | ⟨e, he, h2⟩
          · exact .inl e
          · obtain ⟨k1, k2⟩ := cut_bef.mp he
            have hlt := (bef_lt ok k1).1
            exact .inr ⟨e, k1, by rw [ih e (by omega)]; exact h2⟩
    exact main (t + 1) t (Nat.lt_succ_self t)

/-! ### pivotal tasks -/
def Piv (p : Pr) (d : List Int) (t : Nat) : Prop := ∀ q, Whole p q → len d q = enV p d → t ∈ q
theorem piv_all {p : Pr} {t : Nat} (h : ∀ q, Whole p q → t ∈ q) (d : List Int) : Piv p d t := fun q hq _ => h q hq
theorem piv_iff {p : Pr} (ok : p.Ok) {d : List Int} (h0 : NN d) {t : Nat} (ht : t < p.ts.length) {a : Int} (ha : MaxP (fun w => Whole p w ∧ ¬ t ∈ w) (len d) a) : Piv p d t ↔ 0 < tv p d t - a := by
  obtain ⟨⟨q, ⟨q1, q2⟩, q3⟩, q4⟩ := id ha
  obtain ⟨⟨r, ⟨r1, r2⟩, r3⟩, r4⟩ := tv_spec ok h0 ht
  obtain ⟨⟨z, z1, z2⟩, z4⟩ := en_spec ok h0
  constructor
  · intro h
    refine Classical.byContradiction fun hn => ?_
    have h1 := z4 q q1
    refine q2 (h q q1 ?_)
    by_cases hz : t ∈ z
    · have := r4 z ⟨z1, hz⟩
      omega
    · have := q4 z ⟨z1, hz⟩
      omega
  · intro h w hw he
    refine Classical.byContradiction fun hn => ?_
    have h1 := q4 w ⟨hw, hn⟩
    have h2 := z4 r r1
    omega

/-! ### walking from durations to durations -/
theorem lk_snoc {α : Type} {R : α → α → Prop} : ∀ {l : List α} {a b : α}, Lk R l → l.getLast? = some a → R a b → Lk R (l ++ [b])
  | [], a, b, _, h, _ => by cases h
  | [x], a, b, _, h, r => by
    have : x = a := by simpa using h
    subst this
    exact ⟨r, trivial⟩
  | x :: y :: l, a, b, hl, h, r => ⟨hl.1, lk_snoc (l := y :: l) hl.2 (by simpa using h) r⟩
theorem lk_map {α β : Type} {R : α → α → Prop} {S : β → β → Prop} (f : α → β) : ∀ {l : List α}, (∀ a ∈ l, ∀ b ∈ l, R a b → S (f a) (f b)) → Lk R l → Lk S (l.map f)
  | [], _, _ => trivial
  | [x], _, _ => trivial
  | x :: y :: l, h, hl => ⟨h x List.mem_cons_self y (List.mem_cons_of_mem _ List.mem_cons_self) hl.1, lk_map f (l := y :: l) (fun a ha b hb => h a (List.mem_cons_of_mem _ ha) b (List.mem_cons_of_mem _ hb)) hl.2⟩
def Near (d e : List Int) : Prop := Up1 d e ∨ Up1 e d
structure Wk (p : Pr) (first : List Int) (L : List (List Int)) (h : List Int) : Prop where
  dur : ∀ d ∈ L, Dur p d
  lk : Lk Near L
  fst : first ∈ L
  lst : L.getLast? = some h
theorem Wk.snoc {p : Pr} {first h h' : List Int} {L : List (List Int)} (w : Wk p first L h) (hd : Dur p h') (hn : Near h h') : Wk p first (L ++ [h']) h' where
  dur := fun d hm => (List.mem_append.mp hm).elim (w.dur d) fun e => by
    have : d = h' := by simpa using e
    rw [this]; exact hd
  lk := lk_snoc w.lk w.lst hn
  fst := List.mem_append_left _ w.fst
  lst := by simp
theorem set_at {d : List Int} {k : Nat} {v : Int} (hk : k < d.length) : (d.set k v).getD k 0 = v := by
  rw [List.getD_eq_getElem?_getD, List.getElem?_set_self hk]
  rfl
theorem set_ne' {d : List Int} {k j : Nat} {v : Int} (h : k ≠ j) : (d.set k v).getD j 0 = d.getD j 0 := by
  rw [List.getD_eq_getElem?_getD, List.getElem?_set_ne h, ← List.getD_eq_getElem?_getD]
theorem Dur.set {p : Pr} {d : List Int} (h : Dur p d) {k : Nat} {b : Int × Int} (hb : p.ts[k]? = some b) {v : Int} (h1 : b.1 ≤ v) (h2 : v ≤ b.2) : Dur p (d.set k v) where
  l := by rw [List.length_set, h.l]
  b := fun i b' hb' => by
    by_cases e : k = i
    · subst e
      rw [hb] at hb'
      cases hb'
      have : k < d.length := by rw [h.l]; exact (List.getElem?_eq_some_iff.mp hb).1
      rw [set_at this]
      exact ⟨h1, h2⟩
    · rw [set_ne' e]
      exact h.b i b' hb'
theorem near_up {d : List Int} {k : Nat} (hk : k < d.length) : Near d (d.set k (d.getD k 0 + 1)) := .inl ⟨k, hk, rfl⟩
theorem near_down {d : List Int} {k : Nat} (hk : k < d.length) : Near d (d.set k (d.getD k 0 + -1)) := by
  refine .inr ⟨k, by rw [List.length_set]; exact hk, ?_⟩
  rw [set_at hk, List.set_set]
  have : d.getD k 0 + -1 + 1 = d.getD k 0 := by omega
  rw [this, List.getD_eq_getElem?_getD, List.getElem?_eq_getElem hk]
  exact (List.set_getElem_self hk).symm
theorem near_val {d e : List Int} (h : Near d e) {A B : List Nat → Prop} (hA : ∀ q, A q → q.Nodup) (hB : ∀ q, B q → q.Nodup) {a b a' b' : Int} (h1 : MaxP A (len d) a) (h2 : MaxP B (len d) b) (h3 : MaxP A (len e) a') (h4 : MaxP B (len e) b') : a - b ≤ a' - b' + 1 ∧ a' - b' ≤ a - b + 1 := by
  rcases h with h | h
  · have := up_max h hA h1 h3
    have := up_max h hB h2 h4
    omega
  · have := up_max h hA h3 h1
    have := up_max h hB h4 h2
    omega
/-- somewhere on the walk the value is s -/
theorem walk_meets {p : Pr} {first last : List Int} {L : List (List Int)} (w : Wk p first L last) {A B : List Nat → Prop} (hA : ∀ q, A q → q.Nodup) (hB : ∀ q, B q → q.Nodup) {v : List Int → Int}
    (hv : ∀ d, Dur p d → ∃ a b, MaxP A (len d) a ∧ MaxP B (len d) b ∧ v d = a - b) {s : Int} (h1 : v first ≤ s) (h2 : s ≤ v last) : ∃ d, d ∈ L ∧ v d = s := by
  have hk : Lk (fun a b : Int => a ≤ b + 1 ∧ b ≤ a + 1) (L.map v) := lk_map v (fun d hd e he hn => by
    obtain ⟨a, b, k1, k2, k3⟩ := hv d (w.dur d hd)
    obtain ⟨a', b', g1, g2, g3⟩ := hv e (w.dur e he)
    rw [k3, g3]
    exact near_val hn hA hB k1 k2 g1 g2) w.lk
  have hm := ivt (L.map v) s hk ⟨_, List.mem_map.mpr ⟨first, w.fst, rfl⟩, h1⟩ ⟨_, List.mem_map.mpr ⟨last, List.mem_of_getLast? w.lst, rfl⟩, h2⟩
  obtain ⟨d, hd, e⟩ := List.mem_map.mp hm
  exact ⟨d, hd, e⟩
end AC
set_option Elab.async false
set_option linter.all false
set_option maxRecDepth 100000
set_option maxHeartbeats 1000000
namespace AC
open PySem PySem.Spec PyProof.Rows L2
local macro_rules | `(tactic| walk_at "sh") => `(tactic| first | exact sh_int | exact sh_bool | exact sh_none | exact okd_du.sh (by decide) | exact okd_li.sh (by decide) | exact okd_pt.sh (by decide) | exact okd_ar.sh (by decide) | exact okd_ps.sh (by decide) | exact okd_na.sh (by decide) | exact (okd_tup (okd_map fun _ _ => okd_int)).sh (by decide) | exact (okd_tup (okd_map fun _ _ => okd_ar)).sh (by decide) | exact (okd_lst (okd_map fun _ _ => okd_du)).sh (by decide) | exact (okd_lst (okd_map fun _ _ => okd_ar)).sh (by decide))
local macro_rules | `(tactic| walk_at "e1") => `(tactic| first | with_reducible refine ev_int ?_ | with_reducible refine ev_non ?_ | with_reducible refine ev_bl ?_ | with_reducible refine ev_str ?_ | with_reducible refine ea_nil ?_ | with_reducible refine ea_cons ?_ | with_reducible refine ev_op ?_ | with_reducible refine ev_call ?_ | with_reducible refine ev_cb ?_ | with_reducible refine ev_tup ?_ | with_reducible refine ev_if ?_ | with_reducible refine et_test ?_ | with_reducible refine et_B ?_ | with_reducible refine ev_isN ?_ | with_reducible refine ev_notN ?_ | with_reducible refine ev_un ?_ | with_reducible refine ev_chain ?_ | with_reducible refine ev_andV ?_ | with_reducible refine ev_orV ?_ | with_reducible refine ev_notV ?_ | with_reducible refine et_and ?_ | with_reducible refine et_or ?_ | with_reducible refine et_not ?_ | refine ev_var rfl ?_ | refine od_add ?_ | refine od_I0 (fun _ => .int _) ?_ | refine od_I0 (fun _ => .bl _) ?_ | refine od_ixT at_0 ?_ | refine od_ixT at_1 ?_)
local macro_rules | `(tactic| walk_at "ev") => `(tactic| (walk_at "e1"; repeat walk_at "e1"))

section
variable {P : Program} {w : World} {K : PySem.W.Frag} {mg : Str → Option Value} {base : Heap}
theorem gp_of {p : Pr} {ps : List (List Nat)} {S : List Nat → Prop} {B : Nat} (hl : ps.length ≤ B) (hB : B ≤ 1000) (hq : ∀ q, q ∈ ps ↔ S q) (h0 : ∃ q, S q) (hS : ∀ q, S q → q.Nodup ∧ ∀ e ∈ q, e < p.ts.length) : GP p ps where
  ne := fun e => by
    obtain ⟨q, hq2⟩ := h0
    have := (hq q).mpr hq2
    rw [e] at this
    cases this
  few := Nat.le_trans hl hB
  nd := fun q hm => (hS q ((hq q).mp hm)).1
  lt := fun q hm => (hS q ((hq q).mp hm)).2
theorem six {p : Pr} (ok : p.Ok) {t : Nat} (h : t ≤ p.ts.length) : 2 ^ t ≤ 64 := Nat.le_trans (Nat.pow_le_pow_right (n := 2) (by decide) (show t ≤ 6 by have := ok.n6; omega)) (by decide)
theorem gp_nil {p : Pr} : GP p [[]] where
  ne := by simp
  few := by simp
  nd := fun q hm => by
    have : q = [] := by simpa using hm
    subst this
    exact List.nodup_nil
  lt := fun q hm e he => by
    have : q = [] := by simpa using hm
    subst this
    cases he
theorem gp_whole {p : Pr} (ok : p.Ok) {ps : List (List Nat)} (hl : ps.length ≤ 64) (hq : ∀ q, q ∈ ps ↔ Whole p q) : GP p ps :=
  gp_of hl (by decide) hq (by obtain ⟨w, hw, _⟩ := thru_ex ok (t := 0) (by have := ok.n1; omega); exact ⟨w, hw⟩) fun q h => ⟨(h.mem ok).2.1, (h.mem ok).1⟩
theorem gp_thru {p : Pr} (ok : p.Ok) {ps : List (List Nat)} {t : Nat} (ht : t < p.ts.length) (hl : ps.length ≤ 64) (hq : ∀ q, q ∈ ps ↔ Whole p q ∧ t ∈ q) : GP p ps :=
  gp_of hl (by decide) hq (thru_ex ok ht) fun q h => ⟨(h.1.mem ok).2.1, (h.1.mem ok).1⟩
theorem gp_heads {p : Pr} (ok : p.Ok) {ps : List (List Nat)} {t : Nat} (ht : t < p.ts.length) (hl : ps.length ≤ 2 ^ t) (hq : ∀ q, q ∈ ps ↔ Head p q t) : GP p ps :=
  gp_of hl (Nat.le_trans (six ok (Nat.le_of_lt ht)) (by decide)) hq (head_ex ok (t + 1) t (Nat.lt_succ_self t)) fun q h => ⟨(h.lt ok).2, fun e he => Nat.lt_trans ((h.lt ok).1 e he) ht⟩
theorem gp_tails {p : Pr} (ok : p.Ok) {ps : List (List Nat)} {t : Nat} (ht : t < p.ts.length) (hl : ps.length ≤ 2 ^ (p.ts.length - 1 - t)) (hq : ∀ q, q ∈ ps ↔ Tail p q t) : GP p ps :=
  gp_of hl (Nat.le_trans (six ok (by omega)) (by decide)) hq (tail_ex ok p.ts.length t (by omega) ht) fun q h => ⟨(h.ge ok ht).2, fun e he => ((h.ge ok ht).1 e he).2⟩
theorem max_nil {d : List Int} : MaxP (· ∈ ([[]] : List (List Nat))) (len d) 0 := ⟨⟨[], by simp, rfl⟩, fun q hq => by
  have : q = [] := by simpa using hq
  subst this
  exact Int.le_refl _⟩
def RgD (p : Pr) (v : List Int → Int) (x : PyData) : Prop := ∃ lo hi, x = .tuple [.int lo, .int hi] ∧ RngV p v lo hi
abbrev S_end : Spec := fun ds R => ∃ p, ds = [pjD p] ∧ p.Ok ∧ R = RgD p (enV p)
abbrev N_end_range : List Str := ["project"]
theorem sc_end_range : FnScope N_end_range ["project"] (defScope s_end_range) := ⟨rfl, rfl, rfl, by decide +kernel, rfl, by decide +kernel, by decide +kernel⟩
theorem ok_end_range (Rw : Raw K mg "end_range" s_end_range ["project"]) (B : Bl mg)
    (Dwhole_paths : Def P w K mg base 9 "whole_paths" ["project"] (fsp S_whole))
    (Ddifference_of : Def P w K mg base 4 "difference_of" ["project", "some", "others"] (fsp S_diff)) :
    Def P w K mg base 10 "end_range" ["project"] (fsp S_end) := by
  refine def_ok Rw sc_end_range (fun ds R h => ?_) fun f cdv A outer s H E hr => ⟨_, (pss_one (ps_ret (pe_def Ddifference_of (hr.mono (by first | decide | omega)) (by rfl) (pa_cons (pv 0) (pa_cons (pe_def Dwhole_paths (hr.mono (by first | decide | omega)) (by rfl) (pa_cons (pv 0) pa_nil)) (pa_cons (pe_lst (pa_cons (pe_tup pa_nil) pa_nil)) pa_nil)))))), fun ds R h => ?_⟩
  · obtain ⟨p, rfl, _⟩ := h; rfl
  · obtain ⟨p, rfl, ok, rfl⟩ := h
    refine run_ret ?_
    walk_at "ev"
    refine ⟨_, ⟨p, rfl, ok, rfl⟩, ?_⟩
    rintro _ ⟨ps, rfl, hl, hq⟩
    walk_at "ev"
    refine ev_ofL (ev_lst ?_)
    walk_at "ev"
    refine ⟨by simp, ?_⟩
    walk_at "ev"
    refine ⟨by simp, ?_⟩
    walk_at "ev"
    refine ⟨_, ⟨p, ps, [[]], rfl, ok, gp_whole ok hl hq, gp_nil, rfl⟩, ?_⟩
    rintro _ ⟨lo, hi, rfl, hr⟩
    refine ⟨lo, hi, rfl, (hr.congr hq fun q => Iff.rfl).v fun d hd => ⟨_, 0, en_spec ok (hd.nn ok), max_nil, by omega⟩⟩
abbrev S_start : Spec := fun ds R => ∃ p t, ds = [pjD p, .int (t : Nat)] ∧ p.Ok ∧ t < p.ts.length ∧ R = RgD p (fun d => sv p d t)
abbrev N_start_range : List Str := ["project", "task"]
theorem sc_start_range : FnScope N_start_range ["project", "task"] (defScope s_start_range) := ⟨rfl, rfl, rfl, by decide +kernel, rfl, by decide +kernel, by decide +kernel⟩
theorem ok_start_range (Rw : Raw K mg "start_range" s_start_range ["project", "task"]) (B : Bl mg)
    (Dheads : Def P w K mg base 7 "heads" ["project", "task"] (fsp (S_heads 6)))
    (Ddifference_of : Def P w K mg base 4 "difference_of" ["project", "some", "others"] (fsp S_diff)) :
    Def P w K mg base 8 "start_range" ["project", "task"] (fsp S_start) := by
  refine def_ok Rw sc_start_range (fun ds R h => ?_) fun f cdv A outer s H E hr => ⟨_, (pss_one (ps_ret (pe_def Ddifference_of (hr.mono (by first | decide | omega)) (by rfl) (pa_cons (pv 0) (pa_cons (pe_def Dheads (hr.mono (by first | decide | omega)) (by rfl) (pa_cons (pv 0) (pa_cons (pv 1) pa_nil))) (pa_cons (pe_lst (pa_cons (pe_tup pa_nil) pa_nil)) pa_nil)))))), fun ds R h => ?_⟩
  · obtain ⟨p, t, rfl, _⟩ := h; rfl
  · obtain ⟨p, t, rfl, ok, ht, rfl⟩ := h
    have h6 := ok.n6
    refine run_ret ?_
    walk_at "ev"
    refine ⟨_, ⟨p, t, rfl, ok, ht, by omega, rfl⟩, ?_⟩
    rintro _ ⟨ps, rfl, hl, hq⟩
    walk_at "ev"
    refine ev_ofL (ev_lst ?_)
    walk_at "ev"
    refine ⟨by simp, ?_⟩
    walk_at "ev"
    refine ⟨by simp, ?_⟩
    walk_at "ev"
    refine ⟨_, ⟨p, ps, [[]], rfl, ok, gp_heads ok ht hl hq, gp_nil, rfl⟩, ?_⟩
    rintro _ ⟨lo, hi, rfl, hr⟩
    refine ⟨lo, hi, rfl, (hr.congr hq fun q => Iff.rfl).v fun d hd => ⟨_, 0, sv_spec ok (hd.nn ok), max_nil, by omega⟩⟩
abbrev S_latest : Spec := fun ds R => ∃ p t, ds = [pjD p, .int (t : Nat)] ∧ p.Ok ∧ t < p.ts.length ∧ R = RgD p (fun d => enV p d - rv p d t)
abbrev N_latest_range : List Str := ["project", "task"]
theorem sc_latest_range : FnScope N_latest_range ["project", "task"] (defScope s_latest_range) := ⟨rfl, rfl, rfl, by decide +kernel, rfl, by decide +kernel, by decide +kernel⟩
theorem ok_latest_range (Rw : Raw K mg "latest_range" s_latest_range ["project", "task"]) (B : Bl mg)
    (Dwhole_paths : Def P w K mg base 9 "whole_paths" ["project"] (fsp S_whole))
    (Dtails : Def P w K mg base 7 "tails" ["project", "task"] (fsp (S_tails 6)))
    (Ddifference_of : Def P w K mg base 4 "difference_of" ["project", "some", "others"] (fsp S_diff)) :
    Def P w K mg base 10 "latest_range" ["project", "task"] (fsp S_latest) := by
  refine def_ok Rw sc_latest_range (fun ds R h => ?_) fun f cdv A outer s H E hr => ⟨_, (pss_one (ps_ret (pe_def Ddifference_of (hr.mono (by first | decide | omega)) (by rfl) (pa_cons (pv 0) (pa_cons (pe_def Dwhole_paths (hr.mono (by first | decide | omega)) (by rfl) (pa_cons (pv 0) pa_nil)) (pa_cons (pe_def Dtails (hr.mono (by first | decide | omega)) (by rfl) (pa_cons (pv 0) (pa_cons (pv 1) pa_nil))) pa_nil)))))), fun ds R h => ?_⟩
  · obtain ⟨p, t, rfl, _⟩ := h; rfl
  · obtain ⟨p, t, rfl, ok, ht, rfl⟩ := h
    have h6 := ok.n6
    refine run_ret ?_
    walk_at "ev"
    refine ⟨_, ⟨p, rfl, ok, rfl⟩, ?_⟩
    rintro _ ⟨ps, rfl, hl, hq⟩
    walk_at "ev"
    refine ⟨_, ⟨p, t, rfl, ok, ht, by omega, rfl⟩, ?_⟩
    rintro _ ⟨os, rfl, ol, oq⟩
    walk_at "ev"
    refine ⟨_, ⟨p, ps, os, rfl, ok, gp_whole ok hl hq, gp_tails ok ht ol oq, rfl⟩, ?_⟩
    rintro _ ⟨lo, hi, rfl, hr⟩
    refine ⟨lo, hi, rfl, (hr.congr hq oq).v fun d hd => ⟨_, _, en_spec ok (hd.nn ok), rv_spec ok (hd.nn ok) ht, rfl⟩⟩
abbrev S_slackR : Spec := fun ds R => ∃ p t, ds = [pjD p, .int (t : Nat)] ∧ p.Ok ∧ t < p.ts.length ∧ R = RgD p (fun d => enV p d - tv p d t)
abbrev N_slack_range : List Str := ["project", "task"]
theorem sc_slack_range : FnScope N_slack_range ["project", "task"] (defScope s_slack_range) := ⟨rfl, rfl, rfl, by decide +kernel, rfl, by decide +kernel, by decide +kernel⟩
theorem ok_slack_range (Rw : Raw K mg "slack_range" s_slack_range ["project", "task"]) (B : Bl mg)
    (Dwhole_paths : Def P w K mg base 9 "whole_paths" ["project"] (fsp S_whole))
    (Dthrough : Def P w K mg base 10 "through" ["project", "task"] (fsp S_through))
    (Ddifference_of : Def P w K mg base 4 "difference_of" ["project", "some", "others"] (fsp S_diff)) :
    Def P w K mg base 11 "slack_range" ["project", "task"] (fsp S_slackR) := by
  refine def_ok Rw sc_slack_range (fun ds R h => ?_) fun f cdv A outer s H E hr => ⟨_, (pss_one (ps_ret (pe_def Ddifference_of (hr.mono (by first | decide | omega)) (by rfl) (pa_cons (pv 0) (pa_cons (pe_def Dwhole_paths (hr.mono (by first | decide | omega)) (by rfl) (pa_cons (pv 0) pa_nil)) (pa_cons (pe_def Dthrough (hr.mono (by first | decide | omega)) (by rfl) (pa_cons (pv 0) (pa_cons (pv 1) pa_nil))) pa_nil)))))), fun ds R h => ?_⟩
  · obtain ⟨p, t, rfl, _⟩ := h; rfl
  · obtain ⟨p, t, rfl, ok, ht, rfl⟩ := h
    refine run_ret ?_
    walk_at "ev"
    refine ⟨_, ⟨p, rfl, ok, rfl⟩, ?_⟩
    rintro _ ⟨ps, rfl, hl, hq⟩
    walk_at "ev"
    refine ⟨_, ⟨p, t, rfl, ok, rfl⟩, ?_⟩
    rintro _ ⟨os, rfl, ol, oq⟩
    walk_at "ev"
    refine ⟨_, ⟨p, ps, os, rfl, ok, gp_whole ok hl hq, gp_thru ok ht ol oq, rfl⟩, ?_⟩
    rintro _ ⟨lo, hi, rfl, hr⟩
    refine ⟨lo, hi, rfl, (hr.congr hq oq).v fun d hd => ⟨_, _, en_spec ok (hd.nn ok), tv_spec ok (hd.nn ok) ht, rfl⟩⟩
abbrev S_distR : Spec := fun ds R => ∃ p i j, ds = [pjD p, .int (i : Nat), .int (j : Nat)] ∧ p.Ok ∧ i < p.ts.length ∧ j < p.ts.length ∧ R = RgD p (fun d => sv p d j - sv p d i)
abbrev N_distance_range : List Str := ["project", "i", "j"]
theorem sc_distance_range : FnScope N_distance_range ["project", "i", "j"] (defScope s_distance_range) := ⟨rfl, rfl, rfl, by decide +kernel, rfl, by decide +kernel, by decide +kernel⟩
theorem ok_distance_range (Rw : Raw K mg "distance_range" s_distance_range ["project", "i", "j"]) (B : Bl mg)
    (Dheads : Def P w K mg base 7 "heads" ["project", "task"] (fsp (S_heads 6)))
    (Ddifference_of : Def P w K mg base 4 "difference_of" ["project", "some", "others"] (fsp S_diff)) :
    Def P w K mg base 8 "distance_range" ["project", "i", "j"] (fsp S_distR) := by
  refine def_ok Rw sc_distance_range (fun ds R h => ?_) fun f cdv A outer s H E hr => ⟨_, (pss_one (ps_ret (pe_def Ddifference_of (hr.mono (by first | decide | omega)) (by rfl) (pa_cons (pv 0) (pa_cons (pe_def Dheads (hr.mono (by first | decide | omega)) (by rfl) (pa_cons (pv 0) (pa_cons (pv 2) pa_nil))) (pa_cons (pe_def Dheads (hr.mono (by first | decide | omega)) (by rfl) (pa_cons (pv 0) (pa_cons (pv 1) pa_nil))) pa_nil)))))), fun ds R h => ?_⟩
  · obtain ⟨p, i, j, rfl, _⟩ := h; rfl
  · obtain ⟨p, i, j, rfl, ok, hi, hj, rfl⟩ := h
    have h6 := ok.n6
    refine run_ret ?_
    walk_at "ev"
    refine ⟨_, ⟨p, j, rfl, ok, hj, by omega, rfl⟩, ?_⟩
    rintro _ ⟨ps, rfl, hl, hq⟩
    walk_at "ev"
    refine ⟨_, ⟨p, i, rfl, ok, hi, by omega, rfl⟩, ?_⟩
    rintro _ ⟨os, rfl, ol, oq⟩
    walk_at "ev"
    refine ⟨_, ⟨p, ps, os, rfl, ok, gp_heads ok hj hl hq, gp_heads ok hi ol oq, rfl⟩, ?_⟩
    rintro _ ⟨lo, hi, rfl, hr⟩
    refine ⟨lo, hi, rfl, (hr.congr hq oq).v fun d hd => ⟨_, _, sv_spec ok (hd.nn ok), sv_spec ok (hd.nn ok), rfl⟩⟩
/-- the same tasks -/
structure Twin (p o : Pr) : Prop where
  ok : p.Ok
  ok' : o.Ok
  ts : o.ts = p.ts
theorem Twin.dur {p o : Pr} (h : Twin p o) {d : List Int} (hd : Dur p d) : Dur o d := ⟨by rw [h.ts]; exact hd.l, by rw [h.ts]; exact hd.b⟩
theorem Twin.gp {p o : Pr} (h : Twin p o) {ps : List (List Nat)} (g : GP o ps) : GP p ps := ⟨g.ne, g.few, g.nd, by rw [← h.ts]; exact g.lt⟩
abbrev S_diffR : Spec := fun ds R => ∃ p o, ds = [pjD p, pjD o] ∧ Twin p o ∧ R = RgD p (fun d => enV p d - enV o d)
abbrev N_difference_range : List Str := ["project", "other"]
theorem sc_difference_range : FnScope N_difference_range ["project", "other"] (defScope s_difference_range) := ⟨rfl, rfl, rfl, by decide +kernel, rfl, by decide +kernel, by decide +kernel⟩
theorem ok_difference_range (Rw : Raw K mg "difference_range" s_difference_range ["project", "other"]) (B : Bl mg)
    (Dwhole_paths : Def P w K mg base 9 "whole_paths" ["project"] (fsp S_whole))
    (Ddifference_of : Def P w K mg base 4 "difference_of" ["project", "some", "others"] (fsp S_diff)) :
    Def P w K mg base 10 "difference_range" ["project", "other"] (fsp S_diffR) := by
  refine def_ok Rw sc_difference_range (fun ds R h => ?_) fun f cdv A outer s H E hr => ⟨_, (pss_one (ps_ret (pe_def Ddifference_of (hr.mono (by first | decide | omega)) (by rfl) (pa_cons (pv 0) (pa_cons (pe_def Dwhole_paths (hr.mono (by first | decide | omega)) (by rfl) (pa_cons (pv 0) pa_nil)) (pa_cons (pe_def Dwhole_paths (hr.mono (by first | decide | omega)) (by rfl) (pa_cons (pv 1) pa_nil)) pa_nil)))))), fun ds R h => ?_⟩
  · obtain ⟨p, o, rfl, _⟩ := h; rfl
  · obtain ⟨p, o, rfl, tw, rfl⟩ := h
    have ok := tw.ok
    refine run_ret ?_
    walk_at "ev"
    refine ⟨_, ⟨p, rfl, ok, rfl⟩, ?_⟩
    rintro _ ⟨ps, rfl, hl, hq⟩
    walk_at "ev"
    refine ⟨_, ⟨o, rfl, tw.ok', rfl⟩, ?_⟩
    rintro _ ⟨os, rfl, ol, oq⟩
    walk_at "ev"
    refine ⟨_, ⟨p, ps, os, rfl, ok, gp_whole ok hl hq, tw.gp (gp_whole tw.ok' ol oq), rfl⟩, ?_⟩
    rintro _ ⟨lo, hi, rfl, hr⟩
    refine ⟨lo, hi, rfl, (hr.congr hq oq).v fun d hd => ⟨_, _, en_spec ok (hd.nn ok), en_spec tw.ok' (hd.nn ok), rfl⟩⟩
/-! ### what is found -/
def FdD (p : Pr) (C : List Int → Prop) (x : PyData) : Prop := (x = .none ∧ ∀ d, Dur p d → ¬ C d) ∨ (∃ d, x = duD d ∧ Dur p d ∧ C d)
abbrev S_little : Spec := fun ds R => ∃ p t g, ds = [pjD p, .int (t : Nat), .int g] ∧ p.Ok ∧ t < p.ts.length ∧ R = FdD p (fun d => enV p d - tv p d t ≤ g)
abbrev N_find_little : List Str := ["project", "task", "g", "more", "durations"]
theorem sc_find_little : FnScope N_find_little ["project", "task", "g"] (defScope s_find_little) := ⟨rfl, rfl, rfl, by decide +kernel, rfl, by decide +kernel, by decide +kernel⟩
theorem ok_find_little (Rw : Raw K mg "find_little" s_find_little ["project", "task", "g"]) (B : Bl mg)
    (Dwhole_paths : Def P w K mg base 9 "whole_paths" ["project"] (fsp S_whole))
    (Dthrough : Def P w K mg base 10 "through" ["project", "task"] (fsp S_through))
    (Dgreatest : Def P w K mg base 3 "greatest" ["project", "some", "others"] (fsp S_greatest)) :
    Def P w K mg base 11 "find_little" ["project", "task", "g"] (fsp S_little) := by
  refine def_ok Rw sc_find_little (fun ds R h => ?_) fun f cdv A outer s H E hr => ⟨_, (pss_cons (ps_asg (pe_def Dgreatest (hr.mono (by first | decide | omega)) (by rfl) (pa_cons (pv 0) (pa_cons (pe_def Dthrough (hr.mono (by first | decide | omega)) (by rfl) (pa_cons (pv 0) (pa_cons (pv 1) pa_nil))) (pa_cons (pe_def Dwhole_paths (hr.mono (by first | decide | omega)) (by rfl) (pa_cons (pv 0) pa_nil)) pa_nil)))) (k_tup K rfl 2 rfl (pgs_cons (pg_name (i := 3) sc_find_little.nd rfl (Or.inl rfl)) (pgs_cons (pg_name (i := 4) sc_find_little.nd rfl (Or.inl rfl)) pgs_nil))))
      (pss_one (ps_ret (pe_ifExp (pt_cmpR op_le (pe_op op_sub pe_int (pv 3)) (pv 2) (nomark _)) (pv 4) pe_non)))), fun ds R h => ?_⟩
  · obtain ⟨p, t, g, rfl, _⟩ := h; rfl
  · obtain ⟨p, t, g, rfl, ok, ht, rfl⟩ := h
    refine run_seq (run_asg ?_)
    walk_at "ev"
    refine ⟨_, ⟨p, t, rfl, ok, rfl⟩, ?_⟩
    rintro _ ⟨ps, rfl, hl, hq⟩
    walk_at "ev"
    refine ⟨_, ⟨p, rfl, ok, rfl⟩, ?_⟩
    rintro _ ⟨os, rfl, ol, oq⟩
    walk_at "ev"
    refine ⟨_, ⟨p, ps, os, rfl, ok, gp_thru ok ht hl hq, gp_whole ok ol oq, rfl⟩, ?_⟩
    rintro _ ⟨b, c, rfl, hb⟩
    have hv : BestV p (fun d => tv p d t - enV p d) b c := (hb.congr hq oq).v fun d hd => ⟨_, _, tv_spec ok (hd.nn ok) ht, en_spec ok (hd.nn ok), rfl⟩
    refine tg_tup rfl (tgs_cons (tg_name (by decide) (tgs_cons (tg_name (by decide) (tgs_nil ?_)))))
    refine run_ret ?_
    walk_at "ev"
    refine ⟨_, rfl, ?_⟩
    by_cases hg : 0 - b ≤ g
    · rw [if_pos (by simpa using hg)]
      walk_at "ev"
      exact .inr ⟨c, rfl, hv.dur, by have := hv.at_; omega⟩
    · rw [if_neg (by simpa using hg)]
      walk_at "ev"
      exact .inl ⟨rfl, fun d hd hc => by have := hv.le d hd; omega⟩
abbrev S_much : Spec := fun ds R => ∃ p t g, ds = [pjD p, .int (t : Nat), .int g] ∧ p.Ok ∧ t < p.ts.length ∧ R = FdD p (fun d => ¬ enV p d - tv p d t ≤ g)
abbrev N_find_much : List Str := ["project", "task", "g", "more", "durations"]
theorem sc_find_much : FnScope N_find_much ["project", "task", "g"] (defScope s_find_much) := ⟨rfl, rfl, rfl, by decide +kernel, rfl, by decide +kernel, by decide +kernel⟩
theorem ok_find_much (Rw : Raw K mg "find_much" s_find_much ["project", "task", "g"]) (B : Bl mg)
    (Dwhole_paths : Def P w K mg base 9 "whole_paths" ["project"] (fsp S_whole))
    (Dthrough : Def P w K mg base 10 "through" ["project", "task"] (fsp S_through))
    (Dgreatest : Def P w K mg base 3 "greatest" ["project", "some", "others"] (fsp S_greatest)) :
    Def P w K mg base 11 "find_much" ["project", "task", "g"] (fsp S_much) := by
  refine def_ok Rw sc_find_much (fun ds R h => ?_) fun f cdv A outer s H E hr => ⟨_, (pss_cons (ps_asg (pe_def Dgreatest (hr.mono (by first | decide | omega)) (by rfl) (pa_cons (pv 0) (pa_cons (pe_def Dwhole_paths (hr.mono (by first | decide | omega)) (by rfl) (pa_cons (pv 0) pa_nil)) (pa_cons (pe_def Dthrough (hr.mono (by first | decide | omega)) (by rfl) (pa_cons (pv 0) (pa_cons (pv 1) pa_nil))) pa_nil)))) (k_tup K rfl 2 rfl (pgs_cons (pg_name (i := 3) sc_find_much.nd rfl (Or.inl rfl)) (pgs_cons (pg_name (i := 4) sc_find_much.nd rfl (Or.inl rfl)) pgs_nil))))
      (pss_one (ps_ret (pe_ifExp (pt_cmpR op_gt (pv 3) (pv 2) (nomark _)) (pv 4) pe_non)))), fun ds R h => ?_⟩
  · obtain ⟨p, t, g, rfl, _⟩ := h; rfl
  · obtain ⟨p, t, g, rfl, ok, ht, rfl⟩ := h
    refine run_seq (run_asg ?_)
    walk_at "ev"
    refine ⟨_, ⟨p, rfl, ok, rfl⟩, ?_⟩
    rintro _ ⟨os, rfl, ol, oq⟩
    walk_at "ev"
    refine ⟨_, ⟨p, t, rfl, ok, rfl⟩, ?_⟩
    rintro _ ⟨ps, rfl, hl, hq⟩
    walk_at "ev"
    refine ⟨_, ⟨p, os, ps, rfl, ok, gp_whole ok ol oq, gp_thru ok ht hl hq, rfl⟩, ?_⟩
    rintro _ ⟨b, c, rfl, hb⟩
    have hv : BestV p (fun d => enV p d - tv p d t) b c := (hb.congr oq hq).v fun d hd => ⟨_, _, en_spec ok (hd.nn ok), tv_spec ok (hd.nn ok) ht, rfl⟩
    refine tg_tup rfl (tgs_cons (tg_name (by decide) (tgs_cons (tg_name (by decide) (tgs_nil ?_)))))
    refine run_ret ?_
    walk_at "ev"
    refine ⟨_, rfl, ?_⟩
    by_cases hg : g < b
    · rw [if_pos (by simpa using hg)]
      walk_at "ev"
      exact .inr ⟨c, rfl, hv.dur, by have := hv.at_; omega⟩
    · rw [if_neg (by simpa using hg)]
      walk_at "ev"
      exact .inl ⟨rfl, fun d hd hc => by have := hv.le d hd; omega⟩
abbrev S_later : Spec := fun ds R => ∃ p o, ds = [pjD p, pjD o] ∧ Twin p o ∧ R = FdD p (fun d => 0 < enV p d - enV o d)
abbrev N_find_later : List Str := ["project", "other", "more", "durations"]
theorem sc_find_later : FnScope N_find_later ["project", "other"] (defScope s_find_later) := ⟨rfl, rfl, rfl, by decide +kernel, rfl, by decide +kernel, by decide +kernel⟩
theorem ok_find_later (Rw : Raw K mg "find_later" s_find_later ["project", "other"]) (B : Bl mg)
    (Dwhole_paths : Def P w K mg base 9 "whole_paths" ["project"] (fsp S_whole))
    (Dgreatest : Def P w K mg base 3 "greatest" ["project", "some", "others"] (fsp S_greatest)) :
    Def P w K mg base 10 "find_later" ["project", "other"] (fsp S_later) := by
  refine def_ok Rw sc_find_later (fun ds R h => ?_) fun f cdv A outer s H E hr => ⟨_, (pss_cons (ps_asg (pe_def Dgreatest (hr.mono (by first | decide | omega)) (by rfl) (pa_cons (pv 0) (pa_cons (pe_def Dwhole_paths (hr.mono (by first | decide | omega)) (by rfl) (pa_cons (pv 0) pa_nil)) (pa_cons (pe_def Dwhole_paths (hr.mono (by first | decide | omega)) (by rfl) (pa_cons (pv 1) pa_nil)) pa_nil)))) (k_tup K rfl 2 rfl (pgs_cons (pg_name (i := 2) sc_find_later.nd rfl (Or.inl rfl)) (pgs_cons (pg_name (i := 3) sc_find_later.nd rfl (Or.inl rfl)) pgs_nil))))
      (pss_one (ps_ret (pe_ifExp (pt_cmpR op_gt (pv 2) pe_int (nomark _)) (pv 3) pe_non)))), fun ds R h => ?_⟩
  · obtain ⟨p, o, rfl, _⟩ := h; rfl
  · obtain ⟨p, o, rfl, tw, rfl⟩ := h
    have ok := tw.ok
    refine run_seq (run_asg ?_)
    walk_at "ev"
    refine ⟨_, ⟨p, rfl, ok, rfl⟩, ?_⟩
    rintro _ ⟨ps, rfl, hl, hq⟩
    walk_at "ev"
    refine ⟨_, ⟨o, rfl, tw.ok', rfl⟩, ?_⟩
    rintro _ ⟨os, rfl, ol, oq⟩
    walk_at "ev"
    refine ⟨_, ⟨p, ps, os, rfl, ok, gp_whole ok hl hq, tw.gp (gp_whole tw.ok' ol oq), rfl⟩, ?_⟩
    rintro _ ⟨b, c, rfl, hb⟩
    have hv : BestV p (fun d => enV p d - enV o d) b c := (hb.congr hq oq).v fun d hd => ⟨_, _, en_spec ok (hd.nn ok), en_spec tw.ok' (hd.nn ok), rfl⟩
    refine tg_tup rfl (tgs_cons (tg_name (by decide) (tgs_cons (tg_name (by decide) (tgs_nil ?_)))))
    refine run_ret ?_
    walk_at "ev"
    refine ⟨_, rfl, ?_⟩
    by_cases hg : 0 < b
    · rw [if_pos (by simpa using hg)]
      walk_at "ev"
      exact .inr ⟨c, rfl, hv.dur, by have := hv.at_; omega⟩
    · rw [if_neg (by simpa using hg)]
      walk_at "ev"
      exact .inl ⟨rfl, fun d hd hc => by have := hv.le d hd; omega⟩
abbrev S_after : Spec := fun ds R => ∃ p i j, ds = [pjD p, .int (i : Nat), .int (j : Nat)] ∧ p.Ok ∧ i < p.ts.length ∧ j < p.ts.length ∧ R = FdD p (fun d => 0 < sv p d i - sv p d j)
abbrev N_find_after : List Str := ["project", "i", "j", "more", "durations"]
theorem sc_find_after : FnScope N_find_after ["project", "i", "j"] (defScope s_find_after) := ⟨rfl, rfl, rfl, by decide +kernel, rfl, by decide +kernel, by decide +kernel⟩
theorem ok_find_after (Rw : Raw K mg "find_after" s_find_after ["project", "i", "j"]) (B : Bl mg)
    (Dheads : Def P w K mg base 7 "heads" ["project", "task"] (fsp (S_heads 6)))
    (Dgreatest : Def P w K mg base 3 "greatest" ["project", "some", "others"] (fsp S_greatest)) :
    Def P w K mg base 8 "find_after" ["project", "i", "j"] (fsp S_after) := by
  refine def_ok Rw sc_find_after (fun ds R h => ?_) fun f cdv A outer s H E hr => ⟨_, (pss_cons (ps_asg (pe_def Dgreatest (hr.mono (by first | decide | omega)) (by rfl) (pa_cons (pv 0) (pa_cons (pe_def Dheads (hr.mono (by first | decide | omega)) (by rfl) (pa_cons (pv 0) (pa_cons (pv 1) pa_nil))) (pa_cons (pe_def Dheads (hr.mono (by first | decide | omega)) (by rfl) (pa_cons (pv 0) (pa_cons (pv 2) pa_nil))) pa_nil)))) (k_tup K rfl 2 rfl (pgs_cons (pg_name (i := 3) sc_find_after.nd rfl (Or.inl rfl)) (pgs_cons (pg_name (i := 4) sc_find_after.nd rfl (Or.inl rfl)) pgs_nil))))
      (pss_one (ps_ret (pe_ifExp (pt_cmpR op_gt (pv 3) pe_int (nomark _)) (pv 4) pe_non)))), fun ds R h => ?_⟩
  · obtain ⟨p, i, j, rfl, _⟩ := h; rfl
  · obtain ⟨p, i, j, rfl, ok, hi, hj, rfl⟩ := h
    have h6 := ok.n6
    refine run_seq (run_asg ?_)
    walk_at "ev"
    refine ⟨_, ⟨p, i, rfl, ok, hi, by omega, rfl⟩, ?_⟩
    rintro _ ⟨ps, rfl, hl, hq⟩
    walk_at "ev"
    refine ⟨_, ⟨p, j, rfl, ok, hj, by omega, rfl⟩, ?_⟩
    rintro _ ⟨os, rfl, ol, oq⟩
    walk_at "ev"
    refine ⟨_, ⟨p, ps, os, rfl, ok, gp_heads ok hi hl hq, gp_heads ok hj ol oq, rfl⟩, ?_⟩
    rintro _ ⟨b, c, rfl, hb⟩
    have hv : BestV p (fun d => sv p d i - sv p d j) b c := (hb.congr hq oq).v fun d hd => ⟨_, _, sv_spec ok (hd.nn ok), sv_spec ok (hd.nn ok), rfl⟩
    refine tg_tup rfl (tgs_cons (tg_name (by decide) (tgs_cons (tg_name (by decide) (tgs_nil ?_)))))
    refine run_ret ?_
    walk_at "ev"
    refine ⟨_, rfl, ?_⟩
    by_cases hg : 0 < b
    · rw [if_pos (by simpa using hg)]
      walk_at "ev"
      exact .inr ⟨c, rfl, hv.dur, by have := hv.at_; omega⟩
    · rw [if_neg (by simpa using hg)]
      walk_at "ev"
      exact .inl ⟨rfl, fun d hd hc => by have := hv.le d hd; omega⟩
noncomputable def dec (C : Prop) : Bool := @decide C (Classical.propDecidable C)
theorem dec_eq {C : Prop} : dec C = true ↔ C := by unfold dec; exact @decide_eq_true_iff C (Classical.propDecidable C)
theorem dec_of {C : Prop} (h : C) : dec C = true := dec_eq.mpr h
theorem dec_not {C : Prop} (h : ¬ C) : dec C = false := by
  cases q : dec C with
  | false => rfl
  | true => exact absurd (dec_eq.mp q) h
/-- nothing is found -/
def noneB : PyData → Bool := fun d => match d with | .none => true | _ => false
theorem FdD.isNone {p : Pr} {C : List Int → Prop} {x : PyData} (h : FdD p C x) : noneB x = dec (∀ d, Dur p d → ¬ C d) := by
  rcases h with ⟨rfl, h⟩ | ⟨d, rfl, h1, h2⟩
  · exact (dec_of h).symm
  · exact (dec_not fun h => h d h1 h2).symm
abbrev S_nlater : Spec := fun ds R => ∃ p o, ds = [pjD p, pjD o] ∧ Twin p o ∧ R = (· = .bool (dec (∀ d, Dur p d → ¬ 0 < enV p d - enV o d)))
abbrev N_never_later : List Str := ["project", "other"]
theorem sc_never_later : FnScope N_never_later ["project", "other"] (defScope s_never_later) := ⟨rfl, rfl, rfl, by decide +kernel, rfl, by decide +kernel, by decide +kernel⟩
theorem ok_never_later (Rw : Raw K mg "never_later" s_never_later ["project", "other"]) (B : Bl mg)
    (Dfind_later : Def P w K mg base 10 "find_later" ["project", "other"] (fsp S_later)) :
    Def P w K mg base 11 "never_later" ["project", "other"] (fsp S_nlater) := by
  refine def_ok Rw sc_never_later (fun ds R h => ?_) fun f cdv A outer s H E hr => ⟨_, (pss_one (ps_ret (pe_cmp (pc_isN (pe_def Dfind_later (hr.mono (by first | decide | omega)) (by rfl) (pa_cons (pv 0) (pa_cons (pv 1) pa_nil)))) rfl))), fun ds R h => ?_⟩
  · obtain ⟨p, o, rfl, _⟩ := h; rfl
  · obtain ⟨p, o, rfl, tw, rfl⟩ := h
    refine run_ret ?_
    walk_at "ev"
    refine ⟨_, ⟨p, o, rfl, tw, rfl⟩, ?_⟩
    intro x hx
    exact congrArg PyData.bool hx.isNone
abbrev S_nafter : Spec := fun ds R => ∃ p i j, ds = [pjD p, .int (i : Nat), .int (j : Nat)] ∧ p.Ok ∧ i < p.ts.length ∧ j < p.ts.length ∧ R = (· = .bool (dec (∀ d, Dur p d → ¬ 0 < sv p d i - sv p d j)))
abbrev N_never_after : List Str := ["project", "i", "j"]
theorem sc_never_after : FnScope N_never_after ["project", "i", "j"] (defScope s_never_after) := ⟨rfl, rfl, rfl, by decide +kernel, rfl, by decide +kernel, by decide +kernel⟩
theorem ok_never_after (Rw : Raw K mg "never_after" s_never_after ["project", "i", "j"]) (B : Bl mg)
    (Dfind_after : Def P w K mg base 8 "find_after" ["project", "i", "j"] (fsp S_after)) :
    Def P w K mg base 9 "never_after" ["project", "i", "j"] (fsp S_nafter) := by
  refine def_ok Rw sc_never_after (fun ds R h => ?_) fun f cdv A outer s H E hr => ⟨_, (pss_one (ps_ret (pe_cmp (pc_isN (pe_def Dfind_after (hr.mono (by first | decide | omega)) (by rfl) (pa_cons (pv 0) (pa_cons (pv 1) (pa_cons (pv 2) pa_nil))))) rfl))), fun ds R h => ?_⟩
  · obtain ⟨p, i, j, rfl, _⟩ := h; rfl
  · obtain ⟨p, i, j, rfl, ok, hi, hj, rfl⟩ := h
    refine run_ret ?_
    walk_at "ev"
    refine ⟨_, ⟨p, i, j, rfl, ok, hi, hj, rfl⟩, ?_⟩
    intro x hx
    exact congrArg PyData.bool hx.isNone
end
end AC
set_option Elab.async false
set_option linter.all false
set_option maxRecDepth 100000
set_option maxHeartbeats 1000000
namespace AC
open PySem PySem.Spec PyProof.Rows L2
local macro_rules | `(tactic| walk_at "sh") => `(tactic| first | exact sh_int | exact sh_bool | exact sh_none | exact okd_du.sh (by decide) | exact okd_li.sh (by decide) | exact okd_pt.sh (by decide) | exact okd_ar.sh (by decide) | exact okd_ps.sh (by decide) | exact okd_na.sh (by decide) | exact (okd_tup (okd_map fun _ _ => okd_int)).sh (by decide) | exact (okd_tup (okd_map fun _ _ => okd_ar)).sh (by decide) | exact (okd_lst (okd_map fun _ _ => okd_du)).sh (by decide) | exact (okd_lst (okd_map fun _ _ => okd_ar)).sh (by decide))
local macro_rules | `(tactic| walk_at "e1") => `(tactic| first | with_reducible refine ev_int ?_ | with_reducible refine ev_non ?_ | with_reducible refine ev_bl ?_ | with_reducible refine ev_str ?_ | with_reducible refine ea_nil ?_ | with_reducible refine ea_cons ?_ | with_reducible refine ev_op ?_ | with_reducible refine ev_call ?_ | with_reducible refine ev_cb ?_ | with_reducible refine ev_tup ?_ | with_reducible refine ev_if ?_ | with_reducible refine et_test ?_ | with_reducible refine et_B ?_ | with_reducible refine ev_isN ?_ | with_reducible refine ev_notN ?_ | with_reducible refine ev_un ?_ | with_reducible refine ev_chain ?_ | with_reducible refine ev_andV ?_ | with_reducible refine ev_orV ?_ | with_reducible refine ev_notV ?_ | with_reducible refine et_and ?_ | with_reducible refine et_or ?_ | with_reducible refine et_not ?_ | refine ev_var rfl ?_ | refine od_add ?_ | refine od_I0 (fun _ => .int _) ?_ | refine od_I0 (fun _ => .bl _) ?_ | refine od_ixT at_0 ?_ | refine od_ixT at_1 ?_)
local macro_rules | `(tactic| walk_at "ev") => `(tactic| (walk_at "e1"; repeat walk_at "e1"))

section
variable {P : Program} {w : World} {K : PySem.W.Frag} {mg : Str → Option Value} {base : Heap}
theorem flat_int {i : Int} : flat (.int i) = true := rfl
theorem flat_ints : ∀ l : List Int, flatAll (l.map PyData.int) = true
  | [] => rfl
  | a :: l => flat_ints l
theorem flat_du {d : List Int} : flat (duD d) = true := flat_ints d
theorem getD_some {d : List Int} {i : Nat} (h : i < d.length) : d[i]? = some (d.getD i 0) := by
  rw [List.getD_eq_getElem?_getD, List.getElem?_eq_getElem h]
  rfl
theorem du_get {d : List Int} {i : Nat} (h : i < d.length) : (d.map PyData.int)[i]? = some (.int (d.getD i 0)) := by
  rw [List.getElem?_map, getD_some h]
  rfl
theorem du_set {d : List Int} {i : Nat} {v : Int} : (d.map PyData.int).set i (.int v) = (d.set i v).map PyData.int := (List.map_set).symm
theorem ixN_cast {n j : Nat} (hj : j < n) : ixN n (j : Int) = some j := by
  unfold ixN
  rw [if_pos (by omega), if_pos (by omega)]
  simp
abbrev S_walk : Spec := fun ds R => ∃ p a b, ds = [duD a, duD b] ∧ p.Ok ∧ Dur p a ∧ Dur p b ∧ R = fun x => ∃ L, x = .list (L.map duD) ∧ Wk p a L b
theorem cast_at {b : List Int} {i : Nat} {d : PyData} (h : (enumD (b.map PyData.int))[i]? = some d) : i < b.length ∧ d = .tuple [.int (i : Nat), .int (b.getD i 0)] := by
  obtain ⟨x, h1, rfl⟩ := enumD_get h
  obtain ⟨c, hc, rfl⟩ := get_map h1
  have hl := (List.getElem?_eq_some_iff.mp hc).1
  rw [getD_some hl] at hc
  cases hc
  exact ⟨hl, rfl⟩
abbrev N_walk : List Str := ["first", "last", "found", "here", "task", "goal"]
theorem sc_walk : FnScope N_walk ["first", "last"] (defScope s_walk) := ⟨rfl, rfl, rfl, by decide +kernel, rfl, by decide +kernel, by decide +kernel⟩
theorem ok_walk (Rw : Raw K mg "walk" s_walk ["first", "last"]) (B : Bl mg) :
    Def P w K mg base 1 "walk" ["first", "last"] (fsp S_walk) := by
  refine def_ok Rw sc_walk (fun ds R h => ?_) fun f cdv A outer s H E hr => ⟨_, (pss_cons (ps_par (i := 2) (j := 3) rfl sc_walk.nd rfl rfl (by decide) rfl rfl (pa_cons (pe_lst (pa_cons (pv 0) pa_nil)) (pa_cons (pe_callTy (k_list K rfl) (by rfl) B.list bb_list (pa_cons (pv 0) pa_nil)) pa_nil)) (by rfl))
      (pss_cons (ps_for PassesOwn.never rfl (k_enumT K rfl (by rfl) B.enumerate (pa_cons (pv 1) pa_nil)) (k_tup K rfl 2 rfl (pgs_cons (pg_name (i := 4) sc_walk.nd rfl (Or.inl rfl)) (pgs_cons (pg_name (i := 5) sc_walk.nd rfl (Or.inl rfl)) pgs_nil))) (pss_one (ps_while PassesOwn.never (pt_cmpR (k_ne K rfl hr.units) (pe_ix (k_ix K rfl) (pv 3) (pv 4) (fun _ _ => rfl)) (pv 5) (nomark _)) (pss_cons (ps_augS (pv 3) (pv 4) (k_get K rfl) (pe_ifExp (pt_cmpR op_lt (pe_ix (k_ix K rfl) (pv 3) (pv 4) (fun _ _ => rfl)) (pv 5) (nomark _)) pe_int (pe_op op_sub pe_int pe_int)) ip_add set_list)
      (pss_one (ps_expr (k_bm K rfl PySem.F.plainAttrs_list PySem.F.slot_list_append PySem.F.type_list_append mt_append (pv 2) (pa_cons (pe_callTy (k_tuple K rfl) (by rfl) B.tuple bb_tuple (pa_cons (pv 3) pa_nil)) pa_nil))))))))
      (pss_one (ps_ret (pv 2))))), fun ds R h => ?_⟩
  · obtain ⟨p, a, b, rfl, _⟩ := h; rfl
  · obtain ⟨p, a, b, rfl, ok, ha, hb, rfl⟩ := h
    have h6 := ok.n6
    have la := ha.l
    have lb := hb.l
    refine run_seq (run_parLL ?_)
    refine ev_lst ?_
    walk_at "ev"
    refine ⟨by simp, ev_cbL ?_⟩
    walk_at "ev"
    refine cl_lstT ?_
    refine run_seq (run_for (ei_enumT ?_))
    walk_at "ev"
    refine ⟨_, rfl, fun i ρ n => n = 0 ∧ ∃ h L s4 s5, ρ = [.dat (duD a), .dat (duD b), .own (L.map duD), .own (h.map PyData.int), s4, s5] ∧ Dur p h ∧ Wk p a L h ∧ (∀ j, j < i → h.getD j 0 = b.getD j 0) ∧ L.length ≤ 1 + 3 * i,
      ⟨rfl, a, [a], _, _, rfl, ha, ⟨fun d hd => by have : d = a := by simpa using hd
                                                   rw [this]; exact ha, trivial, by simp, rfl⟩, fun j hj => absurd hj (Nat.not_lt_zero j), by simp⟩, ?_, ?_⟩
    · rintro i d ρ n hd ⟨rfl, h, L, s4, s5, rfl, hh, hw, hj, hL⟩
      obtain ⟨hi, rfl⟩ := cast_at hd
      obtain ⟨bd, hbd⟩ : ∃ bd, p.ts[i]? = some bd := ⟨_, List.getElem?_eq_getElem (by omega)⟩
      have okb := ok.bd bd (List.mem_of_getElem? hbd)
      have hg := hb.b i bd hbd
      refine tg_tup rfl (tgs_cons (tg_name (by decide) (tgs_cons (tg_name (by decide) (tgs_nil ?_)))))
      refine run_while (fun m ρ n => n = 0 ∧ ∃ h L, ρ = [.dat (duD a), .dat (duD b), .own (L.map duD), .own (h.map PyData.int), .dat (.int (i : Nat)), .dat (.int (b.getD i 0))] ∧ Dur p h ∧ Wk p a L h ∧ (∀ j, j < i → h.getD j 0 = b.getD j 0) ∧
        L.length + m ≤ 1 + 3 * (i + 1) ∧ (h.getD i 0 - b.getD i 0).natAbs = m) (h.getD i 0 - b.getD i 0).natAbs ⟨rfl, h, L, rfl, hh, hw, hj, ?_, rfl⟩ ?_
      · have := hh.b i bd hbd
        omega
      · rintro m ρ n ⟨rfl, h, L, rfl, hh, hw, hj, hL, hm⟩
        have hhi := hh.b i bd hbd
        have lh := hh.l
        have hil : i < h.length := by omega
        refine et_test ?_
        refine ev_frz ?_
        walk_at "ev"
        refine od_ixL (i := (i : Nat)) (atI_nat (du_get hil)) ?_
        walk_at "ev"
        refine od_neD sh_int sh_int ⟨rfl, _, rfl, ?_⟩
        rw [eqv_int]
        by_cases he : h.getD i 0 = b.getD i 0
        · rw [decide_eq_true he, if_neg (by decide)]
          refine ⟨rfl, h, L, _, _, rfl, hh, hw, fun j hjl => ?_, by omega⟩
          by_cases z : j = i
          · rw [z]; exact he
          · exact hj j (by omega)
        · rw [decide_eq_false he, if_pos (by decide)]
          have stp : ∀ v : Int, (v = 1 ∧ h.getD i 0 < b.getD i 0) ∨ (v = -1 ∧ b.getD i 0 < h.getD i 0) →
              Run none (tDrop (tBM K "list" rAppend (tVar 2) (tCons (tCB (rTupQ K) (tCons (tVar 3) tNil)) tNil))) [.dat (duD a), .dat (duD b), .own (L.map duD), .own ((h.set i (h.getD i 0 + v)).map PyData.int), .dat (.int (i : Nat)), .dat (.int (b.getD i 0))] 0
                (fun ρ2 n3 => ∃ m', m' < m ∧ (n3 = 0 ∧ ∃ h L, ρ2 = [.dat (duD a), .dat (duD b), .own (L.map duD), .own (h.map PyData.int), .dat (.int (i : Nat)), .dat (.int (b.getD i 0))] ∧ Dur p h ∧ Wk p a L h ∧ (∀ j, j < i → h.getD j 0 = b.getD j 0) ∧ L.length + m' ≤ 1 + 3 * (i + 1) ∧ (h.getD i 0 - b.getD i 0).natAbs = m'))
                (fun d _ => ∃ L, d = .list (L.map duD) ∧ Wk p a L b) (fun ρ' n' => n' = 0 ∧ ∃ h L s4 s5, ρ' = [.dat (duD a), .dat (duD b), .own (L.map duD), .own (h.map PyData.int), s4, s5] ∧ Dur p h ∧ Wk p a L h ∧ (∀ j, j < i + 1 → h.getD j 0 = b.getD j 0) ∧ L.length ≤ 1 + 3 * (i + 1))
                (fun ρ2 n3 => ∃ m', m' < m ∧ (n3 = 0 ∧ ∃ h L, ρ2 = [.dat (duD a), .dat (duD b), .own (L.map duD), .own (h.map PyData.int), .dat (.int (i : Nat)), .dat (.int (b.getD i 0))] ∧ Dur p h ∧ Wk p a L h ∧ (∀ j, j < i → h.getD j 0 = b.getD j 0) ∧ L.length + m' ≤ 1 + 3 * (i + 1) ∧ (h.getD i 0 - b.getD i 0).natAbs = m')) := by
            intro v hv
            have hd2 : Dur p (h.set i (h.getD i 0 + v)) := hh.set hbd (by omega) (by omega)
            have hn : Near h (h.set i (h.getD i 0 + v)) := by
              rcases hv with ⟨rfl, _⟩ | ⟨rfl, _⟩
              · exact near_up hil
              · exact near_down hil
            refine run_app rfl (ev_frz ?_)
            walk_at "ev"
            refine cb_tupL ⟨flat_du (d := h.set i (h.getD i 0 + v)), by rw [List.length_map]; omega, ((h.getD i 0 + v) - b.getD i 0).natAbs, by omega, rfl, h.set i (h.getD i 0 + v), L ++ [h.set i (h.getD i 0 + v)], ?_, hd2, hw.snoc hd2 hn, fun j hjl => ?_, ?_, ?_⟩
            · rw [List.map_append]
              rfl
            · rw [set_ne' (by omega)]
              exact hj j hjl
            · rw [List.length_append]
              show L.length + 1 + _ ≤ _
              omega
            · rw [set_at hil]
          refine run_seq (run_augI rfl ?_)
          walk_at "ev"
          refine ⟨_, i, _, rfl, ixN_cast (by rw [List.length_map]; exact hil), du_get hil, ?_⟩
          refine ev_frz ?_
          walk_at "ev"
          refine od_ixL (i := (i : Nat)) (atI_nat (du_get hil)) ?_
          walk_at "ev"
          refine ⟨_, rfl, ?_⟩
          by_cases hlt : h.getD i 0 < b.getD i 0
          · rw [if_pos (by simpa using hlt)]
            walk_at "ev"
            refine ⟨rfl, 1, rfl, ?_⟩
            have := stp 1 (.inl ⟨rfl, hlt⟩)
            rw [← du_set] at this
            exact this
          · rw [if_neg (by simpa using hlt)]
            walk_at "ev"
            refine ⟨rfl, -1, rfl, ?_⟩
            have := stp (-1) (.inr ⟨rfl, by omega⟩)
            rw [← du_set] at this
            exact this
    · rintro ρ n ⟨rfl, h, L, s4, s5, rfl, hh, hw, hj, hL⟩
      rw [enumD_len, List.length_map] at hj
      have hhb : h = b := by
        refine List.ext_getElem (by have := hh.l; omega) fun i h1 h2 => ?_
        have := hj i h2
        rw [List.getD_eq_getElem?_getD, List.getElem?_eq_getElem h1, List.getD_eq_getElem?_getD, List.getElem?_eq_getElem h2] at this
        exact this
      subst hhb
      refine run_ret (ev_var rfl ⟨L, rfl, hw⟩)
end
end AC
set_option Elab.async false
set_option linter.all false
set_option maxRecDepth 100000
set_option maxHeartbeats 1000000
namespace AC
open PySem PySem.Spec PyProof.Rows L2
local macro_rules | `(tactic| walk_at "sh") => `(tactic| first | exact sh_int | exact sh_bool | exact sh_none | exact okd_du.sh (by decide) | exact okd_li.sh (by decide) | exact okd_pt.sh (by decide) | exact okd_ar.sh (by decide) | exact okd_ps.sh (by decide) | exact okd_na.sh (by decide) | exact (okd_tup (okd_map fun _ _ => okd_int)).sh (by decide) | exact (okd_tup (okd_map fun _ _ => okd_ar)).sh (by decide) | exact (okd_lst (okd_map fun _ _ => okd_du)).sh (by decide) | exact (okd_lst (okd_map fun _ _ => okd_ar)).sh (by decide))
local macro_rules | `(tactic| walk_at "e1") => `(tactic| first | with_reducible refine ev_int ?_ | with_reducible refine ev_non ?_ | with_reducible refine ev_bl ?_ | with_reducible refine ev_str ?_ | with_reducible refine ea_nil ?_ | with_reducible refine ea_cons ?_ | with_reducible refine ev_op ?_ | with_reducible refine ev_call ?_ | with_reducible refine ev_cb ?_ | with_reducible refine ev_tup ?_ | with_reducible refine ev_if ?_ | with_reducible refine et_test ?_ | with_reducible refine et_B ?_ | with_reducible refine ev_isN ?_ | with_reducible refine ev_notN ?_ | with_reducible refine ev_un ?_ | with_reducible refine ev_chain ?_ | with_reducible refine ev_andV ?_ | with_reducible refine ev_orV ?_ | with_reducible refine ev_notV ?_ | with_reducible refine et_and ?_ | with_reducible refine et_or ?_ | with_reducible refine et_not ?_ | refine ev_var rfl ?_ | refine od_add ?_ | refine od_I0 (fun _ => .int _) ?_ | refine od_I0 (fun _ => .bl _) ?_ | refine od_ixT at_0 ?_ | refine od_ixT at_1 ?_)
local macro_rules | `(tactic| walk_at "ev") => `(tactic| (walk_at "e1"; repeat walk_at "e1"))

section
variable {P : Program} {w : World} {K : PySem.W.Frag} {mg : Str → Option Value} {base : Heap}
theorem GP.nd' {p : Pr} {ps : List (List Nat)} (g : GP p ps) : ∀ q, q ∈ ps → q.Nodup := g.nd
abbrev S_fslack : Spec := fun ds R => ∃ p t s, ds = [pjD p, .int (t : Nat), .int s] ∧ p.Ok ∧ t < p.ts.length ∧ R = FdD p (fun d => enV p d - tv p d t = s)
abbrev N_find_slack : List Str := ["project", "task", "slack", "paths", "some", "less", "first", "more", "last", "durations"]
theorem sc_find_slack : FnScope N_find_slack ["project", "task", "slack"] (defScope s_find_slack) := ⟨rfl, rfl, rfl, by decide +kernel, rfl, by decide +kernel, by decide +kernel⟩
theorem ok_find_slack (Rw : Raw K mg "find_slack" s_find_slack ["project", "task", "slack"]) (B : Bl mg)
    (Dwhole_paths : Def P w K mg base 9 "whole_paths" ["project"] (fsp S_whole))
    (Dthrough : Def P w K mg base 10 "through" ["project", "task"] (fsp S_through))
    (Dgreatest : Def P w K mg base 3 "greatest" ["project", "some", "others"] (fsp S_greatest))
    (Dlongest : Def P w K mg base 2 "longest" ["durations", "paths"] (fsp S_longest))
    (Dwalk : Def P w K mg base 1 "walk" ["first", "last"] (fsp S_walk)) :
    Def P w K mg base 11 "find_slack" ["project", "task", "slack"] (fsp S_fslack) := by
  refine def_ok Rw sc_find_slack (fun ds R h => ?_) fun f cdv A outer s H E hr => ⟨_, (pss_cons (ps_par (i := 3) (j := 4) rfl sc_find_slack.nd rfl rfl (by decide) rfl rfl (pa_cons (pe_def Dwhole_paths (hr.mono (by first | decide | omega)) (by rfl) (pa_cons (pv 0) pa_nil)) (pa_cons (pe_def Dthrough (hr.mono (by first | decide | omega)) (by rfl) (pa_cons (pv 0) (pa_cons (pv 1) pa_nil))) pa_nil)) (by rfl))
      (pss_cons (ps_asg (pe_def Dgreatest (hr.mono (by first | decide | omega)) (by rfl) (pa_cons (pv 0) (pa_cons (pv 4) (pa_cons (pv 3) pa_nil)))) (k_tup K rfl 2 rfl (pgs_cons (pg_name (i := 5) sc_find_slack.nd rfl (Or.inl rfl)) (pgs_cons (pg_name (i := 6) sc_find_slack.nd rfl (Or.inl rfl)) pgs_nil))))
      (pss_cons (ps_asg (pe_def Dgreatest (hr.mono (by first | decide | omega)) (by rfl) (pa_cons (pv 0) (pa_cons (pv 3) (pa_cons (pv 4) pa_nil)))) (k_tup K rfl 2 rfl (pgs_cons (pg_name (i := 7) sc_find_slack.nd rfl (Or.inl rfl)) (pgs_cons (pg_name (i := 8) sc_find_slack.nd rfl (Or.inl rfl)) pgs_nil))))
      (pss_cons (ps_if (pt_not (pt_chain op_le op_le (pe_op op_sub pe_int (pv 5)) (pv 2) (pv 7))) (pss_one (ps_ret pe_non)) pss_nil)
      (pss_cons (ps_for PassesOwn.never rfl (k_seq K rfl (pe_def Dwalk (hr.mono (by first | decide | omega)) (by rfl) (pa_cons (pv 6) (pa_cons (pv 8) pa_nil)))) (pg_name (i := 9) sc_find_slack.nd rfl (Or.inl rfl)) (pss_one (ps_if (pt_cmpR (k_eq K rfl hr.units) (pe_op op_sub (pe_def Dlongest (hr.mono (by first | decide | omega)) (by rfl) (pa_cons (pv 9) (pa_cons (pv 3) pa_nil))) (pe_def Dlongest (hr.mono (by first | decide | omega)) (by rfl) (pa_cons (pv 9) (pa_cons (pv 4) pa_nil)))) (pv 2) (nomark _)) (pss_one (ps_ret (pv 9))) pss_nil)))
      (pss_one (ps_ret pe_non))))))), fun ds R h => ?_⟩
  · obtain ⟨p, t, s, rfl, _⟩ := h; rfl
  · obtain ⟨p, t, s, rfl, ok, ht, rfl⟩ := h
    refine run_seq (run_par ?_)
    walk_at "ev"
    refine ⟨_, ⟨p, rfl, ok, rfl⟩, ?_⟩
    rintro _ ⟨ps, rfl, hl, hq⟩
    walk_at "ev"
    refine ⟨_, ⟨p, t, rfl, ok, rfl⟩, ?_⟩
    rintro _ ⟨os, rfl, ol, oq⟩
    have gp := gp_whole ok hl hq
    have go := gp_thru ok ht ol oq
    have hv1 : ∀ d, Dur p d → MaxP (· ∈ ps) (AC.len d) (enV p d) := fun d hd => (en_spec ok (hd.nn ok)).congr (fun q => (hq q).symm) fun _ _ => rfl
    have hv2 : ∀ d, Dur p d → MaxP (· ∈ os) (AC.len d) (tv p d t) := fun d hd => (tv_spec ok (hd.nn ok) ht).congr (fun q => (oq q).symm) fun _ _ => rfl
    refine run_seq (run_asg ?_)
    walk_at "ev"
    refine ⟨_, ⟨p, os, ps, rfl, ok, go, gp, rfl⟩, ?_⟩
    rintro _ ⟨b1, c1, rfl, hb1⟩
    have k1 : BestV p (fun d => tv p d t - enV p d) b1 c1 := hb1.v fun d hd => ⟨_, _, hv2 d hd, hv1 d hd, rfl⟩
    refine tg_tup rfl (tgs_cons (tg_name (by decide) (tgs_cons (tg_name (by decide) (tgs_nil ?_)))))
    refine run_seq (run_asg ?_)
    walk_at "ev"
    refine ⟨_, ⟨p, ps, os, rfl, ok, gp, go, rfl⟩, ?_⟩
    rintro _ ⟨b2, c2, rfl, hb2⟩
    have k2 : BestV p (fun d => enV p d - tv p d t) b2 c2 := hb2.v fun d hd => ⟨_, _, hv1 d hd, hv2 d hd, rfl⟩
    refine tg_tup rfl (tgs_cons (tg_name (by decide) (tgs_cons (tg_name (by decide) (tgs_nil ?_)))))
    refine run_seq (run_if (et_not ?_))
    walk_at "ev"
    refine ⟨decide (0 - b1 ≤ s), od_I0 (fun _ => .bl _) rfl, ?_⟩
    have out : ¬ (0 - b1 ≤ s ∧ s ≤ b2) → Run none (tRet (tC .non)) [.dat (pjD p), .dat (.int (t : Nat)), .dat (.int s), .dat (psD ps), .dat (psD os), .dat (.int b1), .dat (duD c1), .dat (.int b2), .dat (duD c2), .un] 0 (fun _ _ => False) (fun d _ => FdD p (fun d => enV p d - tv p d t = s) d) (fun _ _ => False) (fun _ _ => False) := fun hn => by
      refine run_ret (ev_non (.inl ⟨rfl, fun d hd hc => hn ?_⟩))
      have := k1.le d hd
      have := k2.le d hd
      omega
    by_cases h1 : 0 - b1 ≤ s
    · rw [if_pos (by simpa using h1)]
      walk_at "ev"
      refine ⟨_, rfl, ?_⟩
      by_cases h2 : s ≤ b2
      · rw [if_neg (by simpa using h2)]
        refine run_next ?_
        refine run_seq (run_forA duD (ei_list ?_))
        walk_at "ev"
        refine ⟨_, ⟨p, c1, c2, rfl, ok, k1.dur, k2.dur, rfl⟩, ?_⟩
        rintro _ ⟨L, rfl, hw⟩
        have k1a := k1.at_
        have k2a := k2.at_
        obtain ⟨d0, hd0, e0⟩ := walk_meets hw gp.nd' go.nd' (v := fun d => enV p d - tv p d t) (fun d hd => ⟨_, _, hv1 d hd, hv2 d hd, rfl⟩) (s := s) (by show enV p c1 - tv p c1 t ≤ s; omega) (by show s ≤ enV p c2 - tv p c2 t; omega)
        refine ⟨_, rfl, L, rfl, fun i ρ n => n = 0 ∧ (∃ s9, ρ = [.dat (pjD p), .dat (.int (t : Nat)), .dat (.int s), .dat (psD ps), .dat (psD os), .dat (.int b1), .dat (duD c1), .dat (.int b2), .dat (duD c2), s9]) ∧ ∀ d ∈ L.take i, enV p d - tv p d t ≠ s, ⟨rfl, ⟨_, rfl⟩, fun d hd => (by cases hd)⟩, ?_, ?_⟩
        · rintro i d ρ n hd ⟨rfl, ⟨s9, rfl⟩, hn⟩
          have hdm : Dur p d := hw.dur d (List.mem_of_getElem? hd)
          have hlt : ∀ {qs}, GP p qs → ∀ q ∈ qs, (∀ e ∈ q, e < d.length) ∧ q.length ≤ 1000 := fun g q hq => ⟨by rw [hdm.l]; exact g.lt q hq, g.len ok q hq⟩
          refine tg_name (by decide) ?_
          refine run_if ?_
          walk_at "ev"
          refine ⟨_, ⟨d, ps, rfl, gp.ne, gp.few, hlt gp, rfl⟩, ?_⟩
          rintro _ ⟨m1, rfl, hm1⟩
          walk_at "ev"
          refine ⟨_, ⟨d, os, rfl, go.ne, go.few, hlt go, rfl⟩, ?_⟩
          rintro _ ⟨m2, rfl, hm2⟩
          have e1 := hm1.uniq (hv1 d hdm)
          have e2 := hm2.uniq (hv2 d hdm)
          walk_at "ev"
          refine od_eqD sh_int sh_int ⟨_, rfl, ?_⟩
          rw [eqv_int]
          by_cases he : m1 - m2 = s
          · rw [if_pos (decide_eq_true he)]
            refine run_ret (ev_var rfl (.inr ⟨d, rfl, hdm, ?_⟩))
            show enV p d - tv p d t = s
            omega
          · rw [if_neg (by rw [decide_eq_true_iff]; exact he)]
            refine run_next ⟨rfl, ⟨_, rfl⟩, fun z hz => ?_⟩
            rw [take_succ hd] at hz
            rcases List.mem_append.mp hz with hz | hz
            · exact hn z hz
            · have : z = d := by simpa using hz
              subst this
              omega
        · rintro ρ n ⟨rfl, ⟨s9, rfl⟩, hn⟩
          rw [List.take_length] at hn
          exact absurd e0 (hn d0 hd0)
      · rw [if_pos (by simpa using h2)]
        exact (out fun z => h2 z.2).imp (fun _ _ z => z.elim) fun _ _ z => z
    · rw [if_neg (by simpa using h1)]
      refine ⟨_, rfl, ?_⟩
      rw [if_pos (by decide)]
      exact (out fun z => h1 z.1).imp (fun _ _ z => z.elim) fun _ _ z => z
abbrev S_without : Spec := fun ds R => ∃ p a, ds = [pjD p, arD a] ∧ p.Ok ∧ R = (· = pjD (cut p a))
abbrev N_without : List Str := ["project", "arrow", "one"]
theorem sc_without : FnScope N_without ["project", "arrow"] (defScope s_without) := ⟨rfl, rfl, rfl, by decide +kernel, rfl, by decide +kernel, by decide +kernel⟩
theorem ok_without (Rw : Raw K mg "without" s_without ["project", "arrow"]) (B : Bl mg) :
    Def P w K mg base 1 "without" ["project", "arrow"] (fsp S_without) := by
  refine def_ok Rw sc_without (fun ds R h => ?_) fun f cdv A outer s H E hr => ⟨_, (pss_one (ps_ret (pe_tup (pa_cons (pe_ix (k_ix K rfl) (pv 0) pe_int (fun _ _ => rfl)) (pa_cons (pe_callTy (k_tuple K rfl) (by rfl) B.tuple bb_tuple (pa_cons (pe_lc rfl sc_without.nd (k_seq K rfl (pe_ix (k_ix K rfl) (pv 0) pe_int (fun _ _ => rfl))) (blkOk_by (own := [("one", 2)]) (N := N_without) (sc := defScope s_without) (by decide +kernel)) (fun _ _ _ _ _ => (pg_name (i := 2) sc_without.nd rfl (Or.inl rfl))) (fun _ _ _ _ _ => pts_one (pt_cmpR (k_ne K rfl hr.units) (pv 2) (pv 1) (nomark _))) (fun _ _ _ _ _ => (pv 2))) pa_nil)) pa_nil))))), fun ds R h => ?_⟩
  · obtain ⟨p, a, rfl, _⟩ := h; rfl
  · obtain ⟨p, a, rfl, ok, rfl⟩ := h
    have hf := ok.few
    refine run_ret ?_
    walk_at "ev"
    refine ev_ofL (ev_lcA arD (ei_tup ?_))
    walk_at "ev"
    refine ⟨_, rfl, p.ar, rfl, by omega, fun b => !decide (b = a), fun b => arD b, fun b hb => ?_, ?_⟩
    · refine tg_name (by decide) ⟨?_, fun _ => ?_⟩
      · walk_at "ev"
        refine od_neD (okd_ar.sh (by decide)) (okd_ar.sh (by decide)) ⟨_, rfl, rfl, ?_⟩
        rw [eqv_ar]
      · walk_at "ev"
        exact ⟨rfl, rfl⟩
    · walk_at "ev"
      refine cb_tupL ?_
      walk_at "ev"
      exact ⟨by simp, rfl⟩
theorem cut_twin {p : Pr} (ok : p.Ok) (a : Nat × Nat) : Twin p (cut p a) := ⟨ok, cut_ok ok a, rfl⟩
abbrev S_change : Spec := fun ds R => ∃ p i j, ds = [pjD p, arD (i, j)] ∧ p.Ok ∧ (i, j) ∈ p.ar ∧ R = FdD p (fun d => 0 < sv p d i + d.getD i 0 - sv (cut p (i, j)) d j)
abbrev N_find_change : List Str := ["project", "arrow", "i", "j", "some", "head", "more", "durations"]
theorem sc_find_change : FnScope N_find_change ["project", "arrow"] (defScope s_find_change) := ⟨rfl, rfl, rfl, by decide +kernel, rfl, by decide +kernel, by decide +kernel⟩
theorem ok_find_change (Rw : Raw K mg "find_change" s_find_change ["project", "arrow"]) (B : Bl mg)
    (Dheads : Def P w K mg base 7 "heads" ["project", "task"] (fsp (S_heads 6)))
    (Dwithout : Def P w K mg base 1 "without" ["project", "arrow"] (fsp S_without))
    (Dgreatest : Def P w K mg base 3 "greatest" ["project", "some", "others"] (fsp S_greatest)) :
    Def P w K mg base 8 "find_change" ["project", "arrow"] (fsp S_change) := by
  refine def_ok Rw sc_find_change (fun ds R h => ?_) fun f cdv A outer s H E hr => ⟨_, (pss_cons (ps_asg (pv 1) (k_tup K rfl 2 rfl (pgs_cons (pg_name (i := 2) sc_find_change.nd rfl (Or.inr rfl)) (pgs_cons (pg_name (i := 3) sc_find_change.nd rfl (Or.inl rfl)) pgs_nil))))
      (pss_cons (ps_setLc (i := 4) rfl sc_find_change.nd rfl rfl (sw_true rfl rfl rfl (by decide +kernel)) (k_seq K rfl (pe_def Dheads (hr.mono (by first | decide | omega)) (by rfl) (pa_cons (pv 0) (pa_cons (pv 2) pa_nil)))) (blkOk_by (own := [("head", 5)]) (N := N_find_change) (sc := defScope s_find_change) (by decide +kernel)) (fun _ _ _ _ _ => (pg_name (i := 5) sc_find_change.nd rfl (Or.inl rfl))) (fun _ _ _ _ _ => pts_nil) (fun _ _ _ _ _ => (pe_op (k_add K rfl) (pv 5) (pe_tup (pa_cons (pv 2) pa_nil)))))
      (pss_cons (ps_asg (pe_def Dgreatest (hr.mono (by first | decide | omega)) (by rfl) (pa_cons (pv 0) (pa_cons (pv 4) (pa_cons (pe_def Dheads (hr.mono (by first | decide | omega)) (by rfl) (pa_cons (pe_def Dwithout (hr.mono (by first | decide | omega)) (by rfl) (pa_cons (pv 0) (pa_cons (pv 1) pa_nil))) (pa_cons (pv 3) pa_nil))) pa_nil)))) (k_tup K rfl 2 rfl (pgs_cons (pg_name (i := 6) sc_find_change.nd rfl (Or.inl rfl)) (pgs_cons (pg_name (i := 7) sc_find_change.nd rfl (Or.inl rfl)) pgs_nil))))
      (pss_one (ps_ret (pe_ifExp (pt_cmpR op_gt (pv 6) pe_int (nomark _)) (pv 7) pe_non)))))), fun ds R h => ?_⟩
  · obtain ⟨p, i, j, rfl, _⟩ := h; rfl
  · obtain ⟨p, i, j, rfl, ok, hij, rfl⟩ := h
    have h6 := ok.n6
    have hlt := ok.ar _ hij
    have hlt1 : i < j := hlt.1
    have hlt2 : j < p.ts.length := hlt.2
    have tw := cut_twin ok (i, j)
    refine run_seq (run_asg ?_)
    walk_at "ev"
    refine tg_tup rfl (tgs_cons (tg_name (by decide) (tgs_cons (tg_name (by decide) (tgs_nil ?_)))))
    refine run_seq (run_set (ev_ofL (ev_lcB ptD (ei_list ?_))))
    walk_at "ev"
    refine ⟨_, ⟨p, i, rfl, ok, by omega, by omega, rfl⟩, ?_⟩
    rintro _ ⟨hs, rfl, hl, hq⟩
    refine ⟨_, rfl, hs, rfl, by have := six ok (t := i) (by omega); omega, fun h => ptD (h ++ [i]), fun h hh => ?_, ?_⟩
    · refine tg_name (by decide) ?_
      walk_at "ev"
      refine ⟨by simp, od_catT ?_ ⟨rfl, ?_⟩⟩
      · obtain ⟨k1, k2⟩ := ((hq h).mp hh).lt ok
        have := nd_len _ h k2 k1
        rw [List.length_map]
        show h.length + 1 ≤ 100000
        omega
      · exact ptD_snoc.symm
    · rw [show hs.map (fun h => ptD (h ++ [i])) = (hs.map fun h => h ++ [i]).map ptD by rw [List.map_map]; rfl]
      have hA : ∀ q, q ∈ hs.map (fun h => h ++ [i]) ↔ ∃ h, Head p h i ∧ q = h ++ [i] := fun q => by
        rw [List.mem_map]
        constructor
        · rintro ⟨h, h1, rfl⟩; exact ⟨h, (hq h).mp h1, rfl⟩
        · rintro ⟨h, h1, rfl⟩; exact ⟨h, (hq h).mpr h1, rfl⟩
      refine run_seq (run_asg ?_)
      walk_at "ev"
      refine ⟨_, ⟨p, (i, j), rfl, ok, rfl⟩, ?_⟩
      rintro _ rfl
      walk_at "ev"
      refine ⟨_, ⟨cut p (i, j), j, rfl, tw.ok', hlt2, by omega, rfl⟩, ?_⟩
      rintro _ ⟨os, rfl, ol, oq⟩
      walk_at "ev"
      have gA : GP p (hs.map fun h => h ++ [i]) := gp_of (B := 64) (by rw [List.length_map]; exact Nat.le_trans hl (six ok (by omega))) (by decide) hA (by
        obtain ⟨h, hh⟩ := head_ex ok (i + 1) i (Nat.lt_succ_self i)
        exact ⟨_, h, hh, rfl⟩) (by
        rintro q ⟨h, hh, rfl⟩
        obtain ⟨k1, k2⟩ := hh.lt ok
        refine ⟨List.nodup_append.mpr ⟨k2, by simp, fun a ha b hb => ?_⟩, fun e he => ?_⟩
        · have : b = i := by simpa using hb
          have := k1 a ha
          omega
        · rcases List.mem_append.mp he with he | he
          · have := k1 e he
            omega
          · have : e = i := by simpa using he
            omega)
      refine ⟨_, ⟨p, hs.map fun h => h ++ [i], os, rfl, ok, gA, tw.gp (gp_heads tw.ok' hlt2 ol oq), rfl⟩, ?_⟩
      rintro _ ⟨b, c, rfl, hb⟩
      have hv : BestV p (fun d => sv p d i + d.getD i 0 - sv (cut p (i, j)) d j) b c := (hb.congr hA oq).v fun d hd => by
        obtain ⟨⟨h, h1, h2⟩, h3⟩ := sv_spec ok (hd.nn ok) (t := i)
        refine ⟨_, _, ⟨⟨h ++ [i], ⟨h, h1, rfl⟩, ?_⟩, ?_⟩, sv_spec tw.ok' (hd.nn ok), rfl⟩
        · rw [len_append, len_one, h2]
        · rintro q ⟨h', h4, rfl⟩
          rw [len_append, len_one]
          have := h3 h' h4
          omega
      refine tg_tup rfl (tgs_cons (tg_name (by decide) (tgs_cons (tg_name (by decide) (tgs_nil ?_)))))
      refine run_ret ?_
      walk_at "ev"
      refine ⟨_, rfl, ?_⟩
      by_cases hg : 0 < b
      · rw [if_pos (by simpa using hg)]
        walk_at "ev"
        exact .inr ⟨c, rfl, hv.dur, by have := hv.at_; omega⟩
      · rw [if_neg (by simpa using hg)]
        walk_at "ev"
        exact .inl ⟨rfl, fun d hd hc => by have := hv.le d hd; omega⟩
/-- an arrow without which all starts stay -/
def Ndl (p : Pr) (a : Nat × Nat) : Prop := ∀ d, Dur p d → ∀ t, sv p d t = sv (cut p a) d t
abbrev S_needless : Spec := fun ds R => ∃ p, ds = [pjD p] ∧ p.Ok ∧ R = (· = .list ((p.ar.filter fun a => dec (Ndl p a)).map arD))
abbrev N_needless_arrows : List Str := ["project", "arrow"]
theorem sc_needless_arrows : FnScope N_needless_arrows ["project"] (defScope s_needless_arrows) := ⟨rfl, rfl, rfl, by decide +kernel, rfl, by decide +kernel, by decide +kernel⟩
theorem ok_needless_arrows (Rw : Raw K mg "needless_arrows" s_needless_arrows ["project"]) (B : Bl mg)
    (Dfind_change : Def P w K mg base 8 "find_change" ["project", "arrow"] (fsp S_change)) :
    Def P w K mg base 9 "needless_arrows" ["project"] (fsp S_needless) := by
  refine def_ok Rw sc_needless_arrows (fun ds R h => ?_) fun f cdv A outer s H E hr => ⟨_, (pss_one (ps_ret (pe_lc rfl sc_needless_arrows.nd (k_seq K rfl (pe_ix (k_ix K rfl) (pv 0) pe_int (fun _ _ => rfl))) (blkOk_by (own := [("arrow", 1)]) (N := N_needless_arrows) (sc := defScope s_needless_arrows) (by decide +kernel)) (fun _ _ _ _ _ => (pg_name (i := 1) sc_needless_arrows.nd rfl (Or.inl rfl))) (fun _ _ _ _ _ => pts_one (pt_cmp (pc_isN (pe_def Dfind_change (hr.mono (by first | decide | omega)) (by rfl) (pa_cons (pv 0) (pa_cons (pv 1) pa_nil)))) rfl)) (fun _ _ _ _ _ => (pv 1))))), fun ds R h => ?_⟩
  · obtain ⟨p, rfl, _⟩ := h; rfl
  · obtain ⟨p, rfl, ok, rfl⟩ := h
    have hf := ok.few
    refine run_ret (ev_ofL (ev_lcA arD (ei_tup ?_)))
    walk_at "ev"
    refine ⟨_, rfl, p.ar, rfl, by omega, fun a => dec (Ndl p a), fun a => arD a, fun a ha => ?_, rfl⟩
    refine tg_name (by decide) ⟨?_, fun _ => ?_⟩
    · obtain ⟨i, j⟩ := a
      walk_at "ev"
      refine ⟨_, ⟨p, i, j, rfl, ok, ha, rfl⟩, fun x hx => ?_⟩
      refine ⟨noneB x, rfl, rfl, ?_⟩
      rw [hx.isNone]
      have : (∀ d, Dur p d → ¬ 0 < sv p d i + d.getD i 0 - sv (cut p (i, j)) d j) ↔ Ndl p (i, j) := by
        refine forall_congr' fun d => imp_congr_right fun hd => ?_
        rw [cut_same ok hd ha]
        omega
      rw [propext this]
    · walk_at "ev"
      exact ⟨rfl, rfl⟩
abbrev Nev (p : Pr) (i j : Nat) : Prop := ∀ d, Dur p d → ¬ 0 < sv p d i - sv p d j
noncomputable def fiP (p : Pr) (i : Nat) : List (Nat × Nat) := ((List.range p.ts.length).filter fun j => decide (i ≠ j) && dec (Nev p i j)).map fun j => (i, j)
noncomputable def fis (p : Pr) : List (Nat × Nat) := ((List.range p.ts.length).map (fiP p)).flatten
theorem rgD_nat (m : Nat) : rgD 0 ((m : Int).toNat) = (List.range m).map fun k : Nat => .int (k : Int) := by
  unfold rgD
  rw [Int.toNat_natCast]
  exact List.map_congr_left fun a _ => by rw [Int.zero_add]
theorem range_at {m i a : Nat} (h : (List.range m)[i]? = some a) : a = i ∧ i < m := by
  obtain ⟨g1, g2⟩ := List.getElem?_eq_some_iff.mp h
  rw [List.getElem_range] at g2
  rw [List.length_range] at g1
  exact ⟨g2.symm, g1⟩
theorem fiP_len (p : Pr) (i : Nat) : (fiP p i).length ≤ p.ts.length := by
  unfold fiP
  rw [List.length_map]
  exact Nat.le_trans (List.length_filter_le _ _) (by rw [List.length_range]; exact Nat.le_refl _)
theorem flat_len {α : Type} {B : Nat} : ∀ {l : List (List α)}, (∀ x ∈ l, x.length ≤ B) → l.flatten.length ≤ l.length * B
  | [], _ => by simp
  | a :: l, h => by
    have := flat_len (l := l) fun x hx => h x (List.mem_cons_of_mem _ hx)
    have := h a List.mem_cons_self
    rw [List.flatten_cons, List.length_append, List.length_cons, Nat.succ_mul]
    omega
abbrev S_firsts : Spec := fun ds R => ∃ p, ds = [pjD p] ∧ p.Ok ∧ R = (· = .list ((fis p).map arD))
abbrev N_firsts : List Str := ["project", "found", "size", "i", "j"]
theorem sc_firsts : FnScope N_firsts ["project"] (defScope s_firsts) := ⟨rfl, rfl, rfl, by decide +kernel, rfl, by decide +kernel, by decide +kernel⟩
theorem ok_firsts (Rw : Raw K mg "firsts" s_firsts ["project"]) (B : Bl mg)
    (Dnever_after : Def P w K mg base 9 "never_after" ["project", "i", "j"] (fsp S_nafter)) :
    Def P w K mg base 10 "firsts" ["project"] (fsp S_firsts) := by
  refine def_ok Rw sc_firsts (fun ds R h => ?_) fun f cdv A outer s H E hr => ⟨_, (pss_cons (ps_par (i := 1) (j := 2) rfl sc_firsts.nd rfl rfl (by decide) rfl rfl (pa_cons (pe_lst pa_nil) (pa_cons (pe_callB (k_len K rfl) (by rfl) B.len bb_len (pa_cons (pe_ix (k_ix K rfl) (pv 0) pe_int (fun _ _ => rfl)) pa_nil)) pa_nil)) (by rfl))
      (pss_cons (ps_for PassesOwn.never rfl (pi_range1 (by rfl) B.range (pa_cons (pv 2) pa_nil)) (pg_name (i := 3) sc_firsts.nd rfl (Or.inr rfl)) (pss_one (ps_expr (k_bm K rfl PySem.F.plainAttrs_list PySem.F.slot_list_extend PySem.F.type_list_extend mt_extend (pv 1) (pa_cons (pe_lc rfl sc_firsts.nd (pi_range1 (by rfl) B.range (pa_cons (pv 2) pa_nil)) (blkOk_by (own := [("j", 4)]) (N := N_firsts) (sc := defScope s_firsts) (by decide +kernel)) (fun _ _ _ _ _ => (pg_name (i := 4) sc_firsts.nd rfl (Or.inl rfl))) (fun _ _ _ _ _ => pts_one (PW.pt (pw_and (pt_cmpR (k_ne K rfl hr.units) (pv 3) (pv 4) (nomark _)) (pw_and1 (pt_val (pe_def Dnever_after (hr.mono (by first | decide | omega)) (by rfl) (pa_cons (pv 0) (pa_cons (pv 3) (pa_cons (pv 4) pa_nil))))))))) (fun _ _ _ _ _ => (pe_tup (pa_cons (pv 3) (pa_cons (pv 4) pa_nil))))) pa_nil)))))
      (pss_one (ps_ret (pv 1))))), fun ds R h => ?_⟩
  · obtain ⟨p, rfl, _⟩ := h; rfl
  · obtain ⟨p, rfl, ok, rfl⟩ := h
    have h6 := ok.n6
    refine run_seq (run_parL (ev_lst (ea_nil ⟨by decide, ?_⟩)))
    walk_at "ev"
    refine cb_lenT ?_
    refine run_seq (run_forA (fun e : Nat => .int (e : Int)) (ei_rng1 ?_))
    walk_at "ev"
    refine ⟨_, rfl, by rw [List.length_map]; omega, by rw [List.length_map]; omega, List.range p.ts.length, by rw [List.length_map]; exact rgD_nat _, fun i ρ n => n = 0 ∧ ∃ s3 s4, ρ = [.dat (pjD p), .own ((((List.range i).map (fiP p)).flatten).map arD), .dat (.int (p.ts.length : Nat)), s3, s4], ⟨rfl, .un, .un, by rw [List.length_map]; rfl⟩, ?_, ?_⟩
    · rintro i e ρ n he ⟨rfl, s3, s4, rfl⟩
      obtain ⟨rfl, hi⟩ := range_at he
      refine tg_name (by decide) ?_
      refine run_ext rfl (ev_ofL (ev_lcA (fun e : Nat => .int (e : Int)) (ei_rng1 ?_)))
      walk_at "ev"
      refine ⟨_, rfl, by omega, by omega, List.range p.ts.length, rgD_nat _, by rw [List.length_range]; omega, fun j => decide (e ≠ j) && dec (Nev p e j), fun j => arD (e, j), fun j hj => ?_, ?_⟩
      · have hj := List.mem_range.mp hj
        refine tg_name (by decide) ⟨?_, fun _ => ?_⟩
        · walk_at "ev"
          refine od_neD sh_int sh_int ⟨_, rfl, ?_⟩
          rw [eqv_int]
          by_cases z : e = j
          · subst z
            simp
          · have z' : ¬ ((e : Int) = (j : Int)) := by omega
            rw [decide_eq_false z', if_pos (by decide)]
            walk_at "ev"
            refine ⟨_, ⟨p, e, j, rfl, ok, hi, hj, rfl⟩, ?_⟩
            rintro _ rfl
            refine ⟨_, rfl, rfl, ?_⟩
            show _ = (decide (e ≠ j) && dec (Nev p e j))
            rw [decide_eq_true (show e ≠ j from z), Bool.true_and]
        · walk_at "ev"
          exact ⟨by simp, rfl, rfl⟩
      · have hL : (((List.range e).map (fiP p)).flatten).length ≤ 36 := by
          have h1 := flat_len (l := (List.range e).map (fiP p)) (B := p.ts.length) (fun x hx => by
            obtain ⟨y, _, rfl⟩ := List.mem_map.mp hx
            exact fiP_len p y)
          rw [List.length_map, List.length_range] at h1
          have h2 : e * p.ts.length ≤ 6 * 6 := Nat.mul_le_mul (by omega) h6
          omega
        have hfl := fiP_len p e
        unfold fiP at hfl
        rw [List.length_map] at hfl
        refine ⟨_, rfl, by rw [List.length_map, List.length_map]; omega, rfl, .dat (.int (e : Int)), s4, ?_⟩
        rw [List.range_succ, List.map_append, List.flatten_append, List.map_append]
        show [_, Sl.own _, _, _, _] = _
        congr 1
        congr 1
        congr 2
        show _ = List.map arD (List.flatten [fiP p e])
        rw [List.flatten_cons, List.flatten_nil, List.append_nil]
        unfold fiP
        rw [List.map_map]
        rfl
    · rintro ρ n ⟨rfl, s3, s4, rfl⟩
      rw [List.length_range]
      exact run_ret (ev_var rfl rfl)
end
end AC
set_option Elab.async false
set_option linter.all false
set_option maxRecDepth 100000
set_option maxHeartbeats 1000000
namespace AC
open PySem PySem.Spec PyProof.Rows L2
local macro_rules | `(tactic| walk_at "sh") => `(tactic| first | exact sh_int | exact sh_bool | exact sh_none | exact okd_du.sh (by decide) | exact okd_li.sh (by decide) | exact okd_pt.sh (by decide) | exact okd_ar.sh (by decide) | exact okd_ps.sh (by decide) | exact okd_na.sh (by decide) | exact (okd_tup (okd_map fun _ _ => okd_int)).sh (by decide) | exact (okd_tup (okd_map fun _ _ => okd_ar)).sh (by decide) | exact (okd_lst (okd_map fun _ _ => okd_du)).sh (by decide) | exact (okd_lst (okd_map fun _ _ => okd_ar)).sh (by decide))
local macro_rules | `(tactic| walk_at "e1") => `(tactic| first | with_reducible refine ev_int ?_ | with_reducible refine ev_non ?_ | with_reducible refine ev_bl ?_ | with_reducible refine ev_str ?_ | with_reducible refine ea_nil ?_ | with_reducible refine ea_cons ?_ | with_reducible refine ev_op ?_ | with_reducible refine ev_call ?_ | with_reducible refine ev_cb ?_ | with_reducible refine ev_tup ?_ | with_reducible refine ev_if ?_ | with_reducible refine et_test ?_ | with_reducible refine et_B ?_ | with_reducible refine ev_isN ?_ | with_reducible refine ev_notN ?_ | with_reducible refine ev_un ?_ | with_reducible refine ev_chain ?_ | with_reducible refine ev_andV ?_ | with_reducible refine ev_orV ?_ | with_reducible refine ev_notV ?_ | with_reducible refine et_and ?_ | with_reducible refine et_or ?_ | with_reducible refine et_not ?_ | refine ev_var rfl ?_ | refine od_add ?_ | refine od_I0 (fun _ => .int _) ?_ | refine od_I0 (fun _ => .bl _) ?_ | refine od_ixT at_0 ?_ | refine od_ixT at_1 ?_)
local macro_rules | `(tactic| walk_at "ev") => `(tactic| (walk_at "e1"; repeat walk_at "e1"))

section
variable {P : Program} {w : World} {K : PySem.W.Frag} {mg : Str → Option Value} {base : Heap}
structure Cs (mg : Str → Option Value) : Prop where
  a : ∃ t, mg "ALWAYS" = some (.str "always" t)
  s : ∃ t, mg "SOMETIMES" = some (.str "sometimes" t)
  n : ∃ t, mg "NEVER" = some (.str "never" t)
def wdD (a b : Bool) : PyData := .str (if a = true then "never" else if b = true then "always" else "sometimes")
abbrev S_word : Spec := fun ds R => ∃ x y, ds = [x, y] ∧ R = (· = wdD (noneB x) (noneB y))
abbrev N_word_for : List Str := ["yes", "no"]
theorem sc_word_for : FnScope N_word_for ["yes", "no"] (defScope s_word_for) := ⟨rfl, rfl, rfl, by decide +kernel, rfl, by decide +kernel, by decide +kernel⟩
theorem ok_word_for (Rw : Raw K mg "word_for" s_word_for ["yes", "no"]) (B : Bl mg) (C : Cs mg) : Def P w K mg base 1 "word_for" ["yes", "no"] (fsp S_word) := by
  obtain ⟨tA, mALWAYS⟩ := C.a
  obtain ⟨tS, mSOMETIMES⟩ := C.s
  obtain ⟨tN, mNEVER⟩ := C.n
  refine def_ok Rw sc_word_for (fun ds R h => ?_) fun f cdv A outer s H E hr => ⟨_, (pss_cons (ps_if (pt_cmp (pc_isN (pv 0)) rfl) (pss_one (ps_ret (pe_glob (v := .str "never") (by rfl) mNEVER ⟨_, rfl⟩))) pss_nil)
      (pss_one (ps_ret (pe_ifExp (pt_cmp (pc_isN (pv 1)) rfl) (pe_glob (v := .str "always") (by rfl) mALWAYS ⟨_, rfl⟩) (pe_glob (v := .str "sometimes") (by rfl) mSOMETIMES ⟨_, rfl⟩))))), fun ds R h => ?_⟩
  · obtain ⟨x, y, rfl, _⟩ := h; rfl
  · obtain ⟨x, y, rfl, rfl⟩ := h
    refine run_seq (run_if ?_)
    walk_at "ev"
    refine ⟨noneB x, rfl, ?_⟩
    by_cases hx : noneB x = true
    · rw [if_pos hx]
      refine run_ret ?_
      walk_at "ev"
      unfold wdD
      rw [if_pos hx]
    · rw [if_neg hx]
      refine run_next (run_ret ?_)
      walk_at "ev"
      refine ⟨noneB y, rfl, ?_⟩
      by_cases hy : noneB y = true
      · rw [if_pos hy]
        walk_at "ev"
        unfold wdD
        rw [if_neg hx, if_pos hy]
      · rw [if_neg hy]
        walk_at "ev"
        unfold wdD
        rw [if_neg hx, if_neg hy]
/-- never, always, sometimes -/
noncomputable def woD (p : Pr) (C : List Int → Prop) : PyData := wdD (dec (∀ d, Dur p d → ¬ C d)) (dec (∀ d, Dur p d → C d))
theorem wo_of {p : Pr} {C : List Int → Prop} {x y : PyData} (h1 : FdD p C x) (h2 : FdD p (fun d => ¬ C d) y) : wdD (noneB x) (noneB y) = woD p C := by
  unfold woD
  rw [h1.isNone, h2.isNone]
  have : (∀ d, Dur p d → ¬ ¬ C d) = (∀ d, Dur p d → C d) := propext ⟨fun h d hd => Classical.byContradiction (h d hd), fun h d hd z => z (h d hd)⟩
  rw [this]
abbrev S_statof : Spec := fun ds R => ∃ p t, ds = [pjD p, .int (t : Nat)] ∧ p.Ok ∧ t < p.ts.length ∧ R = (· = woD p (fun d => enV p d - tv p d t ≤ 0))
abbrev N_status_of : List Str := ["project", "task"]
theorem sc_status_of : FnScope N_status_of ["project", "task"] (defScope s_status_of) := ⟨rfl, rfl, rfl, by decide +kernel, rfl, by decide +kernel, by decide +kernel⟩
theorem ok_status_of (Rw : Raw K mg "status_of" s_status_of ["project", "task"]) (B : Bl mg)
    (Dword_for : Def P w K mg base 1 "word_for" ["yes", "no"] (fsp S_word))
    (Dfind_little : Def P w K mg base 11 "find_little" ["project", "task", "g"] (fsp S_little))
    (Dfind_much : Def P w K mg base 11 "find_much" ["project", "task", "g"] (fsp S_much)) :
    Def P w K mg base 12 "status_of" ["project", "task"] (fsp S_statof) := by
  refine def_ok Rw sc_status_of (fun ds R h => ?_) fun f cdv A outer s H E hr => ⟨_, (pss_one (ps_ret (pe_def Dword_for (hr.mono (by first | decide | omega)) (by rfl) (pa_cons (pe_def Dfind_little (hr.mono (by first | decide | omega)) (by rfl) (pa_cons (pv 0) (pa_cons (pv 1) (pa_cons pe_int pa_nil)))) (pa_cons (pe_def Dfind_much (hr.mono (by first | decide | omega)) (by rfl) (pa_cons (pv 0) (pa_cons (pv 1) (pa_cons pe_int pa_nil)))) pa_nil))))), fun ds R h => ?_⟩
  · obtain ⟨p, t, rfl, _⟩ := h; rfl
  · obtain ⟨p, t, rfl, ok, ht, rfl⟩ := h
    refine run_ret ?_
    walk_at "ev"
    refine ⟨_, ⟨p, t, 0, rfl, ok, ht, rfl⟩, fun x hx => ?_⟩
    walk_at "ev"
    refine ⟨_, ⟨p, t, 0, rfl, ok, ht, rfl⟩, fun y hy => ?_⟩
    walk_at "ev"
    refine ⟨_, ⟨x, y, rfl, rfl⟩, ?_⟩
    rintro _ rfl
    exact wo_of hx hy
abbrev S_status : Spec := fun ds R => ∃ p, ds = [pjD p] ∧ p.Ok ∧ R = (· = .list ((List.range p.ts.length).map fun t => woD p (fun d => enV p d - tv p d t ≤ 0)))
abbrev N_status : List Str := ["project", "task"]
theorem sc_status : FnScope N_status ["project"] (defScope s_status) := ⟨rfl, rfl, rfl, by decide +kernel, rfl, by decide +kernel, by decide +kernel⟩
theorem ok_status (Rw : Raw K mg "status" s_status ["project"]) (B : Bl mg)
    (Dstatus_of : Def P w K mg base 12 "status_of" ["project", "task"] (fsp S_statof)) :
    Def P w K mg base 13 "status" ["project"] (fsp S_status) := by
  refine def_ok Rw sc_status (fun ds R h => ?_) fun f cdv A outer s H E hr => ⟨_, (pss_one (ps_ret (pe_lc rfl sc_status.nd (pi_range1 (by rfl) B.range (pa_cons (pe_callB (k_len K rfl) (by rfl) B.len bb_len (pa_cons (pe_ix (k_ix K rfl) (pv 0) pe_int (fun _ _ => rfl)) pa_nil)) pa_nil)) (blkOk_by (own := [("task", 1)]) (N := N_status) (sc := defScope s_status) (by decide +kernel)) (fun _ _ _ _ _ => (pg_name (i := 1) sc_status.nd rfl (Or.inl rfl))) (fun _ _ _ _ _ => pts_nil) (fun _ _ _ _ _ => (pe_def Dstatus_of (hr.mono (by first | decide | omega)) (by rfl) (pa_cons (pv 0) (pa_cons (pv 1) pa_nil))))))), fun ds R h => ?_⟩
  · obtain ⟨p, rfl, _⟩ := h; rfl
  · obtain ⟨p, rfl, ok, rfl⟩ := h
    have h6 := ok.n6
    refine run_ret (ev_ofL (ev_lcB (fun e : Nat => .int (e : Int)) (ei_rng1 ?_)))
    walk_at "ev"
    refine cb_lenT ?_
    walk_at "ev"
    refine ⟨_, rfl, by rw [List.length_map]; omega, by rw [List.length_map]; omega, List.range p.ts.length, by rw [List.length_map]; exact rgD_nat _, by rw [List.length_range]; omega, fun t => woD p (fun d => enV p d - tv p d t ≤ 0), fun t ht => ?_, rfl⟩
    refine tg_name (by decide) ?_
    walk_at "ev"
    refine ⟨_, ⟨p, t, rfl, ok, List.mem_range.mp ht, rfl⟩, ?_⟩
    rintro _ rfl
    exact ⟨rfl, rfl⟩
theorem lows_dur {p : Pr} (ok : p.Ok) : Dur p (p.ts.map (·.1)) where
  l := List.length_map ..
  b := fun i b hb => by
    have : (p.ts.map (·.1)).getD i 0 = b.1 := by
      rw [List.getD_eq_getElem?_getD, List.getElem?_map, hb]
      rfl
    rw [this]
    have := ok.bd b (List.mem_of_getElem? hb)
    omega
abbrev S_piv : Spec := fun ds R => ∃ p t, ds = [pjD p, .int (t : Nat)] ∧ p.Ok ∧ t < p.ts.length ∧ R = FdD p (fun d => Piv p d t)
abbrev N_find_pivotal : List Str := ["project", "task", "others", "more", "durations"]
theorem sc_find_pivotal : FnScope N_find_pivotal ["project", "task"] (defScope s_find_pivotal) := ⟨rfl, rfl, rfl, by decide +kernel, rfl, by decide +kernel, by decide +kernel⟩
theorem ok_find_pivotal (Rw : Raw K mg "find_pivotal" s_find_pivotal ["project", "task"]) (B : Bl mg)
    (Daround : Def P w K mg base 10 "around" ["project", "task"] (fsp S_around))
    (Dlows : Def P w K mg base 1 "lows" ["project"] (fsp S_lows))
    (Dthrough : Def P w K mg base 10 "through" ["project", "task"] (fsp S_through))
    (Dgreatest : Def P w K mg base 3 "greatest" ["project", "some", "others"] (fsp S_greatest)) :
    Def P w K mg base 11 "find_pivotal" ["project", "task"] (fsp S_piv) := by
  refine def_ok Rw sc_find_pivotal (fun ds R h => ?_) fun f cdv A outer s H E hr => ⟨_, (pss_cons (ps_set (i := 2) sc_find_pivotal.nd rfl (Or.inl rfl) (pe_def Daround (hr.mono (by first | decide | omega)) (by rfl) (pa_cons (pv 0) (pa_cons (pv 1) pa_nil))))
      (pss_cons (ps_if (pt_cmpR (k_eq K rfl hr.units) (pv 2) (pe_lst pa_nil) (nomark _)) (pss_one (ps_ret (pe_def Dlows (hr.mono (by first | decide | omega)) (by rfl) (pa_cons (pv 0) pa_nil)))) pss_nil)
      (pss_cons (ps_asg (pe_def Dgreatest (hr.mono (by first | decide | omega)) (by rfl) (pa_cons (pv 0) (pa_cons (pe_def Dthrough (hr.mono (by first | decide | omega)) (by rfl) (pa_cons (pv 0) (pa_cons (pv 1) pa_nil))) (pa_cons (pv 2) pa_nil)))) (k_tup K rfl 2 rfl (pgs_cons (pg_name (i := 3) sc_find_pivotal.nd rfl (Or.inl rfl)) (pgs_cons (pg_name (i := 4) sc_find_pivotal.nd rfl (Or.inl rfl)) pgs_nil))))
      (pss_one (ps_ret (pe_ifExp (pt_cmpR op_gt (pv 3) pe_int (nomark _)) (pv 4) pe_non)))))), fun ds R h => ?_⟩
  · obtain ⟨p, t, rfl, _⟩ := h; rfl
  · obtain ⟨p, t, rfl, ok, ht, rfl⟩ := h
    refine run_seq (run_set ?_)
    walk_at "ev"
    refine ⟨_, ⟨p, t, rfl, ok, rfl⟩, ?_⟩
    rintro _ ⟨os, rfl, ol, oq⟩
    refine run_seq (run_if ?_)
    walk_at "ev"
    refine ev_ofL (ev_lst (ea_nil ⟨by decide, ?_⟩))
    refine od_eqD (okd_ps.sh (by decide)) (okd_ps (ps := []).sh (by decide)) ⟨_, rfl, ?_⟩
    rw [show PyData.eqv (psD os) (.list []) = decide (os = []) from eqv_ps os []]
    by_cases he : os = []
    · rw [if_pos (decide_eq_true he)]
      refine run_ret ?_
      walk_at "ev"
      refine ⟨_, ⟨p, rfl, ok, rfl⟩, ?_⟩
      rintro _ rfl
      refine .inr ⟨_, rfl, lows_dur ok, piv_all (fun q hq => Classical.byContradiction fun hn => ?_) _⟩
      have := (oq q).mpr ⟨hq, hn⟩
      rw [he] at this
      cases this
    · rw [if_neg (by rw [decide_eq_true_iff]; exact he)]
      refine run_next ?_
      have go : GP p os := gp_of ol (by decide) oq (by obtain ⟨q, hq⟩ := List.exists_mem_of_ne_nil os he; exact ⟨q, (oq q).mp hq⟩) fun q h => ⟨(h.1.mem ok).2.1, (h.1.mem ok).1⟩
      refine run_seq (run_asg ?_)
      walk_at "ev"
      refine ⟨_, ⟨p, t, rfl, ok, rfl⟩, ?_⟩
      rintro _ ⟨ps, rfl, hl, hq⟩
      walk_at "ev"
      refine ⟨_, ⟨p, ps, os, rfl, ok, gp_thru ok ht hl hq, go, rfl⟩, ?_⟩
      rintro _ ⟨b, c, rfl, hb⟩
      have hav : ∀ d, MaxP (fun w => Whole p w ∧ ¬ t ∈ w) (AC.len d) (av p d t) := fun d => by
        obtain ⟨m, hm⟩ := maxp_ex (AC.len d) os he
        exact mv_spec ⟨m, hm.congr oq fun _ _ => rfl⟩
      have hv : BestV p (fun d => tv p d t - av p d t) b c := (hb.congr hq oq).v fun d hd => ⟨_, _, tv_spec ok (hd.nn ok) ht, hav d, rfl⟩
      refine tg_tup rfl (tgs_cons (tg_name (by decide) (tgs_cons (tg_name (by decide) (tgs_nil ?_)))))
      refine run_ret ?_
      walk_at "ev"
      refine ⟨_, rfl, ?_⟩
      by_cases hg : 0 < b
      · rw [if_pos (by simpa using hg)]
        walk_at "ev"
        refine .inr ⟨c, rfl, hv.dur, (piv_iff ok (hv.dur.nn ok) ht (hav c)).mpr ?_⟩
        have := hv.at_
        omega
      · rw [if_neg (by simpa using hg)]
        walk_at "ev"
        refine .inl ⟨rfl, fun d hd hc => ?_⟩
        have := hv.le d hd
        have := (piv_iff ok (hd.nn ok) ht (hav d)).mp hc
        omega
abbrev S_npiv : Spec := fun ds R => ∃ p t, ds = [pjD p, .int (t : Nat)] ∧ p.Ok ∧ t < p.ts.length ∧ R = FdD p (fun d => ¬ Piv p d t)
abbrev N_find_not_pivotal : List Str := ["project", "task", "others", "more", "durations"]
theorem sc_find_not_pivotal : FnScope N_find_not_pivotal ["project", "task"] (defScope s_find_not_pivotal) := ⟨rfl, rfl, rfl, by decide +kernel, rfl, by decide +kernel, by decide +kernel⟩
theorem ok_find_not_pivotal (Rw : Raw K mg "find_not_pivotal" s_find_not_pivotal ["project", "task"]) (B : Bl mg)
    (Daround : Def P w K mg base 10 "around" ["project", "task"] (fsp S_around))
    (Dthrough : Def P w K mg base 10 "through" ["project", "task"] (fsp S_through))
    (Dgreatest : Def P w K mg base 3 "greatest" ["project", "some", "others"] (fsp S_greatest)) :
    Def P w K mg base 11 "find_not_pivotal" ["project", "task"] (fsp S_npiv) := by
  refine def_ok Rw sc_find_not_pivotal (fun ds R h => ?_) fun f cdv A outer s H E hr => ⟨_, (pss_cons (ps_set (i := 2) sc_find_not_pivotal.nd rfl (Or.inl rfl) (pe_def Daround (hr.mono (by first | decide | omega)) (by rfl) (pa_cons (pv 0) (pa_cons (pv 1) pa_nil))))
      (pss_cons (ps_if (pt_cmpR (k_eq K rfl hr.units) (pv 2) (pe_lst pa_nil) (nomark _)) (pss_one (ps_ret pe_non)) pss_nil)
      (pss_cons (ps_asg (pe_def Dgreatest (hr.mono (by first | decide | omega)) (by rfl) (pa_cons (pv 0) (pa_cons (pv 2) (pa_cons (pe_def Dthrough (hr.mono (by first | decide | omega)) (by rfl) (pa_cons (pv 0) (pa_cons (pv 1) pa_nil))) pa_nil)))) (k_tup K rfl 2 rfl (pgs_cons (pg_name (i := 3) sc_find_not_pivotal.nd rfl (Or.inl rfl)) (pgs_cons (pg_name (i := 4) sc_find_not_pivotal.nd rfl (Or.inl rfl)) pgs_nil))))
      (pss_one (ps_ret (pe_ifExp (pt_cmpR op_ge (pv 3) pe_int (nomark _)) (pv 4) pe_non)))))), fun ds R h => ?_⟩
  · obtain ⟨p, t, rfl, _⟩ := h; rfl
  · obtain ⟨p, t, rfl, ok, ht, rfl⟩ := h
    refine run_seq (run_set ?_)
    walk_at "ev"
    refine ⟨_, ⟨p, t, rfl, ok, rfl⟩, ?_⟩
    rintro _ ⟨os, rfl, ol, oq⟩
    refine run_seq (run_if ?_)
    walk_at "ev"
    refine ev_ofL (ev_lst (ea_nil ⟨by decide, ?_⟩))
    refine od_eqD (okd_ps.sh (by decide)) (okd_ps (ps := []).sh (by decide)) ⟨_, rfl, ?_⟩
    rw [show PyData.eqv (psD os) (.list []) = decide (os = []) from eqv_ps os []]
    by_cases he : os = []
    · rw [if_pos (decide_eq_true he)]
      refine run_ret ?_
      walk_at "ev"
      refine .inl ⟨rfl, fun d hd hn => hn (piv_all (fun q hq => Classical.byContradiction fun hn => ?_) _)⟩
      have := (oq q).mpr ⟨hq, hn⟩
      rw [he] at this
      cases this
    · rw [if_neg (by rw [decide_eq_true_iff]; exact he)]
      refine run_next ?_
      have go : GP p os := gp_of ol (by decide) oq (by obtain ⟨q, hq⟩ := List.exists_mem_of_ne_nil os he; exact ⟨q, (oq q).mp hq⟩) fun q h => ⟨(h.1.mem ok).2.1, (h.1.mem ok).1⟩
      refine run_seq (run_asg ?_)
      walk_at "ev"
      refine ⟨_, ⟨p, t, rfl, ok, rfl⟩, ?_⟩
      rintro _ ⟨ps, rfl, hl, hq⟩
      walk_at "ev"
      refine ⟨_, ⟨p, os, ps, rfl, ok, go, gp_thru ok ht hl hq, rfl⟩, ?_⟩
      rintro _ ⟨b, c, rfl, hb⟩
      have hav : ∀ d, MaxP (fun w => Whole p w ∧ ¬ t ∈ w) (AC.len d) (av p d t) := fun d => by
        obtain ⟨m, hm⟩ := maxp_ex (AC.len d) os he
        exact mv_spec ⟨m, hm.congr oq fun _ _ => rfl⟩
      have hv : BestV p (fun d => av p d t - tv p d t) b c := (hb.congr oq hq).v fun d hd => ⟨_, _, hav d, tv_spec ok (hd.nn ok) ht, rfl⟩
      refine tg_tup rfl (tgs_cons (tg_name (by decide) (tgs_cons (tg_name (by decide) (tgs_nil ?_)))))
      refine run_ret ?_
      walk_at "ev"
      refine ⟨_, rfl, ?_⟩
      by_cases hg : 0 ≤ b
      · rw [if_pos (by simpa using hg)]
        walk_at "ev"
        refine .inr ⟨c, rfl, hv.dur, fun z => ?_⟩
        have := hv.at_
        have := (piv_iff ok (hv.dur.nn ok) ht (hav c)).mp z
        omega
      · rw [if_neg (by simpa using hg)]
        walk_at "ev"
        refine .inl ⟨rfl, fun d hd hc => hc ((piv_iff ok (hd.nn ok) ht (hav d)).mpr ?_)⟩
        have := hv.le d hd
        omega
abbrev S_pstat : Spec := fun ds R => ∃ p, ds = [pjD p] ∧ p.Ok ∧ R = (· = .list ((List.range p.ts.length).map fun t => woD p (fun d => Piv p d t)))
abbrev N_pivotal_status : List Str := ["project", "found", "task"]
theorem sc_pivotal_status : FnScope N_pivotal_status ["project"] (defScope s_pivotal_status) := ⟨rfl, rfl, rfl, by decide +kernel, rfl, by decide +kernel, by decide +kernel⟩
theorem ok_pivotal_status (Rw : Raw K mg "pivotal_status" s_pivotal_status ["project"]) (B : Bl mg)
    (Dword_for : Def P w K mg base 1 "word_for" ["yes", "no"] (fsp S_word))
    (Dfind_pivotal : Def P w K mg base 11 "find_pivotal" ["project", "task"] (fsp S_piv))
    (Dfind_not_pivotal : Def P w K mg base 11 "find_not_pivotal" ["project", "task"] (fsp S_npiv)) :
    Def P w K mg base 12 "pivotal_status" ["project"] (fsp S_pstat) := by
  refine def_ok Rw sc_pivotal_status (fun ds R h => ?_) fun f cdv A outer s H E hr => ⟨_, (pss_cons (ps_set (i := 1) sc_pivotal_status.nd rfl (Or.inl rfl) (pe_lst pa_nil))
      (pss_cons (ps_for PassesOwn.never rfl (pi_range1 (by rfl) B.range (pa_cons (pe_callB (k_len K rfl) (by rfl) B.len bb_len (pa_cons (pe_ix (k_ix K rfl) (pv 0) pe_int (fun _ _ => rfl)) pa_nil)) pa_nil)) (pg_name (i := 2) sc_pivotal_status.nd rfl (Or.inl rfl)) (pss_one (ps_expr (k_bm K rfl PySem.F.plainAttrs_list PySem.F.slot_list_append PySem.F.type_list_append mt_append (pv 1) (pa_cons (pe_def Dword_for (hr.mono (by first | decide | omega)) (by rfl) (pa_cons (pe_def Dfind_pivotal (hr.mono (by first | decide | omega)) (by rfl) (pa_cons (pv 0) (pa_cons (pv 2) pa_nil))) (pa_cons (pe_def Dfind_not_pivotal (hr.mono (by first | decide | omega)) (by rfl) (pa_cons (pv 0) (pa_cons (pv 2) pa_nil))) pa_nil))) pa_nil)))))
      (pss_one (ps_ret (pv 1))))), fun ds R h => ?_⟩
  · obtain ⟨p, rfl, _⟩ := h; rfl
  · obtain ⟨p, rfl, ok, rfl⟩ := h
    have h6 := ok.n6
    refine run_seq (run_own (ev_lst (ea_nil ⟨by decide, ?_⟩)))
    refine run_seq (run_forA (fun e : Nat => .int (e : Int)) (ei_rng1 ?_))
    walk_at "ev"
    refine cb_lenT ?_
    walk_at "ev"
    refine ⟨_, rfl, by rw [List.length_map]; omega, by rw [List.length_map]; omega, List.range p.ts.length, by rw [List.length_map]; exact rgD_nat _, fun i ρ n => n = 0 ∧ ∃ s2, ρ = [.dat (pjD p), .own ((List.range i).map fun t => woD p (fun d => Piv p d t)), s2], ⟨rfl, .un, rfl⟩, ?_, ?_⟩
    · rintro i e ρ n he ⟨rfl, s2, rfl⟩
      obtain ⟨rfl, hi⟩ := range_at he
      refine tg_name (by decide) ?_
      refine run_app rfl ?_
      walk_at "ev"
      refine ⟨_, ⟨p, e, rfl, ok, hi, rfl⟩, fun x hx => ?_⟩
      walk_at "ev"
      refine ⟨_, ⟨p, e, rfl, ok, hi, rfl⟩, fun y hy => ?_⟩
      walk_at "ev"
      refine ⟨_, ⟨x, y, rfl, rfl⟩, ?_⟩
      rintro _ rfl
      rw [wo_of hx hy]
      refine ⟨by rw [List.length_map, List.length_range]; omega, rfl, .dat (.int (e : Int)), ?_⟩
      rw [List.range_succ, List.map_append]
      rfl
    · rintro ρ n ⟨rfl, s2, rfl⟩
      rw [List.length_range]
      exact run_ret (ev_var rfl rfl)
end
end AC
set_option Elab.async false
set_option linter.all false
set_option maxRecDepth 100000
set_option maxHeartbeats 1000000
namespace AC
open PySem PySem.Spec PyProof.Rows L2
local macro_rules | `(tactic| walk_at "sh") => `(tactic| first | exact sh_int | exact sh_bool | exact sh_none | exact okd_du.sh (by decide) | exact okd_li.sh (by decide) | exact okd_pt.sh (by decide) | exact okd_ar.sh (by decide) | exact okd_ps.sh (by decide) | exact okd_na.sh (by decide) | exact (okd_tup (okd_map fun _ _ => okd_int)).sh (by decide) | exact (okd_tup (okd_map fun _ _ => okd_ar)).sh (by decide) | exact (okd_lst (okd_map fun _ _ => okd_du)).sh (by decide) | exact (okd_lst (okd_map fun _ _ => okd_ar)).sh (by decide))
local macro_rules | `(tactic| walk_at "e1") => `(tactic| first | with_reducible refine ev_int ?_ | with_reducible refine ev_non ?_ | with_reducible refine ev_bl ?_ | with_reducible refine ev_str ?_ | with_reducible refine ea_nil ?_ | with_reducible refine ea_cons ?_ | with_reducible refine ev_op ?_ | with_reducible refine ev_call ?_ | with_reducible refine ev_cb ?_ | with_reducible refine ev_tup ?_ | with_reducible refine ev_if ?_ | with_reducible refine et_test ?_ | with_reducible refine et_B ?_ | with_reducible refine ev_isN ?_ | with_reducible refine ev_notN ?_ | with_reducible refine ev_un ?_ | with_reducible refine ev_chain ?_ | with_reducible refine ev_andV ?_ | with_reducible refine ev_orV ?_ | with_reducible refine ev_notV ?_ | with_reducible refine et_and ?_ | with_reducible refine et_or ?_ | with_reducible refine et_not ?_ | refine ev_var rfl ?_ | refine od_add ?_ | refine od_I0 (fun _ => .int _) ?_ | refine od_I0 (fun _ => .bl _) ?_ | refine od_ixT at_0 ?_ | refine od_ixT at_1 ?_)
local macro_rules | `(tactic| walk_at "ev") => `(tactic| (walk_at "e1"; repeat walk_at "e1"))

section
variable {P : Program} {w : World} {K : PySem.W.Frag} {mg : Str → Option Value} {base : Heap}
abbrev S_ends : Spec := fun ds R => ∃ ns : List Int, ds = [liD ns] ∧ ns ≠ [] ∧ R = fun x => ∃ a b, x = bdD (a, b) ∧ a ∈ ns ∧ (∀ y, y ∈ ns → a ≤ y) ∧ b ∈ ns ∧ ∀ y, y ∈ ns → y ≤ b
abbrev N__law_ends_of : List Str := ["_law_numbers"]
theorem sc__law_ends_of : FnScope N__law_ends_of ["_law_numbers"] (defScope s__law_ends_of) := ⟨rfl, rfl, rfl, by decide +kernel, rfl, by decide +kernel, by decide +kernel⟩
theorem ok__law_ends_of (Rw : Raw K mg "_law_ends_of" s__law_ends_of ["_law_numbers"]) (B : Bl mg) :
    Def P w K mg base 1 "_law_ends_of" ["_law_numbers"] (fsp S_ends) := by
  refine def_ok Rw sc__law_ends_of (fun ds R h => ?_) fun f cdv A outer s H E hr => ⟨_, (pss_one (ps_ret (pe_tup (pa_cons (pe_callB (k_min K rfl rfl) (by rfl) B.min bb_min (pa_cons (pv 0) pa_nil)) (pa_cons (pe_callB (k_max K rfl rfl) (by rfl) B.max bb_max (pa_cons (pv 0) pa_nil)) pa_nil))))), fun ds R h => ?_⟩
  · obtain ⟨ns, rfl, _⟩ := h; rfl
  · obtain ⟨ns, rfl, h0, rfl⟩ := h
    refine run_ret ?_
    walk_at "ev"
    refine cb_min h0 fun a ha ha' => ?_
    walk_at "ev"
    refine cb_max h0 fun b hb hb' => ?_
    walk_at "ev"
    exact ⟨by simp, a, b, rfl, ha, ha', hb, hb'⟩
abbrev S_isint : Spec := fun ds R => ∃ i, ds = [.int i] ∧ R = (· = .bool true)
abbrev N__law_is_integer : List Str := ["_law_value"]
theorem sc__law_is_integer : FnScope N__law_is_integer ["_law_value"] (defScope s__law_is_integer) := ⟨rfl, rfl, rfl, by decide +kernel, rfl, by decide +kernel, by decide +kernel⟩
theorem ok__law_is_integer (Rw : Raw K mg "_law_is_integer" s__law_is_integer ["_law_value"]) (B : Bl mg) :
    Def P w K mg base 1 "_law_is_integer" ["_law_value"] (fsp S_isint) := by
  refine def_ok Rw sc__law_is_integer (fun ds R h => ?_) fun f cdv A outer s H E hr => ⟨_, (pss_one (ps_ret (pe_and (pe_callB (k_isi K rfl) (by rfl) B.isinstance bb_isinstance (pa_cons (pv 0) (pa_cons (pe_bltn (v := .ty "int") (by rfl) B.int bb_int rfl) pa_nil))) (pe_one (pe_not (pe_callB (k_isi K rfl) (by rfl) B.isinstance bb_isinstance (pa_cons (pv 0) (pa_cons (pe_bltn (v := .ty "bool") (by rfl) B.bool bb_bool rfl) pa_nil)))))))), fun ds R h => ?_⟩
  · obtain ⟨i, rfl, _⟩ := h; rfl
  · obtain ⟨i, rfl, rfl⟩ := h
    refine run_ret (ev_andV (ev_isi ?_))
    walk_at "ev"
    refine ⟨true, rfl, true, rfl, ?_⟩
    rw [if_pos rfl]
    refine ev_notV (ev_isi ?_)
    walk_at "ev"
    exact ⟨false, rfl, false, rfl, rfl⟩
/-- sets of durations -/
def stepD (L : List (List Int)) (b : Int × Int) : List (List Int) := (L.map fun d => ((List.range (b.2 + 1 - b.1).toNat).map fun k : Nat => d ++ [b.1 + (k : Int)])).flatten
def allD (ts : List (Int × Int)) : List (List Int) := ts.foldl stepD [[]]
theorem allD_snoc (ts : List (Int × Int)) (b : Int × Int) : allD (ts ++ [b]) = stepD (allD ts) b := by
  unfold allD
  rw [List.foldl_append]
  rfl
theorem mem_step {L : List (List Int)} {b : Int × Int} {d : List Int} : d ∈ stepD L b ↔ ∃ e v, e ∈ L ∧ d = e ++ [v] ∧ b.1 ≤ v ∧ v ≤ b.2 := by
  unfold stepD
  rw [List.mem_flatten]
  constructor
  · rintro ⟨l, hl, hd⟩
    obtain ⟨e, he, rfl⟩ := List.mem_map.mp hl
    obtain ⟨k, hk, rfl⟩ := List.mem_map.mp hd
    have := List.mem_range.mp hk
    exact ⟨e, b.1 + k, he, rfl, by omega, by omega⟩
  · rintro ⟨e, v, he, rfl, h1, h2⟩
    refine ⟨_, List.mem_map.mpr ⟨e, he, rfl⟩, List.mem_map.mpr ⟨(v - b.1).toNat, List.mem_range.mpr (by omega), ?_⟩⟩
    have : b.1 + ((v - b.1).toNat : Int) = v := by omega
    rw [this]
def In (ts : List (Int × Int)) (d : List Int) : Prop := d.length = ts.length ∧ ∀ (i : Nat) (b : Int × Int), ts[i]? = some b → b.1 ≤ d.getD i 0 ∧ d.getD i 0 ≤ b.2
theorem in_snoc {ts : List (Int × Int)} {b : Int × Int} {d : List Int} : In (ts ++ [b]) d ↔ ∃ e v, In ts e ∧ d = e ++ [v] ∧ b.1 ≤ v ∧ v ≤ b.2 := by
  constructor
  · rintro ⟨hl, hb⟩
    rw [List.length_append] at hl
    have hl' : d.length = ts.length + 1 := hl
    have hne : d ≠ [] := fun h => by rw [h] at hl'; simp at hl'
    obtain ⟨e, v, rfl⟩ : ∃ e v, d = e ++ [v] := ⟨d.dropLast, d.getLast hne, (List.dropLast_concat_getLast hne).symm⟩
    rw [List.length_append] at hl'
    have hle : e.length = ts.length := by
      have : e.length + 1 = ts.length + 1 := hl'
      omega
    refine ⟨e, v, ⟨hle, fun i c hc => ?_⟩, rfl, ?_⟩
    · have hi : i < ts.length := (List.getElem?_eq_some_iff.mp hc).1
      have h2 := hb i c (by rw [List.getElem?_append_left hi]; exact hc)
      rw [List.getD_eq_getElem?_getD, List.getElem?_append_left (by omega), ← List.getD_eq_getElem?_getD] at h2
      exact h2
    · have h2 := hb ts.length b (by rw [List.getElem?_append_right (Nat.le_refl _), Nat.sub_self]; rfl)
      rw [List.getD_eq_getElem?_getD, List.getElem?_append_right (by omega), hle, Nat.sub_self] at h2
      exact h2
  · rintro ⟨e, v, ⟨hl, hb⟩, rfl, h1, h2⟩
    refine ⟨by rw [List.length_append, List.length_append, hl]; rfl, fun i c hc => ?_⟩
    by_cases hi : i < ts.length
    · rw [List.getElem?_append_left hi] at hc
      rw [List.getD_eq_getElem?_getD, List.getElem?_append_left (by omega), ← List.getD_eq_getElem?_getD]
      exact hb i c hc
    · rw [List.getElem?_append_right (by omega)] at hc
      have h0 : i - ts.length = 0 := by
        have := (List.getElem?_eq_some_iff.mp hc).1
        simp at this
        omega
      rw [h0] at hc
      have : b = c := Option.some.inj hc
      subst this
      rw [List.getD_eq_getElem?_getD, List.getElem?_append_right (by omega), show i - e.length = 0 by omega]
      exact ⟨h1, h2⟩
theorem mem_allD : ∀ (k : Nat) (ts : List (Int × Int)), ts.length = k → ∀ d, d ∈ allD ts ↔ In ts d
  | 0, ts, h, d => by
    have e : ts = [] := List.eq_nil_of_length_eq_zero h
    subst e
    constructor
    · intro hd
      have : d = [] := by simpa [allD] using hd
      subst this
      exact ⟨rfl, fun i b hb => (by cases hb)⟩
    · rintro ⟨hl, _⟩
      have : d = [] := List.eq_nil_of_length_eq_zero hl
      subst this
      simp [allD]
  | k + 1, ts, h, d => by
    have hne : ts ≠ [] := fun e => by rw [e] at h; simp at h
    obtain ⟨us, b, rfl⟩ : ∃ us b, ts = us ++ [b] := ⟨ts.dropLast, ts.getLast hne, (List.dropLast_concat_getLast hne).symm⟩
    have hk : us.length = k := by
      rw [List.length_append] at h
      have : us.length + 1 = k + 1 := h
      omega
    rw [allD_snoc, mem_step, in_snoc]
    constructor
    · rintro ⟨e, v, h1, h2⟩; exact ⟨e, v, (mem_allD k us hk e).mp h1, h2⟩
    · rintro ⟨e, v, h1, h2⟩; exact ⟨e, v, (mem_allD k us hk e).mpr h1, h2⟩
theorem step_len {L : List (List Int)} {b : Int × Int} (h : b.2 ≤ b.1 + 3) : (stepD L b).length ≤ L.length * 4 := by
  unfold stepD
  have := flat_len (l := L.map fun d => ((List.range (b.2 + 1 - b.1).toNat).map fun k : Nat => d ++ [b.1 + (k : Int)])) (B := 4) (fun x hx => by
    obtain ⟨d, _, rfl⟩ := List.mem_map.mp hx
    rw [List.length_map, List.length_range]
    omega)
  rw [List.length_map] at this
  exact this
theorem allD_len {p : Pr} (ok : p.Ok) : ∀ i, i ≤ p.ts.length → (allD (p.ts.take i)).length ≤ 4 ^ i
  | 0, _ => by simp [allD]
  | i + 1, h => by
    obtain ⟨b, hb⟩ : ∃ b, p.ts[i]? = some b := ⟨_, List.getElem?_eq_getElem (by omega)⟩
    rw [take_succ hb, allD_snoc]
    have h1 := step_len (L := allD (p.ts.take i)) (b := b) (by have := ok.bd b (List.mem_of_getElem? hb); omega)
    have h2 := allD_len ok i (by omega)
    rw [Nat.pow_succ]
    omega
theorem allD_dur {p : Pr} {d : List Int} : d ∈ allD p.ts ↔ Dur p d := by
  rw [mem_allD _ p.ts rfl]
  exact ⟨fun h => ⟨h.1, h.2⟩, fun h => ⟨h.l, h.b⟩⟩
theorem duD_snoc {d : List Int} {v : Int} : duD (d ++ [v]) = .tuple (d.map PyData.int ++ [.int v]) := by
  unfold duD
  rw [List.map_append]
  rfl
abbrev S_alld : Spec := fun ds R => ∃ p, ds = [pjD p] ∧ p.Ok ∧ R = (· = .list ((allD p.ts).map duD))
abbrev N__law_all_durations : List Str := ["_law_project", "_law_found", "_law_low", "_law_high", "_law_longer", "_law_begun", "_law_number"]
theorem sc__law_all_durations : FnScope N__law_all_durations ["_law_project"] (defScope s__law_all_durations) := ⟨rfl, rfl, rfl, by decide +kernel, rfl, by decide +kernel, by decide +kernel⟩
theorem ok__law_all_durations (Rw : Raw K mg "_law_all_durations" s__law_all_durations ["_law_project"]) (B : Bl mg) :
    Def P w K mg base 1 "_law_all_durations" ["_law_project"] (fsp S_alld) := by
  refine def_ok Rw sc__law_all_durations (fun ds R h => ?_) fun f cdv A outer s H E hr => ⟨_, (pss_cons (ps_set (i := 1) sc__law_all_durations.nd rfl (Or.inl rfl) (pe_lst (pa_cons (pe_tup pa_nil) pa_nil)))
      (pss_cons (ps_for PassesOwn.never rfl (k_seq K rfl (pe_ix (k_ix K rfl) (pv 0) pe_int (fun _ _ => rfl))) (k_tup K rfl 2 rfl (pgs_cons (pg_name (i := 2) sc__law_all_durations.nd rfl (Or.inl rfl)) (pgs_cons (pg_name (i := 3) sc__law_all_durations.nd rfl (Or.inl rfl)) pgs_nil))) (pss_cons (ps_set (i := 4) sc__law_all_durations.nd rfl (Or.inl rfl) (pe_lst pa_nil))
      (pss_cons (ps_for PassesOwn.never rfl (k_seq K rfl (pv 1)) (pg_name (i := 5) sc__law_all_durations.nd rfl (Or.inr rfl)) (pss_one (ps_expr (k_bm K rfl PySem.F.plainAttrs_list PySem.F.slot_list_extend PySem.F.type_list_extend mt_extend (pv 4) (pa_cons (pe_lc rfl sc__law_all_durations.nd (pi_range2 (by rfl) B.range (pa_cons (pv 2) (pa_cons (pe_op (k_add K rfl) (pv 3) pe_int) pa_nil))) (blkOk_by (own := [("_law_number", 6)]) (N := N__law_all_durations) (sc := defScope s__law_all_durations) (by decide +kernel)) (fun _ _ _ _ _ => (pg_name (i := 6) sc__law_all_durations.nd rfl (Or.inl rfl))) (fun _ _ _ _ _ => pts_nil) (fun _ _ _ _ _ => (pe_op (k_add K rfl) (pv 5) (pe_tup (pa_cons (pv 6) pa_nil))))) pa_nil)))))
      (pss_one (ps_set (i := 1) sc__law_all_durations.nd rfl (Or.inl rfl) (pv 4))))))
      (pss_one (ps_ret (pv 1))))), fun ds R h => ?_⟩
  · obtain ⟨p, rfl, _⟩ := h; rfl
  · obtain ⟨p, rfl, ok, rfl⟩ := h
    have h6 := ok.n6
    refine run_seq (run_set (ev_ofL (ev_lst ?_)))
    walk_at "ev"
    refine ⟨by simp, ?_⟩
    walk_at "ev"
    refine ⟨by simp, ?_⟩
    refine run_seq (run_forA bdD (ei_tup ?_))
    walk_at "ev"
    refine ⟨_, rfl, p.ts, rfl, fun i ρ n => n = 0 ∧ ∃ s2 s3 s4 s5 s6, ρ = [.dat (pjD p), .dat (.list ((allD (p.ts.take i)).map duD)), s2, s3, s4, s5, s6], ⟨rfl, _, _, _, _, _, rfl⟩, ?_, ?_⟩
    · rintro i b ρ n hb ⟨rfl, s2, s3, s4, s5, s6, rfl⟩
      have hil : i < p.ts.length := (List.getElem?_eq_some_iff.mp hb).1
      have okb := ok.bd b (List.mem_of_getElem? hb)
      have hL := allD_len ok i (Nat.le_of_lt hil)
      have h4 : 4 ^ i ≤ 4 ^ 5 := Nat.pow_le_pow_right (by decide) (by omega)
      refine tg_tup rfl (tgs_cons (tg_name (by decide) (tgs_cons (tg_name (by decide) (tgs_nil ?_)))))
      refine run_seq (run_own (ev_lst (ea_nil ⟨by decide, ?_⟩)))
      refine run_seq (run_forA duD (ei_list ?_))
      walk_at "ev"
      refine ⟨_, rfl, allD (p.ts.take i), rfl, fun k ρ n => n = 0 ∧ ∃ s5 s6, ρ = [.dat (pjD p), .dat (.list ((allD (p.ts.take i)).map duD)), .dat (.int b.1), .dat (.int b.2), .own ((stepD ((allD (p.ts.take i)).take k) b).map duD), s5, s6], ⟨rfl, _, _, rfl⟩, ?_, ?_⟩
      · rintro k d ρ n hd ⟨rfl, s5, s6, rfl⟩
        have hdi : In (p.ts.take i) d := (mem_allD _ _ rfl d).mp (List.mem_of_getElem? hd)
        have hdl : d.length ≤ 6 := by
          rw [hdi.1, List.length_take]
          omega
        refine tg_name (by decide) ?_
        refine run_ext rfl (ev_ofL (ev_lcB (fun k : Nat => .int (b.1 + (k : Int))) (ei_rng2 ?_)))
        walk_at "ev"
        refine ⟨b.1, b.2 + 1, rfl, by omega, List.range (b.2 + 1 - b.1).toNat, rfl, by rw [List.length_range]; omega, fun k => duD (d ++ [b.1 + (k : Int)]), fun k hk => ?_, ?_⟩
        · refine tg_name (by decide) ?_
          walk_at "ev"
          refine ⟨by simp, od_catT ?_ ⟨rfl, duD_snoc.symm⟩⟩
          rw [List.length_map]
          show d.length + 1 ≤ 100000
          omega
        · have h1 : (stepD ((allD (p.ts.take i)).take k) b).length ≤ ((allD (p.ts.take i)).take k).length * 4 := step_len (by omega)
          rw [List.length_take] at h1
          refine ⟨_, rfl, ?_, rfl, .dat (duD d), s6, ?_⟩
          · rw [List.length_map, List.length_map, List.length_range]
            omega
          · have e1 : stepD ((allD (p.ts.take i)).take (k + 1)) b = stepD ((allD (p.ts.take i)).take k) b ++ (List.range (b.2 + 1 - b.1).toNat).map fun k : Nat => d ++ [b.1 + (k : Int)] := by
              rw [take_succ hd]
              unfold stepD
              rw [List.map_append, List.flatten_append]
              show _ ++ List.flatten [_] = _
              rw [List.flatten_cons, List.flatten_nil, List.append_nil]
            rw [e1, List.map_append, List.map_map]
            rfl
      · rintro ρ n ⟨rfl, s5, s6, rfl⟩
        rw [List.take_length]
        refine run_let (i := 4) rfl (run_set ?_)
        walk_at "ev"
        refine ⟨rfl, .dat (.int b.1), .dat (.int b.2), .dat (.list ((stepD (allD (p.ts.take i)) b).map duD)), s5, s6, ?_⟩
        rw [take_succ hb, allD_snoc]
        rfl
    · rintro ρ n ⟨rfl, s2, s3, s4, s5, s6, rfl⟩
      rw [List.take_length]
      exact run_ret (ev_var rfl rfl)
end
end AC
set_option Elab.async false
set_option linter.all false
set_option maxRecDepth 100000
set_option maxHeartbeats 1000000
namespace AC
open PySem PySem.Spec PyProof.Rows L2
local macro_rules | `(tactic| walk_at "sh") => `(tactic| first | exact sh_int | exact sh_bool | exact sh_none | exact okd_du.sh (by decide) | exact okd_li.sh (by decide) | exact okd_pt.sh (by decide) | exact okd_ar.sh (by decide) | exact okd_ps.sh (by decide) | exact okd_na.sh (by decide) | exact (okd_tup (okd_map fun _ _ => okd_int)).sh (by decide) | exact (okd_tup (okd_map fun _ _ => okd_ar)).sh (by decide) | exact (okd_lst (okd_map fun _ _ => okd_du)).sh (by decide) | exact (okd_lst (okd_map fun _ _ => okd_ar)).sh (by decide))
local macro_rules | `(tactic| walk_at "e1") => `(tactic| first | with_reducible refine ev_int ?_ | with_reducible refine ev_non ?_ | with_reducible refine ev_bl ?_ | with_reducible refine ev_str ?_ | with_reducible refine ea_nil ?_ | with_reducible refine ea_cons ?_ | with_reducible refine ev_op ?_ | with_reducible refine ev_call ?_ | with_reducible refine ev_cb ?_ | with_reducible refine ev_tup ?_ | with_reducible refine ev_if ?_ | with_reducible refine et_test ?_ | with_reducible refine et_B ?_ | with_reducible refine ev_isN ?_ | with_reducible refine ev_notN ?_ | with_reducible refine ev_un ?_ | with_reducible refine ev_chain ?_ | with_reducible refine ev_andV ?_ | with_reducible refine ev_orV ?_ | with_reducible refine ev_notV ?_ | with_reducible refine et_and ?_ | with_reducible refine et_or ?_ | with_reducible refine et_not ?_ | refine ev_var rfl ?_ | refine od_add ?_ | refine od_I0 (fun _ => .int _) ?_ | refine od_I0 (fun _ => .bl _) ?_ | refine od_ixT at_0 ?_ | refine od_ixT at_1 ?_)
local macro_rules | `(tactic| walk_at "ev") => `(tactic| (walk_at "e1"; repeat walk_at "e1"))

section
variable {P : Program} {w : World} {K : PySem.W.Frag} {mg : Str → Option Value} {base : Heap}
theorem od_ofL {r : R2} {a b : PyData} {P : PyData → Prop} (h : OpL r a b (fun ds => P (.list ds))) : OpD r a b P := fun X H x y tr rx ry Q q =>
  h X H x y tr rx ry Q fun o H2 vs ds f s e ha p => q _ H2 _ s (Rp.ofNew tr f e ha) p
theorem ud_int {g : Int → V} {i : Int} {dz : PyData} {P : PyData → Prop} (hz : ∀ H, Rp H (g i) dz) (k : P dz) : UnD (rU g) (.int i) P := fun X H x tr rx Q q =>
  ⟨i, rx.int', q _ H _ (fun _ _ h => h) (hz _) k⟩
theorem cb_ofL {r : List V → Hp → VK → Prop} {as : List PyData} {P : PyData → Prop} (h : CbL r as (fun ds => P (.list ds))) : CbD r as P := fun X H xs tr rx Q q =>
  h X H xs tr rx Q fun o H2 vs ds f s e ha p => q _ H2 _ s (Rp.ofNew tr f e ha) p
theorem ev_isB {pn : Option Pen} {ρ : En} {n : Nat} {P : PyData → Nat → Prop} {ta : TE} (h : EvR pn ta ρ n (fun d n1 => P (.bool (noneB d)) n1)) : EvR pn (tIsN ta) ρ n P := ev_isN h
theorem ev_ntB {pn : Option Pen} {ρ : En} {n : Nat} {P : PyData → Nat → Prop} {ta : TE} (h : EvR pn ta ρ n (fun d n1 => P (.bool (!noneB d)) n1)) : EvR pn (tNotN ta) ρ n P := ev_notN (h.imp fun d n p => by
  cases d <;> exact p)
noncomputable def svs (p : Pr) (d : List Int) : List Int := (List.range p.ts.length).map fun t => sv p d t
noncomputable def rvs (p : Pr) (d : List Int) : List Int := (List.range p.ts.length).map fun t => rv p d t
noncomputable def slk (p : Pr) (d : List Int) (t : Nat) : Int := enV p d - tv p d t
noncomputable def sls (p : Pr) (d : List Int) : List Int := (List.range p.ts.length).map fun t => slk p d t
theorem rng_getD {f : Nat → Int} {n t : Nat} (h : t < n) : ((List.range n).map f).getD t 0 = f t := by
  rw [List.getD_eq_getElem?_getD, List.getElem?_map, List.getElem?_range h]
  rfl
theorem li_at {l : List Int} {t : Nat} (h : t < l.length) : L2.atI (l.map PyData.int) (t : Int) = some (.int (l.getD t 0)) := atI_nat (du_get h)
abbrev S_starts : Spec := fun ds R => ∃ p d, ds = [pjD p, duD d] ∧ p.Ok ∧ Dur p d ∧ R = (· = liD (svs p d))
abbrev N__law_starts : List Str := ["_law_project", "_law_durations", "_law_found", "_law_task", "_law_i", "_law_j"]
theorem sc__law_starts : FnScope N__law_starts ["_law_project", "_law_durations"] (defScope s__law_starts) := ⟨rfl, rfl, rfl, by decide +kernel, rfl, by decide +kernel, by decide +kernel⟩
theorem ok__law_starts (Rw : Raw K mg "_law_starts" s__law_starts ["_law_project", "_law_durations"]) (B : Bl mg) :
    Def P w K mg base 1 "_law_starts" ["_law_project", "_law_durations"] (fsp S_starts) := by
  refine def_ok Rw sc__law_starts (fun ds R h => ?_) fun f cdv A outer s H E hr => ⟨_, (pss_cons (ps_set (i := 2) sc__law_starts.nd rfl (Or.inr rfl) (pe_lst pa_nil))
      (pss_cons (ps_for PassesOwn.never rfl (pi_range1 (by rfl) B.range (pa_cons (pe_callB (k_len K rfl) (by rfl) B.len bb_len (pa_cons (pv 1) pa_nil)) pa_nil)) (pg_name (i := 3) sc__law_starts.nd rfl (Or.inr rfl)) (pss_one (ps_expr (k_bm K rfl PySem.F.plainAttrs_list PySem.F.slot_list_append PySem.F.type_list_append mt_append (pv 2) (pa_cons (pe_callB (k_max K rfl rfl) (by rfl) B.max bb_max (pa_cons (pe_op (k_add K rfl) (pe_lst (pa_cons pe_int pa_nil)) (pe_lc rfl sc__law_starts.nd (k_seq K rfl (pe_ix (k_ix K rfl) (pv 0) pe_int (fun _ _ => rfl))) (blkOk_by (own := [("_law_i", 4), ("_law_j", 5)]) (N := N__law_starts) (sc := defScope s__law_starts) (by decide +kernel)) (fun _ _ _ _ _ => (k_tup K rfl 2 rfl (pgs_cons (pg_name (i := 4) sc__law_starts.nd rfl (Or.inl rfl)) (pgs_cons (pg_name (i := 5) sc__law_starts.nd rfl (Or.inl rfl)) pgs_nil)))) (fun _ _ _ _ _ => pts_one (pt_cmpR (k_eq K rfl hr.units) (pv 5) (pv 3) (nomark _))) (fun _ _ _ _ _ => (pe_op (k_add K rfl) (pe_ix (k_ix K rfl) (pv 2) (pv 4) (fun _ _ => rfl)) (pe_ix (k_ix K rfl) (pv 1) (pv 4) (fun _ _ => rfl)))))) pa_nil)) pa_nil)))))
      (pss_one (ps_ret (pv 2))))), fun ds R h => ?_⟩
  · obtain ⟨p, d, rfl, _⟩ := h; rfl
  · obtain ⟨p, d, rfl, ok, hd, rfl⟩ := h
    have h6 := ok.n6
    have hf := ok.few
    have hdl := hd.l
    have h0 := hd.nn ok
    refine run_seq (run_own (ev_lst (ea_nil ⟨by decide, ?_⟩)))
    refine run_seq (run_forA (fun e : Nat => .int (e : Int)) (ei_rng1 ?_))
    walk_at "ev"
    refine cb_lenT ?_
    walk_at "ev"
    refine ⟨_, rfl, by rw [List.length_map]; omega, by rw [List.length_map]; omega, List.range p.ts.length, by rw [List.length_map, hdl]; exact rgD_nat _, fun i ρ n => n = 0 ∧ ∃ s3 s4 s5, ρ = [.dat (pjD p), .dat (duD d), .own (((List.range i).map fun t => sv p d t).map PyData.int), s3, s4, s5], ⟨rfl, _, _, _, rfl⟩, ?_, ?_⟩
    · rintro i e ρ n he ⟨rfl, s3, s4, s5, rfl⟩
      obtain ⟨rfl, hi⟩ := range_at he
      refine tg_name (by decide) ?_
      refine run_app rfl (ev_frz ?_)
      walk_at "ev"
      refine ev_ofL (ev_lst ?_)
      walk_at "ev"
      refine ⟨by simp, ev_ofL (ev_lcA arD (ei_tup ?_))⟩
      walk_at "ev"
      refine ⟨_, rfl, p.ar, rfl, by omega, fun a => decide (a.2 = e), fun a => .int (sv p d a.1 + d.getD a.1 0), fun a ha => ?_, ?_⟩
      · have haa := ok.ar a ha
        refine tg_tup rfl (tgs_cons (tg_name (by decide) (tgs_cons (tg_name (by decide) (tgs_nil ⟨?_, fun ht => ?_⟩)))))
        · walk_at "ev"
          refine od_eqD sh_int sh_int ⟨_, rfl, rfl, ?_⟩
          rw [eqv_int]
          exact decide_eq_decide.mpr (by omega)
        · have ht : a.2 = e := of_decide_eq_true ht
          walk_at "ev"
          refine od_ixL (i := (a.1 : Nat)) (li_at (by rw [List.length_map, List.length_range]; omega)) ?_
          rw [rng_getD (by omega)]
          walk_at "ev"
          refine od_ixT (i := (a.1 : Nat)) (atI_du (by omega)) ?_
          walk_at "ev"
          exact ⟨rfl, rfl⟩
      · have hfl := List.length_filter_le (fun a : Nat × Nat => decide (a.2 = e)) p.ar
        refine od_ofL (ol_cat (by rw [List.length_map]; show 1 + _ ≤ 100000; omega) ?_)
        rw [show [PyData.int 0] ++ (p.ar.filter fun a => decide (a.2 = e)).map (fun a => PyData.int (sv p d a.1 + d.getD a.1 0)) = (0 :: (p.ar.filter fun a => decide (a.2 = e)).map fun a => sv p d a.1 + d.getD a.1 0).map PyData.int by
          rw [List.map_cons, List.map_map]
          rfl]
        walk_at "ev"
        refine cb_max (by simp) fun m hm hle => ?_
        have hm0 : 0 ≤ m := hle 0 List.mem_cons_self
        have hme : sv p d e = m := by
          refine sv_dp ok h0 hm0 (fun x hx => hle _ (List.mem_cons_of_mem _ (List.mem_map.mpr ⟨(x, e), List.mem_filter.mpr ⟨mem_bef.mp hx, decide_eq_true rfl⟩, rfl⟩))) ?_
          rcases List.mem_cons.mp hm with z | z
          · exact .inl z
          · obtain ⟨⟨x, y⟩, hx, h2⟩ := List.mem_map.mp z
            obtain ⟨k1, k2⟩ := List.mem_filter.mp hx
            have k2 : y = e := of_decide_eq_true k2
            subst k2
            exact .inr ⟨x, mem_bef.mpr k1, h2.symm⟩
        rw [← hme]
        refine ⟨rfl, by rw [List.length_map, List.length_map, List.length_range]; omega, rfl, .dat (.int (e : Int)), s4, s5, ?_⟩
        rw [List.range_succ, List.map_append, List.map_append]
        rfl
    · rintro ρ n ⟨rfl, s3, s4, s5, rfl⟩
      rw [List.length_range]
      exact run_ret (ev_var rfl rfl)
abbrev S_rests : Spec := fun ds R => ∃ p d, ds = [pjD p, duD d] ∧ p.Ok ∧ Dur p d ∧ R = (· = liD (rvs p d))
noncomputable def rvp (p : Pr) (d : List Int) (i : Nat) : List Int := (List.range p.ts.length).map fun t => if p.ts.length - i ≤ t then rv p d t else 0
theorem rvp_set {p : Pr} {d : List Int} {i : Nat} (hi : i < p.ts.length) : (rvp p d i).set (p.ts.length - 1 - i) (rv p d (p.ts.length - 1 - i)) = rvp p d (i + 1) := by
  unfold rvp
  refine List.ext_getElem? fun j => ?_
  by_cases e : p.ts.length - 1 - i = j
  · subst e
    rw [List.getElem?_set_self (by rw [List.length_map, List.length_range]; omega), List.getElem?_map, List.getElem?_range (by omega)]
    show _ = some (if _ then _ else _)
    rw [if_pos (by omega)]
  · rw [List.getElem?_set_ne e, List.getElem?_map, List.getElem?_map]
    by_cases hj : j < p.ts.length
    · rw [List.getElem?_range hj]
      show some (if _ then _ else _) = some (if _ then _ else _)
      by_cases h1 : p.ts.length - i ≤ j
      · rw [if_pos h1, if_pos (by omega)]
      · rw [if_neg h1, if_neg (by omega)]
    · rw [List.getElem?_eq_none (by rw [List.length_range]; omega)]
      rfl
theorem rgC_down (m : Nat) (h : 1 ≤ m) : rgC ((m : Int) - 1) (-1) m = (List.range m).map fun k : Nat => .int ((m - 1 - k : Nat) : Int) := by
  unfold rgC
  refine List.map_congr_left fun a ha => ?_
  have := List.mem_range.mp ha
  congr 1
  omega
abbrev N__law_rests : List Str := ["_law_project", "_law_durations", "_law_found", "_law_task", "_law_i", "_law_j"]
theorem sc__law_rests : FnScope N__law_rests ["_law_project", "_law_durations"] (defScope s__law_rests) := ⟨rfl, rfl, rfl, by decide +kernel, rfl, by decide +kernel, by decide +kernel⟩
theorem ok__law_rests (Rw : Raw K mg "_law_rests" s__law_rests ["_law_project", "_law_durations"]) (B : Bl mg) :
    Def P w K mg base 1 "_law_rests" ["_law_project", "_law_durations"] (fsp S_rests) := by
  refine def_ok Rw sc__law_rests (fun ds R h => ?_) fun f cdv A outer s H E hr => ⟨_, (pss_cons (ps_set (i := 2) sc__law_rests.nd rfl (Or.inr rfl) (pe_op op_uMul (pe_lst (pa_cons pe_int pa_nil)) (pe_callB (k_len K rfl) (by rfl) B.len bb_len (pa_cons (pv 1) pa_nil))))
      (pss_cons (ps_for PassesOwn.never rfl (pi_range3 (by rfl) B.range (pa_cons (pe_op op_sub (pe_callB (k_len K rfl) (by rfl) B.len bb_len (pa_cons (pv 1) pa_nil)) pe_int) (pa_cons (pe_un un_neg pe_int) (pa_cons (pe_un un_neg pe_int) pa_nil)))) (pg_name (i := 3) sc__law_rests.nd rfl (Or.inr rfl)) (pss_one (ps_asg (pe_op (k_add K rfl) (pe_ix (k_ix K rfl) (pv 1) (pv 3) (fun _ _ => rfl)) (pe_callB (k_max K rfl rfl) (by rfl) B.max bb_max (pa_cons (pe_op (k_add K rfl) (pe_lst (pa_cons pe_int pa_nil)) (pe_lc rfl sc__law_rests.nd (k_seq K rfl (pe_ix (k_ix K rfl) (pv 0) pe_int (fun _ _ => rfl))) (blkOk_by (own := [("_law_i", 4), ("_law_j", 5)]) (N := N__law_rests) (sc := defScope s__law_rests) (by decide +kernel)) (fun _ _ _ _ _ => (k_tup K rfl 2 rfl (pgs_cons (pg_name (i := 4) sc__law_rests.nd rfl (Or.inl rfl)) (pgs_cons (pg_name (i := 5) sc__law_rests.nd rfl (Or.inl rfl)) pgs_nil)))) (fun _ _ _ _ _ => pts_one (pt_cmpR (k_eq K rfl hr.units) (pv 4) (pv 3) (nomark _))) (fun _ _ _ _ _ => (pe_ix (k_ix K rfl) (pv 2) (pv 5) (fun _ _ => rfl))))) pa_nil))) (pg_sub (pv 2) (pv 3) set_list))))
      (pss_one (ps_ret (pv 2))))), fun ds R h => ?_⟩
  · obtain ⟨p, d, rfl, _⟩ := h; rfl
  · obtain ⟨p, d, rfl, ok, hd, rfl⟩ := h
    have h6 := ok.n6
    have h1 := ok.n1
    have hf := ok.few
    have hdl := hd.l
    have h0 := hd.nn ok
    refine run_seq (run_own (ev_opL (ev_ofL (ev_lst ?_))))
    walk_at "ev"
    refine ⟨by simp, ?_⟩
    walk_at "ev"
    refine cb_lenT ?_
    refine ol_rep (by omega) (by rw [List.length_map]; omega) (by simp) ?_
    have e0 : (List.replicate (((d.map PyData.int).length : Int)).toNat [PyData.int 0]).flatten = (rvp p d 0).map PyData.int := by
      rw [Int.toNat_natCast, List.length_map, hdl]
      unfold rvp
      refine List.ext_getElem? fun j => ?_
      rw [show List.replicate p.ts.length [PyData.int 0] = (List.replicate p.ts.length (PyData.int 0)).map fun x => [x] by rw [List.map_replicate]]
      rw [show ((List.replicate p.ts.length (PyData.int 0)).map fun x => [x]).flatten = List.replicate p.ts.length (PyData.int 0) by
        generalize p.ts.length = m
        induction m with
        | zero => rfl
        | succ m ih => rw [List.replicate_succ, List.map_cons, List.flatten_cons, ih]; rfl]
      rw [List.getElem?_replicate, List.map_map, List.getElem?_map]
      by_cases hj : j < p.ts.length
      · rw [if_pos hj, List.getElem?_range hj]
        show _ = some (PyData.int (if _ then _ else _))
        rw [if_neg (by omega)]
      · rw [if_neg hj, List.getElem?_eq_none (by rw [List.length_range]; omega)]
        rfl
    rw [e0]
    refine run_seq (run_forA (fun k : Nat => .int ((p.ts.length - 1 - k : Nat) : Int)) (ei_rng3 ?_))
    walk_at "ev"
    refine cb_lenT ?_
    walk_at "ev"
    refine ud_int (fun _ => .int _) ?_
    walk_at "ev"
    refine ud_int (fun _ => .int _) ?_
    walk_at "ev"
    refine ⟨_, _, _, p.ts.length, rfl, ?_, List.range p.ts.length, ?_, fun i ρ n => n = 0 ∧ ∃ s3 s4 s5, ρ = [.dat (pjD p), .dat (duD d), .own ((rvp p d i).map PyData.int), s3, s4, s5], ⟨rfl, _, _, _, rfl⟩, ?_, ?_⟩
    · rw [List.length_map, hdl]
      have := RgC.neg (i := (p.ts.length : Int) - 1) (j := -1) (by omega) (by omega) (by omega) (by omega)
      rw [show ((p.ts.length : Int) - 1 - -1).toNat = p.ts.length by omega] at this
      exact this
    · rw [List.length_map, hdl]
      exact rgC_down _ h1
    · rintro i k ρ n he ⟨rfl, s3, s4, s5, rfl⟩
      obtain ⟨rfl, hi⟩ := range_at he
      refine tg_name (by decide) ?_
      refine run_setI rfl (ev_frz ?_)
      walk_at "ev"
      refine od_ixT (i := (p.ts.length - 1 - k : Nat)) (atI_du (by omega)) ?_
      walk_at "ev"
      refine ev_ofL (ev_lst ?_)
      walk_at "ev"
      refine ⟨by simp, ev_ofL (ev_lcA arD (ei_tup ?_))⟩
      walk_at "ev"
      refine ⟨_, rfl, p.ar, rfl, by omega, fun a => decide (a.1 = p.ts.length - 1 - k), fun a => .int (rv p d a.2), fun a ha => ?_, ?_⟩
      · have haa := ok.ar a ha
        refine tg_tup rfl (tgs_cons (tg_name (by decide) (tgs_cons (tg_name (by decide) (tgs_nil ⟨?_, fun ht => ?_⟩)))))
        · walk_at "ev"
          refine od_eqD sh_int sh_int ⟨_, rfl, rfl, ?_⟩
          rw [eqv_int]
          exact decide_eq_decide.mpr (by omega)
        · have ht : a.1 = p.ts.length - 1 - k := of_decide_eq_true ht
          walk_at "ev"
          refine od_ixL (i := (a.2 : Nat)) (li_at (by unfold rvp; rw [List.length_map, List.length_range]; omega)) ?_
          unfold rvp
          rw [rng_getD (by omega), if_pos (by omega)]
          exact ⟨rfl, rfl⟩
      · have hfl := List.length_filter_le (fun a : Nat × Nat => decide (a.1 = p.ts.length - 1 - k)) p.ar
        refine od_ofL (ol_cat (by rw [List.length_map]; show 1 + _ ≤ 100000; omega) ?_)
        rw [show [PyData.int 0] ++ (p.ar.filter fun a => decide (a.1 = p.ts.length - 1 - k)).map (fun a => PyData.int (rv p d a.2)) = (0 :: (p.ar.filter fun a => decide (a.1 = p.ts.length - 1 - k)).map fun a => rv p d a.2).map PyData.int by
          rw [List.map_cons, List.map_map]
          rfl]
        walk_at "ev"
        refine cb_max (by simp) fun m hm hle => ?_
        have hm0 : 0 ≤ m := hle 0 List.mem_cons_self
        have hme : rv p d (p.ts.length - 1 - k) = d.getD (p.ts.length - 1 - k) 0 + m := by
          refine rv_dp ok h0 (by omega) hm0 (fun x hx => hle _ (List.mem_cons_of_mem _ (List.mem_map.mpr ⟨(_, x), List.mem_filter.mpr ⟨mem_beh.mp hx, decide_eq_true rfl⟩, rfl⟩))) ?_
          rcases List.mem_cons.mp hm with z | z
          · exact .inl z
          · obtain ⟨⟨x, y⟩, hx, h2⟩ := List.mem_map.mp z
            obtain ⟨k1, k2⟩ := List.mem_filter.mp hx
            have k2 : x = p.ts.length - 1 - k := of_decide_eq_true k2
            subst k2
            exact .inr ⟨y, mem_beh.mpr k1, h2.symm⟩
        walk_at "ev"
        rw [← hme]
        refine ⟨rfl, ?_⟩
        walk_at "ev"
        refine ⟨_, p.ts.length - 1 - k, rfl, ixN_cast (by unfold rvp; rw [List.length_map, List.length_map, List.length_range]; omega), rfl, .dat (.int ((p.ts.length - 1 - k : Nat) : Int)), s4, s5, ?_⟩
        rw [du_set, rvp_set hi]
        rfl
    · rintro ρ n ⟨rfl, s3, s4, s5, rfl⟩
      refine run_ret (ev_var rfl ?_)
      rw [List.length_range]
      unfold rvp rvs liD
      rw [Nat.sub_self]
      rfl
theorem zipD_map {α : Type} (f g : α → PyData) : ∀ l : List α, zipD (l.map f) (l.map g) = l.map fun a => .tuple [f a, g a]
  | [] => rfl
  | a :: l => by
    rw [List.map_cons, List.map_cons, List.map_cons, zipD, zipD_map f g l]
theorem liD_svs (p : Pr) (d : List Int) : liD (svs p d) = .list ((List.range p.ts.length).map fun t => .int (sv p d t)) := by
  unfold liD svs
  rw [List.map_map]
  rfl
theorem liD_rvs (p : Pr) (d : List Int) : liD (rvs p d) = .list ((List.range p.ts.length).map fun t => .int (rv p d t)) := by
  unfold liD rvs
  rw [List.map_map]
  rfl
theorem liD_sls (p : Pr) (d : List Int) : liD (sls p d) = .list ((List.range p.ts.length).map fun t => .int (slk p d t)) := by
  unfold liD sls
  rw [List.map_map]
  rfl
theorem en_max {p : Pr} (ok : p.Ok) {d : List Int} (h0 : NN d) {m : Int} (hm : m ∈ (List.range p.ts.length).map fun t => sv p d t + rv p d t) (hle : ∀ y, y ∈ (List.range p.ts.length).map (fun t => sv p d t + rv p d t) → y ≤ m) : enV p d = m := by
  obtain ⟨t, ht, e⟩ := List.mem_map.mp hm
  have ht := List.mem_range.mp ht
  refine mv_of (end_of ok (f := fun t => sv p d t + rv p d t) (fun t ht => thru_of ok ht (sv_spec ok h0) (rv_spec ok h0 ht)) ⟨⟨t, ht, e⟩, fun s hs => hle _ (List.mem_map.mpr ⟨s, List.mem_range.mpr hs, rfl⟩)⟩)
theorem rng_ne {p : Pr} (ok : p.Ok) : List.range p.ts.length ≠ [] := fun h => by
  have := List.range_eq_nil.mp h
  have := ok.n1
  omega
abbrev S_slacks : Spec := fun ds R => ∃ p d, ds = [pjD p, duD d] ∧ p.Ok ∧ Dur p d ∧ R = (· = liD (sls p d))
abbrev N__law_slacks : List Str := ["_law_project", "_law_durations", "_law_first", "_law_rest", "_law_last", "_law_a", "_law_b"]
theorem sc__law_slacks : FnScope N__law_slacks ["_law_project", "_law_durations"] (defScope s__law_slacks) := ⟨rfl, rfl, rfl, by decide +kernel, rfl, by decide +kernel, by decide +kernel⟩
theorem ok__law_slacks (Rw : Raw K mg "_law_slacks" s__law_slacks ["_law_project", "_law_durations"]) (B : Bl mg)
    (D_law_starts : Def P w K mg base 1 "_law_starts" ["_law_project", "_law_durations"] (fsp S_starts))
    (D_law_rests : Def P w K mg base 1 "_law_rests" ["_law_project", "_law_durations"] (fsp S_rests)) :
    Def P w K mg base 2 "_law_slacks" ["_law_project", "_law_durations"] (fsp S_slacks) := by
  refine def_ok Rw sc__law_slacks (fun ds R h => ?_) fun f cdv A outer s H E hr => ⟨_, (pss_cons (ps_par (i := 2) (j := 3) rfl sc__law_slacks.nd rfl rfl (by decide) rfl rfl (pa_cons (pe_def D_law_starts (hr.mono (by first | decide | omega)) (by rfl) (pa_cons (pv 0) (pa_cons (pv 1) pa_nil))) (pa_cons (pe_def D_law_rests (hr.mono (by first | decide | omega)) (by rfl) (pa_cons (pv 0) (pa_cons (pv 1) pa_nil))) pa_nil)) (by rfl))
      (pss_cons (ps_set (i := 4) sc__law_slacks.nd rfl (Or.inr rfl) (pe_callB (k_max K rfl rfl) (by rfl) B.max bb_max (pa_cons (pe_lc rfl sc__law_slacks.nd (k_zip K rfl (by rfl) B.zip (pa_cons (pv 2) (pa_cons (pv 3) pa_nil))) (blkOk_by (own := [("_law_a", 5), ("_law_b", 6)]) (N := N__law_slacks) (sc := defScope s__law_slacks) (by decide +kernel)) (fun _ _ _ _ _ => (k_tup K rfl 2 rfl (pgs_cons (pg_name (i := 5) sc__law_slacks.nd rfl (Or.inl rfl)) (pgs_cons (pg_name (i := 6) sc__law_slacks.nd rfl (Or.inl rfl)) pgs_nil)))) (fun _ _ _ _ _ => pts_nil) (fun _ _ _ _ _ => (pe_op (k_add K rfl) (pv 5) (pv 6)))) pa_nil)))
      (pss_one (ps_ret (pe_lc rfl sc__law_slacks.nd (k_zip K rfl (by rfl) B.zip (pa_cons (pv 2) (pa_cons (pv 3) pa_nil))) (blkOk_by (own := [("_law_a", 5), ("_law_b", 6)]) (N := N__law_slacks) (sc := defScope s__law_slacks) (by decide +kernel)) (fun _ _ _ _ _ => (k_tup K rfl 2 rfl (pgs_cons (pg_name (i := 5) sc__law_slacks.nd rfl (Or.inl rfl)) (pgs_cons (pg_name (i := 6) sc__law_slacks.nd rfl (Or.inl rfl)) pgs_nil)))) (fun _ _ _ _ _ => pts_nil) (fun _ _ _ _ _ => (pe_op op_sub (pe_op op_sub (pv 4) (pv 5)) (pv 6)))))))), fun ds R h => ?_⟩
  · obtain ⟨p, d, rfl, _⟩ := h; rfl
  · obtain ⟨p, d, rfl, ok, hd, rfl⟩ := h
    have h6 := ok.n6
    have h0 := hd.nn ok
    refine run_seq (run_par ?_)
    walk_at "ev"
    refine ⟨_, ⟨p, d, rfl, ok, hd, rfl⟩, ?_⟩
    rintro _ rfl
    walk_at "ev"
    refine ⟨_, ⟨p, d, rfl, ok, hd, rfl⟩, ?_⟩
    rintro _ rfl
    rw [liD_svs, liD_rvs]
    refine run_seq (run_set ?_)
    walk_at "ev"
    refine ev_ofL (ev_lcB (fun t : Nat => .tuple [.int (sv p d t), .int (rv p d t)]) (ei_zip ?_))
    walk_at "ev"
    refine .inl ⟨_, _, rfl, List.range p.ts.length, zipD_map _ _ _, by rw [List.length_range]; omega, fun t => .int (sv p d t + rv p d t), fun t ht => ?_, ?_⟩
    · refine tg_tup rfl (tgs_cons (tg_name (by decide) (tgs_cons (tg_name (by decide) (tgs_nil ?_)))))
      walk_at "ev"
      exact ⟨rfl, rfl⟩
    · rw [show (List.range p.ts.length).map (fun t => PyData.int (sv p d t + rv p d t)) = ((List.range p.ts.length).map fun t => sv p d t + rv p d t).map PyData.int by rw [List.map_map]; rfl]
      walk_at "ev"
      refine cb_max (fun h => rng_ne ok (List.map_eq_nil_iff.mp h)) fun m hm hle => ?_
      have hme := en_max ok h0 hm hle
      rw [← hme]
      refine run_ret (ev_ofL (ev_lcB (fun t : Nat => .tuple [.int (sv p d t), .int (rv p d t)]) (ei_zip ?_)))
      walk_at "ev"
      refine .inl ⟨_, _, rfl, List.range p.ts.length, zipD_map _ _ _, by rw [List.length_range]; omega, fun t => .int (enV p d - sv p d t - rv p d t), fun t ht => ?_, ?_⟩
      · refine tg_tup rfl (tgs_cons (tg_name (by decide) (tgs_cons (tg_name (by decide) (tgs_nil ?_)))))
        walk_at "ev"
        exact ⟨rfl, rfl⟩
      · rw [liD_sls]
        congr 1
        refine List.map_congr_left fun t ht => ?_
        unfold slk
        rw [tv_eq ok h0 (List.mem_range.mp ht)]
        congr 1
        omega
abbrev S_fits : Spec := fun ds R => ∃ p d, ds = [pjD p, duD d] ∧ p.Ok ∧ Dur p d ∧ R = (· = .bool true)
theorem any_false {α : Type} (l : List α) : ((l.map fun _ => PyData.bool true).any fun z => PyData.eqv z (.bool false)) = false := by
  induction l with
  | nil => rfl
  | cons a l ih => rw [List.map_cons, List.any_cons, ih, eqv_bool]; rfl
abbrev N__law_fits : List Str := ["_law_project", "_law_value", "_law_one", "_law_low", "_law_high"]
theorem sc__law_fits : FnScope N__law_fits ["_law_project", "_law_value"] (defScope s__law_fits) := ⟨rfl, rfl, rfl, by decide +kernel, rfl, by decide +kernel, by decide +kernel⟩
theorem ok__law_fits (Rw : Raw K mg "_law_fits" s__law_fits ["_law_project", "_law_value"]) (B : Bl mg)
    (D_law_is_integer : Def P w K mg base 1 "_law_is_integer" ["_law_value"] (fsp S_isint)) :
    Def P w K mg base 2 "_law_fits" ["_law_project", "_law_value"] (fsp S_fits) := by
  refine def_ok Rw sc__law_fits (fun ds R h => ?_) fun f cdv A outer s H E hr => ⟨_, (pss_cons (ps_if (PW.pt (pw_or (pt_not (pt_val (pe_callB (k_isi K rfl) (by rfl) B.isinstance bb_isinstance (pa_cons (pv 1) (pa_cons (pe_bltn (v := .ty "tuple") (by rfl) B.tuple bb_tuple rfl) pa_nil))))) (pw_or1 (pt_cmpR (k_ne K rfl hr.units) (pe_callB (k_len K rfl) (by rfl) B.len bb_len (pa_cons (pv 1) pa_nil)) (pe_callB (k_len K rfl) (by rfl) B.len bb_len (pa_cons (pe_ix (k_ix K rfl) (pv 0) pe_int (fun _ _ => rfl)) pa_nil)) (nomark _))))) (pss_one (ps_ret pe_bl)) pss_nil)
      (pss_one (ps_ret (pe_cmpR (k_ni K rfl (u65 hr)) pe_bl (pe_lc rfl sc__law_fits.nd (k_zip K rfl (by rfl) B.zip (pa_cons (pv 1) (pa_cons (pe_ix (k_ix K rfl) (pv 0) pe_int (fun _ _ => rfl)) pa_nil))) (blkOk_by (own := [("_law_one", 2), ("_law_low", 3), ("_law_high", 4)]) (N := N__law_fits) (sc := defScope s__law_fits) (by decide +kernel)) (fun _ _ _ _ _ => (k_tup K rfl 2 rfl (pgs_cons (pg_name (i := 2) sc__law_fits.nd rfl (Or.inl rfl)) (pgs_cons (k_tup K rfl 2 rfl (pgs_cons (pg_name (i := 3) sc__law_fits.nd rfl (Or.inl rfl)) (pgs_cons (pg_name (i := 4) sc__law_fits.nd rfl (Or.inl rfl)) pgs_nil))) pgs_nil)))) (fun _ _ _ _ _ => pts_nil) (fun _ _ _ _ _ => (pe_and (pe_def D_law_is_integer (hr.mono (by first | decide | omega)) (by rfl) (pa_cons (pv 2) pa_nil)) (pe_one (pe_chain op_le op_le (pv 3) (pv 2) (pv 4)))))) (by rfl))))), fun ds R h => ?_⟩
  · obtain ⟨p, d, rfl, _⟩ := h; rfl
  · obtain ⟨p, d, rfl, ok, hd, rfl⟩ := h
    have h6 := ok.n6
    have hdl := hd.l
    refine run_seq (run_if (et_or (et_not (et_B (ev_isi ?_)))))
    walk_at "ev"
    refine ⟨true, rfl, true, rfl, ?_⟩
    rw [if_neg (by decide)]
    walk_at "ev"
    refine cb_lenT ?_
    walk_at "ev"
    refine cb_lenT ?_
    refine od_neD sh_int sh_int ⟨_, rfl, ?_⟩
    rw [eqv_int, List.length_map, List.length_map, hdl, decide_eq_true rfl, if_neg (by decide)]
    refine run_next (run_ret ?_)
    walk_at "ev"
    have ez : zipD (d.map PyData.int) (p.ts.map bdD) = (List.range p.ts.length).map fun t => .tuple [.int (d.getD t 0), bdD (p.ts.getD t (0, 0))] := by
      rw [← zipD_map]
      congr 1
      · refine List.ext_getElem? fun i => ?_
        rw [List.getElem?_map, List.getElem?_map]
        by_cases hi : i < p.ts.length
        · rw [List.getElem?_range hi, getD_some (by omega)]
          rfl
        · rw [List.getElem?_eq_none (by omega), List.getElem?_eq_none (by rw [List.length_range]; omega)]
          rfl
      · refine List.ext_getElem? fun i => ?_
        rw [List.getElem?_map, List.getElem?_map]
        by_cases hi : i < p.ts.length
        · rw [List.getElem?_range hi, List.getElem?_eq_getElem hi]
          show _ = some (bdD (p.ts.getD i (0, 0)))
          rw [List.getD_eq_getElem?_getD, List.getElem?_eq_getElem hi]
          rfl
        · rw [List.getElem?_eq_none (by omega), List.getElem?_eq_none (by rw [List.length_range]; omega)]
          rfl
    refine ev_ofL (ev_lcB (fun t : Nat => .tuple [.int (d.getD t 0), bdD (p.ts.getD t (0, 0))]) (ei_zip ?_))
    walk_at "ev"
    refine .inr ⟨_, _, rfl, List.range p.ts.length, ez, by rw [List.length_range]; omega, fun t => .bool true, fun t ht => ?_, ?_⟩
    · have ht := List.mem_range.mp ht
      have hb := hd.b t (p.ts.getD t (0, 0)) (by rw [List.getD_eq_getElem?_getD, List.getElem?_eq_getElem ht]; rfl)
      refine tg_tup rfl (tgs_cons (tg_name (by decide) (tgs_cons (tg_tup rfl (tgs_cons (tg_name (by decide) (tgs_cons (tg_name (by decide) (tgs_nil (tgs_nil ?_))))))))))
      walk_at "ev"
      refine ⟨_, ⟨_, rfl, rfl⟩, ?_⟩
      rintro _ rfl
      refine ⟨true, rfl, ?_⟩
      rw [if_pos rfl]
      walk_at "ev"
      refine ⟨true, od_I0 (fun _ => .bl _) (by rw [decide_eq_true hb.1]), ?_⟩
      rw [if_pos rfl]
      walk_at "ev"
      exact ⟨rfl, by rw [decide_eq_true hb.2]⟩
    · refine od_uNiL sh_bool ((okd_lst (k := 0) (okd_map fun _ _ => okd_bool)).sh (by decide)) ?_
      rw [any_false]
      rfl
end
end AC
set_option Elab.async false
set_option linter.all false
set_option maxRecDepth 100000
set_option maxHeartbeats 1000000
namespace AC
open PySem PySem.Spec PyProof.Rows L2
local macro_rules | `(tactic| walk_at "sh") => `(tactic| first | exact sh_int | exact sh_bool | exact sh_none | exact okd_du.sh (by decide) | exact okd_li.sh (by decide) | exact okd_pt.sh (by decide) | exact okd_ar.sh (by decide) | exact okd_ps.sh (by decide) | exact okd_na.sh (by decide) | exact (okd_tup (okd_map fun _ _ => okd_int)).sh (by decide) | exact (okd_tup (okd_map fun _ _ => okd_ar)).sh (by decide) | exact (okd_lst (okd_map fun _ _ => okd_du)).sh (by decide) | exact (okd_lst (okd_map fun _ _ => okd_ar)).sh (by decide))
local macro_rules | `(tactic| walk_at "e1") => `(tactic| first | with_reducible refine ev_int ?_ | with_reducible refine ev_non ?_ | with_reducible refine ev_bl ?_ | with_reducible refine ev_str ?_ | with_reducible refine ea_nil ?_ | with_reducible refine ea_cons ?_ | with_reducible refine ev_op ?_ | with_reducible refine ev_call ?_ | with_reducible refine ev_cb ?_ | with_reducible refine ev_tup ?_ | with_reducible refine ev_if ?_ | with_reducible refine et_test ?_ | with_reducible refine et_B ?_ | with_reducible refine ev_isB ?_ | with_reducible refine ev_ntB ?_ | with_reducible refine ev_un ?_ | with_reducible refine ev_chain ?_ | with_reducible refine ev_andV ?_ | with_reducible refine ev_orV ?_ | with_reducible refine ev_notV ?_ | with_reducible refine et_and ?_ | with_reducible refine et_or ?_ | with_reducible refine et_not ?_ | refine ev_var rfl ?_ | refine od_add ?_ | refine od_I0 (fun _ => .int _) ?_ | refine od_I0 (fun _ => .bl _) ?_ | refine od_ixT at_0 ?_ | refine od_ixT at_1 ?_)
local macro_rules | `(tactic| walk_at "ev") => `(tactic| (walk_at "e1"; repeat walk_at "e1"))

section
variable {P : Program} {w : World} {K : PySem.W.Frag} {mg : Str → Option Value} {base : Heap}
theorem okd_bd {a : Int × Int} : OkD 1 (bdD a) := okd_tup fun x hx => by
  rcases List.mem_cons.mp hx with rfl | hx
  · exact okd_int
  · rcases List.mem_cons.mp hx with rfl | hx
    · exact okd_int
    · cases hx
theorem eqv_bd (a b : Int × Int) : PyData.eqv (bdD a) (bdD b) = decide (a = b) := by
  obtain ⟨a1, a2⟩ := a
  obtain ⟨b1, b2⟩ := b
  unfold bdD
  simp only [PyData.eqv, PyData.eqvAll]
  by_cases h1 : a1 = b1
  · by_cases h2 : a2 = b2
    · subst h1 h2; simp
    · have : ((a2 : Int) == (b2 : Int)) = false := beq_eq_false_iff_ne.mpr h2
      simp [this, h2]
  · have : ((a1 : Int) == (b1 : Int)) = false := beq_eq_false_iff_ne.mpr h1
    simp [this, h1]
theorem eqv_bds (a b : List (Int × Int)) : PyData.eqv (.list (a.map bdD)) (.list (b.map bdD)) = decide (a = b) := by
  simp only [PyData.eqv]
  exact eqvAll_map bdD (fun a b => decide (a = b)) eqv_bd (fun a b => decide_eq_true_iff) a b
noncomputable def rowD (p : Pr) (d : List Int) : PyData := .tuple [liD (svs p d), liD (sls p d)]
structure All (p : Pr) (L : List (List Int)) : Prop where
  ok : p.Ok
  few : L.length ≤ 5000
  ne : L ≠ []
  mem : ∀ d, d ∈ L ↔ Dur p d
theorem liMap {α : Type} (L : List α) (v : α → Int) : PyData.list (L.map fun d => .int (v d)) = liD (L.map v) := by
  unfold liD
  rw [List.map_map]
  rfl
theorem sv_at' {p : Pr} {d : List Int} {t : Nat} (ht : t < p.ts.length) : L2.atI ((svs p d).map PyData.int) (t : Int) = some (.int (sv p d t)) := by
  rw [li_at (by unfold svs; rw [List.length_map, List.length_range]; exact ht)]
  unfold svs
  rw [rng_getD ht]
theorem sl_at' {p : Pr} {d : List Int} {t : Nat} (ht : t < p.ts.length) : L2.atI ((sls p d).map PyData.int) (t : Int) = some (.int (slk p d t)) := by
  rw [li_at (by unfold sls; rw [List.length_map, List.length_range]; exact ht)]
  unfold sls
  rw [rng_getD ht]
theorem any_li (l : List Int) (t : Int) : ((l.map PyData.int).any fun z => PyData.eqv z (.int t)) = decide (t ∈ l) := any_map PyData.int eqv_int l t
theorem any_dus (l : List (List Int)) (t : List Int) : ((l.map duD).any fun z => PyData.eqv z (duD t)) = decide (t ∈ l) := (any_map duD eqv_du l t).trans (decide_eq_decide.mpr Iff.rfl)
theorem okd_dus {l : List (List Int)} : OkD 2 (.list (l.map duD)) := okd_lst (okd_map fun _ _ => okd_du)
theorem okd_bds {l : List (Int × Int)} : OkD 2 (.list (l.map bdD)) := okd_lst (okd_map fun _ _ => okd_bd)
theorem FdD.none_iff {p : Pr} {C : List Int → Prop} {x : PyData} (h : FdD p C x) : noneB x = true ↔ ∀ d, Dur p d → ¬ C d := by
  rw [h.isNone]
  exact dec_eq
theorem FdD.some' {p : Pr} {C : List Int → Prop} {x : PyData} (h : FdD p C x) (h2 : noneB x = false) : ∃ d, x = duD d ∧ Dur p d ∧ C d := by
  rcases h with ⟨rfl, _⟩ | h
  · cases h2
  · exact h
theorem bool_iff {a b : Bool} (h : a = true ↔ b = true) : a = b := by
  cases a <;> cases b <;> simp_all
theorem dur_le {p : Pr} (ok : p.Ok) {d : List Int} (h : Dur p d) (i : Nat) : d.getD i 0 ≤ 100 := by
  cases e : p.ts[i]? with
  | none =>
    have l1 : p.ts.length ≤ i := List.getElem?_eq_none_iff.mp e
    rw [List.getD_eq_getElem?_getD, List.getElem?_eq_none (by rw [h.l]; exact l1)]
    decide
  | some b =>
    have := (h.b i b e).2
    have := (ok.bd b (List.mem_of_getElem? e)).2.2.2
    omega
theorem len_le {p : Pr} (ok : p.Ok) {d : List Int} (h : Dur p d) : ∀ q : List Nat, len d q ≤ 100 * (q.length : Int)
  | [] => Int.le_refl _
  | a :: q => by
    rw [len_cons, List.length_cons]
    have := dur_le ok h a
    have := len_le ok h q
    omega
theorem en_le {p : Pr} (ok : p.Ok) {d : List Int} (h : Dur p d) : enV p d ≤ 600 := by
  obtain ⟨⟨q, h1, h2⟩, _⟩ := en_spec ok (h.nn ok)
  have h3 := len_le ok h q
  have h4 := nd_len _ q (h1.mem ok).2.1 (h1.mem ok).1
  have := ok.n6
  omega
theorem slk_le {p : Pr} (ok : p.Ok) {d : List Int} (h : Dur p d) {t : Nat} (ht : t < p.ts.length) : slk p d t ≤ 600 := by
  unfold slk
  have := en_le ok h
  have := (tv_spec ok (h.nn ok) ht).nn (h.nn ok)
  omega
abbrev S_islater : Spec := fun ds R => ∃ p d i j, ds = [pjD p, duD d, .int (i : Nat), .int (j : Nat)] ∧ p.Ok ∧ Dur p d ∧ i < p.ts.length ∧ j < p.ts.length ∧ R = (· = .bool (decide (sv p d i > sv p d j)))
abbrev N__law_is_later : List Str := ["_law_project", "_law_durations", "_law_i", "_law_j", "_law_first"]
theorem sc__law_is_later : FnScope N__law_is_later ["_law_project", "_law_durations", "_law_i", "_law_j"] (defScope s__law_is_later) := ⟨rfl, rfl, rfl, by decide +kernel, rfl, by decide +kernel, by decide +kernel⟩
theorem ok__law_is_later (Rw : Raw K mg "_law_is_later" s__law_is_later ["_law_project", "_law_durations", "_law_i", "_law_j"]) (B : Bl mg)
    (D_law_starts : Def P w K mg base 1 "_law_starts" ["_law_project", "_law_durations"] (fsp S_starts)) :
    Def P w K mg base 2 "_law_is_later" ["_law_project", "_law_durations", "_law_i", "_law_j"] (fsp S_islater) := by
  refine def_ok Rw sc__law_is_later (fun ds R h => ?_) fun f cdv A outer s H E hr => ⟨_, (pss_cons (ps_set (i := 4) sc__law_is_later.nd rfl (Or.inl rfl) (pe_def D_law_starts (hr.mono (by first | decide | omega)) (by rfl) (pa_cons (pv 0) (pa_cons (pv 1) pa_nil))))
      (pss_one (ps_ret (pe_cmpR op_gt (pe_ix (k_ix K rfl) (pv 4) (pv 2) (fun _ _ => rfl)) (pe_ix (k_ix K rfl) (pv 4) (pv 3) (fun _ _ => rfl)) (nomark _))))), fun ds R h => ?_⟩
  · obtain ⟨p, d, i, j, rfl, _⟩ := h; rfl
  · obtain ⟨p, d, i, j, rfl, ok, hd, hi, hj, rfl⟩ := h
    refine run_seq (run_set ?_)
    walk_at "ev"
    refine ⟨_, ⟨p, d, rfl, ok, hd, rfl⟩, ?_⟩
    rintro _ rfl
    refine run_ret ?_
    walk_at "ev"
    refine od_ixL (i := (i : Nat)) (sv_at' hi) ?_
    walk_at "ev"
    refine od_ixL (i := (j : Nat)) (sv_at' hj) ?_
    walk_at "ev"
    rfl
/-- the checks of a found -/
theorem chk_found {pn : Option Pen} {ρ : En} {n i : Nat} {p : Pr} {L : List (List Int)} {t : Nat} {x : PyData} {C : List Int → Prop} {r2 : R2} {c : Int → Bool} {PT : Bool → Nat → Prop} {E : XK} {ig : Nat} {g : Int} (ha : All p L) (ht : t < p.ts.length) (hx : FdD p C x) (hi : ρ[i]? = some (.dat x)) (h0 : ρ[0]? = some (.dat (pjD p))) (h1 : ρ[1]? = some (.dat (.int (t : Nat)))) (h2 : ρ[2]? = some (.dat (.list (L.map duD)))) (hg : ρ[ig]? = some (.dat (.int g)))
    (hr : ∀ (d : List Int) (P : PyData → Prop), P (.bool (c (slk p d t))) → OpD r2 (.int (slk p d t)) (.int g) P) (hc : ∀ d, Dur p d → C d → c (slk p d t) = false) (k : PT false n) :
    EvT pn (tAnd (tB (tNotN (tVar i))) (tOr (tTest (tOp (uNi K) (tVar i) (tVar 2))) (tTest (tOp r2 (tOp (rIx K) (tCall (fsp S_slacks) [] E (tCons (tVar 0) (tCons (tVar i) tNil))) (tVar 1)) (tVar ig))))) ρ n PT := by
  refine et_and (et_B (ev_ntB (ev_var hi ?_)))
  refine ⟨!noneB x, rfl, ?_⟩
  cases hn : noneB x with
  | true => exact k
  | false =>
    obtain ⟨d, rfl, hd, hC⟩ := hx.some' hn
    rw [if_pos (by decide)]
    refine et_or (et_test (ev_op (ev_var hi (ev_var h2 ?_))))
    refine od_uNiL (okd_du.sh (by decide)) (okd_dus.sh (by decide)) ⟨_, rfl, ?_⟩
    rw [any_dus, decide_eq_true ((ha.mem d).mpr hd), if_neg (by decide)]
    refine et_test (ev_op (ev_op (ev_call (ea_cons (ev_var h0 (ea_cons (ev_var hi (ea_nil ?_))))))))
    refine ⟨_, ⟨p, d, rfl, ha.ok, hd, rfl⟩, ?_⟩
    rintro _ rfl
    refine ev_var h1 ?_
    refine od_ixL (i := (t : Nat)) (sl_at' ht) ?_
    refine ev_var hg (hr d _ ⟨_, rfl, ?_⟩)
    rw [hc d hd hC]
    exact k
abbrev S_taskr : Spec := fun ds R => ∃ p t L, ds = [pjD p, .int (t : Nat), .list (L.map duD), .list (L.map (rowD p))] ∧ All p L ∧ t < p.ts.length ∧ R = (· = .bool true)
abbrev N__law_task_right : List Str := ["_law_project", "_law_task", "_law_some", "_law_rows", "_law_first", "_law_free", "_law_row", "_law_late", "_law_a", "_law_b", "_law_told", "_law_slack", "_law_found", "_law_g", "_law_little", "_law_much"]
theorem sc__law_task_right : FnScope N__law_task_right ["_law_project", "_law_task", "_law_some", "_law_rows"] (defScope s__law_task_right) := ⟨rfl, rfl, rfl, by decide +kernel, rfl, by decide +kernel, by decide +kernel⟩
theorem ok__law_task_right (Rw : Raw K mg "_law_task_right" s__law_task_right ["_law_project", "_law_task", "_law_some", "_law_rows"]) (B : Bl mg)
    (D_law_slacks : Def P w K mg base 2 "_law_slacks" ["_law_project", "_law_durations"] (fsp S_slacks))
    (Dfind_much : Def P w K mg base 11 "find_much" ["project", "task", "g"] (fsp S_much))
    (Dfind_little : Def P w K mg base 11 "find_little" ["project", "task", "g"] (fsp S_little))
    (Dfind_slack : Def P w K mg base 11 "find_slack" ["project", "task", "slack"] (fsp S_fslack))
    (D_law_ends_of : Def P w K mg base 1 "_law_ends_of" ["_law_numbers"] (fsp S_ends))
    (Dlatest_range : Def P w K mg base 10 "latest_range" ["project", "task"] (fsp S_latest))
    (Dslack_range : Def P w K mg base 11 "slack_range" ["project", "task"] (fsp S_slackR))
    (Dstart_range : Def P w K mg base 8 "start_range" ["project", "task"] (fsp S_start)) :
    Def P w K mg base 12 "_law_task_right" ["_law_project", "_law_task", "_law_some", "_law_rows"] (fsp S_taskr) := by
  refine def_ok Rw sc__law_task_right (fun ds R h => ?_) fun f cdv A outer s H E hr => ⟨_, (pss_cons (ps_par (i := 4) (j := 5) rfl sc__law_task_right.nd rfl rfl (by decide) rfl rfl (pa_cons (pe_lc rfl sc__law_task_right.nd (k_seq K rfl (pv 3)) (blkOk_by (own := [("_law_row", 6)]) (N := N__law_task_right) (sc := defScope s__law_task_right) (by decide +kernel)) (fun _ _ _ _ _ => (pg_name (i := 6) sc__law_task_right.nd rfl (Or.inl rfl))) (fun _ _ _ _ _ => pts_nil) (fun _ _ _ _ _ => (pe_ix (k_ix K rfl) (pe_ix (k_ix K rfl) (pv 6) pe_int (fun _ _ => rfl)) (pv 1) (fun _ _ => rfl)))) (pa_cons (pe_lc rfl sc__law_task_right.nd (k_seq K rfl (pv 3)) (blkOk_by (own := [("_law_row", 6)]) (N := N__law_task_right) (sc := defScope s__law_task_right) (by decide +kernel)) (fun _ _ _ _ _ => (pg_name (i := 6) sc__law_task_right.nd rfl (Or.inl rfl))) (fun _ _ _ _ _ => pts_nil) (fun _ _ _ _ _ => (pe_ix (k_ix K rfl) (pe_ix (k_ix K rfl) (pv 6) pe_int (fun _ _ => rfl)) (pv 1) (fun _ _ => rfl)))) pa_nil)) (by rfl))
      (pss_cons (ps_setLc (i := 7) rfl sc__law_task_right.nd rfl rfl (sw_true rfl rfl rfl (by decide +kernel)) (k_zip K rfl (by rfl) B.zip (pa_cons (pv 4) (pa_cons (pv 5) pa_nil))) (blkOk_by (own := [("_law_a", 8), ("_law_b", 9)]) (N := N__law_task_right) (sc := defScope s__law_task_right) (by decide +kernel)) (fun _ _ _ _ _ => (k_tup K rfl 2 rfl (pgs_cons (pg_name (i := 8) sc__law_task_right.nd rfl (Or.inl rfl)) (pgs_cons (pg_name (i := 9) sc__law_task_right.nd rfl (Or.inl rfl)) pgs_nil)))) (fun _ _ _ _ _ => pts_nil) (fun _ _ _ _ _ => (pe_op (k_add K rfl) (pv 8) (pv 9))))
      (pss_cons (ps_set (i := 10) sc__law_task_right.nd rfl (Or.inl rfl) (pe_lst (pa_cons (pe_def Dstart_range (hr.mono (by first | decide | omega)) (by rfl) (pa_cons (pv 0) (pa_cons (pv 1) pa_nil))) (pa_cons (pe_def Dslack_range (hr.mono (by first | decide | omega)) (by rfl) (pa_cons (pv 0) (pa_cons (pv 1) pa_nil))) (pa_cons (pe_def Dlatest_range (hr.mono (by first | decide | omega)) (by rfl) (pa_cons (pv 0) (pa_cons (pv 1) pa_nil))) pa_nil)))))
      (pss_cons (ps_if (pt_cmpR (k_ne K rfl hr.units) (pv 10) (pe_lst (pa_cons (pe_def D_law_ends_of (hr.mono (by first | decide | omega)) (by rfl) (pa_cons (pv 4) pa_nil)) (pa_cons (pe_def D_law_ends_of (hr.mono (by first | decide | omega)) (by rfl) (pa_cons (pv 5) pa_nil)) (pa_cons (pe_def D_law_ends_of (hr.mono (by first | decide | omega)) (by rfl) (pa_cons (pv 7) pa_nil)) pa_nil)))) (nomark _)) (pss_one (ps_ret pe_bl)) pss_nil)
      (pss_cons (ps_for PassesOwn.never rfl (pi_range2 (by rfl) B.range (pa_cons (pe_op op_sub (pe_callB (k_min K rfl rfl) (by rfl) B.min bb_min (pa_cons (pv 5) pa_nil)) pe_int) (pa_cons (pe_op (k_add K rfl) (pe_callB (k_max K rfl rfl) (by rfl) B.max bb_max (pa_cons (pv 5) pa_nil)) pe_int) pa_nil))) (pg_name (i := 11) sc__law_task_right.nd rfl (Or.inl rfl)) (pss_cons (ps_set (i := 12) sc__law_task_right.nd rfl (Or.inl rfl) (pe_def Dfind_slack (hr.mono (by first | decide | omega)) (by rfl) (pa_cons (pv 0) (pa_cons (pv 1) (pa_cons (pv 11) pa_nil)))))
      (pss_cons (ps_if (pt_cmpR (k_ne K rfl hr.units) (pe_cmp (pc_isN (pv 12)) rfl) (pe_cmpR (k_ni K rfl (u65 hr)) (pv 11) (pv 5) (by rfl)) (nomark _)) (pss_one (ps_ret pe_bl)) pss_nil)
      (pss_one (ps_if (PW.pt (pw_and (pt_cmp (pc_notN (pv 12)) rfl) (pw_and1 (PW.pt (pw_or (pt_cmpR (k_ni K rfl (u65 hr)) (pv 12) (pv 2) (by rfl)) (pw_or1 (pt_cmpR (k_ne K rfl hr.units) (pe_ix (k_ix K rfl) (pe_def D_law_slacks (hr.mono (by first | decide | omega)) (by rfl) (pa_cons (pv 0) (pa_cons (pv 12) pa_nil))) (pv 1) (fun _ _ => rfl)) (pv 11) (nomark _)))))))) (pss_one (ps_ret pe_bl)) pss_nil)))))
      (pss_cons (ps_for PassesOwn.never rfl (k_seq K rfl (pe_op (k_add K rfl) (pe_lst (pa_cons pe_int pa_nil)) (pe_listRg rfl (by rfl) B.list (prg_2 (by rfl) B.range (pe_callB (k_min K rfl rfl) (by rfl) B.min bb_min (pa_cons (pv 5) pa_nil)) (pe_op (k_add K rfl) (pe_callB (k_max K rfl rfl) (by rfl) B.max bb_max (pa_cons (pv 5) pa_nil)) pe_int))))) (pg_name (i := 13) sc__law_task_right.nd rfl (Or.inl rfl)) (pss_cons (ps_par (i := 14) (j := 15) rfl sc__law_task_right.nd rfl rfl (by decide) rfl rfl (pa_cons (pe_def Dfind_little (hr.mono (by first | decide | omega)) (by rfl) (pa_cons (pv 0) (pa_cons (pv 1) (pa_cons (pv 13) pa_nil)))) (pa_cons (pe_def Dfind_much (hr.mono (by first | decide | omega)) (by rfl) (pa_cons (pv 0) (pa_cons (pv 1) (pa_cons (pv 13) pa_nil)))) pa_nil)) (by rfl))
      (pss_cons (ps_if (PW.pt (pw_or (pt_cmpR (k_ne K rfl hr.units) (pe_cmp (pc_isN (pv 14)) rfl) (pe_cmpR op_gt (pe_callB (k_min K rfl rfl) (by rfl) B.min bb_min (pa_cons (pv 5) pa_nil)) (pv 13) (nomark _)) (nomark _)) (pw_or1 (pt_cmpR (k_ne K rfl hr.units) (pe_cmp (pc_isN (pv 15)) rfl) (pe_cmpR op_le (pe_callB (k_max K rfl rfl) (by rfl) B.max bb_max (pa_cons (pv 5) pa_nil)) (pv 13) (nomark _)) (nomark _))))) (pss_one (ps_ret pe_bl)) pss_nil)
      (pss_cons (ps_if (PW.pt (pw_and (pt_cmp (pc_notN (pv 14)) rfl) (pw_and1 (PW.pt (pw_or (pt_cmpR (k_ni K rfl (u65 hr)) (pv 14) (pv 2) (by rfl)) (pw_or1 (pt_cmpR op_gt (pe_ix (k_ix K rfl) (pe_def D_law_slacks (hr.mono (by first | decide | omega)) (by rfl) (pa_cons (pv 0) (pa_cons (pv 14) pa_nil))) (pv 1) (fun _ _ => rfl)) (pv 13) (nomark _)))))))) (pss_one (ps_ret pe_bl)) pss_nil)
      (pss_one (ps_if (PW.pt (pw_and (pt_cmp (pc_notN (pv 15)) rfl) (pw_and1 (PW.pt (pw_or (pt_cmpR (k_ni K rfl (u65 hr)) (pv 15) (pv 2) (by rfl)) (pw_or1 (pt_cmpR op_le (pe_ix (k_ix K rfl) (pe_def D_law_slacks (hr.mono (by first | decide | omega)) (by rfl) (pa_cons (pv 0) (pa_cons (pv 15) pa_nil))) (pv 1) (fun _ _ => rfl)) (pv 13) (nomark _)))))))) (pss_one (ps_ret pe_bl)) pss_nil))))))
      (pss_one (ps_ret pe_bl)))))))), fun ds R h => ?_⟩
  · obtain ⟨p, t, L, rfl, _⟩ := h; rfl
  · obtain ⟨p, t, L, rfl, ha, ht, rfl⟩ := h
    have ok := ha.ok
    have hL := ha.few
    have nn : ∀ d, d ∈ L → NN d := fun d hd => ((ha.mem d).mp hd).nn ok
    refine run_seq (run_par (ev_ofL (ev_lcB (rowD p) (ei_list ?_))))
    walk_at "ev"
    refine ⟨_, rfl, L, rfl, by omega, fun d => .int (sv p d t), fun d hd => ?_, ?_⟩
    · refine tg_name (by decide) ?_
      walk_at "ev"
      refine od_ixL (i := (t : Nat)) (sv_at' ht) ?_
      exact ⟨rfl, rfl⟩
    refine ev_ofL (ev_lcB (rowD p) (ei_list ?_))
    walk_at "ev"
    refine ⟨_, rfl, L, rfl, by omega, fun d => .int (slk p d t), fun d hd => ?_, ?_⟩
    · refine tg_name (by decide) ?_
      walk_at "ev"
      refine od_ixL (i := (t : Nat)) (sl_at' ht) ?_
      exact ⟨rfl, rfl⟩
    refine run_seq (run_set (ev_ofL (ev_lcB (fun d => .tuple [.int (sv p d t), .int (slk p d t)]) (ei_zip ?_))))
    walk_at "ev"
    refine .inl ⟨_, _, rfl, L, zipD_map _ _ _, by omega, fun d => .int (sv p d t + slk p d t), fun d hd => ?_, ?_⟩
    · refine tg_tup rfl (tgs_cons (tg_name (by decide) (tgs_cons (tg_name (by decide) (tgs_nil ?_)))))
      walk_at "ev"
      exact ⟨rfl, rfl⟩
    rw [liMap, liMap, liMap]
    have lne : ∀ v : List Int → Int, L.map v ≠ [] := fun v h => ha.ne (List.map_eq_nil_iff.mp h)
    refine run_seq (run_set (ev_ofL (ev_lst ?_)))
    walk_at "ev"
    refine ⟨_, ⟨p, t, rfl, ok, ht, rfl⟩, ?_⟩
    rintro _ ⟨a1, b1, rfl, h1⟩
    walk_at "ev"
    refine ⟨_, ⟨p, t, rfl, ok, ht, rfl⟩, ?_⟩
    rintro _ ⟨a2, b2, rfl, h2⟩
    walk_at "ev"
    refine ⟨_, ⟨p, t, rfl, ok, ht, rfl⟩, ?_⟩
    rintro _ ⟨a3, b3, rfl, h3⟩
    walk_at "ev"
    refine ⟨by simp, ?_⟩
    refine run_seq (run_if ?_)
    walk_at "ev"
    refine ev_ofL (ev_lst ?_)
    walk_at "ev"
    refine ⟨_, ⟨_, rfl, lne _, rfl⟩, ?_⟩
    rintro _ ⟨c1, e1, rfl, i1, i2, i3, i4⟩
    walk_at "ev"
    refine ⟨_, ⟨_, rfl, lne _, rfl⟩, ?_⟩
    rintro _ ⟨c2, e2, rfl, j1, j2, j3, j4⟩
    walk_at "ev"
    refine ⟨_, ⟨_, rfl, lne _, rfl⟩, ?_⟩
    rintro _ ⟨c3, e3, rfl, k1, k2, k3, k4⟩
    walk_at "ev"
    refine ⟨by simp, ?_⟩
    have q1 := h1.eq ha.mem i1 i2 i3 i4
    have q2 := h2.eq ha.mem j1 j2 j3 j4
    have hm3 : L.map (fun d => sv p d t + slk p d t) = L.map fun d => enV p d - rv p d t := List.map_congr_left fun d hd => by
      unfold slk
      rw [tv_eq ok (nn d hd) ht]
      omega
    rw [hm3] at k1 k2 k3 k4
    have q3 := h3.eq ha.mem k1 k2 k3 k4
    obtain ⟨rfl, rfl⟩ := q1
    obtain ⟨rfl, rfl⟩ := q2
    obtain ⟨rfl, rfl⟩ := q3
    refine od_neD (a := .list ([(a1, b1), (a2, b2), (a3, b3)].map bdD)) (b := .list ([(a1, b1), (a2, b2), (a3, b3)].map bdD)) (okd_bds.sh (by decide)) (okd_bds.sh (by decide)) ⟨_, rfl, ?_⟩
    rw [eqv_bds, decide_eq_true rfl, if_neg (by decide)]
    refine run_next ?_
    refine run_seq (run_forA (fun k : Nat => .int (a2 - 1 + (k : Int))) (ei_rng2 ?_))
    walk_at "ev"
    refine cb_min (lne _) fun m hm hm' => ?_
    walk_at "ev"
    refine cb_max (lne _) fun M hM hM' => ?_
    have eqm : m = a2 := by have := hm' _ j1; have := j2 _ hm; omega
    have eqM : M = b2 := by have := hM' _ j3; have := j4 _ hM; omega
    subst eqm eqM
    walk_at "ev"
    have slk0 : ∀ d, d ∈ L → 0 ≤ slk p d t := fun d hd => by
      unfold slk
      have := tv_le ok (nn d hd) ht
      omega
    have mn0 : 0 ≤ m := by
      obtain ⟨d, hd, rfl⟩ := List.mem_map.mp hm
      exact slk0 d hd
    have Mx : M ≤ 600 := by
      obtain ⟨d, hd, rfl⟩ := List.mem_map.mp hM
      exact slk_le ok ((ha.mem d).mp hd) ht
    have hmM := hm' _ hM
    refine ⟨_, _, rfl, by omega, List.range (M + 2 - (m - 1)).toNat, rfl, fun i ρ n => n = 0 ∧ ∃ s6 s8 s9 s10 s11 s12 s13 s14 s15, ρ = [.dat (pjD p), .dat (.int (t : Nat)), .dat (.list (L.map duD)), .dat (.list (L.map (rowD p))), .dat (liD (L.map fun d => sv p d t)), .dat (liD (L.map fun d => slk p d t)), s6, .dat (liD (L.map fun d => sv p d t + slk p d t)), s8, s9, s10, s11, s12, s13, s14, s15], ⟨rfl, _, _, _, _, _, _, _, _, _, rfl⟩, ?_, ?_⟩
    · rintro i k ρ n hk ⟨rfl, s6, s8, s9, s10, s11, s12, s13, s14, s15, rfl⟩
      refine tg_name (by decide) ?_
      refine run_seq (run_set ?_)
      walk_at "ev"
      refine ⟨_, ⟨p, t, _, rfl, ok, ht, rfl⟩, fun x hx => ?_⟩
      refine run_seq (run_if ?_)
      walk_at "ev"
      refine od_uNiL sh_int (okd_li.sh (by decide)) ?_
      refine od_neD sh_bool sh_bool ⟨_, rfl, ?_⟩
      rw [any_li, eqv_bool]
      have hb : noneB x = !decide (m - 1 + (k : Int) ∈ L.map fun d => slk p d t) := by
        refine bool_iff (hx.none_iff.trans ?_)
        rw [Bool.not_eq_true', decide_eq_false_iff_not, List.mem_map]
        constructor
        · rintro h ⟨d, hd, e⟩; exact h d ((ha.mem d).mp hd) e
        · intro h d hd e; exact h ⟨d, (ha.mem d).mpr hd, e⟩
      rw [if_neg (by rw [hb]; simp)]
      refine run_next ?_
      refine run_if ?_
      refine chk_found (c := fun a => !decide (a = m - 1 + (k : Int))) (x := x) ha ht hx rfl rfl rfl rfl rfl (fun d P hP => od_neD sh_int sh_int (by rw [eqv_int]; exact hP)) (fun d hd hC => by
        have : slk p d t = m - 1 + (k : Int) := hC
        simp [this]) ?_
      rw [if_neg (by decide)]
      exact run_next ⟨rfl, s6, s8, s9, s10, .dat (.int (m - 1 + (k : Int))), .dat x, s13, s14, s15, rfl⟩
    · rintro ρ n ⟨rfl, s6, s8, s9, s10, s11, s12, s13, s14, s15, rfl⟩
      refine run_seq (run_forA PyData.int (ei_list (ev_ofL (ev_opL ?_))))
      refine ev_ofL (ev_lst ?_)
      walk_at "ev"
      refine ⟨by simp, ev_ofL (ev_lstRg ?_)⟩
      walk_at "ev"
      refine cb_min (lne _) fun m2 hm2 hm2' => ?_
      walk_at "ev"
      refine cb_max (lne _) fun M2 hM2 hM2' => ?_
      have eqm2 : m2 = m := by have := hm2' _ hm; have := hm' _ hm2; omega
      have eqM2 : M2 = M := by have := hM2' _ hM; have := hM' _ hM2; omega
      subst eqm2 eqM2
      walk_at "ev"
      refine ⟨_, _, rfl, rfl, by omega, by omega, by omega, by omega, ol_cat ?_ ⟨_, rfl, 0 :: (List.range (M2 + 1 - m2).toNat).map fun k : Nat => m2 + (k : Int), ?_, fun i ρ n => n = 0 ∧ ∃ s6 s8 s9 s10 s11 s12 s13 s14 s15, ρ = [.dat (pjD p), .dat (.int (t : Nat)), .dat (.list (L.map duD)), .dat (.list (L.map (rowD p))), .dat (liD (L.map fun d => sv p d t)), .dat (liD (L.map fun d => slk p d t)), s6, .dat (liD (L.map fun d => sv p d t + slk p d t)), s8, s9, s10, s11, s12, s13, s14, s15], ⟨rfl, _, _, _, _, _, _, _, _, _, rfl⟩, ?_, ?_⟩⟩
      · unfold rgD
        rw [List.length_map, List.length_range]
        show 1 + _ ≤ 100000
        omega
      · rw [List.map_cons, List.map_map]
        rfl
      · rintro i g ρ n hk ⟨rfl, s6, s8, s9, s10, s11, s12, s13, s14, s15, rfl⟩
        refine tg_name (by decide) ?_
        refine run_seq (run_par ?_)
        walk_at "ev"
        refine ⟨_, ⟨p, t, _, rfl, ok, ht, rfl⟩, fun x hx => ?_⟩
        walk_at "ev"
        refine ⟨_, ⟨p, t, _, rfl, ok, ht, rfl⟩, fun y hy => ?_⟩
        have hbx : noneB x = decide (g < m2) := by
          refine bool_iff (hx.none_iff.trans ?_)
          rw [decide_eq_true_iff]
          constructor
          · intro h
            obtain ⟨d, hd, e⟩ := List.mem_map.mp hm
            have := h d ((ha.mem d).mp hd)
            unfold slk at e
            omega
          · intro h d hd hc
            have := hm' _ (List.mem_map.mpr ⟨d, (ha.mem d).mpr hd, rfl⟩)
            unfold slk at this
            omega
        have hby : noneB y = decide (M2 ≤ g) := by
          refine bool_iff (hy.none_iff.trans ?_)
          rw [decide_eq_true_iff]
          constructor
          · intro h
            obtain ⟨d, hd, e⟩ := List.mem_map.mp hM
            have := h d ((ha.mem d).mp hd)
            unfold slk at e
            omega
          · intro h d hd hc
            have := hM' _ (List.mem_map.mpr ⟨d, (ha.mem d).mpr hd, rfl⟩)
            unfold slk at this
            omega
        refine run_seq (run_if ?_)
        walk_at "ev"
        refine cb_min (lne _) fun m3 hm3 hm3' => ?_
        have eqm3 : m3 = m2 := by have := hm3' _ hm; have := hm' _ hm3; omega
        subst eqm3
        walk_at "ev"
        refine od_neD sh_bool sh_bool ⟨_, rfl, ?_⟩
        rw [eqv_bool, hbx, if_neg (by simp)]
        walk_at "ev"
        refine cb_max (lne _) fun M3 hM3 hM3' => ?_
        have eqM3 : M3 = M2 := by have := hM3' _ hM; have := hM' _ hM3; omega
        subst eqM3
        walk_at "ev"
        refine od_neD sh_bool sh_bool ⟨_, rfl, ?_⟩
        rw [eqv_bool, hby, if_neg (by simp)]
        refine run_next ?_
        refine run_seq (run_if ?_)
        refine chk_found (c := fun a => decide (g < a)) (x := x) ha ht hx rfl rfl rfl rfl rfl (fun d P hP => od_I0 (fun _ => .bl _) hP) (fun d hd hC => by
          have : slk p d t ≤ g := hC
          rw [decide_eq_false]
          omega) ?_
        rw [if_neg (by decide)]
        refine run_next ?_
        refine run_if ?_
        refine chk_found (c := fun a => decide (a ≤ g)) (x := y) ha ht hy rfl rfl rfl rfl rfl (fun d P hP => od_I0 (fun _ => .bl _) hP) (fun d hd hC => by
          have : ¬ slk p d t ≤ g := hC
          rw [decide_eq_false]
          omega) ?_
        rw [if_neg (by decide)]
        exact run_next ⟨rfl, s6, s8, s9, s10, s11, s12, .dat (.int g), .dat x, .dat y, rfl⟩
      · rintro ρ n ⟨rfl, s6, s8, s9, s10, s11, s12, s13, s14, s15, rfl⟩
        refine run_ret ?_
        walk_at "ev"
        rfl
end
end AC
set_option Elab.async false
set_option linter.all false
set_option maxRecDepth 100000
set_option maxHeartbeats 1000000
namespace AC
open PySem PySem.Spec PyProof.Rows L2
local macro_rules | `(tactic| walk_at "sh") => `(tactic| first | exact sh_int | exact sh_bool | exact sh_none | exact okd_du.sh (by decide) | exact okd_li.sh (by decide) | exact okd_pt.sh (by decide) | exact okd_ar.sh (by decide) | exact okd_ps.sh (by decide) | exact okd_na.sh (by decide) | exact (okd_tup (okd_map fun _ _ => okd_int)).sh (by decide) | exact (okd_tup (okd_map fun _ _ => okd_ar)).sh (by decide) | exact (okd_lst (okd_map fun _ _ => okd_du)).sh (by decide) | exact (okd_lst (okd_map fun _ _ => okd_ar)).sh (by decide))
local macro_rules | `(tactic| walk_at "e1") => `(tactic| first | with_reducible refine ev_int ?_ | with_reducible refine ev_non ?_ | with_reducible refine ev_bl ?_ | with_reducible refine ev_str ?_ | with_reducible refine ea_nil ?_ | with_reducible refine ea_cons ?_ | with_reducible refine ev_op ?_ | with_reducible refine ev_call ?_ | with_reducible refine ev_cb ?_ | with_reducible refine ev_tup ?_ | with_reducible refine ev_if ?_ | with_reducible refine et_test ?_ | with_reducible refine et_B ?_ | with_reducible refine ev_isB ?_ | with_reducible refine ev_ntB ?_ | with_reducible refine ev_un ?_ | with_reducible refine ev_chain ?_ | with_reducible refine ev_andV ?_ | with_reducible refine ev_orV ?_ | with_reducible refine ev_notV ?_ | with_reducible refine et_and ?_ | with_reducible refine et_or ?_ | with_reducible refine et_not ?_ | refine ev_var rfl ?_ | refine od_add ?_ | refine od_I0 (fun _ => .int _) ?_ | refine od_I0 (fun _ => .bl _) ?_ | refine od_ixT at_0 ?_ | refine od_ixT at_1 ?_)
local macro_rules | `(tactic| walk_at "ev") => `(tactic| (walk_at "e1"; repeat walk_at "e1"))

section
variable {P : Program} {w : World} {K : PySem.W.Frag} {mg : Str → Option Value} {base : Heap}
theorem any_bools (l : List Bool) (b : Bool) : ((l.map PyData.bool).any fun z => PyData.eqv z (.bool b)) = decide (b ∈ l) := (any_map PyData.bool (fun a b => by rw [eqv_bool]; cases a <;> cases b <;> rfl) l b).trans (decide_eq_decide.mpr Iff.rfl)
theorem okd_bools {l : List Bool} : OkD 1 (.list (l.map PyData.bool)) := okd_lst (okd_map fun _ _ => okd_bool)
theorem en_of_paths {p : Pr} (ok : p.Ok) {ws : List (List Nat)} (hq : ∀ q, q ∈ ws ↔ Whole p q) {d : List Int} {m : Int} (hm : m ∈ ws.map (len d)) (hle : ∀ y, y ∈ ws.map (len d) → y ≤ m) : enV p d = m := by
  obtain ⟨q, h1, h2⟩ := List.mem_map.mp hm
  exact mv_of ⟨⟨q, (hq q).mp h1, h2⟩, fun r hr => hle _ (List.mem_map.mpr ⟨r, (hq r).mpr hr, rfl⟩)⟩
abbrev S_pivots : Spec := fun ds R => ∃ p t ws L, ds = [psD ws, .list (L.map duD), .int (t : Nat)] ∧ All p L ∧ t < p.ts.length ∧ ws.length ≤ 64 ∧ (∀ q, q ∈ ws ↔ Whole p q) ∧ R = (· = woD p (fun d => Piv p d t))
abbrev N__law_pivots : List Str := ["_law_paths_here", "_law_some", "_law_task", "_law_words", "_law_durations", "_law_sizes", "_law_one", "_law_path", "_law_size"]
theorem sc__law_pivots : FnScope N__law_pivots ["_law_paths_here", "_law_some", "_law_task"] (defScope s__law_pivots) := ⟨rfl, rfl, rfl, by decide +kernel, rfl, by decide +kernel, by decide +kernel⟩
theorem ok__law_pivots (Rw : Raw K mg "_law_pivots" s__law_pivots ["_law_paths_here", "_law_some", "_law_task"]) (B : Bl mg) :
    Def P w K mg base 1 "_law_pivots" ["_law_paths_here", "_law_some", "_law_task"] (fsp S_pivots) := by
  refine def_ok Rw sc__law_pivots (fun ds R h => ?_) fun f cdv A outer s H E hr => ⟨_, (pss_cons (ps_set (i := 3) sc__law_pivots.nd rfl (Or.inl rfl) (pe_lst pa_nil))
      (pss_cons (ps_for PassesOwn.never rfl (k_seq K rfl (pv 1)) (pg_name (i := 4) sc__law_pivots.nd rfl (Or.inr rfl)) (pss_cons (ps_set (i := 5) sc__law_pivots.nd rfl (Or.inr rfl) (pe_lc rfl sc__law_pivots.nd (k_seq K rfl (pv 0)) (blkOk_by (own := [("_law_path", 7)]) (N := N__law_pivots) (sc := defScope s__law_pivots) (by decide +kernel)) (fun _ _ _ _ _ => (pg_name (i := 7) sc__law_pivots.nd rfl (Or.inl rfl))) (fun _ _ _ _ _ => pts_nil) (fun _ _ _ _ _ => (pe_callB (k_sum K rfl rfl) (by rfl) B.sum bb_sum (pa_cons (pe_lc rfl sc__law_pivots.nd (k_seq K rfl (pv 7)) (blkOk_by (own := [("_law_one", 6)]) (N := N__law_pivots) (sc := relS _ (defScope s__law_pivots)) (by decide +kernel)) (fun _ _ _ _ _ => (pg_name (i := 6) sc__law_pivots.nd rfl (Or.inl rfl))) (fun _ _ _ _ _ => pts_nil) (fun _ _ _ _ _ => (pe_ix (k_ix K rfl) (pv 4) (pv 6) (fun _ _ => rfl)))) pa_nil)))))
      (pss_one (ps_expr (k_bm K rfl PySem.F.plainAttrs_list PySem.F.slot_list_append PySem.F.type_list_append mt_append (pv 3) (pa_cons (pe_cmpR (k_ni K rfl (u65 hr)) pe_bl (pe_lc rfl sc__law_pivots.nd (k_zip K rfl (by rfl) B.zip (pa_cons (pv 0) (pa_cons (pv 5) pa_nil))) (blkOk_by (own := [("_law_path", 7), ("_law_size", 8)]) (N := N__law_pivots) (sc := defScope s__law_pivots) (by decide +kernel)) (fun _ _ _ _ _ => (k_tup K rfl 2 rfl (pgs_cons (pg_name (i := 7) sc__law_pivots.nd rfl (Or.inl rfl)) (pgs_cons (pg_name (i := 8) sc__law_pivots.nd rfl (Or.inl rfl)) pgs_nil)))) (fun _ _ _ _ _ => pts_one (pt_cmpR (k_eq K rfl hr.units) (pv 8) (pe_callB (k_max K rfl rfl) (by rfl) B.max bb_max (pa_cons (pv 5) pa_nil)) (nomark _))) (fun _ _ _ _ _ => (pe_cmpR (k_in K rfl (u65 hr)) (pv 2) (pv 7) (by rfl)))) (by rfl)) pa_nil))))))
      (pss_one (ps_ret (pe_ifExp (pt_cmpR (k_ni K rfl (u65 hr)) pe_bl (pv 3) (by rfl)) pe_str (pe_ix (k_ix K rfl) (pe_lst (pa_cons pe_str (pa_cons pe_str pa_nil))) (pe_callTy call_int1 (by rfl) B.int bb_int (pa_cons (pe_cmpR (k_in K rfl (u65 hr)) pe_bl (pv 3) (by rfl)) pa_nil)) (fun _ _ => rfl))))))), fun ds R h => ?_⟩
  · obtain ⟨p, t, ws, L, rfl, _⟩ := h; rfl
  · obtain ⟨p, t, ws, L, rfl, ha, ht, hl, hq, rfl⟩ := h
    have ok := ha.ok
    have hL := ha.few
    have gw := gp_whole ok hl hq
    refine run_seq (run_own (ev_lst (ea_nil ⟨by decide, ?_⟩)))
    refine run_seq (run_forA duD (ei_list ?_))
    walk_at "ev"
    refine ⟨_, rfl, L, rfl, fun i ρ n => n = 0 ∧ ∃ s4 s5 s6 s7 s8, ρ = [.dat (psD ws), .dat (.list (L.map duD)), .dat (.int (t : Nat)), .own (((L.take i).map fun d => dec (Piv p d t)).map PyData.bool), s4, s5, s6, s7, s8], ⟨rfl, _, _, _, _, _, rfl⟩, ?_, ?_⟩
    · rintro i d ρ n hd ⟨rfl, s4, s5, s6, s7, s8, rfl⟩
      have hdL : d ∈ L := List.mem_of_getElem? hd
      have hdur := (ha.mem d).mp hdL
      refine tg_name (by decide) ?_
      refine run_seq (run_set (ev_ofL (ev_lcB ptD (ei_list ?_))))
      walk_at "ev"
      refine ⟨_, rfl, ws, rfl, by omega, fun q => .int (AC.len d q), fun q hqm => ?_, ?_⟩
      · refine tg_name (by decide) ?_
        walk_at "ev"
        refine ev_ofL (ev_lcB (fun e : Nat => .int (e : Int)) (ei_tup ?_))
        walk_at "ev"
        have := gw.len ok q hqm
        refine ⟨_, rfl, q, rfl, by omega, fun e => .int (d.getD e 0), fun e he => ?_, ?_⟩
        · refine tg_name (by decide) ?_
          walk_at "ev"
          refine od_ixT (i := (e : Nat)) (atI_du (by rw [hdur.l]; exact gw.lt q hqm e he)) ?_
          exact ⟨rfl, rfl⟩
        · rw [show q.map (fun e => PyData.int (d.getD e 0)) = (q.map fun e => d.getD e 0).map PyData.int by rw [List.map_map]; rfl]
          walk_at "ev"
          refine cb_sum ?_
          exact ⟨rfl, rfl⟩
      refine run_app rfl ?_
      walk_at "ev"
      refine ev_ofL (ev_lcA (fun q => .tuple [ptD q, .int (AC.len d q)]) (ei_zip ?_))
      walk_at "ev"
      refine .inl ⟨_, _, rfl, ws, zipD_map _ _ _, by omega, fun q => decide (AC.len d q = enV p d), fun q => .bool (decide (t ∈ q)), fun q hqm => ?_, ?_⟩
      · refine tg_tup rfl (tgs_cons (tg_name (by decide) (tgs_cons (tg_name (by decide) (tgs_nil ⟨?_, fun _ => ?_⟩)))))
        · walk_at "ev"
          rw [liMap]
          refine cb_max (fun h => gw.ne (List.map_eq_nil_iff.mp h)) fun m hm hle => ?_
          rw [← en_of_paths ok hq hm hle]
          refine od_eqD sh_int sh_int ⟨_, rfl, rfl, ?_⟩
          rw [eqv_int]
        · walk_at "ev"
          refine od_uInT sh_int (okd_pt.sh (by decide)) ⟨rfl, ?_⟩
          rw [any_na q t]
      · rw [show ((ws.filter fun q => decide (AC.len d q = enV p d)).map fun q => PyData.bool (decide (t ∈ q))) = ((ws.filter fun q => decide (AC.len d q = enV p d)).map fun q => decide (t ∈ q)).map PyData.bool by rw [List.map_map]; rfl]
        refine od_uNiL sh_bool (okd_bools.sh (by decide)) ?_
        rw [any_bools]
        have hb : (!decide (false ∈ (ws.filter fun q => decide (AC.len d q = enV p d)).map fun q => decide (t ∈ q))) = dec (Piv p d t) := by
          refine bool_iff ?_
          rw [dec_eq, Bool.not_eq_true', decide_eq_false_iff_not, List.mem_map]
          constructor
          · intro h q hw he
            refine Classical.byContradiction fun hn => h ⟨q, List.mem_filter.mpr ⟨(hq q).mpr hw, decide_eq_true he⟩, decide_eq_false hn⟩
          · rintro h ⟨q, h1, h2⟩
            obtain ⟨h3, h4⟩ := List.mem_filter.mp h1
            exact (of_decide_eq_false h2) (h q ((hq q).mp h3) (of_decide_eq_true h4))
        rw [hb]
        refine ⟨by rw [List.length_map, List.length_map, List.length_take]; omega, rfl, .dat (duD d), .dat (.list (ws.map fun q => .int (AC.len d q))), s6, s7, s8, ?_⟩
        rw [take_succ hd, List.map_append, List.map_append]
        rfl
    · rintro ρ n ⟨rfl, s4, s5, s6, s7, s8, rfl⟩
      rw [List.take_length]
      refine run_ret ?_
      walk_at "ev"
      refine od_uNiL sh_bool (okd_bools.sh (by decide)) ⟨_, rfl, ?_⟩
      rw [any_bools]
      have h1 : (!decide (true ∈ L.map fun d => dec (Piv p d t))) = dec (∀ d, Dur p d → ¬ Piv p d t) := by
        refine bool_iff ?_
        rw [dec_eq, Bool.not_eq_true', decide_eq_false_iff_not, List.mem_map]
        constructor
        · intro h d hd hp; exact h ⟨d, (ha.mem d).mpr hd, dec_of hp⟩
        · rintro h ⟨d, hd, e⟩; exact h d ((ha.mem d).mp hd) (dec_eq.mp e)
      have h2 : (!decide (false ∈ L.map fun d => dec (Piv p d t))) = dec (∀ d, Dur p d → Piv p d t) := by
        refine bool_iff ?_
        rw [dec_eq, Bool.not_eq_true', decide_eq_false_iff_not, List.mem_map]
        constructor
        · intro h d hd
          refine Classical.byContradiction fun hp => h ⟨d, (ha.mem d).mpr hd, dec_not hp⟩
        · rintro h ⟨d, hd, e⟩
          rw [dec_of (h d ((ha.mem d).mp hd))] at e
          cases e
      rw [h1]
      unfold woD wdD
      cases hd1 : dec (∀ d, Dur p d → ¬ Piv p d t) with
      | true =>
        rw [if_pos rfl]
        walk_at "ev"
        rfl
      | false =>
        rw [if_neg (by decide)]
        refine ev_op (ev_ofL (ev_lst ?_))
        walk_at "ev"
        refine ⟨by simp, ?_⟩
        walk_at "ev"
        refine od_uInL sh_bool (okd_bools.sh (by decide)) ?_
        rw [any_bools]
        walk_at "ev"
        refine cb_intB ?_
        cases hc : decide (false ∈ L.map fun d => dec (Piv p d t)) with
        | true =>
          rw [hc] at h2
          rw [← h2]
          exact od_ixL at_1 rfl
        | false =>
          rw [hc] at h2
          rw [← h2]
          exact od_ixL at_0 rfl
theorem eqv_ars (a b : List (Nat × Nat)) : PyData.eqv (.list (a.map arD)) (.list (b.map arD)) = decide (a = b) := by
  simp only [PyData.eqv]
  exact eqvAll_map arD (fun a b => decide (a = b)) eqv_ar (fun a b => decide_eq_true_iff) a b
theorem okd_ars {l : List (Nat × Nat)} : OkD 2 (.list (l.map arD)) := okd_lst (okd_map fun _ _ => okd_ar)
abbrev S_arrowsr : Spec := fun ds R => ∃ p L, ds = [pjD p, .list (L.map duD)] ∧ All p L ∧ R = (· = .bool true)
abbrev N__law_arrows_right : List Str := ["_law_project", "_law_some", "_law_due", "_law_arrow", "_law_other", "_law_one", "_law_durations"]
theorem sc__law_arrows_right : FnScope N__law_arrows_right ["_law_project", "_law_some"] (defScope s__law_arrows_right) := ⟨rfl, rfl, rfl, by decide +kernel, rfl, by decide +kernel, by decide +kernel⟩
theorem ok__law_arrows_right (Rw : Raw K mg "_law_arrows_right" s__law_arrows_right ["_law_project", "_law_some"]) (B : Bl mg)
    (Dneedless_arrows : Def P w K mg base 9 "needless_arrows" ["project"] (fsp S_needless))
    (D_law_starts : Def P w K mg base 1 "_law_starts" ["_law_project", "_law_durations"] (fsp S_starts)) :
    Def P w K mg base 10 "_law_arrows_right" ["_law_project", "_law_some"] (fsp S_arrowsr) := by
  refine def_ok Rw sc__law_arrows_right (fun ds R h => ?_) fun f cdv A outer s H E hr => ⟨_, (pss_cons (ps_set (i := 2) sc__law_arrows_right.nd rfl (Or.inl rfl) (pe_lst pa_nil))
      (pss_cons (ps_for PassesOwn.never rfl (k_seq K rfl (pe_ix (k_ix K rfl) (pv 0) pe_int (fun _ _ => rfl))) (pg_name (i := 3) sc__law_arrows_right.nd rfl (Or.inr rfl)) (pss_cons (ps_set (i := 4) sc__law_arrows_right.nd rfl (Or.inr rfl) (pe_tup (pa_cons (pe_ix (k_ix K rfl) (pv 0) pe_int (fun _ _ => rfl)) (pa_cons (pe_callTy (k_tuple K rfl) (by rfl) B.tuple bb_tuple (pa_cons (pe_lc rfl sc__law_arrows_right.nd (k_seq K rfl (pe_ix (k_ix K rfl) (pv 0) pe_int (fun _ _ => rfl))) (blkOk_by (own := [("_law_one", 5)]) (N := N__law_arrows_right) (sc := defScope s__law_arrows_right) (by decide +kernel)) (fun _ _ _ _ _ => (pg_name (i := 5) sc__law_arrows_right.nd rfl (Or.inl rfl))) (fun _ _ _ _ _ => pts_one (pt_cmpR (k_ne K rfl hr.units) (pv 5) (pv 3) (nomark _))) (fun _ _ _ _ _ => (pv 5))) pa_nil)) pa_nil))))
      (pss_one (ps_if (pt_cmpR (k_ni K rfl (u65 hr)) pe_bl (pe_lc rfl sc__law_arrows_right.nd (k_seq K rfl (pv 1)) (blkOk_by (own := [("_law_durations", 6)]) (N := N__law_arrows_right) (sc := defScope s__law_arrows_right) (by decide +kernel)) (fun _ _ _ _ _ => (pg_name (i := 6) sc__law_arrows_right.nd rfl (Or.inl rfl))) (fun _ _ _ _ _ => pts_nil) (fun _ _ _ _ _ => (pe_cmpR (k_eq K rfl hr.units) (pe_def D_law_starts (hr.mono (by first | decide | omega)) (by rfl) (pa_cons (pv 0) (pa_cons (pv 6) pa_nil))) (pe_def D_law_starts (hr.mono (by first | decide | omega)) (by rfl) (pa_cons (pv 4) (pa_cons (pv 6) pa_nil))) (nomark _)))) (by rfl)) (pss_one (ps_expr (k_bm K rfl PySem.F.plainAttrs_list PySem.F.slot_list_append PySem.F.type_list_append mt_append (pv 2) (pa_cons (pv 3) pa_nil)))) pss_nil))))
      (pss_one (ps_ret (pe_cmpR (k_eq K rfl hr.units) (pe_def Dneedless_arrows (hr.mono (by first | decide | omega)) (by rfl) (pa_cons (pv 0) pa_nil)) (pv 2) (nomark _)))))), fun ds R h => ?_⟩
  · obtain ⟨p, L, rfl, _⟩ := h; rfl
  · obtain ⟨p, L, rfl, ha, rfl⟩ := h
    have ok := ha.ok
    have hL := ha.few
    have hf := ok.few
    refine run_seq (run_own (ev_lst (ea_nil ⟨by decide, ?_⟩)))
    refine run_seq (run_forA arD (ei_tup ?_))
    walk_at "ev"
    refine ⟨_, rfl, p.ar, rfl, fun i ρ n => n = 0 ∧ ∃ s3 s4 s5 s6, ρ = [.dat (pjD p), .dat (.list (L.map duD)), .own (((p.ar.take i).filter fun a => dec (Ndl p a)).map arD), s3, s4, s5, s6], ⟨rfl, _, _, _, _, rfl⟩, ?_, ?_⟩
    · rintro i a ρ n hi ⟨rfl, s3, s4, s5, s6, rfl⟩
      have ham : a ∈ p.ar := List.mem_of_getElem? hi
      refine tg_name (by decide) ?_
      refine run_seq (run_set ?_)
      walk_at "ev"
      refine ev_ofL (ev_lcA arD (ei_tup ?_))
      walk_at "ev"
      refine ⟨_, rfl, p.ar, rfl, by omega, fun b => !decide (b = a), fun b => arD b, fun b hb => ?_, ?_⟩
      · refine tg_name (by decide) ⟨?_, fun _ => ?_⟩
        · walk_at "ev"
          refine od_neD (okd_ar.sh (by decide)) (okd_ar.sh (by decide)) ⟨_, rfl, rfl, ?_⟩
          rw [eqv_ar]
        · walk_at "ev"
          exact ⟨rfl, rfl⟩
      walk_at "ev"
      refine cb_tupL ?_
      walk_at "ev"
      refine ⟨by simp, ?_⟩
      have tw := cut_twin ok a
      refine run_if ?_
      walk_at "ev"
      refine ev_ofL (ev_lcB duD (ei_list ?_))
      walk_at "ev"
      refine ⟨_, rfl, L, rfl, by omega, fun d => .bool (decide (svs p d = svs (cut p a) d)), fun d hd => ?_, ?_⟩
      · refine tg_name (by decide) ?_
        have hdur := (ha.mem d).mp hd
        walk_at "ev"
        refine ⟨_, ⟨p, d, rfl, ok, hdur, rfl⟩, ?_⟩
        rintro _ rfl
        walk_at "ev"
        refine ⟨_, ⟨cut p a, d, rfl, tw.ok', tw.dur hdur, rfl⟩, ?_⟩
        rintro _ rfl
        refine od_eqD (okd_li.sh (by decide)) (okd_li.sh (by decide)) ⟨rfl, ?_⟩
        rw [eqv_li]
      · rw [show (L.map fun d => PyData.bool (decide (svs p d = svs (cut p a) d))) = (L.map fun d => decide (svs p d = svs (cut p a) d)).map PyData.bool by rw [List.map_map]; rfl]
        refine od_uNiL sh_bool (okd_bools.sh (by decide)) ⟨_, rfl, ?_⟩
        rw [any_bools]
        have hb : (!decide (false ∈ L.map fun d => decide (svs p d = svs (cut p a) d))) = dec (Ndl p a) := by
          refine bool_iff ?_
          rw [dec_eq, Bool.not_eq_true', decide_eq_false_iff_not, List.mem_map]
          constructor
          · intro h d hd
            have he : svs p d = svs (cut p a) d := Classical.byContradiction fun hn => h ⟨d, (ha.mem d).mpr hd, decide_eq_false hn⟩
            obtain ⟨x, y⟩ := a
            refine (cut_same ok hd ham).mpr ?_
            have hxy := ok.ar _ ham
            have hj : sv p d y = sv (cut p (x, y)) d y := by
              have e2 := congrArg (fun l => l.getD y 0) he
              have e3 : (svs p d).getD y 0 = sv p d y := rng_getD hxy.2
              have e4 : (svs (cut p (x, y)) d).getD y 0 = sv (cut p (x, y)) d y := rng_getD hxy.2
              rw [← e3, ← e4]
              exact e2
            rw [← hj]
            exact sv_ge ok (hd.nn ok) (mem_bef.mpr ham)
          · rintro h ⟨d, hd, e⟩
            refine (of_decide_eq_false e) ?_
            unfold svs
            exact List.map_congr_left fun t _ => h d ((ha.mem d).mp hd) t
        rw [hb]
        have e5 : ((p.ar.take (i + 1)).filter fun a => dec (Ndl p a)) = ((p.ar.take i).filter fun a => dec (Ndl p a)) ++ if dec (Ndl p a) = true then [a] else [] := by
          rw [take_succ hi, List.filter_append, List.filter_cons]
          split <;> rfl
        have hlen : (((p.ar.take i).filter fun a => dec (Ndl p a)).map arD).length < 100000 := by
          rw [List.length_map]
          have := List.length_filter_le (fun a => dec (Ndl p a)) (p.ar.take i)
          rw [List.length_take] at this
          omega
        cases hc : dec (Ndl p a) with
        | true =>
          rw [if_pos rfl]
          refine run_app rfl ?_
          walk_at "ev"
          refine ⟨hlen, rfl, .dat (arD a), .dat (pjD (cut p a)), s5, s6, ?_⟩
          rw [e5, hc, if_pos rfl, List.map_append]
          rfl
        | false =>
          rw [if_neg (by decide)]
          refine run_next ⟨rfl, .dat (arD a), .dat (pjD (cut p a)), s5, s6, ?_⟩
          rw [e5, hc, if_neg (by decide), List.append_nil]
          rfl
    · rintro ρ n ⟨rfl, s3, s4, s5, s6, rfl⟩
      rw [List.take_length]
      refine run_ret ?_
      walk_at "ev"
      refine ⟨_, ⟨p, rfl, ok, rfl⟩, ?_⟩
      rintro _ rfl
      walk_at "ev"
      refine od_eqD (okd_ars.sh (by decide)) (okd_ars.sh (by decide)) ?_
      rw [eqv_ars, decide_eq_true rfl]
end
end AC
set_option Elab.async false
set_option linter.all false
set_option maxRecDepth 100000
set_option maxHeartbeats 1000000
namespace AC
open PySem PySem.Spec PyProof.Rows L2
local macro_rules | `(tactic| walk_at "sh") => `(tactic| first | exact sh_int | exact sh_bool | exact sh_none | exact okd_du.sh (by decide) | exact okd_li.sh (by decide) | exact okd_pt.sh (by decide) | exact okd_ar.sh (by decide) | exact okd_ps.sh (by decide) | exact okd_na.sh (by decide) | exact (okd_tup (okd_map fun _ _ => okd_int)).sh (by decide) | exact (okd_tup (okd_map fun _ _ => okd_ar)).sh (by decide) | exact (okd_lst (okd_map fun _ _ => okd_du)).sh (by decide) | exact (okd_lst (okd_map fun _ _ => okd_ar)).sh (by decide))
local macro_rules | `(tactic| walk_at "e1") => `(tactic| first | with_reducible refine ev_int ?_ | with_reducible refine ev_non ?_ | with_reducible refine ev_bl ?_ | with_reducible refine ev_str ?_ | with_reducible refine ea_nil ?_ | with_reducible refine ea_cons ?_ | with_reducible refine ev_op ?_ | with_reducible refine ev_call ?_ | with_reducible refine ev_cb ?_ | with_reducible refine ev_tup ?_ | with_reducible refine ev_if ?_ | with_reducible refine et_test ?_ | with_reducible refine et_B ?_ | with_reducible refine ev_isB ?_ | with_reducible refine ev_ntB ?_ | with_reducible refine ev_un ?_ | with_reducible refine ev_chain ?_ | with_reducible refine ev_andV ?_ | with_reducible refine ev_orV ?_ | with_reducible refine ev_notV ?_ | with_reducible refine et_and ?_ | with_reducible refine et_or ?_ | with_reducible refine et_not ?_ | refine ev_var rfl ?_ | refine od_add ?_ | refine od_I0 (fun _ => .int _) ?_ | refine od_I0 (fun _ => .bl _) ?_ | refine od_ixT at_0 ?_ | refine od_ixT at_1 ?_)
local macro_rules | `(tactic| walk_at "ev") => `(tactic| (walk_at "e1"; repeat walk_at "e1"))

section
variable {P : Program} {w : World} {K : PySem.W.Frag} {mg : Str → Option Value} {base : Heap}
/-- the pairs of i with the tasks before j -/
noncomputable def fiJ (p : Pr) (i j : Nat) : List (Nat × Nat) := ((List.range j).filter fun k => decide (i ≠ k) && dec (Nev p i k)).map fun k => (i, k)
theorem fiJ_succ (p : Pr) (i j : Nat) : fiJ p i (j + 1) = fiJ p i j ++ if (decide (i ≠ j) && dec (Nev p i j)) = true then [(i, j)] else [] := by
  unfold fiJ
  rw [List.range_succ, List.filter_append, List.map_append, List.filter_cons]
  split <;> rfl
theorem fiJ_len (p : Pr) (i j : Nat) : (fiJ p i j).length ≤ j := by
  unfold fiJ
  rw [List.length_map]
  exact Nat.le_trans (List.length_filter_le _ _) (by rw [List.length_range]; exact Nat.le_refl _)
noncomputable def fisI (p : Pr) (i : Nat) : List (Nat × Nat) := ((List.range i).map (fiP p)).flatten
theorem fisI_succ (p : Pr) (i : Nat) : fisI p (i + 1) = fisI p i ++ fiJ p i p.ts.length := by
  unfold fisI
  rw [List.range_succ, List.map_append, List.flatten_append]
  show _ ++ List.flatten [_] = _
  rw [List.flatten_cons, List.flatten_nil, List.append_nil]
  rfl
theorem fisI_len {p : Pr} (ok : p.Ok) {i : Nat} (hi : i ≤ p.ts.length) : (fisI p i).length ≤ 36 := by
  have h6 := ok.n6
  have h1 := flat_len (l := (List.range i).map (fiP p)) (B := p.ts.length) (fun x hx => by
    obtain ⟨y, _, rfl⟩ := List.mem_map.mp hx
    exact fiP_len p y)
  rw [List.length_map, List.length_range] at h1
  have h2 : i * p.ts.length ≤ 6 * 6 := Nat.mul_le_mul (by omega) h6
  exact Nat.le_trans h1 h2
theorem eqv_bd' (a b c d : Int) : PyData.eqv (.tuple [.int a, .int b]) (bdD (c, d)) = decide ((a, b) = (c, d)) := eqv_bd (a, b) (c, d)
abbrev S_pairsr : Spec := fun ds R => ∃ p L, ds = [pjD p, .list (L.map (rowD p))] ∧ All p L ∧ R = (· = .bool true)
abbrev N__law_pairs_right : List Str := ["_law_project", "_law_rows", "_law_due", "_law_i", "_law_j", "_law_gaps", "_law_row", "_law_told"]
theorem sc__law_pairs_right : FnScope N__law_pairs_right ["_law_project", "_law_rows"] (defScope s__law_pairs_right) := ⟨rfl, rfl, rfl, by decide +kernel, rfl, by decide +kernel, by decide +kernel⟩
theorem ok__law_pairs_right (Rw : Raw K mg "_law_pairs_right" s__law_pairs_right ["_law_project", "_law_rows"]) (B : Bl mg)
    (Dfirsts : Def P w K mg base 10 "firsts" ["project"] (fsp S_firsts))
    (D_law_is_later : Def P w K mg base 2 "_law_is_later" ["_law_project", "_law_durations", "_law_i", "_law_j"] (fsp S_islater))
    (D_law_fits : Def P w K mg base 2 "_law_fits" ["_law_project", "_law_value"] (fsp S_fits))
    (Dfind_after : Def P w K mg base 8 "find_after" ["project", "i", "j"] (fsp S_after))
    (Ddistance_range : Def P w K mg base 8 "distance_range" ["project", "i", "j"] (fsp S_distR))
    (D_law_ends_of : Def P w K mg base 1 "_law_ends_of" ["_law_numbers"] (fsp S_ends)) :
    Def P w K mg base 11 "_law_pairs_right" ["_law_project", "_law_rows"] (fsp S_pairsr) := by
  refine def_ok Rw sc__law_pairs_right (fun ds R h => ?_) fun f cdv A outer s H E hr => ⟨_, (pss_cons (ps_set (i := 2) sc__law_pairs_right.nd rfl (Or.inl rfl) (pe_lst pa_nil))
      (pss_cons (ps_for PassesOwn.never rfl (pi_range1 (by rfl) B.range (pa_cons (pe_callB (k_len K rfl) (by rfl) B.len bb_len (pa_cons (pe_ix (k_ix K rfl) (pv 0) pe_int (fun _ _ => rfl)) pa_nil)) pa_nil)) (pg_name (i := 3) sc__law_pairs_right.nd rfl (Or.inr rfl)) (pss_one (ps_for PassesOwn.never rfl (pi_range1 (by rfl) B.range (pa_cons (pe_callB (k_len K rfl) (by rfl) B.len bb_len (pa_cons (pe_ix (k_ix K rfl) (pv 0) pe_int (fun _ _ => rfl)) pa_nil)) pa_nil)) (pg_name (i := 4) sc__law_pairs_right.nd rfl (Or.inr rfl)) (pss_cons (ps_setLc (i := 5) rfl sc__law_pairs_right.nd rfl rfl (sw_true rfl rfl rfl (by decide +kernel)) (k_seq K rfl (pv 1)) (blkOk_by (own := [("_law_row", 6)]) (N := N__law_pairs_right) (sc := defScope s__law_pairs_right) (by decide +kernel)) (fun _ _ _ _ _ => (pg_name (i := 6) sc__law_pairs_right.nd rfl (Or.inl rfl))) (fun _ _ _ _ _ => pts_nil) (fun _ _ _ _ _ => (pe_op op_sub (pe_ix (k_ix K rfl) (pe_ix (k_ix K rfl) (pv 6) pe_int (fun _ _ => rfl)) (pv 4) (fun _ _ => rfl)) (pe_ix (k_ix K rfl) (pe_ix (k_ix K rfl) (pv 6) pe_int (fun _ _ => rfl)) (pv 3) (fun _ _ => rfl)))))
      (pss_cons (ps_if (pt_cmpR (k_ne K rfl hr.units) (pe_def Ddistance_range (hr.mono (by first | decide | omega)) (by rfl) (pa_cons (pv 0) (pa_cons (pv 3) (pa_cons (pv 4) pa_nil)))) (pe_def D_law_ends_of (hr.mono (by first | decide | omega)) (by rfl) (pa_cons (pv 5) pa_nil)) (nomark _)) (pss_one (ps_ret pe_bl)) pss_nil)
      (pss_cons (ps_set (i := 7) sc__law_pairs_right.nd rfl (Or.inl rfl) (pe_def Dfind_after (hr.mono (by first | decide | omega)) (by rfl) (pa_cons (pv 0) (pa_cons (pv 3) (pa_cons (pv 4) pa_nil)))))
      (pss_cons (ps_if (pt_cmpR (k_ne K rfl hr.units) (pe_cmp (pc_isN (pv 7)) rfl) (pe_cmpR op_ge (pe_callB (k_min K rfl rfl) (by rfl) B.min bb_min (pa_cons (pv 5) pa_nil)) pe_int (nomark _)) (nomark _)) (pss_one (ps_ret pe_bl)) pss_nil)
      (pss_cons (ps_if (PW.pt (pw_and (pt_cmp (pc_notN (pv 7)) rfl) (pw_and1 (pt_not (pt_val (pe_def D_law_fits (hr.mono (by first | decide | omega)) (by rfl) (pa_cons (pv 0) (pa_cons (pv 7) pa_nil)))))))) (pss_one (ps_ret pe_bl)) pss_nil)
      (pss_cons (ps_if (PW.pt (pw_and (pt_cmp (pc_notN (pv 7)) rfl) (pw_and1 (pt_not (pt_val (pe_def D_law_is_later (hr.mono (by first | decide | omega)) (by rfl) (pa_cons (pv 0) (pa_cons (pv 7) (pa_cons (pv 3) (pa_cons (pv 4) pa_nil)))))))))) (pss_one (ps_ret pe_bl)) pss_nil)
      (pss_one (ps_set (i := 2) sc__law_pairs_right.nd rfl (Or.inl rfl) (pe_op (k_add K rfl) (pv 2) (pe_op op_uMul (pe_lst (pa_cons (pe_tup (pa_cons (pv 3) (pa_cons (pv 4) pa_nil))) pa_nil)) (pe_callTy call_int1 (by rfl) B.int bb_int (pa_cons (pe_and (pe_cmpR (k_ne K rfl hr.units) (pv 3) (pv 4) (nomark _)) (pe_one (pe_cmpR op_ge (pe_callB (k_min K rfl rfl) (by rfl) B.min bb_min (pa_cons (pv 5) pa_nil)) pe_int (nomark _)))) pa_nil)))))))))))))))
      (pss_one (ps_ret (pe_cmpR (k_eq K rfl hr.units) (pe_def Dfirsts (hr.mono (by first | decide | omega)) (by rfl) (pa_cons (pv 0) pa_nil)) (pv 2) (nomark _)))))), fun ds R h => ?_⟩
  · obtain ⟨p, L, rfl, _⟩ := h; rfl
  · obtain ⟨p, L, rfl, ha, rfl⟩ := h
    have ok := ha.ok
    have h6 := ok.n6
    have hL := ha.few
    have lne : ∀ v : List Int → Int, L.map v ≠ [] := fun v h => ha.ne (List.map_eq_nil_iff.mp h)
    refine run_seq (run_set (ev_ofL (ev_lst (ea_nil ⟨by decide, ?_⟩))))
    refine run_seq (run_forA (fun e : Nat => .int (e : Int)) (ei_rng1 ?_))
    walk_at "ev"
    refine cb_lenT ?_
    walk_at "ev"
    refine ⟨_, rfl, by rw [List.length_map]; omega, by rw [List.length_map]; omega, List.range p.ts.length, by rw [List.length_map]; exact rgD_nat _, fun i ρ n => n = 0 ∧ ∃ s3 s4 s5 s6 s7, ρ = [.dat (pjD p), .dat (.list (L.map (rowD p))), .dat (.list ((fisI p i).map arD)), s3, s4, s5, s6, s7], ⟨rfl, _, _, _, _, _, rfl⟩, ?_, ?_⟩
    · rintro i i' ρ n hi ⟨rfl, s3, s4, s5, s6, s7, rfl⟩
      obtain ⟨rfl, hi⟩ := range_at hi
      have hfl := fisI_len ok (Nat.le_of_lt hi)
      refine tg_name (by decide) ?_
      refine run_forA (fun e : Nat => .int (e : Int)) (ei_rng1 ?_)
      walk_at "ev"
      refine cb_lenT ?_
      walk_at "ev"
      refine ⟨_, rfl, by rw [List.length_map]; omega, by rw [List.length_map]; omega, List.range p.ts.length, by rw [List.length_map]; exact rgD_nat _, fun j ρ n => n = 0 ∧ ∃ s4 s5 s6 s7, ρ = [.dat (pjD p), .dat (.list (L.map (rowD p))), .dat (.list ((fisI p i' ++ fiJ p i' j).map arD)), .dat (.int (i' : Nat)), s4, s5, s6, s7], ⟨rfl, _, _, _, _, by rw [show fiJ p i' 0 = [] from rfl, List.append_nil]; rfl⟩, ?_, ?_⟩
      · rintro j j' ρ n hj ⟨rfl, s4, s5, s6, s7, rfl⟩
        obtain ⟨rfl, hj⟩ := range_at hj
        refine tg_name (by decide) ?_
        refine run_seq (run_set (ev_ofL (ev_lcB (rowD p) (ei_list ?_))))
        walk_at "ev"
        refine ⟨_, rfl, L, rfl, by omega, fun d => .int (sv p d j' - sv p d i'), fun d hd => ?_, ?_⟩
        · refine tg_name (by decide) ?_
          walk_at "ev"
          refine od_ixL (i := (j' : Nat)) (sv_at' hj) ?_
          walk_at "ev"
          refine od_ixL (i := (i' : Nat)) (sv_at' hi) ?_
          walk_at "ev"
          exact ⟨rfl, rfl⟩
        rw [liMap]
        refine run_seq (run_if ?_)
        walk_at "ev"
        refine ⟨_, ⟨p, i', j', rfl, ok, hi, hj, rfl⟩, ?_⟩
        rintro _ ⟨a1, b1, rfl, h1⟩
        walk_at "ev"
        refine ⟨_, ⟨_, rfl, lne _, rfl⟩, ?_⟩
        rintro _ ⟨c1, e1, rfl, i1, i2, i3, i4⟩
        obtain ⟨rfl, rfl⟩ := h1.eq ha.mem i1 i2 i3 i4
        refine od_neD (a := bdD (a1, b1)) (okd_bd.sh (by decide)) (okd_bd.sh (by decide)) ⟨_, rfl, ?_⟩
        rw [eqv_bd, decide_eq_true rfl, if_neg (by decide)]
        refine run_next ?_
        refine run_seq (run_set ?_)
        walk_at "ev"
        refine ⟨_, ⟨p, i', j', rfl, ok, hi, hj, rfl⟩, fun x hx => ?_⟩
        have nev : Nev p i' j' ↔ 0 ≤ a1 := by
          constructor
          · intro h
            obtain ⟨d, hd, e⟩ := List.mem_map.mp i1
            have := h d ((ha.mem d).mp hd)
            omega
          · intro h d hd hc
            have := i2 _ (List.mem_map.mpr ⟨d, (ha.mem d).mpr hd, rfl⟩)
            omega
        have hbx : noneB x = decide (0 ≤ a1) := by
          refine bool_iff (hx.none_iff.trans ?_)
          rw [decide_eq_true_iff]
          exact nev
        refine run_seq (run_if ?_)
        walk_at "ev"
        refine cb_min (lne _) fun m hm hm' => ?_
        have eqm : m = a1 := by have := hm' _ i1; have := i2 _ hm; omega
        subst eqm
        walk_at "ev"
        refine od_neD sh_bool sh_bool ⟨_, rfl, ?_⟩
        rw [eqv_bool, hbx, if_neg (by simp)]
        refine run_next ?_
        have fin : Run none (tAsg (tOp (uAdd K) (tVar 2) (tOp uMul (tLst (tCons (tTup (tCons (tVar 3) (tCons (tVar 4) tNil))) tNil)) (tCB rIntQ (tCons (tAndV (tOp (rNeD K) (tVar 3) (tVar 4)) (tOp (rI0 fun i j => V.bl (decide (j ≤ i))) (tCB (rMin K) (tCons (tVar 5) tNil)) (tC (V.int 0)))) tNil)))) (gName 2))
            [.dat (pjD p), .dat (.list (L.map (rowD p))), .dat (.list ((fisI p i' ++ fiJ p i' j').map arD)), .dat (.int (i' : Nat)), .dat (.int (j' : Nat)), .dat (liD (L.map fun d => sv p d j' - sv p d i')), s6, .dat x] 0
            (fun ρ n => n = 0 ∧ ∃ s4 s5 s6 s7, ρ = [.dat (pjD p), .dat (.list (L.map (rowD p))), .dat (.list ((fisI p i' ++ fiJ p i' (j' + 1)).map arD)), .dat (.int (i' : Nat)), s4, s5, s6, s7]) (fun d _ => d = .bool true)
            (fun ρ n => n = 0 ∧ ∃ s3 s4 s5 s6 s7, ρ = [.dat (pjD p), .dat (.list (L.map (rowD p))), .dat (.list ((fisI p (i' + 1)).map arD)), s3, s4, s5, s6, s7])
            (fun ρ n => n = 0 ∧ ∃ s4 s5 s6 s7, ρ = [.dat (pjD p), .dat (.list (L.map (rowD p))), .dat (.list ((fisI p i' ++ fiJ p i' (j' + 1)).map arD)), .dat (.int (i' : Nat)), s4, s5, s6, s7]) := by
          have hbool : (decide (i' ≠ j') && decide (0 ≤ m)) = (decide (i' ≠ j') && dec (Nev p i' j')) := by
            congr 1
            refine bool_iff ?_
            rw [decide_eq_true_iff, dec_eq]
            exact nev.symm
          have hfj := fiJ_len p i' j'
          refine run_set (ev_ofL (ev_opL ?_))
          refine ev_var rfl ?_
          refine ev_ofL (ev_opL (ev_ofL (ev_lst ?_)))
          walk_at "ev"
          refine ⟨by simp, ?_⟩
          walk_at "ev"
          refine ⟨by simp, ?_⟩
          have stp : ∀ c : Bool, c = (decide (i' ≠ j') && dec (Nev p i' j')) → OpL uMul (.list [PyData.tuple [.int (i' : Nat), .int (j' : Nat)]]) (.int (if c = true then 1 else 0)) (fun ds => OpL (uAdd K) (.list ((fisI p i' ++ fiJ p i' j').map arD)) (.list ds) fun ds => (fun ρ n => n = 0 ∧ ∃ s4 s5 s6 s7, ρ = [.dat (pjD p), .dat (.list (L.map (rowD p))), .dat (.list ((fisI p i' ++ fiJ p i' (j' + 1)).map arD)), .dat (.int (i' : Nat)), s4, s5, s6, s7])
              [.dat (pjD p), .dat (.list (L.map (rowD p))), .dat (.list ds), .dat (.int (i' : Nat)), .dat (.int (j' : Nat)), .dat (liD (L.map fun d => sv p d j' - sv p d i')), s6, .dat x] 0) := by
            intro c hc
            refine ol_rep (by split <;> omega) (by split <;> omega) (by simp) ?_
            refine ol_cat ?_ ?_
            · rw [List.length_map, List.length_append]
              cases c <;> (simp; omega)
            · refine ⟨rfl, .dat (.int (j' : Nat)), .dat (liD (L.map fun d => sv p d j' - sv p d i')), s6, .dat x, ?_⟩
              rw [fiJ_succ, ← hc, ← List.append_assoc, List.map_append (l₁ := fisI p i' ++ fiJ p i' j')]
              cases c <;> rfl
          walk_at "ev"
          refine od_neD sh_int sh_int ⟨_, rfl, ?_⟩
          rw [eqv_int]
          by_cases z : i' = j'
          · subst z
            rw [decide_eq_true rfl, if_neg (by decide)]
            walk_at "ev"
            refine cb_intB ?_
            exact stp false (by simp)
          · have z' : ¬ ((i' : Int) = (j' : Int)) := by omega
            rw [decide_eq_false z', if_pos (by decide)]
            walk_at "ev"
            refine cb_min (lne _) fun m4 hm4 hm4' => ?_
            have eqm4 : m4 = m := by have := hm4' _ hm; have := hm' _ hm4; omega
            subst eqm4
            walk_at "ev"
            refine cb_intB ?_
            refine stp _ ?_
            rw [← hbool, decide_eq_true (show i' ≠ j' from z), Bool.true_and]
        cases hn : noneB x with
        | true =>
          refine run_seq (run_if (et_and ?_))
          walk_at "ev"
          refine ⟨!noneB x, rfl, ?_⟩
          rw [hn, if_neg (by decide), if_neg (by decide)]
          refine run_next ?_
          refine run_seq (run_if (et_and ?_))
          walk_at "ev"
          refine ⟨!noneB x, rfl, ?_⟩
          rw [hn, if_neg (by decide), if_neg (by decide)]
          refine run_next ?_
          exact fin
        | false =>
          obtain ⟨d, rfl, hd, hC⟩ := hx.some' hn
          refine run_seq (run_if (et_and ?_))
          walk_at "ev"
          refine ⟨true, rfl, ?_⟩
          rw [if_pos rfl]
          refine et_not ?_
          walk_at "ev"
          refine ⟨_, ⟨p, d, rfl, ok, hd, rfl⟩, ?_⟩
          rintro _ rfl
          refine ⟨_, rfl, ?_⟩
          rw [if_neg (by decide)]
          refine run_next ?_
          refine run_seq (run_if (et_and ?_))
          walk_at "ev"
          refine ⟨true, rfl, ?_⟩
          rw [if_pos rfl]
          refine et_not ?_
          walk_at "ev"
          refine ⟨_, ⟨p, d, i', j', rfl, ok, hd, hi, hj, rfl⟩, ?_⟩
          rintro _ rfl
          refine ⟨_, rfl, ?_⟩
          rw [decide_eq_true (show sv p d i' > sv p d j' by omega), if_neg (by decide)]
          refine run_next ?_
          exact fin
      · rintro ρ n ⟨rfl, s4, s5, s6, s7, rfl⟩
        refine ⟨rfl, .dat (.int (i' : Nat)), s4, s5, s6, s7, ?_⟩
        rw [List.length_range, fisI_succ]
    · rintro ρ n ⟨rfl, s3, s4, s5, s6, s7, rfl⟩
      rw [List.length_range]
      refine run_ret ?_
      walk_at "ev"
      refine ⟨_, ⟨p, rfl, ok, rfl⟩, ?_⟩
      rintro _ rfl
      walk_at "ev"
      refine od_eqD (okd_ars.sh (by decide)) (okd_ars.sh (by decide)) ?_
      rw [eqv_ars, decide_eq_true (show fis p = fisI p p.ts.length from rfl)]
theorem tail_last {p : Pr} (ok : p.Ok) {q : List Nat} {s : Nat} (x : Tail p q s) : s < p.ts.length → ∃ t h', q = h' ++ [t] ∧ t < p.ts.length ∧ ∀ h, Head p h s → Head p (h ++ h') t := by
  induction x with
  | @one t _ => exact fun ht => ⟨t, [], rfl, ht, fun h hh => by rw [List.append_nil]; exact hh⟩
  | @cons q e s he _ ih =>
    intro hs
    obtain ⟨t, h', rfl, ht, k⟩ := ih (beh_lt ok he).2
    refine ⟨t, s :: h', rfl, ht, fun h hh => ?_⟩
    have := k (h ++ [s]) (.snoc (bef_beh.mpr he) hh)
    rw [List.append_assoc] at this
    exact this
theorem en_max2 {p : Pr} (ok : p.Ok) {d : List Int} (h0 : NN d) {m : Int} (hm : m ∈ (List.range p.ts.length).map fun t => sv p d t + d.getD t 0) (hle : ∀ y, y ∈ (List.range p.ts.length).map (fun t => sv p d t + d.getD t 0) → y ≤ m) : enV p d = m := by
  have e1 := en_spec ok h0
  obtain ⟨t, ht, e⟩ := List.mem_map.mp hm
  have ht := List.mem_range.mp ht
  have h1 : m ≤ enV p d := by
    have h2 := tv_le ok h0 ht
    rw [tv_eq ok h0 ht] at h2
    obtain ⟨⟨q, q1, q2⟩, _⟩ := rv_spec ok h0 ht
    have h3 : d.getD t 0 ≤ len d q := by
      cases q1 with
      | one _ => rw [len_one]; exact Int.le_refl _
      | @cons q e _ _ _ =>
        rw [len_cons]
        have := len_nn h0 q
        omega
    omega
  obtain ⟨⟨w, ⟨s, hs, hb, x⟩, w2⟩, _⟩ := e1
  obtain ⟨t', h', rfl, ht', k⟩ := tail_last ok x hs
  have h4 := (sv_spec ok h0 (t := t')).2 _ (k [] (.nil hb))
  have h5 := hle _ (List.mem_map.mpr ⟨t', List.mem_range.mpr ht', rfl⟩)
  rw [len_append, len_one] at w2
  have h6 : len d ([] ++ h') = len d h' := rfl
  omega
theorem first_at : ∀ (L : List (List Int)) {d : List Int}, d ∈ L → ∃ j : Nat, L[j]? = some d ∧ ∀ m : Nat, m < j → ∀ e, L[m]? = some e → e ≠ d
  | [], d, h => by cases h
  | a :: L, d, h => by
    by_cases e : a = d
    · exact ⟨0, by rw [e]; rfl, fun m hm => absurd hm (Nat.not_lt_zero m)⟩
    · have h2 : d ∈ L := (List.mem_cons.mp h).resolve_left fun z => e z.symm
      obtain ⟨j, h3, h4⟩ := first_at L h2
      refine ⟨j + 1, h3, fun m hm x hx => ?_⟩
      cases m with
      | zero =>
        have : a = x := Option.some.inj hx
        rw [← this]; exact e
      | succ m => exact h4 m (by omega) x hx
abbrev S_otherr : Spec := fun ds R => ∃ p o L, ds = [pjD p, pjD o, .list (L.map duD)] ∧ All p L ∧ Twin p o ∧ R = (· = .bool true)
theorem zip_sd {p : Pr} {d : List Int} (hd : Dur p d) : zipD ((svs p d).map PyData.int) (d.map PyData.int) = (List.range p.ts.length).map fun t => .tuple [.int (sv p d t), .int (d.getD t 0)] := by
  rw [← zipD_map]
  congr 1
  · unfold svs
    rw [List.map_map]
    rfl
  · refine List.ext_getElem? fun i => ?_
    rw [List.getElem?_map, List.getElem?_map]
    have := hd.l
    by_cases hi : i < p.ts.length
    · rw [List.getElem?_range hi, getD_some (by omega)]
      rfl
    · rw [List.getElem?_eq_none (by omega), List.getElem?_eq_none (by rw [List.length_range]; omega)]
      rfl
abbrev N__law_other_right : List Str := ["_law_project", "_law_other", "_law_some", "_law_gaps", "_law_durations", "_law_pair", "_law_a", "_law_b", "_law_one", "_law_found"]
theorem sc__law_other_right : FnScope N__law_other_right ["_law_project", "_law_other", "_law_some"] (defScope s__law_other_right) := ⟨rfl, rfl, rfl, by decide +kernel, rfl, by decide +kernel, by decide +kernel⟩
theorem ok__law_other_right (Rw : Raw K mg "_law_other_right" s__law_other_right ["_law_project", "_law_other", "_law_some"]) (B : Bl mg)
    (Dfind_later : Def P w K mg base 10 "find_later" ["project", "other"] (fsp S_later))
    (Ddifference_range : Def P w K mg base 10 "difference_range" ["project", "other"] (fsp S_diffR))
    (D_law_ends_of : Def P w K mg base 1 "_law_ends_of" ["_law_numbers"] (fsp S_ends))
    (Dnever_later : Def P w K mg base 11 "never_later" ["project", "other"] (fsp S_nlater))
    (D_law_starts : Def P w K mg base 1 "_law_starts" ["_law_project", "_law_durations"] (fsp S_starts)) :
    Def P w K mg base 12 "_law_other_right" ["_law_project", "_law_other", "_law_some"] (fsp S_otherr) := by
  refine def_ok Rw sc__law_other_right (fun ds R h => ?_) fun f cdv A outer s H E hr => ⟨_, (pss_cons (ps_set (i := 3) sc__law_other_right.nd rfl (Or.inl rfl) (pe_lst pa_nil))
      (pss_cons (ps_for PassesOwn.never rfl (k_seq K rfl (pv 2)) (pg_name (i := 4) sc__law_other_right.nd rfl (Or.inr rfl)) (pss_cons (ps_setLc (i := 5) rfl sc__law_other_right.nd rfl rfl (sw_true rfl rfl rfl (by decide +kernel)) (k_seq K rfl (pe_lst (pa_cons (pv 0) (pa_cons (pv 1) pa_nil)))) (blkOk_by (own := [("_law_one", 8)]) (N := N__law_other_right) (sc := defScope s__law_other_right) (by decide +kernel)) (fun _ _ _ _ _ => (pg_name (i := 8) sc__law_other_right.nd rfl (Or.inl rfl))) (fun _ _ _ _ _ => pts_nil) (fun _ _ _ _ _ => (pe_callB (k_max K rfl rfl) (by rfl) B.max bb_max (pa_cons (pe_lc rfl sc__law_other_right.nd (k_zipM K rfl (by rfl) B.zip (pa_cons (pe_def D_law_starts (hr.mono (by first | decide | omega)) (by rfl) (pa_cons (pv 8) (pa_cons (pv 4) pa_nil))) (pa_cons (pv 4) pa_nil))) (blkOk_by (own := [("_law_a", 6), ("_law_b", 7)]) (N := N__law_other_right) (sc := relS _ (defScope s__law_other_right)) (by decide +kernel)) (fun _ _ _ _ _ => (k_tup K rfl 2 rfl (pgs_cons (pg_name (i := 6) sc__law_other_right.nd rfl (Or.inl rfl)) (pgs_cons (pg_name (i := 7) sc__law_other_right.nd rfl (Or.inl rfl)) pgs_nil)))) (fun _ _ _ _ _ => pts_nil) (fun _ _ _ _ _ => (pe_op (k_add K rfl) (pv 6) (pv 7)))) pa_nil))))
      (pss_one (ps_expr (k_bm K rfl PySem.F.plainAttrs_list PySem.F.slot_list_append PySem.F.type_list_append mt_append (pv 3) (pa_cons (pe_op op_sub (pe_ix (k_ix K rfl) (pv 5) pe_int (fun _ _ => rfl)) (pe_ix (k_ix K rfl) (pv 5) pe_int (fun _ _ => rfl))) pa_nil))))))
      (pss_cons (ps_if (PW.pt (pw_or (pt_cmpR (k_ne K rfl hr.units) (pe_def Ddifference_range (hr.mono (by first | decide | omega)) (by rfl) (pa_cons (pv 0) (pa_cons (pv 1) pa_nil))) (pe_def D_law_ends_of (hr.mono (by first | decide | omega)) (by rfl) (pa_cons (pv 3) pa_nil)) (nomark _)) (pw_or1 (pt_cmpR (k_ne K rfl hr.units) (pe_def Dnever_later (hr.mono (by first | decide | omega)) (by rfl) (pa_cons (pv 0) (pa_cons (pv 1) pa_nil))) (pe_cmpR op_le (pe_callB (k_max K rfl rfl) (by rfl) B.max bb_max (pa_cons (pv 3) pa_nil)) pe_int (nomark _)) (nomark _))))) (pss_one (ps_ret pe_bl)) pss_nil)
      (pss_cons (ps_set (i := 9) sc__law_other_right.nd rfl (Or.inl rfl) (pe_def Dfind_later (hr.mono (by first | decide | omega)) (by rfl) (pa_cons (pv 0) (pa_cons (pv 1) pa_nil))))
      (pss_one (ps_ret (pe_ifExp (pt_cmpR op_le (pe_callB (k_max K rfl rfl) (by rfl) B.max bb_max (pa_cons (pv 3) pa_nil)) pe_int (nomark _)) (pe_cmp (pc_isN (pv 9)) rfl) (pe_and (pe_cmpR (k_in K rfl (u65 hr)) (pv 9) (pv 2) (by rfl)) (pe_one (pe_cmpR op_gt (pe_ix (k_ix K rfl) (pv 3) (k_bm K rfl PySem.F.plainAttrs_list PySem.F.slot_list_index PySem.F.type_list_index (k_index K rfl (u65 hr)) (pv 2) (pa_cons (pv 9) pa_nil)) (fun _ _ => rfl)) pe_int (nomark _))))))))))), fun ds R h => ?_⟩
  · obtain ⟨p, o, L, rfl, _⟩ := h; rfl
  · obtain ⟨p, o, L, rfl, ha, tw, rfl⟩ := h
    have ok := ha.ok
    have hL := ha.few
    have lne : ∀ v : List Int → Int, L.map v ≠ [] := fun v h => ha.ne (List.map_eq_nil_iff.mp h)
    refine run_seq (run_own (ev_lst (ea_nil ⟨by decide, ?_⟩)))
    refine run_seq (run_forA duD (ei_list ?_))
    walk_at "ev"
    refine ⟨_, rfl, L, rfl, fun i ρ n => n = 0 ∧ ∃ s4 s5 s6 s7 s8 s9, ρ = [.dat (pjD p), .dat (pjD o), .dat (.list (L.map duD)), .own (((L.take i).map fun d => enV p d - enV o d).map PyData.int), s4, s5, s6, s7, s8, s9], ⟨rfl, _, _, _, _, _, _, rfl⟩, ?_, ?_⟩
    · rintro i d ρ n hd ⟨rfl, s4, s5, s6, s7, s8, s9, rfl⟩
      have hdL : d ∈ L := List.mem_of_getElem? hd
      have hdur := (ha.mem d).mp hdL
      refine tg_name (by decide) ?_
      refine run_seq (run_set (ev_ofL (ev_lcB pjD (ei_list (ev_ofL (ev_lst ?_))))))
      walk_at "ev"
      refine ⟨by simp, _, rfl, [p, o], rfl, by simp, fun q => .int (enV q d), fun q hq => ?_, ?_⟩
      · have hqq : q.Ok ∧ Dur q d := by
          rcases List.mem_cons.mp hq with rfl | hq
          · exact ⟨ok, hdur⟩
          · have : q = o := by simpa using hq
            subst this
            exact ⟨tw.ok', tw.dur hdur⟩
        have hq6 := hqq.1.n6
        refine tg_name (by decide) ?_
        walk_at "ev"
        refine ev_ofL (ev_lcB (fun t : Nat => .tuple [.int (sv q d t), .int (d.getD t 0)]) (ei_zipM ?_))
        walk_at "ev"
        refine ⟨_, ⟨q, d, rfl, hqq.1, hqq.2, rfl⟩, ?_⟩
        rintro _ rfl
        walk_at "ev"
        refine ⟨_, _, rfl, List.range q.ts.length, zip_sd hqq.2, by rw [List.length_range]; omega, fun t => .int (sv q d t + d.getD t 0), fun t ht => ?_, ?_⟩
        · refine tg_tup rfl (tgs_cons (tg_name (by decide) (tgs_cons (tg_name (by decide) (tgs_nil ?_)))))
          walk_at "ev"
          exact ⟨rfl, rfl⟩
        · rw [liMap]
          walk_at "ev"
          refine cb_max (fun h => rng_ne hqq.1 (List.map_eq_nil_iff.mp h)) fun m hm hle => ?_
          rw [← en_max2 hqq.1 (hqq.2.nn hqq.1) hm hle]
          exact ⟨rfl, rfl⟩
      refine run_app rfl ?_
      walk_at "ev"
      refine od_ixL at_0 ?_
      walk_at "ev"
      refine od_ixL at_1 ?_
      walk_at "ev"
      refine ⟨by rw [List.length_map, List.length_map, List.length_take]; omega, rfl, .dat (duD d), .dat (.list [.int (enV p d), .int (enV o d)]), s6, s7, s8, s9, ?_⟩
      rw [take_succ hd, List.map_append, List.map_append]
      rfl
    · rintro ρ n ⟨rfl, s4, s5, s6, s7, s8, s9, rfl⟩
      rw [List.take_length]
      refine run_let (i := 3) rfl ?_
      refine run_seq (run_if ?_)
      walk_at "ev"
      refine ⟨_, ⟨p, o, rfl, tw, rfl⟩, ?_⟩
      rintro _ ⟨a1, b1, rfl, h1⟩
      walk_at "ev"
      refine ⟨_, ⟨_, rfl, lne _, rfl⟩, ?_⟩
      rintro _ ⟨c1, e1, rfl, i1, i2, i3, i4⟩
      obtain ⟨rfl, rfl⟩ := h1.eq ha.mem i1 i2 i3 i4
      refine od_neD (a := bdD (a1, b1)) (okd_bd.sh (by decide)) (okd_bd.sh (by decide)) ⟨_, rfl, ?_⟩
      rw [eqv_bd, decide_eq_true rfl, if_neg (by decide)]
      walk_at "ev"
      refine ⟨_, ⟨p, o, rfl, tw, rfl⟩, ?_⟩
      rintro _ rfl
      walk_at "ev"
      refine cb_max (lne _) fun m hm hm' => ?_
      have eqm : m = b1 := by have := hm' _ i3; have := i4 _ hm; omega
      subst eqm
      have nev : (∀ d, Dur p d → ¬ 0 < enV p d - enV o d) ↔ m ≤ 0 := by
        constructor
        · intro h
          obtain ⟨d, hd, e⟩ := List.mem_map.mp hm
          have := h d ((ha.mem d).mp hd)
          omega
        · intro h d hd hc
          have := hm' _ (List.mem_map.mpr ⟨d, (ha.mem d).mpr hd, rfl⟩)
          omega
      have hbn : dec (∀ d, Dur p d → ¬ 0 < enV p d - enV o d) = decide (m ≤ 0) := by
        refine bool_iff ?_
        rw [decide_eq_true_iff, dec_eq]
        exact nev
      walk_at "ev"
      refine od_neD sh_bool sh_bool ⟨_, rfl, ?_⟩
      rw [eqv_bool, hbn, if_neg (by simp)]
      refine run_next ?_
      refine run_seq (run_set ?_)
      walk_at "ev"
      refine ⟨_, ⟨p, o, rfl, tw, rfl⟩, fun x hx => ?_⟩
      have hbx : noneB x = decide (m ≤ 0) := by
        refine bool_iff (hx.none_iff.trans ?_)
        rw [decide_eq_true_iff]
        exact nev
      refine run_ret ?_
      walk_at "ev"
      refine cb_max (lne _) fun m4 hm4 hm4' => ?_
      have eqm4 : m4 = m := by have := hm4' _ hm; have := hm' _ hm4; omega
      subst eqm4
      walk_at "ev"
      refine ⟨_, rfl, ?_⟩
      cases hn : noneB x with
      | true =>
        rw [hn] at hbx
        rw [if_pos hbx.symm]
        walk_at "ev"
        rw [hn]
      | false =>
        rw [hn] at hbx
        rw [if_neg (by rw [← hbx]; decide)]
        obtain ⟨d, rfl, hd, hC⟩ := hx.some' hn
        have hdL := (ha.mem d).mpr hd
        walk_at "ev"
        refine od_uInL (okd_du.sh (by decide)) (okd_dus.sh (by decide)) ⟨_, rfl, ?_⟩
        rw [any_dus, decide_eq_true hdL, if_pos rfl]
        refine ev_op (ev_op (ev_var rfl (ev_index ?_)))
        walk_at "ev"
        refine ⟨_, rfl, ?_⟩
        walk_at "ev"
        obtain ⟨j, hj, hbef⟩ := first_at L hdL
        have hjl := (List.getElem?_eq_some_iff.mp hj).1
        refine ⟨j, duD d, okd_dus.sh (by decide), okd_du.sh (by decide), by rw [List.getElem?_map, hj]; rfl, by rw [eqv_du, decide_eq_true rfl], fun k z' hk hz => ?_, ?_⟩
        · obtain ⟨e, he, rfl⟩ := get_map hz
          rw [eqv_du, decide_eq_false (hbef k hk e he)]
        refine od_ixL (i := (j : Nat)) (d := .int (enV p d - enV o d)) (atI_nat ?_) ?_
        · rw [List.getElem?_map, List.getElem?_map, hj]
          rfl
        walk_at "ev"
        rw [decide_eq_true (show 0 < enV p d - enV o d from hC)]
end
end AC
set_option Elab.async false
set_option linter.all false
set_option maxRecDepth 100000
set_option maxHeartbeats 1000000
namespace AC
open PySem PySem.Spec PyProof.Rows L2
local macro_rules | `(tactic| walk_at "sh") => `(tactic| first | exact sh_int | exact sh_bool | exact sh_none | exact okd_du.sh (by decide) | exact okd_li.sh (by decide) | exact okd_pt.sh (by decide) | exact okd_ar.sh (by decide) | exact okd_ps.sh (by decide) | exact okd_na.sh (by decide) | exact (okd_tup (okd_map fun _ _ => okd_int)).sh (by decide) | exact (okd_tup (okd_map fun _ _ => okd_ar)).sh (by decide) | exact (okd_lst (okd_map fun _ _ => okd_du)).sh (by decide) | exact (okd_lst (okd_map fun _ _ => okd_ar)).sh (by decide))
local macro_rules | `(tactic| walk_at "e1") => `(tactic| first | with_reducible refine ev_int ?_ | with_reducible refine ev_non ?_ | with_reducible refine ev_bl ?_ | with_reducible refine ev_str ?_ | with_reducible refine ea_nil ?_ | with_reducible refine ea_cons ?_ | with_reducible refine ev_op ?_ | with_reducible refine ev_call ?_ | with_reducible refine ev_cb ?_ | with_reducible refine ev_tup ?_ | with_reducible refine ev_if ?_ | with_reducible refine et_test ?_ | with_reducible refine et_B ?_ | with_reducible refine ev_isB ?_ | with_reducible refine ev_ntB ?_ | with_reducible refine ev_un ?_ | with_reducible refine ev_chain ?_ | with_reducible refine ev_andV ?_ | with_reducible refine ev_orV ?_ | with_reducible refine ev_notV ?_ | with_reducible refine et_and ?_ | with_reducible refine et_or ?_ | with_reducible refine et_not ?_ | refine ev_var rfl ?_ | refine od_add ?_ | refine od_I0 (fun _ => .int _) ?_ | refine od_I0 (fun _ => .bl _) ?_ | refine od_ixT at_0 ?_ | refine od_ixT at_1 ?_)
local macro_rules | `(tactic| walk_at "ev") => `(tactic| (walk_at "e1"; repeat walk_at "e1"))

section
variable {P : Program} {w : World} {K : PySem.W.Frag} {mg : Str → Option Value} {base : Heap}
theorem Tail.hd {p : Pr} {q : List Nat} {t : Nat} (x : Tail p q t) : ∃ r, q = t :: r := by
  cases x with
  | one _ => exact ⟨_, rfl⟩
  | cons _ _ => exact ⟨_, rfl⟩
def lastN (a : Nat) : List Nat → Nat
  | [] => a
  | b :: q => lastN b q
theorem tail_iff {p : Pr} : ∀ (q : List Nat) (a : Nat), Tail p (a :: q) a ↔ beh p (lastN a q) = [] ∧ ∀ x ∈ (a :: q).zip q, x ∈ p.ar
  | [], a => by
    constructor
    · intro h
      cases h with
      | one hb => exact ⟨hb, fun x hx => (by cases hx)⟩
      | cons _ h => obtain ⟨r, e⟩ := h.hd; cases e
    · rintro ⟨h, _⟩
      exact .one h
  | b :: q, a => by
    have ih := tail_iff (p := p) q b
    constructor
    · intro h
      cases h with
      | @cons _ e _ he h =>
        obtain ⟨r, e1⟩ := h.hd
        have eb : b = e := (List.cons.inj e1).1
        subst eb
        obtain ⟨h1, h2⟩ := ih.mp h
        refine ⟨h1, fun x hx => ?_⟩
        rcases List.mem_cons.mp hx with rfl | hx
        · exact mem_beh.mp he
        · exact h2 x hx
    · rintro ⟨h1, h2⟩
      exact .cons (mem_beh.mpr (h2 (a, b) List.mem_cons_self)) (ih.mpr ⟨h1, fun x hx => h2 x (List.mem_cons_of_mem _ hx)⟩)
theorem whole_iff {p : Pr} {a : Nat} {q : List Nat} (ha : a < p.ts.length) : Whole p (a :: q) ↔ bef p a = [] ∧ beh p (lastN a q) = [] ∧ ∀ x ∈ (a :: q).zip q, x ∈ p.ar := by
  constructor
  · rintro ⟨t, ht, hb, x⟩
    obtain ⟨r, e⟩ := x.hd
    have : a = t := (List.cons.inj e).1
    subst this
    exact ⟨hb, (tail_iff q a).mp x⟩
  · rintro ⟨hb, h⟩
    exact ⟨a, ha, hb, (tail_iff q a).mpr h⟩
theorem lastN_at : ∀ (q : List Nat) (a : Nat), ∃ l, a :: q = l ++ [lastN a q]
  | [], a => ⟨[], rfl⟩
  | b :: q, a => by
    obtain ⟨l, e⟩ := lastN_at q b
    exact ⟨a :: l, congrArg (List.cons a) e⟩
theorem atI_last (l : List PyData) (x : PyData) : L2.atI (l ++ [x]) (-1) = some x := by
  unfold L2.atI ixN
  have hl : (l ++ [x]).length = l.length + 1 := by simp
  rw [if_neg (by omega), if_pos (by rw [hl]; omega)]
  show (l ++ [x])[(-1 + ((l ++ [x]).length : Int)).toNat]? = some x
  rw [show (-1 + ((l ++ [x]).length : Int)).toNat = l.length by rw [hl]; omega, List.getElem?_append_right (Nat.le_refl _), Nat.sub_self]
  rfl
theorem pt_last (a : Nat) (q : List Nat) : L2.atI ((a :: q).map fun k : Nat => PyData.int (k : Int)) (-1) = some (.int (lastN a q : Nat)) := by
  obtain ⟨l, e⟩ := lastN_at q a
  rw [e, List.map_append]
  exact atI_last _ _
theorem filt_bef {p : Pr} {t : Nat} : ((p.ar.filter fun a => decide (a.2 = t)).map fun a => a.2) = [] ↔ bef p t = [] := by
  unfold bef
  rw [List.map_eq_nil_iff, List.map_eq_nil_iff]
theorem filt_beh {p : Pr} {t : Nat} : ((p.ar.filter fun a => decide (a.1 = t)).map fun a => a.1) = [] ↔ beh p t = [] := by
  unfold beh
  rw [List.map_eq_nil_iff, List.map_eq_nil_iff]
theorem zipD_zip : ∀ l r : List Nat, zipD (l.map fun k : Nat => .int (k : Int)) (r.map fun k : Nat => .int (k : Int)) = (l.zip r).map arD
  | [], r => by cases r <;> rfl
  | a :: l, [] => rfl
  | a :: l, b :: r => by
    rw [List.map_cons, List.map_cons, zipD, zipD_zip l r]
    rfl
theorem any_ars (l : List (Nat × Nat)) (t : Nat × Nat) : ((l.map arD).any fun z => PyData.eqv z (arD t)) = decide (t ∈ l) := (any_map arD eqv_ar l t).trans (decide_eq_decide.mpr Iff.rfl)
theorem okd_arsT {l : List (Nat × Nat)} : OkD 2 (.tuple (l.map arD)) := okd_tup (okd_map fun _ _ => okd_ar)
abbrev S_iswhole : Spec := fun ds R => ∃ p q, ds = [pjD p, ptD q] ∧ p.Ok ∧ (∀ e ∈ q, e < p.ts.length) ∧ q.length ≤ 1000 ∧ R = (· = .bool (dec (Whole p q)))
abbrev N__law_is_whole : List Str := ["_law_project", "_law_path", "_law_i", "_law_j", "_law_pair"]
theorem sc__law_is_whole : FnScope N__law_is_whole ["_law_project", "_law_path"] (defScope s__law_is_whole) := ⟨rfl, rfl, rfl, by decide +kernel, rfl, by decide +kernel, by decide +kernel⟩
theorem ok__law_is_whole (Rw : Raw K mg "_law_is_whole" s__law_is_whole ["_law_project", "_law_path"]) (B : Bl mg) :
    Def P w K mg base 1 "_law_is_whole" ["_law_project", "_law_path"] (fsp S_iswhole) := by
  refine def_ok Rw sc__law_is_whole (fun ds R h => ?_) fun f cdv A outer s H E hr => ⟨_, (pss_cons (ps_if (PW.pt (pw_or (pt_cmpR (k_eq K rfl hr.units) (pv 1) (pe_tup pa_nil) (nomark _)) (pw_or1 (pt_cmpR (k_ne K rfl hr.units) (pe_lc rfl sc__law_is_whole.nd (k_seq K rfl (pe_ix (k_ix K rfl) (pv 0) pe_int (fun _ _ => rfl))) (blkOk_by (own := [("_law_i", 2), ("_law_j", 3)]) (N := N__law_is_whole) (sc := defScope s__law_is_whole) (by decide +kernel)) (fun _ _ _ _ _ => (k_tup K rfl 2 rfl (pgs_cons (pg_name (i := 2) sc__law_is_whole.nd rfl (Or.inl rfl)) (pgs_cons (pg_name (i := 3) sc__law_is_whole.nd rfl (Or.inl rfl)) pgs_nil)))) (fun _ _ _ _ _ => pts_one (pt_cmpR (k_eq K rfl hr.units) (pv 3) (pe_ix (k_ix K rfl) (pv 1) pe_int (fun _ _ => rfl)) (nomark _))) (fun _ _ _ _ _ => (pv 3))) (pe_lst pa_nil) (nomark _))))) (pss_one (ps_ret pe_bl)) pss_nil)
      (pss_cons (ps_if (pt_cmpR (k_ne K rfl hr.units) (pe_lc rfl sc__law_is_whole.nd (k_seq K rfl (pe_ix (k_ix K rfl) (pv 0) pe_int (fun _ _ => rfl))) (blkOk_by (own := [("_law_i", 2), ("_law_j", 3)]) (N := N__law_is_whole) (sc := defScope s__law_is_whole) (by decide +kernel)) (fun _ _ _ _ _ => (k_tup K rfl 2 rfl (pgs_cons (pg_name (i := 2) sc__law_is_whole.nd rfl (Or.inl rfl)) (pgs_cons (pg_name (i := 3) sc__law_is_whole.nd rfl (Or.inl rfl)) pgs_nil)))) (fun _ _ _ _ _ => pts_one (pt_cmpR (k_eq K rfl hr.units) (pv 2) (pe_ix (k_ix K rfl) (pv 1) (pe_un un_neg pe_int) (fun _ _ => rfl)) (nomark _))) (fun _ _ _ _ _ => (pv 2))) (pe_lst pa_nil) (nomark _)) (pss_one (ps_ret pe_bl)) pss_nil)
      (pss_one (ps_ret (pe_cmpR (k_ni K rfl (u65 hr)) pe_bl (pe_lc rfl sc__law_is_whole.nd (k_zipN K rfl (by rfl) B.zip (pa_cons (pv 1) (pa_cons (pe_slice (k_slT K rfl) (pv 1) (po_some pe_int) po_none) pa_nil))) (blkOk_by (own := [("_law_pair", 4)]) (N := N__law_is_whole) (sc := defScope s__law_is_whole) (by decide +kernel)) (fun _ _ _ _ _ => (pg_name (i := 4) sc__law_is_whole.nd rfl (Or.inl rfl))) (fun _ _ _ _ _ => pts_nil) (fun _ _ _ _ _ => (pe_cmpR (k_in K rfl (u65 hr)) (pv 4) (pe_ix (k_ix K rfl) (pv 0) pe_int (fun _ _ => rfl)) (by rfl)))) (by rfl)))))), fun ds R h => ?_⟩
  · obtain ⟨p, q, rfl, _⟩ := h; rfl
  · obtain ⟨p, q, rfl, ok, hb, hl, rfl⟩ := h
    have hf := ok.few
    refine run_seq (run_if (et_or ?_))
    walk_at "ev"
    refine ⟨by simp, ?_⟩
    refine od_eqD (okd_pt.sh (by decide)) (okd_pt (p := []).sh (by decide)) ⟨_, rfl, ?_⟩
    rw [show PyData.eqv (ptD q) (.tuple []) = decide (q = []) from eqv_pt q []]
    cases q with
    | nil =>
      rw [decide_eq_true rfl, if_pos rfl, if_pos rfl]
      refine run_ret ?_
      walk_at "ev"
      rw [dec_not]
      rintro ⟨t, _, _, x⟩
      obtain ⟨r, e⟩ := x.hd
      cases e
    | cons a q =>
      have hq : ¬ (a :: q = []) := by simp
      rw [decide_eq_false hq, if_neg (by decide)]
      have ha : a < p.ts.length := hb a List.mem_cons_self
      have hwi := whole_iff (p := p) (q := q) ha
      walk_at "ev"
      refine ev_ofL (ev_lcA arD (ei_tup ?_))
      walk_at "ev"
      refine ⟨_, rfl, p.ar, rfl, by omega, fun x => decide (x.2 = a), fun x => .int (x.2 : Int), fun x hx => ?_, ?_⟩
      · refine tg_tup rfl (tgs_cons (tg_name (by decide) (tgs_cons (tg_name (by decide) (tgs_nil ⟨?_, fun _ => ?_⟩)))))
        · walk_at "ev"
          refine od_eqD sh_int sh_int ⟨_, rfl, rfl, ?_⟩
          rw [eqv_int]
          exact decide_eq_decide.mpr (by omega)
        · walk_at "ev"
          exact ⟨rfl, rfl⟩
      rw [show ((p.ar.filter fun x => decide (x.2 = a)).map fun x => PyData.int (x.2 : Int)) = ((p.ar.filter fun x => decide (x.2 = a)).map fun x => x.2).map fun k : Nat => PyData.int (k : Int) by rw [List.map_map]; rfl]
      refine ev_ofL (ev_lst (ea_nil ⟨by decide, ?_⟩))
      refine od_neD (okd_na.sh (by decide)) (okd_na (l := []).sh (by decide)) ⟨_, rfl, ?_⟩
      rw [show PyData.eqv (.list (((p.ar.filter fun x => decide (x.2 = a)).map fun x => x.2).map fun k : Nat => PyData.int (k : Int))) (.list []) = decide (((p.ar.filter fun x => decide (x.2 = a)).map fun x => x.2) = []) from eqv_na _ []]
      by_cases h1 : bef p a = []
      · rw [decide_eq_true (filt_bef.mpr h1), if_neg (by decide)]
        refine run_next ?_
        refine run_seq (run_if ?_)
        walk_at "ev"
        refine ev_ofL (ev_lcA arD (ei_tup ?_))
        walk_at "ev"
        refine ⟨_, rfl, p.ar, rfl, by omega, fun x => decide (x.1 = lastN a q), fun x => .int (x.1 : Int), fun x hx => ?_, ?_⟩
        · refine tg_tup rfl (tgs_cons (tg_name (by decide) (tgs_cons (tg_name (by decide) (tgs_nil ⟨?_, fun _ => ?_⟩)))))
          · walk_at "ev"
            refine ud_int (fun _ => .int _) ?_
            refine od_ixT (pt_last a q) ?_
            refine od_eqD sh_int sh_int ⟨_, rfl, rfl, ?_⟩
            rw [eqv_int]
            exact decide_eq_decide.mpr (by omega)
          · walk_at "ev"
            exact ⟨rfl, rfl⟩
        rw [show ((p.ar.filter fun x => decide (x.1 = lastN a q)).map fun x => PyData.int (x.1 : Int)) = ((p.ar.filter fun x => decide (x.1 = lastN a q)).map fun x => x.1).map fun k : Nat => PyData.int (k : Int) by rw [List.map_map]; rfl]
        refine ev_ofL (ev_lst (ea_nil ⟨by decide, ?_⟩))
        refine od_neD (okd_na.sh (by decide)) (okd_na (l := []).sh (by decide)) ⟨_, rfl, ?_⟩
        rw [show PyData.eqv (.list (((p.ar.filter fun x => decide (x.1 = lastN a q)).map fun x => x.1).map fun k : Nat => PyData.int (k : Int))) (.list []) = decide (((p.ar.filter fun x => decide (x.1 = lastN a q)).map fun x => x.1) = []) from eqv_na _ []]
        by_cases h2 : beh p (lastN a q) = []
        · rw [decide_eq_true (filt_beh.mpr h2), if_neg (by decide)]
          refine run_next (run_ret ?_)
          walk_at "ev"
          refine ev_ofL (ev_lcB arD (ei_zipN ?_))
          walk_at "ev"
          refine ev_slT ?_
          walk_at "ev"
          refine ⟨_, rfl, eo_some ?_⟩
          walk_at "ev"
          refine ⟨1, rfl, eo_none ?_⟩
          refine ea_nil ⟨_, _, rfl, (a :: q).zip q, ?_, ?_, fun x => .bool (decide (x ∈ p.ar)), fun x hx => ?_, ?_⟩
          · rw [← zipD_zip]
            congr 1
            rw [HT.sIx_none, show HT.sIx ((a :: q).map fun k : Nat => PyData.int (k : Int)).length 0 (some 1) = 1 from (HT.sIx_nat _ _ 1).trans (by rw [List.length_map, List.length_cons]; omega), List.length_map, List.length_cons, List.map_cons]
            show List.take (q.length + 1 - 1) (List.map _ q) = _
            rw [Nat.add_sub_cancel]
            exact List.take_of_length_le (by rw [List.length_map]; exact Nat.le_refl _)
          · rw [List.length_zip, List.length_cons]
            rw [List.length_cons] at hl
            omega
          · refine tg_name (by decide) ?_
            walk_at "ev"
            refine od_uInT (okd_ar.sh (by decide)) (okd_arsT.sh (by decide)) ⟨rfl, ?_⟩
            rw [any_ars]
          · rw [show (((a :: q).zip q).map fun x => PyData.bool (decide (x ∈ p.ar))) = (((a :: q).zip q).map fun x => decide (x ∈ p.ar)).map PyData.bool by rw [List.map_map]; rfl]
            refine od_uNiL sh_bool (okd_bools.sh (by decide)) ?_
            rw [any_bools]
            congr 1
            refine bool_iff ?_
            rw [dec_eq, hwi, Bool.not_eq_true', decide_eq_false_iff_not, List.mem_map]
            constructor
            · intro h
              exact ⟨h1, h2, fun x hx => Classical.byContradiction fun hn => h ⟨x, hx, decide_eq_false hn⟩⟩
            · rintro ⟨_, _, h⟩ ⟨x, hx, e⟩
              exact (of_decide_eq_false e) (h x hx)
        · rw [decide_eq_false fun z => h2 (filt_beh.mp z), if_pos (by decide)]
          refine run_ret ?_
          walk_at "ev"
          rw [dec_not fun z => h2 (hwi.mp z).2.1]
      · rw [decide_eq_false fun z => h1 (filt_bef.mp z), if_pos (by decide)]
        refine run_ret ?_
        walk_at "ev"
        rw [dec_not fun z => h1 (hwi.mp z).1]
/-! ### all paths -/
def Chn (p : Pr) (q : List Nat) : Prop := ∀ x ∈ q.zip q.tail, x ∈ p.ar
def linkB (p : Pr) (i : Nat) : List Nat → Bool
  | [] => true
  | a :: q => decide ((lastN a q, i) ∈ p.ar)
def chn (p : Pr) : Nat → List (List Nat)
  | 0 => [[]]
  | i + 1 => chn p i ++ ((chn p i).filter (linkB p i)).map fun q => q ++ [i]
theorem chn_len (p : Pr) : ∀ i, (chn p i).length ≤ 2 ^ i
  | 0 => Nat.le_refl _
  | i + 1 => by
    have := chn_len p i
    have h2 := List.length_filter_le (linkB p i) (chn p i)
    show (chn p i ++ _).length ≤ _
    rw [List.length_append, List.length_map, Nat.pow_succ]
    omega
theorem chn_lt (p : Pr) : ∀ i q, q ∈ chn p i → ∀ e ∈ q, e < i
  | 0, q, h, e, he => by
    have : q = [] := by simpa [chn] using h
    subst this
    cases he
  | i + 1, q, h, e, he => by
    rcases List.mem_append.mp h with h | h
    · have := chn_lt p i q h e he; omega
    · obtain ⟨r, hr, rfl⟩ := List.mem_map.mp h
      rcases List.mem_append.mp he with he | he
      · have := chn_lt p i r (List.mem_filter.mp hr).1 e he; omega
      · have : e = i := by simpa using he
        omega
theorem chn_ql (p : Pr) : ∀ i q, q ∈ chn p i → q.length ≤ i
  | 0, q, h => by
    have : q = [] := by simpa [chn] using h
    subst this
    exact Nat.le_refl _
  | i + 1, q, h => by
    rcases List.mem_append.mp h with h | h
    · have := chn_ql p i q h; omega
    · obtain ⟨r, hr, rfl⟩ := List.mem_map.mp h
      have := chn_ql p i r (List.mem_filter.mp hr).1
      rw [List.length_append]
      show r.length + 1 ≤ i + 1
      omega
theorem chn_split {p : Pr} (ok : p.Ok) : ∀ (q : List Nat) (a : Nat), (∀ x ∈ (a :: q).zip q, x ∈ p.ar) → ∃ r, a :: q = r ++ [lastN a q] ∧ (∀ e ∈ r, e < lastN a q) ∧ (∀ x ∈ r.zip r.tail, x ∈ p.ar) ∧ ∀ b s, r = b :: s → (lastN b s, lastN a q) ∈ p.ar
  | [], a, _ => ⟨[], rfl, fun e he => (by cases he), fun x hx => (by cases hx), fun b s h => (by cases h)⟩
  | b :: q, a, h => by
    obtain ⟨r, e1, h1, h2, h3⟩ := chn_split ok q b fun x hx => h x (List.mem_cons_of_mem _ hx)
    have hab : (a, b) ∈ p.ar := h (a, b) List.mem_cons_self
    have hlt := (ok.ar _ hab).1
    refine ⟨a :: r, congrArg (List.cons a) e1, fun e he => ?_, fun x hx => ?_, fun b' s e => ?_⟩
    · show e < lastN b q
      rcases List.mem_cons.mp he with rfl | he
      · cases r with
        | nil =>
          have : b = lastN b q := (List.cons.inj e1).1
          rw [← this]; exact hlt
        | cons c r =>
          have hc : b = c := (List.cons.inj e1).1
          have := h1 c List.mem_cons_self
          have hlt' : e < b := hlt
          omega
      · exact h1 e he
    · cases r with
      | nil => cases hx
      | cons c r =>
        have hc : b = c := (List.cons.inj e1).1
        subst hc
        rcases List.mem_cons.mp hx with rfl | hx
        · exact hab
        · exact h2 x hx
    · obtain ⟨rfl, rfl⟩ := List.cons.inj e
      cases r with
      | nil =>
        have : b = lastN b q := (List.cons.inj e1).1
        show (a, lastN b q) ∈ p.ar
        rw [← this]; exact hab
      | cons c r => exact h3 c r rfl
theorem mem_chn {p : Pr} (ok : p.Ok) : ∀ i q, Chn p q → (∀ e ∈ q, e < i) → q ∈ chn p i
  | 0, q, _, h => by
    cases q with
    | nil => exact List.mem_cons_self
    | cons a q => exact absurd (h a List.mem_cons_self) (Nat.not_lt_zero a)
  | i + 1, q, hc, h => by
    cases q with
    | nil => exact List.mem_append_left _ (mem_chn ok i [] (fun x hx => (by cases hx)) fun e he => (by cases he))
    | cons a q =>
      obtain ⟨r, e1, h1, h2, h3⟩ := chn_split ok q a hc
      have hl : lastN a q < i + 1 := h _ (by rw [e1]; simp)
      by_cases e : lastN a q = i
      · refine List.mem_append_right _ (List.mem_map.mpr ⟨r, List.mem_filter.mpr ⟨mem_chn ok i r h2 fun z hz => by have := h1 z hz; omega, ?_⟩, by rw [e1, e]⟩)
        cases r with
        | nil => rfl
        | cons b s =>
          show decide ((lastN b s, i) ∈ p.ar) = true
          rw [← e]
          exact decide_eq_true (h3 b s rfl)
      · refine List.mem_append_left _ (mem_chn ok i (a :: q) hc fun z hz => ?_)
        rw [e1] at hz
        rcases List.mem_append.mp hz with hz | hz
        · have := h1 z hz; omega
        · have : z = lastN a q := by simpa using hz
          omega
abbrev N__law_paths : List Str := ["_law_project", "_law_some", "_law_task", "_law_one"]
theorem sc__law_paths : FnScope N__law_paths ["_law_project"] (defScope s__law_paths) := ⟨rfl, rfl, rfl, by decide +kernel, rfl, by decide +kernel, by decide +kernel⟩
theorem ok__law_paths (Rw : Raw K mg "_law_paths" s__law_paths ["_law_project"]) (B : Bl mg)
    (D_law_is_whole : Def P w K mg base 1 "_law_is_whole" ["_law_project", "_law_path"] (fsp S_iswhole)) :
    Def P w K mg base 2 "_law_paths" ["_law_project"] (fsp S_whole) := by
  refine def_ok Rw sc__law_paths (fun ds R h => ?_) fun f cdv A outer s H E hr => ⟨_, (pss_cons (ps_set (i := 1) sc__law_paths.nd rfl (Or.inl rfl) (pe_lst (pa_cons (pe_tup pa_nil) pa_nil)))
      (pss_cons (ps_for PassesOwn.never rfl (pi_range1 (by rfl) B.range (pa_cons (pe_callB (k_len K rfl) (by rfl) B.len bb_len (pa_cons (pe_ix (k_ix K rfl) (pv 0) pe_int (fun _ _ => rfl)) pa_nil)) pa_nil)) (pg_name (i := 2) sc__law_paths.nd rfl (Or.inr rfl)) (pss_one (ps_set (i := 1) sc__law_paths.nd rfl (Or.inl rfl) (pe_op (k_add K rfl) (pv 1) (pe_lc rfl sc__law_paths.nd (k_seq K rfl (pv 1)) (blkOk_by (own := [("_law_one", 3)]) (N := N__law_paths) (sc := defScope s__law_paths) (by decide +kernel)) (fun _ _ _ _ _ => (pg_name (i := 3) sc__law_paths.nd rfl (Or.inl rfl))) (fun _ _ _ _ _ => pts_one (PW.pt (pw_or (pt_cmpR (k_eq K rfl hr.units) (pv 3) (pe_tup pa_nil) (nomark _)) (pw_or1 (pt_cmpR (k_in K rfl (u65 hr)) (pe_tup (pa_cons (pe_ix (k_ix K rfl) (pv 3) (pe_un un_neg pe_int) (fun _ _ => rfl)) (pa_cons (pv 2) pa_nil))) (pe_ix (k_ix K rfl) (pv 0) pe_int (fun _ _ => rfl)) (by rfl)))))) (fun _ _ _ _ _ => (pe_op (k_add K rfl) (pv 3) (pe_tup (pa_cons (pv 2) pa_nil)))))))))
      (pss_one (ps_ret (pe_callB (k_sorted K rfl) (by rfl) B.sorted bb_sorted (pa_cons (pe_lc rfl sc__law_paths.nd (k_seq K rfl (pv 1)) (blkOk_by (own := [("_law_one", 3)]) (N := N__law_paths) (sc := defScope s__law_paths) (by decide +kernel)) (fun _ _ _ _ _ => (pg_name (i := 3) sc__law_paths.nd rfl (Or.inl rfl))) (fun _ _ _ _ _ => pts_one (pt_val (pe_def D_law_is_whole (hr.mono (by first | decide | omega)) (by rfl) (pa_cons (pv 0) (pa_cons (pv 3) pa_nil))))) (fun _ _ _ _ _ => (pv 3))) pa_nil)))))), fun ds R h => ?_⟩
  · obtain ⟨p, rfl, _⟩ := h; rfl
  · obtain ⟨p, rfl, ok, rfl⟩ := h
    have h6 := ok.n6
    have cl : ∀ i, i ≤ p.ts.length → (chn p i).length ≤ 64 := fun i hi => Nat.le_trans (chn_len p i) (six ok hi)
    refine run_seq (run_set (ev_ofL (ev_lst ?_)))
    walk_at "ev"
    refine ⟨by simp, ?_⟩
    walk_at "ev"
    refine ⟨by simp, ?_⟩
    refine run_seq (run_forA (fun e : Nat => .int (e : Int)) (ei_rng1 ?_))
    walk_at "ev"
    refine cb_lenT ?_
    walk_at "ev"
    refine ⟨_, rfl, by rw [List.length_map]; omega, by rw [List.length_map]; omega, List.range p.ts.length, by rw [List.length_map]; exact rgD_nat _, fun i ρ n => n = 0 ∧ ∃ s2 s3, ρ = [.dat (pjD p), .dat (psD (chn p i)), s2, s3], ⟨rfl, _, _, rfl⟩, ?_, ?_⟩
    · rintro i i' ρ n hi ⟨rfl, s2, s3, rfl⟩
      obtain ⟨rfl, hi⟩ := range_at hi
      have hcl := cl i' (Nat.le_of_lt hi)
      refine tg_name (by decide) ?_
      refine run_set (ev_ofL (ev_opL ?_))
      walk_at "ev"
      refine ev_ofL (ev_lcA ptD (ei_list ?_))
      walk_at "ev"
      refine ⟨_, rfl, chn p i', rfl, by omega, linkB p i', fun q => ptD (q ++ [i']), fun q hq => ?_, ?_⟩
      · have hql := chn_lt p i' q hq
        refine tg_name (by decide) ⟨et_or ?_, fun _ => ?_⟩
        · walk_at "ev"
          refine ⟨by simp, ?_⟩
          refine od_eqD (okd_pt.sh (by decide)) (okd_pt (p := []).sh (by decide)) ⟨_, rfl, ?_⟩
          rw [show PyData.eqv (ptD q) (.tuple []) = decide (q = []) from eqv_pt q []]
          cases q with
          | nil =>
            rw [decide_eq_true rfl, if_pos rfl]
            exact ⟨rfl, rfl⟩
          | cons a q =>
            rw [decide_eq_false (by simp), if_neg (by decide)]
            walk_at "ev"
            refine ud_int (fun _ => .int _) ?_
            refine od_ixT (pt_last a q) ?_
            walk_at "ev"
            refine ⟨by simp, ?_⟩
            walk_at "ev"
            refine od_uInT (a := arD (lastN a q, i')) (okd_ar.sh (by decide)) (okd_arsT.sh (by decide)) ⟨_, rfl, rfl, ?_⟩
            rw [any_ars]
            rfl
        · walk_at "ev"
          refine ⟨by simp, od_catT ?_ ⟨rfl, ptD_snoc.symm⟩⟩
          have := chn_ql p i' q hq
          rw [List.length_map]
          show q.length + 1 ≤ 100000
          omega
      · have hfl := List.length_filter_le (linkB p i') (chn p i')
        refine ol_cat ?_ ⟨rfl, .dat (.int (i' : Nat)), s3, ?_⟩
        · rw [List.length_map, List.length_map]
          omega
        · show _ = [_, Sl.dat (.list ((chn p i' ++ _).map ptD)), _, _]
          rw [List.map_append, List.map_map]
          rfl
    · rintro ρ n ⟨rfl, s2, s3, rfl⟩
      rw [List.length_range]
      have hcl := cl p.ts.length (Nat.le_refl _)
      refine run_ret (ev_ofL (ev_cbL (ea_cons (ev_ofL (ev_lcA ptD (ei_list ?_))))))
      walk_at "ev"
      refine ⟨_, rfl, chn p p.ts.length, rfl, by omega, fun q => dec (Whole p q), fun q => ptD q, fun q hq => ?_, ?_⟩
      · have hql := chn_lt p _ q hq
        have hqn := chn_ql p _ q hq
        refine tg_name (by decide) ⟨?_, fun _ => ?_⟩
        · walk_at "ev"
          refine ⟨_, ⟨p, q, rfl, ok, hql, by omega, rfl⟩, ?_⟩
          rintro _ rfl
          exact ⟨_, rfl, rfl, rfl⟩
        · walk_at "ev"
          exact ⟨rfl, rfl⟩
      · have hfl := List.length_filter_le (fun q => dec (Whole p q)) (chn p p.ts.length)
        refine ea_nil (cl_sort (ps := (chn p p.ts.length).filter fun q => dec (Whole p q)) (fun q hq => ?_) fun qs hp => ?_)
        · exact ((dec_eq.mp (List.mem_filter.mp hq).2).mem ok).2.2
        · refine ⟨qs, rfl, by rw [hp.length_eq]; omega, fun q => ?_⟩
          rw [hp.mem_iff, List.mem_filter, dec_eq]
          refine ⟨fun h => h.2, fun h => ⟨mem_chn ok _ q ?_ (h.mem ok).1, h⟩⟩
          obtain ⟨t, ht, hb, x⟩ := h
          obtain ⟨r, rfl⟩ := x.hd
          exact ((tail_iff r t).mp x).2
end
end AC
set_option Elab.async false
set_option linter.all false
set_option maxRecDepth 100000
set_option maxHeartbeats 1000000
/-! The pen: a list of three that changes; sets of pairs. -/
namespace AC
open PySem PySem.Spec PyProof.Rows L2
theorem Rel.penUpd {p : Pen} {X0 X : Addr → Bool} {H : Hp} {σ : L2.St} {ρ : En} (r : Rel (some p) X0 X H σ ρ) (hX : X p.o = true) (xs : List V) : Rel (some p) X0 X (upd H p.o (.lst xs)) σ ρ where
  sub := r.sub
  pn0 := r.pn0
  len := r.len
  slot := fun i s h => by
    obtain ⟨x, h1, h2⟩ := r.slot i s h
    refine ⟨x, h1, ?_⟩
    cases s with
    | un => trivial
    | dat d => obtain ⟨v, e1, e2⟩ := h2; exact ⟨v, e1, by rw [mask_upd hX]; exact e2⟩
    | own ds =>
      obtain ⟨o, vs, e1, e2, e3, e4, e5, e6⟩ := h2
      exact ⟨o, vs, e1, e2, e3, e4, by rw [upd_ne (fun z => e4 p rfl z.symm)]; exact e5, by rw [mask_upd hX]; exact e6⟩
    | pen => exact h2
  apart := r.apart
section
variable {p : Pen} {ρ : En} {n i : Nat} {P : PyData → Nat → Prop} {te : TE} {K : PySem.W.Frag} {N B C : En → Nat → Prop} {R : PyData → Nat → Prop}
theorem ev_p2 (hi : ρ[i]? = some .pen) (k : ∀ v : Int, P (.int v) n) : EvR (some p) (tOp (rIx K) (tVar i) (tC (.int 2))) ρ n P := fun X0 X σ H w r Q q => by
  obtain ⟨x, h1, p', hp, rfl⟩ := r.slot i _ hi
  cases hp
  obtain ⟨_, a, v, h2, h3, h4, h5, h6⟩ := w.pen p rfl
  exact ⟨_, h1, .inl ⟨p.o, _, 2, .int v, rfl, rfl, SqL.of h2, atI_nat (j := 2) rfl, q _ H (.int v) n Xt.refl w (.int v) (k v)⟩⟩
theorem ev_p1 (hi : ρ[i]? = some .pen) (k : ∀ a : Int, 0 ≤ a → a ≤ n → P (.int a) n) : EvR (some p) (tOp (rIx K) (tVar i) (tC (.int 1))) ρ n P := fun X0 X σ H w r Q q => by
  obtain ⟨x, h1, p', hp, rfl⟩ := r.slot i _ hi
  cases hp
  obtain ⟨_, a, v, h2, h3, h4, h5, h6⟩ := w.pen p rfl
  exact ⟨_, h1, .inl ⟨p.o, _, 1, .int a, rfl, rfl, SqL.of h2, atI_nat (j := 1) rfl, q _ H (.int a) n Xt.refl w (.int a) (k a h5 h6)⟩⟩
theorem rp_ints {F : Hp} : ∀ l : List Int, RpAll F (l.map V.int) (l.map PyData.int)
  | [] => .nil
  | a :: l => .cons (.int a) (rp_ints l)
theorem ev_p0 (hi : ρ[i]? = some .pen) (k : p.cs.length ≤ 12 → P (liD p.cs) n) : EvR (some p) (tOp (rIx K) (tVar i) (tC (.int 0))) ρ n P := fun X0 X σ H w r Q q => by
  obtain ⟨x, h1, p', hp, rfl⟩ := r.slot i _ hi
  cases hp
  obtain ⟨_, a, v, h2, h3, h4, h5, h6⟩ := w.pen p rfl
  exact ⟨_, h1, .inl ⟨p.o, _, 0, .ref p.c, rfl, rfl, SqL.of h2, atI_nat (j := 0) rfl, q _ H (liD p.cs) n Xt.refl w (.lst h3 (rp_ints _)) (k h4)⟩⟩
theorem Good.penUpd {X0 X : Addr → Bool} {H0 H : Hp} {m : Nat} (g : Good (some p) X0 H0 X H n) {a v : Int} (ha : 0 ≤ a) (hm : a ≤ m) : Good (some p) X0 H0 X (upd H p.o (.lst [.ref p.c, .int a, .int v])) m := by
  obtain ⟨hX, _, _, h2, h3, h4, _, _⟩ := g.w.pen p rfl
  refine ⟨g.tr0, g.new, fun b u hb hbu => ?_, fun b hb => ?_, fun p' hp => ?_⟩
  · rw [upd_ne (fun z => hb p rfl z.symm)]
    exact g.xt b u hb hbu
  · by_cases z : b = p.o
    · rw [z]; exact ⟨_, upd_same⟩
    · rw [upd_ne z]; exact g.w.tr b hb
  · cases hp
    exact ⟨hX, a, v, upd_same, by rw [mask_upd hX]; exact h3, h4, ha, hm⟩
theorem run_p1 (hi : ρ[i]? = some .pen) (h : EvR (some p) te ρ n (fun d n1 => ∃ (z : Int) (m : Nat), d = .int z ∧ 0 ≤ z ∧ z ≤ m ∧ N ρ m)) : Run (some p) (tAsg te (gSub (tVar i) (tC (.int 1)) rSetL)) ρ n N R B C := fun X0 H0 X σ H D g r hn hr hb hc => by
  refine h X0 X σ H g.w r _ fun v H1 d n1 f1 w1 r1 ⟨z, m, ed, hz, hzm, hN⟩ => ?_
  subst ed
  have g1 := g.next f1 w1
  have r3 := r.mono g.w f1
  obtain ⟨x, h1, p', hp, rfl⟩ := r3.slot i _ hi
  cases hp
  obtain ⟨hX, a, v', h2, h3, h4, h5, h6⟩ := w1.pen p rfl
  refine ⟨_, h1, ?_⟩
  refine ⟨p.o, _, 1, 1, rfl, rfl, h2, rfl, ?_⟩
  show D.nx σ (upd H1 p.o (.lst [.ref p.c, v, .int v']))
  rw [r1.int']
  exact hn ρ m X σ _ (g1.penUpd hz hzm) (by rw [mask_upd hX]; exact Xt.mask g.w f1) (r3.penUpd hX _) hN
theorem run_p2 (hi : ρ[i]? = some .pen) (h : EvR (some p) te ρ n (fun d n1 => ∃ z : Int, d = .int z ∧ N ρ n1)) : Run (some p) (tAsg te (gSub (tVar i) (tC (.int 2)) rSetL)) ρ n N R B C := fun X0 H0 X σ H D g r hn hr hb hc => by
  refine h X0 X σ H g.w r _ fun v H1 d n1 f1 w1 r1 ⟨z, ed, hN⟩ => ?_
  subst ed
  have g1 := g.next f1 w1
  have r3 := r.mono g.w f1
  obtain ⟨x, h1, p', hp, rfl⟩ := r3.slot i _ hi
  cases hp
  obtain ⟨hX, a, v', h2, h3, h4, h5, h6⟩ := w1.pen p rfl
  refine ⟨_, h1, ?_⟩
  refine ⟨p.o, _, 2, 2, rfl, rfl, h2, rfl, ?_⟩
  show D.nx σ (upd H1 p.o (.lst [.ref p.c, .int a, v]))
  rw [r1.int']
  exact hn ρ n1 X σ _ (g1.penUpd h5 h6) (by rw [mask_upd hX]; exact Xt.mask g.w f1) (r3.penUpd hX _) hN
end
/-! ### sorted(set(pairs)) -/
def prI (a : Nat × Nat) : List Int := [(a.1 : Int), (a.2 : Int)]
def unI (l : List Int) : Nat × Nat := ((l.getD 0 0).toNat, (l.getD 1 0).toNat)
theorem unI_prI (a : Nat × Nat) : unI (prI a) = a := by
  obtain ⟨a, b⟩ := a
  rfl
theorem rp_ars {F : Hp} : ∀ {xs : List V} {ars : List (Nat × Nat)}, RpAll F xs (ars.map arD) → ∃ ks : List (Addr × List Int), xs = ks.map (fun q => V.ref q.1) ∧ ks.map (·.2) = ars.map prI ∧ ∀ q ∈ ks, F q.1 = some (.tup (q.2.map V.int))
  | xs, [], h => by
    cases h
    exact ⟨[], rfl, rfl, fun q hq => (by cases hq)⟩
  | xs, a :: ars, h => by
    cases h with
    | cons h1 h2 =>
      obtain ⟨ks, rfl, e2, h3⟩ := rp_ars h2
      obtain ⟨t, ys, rfl, ht, hy⟩ := Rp.tuple h1
      have ey : ys = (prI a).map V.int := by
        cases hy with
        | cons g1 g2 =>
          cases g2 with
          | cons g3 g4 =>
            cases g4
            rw [g1.int', g3.int']
            rfl
      refine ⟨(t, prI a) :: ks, rfl, by rw [List.map_cons, List.map_cons, e2], fun q hq => ?_⟩
      rcases List.mem_cons.mp hq with rfl | hq
      · rw [ht, ey]
      · exact h3 q hq
theorem rp_refs {F : Hp} : ∀ {L : List (Addr × List Int)}, (∀ q ∈ L, F q.1 = some (.tup (q.2.map V.int)) ∧ ∃ a, q.2 = prI a) → RpAll F (L.map fun q => V.ref q.1) ((L.map fun q => unI q.2).map arD)
  | [], _ => .nil
  | q :: L, h => by
    obtain ⟨h1, a, h2⟩ := h q List.mem_cons_self
    refine .cons ?_ (rp_refs fun r hr => h r (List.mem_cons_of_mem _ hr))
    show Rp F (.ref q.1) (arD (unI q.2))
    rw [h2, unI_prI]
    rw [h2] at h1
    exact .tup h1 (.cons (.int _) (.cons (.int _) .nil))
theorem SqT.same {K : PySem.W.Frag} {H H2 : Hp} {a : Addr} {xs : List V} (h : H a = some (.tup xs)) (s : Same H H2) : SqT K H2 a xs := SqT.of (s _ _ h)
theorem ev_sortSet {pn : Option Pen} {ρ : En} {n : Nat} {ta : TA} {K : PySem.W.Frag} {Pg : Program} {w : World} {PL : List PyData → Nat → Prop}
    (h : EvA pn ta ρ n (fun as n1 => ∃ ars : List (Nat × Nat), as = [.list (ars.map arD)] ∧ ars.length < 64 ∧ (∀ a ∈ ars, a.1 < 64 ∧ a.2 < 64) ∧ ∀ out : List (Nat × Nat), out.Nodup → (∀ x, x ∈ out ↔ x ∈ ars) → PL (out.map arD) n1)) :
    EvL pn (tCB (rSortedT K Pg w) (tCons (tCB (rSetOfT K Pg w) ta) tNil)) ρ n PL := fun X0 X σ H wd rr Q q =>
  h X0 X σ H wd rr _ fun xs H1 as n1 e1 w1 r1 ⟨ars, e, hl, hb, hk⟩ => by
    subst e
    obtain ⟨v, rfl, rv⟩ := one_arg' r1
    obtain ⟨l, ys, rfl, hy, hys⟩ := Rp.list rv
    obtain ⟨ks, rfl, ek, hks⟩ := rp_ars hys
    have elen : ks.length = ars.length := by
      have := congrArg List.length ek
      rw [List.length_map, List.length_map] at this
      exact this
    refine ⟨l, ks, rfl, SqL.of (mask_some hy).2, fun q hq => SqT.of (mask_some (hks q hq)).2, by omega, fun a L ha hsub hall => ?_⟩
    have sm : Same H1 (upd H1 a (SetTO Pg w a L)) := same_new ha
    have two : ∀ q ∈ ks, ∃ x, x ∈ ars ∧ q.2 = prI x := fun q hq => by
      have : q.2 ∈ ars.map prI := by rw [← ek]; exact List.mem_map.mpr ⟨q, hq, rfl⟩
      obtain ⟨x, hx, e⟩ := List.mem_map.mp this
      exact ⟨x, hx, e.symm⟩
    refine ⟨a, L, 2, 64, rfl, upd_same, fun q hq => SqT.of (sm _ _ (mask_some (hks q (hsub q hq))).2), by decide, fun q hq => ?_, fun L' o hp hnd hlen _ ho => ?_⟩
    · obtain ⟨x, hx, e⟩ := two q (hsub q hq)
      have := hb x hx
      rw [e]
      refine ⟨rfl, fun m hm => ?_⟩
      rcases List.mem_cons.mp hm with rfl | hm
      · omega
      · have : m = (x.2 : Int) := by simpa using hm
        omega
    · have w2 : Wd pn X (upd H1 a (SetTO Pg w a L)) n1 := w1.same sm
      have sm2 : Same (upd H1 a (SetTO Pg w a L)) (upd (upd H1 a (SetTO Pg w a L)) o (.lst (L'.map fun q => V.ref q.1))) := same_new ho
      have memL : ∀ q ∈ L', q ∈ ks := fun q hq => hsub q (hp.mem_iff.mp hq)
      refine q o _ (L'.map fun q => V.ref q.1) ((L'.map fun q => unI q.2).map arD) n1 ?_ (e1.trans (Xt.of (sm.trans sm2))) (w2.same sm2) upd_same ?_ (hk _ ?_ fun x => ?_)
      · exact Xt.fresh w2 (e1.trans (Xt.of sm)) ho
      · rw [mask_ins ho]
        refine rp_refs fun q hq => ⟨?_, ?_⟩
        · exact mask_same sm _ _ (hks q (memL q hq))
        · obtain ⟨x, _, e⟩ := two q (memL q hq)
          exact ⟨x, e⟩
      · have e2 : (L'.map fun q => unI q.2) = (L'.map (·.2)).map unI := by rw [List.map_map]; rfl
        rw [e2]
        refine nodup_map_inj hnd fun x hx y hy e => ?_
        obtain ⟨q, hq, rfl⟩ := List.mem_map.mp hx
        obtain ⟨q2, hq2, rfl⟩ := List.mem_map.mp hy
        obtain ⟨x1, _, e3⟩ := two q (memL q hq)
        obtain ⟨x2, _, e4⟩ := two q2 (memL q2 hq2)
        rw [e3, e4, unI_prI, unI_prI] at e
        rw [e3, e4, e]
      · rw [List.mem_map]
        constructor
        · rintro ⟨q, hq, rfl⟩
          obtain ⟨x1, h1, e3⟩ := two q (memL q hq)
          rw [e3, unI_prI]
          exact h1
        · intro hx
          have : prI x ∈ ks.map (·.2) := by rw [ek]; exact List.mem_map.mpr ⟨x, hx, rfl⟩
          obtain ⟨q, hq, e3⟩ := List.mem_map.mp this
          obtain ⟨q2, hq2, e4⟩ := List.mem_map.mp (hall q hq)
          refine ⟨q2, hp.mem_iff.mpr hq2, ?_⟩
          rw [e4, e3, unI_prI]
end AC
set_option Elab.async false
set_option linter.all false
set_option maxRecDepth 100000
set_option maxHeartbeats 1000000
namespace AC
open PySem PySem.Spec PyProof.Rows L2
local macro_rules | `(tactic| walk_at "sh") => `(tactic| first | exact sh_int | exact sh_bool | exact sh_none | exact okd_du.sh (by decide) | exact okd_li.sh (by decide) | exact okd_pt.sh (by decide) | exact okd_ar.sh (by decide) | exact okd_ps.sh (by decide) | exact okd_na.sh (by decide) | exact (okd_tup (okd_map fun _ _ => okd_int)).sh (by decide) | exact (okd_tup (okd_map fun _ _ => okd_ar)).sh (by decide) | exact (okd_lst (okd_map fun _ _ => okd_du)).sh (by decide) | exact (okd_lst (okd_map fun _ _ => okd_ar)).sh (by decide))
local macro_rules | `(tactic| walk_at "e1") => `(tactic| first | with_reducible refine ev_int ?_ | with_reducible refine ev_non ?_ | with_reducible refine ev_bl ?_ | with_reducible refine ev_str ?_ | with_reducible refine ea_nil ?_ | with_reducible refine ea_cons ?_ | with_reducible refine ev_op ?_ | with_reducible refine ev_call ?_ | with_reducible refine ev_cb ?_ | with_reducible refine ev_tup ?_ | with_reducible refine ev_if ?_ | with_reducible refine et_test ?_ | with_reducible refine et_B ?_ | with_reducible refine ev_isB ?_ | with_reducible refine ev_ntB ?_ | with_reducible refine ev_un ?_ | with_reducible refine ev_chain ?_ | with_reducible refine ev_andV ?_ | with_reducible refine ev_orV ?_ | with_reducible refine ev_notV ?_ | with_reducible refine et_and ?_ | with_reducible refine et_or ?_ | with_reducible refine et_not ?_ | refine ev_var rfl ?_ | refine od_add ?_ | refine od_I0 (fun _ => .int _) ?_ | refine od_I0 (fun _ => .bl _) ?_ | refine od_ixT at_0 ?_ | refine od_ixT at_1 ?_)
local macro_rules | `(tactic| walk_at "ev") => `(tactic| (walk_at "e1"; repeat walk_at "e1"))

section
variable {P : Program} {w : World} {K : PySem.W.Frag} {mg : Str → Option Value} {base : Heap}
def prm : List Int := [2147483629, 2147483587, 2147483579, 2147483563, 2147483549, 2147483543, 2147483497, 2147483489, 2147483477, 2147483423, 2147483399, 2147483353, 2147483323]
theorem prm_ok : ∀ k : Fin 13, 0 < prm.getD k.val 0 ∧ prm.getD k.val 0 < 2147483648 := by decide
theorem prm_at {z : Int} (h0 : 0 ≤ z) : ∃ q : Int, L2.atI (prm.map PyData.int) (z.fmod 13) = some (.int q) ∧ 0 < q ∧ q < 2147483648 := by
  have h1 : 0 ≤ z.fmod 13 := Int.fmod_nonneg h0 (by decide)
  have h2 : z.fmod 13 < 13 := Int.fmod_lt_of_pos z (by decide)
  obtain ⟨k, hk⟩ : ∃ k : Nat, z.fmod 13 = (k : Int) := ⟨(z.fmod 13).toNat, by omega⟩
  have hk13 : k < 13 := by omega
  have := prm_ok ⟨k, hk13⟩
  refine ⟨prm.getD k 0, ?_, this.1, this.2⟩
  rw [hk]
  exact li_at hk13
theorem fmod_rng {a q : Int} (h : 0 < q) : 0 ≤ a.fmod q ∧ a.fmod q < q := ⟨Int.fmod_nonneg_of_pos a h, Int.fmod_lt_of_pos a h⟩
theorem mul_rng {a b A B : Int} (h1 : 0 ≤ a) (h2 : a ≤ A) (h3 : 0 ≤ b) (h4 : b ≤ B) : 0 ≤ a * b ∧ a * b ≤ A * B := ⟨Int.mul_nonneg h1 h3, Int.mul_le_mul h2 h4 h3 (Int.le_trans h1 h2)⟩
abbrev S_spread : Spec := fun ds R => ∃ c a : Int, ds = [.int c, .int a] ∧ 0 ≤ a ∧ a ≤ 1000 ∧ R = fun d => ∃ z : Int, d = .int z
abbrev N__law_spread : List Str := ["_law_cell", "_law_at", "_law_primes", "_law_one", "_law_two", "_law_three"]
theorem sc__law_spread : FnScope N__law_spread ["_law_cell", "_law_at"] (defScope s__law_spread) := ⟨rfl, rfl, rfl, by decide +kernel, rfl, by decide +kernel, by decide +kernel⟩
theorem ok__law_spread (Rw : Raw K mg "_law_spread" s__law_spread ["_law_cell", "_law_at"]) (B : Bl mg) :
    Def P w K mg base 1 "_law_spread" ["_law_cell", "_law_at"] (fsp S_spread) := by
  refine def_ok Rw sc__law_spread (fun ds R h => ?_) fun f cdv A outer s H E hr => ⟨_, (pss_cons (ps_if (pt_cmpR op_ge (pv 0) (pe_op op_pow pe_int pe_int) (nomark _)) (pss_one (ps_ret (pv 0))) pss_nil)
      (pss_cons (ps_set (i := 2) sc__law_spread.nd rfl (Or.inl rfl) (pe_lst (pa_cons pe_int (pa_cons pe_int (pa_cons pe_int (pa_cons pe_int (pa_cons pe_int (pa_cons pe_int (pa_cons pe_int (pa_cons pe_int pa_nil))))))))))
      (pss_cons (ps_set (i := 2) sc__law_spread.nd rfl (Or.inl rfl) (pe_op (k_add K rfl) (pv 2) (pe_lst (pa_cons pe_int (pa_cons pe_int (pa_cons pe_int (pa_cons pe_int (pa_cons pe_int pa_nil))))))))
      (pss_cons (ps_set (i := 3) sc__law_spread.nd rfl (Or.inl rfl) (pe_op op_modN (pe_op op_pow (pe_op (k_add K rfl) (pe_op (k_add K rfl) (pe_op op_uMul (pe_op op_modN (pv 0) pe_int) (pe_op (k_add K rfl) (pe_op op_uMul pe_int (pv 1)) pe_int)) (pe_op op_uMul (pv 1) pe_int)) pe_int) pe_int) (pe_ix (k_ix K rfl) (pv 2) (pe_op op_modN (pv 1) pe_int) (fun _ _ => rfl))))
      (pss_cons (ps_set (i := 4) sc__law_spread.nd rfl (Or.inl rfl) (pe_op op_modN (pe_op op_pow (pe_op (k_add K rfl) (pe_op (k_add K rfl) (pe_op op_uMul (pv 3) (pe_op (k_add K rfl) (pv 1) pe_int)) (pe_op op_modN (pv 0) pe_int)) pe_int) pe_int) (pe_ix (k_ix K rfl) (pv 2) (pe_op op_modN (pe_op (k_add K rfl) (pv 1) pe_int) pe_int) (fun _ _ => rfl))))
      (pss_cons (ps_set (i := 5) sc__law_spread.nd rfl (Or.inl rfl) (pe_op op_modN (pe_op op_pow (pe_op (k_add K rfl) (pe_op (k_add K rfl) (pv 4) (pe_op op_modN (pv 3) pe_int)) (pv 1)) pe_int) (pe_ix (k_ix K rfl) (pv 2) (pe_op op_modN (pe_op (k_add K rfl) (pv 1) pe_int) pe_int) (fun _ _ => rfl))))
      (pss_one (ps_ret (pe_op (k_add K rfl) (pe_op op_uMul (pe_op (k_add K rfl) (pe_op op_uMul (pv 3) pe_int) (pv 4)) pe_int) (pv 5)))))))))), fun ds R h => ?_⟩
  · obtain ⟨c, a, rfl, _⟩ := h; rfl
  · obtain ⟨c, a, rfl, ha, ha2, rfl⟩ := h
    refine run_seq (run_if ?_)
    walk_at "ev"
    refine od_I (fun _ => .int _) ⟨by decide, by decide, by decide⟩ ?_
    walk_at "ev"
    refine ⟨_, rfl, ?_⟩
    by_cases hc : (10 : Int) ^ (18 : Int).toNat ≤ c
    · rw [if_pos (by simpa using hc)]
      exact run_ret (ev_var rfl ⟨c, rfl⟩)
    · rw [if_neg (by simpa using hc)]
      refine run_next ?_
      refine run_seq (run_set (ev_ofL (ev_lst ?_)))
      walk_at "ev"
      refine ⟨by simp, ?_⟩
      refine run_seq (run_set (ev_ofL (ev_opL ?_)))
      walk_at "ev"
      refine ev_ofL (ev_lst ?_)
      walk_at "ev"
      refine ⟨by simp, ol_cat (by simp) ?_⟩
      have e1 := fmod_rng (a := c) (q := 1000000007) (by decide)
      have e2 := fmod_rng (a := c) (q := 65537) (by decide)
      have m1 := mul_rng e1.1 (Int.le_of_lt e1.2) (show 0 ≤ 2 * a + 69069 by omega) (show 2 * a + 69069 ≤ 80000 by omega)
      obtain ⟨q1, p1, p2, p3⟩ := prm_at ha
      obtain ⟨q2, p4, p5, p6⟩ := prm_at (z := a + 5) (by omega)
      obtain ⟨q3, p7, p8, p9⟩ := prm_at (z := a + 7) (by omega)
      refine run_seq (run_set ?_)
      walk_at "ev"
      refine od_I (fun _ => .int _) (by decide) ?_
      walk_at "ev"
      refine od_mul (.inl ⟨by decide, by decide⟩) ?_
      walk_at "ev"
      refine od_mul (.inl ⟨by omega, by omega⟩) ?_
      walk_at "ev"
      refine od_mul (.inr ⟨by decide, by decide⟩) ?_
      walk_at "ev"
      refine od_I (fun _ => .int _) ⟨by decide, by decide, by omega⟩ ?_
      walk_at "ev"
      refine od_I (fun _ => .int _) (by decide) ?_
      refine od_ixL p1 ?_
      refine od_I (fun _ => .int _) (by omega) ?_
      refine run_seq (run_set ?_)
      generalize h1 : Int.fmod _ q1 = one
      have o1 := h1 ▸ fmod_rng (a := _) p2
      have m2 := mul_rng (a := one) (b := a + 3) (A := 2147483648) (B := 1003) (by omega) (by omega) (by omega) (by omega)
      walk_at "ev"
      refine od_mul (.inl ⟨by omega, by omega⟩) ?_
      walk_at "ev"
      refine od_I (fun _ => .int _) (by decide) ?_
      walk_at "ev"
      refine od_I (fun _ => .int _) ⟨by decide, by decide, by omega⟩ ?_
      walk_at "ev"
      refine od_I (fun _ => .int _) (by decide) ?_
      refine od_ixL p4 ?_
      refine od_I (fun _ => .int _) (by omega) ?_
      refine run_seq (run_set ?_)
      generalize h2 : Int.fmod _ q2 = two
      have o2 := h2 ▸ fmod_rng (a := _) p5
      have e3 := fmod_rng (a := one) (q := 1009) (by decide)
      walk_at "ev"
      refine od_I (fun _ => .int _) (by decide) ?_
      walk_at "ev"
      refine od_I (fun _ => .int _) ⟨by decide, by decide, by omega⟩ ?_
      walk_at "ev"
      refine od_I (fun _ => .int _) (by decide) ?_
      refine od_ixL p7 ?_
      refine od_I (fun _ => .int _) (by omega) ?_
      refine run_ret ?_
      walk_at "ev"
      refine od_mul (.inl ⟨by omega, by omega⟩) ?_
      walk_at "ev"
      refine od_mul (.inr ⟨by decide, by decide⟩) ?_
      walk_at "ev"
      exact ⟨_, rfl⟩
abbrev TkR (n : Nat) (k : Int) : PyData → Nat → Prop := fun d m => m ≤ n + 1 ∧ ∃ r : Nat, d = .int (r : Int) ∧ (r : Int) < k
abbrev S_take : SpecP := fun ds n R => ∃ k : Int, ds = [.int k] ∧ 0 < k ∧ k < 1000 ∧ n < 900 ∧ R = TkR n k
abbrev N__law_take : List Str := ["_law_pen", "_law_amount", "_law_at", "_law_cell", "_law_found"]
theorem sc__law_take : FnScope N__law_take ["_law_pen", "_law_amount"] (defScope s__law_take) := ⟨rfl, rfl, rfl, by decide +kernel, rfl, by decide +kernel, by decide +kernel⟩
theorem ok__law_take (Rw : Raw K mg "_law_take" s__law_take ["_law_pen", "_law_amount"]) (B : Bl mg)
    (D_law_spread : Def P w K mg base 1 "_law_spread" ["_law_cell", "_law_at"] (fsp S_spread)) :
    Def P w K mg base 2 "_law_take" ["_law_pen", "_law_amount"] (psp S_take) := by
  refine def_okP Rw sc__law_take (fun ds n R h => ?_) fun f cdv A outer s H E hr => ⟨_, (pss_cons (ps_if (pt_cmpR op_lt (pe_ix (k_ix K rfl) (pv 0) pe_int (fun _ _ => rfl)) (pv 1) (nomark _)) (pss_cons (ps_set (i := 2) sc__law_take.nd rfl (Or.inl rfl) (pe_ix (k_ix K rfl) (pv 0) pe_int (fun _ _ => rfl)))
      (pss_cons (ps_set (i := 3) sc__law_take.nd rfl (Or.inl rfl) pe_int)
      (pss_cons (ps_if (pt_cmpR op_lt (pv 2) (pe_callB (k_len K rfl) (by rfl) B.len bb_len (pa_cons (pe_ix (k_ix K rfl) (pv 0) pe_int (fun _ _ => rfl)) pa_nil)) (nomark _)) (pss_one (ps_set (i := 3) sc__law_take.nd rfl (Or.inl rfl) (pe_ix (k_ix K rfl) (pe_ix (k_ix K rfl) (pv 0) pe_int (fun _ _ => rfl)) (pv 2) (fun _ _ => rfl)))) (pss_one (ps_if (pt_cmpR op_gt (pe_callB (k_len K rfl) (by rfl) B.len bb_len (pa_cons (pe_ix (k_ix K rfl) (pv 0) pe_int (fun _ _ => rfl)) pa_nil)) pe_int (nomark _)) (pss_one (ps_set (i := 3) sc__law_take.nd rfl (Or.inl rfl) (pe_op op_modN (pe_ix (k_ix K rfl) (pe_ix (k_ix K rfl) (pv 0) pe_int (fun _ _ => rfl)) (pe_op op_modN (pe_op (k_add K rfl) (pe_op op_uMul (pv 2) pe_int) pe_int) (pe_callB (k_len K rfl) (by rfl) B.len bb_len (pa_cons (pe_ix (k_ix K rfl) (pv 0) pe_int (fun _ _ => rfl)) pa_nil))) (fun _ _ => rfl)) (pe_op (k_add K rfl) (pe_op op_pow pe_int pe_int) (pv 2))))) pss_nil)))
      (pss_cons (ps_asg (pe_op (k_add K rfl) (pv 2) pe_int) (pg_sub (pv 0) pe_int set_list))
      (pss_one (ps_asg (pe_def D_law_spread (hr.mono (by first | decide | omega)) (by rfl) (pa_cons (pv 3) (pa_cons (pv 2) pa_nil))) (pg_sub (pv 0) pe_int set_list))))))) pss_nil)
      (pss_cons (ps_set (i := 4) sc__law_take.nd rfl (Or.inl rfl) (pe_op op_modN (pe_ix (k_ix K rfl) (pv 0) pe_int (fun _ _ => rfl)) (pv 1)))
      (pss_cons (ps_asg (pe_op op_fdivN (pe_ix (k_ix K rfl) (pv 0) pe_int (fun _ _ => rfl)) (pv 1)) (pg_sub (pv 0) pe_int set_list))
      (pss_one (ps_ret (pv 4)))))), fun pen ds n R h => ?_⟩
  · obtain ⟨k, rfl, _⟩ := h; rfl
  · obtain ⟨k, rfl, hk, hk2, hn, rfl⟩ := h
    have fin : ∀ (s2 s3 s4 : Sl) (m : Nat), m ≤ n + 1 → Run (some pen) (tSeq (tAsg (tOp (rI (fun _ j => j ≠ 0) fun i j => V.int (i.fmod j)) (tOp (rIx K) (tVar 0) (tC (V.int 2))) (tVar 1)) (gName 4)) (tSeq (tAsg (tOp (rI CDivN fun i j => V.int (i.fdiv j)) (tOp (rIx K) (tVar 0) (tC (V.int 2))) (tVar 1)) (gSub (tVar 0) (tC (V.int 2)) rSetL)) (tRet (tVar 4))))
        [.pen, .dat (.int k), s2, s3, s4] m (fun _ n2 => TkR n k .none n2) (TkR n k) (fun _ _ => False) (fun _ _ => False) := by
      intro s2 s3 s4 m hm
      refine run_seq (run_set (ev_op (ev_p2 rfl fun v => ?_)))
      walk_at "ev"
      refine od_I (fun _ => .int _) (by omega) ?_
      have := fmod_rng (a := v) hk
      refine run_seq (run_p2 rfl (ev_op (ev_p2 rfl fun v2 => ?_)))
      walk_at "ev"
      refine od_I (fun _ => .int _) ⟨by omega, by omega⟩ ⟨_, rfl, ?_⟩
      refine run_ret (ev_var rfl ⟨hm, (v.fmod k).toNat, ?_, by omega⟩)
      congr 1
      omega
    refine run_seq (run_if (et_test (ev_op (ev_p2 rfl fun v => ?_))))
    walk_at "ev"
    refine ⟨_, rfl, ?_⟩
    by_cases hv : v < k
    · rw [if_pos (by simpa using hv)]
      refine run_seq (run_set (ev_p1 rfl fun a ha0 han => ?_))
      refine run_seq (run_set ?_)
      walk_at "ev"
      have aft : ∀ (c : Int), Run (some pen) (tSeq (tAsg (tOp (uAdd K) (tVar 2) (tC (V.int 1))) (gSub (tVar 0) (tC (V.int 1)) rSetL)) (tAsg (tCall (fsp S_spread) [] E0 (tCons (tVar 3) (tCons (tVar 2) tNil))) (gSub (tVar 0) (tC (V.int 2)) rSetL))) [.pen, .dat (.int k), .dat (.int a), .dat (.int c), .un] n
          (fun ρ' n' => Run (some pen) (tSeq (tAsg (tOp (rI (fun _ j => j ≠ 0) fun i j => V.int (i.fmod j)) (tOp (rIx K) (tVar 0) (tC (V.int 2))) (tVar 1)) (gName 4)) (tSeq (tAsg (tOp (rI CDivN fun i j => V.int (i.fdiv j)) (tOp (rIx K) (tVar 0) (tC (V.int 2))) (tVar 1)) (gSub (tVar 0) (tC (V.int 2)) rSetL)) (tRet (tVar 4))))
            ρ' n' (fun _ n2 => TkR n k .none n2) (TkR n k) (fun _ _ => False) (fun _ _ => False))
          (TkR n k) (fun _ _ => False) (fun _ _ => False) := by
        intro c
        refine run_seq (run_p1 rfl ?_)
        walk_at "ev"
        refine ⟨_, n + 1, rfl, by omega, by omega, ?_⟩
        refine run_p2 rfl ?_
        walk_at "ev"
        refine ⟨_, ⟨c, a, rfl, ha0, by omega, rfl⟩, ?_⟩
        rintro _ ⟨z, rfl⟩
        exact ⟨z, rfl, fin _ _ _ _ (Nat.le_refl _)⟩
      refine run_seq (run_if (et_test (ev_op (ev_var rfl (ev_cb (ea_cons (ev_p0 rfl fun hc12 => ?_)))))))
      walk_at "ev"
      refine cb_lenL ?_
      walk_at "ev"
      refine ⟨_, rfl, ?_⟩
      rw [List.length_map]
      by_cases hl : a < pen.cs.length
      · rw [if_pos (by simpa using hl)]
        refine run_set (ev_op (ev_p0 rfl fun hc12 => ?_))
        walk_at "ev"
        obtain ⟨j, rfl⟩ : ∃ j : Nat, a = (j : Int) := ⟨a.toNat, by omega⟩
        refine od_ixL (i := (j : Nat)) (li_at (by omega)) ?_
        exact aft _
      · rw [if_neg (by simpa using hl)]
        refine run_if (et_test (ev_op (ev_cb (ea_cons (ev_p0 rfl fun hc12 => ?_)))))
        walk_at "ev"
        refine cb_lenL ?_
        walk_at "ev"
        refine ⟨_, rfl, ?_⟩
        rw [List.length_map]
        by_cases hp : (0 : Int) < pen.cs.length
        · rw [if_pos (by simpa using hp)]
          refine run_set (ev_op (ev_op (ev_p0 rfl fun hc12 => ?_)))
          walk_at "ev"
          refine od_mul (.inr ⟨by decide, by decide⟩) ?_
          refine ev_int (od_add ?_)
          refine ev_cb (ea_cons (ev_p0 rfl fun hc12 => ?_))
          walk_at "ev"
          refine cb_lenL ?_
          refine od_I (fun _ => .int _) (by rw [List.length_map]; omega) ?_
          rw [List.length_map]
          have hr := fmod_rng (a := a * 5 + 3) hp
          obtain ⟨j, hj⟩ : ∃ j : Nat, (a * 5 + 3).fmod (pen.cs.length : Int) = (j : Int) := ⟨((a * 5 + 3).fmod (pen.cs.length : Int)).toNat, by omega⟩
          rw [hj]
          refine od_ixL (i := (j : Nat)) (li_at (by omega)) ?_
          walk_at "ev"
          refine od_I (fun _ => .int _) ⟨by decide, by decide, by decide⟩ ?_
          walk_at "ev"
          have h17 : (0 : Int) < 10 ^ (17 : Int).toNat := by decide
          refine od_I (fun _ => .int _) (by omega) ?_
          exact aft _
        · rw [if_neg (by simpa using hp)]
          exact run_next (aft _)
    · rw [if_neg (by simpa using hv)]
      exact run_next (fin _ _ _ _ (Nat.le_succ _))
end
end AC
set_option Elab.async false
set_option linter.all false
set_option maxRecDepth 100000
set_option maxHeartbeats 1000000
namespace AC
open PySem PySem.Spec PyProof.Rows L2
local macro_rules | `(tactic| walk_at "sh") => `(tactic| first | exact sh_int | exact sh_bool | exact sh_none | exact okd_du.sh (by decide) | exact okd_li.sh (by decide) | exact okd_pt.sh (by decide) | exact okd_ar.sh (by decide) | exact okd_ps.sh (by decide) | exact okd_na.sh (by decide) | exact (okd_tup (okd_map fun _ _ => okd_int)).sh (by decide) | exact (okd_tup (okd_map fun _ _ => okd_ar)).sh (by decide) | exact (okd_lst (okd_map fun _ _ => okd_du)).sh (by decide) | exact (okd_lst (okd_map fun _ _ => okd_ar)).sh (by decide))
local macro_rules | `(tactic| walk_at "e1") => `(tactic| first | with_reducible refine ev_int ?_ | with_reducible refine ev_non ?_ | with_reducible refine ev_bl ?_ | with_reducible refine ev_str ?_ | with_reducible refine ea_nil ?_ | with_reducible refine ea_cons ?_ | with_reducible refine ev_op ?_ | with_reducible refine ev_call ?_ | with_reducible refine ev_cb ?_ | with_reducible refine ev_tup ?_ | with_reducible refine ev_if ?_ | with_reducible refine et_test ?_ | with_reducible refine et_B ?_ | with_reducible refine ev_isB ?_ | with_reducible refine ev_ntB ?_ | with_reducible refine ev_un ?_ | with_reducible refine ev_chain ?_ | with_reducible refine ev_andV ?_ | with_reducible refine ev_orV ?_ | with_reducible refine ev_notV ?_ | with_reducible refine et_and ?_ | with_reducible refine et_or ?_ | with_reducible refine et_not ?_ | refine ev_var rfl ?_ | refine od_add ?_ | refine od_I0 (fun _ => .int _) ?_ | refine od_I0 (fun _ => .bl _) ?_ | refine od_ixT at_0 ?_ | refine od_ixT at_1 ?_)
local macro_rules | `(tactic| walk_at "ev") => `(tactic| (walk_at "e1"; repeat walk_at "e1"))

section
variable {P : Program} {w : World} {K : PySem.W.Frag} {mg : Str → Option Value} {base : Heap}
abbrev S_one : SpecP := fun ds n R => ∃ l : List PyData, ds = [.list l] ∧ l ≠ [] ∧ l.length < 1000 ∧ n < 900 ∧ R = fun d m => m ≤ n + 1 ∧ d ∈ l
abbrev N__law_one_of : List Str := ["_law_pen", "_law_some"]
theorem sc__law_one_of : FnScope N__law_one_of ["_law_pen", "_law_some"] (defScope s__law_one_of) := ⟨rfl, rfl, rfl, by decide +kernel, rfl, by decide +kernel, by decide +kernel⟩
theorem ok__law_one_of (Rw : Raw K mg "_law_one_of" s__law_one_of ["_law_pen", "_law_some"]) (B : Bl mg)
    (D_law_take : Def P w K mg base 2 "_law_take" ["_law_pen", "_law_amount"] (psp S_take)) :
    Def P w K mg base 3 "_law_one_of" ["_law_pen", "_law_some"] (psp S_one) := by
  refine def_okP Rw sc__law_one_of (fun ds n R h => ?_) fun f cdv A outer s H E hr => ⟨_, (pss_one (ps_ret (pe_ix (k_ix K rfl) (pv 1) (pe_def D_law_take (hr.mono (by first | decide | omega)) (by rfl) (pa_cons (pv 0) (pa_cons (pe_callB (k_len K rfl) (by rfl) B.len bb_len (pa_cons (pv 1) pa_nil)) pa_nil))) (fun _ _ => rfl)))), fun pen ds n R h => ?_⟩
  · obtain ⟨l, rfl, _⟩ := h; rfl
  · obtain ⟨l, rfl, h0, hl, hn, rfl⟩ := h
    have hpos : 0 < l.length := List.length_pos_iff.mpr h0
    refine run_ret ?_
    walk_at "ev"
    refine ev_callP rfl ?_
    walk_at "ev"
    refine cb_lenL ?_
    walk_at "ev"
    refine ⟨_, ⟨_, rfl, by omega, by omega, hn, rfl⟩, ?_⟩
    rintro _ m ⟨hm, r, rfl, hr⟩
    have hr' : r < l.length := by omega
    exact od_ixL (i := (r : Nat)) (atI_nat (List.getElem?_eq_getElem hr')) ⟨hm, List.getElem_mem hr'⟩
def AllB (B : Int) (l : List PyData) : Prop := ∀ d ∈ l, ∃ k : Int, d = .int k ∧ 0 ≤ k ∧ k ≤ B
theorem allB_nil {B : Int} : AllB B [] := fun d hd => by cases hd
theorem allB_cons {B z : Int} {l : List PyData} (h0 : 0 ≤ z) (h1 : z ≤ B) (h : AllB B l) : AllB B (.int z :: l) := fun d hd => by
  rcases List.mem_cons.mp hd with rfl | hd
  · exact ⟨z, rfl, h0, h1⟩
  · exact h d hd
abbrev BdsR (n : Nat) : PyData → Nat → Prop := fun d m => m ≤ n + 5 ∧ ∃ a b : Int, d = bdD (a, b) ∧ 0 ≤ a ∧ a ≤ b ∧ b ≤ 99
abbrev S_bounds : SpecP := fun ds n R => ds = [] ∧ n < 800 ∧ R = BdsR n
abbrev N__law_draw_bounds : List Str := ["_law_pen", "_law_low"]
theorem sc__law_draw_bounds : FnScope N__law_draw_bounds ["_law_pen"] (defScope s__law_draw_bounds) := ⟨rfl, rfl, rfl, by decide +kernel, rfl, by decide +kernel, by decide +kernel⟩
theorem ok__law_draw_bounds (Rw : Raw K mg "_law_draw_bounds" s__law_draw_bounds ["_law_pen"]) (B : Bl mg)
    (D_law_take : Def P w K mg base 2 "_law_take" ["_law_pen", "_law_amount"] (psp S_take))
    (D_law_one_of : Def P w K mg base 3 "_law_one_of" ["_law_pen", "_law_some"] (psp S_one)) :
    Def P w K mg base 4 "_law_draw_bounds" ["_law_pen"] (psp S_bounds) := by
  refine def_okP Rw sc__law_draw_bounds (fun ds n R h => ?_) fun f cdv A outer s H E hr => ⟨_, (pss_cons (ps_set (i := 1) sc__law_draw_bounds.nd rfl (Or.inl rfl) (pe_def D_law_one_of (hr.mono (by first | decide | omega)) (by rfl) (pa_cons (pv 0) (pa_cons (pe_lst (pa_cons pe_int (pa_cons pe_int (pa_cons pe_int (pa_cons pe_int (pa_cons pe_int (pa_cons (pe_def D_law_take (hr.mono (by first | decide | omega)) (by rfl) (pa_cons (pv 0) (pa_cons pe_int pa_nil))) (pa_cons (pe_def D_law_take (hr.mono (by first | decide | omega)) (by rfl) (pa_cons (pv 0) (pa_cons pe_int pa_nil))) pa_nil)))))))) pa_nil))))
      (pss_one (ps_ret (pe_tup (pa_cons (pv 1) (pa_cons (pe_callB (call_min2 rfl) (by rfl) B.min bb_min (pa_cons pe_int (pa_cons (pe_op (k_add K rfl) (pv 1) (pe_def D_law_one_of (hr.mono (by first | decide | omega)) (by rfl) (pa_cons (pv 0) (pa_cons (pe_lst (pa_cons pe_int (pa_cons pe_int (pa_cons pe_int (pa_cons pe_int (pa_cons pe_int (pa_cons pe_int (pa_cons (pe_def D_law_take (hr.mono (by first | decide | omega)) (by rfl) (pa_cons (pv 0) (pa_cons pe_int pa_nil))) pa_nil)))))))) pa_nil)))) pa_nil))) pa_nil)))))), fun pen ds n R h => ?_⟩
  · obtain ⟨rfl, _⟩ := h; rfl
  · obtain ⟨rfl, hn, rfl⟩ := h
    refine run_seq (run_set (ev_callP rfl (ea_cons (ev_ofL (ev_lst ?_)))))
    walk_at "ev"
    refine ev_callP rfl ?_
    walk_at "ev"
    refine ⟨_, ⟨_, rfl, by decide, by decide, by omega, rfl⟩, ?_⟩
    rintro _ m1 ⟨hm1, r1, rfl, hr1⟩
    walk_at "ev"
    refine ev_callP rfl ?_
    walk_at "ev"
    refine ⟨_, ⟨_, rfl, by decide, by decide, by omega, rfl⟩, ?_⟩
    rintro _ m2 ⟨hm2, r2, rfl, hr2⟩
    walk_at "ev"
    refine ⟨by simp, ?_⟩
    walk_at "ev"
    refine ⟨_, ⟨_, rfl, by simp, by simp, by omega, rfl⟩, ?_⟩
    rintro d m3 ⟨hm3, hd⟩
    have hall : AllB 99 [.int 0, .int 1, .int 2, .int 3, .int 5, .int (r1 : Int), .int (r2 : Int)] := allB_cons (by decide) (by decide) (allB_cons (by decide) (by decide) (allB_cons (by decide) (by decide) (allB_cons (by decide) (by decide) (allB_cons (by decide) (by decide) (allB_cons (by omega) (by omega) (allB_cons (by omega) (by omega) allB_nil))))))
    obtain ⟨lo, rfl, lo0, lo1⟩ := hall d hd
    refine run_ret ?_
    walk_at "ev"
    refine ev_callP rfl (ea_cons (ev_ofL (ev_lst ?_)))
    walk_at "ev"
    refine ev_callP rfl ?_
    walk_at "ev"
    refine ⟨_, ⟨_, rfl, by decide, by decide, by omega, rfl⟩, ?_⟩
    rintro _ m4 ⟨hm4, r4, rfl, hr4⟩
    walk_at "ev"
    refine ⟨by simp, ?_⟩
    walk_at "ev"
    refine ⟨_, ⟨_, rfl, by simp, by simp, by omega, rfl⟩, ?_⟩
    rintro d m5 ⟨hm5, hd⟩
    have hall : AllB 99 [.int 0, .int 0, .int 1, .int 2, .int 3, .int 7, .int (r4 : Int)] := allB_cons (by decide) (by decide) (allB_cons (by decide) (by decide) (allB_cons (by decide) (by decide) (allB_cons (by decide) (by decide) (allB_cons (by decide) (by decide) (allB_cons (by decide) (by decide) (allB_cons (by omega) (by omega) allB_nil))))))
    obtain ⟨wd, rfl, wd0, wd1⟩ := hall d hd
    walk_at "ev"
    refine cb_min2 ?_
    walk_at "ev"
    refine ⟨by simp, by omega, lo, (if lo + wd < 99 then lo + wd else 99), rfl, lo0, ?_, ?_⟩
    · split <;> omega
    · split <;> omega
abbrev PrjR (n : Nat) : PyData → Nat → Prop := fun d m => m ≤ n + 80 ∧ ∃ (ts : List (Int × Int)) (ar : List (Nat × Nat)), d = .tuple [.tuple (ts.map bdD), .tuple (ar.map arD)] ∧ 1 ≤ ts.length ∧ ts.length ≤ 6 ∧ (∀ b ∈ ts, 0 ≤ b.1 ∧ b.1 ≤ b.2 ∧ b.2 ≤ 99) ∧ (∀ a ∈ ar, a.1 < a.2 ∧ a.2 < ts.length) ∧ ar.Nodup ∧ ar.length ≤ 36
abbrev S_drawp : SpecP := fun ds n R => ds = [.int 6] ∧ n < 700 ∧ R = PrjR n
abbrev N__law_draw_project : List Str := ["_law_pen", "_law_most", "_law_size", "_law_way", "_law_tasks", "_law_task", "_law_arrows", "_law_i", "_law_j"]
theorem sc__law_draw_project : FnScope N__law_draw_project ["_law_pen", "_law_most"] (defScope s__law_draw_project) := ⟨rfl, rfl, rfl, by decide +kernel, rfl, by decide +kernel, by decide +kernel⟩
theorem ok__law_draw_project (Rw : Raw K mg "_law_draw_project" s__law_draw_project ["_law_pen", "_law_most"]) (B : Bl mg)
    (D_law_take : Def P w K mg base 2 "_law_take" ["_law_pen", "_law_amount"] (psp S_take))
    (D_law_draw_bounds : Def P w K mg base 4 "_law_draw_bounds" ["_law_pen"] (psp S_bounds))
    (D_law_one_of : Def P w K mg base 3 "_law_one_of" ["_law_pen", "_law_some"] (psp S_one)) :
    Def P w K mg base 5 "_law_draw_project" ["_law_pen", "_law_most"] (psp S_drawp) := by
  refine def_okP Rw sc__law_draw_project (fun ds n R h => ?_) fun f cdv A outer s H E hr => ⟨_, (pss_cons (ps_asg (pe_tup (pa_cons (pe_op (k_add K rfl) pe_int (pe_def D_law_take (hr.mono (by first | decide | omega)) (by rfl) (pa_cons (pv 0) (pa_cons (pv 1) pa_nil)))) (pa_cons (pe_def D_law_one_of (hr.mono (by first | decide | omega)) (by rfl) (pa_cons (pv 0) (pa_cons (pe_lst (pa_cons pe_int (pa_cons pe_int (pa_cons pe_int (pa_cons pe_int (pa_cons pe_int (pa_cons pe_int pa_nil))))))) pa_nil))) pa_nil))) (k_tup K rfl 2 rfl (pgs_cons (pg_name (i := 2) sc__law_draw_project.nd rfl (Or.inl rfl)) (pgs_cons (pg_name (i := 3) sc__law_draw_project.nd rfl (Or.inr rfl)) pgs_nil))))
      (pss_cons (ps_set (i := 4) sc__law_draw_project.nd rfl (Or.inl rfl) (pe_callTy (k_tuple K rfl) (by rfl) B.tuple bb_tuple (pa_cons (pe_lc rfl sc__law_draw_project.nd (pi_range1 (by rfl) B.range (pa_cons (pv 2) pa_nil)) (blkOk_by (own := [("_law_task", 5)]) (N := N__law_draw_project) (sc := defScope s__law_draw_project) (by decide +kernel)) (fun _ _ _ _ _ => (pg_name (i := 5) sc__law_draw_project.nd rfl (Or.inl rfl))) (fun _ _ _ _ _ => pts_nil) (fun _ _ _ _ _ => (pe_def D_law_draw_bounds (hr.mono (by first | decide | omega)) (by rfl) (pa_cons (pv 0) pa_nil)))) pa_nil)))
      (pss_cons (ps_set (i := 6) sc__law_draw_project.nd rfl (Or.inl rfl) (pe_lst pa_nil))
      (pss_cons (ps_for PassesOwn.never rfl (pi_range1 (by rfl) B.range (pa_cons (pv 2) pa_nil)) (pg_name (i := 7) sc__law_draw_project.nd rfl (Or.inr rfl)) (pss_one (ps_set (i := 6) sc__law_draw_project.nd rfl (Or.inl rfl) (pe_op (k_add K rfl) (pv 6) (pe_lc rfl sc__law_draw_project.nd (pi_range2 (by rfl) B.range (pa_cons (pe_op (k_add K rfl) (pv 7) pe_int) (pa_cons (pv 2) pa_nil))) (blkOk_by (own := [("_law_j", 8)]) (N := N__law_draw_project) (sc := defScope s__law_draw_project) (by decide +kernel)) (fun _ _ _ _ _ => (pg_name (i := 8) sc__law_draw_project.nd rfl (Or.inl rfl))) (fun _ _ _ _ _ => pts_one (PW.pt (pw_or (pt_cmpR (k_eq K rfl hr.units) (pe_def D_law_take (hr.mono (by first | decide | omega)) (by rfl) (pa_cons (pv 0) (pa_cons (pv 3) pa_nil))) pe_int (nomark _)) (pw_or1 (PW.pt (pw_and (pt_cmpR op_gt (pv 3) pe_int (nomark _)) (pw_and1 (pt_cmpR (k_eq K rfl hr.units) (pv 8) (pe_op (k_add K rfl) (pv 7) pe_int) (nomark _))))))))) (fun _ _ _ _ _ => (pe_tup (pa_cons (pv 7) (pa_cons (pv 8) pa_nil)))))))))
      (pss_one (ps_ret (pe_tup (pa_cons (pv 4) (pa_cons (pe_callTy (k_tuple K rfl) (by rfl) B.tuple bb_tuple (pa_cons (pv 6) pa_nil)) pa_nil))))))))), fun pen ds n R h => ?_⟩
  · obtain ⟨rfl, _⟩ := h; rfl
  · obtain ⟨rfl, hn, rfl⟩ := h
    refine run_seq (run_asg ?_)
    walk_at "ev"
    refine ev_callP rfl ?_
    walk_at "ev"
    refine ⟨_, ⟨_, rfl, by decide, by decide, by omega, rfl⟩, ?_⟩
    rintro _ m1 ⟨hm1, r1, rfl, hr1⟩
    walk_at "ev"
    refine ev_callP rfl (ea_cons (ev_ofL (ev_lst ?_)))
    walk_at "ev"
    refine ⟨by simp, ?_⟩
    walk_at "ev"
    refine ⟨_, ⟨_, rfl, by simp, by simp, by omega, rfl⟩, ?_⟩
    rintro d m2 ⟨hm2, hd⟩
    have hall : ∀ d ∈ [PyData.int 2, .int 2, .int 3, .int 4, .int 9, .int 1], ∃ k : Int, d = .int k ∧ 1 ≤ k ∧ k ≤ 9 := by
      intro d hd
      simp only [List.mem_cons, List.not_mem_nil, or_false] at hd
      rcases hd with rfl | rfl | rfl | rfl | rfl | rfl
      · exact ⟨2, rfl, by decide, by decide⟩
      · exact ⟨2, rfl, by decide, by decide⟩
      · exact ⟨3, rfl, by decide, by decide⟩
      · exact ⟨4, rfl, by decide, by decide⟩
      · exact ⟨9, rfl, by decide, by decide⟩
      · exact ⟨1, rfl, by decide, by decide⟩
    obtain ⟨way, rfl, w1, w9⟩ := hall d hd
    walk_at "ev"
    refine ⟨by simp, tg_tup rfl (tgs_cons (tg_name (by decide) (tgs_cons (tg_name (by decide) (tgs_nil ?_)))))⟩
    obtain ⟨sz, hsz, sz1, sz6⟩ : ∃ sz : Nat, (1 : Int) + (r1 : Int) = (sz : Int) ∧ 1 ≤ sz ∧ sz ≤ 6 := ⟨1 + r1, by omega, by omega, by omega⟩
    rw [hsz]
    refine run_seq (run_set ?_)
    walk_at "ev"
    refine ev_ofL (ev_lc (ei_rng1 ?_))
    walk_at "ev"
    refine ⟨_, rfl, by omega, by omega, fun i acc n' => n' ≤ m2 + 5 * i ∧ i ≤ sz ∧ ∃ bs : List (Int × Int), acc = bs.map bdD ∧ bs.length = i ∧ ∀ b ∈ bs, 0 ≤ b.1 ∧ b.1 ≤ b.2 ∧ b.2 ≤ 99, ⟨by omega, by omega, [], rfl, rfl, fun b hb => (by cases hb)⟩, ?_, ?_⟩
    · rintro i d acc n' hd ⟨hn', hi, bs, rfl, hbl, hbs⟩
      have hil : i < sz := by
        rw [rgD_nat] at hd
        have := (List.getElem?_eq_some_iff.mp hd).1
        rw [List.length_map, List.length_range] at this
        exact this
      refine tg_name (by decide) (et_yes ?_)
      rw [if_pos rfl]
      refine ev_callP rfl (ea_nil ?_)
      refine ⟨_, ⟨rfl, by omega, rfl⟩, ?_⟩
      rintro _ m3 ⟨hm3, a, b, rfl, b1, b2, b3⟩
      refine ⟨by rw [List.length_map]; omega, by omega, by omega, bs ++ [(a, b)], by rw [List.map_append]; rfl, by rw [List.length_append, hbl]; rfl, fun c hc => ?_⟩
      rcases List.mem_append.mp hc with hc | hc
      · exact hbs c hc
      · have : c = (a, b) := by simpa using hc
        subst this
        exact ⟨b1, b2, b3⟩
    rintro acc n3 ⟨hn3, _, bs, rfl, hbl, hbs⟩
    rw [rgD_nat, List.length_map, List.length_range] at hn3 hbl
    walk_at "ev"
    refine cb_tupL ?_
    refine run_seq (run_set (ev_ofL (ev_lst (ea_nil ⟨by decide, ?_⟩))))
    refine run_seq (run_forA (fun e : Nat => .int (e : Int)) (ei_rng1 ?_))
    walk_at "ev"
    refine ⟨_, rfl, by omega, by omega, List.range sz, rgD_nat _, fun i ρ n' => n' ≤ n3 + 6 * i ∧ ∃ (ar : List (Nat × Nat)) (s5 s7 s8 : Sl), ρ = [.pen, .dat (.int 6), .dat (.int (sz : Nat)), .dat (.int way), .dat (.tuple (bs.map bdD)), s5, .dat (.list (ar.map arD)), s7, s8] ∧ ar.Nodup ∧ (∀ a ∈ ar, a.1 < i ∧ a.1 < a.2 ∧ a.2 < sz) ∧ ar.length ≤ 6 * i,
      ⟨by omega, [], _, _, _, rfl, List.nodup_nil, fun a ha => (by cases ha), by simp⟩, ?_, ?_⟩
    · rintro i i' ρ n4 hi ⟨hn4, ar, s5, s7, s8, rfl, nd, hb, hlen⟩
      obtain ⟨rfl, hi⟩ := range_at hi
      refine tg_name (by decide) ?_
      refine run_set (ev_ofL (ev_opL ?_))
      walk_at "ev"
      refine ev_ofL (ev_lc (ei_rng2 ?_))
      walk_at "ev"
      refine ⟨_, _, rfl, by omega, fun k acc n' => n' ≤ n4 + k ∧ k ≤ sz ∧ ∃ js : List Nat, acc = js.map (fun j => arD (i', j)) ∧ js.Nodup ∧ js.length ≤ k ∧ ∀ j ∈ js, i' + 1 ≤ j ∧ j < i' + 1 + k ∧ j < sz, ⟨by omega, by omega, [], rfl, List.nodup_nil, by simp, fun j hj => (by cases hj)⟩, ?_, ?_⟩
      · rintro k d acc n5 hd ⟨hn5, hk, js, rfl, jnd, jl, jb⟩
        have hdk : d = .int ((i' + 1 + k : Nat) : Int) ∧ i' + 1 + k < sz := by
          unfold rgD at hd
          rw [List.getElem?_map] at hd
          obtain ⟨x, hx, e⟩ := Option.map_eq_some_iff.mp hd
          obtain ⟨g1, g2⟩ := List.getElem?_eq_some_iff.mp hx
          rw [List.length_range] at g1
          rw [List.getElem_range] at g2
          subst g2
          refine ⟨?_, by omega⟩
          rw [← e]
          congr 1
        obtain ⟨rfl, hks⟩ := hdk
        refine tg_name (by decide) (et_or ?_)
        walk_at "ev"
        refine ev_callP rfl ?_
        walk_at "ev"
        refine ⟨_, ⟨_, rfl, by omega, by omega, by omega, rfl⟩, ?_⟩
        rintro _ m6 ⟨hm6, r6, rfl, hr6⟩
        walk_at "ev"
        refine od_eqD sh_int sh_int ⟨_, rfl, ?_⟩
        have no : (fun k acc n' => n' ≤ n4 + k ∧ k ≤ sz ∧ ∃ js : List Nat, acc = js.map (fun j => arD (i', j)) ∧ js.Nodup ∧ js.length ≤ k ∧ ∀ j ∈ js, i' + 1 ≤ j ∧ j < i' + 1 + k ∧ j < sz) (k + 1) (js.map fun j => arD (i', j)) m6 := ⟨by omega, by omega, js, rfl, jnd, by omega, fun j hj => by have := jb j hj; omega⟩
        have yes : EvR (some pen) (tTup (tCons (tVar 7) (tCons (tVar 8) tNil))) (List.set (wipeE [.pen, .dat (.int 6), .dat (.int (sz : Nat)), .dat (.int way), .dat (.tuple (bs.map bdD)), s5, .dat (.list (ar.map arD)), .dat (.int (i' : Nat)), s8] [8]) 8 (.dat (.int ((i' + 1 + k : Nat) : Int)))) m6 (fun e n3 => (js.map fun j => arD (i', j)).length < 100000 ∧ (fun k acc n' => n' ≤ n4 + k ∧ k ≤ sz ∧ ∃ js : List Nat, acc = js.map (fun j => arD (i', j)) ∧ js.Nodup ∧ js.length ≤ k ∧ ∀ j ∈ js, i' + 1 ≤ j ∧ j < i' + 1 + k ∧ j < sz) (k + 1) ((js.map fun j => arD (i', j)) ++ [e]) n3) := by
          walk_at "ev"
          refine ⟨by simp, by rw [List.length_map]; omega, by omega, by omega, js ++ [i' + 1 + k], by rw [List.map_append]; rfl, ?_, by rw [List.length_append]; show js.length + 1 ≤ k + 1; omega, fun j hj => ?_⟩
          · refine List.nodup_append.mpr ⟨jnd, by simp, fun a ha b hb => ?_⟩
            have : b = i' + 1 + k := by simpa using hb
            have := jb a ha
            omega
          · rcases List.mem_append.mp hj with hj | hj
            · have := jb j hj; omega
            · have : j = i' + 1 + k := by simpa using hj
              omega
        by_cases hz : PyData.eqv (.int (r6 : Int)) (.int 0) = true
        · rw [if_pos hz, if_pos rfl]
          exact yes
        · rw [if_neg hz]
          refine et_and ?_
          walk_at "ev"
          refine ⟨_, rfl, ?_⟩
          by_cases hw : (3 : Int) < way
          · rw [if_pos (by simpa using hw)]
            walk_at "ev"
            refine od_eqD sh_int sh_int ⟨_, rfl, ?_⟩
            by_cases hq : PyData.eqv (.int ((i' + 1 + k : Nat) : Int)) (.int ((i' : Int) + 2)) = true
            · rw [if_pos hq]
              exact yes
            · rw [if_neg hq]
              exact no
          · rw [if_neg (by simpa using hw), if_neg (by decide)]
            exact no
      · rintro acc n5 ⟨hn5, hk, js, rfl, jnd, jl, jb⟩
        unfold rgD at hn5 hk jl jb
        rw [List.length_map, List.length_range] at hn5 hk jl jb
        refine ol_cat (by rw [List.length_map, List.length_map]; omega) ⟨by omega, ar ++ js.map (fun j => (i', j)), s5, .dat (.int (i' : Nat)), s8, ?_, ?_, ?_, ?_⟩
        · rw [List.map_append, List.map_map]
          rfl
        · refine List.nodup_append.mpr ⟨nd, nodup_map_inj jnd fun a _ b _ e => (Prod.mk.inj e).2, fun a ha b hb' => ?_⟩
          obtain ⟨j, _, rfl⟩ := List.mem_map.mp hb'
          intro e
          have := (hb a ha).1
          rw [e] at this
          exact absurd this (Nat.lt_irrefl _)
        · intro a ha
          rcases List.mem_append.mp ha with ha | ha
          · have := hb a ha; omega
          · obtain ⟨j, hj, rfl⟩ := List.mem_map.mp ha
            have := jb j hj
            exact ⟨by show i' < i' + 1; omega, by show i' < j; omega, this.2.2⟩
        · rw [List.length_append, List.length_map]
          omega
    · rintro ρ n6 ⟨hn6, ar, s5, s7, s8, rfl, nd, hb, hlen⟩
      rw [List.length_range] at hn6 hlen
      refine run_ret ?_
      walk_at "ev"
      refine cb_tupL ?_
      walk_at "ev"
      refine ⟨by simp, by omega, bs, ar, rfl, by omega, by omega, hbs, fun a ha => ?_, nd, by omega⟩
      have := hb a ha
      omega
abbrev SmlR (n : Nat) : PyData → Nat → Prop := fun d m => m ≤ n + 100 ∧ ∃ p : Pr, d = pjD p ∧ p.Ok
abbrev S_small : SpecP := fun ds n R => ds = [.int 6, .int 40] ∧ n < 700 ∧ R = SmlR n
abbrev N__law_draw_small : List Str := ["_law_pen", "_law_most", "_law_amount", "_law_tasks", "_law_arrows", "_law_found", "_law_left", "_law_low", "_law_high", "_law_wide"]
theorem sc__law_draw_small : FnScope N__law_draw_small ["_law_pen", "_law_most", "_law_amount"] (defScope s__law_draw_small) := ⟨rfl, rfl, rfl, by decide +kernel, rfl, by decide +kernel, by decide +kernel⟩
theorem ok__law_draw_small (Rw : Raw K mg "_law_draw_small" s__law_draw_small ["_law_pen", "_law_most", "_law_amount"]) (B : Bl mg)
    (D_law_take : Def P w K mg base 2 "_law_take" ["_law_pen", "_law_amount"] (psp S_take))
    (D_law_draw_project : Def P w K mg base 5 "_law_draw_project" ["_law_pen", "_law_most"] (psp S_drawp)) :
    Def P w K mg base 6 "_law_draw_small" ["_law_pen", "_law_most", "_law_amount"] (psp S_small) := by
  refine def_okP Rw sc__law_draw_small (fun ds n R h => ?_) fun f cdv A outer s H E hr => ⟨_, (pss_cons (ps_asg (pe_def D_law_draw_project (hr.mono (by first | decide | omega)) (by rfl) (pa_cons (pv 0) (pa_cons (pv 1) pa_nil))) (k_tup K rfl 2 rfl (pgs_cons (pg_name (i := 3) sc__law_draw_small.nd rfl (Or.inl rfl)) (pgs_cons (pg_name (i := 4) sc__law_draw_small.nd rfl (Or.inl rfl)) pgs_nil))))
      (pss_cons (ps_par (i := 5) (j := 6) rfl sc__law_draw_small.nd rfl rfl (by decide) rfl rfl (pa_cons (pe_lst pa_nil) (pa_cons (pv 2) pa_nil)) (by rfl))
      (pss_cons (ps_for PassesOwn.never rfl (k_seq K rfl (pv 3)) (k_tup K rfl 2 rfl (pgs_cons (pg_name (i := 7) sc__law_draw_small.nd rfl (Or.inl rfl)) (pgs_cons (pg_name (i := 8) sc__law_draw_small.nd rfl (Or.inl rfl)) pgs_nil))) (pss_cons (ps_set (i := 9) sc__law_draw_small.nd rfl (Or.inl rfl) (pe_callB (call_min3q rfl) (by rfl) B.min bb_min (pa_cons (pe_op op_sub (pv 8) (pv 7)) (pa_cons (pe_op op_sub (pv 6) pe_int) (pa_cons (pe_def D_law_take (hr.mono (by first | decide | omega)) (by rfl) (pa_cons (pv 0) (pa_cons pe_int pa_nil))) pa_nil)))))
      (pss_cons (ps_expr (k_bm K rfl PySem.F.plainAttrs_list PySem.F.slot_list_append PySem.F.type_list_append mt_append (pv 5) (pa_cons (pe_tup (pa_cons (pe_op op_modN (pv 7) pe_int) (pa_cons (pe_op (k_add K rfl) (pe_op op_modN (pv 7) pe_int) (pv 9)) pa_nil))) pa_nil)))
      (pss_one (ps_set (i := 6) sc__law_draw_small.nd rfl (Or.inl rfl) (pe_op op_fdivN (pv 6) (pe_op (k_add K rfl) (pv 9) pe_int)))))))
      (pss_one (ps_ret (pe_tup (pa_cons (pe_callTy (k_tuple K rfl) (by rfl) B.tuple bb_tuple (pa_cons (pv 5) pa_nil)) (pa_cons (pv 4) pa_nil)))))))), fun pen ds n R h => ?_⟩
  · obtain ⟨rfl, _⟩ := h; rfl
  · obtain ⟨rfl, hn, rfl⟩ := h
    refine run_seq (run_asg (ev_callP rfl ?_))
    walk_at "ev"
    refine ⟨_, ⟨rfl, hn, rfl⟩, ?_⟩
    rintro _ m1 ⟨hm1, ts, ar, rfl, t1, t6, tb, hb, nd, few⟩
    refine tg_tup rfl (tgs_cons (tg_name (by decide) (tgs_cons (tg_name (by decide) (tgs_nil ?_)))))
    refine run_seq (run_parL (ev_lst (ea_nil ⟨by decide, ?_⟩)))
    walk_at "ev"
    refine run_seq (run_forA bdD (ei_tup ?_))
    walk_at "ev"
    refine ⟨_, rfl, ts, rfl, fun i ρ n' => n' ≤ m1 + i ∧ ∃ (us : List (Int × Int)) (left : Int) (s7 s8 s9 : Sl), ρ = [.pen, .dat (.int 6), .dat (.int 40), .dat (.tuple (ts.map bdD)), .dat (.tuple (ar.map arD)), .own (us.map bdD), .dat (.int left), s7, s8, s9] ∧ us.length = i ∧ 1 ≤ left ∧ left ≤ 40 ∧ ∀ b ∈ us, 0 ≤ b.1 ∧ b.1 ≤ b.2 ∧ b.2 ≤ b.1 + 3 ∧ b.2 ≤ 100,
      ⟨by omega, [], 40, _, _, _, rfl, rfl, by decide, by decide, fun b hb => (by cases hb)⟩, ?_, ?_⟩
    · rintro i b ρ n' hbi ⟨hn', us, left, s7, s8, s9, rfl, hul, hl1, hl2, hus⟩
      have hil : i < ts.length := (List.getElem?_eq_some_iff.mp hbi).1
      have tbb := tb b (List.mem_of_getElem? hbi)
      refine tg_tup rfl (tgs_cons (tg_name (by decide) (tgs_cons (tg_name (by decide) (tgs_nil ?_)))))
      refine run_seq (run_set ?_)
      walk_at "ev"
      refine ev_callP rfl ?_
      walk_at "ev"
      refine ⟨_, ⟨_, rfl, by decide, by decide, by omega, rfl⟩, ?_⟩
      rintro _ m2 ⟨hm2, r2, rfl, hr2⟩
      walk_at "ev"
      refine cb_min3 ?_
      generalize hw : (if left - 1 < b.2 - b.1 then (if (r2 : Int) < left - 1 then (r2 : Int) else left - 1) else (if (r2 : Int) < b.2 - b.1 then (r2 : Int) else b.2 - b.1)) = wide
      have hwb : 0 ≤ wide ∧ wide ≤ 3 ∧ wide ≤ left - 1 := by
        rw [← hw]
        split <;> split <;> omega
      have e6 := fmod_rng (a := b.1) (q := 6) (by decide)
      refine run_seq (run_app rfl ?_)
      walk_at "ev"
      refine od_I (fun _ => .int _) (by decide) ?_
      walk_at "ev"
      refine od_I (fun _ => .int _) (by decide) ?_
      walk_at "ev"
      refine ⟨by simp, by rw [List.length_map]; omega, ?_⟩
      refine run_set ?_
      walk_at "ev"
      refine od_I (fun _ => .int _) ⟨by omega, by omega⟩ ?_
      have hdiv : 1 ≤ left.fdiv (wide + 1) ∧ left.fdiv (wide + 1) ≤ 40 := by
        rw [Int.fdiv_eq_ediv_of_nonneg left (by omega)]
        constructor
        · exact Int.le_ediv_of_mul_le (by omega) (by omega)
        · exact Int.le_trans (Int.ediv_le_self _ (by omega)) hl2
      refine ⟨by omega, us ++ [(b.1.fmod 6, b.1.fmod 6 + wide)], left.fdiv (wide + 1), .dat (.int b.1), .dat (.int b.2), .dat (.int wide), ?_, by rw [List.length_append, hul]; rfl, hdiv.1, hdiv.2, fun c hc => ?_⟩
      · rw [List.map_append]
        rfl
      · rcases List.mem_append.mp hc with hc | hc
        · exact hus c hc
        · have : c = (b.1.fmod 6, b.1.fmod 6 + wide) := by simpa using hc
          subst this
          exact ⟨e6.1, by show b.1.fmod 6 ≤ b.1.fmod 6 + wide; omega, by show b.1.fmod 6 + wide ≤ b.1.fmod 6 + 3; omega, by show b.1.fmod 6 + wide ≤ 100; omega⟩
    · rintro ρ n6 ⟨hn6, us, left, s7, s8, s9, rfl, hul, hl1, hl2, hus⟩
      refine run_ret ?_
      walk_at "ev"
      refine cb_tupL ?_
      walk_at "ev"
      refine ⟨by simp, by omega, ⟨us, ar⟩, rfl, ⟨by show 1 ≤ us.length; omega, by show us.length ≤ 6; omega, hus, fun a ha => ?_, nd, by show ar.length ≤ 50; omega⟩⟩
      have := hb a ha
      exact ⟨this.1, by show a.2 < us.length; omega⟩
end
end AC
set_option Elab.async false
set_option linter.all false
set_option maxRecDepth 100000
set_option maxHeartbeats 1000000
namespace AC
open PySem PySem.Spec PyProof.Rows L2
local macro_rules | `(tactic| walk_at "sh") => `(tactic| first | exact sh_int | exact sh_bool | exact sh_none | exact okd_du.sh (by decide) | exact okd_li.sh (by decide) | exact okd_pt.sh (by decide) | exact okd_ar.sh (by decide) | exact okd_ps.sh (by decide) | exact okd_na.sh (by decide) | exact (okd_tup (okd_map fun _ _ => okd_int)).sh (by decide) | exact (okd_tup (okd_map fun _ _ => okd_ar)).sh (by decide) | exact (okd_lst (okd_map fun _ _ => okd_du)).sh (by decide) | exact (okd_lst (okd_map fun _ _ => okd_ar)).sh (by decide))
local macro_rules | `(tactic| walk_at "e1") => `(tactic| first | with_reducible refine ev_int ?_ | with_reducible refine ev_non ?_ | with_reducible refine ev_bl ?_ | with_reducible refine ev_str ?_ | with_reducible refine ea_nil ?_ | with_reducible refine ea_cons ?_ | with_reducible refine ev_op ?_ | with_reducible refine ev_call ?_ | with_reducible refine ev_cb ?_ | with_reducible refine ev_tup ?_ | with_reducible refine ev_if ?_ | with_reducible refine et_test ?_ | with_reducible refine et_B ?_ | with_reducible refine ev_isB ?_ | with_reducible refine ev_ntB ?_ | with_reducible refine ev_un ?_ | with_reducible refine ev_chain ?_ | with_reducible refine ev_andV ?_ | with_reducible refine ev_orV ?_ | with_reducible refine ev_notV ?_ | with_reducible refine et_and ?_ | with_reducible refine et_or ?_ | with_reducible refine et_not ?_ | refine ev_var rfl ?_ | refine od_add ?_ | refine od_I0 (fun _ => .int _) ?_ | refine od_I0 (fun _ => .bl _) ?_ | refine od_ixT at_0 ?_ | refine od_ixT at_1 ?_)
local macro_rules | `(tactic| walk_at "ev") => `(tactic| (walk_at "e1"; repeat walk_at "e1"))

section
variable {P : Program} {w : World} {K : PySem.W.Frag} {mg : Str → Option Value} {base : Heap}
def spOpen (K : PySem.W.Frag) : Sp := fun vs H Q _ => ∃ (a : Addr) (ns : List Int), vs = [.ref a] ∧ SqL K H a (ns.map V.int) ∧ ns.length ≤ 63 ∧
  ∀ (p : Pen) (H2 : Hp), p.cs.length ≤ 12 → H2 p.o = some (.lst [.ref p.c, .int 0, .int 0]) → H2 p.c = some (.lst (p.cs.map V.int)) → p.o ≠ p.c → Q (.ref p.o) H2
theorem SqL.up {K : PySem.W.Frag} {H H2 : Hp} {a : Addr} {xs : List V} (h : SqL K H a xs) (s : Same H H2) : SqL K H2 a xs := by
  rcases h with h | h
  · exact .inl (h.imp (fun e => s _ _ e) fun ⟨o, e⟩ => ⟨o, s _ _ e⟩)
  · exact .inr h
theorem cut12 (ns : List Int) : cutV (ns.map V.int) none (some 12) = (ns.take 12).map V.int := by
  unfold cutV
  rw [HT.sIx_none, show HT.sIx (ns.map V.int).length (ns.map V.int).length (some 12) = min 12 (ns.map V.int).length from HT.sIx_nat _ _ 12, List.drop_zero, Nat.sub_zero, List.map_take]
  rcases Nat.le_total 12 (ns.map V.int).length with h | h
  · rw [Nat.min_eq_left h]
  · rw [Nat.min_eq_right h, List.take_length, List.take_of_length_le h]
theorem cut63 (ns : List Int) (h : ns.length ≤ 63) : cutV (ns.map V.int) (some 12) (some 63) = (ns.drop 12).map V.int := by
  unfold cutV
  rw [show HT.sIx (ns.map V.int).length 0 (some 12) = min 12 (ns.map V.int).length from HT.sIx_nat _ _ 12, show HT.sIx (ns.map V.int).length (ns.map V.int).length (some 63) = min 63 (ns.map V.int).length from HT.sIx_nat _ _ 63, List.map_drop]
  have e : (ns.map V.int).length = ns.length := List.length_map ..
  rcases Nat.le_total 12 (ns.map V.int).length with h2 | h2
  · rw [Nat.min_eq_left h2, Nat.min_eq_right (by omega)]
    exact List.take_of_length_le (by rw [List.length_drop]; exact Nat.le_refl _)
  · rw [Nat.min_eq_right h2, Nat.min_eq_right (by omega), Nat.sub_self, List.take_zero, List.drop_eq_nil_of_le h2]
theorem ints_rp {F : Hp} : ∀ {cs : List Int} {ys : List V}, RpAll F ys (cs.map PyData.int) → ys = cs.map V.int
  | [], ys, h => by cases h; rfl
  | c :: cs, ys, h => by
    cases h with
    | cons h1 h2 => rw [h1.int', ints_rp h2]; rfl
def un4 : En := [.un, .un, .un, .un]
theorem rel_un {X : Addr → Bool} {H : Hp} {σ : L2.St} {ρ : En} (hl : σ.length = ρ.length) (hu : ∀ s ∈ ρ, s = .un) : Rel none X X H σ ρ where
  sub := fun b h => h
  pn0 := fun p hp => by cases hp
  len := hl
  slot := fun i s h => by
    have := hu s (List.mem_of_getElem? h)
    subst this
    have hi : i < σ.length := by rw [hl]; exact (List.getElem?_eq_some_iff.mp h).1
    exact ⟨_, List.getElem?_eq_getElem hi, trivial⟩
  apart := fun i j o ds es _ h _ _ _ => by
    have := hu _ (List.mem_of_getElem? h)
    cases this
abbrev N__law_open : List Str := ["_law_script", "_law_cells", "_law_k", "_law_cell"]
theorem sc__law_open : FnScope N__law_open ["_law_script"] (defScope s__law_open) := ⟨rfl, rfl, rfl, by decide +kernel, rfl, by decide +kernel, by decide +kernel⟩
theorem ok__law_open (Rw : Raw K mg "_law_open" s__law_open ["_law_script"]) (B : Bl mg) : Def P w K mg base 1 "_law_open" ["_law_script"] (spOpen K) := by
  obtain ⟨f, fd, F, m, b⟩ := Rw
  refine ⟨f, fd, ?_, b, F.kp, m⟩
  refine FunD.ok F sc__law_open (fun vs H Q E h => ?_) fun cdv A outer s H vs Q E hr h => ⟨_, PSs.nox ((pss_cons (ps_set (i := 1) sc__law_open.nd rfl (Or.inl rfl) (pe_callTy (k_list K rfl) (by rfl) B.list bb_list (pa_cons (pe_slice (k_slL K rfl) (pv 0) po_none (po_some pe_int)) pa_nil)))
      (pss_cons (ps_for PassesOwn.never rfl (k_enum K rfl (by rfl) B.enumerate (pa_cons (pe_slice (k_slL K rfl) (pv 0) (po_some pe_int) (po_some pe_int)) pa_nil)) (k_tup K rfl 2 rfl (pgs_cons (pg_name (i := 2) sc__law_open.nd rfl (Or.inl rfl)) (pgs_cons (pg_name (i := 3) sc__law_open.nd rfl (Or.inl rfl)) pgs_nil))) (pss_one (ps_asg (pe_op (k_add K rfl) (pe_ix (k_ix K rfl) (pv 1) (pe_op op_modN (pv 2) pe_int) (fun _ _ => rfl)) (pv 3)) (pg_sub (pv 1) (pe_op op_modN (pv 2) pe_int) set_list))))
      (pss_one (ps_ret (pe_lst (pa_cons (pv 1) (pa_cons pe_int (pa_cons pe_int pa_nil))))))))), ?_⟩
  · obtain ⟨a, ns, rfl, _⟩ := h
    rfl
  · obtain ⟨a, ns, rfl, hS, hl, q⟩ := h
    refine ⟨.ref a, rfl, 12, rfl, a, _, rfl, hS, fun p hp => ?_⟩
    rw [cut12]
    refine ⟨p, _, rfl, .inl (SqL.of upd_same), fun l hl2 => ?_⟩
    have s1 : Same H (upd H p (.lst ((ns.take 12).map V.int))) := same_new hp
    have s2 : Same (upd H p (.lst ((ns.take 12).map V.int))) (upd (upd H p (.lst ((ns.take 12).map V.int))) l (.lst ((ns.take 12).map V.int))) := same_new hl2
    generalize hH2 : upd (upd H p (.lst ((ns.take 12).map V.int))) l (.lst ((ns.take 12).map V.int)) = H2 at s2
    have hlH : H l = none := by
      cases z : H l with
      | none => rfl
      | some u => rw [s1 _ _ z] at hl2; cases hl2
    have s12 : Same H H2 := s1.trans s2
    have hS2 : SqL K H2 a (ns.map V.int) := SqL.up hS s12
    have hl2' : H2 l = some (.lst ((ns.take 12).map V.int)) := by rw [← hH2]; exact upd_same
    let X0 : Addr → Bool := fun _ => false
    have w0 : Wd none X0 H 0 := ⟨fun b hb => (by cases hb), fun p hp => (by cases hp)⟩
    have w2 : Wd none X0 H2 0 := w0.same s12
    have r0 : Rel none X0 X0 H (L2.start N__law_open [.ref a]) un4 := rel_un rfl (fun s hs => by
      simp only [un4, List.mem_cons, List.not_mem_nil, or_false, or_self] at hs
      exact hs)
    have g0 : Good none X0 H X0 H 0 := ⟨fun b hb => (by cases hb), fun b h1 h2 => (by rw [h1] at h2; cases h2), Xt.refl, w0⟩
    have ha : RpAll (mask (ins l X0) H2) ((ns.take 12).map V.int) ((ns.take 12).map PyData.int) := rp_ints _
    have r1 := r0.own w0 hlH (Xt.of s12) w2 hl2' ha 1
    have g1 := g0.own r0.sub (Xt.of s12) w2 hlH hl2'
    have key : ∀ (wi : TI) (g : TG) (tb u : TS), wi = iEnum K (tCons (tSl (rSlL K) (tVar 0) (tPart (tC (.int 12))) (tPart (tC (.int 63)))) tNil) →
        Run none (tSeq (tFor (fun σ H R => (σ[0]? = some (some (.ref a)) ∧ SqL K H a (ns.map V.int)) → wi σ H R) g tb) u) [.un, .own ((ns.take 12).map PyData.int), .un, .un] 0 (fun _ _ => False) (fun d _ => ∃ cs : List Int, d = .list [liD cs, .int 0, .int 0] ∧ cs.length ≤ 12) (fun _ _ => False) (fun _ _ => False) →
        ∀ D : Ends, (∀ v H', (∃ cs : List Int, Rp H' v (.list [liD cs, .int 0, .int 0]) ∧ cs.length ≤ 12) → D.rt v H') → tSeq (tFor wi g tb) u D ((L2.start N__law_open [.ref a]).set 1 (some (.ref l))) H2 := by
      intro wi g tb u hwi hrun D hD
      refine hrun X0 H (ins l X0) _ H2 D g1 r1 (fun _ _ _ _ _ _ _ _ z => z.elim) ?_ (fun _ _ _ _ _ _ _ _ z => z.elim) (fun _ _ _ _ _ _ _ _ z => z.elim) ⟨rfl, hS2⟩
      rintro v H' d n' e w' rp ⟨cs, rfl, hc⟩
      exact hD v H' ⟨cs, Rp.mono mask_le _ _ rp, hc⟩
    refine key _ _ _ _ rfl ?_ _ ?_
    · refine run_seq (run_for fun Y0 Y σ' H' wd rr Rr qq => ?_)
      rintro ⟨h0, hSx⟩
      refine ⟨.ref a, h0, 12, rfl, 63, rfl, a, _, rfl, hSx, fun p2 hp2 => ?_⟩
      rw [cut63 ns hl]
      refine ⟨p2, _, rfl, SqL.of upd_same, qq (Ite K p2) _ (enumD ((ns.drop 12).map PyData.int)) 0 (Xt.of (same_new hp2)) (wd.same (same_new hp2)) (it_enumL (mask_new wd.tr hp2) (rp_ints _)) ?_⟩
      refine ⟨fun i ρ n => n = 0 ∧ ∃ cs s2 s3, ρ = [.un, .own (cs.map PyData.int), s2, s3] ∧ cs.length = min 12 ns.length, ⟨rfl, ns.take 12, _, _, rfl, List.length_take ..⟩, ?_, ?_⟩
      · rintro i d ρ n hd ⟨rfl, cs, s2, s3, rfl, hcl⟩
        obtain ⟨x, h1, rfl⟩ := enumD_get hd
        obtain ⟨c, hc, rfl⟩ := get_map h1
        have hil : i < ns.length - 12 := by
          have := (List.getElem?_eq_some_iff.mp hc).1
          rw [List.length_drop] at this
          exact this
        have hc12 : cs.length = 12 := by omega
        have hr := fmod_rng (a := (i : Int)) (q := 12) (by decide)
        obtain ⟨j, hj⟩ : ∃ j : Nat, (i : Int).fmod 12 = (j : Int) := ⟨((i : Int).fmod 12).toNat, by omega⟩
        refine tg_tup rfl (tgs_cons (tg_name (by decide) (tgs_cons (tg_name (by decide) (tgs_nil ?_)))))
        refine run_setI rfl (ev_frz ?_)
        walk_at "ev"
        refine od_I (fun _ => .int _) (by decide) ?_
        rw [hj]
        refine od_ixL (i := (j : Nat)) (li_at (by omega)) ?_
        walk_at "ev"
        refine ⟨rfl, ?_⟩
        walk_at "ev"
        refine od_I (fun _ => .int _) (by decide) ?_
        refine ⟨_, j, rfl, ?_, rfl, cs.set j (cs.getD j 0 + c), .dat (.int (i : Nat)), .dat (.int c), ?_, ?_⟩
        · rw [hj, List.length_map]
          exact ixN_cast (by omega)
        · rw [← du_set]
          rfl
        · rw [List.length_set]; exact hcl
      · rintro ρ n ⟨rfl, cs, s2, s3, rfl, hcl⟩
        refine run_ret (ev_ofL (ev_lst ?_))
        walk_at "ev"
        exact ⟨by simp, cs, rfl, by omega⟩
    · rintro v H' ⟨cs, rp, hc⟩
      obtain ⟨o, xs, rfl, ho, hx⟩ := rp.list
      cases hx with
      | cons k1 k2 =>
        cases k2 with
        | cons k3 k4 =>
          cases k4 with
          | cons k5 k6 =>
            cases k6
            obtain ⟨c, ys, rfl, hcH, hys⟩ := k1.list
            have ey : ys = cs.map V.int := ints_rp hys
            have e3 := k3.int'
            have e5 := k5.int'
            subst e3 e5 ey
            refine q ⟨o, c, cs⟩ H' hc ho hcH fun z => ?_
            have z' : o = c := z
            rw [z', hcH] at ho
            have z2 := Option.some.inj ho
            injection z2 with z3
            cases cs with
            | nil => cases z3
            | cons b cs => cases z3
end
end AC
set_option Elab.async false
set_option linter.all false
set_option maxRecDepth 100000
set_option maxHeartbeats 2000000
namespace AC
open PySem PySem.Spec PyProof.Rows L2
local macro_rules | `(tactic| walk_at "sh") => `(tactic| first | exact sh_int | exact sh_bool | exact sh_none | exact okd_du.sh (by decide) | exact okd_li.sh (by decide) | exact okd_pt.sh (by decide) | exact okd_ar.sh (by decide) | exact okd_ps.sh (by decide) | exact okd_na.sh (by decide) | exact (okd_tup (okd_map fun _ _ => okd_int)).sh (by decide) | exact (okd_tup (okd_map fun _ _ => okd_ar)).sh (by decide) | exact (okd_lst (okd_map fun _ _ => okd_du)).sh (by decide) | exact (okd_lst (okd_map fun _ _ => okd_ar)).sh (by decide))
local macro_rules | `(tactic| walk_at "e1") => `(tactic| first | with_reducible refine ev_int ?_ | with_reducible refine ev_non ?_ | with_reducible refine ev_bl ?_ | with_reducible refine ev_str ?_ | with_reducible refine ea_nil ?_ | with_reducible refine ea_cons ?_ | with_reducible refine ev_op ?_ | with_reducible refine ev_call ?_ | with_reducible refine ev_cb ?_ | with_reducible refine ev_tup ?_ | with_reducible refine ev_if ?_ | with_reducible refine et_test ?_ | with_reducible refine et_B ?_ | with_reducible refine ev_isB ?_ | with_reducible refine ev_ntB ?_ | with_reducible refine ev_un ?_ | with_reducible refine ev_chain ?_ | with_reducible refine ev_andV ?_ | with_reducible refine ev_orV ?_ | with_reducible refine ev_notV ?_ | with_reducible refine et_and ?_ | with_reducible refine et_or ?_ | with_reducible refine et_not ?_ | refine ev_var rfl ?_ | refine od_add ?_ | refine od_I0 (fun _ => .int _) ?_ | refine od_I0 (fun _ => .bl _) ?_ | refine od_ixT at_0 ?_ | refine od_ixT at_1 ?_)
local macro_rules | `(tactic| walk_at "ev") => `(tactic| (walk_at "e1"; repeat walk_at "e1"))

section
variable {P : Program} {w : World} {K : PySem.W.Frag} {mg : Str → Option Value} {base : Heap}
theorem eqvAll_refl : ∀ {l : List PyData}, (∀ x ∈ l, PyData.eqv x x = true) → PyData.eqvAll l l = true
  | [], _ => by simp [PyData.eqvAll]
  | a :: l, h => by
    have h1 := h a List.mem_cons_self
    have h2 := eqvAll_refl (l := l) fun x hx => h x (List.mem_cons_of_mem _ hx)
    simp [PyData.eqvAll, h1, h2]
theorem eqv_lrefl {l : List PyData} (h : ∀ x ∈ l, PyData.eqv x x = true) : PyData.eqv (.list l) (.list l) = true := by
  simp only [PyData.eqv]
  exact eqvAll_refl h
theorem okd_wd (a b : Bool) : OkD 0 (wdD a b) := by
  cases a <;> cases b <;> exact ⟨by decide +kernel, by decide +kernel⟩
theorem eqv_wo (p : Pr) (C : List Int → Prop) : PyData.eqv (woD p C) (woD p C) = true := by
  unfold woD wdD
  simp only [PyData.eqv, beq_self_eq_true]
theorem okd_wo {p : Pr} {C : List Int → Prop} : OkD 0 (woD p C) := okd_wd _ _
theorem okd_wos {l : List Nat} {p : Pr} {C : Nat → List Int → Prop} : OkD 1 (.list (l.map fun t => woD p (C t))) := okd_lst (okd_map fun _ _ => okd_wo)
theorem eqv_wos (l : List Nat) (p : Pr) (C : Nat → List Int → Prop) : PyData.eqv (.list (l.map fun t => woD p (C t))) (.list (l.map fun t => woD p (C t))) = true := eqv_lrefl fun x hx => by
  obtain ⟨t, _, rfl⟩ := List.mem_map.mp hx
  exact eqv_wo _ _
theorem all_of {p : Pr} (ok : p.Ok) : All p (allD p.ts) where
  ok := ok
  few := by
    have := allD_len ok p.ts.length (Nat.le_refl _)
    rw [List.take_length] at this
    have h4 : 4 ^ p.ts.length ≤ 4 ^ 6 := Nat.pow_le_pow_right (by decide) ok.n6
    omega
  ne := fun h => by
    have := (allD_dur (p := p)).mpr (raised_dur ok [])
    rw [h] at this
    cases this
  mem := fun d => allD_dur
theorem ar_few {n : Nat} {ar : List (Nat × Nat)} (h6 : n ≤ 6) (nd : ar.Nodup) (hb : ∀ a ∈ ar, a.1 < a.2 ∧ a.2 < n) : ar.length ≤ 36 := by
  have h1 : (ar.map fun a => a.1 * 6 + a.2).Nodup := nodup_map_inj nd fun a ha b hb' e => by
    have := hb a ha
    have := hb b hb'
    exact Prod.ext (by omega) (by omega)
  have h2 := nd_len 36 _ h1 fun e he => by
    obtain ⟨a, ha, rfl⟩ := List.mem_map.mp he
    have := hb a ha
    omega
  rw [List.length_map] at h2
  exact h2
def spLaw (K : PySem.W.Frag) : Sp := fun vs H Q _ => ∃ (a : Addr) (ns : List Int), vs = [.ref a] ∧ SqL K H a (ns.map V.int) ∧ ns.length ≤ 63 ∧ ∀ H', Q (.bl true) H'
abbrev N_law : List Str := ["_law_script", "_law_pen", "_law_turn", "_law_project", "_law_some", "_law_rows", "_law_one", "_law_ends", "_law_a", "_law_b", "_law_row", "_law_durations", "_law_words", "_law_task", "_law_count", "_law_paths_here", "_law_pivots_here", "_law_arrows", "_law_arrow", "_law_j", "_law_other"]
theorem sc_law : FnScope N_law ["_law_script"] (defScope s_law) := ⟨rfl, rfl, rfl, by decide +kernel, rfl, by decide +kernel, by decide +kernel⟩
theorem law_start {K : PySem.W.Frag} {t u : TS} {D : Ends} {E : XK} {H : Hp} {a : Addr} {ns : List Int} (hS : SqL K H a (ns.map V.int)) (hl : ns.length ≤ 63)
    (hrun : ∀ pen, Run (some pen) (tSeq t u) (.un :: .pen :: List.replicate 19 .un) 0 (fun _ _ => False) (fun d _ => d = .bool true) (fun _ _ => False) (fun _ _ => False)) (hD : ∀ v H', v = .bl true → D.rt v H') :
    tSeq (tAsg (tCall (spOpen K) [] E (tCons (tVar 0) tNil)) (gName 1)) (tSeq t u) D (L2.start N_law [.ref a]) H := by
  refine ⟨.ref a, rfl, a, ns, rfl, hS, hl, fun pen H2 hc12 ho hcs hne => ?_⟩
  let X0 : Addr → Bool := fun b => decide (b = pen.o)
  have hXo : X0 pen.o = true := decide_eq_true rfl
  have hXc : X0 pen.c = false := decide_eq_false fun z => hne z.symm
  have w2 : Wd (some pen) X0 H2 0 := ⟨fun b hb => ⟨_, (congrArg H2 (of_decide_eq_true hb)).trans ho⟩, fun p' hp => by
    cases hp
    exact ⟨hXo, 0, 0, ho, mask_of hXc hcs, hc12, Int.le_refl _, by omega⟩⟩
  have rel : Rel (some pen) X0 X0 H2 ((L2.start N_law [.ref a]).set 1 (some (.ref pen.o))) (.un :: .pen :: List.replicate 19 .un) := by
    refine ⟨fun _ z => z, fun p' hp => (by cases hp; exact hXo), rfl, fun i s hs => ?_, fun i j o ds es _ h1 _ _ _ => ?_⟩
    · have hi : i < 21 := by
        have := (List.getElem?_eq_some_iff.mp hs).1
        simpa using this
      by_cases h1 : i = 1
      · subst h1
        have : Sl.pen = s := Option.some.inj hs
        subst this
        exact ⟨_, rfl, pen, rfl, rfl⟩
      · have hun : s = .un := by
          have := List.mem_of_getElem? hs
          simp only [List.mem_cons, List.mem_replicate] at this
          rcases this with h | h | h
          · exact h
          · subst h
            exfalso
            match i, h1, hs with
            | 0, _, hs => cases hs
            | k + 2, _, hs =>
              have hs' : (List.replicate 19 Sl.un)[k]? = some .pen := hs
              have := List.mem_of_getElem? hs'
              simp at this
          · exact h.2
        subst hun
        have hl2 : i < ((L2.start N_law [.ref a]).set 1 (some (.ref pen.o))).length := by
          rw [List.length_set]
          exact hi
        exact ⟨_, List.getElem?_eq_getElem hl2, trivial⟩
    · have := List.mem_of_getElem? h1
      simp at this
  exact hrun pen X0 H2 X0 _ H2 D ⟨w2.tr, fun b h1 h2 => (by rw [h1] at h2; cases h2), Xt.refl, w2⟩ rel (fun _ _ _ _ _ _ _ _ z => z.elim) (fun v H' d n' e w' rp hd => hD v H' (by subst hd; exact rp.bool')) (fun _ _ _ _ _ _ _ _ z => z.elim) (fun _ _ _ _ _ _ _ _ z => z.elim)
theorem ok_law {f : Addr} {fd : FuncData} (F : FnP K "law" s_law f fd) (B : Bl mg)
    (D_law_open : Def P w K mg base 1 "_law_open" ["_law_script"] (spOpen K))
    (D_law_other_right : Def P w K mg base 12 "_law_other_right" ["_law_project", "_law_other", "_law_some"] (fsp S_otherr)) (D_law_arrows_right : Def P w K mg base 10 "_law_arrows_right" ["_law_project", "_law_some"] (fsp S_arrowsr)) (D_law_take : Def P w K mg base 2 "_law_take" ["_law_pen", "_law_amount"] (psp S_take)) (D_law_pairs_right : Def P w K mg base 11 "_law_pairs_right" ["_law_project", "_law_rows"] (fsp S_pairsr))
    (Dpivotal_status : Def P w K mg base 12 "pivotal_status" ["project"] (fsp S_pstat)) (Dstatus : Def P w K mg base 13 "status" ["project"] (fsp S_status)) (D_law_pivots : Def P w K mg base 1 "_law_pivots" ["_law_paths_here", "_law_some", "_law_task"] (fsp S_pivots)) (D_law_paths : Def P w K mg base 2 "_law_paths" ["_law_project"] (fsp S_whole)) (D_law_task_right : Def P w K mg base 12 "_law_task_right" ["_law_project", "_law_task", "_law_some", "_law_rows"] (fsp S_taskr))
    (Dend_range : Def P w K mg base 10 "end_range" ["project"] (fsp S_end)) (D_law_ends_of : Def P w K mg base 1 "_law_ends_of" ["_law_numbers"] (fsp S_ends)) (D_law_slacks : Def P w K mg base 2 "_law_slacks" ["_law_project", "_law_durations"] (fsp S_slacks)) (D_law_starts : Def P w K mg base 1 "_law_starts" ["_law_project", "_law_durations"] (fsp S_starts)) (D_law_all_durations : Def P w K mg base 1 "_law_all_durations" ["_law_project"] (fsp S_alld)) (D_law_draw_small : Def P w K mg base 6 "_law_draw_small" ["_law_pen", "_law_most", "_law_amount"] (psp S_small)) :
    FnOk P w K mg base CX0 14 f fd ["_law_script"] (spLaw K) := by
  refine FunD.ok F sc_law (fun vs H Q E h => ?_) fun cdv A outer s H vs Q E hr h => ⟨_, PSs.nox ((pss_cons (ps_set (i := 1) sc_law.nd rfl (Or.inr rfl) (pe_def D_law_open (hr.mono (by first | decide | omega)) (by rfl) (pa_cons (pv 0) pa_nil)))
      (pss_cons (ps_for PassesOwn.never rfl (pi_range1 (by rfl) B.range (pa_cons pe_int pa_nil)) (pg_name (i := 2) sc_law.nd rfl (Or.inl rfl)) (pss_cons (ps_set (i := 3) sc_law.nd rfl (Or.inr rfl) (pe_def D_law_draw_small (hr.mono (by first | decide | omega)) (by rfl) (pa_cons (pv 1) (pa_cons pe_int (pa_cons pe_int pa_nil)))))
      (pss_cons (ps_set (i := 4) sc_law.nd rfl (Or.inr rfl) (pe_def D_law_all_durations (hr.mono (by first | decide | omega)) (by rfl) (pa_cons (pv 3) pa_nil)))
      (pss_cons (ps_setLc (i := 5) rfl sc_law.nd rfl rfl (sw_true rfl rfl rfl (by decide +kernel)) (k_seq K rfl (pv 4)) (blkOk_by (own := [("_law_one", 6)]) (N := N_law) (sc := defScope s_law) (by decide +kernel)) (fun _ _ _ _ _ => (pg_name (i := 6) sc_law.nd rfl (Or.inl rfl))) (fun _ _ _ _ _ => pts_nil) (fun _ _ _ _ _ => (pe_tup (pa_cons (pe_def D_law_starts (hr.mono (by first | decide | omega)) (by rfl) (pa_cons (pv 3) (pa_cons (pv 6) pa_nil))) (pa_cons (pe_def D_law_slacks (hr.mono (by first | decide | omega)) (by rfl) (pa_cons (pv 3) (pa_cons (pv 6) pa_nil))) pa_nil)))))
      (pss_cons (ps_setLc (i := 7) rfl sc_law.nd rfl rfl (sw_true rfl rfl rfl (by decide +kernel)) (k_zip K rfl (by rfl) B.zip (pa_cons (pv 5) (pa_cons (pv 4) pa_nil))) (blkOk_by (own := [("_law_row", 10), ("_law_durations", 11)]) (N := N_law) (sc := defScope s_law) (by decide +kernel)) (fun _ _ _ _ _ => (k_tup K rfl 2 rfl (pgs_cons (pg_name (i := 10) sc_law.nd rfl (Or.inl rfl)) (pgs_cons (pg_name (i := 11) sc_law.nd rfl (Or.inl rfl)) pgs_nil)))) (fun _ _ _ _ _ => pts_nil) (fun _ _ _ _ _ => (pe_callB (k_max K rfl rfl) (by rfl) B.max bb_max (pa_cons (pe_lc rfl sc_law.nd (k_zipM K rfl (by rfl) B.zip (pa_cons (pe_ix (k_ix K rfl) (pv 10) pe_int (fun _ _ => rfl)) (pa_cons (pv 11) pa_nil))) (blkOk_by (own := [("_law_a", 8), ("_law_b", 9)]) (N := N_law) (sc := relS _ (defScope s_law)) (by decide +kernel)) (fun _ _ _ _ _ => (k_tup K rfl 2 rfl (pgs_cons (pg_name (i := 8) sc_law.nd rfl (Or.inl rfl)) (pgs_cons (pg_name (i := 9) sc_law.nd rfl (Or.inl rfl)) pgs_nil)))) (fun _ _ _ _ _ => pts_nil) (fun _ _ _ _ _ => (pe_op (k_add K rfl) (pv 8) (pv 9)))) pa_nil))))
      (pss_cons (ps_if (pt_cmpR (k_ne K rfl hr.units) (pe_def Dend_range (hr.mono (by first | decide | omega)) (by rfl) (pa_cons (pv 3) pa_nil)) (pe_def D_law_ends_of (hr.mono (by first | decide | omega)) (by rfl) (pa_cons (pv 7) pa_nil)) (nomark _)) (pss_one (ps_ret pe_bl)) pss_nil)
      (pss_cons (ps_set (i := 12) sc_law.nd rfl (Or.inl rfl) (pe_lst pa_nil))
      (pss_cons (ps_for PassesOwn.never rfl (pi_range1 (by rfl) B.range (pa_cons (pe_callB (k_len K rfl) (by rfl) B.len bb_len (pa_cons (pe_ix (k_ix K rfl) (pv 3) pe_int (fun _ _ => rfl)) pa_nil)) pa_nil)) (pg_name (i := 13) sc_law.nd rfl (Or.inr rfl)) (pss_cons (ps_if (pt_not (pt_val (pe_def D_law_task_right (hr.mono (by first | decide | omega)) (by rfl) (pa_cons (pv 3) (pa_cons (pv 13) (pa_cons (pv 4) (pa_cons (pv 5) pa_nil))))))) (pss_one (ps_ret pe_bl)) pss_nil)
      (pss_cons (ps_set (i := 14) sc_law.nd rfl (Or.inl rfl) (pe_callB (k_len K rfl) (by rfl) B.len bb_len (pa_cons (pe_lc rfl sc_law.nd (k_seq K rfl (pv 5)) (blkOk_by (own := [("_law_row", 10)]) (N := N_law) (sc := defScope s_law) (by decide +kernel)) (fun _ _ _ _ _ => (pg_name (i := 10) sc_law.nd rfl (Or.inl rfl))) (fun _ _ _ _ _ => pts_one (pt_cmpR (k_eq K rfl hr.units) (pe_ix (k_ix K rfl) (pe_ix (k_ix K rfl) (pv 10) pe_int (fun _ _ => rfl)) (pv 13) (fun _ _ => rfl)) pe_int (nomark _))) (fun _ _ _ _ _ => (pv 10))) pa_nil)))
      (pss_one (ps_expr (k_bm K rfl PySem.F.plainAttrs_list PySem.F.slot_list_append PySem.F.type_list_append mt_append (pv 12) (pa_cons (pe_ifExp (pt_cmpR (k_eq K rfl hr.units) (pv 14) (pe_callB (k_len K rfl) (by rfl) B.len bb_len (pa_cons (pv 5) pa_nil)) (nomark _)) pe_str (pe_ix (k_ix K rfl) (pe_lst (pa_cons pe_str (pa_cons pe_str pa_nil))) (pe_callTy call_int1 (by rfl) B.int bb_int (pa_cons (pe_cmpR op_gt (pv 14) pe_int (nomark _)) pa_nil)) (fun _ _ => rfl))) pa_nil)))))))
      (pss_cons (ps_set (i := 15) sc_law.nd rfl (Or.inr rfl) (pe_def D_law_paths (hr.mono (by first | decide | omega)) (by rfl) (pa_cons (pv 3) pa_nil)))
      (pss_cons (ps_setLc (i := 16) rfl sc_law.nd rfl rfl (sw_true rfl rfl rfl (by decide +kernel)) (pi_range1 (by rfl) B.range (pa_cons (pe_callB (k_len K rfl) (by rfl) B.len bb_len (pa_cons (pe_ix (k_ix K rfl) (pv 3) pe_int (fun _ _ => rfl)) pa_nil)) pa_nil)) (blkOk_by (own := [("_law_task", 13)]) (N := N_law) (sc := defScope s_law) (by decide +kernel)) (fun _ _ _ _ _ => (pg_name (i := 13) sc_law.nd rfl (Or.inl rfl))) (fun _ _ _ _ _ => pts_nil) (fun _ _ _ _ _ => (pe_def D_law_pivots (hr.mono (by first | decide | omega)) (by rfl) (pa_cons (pv 15) (pa_cons (pv 4) (pa_cons (pv 13) pa_nil))))))
      (pss_cons (ps_if (pt_cmpR (k_ne K rfl hr.units) (pe_lst (pa_cons (pe_def Dstatus (hr.mono (by first | decide | omega)) (by rfl) (pa_cons (pv 3) pa_nil)) (pa_cons (pe_def Dpivotal_status (hr.mono (by first | decide | omega)) (by rfl) (pa_cons (pv 3) pa_nil)) pa_nil))) (pe_lst (pa_cons (pv 12) (pa_cons (pv 16) pa_nil))) (nomark _)) (pss_one (ps_ret pe_bl)) pss_nil)
      (pss_cons (ps_if (pt_not (pt_val (pe_def D_law_pairs_right (hr.mono (by first | decide | omega)) (by rfl) (pa_cons (pv 3) (pa_cons (pv 5) pa_nil))))) (pss_one (ps_ret pe_bl)) pss_nil)
      (pss_cons (ps_setLc (i := 17) rfl sc_law.nd rfl rfl (sw_true rfl rfl rfl (by decide +kernel)) (k_seq K rfl (pe_ix (k_ix K rfl) (pv 3) pe_int (fun _ _ => rfl))) (blkOk_by (own := [("_law_arrow", 18)]) (N := N_law) (sc := defScope s_law) (by decide +kernel)) (fun _ _ _ _ _ => (pg_name (i := 18) sc_law.nd rfl (Or.inl rfl))) (fun _ _ _ _ _ => pts_one (pt_cmpR op_gt (pe_def D_law_take (hr.mono (by first | decide | omega)) (by rfl) (pa_cons (pv 1) (pa_cons pe_int pa_nil))) pe_int (nomark _))) (fun _ _ _ _ _ => (pv 18)))
      (pss_cons (ps_set (i := 17) sc_law.nd rfl (Or.inl rfl) (pe_op (k_add K rfl) (pv 17) (pe_lc rfl sc_law.nd (pi_range2 (by rfl) B.range (pa_cons pe_int (pa_cons (pe_callB (k_len K rfl) (by rfl) B.len bb_len (pa_cons (pe_ix (k_ix K rfl) (pv 4) pe_int (fun _ _ => rfl)) pa_nil)) pa_nil))) (blkOk_by (own := [("_law_j", 19)]) (N := N_law) (sc := defScope s_law) (by decide +kernel)) (fun _ _ _ _ _ => (pg_name (i := 19) sc_law.nd rfl (Or.inl rfl))) (fun _ _ _ _ _ => pts_one (pt_cmpR (k_eq K rfl hr.units) (pe_def D_law_take (hr.mono (by first | decide | omega)) (by rfl) (pa_cons (pv 1) (pa_cons pe_int pa_nil))) pe_int (nomark _))) (fun _ _ _ _ _ => (pe_tup (pa_cons pe_int (pa_cons (pv 19) pa_nil)))))))
      (pss_cons (ps_set (i := 20) sc_law.nd rfl (Or.inl rfl) (pe_tup (pa_cons (pe_ix (k_ix K rfl) (pv 3) pe_int (fun _ _ => rfl)) (pa_cons (pe_callTy (k_tuple K rfl) (by rfl) B.tuple bb_tuple (pa_cons (pe_callB (k_sortedT K rfl rfl) (by rfl) B.sorted bb_sorted (pa_cons (pe_callTy (k_setOf K rfl rfl hr.units) (by rfl) B.set bb_set (pa_cons (pv 17) pa_nil)) pa_nil)) pa_nil)) pa_nil))))
      (pss_one (ps_if (PW.pt (pw_or (pt_not (pt_val (pe_def D_law_other_right (hr.mono (by first | decide | omega)) (by rfl) (pa_cons (pv 3) (pa_cons (pv 20) (pa_cons (pv 4) pa_nil)))))) (pw_or1 (pt_not (pt_val (pe_def D_law_arrows_right (hr.mono (by first | decide | omega)) (by rfl) (pa_cons (pv 3) (pa_cons (pv 4) pa_nil)))))))) (pss_one (ps_ret pe_bl)) pss_nil)))))))))))))))))
      (pss_one (ps_ret pe_bl))))), ?_⟩
  · obtain ⟨a, ns, rfl, _⟩ := h
    rfl
  · obtain ⟨a, ns, rfl, hS, hl, q⟩ := h
    refine law_start hS hl (fun pen => ?_) fun v H' hv => (by rw [hv]; exact q H')
    refine run_seq (run_forA (fun e : Nat => .int (e : Int)) (ei_rng1 ?_))
    walk_at "ev"
    refine ⟨_, rfl, by decide, by decide, List.range 2, rgD_nat 2, fun i ρ n => n ≤ 200 * i ∧ ∃ s2 s3 s4 s5 s6 s7 s8 s9 s10 s11 s12 s13 s14 s15 s16 s17 s18 s19 s20 : Sl, ρ = [.un, .pen, s2, s3, s4, s5, s6, s7, s8, s9, s10, s11, s12, s13, s14, s15, s16, s17, s18, s19, s20], ⟨by omega, _, _, _, _, _, _, _, _, _, _, _, _, _, _, _, _, _, _, _, rfl⟩, ?_, ?_⟩
    · rintro i i' ρ n hi ⟨hn, s2, s3, s4, s5, s6, s7, s8, s9, s10, s11, s12, s13, s14, s15, s16, s17, s18, s19, s20, rfl⟩
      obtain ⟨rfl, hi⟩ := range_at hi
      refine tg_name (by decide) ?_
      refine run_seq (run_set (ev_callP rfl ?_))
      walk_at "ev"
      refine ⟨_, ⟨rfl, by omega, rfl⟩, ?_⟩
      rintro _ m1 ⟨hm1, p, rfl, ok⟩
      have h6 := ok.n6
      have h1n := ok.n1
      have ha := all_of ok
      refine run_seq (run_set ?_)
      walk_at "ev"
      refine ⟨_, ⟨p, rfl, ok, rfl⟩, ?_⟩
      rintro _ rfl
      generalize hLL : allD p.ts = L at ha
      have hLf := ha.few
      have lne : ∀ v : List Int → Int, L.map v ≠ [] := fun v h => ha.ne (List.map_eq_nil_iff.mp h)
      refine run_seq (run_set (ev_ofL (ev_lcB duD (ei_list ?_))))
      walk_at "ev"
      refine ⟨_, rfl, L, rfl, by omega, rowD p, fun d hd => ?_, ?_⟩
      · have hdur := (ha.mem d).mp hd
        refine tg_name (by decide) ?_
        walk_at "ev"
        refine ⟨_, ⟨p, d, rfl, ok, hdur, rfl⟩, ?_⟩
        rintro _ rfl
        walk_at "ev"
        refine ⟨_, ⟨p, d, rfl, ok, hdur, rfl⟩, ?_⟩
        rintro _ rfl
        walk_at "ev"
        exact ⟨by simp, rfl, rfl⟩
      refine run_seq (run_set (ev_ofL (ev_lcB (fun d => .tuple [rowD p d, duD d]) (ei_zip ?_))))
      walk_at "ev"
      refine .inl ⟨_, _, rfl, L, zipD_map _ _ _, by omega, fun d => .int (enV p d), fun d hd => ?_, ?_⟩
      · have hdur := (ha.mem d).mp hd
        refine tg_tup rfl (tgs_cons (tg_name (by decide) (tgs_cons (tg_name (by decide) (tgs_nil ?_)))))
        walk_at "ev"
        refine ev_ofL (ev_lcB (fun t : Nat => .tuple [.int (sv p d t), .int (d.getD t 0)]) (ei_zipM ?_))
        walk_at "ev"
        refine ⟨_, _, rfl, List.range p.ts.length, zip_sd hdur, by rw [List.length_range]; omega, fun t => .int (sv p d t + d.getD t 0), fun t ht => ?_, ?_⟩
        · refine tg_tup rfl (tgs_cons (tg_name (by decide) (tgs_cons (tg_name (by decide) (tgs_nil ?_)))))
          walk_at "ev"
          exact ⟨rfl, rfl⟩
        · rw [liMap]
          walk_at "ev"
          refine cb_max (fun h => rng_ne ok (List.map_eq_nil_iff.mp h)) fun m hm hle => ?_
          rw [← en_max2 ok (hdur.nn ok) hm hle]
          exact ⟨rfl, rfl⟩
      rw [liMap]
      refine run_seq (run_if ?_)
      walk_at "ev"
      refine ⟨_, ⟨p, rfl, ok, rfl⟩, ?_⟩
      rintro _ ⟨a1, b1, rfl, h1⟩
      walk_at "ev"
      refine ⟨_, ⟨_, rfl, lne _, rfl⟩, ?_⟩
      rintro _ ⟨c1, e1, rfl, i1, i2, i3, i4⟩
      obtain ⟨rfl, rfl⟩ := h1.eq ha.mem i1 i2 i3 i4
      refine od_neD (a := bdD (a1, b1)) (okd_bd.sh (by decide)) (okd_bd.sh (by decide)) ⟨_, rfl, ?_⟩
      rw [eqv_bd, decide_eq_true rfl, if_neg (by decide)]
      refine run_next ?_
      refine run_seq (run_own (ev_lst (ea_nil ⟨by decide, ?_⟩)))
      refine run_seq (run_forA (fun e : Nat => .int (e : Int)) (ei_rng1 ?_))
      walk_at "ev"
      refine cb_lenT ?_
      walk_at "ev"
      refine ⟨_, rfl, by rw [List.length_map]; omega, by rw [List.length_map]; omega, List.range p.ts.length, by rw [List.length_map]; exact rgD_nat _, fun i ρ n => m1 = n ∧ ∃ s2 s6 s8 s9 s10 s11 s13 s14 s15 s16 s17 s18 s19 s20 : Sl, ρ = [.un, .pen, s2, .dat (pjD p), .dat (.list (L.map duD)), .dat (.list (L.map (rowD p))), s6, .dat (liD (L.map (enV p))), s8, s9, s10, s11, .own ((List.range i).map fun t => woD p (fun d => enV p d - tv p d t ≤ 0)), s13, s14, s15, s16, s17, s18, s19, s20], ⟨rfl, _, _, _, _, _, _, _, _, _, _, _, _, _, _, rfl⟩, ?_, ?_⟩
      · rintro t t' ρ n ht ⟨rfl, s2, s6, s8, s9, s10, s11, s13, s14, s15, s16, s17, s18, s19, s20, rfl⟩
        obtain ⟨rfl, ht⟩ := range_at ht
        refine tg_name (by decide) ?_
        refine run_seq (run_if (et_not ?_))
        walk_at "ev"
        refine ⟨_, ⟨p, t', L, rfl, ha, ht, rfl⟩, ?_⟩
        rintro _ rfl
        refine ⟨_, rfl, ?_⟩
        rw [if_neg (by decide)]
        refine run_next ?_
        refine run_seq (run_set ?_)
        walk_at "ev"
        refine ev_ofL (ev_lcA (rowD p) (ei_list ?_))
        walk_at "ev"
        refine ⟨_, rfl, L, rfl, by omega, fun d => decide (slk p d t' = 0), rowD p, fun d hd => ?_, ?_⟩
        · refine tg_name (by decide) ⟨?_, fun _ => ?_⟩
          · walk_at "ev"
            refine od_ixL (i := (t' : Nat)) (sl_at' ht) ?_
            walk_at "ev"
            refine od_eqD sh_int sh_int ⟨_, rfl, rfl, ?_⟩
            rw [eqv_int]
          · walk_at "ev"
            exact ⟨rfl, rfl⟩
        walk_at "ev"
        refine cb_lenL ?_
        rw [List.length_map]
        refine run_app rfl ?_
        walk_at "ev"
        refine cb_lenL ?_
        refine od_eqD sh_int sh_int ⟨_, rfl, ?_⟩
        rw [eqv_int, List.length_map]
        have slk0 : ∀ d, d ∈ L → 0 ≤ slk p d t' := fun d hd => by
          have := tv_le ok (((ha.mem d).mp hd).nn ok) ht
          unfold slk
          omega
        have hC : ∀ d, d ∈ L → (slk p d t' = 0 ↔ enV p d - tv p d t' ≤ 0) := fun d hd => by
          have := slk0 d hd
          unfold slk at this ⊢
          omega
        have fin : ∀ e : PyData, e = woD p (fun d => enV p d - tv p d t' ≤ 0) → ((List.range t').map fun t => woD p (fun d => enV p d - tv p d t ≤ 0)).length < 100000 ∧ (fun i ρ n => m1 = n ∧ ∃ s2 s6 s8 s9 s10 s11 s13 s14 s15 s16 s17 s18 s19 s20 : Sl, ρ = [.un, .pen, s2, .dat (pjD p), .dat (.list (L.map duD)), .dat (.list (L.map (rowD p))), s6, .dat (liD (L.map (enV p))), s8, s9, s10, s11, .own ((List.range i).map fun t => woD p (fun d => enV p d - tv p d t ≤ 0)), s13, s14, s15, s16, s17, s18, s19, s20]) (t' + 1)
            [.un, .pen, s2, .dat (pjD p), .dat (.list (L.map duD)), .dat (.list (L.map (rowD p))), s6, .dat (liD (L.map (enV p))), s8, s9, s10, s11, .own (((List.range t').map fun t => woD p (fun d => enV p d - tv p d t ≤ 0)) ++ [e]), .dat (.int (t' : Nat)), .dat (.int ((L.filter fun d => decide (slk p d t' = 0)).length : Nat)), s15, s16, s17, s18, s19, s20] m1 := by
          rintro e rfl
          refine ⟨by rw [List.length_map, List.length_range]; omega, rfl, s2, s6, s8, s9, s10, s11, .dat (.int (t' : Nat)), .dat (.int ((L.filter fun d => decide (slk p d t' = 0)).length : Nat)), s15, s16, s17, s18, s19, s20, ?_⟩
          rw [List.range_succ, List.map_append]
          rfl
        by_cases hall : ∀ d, Dur p d → enV p d - tv p d t' ≤ 0
        · have hlen : (L.filter fun d => decide (slk p d t' = 0)).length = L.length := by
            rw [List.filter_eq_self.mpr fun d hd => decide_eq_true ((hC d hd).mpr (hall d ((ha.mem d).mp hd)))]
          rw [if_pos (decide_eq_true (by omega))]
          walk_at "ev"
          refine fin _ ?_
          obtain ⟨d, hd⟩ := List.exists_mem_of_ne_nil L ha.ne
          unfold woD wdD
          rw [dec_not (C := ∀ d, Dur p d → ¬ enV p d - tv p d t' ≤ 0) (fun z => z d ((ha.mem d).mp hd) (hall d ((ha.mem d).mp hd))), dec_of hall, if_neg (by decide), if_pos rfl]
        · have hne : ¬ ((L.filter fun d => decide (slk p d t' = 0)).length = L.length) := fun e => hall fun d hd => by
            have hdL := (ha.mem d).mpr hd
            have := List.length_filter_eq_length_iff.mp e d hdL
            exact (hC d hdL).mp (of_decide_eq_true this)
          rw [if_neg (by rw [decide_eq_true_iff]; omega)]
          refine ev_op (ev_ofL (ev_lst ?_))
          walk_at "ev"
          refine ⟨by simp, ?_⟩
          walk_at "ev"
          refine cb_intB ?_
          by_cases hno : ∀ d, Dur p d → ¬ enV p d - tv p d t' ≤ 0
          · have h0 : (L.filter fun d => decide (slk p d t' = 0)).length = 0 := by
              rw [List.length_eq_zero_iff, List.filter_eq_nil_iff]
              intro d hd hz
              exact hno d ((ha.mem d).mp hd) ((hC d hd).mp (of_decide_eq_true hz))
            rw [decide_eq_false (show ¬ (0 : Int) < ((L.filter fun d => decide (slk p d t' = 0)).length : Int) by omega)]
            refine od_ixL at_0 (fin _ ?_)
            unfold woD wdD
            rw [dec_of hno, if_pos rfl]
          · have h0 : 0 < (L.filter fun d => decide (slk p d t' = 0)).length := by
              refine List.length_pos_iff.mpr fun z => hno fun d hd hc => ?_
              have hdL := (ha.mem d).mpr hd
              exact List.filter_eq_nil_iff.mp z d hdL (decide_eq_true ((hC d hdL).mpr hc))
            rw [decide_eq_true (show (0 : Int) < ((L.filter fun d => decide (slk p d t' = 0)).length : Int) by omega)]
            refine od_ixL at_1 (fin _ ?_)
            unfold woD wdD
            rw [dec_not hno, dec_not hall, if_neg (by decide), if_neg (by decide)]
      rintro ρ n ⟨rfl, s2, s6, s8, s9, s10, s11, s13, s14, s15, s16, s17, s18, s19, s20, rfl⟩
      rw [List.length_range]
      refine run_let (i := 12) rfl ?_
      refine run_seq (run_set ?_)
      walk_at "ev"
      refine ⟨_, ⟨p, rfl, ok, rfl⟩, ?_⟩
      rintro _ ⟨ws, rfl, wl, wq⟩
      refine run_seq (run_set (ev_ofL (ev_lcB (fun e : Nat => .int (e : Int)) (ei_rng1 ?_))))
      walk_at "ev"
      refine cb_lenT ?_
      walk_at "ev"
      refine ⟨_, rfl, by rw [List.length_map]; omega, by rw [List.length_map]; omega, List.range p.ts.length, by rw [List.length_map]; exact rgD_nat _, by rw [List.length_range]; omega, fun t => woD p (fun d => Piv p d t), fun t ht => ?_, ?_⟩
      · refine tg_name (by decide) ?_
        walk_at "ev"
        refine ⟨_, ⟨p, t, ws, L, rfl, ha, List.mem_range.mp ht, wl, wq, rfl⟩, ?_⟩
        rintro _ rfl
        exact ⟨rfl, rfl⟩
      refine run_seq (run_if ?_)
      walk_at "ev"
      refine ev_ofL (ev_lst ?_)
      walk_at "ev"
      refine ⟨_, ⟨p, rfl, ok, rfl⟩, ?_⟩
      rintro _ rfl
      walk_at "ev"
      refine ⟨_, ⟨p, rfl, ok, rfl⟩, ?_⟩
      rintro _ rfl
      walk_at "ev"
      refine ⟨by simp, ev_ofL (ev_lst ?_)⟩
      walk_at "ev"
      refine ⟨by simp, ?_⟩
      have okw : OkD 2 (.list [.list ((List.range p.ts.length).map fun t => woD p (fun d => enV p d - tv p d t ≤ 0)), .list ((List.range p.ts.length).map fun t => woD p (fun d => Piv p d t))]) := okd_lst fun x hx => by
        rcases List.mem_cons.mp hx with rfl | hx
        · exact okd_wos (C := fun t d => enV p d - tv p d t ≤ 0)
        · have : x = .list ((List.range p.ts.length).map fun t => woD p (fun d => Piv p d t)) := by simpa using hx
          rw [this]
          exact okd_wos (C := fun t d => Piv p d t)
      refine od_neD (okw.sh (by decide)) (okw.sh (by decide)) ⟨_, rfl, ?_⟩
      rw [eqv_lrefl (l := [.list ((List.range p.ts.length).map fun t => woD p (fun d => enV p d - tv p d t ≤ 0)), .list ((List.range p.ts.length).map fun t => woD p (fun d => Piv p d t))]) (fun x hx => by
        rcases List.mem_cons.mp hx with rfl | hx
        · exact eqv_wos _ p (fun t d => enV p d - tv p d t ≤ 0)
        · have : x = .list ((List.range p.ts.length).map fun t => woD p (fun d => Piv p d t)) := by simpa using hx
          rw [this]
          exact eqv_wos _ p (fun t d => Piv p d t)), if_neg (by decide)]
      refine run_next ?_
      refine run_seq (run_if (et_not ?_))
      walk_at "ev"
      refine ⟨_, ⟨p, L, rfl, ha, rfl⟩, ?_⟩
      rintro _ rfl
      refine ⟨_, rfl, ?_⟩
      rw [if_neg (by decide)]
      refine run_next ?_
      have hfew := ok.few
      refine run_seq (run_set (ev_ofL (ev_lc (ei_tup ?_))))
      walk_at "ev"
      refine ⟨_, rfl, fun i acc n' => n' ≤ m1 + i ∧ i ≤ p.ar.length ∧ ∃ as : List (Nat × Nat), acc = as.map arD ∧ as.length ≤ i ∧ ∀ a ∈ as, a ∈ p.ar, ⟨by omega, by omega, [], rfl, by simp, fun a hx => (by cases hx)⟩, ?_, ?_⟩
      · rintro i d acc n' hd ⟨hn', hi', as, rfl, hal, has⟩
        obtain ⟨a, hxa, rfl⟩ := get_map hd
        have hil : i < p.ar.length := (List.getElem?_eq_some_iff.mp hxa).1
        refine tg_name (by decide) ?_
        walk_at "ev"
        refine ev_callP rfl ?_
        walk_at "ev"
        refine ⟨_, ⟨_, rfl, by decide, by decide, by omega, rfl⟩, ?_⟩
        rintro _ m2 ⟨hm2, r2, rfl, hr2⟩
        walk_at "ev"
        refine ⟨_, rfl, ?_⟩
        by_cases hz : (0 : Int) < (r2 : Int)
        · rw [if_pos (by simpa using hz)]
          walk_at "ev"
          refine ⟨by rw [List.length_map]; omega, by omega, by omega, as ++ [a], by rw [List.map_append]; rfl, by rw [List.length_append]; show as.length + 1 ≤ i + 1; omega, fun b hb => ?_⟩
          rcases List.mem_append.mp hb with hb | hb
          · exact has b hb
          · have : b = a := by simpa using hb
            rw [this]; exact List.mem_of_getElem? hxa
        · rw [if_neg (by simpa using hz)]
          exact ⟨by omega, by omega, as, rfl, by omega, has⟩
      rintro acc n2 ⟨hn2, hi2, as, rfl, hal, has⟩
      rw [List.length_map] at hn2 hi2 hal
      refine run_seq (run_set (ev_ofL (ev_opL ?_)))
      walk_at "ev"
      refine ev_ofL (ev_lc (ei_rng2 ?_))
      walk_at "ev"
      obtain ⟨d0, L', rfl⟩ : ∃ d0 L', L = d0 :: L' := by
        cases L with
        | nil => exact absurd rfl ha.ne
        | cons d0 L' => exact ⟨d0, L', rfl⟩
      have hd0 := (ha.mem d0).mp List.mem_cons_self
      refine od_ixL at_0 ?_
      walk_at "ev"
      refine cb_lenT ?_
      walk_at "ev"
      refine ⟨_, _, rfl, by rw [List.length_map, hd0.l]; omega, fun k acc n' => n' ≤ n2 + k ∧ k ≤ 6 ∧ ∃ js : List Nat, acc = js.map (fun j => arD (0, j)) ∧ js.length ≤ k ∧ ∀ j ∈ js, 1 ≤ j ∧ j < p.ts.length, ⟨by omega, by omega, [], rfl, by simp, fun j hj => (by cases hj)⟩, ?_, ?_⟩
      · rintro k d acc n5 hd ⟨hn5, hk, js, rfl, jl, jb⟩
        have hdk : d = .int ((1 + k : Nat) : Int) ∧ 1 + k < p.ts.length := by
          unfold rgD at hd
          rw [List.getElem?_map] at hd
          obtain ⟨x, hx, e⟩ := Option.map_eq_some_iff.mp hd
          obtain ⟨g1, g2⟩ := List.getElem?_eq_some_iff.mp hx
          rw [List.length_range, List.length_map, hd0.l] at g1
          rw [List.getElem_range] at g2
          subst g2
          refine ⟨?_, by omega⟩
          rw [← e]
          congr 1
        obtain ⟨rfl, hks⟩ := hdk
        refine tg_name (by decide) ?_
        walk_at "ev"
        refine ev_callP rfl ?_
        walk_at "ev"
        refine ⟨_, ⟨_, rfl, by decide, by decide, by omega, rfl⟩, ?_⟩
        rintro _ m6 ⟨hm6, r6, rfl, hr6⟩
        walk_at "ev"
        refine od_eqD sh_int sh_int ⟨_, rfl, ?_⟩
        by_cases hz : PyData.eqv (.int (r6 : Int)) (.int 0) = true
        · rw [if_pos hz]
          walk_at "ev"
          refine ⟨by simp, by rw [List.length_map]; omega, by omega, by omega, js ++ [1 + k], by rw [List.map_append]; rfl, by rw [List.length_append]; show js.length + 1 ≤ k + 1; omega, fun j hj => ?_⟩
          rcases List.mem_append.mp hj with hj | hj
          · exact jb j hj
          · have : j = 1 + k := by simpa using hj
            omega
        · rw [if_neg hz]
          exact ⟨by omega, by omega, js, rfl, by omega, jb⟩
      rintro acc n3 ⟨hn3, hk6, js, rfl, jl, jb⟩
      unfold rgD at hn3 hk6 jl
      rw [List.length_map, List.length_range] at hn3 hk6 jl
      refine ol_cat (by rw [List.length_map, List.length_map]; omega) ?_
      rw [show as.map arD ++ js.map (fun j => arD (0, j)) = (as ++ js.map fun j => (0, j)).map arD by
        rw [List.map_append, List.map_map]
        rfl]
      have hars : ∀ a ∈ as ++ js.map (fun j => (0, j)), a.1 < a.2 ∧ a.2 < p.ts.length := fun a hx => by
        rcases List.mem_append.mp hx with hx | hx
        · exact ok.ar a (has a hx)
        · obtain ⟨j, hj, rfl⟩ := List.mem_map.mp hx
          exact jb j hj
      refine run_seq (run_set ?_)
      refine ev_tup (ea_cons (ev_op (ev_var rfl (ev_int (od_ixT at_0 (ea_cons (ev_cb (ea_cons (ev_ofL (ev_sortSet ?_))))))))))
      walk_at "ev"
      refine ⟨_, rfl, by rw [List.length_append, List.length_map]; omega, fun a hx => by have := hars a hx; omega, fun out ond omem => ?_⟩
      walk_at "ev"
      refine cb_tupL ?_
      walk_at "ev"
      refine ⟨by simp, ?_⟩
      have ohb : ∀ a ∈ out, a.1 < a.2 ∧ a.2 < p.ts.length := fun a hx => hars a ((omem a).mp hx)
      have tw : Twin p ⟨p.ts, out⟩ := ⟨ok, ⟨ok.n1, ok.n6, ok.bd, ohb, ond, by have := ar_few h6 ond ohb; show out.length ≤ 50; omega⟩, rfl⟩
      refine run_if (et_or (et_not ?_))
      walk_at "ev"
      refine ⟨_, ⟨p, ⟨p.ts, out⟩, _, rfl, ha, tw, rfl⟩, ?_⟩
      rintro _ rfl
      refine ⟨_, rfl, ?_⟩
      rw [if_neg (by decide)]
      refine et_not ?_
      walk_at "ev"
      refine ⟨_, ⟨p, _, rfl, ha, rfl⟩, ?_⟩
      rintro _ rfl
      refine ⟨_, rfl, ?_⟩
      rw [if_neg (by decide)]
      refine run_next ⟨by omega, ?_⟩
      exact ⟨_, _, _, _, _, _, _, _, _, _, _, _, _, _, _, _, _, _, _, rfl⟩
    · rintro ρ n ⟨hn, s2, s3, s4, s5, s6, s7, s8, s9, s10, s11, s12, s13, s14, s15, s16, s17, s18, s19, s20, rfl⟩
      refine run_ret ?_
      walk_at "ev"
      rfl
end
end AC
set_option Elab.async false
set_option linter.all false
set_option maxRecDepth 100000
set_option maxHeartbeats 0
namespace AC
open PySem PySem.Spec PyProof.Rows L2
section
variable {P : Program} {w : World} {K : PySem.W.Frag} {h : Heap} {mg : Str → Option Value} {f : Addr}
theorem raw_before (X : K.In h) (G : h.Ns mainGlobals mg) (c : He.SaysD fas fns K) : Raw K mg "before" s_before ["project", "task"] := by
  obtain ⟨fd, F⟩ := c.def_ 0 (d := dd "before" s_before) rfl
  exact ⟨_, fd, F, He.glo_ok X G (c.fact 0 (f := .glo "before") rfl), FunD.bindsN (ps := ["project", "task"]) F fun _ _ _ _ _ _ us hl => match us, hl with | [_, _], _ => rfl⟩
theorem raw_behind (X : K.In h) (G : h.Ns mainGlobals mg) (c : He.SaysD fas fns K) : Raw K mg "behind" s_behind ["project", "task"] := by
  obtain ⟨fd, F⟩ := c.def_ 1 (d := dd "behind" s_behind) rfl
  exact ⟨_, fd, F, He.glo_ok X G (c.fact 1 (f := .glo "behind") rfl), FunD.bindsN (ps := ["project", "task"]) F fun _ _ _ _ _ _ us hl => match us, hl with | [_, _], _ => rfl⟩
theorem raw_heads (X : K.In h) (G : h.Ns mainGlobals mg) (c : He.SaysD fas fns K) : Raw K mg "heads" s_heads ["project", "task"] := by
  obtain ⟨fd, F⟩ := c.def_ 2 (d := dd "heads" s_heads) rfl
  exact ⟨_, fd, F, He.glo_ok X G (c.fact 2 (f := .glo "heads") rfl), FunD.bindsN (ps := ["project", "task"]) F fun _ _ _ _ _ _ us hl => match us, hl with | [_, _], _ => rfl⟩
theorem raw_tails (X : K.In h) (G : h.Ns mainGlobals mg) (c : He.SaysD fas fns K) : Raw K mg "tails" s_tails ["project", "task"] := by
  obtain ⟨fd, F⟩ := c.def_ 3 (d := dd "tails" s_tails) rfl
  exact ⟨_, fd, F, He.glo_ok X G (c.fact 3 (f := .glo "tails") rfl), FunD.bindsN (ps := ["project", "task"]) F fun _ _ _ _ _ _ us hl => match us, hl with | [_, _], _ => rfl⟩
theorem raw_whole_paths (X : K.In h) (G : h.Ns mainGlobals mg) (c : He.SaysD fas fns K) : Raw K mg "whole_paths" s_whole_paths ["project"] := by
  obtain ⟨fd, F⟩ := c.def_ 4 (d := dd "whole_paths" s_whole_paths) rfl
  exact ⟨_, fd, F, He.glo_ok X G (c.fact 4 (f := .glo "whole_paths") rfl), FunD.bindsN (ps := ["project"]) F fun _ _ _ _ _ _ us hl => match us, hl with | [_], _ => rfl⟩
theorem raw_through (X : K.In h) (G : h.Ns mainGlobals mg) (c : He.SaysD fas fns K) : Raw K mg "through" s_through ["project", "task"] := by
  obtain ⟨fd, F⟩ := c.def_ 5 (d := dd "through" s_through) rfl
  exact ⟨_, fd, F, He.glo_ok X G (c.fact 5 (f := .glo "through") rfl), FunD.bindsN (ps := ["project", "task"]) F fun _ _ _ _ _ _ us hl => match us, hl with | [_, _], _ => rfl⟩
theorem raw_around (X : K.In h) (G : h.Ns mainGlobals mg) (c : He.SaysD fas fns K) : Raw K mg "around" s_around ["project", "task"] := by
  obtain ⟨fd, F⟩ := c.def_ 6 (d := dd "around" s_around) rfl
  exact ⟨_, fd, F, He.glo_ok X G (c.fact 6 (f := .glo "around") rfl), FunD.bindsN (ps := ["project", "task"]) F fun _ _ _ _ _ _ us hl => match us, hl with | [_, _], _ => rfl⟩
theorem raw_length (X : K.In h) (G : h.Ns mainGlobals mg) (c : He.SaysD fas fns K) : Raw K mg "length" s_length ["durations", "path"] := by
  obtain ⟨fd, F⟩ := c.def_ 7 (d := dd "length" s_length) rfl
  exact ⟨_, fd, F, He.glo_ok X G (c.fact 7 (f := .glo "length") rfl), FunD.bindsN (ps := ["durations", "path"]) F fun _ _ _ _ _ _ us hl => match us, hl with | [_, _], _ => rfl⟩
theorem raw_longest (X : K.In h) (G : h.Ns mainGlobals mg) (c : He.SaysD fas fns K) : Raw K mg "longest" s_longest ["durations", "paths"] := by
  obtain ⟨fd, F⟩ := c.def_ 8 (d := dd "longest" s_longest) rfl
  exact ⟨_, fd, F, He.glo_ok X G (c.fact 8 (f := .glo "longest") rfl), FunD.bindsN (ps := ["durations", "paths"]) F fun _ _ _ _ _ _ us hl => match us, hl with | [_, _], _ => rfl⟩
theorem raw_lows (X : K.In h) (G : h.Ns mainGlobals mg) (c : He.SaysD fas fns K) : Raw K mg "lows" s_lows ["project"] := by
  obtain ⟨fd, F⟩ := c.def_ 9 (d := dd "lows" s_lows) rfl
  exact ⟨_, fd, F, He.glo_ok X G (c.fact 9 (f := .glo "lows") rfl), FunD.bindsN (ps := ["project"]) F fun _ _ _ _ _ _ us hl => match us, hl with | [_], _ => rfl⟩
theorem raw_raised (X : K.In h) (G : h.Ns mainGlobals mg) (c : He.SaysD fas fns K) : Raw K mg "raised" s_raised ["project", "path"] := by
  obtain ⟨fd, F⟩ := c.def_ 10 (d := dd "raised" s_raised) rfl
  exact ⟨_, fd, F, He.glo_ok X G (c.fact 10 (f := .glo "raised") rfl), FunD.bindsN (ps := ["project", "path"]) F fun _ _ _ _ _ _ us hl => match us, hl with | [_, _], _ => rfl⟩
theorem raw_greatest (X : K.In h) (G : h.Ns mainGlobals mg) (c : He.SaysD fas fns K) : Raw K mg "greatest" s_greatest ["project", "some", "others"] := by
  obtain ⟨fd, F⟩ := c.def_ 11 (d := dd "greatest" s_greatest) rfl
  exact ⟨_, fd, F, He.glo_ok X G (c.fact 11 (f := .glo "greatest") rfl), FunD.bindsN (ps := ["project", "some", "others"]) F fun _ _ _ _ _ _ us hl => match us, hl with | [_, _, _], _ => rfl⟩
theorem raw_difference_of (X : K.In h) (G : h.Ns mainGlobals mg) (c : He.SaysD fas fns K) : Raw K mg "difference_of" s_difference_of ["project", "some", "others"] := by
  obtain ⟨fd, F⟩ := c.def_ 12 (d := dd "difference_of" s_difference_of) rfl
  exact ⟨_, fd, F, He.glo_ok X G (c.fact 12 (f := .glo "difference_of") rfl), FunD.bindsN (ps := ["project", "some", "others"]) F fun _ _ _ _ _ _ us hl => match us, hl with | [_, _, _], _ => rfl⟩
theorem raw_end_range (X : K.In h) (G : h.Ns mainGlobals mg) (c : He.SaysD fas fns K) : Raw K mg "end_range" s_end_range ["project"] := by
  obtain ⟨fd, F⟩ := c.def_ 13 (d := dd "end_range" s_end_range) rfl
  exact ⟨_, fd, F, He.glo_ok X G (c.fact 13 (f := .glo "end_range") rfl), FunD.bindsN (ps := ["project"]) F fun _ _ _ _ _ _ us hl => match us, hl with | [_], _ => rfl⟩
theorem raw_start_range (X : K.In h) (G : h.Ns mainGlobals mg) (c : He.SaysD fas fns K) : Raw K mg "start_range" s_start_range ["project", "task"] := by
  obtain ⟨fd, F⟩ := c.def_ 14 (d := dd "start_range" s_start_range) rfl
  exact ⟨_, fd, F, He.glo_ok X G (c.fact 14 (f := .glo "start_range") rfl), FunD.bindsN (ps := ["project", "task"]) F fun _ _ _ _ _ _ us hl => match us, hl with | [_, _], _ => rfl⟩
theorem raw_latest_range (X : K.In h) (G : h.Ns mainGlobals mg) (c : He.SaysD fas fns K) : Raw K mg "latest_range" s_latest_range ["project", "task"] := by
  obtain ⟨fd, F⟩ := c.def_ 15 (d := dd "latest_range" s_latest_range) rfl
  exact ⟨_, fd, F, He.glo_ok X G (c.fact 15 (f := .glo "latest_range") rfl), FunD.bindsN (ps := ["project", "task"]) F fun _ _ _ _ _ _ us hl => match us, hl with | [_, _], _ => rfl⟩
theorem raw_slack_range (X : K.In h) (G : h.Ns mainGlobals mg) (c : He.SaysD fas fns K) : Raw K mg "slack_range" s_slack_range ["project", "task"] := by
  obtain ⟨fd, F⟩ := c.def_ 16 (d := dd "slack_range" s_slack_range) rfl
  exact ⟨_, fd, F, He.glo_ok X G (c.fact 16 (f := .glo "slack_range") rfl), FunD.bindsN (ps := ["project", "task"]) F fun _ _ _ _ _ _ us hl => match us, hl with | [_, _], _ => rfl⟩
theorem raw_walk (X : K.In h) (G : h.Ns mainGlobals mg) (c : He.SaysD fas fns K) : Raw K mg "walk" s_walk ["first", "last"] := by
  obtain ⟨fd, F⟩ := c.def_ 17 (d := dd "walk" s_walk) rfl
  exact ⟨_, fd, F, He.glo_ok X G (c.fact 17 (f := .glo "walk") rfl), FunD.bindsN (ps := ["first", "last"]) F fun _ _ _ _ _ _ us hl => match us, hl with | [_, _], _ => rfl⟩
theorem raw_find_slack (X : K.In h) (G : h.Ns mainGlobals mg) (c : He.SaysD fas fns K) : Raw K mg "find_slack" s_find_slack ["project", "task", "slack"] := by
  obtain ⟨fd, F⟩ := c.def_ 18 (d := dd "find_slack" s_find_slack) rfl
  exact ⟨_, fd, F, He.glo_ok X G (c.fact 18 (f := .glo "find_slack") rfl), FunD.bindsN (ps := ["project", "task", "slack"]) F fun _ _ _ _ _ _ us hl => match us, hl with | [_, _, _], _ => rfl⟩
theorem raw_difference_range (X : K.In h) (G : h.Ns mainGlobals mg) (c : He.SaysD fas fns K) : Raw K mg "difference_range" s_difference_range ["project", "other"] := by
  obtain ⟨fd, F⟩ := c.def_ 19 (d := dd "difference_range" s_difference_range) rfl
  exact ⟨_, fd, F, He.glo_ok X G (c.fact 19 (f := .glo "difference_range") rfl), FunD.bindsN (ps := ["project", "other"]) F fun _ _ _ _ _ _ us hl => match us, hl with | [_, _], _ => rfl⟩
theorem raw_find_later (X : K.In h) (G : h.Ns mainGlobals mg) (c : He.SaysD fas fns K) : Raw K mg "find_later" s_find_later ["project", "other"] := by
  obtain ⟨fd, F⟩ := c.def_ 20 (d := dd "find_later" s_find_later) rfl
  exact ⟨_, fd, F, He.glo_ok X G (c.fact 20 (f := .glo "find_later") rfl), FunD.bindsN (ps := ["project", "other"]) F fun _ _ _ _ _ _ us hl => match us, hl with | [_, _], _ => rfl⟩
theorem raw_never_later (X : K.In h) (G : h.Ns mainGlobals mg) (c : He.SaysD fas fns K) : Raw K mg "never_later" s_never_later ["project", "other"] := by
  obtain ⟨fd, F⟩ := c.def_ 21 (d := dd "never_later" s_never_later) rfl
  exact ⟨_, fd, F, He.glo_ok X G (c.fact 21 (f := .glo "never_later") rfl), FunD.bindsN (ps := ["project", "other"]) F fun _ _ _ _ _ _ us hl => match us, hl with | [_, _], _ => rfl⟩
theorem raw_find_little (X : K.In h) (G : h.Ns mainGlobals mg) (c : He.SaysD fas fns K) : Raw K mg "find_little" s_find_little ["project", "task", "g"] := by
  obtain ⟨fd, F⟩ := c.def_ 22 (d := dd "find_little" s_find_little) rfl
  exact ⟨_, fd, F, He.glo_ok X G (c.fact 22 (f := .glo "find_little") rfl), FunD.bindsN (ps := ["project", "task", "g"]) F fun _ _ _ _ _ _ us hl => match us, hl with | [_, _, _], _ => rfl⟩
theorem raw_find_much (X : K.In h) (G : h.Ns mainGlobals mg) (c : He.SaysD fas fns K) : Raw K mg "find_much" s_find_much ["project", "task", "g"] := by
  obtain ⟨fd, F⟩ := c.def_ 23 (d := dd "find_much" s_find_much) rfl
  exact ⟨_, fd, F, He.glo_ok X G (c.fact 23 (f := .glo "find_much") rfl), FunD.bindsN (ps := ["project", "task", "g"]) F fun _ _ _ _ _ _ us hl => match us, hl with | [_, _, _], _ => rfl⟩
theorem raw_without (X : K.In h) (G : h.Ns mainGlobals mg) (c : He.SaysD fas fns K) : Raw K mg "without" s_without ["project", "arrow"] := by
  obtain ⟨fd, F⟩ := c.def_ 24 (d := dd "without" s_without) rfl
  exact ⟨_, fd, F, He.glo_ok X G (c.fact 24 (f := .glo "without") rfl), FunD.bindsN (ps := ["project", "arrow"]) F fun _ _ _ _ _ _ us hl => match us, hl with | [_, _], _ => rfl⟩
theorem raw_find_change (X : K.In h) (G : h.Ns mainGlobals mg) (c : He.SaysD fas fns K) : Raw K mg "find_change" s_find_change ["project", "arrow"] := by
  obtain ⟨fd, F⟩ := c.def_ 25 (d := dd "find_change" s_find_change) rfl
  exact ⟨_, fd, F, He.glo_ok X G (c.fact 25 (f := .glo "find_change") rfl), FunD.bindsN (ps := ["project", "arrow"]) F fun _ _ _ _ _ _ us hl => match us, hl with | [_, _], _ => rfl⟩
theorem raw_needless_arrows (X : K.In h) (G : h.Ns mainGlobals mg) (c : He.SaysD fas fns K) : Raw K mg "needless_arrows" s_needless_arrows ["project"] := by
  obtain ⟨fd, F⟩ := c.def_ 26 (d := dd "needless_arrows" s_needless_arrows) rfl
  exact ⟨_, fd, F, He.glo_ok X G (c.fact 26 (f := .glo "needless_arrows") rfl), FunD.bindsN (ps := ["project"]) F fun _ _ _ _ _ _ us hl => match us, hl with | [_], _ => rfl⟩
theorem raw_distance_range (X : K.In h) (G : h.Ns mainGlobals mg) (c : He.SaysD fas fns K) : Raw K mg "distance_range" s_distance_range ["project", "i", "j"] := by
  obtain ⟨fd, F⟩ := c.def_ 27 (d := dd "distance_range" s_distance_range) rfl
  exact ⟨_, fd, F, He.glo_ok X G (c.fact 27 (f := .glo "distance_range") rfl), FunD.bindsN (ps := ["project", "i", "j"]) F fun _ _ _ _ _ _ us hl => match us, hl with | [_, _, _], _ => rfl⟩
theorem raw_find_after (X : K.In h) (G : h.Ns mainGlobals mg) (c : He.SaysD fas fns K) : Raw K mg "find_after" s_find_after ["project", "i", "j"] := by
  obtain ⟨fd, F⟩ := c.def_ 28 (d := dd "find_after" s_find_after) rfl
  exact ⟨_, fd, F, He.glo_ok X G (c.fact 28 (f := .glo "find_after") rfl), FunD.bindsN (ps := ["project", "i", "j"]) F fun _ _ _ _ _ _ us hl => match us, hl with | [_, _, _], _ => rfl⟩
theorem raw_never_after (X : K.In h) (G : h.Ns mainGlobals mg) (c : He.SaysD fas fns K) : Raw K mg "never_after" s_never_after ["project", "i", "j"] := by
  obtain ⟨fd, F⟩ := c.def_ 29 (d := dd "never_after" s_never_after) rfl
  exact ⟨_, fd, F, He.glo_ok X G (c.fact 29 (f := .glo "never_after") rfl), FunD.bindsN (ps := ["project", "i", "j"]) F fun _ _ _ _ _ _ us hl => match us, hl with | [_, _, _], _ => rfl⟩
theorem raw_firsts (X : K.In h) (G : h.Ns mainGlobals mg) (c : He.SaysD fas fns K) : Raw K mg "firsts" s_firsts ["project"] := by
  obtain ⟨fd, F⟩ := c.def_ 30 (d := dd "firsts" s_firsts) rfl
  exact ⟨_, fd, F, He.glo_ok X G (c.fact 30 (f := .glo "firsts") rfl), FunD.bindsN (ps := ["project"]) F fun _ _ _ _ _ _ us hl => match us, hl with | [_], _ => rfl⟩
theorem raw_word_for (X : K.In h) (G : h.Ns mainGlobals mg) (c : He.SaysD fas fns K) : Raw K mg "word_for" s_word_for ["yes", "no"] := by
  obtain ⟨fd, F⟩ := c.def_ 31 (d := dd "word_for" s_word_for) rfl
  exact ⟨_, fd, F, He.glo_ok X G (c.fact 31 (f := .glo "word_for") rfl), FunD.bindsN (ps := ["yes", "no"]) F fun _ _ _ _ _ _ us hl => match us, hl with | [_, _], _ => rfl⟩
theorem raw_status_of (X : K.In h) (G : h.Ns mainGlobals mg) (c : He.SaysD fas fns K) : Raw K mg "status_of" s_status_of ["project", "task"] := by
  obtain ⟨fd, F⟩ := c.def_ 32 (d := dd "status_of" s_status_of) rfl
  exact ⟨_, fd, F, He.glo_ok X G (c.fact 32 (f := .glo "status_of") rfl), FunD.bindsN (ps := ["project", "task"]) F fun _ _ _ _ _ _ us hl => match us, hl with | [_, _], _ => rfl⟩
theorem raw_status (X : K.In h) (G : h.Ns mainGlobals mg) (c : He.SaysD fas fns K) : Raw K mg "status" s_status ["project"] := by
  obtain ⟨fd, F⟩ := c.def_ 33 (d := dd "status" s_status) rfl
  exact ⟨_, fd, F, He.glo_ok X G (c.fact 33 (f := .glo "status") rfl), FunD.bindsN (ps := ["project"]) F fun _ _ _ _ _ _ us hl => match us, hl with | [_], _ => rfl⟩
theorem raw_find_pivotal (X : K.In h) (G : h.Ns mainGlobals mg) (c : He.SaysD fas fns K) : Raw K mg "find_pivotal" s_find_pivotal ["project", "task"] := by
  obtain ⟨fd, F⟩ := c.def_ 34 (d := dd "find_pivotal" s_find_pivotal) rfl
  exact ⟨_, fd, F, He.glo_ok X G (c.fact 34 (f := .glo "find_pivotal") rfl), FunD.bindsN (ps := ["project", "task"]) F fun _ _ _ _ _ _ us hl => match us, hl with | [_, _], _ => rfl⟩
theorem raw_find_not_pivotal (X : K.In h) (G : h.Ns mainGlobals mg) (c : He.SaysD fas fns K) : Raw K mg "find_not_pivotal" s_find_not_pivotal ["project", "task"] := by
  obtain ⟨fd, F⟩ := c.def_ 35 (d := dd "find_not_pivotal" s_find_not_pivotal) rfl
  exact ⟨_, fd, F, He.glo_ok X G (c.fact 35 (f := .glo "find_not_pivotal") rfl), FunD.bindsN (ps := ["project", "task"]) F fun _ _ _ _ _ _ us hl => match us, hl with | [_, _], _ => rfl⟩
theorem raw_pivotal_status (X : K.In h) (G : h.Ns mainGlobals mg) (c : He.SaysD fas fns K) : Raw K mg "pivotal_status" s_pivotal_status ["project"] := by
  obtain ⟨fd, F⟩ := c.def_ 36 (d := dd "pivotal_status" s_pivotal_status) rfl
  exact ⟨_, fd, F, He.glo_ok X G (c.fact 36 (f := .glo "pivotal_status") rfl), FunD.bindsN (ps := ["project"]) F fun _ _ _ _ _ _ us hl => match us, hl with | [_], _ => rfl⟩
theorem raw__law_open (X : K.In h) (G : h.Ns mainGlobals mg) (c : He.SaysD fas fns K) : Raw K mg "_law_open" s__law_open ["_law_script"] := by
  obtain ⟨fd, F⟩ := c.def_ 37 (d := dd "_law_open" s__law_open) rfl
  exact ⟨_, fd, F, He.glo_ok X G (c.fact 37 (f := .glo "_law_open") rfl), FunD.bindsN (ps := ["_law_script"]) F fun _ _ _ _ _ _ us hl => match us, hl with | [_], _ => rfl⟩
theorem raw__law_spread (X : K.In h) (G : h.Ns mainGlobals mg) (c : He.SaysD fas fns K) : Raw K mg "_law_spread" s__law_spread ["_law_cell", "_law_at"] := by
  obtain ⟨fd, F⟩ := c.def_ 38 (d := dd "_law_spread" s__law_spread) rfl
  exact ⟨_, fd, F, He.glo_ok X G (c.fact 38 (f := .glo "_law_spread") rfl), FunD.bindsN (ps := ["_law_cell", "_law_at"]) F fun _ _ _ _ _ _ us hl => match us, hl with | [_, _], _ => rfl⟩
theorem raw__law_take (X : K.In h) (G : h.Ns mainGlobals mg) (c : He.SaysD fas fns K) : Raw K mg "_law_take" s__law_take ["_law_pen", "_law_amount"] := by
  obtain ⟨fd, F⟩ := c.def_ 39 (d := dd "_law_take" s__law_take) rfl
  exact ⟨_, fd, F, He.glo_ok X G (c.fact 39 (f := .glo "_law_take") rfl), FunD.bindsN (ps := ["_law_pen", "_law_amount"]) F fun _ _ _ _ _ _ us hl => match us, hl with | [_, _], _ => rfl⟩
theorem raw__law_one_of (X : K.In h) (G : h.Ns mainGlobals mg) (c : He.SaysD fas fns K) : Raw K mg "_law_one_of" s__law_one_of ["_law_pen", "_law_some"] := by
  obtain ⟨fd, F⟩ := c.def_ 40 (d := dd "_law_one_of" s__law_one_of) rfl
  exact ⟨_, fd, F, He.glo_ok X G (c.fact 40 (f := .glo "_law_one_of") rfl), FunD.bindsN (ps := ["_law_pen", "_law_some"]) F fun _ _ _ _ _ _ us hl => match us, hl with | [_, _], _ => rfl⟩
theorem raw__law_draw_bounds (X : K.In h) (G : h.Ns mainGlobals mg) (c : He.SaysD fas fns K) : Raw K mg "_law_draw_bounds" s__law_draw_bounds ["_law_pen"] := by
  obtain ⟨fd, F⟩ := c.def_ 41 (d := dd "_law_draw_bounds" s__law_draw_bounds) rfl
  exact ⟨_, fd, F, He.glo_ok X G (c.fact 41 (f := .glo "_law_draw_bounds") rfl), FunD.bindsN (ps := ["_law_pen"]) F fun _ _ _ _ _ _ us hl => match us, hl with | [_], _ => rfl⟩
theorem raw__law_draw_project (X : K.In h) (G : h.Ns mainGlobals mg) (c : He.SaysD fas fns K) : Raw K mg "_law_draw_project" s__law_draw_project ["_law_pen", "_law_most"] := by
  obtain ⟨fd, F⟩ := c.def_ 42 (d := dd "_law_draw_project" s__law_draw_project) rfl
  exact ⟨_, fd, F, He.glo_ok X G (c.fact 42 (f := .glo "_law_draw_project") rfl), FunD.bindsN (ps := ["_law_pen", "_law_most"]) F fun _ _ _ _ _ _ us hl => match us, hl with | [_, _], _ => rfl⟩
theorem raw__law_draw_small (X : K.In h) (G : h.Ns mainGlobals mg) (c : He.SaysD fas fns K) : Raw K mg "_law_draw_small" s__law_draw_small ["_law_pen", "_law_most", "_law_amount"] := by
  obtain ⟨fd, F⟩ := c.def_ 43 (d := dd "_law_draw_small" s__law_draw_small) rfl
  exact ⟨_, fd, F, He.glo_ok X G (c.fact 43 (f := .glo "_law_draw_small") rfl), FunD.bindsN (ps := ["_law_pen", "_law_most", "_law_amount"]) F fun _ _ _ _ _ _ us hl => match us, hl with | [_, _, _], _ => rfl⟩
theorem raw__law_all_durations (X : K.In h) (G : h.Ns mainGlobals mg) (c : He.SaysD fas fns K) : Raw K mg "_law_all_durations" s__law_all_durations ["_law_project"] := by
  obtain ⟨fd, F⟩ := c.def_ 44 (d := dd "_law_all_durations" s__law_all_durations) rfl
  exact ⟨_, fd, F, He.glo_ok X G (c.fact 44 (f := .glo "_law_all_durations") rfl), FunD.bindsN (ps := ["_law_project"]) F fun _ _ _ _ _ _ us hl => match us, hl with | [_], _ => rfl⟩
theorem raw__law_starts (X : K.In h) (G : h.Ns mainGlobals mg) (c : He.SaysD fas fns K) : Raw K mg "_law_starts" s__law_starts ["_law_project", "_law_durations"] := by
  obtain ⟨fd, F⟩ := c.def_ 45 (d := dd "_law_starts" s__law_starts) rfl
  exact ⟨_, fd, F, He.glo_ok X G (c.fact 45 (f := .glo "_law_starts") rfl), FunD.bindsN (ps := ["_law_project", "_law_durations"]) F fun _ _ _ _ _ _ us hl => match us, hl with | [_, _], _ => rfl⟩
theorem raw__law_rests (X : K.In h) (G : h.Ns mainGlobals mg) (c : He.SaysD fas fns K) : Raw K mg "_law_rests" s__law_rests ["_law_project", "_law_durations"] := by
  obtain ⟨fd, F⟩ := c.def_ 46 (d := dd "_law_rests" s__law_rests) rfl
  exact ⟨_, fd, F, He.glo_ok X G (c.fact 46 (f := .glo "_law_rests") rfl), FunD.bindsN (ps := ["_law_project", "_law_durations"]) F fun _ _ _ _ _ _ us hl => match us, hl with | [_, _], _ => rfl⟩
theorem raw__law_slacks (X : K.In h) (G : h.Ns mainGlobals mg) (c : He.SaysD fas fns K) : Raw K mg "_law_slacks" s__law_slacks ["_law_project", "_law_durations"] := by
  obtain ⟨fd, F⟩ := c.def_ 47 (d := dd "_law_slacks" s__law_slacks) rfl
  exact ⟨_, fd, F, He.glo_ok X G (c.fact 47 (f := .glo "_law_slacks") rfl), FunD.bindsN (ps := ["_law_project", "_law_durations"]) F fun _ _ _ _ _ _ us hl => match us, hl with | [_, _], _ => rfl⟩
theorem raw__law_is_integer (X : K.In h) (G : h.Ns mainGlobals mg) (c : He.SaysD fas fns K) : Raw K mg "_law_is_integer" s__law_is_integer ["_law_value"] := by
  obtain ⟨fd, F⟩ := c.def_ 48 (d := dd "_law_is_integer" s__law_is_integer) rfl
  exact ⟨_, fd, F, He.glo_ok X G (c.fact 48 (f := .glo "_law_is_integer") rfl), FunD.bindsN (ps := ["_law_value"]) F fun _ _ _ _ _ _ us hl => match us, hl with | [_], _ => rfl⟩
theorem raw__law_fits (X : K.In h) (G : h.Ns mainGlobals mg) (c : He.SaysD fas fns K) : Raw K mg "_law_fits" s__law_fits ["_law_project", "_law_value"] := by
  obtain ⟨fd, F⟩ := c.def_ 49 (d := dd "_law_fits" s__law_fits) rfl
  exact ⟨_, fd, F, He.glo_ok X G (c.fact 49 (f := .glo "_law_fits") rfl), FunD.bindsN (ps := ["_law_project", "_law_value"]) F fun _ _ _ _ _ _ us hl => match us, hl with | [_, _], _ => rfl⟩
theorem raw__law_is_whole (X : K.In h) (G : h.Ns mainGlobals mg) (c : He.SaysD fas fns K) : Raw K mg "_law_is_whole" s__law_is_whole ["_law_project", "_law_path"] := by
  obtain ⟨fd, F⟩ := c.def_ 50 (d := dd "_law_is_whole" s__law_is_whole) rfl
  exact ⟨_, fd, F, He.glo_ok X G (c.fact 50 (f := .glo "_law_is_whole") rfl), FunD.bindsN (ps := ["_law_project", "_law_path"]) F fun _ _ _ _ _ _ us hl => match us, hl with | [_, _], _ => rfl⟩
theorem raw__law_paths (X : K.In h) (G : h.Ns mainGlobals mg) (c : He.SaysD fas fns K) : Raw K mg "_law_paths" s__law_paths ["_law_project"] := by
  obtain ⟨fd, F⟩ := c.def_ 51 (d := dd "_law_paths" s__law_paths) rfl
  exact ⟨_, fd, F, He.glo_ok X G (c.fact 51 (f := .glo "_law_paths") rfl), FunD.bindsN (ps := ["_law_project"]) F fun _ _ _ _ _ _ us hl => match us, hl with | [_], _ => rfl⟩
theorem raw__law_ends_of (X : K.In h) (G : h.Ns mainGlobals mg) (c : He.SaysD fas fns K) : Raw K mg "_law_ends_of" s__law_ends_of ["_law_numbers"] := by
  obtain ⟨fd, F⟩ := c.def_ 52 (d := dd "_law_ends_of" s__law_ends_of) rfl
  exact ⟨_, fd, F, He.glo_ok X G (c.fact 52 (f := .glo "_law_ends_of") rfl), FunD.bindsN (ps := ["_law_numbers"]) F fun _ _ _ _ _ _ us hl => match us, hl with | [_], _ => rfl⟩
theorem raw__law_task_right (X : K.In h) (G : h.Ns mainGlobals mg) (c : He.SaysD fas fns K) : Raw K mg "_law_task_right" s__law_task_right ["_law_project", "_law_task", "_law_some", "_law_rows"] := by
  obtain ⟨fd, F⟩ := c.def_ 53 (d := dd "_law_task_right" s__law_task_right) rfl
  exact ⟨_, fd, F, He.glo_ok X G (c.fact 53 (f := .glo "_law_task_right") rfl), FunD.bindsN (ps := ["_law_project", "_law_task", "_law_some", "_law_rows"]) F fun _ _ _ _ _ _ us hl => match us, hl with | [_, _, _, _], _ => rfl⟩
theorem raw__law_is_later (X : K.In h) (G : h.Ns mainGlobals mg) (c : He.SaysD fas fns K) : Raw K mg "_law_is_later" s__law_is_later ["_law_project", "_law_durations", "_law_i", "_law_j"] := by
  obtain ⟨fd, F⟩ := c.def_ 54 (d := dd "_law_is_later" s__law_is_later) rfl
  exact ⟨_, fd, F, He.glo_ok X G (c.fact 54 (f := .glo "_law_is_later") rfl), FunD.bindsN (ps := ["_law_project", "_law_durations", "_law_i", "_law_j"]) F fun _ _ _ _ _ _ us hl => match us, hl with | [_, _, _, _], _ => rfl⟩
theorem raw__law_pivots (X : K.In h) (G : h.Ns mainGlobals mg) (c : He.SaysD fas fns K) : Raw K mg "_law_pivots" s__law_pivots ["_law_paths_here", "_law_some", "_law_task"] := by
  obtain ⟨fd, F⟩ := c.def_ 55 (d := dd "_law_pivots" s__law_pivots) rfl
  exact ⟨_, fd, F, He.glo_ok X G (c.fact 55 (f := .glo "_law_pivots") rfl), FunD.bindsN (ps := ["_law_paths_here", "_law_some", "_law_task"]) F fun _ _ _ _ _ _ us hl => match us, hl with | [_, _, _], _ => rfl⟩
theorem raw__law_pairs_right (X : K.In h) (G : h.Ns mainGlobals mg) (c : He.SaysD fas fns K) : Raw K mg "_law_pairs_right" s__law_pairs_right ["_law_project", "_law_rows"] := by
  obtain ⟨fd, F⟩ := c.def_ 56 (d := dd "_law_pairs_right" s__law_pairs_right) rfl
  exact ⟨_, fd, F, He.glo_ok X G (c.fact 56 (f := .glo "_law_pairs_right") rfl), FunD.bindsN (ps := ["_law_project", "_law_rows"]) F fun _ _ _ _ _ _ us hl => match us, hl with | [_, _], _ => rfl⟩
theorem raw__law_other_right (X : K.In h) (G : h.Ns mainGlobals mg) (c : He.SaysD fas fns K) : Raw K mg "_law_other_right" s__law_other_right ["_law_project", "_law_other", "_law_some"] := by
  obtain ⟨fd, F⟩ := c.def_ 57 (d := dd "_law_other_right" s__law_other_right) rfl
  exact ⟨_, fd, F, He.glo_ok X G (c.fact 57 (f := .glo "_law_other_right") rfl), FunD.bindsN (ps := ["_law_project", "_law_other", "_law_some"]) F fun _ _ _ _ _ _ us hl => match us, hl with | [_, _, _], _ => rfl⟩
theorem raw__law_arrows_right (X : K.In h) (G : h.Ns mainGlobals mg) (c : He.SaysD fas fns K) : Raw K mg "_law_arrows_right" s__law_arrows_right ["_law_project", "_law_some"] := by
  obtain ⟨fd, F⟩ := c.def_ 58 (d := dd "_law_arrows_right" s__law_arrows_right) rfl
  exact ⟨_, fd, F, He.glo_ok X G (c.fact 58 (f := .glo "_law_arrows_right") rfl), FunD.bindsN (ps := ["_law_project", "_law_some"]) F fun _ _ _ _ _ _ us hl => match us, hl with | [_, _], _ => rfl⟩
theorem blt (X : K.In h) (G : h.Ns mainGlobals mg) (c : He.SaysD fas fns K) : Bl mg where
  range := He.free_ok X G (c.fact 60 (f := .free "range") rfl)
  set := He.free_ok X G (c.fact 61 (f := .free "set") rfl)
  list := He.free_ok X G (c.fact 62 (f := .free "list") rfl)
  bool := He.free_ok X G (c.fact 63 (f := .free "bool") rfl)
  isinstance := He.free_ok X G (c.fact 64 (f := .free "isinstance") rfl)
  enumerate := He.free_ok X G (c.fact 65 (f := .free "enumerate") rfl)
  max := He.free_ok X G (c.fact 66 (f := .free "max") rfl)
  min := He.free_ok X G (c.fact 67 (f := .free "min") rfl)
  len := He.free_ok X G (c.fact 68 (f := .free "len") rfl)
  int := He.free_ok X G (c.fact 69 (f := .free "int") rfl)
  tuple := He.free_ok X G (c.fact 70 (f := .free "tuple") rfl)
  sum := He.free_ok X G (c.fact 71 (f := .free "sum") rfl)
  sorted := He.free_ok X G (c.fact 72 (f := .free "sorted") rfl)
  zip := He.free_ok X G (c.fact 73 (f := .free "zip") rfl)
theorem cst (X : K.In h) (G : h.Ns mainGlobals mg) (c : He.SaysD fas fns K) : Cs mg where
  a := He.str_ok X G (c.fact 74 (f := .str "ALWAYS" "always") rfl)
  s := He.str_ok X G (c.fact 75 (f := .str "SOMETIMES" "sometimes") rfl)
  n := He.str_ok X G (c.fact 76 (f := .str "NEVER" "never") rfl)
theorem facts (X : K.In h) (G : h.Ns mainGlobals mg) (hfa : mg ("law" : Str) = some (.ref f)) (c : He.SaysD fas fns K) :
    ∃ fd : FuncData, (∀ (s : Shared) (v : Value), BindsTo s fd ⟨[v], []⟩ [("_law_script", v)]) ∧ ∀ base : Heap, K.In base → base.Ns mainGlobals mg → FnOk P w K mg base CX0 14 f fd ["_law_script"] (spLaw K) := by
  obtain ⟨fd, F⟩ := c.def_ 59 (d := dd "law" s_law) rfl
  have e := hfa.symm.trans (He.glo_ok X G (c.fact 59 (f := .glo "law") rfl))
  cases e
  have b := FunD.bindsA (ps := ["_law_script"]) F fun _ _ _ _ _ _ us hl => match us, hl with | [_], _ => rfl
  refine ⟨fd, fun s v => b s [v] rfl, fun base _ _ => ?_⟩
  have B := blt X G c
  have C := cst X G c
  have Dbefore := ok_before (P := P) (w := w) (base := base) (raw_before X G c) B 
  have Dbehind := ok_behind (P := P) (w := w) (base := base) (raw_behind X G c) B 
  have Dtails := ok_tails (P := P) (w := w) (base := base) (raw_tails X G c) B Dbehind 6
  have Dwhole_paths := ok_whole_paths (P := P) (w := w) (base := base) (raw_whole_paths X G c) B (Dbefore := Dbefore) (Dtails := Dtails)
  have Dlength := ok_length (P := P) (w := w) (base := base) (raw_length X G c) B 
  have Dlongest := ok_longest (P := P) (w := w) (base := base) (raw_longest X G c) B (Dlength := Dlength)
  have Draised := ok_raised (P := P) (w := w) (base := base) (raw_raised X G c) B 
  have Dgreatest := ok_greatest (P := P) (w := w) (base := base) (raw_greatest X G c) B (Dlength := Dlength) (Dlongest := Dlongest) (Draised := Draised)
  have Dfind_later := ok_find_later (P := P) (w := w) (base := base) (raw_find_later X G c) B (Dwhole_paths := Dwhole_paths) (Dgreatest := Dgreatest)
  have Ddifference_of := ok_difference_of (P := P) (w := w) (base := base) (raw_difference_of X G c) B (Dgreatest := Dgreatest)
  have Ddifference_range := ok_difference_range (P := P) (w := w) (base := base) (raw_difference_range X G c) B (Dwhole_paths := Dwhole_paths) (Ddifference_of := Ddifference_of)
  have D_law_ends_of := ok__law_ends_of (P := P) (w := w) (base := base) (raw__law_ends_of X G c) B 
  have Dnever_later := ok_never_later (P := P) (w := w) (base := base) (raw_never_later X G c) B (Dfind_later := Dfind_later)
  have D_law_starts := ok__law_starts (P := P) (w := w) (base := base) (raw__law_starts X G c) B 
  have D_law_other_right := ok__law_other_right (P := P) (w := w) (base := base) (raw__law_other_right X G c) B (Dfind_later := Dfind_later) (Ddifference_range := Ddifference_range) (D_law_ends_of := D_law_ends_of) (Dnever_later := Dnever_later) (D_law_starts := D_law_starts)
  have Dheads := ok_heads (P := P) (w := w) (base := base) (raw_heads X G c) B Dbefore 6
  have Dwithout := ok_without (P := P) (w := w) (base := base) (raw_without X G c) B 
  have Dfind_change := ok_find_change (P := P) (w := w) (base := base) (raw_find_change X G c) B (Dheads := Dheads) (Dwithout := Dwithout) (Dgreatest := Dgreatest)
  have Dneedless_arrows := ok_needless_arrows (P := P) (w := w) (base := base) (raw_needless_arrows X G c) B (Dfind_change := Dfind_change)
  have D_law_arrows_right := ok__law_arrows_right (P := P) (w := w) (base := base) (raw__law_arrows_right X G c) B (Dneedless_arrows := Dneedless_arrows) (D_law_starts := D_law_starts)
  have D_law_spread := ok__law_spread (P := P) (w := w) (base := base) (raw__law_spread X G c) B 
  have D_law_take := ok__law_take (P := P) (w := w) (base := base) (raw__law_take X G c) B (D_law_spread := D_law_spread)
  have Dfind_after := ok_find_after (P := P) (w := w) (base := base) (raw_find_after X G c) B (Dheads := Dheads) (Dgreatest := Dgreatest)
  have Dnever_after := ok_never_after (P := P) (w := w) (base := base) (raw_never_after X G c) B (Dfind_after := Dfind_after)
  have Dfirsts := ok_firsts (P := P) (w := w) (base := base) (raw_firsts X G c) B (Dnever_after := Dnever_after)
  have D_law_is_later := ok__law_is_later (P := P) (w := w) (base := base) (raw__law_is_later X G c) B (D_law_starts := D_law_starts)
  have D_law_is_integer := ok__law_is_integer (P := P) (w := w) (base := base) (raw__law_is_integer X G c) B 
  have D_law_fits := ok__law_fits (P := P) (w := w) (base := base) (raw__law_fits X G c) B (D_law_is_integer := D_law_is_integer)
  have Ddistance_range := ok_distance_range (P := P) (w := w) (base := base) (raw_distance_range X G c) B (Dheads := Dheads) (Ddifference_of := Ddifference_of)
  have D_law_pairs_right := ok__law_pairs_right (P := P) (w := w) (base := base) (raw__law_pairs_right X G c) B (Dfirsts := Dfirsts) (D_law_is_later := D_law_is_later) (D_law_fits := D_law_fits) (Dfind_after := Dfind_after) (Ddistance_range := Ddistance_range) (D_law_ends_of := D_law_ends_of)
  have Dword_for := ok_word_for (P := P) (w := w) (base := base) (raw_word_for X G c) B C
  have Daround := ok_around (P := P) (w := w) (base := base) (raw_around X G c) B (Dwhole_paths := Dwhole_paths)
  have Dlows := ok_lows (P := P) (w := w) (base := base) (raw_lows X G c) B 
  have Dthrough := ok_through (P := P) (w := w) (base := base) (raw_through X G c) B (Dwhole_paths := Dwhole_paths)
  have Dfind_pivotal := ok_find_pivotal (P := P) (w := w) (base := base) (raw_find_pivotal X G c) B (Daround := Daround) (Dlows := Dlows) (Dthrough := Dthrough) (Dgreatest := Dgreatest)
  have Dfind_not_pivotal := ok_find_not_pivotal (P := P) (w := w) (base := base) (raw_find_not_pivotal X G c) B (Daround := Daround) (Dthrough := Dthrough) (Dgreatest := Dgreatest)
  have Dpivotal_status := ok_pivotal_status (P := P) (w := w) (base := base) (raw_pivotal_status X G c) B (Dword_for := Dword_for) (Dfind_pivotal := Dfind_pivotal) (Dfind_not_pivotal := Dfind_not_pivotal)
  have Dfind_little := ok_find_little (P := P) (w := w) (base := base) (raw_find_little X G c) B (Dwhole_paths := Dwhole_paths) (Dthrough := Dthrough) (Dgreatest := Dgreatest)
  have Dfind_much := ok_find_much (P := P) (w := w) (base := base) (raw_find_much X G c) B (Dwhole_paths := Dwhole_paths) (Dthrough := Dthrough) (Dgreatest := Dgreatest)
  have Dstatus_of := ok_status_of (P := P) (w := w) (base := base) (raw_status_of X G c) B (Dword_for := Dword_for) (Dfind_little := Dfind_little) (Dfind_much := Dfind_much)
  have Dstatus := ok_status (P := P) (w := w) (base := base) (raw_status X G c) B (Dstatus_of := Dstatus_of)
  have D_law_pivots := ok__law_pivots (P := P) (w := w) (base := base) (raw__law_pivots X G c) B 
  have D_law_is_whole := ok__law_is_whole (P := P) (w := w) (base := base) (raw__law_is_whole X G c) B 
  have D_law_paths := ok__law_paths (P := P) (w := w) (base := base) (raw__law_paths X G c) B (D_law_is_whole := D_law_is_whole)
  have D_law_rests := ok__law_rests (P := P) (w := w) (base := base) (raw__law_rests X G c) B 
  have D_law_slacks := ok__law_slacks (P := P) (w := w) (base := base) (raw__law_slacks X G c) B (D_law_starts := D_law_starts) (D_law_rests := D_law_rests)
  have Dwalk := ok_walk (P := P) (w := w) (base := base) (raw_walk X G c) B 
  have Dfind_slack := ok_find_slack (P := P) (w := w) (base := base) (raw_find_slack X G c) B (Dwhole_paths := Dwhole_paths) (Dthrough := Dthrough) (Dgreatest := Dgreatest) (Dlongest := Dlongest) (Dwalk := Dwalk)
  have Dlatest_range := ok_latest_range (P := P) (w := w) (base := base) (raw_latest_range X G c) B (Dwhole_paths := Dwhole_paths) (Dtails := Dtails) (Ddifference_of := Ddifference_of)
  have Dslack_range := ok_slack_range (P := P) (w := w) (base := base) (raw_slack_range X G c) B (Dwhole_paths := Dwhole_paths) (Dthrough := Dthrough) (Ddifference_of := Ddifference_of)
  have Dstart_range := ok_start_range (P := P) (w := w) (base := base) (raw_start_range X G c) B (Dheads := Dheads) (Ddifference_of := Ddifference_of)
  have D_law_task_right := ok__law_task_right (P := P) (w := w) (base := base) (raw__law_task_right X G c) B (D_law_slacks := D_law_slacks) (Dfind_much := Dfind_much) (Dfind_little := Dfind_little) (Dfind_slack := Dfind_slack) (D_law_ends_of := D_law_ends_of) (Dlatest_range := Dlatest_range) (Dslack_range := Dslack_range) (Dstart_range := Dstart_range)
  have Dend_range := ok_end_range (P := P) (w := w) (base := base) (raw_end_range X G c) B (Dwhole_paths := Dwhole_paths) (Ddifference_of := Ddifference_of)
  have D_law_all_durations := ok__law_all_durations (P := P) (w := w) (base := base) (raw__law_all_durations X G c) B 
  have D_law_one_of := ok__law_one_of (P := P) (w := w) (base := base) (raw__law_one_of X G c) B (D_law_take := D_law_take)
  have D_law_draw_bounds := ok__law_draw_bounds (P := P) (w := w) (base := base) (raw__law_draw_bounds X G c) B (D_law_take := D_law_take) (D_law_one_of := D_law_one_of)
  have D_law_draw_project := ok__law_draw_project (P := P) (w := w) (base := base) (raw__law_draw_project X G c) B (D_law_take := D_law_take) (D_law_draw_bounds := D_law_draw_bounds) (D_law_one_of := D_law_one_of)
  have D_law_draw_small := ok__law_draw_small (P := P) (w := w) (base := base) (raw__law_draw_small X G c) B (D_law_take := D_law_take) (D_law_draw_project := D_law_draw_project)
  have D_law_open := ok__law_open (P := P) (w := w) (base := base) (raw__law_open X G c) B 
  exact ok_law F B (D_law_other_right := D_law_other_right) (D_law_arrows_right := D_law_arrows_right) (D_law_take := D_law_take) (D_law_pairs_right := D_law_pairs_right) (Dpivotal_status := Dpivotal_status) (Dstatus := Dstatus) (D_law_pivots := D_law_pivots) (D_law_paths := D_law_paths) (D_law_task_right := D_law_task_right) (Dend_range := Dend_range) (D_law_ends_of := D_law_ends_of) (D_law_slacks := D_law_slacks) (D_law_starts := D_law_starts) (D_law_all_durations := D_law_all_durations) (D_law_draw_small := D_law_draw_small) (D_law_open := D_law_open)
end
end AC
open PySem PySem.W PySem.Calls PyProof.Rows
theorem PySem.Challenge.cw_anycritical_k60_whole_all_durations_trie_holds : PySem.Challenge.rw_anycritical_k60_whole_all_durations_trie.Holds := by
  w_on; o_law
  refine HandSHeadRun.head_any (r := OpenLaw.row PySem.Challenge.rw_anycritical_k60_whole_all_durations_trie) (q := view (OpenLaw.row PySem.Challenge.rw_anycritical_k60_whole_all_durations_trie).prog [73]) (H := AC.hk) (ob := AC.ob) (M := 2000) (loose := AC.loose1 ++ AC.loose2) (d := HandSHeadRun.topDef (OpenLaw.row PySem.Challenge.rw_anycritical_k60_whole_all_durations_trie).prog 73) (kwd := []) AC.ob_eq
    (by kernel_rfl) (fun s => by kernel_rfl) AC.run (by kernel_rfl) (by kernel_rfl) (by kernel_rfl) (by rfl) (by first | assumption | decide +kernel) (by decide +kernel) ⟨rfl, rfl, rfl, rfl, rfl, by decide +kernel⟩ ?hw ?hc
  case hw => w_witness2
  case hc =>
    refine L2.walk_ofE (l := PySem.Challenge.rw_anycritical_k60_whole_all_durations_trie) (n := 63) (k := 14) (x := "_law_script") (CX := L2.CX0) rfl (by decide) (by kernel_rfl) ⟨rfl, by decide, by decide⟩ ?F (fun _ _ _ _ z => z)
    intro w mg fa h Y G hmg0
    obtain ⟨K, KX, c⟩ := Y
    have hmg : mg ("law" : PySem.Str) = some (.ref fa) := by
      have e : (HandSHeadRun.topDef (OpenLaw.row PySem.Challenge.rw_anycritical_k60_whole_all_durations_trie).prog 73).name = ("law" : PySem.Str) := by kernel_rfl
      rw [← e]
      exact hmg0
    obtain ⟨fd, hb, hF⟩ := AC.facts (P := (PySem.Challenge.rw_anycritical_k60_whole_all_durations_trie).prog) (w := w) KX G hmg c
    exact ⟨K, fd, AC.spLaw K, KX, hb, fun H a ns hl _ hS => ⟨a, ns, rfl, hS, hl, fun _ => rfl⟩, hF⟩

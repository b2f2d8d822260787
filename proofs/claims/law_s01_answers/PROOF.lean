import PyProof.Rows.All
import Wide.All
import OpenK.AllK
import Wide.FinOn
import Open.SpecLaws
import KE.OsGo
import KE.DataMinMax
import KE.DatumOrd
import KE.SortData
import HandS.ForSpec
import HandS.Comp
import HandS.Iter
import HandS.Dict
import HandS.TupAny
import HandS.CallLocal
import HandS.Zip
import PySem.Challenge.RW_seasonmeshes_s01_answers
set_option Elab.async false
set_option linter.unusedVariables false
set_option maxRecDepth 100000
set_option maxHeartbeats 4000000
section
/-! The plain law of seasonmeshes: catches as lists of shoals, plans, ranks; no program here. -/
namespace Sm
open Uw27
theorem foldl_add (l : List Nat) : ∀ a : Nat, l.foldl (fun a b => a + b) a = a + l.sum := by
  induction l with
  | nil => intro a; simp
  | cons x r ih => intro a; rw [List.foldl_cons, ih, List.sum_cons]; omega
theorem total_eq (l : List Nat) : total l = l.sum := by
  unfold total; rw [foldl_add]; omega

theorem fm_congr {α β : Type} {f g : α → List β} {l : List α} (h : ∀ a ∈ l, f a = g a) : l.flatMap f = l.flatMap g := by
  rw [List.flatMap_def, List.flatMap_def]
  exact congrArg List.flatten (List.map_congr_left h)

/-! ### catches of shoals -/
structure Ca where
  w : Nat
  s : Nat
  l : List Nat
def landedOf (s : Season) (xs : List Shoal) (k : Nat) : Nat := ((xs.filter fun x => x.kind == k && s.large x).map fun x => x.many).sum
def smallOf (s : Season) (xs : List Shoal) : Nat := ((xs.filter fun x => !s.large x).map fun x => x.many).sum
def landedL (s : Season) (xs : List Shoal) : List Nat := (List.range s.kinds.length).map (landedOf s xs)
def worthOf (s : Season) (xs : List Shoal) : Nat := ((List.range s.kinds.length).map fun k => landedOf s xs k * (s.kind k).worth).sum
def caOf (s : Season) (xs : List Shoal) : Ca := ⟨worthOf s xs, smallOf s xs, landedL s xs⟩
def together (a b : Ca) : Ca := ⟨a.w + b.w, a.s + b.s, List.zipWith (fun x y => x + y) a.l b.l⟩
theorem landedOf_app (s : Season) (xs ys : List Shoal) (k : Nat) : landedOf s (xs ++ ys) k = landedOf s xs k + landedOf s ys k := by
  unfold landedOf; rw [List.filter_append, List.map_append, List.sum_append]
theorem smallOf_app (s : Season) (xs ys : List Shoal) : smallOf s (xs ++ ys) = smallOf s xs + smallOf s ys := by
  unfold smallOf; rw [List.filter_append, List.map_append, List.sum_append]
theorem landedL_app (s : Season) (xs ys : List Shoal) : landedL s (xs ++ ys) = List.zipWith (fun x y => x + y) (landedL s xs) (landedL s ys) := by
  unfold landedL
  generalize List.range s.kinds.length = r
  induction r with
  | nil => rfl
  | cons a r ih => rw [List.map_cons, List.map_cons, List.map_cons, List.zipWith_cons_cons, ih, landedOf_app]
theorem worthOf_app (s : Season) (xs ys : List Shoal) : worthOf s (xs ++ ys) = worthOf s xs + worthOf s ys := by
  unfold worthOf
  generalize List.range s.kinds.length = r
  induction r with
  | nil => rfl
  | cons a r ih =>
    rw [List.map_cons, List.map_cons, List.map_cons, List.sum_cons, List.sum_cons, List.sum_cons, ih, landedOf_app, Nat.add_mul]; omega
theorem together_caOf (s : Season) (xs ys : List Shoal) : together (caOf s xs) (caOf s ys) = caOf s (xs ++ ys) := by
  unfold together caOf
  rw [landedL_app, worthOf_app, smallOf_app]
theorem landedL_nil (s : Season) : landedL s [] = s.kinds.map fun _ => 0 := by
  unfold landedL
  apply List.ext_getElem
  · simp
  · intro i h1 h2; simp [landedOf]
theorem worthOf_nil (s : Season) : worthOf s [] = 0 := by
  unfold worthOf
  generalize List.range s.kinds.length = r
  induction r with
  | nil => rfl
  | cons a r ih => rw [List.map_cons, List.sum_cons, ih]; simp [landedOf]
theorem caOf_nil (s : Season) : caOf s [] = ⟨0, 0, s.kinds.map fun _ => 0⟩ := by
  unfold caOf; rw [worthOf_nil, landedL_nil]; rfl
def overC (s : Season) (xs : List Shoal) : Option Nat := (List.range s.kinds.length).find? fun k => decide ((s.kind k).quota < landedOf s xs k)
def rightC (s : Season) (xs : List Shoal) : Bool := decide (smallOf s xs ≤ s.waste) && (overC s xs).isNone

/-! ### what a season keeps -/
structure ShOk (s : Season) (x : Shoal) : Prop where
  kind : x.kind < s.kinds.length
  many : x.many ≤ 1000
structure SOk (s : Season) : Prop where
  nk : s.kinds.length ≤ 3
  nn : s.nets.length ≤ 4
  nd : s.days.length ≤ 5
  ns : ∀ d ∈ s.days, d.length ≤ 6
  sh : ∀ d ∈ s.days, ∀ x ∈ d, ShOk s x
  kw : ∀ k ∈ s.kinds, k.worth ≤ 1000
theorem taken_sub (s : Season) (d n : Nat) : ∀ x ∈ s.taken d n, x ∈ s.days.getD d [] := by
  intro x hx
  unfold Season.taken at hx
  split at hx
  · cases hx
  · exact (List.mem_filter.mp hx).1
theorem getD_day {s : Season} {d : Nat} {x : Shoal} (h : x ∈ s.days.getD d []) : ∃ dd, dd ∈ s.days ∧ s.days[d]? = some dd ∧ x ∈ dd := by
  rw [List.getD_eq_getElem?_getD] at h
  cases e : s.days[d]? with
  | none => rw [e] at h; cases h
  | some dd => rw [e] at h; exact ⟨dd, List.mem_of_getElem? e, rfl, h⟩
theorem SOk.taken {s : Season} (o : SOk s) (d n : Nat) : ∀ x ∈ s.taken d n, ShOk s x := fun x hx => by
  obtain ⟨dd, h1, _, h2⟩ := getD_day (taken_sub s d n x hx)
  exact o.sh dd h1 x h2
theorem SOk.day_len {s : Season} (o : SOk s) (d : Nat) : (s.days.getD d []).length ≤ 6 := by
  rw [List.getD_eq_getElem?_getD]
  cases e : s.days[d]? with
  | none => simp
  | some dd => exact o.ns dd (List.mem_of_getElem? e)
theorem SOk.taken_len {s : Season} (o : SOk s) (d n : Nat) : (s.taken d n).length ≤ 6 := by
  unfold Season.taken
  split
  · simp
  · exact Nat.le_trans (List.length_filter_le _ _) (o.day_len d)

/-! ### the specification's words -/
theorem landed_eq (s : Season) (l : List Nat) (k : Nat) : s.landed l k = landedOf s (s.catch_ l) k := by
  unfold Season.landed landedOf; rw [total_eq]
theorem small_eq (s : Season) (l : List Nat) : s.small l = smallOf s (s.catch_ l) := by
  unfold Season.small smallOf; rw [total_eq]
theorem over_eq (s : Season) (l : List Nat) : s.over l = overC s (s.catch_ l) := by
  unfold Season.over overC
  congr 1
  funext k
  rw [landed_eq]
theorem sum_one {f : Nat → Nat} : ∀ {n k v : Nat}, k < n → (∀ j, j ≠ k → f j = 0) → f k = v → ((List.range n).map f).sum = v
  | 0, k, v, h, _, _ => absurd h (Nat.not_lt_zero _)
  | n + 1, k, v, h, h0, h1 => by
    rw [List.range_succ, List.map_append, List.sum_append, List.map_singleton, List.sum_singleton]
    by_cases e : k = n
    · subst e
      have z : ((List.range k).map f).sum = 0 := by
        have : ∀ m, m ≤ k → ((List.range m).map f).sum = 0 := by
          intro m
          induction m with
          | zero => intro _; rfl
          | succ m ih =>
            intro hm
            rw [List.range_succ, List.map_append, List.sum_append, List.map_singleton, List.sum_singleton, ih (by omega), h0 m (by omega)]
        exact this k (Nat.le_refl _)
      rw [z, h1]; omega
    · rw [sum_one (k := k) (v := v) (by omega) h0 h1, h0 n (by omega)]; omega
theorem worth_one (s : Season) (x : Shoal) (h : x.kind < s.kinds.length) : worthOf s [x] = if s.large x = true then x.many * (s.kind x.kind).worth else 0 := by
  unfold worthOf
  refine sum_one (k := x.kind) h (fun j hj => ?_) ?_
  · have : (x.kind == j) = false := by simpa using fun e => hj e.symm
    simp [landedOf, this]
  · unfold landedOf
    by_cases hl : s.large x = true
    · simp [hl]
    · simp [hl]
theorem worth_all (s : Season) : ∀ xs : List Shoal, (∀ x ∈ xs, x.kind < s.kinds.length) → ((xs.filter s.large).map fun x => x.many * (s.kind x.kind).worth).sum = worthOf s xs
  | [], _ => (worthOf_nil s).symm
  | x :: r, h => by
    have ih := worth_all s r fun y hy => h y (List.mem_cons_of_mem _ hy)
    have e : worthOf s (x :: r) = worthOf s [x] + worthOf s r := worthOf_app s [x] r
    rw [e, worth_one s x (h x List.mem_cons_self), ← ih, List.filter_cons]
    by_cases hl : s.large x = true
    · rw [if_pos hl, if_pos hl, List.map_cons, List.sum_cons]
    · rw [if_neg hl, if_neg hl]; omega
theorem catch_mem {s : Season} {l : List Nat} {x : Shoal} (h : x ∈ s.catch_ l) : ∃ d n, x ∈ s.taken d n := by
  unfold Season.catch_ at h
  obtain ⟨d, _, hx⟩ := List.mem_flatMap.mp h
  exact ⟨d, _, hx⟩
theorem worth_eq {s : Season} (o : SOk s) (l : List Nat) : s.worth l = worthOf s (s.catch_ l) := by
  unfold Season.worth
  rw [total_eq]
  refine worth_all s _ fun x hx => ?_
  obtain ⟨d, n, h⟩ := catch_mem hx
  exact (o.taken d n x h).kind
theorem right_eq (s : Season) (l : List Nat) : s.right l = (s.told l && rightC s (s.catch_ l)) := by
  unfold Season.right rightC; rw [small_eq, over_eq]
theorem getD_left {l : List Nat} {n i : Nat} (h : i < l.length) : (l ++ [n]).getD i 0 = l.getD i 0 := by
  simp [List.getD_eq_getElem?_getD, List.getElem?_append_left h]
theorem catch_snoc (s : Season) (l : List Nat) (n : Nat) : s.catch_ (l ++ [n]) = s.catch_ l ++ s.taken l.length n := by
  unfold Season.catch_
  rw [List.length_append, List.length_singleton, List.range_succ, List.flatMap_append]
  congr 1
  · rw [List.flatMap_def, List.flatMap_def]
    refine congrArg List.flatten (List.map_congr_left fun i hi => ?_)
    rw [getD_left (List.mem_range.mp hi)]
  · simp
theorem catch_nil (s : Season) : s.catch_ [] = [] := rfl

/-! ### right plans, a day behind another -/
def Pr (s : Season) (l : List Nat) : Bool := rightC s (s.catch_ l)
def longer (s : Season) (ps : List (List Nat)) : List (List Nat) := ps.flatMap fun l => ((List.range (s.nets.length + 1)).filter fun n => Pr s (l ++ [n])).map fun n => l ++ [n]
def plansTo (s : Season) : Nat → List (List Nat)
  | 0 => [[]]
  | d + 1 => longer s (plansTo s d)
theorem rows_snoc (k : Nat) : ∀ n, rows k (n + 1) = (rows k n).flatMap fun l => (List.range (k + 1)).map fun a => l ++ [a]
  | 0 => by
    show ((List.range (k + 1)).flatMap fun a => ([[]] : List (List Nat)).map fun l => a :: l) = ([[]] : List (List Nat)).flatMap fun l => (List.range (k + 1)).map fun a => l ++ [a]
    simp [List.flatMap_def]
    induction List.range (k + 1) with
    | nil => rfl
    | cons a r ih => simp [ih]
  | n + 1 => by
    have ih := rows_snoc k n
    show ((List.range (k + 1)).flatMap fun a => (rows k (n + 1)).map fun l => a :: l) = (rows k (n + 1)).flatMap fun l => (List.range (k + 1)).map fun a => l ++ [a]
    have e : rows k (n + 1) = (List.range (k + 1)).flatMap fun a => (rows k n).map fun l => a :: l := rfl
    rw [e]
    rw [List.flatMap_assoc]
    rw [← e, ih]
    refine fm_congr fun a _ => ?_
    rw [List.map_flatMap, List.flatMap_map]
    refine fm_congr fun l _ => ?_
    rw [List.map_map]
    rfl
theorem overC_none {s : Season} {xs ys : List Shoal} (h : (overC s (xs ++ ys)).isNone = true) : (overC s xs).isNone = true := by
  rw [Option.isNone_iff_eq_none] at h ⊢
  unfold overC at h ⊢
  rw [List.find?_eq_none] at h ⊢
  intro k hk hq
  refine h k hk ?_
  rw [decide_eq_true_eq] at hq ⊢
  rw [landedOf_app]; omega
theorem rightC_pre {s : Season} {xs ys : List Shoal} (h : rightC s (xs ++ ys) = true) : rightC s xs = true := by
  unfold rightC at h ⊢
  rw [Bool.and_eq_true, decide_eq_true_eq] at h ⊢
  obtain ⟨h1, h2⟩ := h
  rw [smallOf_app] at h1
  exact ⟨by omega, overC_none h2⟩
theorem Pr_pre {s : Season} {l : List Nat} {n : Nat} (h : Pr s (l ++ [n]) = true) : Pr s l = true := by
  unfold Pr at h ⊢
  rw [catch_snoc] at h
  exact rightC_pre h
theorem filter_flat {α β : Type} (P : α → Bool) (Q : β → Bool) (f : α → List β) (h : ∀ a b, b ∈ f a → Q b = true → P a = true) : ∀ l : List α, ((l.filter P).flatMap fun a => (f a).filter Q) = (l.flatMap f).filter Q
  | [] => rfl
  | a :: r => by
    have ih := filter_flat P Q f h r
    rw [List.flatMap_cons, List.filter_append, ← ih, List.filter_cons]
    by_cases hp : P a = true
    · rw [if_pos hp, List.flatMap_cons]
    · rw [if_neg hp]
      have z : (f a).filter Q = [] := by
        rw [List.filter_eq_nil_iff]
        intro b hb hq
        exact hp (h a b hb hq)
      rw [z, List.nil_append]
theorem Pr_nil (s : Season) : Pr s [] = true := by
  unfold Pr rightC overC
  rw [catch_nil]
  rw [Bool.and_eq_true, decide_eq_true_eq, Option.isNone_iff_eq_none, List.find?_eq_none]
  refine ⟨?_, fun k _ h => ?_⟩
  · show smallOf s [] ≤ _
    simp [smallOf]
  · rw [decide_eq_true_eq] at h
    simp [landedOf] at h
theorem plansTo_eq (s : Season) : ∀ d, plansTo s d = (rows s.nets.length d).filter (Pr s)
  | 0 => by
    show [[]] = ([[]] : List (List Nat)).filter (Pr s)
    rw [List.filter_cons, if_pos (Pr_nil s)]
    rfl
  | d + 1 => by
    show longer s (plansTo s d) = _
    rw [plansTo_eq s d, rows_snoc]
    unfold longer
    rw [← filter_flat (Pr s) (Pr s) _ ?_]
    · rw [List.flatMap_def, List.flatMap_def]
      refine congrArg List.flatten (List.map_congr_left fun l _ => ?_)
      rw [List.filter_map]
      rfl
    · intro l b hb hq
      obtain ⟨a, _, rfl⟩ := List.mem_map.mp hb
      exact Pr_pre hq
theorem rows_len {k : Nat} : ∀ {n : Nat} {l : List Nat}, l ∈ rows k n → l.length = n ∧ ∀ a ∈ l, a ≤ k
  | 0, l, h => by
    have e : l = [] := by simpa [rows] using h
    subst e
    exact ⟨rfl, fun a ha => by cases ha⟩
  | n + 1, l, h => by
    unfold rows at h
    obtain ⟨a, ha, h⟩ := List.mem_flatMap.mp h
    obtain ⟨r, hr, rfl⟩ := List.mem_map.mp h
    obtain ⟨h1, h2⟩ := rows_len hr
    have ha := List.mem_range.mp ha
    refine ⟨by rw [List.length_cons, h1], fun b hb => ?_⟩
    rcases List.mem_cons.mp hb with rfl | hb
    · omega
    · exact h2 b hb
theorem rows_count (k : Nat) : ∀ n, (rows k n).length = (k + 1) ^ n
  | 0 => rfl
  | n + 1 => by
    unfold rows
    rw [List.length_flatMap]
    have : ∀ r : List Nat, (r.map fun a => ((rows k n).map fun l => a :: l).length).sum = r.length * (k + 1) ^ n := by
      intro r
      induction r with
      | nil => simp
      | cons a r ih => rw [List.map_cons, List.sum_cons, ih, List.length_map, rows_count k n, List.length_cons, Nat.succ_mul]; omega
    rw [this, List.length_range, Nat.pow_succ, Nat.mul_comm]
theorem plansTo_len {s : Season} {d : Nat} {l : List Nat} (h : l ∈ plansTo s d) : l.length = d ∧ ∀ a ∈ l, a ≤ s.nets.length := by
  rw [plansTo_eq] at h
  exact rows_len (List.mem_filter.mp h).1
theorem plansTo_count (s : Season) (d : Nat) : (plansTo s d).length ≤ (s.nets.length + 1) ^ d := by
  rw [plansTo_eq, ← rows_count]
  exact List.length_filter_le _ _
end Sm
end
section
namespace Sm
open Uw27
/-! ### the best of them -/
def lexN : List Nat → List Nat → Bool
  | [], [] => false
  | [], _ :: _ => true
  | _ :: _, [] => false
  | x :: xs, y :: ys => if x = y then lexN xs ys else decide (x < y)
theorem lexN_asym : ∀ {a b : List Nat}, lexN a b = true → lexN b a = false
  | [], [], h => by cases h
  | [], _ :: _, _ => rfl
  | _ :: _, [], h => by cases h
  | x :: xs, y :: ys, h => by
    unfold lexN at h ⊢
    by_cases e : x = y
    · rw [if_pos e] at h
      rw [if_pos e.symm]
      exact lexN_asym h
    · rw [if_neg e, decide_eq_true_eq] at h
      rw [if_neg (fun q => e q.symm), decide_eq_false_iff_not]
      omega
theorem rows_up (k : Nat) : ∀ n, (rows k n).Pairwise fun a b => lexN a b = true
  | 0 => List.pairwise_singleton _ _
  | n + 1 => by
    unfold rows
    rw [List.pairwise_flatMap]
    refine ⟨fun a _ => ?_, ?_⟩
    · rw [List.pairwise_map]
      refine (rows_up k n).imp fun {x y} h => ?_
      unfold lexN
      rw [if_pos rfl]
      exact h
    · refine List.pairwise_lt_range.imp fun {a b} hab x hx y hy => ?_
      obtain ⟨r, _, rfl⟩ := List.mem_map.mp hx
      obtain ⟨q, _, rfl⟩ := List.mem_map.mp hy
      unfold lexN
      rw [if_neg (Nat.ne_of_lt hab)]
      exact decide_eq_true hab
theorem plans_up (s : Season) (d : Nat) : (plansTo s d).Pairwise fun a b => lexN a b = true := by
  rw [plansTo_eq]
  exact (rows_up _ _).sublist List.filter_sublist
theorem right_plans (s : Season) : (rows s.nets.length s.days.length).filter s.right = plansTo s s.days.length := by
  rw [plansTo_eq]
  refine List.filter_congr fun l hl => ?_
  obtain ⟨h1, h2⟩ := rows_len hl
  rw [right_eq]
  have t : s.told l = true := by
    unfold Season.told
    rw [Bool.and_eq_true, List.all_eq_true]
    exact ⟨by rw [h1]; exact beq_self_eq_true _, fun n hn => decide_eq_true (h2 n hn)⟩
  rw [t, Bool.true_and]
  rfl
def rLt (s : Season) (y a : List Nat) : Bool := if s.worth y = s.worth a then (if changes y = changes a then lexN y a else decide (changes y < changes a)) else decide (s.worth a < s.worth y)
def minStep (s : Season) (a y : List Nat) : List Nat := if rLt s y a = true then y else a
def minR (s : Season) (x : List Nat) (xs : List (List Nat)) : List Nat := xs.foldl (minStep s) x
def alike (s : Season) (b l : List Nat) : Bool := decide (s.worth l = s.worth b) && decide (changes l = changes b)
def F (s : Season) (b : Option Best) (l : List Nat) : Option Best := match b with
  | none => some ⟨s.worth l, changes l, 1, l⟩
  | some x => if x.worth < s.worth l ∨ (s.worth l = x.worth ∧ changes l < x.changes) then some ⟨s.worth l, changes l, 1, l⟩ else if s.worth l = x.worth ∧ changes l = x.changes then some { x with many := x.many + 1 } else some x
theorem best_go (s : Season) : ∀ (post pre : List (List Nat)) (b : List Nat), b ∈ pre → (∀ l ∈ pre, s.worth l < s.worth b ∨ (s.worth l = s.worth b ∧ changes b ≤ changes l)) → (pre ++ post).Pairwise (fun a b => lexN a b = true) →
    post.foldl (F s) (some ⟨s.worth b, changes b, (pre.filter (alike s b)).length, b⟩) = some ⟨s.worth (post.foldl (minStep s) b), changes (post.foldl (minStep s) b), ((pre ++ post).filter (alike s (post.foldl (minStep s) b))).length, post.foldl (minStep s) b⟩
  | [], pre, b, _, _, _ => by rw [List.append_nil]; rfl
  | y :: post, pre, b, hb, hall, hp => by
    have hby : lexN b y = true := (List.pairwise_append.mp hp).2.2 b hb y List.mem_cons_self
    have hyb : lexN y b = false := lexN_asym hby
    have hp' : ((pre ++ [y]) ++ post).Pairwise (fun a b => lexN a b = true) := by
      rw [List.append_assoc]; exact hp
    have hl : pre ++ y :: post = (pre ++ [y]) ++ post := by rw [List.append_assoc]; rfl
    rw [List.foldl_cons, List.foldl_cons, hl]
    by_cases c1 : s.worth b < s.worth y ∨ (s.worth y = s.worth b ∧ changes y < changes b)
    · have e1 : F s (some ⟨s.worth b, changes b, (pre.filter (alike s b)).length, b⟩) y = some ⟨s.worth y, changes y, 1, y⟩ := if_pos c1
      have e2 : minStep s b y = y := by
        unfold minStep rLt
        rcases c1 with c | ⟨c, d⟩
        · rw [if_neg (by omega : ¬ s.worth y = s.worth b), if_pos (decide_eq_true c)]
        · rw [if_pos c, if_neg (by omega : ¬ changes y = changes b), if_pos (decide_eq_true d)]
      have e3 : ((pre ++ [y]).filter (alike s y)).length = 1 := by
        rw [List.filter_append]
        have z : pre.filter (alike s y) = [] := by
          rw [List.filter_eq_nil_iff]
          intro l hl q
          unfold alike at q
          rw [Bool.and_eq_true, decide_eq_true_eq, decide_eq_true_eq] at q
          have := hall l hl
          omega
        rw [z, List.nil_append, List.filter_cons, if_pos (by unfold alike; simp)]
        rfl
      rw [e1, e2]
      have g := best_go s post (pre ++ [y]) y (by simp) (fun l hl => by
        rcases List.mem_append.mp hl with hl | hl
        · have := hall l hl
          omega
        · have : l = y := by simpa using hl
          subst this
          exact .inr ⟨rfl, Nat.le_refl _⟩) hp'
      rw [e3] at g
      exact g
    · have e2 : minStep s b y = b := by
        unfold minStep rLt
        by_cases w : s.worth y = s.worth b
        · rw [if_pos w]
          by_cases d : changes y = changes b
          · rw [if_pos d, hyb]; rfl
          · rw [if_neg d, if_neg (by rw [decide_eq_true_eq]; omega)]
        · rw [if_neg w, if_neg (by rw [decide_eq_true_eq]; omega)]
      rw [e2]
      have hall' : ∀ l ∈ pre ++ [y], s.worth l < s.worth b ∨ (s.worth l = s.worth b ∧ changes b ≤ changes l) := fun l hl => by
        rcases List.mem_append.mp hl with hl | hl
        · exact hall l hl
        · have : l = y := by simpa using hl
          subst this
          omega
      have g := best_go s post (pre ++ [y]) b (List.mem_append_left _ hb) hall' hp'
      rw [← g]
      congr 1
      by_cases c2 : s.worth y = s.worth b ∧ changes y = changes b
      · have e1 : F s (some ⟨s.worth b, changes b, (pre.filter (alike s b)).length, b⟩) y = some ⟨s.worth b, changes b, (pre.filter (alike s b)).length + 1, b⟩ := (if_neg c1).trans (if_pos c2)
        rw [e1, List.filter_append, List.length_append, List.filter_cons, if_pos (by unfold alike; simp [c2.1, c2.2])]
        rfl
      · have e1 : F s (some ⟨s.worth b, changes b, (pre.filter (alike s b)).length, b⟩) y = some ⟨s.worth b, changes b, (pre.filter (alike s b)).length, b⟩ := (if_neg c1).trans (if_neg c2)
        rw [e1, List.filter_append, List.length_append, List.filter_cons, if_neg (by
          unfold alike
          rw [Bool.and_eq_true, decide_eq_true_eq, decide_eq_true_eq]
          exact c2)]
        rfl
theorem best_eq {s : Season} {x : List Nat} {xs : List (List Nat)} (h : plansTo s s.days.length = x :: xs) :
    s.best = some ⟨s.worth (minR s x xs), changes (minR s x xs), ((x :: xs).filter (alike s (minR s x xs))).length, minR s x xs⟩ := by
  have e : s.best = (plansTo s s.days.length).foldl (F s) none := by
    unfold Season.best
    rw [right_plans]
    rfl
  have up := plans_up s s.days.length
  rw [h] at up
  rw [e, h, List.foldl_cons]
  have g := best_go s xs [x] x (by simp) (fun l hl => by
    have : l = x := by simpa using hl
    subst this
    exact .inr ⟨rfl, Nat.le_refl _⟩) up
  have e3 : ([x].filter (alike s x)).length = 1 := by
    rw [List.filter_cons, if_pos (by unfold alike; simp)]
    rfl
  rw [e3] at g
  exact g
theorem taken_stay (s : Season) (d : Nat) : s.taken d s.nets.length = [] := by
  unfold Season.taken
  rw [List.getElem?_eq_none (Nat.le_refl _)]
theorem plans_some (s : Season) : ∀ d, ∃ l, l ∈ plansTo s d ∧ Pr s l = true
  | 0 => ⟨[], List.mem_cons_self, Pr_nil s⟩
  | d + 1 => by
    obtain ⟨l, hl, hp⟩ := plans_some s d
    have e : Pr s (l ++ [s.nets.length]) = true := by
      unfold Pr
      rw [catch_snoc, taken_stay, List.append_nil]
      exact hp
    refine ⟨l ++ [s.nets.length], ?_, e⟩
    unfold plansTo longer
    refine List.mem_flatMap.mpr ⟨l, hl, List.mem_map.mpr ⟨s.nets.length, List.mem_filter.mpr ⟨List.mem_range.mpr (Nat.lt_succ_self _), e⟩, rfl⟩⟩
theorem plans_cons (s : Season) (d : Nat) : ∃ x xs, plansTo s d = x :: xs := by
  obtain ⟨l, hl, _⟩ := plans_some s d
  cases e : plansTo s d with
  | nil => rw [e] at hl; cases hl
  | cons x xs => exact ⟨x, xs, rfl⟩
theorem minR_mem (s : Season) : ∀ (xs : List (List Nat)) (x : List Nat), minR s x xs ∈ x :: xs
  | [], x => by exact List.mem_cons_self
  | y :: xs, x => by
    have h := minR_mem s xs (minStep s x y)
    show minR s (minStep s x y) xs ∈ _
    rcases List.mem_cons.mp h with e | e
    · rw [e]
      unfold minStep
      split
      · exact List.mem_cons_of_mem _ List.mem_cons_self
      · exact List.mem_cons_self
    · exact List.mem_cons_of_mem _ (List.mem_cons_of_mem _ e)

/-! ### day by day -/
def netStep (s : Season) (d : Nat) (xs : List Shoal) (bm : Nat × Int) (n : Nat) : Nat × Int :=
  if rightC s (xs ++ s.taken d n) = true ∧ bm.2 < (worthOf s (s.taken d n) : Int) then (n, (worthOf s (s.taken d n) : Int)) else bm
def netFor (s : Season) (d : Nat) (xs : List Shoal) : Nat := ((List.range s.nets.length).foldl (netStep s d xs) (s.nets.length, -1)).1
def plainTo (s : Season) : Nat → List Nat
  | 0 => []
  | d + 1 => plainTo s d ++ [netFor s d (s.catch_ (plainTo s d))]
theorem plainTo_len (s : Season) : ∀ d, (plainTo s d).length = d
  | 0 => rfl
  | d + 1 => by
    unfold plainTo
    rw [List.length_append, plainTo_len s d]; rfl
theorem netFold_le (s : Season) (d : Nat) (xs : List Shoal) : ∀ (l : List Nat) (bm : Nat × Int), (∀ n ∈ l, n < s.nets.length) → bm.1 ≤ s.nets.length → (l.foldl (netStep s d xs) bm).1 ≤ s.nets.length
  | [], bm, _, h => h
  | n :: l, bm, hl, h => by
    rw [List.foldl_cons]
    refine netFold_le s d xs l _ (fun m hm => hl m (List.mem_cons_of_mem _ hm)) ?_
    unfold netStep
    split
    · exact Nat.le_of_lt (hl n List.mem_cons_self)
    · exact h
theorem netFor_le (s : Season) (d : Nat) (xs : List Shoal) : netFor s d xs ≤ s.nets.length := netFold_le s d xs _ _ (fun _ h => List.mem_range.mp h) (Nat.le_refl _)
theorem plainTo_le (s : Season) : ∀ d, ∀ n ∈ plainTo s d, n ≤ s.nets.length
  | 0, n, h => by cases h
  | d + 1, n, h => by
    unfold plainTo at h
    rcases List.mem_append.mp h with h | h
    · exact plainTo_le s d n h
    · have : n = netFor s d (s.catch_ (plainTo s d)) := by simpa using h
      rw [this]
      exact netFor_le ..
def cut (s : Season) (d : Nat) : Season := { s with days := s.days.take d }
theorem cut_taken (s : Season) {d e n : Nat} (h : d < e) : (cut s e).taken d n = s.taken d n := by
  unfold Season.taken cut
  simp only [List.getD_eq_getElem?_getD, List.getElem?_take, if_pos h]
theorem cut_catch (s : Season) {e : Nat} {l : List Nat} (h : l.length ≤ e) : (cut s e).catch_ l = s.catch_ l := by
  unfold Season.catch_
  refine fm_congr fun d hd => cut_taken s ?_
  have := List.mem_range.mp hd
  omega
theorem cut_rightC (s : Season) (e : Nat) (xs : List Shoal) : rightC (cut s e) xs = rightC s xs := rfl
theorem go_eq {s : Season} {l : List Nat} {n : Nat} (hl : l.length < s.days.length) (ha : ∀ a ∈ l, a ≤ s.nets.length) (hn : n ≤ s.nets.length) :
    (cut s (l.length + 1)).right (l ++ [n]) = rightC s (s.catch_ l ++ s.taken l.length n) := by
  rw [right_eq, cut_catch s (by simp), cut_rightC, catch_snoc]
  have t : (cut s (l.length + 1)).told (l ++ [n]) = true := by
    unfold Season.told
    rw [Bool.and_eq_true, List.all_eq_true]
    refine ⟨?_, fun a h => decide_eq_true ?_⟩
    · show ((l ++ [n]).length == (s.days.take (l.length + 1)).length) = true
      rw [List.length_take, beq_iff_eq, List.length_append]
      show l.length + 1 = _
      omega
    · rcases List.mem_append.mp h with h | h
      · exact ha a h
      · have : a = n := by simpa using h
        rw [this]; exact hn
  rw [t, Bool.true_and]
def netSp (s : Season) (l : List Nat) (b n : Nat) : Nat := if (cut s (l.length + 1)).right (l ++ [n]) = true ∧ (b = s.nets.length ∨ s.worth (l ++ [b]) < s.worth (l ++ [n])) then n else b
theorem net_fold {s : Season} (o : SOk s) {l : List Nat} (hl : l.length < s.days.length) (ha : ∀ a ∈ l, a ≤ s.nets.length) : ∀ (ns : List Nat) (b : Nat) (m : Int), (∀ n ∈ ns, n < s.nets.length) → ((b = s.nets.length ∧ m = -1) ∨ (b < s.nets.length ∧ m = (worthOf s (s.taken l.length b) : Int))) →
    ns.foldl (netSp s l) b = (ns.foldl (netStep s l.length (s.catch_ l)) (b, m)).1
  | [], b, m, _, _ => rfl
  | n :: ns, b, m, hns, hbm => by
    rw [List.foldl_cons, List.foldl_cons]
    have hn : n < s.nets.length := hns n List.mem_cons_self
    have hr := fun n => (fun k => Nat.le_of_lt (hns n (List.mem_cons_of_mem _ k)))
    have key : (b = s.nets.length ∨ s.worth (l ++ [b]) < s.worth (l ++ [n])) ↔ m < (worthOf s (s.taken l.length n) : Int) := by
      rw [worth_eq o, worth_eq o, catch_snoc, catch_snoc, worthOf_app, worthOf_app]
      rcases hbm with ⟨h1, h2⟩ | ⟨h1, h2⟩
      · rw [h2]; constructor
        · intro _; omega
        · intro _; exact .inl h1
      · rw [h2]; constructor
        · rintro (h | h) <;> omega
        · intro h; exact .inr (by omega)
    by_cases c : rightC s (s.catch_ l ++ s.taken l.length n) = true ∧ m < (worthOf s (s.taken l.length n) : Int)
    · have e1 : netSp s l b n = n := if_pos ⟨by rw [go_eq hl ha (Nat.le_of_lt hn)]; exact c.1, key.mpr c.2⟩
      have e2 : netStep s l.length (s.catch_ l) (b, m) n = (n, (worthOf s (s.taken l.length n) : Int)) := if_pos c
      rw [e1, e2]
      exact net_fold o hl ha ns n _ (fun k hk => hns k (List.mem_cons_of_mem _ hk)) (.inr ⟨hn, rfl⟩)
    · have e1 : netSp s l b n = b := if_neg fun q => c ⟨by rw [← go_eq hl ha (Nat.le_of_lt hn)]; exact q.1, key.mp q.2⟩
      have e2 : netStep s l.length (s.catch_ l) (b, m) n = (b, m) := if_neg c
      rw [e1, e2]
      exact net_fold o hl ha ns b m (fun k hk => hns k (List.mem_cons_of_mem _ hk)) hbm
theorem plainFrom_eq {s : Season} (o : SOk s) : ∀ (f d : Nat), d + f = s.days.length → s.plainFrom f (plainTo s d) = plainTo s s.days.length
  | 0, d, h => by
    unfold Season.plainFrom
    rw [show d = s.days.length from h]
  | f + 1, d, h => by
    have hlen := plainTo_len s d
    unfold Season.plainFrom
    rw [if_neg (by omega)]
    have e := net_fold o (l := plainTo s d) (by omega) (plainTo_le s d) (List.range s.nets.length) s.nets.length (-1) (fun n hn => List.mem_range.mp hn) (.inl ⟨rfl, rfl⟩)
    have e' : (List.range s.nets.length).foldl (netSp s (plainTo s d)) s.nets.length = netFor s d (s.catch_ (plainTo s d)) := by
      rw [e, hlen]; rfl
    have g := plainFrom_eq o f (d + 1) (by omega)
    have p : plainTo s (d + 1) = plainTo s d ++ [netFor s d (s.catch_ (plainTo s d))] := rfl
    rw [p, ← e'] at g
    exact g
theorem plain_eq {s : Season} (o : SOk s) : s.plain = plainTo s s.days.length := by
  unfold Season.plain
  exact plainFrom_eq o s.days.length 0 (by omega)
end Sm
end
section
/-! The heap of seasonmeshes: what lies where; short rules. -/
namespace Sm
open PySem PySem.Spec PyProof.Rows L2
open Uw27 (Season Shoal Kind)
def topS (i : Nat) : Stmt := PySem.Challenge.pw_seasonmeshes_s01_answers.main.body.getD i (.Pass ⟨0, 0, 0, 0⟩)
abbrev nV (n : Nat) : V := .int (n : Int)

/-! ### heaps -/
theorem Same.new {H : Hp} {p : Addr} {o : HO} (h : H p = none) : Same H (upd H p o) := fun a u e => by
  rw [upd_ne (ne_of_none e h)]
  exact e
theorem Same.mut {H H' : Hp} {p : Addr} {o : HO} (e : Same H H') (h : H p = none) : Same H (upd H' p o) := fun a u ha => by
  rw [upd_ne (ne_of_none ha h)]
  exact e a u ha
theorem Same.seqT {K : PySem.W.Frag} {H H' : Hp} {a : Addr} {xs : List V} (e : Same H H') (h : SqT K H a xs) : SqT K H' a xs := by
  rcases h with (h | ⟨o, h⟩) | h
  · exact .inl (.inl (e _ _ h))
  · exact .inl (.inr ⟨o, e _ _ h⟩)
  · exact .inr h
def Tu (H H' : Hp) : Prop := ∀ a xs, H a = some (.tup xs) → H' a = some (.tup xs)
theorem Tu.refl (H : Hp) : Tu H H := fun _ _ h => h
theorem Tu.of {H H' : Hp} (e : Same H H') : Tu H H' := fun a xs h => e a _ h
theorem Tu.trans {H H1 H2 : Hp} (a : Tu H H1) (b : Tu H1 H2) : Tu H H2 := fun c o h => b c o (a c o h)
theorem Tu.lst {H : Hp} {D : Addr} {xs : List V} {o : HO} (h : H D = some (.lst xs)) : Tu H (upd H D o) := fun a ys e => by
  rw [upd_ne (ne_of e h (by intro z; cases z))]
  exact e

/-! ### two lists side by side -/
def Al {α β : Type} (R : α → β → Prop) (xs : List α) (ys : List β) : Prop := xs.length = ys.length ∧ ∀ (i : Nat) (x : α) (y : β), xs[i]? = some x → ys[i]? = some y → R x y
theorem Al.nil {α β : Type} {R : α → β → Prop} : Al R [] [] := ⟨rfl, fun i x y h => by simp at h⟩
theorem Al.mono {α β : Type} {R R' : α → β → Prop} {xs : List α} {ys : List β} (h : Al R xs ys) (f : ∀ x y, R x y → R' x y) : Al R' xs ys := ⟨h.1, fun i x y a b => f x y (h.2 i x y a b)⟩
theorem Al.snoc {α β : Type} {R : α → β → Prop} {xs : List α} {ys : List β} {x : α} {y : β} (h : Al R xs ys) (r : R x y) : Al R (xs ++ [x]) (ys ++ [y]) := by
  refine ⟨by rw [List.length_append, List.length_append, h.1]; rfl, fun i a b ha hb => ?_⟩
  by_cases hi : i < xs.length
  · rw [List.getElem?_append_left hi] at ha
    rw [List.getElem?_append_left (by rw [← h.1]; exact hi)] at hb
    exact h.2 i a b ha hb
  · have hx := (List.getElem?_eq_some_iff.mp ha).1
    rw [List.length_append, List.length_singleton] at hx
    have e : i = xs.length := by omega
    subst e
    rw [List.getElem?_append_right (Nat.le_refl _), Nat.sub_self] at ha
    rw [h.1, List.getElem?_append_right (Nat.le_refl _), Nat.sub_self] at hb
    cases ha
    cases hb
    exact r
/-- the right one's item at a place -/
theorem Al.at {α β : Type} {R : α → β → Prop} {xs : List α} {ys : List β} {i : Nat} {y : β} (h : Al R xs ys) (e : ys[i]? = some y) : ∃ x, xs[i]? = some x ∧ R x y := by
  have hi := (List.getElem?_eq_some_iff.mp e).1
  have hx : i < xs.length := by rw [h.1]; exact hi
  exact ⟨xs[i], List.getElem?_eq_getElem hx, h.2 i _ y (List.getElem?_eq_getElem hx) e⟩
theorem Al.atL {α β : Type} {R : α → β → Prop} {xs : List α} {ys : List β} {i : Nat} {x : α} (h : Al R xs ys) (e : xs[i]? = some x) : ∃ y, ys[i]? = some y ∧ R x y := by
  have hi := (List.getElem?_eq_some_iff.mp e).1
  have hy : i < ys.length := by rw [← h.1]; exact hi
  exact ⟨ys[i], List.getElem?_eq_getElem hy, h.2 i x _ e (List.getElem?_eq_getElem hy)⟩
theorem Al.cons {α β : Type} {R : α → β → Prop} {xs : List α} {ys : List β} {x : α} {y : β} (r : R x y) (h : Al R xs ys) : Al R (x :: xs) (y :: ys) := by
  refine ⟨by rw [List.length_cons, List.length_cons, h.1], fun i a b ha hb => ?_⟩
  cases i with
  | zero => cases ha; cases hb; exact r
  | succ i => exact h.2 i a b (by simpa using ha) (by simpa using hb)
theorem Al.uncons {α β : Type} {R : α → β → Prop} {xs : List α} {y : β} {ys : List β} (h : Al R xs (y :: ys)) : ∃ x xs', xs = x :: xs' ∧ R x y ∧ Al R xs' ys := by
  cases xs with
  | nil => have := h.1; simp at this
  | cons x xs' =>
    refine ⟨x, xs', rfl, h.2 0 x y rfl rfl, ?_, fun i a b ha hb => h.2 (i + 1) a b (by simpa using ha) (by simpa using hb)⟩
    have := h.1
    simpa using this

/-! ### a comprehension, whatever its target: opt tells what the turn gives -/
def given (opt : Nat → Option β) (n : Nat) : List β := (List.range n).filterMap opt
theorem given_some {β : Type} {opt : Nat → Option β} {n : Nat} {b : β} (h : opt n = some b) : given opt (n + 1) = given opt n ++ [b] := by
  unfold given
  rw [List.range_succ, List.filterMap_append]
  simp [h]
theorem given_none {β : Type} {opt : Nat → Option β} {n : Nat} (h : opt n = none) : given opt (n + 1) = given opt n := by
  unfold given
  rw [List.range_succ, List.filterMap_append]
  simp [h]
theorem given_len {β : Type} (opt : Nat → Option β) : ∀ n, (given opt n).length ≤ n := fun n => by
  unfold given
  exact Nat.le_trans (List.length_filterMap_le _ _) (by rw [List.length_range]; exact Nat.le_refl _)
/-- the list at D holds what is given so far -/
def Cw {β : Type} (R : V → β → Hp → Prop) (H1 : Hp) (opt : Nat → Option β) (D : Addr) (i : Nat) (H : Hp) : Prop :=
  H1 D = none ∧ Same H1 H ∧ ∃ ys, H D = some (.lst ys) ∧ Al (fun v b => R v b H) ys (given opt i)
def RTu {β : Type} (R : V → β → Hp → Prop) : Prop := ∀ v b H H', Tu H H' → R v b H → R v b H'
/-- one turn, from what it asks of the target, the tests and the element -/
def Turn1 {β : Type} (R : V → β → Hp → Prop) (g : TG) (t : TT) (te : TE) (vs : List Nat) (σ : L2.St) (o : Option β) (x : V) (H : Hp) : Prop :=
  ∀ (Sk : Hp → Prop) (Gv : V → Hp → Prop), (o = none → ∀ H2, Same H H2 → Sk H2) → (∀ b, o = some b → ∀ y H2, Same H H2 → R y b H2 → Gv y H2) →
    g x (wipe σ vs) H fun σ2 H2 => wipe σ2 vs = wipe σ vs ∧ t σ2 H2 fun b H3 => if b = true then te σ2 H3 Gv else Sk H3
section
variable {β : Type} {R : V → β → Hp → Prop} {g : TG} {t : TT} {te : TE} {vs : List Nat} {σ : L2.St} {H1 : Hp} {opt : Nat → Option β} {D : Addr} {Qd : Hp → Prop}
theorem cw_turn (hR : RTu R) {i : Nat} {x : V} {H : Hp} (hi : i < 100000) (p : Cw R H1 opt D i H) {H' : Hp} (e : Same H H') (s : Turn1 R g t te vs σ (opt i) x H') :
    g x (wipe σ vs) H' fun σ2 H2 => wipe σ2 vs = wipe σ vs ∧ t σ2 H2 fun b H3 =>
      if b = true then te σ2 H3 fun y H4 => ∃ acc, H4 D = some (.lst acc) ∧ acc.length < sizeLine ∧ Cw R H1 opt D (i + 1) (upd H4 D (.lst (acc ++ [y]))) else Cw R H1 opt D (i + 1) H3 := by
  obtain ⟨p1, p2, ys, p3, p4⟩ := p
  refine s _ _ (fun ho H2 e2 => ⟨p1, (p2.trans e).trans e2, ys, e2 _ _ (e _ _ p3), ?_⟩) (fun b ho y H2 e2 r => ⟨ys, e2 _ _ (e _ _ p3), ?_, p1, Same.mut ((p2.trans e).trans e2) p1, ys ++ [y], upd_same, ?_⟩)
  · rw [given_none ho]
    exact p4.mono fun v b r => hR _ _ _ _ (Tu.of (e.trans e2)) r
  · have h1 := p4.1
    have h2 := given_len opt i
    exact Nat.lt_of_lt_of_le (by omega : ys.length < 100000) (by decide)
  · rw [given_some ho]
    have tu : Tu H2 (upd H2 D (.lst (ys ++ [y]))) := Tu.lst (e2 _ _ (e _ _ p3))
    exact (p4.mono fun v b r => hR _ _ _ _ ((Tu.of (e.trans e2)).trans tu) r).snoc (hR _ _ _ _ tu r)
theorem lc_listX {K : PySem.W.Frag} {a : Addr} {xs : List V} (hR : RTu R) (opt : Nat → Option β) (hx : SqL K H1 a xs) (hz : xs.length ≤ 40000) (hD : H1 D = none)
    (hs : ∀ i x H, xs[i]? = some x → Same H1 H → Turn1 R g t te vs σ (opt i) x H) (hd : ∀ H ys, Same H1 H → H D = some (.lst ys) → Al (fun v b => R v b H) ys (given opt xs.length) → Qd H) :
    ∃ W : Nat → Nat → Hp → Prop, (∃ m, W 0 m (upd H1 D (.lst []))) ∧ ∀ i m H, W i m H →
      ((Itl K a).stop i H ∧ Qd H) ∨ ((Itl K a).go i H ∧ ∃ Nx : Hp → Prop, (∀ H', Nx H' → ∃ m', m' < m ∧ W (i + 1) m' H') ∧ ∀ x H', (Itl K a).yld i H x H' → g x (wipe σ vs) H' fun σ2 H2 => wipe σ2 vs = wipe σ vs ∧ t σ2 H2 fun b H3 =>
        if b = true then te σ2 H3 fun y H4 => ∃ acc, H4 D = some (.lst acc) ∧ acc.length < sizeLine ∧ Nx (upd H4 D (.lst (acc ++ [y]))) else Nx H3) :=
  lc_list (xs := xs) (Cw R H1 opt D) ⟨hD, Same.new hD, [], upd_same, Al.nil⟩ (fun i H _ p => Same.seq p.2.1 hx)
    (fun i x H hi p => cw_turn hR (by have := (List.getElem?_eq_some_iff.mp hi).1; omega) p (Same.refl H) (hs i x H hi p.2.1)) (fun H p => by
      obtain ⟨_, p2, ys, p3, p4⟩ := p
      exact hd H ys p2 p3 p4)
theorem lc_rangeX {lo : Int} {n : Nat} (hR : RTu R) (opt : Nat → Option β) (hz : n ≤ 40000) (hD : H1 D = none)
    (hs : ∀ i H, i < n → Same H1 H → Turn1 R g t te vs σ (opt i) (.int (lo + i)) H) (hd : ∀ H ys, Same H1 H → H D = some (.lst ys) → Al (fun v b => R v b H) ys (given opt n) → Qd H) :
    ∃ W : Nat → Nat → Hp → Prop, (∃ m, W 0 m (upd H1 D (.lst []))) ∧ ∀ i m H, W i m H →
      ((Itr lo n).stop i H ∧ Qd H) ∨ ((Itr lo n).go i H ∧ ∃ Nx : Hp → Prop, (∀ H', Nx H' → ∃ m', m' < m ∧ W (i + 1) m' H') ∧ ∀ x H', (Itr lo n).yld i H x H' → g x (wipe σ vs) H' fun σ2 H2 => wipe σ2 vs = wipe σ vs ∧ t σ2 H2 fun b H3 =>
        if b = true then te σ2 H3 fun y H4 => ∃ acc, H4 D = some (.lst acc) ∧ acc.length < sizeLine ∧ Nx (upd H4 D (.lst (acc ++ [y]))) else Nx H3) :=
  lc_range (Cw R H1 opt D) ⟨hD, Same.new hD, [], upd_same, Al.nil⟩
    (fun i H hi p => cw_turn hR (by omega) p (Same.refl H) (hs i H hi p.2.1)) (fun H p => by
      obtain ⟨_, p2, ys, p3, p4⟩ := p
      exact hd H ys p2 p3 p4)
/-- over two lists: each pair a new tuple at T -/
theorem lc_zipX {K : PySem.W.Frag} {a b : Addr} {xs ys : List V} (hR : RTu R) (opt : Nat → Option β) (hx : SqL K H1 a xs) (hy : SqL K H1 b ys) (hl : xs.length = ys.length) (hz : xs.length ≤ 40000) (hD : H1 D = none)
    (hs : ∀ i x y T H, xs[i]? = some x → ys[i]? = some y → Same H1 H → H T = some (.tup [x, y]) → Turn1 R g t te vs σ (opt i) (.ref T) H) (hd : ∀ H zs, Same H1 H → H D = some (.lst zs) → Al (fun v b => R v b H) zs (given opt xs.length) → Qd H) :
    ∃ W : Nat → Nat → Hp → Prop, (∃ m, W 0 m (upd H1 D (.lst []))) ∧ ∀ i m H, W i m H →
      ((Itz K a b).stop i H ∧ Qd H) ∨ ((Itz K a b).go i H ∧ ∃ Nx : Hp → Prop, (∀ H', Nx H' → ∃ m', m' < m ∧ W (i + 1) m' H') ∧ ∀ x H', (Itz K a b).yld i H x H' → g x (wipe σ vs) H' fun σ2 H2 => wipe σ2 vs = wipe σ vs ∧ t σ2 H2 fun b H3 =>
        if b = true then te σ2 H3 fun y H4 => ∃ acc, H4 D = some (.lst acc) ∧ acc.length < sizeLine ∧ Nx (upd H4 D (.lst (acc ++ [y]))) else Nx H3) := by
  refine ⟨fun i m H => m = xs.length - i ∧ i ≤ xs.length ∧ Cw R H1 opt D i H, ⟨xs.length, by simp, Nat.zero_le _, hD, Same.new hD, [], upd_same, Al.nil⟩, ?_⟩
  rintro i m H ⟨rfl, hi, p⟩
  have qx := Same.seq p.2.1 hx
  have qy := Same.seq p.2.1 hy
  by_cases hlt : i < xs.length
  · have hxi : xs[i]? = some xs[i] := List.getElem?_eq_getElem hlt
    have hlt2 : i < ys.length := by omega
    have hyi : ys[i]? = some ys[i] := List.getElem?_eq_getElem hlt2
    refine .inr ⟨⟨xs, ys, _, _, qx, qy, hxi, hyi⟩, Cw R H1 opt D (i + 1), fun H' p' => ⟨xs.length - (i + 1), by omega, rfl, hlt, p'⟩, fun v H' y => ?_⟩
    obtain ⟨T, x', y', rfl, hT, rfl, f1, f2⟩ := y
    exact cw_turn hR (by omega) p (Same.new hT) (hs i x' y' T _ (f1 xs qx) (f2 ys qy) (p.2.1.trans (Same.new hT)) upd_same)
  · have e : i = xs.length := by omega
    subst e
    refine .inl ⟨⟨xs, ys, qx, qy, Or.inl (Nat.le_refl _)⟩, ?_⟩
    obtain ⟨_, p2, zs, p3, p4⟩ := p
    exact hd H zs p2 p3 p4
end
end Sm
end
section
/-! What lies where; the promises of the defs. -/
namespace Sm
open PySem PySem.Spec PyProof.Rows L2
open Uw27 (Season Shoal)
/-! ### representations -/
def CaAt (H : Hp) (v : V) (c : Ca) : Prop := ∃ a b, v = .ref a ∧ H a = some (.tup [nV c.w, nV c.s, .ref b]) ∧ H b = some (.tup (c.l.map nV))
theorem CaAt.tu {H H' : Hp} {v : V} {c : Ca} (e : Tu H H') (h : CaAt H v c) : CaAt H' v c := by
  obtain ⟨a, b, rfl, h1, h2⟩ := h
  exact ⟨a, b, rfl, e _ _ h1, e _ _ h2⟩
def shV (x : Shoal) : List V := [nV x.kind, nV x.size, nV x.many]
def kdV (k : Uw27.Kind) : List V := [nV k.worth, nV k.least, nV k.quota]
def ShsAt (H : Hp) (as : List Addr) (xs : List Shoal) : Prop := Al (fun a x => H a = some (.tup (shV x))) as xs
theorem ShsAt.tu {H H' : Hp} {as : List Addr} {xs : List Shoal} (e : Tu H H') (h : ShsAt H as xs) : ShsAt H' as xs := h.mono fun a x r => e _ _ r
/-- a list of shoals -/
def ShL (H : Hp) (v : V) (xs : List Shoal) : Prop := ∃ p as, v = .ref p ∧ H p = some (.lst (as.map V.ref)) ∧ ShsAt H as xs
theorem ShL.ex {H H' : Hp} {v : V} {xs : List Shoal} (e : Same H H') (h : ShL H v xs) : ShL H' v xs := by
  obtain ⟨p, as, rfl, h1, h2⟩ := h
  exact ⟨p, as, rfl, e _ _ h1, h2.tu (Tu.of e)⟩
def seaF (w : Nat) (ka na da : Addr) : List (Str × V) := [("too_small", nV w), ("kinds", .ref ka), ("nets", .ref na), ("days", .ref da)]
structure Lay where
  sa : Addr
  dx : Addr
  ka : Addr
  na : Addr
  da : Addr
  ks : List Addr
  ds : List (Addr × List Addr)
structure SeaR (C : Addr) (H : Hp) (L : Lay) (s : Season) : Prop where
  ins : H L.sa = some (.ins C L.dx (seaF s.waste L.ka L.na L.da))
  kl : H L.ka = some (.lst (L.ks.map V.ref))
  kt : Al (fun a k => H a = some (.tup (kdV k))) L.ks s.kinds
  nl : H L.na = some (.lst (s.nets.map nV))
  dl : H L.da = some (.lst (L.ds.map fun d => V.ref d.1))
  dt : Al (fun d day => H d.1 = some (.lst (d.2.map V.ref)) ∧ ShsAt H d.2 day) L.ds s.days
  ok : SOk s
theorem SeaR.ex {C : Addr} {H H' : Hp} {L : Lay} {s : Season} (e : Same H H') (h : SeaR C H L s) : SeaR C H' L s :=
  ⟨e _ _ h.ins, e _ _ h.kl, h.kt.mono fun _ _ r => e _ _ r, e _ _ h.nl, e _ _ h.dl, h.dt.mono fun _ _ r => ⟨e _ _ r.1, r.2.tu (Tu.of e)⟩, h.ok⟩
def own (L : Lay) : List Addr := L.sa :: L.ka :: L.na :: L.da :: L.ds.map (·.1)
structure SeaO (C : Addr) (H : Hp) (L : Lay) (s : Season) : Prop where
  rd : SeaR C H L s
  nd : (own L).Nodup
/-- plans, each with its catch -/
def PlAt (s : Season) (H : Hp) (v : V) (l : List Nat) : Prop := ∃ a b c, v = .ref a ∧ H a = some (.tup [.ref b, c]) ∧ H b = some (.tup (l.map nV)) ∧ CaAt H c (caOf s (s.catch_ l))
theorem PlAt.tu {s : Season} {H H' : Hp} {v : V} {l : List Nat} (e : Tu H H') (h : PlAt s H v l) : PlAt s H' v l := by
  obtain ⟨a, b, c, rfl, h1, h2, h3⟩ := h
  exact ⟨a, b, c, rfl, e _ _ h1, e _ _ h2, h3.tu e⟩
def PlL (s : Season) (H : Hp) (v : V) (ps : List (List Nat)) : Prop := ∃ p vs, v = .ref p ∧ H p = some (.lst vs) ∧ Al (PlAt s H) vs ps
theorem PlL.ex {s : Season} {H H' : Hp} {v : V} {ps : List (List Nat)} (e : Same H H') (h : PlL s H v ps) : PlL s H' v ps := by
  obtain ⟨p, vs, rfl, h1, h2⟩ := h
  exact ⟨p, vs, rfl, e _ _ h1, h2.mono fun _ _ r => r.tu (Tu.of e)⟩
/-- a plan's rank -/
def RkAt (s : Season) (H : Hp) (v : V) (l : List Nat) : Prop := ∃ a b, v = .ref a ∧ H a = some (.tup [.int (0 - (worthOf s (s.catch_ l) : Int)), nV (Uw27.changes l), .ref b]) ∧ H b = some (.tup (l.map nV))
theorem RkAt.tu {s : Season} {H H' : Hp} {v : V} {l : List Nat} (e : Tu H H') (h : RkAt s H v l) : RkAt s H' v l := by
  obtain ⟨a, b, rfl, h1, h2⟩ := h
  exact ⟨a, b, rfl, e _ _ h1, e _ _ h2⟩
def SqA (K : PySem.W.Frag) (H : Hp) (p : Addr) (xs : List V) : Prop := SqL K H p xs ∨ SqT K H p xs

/-! ### what the top has written -/
structure Txt (K : PySem.W.Frag) (mg : Str → Option Value) (C : Addr) : Prop where
  cl : Cls K C
  n1 : NoAttr K C "too_small"
  n2 : NoAttr K C "kinds"
  n3 : NoAttr K C "nets"
  n4 : NoAttr K C "days"
  gC : mg "Season" = some (.ref C)
  len : mg "len" = none
  range : mg "range" = none
  sum : mg "sum" = none
  tuple : mg "tuple" = none
  zip : mg "zip" = none
  all : mg "all" = none
  enumerate : mg "enumerate" = none
  min : mg "min" = none
  list : mg "list" = none
  int : mg "int" = none
  k1 : ∃ t, mg "TOO_SMALL" = some (.int (-6) t)
  k2 : ∃ t, mg "TOO_MANY" = some (.int (-7) t)
  k3 : ∃ t, mg "MOST" = some (.int 1000 t)
  k4 : ∃ t, mg "MOST_KINDS" = some (.int 3 t)
  k5 : ∃ t, mg "MOST_NETS" = some (.int 4 t)
  k6 : ∃ t, mg "MOST_DAYS" = some (.int 5 t)
  k7 : ∃ t, mg "MOST_SHOALS" = some (.int 6 t)
  k8 : ∃ t, mg "NOT_AS_TOLD" = some (.int (-1) t)
  k9 : ∃ t, mg "NO_DAY" = some (.int (-2) t)
  k10 : ∃ t, mg "FULL" = some (.int (-5) t)
  k11 : ∃ a, mg "PLAIN" = some (.ref a) ∧ ∀ H, SqT K H a [.int 1, .int 3, .int 1, .int 0, .int 3, .int 0, .int 0]
  k12 : ∃ t, mg "CHECK" = some (.int 7 t)
/-- a def of the text, where it stands -/
structure At (K : PySem.W.Frag) (mg : Str → Option Value) (x : Str) (st : Stmt) : Prop where
  ex : ∃ f fd, Fun K x x st f fd ∧ mg x = some (.ref f)
/-- a def that keeps its promise -/
structure Dn (P : Program) (w : World) (K : PySem.W.Frag) (mg : Str → Option Value) (base : Heap) (k : Nat) (x : Str) (ps : List Str) (sp : Sp) : Prop where
  ex : ∃ f fd, FnOk P w K mg base CX0 k f fd ps sp ∧ mg x = some (.ref f) ∧ PySem.W.keepIn K (.ref f) = true ∧ Binds K fd ps []
theorem dn_ok {P : Program} {w : World} {K : PySem.W.Frag} {mg : Str → Option Value} {base : Heap} {x : Str} {st : Stmt} {N ps : List Str} {k : Nat} {sp : Sp} (A : At K mg x st) (S : FnScope N ps (defScope st))
    (hb : ∀ (kV doc pm : Value) (an : Option Addr) (cdv ct : Value) (us : List Value), us.length = ps.length → bindArgs (PySem.W.fnOf x x (defArgs st) (defBody st) (defScope st) .none kV doc pm an cdv ct) ⟨us, []⟩ = pure (ps.zip us))
    (len : ∀ vs H Q E, sp vs H Q E → vs.length = ps.length)
    (hbody : ∀ (f : Addr) (cdv : Value) (A : Around) (outer : List Env) (s : Shared) (H : Hp) (vs : List V) (Q : VK) (E : XK), Room k (A.deeper (envOfC x (defScope st) s.heap.objs.size f cdv)) → sp vs H Q E →
      ∃ t, PSs (cxOf CX0 P w K mg base N x (defScope st) f cdv A outer s H E).nox (defBody st) t ∧ t { nx := fun _ H' => Q .non H', rt := Q } (start N vs) H) : Dn P w K mg base (k + 1) x ps sp := by
  obtain ⟨f, fd, F, hm⟩ := A.ex
  exact ⟨f, fd, F.ok S len (hbody f), hm, F.kp, F.binds hb⟩
def tDn (sp : Sp) (t : TA) : TE := fun σ H Q => t σ H fun vs H1 => sp vs H1 Q E0
theorem pe_dn {X : Cx} {k : Nat} {x : Str} {ps : List Str} {sp : Sp} {e : Expr} {es : List Expr} {t : TA} {p pos : Pos} (D : Dn X.prog X.w X.K X.mg X.base k x ps sp) (hr : Room k X.A) (ha : PA X (e :: es) t) (hg : Gl X x := by rfl)
    (hdb : (x == ("__debug__" : Str)) = false := by decide) (he : starEach (e :: es) X.env = (false, eval e X.env) :: starEach es X.env := by rfl) (hpl : (backTo pos (starEach es X.env)).any (·.1) = false := by rfl) :
    PE X (.Call (.Name x p) (e :: es) [] pos) (tDn sp t) := by
  obtain ⟨f, fd, F, hm, hk, hb⟩ := D.ex
  have h := pe_call (p := p) (pos := pos) F hr hg hm hk hb .nil pass0 ha hdb he hpl
  have e0 : tCall sp [] E0 t = tDn sp t := by
    funext σ H Q
    unfold tCall tDn
    simp only [List.append_nil]
  rw [e0] at h
  exact h
/-- a def's name as a value -/
theorem Dn.held {P : Program} {w : World} {K : PySem.W.Frag} {mg : Str → Option Value} {base : Heap} {k : Nat} {x : Str} {ps : List Str} {sp : Sp} (D : Dn P w K mg base k x ps sp) : ∃ f, mg x = some (.ref f) ∧ Held P w K mg base k f sp := by
  obtain ⟨f, fd, F, hm, hk, hb⟩ := D.ex
  exact ⟨f, hm, ⟨fd, ps, F, hk, hb⟩⟩
/-- a call of a local name that holds a def, whichever -/
def tCallH (P : Program) (w : World) (K : PySem.W.Frag) (mg : Str → Option Value) (base : Heap) (k i : Nat) (t : TA) : TE := fun σ H Q => ∃ f sp, σ[i]? = some (some (.ref f)) ∧ Held P w K mg base k f sp ∧ t σ H fun vs H1 => sp vs H1 Q E0
theorem pe_callH {X : Cx} {k i : Nat} {x : Str} {e : Expr} {es : List Expr} {t : TA} {p pos : Pos} (hr : Room k X.A) (hN : X.N[i]? = some x) (hv : Vis X.env.scope x) (ha : PA X (e :: es) t)
    (hdb : (x == ("__debug__" : Str)) = false := by decide) (hcd : (x == ("__classdict__" : Str)) = false := by decide)
    (he : starEach (e :: es) X.env = (false, eval e X.env) :: starEach es X.env := by rfl) (hpl : (backTo pos (starEach es X.env)).any (·.1) = false := by rfl) : PE X (.Call (.Name x p) (e :: es) [] pos) (tCallH X.prog X.w X.K X.mg X.base k i t) := by
  refine ⟨fun pins s σ H Q I h => ?_⟩
  obtain ⟨f, sp, hs, hd, ht⟩ := h
  obtain ⟨fd, ps, F, hk, hb⟩ := hd.ex
  refine (pe_callL (i := i) (f := f) (sp := sp) (dvs := []) (E := E0) F hr hN hv hk hb .nil pass0 ha hdb hcd he hpl).run pins s σ H Q I ⟨hs, ?_⟩
  have e0 : (fun (vs : List V) (H1 : Hp) => sp (vs ++ []) H1 Q E0) = fun vs H1 => sp vs H1 Q E0 := by
    funext vs H1
    rw [List.append_nil]
  show t σ H (fun vs H1 => sp (vs ++ []) H1 Q E0)
  rw [e0]
  exact ht

/-! ### a season's fields -/
theorem lk_here {k : Str} {v : V} {r : List (Str × V)} : List.lookup k ((k, v) :: r) = some v := by
  have e : (k == k) = true := beq_self_eq_true k
  simp only [List.lookup, e]
theorem lk_past {k g : Str} {v : V} {r : List (Str × V)} (h : (k == g) = false) : List.lookup k ((g, v) :: r) = List.lookup k r := by
  simp only [List.lookup, h]
theorem lkS {w : Nat} {ka na da : Addr} : (seaF w ka na da).lookup ("too_small" : Str) = some (nV w) := lk_here
theorem lkK {w : Nat} {ka na da : Addr} : (seaF w ka na da).lookup ("kinds" : Str) = some (.ref ka) := (lk_past (by decide +kernel)).trans lk_here
theorem lkN {w : Nat} {ka na da : Addr} : (seaF w ka na da).lookup ("nets" : Str) = some (.ref na) := (lk_past (by decide +kernel)).trans ((lk_past (by decide +kernel)).trans lk_here)
theorem lkD {w : Nat} {ka na da : Addr} : (seaF w ka na da).lookup ("days" : Str) = some (.ref da) := (lk_past (by decide +kernel)).trans ((lk_past (by decide +kernel)).trans ((lk_past (by decide +kernel)).trans lk_here))
theorem put_here {f : Str} {v x : V} {r : List (Str × V)} : putF f v ((f, x) :: r) = (f, v) :: r := if_pos rfl
theorem put_past {f g : Str} {v x : V} {r : List (Str × V)} (h : ¬ g = f) : putF f v ((g, x) :: r) = (g, x) :: putF f v r := if_neg h
theorem putS {w z : Nat} {ka na da : Addr} : putF "too_small" (nV z) (seaF w ka na da) = seaF z ka na da := put_here
theorem putK {w : Nat} {ka na da b : Addr} : putF "kinds" (.ref b) (seaF w ka na da) = seaF w b na da := (put_past (by decide +kernel)).trans (congrArg _ put_here)
theorem putN {w : Nat} {ka na da b : Addr} : putF "nets" (.ref b) (seaF w ka na da) = seaF w ka b da := (put_past (by decide +kernel)).trans (congrArg _ ((put_past (by decide +kernel)).trans (congrArg _ put_here)))
theorem putD {w : Nat} {ka na da b : Addr} : putF "days" (.ref b) (seaF w ka na da) = seaF w ka na b := (put_past (by decide +kernel)).trans (congrArg _ ((put_past (by decide +kernel)).trans (congrArg _ ((put_past (by decide +kernel)).trans (congrArg _ put_here)))))
theorem putNew {w : Nat} {ka na da : Addr} : putF "days" (.ref da) (putF "nets" (.ref na) (putF "kinds" (.ref ka) (putF "too_small" (nV w) []))) = seaF w ka na da := by
  have e2 : putF "kinds" (.ref ka) (putF "too_small" (nV w) []) = [(("too_small" : Str), nV w), (("kinds" : Str), V.ref ka)] := (put_past (by decide +kernel)).trans rfl
  have e3 : putF "nets" (.ref na) [(("too_small" : Str), nV w), (("kinds" : Str), V.ref ka)] = [(("too_small" : Str), nV w), (("kinds" : Str), V.ref ka), (("nets" : Str), V.ref na)] := (put_past (by decide +kernel)).trans (congrArg _ ((put_past (by decide +kernel)).trans rfl))
  rw [e2, e3]
  exact (put_past (by decide +kernel)).trans (congrArg _ ((put_past (by decide +kernel)).trans (congrArg _ ((put_past (by decide +kernel)).trans rfl))))

/-! ### the promises of the readers -/
def spNothing (C : Addr) : Sp := fun vs H Q _ => ∃ L s, vs = [.ref L.sa] ∧ SeaR C H L s ∧ ∀ v H', Same H H' → CaAt H' v (caOf s []) → Q v H'
def spStays (C : Addr) : Sp := fun vs H Q _ => ∃ L s, vs = [.ref L.sa] ∧ SeaR C H L s ∧ ∀ H', Same H H' → Q (nV s.nets.length) H'
def spTaken (C : Addr) : Sp := fun vs H Q _ => ∃ L s d n, vs = [.ref L.sa, nV d, nV n] ∧ SeaR C H L s ∧ d < s.days.length ∧ n ≤ s.nets.length ∧ ∀ v H', Same H H' → ShL H' v (s.taken d n) → Q v H'
def spIsLanded (C : Addr) : Sp := fun vs H Q _ => ∃ L s a x, vs = [.ref L.sa, .ref a] ∧ SeaR C H L s ∧ H a = some (.tup (shV x)) ∧ x.kind < s.kinds.length ∧ ∀ H', Same H H' → Q (.bl (s.large x)) H'
def spSmallOf (C : Addr) : Sp := fun vs H Q _ => ∃ L s v xs, vs = [.ref L.sa, v] ∧ SeaR C H L s ∧ ShL H v xs ∧ xs.length ≤ 6 ∧ (∀ x ∈ xs, x.kind < s.kinds.length) ∧ ∀ H', Same H H' → Q (nV (smallOf s xs)) H'
def spLandedOf (C : Addr) : Sp := fun vs H Q _ => ∃ L s v xs k, vs = [.ref L.sa, v, nV k] ∧ SeaR C H L s ∧ ShL H v xs ∧ xs.length ≤ 6 ∧ (∀ x ∈ xs, x.kind < s.kinds.length) ∧ ∀ H', Same H H' → Q (nV (landedOf s xs k)) H'
def spCatchOn (C : Addr) : Sp := fun vs H Q _ => ∃ L s d n, vs = [.ref L.sa, nV d, nV n] ∧ SeaR C H L s ∧ d < s.days.length ∧ n ≤ s.nets.length ∧ ∀ v H', Same H H' → CaAt H' v (caOf s (s.taken d n)) → Q v H'
def spTogether : Sp := fun vs H Q _ => ∃ v1 v2 c1 c2, vs = [v1, v2] ∧ CaAt H v1 c1 ∧ CaAt H v2 c2 ∧ c1.l.length = c2.l.length ∧ c1.l.length ≤ 3 ∧ ∀ v H', Same H H' → CaAt H' v (together c1 c2) → Q v H'
def optV : Option Nat → V
  | none => .non
  | some k => nV k
def spFirstOver (C : Addr) : Sp := fun vs H Q _ => ∃ L s v xs, vs = [.ref L.sa, v] ∧ SeaR C H L s ∧ CaAt H v (caOf s xs) ∧ ∀ H', Same H H' → Q (optV (overC s xs)) H'
def spIsRight (C : Addr) : Sp := fun vs H Q _ => ∃ L s v xs, vs = [.ref L.sa, v] ∧ SeaR C H L s ∧ CaAt H v (caOf s xs) ∧ ∀ H', Same H H' → Q (.bl (rightC s xs)) H'
def spChanges (K : PySem.W.Frag) : Sp := fun vs H Q _ => ∃ (p : Addr) (l : List Nat), vs = [.ref p] ∧ SqA K H p (l.map nV) ∧ l.length ≤ 12 ∧ ∀ H', Same H H' → Q (nV (Uw27.changes l)) H'
def spNetFor (C : Addr) : Sp := fun vs H Q _ => ∃ L s d v xs, vs = [.ref L.sa, nV d, v] ∧ SeaR C H L s ∧ d < s.days.length ∧ CaAt H v (caOf s xs) ∧ ∀ H', Same H H' → Q (nV (netFor s d xs)) H'
def spIsPlan (C : Addr) (K : PySem.W.Frag) : Sp := fun vs H Q _ => ∃ L s p l, vs = [.ref L.sa, .ref p] ∧ SeaR C H L s ∧ SqL K H p (l.map nV) ∧ l.length ≤ 12 ∧ ∀ H', Same H H' → Q (.bl (s.told l)) H'
def spCatchOf (C : Addr) (K : PySem.W.Frag) : Sp := fun vs H Q _ => ∃ L s p l, vs = [.ref L.sa, .ref p] ∧ SeaR C H L s ∧ SqL K H p (l.map nV) ∧ s.told l = true ∧ ∀ v H', Same H H' → CaAt H' v (caOf s (s.catch_ l)) → Q v H'
def spLonger (C : Addr) : Sp := fun vs H Q _ => ∃ L s v ps d, vs = [.ref L.sa, v, nV d] ∧ SeaR C H L s ∧ d < s.days.length ∧ PlL s H v ps ∧ ps.length ≤ 5000 ∧ (∀ l ∈ ps, l.length = d) ∧ ∀ v' H', Same H H' → PlL s H' v' (longer s ps) → Q v' H'
def spRightPlans (C : Addr) : Sp := fun vs H Q _ => ∃ L s, vs = [.ref L.sa] ∧ SeaR C H L s ∧ ∀ v H', Same H H' → PlL s H' v (plansTo s s.days.length) → Q v H'
def spRankOf (K : PySem.W.Frag) : Sp := fun vs H Q _ => ∃ s b c l, vs = [.ref b, c] ∧ H b = some (.tup (List.map nV l)) ∧ l.length ≤ 12 ∧ CaAt H c (caOf s (s.catch_ l)) ∧ ∀ v H', Same H H' → RkAt s H' v l → Q v H'
/-! ### the promises of the calls -/
def numOf : Uw27.Call → Nat
  | .begins _ => 0
  | .kind _ => 1
  | .net _ => 2
  | .day => 3
  | .shoal _ => 4
  | .best => 5
  | .plain => 6
  | .check _ => 7
def argsOf : Uw27.Call → List Nat
  | .begins w => [w]
  | .kind k => [k.worth, k.least, k.quota]
  | .net m => [m]
  | .day => []
  | .shoal x => [x.kind, x.size, x.many]
  | .best => []
  | .plain => []
  | .check l => l
def okCall : Uw27.Call → Prop
  | .check l => l.length ≤ 12
  | _ => True
/-- what a call answers, and what it leaves -/
def Done (C : Addr) (H : Hp) (L : Lay) (s : Season) (x : Uw27.Call) (v : V) (H' : Hp) : Prop :=
  ∃ p L', v = .ref p ∧ H p = none ∧ H' p = some (.lst ((Uw27Neutral.out (Uw27.step s x).2).map V.int)) ∧ SeaO C H' L' (Uw27.step s x).1 ∧ L'.sa = L.sa ∧ (∀ b o, H b = some o → b ∉ own L → H' b = some o) ∧ ∀ b ∈ own L', b ∈ own L ∨ H b = none
def spCall (C : Addr) (K : PySem.W.Frag) (x : Uw27.Call) : Sp := fun vs H Q _ => ∃ L s p, vs = [.ref L.sa, .ref p] ∧ SeaO C H L s ∧ SqL K H p ((argsOf x).map nV) ∧ okCall x ∧ ∀ v H', Done C H L s x v H' → Q v H'
/-- of any call with that number -/
def spDeed (C : Addr) (K : PySem.W.Frag) (n : Nat) : Sp := fun vs H Q E => ∃ x, numOf x = n ∧ spCall C K x vs H Q E
def spTold (C : Addr) (K : PySem.W.Frag) : Sp := fun vs H Q _ => ∃ L s p x, vs = [.ref L.sa, nV (numOf x), .ref p] ∧ SeaO C H L s ∧ SqL K H p ((argsOf x).map nV) ∧ okCall x ∧ ∀ v H', Done C H L s x v H' → Q v H'
/-- a call that writes nothing -/
theorem Done.of {C : Addr} {H H1 : Hp} {L : Lay} {s : Season} {x : Uw27.Call} {p : Addr} {o : HO} (O : SeaO C H L s) (e1 : Same H H1) (hp : H1 p = none) (hq : upd H1 p o p = some (.lst ((Uw27Neutral.out (Uw27.step s x).2).map V.int))) (hs : (Uw27.step s x).1 = s) : Done C H L s x (.ref p) (upd H1 p o) :=
  have e : Same H (upd H1 p o) := e1.trans (Same.new hp)
  ⟨p, L, rfl, Same.free e1 hp, hq, by rw [hs]; exact ⟨O.rd.ex e, O.nd⟩, rfl, fun b o q _ => e b o q, fun b q => .inl q⟩
end Sm
end
section
/-! catches: nothing, stays, shoals_taken, is_landed. -/
namespace Sm
open PySem PySem.Spec PyProof.Rows L2
open Uw27 (Season Shoal)
section
variable {P : Program} {w : World} {K : PySem.W.Frag} {mg : Str → Option Value} {base : Heap} {C : Addr}
theorem map_const {β : Type} (b : β) : ∀ n : Nat, given (fun _ => some b) n = List.replicate n b
  | 0 => rfl
  | n + 1 => by rw [given_some (opt := fun _ => some b) (b := b) rfl, map_const b n, List.replicate_succ']
/-- values that are numbers -/
def RNat : V → Nat → Hp → Prop := fun v n _ => v = nV n
theorem rNat : RTu RNat := fun _ _ _ _ _ h => h
theorem al_nat {H : Hp} {ys : List V} {ns : List Nat} (h : Al (fun v b => RNat v b H) ys ns) : ys = ns.map nV := by
  apply List.ext_getElem?
  intro i
  rw [List.getElem?_map]
  cases e : ns[i]? with
  | none =>
    rw [List.getElem?_eq_none (by rw [h.1]; exact List.getElem?_eq_none_iff.mp e)]
    rfl
  | some n =>
    obtain ⟨v, hv, r⟩ := h.at e
    rw [hv]
    exact congrArg some r
/-! nothing -/
theorem sc1 : FnScope ["season", "kind"] ["season"] (defScope (topS 1)) := ⟨rfl, rfl, rfl, by decide +kernel, rfl, by decide +kernel, by decide +kernel⟩
theorem dn_nothing (A : At K mg "nothing" (topS 1)) (T : Txt K mg C) : Dn P w K mg base 1 "nothing" ["season"] (spNothing C) := by
  refine dn_ok A sc1 (fun _ _ _ _ _ _ us hl => match us, hl with | [_], _ => rfl) (fun vs H Q E h => ?_) fun f cdv A outer s H vs Q E hr h => ?_
  · obtain ⟨L, s, rfl, _⟩ := h
    rfl
  · refine ⟨_, pss_one (ps_ret (pe_tup (pa_cons pe_int (pa_cons pe_int (pa_cons (pe_callTy call_tuple_of (by rfl) T.tuple (by decide +kernel) (pa_cons
      (pe_lc (own := [("kind", 1)]) (g := gName 1) (tt := tYes) rfl sc1.nd (pi_list (pe_fld (pv 0) rfl)) (blkOk_by (N := ["season", "kind"]) (sc := defScope (topS 1)) (by decide +kernel)) (fun _ _ _ _ _ => pg_name (i := 1) sc1.nd rfl (Or.inl rfl)) (fun _ _ _ _ _ => pts_nil) (fun _ _ _ _ _ => pe_int)) pa_nil)) pa_nil))))), ?_⟩
    obtain ⟨L, s, rfl, R, k⟩ := h
    refine ⟨_, rfl, L.sa, C, L.dx, _, _, rfl, R.ins, T.cl, T.n2, lkK, L.ka, rfl, ⟨_, SqL.of R.kl⟩, fun D hD => ?_⟩
    refine lc_listX (β := Nat) (R := RNat) rNat (fun _ => some 0) (SqL.of R.kl) ?_ hD (fun i x H' _ _ => ?_) (fun H2 ys e hys al => ?_)
    · have := R.kt.1
      have := R.ok.nk
      rw [List.length_map]
      omega
    · intro Sk Gv _ hg
      exact ⟨rfl, hg 0 rfl _ _ (Same.refl _) rfl⟩
    · refine ⟨D, ys, rfl, .inl ⟨SqL.of hys, fun t ht => ⟨by show 3 ≤ sizeLine; decide, fun p hp => ?_⟩⟩⟩
      refine k _ _ ((e.trans (Same.new ht)).trans (Same.new hp)) ⟨p, t, rfl, ?_, ?_⟩
      · rw [caOf_nil]
        exact upd_same
      · have e1 := al_nat al
        rw [map_const] at e1
        rw [Same.new hp t _ upd_same, e1, caOf_nil, List.length_map, R.kt.1]
        have e2 : (s.kinds.map fun _ => 0) = List.replicate s.kinds.length 0 := List.map_const' ..
        rw [e2]
/-! stays -/
theorem sc2 : FnScope ["season"] ["season"] (defScope (topS 2)) := ⟨rfl, rfl, rfl, by decide +kernel, rfl, by decide +kernel, by decide +kernel⟩
theorem dn_stays (A : At K mg "stays" (topS 2)) (T : Txt K mg C) : Dn P w K mg base 1 "stays" ["season"] (spStays C) := by
  refine dn_ok A sc2 (fun _ _ _ _ _ _ us hl => match us, hl with | [_], _ => rfl) (fun vs H Q E h => ?_) fun f cdv A outer s H vs Q E hr h => ?_
  · obtain ⟨L, s, rfl, _⟩ := h
    rfl
  · refine ⟨_, pss_one (ps_ret (pe_callB call_len_seq (by rfl) T.len PySem.boot_len (pa_cons (pe_fld (pv 0) rfl) pa_nil))), ?_⟩
    obtain ⟨L, s, rfl, R, k⟩ := h
    refine ⟨_, rfl, L.sa, C, L.dx, _, _, rfl, R.ins, T.cl, T.n3, lkN, L.na, _, rfl, .inl (SqL.of R.nl), ?_⟩
    rw [List.length_map]
    exact k H (Same.refl H)
/-! is_landed -/
theorem sc4 : FnScope ["season", "shoal"] ["season", "shoal"] (defScope (topS 4)) := ⟨rfl, rfl, rfl, by decide +kernel, rfl, by decide +kernel, by decide +kernel⟩
theorem kind_get {s : Season} {k : Nat} (h : k < s.kinds.length) : s.kinds[k]? = some (s.kind k) := by
  unfold Uw27.Season.kind
  rw [List.getD_eq_getElem?_getD, List.getElem?_eq_getElem h]
  rfl
/-- season.kinds[k], as a reference to its tuple -/
theorem SeaR.kindAt {H : Hp} {L : Lay} {s : Season} {k : Nat} (R : SeaR C H L s) (h : k < s.kinds.length) : ∃ a, (L.ks.map V.ref)[k]? = some (.ref a) ∧ H a = some (.tup (kdV (s.kind k))) := by
  obtain ⟨a, h1, h2⟩ := R.kt.at (kind_get h)
  exact ⟨a, by rw [List.getElem?_map, h1]; rfl, h2⟩
theorem dn_is_landed (A : At K mg "is_landed" (topS 4)) (T : Txt K mg C) : Dn P w K mg base 1 "is_landed" ["season", "shoal"] (spIsLanded C) := by
  refine dn_ok A sc4 (fun _ _ _ _ _ _ us hl => match us, hl with | [_, _], _ => rfl) (fun vs H Q E h => ?_) fun f cdv A outer s H vs Q E hr h => ?_
  · obtain ⟨L, s, a, x, rfl, _⟩ := h
    rfl
  · refine ⟨_, pss_one (ps_ret (pe_cmpR op_ge (pe_ix ix_tup (pv 1) pe_int (fun _ _ => rfl)) (pe_ix ix_tup (pe_ix ix_list (pe_fld (pv 0) rfl) (pe_ix ix_tup (pv 1) pe_int (fun _ _ => rfl)) (fun _ _ => rfl)) pe_int (fun _ _ => rfl)) (nomark _))), ?_⟩
    obtain ⟨L, s, a, x, rfl, R, ha, hk, k⟩ := h
    obtain ⟨b, hb, hb2⟩ := R.kindAt hk
    refine ⟨_, rfl, a, _, _, _, rfl, rfl, SqT.of ha, rfl, ?_⟩
    refine ⟨_, rfl, L.sa, C, L.dx, _, _, rfl, R.ins, T.cl, T.n2, lkK, ?_⟩
    refine ⟨_, rfl, a, _, _, _, rfl, rfl, SqT.of ha, rfl, ?_⟩
    refine ⟨L.ka, _, _, _, rfl, rfl, SqL.of R.kl, atI_nat hb, ?_⟩
    refine ⟨b, _, _, _, rfl, rfl, SqT.of hb2, rfl, ?_⟩
    refine ⟨_, _, rfl, rfl, ?_⟩
    have e : s.large x = decide (((s.kind x.kind).least : Int) ≤ (x.size : Int)) := by
      unfold Uw27.Season.large
      exact decide_eq_decide.mpr Int.ofNat_le.symm
    have q := k H (Same.refl H)
    rw [e] at q
    exact q
/-! shoals_taken -/
theorem sc3 : FnScope ["season", "day", "net", "shoal"] ["season", "day", "net"] (defScope (topS 3)) := ⟨rfl, rfl, rfl, by decide +kernel, rfl, by decide +kernel, by decide +kernel⟩
/-- season.days[d] -/
theorem SeaR.dayAt {H : Hp} {L : Lay} {s : Season} {d : Nat} (R : SeaR C H L s) (h : d < s.days.length) : ∃ p as, (L.ds.map fun d => V.ref d.1)[d]? = some (.ref p) ∧ H p = some (.lst (List.map V.ref as)) ∧ ShsAt H as (s.days.getD d []) := by
  have e : s.days[d]? = some (s.days.getD d []) := by
    rw [List.getD_eq_getElem?_getD, List.getElem?_eq_getElem h]
    rfl
  obtain ⟨q, h1, h2⟩ := R.dt.at e
  exact ⟨q.1, q.2, by rw [List.getElem?_map, h1]; rfl, h2.1, h2.2⟩
def RSh : V → (Shoal) → Hp → Prop := fun v x H => ∃ a, v = .ref a ∧ H a = some (.tup (shV x))
theorem rSh : RTu RSh := fun _ _ _ _ e ⟨a, r, h⟩ => ⟨a, r, e _ _ h⟩
theorem al_sh {H : Hp} {ys : List V} {xs : List Shoal} (h : Al (fun v b => RSh v b H) ys xs) : ∃ as : List Addr, ys = as.map V.ref ∧ ShsAt H as xs := by
  induction xs generalizing ys with
  | nil =>
    have : ys = [] := List.eq_nil_of_length_eq_zero h.1
    exact ⟨[], this, Al.nil⟩
  | cons x xs ih =>
    obtain ⟨y, ys', rfl, ⟨a, rfl, ha⟩, h2⟩ := h.uncons
    obtain ⟨as, rfl, h3⟩ := ih h2
    exact ⟨a :: as, rfl, Al.cons ha h3⟩
/-- what a comprehension that picks gives -/
theorem given_pick {β : Type} (xs : List β) (f : β → Bool) : given (fun i => (xs[i]?).filter f) xs.length = xs.filter f := by
  have : ∀ n, n ≤ xs.length → given (fun i => (xs[i]?).filter f) n = (xs.take n).filter f := by
    intro n
    induction n with
    | zero => intro _; rfl
    | succ n ih =>
      intro h
      have hx : xs[n]? = some xs[n] := List.getElem?_eq_getElem h
      rw [List.take_add_one, hx, List.filter_append, ← ih (by omega)]
      cases hf : f xs[n] with
      | true =>
        rw [given_some (b := xs[n]) (by rw [hx, Option.filter_some, hf]; rfl)]
        simp [hf]
      | false =>
        rw [given_none (by rw [hx, Option.filter_some, hf]; rfl)]
        simp [hf]
  have h := this xs.length (Nat.le_refl _)
  rw [List.take_length] at h
  exact h
theorem dn_taken (A : At K mg "shoals_taken" (topS 3)) (T : Txt K mg C) (D2 : Dn P w K mg base 1 "stays" ["season"] (spStays C)) : Dn P w K mg base 2 "shoals_taken" ["season", "day", "net"] (spTaken C) := by
  refine dn_ok A sc3 (fun _ _ _ _ _ _ us hl => match us, hl with | [_, _, _], _ => rfl) (fun vs H Q E h => ?_) fun f cdv A outer s H vs Q E hr h => ?_
  · obtain ⟨L, s, d, n, rfl, _⟩ := h
    rfl
  · refine ⟨_, pss_cons (ps_if (pt_cmpR op_eq (pv 2) (pe_dn D2 hr (pa_cons (pv 0) pa_nil)) (nomark _)) (pss_one (ps_ret (pe_lst pa_nil))) pss_nil)
      (pss_one (ps_ret (pe_lc (own := [("shoal", 3)]) (g := gName 3) (tt := tTest (tOp (rI0 fun i j => .bl (decide (j < i))) (tOp (rIxT K) (tVar 3) (tC (.int 1))) (tOp (rIxL K) (tFld K (tVar 0) "nets") (tVar 2)))) rfl sc3.nd (pi_list (pe_ix ix_list (pe_fld (pv 0) rfl) (pv 1) (fun _ _ => rfl))) (blkOk_by (N := ["season", "day", "net", "shoal"]) (sc := defScope (topS 3)) (by decide +kernel)) (fun _ _ _ _ _ => pg_name (i := 3) sc3.nd rfl (Or.inl rfl))
        (fun _ _ _ _ _ => pts_one (pt_cmpR op_gt (pe_ix ix_tup (pv 3) pe_int (fun _ _ => rfl)) (pe_ix ix_list (pe_fld (pv 0) rfl) (pv 2) (fun _ _ => rfl)) (nomark _))) (fun _ _ _ _ _ => pv 3)))), ?_⟩
    obtain ⟨L, s, d, n, rfl, R, hd, hn, k⟩ := h
    refine ⟨_, rfl, _, rfl, L, s, rfl, R, fun H1 e1 => ⟨rfl, _, rfl, ?_⟩⟩
    have R1 := R.ex e1
    by_cases c : n = s.nets.length
    · subst c
      rw [decide_eq_true rfl]
      refine iteT ⟨by show 0 ≤ sizeLine; decide, fun p hp => k _ _ (e1.trans (Same.new hp)) ⟨p, [], rfl, upd_same, ?_⟩⟩
      rw [taken_stay]
      exact Al.nil
    · have hlt : n < s.nets.length := by omega
      have hne : nV n ≠ nV s.nets.length := fun z => c (by injection z with z; exact Int.ofNat.inj z)
      rw [decide_eq_false hne]
      refine iteF ?_
      obtain ⟨p, as, h1, h2, h3⟩ := R1.dayAt hd
      refine ⟨_, rfl, L.sa, C, L.dx, _, _, rfl, R1.ins, T.cl, T.n4, lkD, _, rfl, L.da, _, _, _, rfl, rfl, SqL.of R1.dl, atI_nat h1, p, rfl, ⟨_, SqL.of h2⟩, fun D hD => ?_⟩
      have hm : s.nets[n]? = some s.nets[n] := List.getElem?_eq_getElem hlt
      refine lc_listX (β := Shoal) (R := RSh) rSh (fun i => ((s.days.getD d [])[i]?).filter fun x => Uw27.holds s.nets[n] x) (SqL.of h2) ?_ hD (fun i x H' hi e' => ?_) (fun H2 ys e hys al => ?_)
      · have := h3.1
        have := R.ok.day_len d
        rw [List.length_map]
        omega
      · rw [List.getElem?_map] at hi
        cases ea : as[i]? with
        | none => rw [ea] at hi; cases hi
        | some a =>
          rw [ea] at hi
          cases hi
          obtain ⟨y, hy, hay⟩ := h3.atL ea
          have hay' := e' _ _ hay
          have R2 := R1.ex e'
          intro Sk Gv hs hg
          rw [hy, Option.filter_some] at hs hg
          refine ⟨rfl, _, rfl, a, _, _, _, rfl, rfl, SqT.of hay', rfl, _, rfl, L.sa, C, L.dx, _, _, rfl, R2.ins, T.cl, T.n3, lkN, _, rfl, L.na, _, _, _, rfl, rfl, SqL.of R2.nl, atI_nat (v := nV s.nets[n]) (by rw [List.getElem?_map, hm]; rfl), _, _, rfl, rfl, _, rfl, ?_⟩
          have eq : decide (((s.nets[n] : Nat) : Int) < (y.size : Int)) = Uw27.holds s.nets[n] y := by
            unfold Uw27.holds
            exact decide_eq_decide.mpr Int.ofNat_lt
          rw [eq]
          cases hh : Uw27.holds s.nets[n] y with
          | true =>
            rw [hh] at hg
            exact iteT ⟨_, rfl, hg y rfl _ _ (Same.refl _) ⟨a, rfl, hay'⟩⟩
          | false =>
            rw [hh] at hs
            exact iteF (hs rfl _ (Same.refl _))
      · rw [List.length_map, h3.1, given_pick] at al
        obtain ⟨bs, rfl, hbs⟩ := al_sh al
        refine k _ _ (e1.trans e) ⟨D, bs, rfl, hys, ?_⟩
        unfold Uw27.Season.taken
        rw [hm]
        exact hbs
end
end Sm
end
section
/-! catches: small_of, landed_of, catch_on. -/
namespace Sm
open PySem PySem.Spec PyProof.Rows L2
open Uw27 (Season Shoal)
section
variable {P : Program} {w : World} {K : PySem.W.Frag} {mg : Str → Option Value} {base : Heap} {C : Addr}
theorem given_map {β γ : Type} (o : Nat → Option β) (g : β → γ) (n : Nat) : given (fun i => (o i).map g) n = (given o n).map g := by
  unfold given
  rw [List.map_filterMap]
theorem given_fun {β : Type} (g : Nat → β) (n : Nat) : given (fun i => some (g i)) n = (List.range n).map g := by
  unfold given
  exact congrFun (List.filterMap_eq_map (f := g)) _
theorem sum_cast : ∀ ns : List Nat, (ns.map fun n : Nat => (n : Int)).sum = ((ns.sum : Nat) : Int)
  | [] => rfl
  | n :: r => by rw [List.map_cons, List.sum_cons, List.sum_cons, sum_cast r]; rfl
theorem nV_ints (ns : List Nat) : ns.map nV = (ns.map fun n : Nat => (n : Int)).map V.int := by rw [List.map_map]; rfl
/-- a shoal of a list -/
theorem ref_at {as : List Addr} {i : Nat} {x : V} (h : (as.map V.ref)[i]? = some x) : ∃ a, as[i]? = some a ∧ x = .ref a := by
  rw [List.getElem?_map] at h
  cases e : as[i]? with
  | none => rw [e] at h; cases h
  | some a => rw [e] at h; exact ⟨a, rfl, (Option.some.inj h).symm⟩
theorem pick_no {β γ : Type} {f : β → Bool} {g : β → γ} {y : β} (h : f y = false) : ((some y).filter f).map g = none := by
  rw [Option.filter_some, h]
  rfl
theorem pick_yes {β γ : Type} {f : β → Bool} {g : β → γ} {y : β} (h : f y = true) : ((some y).filter f).map g = some (g y) := by
  rw [Option.filter_some, h]
  rfl
/-! small_of -/
theorem sc5 : FnScope ["season", "shoals", "shoal"] ["season", "shoals"] (defScope (topS 5)) := ⟨rfl, rfl, rfl, by decide +kernel, rfl, by decide +kernel, by decide +kernel⟩
theorem dn_small_of (A : At K mg "small_of" (topS 5)) (T : Txt K mg C) (D4 : Dn P w K mg base 1 "is_landed" ["season", "shoal"] (spIsLanded C)) : Dn P w K mg base 2 "small_of" ["season", "shoals"] (spSmallOf C) := by
  refine dn_ok A sc5 (fun _ _ _ _ _ _ us hl => match us, hl with | [_, _], _ => rfl) (fun vs H Q E h => ?_) fun f cdv A outer s H vs Q E hr h => ?_
  · obtain ⟨L, s, v, xs, rfl, _⟩ := h
    rfl
  · refine ⟨_, pss_one (ps_ret (pe_callB (cr_sum rfl) (by rfl) T.sum (by decide +kernel) (pa_cons
      (pe_lc (own := [("shoal", 2)]) (g := gName 2) (tt := tNot (tB (tDn (spIsLanded C) (tCons (tVar 0) (tCons (tVar 2) tNil))))) (te := tOp (rIxT K) (tVar 2) (tC (.int 2))) rfl sc5.nd (pi_list (pv 1)) (blkOk_by (N := ["season", "shoals", "shoal"]) (sc := defScope (topS 5)) (by decide +kernel)) (fun _ _ _ _ _ => pg_name (i := 2) sc5.nd rfl (Or.inl rfl))
        (fun _ _ _ _ _ => pts_one (pt_not (pt_val (pe_dn D4 hr (pa_cons (pv 0) (pa_cons (pv 2) pa_nil)))))) (fun _ _ _ _ _ => pe_ix ix_tup (pv 2) pe_int (fun _ _ => rfl))) pa_nil))), ?_⟩
    obtain ⟨L, s, v, xs, rfl, R, ⟨p, as, rfl, hp, has⟩, h6, hk, k⟩ := h
    refine ⟨_, rfl, p, rfl, ⟨_, SqL.of hp⟩, fun D hD => ?_⟩
    refine lc_listX (β := Nat) (R := RNat) rNat (fun i => ((xs[i]?).filter fun x => !s.large x).map fun x => x.many) (SqL.of hp) ?_ hD (fun i x H' hi e' => ?_) (fun H2 ys e hys al => ?_)
    · have := has.1
      rw [List.length_map]
      omega
    · obtain ⟨a, ha, rfl⟩ := ref_at hi
      obtain ⟨y, hy, hay⟩ := has.atL ha
      intro Sk Gv hs hg
      rw [hy] at hs hg
      refine ⟨rfl, _, rfl, _, rfl, L, s, a, y, rfl, R.ex e', e' _ _ hay, hk y (List.mem_of_getElem? hy), fun H2 e2 => ⟨_, rfl, ?_⟩⟩
      cases hl : s.large y with
      | true => exact iteF (hs (pick_no (by rw [hl]; rfl)) _ e2)
      | false => exact iteT ⟨_, rfl, a, _, _, _, rfl, rfl, SqT.of (e2 _ _ (e' _ _ hay)), rfl, hg y.many (pick_yes (by rw [hl]; rfl)) _ _ e2 rfl⟩
    · rw [List.length_map, has.1, given_map, given_pick] at al
      have e1 := al_nat al
      rw [nV_ints] at e1
      subst e1
      refine ⟨D, _, rfl, SqL.of hys, ?_⟩
      rw [sum_cast]
      exact k _ e
/-! landed_of -/
theorem sc6 : FnScope ["season", "shoals", "kind", "shoal"] ["season", "shoals", "kind"] (defScope (topS 6)) := ⟨rfl, rfl, rfl, by decide +kernel, rfl, by decide +kernel, by decide +kernel⟩
theorem dec_nV (a b : Nat) : decide (nV a = nV b) = (a == b) := by
  rw [show decide (nV a = nV b) = ((a : Int) == (b : Int)) from dec_int]
  rw [Bool.eq_iff_iff, beq_iff_eq, beq_iff_eq]
  exact Int.ofNat_inj
theorem dn_landed_of (A : At K mg "landed_of" (topS 6)) (T : Txt K mg C) (D4 : Dn P w K mg base 1 "is_landed" ["season", "shoal"] (spIsLanded C)) : Dn P w K mg base 2 "landed_of" ["season", "shoals", "kind"] (spLandedOf C) := by
  refine dn_ok A sc6 (fun _ _ _ _ _ _ us hl => match us, hl with | [_, _, _], _ => rfl) (fun vs H Q E h => ?_) fun f cdv A outer s H vs Q E hr h => ?_
  · obtain ⟨L, s, v, xs, kd, rfl, _⟩ := h
    rfl
  · refine ⟨_, pss_one (ps_ret (pe_callB (cr_sum rfl) (by rfl) T.sum (by decide +kernel) (pa_cons
      (pe_lc (own := [("shoal", 3)]) (g := gName 3) (tt := tAnd (tTest (tOp rEq (tOp (rIxT K) (tVar 3) (tC (.int 0))) (tVar 2))) (tB (tDn (spIsLanded C) (tCons (tVar 0) (tCons (tVar 3) tNil))))) (te := tOp (rIxT K) (tVar 3) (tC (.int 2))) rfl sc6.nd (pi_list (pv 1)) (blkOk_by (N := ["season", "shoals", "kind", "shoal"]) (sc := defScope (topS 6)) (by decide +kernel)) (fun _ _ _ _ _ => pg_name (i := 3) sc6.nd rfl (Or.inl rfl))
        (fun _ _ _ _ _ => pts_one (PW.pt (pw_and (pt_cmpR op_eq (pe_ix ix_tup (pv 3) pe_int (fun _ _ => rfl)) (pv 2) (nomark _)) (pw_and1 (pt_val (pe_dn D4 hr (pa_cons (pv 0) (pa_cons (pv 3) pa_nil)))))))) (fun _ _ _ _ _ => pe_ix ix_tup (pv 3) pe_int (fun _ _ => rfl))) pa_nil))), ?_⟩
    obtain ⟨L, s, v, xs, kd, rfl, R, ⟨p, as, rfl, hp, has⟩, h6, hk, k⟩ := h
    refine ⟨_, rfl, p, rfl, ⟨_, SqL.of hp⟩, fun D hD => ?_⟩
    refine lc_listX (β := Nat) (R := RNat) rNat (fun i => ((xs[i]?).filter fun x => x.kind == kd && s.large x).map fun x => x.many) (SqL.of hp) ?_ hD (fun i x H' hi e' => ?_) (fun H2 ys e hys al => ?_)
    · have := has.1
      rw [List.length_map]
      omega
    · obtain ⟨a, ha, rfl⟩ := ref_at hi
      obtain ⟨y, hy, hay⟩ := has.atL ha
      intro Sk Gv hs hg
      rw [hy] at hs hg
      refine ⟨rfl, _, rfl, a, _, _, _, rfl, rfl, SqT.of (e' _ _ hay), rfl, _, rfl, rfl, _, rfl, ?_⟩
      rw [dec_nV]
      cases hb : (y.kind == kd) with
      | false => exact iteF (hs (pick_no (by rw [hb]; rfl)) _ (Same.refl _))
      | true =>
        refine iteT ⟨_, rfl, _, rfl, L, s, a, y, rfl, R.ex e', e' _ _ hay, hk y (List.mem_of_getElem? hy), fun H2 e2 => ⟨_, rfl, ?_⟩⟩
        cases hl : s.large y with
        | true => exact iteT ⟨_, rfl, a, _, _, _, rfl, rfl, SqT.of (e2 _ _ (e' _ _ hay)), rfl, hg y.many (pick_yes (by rw [hb, hl]; rfl)) _ _ e2 rfl⟩
        | false => exact iteF (hs (pick_no (by rw [hb, hl]; rfl)) _ e2)
    · rw [List.length_map, has.1, given_map, given_pick] at al
      have e1 := al_nat al
      rw [nV_ints] at e1
      subst e1
      refine ⟨D, _, rfl, SqL.of hys, ?_⟩
      rw [sum_cast]
      exact k _ e
/-! catch_on -/
theorem sc7 : FnScope ["season", "day", "net", "shoals", "landed", "worth", "kind", "many"] ["season", "day", "net"] (defScope (topS 7)) := ⟨rfl, rfl, rfl, by decide +kernel, rfl, by decide +kernel, by decide +kernel⟩
theorem landed_most {s : Season} (o : SOk s) (d n k : Nat) : landedOf s (s.taken d n) k ≤ 6000 := by
  have h1 := o.taken_len d n
  have h2 := o.taken d n
  unfold landedOf
  revert h1 h2
  have key : ∀ xs : List Shoal, (∀ x ∈ xs, ShOk s x) → ((xs.filter fun x => x.kind == k && s.large x).map fun x => x.many).sum ≤ xs.length * 1000 := by
    intro xs
    induction xs with
    | nil => intro _; simp
    | cons x r ih =>
      intro h
      have i1 := ih fun y hy => h y (List.mem_cons_of_mem _ hy)
      have i2 := (h x List.mem_cons_self).many
      rw [List.filter_cons]
      split
      · rw [List.map_cons, List.sum_cons, List.length_cons]; omega
      · rw [List.length_cons]; omega
  intro h1 h2
  have := key _ h2
  omega
theorem dn_catch_on (A : At K mg "catch_on" (topS 7)) (T : Txt K mg C) (D3 : Dn P w K mg base 2 "shoals_taken" ["season", "day", "net"] (spTaken C)) (D5 : Dn P w K mg base 2 "small_of" ["season", "shoals"] (spSmallOf C)) (D6 : Dn P w K mg base 2 "landed_of" ["season", "shoals", "kind"] (spLandedOf C)) :
    Dn P w K mg base 3 "catch_on" ["season", "day", "net"] (spCatchOn C) := by
  refine dn_ok A sc7 (fun _ _ _ _ _ _ us hl => match us, hl with | [_, _, _], _ => rfl) (fun vs H Q E h => ?_) fun f cdv A outer s H vs Q E hr h => ?_
  · obtain ⟨L, s, d, n, rfl, _⟩ := h
    rfl
  · refine ⟨_, pss_cons (ps_set (i := 3) sc7.nd rfl (Or.inr rfl) (pe_dn D3 hr (pa_cons (pv 0) (pa_cons (pv 1) (pa_cons (pv 2) pa_nil)))))
      (pss_cons (ps_setLc (i := 4) (own := [("kind", 6)]) (g := gName 6) (tt := tYes) (te := tDn (spLandedOf C) (tCons (tVar 0) (tCons (tVar 3) (tCons (tVar 6) tNil)))) rfl sc7.nd rfl rfl (sw_true rfl rfl rfl (by decide +kernel)) (pi_range1 rfl T.range (pa_cons (pe_callB call_len_seq (by rfl) T.len PySem.boot_len (pa_cons (pe_fld (pv 0) rfl) pa_nil)) pa_nil))
        (blkOk_by (N := ["season", "day", "net", "shoals", "landed", "worth", "kind", "many"]) (sc := defScope (topS 7)) (by decide +kernel)) (fun _ _ _ _ _ => pg_name (i := 6) sc7.nd rfl (Or.inl rfl)) (fun _ _ _ _ _ => pts_nil) (fun _ _ _ _ _ => pe_dn D6 hr (pa_cons (pv 0) (pa_cons (pv 3) (pa_cons (pv 6) pa_nil)))))
      (pss_cons (ps_set (i := 5) sc7.nd rfl (Or.inl rfl) (pe_callB (cr_sum rfl) (by rfl) T.sum (by decide +kernel) (pa_cons
        (pe_lc (own := [("many", 7), ("kind", 6)]) (g := gTup K 2 (gCons (gName 7) (gCons (gName 6) gNil))) (tt := tYes) (te := tOp (rI (fun i j => (-(2 ^ 64) < i ∧ i < 2 ^ 64) ∨ (-(2 ^ 64) < j ∧ j < 2 ^ 64)) fun i j => .int (i * j)) (tVar 7) (tOp (rIxT K) (tVar 6) (tC (.int 0)))) rfl sc7.nd (pi_zip (by rfl) T.zip (pa_cons (pv 4) (pa_cons (pe_fld (pv 0) rfl) pa_nil)))
          (blkOk_by (N := ["season", "day", "net", "shoals", "landed", "worth", "kind", "many"]) (sc := defScope (topS 7)) (by decide +kernel)) (fun _ _ _ _ _ => pg_tup rfl (pgs_cons (pg_name (i := 7) sc7.nd rfl (Or.inl rfl)) (pgs_cons (pg_name (i := 6) sc7.nd rfl (Or.inl rfl)) pgs_nil))) (fun _ _ _ _ _ => pts_nil)
          (fun _ _ _ _ _ => pe_op op_mul (pv 7) (pe_ix ix_tup (pv 6) pe_int (fun _ _ => rfl)))) pa_nil)))
      (pss_one (ps_ret (pe_tup (pa_cons (pv 5) (pa_cons (pe_dn D5 hr (pa_cons (pv 0) (pa_cons (pv 3) pa_nil))) (pa_cons (pe_callTy call_tuple_of (by rfl) T.tuple (by decide +kernel) (pa_cons (pv 4) pa_nil)) pa_nil)))))))), ?_⟩
    obtain ⟨L, s, d, n, rfl, R, hd, hn, k⟩ := h
    refine ⟨_, rfl, _, rfl, _, rfl, L, s, d, n, rfl, R, hd, hn, fun v1 H1 e1 S1 => ?_⟩
    have R1 := R.ex e1
    have hkl : s.kinds.length = L.ks.length := R.kt.1.symm
    have hnk := R.ok.nk
    -- landed = [..]
    refine ⟨_, rfl, L.sa, C, L.dx, _, _, rfl, R1.ins, T.cl, T.n2, lkK, L.ka, _, rfl, .inl (SqL.of R1.kl), _, rfl, by rw [List.length_map]; omega, by rw [List.length_map]; omega, fun D hD => ?_⟩
    refine lc_rangeX (β := Nat) (R := RNat) rNat (fun i => some (landedOf s (s.taken d n) i)) (by rw [List.length_map]; omega) hD (fun i H' hi e' => ?_) (fun H2 ys e2 hys al => ?_)
    · intro Sk Gv hs hg
      refine ⟨rfl, _, rfl, _, rfl, _, rfl, L, s, v1, s.taken d n, i, ?_, R1.ex e', S1.ex e', R.ok.taken_len d n, fun x hx => (R.ok.taken d n x hx).kind, fun H2 e2 => hg _ rfl _ _ e2 rfl⟩
      rw [Int.zero_add]
    have e0 : ((List.map V.ref L.ks).length : Int).toNat = s.kinds.length := by rw [List.length_map, hkl]; rfl
    rw [e0, given_fun] at al
    have ey := al_nat al
    subst ey
    have R2 := R1.ex e2
    have S2 := S1.ex e2
    -- worth = sum([..])
    refine ⟨_, rfl, _, rfl, L.sa, C, L.dx, _, _, rfl, R2.ins, T.cl, T.n2, lkK, D, L.ka, _, _, rfl, SqL.of hys, SqL.of R2.kl, fun D2 hD2 => ?_⟩
    refine lc_zipX (β := Nat) (R := RNat) rNat (fun i => some (landedOf s (s.taken d n) i * (s.kind i).worth)) (SqL.of hys) (SqL.of R2.kl) (by rw [List.length_map, List.length_map, List.length_map, List.length_range, hkl]) (by rw [List.length_map, List.length_map, List.length_range]; omega) hD2 (fun i x y Tp H' hx hy e' hT => ?_) (fun H3 zs e3 hzs al2 => ?_)
    · intro Sk Gv hs hg
      have hi : i < s.kinds.length := by
        have := (List.getElem?_eq_some_iff.mp hy).1
        rw [List.length_map] at this
        omega
      rw [List.getElem?_map, List.getElem?_map, List.getElem?_range hi] at hx
      cases hx
      obtain ⟨b, hb, hb2⟩ := R2.kindAt hi
      rw [hb] at hy
      cases hy
      refine ⟨Tp, _, rfl, SqT.of hT, rfl, _, _, rfl, _, _, rfl, rfl, rfl, ?_⟩
      refine ⟨_, rfl, _, rfl, b, _, _, _, rfl, rfl, SqT.of (e' _ _ hb2), rfl, _, _, rfl, rfl, .inl ?_, ?_⟩
      · have := landed_most R.ok d n i
        omega
      · exact hg _ rfl _ _ (Same.refl _) rfl
    rw [List.length_map, List.length_map, List.length_range, given_fun] at al2
    have ez := al_nat al2
    rw [nV_ints] at ez
    subst ez
    refine ⟨D2, _, rfl, SqL.of hzs, ?_⟩
    rw [sum_cast]
    have R3 := R2.ex e3
    refine ⟨_, rfl, _, rfl, _, rfl, L, s, v1, s.taken d n, rfl, R3, S2.ex e3, R.ok.taken_len d n, fun x hx => (R.ok.taken d n x hx).kind, fun H4 e4 => ?_⟩
    refine ⟨_, rfl, D, _, rfl, .inl ⟨SqL.of (e4 _ _ (e3 _ _ hys)), fun t ht => ⟨by show 3 ≤ sizeLine; decide, fun p hp => ?_⟩⟩⟩
    exact k _ _ (((((e1.trans e2).trans e3).trans e4).trans (Same.new ht)).trans (Same.new hp)) ⟨p, t, rfl, upd_same, Same.new hp _ _ upd_same⟩
end
end Sm
end
section
/-! catches: together, first_over, is_right, changes_in. -/
namespace Sm
open PySem PySem.Spec PyProof.Rows L2
open Uw27 (Season Shoal)
section
variable {P : Program} {w : World} {K : PySem.W.Frag} {mg : Str → Option Value} {base : Heap} {C : Addr}
/-- over two tuples: each pair a new tuple at T -/
theorem lc_zipXT {β : Type} {R : V → β → Hp → Prop} {g : TG} {t : TT} {te : TE} {vs : List Nat} {σ : L2.St} {H1 : Hp} {D : Addr} {Qd : Hp → Prop} {a b : Addr} {xs ys : List V} (hR : RTu R) (opt : Nat → Option β) (hx : SqT K H1 a xs) (hy : SqT K H1 b ys) (hl : xs.length = ys.length) (hz : xs.length ≤ 40000) (hD : H1 D = none)
    (hs : ∀ i x y T H, xs[i]? = some x → ys[i]? = some y → Same H1 H → H T = some (.tup [x, y]) → Turn1 R g t te vs σ (opt i) (.ref T) H) (hd : ∀ H zs, Same H1 H → H D = some (.lst zs) → Al (fun v b => R v b H) zs (given opt xs.length) → Qd H) :
    ∃ W : Nat → Nat → Hp → Prop, (∃ m, W 0 m (upd H1 D (.lst []))) ∧ ∀ i m H, W i m H →
      ((RZ.ItzT K a b).stop i H ∧ Qd H) ∨ ((RZ.ItzT K a b).go i H ∧ ∃ Nx : Hp → Prop, (∀ H', Nx H' → ∃ m', m' < m ∧ W (i + 1) m' H') ∧ ∀ x H', (RZ.ItzT K a b).yld i H x H' → g x (wipe σ vs) H' fun σ2 H2 => wipe σ2 vs = wipe σ vs ∧ t σ2 H2 fun b H3 =>
        if b = true then te σ2 H3 fun y H4 => ∃ acc, H4 D = some (.lst acc) ∧ acc.length < sizeLine ∧ Nx (upd H4 D (.lst (acc ++ [y]))) else Nx H3) := by
  refine ⟨fun i m H => m = xs.length - i ∧ i ≤ xs.length ∧ Cw R H1 opt D i H, ⟨xs.length, by simp, Nat.zero_le _, hD, Same.new hD, [], upd_same, Al.nil⟩, ?_⟩
  rintro i m H ⟨rfl, hi, p⟩
  have qx := Same.seqT p.2.1 hx
  have qy := Same.seqT p.2.1 hy
  by_cases hlt : i < xs.length
  · have hxi : xs[i]? = some xs[i] := List.getElem?_eq_getElem hlt
    have hlt2 : i < ys.length := by omega
    have hyi : ys[i]? = some ys[i] := List.getElem?_eq_getElem hlt2
    refine .inr ⟨⟨xs, ys, _, _, qx, qy, hxi, hyi⟩, Cw R H1 opt D (i + 1), fun H' p' => ⟨xs.length - (i + 1), by omega, rfl, hlt, p'⟩, fun v H' y => ?_⟩
    obtain ⟨T, x', y', rfl, hT, rfl, f1, f2⟩ := y
    exact cw_turn hR (by omega) p (Same.new hT) (hs i x' y' T _ (f1 xs qx) (f2 ys qy) (p.2.1.trans (Same.new hT)) upd_same)
  · have e : i = xs.length := by omega
    subst e
    refine .inl ⟨⟨xs, ys, qx, qy, Or.inl (Nat.le_refl _)⟩, ?_⟩
    obtain ⟨_, p2, zs, p3, p4⟩ := p
    exact hd H zs p2 p3 p4
/-! together -/
theorem sc8 : FnScope ["one", "other", "landed", "here", "there"] ["one", "other"] (defScope (topS 8)) := ⟨rfl, rfl, rfl, by decide +kernel, rfl, by decide +kernel, by decide +kernel⟩
theorem zip_given : ∀ (l m : List Nat), l.length = m.length → (List.range l.length).map (fun i => l.getD i 0 + m.getD i 0) = List.zipWith (fun x y => x + y) l m := by
  intro l m h
  apply List.ext_getElem
  · simp [h]
  · intro i h1 h2
    have hl : i < l.length := by simpa using h1
    have hm : i < m.length := by omega
    simp [List.getD_eq_getElem?_getD, List.getElem?_eq_getElem hl, List.getElem?_eq_getElem hm]
theorem dn_together (A : At K mg "together" (topS 8)) (T : Txt K mg C) : Dn P w K mg base 1 "together" ["one", "other"] spTogether := by
  refine dn_ok A sc8 (fun _ _ _ _ _ _ us hl => match us, hl with | [_, _], _ => rfl) (fun vs H Q E h => ?_) fun f cdv A outer s H vs Q E hr h => ?_
  · obtain ⟨v1, v2, c1, c2, rfl, _⟩ := h
    rfl
  · refine ⟨_, pss_cons (ps_set (i := 2) sc8.nd rfl (Or.inl rfl) (pe_callTy call_tuple_of (by rfl) T.tuple (by decide +kernel) (pa_cons
        (pe_lc (own := [("here", 3), ("there", 4)]) (g := gTup K 2 (gCons (gName 3) (gCons (gName 4) gNil))) (tt := tYes) (te := tOp (rI0 fun i j => .int (i + j)) (tVar 3) (tVar 4)) rfl sc8.nd (RZ.pi_zipA (by rfl) T.zip (pa_cons (pe_ix ix_tup (pv 0) pe_int (fun _ _ => rfl)) (pa_cons (pe_ix ix_tup (pv 1) pe_int (fun _ _ => rfl)) pa_nil)))
          (blkOk_by (N := ["one", "other", "landed", "here", "there"]) (sc := defScope (topS 8)) (by decide +kernel)) (fun _ _ _ _ _ => pg_tup rfl (pgs_cons (pg_name (i := 3) sc8.nd rfl (Or.inl rfl)) (pgs_cons (pg_name (i := 4) sc8.nd rfl (Or.inl rfl)) pgs_nil))) (fun _ _ _ _ _ => pts_nil)
          (fun _ _ _ _ _ => pe_op op_add (pv 3) (pv 4))) pa_nil)))
      (pss_one (ps_ret (pe_tup (pa_cons (pe_op op_add (pe_ix ix_tup (pv 0) pe_int (fun _ _ => rfl)) (pe_ix ix_tup (pv 1) pe_int (fun _ _ => rfl))) (pa_cons (pe_op op_add (pe_ix ix_tup (pv 0) pe_int (fun _ _ => rfl)) (pe_ix ix_tup (pv 1) pe_int (fun _ _ => rfl))) (pa_cons (pv 2) pa_nil)))))), ?_⟩
    obtain ⟨v1, v2, c1, c2, rfl, ⟨a1, b1, rfl, h1, h2⟩, ⟨a2, b2, rfl, g1, g2⟩, hl, h3, k⟩ := h
    refine ⟨_, rfl, a1, _, _, _, rfl, rfl, SqT.of h1, rfl, _, rfl, a2, _, _, _, rfl, rfl, SqT.of g1, rfl, b1, b2, _, _, rfl, .inr ⟨SqT.of h2, SqT.of g2, fun D hD => ?_⟩⟩
    refine lc_zipXT (β := Nat) (R := RNat) rNat (fun i => some (c1.l.getD i 0 + c2.l.getD i 0)) (SqT.of h2) (SqT.of g2) (by rw [List.length_map, List.length_map, hl]) (by rw [List.length_map]; omega) hD (fun i x y Tp H' hx hy e' hT => ?_) (fun H2 zs e hzs al => ?_)
    · intro Sk Gv hs hg
      rw [List.getElem?_map] at hx hy
      have hi : i < c1.l.length := by
        cases e : c1.l[i]? with
        | none => rw [e] at hx; cases hx
        | some _ => exact (List.getElem?_eq_some_iff.mp e).1
      have hi2 : i < c2.l.length := by omega
      have z1 : c1.l[i]? = some (c1.l.getD i 0) := by rw [List.getD_eq_getElem?_getD, List.getElem?_eq_getElem hi]; rfl
      have z2 : c2.l[i]? = some (c2.l.getD i 0) := by rw [List.getD_eq_getElem?_getD, List.getElem?_eq_getElem hi2]; rfl
      rw [z1] at hx
      rw [z2] at hy
      cases hx
      cases hy
      exact ⟨Tp, _, rfl, SqT.of hT, rfl, _, _, rfl, _, _, rfl, rfl, rfl, _, rfl, _, rfl, _, _, rfl, rfl, hg _ rfl _ _ (Same.refl _) rfl⟩
    · rw [List.length_map, given_fun, zip_given _ _ hl] at al
      have ez := al_nat al
      subst ez
      refine ⟨D, _, rfl, .inl ⟨SqL.of hzs, fun t ht => ?_⟩⟩
      have e2 := e.trans (Same.new (o := .tup (List.map nV (List.zipWith (fun x y => x + y) c1.l c2.l))) ht)
      refine ⟨_, rfl, a1, _, _, _, rfl, rfl, SqT.of (e2 _ _ h1), rfl, _, rfl, a2, _, _, _, rfl, rfl, SqT.of (e2 _ _ g1), rfl, _, _, rfl, rfl, ?_⟩
      refine ⟨_, rfl, a1, _, _, _, rfl, rfl, SqT.of (e2 _ _ h1), rfl, _, rfl, a2, _, _, _, rfl, rfl, SqT.of (e2 _ _ g1), rfl, _, _, rfl, rfl, ?_⟩
      refine ⟨_, rfl, by show 3 ≤ sizeLine; decide, fun p hp => ?_⟩
      exact k _ _ (e2.trans (Same.new hp)) ⟨p, t, rfl, upd_same, Same.new hp _ _ upd_same⟩
/-! first_over -/
theorem sc9 : FnScope ["season", "catch", "kind"] ["season", "catch"] (defScope (topS 9)) := ⟨rfl, rfl, rfl, by decide +kernel, rfl, by decide +kernel, by decide +kernel⟩
theorem find_at {p : Nat → Bool} {n i : Nat} (hi : i < n) (h : p i = true) (h0 : ∀ j, j < i → p j = false) : (List.range n).find? p = some i := by
  rw [List.find?_range_eq_some]
  exact ⟨h, List.mem_range.mpr hi, fun j hj => by rw [h0 j hj]; rfl⟩
theorem find_no {p : Nat → Bool} {n : Nat} (h0 : ∀ j, j < n → p j = false) : (List.range n).find? p = none := by
  rw [List.find?_eq_none]
  intro j hj
  rw [h0 j (List.mem_range.mp hj)]
  exact Bool.false_ne_true
theorem landedL_at {s : Season} {xs : List Shoal} {k : Nat} (h : k < s.kinds.length) : ((landedL s xs).map nV)[k]? = some (nV (landedOf s xs k)) := by
  unfold landedL
  rw [List.getElem?_map, List.getElem?_map, List.getElem?_range h]
  rfl
theorem dn_first_over (A : At K mg "first_over" (topS 9)) (T : Txt K mg C) : Dn P w K mg base 1 "first_over" ["season", "catch"] (spFirstOver C) := by
  refine dn_ok A sc9 (fun _ _ _ _ _ _ us hl => match us, hl with | [_, _], _ => rfl) (fun vs H Q E h => ?_) fun f cdv A outer s H vs Q E hr h => ?_
  · obtain ⟨L, s, v, xs, rfl, _⟩ := h
    rfl
  · refine ⟨_, pss_cons (ps_for PassesOwn.never rfl (pi_range1 rfl T.range (pa_cons (pe_callB call_len_seq (by rfl) T.len PySem.boot_len (pa_cons (pe_fld (pv 0) rfl) pa_nil)) pa_nil)) (pg_name (i := 2) sc9.nd rfl (Or.inl rfl))
        (pss_one (ps_if (pt_cmpR op_gt (pe_ix ix_tup (pe_ix ix_tup (pv 1) pe_int (fun _ _ => rfl)) (pv 2) (fun _ _ => rfl)) (pe_ix ix_tup (pe_ix ix_list (pe_fld (pv 0) rfl) (pv 2) (fun _ _ => rfl)) pe_int (fun _ _ => rfl)) (nomark _)) (pss_one (ps_ret (pv 2))) pss_nil)))
      (pss_one (ps_ret pe_non)), ?_⟩
    obtain ⟨L, s, v, xs, rfl, R, ⟨a, b, rfl, h1, h2⟩, k⟩ := h
    have hkl : s.kinds.length = L.ks.length := R.kt.1.symm
    have hnk := R.ok.nk
    refine ⟨_, rfl, L.sa, C, L.dx, _, _, rfl, R.ins, T.cl, T.n2, lkK, L.ka, _, rfl, .inl (SqL.of R.kl), _, rfl, by rw [List.length_map]; omega, by rw [List.length_map]; omega, ?_⟩
    have e0 : ((List.map V.ref L.ks).length : Int).toNat = s.kinds.length := by rw [List.length_map, hkl]; rfl
    rw [e0]
    refine for_range (lo := 0) (n := s.kinds.length) (fun i σ H' => ∃ x, σ = [some (.ref L.sa), some (.ref a), x] ∧ H' = H ∧ ∀ j, j < i → decide ((s.kind j).quota < landedOf s xs j) = false) ⟨none, rfl, rfl, fun j hj => absurd hj (Nat.not_lt_zero _)⟩ ?_ ?_
    · rintro i σ H' hi ⟨x, rfl, rfl, h0⟩
      obtain ⟨q, hq, hq2⟩ := R.kindAt hi
      refine ⟨_, rfl, a, _, _, _, rfl, rfl, SqT.of h1, rfl, _, rfl, b, _, _, _, rfl, rfl, SqT.of h2, by rw [Int.zero_add]; exact atI_nat (landedL_at hi), ?_⟩
      refine ⟨_, rfl, L.sa, C, L.dx, _, _, rfl, R.ins, T.cl, T.n2, lkK, _, rfl, L.ka, _, _, _, rfl, rfl, SqL.of R.kl, by rw [Int.zero_add]; exact atI_nat hq, q, _, _, _, rfl, rfl, SqT.of hq2, rfl, _, _, rfl, rfl, _, rfl, ?_⟩
      have eq : decide (((s.kind i).quota : Int) < (landedOf s xs i : Int)) = decide ((s.kind i).quota < landedOf s xs i) := decide_eq_decide.mpr Int.ofNat_lt
      rw [eq]
      cases hd : decide ((s.kind i).quota < landedOf s xs i) with
      | true =>
        refine iteT ⟨_, rfl, ?_⟩
        have q := k H' (Same.refl _)
        unfold overC at q
        rw [find_at hi hd h0] at q
        rw [Int.zero_add]
        exact q
      | false =>
        refine iteF ⟨_, rfl, rfl, fun j hj => ?_⟩
        by_cases c : j = i
        · rw [c]; exact hd
        · exact h0 j (by omega)
    · rintro σ H' ⟨x, rfl, rfl, h0⟩
      have q := k H' (Same.refl _)
      unfold overC at q
      rw [find_no h0] at q
      exact q
/-! is_right -/
theorem sc10 : FnScope ["season", "catch"] ["season", "catch"] (defScope (topS 10)) := ⟨rfl, rfl, rfl, by decide +kernel, rfl, by decide +kernel, by decide +kernel⟩
theorem optV_non (o : Option Nat) : decide (optV o = V.non) = o.isNone := by
  cases o with
  | none => rfl
  | some k => rfl
theorem dn_is_right (A : At K mg "is_right" (topS 10)) (T : Txt K mg C) (D9 : Dn P w K mg base 1 "first_over" ["season", "catch"] (spFirstOver C)) : Dn P w K mg base 2 "is_right" ["season", "catch"] (spIsRight C) := by
  refine dn_ok A sc10 (fun _ _ _ _ _ _ us hl => match us, hl with | [_, _], _ => rfl) (fun vs H Q E h => ?_) fun f cdv A outer s H vs Q E hr h => ?_
  · obtain ⟨L, s, v, xs, rfl, _⟩ := h
    rfl
  · refine ⟨_, pss_one (ps_ret (pe_and (pe_cmpR op_le (pe_ix ix_tup (pv 1) pe_int (fun _ _ => rfl)) (pe_fld (pv 0) rfl) (nomark _)) (pe_one (pe_cmp (pc_isN (pe_dn D9 hr (pa_cons (pv 0) (pa_cons (pv 1) pa_nil)))))))), ?_⟩
    obtain ⟨L, s, v, xs, rfl, R, hc, k⟩ := h
    obtain ⟨a, b, rfl, h1, h2⟩ := id hc
    refine ⟨_, rfl, a, _, _, _, rfl, rfl, SqT.of h1, rfl, _, rfl, L.sa, C, L.dx, _, _, rfl, R.ins, T.cl, T.n1, lkS, _, _, rfl, rfl, _, rfl, ?_⟩
    have eq : decide ((smallOf s xs : Int) ≤ (s.waste : Int)) = decide (smallOf s xs ≤ s.waste) := decide_eq_decide.mpr Int.ofNat_le
    show (if decide ((smallOf s xs : Int) ≤ (s.waste : Int)) = true then _ else _)
    rw [eq]
    cases hd : decide (smallOf s xs ≤ s.waste) with
    | true =>
      refine iteT ⟨_, rfl, _, rfl, L, s, .ref a, xs, rfl, R, hc, fun H1 e1 => ?_⟩
      show Q (V.bl (decide (optV (overC s xs) = V.non))) H1
      rw [optV_non]
      have q := k H1 e1
      unfold rightC at q
      rw [hd] at q
      exact q
    | false =>
      refine iteF ?_
      have q := k H (Same.refl _)
      unfold rightC at q
      rw [hd] at q
      exact q
/-! changes_in -/
theorem sc11 : FnScope ["plan", "place"] ["plan"] (defScope (topS 11)) := ⟨rfl, rfl, rfl, by decide +kernel, rfl, by decide +kernel, by decide +kernel⟩
theorem SqA.ex {H H' : Hp} {p : Addr} {xs : List V} (e : Same H H') (h : SqA K H p xs) : SqA K H' p xs := h.elim (fun q => .inl (Same.seq e q)) fun q => .inr (Same.seqT e q)
theorem rix_of {H : Hp} {p : Addr} {xs : List V} {i : Int} {v : V} {Q : VK} (h : SqA K H p xs) (e : atI xs i = some v) (q : Q v H) : rIx K (.ref p) (.int i) H Q :=
  h.elim (fun z => .inl ⟨p, xs, i, v, rfl, rfl, z, e, q⟩) fun z => .inr (.inl ⟨p, xs, i, v, rfl, rfl, z, e, q⟩)
theorem given_if {β : Type} (f : Nat → Bool) (g : Nat → β) : ∀ n, (given (fun i => if f i = true then some (g i) else none) n).length = ((List.range n).filter f).length
  | 0 => rfl
  | n + 1 => by
    have ih := given_if f g n
    rw [List.range_succ, List.filter_append, List.length_append, ← ih]
    cases h : f n with
    | true =>
      rw [given_some (b := g n) (by rw [if_pos h]), List.length_append]
      simp [h]
    | false =>
      rw [given_none (by rw [if_neg (by rw [h]; exact Bool.false_ne_true)])]
      simp [h]
theorem nat_at {l : List Nat} {i : Nat} (h : i < l.length) : (l.map nV)[i]? = some (nV (l.getD i 0)) := by
  rw [List.getElem?_map, List.getElem?_eq_getElem h, List.getD_eq_getElem?_getD, List.getElem?_eq_getElem h]
  rfl
theorem dn_changes (A : At K mg "changes_in" (topS 11)) (T : Txt K mg C) : Dn P w K mg base 1 "changes_in" ["plan"] (spChanges K) := by
  refine dn_ok A sc11 (fun _ _ _ _ _ _ us hl => match us, hl with | [_], _ => rfl) (fun vs H Q E h => ?_) fun f cdv A outer s H vs Q E hr h => ?_
  · obtain ⟨p, l, rfl, _⟩ := h
    rfl
  · refine ⟨_, pss_one (ps_ret (pe_callB call_len_seq (by rfl) T.len PySem.boot_len (pa_cons
      (pe_lc (own := [("place", 1)]) (g := gName 1) (tt := tTest (tOp rNe (tOp (rIx K) (tVar 0) (tVar 1)) (tOp (rIx K) (tVar 0) (tOp (rI0 fun i j => .int (i - j)) (tVar 1) (tC (.int 1)))))) (te := tVar 1) rfl sc11.nd (pi_range2 rfl T.range (pa_cons pe_int (pa_cons (pe_callB call_len_seq (by rfl) T.len PySem.boot_len (pa_cons (pv 0) pa_nil)) pa_nil)))
        (blkOk_by (N := ["plan", "place"]) (sc := defScope (topS 11)) (by decide +kernel)) (fun _ _ _ _ _ => pg_name (i := 1) sc11.nd rfl (Or.inl rfl))
        (fun _ _ _ _ _ => pts_one (pt_cmpR op_ne (pe_ix ix_seq (pv 0) (pv 1) (fun _ _ => rfl)) (pe_ix ix_seq (pv 0) (pe_op op_sub (pv 1) pe_int) (fun _ _ => rfl)) (nomark _))) (fun _ _ _ _ _ => pv 1)) pa_nil))), ?_⟩
    obtain ⟨p, l, rfl, hp, h12, k⟩ := h
    refine ⟨_, rfl, p, _, rfl, hp, 1, _, rfl, ⟨by decide, by decide, by rw [List.length_map]; omega, by rw [List.length_map]; omega⟩, fun D hD => ?_⟩
    have e0 : (((List.map nV l).length : Int) - 1).toNat = l.length - 1 := by rw [List.length_map]; omega
    rw [e0]
    refine lc_rangeX (β := Nat) (R := RNat) rNat (fun i => if (l.getD i 0 != l.getD (i + 1) 0) = true then some (i + 1) else none) (by omega) hD (fun i H' hi e' => ?_) (fun H2 ys e hys al => ?_)
    · intro Sk Gv hs hg
      have z1 : (1 : Int) + (i : Int) = ((i + 1 : Nat) : Int) := by omega
      have z2 : (1 : Int) + (i : Int) - 1 = (i : Int) := by omega
      refine ⟨rfl, _, rfl, _, rfl, rix_of (hp.ex e') (by rw [z1]; exact atI_nat (nat_at (by omega))) ?_⟩
      refine ⟨_, rfl, _, rfl, _, _, rfl, rfl, rix_of (hp.ex e') (by rw [z2]; exact atI_nat (nat_at (by omega))) ⟨rfl, _, rfl, ?_⟩⟩
      rw [dec_nV]
      have sy : (!(l.getD (i + 1) 0 == l.getD i 0)) = (l.getD i 0 != l.getD (i + 1) 0) := by
        rw [Bool.eq_iff_iff, bne_iff_ne, Bool.not_eq_true', beq_eq_false_iff_ne]
        exact ⟨fun q z => q z.symm, fun q z => q z.symm⟩
      rw [sy]
      cases hb : (l.getD i 0 != l.getD (i + 1) 0) with
      | true =>
        rw [hb] at hg
        exact iteT ⟨_, rfl, hg (i + 1) rfl _ _ (Same.refl _) (by show V.int _ = V.int _; rw [z1])⟩
      | false =>
        rw [hb] at hs
        exact iteF (hs rfl _ (Same.refl _))
    · refine ⟨D, _, rfl, .inl (SqL.of hys), ?_⟩
      rw [al.1, given_if]
      exact k _ e
end
end Sm
end
section
/-! daily: net_for, plain_told, is_plan, catch_of, check_told. -/
namespace Sm
open PySem PySem.Spec PyProof.Rows L2
open Uw27 (Season Shoal)
section
variable {P : Program} {w : World} {K : PySem.W.Frag} {mg : Str → Option Value} {base : Heap} {C : Addr}
theorem landedL_len (s : Season) (xs : List Shoal) : (landedL s xs).length = s.kinds.length := by
  unfold landedL
  rw [List.length_map, List.length_range]
/-! net_for -/
theorem sc15 : FnScope ["season", "day", "catch", "best", "most", "net", "more"] ["season", "day", "catch"] (defScope (topS 15)) := ⟨rfl, rfl, rfl, by decide +kernel, rfl, by decide +kernel, by decide +kernel⟩
theorem net_step {s : Season} {d : Nat} {xs : List Shoal} {bm : Nat × Int} {n : Nat} {b : Bool} (h : (rightC s (xs ++ s.taken d n) && decide (bm.2 < (worthOf s (s.taken d n) : Int))) = b) :
    netStep s d xs bm n = if b = true then (n, (worthOf s (s.taken d n) : Int)) else bm := by
  unfold netStep
  subst h
  by_cases c : rightC s (xs ++ s.taken d n) = true ∧ bm.2 < (worthOf s (s.taken d n) : Int)
  · rw [if_pos c, if_pos (by rw [Bool.and_eq_true, decide_eq_true_eq]; exact c)]
  · rw [if_neg c, if_neg (by rw [Bool.and_eq_true, decide_eq_true_eq]; exact c)]
theorem dn_net_for (A : At K mg "net_for" (topS 15)) (T : Txt K mg C) (D2 : Dn P w K mg base 1 "stays" ["season"] (spStays C)) (D7 : Dn P w K mg base 3 "catch_on" ["season", "day", "net"] (spCatchOn C)) (D8 : Dn P w K mg base 1 "together" ["one", "other"] spTogether)
    (D10 : Dn P w K mg base 2 "is_right" ["season", "catch"] (spIsRight C)) : Dn P w K mg base 4 "net_for" ["season", "day", "catch"] (spNetFor C) := by
  refine dn_ok A sc15 (fun _ _ _ _ _ _ us hl => match us, hl with | [_, _, _], _ => rfl) (fun vs H Q E h => ?_) fun f cdv A outer s H vs Q E hr h => ?_
  · obtain ⟨L, s, d, v, xs, rfl, _⟩ := h
    rfl
  · refine ⟨_, pss_cons (ps_set (i := 3) sc15.nd rfl (Or.inl rfl) (pe_dn D2 (hr.mono (by decide)) (pa_cons (pv 0) pa_nil)))
      (pss_cons (ps_set (i := 4) sc15.nd rfl (Or.inl rfl) (pe_un un_neg pe_int))
      (pss_cons (ps_for PassesOwn.never rfl (pi_range1 rfl T.range (pa_cons (pe_callB call_len_seq (by rfl) T.len PySem.boot_len (pa_cons (pe_fld (pv 0) rfl) pa_nil)) pa_nil)) (pg_name (i := 5) sc15.nd rfl (Or.inl rfl))
        (pss_cons (ps_set (i := 6) sc15.nd rfl (Or.inl rfl) (pe_dn D7 hr (pa_cons (pv 0) (pa_cons (pv 1) (pa_cons (pv 5) pa_nil)))))
        (pss_one (ps_if (PW.pt (pw_and (pt_val (pe_dn D10 (hr.mono (by decide)) (pa_cons (pv 0) (pa_cons (pe_dn D8 (hr.mono (by decide)) (pa_cons (pv 2) (pa_cons (pv 6) pa_nil))) pa_nil)))) (pw_and1 (pt_cmpR op_gt (pe_ix ix_tup (pv 6) pe_int (fun _ _ => rfl)) (pv 4) (nomark _)))))
          (pss_cons (ps_set (i := 3) sc15.nd rfl (Or.inl rfl) (pv 5)) (pss_one (ps_set (i := 4) sc15.nd rfl (Or.inl rfl) (pe_ix ix_tup (pv 6) pe_int (fun _ _ => rfl))))) pss_nil))))
      (pss_one (ps_ret (pv 3))))), ?_⟩
    obtain ⟨L, s, d, v, xs, rfl, R, hd, hc, k⟩ := h
    have hnn := R.ok.nn
    refine ⟨_, rfl, L, s, rfl, R, fun H1 e1 => ⟨_, rfl, ?_⟩⟩
    have R1 := R.ex e1
    refine ⟨_, rfl, L.sa, C, L.dx, _, _, rfl, R1.ins, T.cl, T.n3, lkN, L.na, _, rfl, .inl (SqL.of R1.nl), _, rfl, by rw [List.length_map]; omega, by rw [List.length_map]; omega, ?_⟩
    have e0 : ((List.map nV s.nets).length : Int).toNat = s.nets.length := by rw [List.length_map]; rfl
    rw [e0]
    refine for_range (lo := 0) (n := s.nets.length) (fun i σ H' => ∃ bm v5 v6, bm = (List.range i).foldl (netStep s d xs) (s.nets.length, -1) ∧ σ = [some (.ref L.sa), some (nV d), some v, some (nV bm.1), some (.int bm.2), v5, v6] ∧ Same H H')
      ⟨_, none, none, rfl, rfl, e1⟩ ?_ ?_
    · rintro i σ H' hi ⟨bm, v5, v6, hbm, rfl, e'⟩
      rw [Int.zero_add]
      have hnext : (List.range (i + 1)).foldl (netStep s d xs) (s.nets.length, -1) = netStep s d xs bm i := by rw [List.range_succ, List.foldl_append, ← hbm]; rfl
      refine ⟨_, rfl, _, rfl, _, rfl, L, s, d, i, rfl, R.ex e', hd, Nat.le_of_lt hi, fun v1 H2 e2 c1 => ?_⟩
      have e12 := e'.trans e2
      refine ⟨_, rfl, _, rfl, _, rfl, v, v1, caOf s xs, caOf s (s.taken d i), rfl, hc.tu (Tu.of e12), c1, by show (landedL s xs).length = (landedL s _).length; rw [landedL_len, landedL_len], by show (landedL s xs).length ≤ 3; rw [landedL_len]; exact R.ok.nk, fun v2 H3 e3 c2 => ?_⟩
      rw [together_caOf] at c2
      have e13 := e12.trans e3
      refine ⟨L, s, v2, xs ++ s.taken d i, rfl, R.ex e13, c2, fun H4 e4 => ⟨_, rfl, ?_⟩⟩
      have e14 := e13.trans e4
      obtain ⟨a, b, rfl, h1, h2⟩ := c1.tu (Tu.of (e3.trans e4))
      cases hrt : rightC s (xs ++ s.taken d i) with
      | false =>
        refine iteF (iteF ⟨bm, _, _, ?_, rfl, e14⟩)
        rw [hnext, net_step (b := false) (by rw [hrt]; rfl)]
        rfl
      | true =>
        refine iteT ⟨_, rfl, a, _, _, _, rfl, rfl, SqT.of h1, rfl, _, rfl, _, _, rfl, rfl, _, rfl, ?_⟩
        show (if decide (bm.2 < (worthOf s (s.taken d i) : Int)) = true then _ else _)
        cases hm : decide (bm.2 < (worthOf s (s.taken d i) : Int)) with
        | false =>
          refine iteF ⟨bm, _, _, ?_, rfl, e14⟩
          rw [hnext, net_step (b := false) (by rw [hrt, hm]; rfl)]
          rfl
        | true =>
          refine iteT ⟨_, rfl, _, rfl, a, _, _, _, rfl, rfl, SqT.of h1, rfl, (i, (worthOf s (s.taken d i) : Int)), _, _, ?_, rfl, e14⟩
          rw [hnext, net_step (b := true) (by rw [hrt, hm]; rfl)]
          rfl
    · rintro σ H' ⟨bm, v5, v6, hbm, rfl, e'⟩
      refine ⟨_, rfl, ?_⟩
      have q := k H' e'
      unfold netFor at q
      rw [← hbm] at q
      exact q
/-! is_plan -/
theorem sc17 : FnScope ["season", "plan", "net"] ["season", "plan"] (defScope (topS 17)) := ⟨rfl, rfl, rfl, by decide +kernel, rfl, by decide +kernel, by decide +kernel⟩
def RBool : V → Bool → Hp → Prop := fun v n _ => v = .bl n
theorem rBool : RTu RBool := fun _ _ _ _ _ h => h
theorem al_bool {H : Hp} {ys : List V} {ns : List Bool} (h : Al (fun v b => RBool v b H) ys ns) : ys = ns.map V.bl := by
  apply List.ext_getElem?
  intro i
  rw [List.getElem?_map]
  cases e : ns[i]? with
  | none =>
    rw [List.getElem?_eq_none (by rw [h.1]; exact List.getElem?_eq_none_iff.mp e)]
    rfl
  | some n =>
    obtain ⟨v, hv, r⟩ := h.at e
    rw [hv]
    exact congrArg some r
theorem range_map {β γ : Type} (l : List β) (d : β) (f : β → γ) : (List.range l.length).map (fun i => f (l.getD i d)) = l.map f := by
  apply List.ext_getElem
  · simp
  · intro i h1 h2
    have hl : i < l.length := by simpa using h1
    simp [List.getD_eq_getElem?_getD, List.getElem?_eq_getElem hl]
theorem dn_is_plan (A : At K mg "is_plan" (topS 17)) (T : Txt K mg C) (D2 : Dn P w K mg base 1 "stays" ["season"] (spStays C)) : Dn P w K mg base 2 "is_plan" ["season", "plan"] (spIsPlan C K) := by
  refine dn_ok A sc17 (fun _ _ _ _ _ _ us hl => match us, hl with | [_, _], _ => rfl) (fun vs H Q E h => ?_) fun f cdv A outer s H vs Q E hr h => ?_
  · obtain ⟨L, s, p, l, rfl, _⟩ := h
    rfl
  · refine ⟨_, pss_one (ps_ret (pe_and (pe_cmpR op_eq (pe_callB call_len_seq (by rfl) T.len PySem.boot_len (pa_cons (pv 1) pa_nil)) (pe_callB call_len_seq (by rfl) T.len PySem.boot_len (pa_cons (pe_fld (pv 0) rfl) pa_nil)) (nomark _))
      (pe_one (pe_callB (cr_all rfl) (by rfl) T.all (by decide +kernel) (pa_cons
        (pe_lc (own := [("net", 2)]) (g := gName 2) (tt := tYes) (te := tOp (rI0 fun i j => .bl (decide (i ≤ j))) (tVar 2) (tDn (spStays C) (tCons (tVar 0) tNil))) rfl sc17.nd (pi_list (pv 1)) (blkOk_by (N := ["season", "plan", "net"]) (sc := defScope (topS 17)) (by decide +kernel)) (fun _ _ _ _ _ => pg_name (i := 2) sc17.nd rfl (Or.inl rfl)) (fun _ _ _ _ _ => pts_nil)
          (fun _ _ _ _ _ => pe_cmpR op_le (pv 2) (pe_dn D2 hr (pa_cons (pv 0) pa_nil)) (nomark _))) pa_nil))))), ?_⟩
    obtain ⟨L, s, p, l, rfl, R, hp, h12, k⟩ := h
    refine ⟨_, rfl, p, _, rfl, .inl hp, _, rfl, L.sa, C, L.dx, _, _, rfl, R.ins, T.cl, T.n4, lkD, L.da, _, rfl, .inl (SqL.of R.dl), rfl, _, rfl, ?_⟩
    have hdl : (L.ds.map fun d => V.ref d.1).length = s.days.length := by rw [List.length_map]; exact R.dt.1
    rw [hdl, List.length_map]
    rw [show decide (V.int (l.length : Int) = V.int (s.days.length : Int)) = (l.length == s.days.length) from dec_nV _ _]
    cases hb : (l.length == s.days.length) with
    | false =>
      refine iteF ?_
      have q := k H (Same.refl _)
      unfold Uw27.Season.told at q
      rw [hb] at q
      exact q
    | true =>
      refine iteT ⟨_, rfl, p, rfl, ⟨_, hp⟩, fun D hD => ?_⟩
      refine lc_listX (β := Bool) (R := RBool) rBool (fun i => some (decide (l.getD i 0 ≤ s.nets.length))) hp (by rw [List.length_map]; omega) hD (fun i x H' hi e' => ?_) (fun H2 ys e hys al => ?_)
      · intro Sk Gv hs hg
        have hil : i < l.length := by
          have := (List.getElem?_eq_some_iff.mp hi).1
          rw [List.length_map] at this
          exact this
        rw [nat_at hil] at hi
        cases hi
        refine ⟨rfl, _, rfl, _, rfl, L, s, rfl, R.ex e', fun H2 e2 => ⟨_, _, rfl, rfl, hg _ rfl _ _ e2 ?_⟩⟩
        exact congrArg V.bl (decide_eq_decide.mpr Int.ofNat_le)
      · rw [List.length_map, given_fun, range_map l 0 fun n => decide (n ≤ s.nets.length)] at al
        have ez := al_bool al
        subst ez
        refine ⟨D, _, rfl, SqL.of hys, ?_⟩
        have q := k H2 e
        unfold Uw27.Season.told at q
        rw [hb, Bool.true_and] at q
        rw [List.all_map]
        exact q
/-! catch_of -/
theorem sc18 : FnScope ["season", "plan", "catch", "day", "net"] ["season", "plan"] (defScope (topS 18)) := ⟨rfl, rfl, rfl, by decide +kernel, rfl, by decide +kernel, by decide +kernel⟩
/-- over enumerate(xs): each pair a new tuple at T -/
theorem for_enumX {K : PySem.W.Frag} {a : Addr} {xs : List V} {g : TG} {tb : TS} {D : Ends} {σ : L2.St} {H : Hp} (Pv : Nat → L2.St → Hp → Prop) (h0 : Pv 0 σ H) (hq : ∀ i σ H, Pv i σ H → SqL K H a xs)
    (hs : ∀ (i : Nat) (x : V) (T : Addr) (σ : L2.St) (H : Hp), xs[i]? = some x → Pv i σ H → H T = none → g (.ref T) σ (upd H T (.tup [.int (i : Nat), x])) fun σ2 H2 => tb { D with nx := Pv (i + 1), ct := Pv (i + 1), bk := D.nx } σ2 H2) (hd : ∀ σ H, Pv xs.length σ H → D.nx σ H) :
    ∃ W : Nat → Nat → L2.St → Hp → Prop, (∃ m, W 0 m σ H) ∧ ∀ i m σ H, W i m σ H →
      ((Ite K a).stop i H ∧ D.nx σ H) ∨ ((Ite K a).go i H ∧ ∃ N : L2.St → Hp → Prop, (∀ σ' H', N σ' H' → ∃ m', m' < m ∧ W (i + 1) m' σ' H') ∧ ∀ x H', (Ite K a).yld i H x H' → g x σ H' fun σ2 H2 => tb { D with nx := N, ct := N, bk := D.nx } σ2 H2) := by
  refine ⟨fun i m σ H => m = xs.length - i ∧ i ≤ xs.length ∧ Pv i σ H, ⟨xs.length, rfl, Nat.zero_le _, h0⟩, ?_⟩
  rintro i m σ H ⟨rfl, hi, p⟩
  have qx := hq i σ H p
  by_cases hlt : i < xs.length
  · have hx : xs[i]? = some xs[i] := List.getElem?_eq_getElem hlt
    refine .inr ⟨⟨xs, _, qx, hx⟩, Pv (i + 1), fun σ' H' p' => ⟨xs.length - (i + 1), by omega, rfl, hlt, p'⟩, fun v H' y => ?_⟩
    obtain ⟨T, x', rfl, hT, rfl, f1⟩ := y
    exact hs i x' T σ H (f1 xs qx) p hT
  · have e : i = xs.length := by omega
    subst e
    exact .inl ⟨⟨xs, qx, Nat.le_refl _⟩, hd σ H p⟩
theorem take_snoc {l : List Nat} {i : Nat} (h : i < l.length) : l.take (i + 1) = l.take i ++ [l.getD i 0] := by
  rw [List.take_add_one, List.getElem?_eq_getElem h, List.getD_eq_getElem?_getD, List.getElem?_eq_getElem h]
  rfl
theorem told_len {s : Season} {l : List Nat} (h : s.told l = true) : l.length = s.days.length ∧ ∀ n ∈ l, n ≤ s.nets.length := by
  unfold Uw27.Season.told at h
  rw [Bool.and_eq_true, beq_iff_eq, List.all_eq_true] at h
  exact ⟨h.1, fun n hn => of_decide_eq_true (h.2 n hn)⟩
theorem getD_mem' {l : List Nat} {i : Nat} (h : i < l.length) : l.getD i 0 ∈ l := by
  rw [List.getD_eq_getElem?_getD, List.getElem?_eq_getElem h]
  exact List.getElem_mem h
theorem ca_step {s : Season} {l : List Nat} {i : Nat} (h : i < l.length) : s.catch_ (l.take (i + 1)) = s.catch_ (l.take i) ++ s.taken i (l.getD i 0) := by
  rw [take_snoc h, catch_snoc, List.length_take, Nat.min_eq_left (Nat.le_of_lt h)]
theorem dn_catch_of (A : At K mg "catch_of" (topS 18)) (T : Txt K mg C) (D1 : Dn P w K mg base 1 "nothing" ["season"] (spNothing C)) (D7 : Dn P w K mg base 3 "catch_on" ["season", "day", "net"] (spCatchOn C)) (D8 : Dn P w K mg base 1 "together" ["one", "other"] spTogether) :
    Dn P w K mg base 4 "catch_of" ["season", "plan"] (spCatchOf C K) := by
  refine dn_ok A sc18 (fun _ _ _ _ _ _ us hl => match us, hl with | [_, _], _ => rfl) (fun vs H Q E h => ?_) fun f cdv A outer s H vs Q E hr h => ?_
  · obtain ⟨L, s, p, l, rfl, _⟩ := h
    rfl
  · refine ⟨_, pss_cons (ps_set (i := 2) sc18.nd rfl (Or.inl rfl) (pe_dn D1 (hr.mono (by decide)) (pa_cons (pv 0) pa_nil)))
      (pss_cons (ps_for PassesOwn.never rfl (pi_enum (by rfl) T.enumerate (pa_cons (pv 1) pa_nil)) (pg_tup rfl (pgs_cons (pg_name (i := 3) sc18.nd rfl (Or.inl rfl)) (pgs_cons (pg_name (i := 4) sc18.nd rfl (Or.inl rfl)) pgs_nil)))
        (pss_one (ps_set (i := 2) sc18.nd rfl (Or.inl rfl) (pe_dn D8 (hr.mono (by decide)) (pa_cons (pv 2) (pa_cons (pe_dn D7 hr (pa_cons (pv 0) (pa_cons (pv 3) (pa_cons (pv 4) pa_nil)))) pa_nil))))))
      (pss_one (ps_ret (pv 2)))), ?_⟩
    obtain ⟨L, s, p, l, rfl, R, hp, ht, k⟩ := h
    obtain ⟨hl, hn⟩ := told_len ht
    refine ⟨_, rfl, L, s, rfl, R, fun v1 H1 e1 c1 => ⟨_, rfl, p, _, rfl, Same.seq e1 hp, ?_⟩⟩
    refine for_enumX (xs := l.map nV) (fun i σ H' => ∃ v2 v3 v4, σ = [some (.ref L.sa), some (.ref p), some v2, v3, v4] ∧ Same H H' ∧ CaAt H' v2 (caOf s (s.catch_ (l.take i)))) ⟨v1, none, none, rfl, e1, c1⟩ (fun i σ H' ⟨_, _, _, _, e', _⟩ => Same.seq e' hp) ?_ ?_
    · rintro i x Tp σ H' hi ⟨v2, v3, v4, rfl, e', c2⟩ hT
      have hil : i < l.length := by
        have := (List.getElem?_eq_some_iff.mp hi).1
        rw [List.length_map] at this
        exact this
      rw [nat_at hil] at hi
      cases hi
      have e2 := e'.trans (Same.new (o := .tup [.int (i : Nat), nV (l.getD i 0)]) hT)
      refine ⟨Tp, _, rfl, SqT.of upd_same, rfl, _, _, rfl, _, _, rfl, rfl, ?_⟩
      refine ⟨_, rfl, _, rfl, _, rfl, _, rfl, L, s, i, l.getD i 0, rfl, R.ex e2, by omega, hn _ (getD_mem' hil), fun v5 H3 e3 c3 => ?_⟩
      refine ⟨v2, v5, _, _, rfl, c2.tu (Tu.of ((Same.new hT).trans e3)), c3, by show (landedL s _).length = (landedL s _).length; rw [landedL_len, landedL_len], by show (landedL s _).length ≤ 3; rw [landedL_len]; exact R.ok.nk, fun v6 H4 e4 c4 => ?_⟩
      rw [together_caOf, ← ca_step hil] at c4
      exact ⟨v6, _, _, rfl, (e2.trans e3).trans e4, c4⟩
    · rintro σ H' ⟨v2, v3, v4, rfl, e', c2⟩
      rw [List.length_map, List.take_length] at c2
      exact ⟨_, rfl, k _ _ e' c2⟩
end
end Sm
end
section
/-! min of a list of data; ranks as data. -/
namespace Sm
open PySem PySem.Spec PyProof.Rows L2
open PySem.W (minD AlikeAll alike dataLt)
open Uw27 (Season Shoal)
section
variable {X : Cx}
/-- min(xs), xs a list of alike data: the first of the least -/
def rMinD (K : PySem.W.Frag) : List V → Hp → VK → Prop := fun vs H Q => ∃ (a : Addr) (xs : List V) (d : PyData) (ds : List PyData), vs = [V.ref a] ∧ SqL K H a xs ∧ DpAll K H xs (d :: ds) ∧ PySem.W.AlikeAll (d :: ds) ∧ PyData.depthAll (d :: ds) ≤ 10 ∧
  ∀ (i : Nat) (v : V), xs[i]? = some v → (d :: ds).getD i .none = PySem.W.minD d ds → Q v H
theorem cr_minD (hc : X.calm = true) (hu : X.A.units + 64 < cLine) : CallR X (.builtin "min") (rMinD X.K) := by
  intro pins s σ H vs us Q I r h
  obtain ⟨a, xs, d, ds, rfl, hs, hd, ha, hdp, q⟩ := h
  obtain ⟨its, rv, hl, _⟩ := I.list hs
  obtain ⟨as, hr⟩ := Dp.readsAll I (d :: ds) xs its hd rv
  rw [Vals.ref1 r]
  have hn : its.toArray.size = ds.length + 1 := by
    have := PySem.W.readsAll_len (vs := its.toArray) (xs := d :: ds) (as := as) (h := s.heap) (by simpa using hr)
    simpa using this
  refine call_min_walkH (PySem.W.iter_listW (A := X.A.in1) (I.ok.hd hc) hl.isList fun s₂ e W st hfp hw hk => ?_)
  refine ⟨_, _, _, _, _, _, _, s.heap, _, rfl, W, st, hfp, by omega, hw, hk, PySem.W.cmpIn_lt (A := X.A.in1) (xs := d :: ds) (as := as) (by simpa using hr) ha (by show X.A.units + 1 + _ < _; omega), fun v s' hP m => ?_⟩
  obtain ⟨h', tk, rfl, hk'⟩ := PySem.W.moved_old e rfl m
  have e1 : its.toArray.size - 1 = ds.length := by omega
  have e2 := (PySem.W.argBest_fold PySem.W.dataLt PyData.none d ds ds.length (Nat.le_refl _)).2
  rw [List.take_length] at e2
  rw [e1] at hP
  generalize argBest (fun i j => PySem.W.dataLt ((d :: ds).getD i .none) ((d :: ds).getD j .none)) ds.length = i at hP e2
  have hP' : its[i]? = some v := by simpa using hP
  have hi : i < its.length := (List.getElem?_eq_some_iff.mp hP').1
  have hxi : i < xs.length := by
    have := rv.length
    omega
  have hx : xs[i]? = some xs[i] := List.getElem?_eq_getElem hxi
  obtain ⟨u, hu1, ru⟩ := rv.get hx
  rw [hP'] at hu1
  cases hu1
  exact ⟨xs[i], H, I.kept hk', ru, q i _ hx e2⟩
end
/-! ### ranks as data -/
def natD (l : List Nat) : List PyData := (l.map fun n : Nat => (n : Int)).map PyData.int
def encR (s : Season) (l : List Nat) : PyData := .tuple [.int (0 - (worthOf s (s.catch_ l) : Int)), .int (Uw27.changes l : Nat), .tuple (natD l)]
theorem alike_encR (s : Season) (l m : List Nat) : PySem.W.alike (encR s l) (encR s m) = true := by
  unfold encR natD
  simp only [PySem.W.alike, PySem.W.alikeAll, PySem.W.alike_ints, Bool.and_self]
theorem listLt_nat : ∀ l m : List Nat, PySem.W.listLt (l.map fun n : Nat => (n : Int)) (m.map fun n : Nat => (n : Int)) = lexN l m
  | [], [] => rfl
  | [], _ :: _ => rfl
  | _ :: _, [] => rfl
  | x :: xs, y :: ys => by
    have ih := listLt_nat xs ys
    rw [List.map_cons, List.map_cons]
    show (if (x : Int) = (y : Int) then PySem.W.listLt (xs.map fun n : Nat => (n : Int)) (ys.map fun n : Nat => (n : Int)) else decide ((x : Int) < (y : Int))) = (if x = y then lexN xs ys else decide (x < y))
    rw [ih]
    by_cases h : x = y
    · rw [if_pos h, if_pos (by omega)]
    · rw [if_neg h, if_neg (by omega)]
      exact decide_eq_decide.mpr Int.ofNat_lt
theorem lex_nats (l m : List Nat) : PyProof.Rows.lexLt PyProof.Rows.itemOrd (PySem.W.keyToksAll (natD l)) (PySem.W.keyToksAll (natD m)) = lexN l m := by
  have h := PySem.W.lexAll_map (l.map fun n : Nat => (n : Int)) (m.map fun n : Nat => (n : Int))
  rw [listLt_nat] at h
  exact h
theorem eqv_int (a b : Int) : PyData.eqv (.int a) (.int b) = decide (a = b) := by
  have h := PySem.W.Datum.eqv a b
  exact h
theorem dataLt_encR {s : Season} (o : SOk s) (y a : List Nat) : PySem.W.dataLt (encR s y) (encR s a) = rLt s y a := by
  have w1 := worth_eq o y
  have w2 := worth_eq o a
  unfold encR
  rw [PySem.W.dataLt_tuple, PySem.W.dataLt_cons (by simp only [PySem.W.alike]), eqv_int, PySem.W.dataLt_int]
  unfold rLt
  rw [w1, w2]
  by_cases c : worthOf s (s.catch_ y) = worthOf s (s.catch_ a)
  · rw [if_pos (by rw [decide_eq_true_eq]; omega), if_pos c]
    rw [PySem.W.dataLt_cons (by simp only [PySem.W.alike]), eqv_int, PySem.W.dataLt_int]
    by_cases d : Uw27.changes y = Uw27.changes a
    · rw [if_pos (by rw [decide_eq_true_eq]; omega), if_pos d]
      have hal : PySem.W.alike (.tuple (natD y)) (.tuple (natD a)) = true := by
        unfold natD
        simp only [PySem.W.alike, PySem.W.alike_ints]
      rw [PySem.W.dataLt_cons hal, PySem.W.dataLt_tuple, lex_nats]
      have e0 : PyProof.Rows.lexLt PyProof.Rows.itemOrd (PySem.W.keyToksAll []) (PySem.W.keyToksAll []) = false := PyProof.Rows.lex_irrefl _
      rw [e0]
      by_cases e : PyData.eqv (.tuple (natD y)) (.tuple (natD a)) = true
      · rw [if_pos e]
        have ey : y = a := by
          have := PySem.W.Datum.eqv (α := PySem.W.Tup Int) ⟨y.map fun n : Nat => (n : Int)⟩ ⟨a.map fun n : Nat => (n : Int)⟩
          have h2 : PyData.eqv (.tuple (natD y)) (.tuple (natD a)) = decide ((⟨y.map fun n : Nat => (n : Int)⟩ : PySem.W.Tup Int) = ⟨a.map fun n : Nat => (n : Int)⟩) := this
          rw [e] at h2
          have h3 := of_decide_eq_true h2.symm
          have h4 : (y.map fun n : Nat => (n : Int)) = a.map fun n : Nat => (n : Int) := by injection h3
          exact (List.map_inj_right (fun _ _ q => Int.ofNat.inj q)).mp h4
        subst ey
        cases hh : lexN y y with
        | false => rfl
        | true => exact absurd (lexN_asym hh) (by rw [hh]; exact Bool.noConfusion)
      · rw [if_neg e]
    · rw [if_neg (by rw [decide_eq_true_eq]; omega), if_neg d]
      exact decide_eq_decide.mpr Int.ofNat_lt
  · rw [if_neg (by rw [decide_eq_true_eq]; omega), if_neg c]
    exact decide_eq_decide.mpr (by omega)
theorem minD_encR {s : Season} (o : SOk s) : ∀ (xs : List (List Nat)) (x : List Nat), PySem.W.minD (encR s x) (xs.map (encR s)) = encR s (minR s x xs)
  | [], x => rfl
  | y :: xs, x => by
    have ih := minD_encR o xs (minStep s x y)
    show PySem.W.minD (if PySem.W.dataLt (encR s y) (encR s x) = true then encR s y else encR s x) (xs.map (encR s)) = encR s (minR s (minStep s x y) xs)
    rw [← ih, dataLt_encR o]
    unfold minStep
    split <;> rfl
theorem encR_inj {s : Season} {l m : List Nat} (h : encR s l = encR s m) : l = m := by
  unfold encR natD at h
  injection h with h
  injection h with _ h
  injection h with _ h
  injection h with h _
  injection h with h
  rw [List.map_map, List.map_map] at h
  refine (List.map_inj_right fun a b q => ?_).mp h
  have : PyData.int (a : Int) = PyData.int (b : Int) := q
  injection this with this
  exact Int.ofNat.inj this
theorem alike_all {s : Season} (ls : List (List Nat)) : PySem.W.AlikeAll (ls.map (encR s)) := by
  refine ⟨fun x hx y hy => ?_, fun x hx => ?_⟩
  · obtain ⟨l, _, rfl⟩ := List.mem_map.mp hx
    obtain ⟨m, _, rfl⟩ := List.mem_map.mp hy
    exact alike_encR s l m
  · obtain ⟨l, _, rfl⟩ := List.mem_map.mp hx
    intro z
    cases z
theorem depth_encR (s : Season) (l : List Nat) : (encR s l).depth ≤ 5 := by
  unfold encR
  have h : PyData.depthAll (natD l) = 0 := PySem.W.depth_ints _
  simp only [PyData.depth, PyData.depthAll, h]
  decide
theorem depth_all {s : Season} : ∀ ls : List (List Nat), PyData.depthAll (ls.map (encR s)) ≤ 5
  | [] => by simp [PyData.depthAll]
  | l :: ls => by
    have h1 := depth_encR s l
    have h2 := depth_all (s := s) ls
    rw [List.map_cons, PyData.depthAll]
    omega
theorem dp_nats {K : PySem.W.Frag} {H : Hp} : ∀ l : List Nat, DpAll K H (l.map nV) (natD l)
  | [] => .nil
  | n :: l => .cons (.int _) (dp_nats l)
theorem RkAt.dp {K : PySem.W.Frag} {s : Season} {H : Hp} {v : V} {l : List Nat} (h : RkAt s H v l) : Dp K H v (encR s l) := by
  obtain ⟨a, b, rfl, h1, h2⟩ := h
  exact .tup (SqT.of h1) (.cons (.int _) (.cons (.int _) (.cons (.tup (SqT.of h2) (dp_nats l)) .nil)))
theorem dp_ranks {K : PySem.W.Frag} {s : Season} {H : Hp} : ∀ {vs : List V} {ls : List (List Nat)}, Al (RkAt s H) vs ls → DpAll K H vs (ls.map (encR s))
  | vs, [], h => by
    have : vs = [] := List.eq_nil_of_length_eq_zero h.1
    subst this
    exact .nil
  | vs, l :: ls, h => by
    obtain ⟨v, vs', rfl, h1, h2⟩ := h.uncons
    exact .cons h1.dp (dp_ranks h2)
end Sm
end
section
/-! plans: longer, right_plans, rank_of. -/
namespace Sm
open PySem PySem.Spec PyProof.Rows L2
open Uw27 (Season Shoal)
section
variable {P : Program} {w : World} {K : PySem.W.Frag} {mg : Str → Option Value} {base : Heap} {C : Addr}
/-! rank_of -/
theorem sc23 : FnScope ["plan", "catch"] ["plan", "catch"] (defScope (topS 23)) := ⟨rfl, rfl, rfl, by decide +kernel, rfl, by decide +kernel, by decide +kernel⟩
theorem dn_rank_of (A : At K mg "rank_of" (topS 23)) (T : Txt K mg C) (D11 : Dn P w K mg base 1 "changes_in" ["plan"] (spChanges K)) : Dn P w K mg base 2 "rank_of" ["plan", "catch"] (spRankOf K) := by
  refine dn_ok A sc23 (fun _ _ _ _ _ _ us hl => match us, hl with | [_, _], _ => rfl) (fun vs H Q E h => ?_) fun f cdv A outer s H vs Q E hr h => ?_
  · obtain ⟨s, b, c, l, rfl, _⟩ := h
    rfl
  · refine ⟨_, pss_one (ps_ret (pe_tup (pa_cons (pe_op op_sub pe_int (pe_ix ix_tup (pv 1) pe_int (fun _ _ => rfl))) (pa_cons (pe_dn D11 hr (pa_cons (pv 0) pa_nil)) (pa_cons (pv 0) pa_nil))))), ?_⟩
    obtain ⟨s, b, c, l, rfl, hb, h12, ⟨a, b2, rfl, h1, h2⟩, k⟩ := h
    refine ⟨_, rfl, a, _, _, _, rfl, rfl, SqT.of h1, rfl, _, _, rfl, rfl, _, rfl, b, l, rfl, .inr (SqT.of hb), h12, fun H1 e1 => ⟨_, rfl, by show 3 ≤ sizeLine; decide, fun p hp => ?_⟩⟩
    exact k _ _ (e1.trans (Same.new hp)) ⟨p, b, rfl, upd_same, Same.new hp _ _ (e1 _ _ hb)⟩
/-! longer -/
theorem sc21 : FnScope ["season", "plans", "day", "net", "catches", "found", "plan", "catch", "more", "grown"] ["season", "plans", "day"] (defScope (topS 21)) := ⟨rfl, rfl, rfl, by decide +kernel, rfl, by decide +kernel, by decide +kernel⟩
/-- what a plan grows to by the first j numbers -/
def grow (s : Season) (l : List Nat) (j : Nat) : List (List Nat) := ((List.range j).filter fun n => Pr s (l ++ [n])).map fun n => l ++ [n]
theorem grow_len (s : Season) (l : List Nat) (j : Nat) : (grow s l j).length ≤ j := by
  unfold grow
  rw [List.length_map]
  exact Nat.le_trans (List.length_filter_le _ _) (by rw [List.length_range]; exact Nat.le_refl _)
theorem grow_yes {s : Season} {l : List Nat} {j : Nat} (h : Pr s (l ++ [j]) = true) : grow s l (j + 1) = grow s l j ++ [l ++ [j]] := by
  unfold grow
  rw [List.range_succ, List.filter_append, List.map_append]
  simp [h]
theorem grow_no {s : Season} {l : List Nat} {j : Nat} (h : Pr s (l ++ [j]) = false) : grow s l (j + 1) = grow s l j := by
  unfold grow
  rw [List.range_succ, List.filter_append, List.map_append]
  simp [h]
theorem longer_snoc {s : Season} {ps : List (List Nat)} {i : Nat} {l : List Nat} (h : ps[i]? = some l) : longer s (ps.take (i + 1)) = longer s (ps.take i) ++ grow s l (s.nets.length + 1) := by
  unfold longer
  rw [List.take_add_one, h, List.flatMap_append]
  simp [grow]
theorem longer_len (s : Season) : ∀ ps : List (List Nat), (longer s ps).length ≤ ps.length * (s.nets.length + 1)
  | [] => by simp [longer]
  | l :: ps => by
    have ih := longer_len s ps
    have h := grow_len s l (s.nets.length + 1)
    have e : longer s (l :: ps) = grow s l (s.nets.length + 1) ++ longer s ps := rfl
    rw [e, List.length_append, List.length_cons, Nat.succ_mul]
    omega
/-- the list of catches -/
def RCa (s : Season) (d : Nat) : V → Nat → Hp → Prop := fun v n H => CaAt H v (caOf s (s.taken d n))
theorem rCa (s : Season) (d : Nat) : RTu (RCa s d) := fun _ _ _ _ e h => h.tu e
theorem dn_longer (A : At K mg "longer" (topS 21)) (T : Txt K mg C) (D2 : Dn P w K mg base 1 "stays" ["season"] (spStays C)) (D7 : Dn P w K mg base 3 "catch_on" ["season", "day", "net"] (spCatchOn C)) (D8 : Dn P w K mg base 1 "together" ["one", "other"] spTogether)
    (D10 : Dn P w K mg base 2 "is_right" ["season", "catch"] (spIsRight C)) : Dn P w K mg base 4 "longer" ["season", "plans", "day"] (spLonger C) := by
  refine dn_ok A sc21 (fun _ _ _ _ _ _ us hl => match us, hl with | [_, _, _], _ => rfl) (fun vs H Q E h => ?_) fun f cdv A outer s H vs Q E hr h => ?_
  · obtain ⟨L, s, v, ps, d, rfl, _⟩ := h
    rfl
  · refine ⟨_, pss_cons (ps_setLc (i := 4) (own := [("net", 3)]) (g := gName 3) (tt := tYes) (te := tDn (spCatchOn C) (tCons (tVar 0) (tCons (tVar 2) (tCons (tVar 3) tNil)))) rfl sc21.nd rfl rfl (sw_true rfl rfl rfl (by decide +kernel)) (pi_range1 rfl T.range (pa_cons (pe_op op_add (pe_dn D2 (hr.mono (by decide)) (pa_cons (pv 0) pa_nil)) pe_int) pa_nil))
        (blkOk_by (N := ["season", "plans", "day", "net", "catches", "found", "plan", "catch", "more", "grown"]) (sc := defScope (topS 21)) (by decide +kernel)) (fun _ _ _ _ _ => pg_name (i := 3) sc21.nd rfl (Or.inl rfl)) (fun _ _ _ _ _ => pts_nil) (fun _ _ _ _ _ => pe_dn D7 hr (pa_cons (pv 0) (pa_cons (pv 2) (pa_cons (pv 3) pa_nil)))))
      (pss_cons (ps_set (i := 5) sc21.nd rfl (Or.inl rfl) (pe_lst pa_nil))
      (pss_cons (ps_for PassesOwn.never rfl (pi_list (pv 1)) (pg_tup rfl (pgs_cons (pg_name (i := 6) sc21.nd rfl (Or.inl rfl)) (pgs_cons (pg_name (i := 7) sc21.nd rfl (Or.inl rfl)) pgs_nil)))
        (pss_one (ps_for PassesOwn.never rfl (pi_enum (by rfl) T.enumerate (pa_cons (pv 4) pa_nil)) (pg_tup rfl (pgs_cons (pg_name (i := 3) sc21.nd rfl (Or.inl rfl)) (pgs_cons (pg_name (i := 8) sc21.nd rfl (Or.inl rfl)) pgs_nil)))
          (pss_cons (ps_set (i := 9) sc21.nd rfl (Or.inl rfl) (pe_dn D8 (hr.mono (by decide)) (pa_cons (pv 7) (pa_cons (pv 8) pa_nil))))
          (pss_one (ps_if (pt_val (pe_dn D10 (hr.mono (by decide)) (pa_cons (pv 0) (pa_cons (pv 9) pa_nil))))
            (pss_one (ps_expr (pe_bm PySem.F.plainAttrs_list PySem.F.slot_list_append PySem.F.type_list_append mt_append (pv 5) (pa_cons (pe_tup (pa_cons (pe_op op_catA (pv 6) (pe_tup (pa_cons (pv 3) pa_nil))) (pa_cons (pv 9) pa_nil))) pa_nil)))) pss_nil))))))
      (pss_one (ps_ret (pv 5))))), ?_⟩
    obtain ⟨L, s, v, ps, d, rfl, R, hd, ⟨pp, vs, rfl, hpp, hal⟩, hps, hlen, k⟩ := h
    have hnn := R.ok.nn
    refine ⟨_, rfl, L, s, rfl, R, fun H1 e1 => ?_⟩
    have R1 := R.ex e1
    refine ⟨_, _, rfl, rfl, _, rfl, by omega, by omega, fun Dc hDc => ?_⟩
    have e0 : ((s.nets.length : Int) + 1).toNat = s.nets.length + 1 := by omega
    rw [e0]
    refine lc_rangeX (β := Nat) (R := RCa s d) (rCa s d) (fun i => some i) (by omega) hDc (fun i H' hi e' => ?_) (fun H2 ys e2 hys alc => ?_)
    · intro Sk Gv hs hg
      rw [Int.zero_add]
      exact ⟨rfl, _, rfl, _, rfl, _, rfl, L, s, d, i, rfl, R1.ex e', hd, by omega, fun v2 H2 e2 c2 => hg i rfl _ _ e2 c2⟩
    rw [given_fun (fun i => i), List.map_id'] at alc
    have e12 := e1.trans e2
    have R2 := R.ex e12
    -- found = []
    refine ⟨by show 0 ≤ sizeLine; decide, fun fd hfd => ?_⟩
    have hysl : ys.length = s.nets.length + 1 := by rw [alc.1, List.length_range]
    refine ⟨_, rfl, pp, rfl, ⟨_, SqL.of (Same.new hfd _ _ (e12 _ _ hpp))⟩, ?_⟩
    refine for_list (K := K) (a := pp) (xs := vs) (fun i σ H' => ∃ v3 v6 v7 v8 v9 fs, σ = [some (.ref L.sa), some (.ref pp), some (nV d), v3, some (.ref Dc), some (.ref fd), v6, v7, v8, v9] ∧ Same H2 H' ∧ H' fd = some (.lst fs) ∧ Al (PlAt s H') fs (longer s (ps.take i)))
      ⟨none, none, none, none, none, [], rfl, Same.new hfd, upd_same, Al.nil⟩ (fun i σ H' _ ⟨_, _, _, _, _, _, _, e', _⟩ => SqL.of (e' _ _ (e12 _ _ hpp))) ?_ ?_
    · rintro i x σ H' hi ⟨v3, v6, v7, v8, v9, fs, rfl, e', hfs, half⟩
      obtain ⟨l, hl, hpl⟩ := hal.atL hi
      obtain ⟨a, b, c, rfl, h1, h2, h3⟩ := hpl.tu (Tu.of (e12.trans e'))
      have hld : l.length = d := hlen l (List.mem_of_getElem? hl)
      have hil : i < ps.length := (List.getElem?_eq_some_iff.mp hl).1
      refine ⟨a, _, rfl, SqT.of h1, rfl, _, _, rfl, _, _, rfl, rfl, ?_⟩
      refine ⟨_, rfl, Dc, _, rfl, SqL.of (e' _ _ hys), ?_⟩
      refine for_enumX (xs := ys) (fun j σ H' => ∃ v3 v8 v9 fs, σ = [some (.ref L.sa), some (.ref pp), some (nV d), v3, some (.ref Dc), some (.ref fd), some (.ref b), some c, v8, v9] ∧ Same H2 H' ∧ H' fd = some (.lst fs) ∧ Al (PlAt s H') fs (longer s (ps.take i) ++ grow s l j) ∧ H' b = some (.tup (l.map nV)) ∧ CaAt H' c (caOf s (s.catch_ l)))
        ⟨v3, v8, v9, fs, rfl, e', hfs, ?_, h2, h3⟩ (fun j σ H' ⟨_, _, _, _, _, e', _⟩ => SqL.of (e' _ _ hys)) ?_ ?_
      · have : grow s l 0 = [] := rfl
        rw [this, List.append_nil]
        exact half
      · rintro j y Tp σ H3 hj ⟨v3, v8, v9, gs, rfl, e3, hgs, halg, hb, hc⟩ hTp
        have hjl : j < s.nets.length + 1 := by
          have := (List.getElem?_eq_some_iff.mp hj).1
          omega
        have hcj : CaAt H2 y (caOf s (s.taken d j)) := alc.2 j y j hj (List.getElem?_range hjl)
        have eT : Same H3 (upd H3 Tp (.tup [.int (j : Nat), y])) := Same.new hTp
        refine ⟨Tp, _, rfl, SqT.of upd_same, rfl, _, _, rfl, _, _, rfl, rfl, ?_⟩
        refine ⟨_, rfl, _, rfl, c, y, _, _, rfl, hc.tu (Tu.of eT), hcj.tu (Tu.of (e3.trans eT)), by show (landedL s _).length = (landedL s _).length; rw [landedL_len, landedL_len], by show (landedL s _).length ≤ 3; rw [landedL_len]; exact R.ok.nk, fun v10 H4 e4 c4 => ?_⟩
        rw [together_caOf, ← hld, ← catch_snoc] at c4
        have e34 := eT.trans e4
        refine ⟨_, rfl, _, rfl, L, s, v10, s.catch_ (l ++ [j]), rfl, R2.ex (e3.trans e34), c4, fun H5 e5 => ⟨_, rfl, ?_⟩⟩
        have e35 := e34.trans e5
        have hgs5 := e35 _ _ hgs
        show (if Pr s (l ++ [j]) = true then _ else _)
        cases hpr : Pr s (l ++ [j]) with
        | false =>
          refine iteF ⟨_, _, _, gs, rfl, e3.trans e35, hgs5, ?_, e35 _ _ hb, hc.tu (Tu.of e35)⟩
          rw [grow_no hpr]
          exact halg.mono fun _ _ r => r.tu (Tu.of e35)
        | true =>
          refine iteT ⟨_, rfl, .inl ⟨rfl, _, SqL.of hgs5⟩, _, rfl, _, rfl, by show 1 ≤ sizeLine; decide, fun t1 ht1 => ?_⟩
          have et1 : Same H5 (upd H5 t1 (.tup [nV j])) := Same.new ht1
          -- the tail: from a heap in which the longer plan stands
          have fin : ∀ (q : Addr) (H6 : Hp), Same (upd H5 t1 (.tup [nV j])) H6 → H6 q = some (.tup ((l ++ [j]).map nV)) →
              (tCons (tVar 9) tNil) [some (.ref L.sa), some (.ref pp), some (nV d), some (.int (j : Nat)), some (.ref Dc), some (.ref fd), some (.ref b), some c, some y, some v10] H6 (fun xs H7 => (V.ref q :: xs).length ≤ sizeLine ∧ ∀ p, H7 p = none → ∃ (l1 : Addr) (xs1 : List V) (y1 : V), V.ref fd = .ref l1 ∧ [V.ref p] = [y1] ∧ (upd H7 p (.tup (V.ref q :: xs))) l1 = some (.lst xs1) ∧ xs1.length < sizeLine ∧
                (∃ v3 v8 v9 fs, [some (V.ref L.sa), some (.ref pp), some (nV d), some (.int (j : Nat)), some (.ref Dc), some (.ref fd), some (.ref b), some c, some y, some v10] = [some (V.ref L.sa), some (.ref pp), some (nV d), v3, some (.ref Dc), some (.ref fd), some (.ref b), some c, v8, v9] ∧ Same H2 (upd (upd H7 p (.tup (V.ref q :: xs))) l1 (.lst (xs1 ++ [y1]))) ∧ (upd (upd H7 p (.tup (V.ref q :: xs))) l1 (.lst (xs1 ++ [y1]))) fd = some (.lst fs) ∧ Al (PlAt s (upd (upd H7 p (.tup (V.ref q :: xs))) l1 (.lst (xs1 ++ [y1])))) fs (longer s (ps.take i) ++ grow s l (j + 1)) ∧ (upd (upd H7 p (.tup (V.ref q :: xs))) l1 (.lst (xs1 ++ [y1]))) b = some (.tup (l.map nV)) ∧ CaAt (upd (upd H7 p (.tup (V.ref q :: xs))) l1 (.lst (xs1 ++ [y1]))) c (caOf s (s.catch_ l)))) := by
            intro q H6 e6 hq
            refine ⟨_, rfl, by show 2 ≤ sizeLine; decide, fun p hp => ?_⟩
            have ep : Same H6 (upd H6 p (.tup [V.ref q, v10])) := Same.new hp
            have eall := (e35.trans et1).trans (e6.trans ep)
            have hfd' : (upd H6 p (.tup [V.ref q, v10])) fd = some (.lst gs) := eall _ _ hgs
            have tu : Tu (upd H6 p (.tup [V.ref q, v10])) (upd (upd H6 p (.tup [V.ref q, v10])) fd (.lst (gs ++ [V.ref p]))) := Tu.lst hfd'
            have hgl : gs.length < sizeLine := by
              have h1 := halg.1
              have h2 := longer_len s (ps.take i)
              have h3 := grow_len s l j
              have h4 : (ps.take i).length ≤ 5000 := by rw [List.length_take]; omega
              have h5 : (ps.take i).length * (s.nets.length + 1) ≤ 5000 * 5 := Nat.mul_le_mul h4 (by omega)
              rw [List.length_append] at h1
              exact Nat.lt_of_lt_of_le (by omega : gs.length < 100000) (by decide)
            refine ⟨fd, gs, V.ref p, rfl, rfl, hfd', hgl, _, _, _, gs ++ [V.ref p], rfl, (Same.mut ((e3.trans eall)) hfd), upd_same, ?_, tu _ _ (eall _ _ hb), (hc.tu (Tu.of eall)).tu tu⟩
            rw [grow_yes hpr, ← List.append_assoc]
            refine (halg.mono fun _ _ r => (r.tu (Tu.of eall)).tu tu).snoc ⟨p, q, v10, rfl, tu _ _ upd_same, tu _ _ (ep _ _ hq), ?_⟩
            exact (c4.tu (Tu.of (e5.trans (et1.trans (e6.trans ep))))).tu tu
          refine ⟨b, t1, _, _, rfl, rfl, SqT.of (et1 _ _ (e35 _ _ hb)), SqT.of upd_same, ?_, fun z => ?_, fun _ z => ?_, fun z _ q hq => ?_⟩
          · have := R.ok.nd
            rw [List.length_map, hld]
            exact Nat.le_trans (by show d + 1 ≤ 1000; omega) (by decide)
          · have hl0 : l = [] := List.map_eq_nil_iff.mp z
            exact fin t1 _ (Same.refl _) (by rw [hl0]; exact upd_same)
          · cases z
          · refine fin q _ (Same.new hq) ?_
            rw [upd_same, List.map_append]
            rfl
      · rintro σ H3 ⟨v3', v8', v9', gs, rfl, e3, hgs, halg, hb, hc⟩
        refine ⟨_, _, _, _, _, gs, rfl, e3, hgs, ?_⟩
        rw [longer_snoc hl]
        rw [hysl] at halg
        exact halg
    · rintro σ H' ⟨v3, v6, v7, v8, v9, fs, rfl, e', hfs, halg⟩
      rw [hal.1, List.take_length] at halg
      exact ⟨_, rfl, k _ _ (e12.trans e') ⟨fd, fs, rfl, hfs, halg⟩⟩
/-! right_plans -/
theorem sc22 : FnScope ["season", "plans", "day"] ["season"] (defScope (topS 22)) := ⟨rfl, rfl, rfl, by decide +kernel, rfl, by decide +kernel, by decide +kernel⟩
theorem count_le {s : Season} (o : SOk s) {d : Nat} (hd : d ≤ 5) : (plansTo s d).length ≤ 5000 := by
  have h := plansTo_count s d
  have h1 : (s.nets.length + 1) ^ d ≤ 5 ^ d := Nat.pow_le_pow_left (by have := o.nn; omega) d
  have h2 : 5 ^ d ≤ 5 ^ 5 := Nat.pow_le_pow_right (by decide) hd
  have h3 : (5 : Nat) ^ 5 = 3125 := by decide
  omega
theorem dn_right_plans (A : At K mg "right_plans" (topS 22)) (T : Txt K mg C) (D1 : Dn P w K mg base 1 "nothing" ["season"] (spNothing C)) (D21 : Dn P w K mg base 4 "longer" ["season", "plans", "day"] (spLonger C)) : Dn P w K mg base 5 "right_plans" ["season"] (spRightPlans C) := by
  refine dn_ok A sc22 (fun _ _ _ _ _ _ us hl => match us, hl with | [_], _ => rfl) (fun vs H Q E h => ?_) fun f cdv A outer s H vs Q E hr h => ?_
  · obtain ⟨L, s, rfl, _⟩ := h
    rfl
  · refine ⟨_, pss_cons (ps_set (i := 1) sc22.nd rfl (Or.inl rfl) (pe_lst (pa_cons (pe_tup (pa_cons (pe_tup pa_nil) (pa_cons (pe_dn D1 (hr.mono (by decide)) (pa_cons (pv 0) pa_nil)) pa_nil))) pa_nil)))
      (pss_cons (ps_for PassesOwn.never rfl (pi_range1 rfl T.range (pa_cons (pe_callB call_len_seq (by rfl) T.len PySem.boot_len (pa_cons (pe_fld (pv 0) rfl) pa_nil)) pa_nil)) (pg_name (i := 2) sc22.nd rfl (Or.inl rfl))
        (pss_one (ps_set (i := 1) sc22.nd rfl (Or.inl rfl) (pe_dn D21 hr (pa_cons (pv 0) (pa_cons (pv 1) (pa_cons (pv 2) pa_nil)))))))
      (pss_one (ps_ret (pv 1)))), ?_⟩
    obtain ⟨L, s, rfl, R, k⟩ := h
    have hnd := R.ok.nd
    refine ⟨by show 0 ≤ sizeLine; decide, fun p0 hp0 => ⟨_, rfl, L, s, rfl, R.ex (Same.new hp0), fun v1 H1 e1 c1 => ⟨by show 2 ≤ sizeLine; decide, fun p1 hp1 => ⟨by show 1 ≤ sizeLine; decide, fun p2 hp2 => ?_⟩⟩⟩⟩
    have e01 : Same H (upd (upd H1 p1 (.tup [.ref p0, v1])) p2 (.lst [.ref p1])) := (((Same.new hp0).trans e1).trans (Same.new hp1)).trans (Same.new hp2)
    have R2 := R.ex e01
    have hdl : (L.ds.map fun d => V.ref d.1).length = s.days.length := by rw [List.length_map]; exact R.dt.1
    refine ⟨_, rfl, L.sa, C, L.dx, _, _, rfl, R2.ins, T.cl, T.n4, lkD, L.da, _, rfl, .inl (SqL.of R2.dl), _, rfl, by rw [hdl]; omega, by rw [hdl]; omega, ?_⟩
    have e0 : ((L.ds.map fun d => V.ref d.1).length : Int).toNat = s.days.length := by rw [hdl]; rfl
    rw [e0]
    refine for_range (lo := 0) (n := s.days.length) (fun i σ H' => ∃ v1 v2, σ = [some (.ref L.sa), some v1, v2] ∧ Same H H' ∧ PlL s H' v1 (plansTo s i)) ⟨.ref p2, none, rfl, e01, p2, _, rfl, upd_same, ?_⟩ ?_ ?_
    · refine Al.cons ⟨p1, p0, v1, rfl, ?_, ?_, ?_⟩ Al.nil
      · exact Same.new hp2 _ _ upd_same
      · exact Same.new hp2 _ _ (Same.new hp1 _ _ (e1 _ _ upd_same))
      · rw [catch_nil]
        exact c1.tu (Tu.of ((Same.new hp1).trans (Same.new hp2)))
    · rintro i σ H' hi ⟨v1, v2, rfl, e', hpl⟩
      rw [Int.zero_add]
      exact ⟨_, rfl, _, rfl, _, rfl, L, s, v1, plansTo s i, i, rfl, R.ex e', hi, hpl, count_le R.ok (by omega), fun l hl => (plansTo_len hl).1, fun v3 H3 e3 hpl3 => ⟨v3, _, rfl, e'.trans e3, hpl3⟩⟩
    · rintro σ H' ⟨v1, v2, rfl, e', hpl⟩
      exact ⟨_, rfl, k _ _ e' hpl⟩
end
end Sm
end
section
/-! the calls that write nothing: plain_told, check_told, best_told. -/
namespace Sm
open PySem PySem.Spec PyProof.Rows L2
open Uw27 (Season Shoal)
section
variable {P : Program} {w : World} {K : PySem.W.Frag} {mg : Str → Option Value} {base : Heap} {C : Addr}
theorem out_eq (v : Int) (l : List Nat) : (Uw27Neutral.out ⟨v, l⟩).map V.int = .int v :: l.map nV := by
  show V.int v :: (l.map fun (n : Nat) => (n : Int)).map V.int = _
  rw [List.map_map]
  rfl
theorem num6 {x : Uw27.Call} (h : numOf x = 6) : x = .plain := by
  cases x <;> first | rfl | (simp [numOf] at h)
theorem num5 {x : Uw27.Call} (h : numOf x = 5) : x = .best := by
  cases x <;> first | rfl | (simp [numOf] at h)
theorem num7 {x : Uw27.Call} (h : numOf x = 7) : ∃ l, x = .check l := by
  cases x <;> first | exact ⟨_, rfl⟩ | (simp [numOf] at h)
theorem pe_gi {X : Cx} {x : Str} {i : Int} {t : Tok} {pos : Pos} (hg : Gl X x) (hm : X.mg x = some (.int i t)) (hd : (x == ("__debug__" : Str)) = false := by decide) : PE X (.Name x pos) (tC (.int i)) := pe_glob hg hm ⟨_, rfl⟩ hd
/-! plain_told -/
theorem sc16 : FnScope ["season", "call", "plan", "catch", "day", "net"] ["season", "call"] (defScope (topS 16)) := ⟨rfl, rfl, rfl, by decide +kernel, rfl, by decide +kernel, by decide +kernel⟩
theorem step_plain (s : Season) : Uw27.step s .plain = (s, ⟨(s.worth s.plain : Nat), s.plain⟩) := rfl
theorem dn_plain (A : At K mg "plain_told" (topS 16)) (T : Txt K mg C) (D1 : Dn P w K mg base 1 "nothing" ["season"] (spNothing C)) (D7 : Dn P w K mg base 3 "catch_on" ["season", "day", "net"] (spCatchOn C)) (D8 : Dn P w K mg base 1 "together" ["one", "other"] spTogether)
    (D15 : Dn P w K mg base 4 "net_for" ["season", "day", "catch"] (spNetFor C)) : Dn P w K mg base 5 "plain_told" ["season", "call"] (spDeed C K 6) := by
  refine dn_ok A sc16 (fun _ _ _ _ _ _ us hl => match us, hl with | [_, _], _ => rfl) (fun vs H Q E h => ?_) fun f cdv A outer s H vs Q E hr h => ?_
  · obtain ⟨x, _, L, s, p, rfl, _⟩ := h
    rfl
  · refine ⟨_, pss_cons (ps_set (i := 2) sc16.nd rfl (Or.inl rfl) (pe_lst pa_nil))
      (pss_cons (ps_set (i := 3) sc16.nd rfl (Or.inl rfl) (pe_dn D1 (hr.mono (by decide)) (pa_cons (pv 0) pa_nil)))
      (pss_cons (ps_for PassesOwn.never rfl (pi_range1 rfl T.range (pa_cons (pe_callB call_len_seq (by rfl) T.len PySem.boot_len (pa_cons (pe_fld (pv 0) rfl) pa_nil)) pa_nil)) (pg_name (i := 4) sc16.nd rfl (Or.inl rfl))
        (pss_cons (ps_set (i := 5) sc16.nd rfl (Or.inl rfl) (pe_dn D15 hr (pa_cons (pv 0) (pa_cons (pv 4) (pa_cons (pv 3) pa_nil)))))
        (pss_cons (ps_expr (pe_bm PySem.F.plainAttrs_list PySem.F.slot_list_append PySem.F.type_list_append mt_append (pv 2) (pa_cons (pv 5) pa_nil)))
        (pss_one (ps_set (i := 3) sc16.nd rfl (Or.inl rfl) (pe_dn D8 (hr.mono (by decide)) (pa_cons (pv 3) (pa_cons (pe_dn D7 (hr.mono (by decide)) (pa_cons (pv 0) (pa_cons (pv 4) (pa_cons (pv 5) pa_nil)))) pa_nil))))))))
      (pss_one (ps_ret (pe_op op_cat (pe_lst (pa_cons (pe_ix ix_tup (pv 3) pe_int (fun _ _ => rfl)) pa_nil)) (pv 2)))))), ?_⟩
    obtain ⟨x, hx, L, s, pc, rfl, O, hpc, hok, k⟩ := h
    obtain rfl := num6 hx
    have R := O.rd
    have hnd := R.ok.nd
    refine ⟨by show 0 ≤ sizeLine; decide, fun p hp => ⟨_, rfl, L, s, rfl, R.ex (Same.new hp), fun v1 H1 e1 c1 => ?_⟩⟩
    have e01 := (Same.new (o := .lst []) hp).trans e1
    have R1 := R.ex e01
    have hdl : (L.ds.map fun d => V.ref d.1).length = s.days.length := by rw [List.length_map]; exact R.dt.1
    refine ⟨_, rfl, L.sa, C, L.dx, _, _, rfl, R1.ins, T.cl, T.n4, lkD, L.da, _, rfl, .inl (SqL.of R1.dl), _, rfl, by rw [hdl]; omega, by rw [hdl]; omega, ?_⟩
    have e0 : ((L.ds.map fun d => V.ref d.1).length : Int).toNat = s.days.length := by rw [hdl]; rfl
    rw [e0]
    refine for_range (lo := 0) (n := s.days.length) (fun i σ H' => ∃ v3 v4 v5, σ = [some (.ref L.sa), some (.ref pc), some (.ref p), some v3, v4, v5] ∧ Same H H' ∧ H' p = some (.lst ((plainTo s i).map nV)) ∧ CaAt H' v3 (caOf s (s.catch_ (plainTo s i)))) ⟨v1, none, none, rfl, e01, e1 _ _ upd_same, c1⟩ ?_ ?_
    · rintro i σ H' hi ⟨v3, v4, v5, rfl, e', hpl, c3⟩
      rw [Int.zero_add]
      refine ⟨_, rfl, _, rfl, _, rfl, L, s, i, v3, _, rfl, R.ex e', hi, c3, fun H2 e2 => ?_⟩
      have hp2 := e2 _ _ hpl
      have tu : Tu H2 (upd H2 p (.lst ((plainTo s i).map nV ++ [nV (netFor s i (s.catch_ (plainTo s i)))]))) := Tu.lst hp2
      have e3 := Same.mut (p := p) (o := .lst ((plainTo s i).map nV ++ [nV (netFor s i (s.catch_ (plainTo s i)))])) (e'.trans e2) hp
      have hlen := plainTo_len s i
      refine ⟨_, rfl, .inl ⟨rfl, _, SqL.of hp2⟩, _, rfl, p, _, _, rfl, rfl, hp2, ?_, ?_⟩
      · rw [List.length_map, hlen]
        exact Nat.lt_of_lt_of_le (by omega : i < 100000) (by decide)
      refine ⟨_, rfl, _, rfl, _, rfl, _, rfl, L, s, i, netFor s i (s.catch_ (plainTo s i)), rfl, R.ex e3, hi, netFor_le .., fun v6 H4 e4 c6 => ?_⟩
      refine ⟨v3, v6, _, _, rfl, ((c3.tu (Tu.of e2)).tu tu).tu (Tu.of e4), c6, by show (landedL s _).length = (landedL s _).length; rw [landedL_len, landedL_len], by show (landedL s _).length ≤ 3; rw [landedL_len]; exact R.ok.nk, fun v7 H5 e5 c7 => ?_⟩
      have es : s.catch_ (plainTo s (i + 1)) = s.catch_ (plainTo s i) ++ s.taken i (netFor s i (s.catch_ (plainTo s i))) := by
        have : plainTo s (i + 1) = plainTo s i ++ [netFor s i (s.catch_ (plainTo s i))] := rfl
        rw [this, catch_snoc, hlen]
      rw [together_caOf, ← es] at c7
      refine ⟨v7, _, _, rfl, (e3.trans e4).trans e5, ?_, c7⟩
      refine (e4.trans e5) _ _ (upd_same.trans ?_)
      have : plainTo s (i + 1) = plainTo s i ++ [netFor s i (s.catch_ (plainTo s i))] := rfl
      rw [this, List.map_append]
      rfl
    · rintro σ H' ⟨v3, v4, v5, rfl, e', hpl, a, b, rfl, h1, h2⟩
      refine ⟨_, rfl, a, _, _, _, rfl, rfl, SqT.of h1, rfl, by show 1 ≤ sizeLine; decide, fun q hq => ⟨_, rfl, q, p, _, _, rfl, rfl, upd_same, Same.new hq _ _ hpl, ?_, fun r hr2 => ?_⟩⟩
      · rw [List.length_map, plainTo_len]
        exact Nat.le_trans (by show 1 + s.days.length ≤ 1000; omega) (by decide)
      · refine k _ _ (Done.of O (e'.trans (Same.new hq)) hr2 ?_ rfl)
        rw [upd_same, step_plain, out_eq, worth_eq R.ok, plain_eq R.ok]
        rfl
/-! check_told -/
theorem sc19 : FnScope ["season", "plan", "catch", "kind"] ["season", "plan"] (defScope (topS 19)) := ⟨rfl, rfl, rfl, by decide +kernel, rfl, by decide +kernel, by decide +kernel⟩
theorem step_check0 {s : Season} {l : List Nat} (h : s.told l = false) : Uw27.step s (.check l) = (s, ⟨-1, []⟩) := if_pos h
theorem step_check1 {s : Season} {l : List Nat} (h : s.told l = true) : Uw27.step s (.check l) = (s, if s.waste < s.small l then ⟨-6, [s.small l]⟩ else match s.over l with
    | some k => ⟨-7, [k, s.landed l k]⟩
    | none => ⟨(s.worth l : Nat), Uw27.changes l :: s.small l :: (List.range s.kinds.length).map (s.landed l)⟩) := if_neg (by rw [h]; exact Bool.noConfusion)
theorem find_lt {p : Nat → Bool} {n k : Nat} (h : (List.range n).find? p = some k) : k < n := List.mem_range.mp (List.mem_of_find?_eq_some h)
theorem dn_check (A : At K mg "check_told" (topS 19)) (T : Txt K mg C) (D17 : Dn P w K mg base 2 "is_plan" ["season", "plan"] (spIsPlan C K)) (D18 : Dn P w K mg base 4 "catch_of" ["season", "plan"] (spCatchOf C K)) (D9 : Dn P w K mg base 1 "first_over" ["season", "catch"] (spFirstOver C))
    (D11 : Dn P w K mg base 1 "changes_in" ["plan"] (spChanges K)) : Dn P w K mg base 5 "check_told" ["season", "plan"] (spDeed C K 7) := by
  obtain ⟨t1, ht1⟩ := T.k1
  obtain ⟨t2, ht2⟩ := T.k2
  refine dn_ok A sc19 (fun _ _ _ _ _ _ us hl => match us, hl with | [_, _], _ => rfl) (fun vs H Q E h => ?_) fun f cdv A outer s H vs Q E hr h => ?_
  · obtain ⟨x, _, L, s, p, rfl, _⟩ := h
    rfl
  · refine ⟨_, pss_cons (ps_if (pt_not (pt_val (pe_dn D17 (hr.mono (by decide)) (pa_cons (pv 0) (pa_cons (pv 1) pa_nil))))) (pss_one (ps_ret (pe_lst (pa_cons (pe_un un_neg pe_int) pa_nil)))) pss_nil)
      (pss_cons (ps_set (i := 2) sc19.nd rfl (Or.inl rfl) (pe_dn D18 hr (pa_cons (pv 0) (pa_cons (pv 1) pa_nil))))
      (pss_cons (ps_if (pt_cmpR op_gt (pe_ix ix_tup (pv 2) pe_int (fun _ _ => rfl)) (pe_fld (pv 0) rfl) (nomark _)) (pss_one (ps_ret (pe_lst (pa_cons (pe_gi (by rfl) ht1) (pa_cons (pe_ix ix_tup (pv 2) pe_int (fun _ _ => rfl)) pa_nil))))) pss_nil)
      (pss_cons (ps_set (i := 3) sc19.nd rfl (Or.inl rfl) (pe_dn D9 (hr.mono (by decide)) (pa_cons (pv 0) (pa_cons (pv 2) pa_nil))))
      (pss_cons (ps_if (pt_cmp (pc_notN (pv 3))) (pss_one (ps_ret (pe_lst (pa_cons (pe_gi (by rfl) ht2) (pa_cons (pv 3) (pa_cons (pe_ix ix_tup (pe_ix ix_tup (pv 2) pe_int (fun _ _ => rfl)) (pv 3) (fun _ _ => rfl)) pa_nil)))))) pss_nil)
      (pss_one (ps_ret (pe_op op_cat (pe_lst (pa_cons (pe_ix ix_tup (pv 2) pe_int (fun _ _ => rfl)) (pa_cons (pe_dn D11 (hr.mono (by decide)) (pa_cons (pv 1) pa_nil)) (pa_cons (pe_ix ix_tup (pv 2) pe_int (fun _ _ => rfl)) pa_nil))))
        (pe_callTy call_list_of (by rfl) T.list (by decide +kernel) (pa_cons (pe_ix ix_tup (pv 2) pe_int (fun _ _ => rfl)) pa_nil)))))))))
      , ?_⟩
    obtain ⟨x, hx, L, s, pc, rfl, O, hpc, hok, k⟩ := h
    obtain ⟨l, rfl⟩ := num7 hx
    have R := O.rd
    refine ⟨_, rfl, _, rfl, L, s, pc, l, rfl, R, hpc, hok, fun H1 e1 => ⟨_, rfl, ?_⟩⟩
    cases ht : s.told l with
    | false =>
      refine iteT ⟨1, rfl, by show 1 ≤ sizeLine; decide, fun p hp => k _ _ (Done.of O e1 hp ?_ ?_)⟩
      · rw [upd_same, step_check0 ht]
        rfl
      · rw [step_check0 ht]
    | true =>
      have hs1 : (Uw27.step s (.check l)).1 = s := by rw [step_check1 ht]
      refine iteF ⟨_, rfl, _, rfl, L, s, pc, l, rfl, R.ex e1, Same.seq e1 hpc, ht, fun v2 H2 e2 c2 => ?_⟩
      obtain ⟨a, b, rfl, h1, h2⟩ := id c2
      have e12 := e1.trans e2
      have R2 := R.ex e12
      refine ⟨_, rfl, a, _, _, _, rfl, rfl, SqT.of h1, rfl, _, rfl, L.sa, C, L.dx, _, _, rfl, R2.ins, T.cl, T.n1, lkS, _, _, rfl, rfl, _, rfl, ?_⟩
      by_cases cw : s.waste < s.small l
      · have cw' := cw
        rw [small_eq] at cw'
        show (if decide ((s.waste : Int) < (smallOf s (s.catch_ l) : Int)) = true then _ else _)
        rw [decide_eq_true (Int.ofNat_lt.mpr cw')]
        refine iteT ⟨_, rfl, a, _, _, _, rfl, rfl, SqT.of h1, rfl, by show 2 ≤ sizeLine; decide, fun p hp => k _ _ (Done.of O e12 hp ?_ hs1)⟩
        rw [upd_same, step_check1 ht, if_pos cw, out_eq, small_eq]
        rfl
      · have cw' := cw
        rw [small_eq] at cw'
        show (if decide ((s.waste : Int) < (smallOf s (s.catch_ l) : Int)) = true then _ else _)
        rw [decide_eq_false (fun z => cw' (Int.ofNat_lt.mp z))]
        refine iteF ⟨_, rfl, _, rfl, L, s, .ref a, s.catch_ l, rfl, R2, c2, fun H3 e3 => ⟨_, rfl, _, rfl, ?_⟩⟩
        have e13 := e12.trans e3
        have h1' := e3 _ _ h1
        have h2' := e3 _ _ h2
        cases ho : overC s (s.catch_ l) with
        | some kd =>
          have hkd : kd < s.kinds.length := find_lt (by unfold overC at ho; exact ho)
          refine iteT ⟨_, rfl, _, rfl, a, _, _, _, rfl, rfl, SqT.of h1', rfl, _, rfl, b, _, _, _, rfl, rfl, SqT.of h2', atI_nat (landedL_at hkd), by show 3 ≤ sizeLine; decide, fun p hp => k _ _ (Done.of O e13 hp ?_ hs1)⟩
          rw [upd_same, step_check1 ht, if_neg cw, over_eq, ho]
          show _ = some (HO.lst ((Uw27Neutral.out ⟨-7, [kd, s.landed l kd]⟩).map V.int))
          rw [out_eq, landed_eq]
          rfl
        | none =>
          refine iteF ⟨_, rfl, a, _, _, _, rfl, rfl, SqT.of h1', rfl, _, rfl, pc, l, rfl, .inl (Same.seq e13 hpc), hok, fun H4 e4 => ?_⟩
          have h1'' := e4 _ _ h1'
          have h2'' := e4 _ _ h2'
          refine ⟨_, rfl, a, _, _, _, rfl, rfl, SqT.of h1'', rfl, by show 3 ≤ sizeLine; decide, fun q hq => ?_⟩
          refine ⟨_, rfl, a, _, _, _, rfl, rfl, SqT.of (Same.new hq _ _ h1''), rfl, b, _, rfl, .inr (SqT.of (Same.new hq _ _ h2'')), fun r hr3 => ?_⟩
          refine ⟨q, r, _, _, rfl, rfl, Same.new hr3 _ _ upd_same, upd_same, ?_, fun u hu => k _ _ (Done.of O (((e13.trans e4).trans (Same.new hq)).trans (Same.new hr3)) hu ?_ hs1)⟩
          · show 3 + (List.map nV (landedL s (s.catch_ l))).length ≤ sizeLine
            rw [List.length_map, landedL_len]
            have := R.ok.nk
            exact Nat.le_trans (by show 3 + s.kinds.length ≤ 1000; omega) (by decide)
          · rw [upd_same, step_check1 ht, if_neg cw, over_eq, ho]
            show _ = some (HO.lst ((Uw27Neutral.out ⟨(s.worth l : Nat), Uw27.changes l :: s.small l :: (List.range s.kinds.length).map (s.landed l)⟩).map V.int))
            rw [out_eq, worth_eq R.ok, small_eq]
            have el : (List.range s.kinds.length).map (s.landed l) = landedL s (s.catch_ l) := by
              unfold landedL
              exact List.map_congr_left fun i _ => landed_eq s l i
            rw [el]
            rfl
end
end Sm
end
section
/-! best_told. -/
namespace Sm
open PySem PySem.Spec PyProof.Rows L2
open Uw27 (Season Shoal)
section
variable {P : Program} {w : World} {K : PySem.W.Frag} {mg : Str → Option Value} {base : Heap} {C : Addr}
theorem given_get {β : Type} (xs : List β) : given (fun i => xs[i]?) xs.length = xs := by
  have h := given_pick xs fun _ => true
  rw [List.filter_eq_self.mpr (fun _ _ => rfl)] at h
  have e : (fun i => (xs[i]?).filter fun _ => true) = fun (i : Nat) => xs[i]? := by
    funext i
    cases xs[i]? <;> rfl
  rw [e] at h
  exact h
theorem sc24 : FnScope ["season", "call", "ranks", "best", "alike", "plan", "catch", "rank"] ["season", "call"] (defScope (topS 24)) := ⟨rfl, rfl, rfl, by decide +kernel, rfl, by decide +kernel, by decide +kernel⟩
def RRk (s : Season) : V → List Nat → Hp → Prop := fun v l H => RkAt s H v l
theorem rRk (s : Season) : RTu (RRk s) := fun _ _ _ _ e h => h.tu e
def two (a b : Int) : PyData := .tuple [.int a, .int b]
theorem two_shaped (a b : Int) : SeqAt.shaped (two a b) = true := by
  unfold two SeqAt.shaped
  simp [PyData.canLay0, PyData.canLayAll0, PyData.depth, PyData.depthAll]
theorem two_eqv (a b c d : Int) : PyData.eqv (two a b) (two c d) = (decide (a = c) && decide (b = d)) := by
  have h : PyData.eqv (two a b) (two c d) = decide ((a, b) = (c, d)) := PySem.W.Datum.eqv (a, b) (c, d)
  rw [h, Bool.eq_iff_iff, Bool.and_eq_true, decide_eq_true_eq, decide_eq_true_eq, decide_eq_true_eq, Prod.mk.injEq]
/-- rank[:2] -/
theorem rsl_of {H : Hp} {a : Addr} {x y z : V} {Q : VK} (h : H a = some (.tup [x, y, z])) (q : ∀ p, H p = none → Q (.ref p) (upd H p (.tup [x, y]))) : rSlA K (.ref a) none (some 2) H Q :=
  ⟨a, _, rfl, SqT.of h, fun z => absurd z (by show ¬ (HT.sIx 3 0 none = 0 ∧ HT.sIx 3 3 (some 2) = 3); decide), fun _ p hp => q p hp⟩
theorem step_best {s : Season} {b : Uw27.Best} (h : s.best = some b) : Uw27.step s .best = (s, ⟨(b.worth : Nat), b.changes :: b.many :: b.plan⟩) := by
  show (s, match s.best with
    | none => Uw27.ok (-6)
    | some b => ⟨(b.worth : Nat), b.changes :: b.many :: b.plan⟩) = _
  rw [h]
theorem dn_best (A : At K mg "best_told" (topS 24)) (T : Txt K mg C) (D22 : Dn P w K mg base 5 "right_plans" ["season"] (spRightPlans C)) (D23 : Dn P w K mg base 2 "rank_of" ["plan", "catch"] (spRankOf K)) : Dn P w K mg base 6 "best_told" ["season", "call"] (spDeed C K 5) := by
  refine dn_ok A sc24 (fun _ _ _ _ _ _ us hl => match us, hl with | [_, _], _ => rfl) (fun vs H Q E h => ?_) fun f cdv A outer s H vs Q E hr h => ?_
  · obtain ⟨x, _, L, s, p, rfl, _⟩ := h
    rfl
  · refine ⟨_, pss_cons (ps_setLc (i := 2) (own := [("plan", 5), ("catch", 6)]) (g := gTup K 2 (gCons (gName 5) (gCons (gName 6) gNil))) (tt := tYes) (te := tDn (spRankOf K) (tCons (tVar 5) (tCons (tVar 6) tNil))) rfl sc24.nd rfl rfl (sw_true rfl rfl rfl (by decide +kernel)) (pi_list (pe_dn D22 hr (pa_cons (pv 0) pa_nil)))
        (blkOk_by (N := ["season", "call", "ranks", "best", "alike", "plan", "catch", "rank"]) (sc := defScope (topS 24)) (by decide +kernel)) (fun _ _ _ _ _ => pg_tup rfl (pgs_cons (pg_name (i := 5) sc24.nd rfl (Or.inl rfl)) (pgs_cons (pg_name (i := 6) sc24.nd rfl (Or.inl rfl)) pgs_nil))) (fun _ _ _ _ _ => pts_nil) (fun _ _ _ _ _ => pe_dn D23 (hr.mono (by decide)) (pa_cons (pv 5) (pa_cons (pv 6) pa_nil))))
      (pss_cons (ps_set (i := 3) sc24.nd rfl (Or.inr rfl) (pe_callB (cr_minD rfl hr.units) (by rfl) T.min (by decide +kernel) (pa_cons (pv 2) pa_nil)))
      (pss_cons (ps_setLc (i := 4) (own := [("rank", 7)]) (g := gName 7) (tt := tTest (tOp (rEqD K) (tSl (rSlA K) (tVar 7) tNoPart (tPart (tC (.int 2)))) (tSl (rSlA K) (tVar 3) tNoPart (tPart (tC (.int 2)))))) (te := tVar 7) rfl sc24.nd rfl rfl (sw_true rfl rfl rfl (by decide +kernel)) (pi_list (pv 2))
        (blkOk_by (N := ["season", "call", "ranks", "best", "alike", "plan", "catch", "rank"]) (sc := defScope (topS 24)) (by decide +kernel)) (fun _ _ _ _ _ => pg_name (i := 7) sc24.nd rfl (Or.inl rfl))
        (fun _ _ _ _ _ => pts_one (pt_cmpR (op_eqD hr.units) (pe_slice sl_tupA (pv 7) po_none (po_some pe_int)) (pe_slice sl_tupA (pv 3) po_none (po_some pe_int)) (nomark _))) (fun _ _ _ _ _ => pv 7))
      (pss_one (ps_ret (pe_op op_cat (pe_lst (pa_cons (pe_op op_sub pe_int (pe_ix ix_tup (pv 3) pe_int (fun _ _ => rfl))) (pa_cons (pe_ix ix_tup (pv 3) pe_int (fun _ _ => rfl)) (pa_cons (pe_callB call_len_seq (by rfl) T.len PySem.boot_len (pa_cons (pv 4) pa_nil)) pa_nil))))
        (pe_callTy call_list_of (by rfl) T.list (by decide +kernel) (pa_cons (pe_ix ix_tup (pv 3) pe_int (fun _ _ => rfl)) pa_nil))))))), ?_⟩
    obtain ⟨x, hx, L, s, pc, rfl, O, hpc, hok, k⟩ := h
    obtain rfl := num5 hx
    have R := O.rd
    have hnd := R.ok.nd
    have hcount := count_le R.ok hnd
    obtain ⟨x0, xs0, hps⟩ := plans_cons s s.days.length
    refine ⟨_, rfl, L, s, rfl, R, fun v1 H1 e1 hpl => ?_⟩
    obtain ⟨pp, vs, rfl, hpp, hal⟩ := hpl
    refine ⟨pp, rfl, ⟨_, SqL.of hpp⟩, fun D hD => ?_⟩
    refine lc_listX (β := List Nat) (R := RRk s) (rRk s) (fun i => (plansTo s s.days.length)[i]?) (SqL.of hpp) (by rw [hal.1]; omega) hD (fun i x H' hi e' => ?_) (fun H2 ys e2 hys alr => ?_)
    · obtain ⟨l, hl, hpa⟩ := hal.atL hi
      obtain ⟨a, b, c, rfl, h1, h2, h3⟩ := hpa.tu (Tu.of e')
      have hll := (plansTo_len (List.mem_of_getElem? hl)).1
      intro Sk Gv hs hg
      refine ⟨a, _, rfl, SqT.of h1, rfl, _, _, rfl, _, _, rfl, rfl, rfl, ?_⟩
      exact ⟨_, rfl, _, rfl, s, b, c, l, rfl, h2, by omega, h3, fun v2 H2 e2 r2 => hg l hl _ _ e2 r2⟩
    -- best = min(ranks)
    rw [hal.1, given_get] at alr
    have hdp : DpAll K H2 ys (encR s x0 :: xs0.map (encR s)) := by
      have h := dp_ranks (K := K) alr
      rw [hps] at h
      exact h
    refine ⟨_, rfl, D, ys, encR s x0, xs0.map (encR s), rfl, SqL.of hys, hdp, alike_all (x0 :: xs0), Nat.le_trans (depth_all (s := s) (x0 :: xs0)) (by decide), fun i v hv hmin => ?_⟩
    have hmem := minR_mem s xs0 x0
    rw [← hps] at hmem
    have hlenb := (plansTo_len hmem).1
    have hbest := best_eq hps
    generalize hbd : minR s x0 xs0 = bp at hmem hlenb hbest
    have hrk : RkAt s H2 v bp := by
      obtain ⟨l, hl, r⟩ := alr.atL hv
      rw [minD_encR R.ok, hbd] at hmin
      rw [hps] at hl
      have : (encR s x0 :: xs0.map (encR s)) = (x0 :: xs0).map (encR s) := rfl
      rw [this, List.getD_eq_getElem?_getD, List.getElem?_map, hl] at hmin
      rw [← encR_inj hmin]
      exact r
    obtain ⟨ra, rb, rfl, hr1, hr2⟩ := hrk
    -- alike = [..]
    refine ⟨_, rfl, D, rfl, ⟨_, SqL.of hys⟩, fun D2 hD2 => ?_⟩
    refine lc_listX (β := List Nat) (R := RRk s) (rRk s) (fun i => ((plansTo s s.days.length)[i]?).filter (alike s bp)) (SqL.of hys) (by rw [alr.1]; omega) hD2 (fun i x H' hi e' => ?_) (fun H3 zs e3 hzs al3 => ?_)
    · obtain ⟨l, hl, hra⟩ := alr.atL hi
      obtain ⟨a, b, rfl, h1, h2⟩ := hra.tu (Tu.of e')
      intro Sk Gv hs hg
      rw [hl] at hs hg
      refine ⟨rfl, _, rfl, _, rfl, rsl_of h1 fun p hp => ?_⟩
      refine ⟨_, rfl, _, rfl, rsl_of (Same.new hp _ _ (e' _ _ hr1)) fun q hq => ?_⟩
      refine ⟨two _ _, two _ _, .tup (SqT.of (Same.new hq _ _ upd_same)) (.cons (.int _) (.cons (.int _) .nil)), .tup (SqT.of upd_same) (.cons (.int _) (.cons (.int _) .nil)), two_shaped _ _, two_shaped _ _, _, rfl, ?_⟩
      rw [two_eqv]
      have eqa : (decide ((0 : Int) - (worthOf s (s.catch_ l) : Int) = 0 - (worthOf s (s.catch_ bp) : Int)) && decide ((Uw27.changes l : Int) = (Uw27.changes bp : Int))) = alike s bp l := by
        unfold alike
        rw [worth_eq R.ok, worth_eq R.ok, Bool.eq_iff_iff, Bool.and_eq_true, Bool.and_eq_true, decide_eq_true_eq, decide_eq_true_eq, decide_eq_true_eq, decide_eq_true_eq]
        omega
      rw [eqa]
      have ee := (Same.new (o := .tup [V.int (0 - (worthOf s (s.catch_ l) : Int)), nV (Uw27.changes l)]) hp).trans (Same.new (o := .tup [V.int (0 - (worthOf s (s.catch_ bp) : Int)), nV (Uw27.changes bp)]) hq)
      cases hb : alike s bp l with
      | true => exact iteT ⟨_, rfl, hg l (by rw [Option.filter_some, hb]; rfl) _ _ ee ⟨a, b, rfl, ee _ _ h1, ee _ _ h2⟩⟩
      | false => exact iteF (hs (by rw [Option.filter_some, hb]; rfl) _ ee)
    rw [alr.1, given_pick] at al3
    have h13 := e3 _ _ hr1
    have h23 := e3 _ _ hr2
    refine ⟨_, rfl, ra, _, _, _, rfl, rfl, SqT.of h13, rfl, _, _, rfl, rfl, _, rfl, ra, _, _, _, rfl, rfl, SqT.of h13, rfl, _, rfl, D2, _, rfl, .inl (SqL.of hzs), by show 3 ≤ sizeLine; decide, fun q hq => ?_⟩
    refine ⟨_, rfl, ra, _, _, _, rfl, rfl, SqT.of (Same.new hq _ _ h13), rfl, rb, _, rfl, .inr (SqT.of (Same.new hq _ _ h23)), fun r hr4 => ?_⟩
    refine ⟨q, r, _, _, rfl, rfl, Same.new hr4 _ _ upd_same, upd_same, ?_, fun u hu => k _ _ (Done.of O ((((e1.trans e2).trans e3).trans (Same.new hq)).trans (Same.new hr4)) hu ?_ ?_)⟩
    · show 3 + (List.map nV bp).length ≤ sizeLine
      rw [List.length_map, hlenb]
      exact Nat.le_trans (by show 3 + s.days.length ≤ 1000; omega) (by decide)
    · rw [upd_same, step_best hbest]
      show _ = some (HO.lst ((Uw27Neutral.out ⟨(s.worth bp : Nat), Uw27.changes bp :: ((x0 :: xs0).filter (alike s bp)).length :: bp⟩).map V.int))
      rw [out_eq, worth_eq R.ok, ← hps, al3.1]
      have e0 : (0 : Int) - (0 - (worthOf s (s.catch_ bp) : Int)) = (worthOf s (s.catch_ bp) : Int) := by omega
      show some (HO.lst (V.int ((0 : Int) - (0 - (worthOf s (s.catch_ bp) : Int))) :: _)) = _
      rw [e0]
      rfl
    · rw [step_best hbest]
end
end Sm
end
section
/-! the calls that write: begun, kind_put, net_put, day_put, shoal_put; __init__. -/
namespace Sm
open PySem PySem.Spec PyProof.Rows L2
open Uw27 (Season Shoal)
/-! ### heaps that change at some addresses -/
def Keep (S : List Addr) (H H' : Hp) : Prop := ∀ b o, H b = some o → b ∉ S → H' b = some o
theorem Keep.refl {S : List Addr} (H : Hp) : Keep S H H := fun _ _ h _ => h
theorem Keep.trans {S : List Addr} {H H1 H2 : Hp} (a : Keep S H H1) (b : Keep S H1 H2) : Keep S H H2 := fun c o h n => b c o (a c o h n) n
theorem Keep.of {S : List Addr} {H H' : Hp} (e : Same H H') : Keep S H H' := fun b o h _ => e b o h
theorem Keep.wr {S : List Addr} {H : Hp} {p : Addr} {o : HO} (h : p ∈ S) : Keep S H (upd H p o) := fun b u e n => by
  rw [upd_ne (fun z => n (by rw [z]; exact h))]
  exact e
theorem Keep.tu {H H' : Hp} {p : Addr} {o : HO} (h : Mut (H p)) : Tu H (upd H p o) := fun a xs e => by
  rw [upd_ne (fun z => by rw [← z, e] at h; exact h)]
  exact e
/-- a season's addresses stand apart -/
structure Apart (L : Lay) : Prop where
  sk : L.sa ≠ L.ka
  sn : L.sa ≠ L.na
  sd : L.sa ≠ L.da
  kn : L.ka ≠ L.na
  kd : L.ka ≠ L.da
  nd : L.na ≠ L.da
  ds : ∀ d ∈ L.ds, d.1 ≠ L.sa ∧ d.1 ≠ L.ka ∧ d.1 ≠ L.na ∧ d.1 ≠ L.da
  dd : (L.ds.map (·.1)).Nodup
theorem apart {L : Lay} (h : (own L).Nodup) : Apart L := by
  unfold own at h
  simp only [List.nodup_cons, List.mem_cons, not_or] at h
  obtain ⟨⟨a1, a2, a3, a4⟩, ⟨b1, b2, b3⟩, ⟨c1, c2⟩, d1, d2⟩ := h
  refine ⟨a1, a2, a3, b1, b2, c1, fun d hd => ?_, d2⟩
  have m : d.1 ∈ L.ds.map (·.1) := List.mem_map.mpr ⟨d, hd, rfl⟩
  exact ⟨fun z => a4 (by rw [← z]; exact m), fun z => b3 (by rw [← z]; exact m), fun z => c2 (by rw [← z]; exact m), fun z => d1 (by rw [← z]; exact m)⟩
theorem own_nodup {L : Lay} (a : Apart L) : (own L).Nodup := by
  unfold own
  simp only [List.nodup_cons, List.mem_cons, not_or]
  have m : ∀ x : Addr, (∀ d ∈ L.ds, d.1 ≠ x) → x ∉ L.ds.map (·.1) := fun x h hx => by
    obtain ⟨d, hd, e⟩ := List.mem_map.mp hx
    exact h d hd e
  exact ⟨⟨a.sk, a.sn, a.sd, m _ fun d hd => (a.ds d hd).1⟩, ⟨a.kn, a.kd, m _ fun d hd => (a.ds d hd).2.1⟩, ⟨a.nd, m _ fun d hd => (a.ds d hd).2.2.1⟩, m _ fun d hd => (a.ds d hd).2.2.2, a.dd⟩
/-! ### tests -/
def Ans (t : TT) (σ : L2.St) (H : Hp) (b : Bool) : Prop := ∀ Q : Bool → Hp → Prop, Q b H → t σ H Q
theorem ans_or2 {t u : TT} {σ : L2.St} {H : Hp} {a b : Bool} (h1 : Ans t σ H a) (h2 : Ans u σ H b) : Ans (tOr t u) σ H (a || b) := fun Q q => by
  refine h1 _ ?_
  cases a with
  | true => exact iteT q
  | false => exact iteF (h2 Q q)
theorem ans_not1 {t : TT} {σ : L2.St} {H : Hp} {a : Bool} (h1 : Ans t σ H a) : Ans (tNot t) σ H (!a) := fun Q q => h1 _ q
section
variable {P : Program} {w : World} {K : PySem.W.Frag} {mg : Str → Option Value} {base : Heap} {C : Addr}
theorem num0 {x : Uw27.Call} (h : numOf x = 0) : ∃ w, x = .begins w := by
  cases x <;> first | exact ⟨_, rfl⟩ | (simp [numOf] at h)
theorem num1 {x : Uw27.Call} (h : numOf x = 1) : ∃ k, x = .kind k := by
  cases x <;> first | exact ⟨_, rfl⟩ | (simp [numOf] at h)
theorem num2 {x : Uw27.Call} (h : numOf x = 2) : ∃ k, x = .net k := by
  cases x <;> first | exact ⟨_, rfl⟩ | (simp [numOf] at h)
theorem num3 {x : Uw27.Call} (h : numOf x = 3) : x = .day := by
  cases x <;> first | rfl | (simp [numOf] at h)
theorem num4 {x : Uw27.Call} (h : numOf x = 4) : ∃ k, x = .shoal k := by
  cases x <;> first | exact ⟨_, rfl⟩ | (simp [numOf] at h)
/-- a refusal: the season as it was -/
theorem Done.no {H H1 : Hp} {L : Lay} {s : Season} {x : Uw27.Call} {p : Addr} {v : Int} {o : HO} (O : SeaO C H L s) (e : Same H H1) (hq : H1 p = none) (hp : upd H1 p o p = some (.lst [.int v])) (hs : Uw27.step s x = (s, Uw27.ok v)) : Done C H L s x (.ref p) (upd H1 p o) :=
  Done.of O e hq (by rw [hp, hs]; rfl) (by rw [hs])
/-- the answer is a number, the season another -/
theorem Done.yes {H H' : Hp} {L L' : Lay} {s s' : Season} {x : Uw27.Call} {p : Addr} {v : Int} (hf : H p = none) (hp : H' p = some (.lst [.int v])) (hs : Uw27.step s x = (s', Uw27.ok v)) (O' : SeaO C H' L' s') (ha : L'.sa = L.sa) (kp : Keep (own L) H H') (ow : ∀ b ∈ own L', b ∈ own L ∨ H b = none) : Done C H L s x (.ref p) H' :=
  ⟨p, L', rfl, hf, by rw [hp, hs]; rfl, by rw [hs]; exact O', ha, kp, ow⟩
theorem Keep.back {a : Addr} {H H' : Hp} (k : Keep [a] H H') {o : HO} (ha : H' a = some o) {b : Addr} (h : H' b = none) : H b = none := by
  cases e : H b with
  | none => rfl
  | some u =>
    have hb : b ≠ a := fun z => by rw [z, ha] at h; cases h
    rw [k _ _ e (by simpa using hb)] at h
    cases h
/-! begun -/
theorem sc35 : FnScope ["season", "call"] ["season", "call"] (defScope (topS 35)) := ⟨rfl, rfl, rfl, by decide +kernel, rfl, by decide +kernel, by decide +kernel⟩
theorem dn_begun (A : At K mg "begun" (topS 35)) (T : Txt K mg C) : Dn P w K mg base 1 "begun" ["season", "call"] (spDeed C K 0) := by
  obtain ⟨t3, ht3⟩ := T.k3
  obtain ⟨t8, ht8⟩ := T.k8
  refine dn_ok A sc35 (fun _ _ _ _ _ _ us hl => match us, hl with | [_, _], _ => rfl) (fun vs H Q E h => ?_) fun f cdv A outer s H vs Q E hr h => ?_
  · obtain ⟨x, _, L, s, p, rfl, _⟩ := h
    rfl
  · refine ⟨_, pss_cons (ps_if (pt_cmpR op_gt (pe_ix ix_list (pv 1) pe_int (fun _ _ => rfl)) (pe_gi (by rfl) ht3) (nomark _)) (pss_one (ps_ret (pe_lst (pa_cons (pe_gi (by rfl) ht8) pa_nil)))) pss_nil)
      (pss_cons (ps_fld (pv 0) (pe_ix ix_list (pv 1) pe_int (fun _ _ => rfl)) rfl)
      (pss_cons (ps_fld (pv 0) (pe_lst pa_nil) rfl)
      (pss_cons (ps_fld (pv 0) (pe_lst pa_nil) rfl)
      (pss_cons (ps_fld (pv 0) (pe_lst pa_nil) rfl)
      (pss_one (ps_ret (pe_lst (pa_cons pe_int pa_nil)))))))), ?_⟩
    obtain ⟨x, hx, L, s, pc, rfl, O, hpc, hok, k⟩ := h
    obtain ⟨wst, rfl⟩ := num0 hx
    have R := O.rd
    refine ⟨_, rfl, pc, _, _, _, rfl, rfl, hpc, rfl, _, _, rfl, rfl, _, rfl, ?_⟩
    show (if decide ((1000 : Int) < (wst : Int)) = true then _ else _)
    by_cases c : 1000 < wst
    · rw [decide_eq_true (by omega)]
      exact iteT ⟨by show 1 ≤ sizeLine; decide, fun p hp => k _ _ (Done.no O (Same.refl _) hp upd_same (if_pos c))⟩
    · rw [decide_eq_false (by omega)]
      refine iteF ?_
      refine ⟨_, rfl, pc, _, _, _, rfl, rfl, hpc, rfl, _, rfl, L.sa, C, L.dx, _, rfl, R.ins, T.cl, T.n1, (by show 4 < 1000; decide), ?_⟩
      refine ⟨by show 0 ≤ sizeLine; decide, fun ka hka => ?_⟩
      generalize hH1 : upd H L.sa (.ins C L.dx (putF "too_small" (.int (wst : Int)) (seaF s.waste L.ka L.na L.da))) = H1 at hka
      have i1 : H1 L.sa = some (.ins C L.dx (seaF wst L.ka L.na L.da)) := by rw [← hH1, upd_same]; exact congrArg (fun q => some (HO.ins C L.dx q)) putS
      have k1 : Keep [L.sa] H H1 := by rw [← hH1]; exact Keep.wr (by simp)
      have ska : ka ≠ L.sa := (ne_of_none i1 hka).symm
      refine ⟨_, rfl, L.sa, C, L.dx, _, rfl, Same.new hka _ _ i1, T.cl, T.n2, (by show 4 < 1000; decide), ?_⟩
      refine ⟨by show 0 ≤ sizeLine; decide, fun na hna => ?_⟩
      generalize hH2 : upd (upd H1 ka (.lst [])) L.sa (.ins C L.dx (putF "kinds" (.ref ka) (seaF wst L.ka L.na L.da))) = H2 at hna
      have i2 : H2 L.sa = some (.ins C L.dx (seaF wst ka L.na L.da)) := by rw [← hH2, upd_same]; exact congrArg (fun q => some (HO.ins C L.dx q)) putK
      have k2 : Keep [L.sa] (upd H1 ka (.lst [])) H2 := by rw [← hH2]; exact Keep.wr (by simp)
      have ka2 : H2 ka = some (.lst []) := k2 _ _ upd_same (by simpa using ska)
      have sna : na ≠ L.sa := (ne_of_none i2 hna).symm
      have kna : ka ≠ na := ne_of_none ka2 hna
      refine ⟨_, rfl, L.sa, C, L.dx, _, rfl, Same.new hna _ _ i2, T.cl, T.n3, (by show 4 < 1000; decide), ?_⟩
      refine ⟨by show 0 ≤ sizeLine; decide, fun da hda => ?_⟩
      generalize hH3 : upd (upd H2 na (.lst [])) L.sa (.ins C L.dx (putF "nets" (.ref na) (seaF wst ka L.na L.da))) = H3 at hda
      have i3 : H3 L.sa = some (.ins C L.dx (seaF wst ka na L.da)) := by rw [← hH3, upd_same]; exact congrArg (fun q => some (HO.ins C L.dx q)) putN
      have k3 : Keep [L.sa] (upd H2 na (.lst [])) H3 := by rw [← hH3]; exact Keep.wr (by simp)
      have na3 : H3 na = some (.lst []) := k3 _ _ upd_same (by simpa using sna)
      have ka3 : H3 ka = some (.lst []) := k3 _ _ (Same.new hna _ _ ka2) (by simpa using ska)
      have sda : da ≠ L.sa := (ne_of_none i3 hda).symm
      have kda : ka ≠ da := ne_of_none ka3 hda
      have nda : na ≠ da := ne_of_none na3 hda
      refine ⟨_, rfl, L.sa, C, L.dx, _, rfl, Same.new hda _ _ i3, T.cl, T.n4, (by show 4 < 1000; decide), ?_⟩
      refine ⟨by show 1 ≤ sizeLine; decide, fun p hp => ?_⟩
      generalize hH4 : upd (upd H3 da (.lst [])) L.sa (.ins C L.dx (putF "days" (.ref da) (seaF wst ka na L.da))) = H4 at hp
      have i4 : H4 L.sa = some (.ins C L.dx (seaF wst ka na da)) := by rw [← hH4, upd_same]; exact congrArg (fun q => some (HO.ins C L.dx q)) putD
      have k4 : Keep [L.sa] (upd H3 da (.lst [])) H4 := by rw [← hH4]; exact Keep.wr (by simp)
      have da4 : H4 da = some (.lst []) := k4 _ _ upd_same (by simpa using sda)
      have na4 : H4 na = some (.lst []) := k4 _ _ (Same.new hda _ _ na3) (by simpa using sna)
      have ka4 : H4 ka = some (.lst []) := k4 _ _ (Same.new hda _ _ ka3) (by simpa using ska)
      have kAll : Keep [L.sa] H (upd H4 p (.lst [.int 0])) := ((((((k1.trans (Keep.of (Same.new hka))).trans k2).trans (Keep.of (Same.new hna))).trans k3).trans (Keep.of (Same.new hda))).trans k4).trans (Keep.of (Same.new hp))
      have back : ∀ {b : Addr} {H' : Hp}, Keep [L.sa] H H' → b ≠ L.sa → H' b = none → H b = none := fun {b H'} kk hb hn => by
        cases e : H b with
        | none => rfl
        | some o => rw [kk _ _ e (by simpa using hb)] at hn; cases hn
      refine k _ _ (Done.yes (L' := ⟨L.sa, L.dx, ka, na, da, [], []⟩) (s' := ⟨[], [], wst, []⟩) ((((((((k1.trans (Keep.of (Same.new hka))).trans k2).trans (Keep.of (Same.new hna))).trans k3).trans (Keep.of (Same.new hda))).trans k4)).back i4 hp) upd_same (if_neg c) ⟨⟨?_, ?_, Al.nil, ?_, ?_, Al.nil, ?_⟩, own_nodup ⟨ska.symm, sna.symm, sda.symm, kna, kda, nda, fun d hd => (by cases hd), List.nodup_nil⟩⟩ rfl ?_ ?_)
      · exact Same.new hp _ _ i4
      · exact Same.new hp _ _ ka4
      · exact Same.new hp _ _ na4
      · exact Same.new hp _ _ da4
      · exact ⟨by simp, by simp, by simp, fun d hd => (by cases hd), fun d hd => (by cases hd), fun d hd => (by cases hd)⟩
      · exact fun b o h n => kAll b o h (fun z => n (by
          have : b = L.sa := by simpa using z
          rw [this]
          exact List.mem_cons_self))
      · intro b hb
        have hb' : b = L.sa ∨ b = ka ∨ b = na ∨ b = da := by simpa [own] using hb
        rcases hb' with rfl | rfl | rfl | rfl
        · exact .inl List.mem_cons_self
        · exact .inr (back k1 ska hka)
        · exact .inr (back ((k1.trans (Keep.of (Same.new hka))).trans k2) sna hna)
        · exact .inr (back ((((k1.trans (Keep.of (Same.new hka))).trans k2).trans (Keep.of (Same.new hna))).trans k3) sda hda)
/-! kind_put -/
theorem sc36 : FnScope ["season", "call", "worth", "least", "quota"] ["season", "call"] (defScope (topS 36)) := ⟨rfl, rfl, rfl, by decide +kernel, rfl, by decide +kernel, by decide +kernel⟩
theorem gt_of {i : Nat} {n m : Int} {σ : L2.St} {H : Hp} (h : σ[i]? = some (some (.int n))) : Ans (tTest (tOp (rI0 fun i j => .bl (decide (j < i))) (tVar i) (tC (.int m)))) σ H (decide (m < n)) := fun Q q => ⟨_, h, _, _, rfl, rfl, _, rfl, q⟩
theorem SOk.kindPut {s : Season} (o : SOk s) {k : Uw27.Kind} (h : k.worth ≤ 1000) (h3 : s.kinds.length < 3) : SOk { s with kinds := s.kinds ++ [k] } := by
  have hl : (s.kinds ++ [k]).length = s.kinds.length + 1 := by rw [List.length_append]; rfl
  refine ⟨by show (s.kinds ++ [k]).length ≤ 3; omega, o.nn, o.nd, o.ns, fun d hd x hx => ⟨?_, (o.sh d hd x hx).many⟩, fun k' hk' => ?_⟩
  · have := (o.sh d hd x hx).kind
    show x.kind < (s.kinds ++ [k]).length
    omega
  · rcases List.mem_append.mp hk' with q | q
    · exact o.kw k' q
    · have : k' = k := by simpa using q
      rw [this]; exact h
theorem dn_kind_put (A : At K mg "kind_put" (topS 36)) (T : Txt K mg C) : Dn P w K mg base 1 "kind_put" ["season", "call"] (spDeed C K 1) := by
  obtain ⟨t3, ht3⟩ := T.k3
  obtain ⟨t4, ht4⟩ := T.k4
  obtain ⟨t8, ht8⟩ := T.k8
  obtain ⟨t10, ht10⟩ := T.k10
  refine dn_ok A sc36 (fun _ _ _ _ _ _ us hl => match us, hl with | [_, _], _ => rfl) (fun vs H Q E h => ?_) fun f cdv A outer s H vs Q E hr h => ?_
  · obtain ⟨x, _, L, s, p, rfl, _⟩ := h
    rfl
  · refine ⟨_, pss_cons (ps_asg (pv 1) (pg_lst rfl (pgs_cons (pg_name (i := 2) sc36.nd rfl (Or.inl rfl)) (pgs_cons (pg_name (i := 3) sc36.nd rfl (Or.inl rfl)) (pgs_cons (pg_name (i := 4) sc36.nd rfl (Or.inl rfl)) pgs_nil)))))
      (pss_cons (ps_if (PW.pt (pw_or (pt_cmpR op_gt (pv 2) (pe_gi (by rfl) ht3) (nomark _)) (pw_or (pt_cmpR op_gt (pv 3) (pe_gi (by rfl) ht3) (nomark _)) (pw_or1 (pt_cmpR op_gt (pv 4) (pe_gi (by rfl) ht3) (nomark _)))))) (pss_one (ps_ret (pe_lst (pa_cons (pe_gi (by rfl) ht8) pa_nil)))) pss_nil)
      (pss_cons (ps_if (pt_cmpR op_eq (pe_callB call_len_seq (by rfl) T.len PySem.boot_len (pa_cons (pe_fld (pv 0) rfl) pa_nil)) (pe_gi (by rfl) ht4) (nomark _)) (pss_one (ps_ret (pe_lst (pa_cons (pe_gi (by rfl) ht10) pa_nil)))) pss_nil)
      (pss_cons (ps_expr (pe_bm PySem.F.plainAttrs_list PySem.F.slot_list_append PySem.F.type_list_append mt_append (pe_fld (pv 0) rfl) (pa_cons (pe_tup (pa_cons (pv 2) (pa_cons (pv 3) (pa_cons (pv 4) pa_nil)))) pa_nil)))
      (pss_one (ps_ret (pe_lst (pa_cons (pe_op op_sub (pe_callB call_len_seq (by rfl) T.len PySem.boot_len (pa_cons (pe_fld (pv 0) rfl) pa_nil)) pe_int) pa_nil))))))), ?_⟩
    obtain ⟨x, hx, L, s, pc, rfl, O, hpc, hok, k⟩ := h
    obtain ⟨kd, rfl⟩ := num1 hx
    have R := O.rd
    have Ap := apart O.nd
    have hkl : L.ks.length = s.kinds.length := R.kt.1
    refine ⟨_, rfl, pc, _, rfl, hpc, rfl, _, _, rfl, _, _, rfl, _, _, rfl, rfl, ?_⟩
    refine ans_or2 (gt_of (i := 2) (n := kd.worth) rfl) (ans_or2 (gt_of (i := 3) (n := kd.least) rfl) (gt_of (i := 4) (n := kd.quota) rfl)) _ ?_
    by_cases c : 1000 < kd.worth ∨ 1000 < kd.least ∨ 1000 < kd.quota
    · have eb : (decide ((1000 : Int) < (kd.worth : Int)) || (decide ((1000 : Int) < (kd.least : Int)) || decide ((1000 : Int) < (kd.quota : Int)))) = true := by
        rw [Bool.or_eq_true, Bool.or_eq_true, decide_eq_true_eq, decide_eq_true_eq, decide_eq_true_eq]
        omega
      rw [eb]
      exact iteT ⟨by show 1 ≤ sizeLine; decide, fun p hp => k _ _ (Done.no O (Same.refl _) hp upd_same (if_pos c))⟩
    · have eb : (decide ((1000 : Int) < (kd.worth : Int)) || (decide ((1000 : Int) < (kd.least : Int)) || decide ((1000 : Int) < (kd.quota : Int)))) = false := by
        rw [Bool.or_eq_false_iff, Bool.or_eq_false_iff, decide_eq_false_iff_not, decide_eq_false_iff_not, decide_eq_false_iff_not]
        omega
      rw [eb]
      refine iteF ⟨_, rfl, L.sa, C, L.dx, _, _, rfl, R.ins, T.cl, T.n2, lkK, L.ka, _, rfl, .inl (SqL.of R.kl), rfl, _, rfl, ?_⟩
      rw [List.length_map, hkl, show decide (V.int (s.kinds.length : Int) = V.int 3) = (s.kinds.length == 3) from dec_nV _ 3]
      have hnk := R.ok.nk
      by_cases c3 : s.kinds.length = 3
      · rw [beq_iff_eq.mpr c3]
        exact iteT ⟨by show 1 ≤ sizeLine; decide, fun p hp => k _ _ (Done.no O (Same.refl _) hp upd_same ((if_neg c).trans (if_pos (by show 3 ≤ _; omega))))⟩
      · rw [beq_eq_false_iff_ne.mpr c3]
        refine iteF ⟨_, rfl, L.sa, C, L.dx, _, _, rfl, R.ins, T.cl, T.n2, lkK, .inl ⟨rfl, _, SqL.of R.kl⟩, _, rfl, _, rfl, _, rfl, by show 3 ≤ sizeLine; decide, fun t ht => ?_⟩
        have et : Same H (upd H t (.tup (kdV kd))) := Same.new ht
        have hkl2 := et _ _ R.kl
        refine ⟨L.ka, _, _, rfl, rfl, hkl2, by rw [List.length_map, hkl]; exact Nat.lt_of_lt_of_le (by omega : s.kinds.length < 1000) (by decide), ?_⟩
        generalize hH2 : upd (upd H t (.tup [nV kd.worth, nV kd.least, nV kd.quota])) L.ka (.lst (L.ks.map V.ref ++ [V.ref t])) = H2
        have hka2 : H2 L.ka = some (.lst ((L.ks ++ [t]).map V.ref)) := by rw [← hH2, upd_same, List.map_append]; rfl
        have tu : Tu (upd H t (.tup (kdV kd))) H2 := by rw [← hH2]; exact Tu.lst hkl2
        have kp : Keep [L.ka] H H2 := by rw [← hH2]; exact (Keep.of et).trans (Keep.wr (by simp))
        have hin : H2 L.sa = _ := kp _ _ R.ins (by simpa using Ap.sk)
        have tuA : Tu H H2 := (Tu.of et).trans tu
        refine ⟨_, rfl, L.sa, C, L.dx, _, _, rfl, hin, T.cl, T.n2, lkK, L.ka, _, rfl, .inl (SqL.of hka2), _, _, rfl, rfl, by show 1 ≤ sizeLine; decide, fun p hp => ?_⟩
        have hlen : (((L.ks ++ [t]).map V.ref).length : Int) - 1 = (s.kinds.length : Int) := by
          rw [List.length_map, List.length_append, hkl]
          show ((s.kinds.length + 1 : Nat) : Int) - 1 = _
          omega
        show Q (V.ref p) (upd H2 p (HO.lst [V.int ((((L.ks ++ [t]).map V.ref).length : Int) - 1)]))
        rw [hlen]
        have ep : Same H2 (upd H2 p (.lst [.int (s.kinds.length : Int)])) := Same.new hp
        refine k _ _ (Done.yes (L' := { L with ks := L.ks ++ [t] }) (s' := { s with kinds := s.kinds ++ [kd] }) (kp.back hka2 hp) upd_same ((if_neg c).trans (if_neg (by show ¬ 3 ≤ _; omega))) ⟨SeaR.ex ep ⟨hin, hka2, ?_, kp _ _ R.nl (by simpa using Ap.kn.symm), kp _ _ R.dl (by simpa using Ap.kd.symm), ?_, ?_⟩, O.nd⟩ rfl ?_ ?_)
        · exact (R.kt.mono fun a q r => tuA _ _ r).snoc (tu _ _ upd_same)
        · refine ⟨R.dt.1, fun i d day hd hday => ?_⟩
          have r := R.dt.2 i d day hd hday
          exact ⟨kp _ _ r.1 (by simpa using (Ap.ds d (List.mem_of_getElem? hd)).2.1), r.2.tu tuA⟩
        · exact R.ok.kindPut (by omega) (by omega)
        · exact fun b o h n => ep _ _ (kp b o h fun z => n (by
            have : b = L.ka := by simpa using z
            rw [this]
            exact List.mem_cons_of_mem _ List.mem_cons_self))
        · exact fun b hb => .inl hb
/-! net_put -/
theorem sc37 : FnScope ["season", "call"] ["season", "call"] (defScope (topS 37)) := ⟨rfl, rfl, rfl, by decide +kernel, rfl, by decide +kernel, by decide +kernel⟩
theorem dn_net_put (A : At K mg "net_put" (topS 37)) (T : Txt K mg C) : Dn P w K mg base 1 "net_put" ["season", "call"] (spDeed C K 2) := by
  obtain ⟨t3, ht3⟩ := T.k3
  obtain ⟨t5, ht5⟩ := T.k5
  obtain ⟨t8, ht8⟩ := T.k8
  obtain ⟨t10, ht10⟩ := T.k10
  refine dn_ok A sc37 (fun _ _ _ _ _ _ us hl => match us, hl with | [_, _], _ => rfl) (fun vs H Q E h => ?_) fun f cdv A outer s H vs Q E hr h => ?_
  · obtain ⟨x, _, L, s, p, rfl, _⟩ := h
    rfl
  · refine ⟨_, pss_cons (ps_if (pt_cmpR op_gt (pe_ix ix_list (pv 1) pe_int (fun _ _ => rfl)) (pe_gi (by rfl) ht3) (nomark _)) (pss_one (ps_ret (pe_lst (pa_cons (pe_gi (by rfl) ht8) pa_nil)))) pss_nil)
      (pss_cons (ps_if (pt_cmpR op_eq (pe_callB call_len_seq (by rfl) T.len PySem.boot_len (pa_cons (pe_fld (pv 0) rfl) pa_nil)) (pe_gi (by rfl) ht5) (nomark _)) (pss_one (ps_ret (pe_lst (pa_cons (pe_gi (by rfl) ht10) pa_nil)))) pss_nil)
      (pss_cons (ps_expr (pe_bm PySem.F.plainAttrs_list PySem.F.slot_list_append PySem.F.type_list_append mt_append (pe_fld (pv 0) rfl) (pa_cons (pe_ix ix_list (pv 1) pe_int (fun _ _ => rfl)) pa_nil)))
      (pss_one (ps_ret (pe_lst (pa_cons (pe_op op_sub (pe_callB call_len_seq (by rfl) T.len PySem.boot_len (pa_cons (pe_fld (pv 0) rfl) pa_nil)) pe_int) pa_nil)))))), ?_⟩
    obtain ⟨x, hx, L, s, pc, rfl, O, hpc, hok, k⟩ := h
    obtain ⟨m, rfl⟩ := num2 hx
    have R := O.rd
    have Ap := apart O.nd
    refine ⟨_, rfl, pc, _, _, _, rfl, rfl, hpc, rfl, _, _, rfl, rfl, _, rfl, ?_⟩
    show (if decide ((1000 : Int) < (m : Int)) = true then _ else _)
    by_cases c : 1000 < m
    · rw [decide_eq_true (by omega)]
      exact iteT ⟨by show 1 ≤ sizeLine; decide, fun p hp => k _ _ (Done.no O (Same.refl _) hp upd_same (if_pos c))⟩
    · rw [decide_eq_false (by omega)]
      refine iteF ⟨_, rfl, L.sa, C, L.dx, _, _, rfl, R.ins, T.cl, T.n3, lkN, L.na, _, rfl, .inl (SqL.of R.nl), rfl, _, rfl, ?_⟩
      rw [List.length_map, show decide (V.int (s.nets.length : Int) = V.int 4) = (s.nets.length == 4) from dec_nV _ 4]
      have hnn := R.ok.nn
      by_cases c3 : s.nets.length = 4
      · rw [beq_iff_eq.mpr c3]
        exact iteT ⟨by show 1 ≤ sizeLine; decide, fun p hp => k _ _ (Done.no O (Same.refl _) hp upd_same ((if_neg c).trans (if_pos (by show 4 ≤ _; omega))))⟩
      · rw [beq_eq_false_iff_ne.mpr c3]
        refine iteF ⟨_, rfl, L.sa, C, L.dx, _, _, rfl, R.ins, T.cl, T.n3, lkN, .inl ⟨rfl, _, SqL.of R.nl⟩, _, rfl, pc, _, _, _, rfl, rfl, hpc, rfl, ?_⟩
        refine ⟨L.na, _, _, rfl, rfl, R.nl, by rw [List.length_map]; exact Nat.lt_of_lt_of_le (by omega : s.nets.length < 1000) (by decide), ?_⟩
        generalize hH2 : upd H L.na (.lst (s.nets.map nV ++ [V.int (m : Int)])) = H2
        have hna2 : H2 L.na = some (.lst ((s.nets ++ [m]).map nV)) := by rw [← hH2, upd_same, List.map_append]; rfl
        have tuA : Tu H H2 := by rw [← hH2]; exact Tu.lst R.nl
        have kp : Keep [L.na] H H2 := by rw [← hH2]; exact Keep.wr (by simp)
        have hin : H2 L.sa = _ := kp _ _ R.ins (by simpa using Ap.sn)
        refine ⟨_, rfl, L.sa, C, L.dx, _, _, rfl, hin, T.cl, T.n3, lkN, L.na, _, rfl, .inl (SqL.of hna2), _, _, rfl, rfl, by show 1 ≤ sizeLine; decide, fun p hp => ?_⟩
        have hlen : (((s.nets ++ [m]).map nV).length : Int) - 1 = (s.nets.length : Int) := by
          rw [List.length_map, List.length_append]
          show ((s.nets.length + 1 : Nat) : Int) - 1 = _
          omega
        show Q (V.ref p) (upd H2 p (HO.lst [V.int ((((s.nets ++ [m]).map nV).length : Int) - 1)]))
        rw [hlen]
        have ep : Same H2 (upd H2 p (.lst [.int (s.nets.length : Int)])) := Same.new hp
        refine k _ _ (Done.yes (L' := L) (s' := { s with nets := s.nets ++ [m] }) (kp.back hna2 hp) upd_same ((if_neg c).trans (if_neg (by show ¬ 4 ≤ _; omega))) ⟨SeaR.ex ep ⟨hin, kp _ _ R.kl (by simpa using Ap.kn), ?_, hna2, kp _ _ R.dl (by simpa using Ap.nd.symm), ?_, ?_⟩, O.nd⟩ rfl ?_ ?_)
        · exact R.kt.mono fun a q r => tuA _ _ r
        · refine ⟨R.dt.1, fun i d day hd hday => ?_⟩
          have r := R.dt.2 i d day hd hday
          exact ⟨kp _ _ r.1 (by simpa using (Ap.ds d (List.mem_of_getElem? hd)).2.2.1), r.2.tu tuA⟩
        · exact ⟨R.ok.nk, by show (s.nets ++ [m]).length ≤ 4; rw [List.length_append]; show s.nets.length + 1 ≤ 4; omega, R.ok.nd, R.ok.ns, fun d hd x hx => ⟨(R.ok.sh d hd x hx).kind, (R.ok.sh d hd x hx).many⟩, R.ok.kw⟩
        · exact fun b o h n => ep _ _ (kp b o h fun z => n (by
            have : b = L.na := by simpa using z
            rw [this]
            exact List.mem_cons_of_mem _ (List.mem_cons_of_mem _ List.mem_cons_self)))
        · exact fun b hb => .inl hb
end
end Sm
end
section
/-! The calls, read out of one list of numbers. -/
namespace Sm
open Uw27 (Season Shoal)
/-- a call as it stands in the list -/
def encC : Uw27.Call → List Nat
  | .check l => 7 :: l.length :: l
  | .begins w => [0, w]
  | .kind k => [1, k.worth, k.least, k.quota]
  | .net m => [2, m]
  | .day => [3]
  | .shoal x => [4, x.kind, x.size, x.many]
  | .best => [5]
  | .plain => [6]
abbrev zList (l : List Nat) : List Int := l.map fun n : Nat => (n : Int)
def ansOf : Season → List Uw27.Call → List Int
  | _, [] => []
  | s, x :: xs => ((Uw27Neutral.out (Uw27.step s x).2).length : Int) :: Uw27Neutral.out (Uw27.step s x).2 ++ ansOf (Uw27.step s x).1 xs
theorem nat_of {z : Int} (h : Uw27Neutral.nat z = true) : ((z.toNat : Nat) : Int) = z := by
  unfold Uw27Neutral.nat at h
  rw [Bool.and_eq_true, decide_eq_true_eq] at h
  omega
theorem callOf_some {l : List Int} {x : Uw27.Call} (h : Uw27Neutral.callOf l = some x) : (∀ z ∈ l, ((z.toNat : Nat) : Int) = z) ∧ Uw27Neutral.callIn (l.map Int.toNat) = some x := by
  unfold Uw27Neutral.callOf at h
  by_cases c : l.all Uw27Neutral.nat = false
  · rw [if_pos c] at h
    cases h
  · rw [if_neg c] at h
    have c' : l.all Uw27Neutral.nat = true := by simpa using c
    rw [List.all_eq_true] at c'
    exact ⟨fun z hz => nat_of (c' z hz), h⟩
theorem zl_toNat {l : List Int} (h : ∀ z ∈ l, ((z.toNat : Nat) : Int) = z) : zList (l.map Int.toNat) = l := by
  unfold zList
  rw [List.map_map]
  have : ∀ z ∈ l, ((fun n : Nat => (n : Int)) ∘ Int.toNat) z = id z := fun z hz => h z hz
  rw [List.map_congr_left this, List.map_id]
theorem shape_cases {p : Int} {n k : Nat} (h : PyUw27.shape p = some (n, k)) : (p = 0 ∧ n = 1 ∧ k = 0) ∨ (p = 1 ∧ n = 3 ∧ k = 0) ∨ (p = 2 ∧ n = 1 ∧ k = 0) ∨ (p = 3 ∧ n = 0 ∧ k = 0) ∨ (p = 4 ∧ n = 3 ∧ k = 0) ∨ (p = 5 ∧ n = 0 ∧ k = 0) ∨ (p = 6 ∧ n = 0 ∧ k = 0) ∨ (p = 7 ∧ n = 0 ∧ k = 1) := by
  unfold PyUw27.shape at h
  repeat' split at h
  all_goals first | (cases h; done) | (cases h; omega)
theorem call_inv {r : List Int} {c : List (List Int)} {t : List Int} (h : PyFlat.call PyUw27.shape r = some (c, t)) : ∃ p r1 n k xs t', r = p :: r1 ∧ PyUw27.shape p = some (n, k) ∧ n ≤ r1.length ∧ PyFlat.rows k (r1.drop n) = some (xs, t') ∧ c = (p :: r1.take n) :: xs ∧ t = t' := by
  cases r with
  | nil => cases h
  | cons p r1 =>
    unfold PyFlat.call at h
    dsimp only at h
    cases e : PyUw27.shape p with
    | none => rw [e] at h; cases h
    | some nk =>
      obtain ⟨n, k⟩ := nk
      rw [e] at h
      dsimp only at h
      by_cases hl : r1.length < n
      · rw [if_pos hl] at h; cases h
      · rw [if_neg hl] at h
        cases e2 : PyFlat.rows k (r1.drop n) with
        | none => rw [e2] at h; cases h
        | some xt =>
          obtain ⟨xs, t'⟩ := xt
          rw [e2] at h
          injection h with h
          injection h with h1 h2
          exact ⟨p, r1, n, k, xs, t', rfl, e, by omega, e2, h1.symm, h2.symm⟩
theorem call_dec {r : List Int} {c : List (List Int)} {t : List Int} (h : PyFlat.call PyUw27.shape r = some (c, t)) (ha : Uw27Neutral.asked1 ((PyUw27.whole c).headD []) = true) :
    ∃ x : Uw27.Call, r = zList (encC x) ++ t ∧ Uw27Neutral.callOf ((PyUw27.whole c).headD []) = some x ∧ okCall x := by
  obtain ⟨p, r1, n, k, xs, t', rfl, hs, hn, hr, rfl, rfl⟩ := call_inv h
  unfold Uw27Neutral.asked1 at ha
  rw [Option.isSome_iff_exists] at ha
  obtain ⟨x, hx⟩ := ha
  refine ⟨x, ?_, hx, ?_⟩
  all_goals
    obtain ⟨hz, hin⟩ := callOf_some hx
    rcases shape_cases hs with ⟨rfl, rfl, rfl⟩ | ⟨rfl, rfl, rfl⟩ | ⟨rfl, rfl, rfl⟩ | ⟨rfl, rfl, rfl⟩ | ⟨rfl, rfl, rfl⟩ | ⟨rfl, rfl, rfl⟩ | ⟨rfl, rfl, rfl⟩ | ⟨rfl, rfl, rfl⟩
  · cases r1 with
    | nil => simp at hn
    | cons a r2 =>
      cases hr
      have e : Uw27Neutral.callIn [0, a.toNat] = some x := hin
      cases e
      have e1 := hz a (by simp [PyUw27.whole])
      show (0 : Int) :: a :: r2 = (0 : Int) :: (a.toNat : Int) :: r2
      rw [e1]
  · match r1, hn with
    | a :: b :: d :: r2, _ =>
      cases hr
      have e : Uw27Neutral.callIn [1, a.toNat, b.toNat, d.toNat] = some x := hin
      cases e
      have e1 := hz a (by simp [PyUw27.whole])
      have e2 := hz b (by simp [PyUw27.whole])
      have e3 := hz d (by simp [PyUw27.whole])
      show (1 : Int) :: a :: b :: d :: r2 = (1 : Int) :: (a.toNat : Int) :: (b.toNat : Int) :: (d.toNat : Int) :: r2
      rw [e1, e2, e3]
  · cases r1 with
    | nil => simp at hn
    | cons a r2 =>
      cases hr
      have e : Uw27Neutral.callIn [2, a.toNat] = some x := hin
      cases e
      have e1 := hz a (by simp [PyUw27.whole])
      show (2 : Int) :: a :: r2 = (2 : Int) :: (a.toNat : Int) :: r2
      rw [e1]
  · cases hr
    have e : Uw27Neutral.callIn [3] = some x := hin
    cases e
    rfl
  · match r1, hn with
    | a :: b :: d :: r2, _ =>
      cases hr
      have e : Uw27Neutral.callIn [4, a.toNat, b.toNat, d.toNat] = some x := hin
      cases e
      have e1 := hz a (by simp [PyUw27.whole])
      have e2 := hz b (by simp [PyUw27.whole])
      have e3 := hz d (by simp [PyUw27.whole])
      show (4 : Int) :: a :: b :: d :: r2 = (4 : Int) :: (a.toNat : Int) :: (b.toNat : Int) :: (d.toNat : Int) :: r2
      rw [e1, e2, e3]
  · cases hr
    have e : Uw27Neutral.callIn [5] = some x := hin
    cases e
    rfl
  · cases hr
    have e : Uw27Neutral.callIn [6] = some x := hin
    cases e
    rfl
  · cases r1 with
    | nil => cases hr
    | cons m r2 =>
      have hr' : (match (if 0 ≤ m ∧ m.toNat ≤ r2.length then some (r2.take m.toNat, r2.drop m.toNat) else none : Option (List Int × List Int)) with
        | none => none
        | some (x, s) => some ([x], s)) = some (xs, t) := hr
      by_cases cm : 0 ≤ m ∧ m.toNat ≤ r2.length
      · rw [if_pos cm] at hr'
        cases hr'
        have e : (if (List.map Int.toNat (r2.take m.toNat)).length ≤ 12 then some (Uw27.Call.check (List.map Int.toNat (r2.take m.toNat))) else none) = some x := hin
        by_cases c12 : (List.map Int.toNat (r2.take m.toNat)).length ≤ 12
        · rw [if_pos c12] at e
          cases e
          have h2 : zList (List.map Int.toNat (r2.take m.toNat)) = r2.take m.toNat := zl_toNat fun z hz2 => hz z (by
            show z ∈ ([7] ++ r2.take m.toNat : List Int)
            exact List.mem_append_right _ hz2)
          show (7 : Int) :: m :: r2 = (7 : Int) :: (((List.map Int.toNat (r2.take m.toNat)).length : Nat) : Int) :: (zList (List.map Int.toNat (r2.take m.toNat)) ++ r2.drop m.toNat)
          rw [h2, List.take_append_drop, List.length_map, List.length_take, Nat.min_eq_left cm.2]
          congr 2
          omega
        · rw [if_neg c12] at e
          cases e
      · rw [if_neg cm] at hr'
        cases hr'
  · cases r1 with
    | nil => simp at hn
    | cons a r2 =>
      cases hr
      have e : Uw27Neutral.callIn [0, a.toNat] = some x := hin
      cases e
      trivial
  · match r1, hn with
    | a :: b :: d :: r2, _ =>
      cases hr
      have e : Uw27Neutral.callIn [1, a.toNat, b.toNat, d.toNat] = some x := hin
      cases e
      trivial
  · cases r1 with
    | nil => simp at hn
    | cons a r2 =>
      cases hr
      have e : Uw27Neutral.callIn [2, a.toNat] = some x := hin
      cases e
      trivial
  · cases hr
    have e : Uw27Neutral.callIn [3] = some x := hin
    cases e
    trivial
  · match r1, hn with
    | a :: b :: d :: r2, _ =>
      cases hr
      have e : Uw27Neutral.callIn [4, a.toNat, b.toNat, d.toNat] = some x := hin
      cases e
      trivial
  · cases hr
    have e : Uw27Neutral.callIn [5] = some x := hin
    cases e
    trivial
  · cases hr
    have e : Uw27Neutral.callIn [6] = some x := hin
    cases e
    trivial
  · cases r1 with
    | nil => cases hr
    | cons m r2 =>
      have hr' : (match (if 0 ≤ m ∧ m.toNat ≤ r2.length then some (r2.take m.toNat, r2.drop m.toNat) else none : Option (List Int × List Int)) with
        | none => none
        | some (x, s) => some ([x], s)) = some (xs, t) := hr
      by_cases cm : 0 ≤ m ∧ m.toNat ≤ r2.length
      · rw [if_pos cm] at hr'
        cases hr'
        have e : (if (List.map Int.toNat (r2.take m.toNat)).length ≤ 12 then some (Uw27.Call.check (List.map Int.toNat (r2.take m.toNat))) else none) = some x := hin
        by_cases c12 : (List.map Int.toNat (r2.take m.toNat)).length ≤ 12
        · rw [if_pos c12] at e
          cases e
          exact c12
        · rw [if_neg c12] at e
          cases e
      · rw [if_neg cm] at hr'
        cases hr'
theorem calls_dec : ∀ (f : Nat) (r : List Int) (raw : List (List (List Int))), PyFlat.calls PyUw27.shape f r = some raw → (∀ c ∈ raw, Uw27Neutral.asked1 ((PyUw27.whole c).headD []) = true) →
    ∃ xs : List Uw27.Call, r = zList (xs.flatMap encC) ∧ (∀ x ∈ xs, okCall x) ∧ raw.map (fun c => Uw27Neutral.callOf ((PyUw27.whole c).headD [])) = xs.map some
  | f, [], raw, h, _ => by
    have e : raw = [] := by
      cases f <;> (injection h with h; exact h.symm)
    subst e
    exact ⟨[], rfl, fun x hx => (by cases hx), rfl⟩
  | 0, p :: r, raw, h, _ => by cases h
  | f + 1, p :: r, raw, h, ha => by
    have h' : (match PyFlat.call PyUw27.shape (p :: r) with
      | none => none
      | some (c, t) => match PyFlat.calls PyUw27.shape f t with
        | none => none
        | some cs => some (c :: cs)) = some raw := h
    cases e1 : PyFlat.call PyUw27.shape (p :: r) with
    | none => rw [e1] at h'; cases h'
    | some ct =>
      obtain ⟨c, t⟩ := ct
      rw [e1] at h'
      dsimp only at h'
      cases e2 : PyFlat.calls PyUw27.shape f t with
      | none => rw [e2] at h'; cases h'
      | some cs =>
        rw [e2] at h'
        injection h' with h'
        subst h'
        obtain ⟨x, hx1, hx2, hx3⟩ := call_dec e1 (ha c List.mem_cons_self)
        obtain ⟨xs, i1, i2, i3⟩ := calls_dec f t cs e2 fun c hc => ha c (List.mem_cons_of_mem _ hc)
        refine ⟨x :: xs, ?_, fun y hy => ?_, ?_⟩
        · rw [hx1, i1, List.flatMap_cons]
          unfold zList
          rw [List.map_append]
        · rcases List.mem_cons.mp hy with rfl | hy
          · exact hx3
          · exact i2 y hy
        · rw [List.map_cons, List.map_cons, i3, hx2]
theorem played_dec : ∀ (raw : List (List (List Int))) (xs : List Uw27.Call) (s : Season), raw.map (fun c => Uw27Neutral.callOf ((PyUw27.whole c).headD [])) = xs.map some →
    PyFlat.told (PyFlat.played (fun s c => Uw27Neutral.step s (c.headD [])) s (raw.map PyUw27.whole)) = ansOf s xs
  | [], [], s, _ => rfl
  | [], x :: xs, s, h => by cases h
  | c :: raw, [], s, h => by cases h
  | c :: raw, x :: xs, s, h => by
    rw [List.map_cons, List.map_cons] at h
    injection h with h1 h2
    have e : Uw27Neutral.step s ((PyUw27.whole c).headD []) = ((Uw27.step s x).1, Uw27Neutral.out (Uw27.step s x).2) := by
      unfold Uw27Neutral.step
      rw [h1]
    have ih := played_dec raw xs (Uw27.step s x).1 h2
    rw [List.map_cons]
    show (((Uw27Neutral.step s ((PyUw27.whole c).headD [])).2.length : Int) :: (Uw27Neutral.step s ((PyUw27.whole c).headD [])).2) ++ PyFlat.told (PyFlat.played (fun s c => Uw27Neutral.step s (c.headD [])) (Uw27Neutral.step s ((PyUw27.whole c).headD [])).1 (raw.map PyUw27.whole)) = _
    rw [e]
    show (((Uw27Neutral.out (Uw27.step s x).2).length : Int) :: Uw27Neutral.out (Uw27.step s x).2) ++ PyFlat.told (PyFlat.played (fun s c => Uw27Neutral.step s (c.headD [])) (Uw27.step s x).1 (raw.map PyUw27.whole)) = _
    rw [ih]
    rfl
theorem asked_dec {ns : List Int} (h : PyUw27.answers_asked ns = true) : ∃ xs : List Uw27.Call, ns = zList (xs.flatMap encC) ∧ (∀ x ∈ xs, okCall x) ∧ PyUw27.answers ns = ansOf Uw27.init xs ∧ (ansOf Uw27.init xs).length ≤ 10000000 := by
  unfold PyUw27.answers_asked at h
  cases e : PyFlat.calls PyUw27.shape ns.length ns with
  | none => rw [e] at h; cases h
  | some raw =>
    rw [e] at h
    dsimp only at h
    simp only [Bool.and_eq_true] at h
    obtain ⟨⟨⟨⟨_, _⟩, _⟩, h4⟩, h5⟩ := h
    unfold Uw27Neutral.asked at h4
    simp only [Bool.and_eq_true] at h4
    have h6 := h4.1
    rw [List.all_eq_true] at h6
    obtain ⟨xs, i1, i2, i3⟩ := calls_dec ns.length ns raw e fun c hc => h6 _ (List.mem_map.mpr ⟨PyUw27.whole c, List.mem_map.mpr ⟨c, hc, rfl⟩, rfl⟩)
    have ha : PyUw27.answers ns = ansOf Uw27.init xs := by
      unfold PyUw27.answers PyUw27.calls
      rw [e]
      exact played_dec raw xs Uw27.init i3
    refine ⟨xs, i1, i2, ha, ?_⟩
    rw [← ha]
    unfold PyFlat.short at h5
    exact of_decide_eq_true h5
end Sm
end
section
/-! day_put, shoal_put, __init__, call_at, behind_call, told_of. -/
namespace Sm
open PySem PySem.Spec PyProof.Rows L2
open Uw27 (Season Shoal)
section
variable {P : Program} {w : World} {K : PySem.W.Frag} {mg : Str → Option Value} {base : Heap} {C : Addr}
/-! day_put -/
theorem sc38 : FnScope ["season", "call"] ["season", "call"] (defScope (topS 38)) := ⟨rfl, rfl, rfl, by decide +kernel, rfl, by decide +kernel, by decide +kernel⟩
/-- the days' lists are tracked -/
theorem SeaR.dayTracked {H : Hp} {L : Lay} {s : Season} (R : SeaR C H L s) {d : Addr × List Addr} (hd : d ∈ L.ds) : H d.1 = some (.lst (d.2.map V.ref)) := by
  obtain ⟨i, hi⟩ := List.mem_iff_getElem?.mp hd
  obtain ⟨day, _, r, _⟩ := R.dt.atL hi
  exact r
theorem own_some {H : Hp} {L : Lay} {s : Season} (R : SeaR C H L s) {b : Addr} (hb : b ∈ own L) : ∃ o, H b = some o := by
  have hb' : b = L.sa ∨ b = L.ka ∨ b = L.na ∨ b = L.da ∨ b ∈ L.ds.map (·.1) := by simpa [own] using hb
  rcases hb' with rfl | rfl | rfl | rfl | hb
  · exact ⟨_, R.ins⟩
  · exact ⟨_, R.kl⟩
  · exact ⟨_, R.nl⟩
  · exact ⟨_, R.dl⟩
  · obtain ⟨d, hd, rfl⟩ := List.mem_map.mp hb
    exact ⟨_, R.dayTracked hd⟩
theorem dn_day_put (A : At K mg "day_put" (topS 38)) (T : Txt K mg C) : Dn P w K mg base 1 "day_put" ["season", "call"] (spDeed C K 3) := by
  obtain ⟨t6, ht6⟩ := T.k6
  obtain ⟨t10, ht10⟩ := T.k10
  refine dn_ok A sc38 (fun _ _ _ _ _ _ us hl => match us, hl with | [_, _], _ => rfl) (fun vs H Q E h => ?_) fun f cdv A outer s H vs Q E hr h => ?_
  · obtain ⟨x, _, L, s, p, rfl, _⟩ := h
    rfl
  · refine ⟨_, pss_cons (ps_if (pt_cmpR op_eq (pe_callB call_len_seq (by rfl) T.len PySem.boot_len (pa_cons (pe_fld (pv 0) rfl) pa_nil)) (pe_gi (by rfl) ht6) (nomark _)) (pss_one (ps_ret (pe_lst (pa_cons (pe_gi (by rfl) ht10) pa_nil)))) pss_nil)
      (pss_cons (ps_expr (pe_bm PySem.F.plainAttrs_list PySem.F.slot_list_append PySem.F.type_list_append mt_append (pe_fld (pv 0) rfl) (pa_cons (pe_lst pa_nil) pa_nil)))
      (pss_one (ps_ret (pe_lst (pa_cons (pe_op op_sub (pe_callB call_len_seq (by rfl) T.len PySem.boot_len (pa_cons (pe_fld (pv 0) rfl) pa_nil)) pe_int) pa_nil))))), ?_⟩
    obtain ⟨x, hx, L, s, pc, rfl, O, hpc, hok, k⟩ := h
    obtain rfl := num3 hx
    have R := O.rd
    have Ap := apart O.nd
    have hdl : L.ds.length = s.days.length := R.dt.1
    have hnd := R.ok.nd
    refine ⟨_, rfl, L.sa, C, L.dx, _, _, rfl, R.ins, T.cl, T.n4, lkD, L.da, _, rfl, .inl (SqL.of R.dl), rfl, _, rfl, ?_⟩
    rw [List.length_map, hdl, show decide (V.int (s.days.length : Int) = V.int 5) = (s.days.length == 5) from dec_nV _ 5]
    by_cases c3 : s.days.length = 5
    · rw [beq_iff_eq.mpr c3]
      exact iteT ⟨by show 1 ≤ sizeLine; decide, fun p hp => k _ _ (Done.no O (Same.refl _) hp upd_same (if_pos (by show 5 ≤ _; omega)))⟩
    · rw [beq_eq_false_iff_ne.mpr c3]
      refine iteF ⟨_, rfl, L.sa, C, L.dx, _, _, rfl, R.ins, T.cl, T.n4, lkD, .inl ⟨rfl, _, SqL.of R.dl⟩, by show 0 ≤ sizeLine; decide, fun q hq => ?_⟩
      have eq : Same H (upd H q (.lst [])) := Same.new hq
      have hdl2 := eq _ _ R.dl
      refine ⟨L.da, _, _, rfl, rfl, hdl2, by rw [List.length_map, hdl]; exact Nat.lt_of_lt_of_le (by omega : s.days.length < 1000) (by decide), ?_⟩
      generalize hH2 : upd (upd H q (.lst [])) L.da (.lst ((L.ds.map fun d : Addr × List Addr => V.ref d.1) ++ [V.ref q])) = H2
      have hda2 : H2 L.da = some (.lst ((L.ds ++ [(q, [])]).map fun d : Addr × List Addr => V.ref d.1)) := by rw [← hH2, upd_same, List.map_append]; rfl
      have tu : Tu (upd H q (.lst [])) H2 := by rw [← hH2]; exact Tu.lst hdl2
      have kp1 : Keep [L.da] (upd H q (.lst [])) H2 := by rw [← hH2]; exact Keep.wr (by simp)
      have kp : Keep [L.da] H H2 := (Keep.of eq).trans kp1
      have hin : H2 L.sa = _ := kp _ _ R.ins (by simpa using Ap.sd)
      have tuA : Tu H H2 := (Tu.of eq).trans tu
      have qne : ∀ {b : Addr} {o : HO}, H b = some o → q ≠ b := fun {b o} h z => by rw [z, h] at hq; cases hq
      refine ⟨_, rfl, L.sa, C, L.dx, _, _, rfl, hin, T.cl, T.n4, lkD, L.da, _, rfl, .inl (SqL.of hda2), _, _, rfl, rfl, by show 1 ≤ sizeLine; decide, fun p hp => ?_⟩
      have hlen : (((L.ds ++ [(q, ([] : List Addr))]).map fun d => V.ref d.1).length : Int) - 1 = (s.days.length : Int) := by
        rw [List.length_map, List.length_append, hdl]
        show ((s.days.length + 1 : Nat) : Int) - 1 = _
        omega
      show Q (V.ref p) (upd H2 p (HO.lst [V.int ((((L.ds ++ [(q, ([] : List Addr))]).map fun d => V.ref d.1).length : Int) - 1)]))
      rw [hlen]
      have ep : Same H2 (upd H2 p (.lst [.int (s.days.length : Int)])) := Same.new hp
      refine k _ _ (Done.yes (L' := { L with ds := L.ds ++ [(q, [])] }) (s' := { s with days := s.days ++ [[]] }) (kp.back hda2 hp) upd_same (if_neg (by show ¬ 5 ≤ _; omega)) ⟨SeaR.ex ep ⟨hin, kp _ _ R.kl (by simpa using Ap.kd), ?_, kp _ _ R.nl (by simpa using Ap.nd), hda2, ?_, ?_⟩, own_nodup ⟨Ap.sk, Ap.sn, Ap.sd, Ap.kn, Ap.kd, Ap.nd, fun d hd => ?_, ?_⟩⟩ rfl ?_ ?_)
      · exact R.kt.mono fun a q r => tuA _ _ r
      · refine Al.snoc (x := (q, ([] : List Addr))) (y := ([] : List Shoal)) ⟨R.dt.1, fun i d day hd hday => ?_⟩ ⟨kp1 _ _ upd_same (by simpa using qne R.dl), Al.nil⟩
        have r := R.dt.2 i d day hd hday
        exact ⟨kp _ _ r.1 (by simpa using (Ap.ds d (List.mem_of_getElem? hd)).2.2.2), r.2.tu tuA⟩
      · refine ⟨R.ok.nk, R.ok.nn, by show (s.days ++ [[]]).length ≤ 5; rw [List.length_append]; show s.days.length + 1 ≤ 5; omega, fun d hd => ?_, fun d hd x hx => ?_, R.ok.kw⟩
        · rcases List.mem_append.mp hd with hd | hd
          · exact R.ok.ns d hd
          · have : d = [] := by simpa using hd
            rw [this]
            exact Nat.zero_le _
        · rcases List.mem_append.mp hd with hd | hd
          · exact ⟨(R.ok.sh d hd x hx).kind, (R.ok.sh d hd x hx).many⟩
          · have : d = [] := by simpa using hd
            rw [this] at hx
            cases hx
      · rcases List.mem_append.mp hd with hd | hd
        · exact Ap.ds d hd
        · have : d = (q, []) := by simpa using hd
          rw [this]
          exact ⟨qne R.ins, qne R.kl, qne R.nl, qne R.dl⟩
      · show ((L.ds ++ [(q, ([] : List Addr))]).map fun d : Addr × List Addr => d.1).Nodup
        rw [List.map_append, List.nodup_append]
        refine ⟨Ap.dd, by simp, fun a ha b hb => ?_⟩
        obtain ⟨d, hd, rfl⟩ := List.mem_map.mp ha
        have : b = q := by simpa using hb
        rw [this]
        exact (qne (R.dayTracked hd)).symm
      · exact fun b o h n => ep _ _ (kp b o h fun z => n (by
          have : b = L.da := by simpa using z
          rw [this]
          exact List.mem_cons_of_mem _ (List.mem_cons_of_mem _ (List.mem_cons_of_mem _ List.mem_cons_self))))
      · intro b hb
        have hb' : b ∈ own L ∨ b = q := by
          have h0 : b = L.sa ∨ b = L.ka ∨ b = L.na ∨ b = L.da ∨ b ∈ (L.ds ++ [(q, ([] : List Addr))]).map (·.1) := by simpa [own] using hb
          have h1 : b = L.sa ∨ b = L.ka ∨ b = L.na ∨ b = L.da ∨ b ∈ L.ds.map (·.1) ∨ b = q := by
            rw [List.map_append, List.mem_append] at h0
            simpa using h0
          unfold own
          simp only [List.mem_cons]
          rcases h1 with h | h | h | h | h | h
          · exact .inl (.inl h)
          · exact .inl (.inr (.inl h))
          · exact .inl (.inr (.inr (.inl h)))
          · exact .inl (.inr (.inr (.inr (.inl h))))
          · exact .inl (.inr (.inr (.inr (.inr h))))
          · exact .inr h
        rcases hb' with hb' | rfl
        · exact .inl hb'
        · exact .inr hq
/-! shoal_put -/
theorem sc39 : FnScope ["season", "call", "kind", "size", "many", "shoals"] ["season", "call"] (defScope (topS 39)) := ⟨rfl, rfl, rfl, by decide +kernel, rfl, by decide +kernel, by decide +kernel⟩
theorem snoc_of {α : Type} : ∀ {l : List α}, l ≠ [] → ∃ r x, l = r ++ [x]
  | [], h => absurd rfl h
  | [x], _ => ⟨[], x, rfl⟩
  | x :: y :: l, _ => by
    obtain ⟨r, z, h⟩ := snoc_of (l := y :: l) (by simp)
    exact ⟨x :: r, z, by rw [h]; rfl⟩
theorem Al.unsnoc {α β : Type} {R : α → β → Prop} {xs : List α} {ys : List β} {y : β} (h : Al R xs (ys ++ [y])) : ∃ xs' x, xs = xs' ++ [x] ∧ Al R xs' ys ∧ R x y := by
  have hl := h.1
  rw [List.length_append, List.length_singleton] at hl
  obtain ⟨xs', x, rfl⟩ := snoc_of (l := xs) (fun z => by rw [z] at hl; simp at hl)
  have hl' : xs'.length = ys.length := by
    rw [List.length_append, List.length_singleton] at hl
    omega
  refine ⟨xs', x, rfl, ⟨hl', fun i a b ha hb => ?_⟩, ?_⟩
  · have hi := (List.getElem?_eq_some_iff.mp ha).1
    exact h.2 i a b (by rw [List.getElem?_append_left hi]; exact ha) (by rw [List.getElem?_append_left (by omega)]; exact hb)
  · refine h.2 xs'.length x y (by simp) ?_
    rw [hl']
    simp
theorem addLast_snoc (x : Shoal) : ∀ (l : List (List Shoal)) (d : List Shoal), Uw27.addLast x (l ++ [d]) = l ++ [d ++ [x]]
  | [], d => rfl
  | [a], d => rfl
  | a :: b :: l, d => by
    have ih := addLast_snoc x (b :: l) d
    show a :: Uw27.addLast x (b :: (l ++ [d])) = a :: (b :: l ++ [d ++ [x]])
    exact congrArg (a :: ·) ih
theorem getLastD_snoc {α : Type} (l : List α) (d e : α) : (l ++ [d]).getLastD e = d := by
  rw [List.getLastD_eq_getLast?]
  simp
theorem chain_ans {i : Nat} {n : Int} {σ : L2.St} {H : Hp} (h : σ[i]? = some (some (.int n))) : Ans (tTest (tChain (rI0 fun i j => .bl (decide (i ≤ j))) (rI0 fun i j => .bl (decide (i ≤ j))) (tC (.int 1)) (tVar i) (tC (.int 1000)))) σ H (decide (1 ≤ n) && decide (n ≤ 1000)) := fun Q q => by
  refine ⟨_, h, _, _, rfl, rfl, _, rfl, ?_⟩
  cases hd : decide (1 ≤ n) with
  | true =>
    rw [hd] at q
    exact iteT ⟨_, _, rfl, rfl, _, rfl, q⟩
  | false =>
    rw [hd] at q
    exact iteF ⟨_, rfl, q⟩
theorem dn_shoal_put (A : At K mg "shoal_put" (topS 39)) (T : Txt K mg C) : Dn P w K mg base 1 "shoal_put" ["season", "call"] (spDeed C K 4) := by
  obtain ⟨t3, ht3⟩ := T.k3
  obtain ⟨t7, ht7⟩ := T.k7
  obtain ⟨t8, ht8⟩ := T.k8
  obtain ⟨t9, ht9⟩ := T.k9
  obtain ⟨t10, ht10⟩ := T.k10
  refine dn_ok A sc39 (fun _ _ _ _ _ _ us hl => match us, hl with | [_, _], _ => rfl) (fun vs H Q E h => ?_) fun f cdv A outer s H vs Q E hr h => ?_
  · obtain ⟨x, _, L, s, p, rfl, _⟩ := h
    rfl
  · refine ⟨_, pss_cons (ps_asg (pv 1) (pg_lst rfl (pgs_cons (pg_name (i := 2) sc39.nd rfl (Or.inl rfl)) (pgs_cons (pg_name (i := 3) sc39.nd rfl (Or.inl rfl)) (pgs_cons (pg_name (i := 4) sc39.nd rfl (Or.inl rfl)) pgs_nil)))))
      (pss_cons (ps_if (pt_cmpR op_eq (pe_callB call_len_seq (by rfl) T.len PySem.boot_len (pa_cons (pe_fld (pv 0) rfl) pa_nil)) pe_int (nomark _)) (pss_one (ps_ret (pe_lst (pa_cons (pe_gi (by rfl) ht9) pa_nil)))) pss_nil)
      (pss_cons (ps_if (PW.pt (pw_or (pt_cmpR op_ge (pv 2) (pe_callB call_len_seq (by rfl) T.len PySem.boot_len (pa_cons (pe_fld (pv 0) rfl) pa_nil)) (nomark _)) (pw_or (pt_not (pt_chain op_le op_le pe_int (pv 3) (pe_gi (by rfl) ht3))) (pw_or1 (pt_not (pt_chain op_le op_le pe_int (pv 4) (pe_gi (by rfl) ht3))))))) (pss_one (ps_ret (pe_lst (pa_cons (pe_gi (by rfl) ht8) pa_nil)))) pss_nil)
      (pss_cons (ps_set (i := 5) sc39.nd rfl (Or.inl rfl) (pe_ix ix_list (pe_fld (pv 0) rfl) (pe_op op_sub (pe_callB call_len_seq (by rfl) T.len PySem.boot_len (pa_cons (pe_fld (pv 0) rfl) pa_nil)) pe_int) (fun _ _ => rfl)))
      (pss_cons (ps_if (pt_cmpR op_eq (pe_callB call_len_seq (by rfl) T.len PySem.boot_len (pa_cons (pv 5) pa_nil)) (pe_gi (by rfl) ht7) (nomark _)) (pss_one (ps_ret (pe_lst (pa_cons (pe_gi (by rfl) ht10) pa_nil)))) pss_nil)
      (pss_cons (ps_expr (pe_bm PySem.F.plainAttrs_list PySem.F.slot_list_append PySem.F.type_list_append mt_append (pv 5) (pa_cons (pe_tup (pa_cons (pv 2) (pa_cons (pv 3) (pa_cons (pv 4) pa_nil)))) pa_nil)))
      (pss_one (ps_ret (pe_lst (pa_cons (pe_op op_sub (pe_callB call_len_seq (by rfl) T.len PySem.boot_len (pa_cons (pv 5) pa_nil)) pe_int) pa_nil))))))))), ?_⟩
    obtain ⟨x, hx, L, s, pc, rfl, O, hpc, hok, k⟩ := h
    obtain ⟨sh, rfl⟩ := num4 hx
    have R := O.rd
    have Ap := apart O.nd
    have hdl : L.ds.length = s.days.length := R.dt.1
    have hkl : L.ks.length = s.kinds.length := R.kt.1
    refine ⟨_, rfl, pc, _, rfl, hpc, rfl, _, _, rfl, _, _, rfl, _, _, rfl, rfl, ?_⟩
    refine ⟨_, rfl, L.sa, C, L.dx, _, _, rfl, R.ins, T.cl, T.n4, lkD, L.da, _, rfl, .inl (SqL.of R.dl), rfl, _, rfl, ?_⟩
    rw [List.length_map, hdl, show decide (V.int (s.days.length : Int) = V.int 0) = (s.days.length == 0) from dec_nV _ 0]
    by_cases c0 : s.days = []
    · rw [c0]
      exact iteT ⟨by show 1 ≤ sizeLine; decide, fun p hp => k _ _ (Done.no O (Same.refl _) hp upd_same (if_pos c0))⟩
    · have hn0 : s.days.length ≠ 0 := fun z => c0 (List.eq_nil_of_length_eq_zero z)
      rw [beq_eq_false_iff_ne.mpr hn0]
      refine iteF ?_
      dsimp only [tNext, tSeq, tIfS]
      refine ans_or2 (a := decide ((s.kinds.length : Int) ≤ (sh.kind : Int))) (fun Q q => ⟨_, rfl, _, rfl, L.sa, C, L.dx, _, _, rfl, R.ins, T.cl, T.n2, lkK, L.ka, _, rfl, .inl (SqL.of R.kl), _, _, rfl, rfl, _, rfl, by rw [List.length_map, hkl]; exact q⟩)
        (ans_or2 (ans_not1 (chain_ans (i := 3) (n := sh.size) rfl)) (ans_not1 (chain_ans (i := 4) (n := sh.many) rfl))) _ ?_
      by_cases c : s.kinds.length ≤ sh.kind ∨ sh.size < 1 ∨ 1000 < sh.size ∨ sh.many < 1 ∨ 1000 < sh.many
      · have eb : (decide ((s.kinds.length : Int) ≤ (sh.kind : Int)) || (!(decide ((1 : Int) ≤ (sh.size : Int)) && decide ((sh.size : Int) ≤ 1000)) || !(decide ((1 : Int) ≤ (sh.many : Int)) && decide ((sh.many : Int) ≤ 1000)))) = true := by
          rw [Bool.or_eq_true, Bool.or_eq_true, Bool.not_eq_true', Bool.not_eq_true', Bool.and_eq_false_iff, Bool.and_eq_false_iff, decide_eq_true_eq, decide_eq_false_iff_not, decide_eq_false_iff_not, decide_eq_false_iff_not, decide_eq_false_iff_not]
          omega
        rw [eb]
        exact iteT ⟨by show 1 ≤ sizeLine; decide, fun p hp => k _ _ (Done.no O (Same.refl _) hp upd_same ((if_neg c0).trans (if_pos c)))⟩
      · have eb : (decide ((s.kinds.length : Int) ≤ (sh.kind : Int)) || (!(decide ((1 : Int) ≤ (sh.size : Int)) && decide ((sh.size : Int) ≤ 1000)) || !(decide ((1 : Int) ≤ (sh.many : Int)) && decide ((sh.many : Int) ≤ 1000)))) = false := by
          rw [Bool.or_eq_false_iff, Bool.or_eq_false_iff, Bool.not_eq_false', Bool.not_eq_false', Bool.and_eq_true, Bool.and_eq_true, decide_eq_false_iff_not, decide_eq_true_eq, decide_eq_true_eq, decide_eq_true_eq, decide_eq_true_eq]
          omega
        rw [eb]
        refine iteF ?_
        obtain ⟨ini, day, hdays⟩ := snoc_of c0
        have hdt := R.dt
        rw [hdays] at hdt
        obtain ⟨dsi, ⟨q, as⟩, hds, hini, hq, has⟩ := hdt.unsnoc
        have hql : (L.ds.map fun d => V.ref d.1)[s.days.length - 1]? = some (.ref q) := by
          have e1 : s.days.length - 1 = dsi.length := by rw [← hdl, hds, List.length_append]; rfl
          rw [e1, hds, List.map_append, List.getElem?_append_right (by rw [List.length_map]; exact Nat.le_refl _), List.length_map, Nat.sub_self]
          rfl
        have ei : ((L.ds.map fun d => V.ref d.1).length : Int) - 1 = ((s.days.length - 1 : Nat) : Int) := by rw [List.length_map, hdl]; omega
        refine ⟨_, rfl, L.sa, C, L.dx, _, _, rfl, R.ins, T.cl, T.n4, lkD, _, rfl, L.sa, C, L.dx, _, _, rfl, R.ins, T.cl, T.n4, lkD, L.da, _, rfl, .inl (SqL.of R.dl), _, _, rfl, rfl, L.da, _, _, _, rfl, rfl, SqL.of R.dl, by rw [ei]; exact atI_nat hql, ?_⟩
        refine ⟨_, rfl, q, _, rfl, .inl (SqL.of hq), rfl, _, rfl, ?_⟩
        have hal : as.length = day.length := has.1
        have hd6 := R.ok.ns day (by rw [hdays]; simp)
        rw [List.length_map, hal, show decide (V.int (day.length : Int) = V.int 6) = (day.length == 6) from dec_nV _ 6]
        have hlast : s.days.getLastD [] = day := by rw [hdays]; exact getLastD_snoc _ _ _
        by_cases c6 : day.length = 6
        · rw [beq_iff_eq.mpr c6]
          exact iteT ⟨by show 1 ≤ sizeLine; decide, fun p hp => k _ _ (Done.no O (Same.refl _) hp upd_same ((if_neg c0).trans ((if_neg c).trans (if_pos (by rw [hlast]; show 6 ≤ _; omega)))))⟩
        · rw [beq_eq_false_iff_ne.mpr c6]
          refine iteF ⟨_, rfl, .inl ⟨rfl, _, SqL.of hq⟩, _, rfl, _, rfl, _, rfl, by show 3 ≤ sizeLine; decide, fun t ht => ?_⟩
          have et : Same H (upd H t (.tup (shV sh))) := Same.new ht
          have hq2 := et _ _ hq
          refine ⟨q, _, _, rfl, rfl, hq2, by rw [List.length_map, hal]; exact Nat.lt_of_lt_of_le (by omega : day.length < 1000) (by decide), ?_⟩
          generalize hH2 : upd (upd H t (.tup [nV sh.kind, nV sh.size, nV sh.many])) q (.lst (as.map V.ref ++ [V.ref t])) = H2
          have hqq : H2 q = some (.lst ((as ++ [t]).map V.ref)) := by rw [← hH2, upd_same, List.map_append]; rfl
          have tu : Tu (upd H t (.tup (shV sh))) H2 := by rw [← hH2]; exact Tu.lst hq2
          have kp : Keep [q] H H2 := by rw [← hH2]; exact (Keep.of et).trans (Keep.wr (by simp))
          have tuA : Tu H H2 := (Tu.of et).trans tu
          have hqm : (q, as) ∈ L.ds := by rw [hds]; simp
          have Aq := Ap.ds _ hqm
          refine ⟨_, rfl, q, _, rfl, .inl (SqL.of hqq), _, _, rfl, rfl, by show 1 ≤ sizeLine; decide, fun p hp => ?_⟩
          have hlen : (((as ++ [t]).map V.ref).length : Int) - 1 = (day.length : Int) := by
            rw [List.length_map, List.length_append, hal]
            show ((day.length + 1 : Nat) : Int) - 1 = _
            omega
          show Q (V.ref p) (upd H2 p (HO.lst [V.int ((((as ++ [t]).map V.ref).length : Int) - 1)]))
          rw [hlen]
          have ep : Same H2 (upd H2 p (.lst [.int (day.length : Int)])) := Same.new hp
          have hadd : Uw27.addLast sh s.days = ini ++ [day ++ [sh]] := by rw [hdays]; exact addLast_snoc _ _ _
          have hmap : ((dsi ++ [(q, as ++ [t])]).map fun d => V.ref d.1) = L.ds.map fun d => V.ref d.1 := by rw [hds, List.map_append, List.map_append]; rfl
          have hmap1 : (dsi ++ [(q, as ++ [t])]).map (·.1) = L.ds.map (·.1) := by rw [hds, List.map_append, List.map_append]; rfl
          have hown : own { L with ds := dsi ++ [(q, as ++ [t])] } = own L := by
            unfold own
            rw [hmap1]
          refine k _ _ (Done.yes (L' := { L with ds := dsi ++ [(q, as ++ [t])] }) (s' := { s with days := ini ++ [day ++ [sh]] }) (kp.back hqq hp) upd_same ?_ ⟨SeaR.ex ep ⟨kp _ _ R.ins (by simpa using Aq.1.symm), kp _ _ R.kl (by simpa using Aq.2.1.symm), ?_, kp _ _ R.nl (by simpa using Aq.2.2.1.symm), ?_, ?_, ?_⟩, by rw [hown]; exact O.nd⟩ rfl ?_ ?_)
          · have h0 : Uw27.step s (.shoal sh) = ({ s with days := Uw27.addLast sh s.days }, Uw27.ok ((s.days.getLastD []).length : Nat)) := (if_neg c0).trans ((if_neg c).trans (if_neg (by rw [hlast]; show ¬ 6 ≤ _; omega)))
            rw [h0, hadd, hlast]
          · exact R.kt.mono fun a q r => tuA _ _ r
          · show H2 L.da = some (.lst ((dsi ++ [(q, as ++ [t])]).map fun d => V.ref d.1))
            rw [hmap]
            exact kp _ _ R.dl (by simpa using Aq.2.2.2.symm)
          · refine Al.snoc (x := (q, as ++ [t])) (y := day ++ [sh]) ⟨hini.1, fun i d dy hd hdy => ?_⟩ ⟨hqq, (has.tu tuA).snoc (tu _ _ upd_same)⟩
            have r := hini.2 i d dy hd hdy
            refine ⟨kp _ _ r.1 ?_, r.2.tu tuA⟩
            have hdd := Ap.dd
            rw [hds, List.map_append, List.nodup_append] at hdd
            have := hdd.2.2 d.1 (List.mem_map.mpr ⟨d, List.mem_of_getElem? hd, rfl⟩) q (by simp)
            simpa using this
          · have hmem : ∀ {dd : List Shoal}, dd ∈ ini → dd ∈ s.days := fun {dd} h => by rw [hdays]; exact List.mem_append_left _ h
            have hdm : day ∈ s.days := by rw [hdays]; simp
            refine ⟨R.ok.nk, R.ok.nn, ?_, fun dd hdd => ?_, fun dd hdd x hx => ?_, R.ok.kw⟩
            · have h5 := R.ok.nd
              rw [hdays, List.length_append] at h5
              show (ini ++ [day ++ [sh]]).length ≤ 5
              rw [List.length_append]
              exact h5
            · rcases List.mem_append.mp hdd with h | h
              · exact R.ok.ns dd (hmem h)
              · have : dd = day ++ [sh] := by simpa using h
                rw [this, List.length_append]
                show day.length + 1 ≤ 6
                omega
            · rcases List.mem_append.mp hdd with h | h
              · exact ⟨(R.ok.sh dd (hmem h) x hx).kind, (R.ok.sh dd (hmem h) x hx).many⟩
              · have : dd = day ++ [sh] := by simpa using h
                rw [this] at hx
                rcases List.mem_append.mp hx with hx | hx
                · exact ⟨(R.ok.sh day hdm x hx).kind, (R.ok.sh day hdm x hx).many⟩
                · have : x = sh := by simpa using hx
                  rw [this]
                  exact ⟨by show sh.kind < s.kinds.length; omega, by omega⟩
          · exact fun b o h n => ep _ _ (kp b o h fun z => n (by
              have : b = q := by simpa using z
              rw [this]
              unfold own
              simp only [List.mem_cons]
              exact .inr (.inr (.inr (.inr (List.mem_map.mpr ⟨_, hqm, rfl⟩))))))
          · intro b hb
            rw [hown] at hb
            exact .inl hb
end
end Sm
end
section
/-! __init__, call_at, behind_call, told_of. -/
namespace Sm
open PySem PySem.Spec PyProof.Rows L2
open Uw27 (Season Shoal)
section
variable {P : Program} {w : World} {K : PySem.W.Frag} {mg : Str → Option Value} {base : Heap} {C : Addr}
/-! __init__ -/
abbrev sInit : Stmt := inClass (topS 34) 0
theorem scIn : FnScope ["self"] ["self"] (defScope sInit) := ⟨rfl, rfl, rfl, by decide +kernel, rfl, by decide +kernel, by decide +kernel⟩
def spInit (C : Addr) : Sp := fun vs H Q _ => ∃ (p dx : Addr), vs = [.ref p] ∧ H p = some (.ins C dx []) ∧
  ∀ (H' : Hp) (L : Lay), L.sa = p → SeaO C H' L Uw27.init → Keep [p] H H' → (∀ b ∈ own L, b = p ∨ H b = none) → Q .non H'
theorem ok_init {f : Addr} {fd : FuncData} (F : Fun K "__init__" "Season.__init__" sInit f fd) (T : Txt K mg C) : FnOk P w K mg base CX0 1 f fd ["self"] (spInit C) := by
  refine F.ok scIn (fun vs H Q E h => ?_) (fun cdv A outer s H vs Q E hr h => ?_)
  · obtain ⟨p, dx, rfl, _⟩ := h
    rfl
  · refine ⟨_, pss_cons (ps_fld (pv 0) pe_int rfl) (pss_cons (ps_fld (pv 0) (pe_lst pa_nil) rfl) (pss_cons (ps_fld (pv 0) (pe_lst pa_nil) rfl) (pss_one (ps_fld (pv 0) (pe_lst pa_nil) rfl)))), ?_⟩
    obtain ⟨sa, dx, rfl, hsa, k⟩ := h
    refine ⟨_, rfl, sa, C, dx, _, rfl, hsa, T.cl, T.n1, (by show 0 < 1000; decide), ?_⟩
    refine ⟨by show 0 ≤ sizeLine; decide, fun ka hka => ?_⟩
    generalize hH1 : upd H sa (.ins C dx (putF "too_small" (.int 0) [])) = H1 at hka
    have i1 : H1 sa = some (.ins C dx (putF "too_small" (nV 0) [])) := by rw [← hH1]; exact upd_same
    have k1 : Keep [sa] H H1 := by rw [← hH1]; exact Keep.wr (by simp)
    have ska : ka ≠ sa := (ne_of_none i1 hka).symm
    refine ⟨_, rfl, sa, C, dx, _, rfl, Same.new hka _ _ i1, T.cl, T.n2, (by show 1 < 1000; decide), ?_⟩
    refine ⟨by show 0 ≤ sizeLine; decide, fun na hna => ?_⟩
    generalize hH2 : upd (upd H1 ka (.lst [])) sa (.ins C dx (putF "kinds" (.ref ka) (putF "too_small" (nV 0) []))) = H2 at hna
    have i2 : H2 sa = some (.ins C dx (putF "kinds" (.ref ka) (putF "too_small" (nV 0) []))) := by rw [← hH2]; exact upd_same
    have k2 : Keep [sa] (upd H1 ka (.lst [])) H2 := by rw [← hH2]; exact Keep.wr (by simp)
    have ka2 : H2 ka = some (.lst []) := k2 _ _ upd_same (by simpa using ska)
    have sna : na ≠ sa := (ne_of_none i2 hna).symm
    have kna : ka ≠ na := ne_of_none ka2 hna
    have e2 : (putF "kinds" (.ref ka) (putF "too_small" (nV 0) [])).length < 1000 := by
      have : putF "kinds" (.ref ka) (putF "too_small" (nV 0) []) = [(("too_small" : Str), nV 0), (("kinds" : Str), V.ref ka)] := (put_past (by decide +kernel)).trans rfl
      rw [this]
      show 2 < 1000
      decide
    refine ⟨_, rfl, sa, C, dx, _, rfl, Same.new hna _ _ i2, T.cl, T.n3, e2, ?_⟩
    refine ⟨by show 0 ≤ sizeLine; decide, fun da hda => ?_⟩
    generalize hH3 : upd (upd H2 na (.lst [])) sa (.ins C dx (putF "nets" (.ref na) (putF "kinds" (.ref ka) (putF "too_small" (nV 0) [])))) = H3 at hda
    have i3 : H3 sa = some (.ins C dx (putF "nets" (.ref na) (putF "kinds" (.ref ka) (putF "too_small" (nV 0) [])))) := by rw [← hH3]; exact upd_same
    have k3 : Keep [sa] (upd H2 na (.lst [])) H3 := by rw [← hH3]; exact Keep.wr (by simp)
    have na3 : H3 na = some (.lst []) := k3 _ _ upd_same (by simpa using sna)
    have ka3 : H3 ka = some (.lst []) := k3 _ _ (Same.new hna _ _ ka2) (by simpa using ska)
    have sda : da ≠ sa := (ne_of_none i3 hda).symm
    have kda : ka ≠ da := ne_of_none ka3 hda
    have nda : na ≠ da := ne_of_none na3 hda
    have e3 : (putF "nets" (.ref na) (putF "kinds" (.ref ka) (putF "too_small" (nV 0) []))).length < 1000 := by
      have : putF "kinds" (.ref ka) (putF "too_small" (nV 0) []) = [(("too_small" : Str), nV 0), (("kinds" : Str), V.ref ka)] := (put_past (by decide +kernel)).trans rfl
      rw [this]
      have : putF "nets" (.ref na) [(("too_small" : Str), nV 0), (("kinds" : Str), V.ref ka)] = [(("too_small" : Str), nV 0), (("kinds" : Str), V.ref ka), (("nets" : Str), V.ref na)] := (put_past (by decide +kernel)).trans (congrArg _ ((put_past (by decide +kernel)).trans rfl))
      rw [this]
      show 3 < 1000
      decide
    refine ⟨_, rfl, sa, C, dx, _, rfl, Same.new hda _ _ i3, T.cl, T.n4, e3, ?_⟩
    generalize hH4 : upd (upd H3 da (.lst [])) sa (.ins C dx (putF "days" (.ref da) (putF "nets" (.ref na) (putF "kinds" (.ref ka) (putF "too_small" (nV 0) []))))) = H4
    have i4 : H4 sa = some (.ins C dx (seaF 0 ka na da)) := by rw [← hH4, upd_same]; exact congrArg (fun q => some (HO.ins C dx q)) putNew
    have k4 : Keep [sa] (upd H3 da (.lst [])) H4 := by rw [← hH4]; exact Keep.wr (by simp)
    have da4 : H4 da = some (.lst []) := k4 _ _ upd_same (by simpa using sda)
    have na4 : H4 na = some (.lst []) := k4 _ _ (Same.new hda _ _ na3) (by simpa using sna)
    have ka4 : H4 ka = some (.lst []) := k4 _ _ (Same.new hda _ _ ka3) (by simpa using ska)
    have k12 := (k1.trans (Keep.of (Same.new (o := .lst []) hka))).trans k2
    have k13 := (k12.trans (Keep.of (Same.new (o := .lst []) hna))).trans k3
    refine k H4 ⟨sa, dx, ka, na, da, [], []⟩ rfl ⟨⟨i4, ka4, Al.nil, na4, da4, Al.nil, ⟨by simp [Uw27.init], by simp [Uw27.init], by simp [Uw27.init], fun d hd => (by cases hd), fun d hd => (by cases hd), fun d hd => (by cases hd)⟩⟩, own_nodup ⟨ska.symm, sna.symm, sda.symm, kna, kda, nda, fun d hd => (by cases hd), List.nodup_nil⟩⟩ ((k13.trans (Keep.of (Same.new hda))).trans k4) fun b hb => ?_
    have hb' : b = sa ∨ b = ka ∨ b = na ∨ b = da := by simpa [own] using hb
    rcases hb' with rfl | rfl | rfl | rfl
    · exact .inl rfl
    · exact .inr (k1.back i1 hka)
    · exact .inr (k12.back i2 hna)
    · exact .inr (k13.back i3 hda)
/-! call_at -/
theorem drop_cons {α : Type} {ns : List α} {i : Nat} {a : α} {r : List α} (h : ns.drop i = a :: r) : ns[i]? = some a ∧ ns.drop (i + 1) = r ∧ i < ns.length := by
  have h1 : (ns.drop i)[0]? = some a := by rw [h]; rfl
  rw [List.getElem?_drop, Nat.add_zero] at h1
  refine ⟨h1, ?_, (List.getElem?_eq_some_iff.mp h1).1⟩
  have h2 : (ns.drop i).drop 1 = r := by rw [h]; rfl
  rw [List.drop_drop] at h2
  exact h2
theorem encC_num (x : Uw27.Call) : ∃ r, encC x = numOf x :: r := by
  cases x <;> exact ⟨_, rfl⟩
theorem cut_eq {ns : List Int} {a : Nat} {l : List Nat} {rest : List Int} (ha : a ≤ ns.length) (h : ns.drop a = zList l ++ rest) : cutV (ns.map V.int) (some (a : Int)) (some ((a + l.length : Nat) : Int)) = l.map nV := by
  have hlen := congrArg List.length h
  rw [List.length_drop, List.length_append, List.length_map] at hlen
  unfold cutV
  rw [HT.sIx_nat, HT.sIx_nat, List.length_map, Nat.min_eq_left ha, Nat.min_eq_left (by omega : a + l.length ≤ ns.length)]
  have e : a + l.length - a = l.length := by omega
  rw [e, ← List.map_drop, h, List.map_append, List.take_left' (by rw [List.length_map, List.length_map])]
  rw [List.map_map]
  rfl
def spCallAt (K : PySem.W.Frag) : Sp := fun vs H Q _ => ∃ (ca : Addr) (ns : List Int) (i : Nat) (x : Uw27.Call) (rest : List Int), vs = [.ref ca, nV i] ∧ SqL K H ca (ns.map V.int) ∧ ns.drop i = zList (encC x) ++ rest ∧
  ∀ p H', Same H H' → H p = none → H' p = some (.lst ((argsOf x).map nV)) → Q (.ref p) H'
theorem sc43 : FnScope ["calls", "at"] ["calls", "at"] (defScope (topS 43)) := ⟨rfl, rfl, rfl, by decide +kernel, rfl, by decide +kernel, by decide +kernel⟩
theorem plain_at {x : Uw27.Call} (h : numOf x ≠ 7) : ([V.int 1, .int 3, .int 1, .int 0, .int 3, .int 0, .int 0] : List V)[numOf x]? = some (.int ((argsOf x).length : Int)) ∧ encC x = numOf x :: argsOf x := by
  cases x <;> first | exact ⟨rfl, rfl⟩ | exact absurd rfl h
theorem dn_call_at (A : At K mg "call_at" (topS 43)) (T : Txt K mg C) : Dn P w K mg base 1 "call_at" ["calls", "at"] (spCallAt K) := by
  obtain ⟨pa, hpa, hpl⟩ := T.k11
  obtain ⟨t12, ht12⟩ := T.k12
  refine dn_ok A sc43 (fun _ _ _ _ _ _ us hl => match us, hl with | [_, _], _ => rfl) (fun vs H Q E h => ?_) fun f cdv A outer s H vs Q E hr h => ?_
  · obtain ⟨ca, ns, i, x, rest, rfl, _⟩ := h
    rfl
  · refine ⟨_, pss_cons (ps_if (pt_cmpR op_eq (pe_ix ix_list (pv 0) (pv 1) (fun _ _ => rfl)) (pe_gi (by rfl) ht12) (nomark _))
        (pss_one (ps_ret (pe_slice sl_list (pv 0) (po_some (pe_op op_add (pv 1) pe_int)) (po_some (pe_op op_add (pe_op op_add (pv 1) pe_int) (pe_ix ix_list (pv 0) (pe_op op_add (pv 1) pe_int) (fun _ _ => rfl))))))) pss_nil)
      (pss_one (ps_ret (pe_slice sl_list (pv 0) (po_some (pe_op op_add (pv 1) pe_int)) (po_some (pe_op op_add (pe_op op_add (pv 1) pe_int) (pe_ix ix_tup (pe_glob (v := .ref pa) (by rfl) hpa rfl) (pe_ix ix_list (pv 0) (pv 1) (fun _ _ => rfl)) (fun _ _ => rfl))))))), ?_⟩
    obtain ⟨ca, ns, i, x, rest, rfl, hca, hd, k⟩ := h
    obtain ⟨r0, hr0⟩ := encC_num x
    have hd0 : ns.drop i = (numOf x : Int) :: (zList r0 ++ rest) := by rw [hd, hr0]; rfl
    obtain ⟨g1, g2, g3⟩ := drop_cons hd0
    have at1 : atI (ns.map V.int) (i : Int) = some (.int (numOf x : Int)) := atI_nat (by rw [List.getElem?_map, g1]; rfl)
    refine ⟨_, rfl, _, rfl, ca, _, _, _, rfl, rfl, hca, at1, rfl, _, rfl, ?_⟩
    rw [show decide (V.int (numOf x : Int) = V.int 7) = (numOf x == 7) from dec_nV _ 7]
    by_cases c7 : numOf x = 7
    · rw [beq_iff_eq.mpr c7]
      obtain ⟨l, rfl⟩ := num7 c7
      have hd7 : ns.drop i = (7 : Int) :: (l.length : Int) :: (zList l ++ rest) := hd
      obtain ⟨_, h2, _⟩ := drop_cons hd7
      obtain ⟨h3, h4, h5⟩ := drop_cons h2
      have at2 : atI (ns.map V.int) ((i : Int) + 1) = some (.int (l.length : Int)) := atI_nat (j := i + 1) (by rw [List.getElem?_map, h3]; rfl)
      refine iteT ⟨_, rfl, _, rfl, _, _, rfl, rfl, _, rfl, _, rfl, _, _, rfl, rfl, _, rfl, _, rfl, _, _, rfl, rfl, ca, _, _, _, rfl, rfl, hca, at2, _, _, rfl, rfl, _, rfl, ca, _, rfl, hca, fun p hp => ?_⟩
      refine k p _ (Same.new hp) hp ?_
      rw [upd_same]
      exact congrArg (fun q => some (HO.lst q)) (cut_eq (a := i + 2) (l := l) (rest := rest) (by omega) h4)
    · rw [beq_eq_false_iff_ne.mpr c7]
      obtain ⟨p1, p2⟩ := plain_at c7
      have hdx : ns.drop i = (numOf x : Int) :: (zList (argsOf x) ++ rest) := by rw [hd, p2]; rfl
      obtain ⟨_, h2, _⟩ := drop_cons hdx
      refine iteF ⟨_, rfl, _, rfl, _, _, rfl, rfl, _, rfl, _, rfl, _, _, rfl, rfl, _, rfl, _, rfl, ca, _, _, _, rfl, rfl, hca, at1, pa, _, _, _, rfl, rfl, hpl H, atI_nat p1, _, _, rfl, rfl, _, rfl, ca, _, rfl, hca, fun p hp => ?_⟩
      refine k p _ (Same.new hp) hp ?_
      rw [upd_same]
      exact congrArg (fun q => some (HO.lst q)) (cut_eq (a := i + 1) (l := argsOf x) (rest := rest) (by omega) h2)
/-! behind_call -/
def spBehind (K : PySem.W.Frag) : Sp := fun vs H Q _ => ∃ (ca c : Addr) (ns : List Int) (i : Nat) (x : Uw27.Call) (rest : List Int), vs = [.ref ca, nV i, .ref c] ∧ SqL K H ca (ns.map V.int) ∧ ns.drop i = zList (encC x) ++ rest ∧ SqL K H c ((argsOf x).map nV) ∧
  ∀ H', Same H H' → Q (nV (i + (encC x).length)) H'
theorem sc44 : FnScope ["calls", "at", "call"] ["calls", "at", "call"] (defScope (topS 44)) := ⟨rfl, rfl, rfl, by decide +kernel, rfl, by decide +kernel, by decide +kernel⟩
theorem enc_len (x : Uw27.Call) : (encC x).length = 1 + (argsOf x).length + (if (numOf x == 7) = true then 1 else 0) := by
  cases x <;> simp [encC, argsOf, numOf] <;> omega
theorem dn_behind (A : At K mg "behind_call" (topS 44)) (T : Txt K mg C) : Dn P w K mg base 1 "behind_call" ["calls", "at", "call"] (spBehind K) := by
  obtain ⟨t12, ht12⟩ := T.k12
  refine dn_ok A sc44 (fun _ _ _ _ _ _ us hl => match us, hl with | [_, _, _], _ => rfl) (fun vs H Q E h => ?_) fun f cdv A outer s H vs Q E hr h => ?_
  · obtain ⟨ca, c, ns, i, x, rest, rfl, _⟩ := h
    rfl
  · refine ⟨_, pss_one (ps_ret (pe_op op_add (pe_op op_add (pe_op op_add (pv 1) pe_int) (pe_callB call_len_seq (by rfl) T.len PySem.boot_len (pa_cons (pv 2) pa_nil)))
      (pe_callTy call_int1 (by rfl) T.int (by decide +kernel) (pa_cons (pe_cmpR op_eq (pe_ix ix_list (pv 0) (pv 1) (fun _ _ => rfl)) (pe_gi (by rfl) ht12) (nomark _)) pa_nil)))), ?_⟩
    obtain ⟨ca, c, ns, i, x, rest, rfl, hca, hd, hc, k⟩ := h
    obtain ⟨r0, hr0⟩ := encC_num x
    have hd0 : ns.drop i = (numOf x : Int) :: (zList r0 ++ rest) := by rw [hd, hr0]; rfl
    obtain ⟨g1, g2, g3⟩ := drop_cons hd0
    have at1 : atI (ns.map V.int) (i : Int) = some (.int (numOf x : Int)) := atI_nat (by rw [List.getElem?_map, g1]; rfl)
    refine ⟨_, rfl, _, _, rfl, rfl, _, rfl, c, _, rfl, .inl hc, _, _, rfl, rfl, _, rfl, _, rfl, ca, _, _, _, rfl, rfl, hca, at1, rfl, .inr ⟨_, rfl, _, _, rfl, rfl, ?_⟩⟩
    rw [show decide (V.int (numOf x : Int) = V.int 7) = (numOf x == 7) from dec_nV _ 7]
    have q := k H (Same.refl H)
    have e : (((i + (encC x).length : Nat)) : Int) = (i : Int) + 1 + (((argsOf x).map nV).length : Int) + (if (numOf x == 7) = true then 1 else 0) := by
      rw [enc_len, List.length_map]
      split <;> omega
    unfold nV at q
    rw [e] at q
    exact q
/-! told_of -/
theorem sc45 : FnScope ["season", "number", "call", "deeds", "deed"] ["season", "number", "call"] (defScope (topS 45)) := ⟨rfl, rfl, rfl, by decide +kernel, rfl, by decide +kernel, by decide +kernel⟩
theorem Dn.mono {j k : Nat} {x : Str} {ps : List Str} {sp : Sp} (D : Dn P w K mg base j x ps sp) (h : j ≤ k) : Dn P w K mg base k x ps sp := by
  obtain ⟨f, fd, F, hm, hk, hb⟩ := D.ex
  exact ⟨f, fd, F.mono h, hm, hk, hb⟩
theorem num_le (x : Uw27.Call) : numOf x ≤ 7 := by
  cases x <;> simp [numOf]
theorem dn_told_of (A : At K mg "told_of" (topS 45)) (T : Txt K mg C) (D0 : Dn P w K mg base 1 "begun" ["season", "call"] (spDeed C K 0)) (D1 : Dn P w K mg base 1 "kind_put" ["season", "call"] (spDeed C K 1)) (D2 : Dn P w K mg base 1 "net_put" ["season", "call"] (spDeed C K 2))
    (D3 : Dn P w K mg base 1 "day_put" ["season", "call"] (spDeed C K 3)) (D4 : Dn P w K mg base 1 "shoal_put" ["season", "call"] (spDeed C K 4)) (D5 : Dn P w K mg base 6 "best_told" ["season", "call"] (spDeed C K 5)) (D6 : Dn P w K mg base 5 "plain_told" ["season", "call"] (spDeed C K 6))
    (D7 : Dn P w K mg base 5 "check_told" ["season", "plan"] (spDeed C K 7)) : Dn P w K mg base 7 "told_of" ["season", "number", "call"] (spTold C K) := by
  obtain ⟨f0, m0, h0⟩ := (D0.mono (k := 6) (by decide)).held
  obtain ⟨f1, m1, h1⟩ := (D1.mono (k := 6) (by decide)).held
  obtain ⟨f2, m2, h2⟩ := (D2.mono (k := 6) (by decide)).held
  obtain ⟨f3, m3, h3⟩ := (D3.mono (k := 6) (by decide)).held
  obtain ⟨f4, m4, h4⟩ := (D4.mono (k := 6) (by decide)).held
  obtain ⟨f5, m5, h5⟩ := (D5.mono (k := 6) (by decide)).held
  obtain ⟨f6, m6, h6⟩ := (D6.mono (k := 6) (by decide)).held
  obtain ⟨f7, m7, h7⟩ := (D7.mono (k := 6) (by decide)).held
  refine dn_ok A sc45 (fun _ _ _ _ _ _ us hl => match us, hl with | [_, _, _], _ => rfl) (fun vs H Q E h => ?_) fun f cdv A outer s H vs Q E hr h => ?_
  · obtain ⟨L, s, p, x, rfl, _⟩ := h
    rfl
  · refine ⟨_, pss_cons (ps_set (i := 3) sc45.nd rfl (Or.inl rfl) (pe_disp (pps_cons pe_int (pe_glob (v := .ref f0) (by rfl) m0 rfl) (pps_cons pe_int (pe_glob (v := .ref f1) (by rfl) m1 rfl) (pps_cons pe_int (pe_glob (v := .ref f2) (by rfl) m2 rfl) (pps_cons pe_int (pe_glob (v := .ref f3) (by rfl) m3 rfl)
        (pps_cons pe_int (pe_glob (v := .ref f4) (by rfl) m4 rfl) (pps_cons pe_int (pe_glob (v := .ref f5) (by rfl) m5 rfl) (pps_cons pe_int (pe_glob (v := .ref f6) (by rfl) m6 rfl) (pps_cons pe_int (pe_glob (v := .ref f7) (by rfl) m7 rfl) pps_nil)))))))) (by rfl) (by rfl) (fun z => by cases z) (by decide)))
      (pss_cons (ps_set (i := 4) sc45.nd rfl (Or.inl rfl) (pe_dget (hu_of hr) (pv 3) (pv 1) (fun _ _ => rfl)))
      (pss_one (ps_ret (pe_callH (i := 4) hr rfl (Or.inl rfl) (pa_cons (pv 0) (pa_cons (pv 2) pa_nil)))))), ?_⟩
    obtain ⟨L, s, p, x, rfl, O, hp, hok, k⟩ := h
    refine fun dd hdd => ?_
    refine ⟨upd_same, [(.inl 0, .ref f0), (.inl 1, .ref f1), (.inl 2, .ref f2), (.inl 3, .ref f3), (.inl 4, .ref f4), (.inl 5, .ref f5), (.inl 6, .ref f6), (.inl 7, .ref f7)], rfl, by show 8 ≤ 15; decide, ?_⟩
    have hm : mergeK [] [(.inl 0, .ref f0), (.inl 1, .ref f1), (.inl 2, .ref f2), (.inl 3, .ref f3), (.inl 4, .ref f4), (.inl 5, .ref f5), (.inl 6, .ref f6), (.inl 7, .ref f7)] = [(.inl 0, .ref f0), (.inl 1, .ref f1), (.inl 2, .ref f2), (.inl 3, .ref f3), (.inl 4, .ref f4), (.inl 5, .ref f5), (.inl 6, .ref f6), (.inl 7, .ref f7)] := rfl
    rw [hm, upd_upd]
    have ed : Same H (upd H dd (.dK [(.inl 0, .ref f0), (.inl 1, .ref f1), (.inl 2, .ref f2), (.inl 3, .ref f3), (.inl 4, .ref f4), (.inl 5, .ref f5), (.inl 6, .ref f6), (.inl 7, .ref f7)])) := Same.new hdd
    have hget : ∃ fx : Addr, valV (κ := Key) [(.inl 0, .ref f0), (.inl 1, .ref f1), (.inl 2, .ref f2), (.inl 3, .ref f3), (.inl 4, .ref f4), (.inl 5, .ref f5), (.inl 6, .ref f6), (.inl 7, .ref f7)] (.inl (numOf x : Int)) = some (.ref fx) ∧ Held P w K mg base 6 fx (spDeed C K (numOf x)) := by
      cases x with
      | begins w => exact ⟨f0, rfl, h0⟩
      | kind kd => exact ⟨f1, rfl, h1⟩
      | net m => exact ⟨f2, rfl, h2⟩
      | day => exact ⟨f3, rfl, h3⟩
      | shoal sh => exact ⟨f4, rfl, h4⟩
      | best => exact ⟨f5, rfl, h5⟩
      | plain => exact ⟨f6, rfl, h6⟩
      | check l => exact ⟨f7, rfl, h7⟩
    obtain ⟨fx, hv, hh⟩ := hget
    refine ⟨_, rfl, _, rfl, dd, .ref fx, rfl, ?_, ?_⟩
    · have g := DGet.k (k := Sum.inl (numOf x : Int)) (upd_same (H := H) (a := dd) (o := .dK [(.inl 0, .ref f0), (.inl 1, .ref f1), (.inl 2, .ref f2), (.inl 3, .ref f3), (.inl 4, .ref f4), (.inl 5, .ref f5), (.inl 6, .ref f6), (.inl 7, .ref f7)]))
      rw [hv] at g
      exact g
    · have O' : SeaO C (upd H dd (.dK [(.inl 0, .ref f0), (.inl 1, .ref f1), (.inl 2, .ref f2), (.inl 3, .ref f3), (.inl 4, .ref f4), (.inl 5, .ref f5), (.inl 6, .ref f6), (.inl 7, .ref f7)])) L s := ⟨O.rd.ex ed, O.nd⟩
      refine ⟨fx, spDeed C K (numOf x), rfl, hh, _, rfl, _, rfl, x, rfl, L, s, p, rfl, O', Same.seq ed hp, hok, fun v H' dn => k v H' ?_⟩
      obtain ⟨pp, L', e1, e2, e3, e4, e5, e6, e7⟩ := dn
      exact ⟨pp, L', e1, Same.free ed e2, e3, e4, e5, fun b o h n => e6 b o (ed b o h) n, fun b hb => (e7 b hb).imp id fun z => Same.free ed z⟩
end
end Sm
end
section
/-! answers. -/
namespace Sm
open PySem PySem.Spec PyProof.Rows L2
open Uw27 (Season Shoal)
section
variable {P : Program} {w : World} {K : PySem.W.Frag} {mg : Str → Option Value} {base : Heap} {C : Addr}
theorem SeaR.other {H : Hp} {L : Lay} {s : Season} {fd : Addr} {xs : List V} {o : HO} (R : SeaR C H L s) (hf : H fd = some (.lst xs)) (hn : fd ∉ own L) : SeaR C (upd H fd o) L s := by
  have tu : Tu H (upd H fd o) := Tu.lst hf
  have kp : ∀ {b : Addr} {u : HO}, H b = some u → b ∈ own L → upd H fd o b = some u := fun {b u} h hb => by
    rw [upd_ne (fun z => hn (by rw [← z]; exact hb))]
    exact h
  refine ⟨kp R.ins (by simp [own]), kp R.kl (by simp [own]), R.kt.mono fun _ _ r => tu _ _ r, kp R.nl (by simp [own]), kp R.dl (by simp [own]), ⟨R.dt.1, fun i d day hd hday => ?_⟩, R.ok⟩
  have r := R.dt.2 i d day hd hday
  exact ⟨kp r.1 (by unfold own; simp only [List.mem_cons]; exact .inr (.inr (.inr (.inr (List.mem_map.mpr ⟨d, List.mem_of_getElem? hd, rfl⟩))))), r.2.tu tu⟩
def spAns (K : PySem.W.Frag) : Sp := fun vs H Q _ => ∃ (a : Addr) (ns : List Int), vs = [.ref a] ∧ SqL K H a (ns.map V.int) ∧ PyUw27.answers_asked ns = true ∧ ns.length ≤ 30000 ∧
  ∀ (H' : Hp) (p : Addr), H' p = some (.lst ((PyUw27.answers ns).map V.int)) → Q (.ref p) H'
theorem sc46 : FnScope ["calls", "season", "found", "at", "call", "told"] ["calls"] (defScope (topS 46)) := ⟨rfl, rfl, rfl, by decide +kernel, rfl, by decide +kernel, by decide +kernel⟩
theorem enc_ne (x : Uw27.Call) : encC x ≠ [] := by
  obtain ⟨r, h⟩ := encC_num x
  rw [h]
  exact List.cons_ne_nil _ _
/-- the loop's word: of the calls that are left -/
def LoopW (C : Addr) (H : Hp) (ca fd : Addr) (ns : List Int) (m : Nat) (σ : L2.St) (H' : Hp) : Prop :=
  ∃ (L : Lay) (s : Season) (i : Nat) (xs : List Uw27.Call) (v4 v5 : Option V) (fnd : List Int), m = xs.length ∧ σ = [some (.ref ca), some (.ref L.sa), some (.ref fd), some (nV i), v4, v5] ∧ Same H H' ∧ SeaO C H' L s ∧ (∀ b ∈ own L, H b = none) ∧
    H' fd = some (.lst (fnd.map V.int)) ∧ fd ∉ own L ∧ ns.drop i = zList (xs.flatMap encC) ∧ i ≤ ns.length ∧ (∀ x ∈ xs, okCall x) ∧ fnd ++ ansOf s xs = PyUw27.answers ns
theorem ok_ans {f fI : Addr} {fd fdI : FuncData} (F : Fun K "answers" "answers" (topS 46) f fd) (T : Txt K mg C) (M : Mk K C fI) (FI : Fun K "__init__" "Season.__init__" sInit fI fdI) (bI : Binds K fdI ["self"] [])
    (D43 : Dn P w K mg base 1 "call_at" ["calls", "at"] (spCallAt K)) (D44 : Dn P w K mg base 1 "behind_call" ["calls", "at", "call"] (spBehind K)) (D45 : Dn P w K mg base 7 "told_of" ["season", "number", "call"] (spTold C K)) : FnOk P w K mg base CX0 8 f fd ["calls"] (spAns K) := by
  have GI : FnOk P w K mg base CX0 1 fI fdI ["self"] (spInit C) := ok_init FI T
  refine F.ok sc46 (fun vs H Q E h => ?_) (fun cdv A outer s H vs Q E hr h => ?_)
  · obtain ⟨a, ns, rfl, _⟩ := h
    rfl
  · refine ⟨_, pss_cons (ps_set (i := 1) sc46.nd rfl (Or.inl rfl) (pe_make0 M GI (hr.mono (by decide)) rfl T.gC bI .nil pass0))
      (pss_cons (ps_set (i := 2) sc46.nd rfl (Or.inl rfl) (pe_lst pa_nil))
      (pss_cons (ps_set (i := 3) sc46.nd rfl (Or.inl rfl) pe_int)
      (pss_cons (ps_while PassesOwn.never (pt_cmpR op_lt (pv 3) (pe_callB call_len_seq (by rfl) T.len PySem.boot_len (pa_cons (pv 0) pa_nil)) (nomark _))
        (pss_cons (ps_set (i := 4) sc46.nd rfl (Or.inl rfl) (pe_dn D43 (hr.mono (by decide)) (pa_cons (pv 0) (pa_cons (pv 3) pa_nil))))
        (pss_cons (ps_set (i := 5) sc46.nd rfl (Or.inl rfl) (pe_dn D45 hr (pa_cons (pv 1) (pa_cons (pe_ix ix_list (pv 0) (pv 3) (fun _ _ => rfl)) (pa_cons (pv 4) pa_nil)))))
        (pss_cons (ps_expr (pe_bm PySem.F.plainAttrs_list PySem.F.slot_list_append PySem.F.type_list_append mt_append (pv 2) (pa_cons (pe_callB call_len_seq (by rfl) T.len PySem.boot_len (pa_cons (pv 5) pa_nil)) pa_nil)))
        (pss_cons (ps_expr (pe_bm PySem.F.plainAttrs_list PySem.F.slot_list_extend PySem.F.type_list_extend mt_extend (pv 2) (pa_cons (pv 5) pa_nil)))
        (pss_one (ps_set (i := 3) sc46.nd rfl (Or.inl rfl) (pe_dn D44 (hr.mono (by decide)) (pa_cons (pv 0) (pa_cons (pv 3) (pa_cons (pv 4) pa_nil)))))))))))
      (pss_one (ps_ret (pv 2)))))), ?_⟩
    obtain ⟨ca, ns, rfl, hca, hask, hlen, k⟩ := h
    obtain ⟨xs, hns, hok, hans, hmost⟩ := asked_dec hask
    -- season = Season()
    intro sa dx nsa ndx ne
    refine ⟨sa, dx, rfl, upd_same, fun H1 L hL O kp ow => ⟨rfl, ?_⟩⟩
    have e0 : Same H (upd (upd H dx (.own sa)) sa (.ins C dx [])) := (Same.new ndx).trans (Same.new (by rw [upd_ne (fun z => ne z.symm)]; exact nsa))
    have e1 : Same H H1 := fun b o h => kp b o (e0 b o h) (by
      have : b ≠ sa := ne_of_none h nsa
      simpa using this)
    have hown : ∀ b ∈ own L, H b = none := fun b hb => by
      rcases ow b hb with rfl | h
      · exact nsa
      · exact Same.free e0 h
    -- found = [], at = 0
    refine ⟨by show 0 ≤ sizeLine; decide, fun fd hfd => ?_⟩
    have hfdH : H fd = none := Same.free e1 hfd
    have e2 : Same H1 (upd H1 fd (.lst [])) := Same.new hfd
    refine ⟨LoopW C H ca fd ns, ⟨xs.length, L, Uw27.init, 0, xs, none, none, [], rfl, by rw [hL]; rfl, e1.trans e2, ⟨O.rd.ex e2, O.nd⟩, hown, upd_same, fun z => ?_, hns, Nat.zero_le _, hok, hans.symm⟩, ?_⟩
    · obtain ⟨o, ho⟩ := own_some O.rd z
      rw [ho] at hfd
      cases hfd
    rintro m σ H2 ⟨L, s, i, xs, v4, v5, fnd, rfl, rfl, e, O, hown, hf, hfn, hd, hi, hok, htot⟩
    refine ⟨_, rfl, _, rfl, ca, _, rfl, .inl (Same.seq e hca), _, _, rfl, rfl, _, rfl, ?_⟩
    show (if decide ((i : Int) < ((ns.map V.int).length : Int)) = true then _ else _)
    by_cases c : i < ns.length
    · rw [decide_eq_true (by rw [List.length_map]; omega)]
      refine iteT ?_
      cases xs with
      | nil =>
        have := congrArg List.length hd
        rw [List.length_drop] at this
        simp at this
        omega
      | cons x xs =>
        have hdx : ns.drop i = zList (encC x) ++ zList (xs.flatMap encC) := by rw [hd, List.flatMap_cons]; unfold zList; rw [List.map_append]
        refine ⟨LoopW C H ca fd ns xs.length, fun σ' H' hw => ⟨xs.length, by simp, hw⟩, ?_⟩
        refine ⟨_, rfl, _, rfl, ca, ns, i, x, _, rfl, Same.seq e hca, hdx, fun cc H3 e3 hcn hcc => ?_⟩
        obtain ⟨r0, hr0⟩ := encC_num x
        have hd0 : ns.drop i = (numOf x : Int) :: (zList r0 ++ zList (xs.flatMap encC)) := by rw [hdx, hr0]; rfl
        obtain ⟨g1, _, _⟩ := drop_cons hd0
        refine ⟨_, rfl, _, rfl, _, rfl, ca, _, _, _, rfl, rfl, Same.seq (e.trans e3) hca, atI_nat (v := nV (numOf x)) (by rw [List.getElem?_map, g1]; rfl), _, rfl, ?_⟩
        refine ⟨L, s, cc, x, rfl, ⟨O.rd.ex e3, O.nd⟩, SqL.of hcc, hok x List.mem_cons_self, fun v H4 dn => ?_⟩
        obtain ⟨p, L', rfl, hpn, hp, O4, hsa, kp4, ow4⟩ := dn
        have hf3 := e3 _ _ hf
        have hf4 : H4 fd = some (.lst (fnd.map V.int)) := kp4 _ _ hf3 hfn
        have hpf : p ≠ fd := fun z => by rw [z, hf3] at hpn; cases hpn
        have hccf : cc ≠ fd := fun z => by rw [z, hf] at hcn; cases hcn
        have hcco : cc ∉ own L := fun z => by
          obtain ⟨o, ho⟩ := own_some O.rd z
          rw [ho] at hcn
          cases hcn
        have hcc4 := kp4 _ _ hcc hcco
        have e4 : Same H H4 := fun b o h => kp4 b o (e3 _ _ (e _ _ h)) fun z => by rw [hown b z] at h; cases h
        have hown4 : ∀ b ∈ own L', H b = none := fun b hb => (ow4 b hb).elim (fun z => hown b z) fun z => Same.free (e.trans e3) z
        have hfn4 : fd ∉ own L' := fun z => (ow4 fd z).elim (fun q => hfn q) fun q => by rw [hf3] at q; cases q
        have hsize : fnd.length + (1 + (Uw27Neutral.out (Uw27.step s x).2).length) ≤ 10000000 := by
          have h1 := congrArg List.length htot
          rw [hans, List.length_append] at h1
          have h2 : (ansOf s (x :: xs)).length = 1 + (Uw27Neutral.out (Uw27.step s x).2).length + (ansOf (Uw27.step s x).1 xs).length := by
            show (((Uw27Neutral.out (Uw27.step s x).2).length : Int) :: Uw27Neutral.out (Uw27.step s x).2 ++ ansOf (Uw27.step s x).1 xs).length = _
            rw [List.length_append, List.length_cons]
            omega
          omega
        have hline : (10000000 : Nat) < sizeLine := by decide
        -- found.append(len(told))
        refine ⟨_, rfl, .inl ⟨rfl, _, SqL.of hf4⟩, _, rfl, p, _, rfl, .inl (SqL.of hp), fd, _, _, rfl, rfl, hf4, by rw [List.length_map]; omega, ?_⟩
        have hp5 : (upd H4 fd (.lst (fnd.map V.int ++ [V.int (((Uw27Neutral.out (Uw27.step s x).2).map V.int).length : Int)]))) p = some (.lst ((Uw27Neutral.out (Uw27.step s x).2).map V.int)) := by
          rw [upd_ne hpf]
          exact hp
        -- found.extend(told)
        refine ⟨_, rfl, .inl ⟨rfl, _, SqL.of upd_same⟩, _, rfl, fd, p, _, _, rfl, rfl, upd_same, hp5, ?_, ?_⟩
        · rw [List.length_append, List.length_map, List.length_map]
          show fnd.length + 1 + _ ≤ _
          omega
        rw [upd_upd]
        have efnd : fnd.map V.int ++ [V.int (((Uw27Neutral.out (Uw27.step s x).2).map V.int).length : Int)] ++ (Uw27Neutral.out (Uw27.step s x).2).map V.int = (fnd ++ (((Uw27Neutral.out (Uw27.step s x).2).length : Int) :: Uw27Neutral.out (Uw27.step s x).2)).map V.int := by
          rw [List.length_map, List.map_append, List.append_assoc]
          rfl
        rw [efnd]
        generalize hfnd2 : fnd ++ (((Uw27Neutral.out (Uw27.step s x).2).length : Int) :: Uw27Neutral.out (Uw27.step s x).2) = fnd2
        have e5 : Same H (upd H4 fd (.lst (fnd2.map V.int))) := Same.mut e4 hfdH
        have hcc5 : (upd H4 fd (.lst (fnd2.map V.int))) cc = some (.lst ((argsOf x).map nV)) := by
          rw [upd_ne hccf]
          exact hcc4
        refine ⟨_, rfl, _, rfl, _, rfl, ca, cc, ns, i, x, _, rfl, Same.seq e5 hca, hdx, SqL.of hcc5, fun H6 e6 => ?_⟩
        refine ⟨L', (Uw27.step s x).1, i + (encC x).length, xs, _, _, fnd2, rfl, by rw [hsa]; rfl, e5.trans e6, ⟨(O4.rd.other hf4 hfn4).ex e6, O4.nd⟩, hown4, e6 _ _ upd_same, hfn4, ?_, ?_, fun y hy => hok y (List.mem_cons_of_mem _ hy), ?_⟩
        · rw [← List.drop_drop, hdx]
          exact List.drop_left' (by unfold zList; rw [List.length_map])
        · have h1 := congrArg List.length hdx
          rw [List.length_drop, List.length_append] at h1
          have h2 : (zList (encC x)).length = (encC x).length := List.length_map _
          omega
        · rw [← htot, ← hfnd2, List.append_assoc]
          rfl
    · rw [decide_eq_false (by rw [List.length_map]; omega)]
      refine iteF ⟨_, rfl, ?_⟩
      have hx : xs = [] := by
        cases xs with
        | nil => rfl
        | cons x xs =>
          have h1 := congrArg List.length hd
          rw [List.length_drop, List.flatMap_cons] at h1
          unfold zList at h1
          rw [List.length_map, List.length_append] at h1
          have h2 : (encC x).length ≠ 0 := fun z => enc_ne x (List.eq_nil_of_length_eq_zero z)
          omega
      subst hx
      have ht : fnd = PyUw27.answers ns := by
        rw [← htot]
        exact (List.append_nil _).symm
      exact k H2 fd (by rw [← ht]; exact hf)
end
end Sm
end
namespace Sm
open PySem PySem.Spec PyProof.Rows L2
open PySem.W (Codec)
/-! ### what the top has written -/
theorem at_mk {K : PySem.W.Frag} {h : Heap} {mg : Str → Option Value} {x : Str} {st : Stmt} (X : K.In h) (G : h.Ns mainGlobals mg) {f : Addr} {oc : Value} {od an : Option Addr} {osl : Array (Option Value)} {kV doc pm cdv ct : Value}
    (a : PySem.W.nsIn K mainGlobals x = some (some (.ref f))) (l : K.lookup f = some ⟨oc, od, .func (PySem.W.fnOf x x (defArgs st) (defBody st) (defScope st) .none kV doc pm an cdv ct), osl⟩) (c : PySem.W.codeIn K cdv x = true) (k : PySem.W.keepIn K (.ref f) = true) : At K mg x st :=
  ⟨f, _, fun_mk l c k, PySem.W.mg_of X G a⟩
theorem int_mk {K : PySem.W.Frag} {h : Heap} {mg : Str → Option Value} {x : Str} {i : Int} {t : Tok} (X : K.In h) (G : h.Ns mainGlobals mg) (e : PySem.W.nsIn K mainGlobals x = some (some (.int i t))) : ∃ t, mg x = some (.int i t) := ⟨t, PySem.W.mg_of X G e⟩
theorem tup_mk {K : PySem.W.Frag} {h : Heap} {mg : Str → Option Value} {x : Str} {vs : List V} (X : K.In h) (G : h.Ns mainGlobals mg) {a : Addr} {d : Option Addr} {its : Array Value} {n : Nat} {sl : Array (Option Value)} (e : PySem.W.nsIn K mainGlobals x = some (some (.ref a))) (l : K.lookup a = some ⟨.type "tuple", d, .seq its n, sl⟩)
    (hs : its.size ≤ sizeLine) (hv : Vals vs its.toList) : ∃ a, mg x = some (.ref a) ∧ ∀ H, SqT K H a vs := ⟨a, PySem.W.mg_of X G e, fun H => .inr ⟨_, its, n, l, rfl, rfl, hs, hv⟩⟩
/-- the class, its __init__ -/
structure ClsAt (K : PySem.W.Frag) (mg : Str → Option Value) (C : Addr) : Prop where
  cl : Cls K C
  n1 : NoAttr K C "too_small"
  n2 : NoAttr K C "kinds"
  n3 : NoAttr K C "nets"
  n4 : NoAttr K C "days"
  gC : mg "Season" = some (.ref C)
  made : ∃ fI fdI, Mk K C fI ∧ Fun K "__init__" "Season.__init__" sInit fI fdI
theorem cls_mk {K : PySem.W.Frag} {h : Heap} {mg : Str → Option Value} (X : K.In h) (G : h.Ns mainGlobals mg) {C f1 : Addr} {oc1 : Value} {od1 an1 : Option Addr} {sl1 : Array (Option Value)} {kV1 dc1 pm1 cd1 ct1 : Value}
    (aC : PySem.W.nsIn K mainGlobals "Season" = some (some (.ref C)))
    (a1 : PySem.W.findIn K (.ref C) "__init__" = some (some (.ref f1))) (i1 : PySem.W.isFn K (.ref f1) = true) (l1 : K.lookup f1 = some ⟨oc1, od1, .func (PySem.W.fnOf "__init__" "Season.__init__" (defArgs sInit) (defBody sInit) (defScope sInit) .none kV1 dc1 pm1 an1 cd1 ct1), sl1⟩) (c1 : PySem.W.codeIn K cd1 "Season.__init__" = true) (k1 : PySem.W.keepIn K (.ref f1) = true)
    (pg : PySem.W.plainGet K C Str.empty = true) (hd : PySem.W.hasDictIn K C = true) (po : PySem.W.plainOver K C = true) (sa : PySem.W.findIn K (.ref C) "__setattr__" = some (some (.builtin "object.__setattr__"))) (mk : PySem.W.makesIn K C = true) (kc : PySem.W.keepIn K (.ref C) = true)
    (n1 : PySem.W.findIn K (.ref C) "too_small" = some none) (n2 : PySem.W.findIn K (.ref C) "kinds" = some none) (n3 : PySem.W.findIn K (.ref C) "nets" = some none) (n4 : PySem.W.findIn K (.ref C) "days" = some none) : ∃ C, ClsAt K mg C :=
  ⟨C, ⟨pg, hd, po, sa⟩, n1, n2, n3, n4, PySem.W.mg_of X G aC, f1, _, ⟨mk, a1, i1, kc⟩, fun_mk l1 c1 k1⟩
theorem all_mk {P : Program} {w : World} {K : PySem.W.Frag} {mg : Str → Option Value} {fa : Addr} (hfa : mg "answers" = some (.ref fa)) (cc : ∃ C, ClsAt K mg C)
    (a1 : At K mg "nothing" (topS 1)) (a2 : At K mg "stays" (topS 2)) (a3 : At K mg "shoals_taken" (topS 3)) (a4 : At K mg "is_landed" (topS 4)) (a5 : At K mg "small_of" (topS 5)) (a6 : At K mg "landed_of" (topS 6)) (a7 : At K mg "catch_on" (topS 7)) (a8 : At K mg "together" (topS 8)) (a9 : At K mg "first_over" (topS 9)) (a10 : At K mg "is_right" (topS 10)) (a11 : At K mg "changes_in" (topS 11)) (a15 : At K mg "net_for" (topS 15)) (a16 : At K mg "plain_told" (topS 16)) (a17 : At K mg "is_plan" (topS 17)) (a18 : At K mg "catch_of" (topS 18)) (a19 : At K mg "check_told" (topS 19)) (a21 : At K mg "longer" (topS 21)) (a22 : At K mg "right_plans" (topS 22)) (a23 : At K mg "rank_of" (topS 23)) (a24 : At K mg "best_told" (topS 24)) (a35 : At K mg "begun" (topS 35)) (a36 : At K mg "kind_put" (topS 36)) (a37 : At K mg "net_put" (topS 37)) (a38 : At K mg "day_put" (topS 38)) (a39 : At K mg "shoal_put" (topS 39)) (a43 : At K mg "call_at" (topS 43)) (a44 : At K mg "behind_call" (topS 44)) (a45 : At K mg "told_of" (topS 45)) (a46 : At K mg "answers" (topS 46))
    (b_len : mg "len" = none) (b_range : mg "range" = none) (b_sum : mg "sum" = none) (b_tuple : mg "tuple" = none) (b_zip : mg "zip" = none) (b_all : mg "all" = none) (b_enumerate : mg "enumerate" = none) (b_min : mg "min" = none) (b_list : mg "list" = none) (b_int : mg "int" = none)
    (k1 : ∃ t, mg "TOO_SMALL" = some (.int (-6) t)) (k2 : ∃ t, mg "TOO_MANY" = some (.int (-7) t)) (k3 : ∃ t, mg "MOST" = some (.int 1000 t)) (k4 : ∃ t, mg "MOST_KINDS" = some (.int 3 t)) (k5 : ∃ t, mg "MOST_NETS" = some (.int 4 t)) (k6 : ∃ t, mg "MOST_DAYS" = some (.int 5 t)) (k7 : ∃ t, mg "MOST_SHOALS" = some (.int 6 t)) (k8 : ∃ t, mg "NOT_AS_TOLD" = some (.int (-1) t)) (k9 : ∃ t, mg "NO_DAY" = some (.int (-2) t)) (k10 : ∃ t, mg "FULL" = some (.int (-5) t)) (k12 : ∃ t, mg "CHECK" = some (.int 7 t))
    (k11 : ∃ a, mg "PLAIN" = some (.ref a) ∧ ∀ H, SqT K H a [.int 1, .int 3, .int 1, .int 0, .int 3, .int 0, .int 0]) :
    ∃ fd : FuncData, (∀ (s : Shared) (us : List Value), us.length = (["calls"] : List Str).length → BindsTo s fd ⟨us, []⟩ ((["calls"] : List Str).zip us)) ∧ ∀ base : Heap, K.In base → base.Ns mainGlobals mg → FnOk P w K mg base CX0 8 fa fd ["calls"] (spAns K) := by
  obtain ⟨C, cc⟩ := cc
  have T : Txt K mg C := ⟨cc.cl, cc.n1, cc.n2, cc.n3, cc.n4, cc.gC, b_len, b_range, b_sum, b_tuple, b_zip, b_all, b_enumerate, b_min, b_list, b_int, k1, k2, k3, k4, k5, k6, k7, k8, k9, k10, k11, k12⟩
  obtain ⟨fI, fdI, M, FI⟩ := cc.made
  have bI := FI.binds (ps := ["self"]) fun _ _ _ _ _ _ us hl => match us, hl with | [_], _ => rfl
  obtain ⟨f, fd, F, hm⟩ := a46.ex
  have e := hfa.symm.trans hm
  cases e
  obtain ⟨oc, od, kV, doc, pm, an, cdv, ct, osl, rfl, lk, hcd⟩ := F.ex
  refine ⟨PySem.W.fnOf "answers" "answers" (defArgs (topS 46)) (defBody (topS 46)) (defScope (topS 46)) .none kV doc pm an cdv ct, fun s us hu => match us, hu with | [_], _ => .of_eq rfl, fun base _ _ => ?_⟩
  have D1 : Dn P w K mg base 1 _ _ _ := dn_nothing a1 T
  have D2 : Dn P w K mg base 1 _ _ _ := dn_stays a2 T
  have D3 := dn_taken a3 T D2
  have D4 : Dn P w K mg base 1 _ _ _ := dn_is_landed a4 T
  have D5 := dn_small_of a5 T D4
  have D6 := dn_landed_of a6 T D4
  have D7 := dn_catch_on a7 T D3 D5 D6
  have D8 : Dn P w K mg base 1 _ _ _ := dn_together a8 T
  have D9 : Dn P w K mg base 1 _ _ _ := dn_first_over a9 T
  have D10 := dn_is_right a10 T D9
  have D11 : Dn P w K mg base 1 _ _ _ := dn_changes a11 T
  have D15 := dn_net_for a15 T D2 D7 D8 D10
  have D16 := dn_plain a16 T D1 D7 D8 D15
  have D17 := dn_is_plan a17 T D2
  have D18 := dn_catch_of a18 T D1 D7 D8
  have D19 := dn_check a19 T D17 D18 D9 D11
  have D21 := dn_longer a21 T D2 D7 D8 D10
  have D22 := dn_right_plans a22 T D1 D21
  have D23 := dn_rank_of a23 T D11
  have D24 := dn_best a24 T D22 D23
  have D35 : Dn P w K mg base 1 _ _ _ := dn_begun a35 T
  have D36 : Dn P w K mg base 1 _ _ _ := dn_kind_put a36 T
  have D37 : Dn P w K mg base 1 _ _ _ := dn_net_put a37 T
  have D38 : Dn P w K mg base 1 _ _ _ := dn_day_put a38 T
  have D39 : Dn P w K mg base 1 _ _ _ := dn_shoal_put a39 T
  have D43 : Dn P w K mg base 1 _ _ _ := dn_call_at a43 T
  have D44 : Dn P w K mg base 1 _ _ _ := dn_behind a44 T
  have D45 := dn_told_of a45 T D35 D36 D37 D38 D39 D24 D16 D19
  exact ok_ans F T M FI bI D43 D44 D45
end Sm
open PySem PySem.W PyProof.Rows
set_option maxRecDepth 100000 in
set_option maxHeartbeats 8000000 in
theorem PySem.Challenge.cw_seasonmeshes_s01_answers_holds : PySem.Challenge.rw_seasonmeshes_s01_answers.Holds := by
  w_on; k_headS; (case hw => exact ⟨[.list [.int 3]], by decide +kernel, by decide +kernel⟩)
  k_fillS
  refine L2.walk_specK (r := PySem.Challenge.rw_seasonmeshes_s01_answers) (k := 8) (CX := L2.CX0) (ps := ["calls"]) (sp := Sm.spAns) (by decide +kernel) rfl rfl ⟨rfl, by decide, by decide⟩ (fun w h Y => PySem.W.kIn_of Y) ?F ?S (fun _ _ _ _ z => z)
  case F =>
    intro w mg fa h Y KX G hmg
    refine Sm.all_mk hmg ?cc ?a1 ?a2 ?a3 ?a4 ?a5 ?a6 ?a7 ?a8 ?a9 ?a10 ?a11 ?a15 ?a16 ?a17 ?a18 ?a19 ?a21 ?a22 ?a23 ?a24 ?a35 ?a36 ?a37 ?a38 ?a39 ?a43 ?a44 ?a45 ?a46 ?b_len ?b_range ?b_sum ?b_tuple ?b_zip ?b_all ?b_enumerate ?b_min ?b_list ?b_int ?k1 ?k2 ?k3 ?k4 ?k5 ?k6 ?k7 ?k8 ?k9 ?k10 ?k12 ?k11
    case cc =>
      refine' Sm.cls_mk KX G ?c1 ?c2 ?c3 ?c4 ?c5 ?c6 ?c7 ?c8 ?c9 ?c10 ?c11 ?c12 ?c13 ?c14 ?c15 ?c16
      (case c1 => k_is); (case c2 => k_is); (case c3 => k_is); (case c4 => k_is); (case c5 => k_is); (case c6 => k_is); (case c7 => k_is); (case c8 => k_is)
      (case c9 => k_is); (case c10 => k_is); (case c11 => k_is); (case c12 => k_is); (case c13 => k_is); (case c14 => k_is); (case c15 => k_is); (case c16 => k_is)
    case a1 =>
      refine' Sm.at_mk KX G ?d1 ?d2 ?d3 ?d4
      (case d1 => k_is); (case d2 => k_is); (case d3 => k_is); (case d4 => k_is)
    case a2 =>
      refine' Sm.at_mk KX G ?d1 ?d2 ?d3 ?d4
      (case d1 => k_is); (case d2 => k_is); (case d3 => k_is); (case d4 => k_is)
    case a3 =>
      refine' Sm.at_mk KX G ?d1 ?d2 ?d3 ?d4
      (case d1 => k_is); (case d2 => k_is); (case d3 => k_is); (case d4 => k_is)
    case a4 =>
      refine' Sm.at_mk KX G ?d1 ?d2 ?d3 ?d4
      (case d1 => k_is); (case d2 => k_is); (case d3 => k_is); (case d4 => k_is)
    case a5 =>
      refine' Sm.at_mk KX G ?d1 ?d2 ?d3 ?d4
      (case d1 => k_is); (case d2 => k_is); (case d3 => k_is); (case d4 => k_is)
    case a6 =>
      refine' Sm.at_mk KX G ?d1 ?d2 ?d3 ?d4
      (case d1 => k_is); (case d2 => k_is); (case d3 => k_is); (case d4 => k_is)
    case a7 =>
      refine' Sm.at_mk KX G ?d1 ?d2 ?d3 ?d4
      (case d1 => k_is); (case d2 => k_is); (case d3 => k_is); (case d4 => k_is)
    case a8 =>
      refine' Sm.at_mk KX G ?d1 ?d2 ?d3 ?d4
      (case d1 => k_is); (case d2 => k_is); (case d3 => k_is); (case d4 => k_is)
    case a9 =>
      refine' Sm.at_mk KX G ?d1 ?d2 ?d3 ?d4
      (case d1 => k_is); (case d2 => k_is); (case d3 => k_is); (case d4 => k_is)
    case a10 =>
      refine' Sm.at_mk KX G ?d1 ?d2 ?d3 ?d4
      (case d1 => k_is); (case d2 => k_is); (case d3 => k_is); (case d4 => k_is)
    case a11 =>
      refine' Sm.at_mk KX G ?d1 ?d2 ?d3 ?d4
      (case d1 => k_is); (case d2 => k_is); (case d3 => k_is); (case d4 => k_is)
    case a15 =>
      refine' Sm.at_mk KX G ?d1 ?d2 ?d3 ?d4
      (case d1 => k_is); (case d2 => k_is); (case d3 => k_is); (case d4 => k_is)
    case a16 =>
      refine' Sm.at_mk KX G ?d1 ?d2 ?d3 ?d4
      (case d1 => k_is); (case d2 => k_is); (case d3 => k_is); (case d4 => k_is)
    case a17 =>
      refine' Sm.at_mk KX G ?d1 ?d2 ?d3 ?d4
      (case d1 => k_is); (case d2 => k_is); (case d3 => k_is); (case d4 => k_is)
    case a18 =>
      refine' Sm.at_mk KX G ?d1 ?d2 ?d3 ?d4
      (case d1 => k_is); (case d2 => k_is); (case d3 => k_is); (case d4 => k_is)
    case a19 =>
      refine' Sm.at_mk KX G ?d1 ?d2 ?d3 ?d4
      (case d1 => k_is); (case d2 => k_is); (case d3 => k_is); (case d4 => k_is)
    case a21 =>
      refine' Sm.at_mk KX G ?d1 ?d2 ?d3 ?d4
      (case d1 => k_is); (case d2 => k_is); (case d3 => k_is); (case d4 => k_is)
    case a22 =>
      refine' Sm.at_mk KX G ?d1 ?d2 ?d3 ?d4
      (case d1 => k_is); (case d2 => k_is); (case d3 => k_is); (case d4 => k_is)
    case a23 =>
      refine' Sm.at_mk KX G ?d1 ?d2 ?d3 ?d4
      (case d1 => k_is); (case d2 => k_is); (case d3 => k_is); (case d4 => k_is)
    case a24 =>
      refine' Sm.at_mk KX G ?d1 ?d2 ?d3 ?d4
      (case d1 => k_is); (case d2 => k_is); (case d3 => k_is); (case d4 => k_is)
    case a35 =>
      refine' Sm.at_mk KX G ?d1 ?d2 ?d3 ?d4
      (case d1 => k_is); (case d2 => k_is); (case d3 => k_is); (case d4 => k_is)
    case a36 =>
      refine' Sm.at_mk KX G ?d1 ?d2 ?d3 ?d4
      (case d1 => k_is); (case d2 => k_is); (case d3 => k_is); (case d4 => k_is)
    case a37 =>
      refine' Sm.at_mk KX G ?d1 ?d2 ?d3 ?d4
      (case d1 => k_is); (case d2 => k_is); (case d3 => k_is); (case d4 => k_is)
    case a38 =>
      refine' Sm.at_mk KX G ?d1 ?d2 ?d3 ?d4
      (case d1 => k_is); (case d2 => k_is); (case d3 => k_is); (case d4 => k_is)
    case a39 =>
      refine' Sm.at_mk KX G ?d1 ?d2 ?d3 ?d4
      (case d1 => k_is); (case d2 => k_is); (case d3 => k_is); (case d4 => k_is)
    case a43 =>
      refine' Sm.at_mk KX G ?d1 ?d2 ?d3 ?d4
      (case d1 => k_is); (case d2 => k_is); (case d3 => k_is); (case d4 => k_is)
    case a44 =>
      refine' Sm.at_mk KX G ?d1 ?d2 ?d3 ?d4
      (case d1 => k_is); (case d2 => k_is); (case d3 => k_is); (case d4 => k_is)
    case a45 =>
      refine' Sm.at_mk KX G ?d1 ?d2 ?d3 ?d4
      (case d1 => k_is); (case d2 => k_is); (case d3 => k_is); (case d4 => k_is)
    case a46 =>
      refine' Sm.at_mk KX G ?d1 ?d2 ?d3 ?d4
      (case d1 => k_is); (case d2 => k_is); (case d3 => k_is); (case d4 => k_is)
    case b_len =>
      refine' PySem.W.mg_none_of KX G ?d1
      (case d1 => k_is)
    case b_range =>
      refine' PySem.W.mg_none_of KX G ?d1
      (case d1 => k_is)
    case b_sum =>
      refine' PySem.W.mg_none_of KX G ?d1
      (case d1 => k_is)
    case b_tuple =>
      refine' PySem.W.mg_none_of KX G ?d1
      (case d1 => k_is)
    case b_zip =>
      refine' PySem.W.mg_none_of KX G ?d1
      (case d1 => k_is)
    case b_all =>
      refine' PySem.W.mg_none_of KX G ?d1
      (case d1 => k_is)
    case b_enumerate =>
      refine' PySem.W.mg_none_of KX G ?d1
      (case d1 => k_is)
    case b_min =>
      refine' PySem.W.mg_none_of KX G ?d1
      (case d1 => k_is)
    case b_list =>
      refine' PySem.W.mg_none_of KX G ?d1
      (case d1 => k_is)
    case b_int =>
      refine' PySem.W.mg_none_of KX G ?d1
      (case d1 => k_is)
    case k1 =>
      refine' Sm.int_mk KX G ?d1
      (case d1 => k_is)
    case k2 =>
      refine' Sm.int_mk KX G ?d1
      (case d1 => k_is)
    case k3 =>
      refine' Sm.int_mk KX G ?d1
      (case d1 => k_is)
    case k4 =>
      refine' Sm.int_mk KX G ?d1
      (case d1 => k_is)
    case k5 =>
      refine' Sm.int_mk KX G ?d1
      (case d1 => k_is)
    case k6 =>
      refine' Sm.int_mk KX G ?d1
      (case d1 => k_is)
    case k7 =>
      refine' Sm.int_mk KX G ?d1
      (case d1 => k_is)
    case k8 =>
      refine' Sm.int_mk KX G ?d1
      (case d1 => k_is)
    case k9 =>
      refine' Sm.int_mk KX G ?d1
      (case d1 => k_is)
    case k10 =>
      refine' Sm.int_mk KX G ?d1
      (case d1 => k_is)
    case k12 =>
      refine' Sm.int_mk KX G ?d1
      (case d1 => k_is)
    case k11 =>
      refine' Sm.tup_mk KX G ?d1 ?d2 ?d3 ?d4
      (case d1 => k_is); (case d2 => k_is); (case d3 => decide +kernel)
      (case d4 => exact .cons ⟨_, rfl⟩ (.cons ⟨_, rfl⟩ (.cons ⟨_, rfl⟩ (.cons ⟨_, rfl⟩ (.cons ⟨_, rfl⟩ (.cons ⟨_, rfl⟩ (.cons ⟨_, rfl⟩ .nil)))))))
  case S =>
    intro K H xs a hO hwi hask hx
    cases hx with
    | cons h1 h2 =>
      cases h2
      cases h1 with
      | lst hs ha =>
        have e := L2.ints_dw a.1 _ ha
        subst e
        have q : ((Codec.inLen 0 30000 a.1 && a.1.all (Codec.inInt 0 4294967295)) && true) = true := hwi
        rw [Bool.and_eq_true, Bool.and_eq_true] at q
        exact ⟨_, a.1, rfl, hs, hask, (Codec.inNat_iff.mp q.1.1).2, fun H' p hp => .lst (L2.SqL.of hp) (L2.dw_ints _)⟩
#print axioms PySem.Challenge.cw_seasonmeshes_s01_answers_holds

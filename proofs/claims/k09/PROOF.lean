import PyProof.Rows.All
import Wide.All
import OpenK.AllK
import Wide.FinOn
import KE.KSortAsk
import HandS.SortOrd
import KE.KTupSum
import KE.DataMinMax
import KE.SortData
import KE.KCallOwn
import KE.GoesMore
import HandS.ForMost
import HandS.Exc
import HandS.ExcOwn
import HandS.TryMany
import HandS.WordsExc
import HandS.OwnEq
import HandS.IsInst
import HandS.More
import HandS.Star
import HandS.SortKw
import HandS.SlotsOwn
import HandS.TupAny
import HandS.Zip
import HandS.Wide
import HandS.Style
import HandS.RaiseMore
import KE.KExcSuper
import KE.KExcInit
import HandS.ExcInit
import HandS.Slots
import HandS.Comp
import HandS.Words
import HandS.AnyAll
import HandS.Text
import HandS.Defaults
import HandS.DeepEq
import KE.KEqDeep
import PySem.Challenge.RW_primekinds_k09_whole_steps_and_opposites
set_option Elab.async false
set_option linter.all false
section -- PkMath
/-! The plain law of k09: kinds as falling rows of integers; no program here. -/
namespace Pk
/-! ### the order of kinds -/
/-- a stands ahead of b: the greater number at the first place where they differ -/
def gl : List Int → List Int → Bool
  | [], [] => false
  | [], _ :: _ => true
  | _ :: _, [] => false
  | x :: xs, y :: ys => if x = y then gl xs ys else decide (y < x)
theorem gl_irr : ∀ a : List Int, gl a a = false
  | [] => rfl
  | x :: xs => by
    show (if x = x then gl xs xs else decide (x < x)) = false
    rw [if_pos rfl]
    exact gl_irr xs
theorem gl_tri : ∀ a b : List Int, gl a b = false → gl b a = false → a = b
  | [], [], _, _ => rfl
  | [], _ :: _, h, _ => by cases h
  | _ :: _, [], _, h => by cases h
  | x :: xs, y :: ys, h1, h2 => by
    have h1' : (if x = y then gl xs ys else decide (y < x)) = false := h1
    have h2' : (if y = x then gl ys xs else decide (x < y)) = false := h2
    by_cases e : x = y
    · subst e
      rw [if_pos rfl] at h1' h2'
      rw [gl_tri xs ys h1' h2']
    · rw [if_neg e] at h1'
      rw [if_neg (fun z => e z.symm)] at h2'
      have a1 := of_decide_eq_false h1'
      have a2 := of_decide_eq_false h2'
      omega
theorem gl_asym : ∀ a b : List Int, gl a b = true → gl b a = false
  | [], [], h => by cases h
  | [], _ :: _, _ => rfl
  | _ :: _, [], h => by cases h
  | x :: xs, y :: ys, h1 => by
    have h1' : (if x = y then gl xs ys else decide (y < x)) = true := h1
    show (if y = x then gl ys xs else decide (x < y)) = false
    by_cases e : x = y
    · subst e
      rw [if_pos rfl] at h1' ⊢
      exact gl_asym xs ys h1'
    · rw [if_neg e] at h1'
      rw [if_neg (fun z => e z.symm)]
      have a1 := of_decide_eq_true h1'
      exact decide_eq_false (by omega)
theorem gl_tr : ∀ a b c : List Int, gl a b = true → gl b c = true → gl a c = true
  | [], [], _, h, _ => by cases h
  | [], _ :: _, [], _, h => by cases h
  | [], _ :: _, _ :: _, _, _ => rfl
  | _ :: _, [], _, h, _ => by cases h
  | _ :: _, _ :: _, [], _, h => by cases h
  | x :: xs, y :: ys, z :: zs, h1, h2 => by
    have h1' : (if x = y then gl xs ys else decide (y < x)) = true := h1
    have h2' : (if y = z then gl ys zs else decide (z < y)) = true := h2
    show (if x = z then gl xs zs else decide (z < x)) = true
    by_cases e : x = y
    · subst e
      rw [if_pos rfl] at h1'
      by_cases e2 : x = z
      · subst e2
        rw [if_pos rfl] at h2' ⊢
        exact gl_tr xs ys zs h1' h2'
      · rw [if_neg e2] at h2' ⊢
        exact h2'
    · rw [if_neg e] at h1'
      have a1 := of_decide_eq_true h1'
      by_cases e2 : y = z
      · subst e2
        rw [if_neg e]
        exact h1'
      · rw [if_neg e2] at h2'
        have a2 := of_decide_eq_true h2'
        rw [if_neg (by omega)]
        exact decide_eq_true (by omega)
/-- by sizes, then by numbers -/
def kl (a b : List Int) : Bool := if a.sum = b.sum then gl a b else decide (a.sum < b.sum)
theorem kl_tri (a b : List Int) (h1 : kl a b = false) (h2 : kl b a = false) : a = b := by
  unfold kl at h1 h2
  by_cases e : a.sum = b.sum
  · rw [if_pos e] at h1
    rw [if_pos e.symm] at h2
    exact gl_tri a b h1 h2
  · rw [if_neg e] at h1
    rw [if_neg (fun z => e z.symm)] at h2
    have a1 := of_decide_eq_false h1
    have a2 := of_decide_eq_false h2
    omega
theorem kl_asym (a b : List Int) (h : kl a b = true) : kl b a = false := by
  unfold kl at h ⊢
  by_cases e : a.sum = b.sum
  · rw [if_pos e] at h
    rw [if_pos e.symm]
    exact gl_asym a b h
  · rw [if_neg e] at h
    rw [if_neg (fun z => e z.symm)]
    have a1 := of_decide_eq_true h
    exact decide_eq_false (by omega)
theorem kl_tr (a b c : List Int) (h1 : kl a b = true) (h2 : kl b c = true) : kl a c = true := by
  unfold kl at h1 h2 ⊢
  by_cases e : a.sum = b.sum
  · rw [if_pos e] at h1
    by_cases e2 : b.sum = c.sum
    · rw [if_pos e2] at h2
      rw [if_pos (e.trans e2)]
      exact gl_tr a b c h1 h2
    · rw [if_neg e2] at h2
      rw [if_neg (fun z => e2 (e.symm.trans z)), e]
      exact h2
  · rw [if_neg e] at h1
    have a1 := of_decide_eq_true h1
    by_cases e2 : b.sum = c.sum
    · rw [if_neg (by omega)]
      exact decide_eq_true (by omega)
    · rw [if_neg e2] at h2
      have a2 := of_decide_eq_true h2
      rw [if_neg (by omega)]
      exact decide_eq_true (by omega)
/-- not above: transitive -/
theorem kl_le_tr (x y z : List Int) (h1 : kl y x = false) (h2 : kl z y = false) : kl z x = false := by
  cases e : kl z x with
  | false => rfl
  | true =>
    cases e2 : kl x y with
    | true =>
      have := kl_tr z x y e e2
      rw [h2] at this
      cases this
    | false =>
      have q := kl_tri x y e2 h1
      subst q
      rw [h2] at e
      cases e
/-- there is just one sorted row of the same things -/
theorem sort_one {α : Type} {lt : α → α → Bool} (tri : ∀ a b, lt a b = false → lt b a = false → a = b) : ∀ {l m : List α}, l.Pairwise (fun x y => lt y x = false) → m.Pairwise (fun x y => lt y x = false) → l.Perm m → l = m
  | [], m, _, _, h => (List.Perm.eq_nil h.symm).symm
  | x :: l, [], _, _, h => absurd h.length_eq (by simp)
  | x :: l, y :: m, hl, hm, h => by
    have hl' := List.pairwise_cons.mp hl
    have hm' := List.pairwise_cons.mp hm
    have e : x = y := by
      rcases List.mem_cons.mp (h.mem_iff.mp (List.mem_cons_self (a := x) (l := l))) with e | hx
      · exact e
      · rcases List.mem_cons.mp (h.mem_iff.mpr (List.mem_cons_self (a := y) (l := m))) with e | hy
        · exact e.symm
        · exact tri x y (hm'.1 x hx) (hl'.1 y hy)
    subst e
    rw [sort_one tri hl'.2 hm'.2 (List.Perm.cons_inv h)]
theorem kl_one {l m : List (List Int)} (hl : l.Pairwise (fun x y => kl y x = false)) (hm : m.Pairwise (fun x y => kl y x = false)) (h : l.Perm m) : l = m := sort_one kl_tri hl hm h
/-! ### rows -/
abbrev Fall (l : List Int) : Prop := l.Pairwise (fun x y => y ≤ x)
/-- the numbers of a kind, of any size -/
structure Kd (l : List Int) : Prop where
  fall : Fall l
  pos : ∀ x ∈ l, 1 ≤ x
theorem Kd.nil : Kd [] := ⟨List.Pairwise.nil, fun _ h => by cases h⟩
/-- the number with an index, 0 behind the last one -/
abbrev at0 (l : List Int) (i : Nat) : Int := l.getD i 0
theorem at0_nil (i : Nat) : at0 [] i = 0 := by simp
theorem at0_zero (x : Int) (l : List Int) : at0 (x :: l) 0 = x := rfl
theorem at0_succ (x : Int) (l : List Int) (i : Nat) : at0 (x :: l) (i + 1) = at0 l i := by simp
theorem at0_mem {l : List Int} {i : Nat} (h : i < l.length) : at0 l i ∈ l := by
  show l.getD i 0 ∈ l
  rw [List.getD_eq_getElem?_getD, List.getElem?_eq_getElem h]
  exact List.getElem_mem h
theorem at0_out {l : List Int} {i : Nat} (h : l.length ≤ i) : at0 l i = 0 := by
  show l.getD i 0 = 0
  rw [List.getD_eq_getElem?_getD, List.getElem?_eq_none h]
  rfl
theorem at0_get {l : List Int} {i : Nat} (h : i < l.length) : at0 l i = l[i] := by
  show l.getD i 0 = l[i]
  rw [List.getD_eq_getElem?_getD, List.getElem?_eq_getElem h]
  rfl
theorem Kd.nonneg {l : List Int} (k : Kd l) (i : Nat) : 0 ≤ at0 l i := by
  by_cases h : i < l.length
  · have := k.pos _ (at0_mem h)
    omega
  · rw [at0_out (by omega)]
    omega
theorem Kd.len_iff {l : List Int} (k : Kd l) (i : Nat) : i < l.length ↔ 1 ≤ at0 l i := by
  constructor
  · intro h
    exact k.pos _ (at0_mem h)
  · intro h
    by_cases q : i < l.length
    · exact q
    · rw [at0_out (by omega)] at h
      omega
theorem Kd.tail {x : Int} {l : List Int} (k : Kd (x :: l)) : Kd l := ⟨(List.pairwise_cons.mp k.fall).2, fun y h => k.pos y (List.mem_cons_of_mem _ h)⟩
/-- rows are told by their numbers -/
theorem Kd.ext : ∀ {a b : List Int}, Kd a → Kd b → (∀ i, at0 a i = at0 b i) → a = b
  | [], [], _, _, _ => rfl
  | [], y :: b, _, kb, h => by
    have := h 0
    rw [at0_nil, at0_zero] at this
    have := kb.pos y List.mem_cons_self
    omega
  | x :: a, [], ka, _, h => by
    have := h 0
    rw [at0_nil, at0_zero] at this
    have := ka.pos x List.mem_cons_self
    omega
  | x :: a, y :: b, ka, kb, h => by
    have e : x = y := by
      have := h 0
      rw [at0_zero, at0_zero] at this
      exact this
    subst e
    rw [Kd.ext ka.tail kb.tail fun i => by
      have := h (i + 1)
      rw [at0_succ, at0_succ] at this
      exact this]
theorem fall_le : ∀ {l : List Int} {i j : Nat}, Fall l → (∀ x ∈ l, 0 ≤ x) → i ≤ j → at0 l j ≤ at0 l i
  | [], i, j, _, _, _ => by rw [at0_nil, at0_nil]; omega
  | x :: l, 0, 0, _, _, _ => Int.le_refl _
  | x :: l, 0, j + 1, h, p, _ => by
    rw [at0_succ, at0_zero]
    by_cases q : j < l.length
    · exact (List.pairwise_cons.mp h).1 _ (at0_mem q)
    · rw [at0_out (by omega)]
      exact p x List.mem_cons_self
  | x :: l, i + 1, 0, _, _, h => by omega
  | x :: l, i + 1, j + 1, h, p, hij => by
    rw [at0_succ, at0_succ]
    exact fall_le (List.pairwise_cons.mp h).2 (fun y hy => p y (List.mem_cons_of_mem _ hy)) (by omega)
theorem Kd.le {l : List Int} (k : Kd l) {i j : Nat} (h : i ≤ j) : at0 l j ≤ at0 l i := fall_le k.fall (fun x hx => by have := k.pos x hx; omega) h
theorem sum_len : ∀ {l : List Int}, (∀ x ∈ l, 1 ≤ x) → (l.length : Int) ≤ l.sum
  | [], _ => by simp
  | x :: l, h => by
    have ih := sum_len (l := l) fun y hy => h y (List.mem_cons_of_mem _ hy)
    have h1 := h x List.mem_cons_self
    rw [List.length_cons, List.sum_cons]
    omega
theorem sum_nonneg : ∀ {l : List Int}, (∀ x ∈ l, 0 ≤ x) → 0 ≤ l.sum
  | [], _ => by simp
  | x :: l, h => by
    have ih := sum_nonneg (l := l) fun y hy => h y (List.mem_cons_of_mem _ hy)
    have h1 := h x List.mem_cons_self
    rw [List.sum_cons]
    omega
theorem mem_le_sum : ∀ {l : List Int} {x : Int}, (∀ x ∈ l, 0 ≤ x) → x ∈ l → x ≤ l.sum
  | y :: l, x, h, m => by
    have hy := h y List.mem_cons_self
    have hs := sum_nonneg (l := l) fun z hz => h z (List.mem_cons_of_mem _ hz)
    rw [List.sum_cons]
    rcases List.mem_cons.mp m with e | m
    · omega
    · have := mem_le_sum (fun z hz => h z (List.mem_cons_of_mem _ hz)) m
      omega
theorem Kd.nn {l : List Int} (k : Kd l) : ∀ x ∈ l, 0 ≤ x := fun x h => by have := k.pos x h; omega
/-! ### all kinds of a size -/
/-- the rows of the sum n whose numbers are at most m, the greatest first; f: at least n -/
def parts : Nat → Nat → Nat → List (List Int)
  | _, _, 0 => [[]]
  | 0, _, _ + 1 => []
  | f + 1, m, n + 1 => (List.range (min m (n + 1))).reverse.flatMap fun i => (parts f (i + 1) (n - i)).map (((i : Int) + 1) :: ·)
theorem parts_zero (f m : Nat) : parts f m 0 = [[]] := by cases f <;> rfl
theorem parts_succ (f m n : Nat) : parts (f + 1) m (n + 1) = (List.range (min m (n + 1))).reverse.flatMap fun i => (parts f (i + 1) (n - i)).map (((i : Int) + 1) :: ·) := rfl
theorem parts_fuel : ∀ (f g m n : Nat), n ≤ f → n ≤ g → parts f m n = parts g m n
  | f, g, m, 0, _, _ => by rw [parts_zero, parts_zero]
  | 0, _, _, n + 1, h, _ => by omega
  | _ + 1, 0, _, n + 1, _, h => by omega
  | f + 1, g + 1, m, n + 1, h1, h2 => by
    rw [parts_succ, parts_succ]
    congr 1
    funext i
    rw [parts_fuel f g (i + 1) (n - i) (by omega) (by omega)]
theorem mem_parts : ∀ (f m n : Nat) (l : List Int), n ≤ f → (l ∈ parts f m n ↔ Kd l ∧ (∀ x ∈ l, x ≤ m) ∧ l.sum = n)
  | f, m, 0, l, _ => by
    rw [parts_zero, List.mem_singleton]
    constructor
    · intro e
      subst e
      exact ⟨Kd.nil, fun _ h => (by cases h), rfl⟩
    · rintro ⟨k, _, s⟩
      cases l with
      | nil => rfl
      | cons x l =>
        have h1 := k.pos x List.mem_cons_self
        have h2 := sum_nonneg (l := l) fun y hy => k.nn y (List.mem_cons_of_mem _ hy)
        rw [List.sum_cons] at s
        omega
  | 0, m, n + 1, l, h => by omega
  | f + 1, m, n + 1, l, h => by
    rw [parts_succ, List.mem_flatMap]
    constructor
    · rintro ⟨i, hi, hl⟩
      rw [List.mem_reverse, List.mem_range] at hi
      obtain ⟨r, hr, rfl⟩ := List.mem_map.mp hl
      obtain ⟨k, hm, hs⟩ := (mem_parts f (i + 1) (n - i) r (by omega)).mp hr
      refine ⟨⟨List.pairwise_cons.mpr ⟨fun y hy => ?_, k.fall⟩, fun y hy => ?_⟩, fun y hy => ?_, ?_⟩
      · have := hm y hy
        omega
      · rcases List.mem_cons.mp hy with e | hy
        · omega
        · exact k.pos y hy
      · rcases List.mem_cons.mp hy with e | hy
        · omega
        · have := hm y hy
          omega
      · rw [List.sum_cons, hs]
        omega
    · rintro ⟨k, hm, hs⟩
      cases l with
      | nil => simp at hs; omega
      | cons x l =>
        have hx1 := k.pos x List.mem_cons_self
        have hxm := hm x List.mem_cons_self
        have hn := sum_nonneg (l := l) fun y hy => k.nn y (List.mem_cons_of_mem _ hy)
        rw [List.sum_cons] at hs
        refine ⟨(x - 1).toNat, ?_, ?_⟩
        · rw [List.mem_reverse, List.mem_range]
          omega
        · refine List.mem_map.mpr ⟨l, ?_, ?_⟩
          · refine (mem_parts f _ _ l (by omega)).mpr ⟨k.tail, fun y hy => ?_, by omega⟩
            have := (List.pairwise_cons.mp k.fall).1 y hy
            omega
          · rw [show (((x - 1).toNat : Nat) : Int) + 1 = x by omega]
theorem gl_cons_same (x : Int) (a b : List Int) : gl (x :: a) (x :: b) = gl a b := if_pos rfl
theorem gl_cons_gt {x y : Int} (a b : List Int) (h : y < x) : gl (x :: a) (y :: b) = true := by
  show (if x = y then gl a b else decide (y < x)) = true
  rw [if_neg (by omega)]
  exact decide_eq_true h
theorem parts_sorted : ∀ (f m n : Nat), (parts f m n).Pairwise (fun a b => gl a b = true)
  | f, m, 0 => by
    rw [parts_zero]
    exact List.pairwise_singleton _ _
  | 0, m, n + 1 => List.Pairwise.nil
  | f + 1, m, n + 1 => by
    rw [parts_succ, List.pairwise_flatMap]
    refine ⟨fun i _ => ?_, ?_⟩
    · rw [List.pairwise_map]
      refine (parts_sorted f (i + 1) (n - i)).imp fun {a b} h => ?_
      rw [gl_cons_same]
      exact h
    · rw [List.pairwise_reverse]
      refine (List.pairwise_lt_range (n := min m (n + 1))).imp fun {i j} h a ha b hb => ?_
      obtain ⟨a', _, rfl⟩ := List.mem_map.mp ha
      obtain ⟨b', _, rfl⟩ := List.mem_map.mp hb
      exact gl_cons_gt _ _ (by omega)
/-- all kinds of the size n, the line first -/
def kinds (n : Nat) : List (List Int) := parts n n n
theorem mem_kinds {n : Nat} {l : List Int} : l ∈ kinds n ↔ Kd l ∧ l.sum = n := by
  unfold kinds
  rw [mem_parts n n n l (Nat.le_refl _)]
  constructor
  · rintro ⟨a, _, b⟩
    exact ⟨a, b⟩
  · rintro ⟨a, b⟩
    exact ⟨a, fun x hx => by have := mem_le_sum a.nn hx; omega, b⟩
theorem kinds_sorted (n : Nat) : (kinds n).Pairwise (fun a b => gl a b = true) := parts_sorted n n n
theorem kinds_nodup (n : Nat) : (kinds n).Nodup := (kinds_sorted n).imp fun {a b} h e => by
  subst e
  rw [gl_irr] at h
  cases h
/-- a filter of the kinds of a size stands in order -/
theorem kinds_filter_sorted (n : Nat) (p : List Int → Bool) : ((kinds n).filter p).Pairwise (fun x y => kl y x = false) := by
  have h : (kinds n).Pairwise (fun x y => kl y x = false) := by
    refine List.Pairwise.imp_of_mem (fun {a b} ha hb hg => ?_) (kinds_sorted n)
    unfold kl
    rw [if_pos (by rw [(mem_kinds.mp ha).2, (mem_kinds.mp hb).2])]
    exact gl_asym a b hg
  exact h.sublist List.filter_sublist
/-- what is sorted, has no thing twice, and has just those members, is that filter -/
theorem is_filter {n : Nat} {p : List Int → Bool} {l : List (List Int)} (hs : l.Pairwise (fun x y => kl y x = false)) (hn : l.Nodup) (hm : ∀ x, x ∈ l ↔ (Kd x ∧ x.sum = n) ∧ p x = true) : l = (kinds n).filter p := by
  refine kl_one hs (kinds_filter_sorted n p) ?_
  refine (List.perm_ext_iff_of_nodup hn ((kinds_nodup n).filter _)).mpr fun x => ?_
  rw [hm x, List.mem_filter, mem_kinds]
/-! ### without zeros -/
/-- some numbers without those that are 0 -/
def wz (l : List Int) : List Int := l.filter fun n => decide (0 < n)
theorem mem_wz {l : List Int} {x : Int} : x ∈ wz l ↔ x ∈ l ∧ 0 < x := by
  unfold wz
  rw [List.mem_filter]
  simp
theorem wz_nil : wz [] = [] := rfl
theorem wz_pos {x : Int} {l : List Int} (h : 0 < x) : wz (x :: l) = x :: wz l := by
  unfold wz
  rw [List.filter_cons_of_pos (by simpa using h)]
theorem wz_zero {x : Int} {l : List Int} (h : ¬ 0 < x) : wz (x :: l) = wz l := by
  unfold wz
  rw [List.filter_cons_of_neg (by simpa using h)]
theorem wz_all_zero : ∀ {l : List Int}, (∀ x ∈ l, x = 0) → wz l = []
  | [], _ => rfl
  | x :: l, h => by
    rw [wz_zero (by have := h x List.mem_cons_self; omega)]
    exact wz_all_zero fun y hy => h y (List.mem_cons_of_mem _ hy)
theorem at0_all_zero {l : List Int} (h : ∀ x ∈ l, x = 0) (i : Nat) : at0 l i = 0 := by
  by_cases q : i < l.length
  · exact h _ (at0_mem q)
  · exact at0_out (by omega)
/-- a falling row of integers from 0 on keeps its numbers in their places -/
theorem at0_wz : ∀ {l : List Int} (_ : Fall l) (_ : ∀ x ∈ l, 0 ≤ x) (i : Nat), at0 (wz l) i = at0 l i
  | [], _, _, i => rfl
  | x :: l, f, p, i => by
    by_cases hx : 0 < x
    · rw [wz_pos hx]
      cases i with
      | zero => rfl
      | succ i =>
        rw [at0_succ, at0_succ]
        exact at0_wz (List.pairwise_cons.mp f).2 (fun y hy => p y (List.mem_cons_of_mem _ hy)) i
    · have z : ∀ y ∈ x :: l, y = 0 := fun y hy => by
        have h0 := p x List.mem_cons_self
        have h1 := p y hy
        rcases List.mem_cons.mp hy with e | hy
        · omega
        · have := (List.pairwise_cons.mp f).1 y hy
          omega
      rw [wz_all_zero z, at0_all_zero z, at0_nil]
theorem wz_kd {l : List Int} (f : Fall l) : Kd (wz l) := ⟨f.sublist List.filter_sublist, fun x h => by have := (mem_wz.mp h).2; omega⟩
theorem wz_sum : ∀ {l : List Int}, (∀ x ∈ l, 0 ≤ x) → (wz l).sum = l.sum
  | [], _ => rfl
  | x :: l, p => by
    have ih := wz_sum (l := l) fun y hy => p y (List.mem_cons_of_mem _ hy)
    have h0 := p x List.mem_cons_self
    by_cases hx : 0 < x
    · rw [wz_pos hx, List.sum_cons, List.sum_cons, ih]
    · rw [wz_zero hx, List.sum_cons, ih]
      omega
theorem wz_of_kd : ∀ {l : List Int}, Kd l → wz l = l
  | [], _ => rfl
  | x :: l, k => by
    rw [wz_pos (by have := k.pos x List.mem_cons_self; omega), wz_of_kd k.tail]
theorem wz_append (a b : List Int) : wz (a ++ b) = wz a ++ wz b := List.filter_append _ _
theorem wz_zeros (n : Nat) : wz (List.replicate n 0) = [] := wz_all_zero fun x h => (List.mem_replicate.mp h).2
/-! ### raised rows -/
/-- behind each row the number, or the number and 1, where the row keeps falling -/
def rstep (rows : List (List Int)) (x : Int) : List (List Int) :=
  rows.flatMap fun row => (([0, 1] : List Int).filter fun more => row.isEmpty || decide (x + more ≤ row.getLastD 0)).map fun more => row ++ [x + more]
def rrows (xs : List Int) : List (List Int) := xs.foldl rstep [[]]
theorem rrows_snoc (xs : List Int) (x : Int) : rrows (xs ++ [x]) = rstep (rrows xs) x := by
  unfold rrows
  rw [List.foldl_append]
  rfl
/-- each number of r is that of xs, or greater by 1 -/
def Near : List Int → List Int → Prop
  | [], [] => True
  | x :: xs, r :: rs => (x ≤ r ∧ r ≤ x + 1) ∧ Near xs rs
  | _, _ => False
theorem Near.length : ∀ {xs r : List Int}, Near xs r → xs.length = r.length
  | [], [], _ => rfl
  | [], _ :: _, h => False.elim h
  | _ :: _, [], h => False.elim h
  | x :: xs, r :: rs, h => by
    rw [List.length_cons, List.length_cons, Near.length h.2]
theorem Near.snoc : ∀ {xs r : List Int} {x y : Int}, Near xs r → x ≤ y → y ≤ x + 1 → Near (xs ++ [x]) (r ++ [y])
  | [], [], x, y, _, h1, h2 => ⟨⟨h1, h2⟩, trivial⟩
  | [], _ :: _, _, _, h, _, _ => False.elim h
  | _ :: _, [], _, _, h, _, _ => False.elim h
  | a :: xs, b :: r, x, y, h, h1, h2 => ⟨h.1, Near.snoc h.2 h1 h2⟩
theorem Near.unsnoc : ∀ {xs r : List Int} {x : Int}, Near (xs ++ [x]) r → ∃ r' y, r = r' ++ [y] ∧ Near xs r' ∧ x ≤ y ∧ y ≤ x + 1
  | [], [], x, h => False.elim h
  | [], [y], x, h => ⟨[], y, rfl, trivial, h.1⟩
  | [], _ :: _ :: _, x, h => False.elim h.2
  | a :: xs, [], x, h => False.elim h
  | a :: xs, b :: r, x, h => by
    obtain ⟨r', y, e, h1, h2⟩ := Near.unsnoc h.2
    exact ⟨b :: r', y, by rw [e]; rfl, ⟨h.1, h1⟩, h2⟩
theorem Near.at0 : ∀ {xs r : List Int}, Near xs r → ∀ i, at0 xs i ≤ at0 r i ∧ at0 r i ≤ at0 xs i + 1
  | [], [], _, i => by rw [at0_nil]; omega
  | [], _ :: _, h, _ => False.elim h
  | _ :: _, [], h, _ => False.elim h
  | a :: xs, b :: r, h, 0 => h.1
  | a :: xs, b :: r, h, i + 1 => by
    rw [at0_succ, at0_succ]
    exact Near.at0 h.2 i
theorem Near.of : ∀ {xs r : List Int}, xs.length = r.length → (∀ i, Pk.at0 xs i ≤ Pk.at0 r i ∧ Pk.at0 r i ≤ Pk.at0 xs i + 1) → Near xs r
  | [], [], _, _ => trivial
  | [], _ :: _, h, _ => by simp at h
  | _ :: _, [], h, _ => by simp at h
  | a :: xs, b :: r, h, q => by
    refine ⟨q 0, Near.of (by simpa using h) fun i => ?_⟩
    have := q (i + 1)
    rw [at0_succ, at0_succ] at this
    exact this
theorem fall_snoc {r : List Int} {y : Int} : Fall (r ++ [y]) ↔ Fall r ∧ ∀ x ∈ r, y ≤ x := by
  show List.Pairwise _ _ ↔ _
  rw [List.pairwise_append]
  constructor
  · rintro ⟨a, _, c⟩
    exact ⟨a, fun x hx => c x hx y (List.mem_singleton.mpr rfl)⟩
  · rintro ⟨a, c⟩
    refine ⟨a, List.pairwise_singleton _ _, fun x hx z hz => ?_⟩
    rw [List.mem_singleton.mp hz]
    exact c x hx
theorem fall_last : ∀ {r : List Int} {y : Int}, Fall r → (r.isEmpty || decide (y ≤ r.getLastD 0)) = true → ∀ x ∈ r, y ≤ x
  | [], y, _, _, x, hx => by cases hx
  | [a], y, _, h, x, hx => by
    have h' : y ≤ a := by simpa using h
    rw [List.mem_singleton.mp hx]
    exact h'
  | a :: b :: r, y, f, h, x, hx => by
    have f' := List.pairwise_cons.mp f
    have h2 : ((b :: r).isEmpty || decide (y ≤ (b :: r).getLastD 0)) = true := by
      have e : (a :: b :: r).getLastD 0 = (b :: r).getLastD 0 := by
        rw [List.getLastD_cons, List.getLastD_cons, List.getLastD_cons]
      rw [e] at h
      exact h
    rcases List.mem_cons.mp hx with e | hx
    · have h3 := fall_last f'.2 h2 b List.mem_cons_self
      have h4 := f'.1 b List.mem_cons_self
      omega
    · exact fall_last f'.2 h2 x hx
theorem last_mem {r : List Int} (h : r ≠ []) : r.getLastD 0 ∈ r := by
  rw [List.getLastD_eq_getLast?, List.getLast?_eq_some_getLast h]
  exact List.getLast_mem h
theorem mem_rrows_aux : ∀ (n : Nat) (xs : List Int), xs.length = n → ∀ r, r ∈ rrows xs ↔ Near xs r ∧ Fall r
  | 0, xs, h, r => by
    have e : xs = [] := List.length_eq_zero_iff.mp h
    subst e
    show r ∈ [[]] ↔ _
    rw [List.mem_singleton]
    constructor
    · intro e
      subst e
      exact ⟨trivial, List.Pairwise.nil⟩
    · rintro ⟨a, _⟩
      have := a.length
      exact List.length_eq_zero_iff.mp this.symm
  | n + 1, xs, h, r => by
    obtain ⟨ys, x, e⟩ : ∃ ys x, xs = ys ++ [x] := by
      have hn : xs ≠ [] := by
        intro z
        rw [z] at h
        simp at h
      exact ⟨xs.dropLast, xs.getLast hn, (List.dropLast_concat_getLast hn).symm⟩
    subst e
    have hl : ys.length = n := by simpa using h
    rw [rrows_snoc]
    unfold rstep
    rw [List.mem_flatMap]
    constructor
    · rintro ⟨row, hr, hm⟩
      obtain ⟨hn, hf⟩ := (mem_rrows_aux n ys hl row).mp hr
      obtain ⟨more, hmf, rfl⟩ := List.mem_map.mp hm
      obtain ⟨hm1, hm2⟩ := List.mem_filter.mp hmf
      have h01 : more = 0 ∨ more = 1 := by simpa using hm1
      exact ⟨hn.snoc (by omega) (by omega), fall_snoc.mpr ⟨hf, fall_last hf hm2⟩⟩
    · rintro ⟨hn, hf⟩
      obtain ⟨r', y, e, hn', h1, h2⟩ := hn.unsnoc
      subst e
      obtain ⟨hf1, hf2⟩ := fall_snoc.mp hf
      refine ⟨r', (mem_rrows_aux n ys hl r').mpr ⟨hn', hf1⟩, ?_⟩
      refine List.mem_map.mpr ⟨y - x, ?_, by rw [show x + (y - x) = y by omega]⟩
      refine List.mem_filter.mpr ⟨?_, ?_⟩
      · have : y - x = 0 ∨ y - x = 1 := by omega
        simpa using this
      · show (r'.isEmpty || decide (x + (y - x) ≤ r'.getLastD 0)) = true
        rw [show x + (y - x) = y by omega]
        cases r' with
        | nil => rfl
        | cons a r' =>
          have := hf2 _ (last_mem (r := a :: r') (by simp))
          simp only [List.isEmpty_cons, Bool.false_or]
          exact decide_eq_true this
theorem mem_rrows {xs r : List Int} : r ∈ rrows xs ↔ Near xs r ∧ Fall r := mem_rrows_aux _ xs rfl r
theorem rrows_nodup_aux : ∀ (n : Nat) (xs : List Int), xs.length = n → (rrows xs).Nodup
  | 0, xs, h => by
    have e : xs = [] := List.length_eq_zero_iff.mp h
    subst e
    exact List.pairwise_singleton _ _
  | n + 1, xs, h => by
    obtain ⟨ys, x, e⟩ : ∃ ys x, xs = ys ++ [x] := by
      have hn : xs ≠ [] := by
        intro z
        rw [z] at h
        simp at h
      exact ⟨xs.dropLast, xs.getLast hn, (List.dropLast_concat_getLast hn).symm⟩
    subst e
    have hl : ys.length = n := by simpa using h
    rw [rrows_snoc]
    unfold rstep
    show List.Pairwise _ _
    rw [List.pairwise_flatMap]
    refine ⟨fun row _ => ?_, ?_⟩
    · rw [List.pairwise_map]
      have h01 : ([0, 1] : List Int).Pairwise (fun a b => row ++ [x + a] ≠ row ++ [x + b]) := by
        refine List.pairwise_cons.mpr ⟨fun b hb => ?_, List.pairwise_singleton _ _⟩
        rw [List.mem_singleton.mp hb]
        intro z
        have := List.append_cancel_left z
        simp at this
        omega
      exact h01.sublist List.filter_sublist
    · refine (rrows_nodup_aux n ys hl).imp fun {a b} hab p hp q hq z => ?_
      obtain ⟨m1, _, rfl⟩ := List.mem_map.mp hp
      obtain ⟨m2, _, rfl⟩ := List.mem_map.mp hq
      exact hab (List.append_inj_left' z rfl)
theorem rrows_nodup (xs : List Int) : (rrows xs).Nodup := rrows_nodup_aux _ xs rfl
/-- the falling rows that come of a kind by adding 1 to so many numbers, or zeros -/
def raised (k : List Int) (many : Nat) : List (List Int) := (rrows (k ++ List.replicate many 0)).filter fun r => decide (r.sum = k.sum + many)
theorem at0_zeros (k : List Int) (m : Nat) (i : Nat) : at0 (k ++ List.replicate m 0) i = at0 k i := by
  by_cases h : i < k.length
  · rw [at0_get h, at0_get (by rw [List.length_append]; omega), List.getElem_append_left h]
  · rw [at0_out (l := k) (by omega)]
    by_cases h2 : i < (k ++ List.replicate m (0 : Int)).length
    · rw [at0_get h2, List.getElem_append_right (by omega), List.getElem_replicate]
    · exact at0_out (by omega)
structure Up (k r : List Int) (m : Nat) : Prop where
  len : r.length = k.length + m
  near : ∀ i, at0 k i ≤ at0 r i ∧ at0 r i ≤ at0 k i + 1
  fall : Fall r
  sum : r.sum = k.sum + m
theorem mem_raised {k r : List Int} {m : Nat} : r ∈ raised k m ↔ Up k r m := by
  unfold raised
  rw [List.mem_filter, mem_rrows]
  constructor
  · rintro ⟨⟨a, b⟩, c⟩
    refine ⟨?_, fun i => ?_, b, of_decide_eq_true c⟩
    · have := a.length
      rw [List.length_append, List.length_replicate] at this
      omega
    · have := a.at0 i
      rw [at0_zeros] at this
      exact this
  · rintro ⟨a, b, c, d⟩
    refine ⟨⟨Near.of (by rw [List.length_append, List.length_replicate, a]) fun i => ?_, c⟩, decide_eq_true d⟩
    rw [at0_zeros]
    exact b i
theorem Up.nn {k r : List Int} {m : Nat} (u : Up k r m) (hk : Kd k) : ∀ x ∈ r, 0 ≤ x := fun x hx => by
  obtain ⟨i, hi, e⟩ := List.mem_iff_getElem.mp hx
  have h1 := (u.near i).1
  have h2 := hk.nonneg i
  rw [at0_get hi, e] at h1
  omega
theorem raised_nodup (k : List Int) (m : Nat) : (raised k m).Nodup := (rrows_nodup _).filter _
/-- a row is told by what is left of it without its zeros, and by its length -/
theorem wz_inj {a b : List Int} (fa : Fall a) (fb : Fall b) (pa : ∀ x ∈ a, 0 ≤ x) (pb : ∀ x ∈ b, 0 ≤ x) (hl : a.length = b.length) (h : wz a = wz b) : a = b := by
  refine List.ext_getElem hl fun i h1 h2 => ?_
  rw [← at0_get h1, ← at0_get h2, ← at0_wz fa pa, ← at0_wz fb pb, h]
/-- the kinds that come by a flat step, as rows without zeros -/
def flatRows (k : List Int) (m : Nat) : List (List Int) := (raised k m).map wz
theorem flatRows_nodup {k : List Int} (hk : Kd k) (m : Nat) : (flatRows k m).Nodup := by
  unfold flatRows
  show List.Pairwise _ _
  rw [List.pairwise_map]
  refine List.Pairwise.imp_of_mem (fun {a b} ha hb hab e => ?_) (raised_nodup k m)
  have ua := mem_raised.mp ha
  have ub := mem_raised.mp hb
  exact hab (wz_inj ua.fall ub.fall (ua.nn hk) (ub.nn hk) (by rw [ua.len, ub.len]) e)
/-- l comes from k by a flat step -/
def Flat (l k : List Int) : Prop := ∀ i, at0 k i ≤ at0 l i ∧ at0 l i ≤ at0 k i + 1
theorem flat_len : ∀ {l k : List Int} {m : Nat}, Kd l → Kd k → Flat l k → l.sum = k.sum + m → l.length ≤ k.length + m
  | [], _, _, _, _, _, _ => Nat.zero_le _
  | x :: l, [], m, kl, kk, f, s => by
    have := sum_len (l := x :: l) kl.pos
    simp at s
    simp at this ⊢
    omega
  | x :: l, y :: k, m, kl, kk, f, s => by
    have f0 := f 0
    rw [at0_zero, at0_zero] at f0
    have fs : Flat l k := fun i => by
      have := f (i + 1)
      rw [at0_succ, at0_succ] at this
      exact this
    rw [List.sum_cons, List.sum_cons] at s
    rw [List.length_cons, List.length_cons]
    by_cases e : x = y
    · have := flat_len (m := m) kl.tail kk.tail fs (by omega)
      omega
    · cases m with
      | zero =>
        have hle : ∀ {a b : List Int}, Kd a → Kd b → Flat a b → b.sum ≤ a.sum := by
          intro a
          induction a with
          | nil =>
            intro b _ kb fl
            cases b with
            | nil => exact Int.le_refl _
            | cons z b =>
              have h1 := kb.pos z List.mem_cons_self
              have h2 := (fl 0).1
              rw [at0_zero, at0_nil] at h2
              omega
          | cons w a ih =>
            intro b ka kb fl
            cases b with
            | nil =>
              have := sum_nonneg ka.nn
              simpa using this
            | cons z b =>
              have h2 := (fl 0).1
              rw [at0_zero, at0_zero] at h2
              have := ih ka.tail kb.tail fun i => by
                have := fl (i + 1)
                rw [at0_succ, at0_succ] at this
                exact this
              rw [List.sum_cons, List.sum_cons]
              omega
        have := hle kl.tail kk.tail fs
        omega
      | succ m =>
        have := flat_len (m := m) kl.tail kk.tail fs (by omega)
        omega
theorem mem_flatRows {k : List Int} (hk : Kd k) {m : Nat} {l : List Int} : l ∈ flatRows k m ↔ (Kd l ∧ l.sum = k.sum + m) ∧ Flat l k := by
  unfold flatRows
  rw [List.mem_map]
  constructor
  · rintro ⟨r, hr, rfl⟩
    have u := mem_raised.mp hr
    have nn := u.nn hk
    refine ⟨⟨wz_kd u.fall, ?_⟩, fun i => ?_⟩
    · rw [wz_sum nn]
      exact u.sum
    · rw [at0_wz u.fall nn]
      exact u.near i
  · rintro ⟨⟨kl, s⟩, f⟩
    have hl := flat_len kl hk f s
    refine ⟨l ++ List.replicate (k.length + m - l.length) 0, mem_raised.mpr ⟨?_, fun i => ?_, ?_, ?_⟩, ?_⟩
    · rw [List.length_append, List.length_replicate]
      omega
    · rw [at0_zeros]
      exact f i
    · show List.Pairwise _ _
      rw [List.pairwise_append]
      refine ⟨kl.fall, ?_, fun x hx y hy => ?_⟩
      · rw [List.pairwise_replicate]
        right
        exact Int.le_refl _
      · rw [(List.mem_replicate.mp hy).2]
        exact kl.nn x hx
    · rw [List.sum_append]
      have : (List.replicate (k.length + m - l.length) (0 : Int)).sum = 0 := by simp
      omega
    · rw [wz_append, wz_zeros, List.append_nil, wz_of_kd kl]
/-! ### turned rows -/
/-- how many numbers are greater than i -/
def cnt (l : List Int) (i : Int) : Nat := (l.filter fun n => decide (i < n)).length
theorem cnt_nil (i : Int) : cnt [] i = 0 := rfl
theorem cnt_pos {x i : Int} {l : List Int} (h : i < x) : cnt (x :: l) i = cnt l i + 1 := by
  unfold cnt
  rw [List.filter_cons_of_pos (by simpa using h), List.length_cons]
theorem cnt_neg {x i : Int} {l : List Int} (h : ¬ i < x) : cnt (x :: l) i = cnt l i := by
  unfold cnt
  rw [List.filter_cons_of_neg (by simpa using h)]
theorem cnt_none {i : Int} : ∀ {l : List Int}, (∀ x ∈ l, x ≤ i) → cnt l i = 0
  | [], _ => rfl
  | x :: l, h => by
    rw [cnt_neg (by have := h x List.mem_cons_self; omega)]
    exact cnt_none fun y hy => h y (List.mem_cons_of_mem _ hy)
/-- the greatest number, or 0 -/
def top0 (l : List Int) : Int := l.foldl max 0
theorem foldl_max : ∀ (l : List Int) (a : Int), a ≤ l.foldl max a ∧ (∀ x ∈ l, x ≤ l.foldl max a) ∧ (l.foldl max a = a ∨ l.foldl max a ∈ l)
  | [], a => ⟨Int.le_refl _, fun _ h => (by cases h), .inl rfl⟩
  | x :: l, a => by
    obtain ⟨h1, h2, h3⟩ := foldl_max l (max a x)
    rw [List.foldl_cons]
    refine ⟨by omega, fun y hy => ?_, ?_⟩
    · rcases List.mem_cons.mp hy with e | hy
      · subst e; omega
      · exact h2 y hy
    · rcases h3 with h | h
      · by_cases q : a ≤ x
        · right
          rw [h, Int.max_eq_right q]
          exact List.mem_cons_self
        · left
          rw [h, Int.max_eq_left (by omega)]
      · exact .inr (List.mem_cons_of_mem _ h)
theorem top0_nn (l : List Int) : 0 ≤ top0 l := (foldl_max l 0).1
theorem top0_le {l : List Int} {x : Int} (h : x ∈ l) : x ≤ top0 l := (foldl_max l 0).2.1 x h
/-- what is the greatest -/
theorem top0_of {l : List Int} {m : Int} (hp : ∀ x ∈ l, 0 ≤ x) (hm : m ∈ l) (h : ∀ x ∈ l, x ≤ m) : top0 l = m := by
  have h1 := top0_le hm
  rcases (foldl_max l 0).2.2 with e | e
  · have e' : top0 l = 0 := e
    have := hp m hm
    omega
  · have := h _ e
    show l.foldl max 0 = m
    have h1' : m ≤ l.foldl max 0 := h1
    omega
theorem Kd.top {l : List Int} (k : Kd l) : top0 l = at0 l 0 := by
  cases l with
  | nil => rfl
  | cons x l =>
    rw [at0_zero]
    refine top0_of k.nn List.mem_cons_self fun y hy => ?_
    rcases List.mem_cons.mp hy with e | hy
    · omega
    · exact (List.pairwise_cons.mp k.fall).1 y hy
/-- how many of some numbers are greater than 0, than 1, and so on -/
def turned (l : List Int) : List Int := (List.range (top0 l).toNat).map fun i => (cnt l (i : Nat) : Int)
/-- more than j numbers are greater than i exactly if the j-th one is -/
theorem cnt_iff : ∀ {l : List Int} (_ : Kd l) (i : Nat) (j : Nat), j < cnt l (i : Int) ↔ (i : Int) < at0 l j
  | [], _, i, j => by
    rw [cnt_nil, at0_nil]
    omega
  | x :: l, k, i, j => by
    by_cases h : (i : Int) < x
    · rw [cnt_pos h]
      cases j with
      | zero =>
        rw [at0_zero]
        omega
      | succ j =>
        rw [at0_succ, ← cnt_iff k.tail i j]
        omega
    · have hall : ∀ y ∈ x :: l, y ≤ (i : Int) := fun y hy => by
        rcases List.mem_cons.mp hy with e | hy
        · omega
        · have := (List.pairwise_cons.mp k.fall).1 y hy
          omega
      rw [cnt_none hall]
      constructor
      · intro q; omega
      · intro q
        by_cases hj : j < (x :: l).length
        · have := hall _ (at0_mem hj)
          omega
        · rw [at0_out (by omega)] at q
          omega
theorem at0_map_range (f : Nat → Int) (n i : Nat) : at0 ((List.range n).map f) i = if i < n then f i else 0 := by
  show ((List.range n).map f).getD i 0 = _
  rw [List.getD_eq_getElem?_getD, List.getElem?_map]
  by_cases h : i < n
  · rw [if_pos h, List.getElem?_range h]
    rfl
  · rw [if_neg h, List.getElem?_eq_none (by rw [List.length_range]; omega)]
    rfl
theorem at0_turned {l : List Int} (k : Kd l) (i : Nat) : at0 (turned l) i = cnt l (i : Int) := by
  show at0 ((List.range (top0 l).toNat).map fun i => (cnt l (i : Nat) : Int)) i = _
  rw [at0_map_range]
  by_cases h : i < (top0 l).toNat
  · rw [if_pos h]
  · rw [if_neg h]
    have : cnt l (i : Int) = 0 := cnt_none fun x hx => by
      have := top0_le hx
      have := top0_nn l
      omega
    omega
/-- the j-th number is greater than i exactly if the i-th turned one is greater than j -/
theorem turned_iff {l : List Int} (k : Kd l) (i j : Nat) : (j : Int) < at0 (turned l) i ↔ (i : Int) < at0 l j := by
  rw [at0_turned k, ← cnt_iff k i j]
  omega
theorem turned_kd {l : List Int} (k : Kd l) : Kd (turned l) := by
  refine ⟨?_, fun x hx => ?_⟩
  · unfold turned
    show List.Pairwise _ _
    rw [List.pairwise_map]
    refine (List.pairwise_lt_range (n := (top0 l).toNat)).imp fun {a b} h => ?_
    rw [← at0_turned k, ← at0_turned k]
    by_cases q : at0 (turned l) b ≤ at0 (turned l) a
    · exact q
    · have e : at0 (turned l) a = cnt l (a : Int) := at0_turned k a
      have h1 := (turned_iff k b (cnt l (a : Int))).mp (by omega)
      have h2 := (turned_iff k a (cnt l (a : Int))).mpr (by omega)
      omega
  · unfold turned at hx
    obtain ⟨i, hi, rfl⟩ := List.mem_map.mp hx
    rw [List.mem_range, k.top] at hi
    have := (cnt_iff k i 0).mpr (by omega)
    omega
theorem turned_turned {l : List Int} (k : Kd l) : turned (turned l) = l := by
  have kt := turned_kd k
  refine Kd.ext (turned_kd kt) k fun j => ?_
  have h1 := (turned_kd kt).nonneg j
  have h2 := k.nonneg j
  have key : ∀ i : Nat, (i : Int) < at0 (turned (turned l)) j ↔ (i : Int) < at0 l j := fun i => by
    rw [turned_iff kt, turned_iff k]
  have a := key (at0 l j).toNat
  have b := key (at0 (turned (turned l)) j).toNat
  omega
theorem turned_inj {a b : List Int} (ka : Kd a) (kb : Kd b) (h : turned a = turned b) : a = b := by
  rw [← turned_turned ka, ← turned_turned kb, h]
/-- how many of the first N are below x -/
theorem sum_range_cnt (N : Nat) : ∀ {l : List Int}, (∀ x ∈ l, 0 ≤ x ∧ x ≤ N) → ((List.range N).map fun i => (cnt l (i : Nat) : Int)).sum = l.sum
  | [], _ => by
    have : ∀ n : Nat, ((List.range n).map fun i => (cnt [] (i : Nat) : Int)).sum = 0 := fun n => by
      induction n with
      | zero => rfl
      | succ n ih =>
        rw [List.range_succ, List.map_append, List.sum_append, ih]
        rfl
    exact this N
  | x :: l, h => by
    have ih := sum_range_cnt N (l := l) fun y hy => h y (List.mem_cons_of_mem _ hy)
    have hx := h x List.mem_cons_self
    have key : ∀ n : Nat, ((List.range n).map fun i => (cnt (x :: l) (i : Nat) : Int)).sum = ((List.range n).map fun i => (cnt l (i : Nat) : Int)).sum + min x n := fun n => by
      induction n with
      | zero =>
        show (0 : Int) = 0 + min x 0
        omega
      | succ n ihn =>
        rw [List.range_succ, List.map_append, List.sum_append, List.map_append, List.sum_append, ihn]
        simp only [List.map_cons, List.map_nil, List.sum_cons, List.sum_nil]
        by_cases q : (n : Int) < x
        · rw [cnt_pos q]
          omega
        · rw [cnt_neg q]
          omega
    rw [key, ih, List.sum_cons]
    omega
theorem turned_sum {l : List Int} (k : Kd l) : (turned l).sum = l.sum := by
  unfold turned
  refine sum_range_cnt _ fun x hx => ⟨k.nn x hx, ?_⟩
  have := top0_le hx
  have := top0_nn l
  omega
/-! ### holding, steps -/
/-- k holds o -/
def Hold (k o : List Int) : Prop := ∀ i, at0 o i ≤ at0 k i
theorem hold_turned {k o : List Int} (kk : Kd k) (ko : Kd o) (h : Hold k o) : Hold (turned k) (turned o) := fun i => by
  have h1 := (turned_kd ko).nonneg i
  have h2 := (turned_kd kk).nonneg i
  by_cases q : at0 (turned o) i ≤ at0 (turned k) i
  · exact q
  · have a := (turned_iff ko i (at0 (turned k) i).toNat).mp (by omega)
    have b := h (at0 (turned k) i).toNat
    have c := (turned_iff kk i (at0 (turned k) i).toNat).mpr (by omega)
    omega
/-- l comes from k by a line step -/
def Line (l k : List Int) : Prop := Hold l k ∧ ∀ i : Nat, at0 l (i + 1) ≤ at0 k i
theorem line_turned {l k : List Int} (kl : Kd l) (kk : Kd k) (h : Line l k) : Flat (turned l) (turned k) := fun j => by
  refine ⟨hold_turned kl kk h.1 j, ?_⟩
  have h1 := (turned_kd kk).nonneg j
  have h2 := (turned_kd kl).nonneg j
  by_cases q : at0 (turned l) j ≤ at0 (turned k) j + 1
  · exact q
  · have a := (turned_iff kl j ((at0 (turned k) j).toNat + 1)).mp (by omega)
    have b := h.2 (at0 (turned k) j).toNat
    have c := (turned_iff kk j (at0 (turned k) j).toNat).mpr (by omega)
    omega
theorem flat_turned {l k : List Int} (kl : Kd l) (kk : Kd k) (h : Flat l k) : Line (turned l) (turned k) := by
  refine ⟨hold_turned kl kk fun i => (h i).1, fun i => ?_⟩
  have h1 := (turned_kd kk).nonneg i
  have h2 := (turned_kd kl).nonneg (i + 1)
  by_cases q : at0 (turned l) (i + 1) ≤ at0 (turned k) i
  · exact q
  · have a := (turned_iff kl (i + 1) (at0 (turned k) i).toNat).mp (by omega)
    have b := (h (at0 (turned k) i).toNat).2
    have c := (turned_iff kk i (at0 (turned k) i).toNat).mpr (by omega)
    omega
/-- the kinds that come by a line step -/
def lineRows (k : List Int) (m : Nat) : List (List Int) := (flatRows (turned k) m).map turned
theorem lineRows_nodup {k : List Int} (hk : Kd k) (m : Nat) : (lineRows k m).Nodup := by
  unfold lineRows
  show List.Pairwise _ _
  rw [List.pairwise_map]
  refine List.Pairwise.imp_of_mem (fun {a b} ha hb hab e => ?_) (flatRows_nodup (turned_kd hk) m)
  exact hab (turned_inj ((mem_flatRows (turned_kd hk)).mp ha).1.1 ((mem_flatRows (turned_kd hk)).mp hb).1.1 e)
theorem mem_lineRows {k : List Int} (hk : Kd k) {m : Nat} {l : List Int} : l ∈ lineRows k m ↔ (Kd l ∧ l.sum = k.sum + m) ∧ Line l k := by
  have kt := turned_kd hk
  unfold lineRows
  rw [List.mem_map]
  constructor
  · rintro ⟨r, hr, rfl⟩
    obtain ⟨⟨kr, s⟩, f⟩ := (mem_flatRows kt).mp hr
    refine ⟨⟨turned_kd kr, ?_⟩, ?_⟩
    · rw [turned_sum kr, s, turned_sum hk]
    · have := flat_turned kr kt f
      rw [turned_turned hk] at this
      exact this
  · rintro ⟨⟨kl, s⟩, f⟩
    refine ⟨turned l, (mem_flatRows kt).mpr ⟨⟨turned_kd kl, ?_⟩, line_turned kl hk f⟩, turned_turned kl⟩
    rw [turned_sum kl, s, turned_sum hk]
/-! ### the tests, as the law reckons them -/
def holdsB (k o : List Int) : Bool := decide (o.length ≤ k.length) && (List.range o.length).all fun i => decide (at0 o i ≤ at0 k i)
def flatB (l k : List Int) : Bool := holdsB l k && (List.range l.length).all fun i => decide (at0 l i ≤ at0 k i + 1)
def lineB (l k : List Int) : Bool := holdsB l k && (List.range (l.length - 1)).all fun i => decide (at0 l (i + 1) ≤ at0 k i)
theorem holdsB_iff {k o : List Int} (kk : Kd k) (ko : Kd o) : holdsB k o = true ↔ Hold k o := by
  unfold holdsB
  rw [Bool.and_eq_true, decide_eq_true_iff, List.all_eq_true]
  constructor
  · rintro ⟨_, h⟩ i
    by_cases q : i < o.length
    · exact of_decide_eq_true (h i (List.mem_range.mpr q))
    · rw [at0_out (by omega)]
      exact kk.nonneg i
  · intro h
    refine ⟨?_, fun i _ => decide_eq_true (h i)⟩
    by_cases q : o.length ≤ k.length
    · exact q
    · have h1 := (ko.len_iff k.length).mp (by omega)
      have h2 := h k.length
      rw [at0_out (l := k) (Nat.le_refl _)] at h2
      omega
theorem flatB_iff {l k : List Int} (kl : Kd l) (kk : Kd k) : flatB l k = true ↔ Flat l k := by
  unfold flatB
  rw [Bool.and_eq_true, holdsB_iff kl kk, List.all_eq_true]
  constructor
  · rintro ⟨h, f⟩ i
    refine ⟨h i, ?_⟩
    by_cases q : i < l.length
    · exact of_decide_eq_true (f i (List.mem_range.mpr q))
    · rw [at0_out (l := l) (by omega)]
      have := kk.nonneg i
      omega
  · intro f
    exact ⟨fun i => (f i).1, fun i _ => decide_eq_true (f i).2⟩
theorem lineB_iff {l k : List Int} (kl : Kd l) (kk : Kd k) : lineB l k = true ↔ Line l k := by
  unfold lineB
  rw [Bool.and_eq_true, holdsB_iff kl kk, List.all_eq_true]
  constructor
  · rintro ⟨h, f⟩
    refine ⟨h, fun i => ?_⟩
    by_cases q : i < l.length - 1
    · exact of_decide_eq_true (f i (List.mem_range.mpr q))
    · rw [at0_out (l := l) (by omega)]
      exact kk.nonneg i
  · rintro ⟨h, f⟩
    exact ⟨h, fun i _ => decide_eq_true (f i)⟩
/-! ### the three answers of the first half -/
theorem flats_are {k : List Int} (hk : Kd k) {m n : Nat} (hn : k.sum + m = n) {fs : List (List Int)} (hs : fs.Pairwise (fun x y => kl y x = false)) (hp : fs.Perm (flatRows k m)) : fs = (kinds n).filter fun l => flatB l k := by
  refine is_filter hs (hp.nodup_iff.mpr (flatRows_nodup hk m)) fun x => ?_
  rw [hp.mem_iff, mem_flatRows hk, hn]
  constructor
  · rintro ⟨a, f⟩
    exact ⟨a, (flatB_iff a.1 hk).mpr f⟩
  · rintro ⟨a, f⟩
    exact ⟨a, (flatB_iff a.1 hk).mp f⟩
theorem lines_are {k : List Int} (hk : Kd k) {m n : Nat} (hn : k.sum + m = n) {fs : List (List Int)} (hs : fs.Pairwise (fun x y => kl y x = false)) (hp : fs.Perm (lineRows k m)) : fs = (kinds n).filter fun l => lineB l k := by
  refine is_filter hs (hp.nodup_iff.mpr (lineRows_nodup hk m)) fun x => ?_
  rw [hp.mem_iff, mem_lineRows hk, hn]
  constructor
  · rintro ⟨a, f⟩
    exact ⟨a, (lineB_iff a.1 hk).mpr f⟩
  · rintro ⟨a, f⟩
    exact ⟨a, (lineB_iff a.1 hk).mp f⟩
/-- the turned flat steps, sorted, are the line steps of the turned kind -/
theorem turned_are {k : List Int} (hk : Kd k) {m : Nat} {fs gs ls : List (List Int)} (hf : fs.Perm (flatRows k m)) (hgs : gs.Pairwise (fun x y => kl y x = false)) (hg : gs.Perm (fs.map turned))
    (hls : ls.Pairwise (fun x y => kl y x = false)) (hl : ls.Perm (lineRows (turned k) m)) : gs = ls := by
  refine kl_one hgs hls (hg.trans ((hf.map turned).trans ?_))
  have e : lineRows (turned k) m = (flatRows k m).map turned := by
    unfold lineRows
    rw [turned_turned hk]
  rw [← e]
  exact hl.symm
/-! ### opposites -/
def opp (k : List Int) (w : Nat) (h : Int) : List Int := wz ((List.range w).map fun i => h - at0 k (w - 1 - i))
structure InBlock (k : List Int) (w : Nat) (h : Int) : Prop where
  kd : Kd k
  wide : k.length ≤ w
  high : ∀ i, at0 k i ≤ h
theorem InBlock.nnh {k : List Int} {w : Nat} {h : Int} (b : InBlock k w h) : 0 ≤ h := by
  have := b.high k.length
  rw [at0_out (Nat.le_refl _)] at this
  exact this
def oppRow (k : List Int) (w : Nat) (h : Int) : List Int := (List.range w).map fun i => h - at0 k (w - 1 - i)
theorem oppRow_fall {k : List Int} {w : Nat} {h : Int} (b : InBlock k w h) : Fall (oppRow k w h) := by
  unfold oppRow
  show List.Pairwise _ _
  rw [List.pairwise_map]
  refine (List.pairwise_lt_range (n := w)).imp fun {i j} hij => ?_
  have := b.kd.le (i := w - 1 - j) (j := w - 1 - i) (by omega)
  omega
theorem oppRow_nn {k : List Int} {w : Nat} {h : Int} (b : InBlock k w h) : ∀ x ∈ oppRow k w h, 0 ≤ x := fun x hx => by
  unfold oppRow at hx
  obtain ⟨i, _, rfl⟩ := List.mem_map.mp hx
  have := b.high (w - 1 - i)
  omega
theorem at0_oppRow (k : List Int) (w : Nat) (h : Int) (i : Nat) : at0 (oppRow k w h) i = if i < w then h - at0 k (w - 1 - i) else 0 := by
  have hl : (oppRow k w h).length = w := by
    unfold oppRow
    rw [List.length_map, List.length_range]
  by_cases q : i < w
  · rw [if_pos q, at0_get (by omega)]
    unfold oppRow
    rw [List.getElem_map, List.getElem_range]
  · rw [if_neg q]
    exact at0_out (by omega)
theorem at0_opp {k : List Int} {w : Nat} {h : Int} (b : InBlock k w h) (i : Nat) : at0 (opp k w h) i = if i < w then h - at0 k (w - 1 - i) else 0 := by
  rw [← at0_oppRow]
  exact at0_wz (oppRow_fall b) (oppRow_nn b) i
theorem opp_kd {k : List Int} {w : Nat} {h : Int} (b : InBlock k w h) : Kd (opp k w h) := wz_kd (oppRow_fall b)
theorem opp_block {k : List Int} {w : Nat} {h : Int} (b : InBlock k w h) : InBlock (opp k w h) w h := by
  refine ⟨opp_kd b, ?_, fun i => ?_⟩
  · have : (opp k w h).length ≤ (oppRow k w h).length := List.length_filter_le _ _
    have hl : (oppRow k w h).length = w := by
      unfold oppRow
      rw [List.length_map, List.length_range]
    omega
  · rw [at0_opp b]
    have h1 := b.kd.nonneg (w - 1 - i)
    have h2 := b.nnh
    split <;> omega
theorem opp_opp {k : List Int} {w : Nat} {h : Int} (b : InBlock k w h) : opp (opp k w h) w h = k := by
  refine Kd.ext (opp_kd (opp_block b)) b.kd fun i => ?_
  rw [at0_opp (opp_block b)]
  by_cases q : i < w
  · rw [if_pos q, at0_opp b, if_pos (by omega), show w - 1 - (w - 1 - i) = i by omega]
    omega
  · rw [if_neg q]
    exact (at0_out (by have := b.wide; omega)).symm
theorem sum_rev_at0 : ∀ (w : Nat) (k : List Int) (h : Int), k.length ≤ w → ((List.range w).map fun i => h - at0 k (w - 1 - i)).sum = w * h - k.sum
  | 0, k, h, hk => by
    have e : k = [] := List.length_eq_zero_iff.mp (by omega)
    subst e
    simp
  | w + 1, k, h, hk => by
    have e1 : (List.range (w + 1)).map (fun i => h - at0 k (w + 1 - 1 - i)) = (List.range w).map (fun i => h - at0 k.tail (w - 1 - i)) ++ [h - at0 k 0] := by
      rw [List.range_succ, List.map_append]
      congr 1
      · refine List.map_congr_left fun i hi => ?_
        have hi' := List.mem_range.mp hi
        cases k with
        | nil =>
          rw [List.tail_nil, at0_nil, at0_nil]
        | cons x k =>
          rw [List.tail_cons, show w + 1 - 1 - i = (w - 1 - i) + 1 by omega, at0_succ]
      · show [h - at0 k (w + 1 - 1 - w)] = _
        rw [show w + 1 - 1 - w = 0 by omega]
    rw [e1, List.sum_append, sum_rev_at0 w k.tail h (by rw [List.length_tail]; omega)]
    have e2 : k.sum = at0 k 0 + k.tail.sum := by
      cases k with
      | nil => rfl
      | cons x k => rw [List.sum_cons, at0_zero, List.tail_cons]
    have e3 : ((w + 1 : Nat) : Int) * h = w * h + h := by
      rw [Int.natCast_add, Int.add_mul]
      omega
    rw [e3, e2]
    simp only [List.sum_cons, List.sum_nil]
    omega
theorem opp_sum {k : List Int} {w : Nat} {h : Int} (b : InBlock k w h) : (opp k w h).sum = w * h - k.sum := by
  show (wz (oppRow k w h)).sum = _
  rw [wz_sum (oppRow_nn b)]
  exact sum_rev_at0 w k h b.wide
/-- what a kind holds has the greater opposite -/
theorem opp_hold {k o : List Int} {w : Nat} {h : Int} (b : InBlock k w h) (c : InBlock o w h) (q : Hold k o) : Hold (opp o w h) (opp k w h) := fun i => by
  rw [at0_opp b, at0_opp c]
  have := q (w - 1 - i)
  split <;> omega
theorem InBlock.lesser {k o : List Int} {w : Nat} {h : Int} (b : InBlock k w h) (ko : Kd o) (q : Hold k o) : InBlock o w h := by
  refine ⟨ko, ?_, fun i => ?_⟩
  · have hh := (holdsB_iff b.kd ko).mpr q
    unfold holdsB at hh
    rw [Bool.and_eq_true] at hh
    have := of_decide_eq_true hh.1
    have := b.wide
    omega
  · have := q i
    have := b.high i
    omega
theorem holdsB_self (k : List Int) : holdsB k k = true := by
  unfold holdsB
  rw [Bool.and_eq_true, decide_eq_true_iff, List.all_eq_true]
  exact ⟨Nat.le_refl _, fun i _ => decide_eq_true (Int.le_refl _)⟩
end Pk
end
section -- PkSort
set_option maxRecDepth 100000
set_option maxHeartbeats 4000000
/-! The sort of fewer than 64 things, as a tree of questions: answered by a strict weak order it ends in order. -/
namespace PkS
open PySem PySem.W PyProof.Rows SrtO

/-- the tree answered by lt; all questions are about places below n -/
def Go {α : Type} (n : Nat) (lt : Nat → Nat → Bool) : KasT α → (α → Prop) → Prop
  | .ret a, Q => Q a
  | .ask i j k, Q => i < n ∧ j < n ∧ Go n lt (k (lt i j)) Q
section
variable {α β : Type} {n : Nat} {lt : Nat → Nat → Bool}
theorem Go.bind {f : α → KasT β} {Q : β → Prop} : ∀ {t : KasT α}, Go n lt t (fun a => Go n lt (f a) Q) → Go n lt (t.bind f) Q
  | .ret _, h => h
  | .ask i j k, h => ⟨h.1, h.2.1, Go.bind h.2.2⟩
theorem Go.mono {Q Q' : α → Prop} (hq : ∀ a, Q a → Q' a) : ∀ {t : KasT α}, Go n lt t Q → Go n lt t Q'
  | .ret _, h => hq _ h
  | .ask i j k, h => ⟨h.1, h.2.1, Go.mono hq h.2.2⟩
/-- from the tree to the walk: P is kept by each question -/
theorem Go.wp {cmp : Nat → Nat → (Bool → Shared → Prop) → Shared → Prop} {P : Shared → Prop} {Q : α → Shared → Prop} (hc : ∀ i j C s, i < n → j < n → P s → (∀ s', P s' → C (lt i j) s') → cmp i j C s) :
    ∀ {t : KasT α} {R : α → Prop} {s : Shared}, Go n lt t R → P s → (∀ a s', R a → P s' → Q a s') → t.kasWp cmp Q s
  | .ret a, R, s, h, hp, q => q a s h hp
  | .ask i j k, R, s, h, hp, q => hc i j _ s h.1 h.2.1 hp fun s' hp' => Go.wp hc h.2.2 hp' q
end
section
variable {n : Nat} {lt : Nat → Nat → Bool} {p : Array Nat}
/-- the first m stand in order; in the opposite order -/
def Up (lt : Nat → Nat → Bool) (p : Array Nat) (m : Nat) : Prop := (p.toList.take m).Pairwise fun x y => lt y x = false
def Dn (lt : Nat → Nat → Bool) (p : Array Nat) (m : Nat) : Prop := (p.toList.take m).Pairwise fun x y => lt x y = false
/-- a rearrangement of the places below n -/
def Pm (n : Nat) (p : Array Nat) : Prop := p.toList.Perm (List.range n)
theorem Pm.size (h : Pm n p) : p.size = n := by
  have := h.length_eq
  rw [Array.length_toList, List.length_range] at this
  exact this
theorem getD_at {m : Nat} (h : m < p.size) : p.toList[m]? = some (p.getD m 0) := by
  rw [Array.getElem?_toList]
  simp [Array.getD, h]
theorem Pm.below (h : Pm n p) (h0 : 0 < n) (m : Nat) : p.getD m 0 < n := by
  by_cases q : m < p.size
  · have e := getD_at q
    have hm : p.getD m 0 ∈ p.toList := List.mem_of_getElem? e
    exact List.mem_range.mp (h.mem_iff.mp hm)
  · have : p.getD m 0 = 0 := by simp [Array.getD, q]
    rw [this]
    exact h0
theorem tk1 {m : Nat} (h : m < p.size) : p.toList.take (m + 1) = p.toList.take m ++ [p.getD m 0] := by
  rw [List.take_add_one, getD_at h]
  rfl
theorem tkl {m : Nat} (h1 : 1 ≤ m) (h : m ≤ p.size) : p.toList.take m = p.toList.take (m - 1) ++ [p.getD (m - 1) 0] := by
  have := tk1 (p := p) (m := m - 1) (by omega)
  rw [show m - 1 + 1 = m by omega] at this
  exact this
theorem Up.step (O : Swo lt) {m : Nat} (h : Up lt p m) (h1 : 1 ≤ m) (hm : m < p.size) (q : lt (p.getD m 0) (p.getD (m - 1) 0) = false) : Up lt p (m + 1) := by
  unfold Up at h ⊢
  rw [tk1 hm, List.pairwise_append]
  refine ⟨h, List.pairwise_singleton _ _, fun a ha b hb => ?_⟩
  rw [List.mem_singleton.mp hb]
  rw [tkl h1 (by omega)] at h ha
  rcases List.mem_append.mp ha with ha | ha
  · exact O.tr a _ _ ((List.pairwise_append.mp h).2.2 a ha _ (List.mem_singleton.mpr rfl)) q
  · rw [List.mem_singleton.mp ha]
    exact q
theorem Dn.last {m : Nat} (h : Dn lt p m) (O : Swo lt) (h1 : 1 ≤ m) (hm : m ≤ p.size) : ∀ a ∈ p.toList.take m, lt a (p.getD (m - 1) 0) = false := fun a ha => by
  unfold Dn at h
  rw [tkl h1 hm] at h ha
  rcases List.mem_append.mp ha with ha | ha
  · exact (List.pairwise_append.mp h).2.2 a ha _ (List.mem_singleton.mpr rfl)
  · rw [List.mem_singleton.mp ha]
    exact O.refl _
theorem Dn.step (O : Swo lt) {m : Nat} (h : Dn lt p m) (h1 : 1 ≤ m) (hm : m < p.size) (q : lt (p.getD (m - 1) 0) (p.getD m 0) = false) : Dn lt p (m + 1) := by
  have hl := h.last O h1 (by omega)
  unfold Dn at h ⊢
  rw [tk1 hm, List.pairwise_append]
  refine ⟨h, List.pairwise_singleton _ _, fun a ha b hb => ?_⟩
  rw [List.mem_singleton.mp hb]
  exact O.tr _ _ a q (hl a ha)
/-- the last c of the first m are alike -/
def Eqs (lt : Nat → Nat → Bool) (p : Array Nat) (m c : Nat) : Prop := ∃ A M, p.toList.take m = A ++ M ∧ M.length = c ∧ ∀ x ∈ M, ∀ y ∈ M, lt x y = false
theorem Eqs.one (O : Swo lt) {m : Nat} (h1 : 1 ≤ m) (hm : m ≤ p.size) : Eqs lt p m 1 := ⟨_, _, tkl h1 hm, rfl, fun x hx y hy => by
  rw [List.mem_singleton.mp hx, List.mem_singleton.mp hy]
  exact O.refl _⟩
theorem Eqs.more (O : Swo lt) {m c : Nat} (h : Eqs lt p m c) (hc : 1 ≤ c) (h1 : 1 ≤ m) (hm : m < p.size) (q1 : lt (p.getD m 0) (p.getD (m - 1) 0) = false) (q2 : lt (p.getD (m - 1) 0) (p.getD m 0) = false) : Eqs lt p (m + 1) (c + 1) := by
  obtain ⟨A, M, e, hl, hM⟩ := h
  have hin : p.getD (m - 1) 0 ∈ M := by
    have hne : M ≠ [] := by
      intro z
      rw [z] at hl
      simp at hl
      omega
    have e2 := tkl (p := p) h1 (by omega)
    rw [e, ← List.dropLast_concat_getLast hne, ← List.append_assoc] at e2
    have := List.append_inj_right' e2 rfl
    have e3 : M.getLast hne = p.getD (m - 1) 0 := by simpa using this
    rw [← e3]
    exact List.getLast_mem hne
  refine ⟨A, M ++ [p.getD m 0], by rw [tk1 hm, e, List.append_assoc], by rw [List.length_append, hl]; rfl, fun x hx y hy => ?_⟩
  rcases List.mem_append.mp hx with hx | hx
  · rcases List.mem_append.mp hy with hy | hy
    · exact hM x hx y hy
    · rw [List.mem_singleton.mp hy]
      exact O.tr _ _ x q2 (hM x hx _ hin)
  · rw [List.mem_singleton.mp hx]
    rcases List.mem_append.mp hy with hy | hy
    · exact O.tr y _ _ (hM _ hin y hy) q1
    · rw [List.mem_singleton.mp hy]
      exact O.refl _
theorem rev_perm (i j : Nat) : (kas_rev p i j).toList.Perm p.toList := Array.perm_iff_toList_perm.mp (mirror_perm _ _ _ _)
theorem Pm.rev (h : Pm n p) (i j : Nat) : Pm n (kas_rev p i j) := (rev_perm i j).trans h
/-- the last c of the first m turned round -/
theorem rev_list {m c : Nat} {A M : List Nat} (hm : m ≤ p.size) (e : p.toList.take m = A ++ M) (hc : M.length = c) : (kas_rev p (m - c) m).toList = A ++ (M.reverse ++ p.toList.drop m) := by
  have hl : (p.toList.take m).length = m := by rw [List.length_take, Array.length_toList]; omega
  rw [e, List.length_append] at hl
  refine mirror_list (A := A) (M := M) (B := p.toList.drop m) ?_ (by omega) (by omega)
  rw [← List.append_assoc, ← e, List.take_append_drop]
theorem pw_rev {R : Nat → Nat → Prop} {A M B : List Nat} (h : (A ++ (M ++ B)).Pairwise R) (hM : ∀ x ∈ M, ∀ y ∈ M, R x y) : (A ++ (M.reverse ++ B)).Pairwise R := by
  obtain ⟨a1, a2, a3⟩ := List.pairwise_append.mp h
  obtain ⟨b1, b2, b3⟩ := List.pairwise_append.mp a2
  refine List.pairwise_append.mpr ⟨a1, List.pairwise_append.mpr ⟨?_, b2, fun x hx y hy => b3 x (List.mem_reverse.mp hx) y hy⟩, fun x hx y hy => ?_⟩
  · refine List.pairwise_reverse.mpr (b1.imp_of_mem fun {x y} hx hy _ => hM y hy x hx)
  · refine a3 x hx y ?_
    rcases List.mem_append.mp hy with hy | hy
    · exact List.mem_append_left _ (List.mem_reverse.mp hy)
    · exact List.mem_append_right _ hy
/-- the alike ones turned round: the opposite order stays -/
theorem Dn.rev {m m' c : Nat} (h : Dn lt p m') (hm : m ≤ m') (hs : m' ≤ p.size) (e : Eqs lt p m c) : Dn lt (kas_rev p (m - c) m) m' := by
  obtain ⟨A, M, e, hl, hM⟩ := e
  have hlen : (p.toList.take m).length = m := by rw [List.length_take, Array.length_toList]; omega
  have hlen' := hlen
  rw [e, List.length_append] at hlen
  have er := rev_list (by omega) e hl
  have e2 : p.toList.take m' = A ++ (M ++ (p.toList.drop m).take (m' - m)) := by
    rw [← List.append_assoc, ← e]
    have h2 : p.toList.take m' = (p.toList.take m ++ p.toList.drop m).take m' := by rw [List.take_append_drop]
    rw [h2, List.take_append, List.take_of_length_le (by rw [hlen']; exact hm), hlen']
  unfold Dn at h ⊢
  rw [e2] at h
  have e3 : (kas_rev p (m - c) m).toList.take m' = A ++ (M.reverse ++ (p.toList.drop m).take (m' - m)) := by
    rw [er, ← List.append_assoc, List.take_append, List.take_of_length_le (by rw [List.length_append, List.length_reverse]; omega), List.length_append, List.length_reverse, hlen, List.append_assoc]
  rw [e3]
  exact pw_rev h hM
/-- all of the first m turned round -/
theorem Dn.up {m : Nat} (h : Dn lt p m) (hm : m ≤ p.size) : Up lt (kas_rev p 0 m) m := by
  have hl : (p.toList.take m).length = m := by rw [List.length_take, Array.length_toList]; omega
  have er := rev_list (p := p) (m := m) (c := m) (A := []) (M := p.toList.take m) hm rfl hl
  rw [Nat.sub_self, List.nil_append] at er
  unfold Up
  rw [er, List.take_append, List.take_of_length_le (by rw [List.length_reverse, hl]; exact Nat.le_refl _), List.length_reverse, hl, Nat.sub_self, List.take_zero, List.append_nil]
  exact List.pairwise_reverse.mpr h
/-- behind the first run -/
theorem go_asc (O : Swo lt) (h0 : 0 < n) (pm : Pm n p) {Q : Nat → Prop} : ∀ (f m : Nat), 1 ≤ m → m + f ≤ p.size → Up lt p m → (∀ m', m ≤ m' → m' ≤ m + f → Up lt p m' → (m' = m + f ∨ lt (p.getD m' 0) (p.getD (m' - 1) 0) = true) → Q m') → Go n lt (kas_asc p f m) Q
  | 0, m, _, _, u, q => q m (Nat.le_refl _) (Nat.le_refl _) u (.inl rfl)
  | f + 1, m, h1, hs, u, q => by
    refine ⟨pm.below h0 _, pm.below h0 _, ?_⟩
    cases e : lt (p.getD m 0) (p.getD (m - 1) 0) with
    | true =>
      dsimp only
      rw [if_pos rfl]
      exact q m (Nat.le_refl _) (by omega) u (.inr e)
    | false =>
      dsimp only
      rw [if_neg Bool.false_ne_true]
      refine go_asc O h0 pm f (m + 1) (by omega) (by omega) (u.step O h1 (by omega) e) fun m' a b c d => q m' (by omega) (by omega) c ?_
      rcases d with d | d
      · exact .inl (by omega)
      · exact .inr d
theorem go_desc (O : Swo lt) (h0 : 0 < n) {Q : Array Nat × Nat × Nat → Prop} : ∀ (f : Nat) (p : Array Nat) (m c : Nat), Pm n p → 1 ≤ m → m + f ≤ p.size → Dn lt p m → Eqs lt p m (c + 1) →
    (∀ p' m' c', Pm n p' → m ≤ m' → m' ≤ m + f → Dn lt p' m' → Eqs lt p' m' (c' + 1) → Q (p', m', c')) → Go n lt (kas_desc f p m c) Q
  | 0, p, m, c, pm, _, _, d, e, q => q p m c pm (Nat.le_refl _) (Nat.le_refl _) d e
  | f + 1, p, m, c, pm, h1, hs, d, e, q => by
    refine ⟨pm.below h0 _, pm.below h0 _, ?_⟩
    cases a : lt (p.getD m 0) (p.getD (m - 1) 0) with
    | true =>
      dsimp only
      rw [if_pos rfl]
      have d1 : Dn lt p (m + 1) := d.step O h1 (by omega) (O.asym _ _ a)
      by_cases hc : c > 0
      · rw [if_pos hc]
        have d2 : Dn lt (kas_rev p (m - (c + 1)) m) (m + 1) := d1.rev (by omega) (by omega) e
        have pm2 : Pm n (kas_rev p (m - (c + 1)) m) := pm.rev _ _
        have sz : (kas_rev p (m - (c + 1)) m).size = p.size := by rw [pm2.size, pm.size]
        exact go_desc O h0 f _ (m + 1) 0 pm2 (by omega) (by omega) d2 (Eqs.one O (by omega) (by omega)) fun p' m' c' x1 x2 x3 x4 x5 => q p' m' c' x1 (by omega) (by omega) x4 x5
      · rw [if_neg hc]
        exact go_desc O h0 f p (m + 1) 0 pm (by omega) (by omega) d1 (Eqs.one O (by omega) (by omega)) fun p' m' c' x1 x2 x3 x4 x5 => q p' m' c' x1 (by omega) (by omega) x4 x5
    | false =>
      dsimp only
      rw [if_neg Bool.false_ne_true]
      refine ⟨pm.below h0 _, pm.below h0 _, ?_⟩
      cases b : lt (p.getD (m - 1) 0) (p.getD m 0) with
      | true =>
        dsimp only
        rw [if_pos rfl]
        exact q p m c pm (Nat.le_refl _) (by omega) d e
      | false =>
        dsimp only
        rw [if_neg Bool.false_ne_true]
        exact go_desc O h0 f p (m + 1) (c + 1) pm (by omega) (by omega) (d.step O h1 (by omega) b) (e.more O (by omega) h1 (by omega) a b) fun p' m' c' x1 x2 x3 x4 x5 => q p' m' c' x1 (by omega) (by omega) x4 x5
/-- what the count of the first run leaves -/
def Run (n : Nat) (lt : Nat → Nat → Bool) (r : Nat × Array Nat) : Prop := Pm n r.2 ∧ 1 ≤ r.1 ∧ r.1 ≤ n ∧ Up lt r.2 r.1
theorem go_tail3 (O : Swo lt) (h0 : 0 < n) {m : Nat} (pm : Pm n p) (h1 : 1 ≤ m) (hm : m ≤ n) (d : Dn lt p m) : Go n lt (kas_tail3 m n p) (Run n lt) := by
  have pm2 := pm.rev 0 m
  unfold kas_tail3
  refine Go.bind (go_asc O h0 pm2 (n - m) m h1 (by rw [pm2.size]; omega) (d.up (by rw [pm.size]; exact hm)) fun m' a b c _ => ?_)
  exact ⟨pm2, by show 1 ≤ m'; omega, by show m' ≤ n; omega, c⟩
theorem go_descPart (O : Swo lt) (h0 : 0 < n) {m : Nat} (pm : Pm n p) (hm : m + 1 ≤ n) (d : Dn lt p (m + 1)) : Go n lt (kas_descPart m n p) (Run n lt) := by
  unfold kas_descPart
  refine Go.bind (go_desc O h0 (n - (m + 1)) p (m + 1) 0 pm (by omega) (by rw [pm.size]; omega) d (Eqs.one O (by omega) (by rw [pm.size]; omega)) fun p' m' c' x1 x2 x3 x4 x5 => ?_)
  have x3' : m' ≤ n := by omega
  have x2' : 1 ≤ m' := by omega
  show Go n lt (if c' > 0 then _ else _) _
  by_cases hc : c' > 0
  · rw [if_pos hc]
    have d2 : Dn lt (kas_rev p' (m' - (c' + 1)) m') m' := x4.rev (Nat.le_refl _) (by rw [x1.size]; omega) x5
    exact go_tail3 O h0 (x1.rev _ _) x2' x3' d2
  · rw [if_neg hc]
    exact go_tail3 O h0 x1 x2' x3' x4
theorem go_count (O : Swo lt) (h0 : 0 < n) (pm : Pm n p) : Go n lt (kas_count n p) (Run n lt) := by
  unfold kas_count
  have u1 : Up lt p 1 := by
    unfold Up
    rw [tk1 (m := 0) (by rw [pm.size]; exact h0), List.take_zero, List.nil_append]
    exact List.pairwise_singleton _ _
  refine Go.bind (go_asc O h0 pm (n - 1) 1 (Nat.le_refl _) (by rw [pm.size]; omega) u1 fun m a b c d => ?_)
  have hmn : m ≤ n := by omega
  show Go n lt (if (m == n) = true then _ else _) _
  by_cases e : m = n
  · rw [if_pos (by rw [e]; exact beq_self_eq_true n)]
    exact ⟨pm, a, hmn, c⟩
  · rw [if_neg (by simpa using e)]
    have hlt : lt (p.getD m 0) (p.getD (m - 1) 0) = true := by
      rcases d with d | d
      · omega
      · exact d
    -- the first m, all alike, turned round; then the next one, which is below them
    have key : (∀ x ∈ p.toList.take m, ∀ y ∈ p.toList.take m, lt x y = false) → Go n lt (kas_descPart m n (kas_rev p 0 m)) (Run n lt) := fun al => by
      have hl : (p.toList.take m).length = m := by rw [List.length_take, Array.length_toList, pm.size]; omega
      have hE : Eqs lt p m m := ⟨[], p.toList.take m, rfl, hl, al⟩
      have hD : Dn lt p m := by
        unfold Dn
        exact List.pairwise_iff_forall_sublist.mpr fun {x y} hs => al x (hs.subset (by simp)) y (hs.subset (by simp))
      have d1 : Dn lt p (m + 1) := hD.step O a (by rw [pm.size]; omega) (O.asym _ _ hlt)
      have d2 := d1.rev (m := m) (by omega) (by rw [pm.size]; omega) hE
      rw [Nat.sub_self] at d2
      exact go_descPart O h0 (pm.rev 0 m) (by omega) d2
    by_cases h1 : m > 1
    · rw [if_pos h1]
      refine ⟨pm.below h0 _, pm.below h0 _, ?_⟩
      cases q : lt (p.getD 0 0) (p.getD (m - 1) 0) with
      | true =>
        dsimp only
        rw [if_pos rfl]
        exact ⟨pm, a, hmn, c⟩
      | false =>
        dsimp only
        rw [if_neg Bool.false_ne_true]
        refine key ?_
        -- the first is not below the last: all are alike
        have hz : p.toList.take m = p.getD 0 0 :: (p.toList.take m).tail := by
          have e0 : (p.toList.take m)[0]? = some (p.getD 0 0) := by
            rw [List.getElem?_take_of_lt (by omega)]
            exact getD_at (by rw [pm.size]; omega)
          cases ht : p.toList.take m with
          | nil =>
            rw [ht] at e0
            cases e0
          | cons x l =>
            rw [ht] at e0
            have : x = p.getD 0 0 := Option.some.inj e0
            rw [this]
            rfl
        have first : ∀ y ∈ p.toList.take m, lt y (p.getD 0 0) = false := fun y hy => by
          unfold Up at c
          rw [hz] at c hy
          rcases List.mem_cons.mp hy with e | hy
          · rw [e]
            exact O.refl _
          · exact (List.pairwise_cons.mp c).1 y hy
        have last : ∀ x ∈ p.toList.take m, lt (p.getD (m - 1) 0) x = false := fun x hx => by
          unfold Up at c
          rw [tkl a (by rw [pm.size]; omega)] at c hx
          rcases List.mem_append.mp hx with hx | hx
          · exact (List.pairwise_append.mp c).2.2 x hx _ (List.mem_singleton.mpr rfl)
          · rw [List.mem_singleton.mp hx]
            exact O.refl _
        intro x hx y hy
        -- x ≤ last ≤ first ≤ y would be lt y x; want lt x y = false: first is the least, last the greatest, first is not below last
        exact O.tr y _ x (O.tr y _ _ (last y hy) q) (first x hx)
    · rw [if_neg h1]
      have em : m = 1 := by omega
      have hD : Dn lt p m := by
        unfold Dn
        rw [em, tk1 (m := 0) (by rw [pm.size]; exact h0), List.take_zero, List.nil_append]
        exact List.pairwise_singleton _ _
      exact go_descPart O h0 pm (by omega) (hD.step O a (by rw [pm.size]; omega) (O.asym _ _ hlt))
theorem go_place (O : Swo lt) (h0 : 0 < n) (pm : Pm n p) {k : Nat} (hk : k < p.size) (u : Up lt p k) {Q : Nat → Prop} : ∀ (f l r : Nat), l ≤ r → r ≤ k → r - l ≤ f → (∀ i, i < l → lt (p.getD k 0) (p.getD i 0) = false) → (∀ i, r ≤ i → i < k → lt (p.getD k 0) (p.getD i 0) = true) →
    (∀ l, l ≤ k → (∀ i, i < l → lt (p.getD k 0) (p.getD i 0) = false) → (∀ i, l ≤ i → i < k → lt (p.getD k 0) (p.getD i 0) = true) → Q l) → Go n lt (kas_place p k f l r) Q
  | 0, l, r, h1, h2, h3, a, b, q => by
    have e : l = r := by omega
    exact q l (by omega) a (by rw [e]; exact b)
  | f + 1, l, r, h1, h2, h3, a, b, q => by
    unfold kas_place
    by_cases e : l ≥ r
    · rw [if_pos e]
      have e' : l = r := by omega
      exact q l (by omega) a (by rw [e']; exact b)
    · rw [if_neg e]
      have hmk : (l + r) / 2 < k := by omega
      have asc : ∀ i j, i < j → j < k → lt (p.getD j 0) (p.getD i 0) = false := fun i j hij hj => by
        unfold Up at u
        have g : ∀ t, t < k → (p.toList.take k)[t]? = some (p.getD t 0) := fun t ht => by
          rw [List.getElem?_take_of_lt ht]
          exact getD_at (by omega)
        have hl : (p.toList.take k).length = k := by rw [List.length_take, Array.length_toList]; omega
        have := List.pairwise_iff_getElem.mp u i j (by omega) (by omega) hij
        have e1 := g i (by omega)
        have e2 := g j hj
        rw [List.getElem?_eq_getElem (by omega)] at e1 e2
        rw [Option.some.inj e1, Option.some.inj e2] at this
        exact this
      refine ⟨pm.below h0 _, pm.below h0 _, ?_⟩
      cases c : lt (p.getD k 0) (p.getD ((l + r) / 2) 0) with
      | true =>
        dsimp only
        rw [if_pos rfl]
        refine go_place O h0 pm hk u f l ((l + r) / 2) (by omega) (by omega) (by omega) a (fun i hi hik => ?_) q
        by_cases ei : i = (l + r) / 2
        · rw [ei]
          exact c
        · exact O.ltle c (asc _ i (by omega) hik)
      | false =>
        dsimp only
        rw [if_neg Bool.false_ne_true]
        refine go_place O h0 pm hk u f ((l + r) / 2 + 1) r (by omega) h2 (by omega) (fun i hi => ?_) b q
        by_cases ei : i = (l + r) / 2
        · rw [ei]
          exact c
        · exact O.tr _ _ _ (asc i _ (by omega) hmk) c
theorem go_bin (O : Swo lt) (h0 : 0 < n) : ∀ (f : Nat) (p : Array Nat) (k : Nat), Pm n p → 1 ≤ k → k + f = n → Up lt p k → Go n lt (kas_bin f p k) (fun p' => Pm n p' ∧ Up lt p' n)
  | 0, p, k, pm, _, e, u => by
    refine ⟨pm, ?_⟩
    rw [← e]
    exact u
  | f + 1, p, k, pm, h1, e, u => by
    have hk : k < p.size := by rw [pm.size]; omega
    unfold kas_bin
    refine Go.bind (go_place O h0 pm hk u k 0 k (Nat.zero_le _) (Nat.le_refl _) (by omega) (fun i hi => absurd hi (by omega)) (fun i h1 h2 => absurd h1 (by omega)) fun l hl a b => ?_)
    have hlen : (p.toList.take k).length = k := by rw [List.length_take, Array.length_toList]; omega
    have e0 : p.toList = (p.toList.take k).take l ++ ((p.toList.take k).drop l ++ p.getD k 0 :: p.toList.drop (k + 1)) := by
      rw [← List.append_assoc, List.take_append_drop]
      have h2 : p.toList = p.toList.take (k + 1) ++ p.toList.drop (k + 1) := (List.take_append_drop _ _).symm
      rw [tk1 hk, List.append_assoc] at h2
      exact h2
    have hA : ((p.toList.take k).take l).length = l := by rw [List.length_take, hlen]; omega
    have hM : ((p.toList.take k).drop l).length = k - l := by rw [List.length_drop, hlen]
    have eb := bubble_list (src := k) (dst := l) e0 hA.symm (by rw [hA, hM]; omega)
    have pm2 : Pm n (bubble p k (k - l)) := (Array.perm_iff_toList_perm.mp (bubble_perm _ _ _)).trans pm
    refine go_bin O h0 f _ (k + 1) pm2 (by omega) (by omega) ?_
    unfold Up at u ⊢
    rw [eb]
    have et : ((p.toList.take k).take l ++ p.getD k 0 :: ((p.toList.take k).drop l ++ p.toList.drop (k + 1))).take (k + 1) = (p.toList.take k).take l ++ p.getD k 0 :: (p.toList.take k).drop l := by
      have hz : ((p.toList.take k).take l ++ p.getD k 0 :: (p.toList.take k).drop l).length = k + 1 := by
        rw [List.length_append, List.length_cons, hA, hM]
        omega
      have e3 : (p.toList.take k).take l ++ p.getD k 0 :: ((p.toList.take k).drop l ++ p.toList.drop (k + 1)) = ((p.toList.take k).take l ++ p.getD k 0 :: (p.toList.take k).drop l) ++ p.toList.drop (k + 1) := by
        rw [List.append_assoc, List.cons_append]
      rw [e3, List.take_append, hz, Nat.sub_self, List.take_zero, List.append_nil, List.take_of_length_le (by rw [hz]; exact Nat.le_refl _)]
    rw [et]
    have g : ∀ t, t < k → (p.toList.take k)[t]? = some (p.getD t 0) := fun t ht => by
      rw [List.getElem?_take_of_lt ht]
      exact getD_at (by omega)
    have inA : ∀ x ∈ (p.toList.take k).take l, lt (p.getD k 0) x = false := fun x hx => by
      obtain ⟨i, hi, ei⟩ := List.mem_iff_getElem.mp hx
      have hil : i < l := by omega
      have := g i (by omega)
      rw [List.getElem?_eq_getElem (by omega)] at this
      rw [List.getElem_take] at ei
      rw [← ei, Option.some.inj this]
      exact a i hil
    have inM : ∀ x ∈ (p.toList.take k).drop l, lt (p.getD k 0) x = true := fun x hx => by
      obtain ⟨i, hi, ei⟩ := List.mem_iff_getElem.mp hx
      have := g (l + i) (by omega)
      rw [List.getElem?_eq_getElem (by omega)] at this
      rw [List.getElem_drop] at ei
      rw [← ei, Option.some.inj this]
      exact b (l + i) (by omega) (by omega)
    rw [← List.take_append_drop l (p.toList.take k)] at u
    obtain ⟨u1, u2, u3⟩ := List.pairwise_append.mp u
    refine List.pairwise_append.mpr ⟨u1, List.pairwise_cons.mpr ⟨fun y hy => O.asym _ _ (inM y hy), u2⟩, fun x hx y hy => ?_⟩
    rcases List.mem_cons.mp hy with ey | hy
    · rw [ey]
      exact inA x hx
    · exact u3 x hx y hy
/-- the whole sort of n things -/
theorem go_sort (O : Swo lt) (h0 : 0 < n) : Go n lt (kas_sort n) (fun p => Pm n p ∧ p.toList.Pairwise (fun x y => lt y x = false)) := by
  unfold kas_sort
  have pm : Pm n (List.toArray (List.range n)) := List.Perm.refl _
  have fin : ∀ p : Array Nat, Pm n p → Up lt p n → Pm n p ∧ p.toList.Pairwise (fun x y => lt y x = false) := fun p pm u => by
    refine ⟨pm, ?_⟩
    unfold Up at u
    rw [List.take_of_length_le (by rw [Array.length_toList, pm.size]; exact Nat.le_refl _)] at u
    exact u
  refine Go.bind (Go.mono (fun r hr => ?_) (go_count O h0 pm))
  obtain ⟨pm2, h1, h2, u⟩ := hr
  have em : max r.1 1 = r.1 := by omega
  by_cases q : r.1 < n
  · rw [if_pos q, em]
    exact Go.mono (fun p hp => fin p hp.1 hp.2) (go_bin O h0 (n - r.1) r.2 r.1 pm2 h1 (by omega) u)
  · rw [if_neg q]
    have e : r.1 = n := by omega
    rw [e] at u
    exact fin r.2 pm2 u
end
end PkS
end
section -- PkRules
set_option maxRecDepth 100000
set_option maxHeartbeats 4000000
/-! Rules of my own beside the layer's: sum and max of tuples, order of nested tuples, str of an own instance. -/
namespace PkR
open PySem PySem.Spec PyProof.Rows L2
section
variable {X : Cx}
/-! ### sum(t), max(t, default=d) -/
def rSumT (K : PySem.W.Frag) : List V → Hp → VK → Prop := fun vs H Q => ∃ (a : Addr) (ns : List Int), vs = [V.ref a] ∧ SqT K H a (ns.map V.int) ∧ Q (.int ns.sum) H
theorem cr_sumT (hc : X.calm = true) : CallR X (.builtin "sum") (rSumT X.K) := by
  intro pins s σ H vs us Q I r h
  obtain ⟨a, ns, rfl, hs, q⟩ := h
  obtain ⟨its, rv, ht, _⟩ := I.tuple hs
  rw [Vals.ref1 r]
  have hi := rv.ints
  obtain ⟨xs, hx⟩ := hi.allInts.items
  have hn : numsOf its.toArray.toList = ns := by rw [show its.toArray.toList = its from rfl, hi.numsOf]
  have ht' : s.heap.IsTuple a its.toArray := ht
  rw [hx] at ht' hn
  rw [nums_intItems] at hn
  refine PySem.W.ktm_sumG (I.ok.hd hc) ht' fun h' tk t' hk => ?_
  rw [preSum_eq, List.take_of_length_le (by simp), hn]
  exact ⟨.int _, H, I.kept hk, ⟨_, rfl⟩, q⟩
theorem dp_ints {K : PySem.W.Frag} {H : Hp} : ∀ ns : List Int, DpAll K H (ns.map V.int) (ns.map PyData.int)
  | [] => .nil
  | n :: ns => .cons (.int n) (dp_ints ns)
def maxOr (d : Int) : List Int → Int
  | [] => d
  | n :: ns => ns.foldl max n
def rMaxT (K : PySem.W.Frag) : List V → List V → Hp → VK → Prop := fun vs zs H Q => ∃ (a : Addr) (ns : List Int) (d : Int), vs = [V.ref a] ∧ zs = [V.int d] ∧ SqT K H a (ns.map V.int) ∧ Q (.int (maxOr d ns)) H
theorem depth_ints : ∀ ns : List Int, PyData.depthAll (ns.map PyData.int) ≤ 1
  | [] => by decide
  | n :: ns => by
    have ih := depth_ints ns
    have e : PyData.depthAll ((n :: ns).map PyData.int) = max (PyData.depth (.int n)) (PyData.depthAll (ns.map PyData.int)) := by
      first | rfl | simp [PyData.depthAll]
    have e2 : PyData.depth (.int n) ≤ 1 := by first | decide | (simp [PyData.depth])
    omega
theorem cr_maxT (hc : X.calm = true) (hu : X.A.units + 64 < cLine) : CallRK X (.builtin "max") [Str.ofString "default"] (rMaxT X.K) := by
  intro pins s σ H vs zs us ws Q I r rz h
  obtain ⟨a, ns, d, rfl, rfl, hs, q⟩ := h
  obtain ⟨its, rv, ht, _⟩ := I.tuple hs
  rw [Vals.ref1 r]
  obtain ⟨w1, rfl, e1⟩ := vals1 rz
  obtain ⟨t1, rfl⟩ := e1
  obtain ⟨as, hr⟩ := Dp.readsAll I (ns.map PyData.int) _ its (dp_ints ns) rv
  have hal : PySem.W.AlikeAll (ns.map PyData.int) := by
    refine ⟨fun x hx y hy => ?_, fun x hx => ?_⟩
    · obtain ⟨m, _, rfl⟩ := List.mem_map.mp hx
      obtain ⟨n, _, rfl⟩ := List.mem_map.mp hy
      rfl
    · obtain ⟨m, _, rfl⟩ := List.mem_map.mp hx
      exact fun z => nomatch z
  show wpAny _ _ (call (.builtin "max") [.ref a] [(Str.ofString "default", .int d t1)]) _ _ _
  refine PySem.W.max_tuple_default (I.ok.hd hc) (show s.heap.IsTuple a its.toArray from ht) hr hal (by have := depth_ints ns; omega) (fun e h' tk hk => ?_) fun y ys i v h' tk bs e hi hrd hk => ?_
  · cases ns with
    | nil => exact ⟨.int d, H, I.kept hk, ⟨_, rfl⟩, q⟩
    | cons n ns => cases e
  · cases ns with
    | nil => cases e
    | cons n ns =>
      rw [List.map_cons] at e
      injection e with e1 e2
      subst e1
      subst e2
      rw [PySem.W.maxD_ints] at hrd
      obtain ⟨t, rfl⟩ : ∃ t, v = .int (ns.foldl max n) t := by
        cases hrd
        exact ⟨_, rfl⟩
      exact ⟨.int _, H, I.kept hk, ⟨_, rfl⟩, q⟩
/-! ### a < b of alike data -/
def rLtD (K : PySem.W.Frag) : R2 := fun x y H Q => ∃ d e, Dp K H x d ∧ Dp K H y e ∧ PySem.W.alike d e = true ∧ d ≠ .none ∧ min d.depth e.depth ≤ 64 ∧ Q (.bl (PySem.W.dataLt d e)) H
theorem op_ltD (hu : X.A.units + 64 < cLine) : OpR X (compareOp .Lt) (rLtD X.K) := by
  intro pins s σ H x y v u Q I rx ry h
  obtain ⟨d, e, hd, he, al, hn, dp, q⟩ := h
  obtain ⟨as, r1⟩ := Dp.reads I d x v hd rx
  obtain ⟨bs, r2⟩ := Dp.reads I e y u he ry
  exact PySem.W.lt_data r1 r2 al hn (by omega) ⟨.bl _, H, I, rfl, q⟩
end
/-! ### str(x) by an own __str__ -/
def rStrOwn (C : Addr) (sp : Sp) (E : XK) : List V → Hp → VK → Prop := fun xs H Q => ∃ a dx vs, xs = [V.ref a] ∧ SlX.Slt H a C dx vs ∧ sp [.ref a] H (fun z H' => ∃ y, z = .str y ∧ Q z H') E
theorem call_strOwn {X : Cx} {CX : CXT} {C g : Addr} {n : Nat} {sp : Sp} {E : XK} (hs : PySem.W.findIn X.K (.ref C) "__str__" = some (some (.ref g))) (hf : PySem.W.isFn X.K (.ref g) = true) (F : FnR X.prog X.w X.K X.mg X.base CX n g sp) (hr : Room (n + 2) X.A) (hx : Passes CX X E) : CallR X (.type "str") (rStrOwn C sp E) := by
  intro pins s σ H xs us Q I r h
  obtain ⟨a, dx, vs, rfl, hsl, q⟩ := h
  obtain ⟨u, rfl, ru⟩ := r.one
  cases (show u = Value.ref a from ru)
  obtain ⟨sl, od, _, J, _⟩ := SlX.slt_inst I hsl
  have hr2 : Room n X.A.in1.in1 := (show Room (n + 1) X.A.in1 from Room.in1 hr).in1
  refine PySem.W.kso_call hr2.units0 I.kIn J hs hf (wpAny_mono (wpAny_call (SlX.run_at (us := [.ref a]) (ws := [.ref a]) F hr2 I.env0.in1.in1 hx I (.cons rfl .nil) q)) (fun w s' z => ?_) fun _ _ x => x)
  obtain ⟨z', H', I', rz, y, ey, qz⟩ := z
  subst ey
  obtain ⟨t, e⟩ := (show ∃ t, w = Value.str y t from rz)
  cases e
  exact ⟨.str y, H', I', ⟨t, rfl⟩, qz⟩
/-! ### for i, x in enumerate(t), t a tuple -/
theorem meets_enumerate_newT (l : Addr) (items : Array Value) (n : Nat) (dct : Option Addr) (sl : Array (Option Value)) :
    Meets (Builtin.«enumerate.__new__» ⟨[.type "enumerate", .ref l], []⟩) (fun _ R s => s.heap.get? l = some { cls := .type "tuple", dict := dct, data := .seq items n, slots := sl } ∧
      R (.ok (.ret (.ref (s.heap.push { cls := .type "tuple_iterator", data := .fields #[.ref l, .int 0 0] }).objs.size)))
        { s with heap := (s.heap.push { cls := .type "tuple_iterator", data := .fields #[.ref l, .int 0 0] }).push { cls := .type "enumerate", data := .fields #[.none, .bool false, .ref s.heap.objs.size, PySem.rawInt 0, .none, .none] } }) :=
  .of_wp fun prog w A R s h => by
    obtain ⟨hp, g, d, tk, os⟩ := s; obtain ⟨hl, h⟩ := h
    have hsub := sub_enumerate
    have hL : Heap.IsTuple (Shared.heap ⟨hp, g, d, tk, os⟩) l items := ⟨_, hl, rfl, n, rfl⟩
    wp_walk using AutoSeq1.wpAny_loadPart' hl
    refine wpAny_stack_any fun st => wpAny_pure ?_
    split
    · rename_i c _ _ _ _ _
      cases (c == Value.type "enumerate")
      · wp_walk using AutoSeq1.wpAny_loadPart' hl, wpAny_pyIter_tuple hL
        exact ⟨_, rfl, h⟩
      · wp_walk using AutoSeq1.wpAny_loadPart' hl, wpAny_pyIter_tuple hL
        exact ⟨_, rfl, h⟩
    · wp_walk using AutoSeq1.wpAny_loadPart' hl, wpAny_pyIter_tuple hL
      exact ⟨_, rfl, h⟩
section
variable {prog : Program} {w : World} {A : Around} {E : Value → Shared → Prop} {s : Shared}
theorem call_enumerate_tuple {l : Addr} {items : Array Value} {Q : Value → Shared → Prop} (hL : s.heap.IsTuple l items)
    (h : ∀ h', IsEnum h' (s.heap.objs.size + 1) s.heap.objs.size 0 .none → h'.IsTupleIter s.heap.objs.size l 0 → h'.objs.size = s.heap.objs.size + 2 →
      (∀ b o, s.heap.get? b = some o → h'.get? b = some o) → Q (.ref (s.heap.objs.size + 1)) { s with heap := h' }) :
    wpAny (model prog w) A (call (.type "enumerate") [.ref l]) Q E s := by
  obtain ⟨⟨c, dct, dt, sl⟩, hl, hc, n, hd⟩ := hL
  replace hc : c = .type "tuple" := hc
  replace hd : dt = .seq items n := hd
  subst hc hd
  refine callType_new F.called_enumerate (by decide) (F.typeCall_enumerate_1 _) (F.newCall_enumerate_1 _) (fun obj => F.args_object_init_2 obj _) F.entry_enumerate_new
    (meets_enumerate_newT l items n dct sl) ⟨hl, ?_⟩
  have hz : (s.heap.push { cls := .type "tuple_iterator", data := .fields #[.ref l, .int 0 0] }).objs.size = s.heap.objs.size + 1 := Heap.size_push ..
  show _ ∧ _
  rw [hz]
  have he : IsEnum ((s.heap.push { cls := .type "tuple_iterator", data := .fields #[.ref l, .int 0 0] }).push
      { cls := .type "enumerate", data := .fields #[.none, .bool false, .ref s.heap.objs.size, PySem.rawInt 0, .none, .none] }) (s.heap.objs.size + 1) s.heap.objs.size 0 .none := by
    have := Heap.get?_push_size (s.heap.push { cls := .type "tuple_iterator", data := .fields #[.ref l, .int 0 0] })
      (o := { cls := .type "enumerate", data := .fields #[.none, .bool false, .ref s.heap.objs.size, PySem.rawInt 0, .none, .none] }) rfl
    rw [hz] at this; exact this
  refine ⟨⟨_, he, rfl⟩, h _ he ⟨_, Heap.get?_push_of_some _ (Heap.get?_push_size _ rfl), rfl, rfl⟩ (by rw [Heap.size_push, hz]) fun b o x => Heap.get?_push_of_some _ (Heap.get?_push_of_some _ x)⟩
end
/-- the tuple at a, each item in a new pair with its number -/
def IteT (K : PySem.W.Frag) (a : Addr) : It :=
  ⟨fun i H => ∃ (xs : List V) (x : V), SqT K H a xs ∧ xs[i]? = some x, fun i H v H' => ∃ T x, v = .ref T ∧ H T = none ∧ H' = upd H T (.tup [.int (i : Nat), x]) ∧ ∀ xs, SqT K H a xs → xs[i]? = some x, fun i H => ∃ xs : List V, SqT K H a xs ∧ xs.length ≤ i⟩
theorem turn_enumT {P : Program} {w : World} {K : PySem.W.Frag} {elts : List Expr} {kk : Nat} {tpos : Pos} (a e it : Addr) :
    Turn P w K (.Tuple elts kk tpos) (IteT K a) [e, it] e (fun i h => (∃ old, IsEnum h e it ((i : Nat) : Int) old) ∧ h.IsTupleIter it a i ∧ e ≠ it ∧ a ≠ it ∧ a ≠ e) where
  mem := by simp
  obj := fun i h st b hb => by
    obtain ⟨⟨old, he⟩, ⟨o, ho, hc, hd⟩, _⟩ := st
    have e' : b = e ∨ b = it := by simpa using hb
    rcases e' with z | z
    · rw [z]; exact ⟨_, he, fun v q => nomatch q⟩
    · rw [z]; exact ⟨o, ho, fun v q => by rw [hd] at q; cases q⟩
  keep := fun i h h' st k => let ⟨⟨old, he⟩, hi, hne⟩ := st; ⟨⟨old, k e (by simp) _ he⟩, hi.at fun o q => k it (by simp) o q, hne⟩
  item := by
    intro X hP hw hK hc i pins s σ H E I hf st hg
    subst hP hw hK
    obtain ⟨⟨old, he⟩, hit, hne, hai, hae⟩ := st
    obtain ⟨xs, x, hq, hx⟩ := hg
    obtain ⟨its, rv, p, hz⟩ := I.tuple hq
    obtain ⟨u, hu, ru⟩ := rv.get hx
    have hel : e < s.heap.objs.size := Heap.lt_size he
    have hil : it < s.heap.objs.size := by obtain ⟨_, q, _⟩ := hit; exact Heap.lt_size q
    have p' : s.heap.IsTuple a its.toArray := p
    have hD := PySem.Draws.tuple (prog := X.prog) (w := X.w) (A := X.A.in1) (I.ok.hd hc) it a hai its.toArray
    have hlt : i < its.toArray.size := by
      rw [List.size_toArray]
      exact (List.getElem?_eq_some_iff.mp hu).1
    refine wpAny_pyNext_enum_itemD hD he ⟨hit, p'⟩ hlt hne (by simp [hne, Ne.symm hae]) fun x' h' tk hPx ho hst hT hsz hk => ?_
    have ex : x' = u := by
      have h1 : its.toArray[i]? = some x' := hPx
      have h2 : its.toArray[i]? = some u := by simpa using hu
      exact Option.some.inj (h1.symm.trans h2)
    subst ex
    refine ⟨_, rfl, wpAny_letOwnedTupleGo_enum (s := { s with heap := h', toks := tk + 1 }) ho fun h'' he' sb => ?_⟩
    have hT2 : h''.get? s.heap.objs.size = some { cls := .type "tuple", data := .seq #[.int i tk, x'] } := (sb.2 _ (Nat.ne_of_gt hel)).trans hT
    have new : ObjOk X.prog X.w (upd H s.heap.objs.size (.tup [.int (i : Nat), x])) h'' s.heap.objs.size (.tup [.int (i : Nat), x]) :=
      ⟨by show 2 ≤ sizeLine; decide, [.int i tk, x'], .cons ⟨_, rfl⟩ (.cons ru .nil), ⟨_, hT2, rfl, _, rfl⟩⟩
    have I1 : Inv X pins σ (upd H s.heap.objs.size (.tup [.int (i : Nat), x])) { s with heap := h'', toks := tk + 1 } :=
      I.turnedNew (ch := [e, it]) (fun b ob hb q => (sb.2 b (fun z => hb (by simp [z]))).trans (hk b ob (fun z => hb (by simp [z])) (fun z => hb (by simp [z])) q)) hf (Nat.le_refl _) new
    refine ⟨.ref s.heap.objs.size, _, I1, rfl, ⟨_, x, rfl, I.hok.fresh (Nat.le_refl _), rfl, fun ys hy => by rw [I.tuple_inj hy hq]; exact hx⟩, ⟨⟨x', ?_⟩, hst.1.at fun o q => (sb.2 it (Ne.symm hne)).trans q, hne, hai, hae⟩, fun b hb => ?_⟩
    · have e1 : ((i + 1 : Nat) : Int) = (i : Int) + 1 := by omega
      rw [e1]; exact he'
    · have hb' : b < s.heap.objs.size := by
        have e' : b = e ∨ b = it := by simpa using hb
        rcases e' with z | z
        · rw [z]; exact hel
        · rw [z]; exact hil
      rw [upd_ne (Nat.ne_of_lt hb')]
      exact (hf b hb).1
  done := by
    intro X hP hw hK hc i pins s σ H E I hf st hg
    subst hP hw hK
    obtain ⟨⟨old, he⟩, hit, hne, hai, hae⟩ := st
    obtain ⟨xs, hq, hx⟩ := hg
    obtain ⟨its, rv, p, hz⟩ := I.tuple hq
    obtain ⟨f0, f1, f2, f3, f4, f5⟩ := hf it (by simp)
    have hl := rv.length
    have p' : s.heap.IsTuple a its.toArray := p
    have hT : s.TypeIs (.ref e) "enumerate" := ⟨_, he, rfl⟩
    have hend : its.toArray[i]? = none := by simp; omega
    unfold pyNext
    refine wpAny_bind (wpAny_attempt (wpAny_callSpecial?_slot (name := Str.ofString "__next__") hT F.slot_enumerate_next
      (wpAny_call_entry F.slot_enumerate_next hT F.entry_enumerate_next ?_ (F.args_enumerate_next_1 _))))
    show wpAny _ _ (field (.ref e) 2 >>= _) _ _ _
    refine wpAny_bind (wpAny_field he rfl (x := .ref it) rfl ?_)
    refine wpAny_bind (wpAny_nextOf_tuple_end (I.ok.hd hc) hit p' hend fun h' x he' hx' => ?_)
    obtain ⟨o, ho, hc⟩ := hx'
    refine wpAny_bind (wpAny_isInstance (T := "StopIteration") (b := true) ⟨o, ho, hc⟩ isSubtype_stop ?_)
    exact wpAny_pure ⟨rfl, I.turned (t' := s.toks) (fun b o hb q => he' b o hb q) f0 f1 f3 f4 f5⟩
  self := fun A i s Q E st h => let ⟨⟨_, he⟩, _⟩ := st; wpAny_pyIter_enum he h
def iEnumT (K : PySem.W.Frag) (ta : TA) : TI := fun σ H R => ta σ H fun vs H1 => ∃ a xs, vs = [.ref a] ∧ SqT K H1 a xs ∧ R (IteT K a) H1
theorem pi_enumT {X : Cx} {e : Expr} {ta : TA} {p pos tpos : Pos} {elts : List Expr} {kk : Nat} (hg : Gl X "enumerate") (hm : X.mg "enumerate" = none) (ha : PA X [e] ta) (hs : starEach [e] X.env = [(false, eval e X.env)] := by rfl) :
    PI X (.Tuple elts kk tpos) (.Call (.Name "enumerate" p) [e] [] pos) (iEnumT X.K ta) := by
  refine ⟨fun pins s σ H R I h => ?_⟩
  refine Call_ (ld_blt I hg hm boot_enumerate (PyProof.Rows.callWith_type1 (thn (ha.run pos pins s σ H _ I h) fun us s1 ⟨vs, H1, I1, r1, q1⟩ => ?_) hs rfl))
  obtain ⟨a, xs, ex, hq, q⟩ := q1
  subst ex
  cases r1 with
  | cons r rr =>
    cases rr
    cases r
    obtain ⟨its, rv, p', hz⟩ := I1.tuple hq
    have p2 : s1.heap.IsTuple a its.toArray := p'
    have hlt : a < s1.heap.objs.size := by
      obtain ⟨o, ho, _⟩ := p2
      exact Heap.lt_size ho
    refine call_enumerate_tuple p2 fun h' he hit hsz hk => wpAny_pyIter_enum he ?_
    have I2 : Inv X pins σ H1 { s1 with heap := h' } := I1.kept (t' := s1.toks) hk
    refine ⟨s1.heap.objs.size + 1, [s1.heap.objs.size + 1, s1.heap.objs.size], _, _, H1, rfl, I2, turn_enumT a (s1.heap.objs.size + 1) s1.heap.objs.size, ⟨⟨.none, he⟩, hit, Nat.succ_ne_self _, Nat.ne_of_lt hlt, Nat.ne_of_lt (Nat.lt_succ_of_lt hlt)⟩, fun b hb => ?_, q⟩
    have e' : b = s1.heap.objs.size + 1 ∨ b = s1.heap.objs.size := by simpa using hb
    have hle : s1.heap.objs.size ≤ b := by
      rcases e' with z | z
      · rw [z]; exact Nat.le_add_right _ _
      · rw [z]; exact Nat.le_refl _
    exact I1.fpOk hle (I1.hok.fresh hle)
end PkR
end
section -- PkOwn
set_option maxRecDepth 100000
set_option maxHeartbeats 4000000
/-! sorted(xs) and xs != ys where the items are slotted instances with their own < and ==. -/
namespace PkR
open PySem PySem.Spec PyProof.Rows L2
section
variable {prog : Program} {w : World} {A : Around} {E : Value → Shared → Prop} {s : Shared} {a : Addr} {vs : List Value} {T : Value}
open PySem.W in
/-- list.sort of two to 63 things, by questions -/
theorem list_sort_ask {n : Nat} {P : PySem.Fin → Shared → Prop} (ho : s.heap.get? a = some (seqObj "list" vs.toArray n))
    (h2 : 2 ≤ vs.length) (h64 : vs.length < 64) (hT : ∀ h : Heap, (∀ b o, b ≠ a → s.heap.get? b = some o → h.get? b = some o) → ∀ v ∈ vs, Looks (model prog w) h (typeOf v) T) (hT1 : (T != Value.type "tuple") = true) (hT2 : (T == T) = true)
    (h : ∀ e1 h', (∀ b o, b ≠ a → s.heap.get? b = some o → h'.get? b = some o) → h'.get? a = some (seqObj "list" #[] e1) →
      (kas_sort vs.length).kasWp (kas_ask prog w A oneType' vs) (fun p s' => s'.heap.get? a = some (seqObj "list" #[] e1) ∧ ∀ h'' c, Heap.SameBut a s'.heap h'' → h''.get? a = some (seqObj "list" (p.toList.map fun i => vs.getD i Value.none).toArray c) → P (.done (.ret .none)) { s' with heap := h'' }) { s with heap := h' }) :
    wpAny (model prog w) A (Builtin.«list.sort» ⟨[.ref a], []⟩) P E s := by
  have ha : a < s.heap.objs.size := Heap.lt_size ho
  have s1 := Heap.SameBut.update s.heap a (Obj.mapSeq fun _ => (#[] : Array Value))
  obtain ⟨e1, ho1⟩ : ∃ e1, (s.heap.update a (Obj.mapSeq fun _ => (#[] : Array Value))).get? a = some (seqObj "list" #[] e1) := ⟨_, get?_update_seq ho fun _ => #[]⟩
  have keep : ∀ b o, b ≠ a → s.heap.get? b = some o → (((s.heap.update a (Obj.mapSeq fun _ => (#[] : Array Value))).push (seqObj "tuple" vs.toArray 0)).push (seqObj "list" #[] 0)).get? b = some o := fun b o hb e =>
    Heap.get?_push_of_some _ (Heap.get?_push_of_some _ ((Heap.get?_update_ne _ _ _ _ hb).trans e))
  have ho6 : (((s.heap.update a (Obj.mapSeq fun _ => (#[] : Array Value))).push (seqObj "tuple" vs.toArray 0)).push (seqObj "list" #[] 0)).get? a = some (seqObj "list" #[] e1) :=
    Heap.get?_push_of_some _ (Heap.get?_push_of_some _ ho1)
  have ask := h e1 _ keep ho6
  rw [kas_ask_eq] at ask
  rw [list_sort_plain]
  refine wpAny_bind (listItems_at ho rfl ?_)
  refine wpAny_bind (listUpdate_at ho rfl ?_ (by rw [List.size_toArray, sizeLine_eq]; omega) (Nat.zero_le _))
  refine wpAny_bind (seqEpoch_at ho1 rfl ?_)
  refine wpAny_bind (wpAny_newTuple ?_ (by show vs.length ≤ _; rw [sizeLine_eq]; omega))
  refine wpAny_bind (wpAny_newList ?_ (Nat.zero_le _))
  refine wpAny_holding ?_
  show wpAny (model prog w) A _ P E { s with heap := ((s.heap.update a (Obj.mapSeq fun _ => (#[] : Array Value))).push (seqObj "tuple" vs.toArray 0)).push (seqObj "list" #[] 0) }
  dsimp only
  have hn2 : ¬ vs.toArray.size < 2 := by rw [List.size_toArray]; omega
  rw [if_neg hn2, if_neg hn2]
  refine wpAny_bind (kas_kind h2 (hT _ keep) hT1 hT2 ?_)
  have est : SortSt.mk' oneType' (vs.toArray.zip vs.toArray) #[] 7 none = kas_st oneType' (pairsOf vs) (List.toArray (List.range vs.length)) := by
    have e := kas_range (pairsOf vs)
    rw [pairsOf_size] at e
    show SortSt.mk' oneType' (pairsOf vs) #[] 7 none = SortSt.mk' oneType' ((List.toArray (List.range vs.length)).map (kas_item (pairsOf vs))) #[] 7 none
    rw [e]
  have run := kas_runs (E := E) (Q := fun _ st' s' => ∃ p : Array Nat, p.size = vs.length ∧ arrOf st' = p.map (kas_item (pairsOf vs)) ∧ failedOf st' = none ∧ s'.heap.get? a = some (seqObj "list" #[] e1) ∧
      ∀ h'' c, Heap.SameBut a s'.heap h'' → h''.get? a = some (seqObj "list" (p.toList.map fun i => vs.getD i Value.none).toArray c) → P (.done (.ret .none)) { s' with heap := h'' })
    h2 h64 (fun p' st' s' a1 a2 a3 a4 => ⟨p', a1, a2, a3, a4⟩) ask
  rw [← est] at run
  refine wpAny_bind (wpAny_mono run ?_ fun _ _ e => e)
  rintro ⟨⟨⟩, st'⟩ s' ⟨p, hp, har, hf, na, k⟩
  dsimp only
  have hout : (arrOf st').map (·.2) = List.toArray (p.toList.map fun i => vs.getD i Value.none) := by
    apply Array.toList_inj.mp
    rw [har, Array.map_map, Array.toList_map]
    exact List.map_congr_left fun i _ => by show (kas_item (pairsOf vs) i).2 = _; rw [kas_item_eq]
  have hsz : (List.toArray (p.toList.map fun i => vs.getD i Value.none)).size = vs.length := by rw [List.size_toArray, List.length_map, Array.length_toList, hp]
  rw [hout]
  have s2 := Heap.SameBut.update s'.heap a (Obj.mapSeq fun _ => List.toArray (p.toList.map fun i => vs.getD i Value.none))
  obtain ⟨c2, hc2⟩ : ∃ c2, (s'.heap.update a (Obj.mapSeq fun _ => List.toArray (p.toList.map fun i => vs.getD i Value.none))).get? a = some (seqObj "list" (List.toArray (p.toList.map fun i => vs.getD i Value.none)) c2) := ⟨_, get?_update_seq na fun _ => List.toArray (p.toList.map fun i => vs.getD i Value.none)⟩
  refine wpAny_bind (seqEpoch_at na rfl ?_)
  refine wpAny_bind (listUpdate_at na rfl ?_ (Nat.zero_le _) (Nat.le_trans (Nat.le_of_eq hsz) (by rw [sizeLine_eq]; omega)))
  rw [hf]
  simp only [bne_self_eq_false, Bool.false_eq_true, if_false]
  exact wpAny_pure (k _ c2 s2 hc2)
open PySem.W in
/-- sorted(l) of two to 63 things, by questions: the new list stands at size + 1 -/
theorem sorted_ask {l : Addr} {Q : Value → Shared → Prop} (hl : s.heap.IsList l vs.toArray) (h2 : 2 ≤ vs.length) (h64 : vs.length < 64)
    (hT : ∀ h : Heap, (∀ b o, s.heap.get? b = some o → h.get? b = some o) → ∀ v ∈ vs, Looks (model prog w) h (typeOf v) T) (hT1 : (T != Value.type "tuple") = true) (hT2 : (T == T) = true)
    (h : ∀ e1 h', (∀ b o, s.heap.get? b = some o → h'.get? b = some o) → h'.get? (s.heap.objs.size + 1) = some (seqObj "list" #[] e1) →
      (kas_sort vs.length).kasWp (kas_ask prog w A.in1.in1 oneType' vs) (fun p s' => s'.heap.get? (s.heap.objs.size + 1) = some (seqObj "list" #[] e1) ∧ ∀ h'' c, Heap.SameBut (s.heap.objs.size + 1) s'.heap h'' →
        h''.get? (s.heap.objs.size + 1) = some (seqObj "list" (p.toList.map fun i => vs.getD i Value.none).toArray c) → Q (.ref (s.heap.objs.size + 1)) { s' with heap := h'' }) { s with heap := h' }) :
    wpAny (model prog w) A (call (.builtin "sorted") [.ref l]) Q E s := by
  refine Calls.call_function_entry kind_sorted plain_sorted entry_sorted (args_sorted1 _) ?_
  unfold Builtin.«sorted»
  refine wpAny_bind (m := checkCount "sorted" 1 1 _) (wpAny_pure ?_)
  refine wpAny_bind (collect_list hl ?_ (by rw [sizeLine_eq]; omega))
  refine wpAny_bind (wpAny_newList ?_ (by rw [sizeLine_eq]; omega))
  have hsz : ((s.heap.push (seqObj "list" #[] 0)).update s.heap.objs.size (Obj.mapSeq (· ++ vs.toArray))).objs.size = s.heap.objs.size + 1 := by
    rw [Heap.size_update, size_push']
  have hoL : (((s.heap.push (seqObj "list" #[] 0)).update s.heap.objs.size (Obj.mapSeq (· ++ vs.toArray))).push (seqObj "list" vs.toArray 0)).get? (s.heap.objs.size + 1) = some (seqObj "list" vs.toArray 0) := by
    rw [← hsz]; exact Heap.get?_push_size _ rfl
  have keep : ∀ b o, s.heap.get? b = some o → b ≠ s.heap.objs.size + 1 ∧ (((s.heap.push (seqObj "list" #[] 0)).update s.heap.objs.size (Obj.mapSeq (· ++ vs.toArray))).push (seqObj "list" vs.toArray 0)).get? b = some o := fun b o q => by
    have hlt : b < s.heap.objs.size := Heap.lt_size q
    refine ⟨Nat.ne_of_lt (Nat.lt_succ_of_lt hlt), Heap.get?_push_of_some _ ?_⟩
    rw [Heap.get?_update_ne _ _ _ _ (Nat.ne_of_lt hlt)]
    exact Heap.get?_push_of_some _ q
  show wpAny _ _ _ _ _ { s with heap := ((s.heap.push (seqObj "list" #[] 0)).update s.heap.objs.size (Obj.mapSeq (· ++ vs.toArray))).push (seqObj "list" vs.toArray 0) }
  rw [hsz]
  refine wpAny_bind (wpAny_holding (wpAny_call_entry slot_list_sort ⟨_, hoL, rfl⟩ entry_list_sort ?body (args_list_sort _)))
  case body =>
    refine list_sort_ask (T := T) (s := { s with heap := ((s.heap.push (seqObj "list" #[] 0)).update s.heap.objs.size (Obj.mapSeq (· ++ vs.toArray))).push (seqObj "list" vs.toArray 0) })
      hoL h2 h64 (fun h' k' => hT h' fun b o q => k' b o (keep b o q).1 (keep b o q).2) hT1 hT2 fun e1 h' k' he => ?_
    have ask := h e1 h' (fun b o q => k' b o (keep b o q).1 (keep b o q).2) he
    rw [kas_ask_eq] at ask ⊢
    exact kas_wp_mono ask fun p s' hk => ⟨hk.1, fun h'' c a b => ⟨_, rfl, wpAny_pure ⟨_, rfl, hk.2 h'' c a b⟩⟩⟩
end
section
variable {X : Cx} {pins : List (Addr × Obj)} {σ : L2.St} {H : Hp} {s : Shared}
/-- an untracked object of ours has become a tracked one -/
theorem inv_become {h' : Heap} {t' : Nat} {D : Addr} {ob : HO} (I : Inv X pins σ H s) (k : ∀ b o, b ≠ D → s.heap.get? b = some o → h'.get? b = some o) (hf : FpOk X pins H D)
    (new : ObjOk X.prog X.w (upd H D ob) h' D ob) : Inv X pins σ (upd H D ob) { s with heap := h', toks := t' } := by
  have hn : H D = none := hf.1
  have nit : ∀ b u, H b = some u → b ≠ D := fun b u e z => by rw [z, hn] at e; cases e
  refine I.step (g' := s.gens) (d' := s.drawn) (ch := [D]) (fun b hb => ?_) (fun b o _ _ hc e _ => k b o (fun z => hc (by simp [z])) e) (fun b o _ _ hc e _ => ⟨o.slots, k b o (fun z => hc (by simp [z])) e⟩)
    (fun b o hc e n => ?_) (fun b o hc e => ⟨o, k b o (fun z => hc (by simp [z])) e⟩) (fun b xs e => ?_) (fun b o u e => ?_) (fun b ps e => ⟨#[], ?_⟩) (fun m hm => ?_) (fun b u e => ?_) I.bare
  · have e : b = D := by simpa using hb
    subst e
    exact ⟨hf.2.2.2.1, hf.2.1, hf.2.2.2.2.1, hf.2.2.2.2.2⟩
  · rw [upd_ne (fun z => hc (by simp [z]))]
    exact n
  · rw [upd_ne (nit b _ e)]
    exact e
  · rw [upd_ne (nit b _ e)]
    exact e
  · rw [upd_ne (nit b _ e), e]
    simp
  · obtain ⟨o, es, ep, ho, r⟩ := hm
    exact ⟨o, es, ep, k _ o (Ne.symm hf.2.1) ho, r⟩
  · by_cases hb : b = D
    · subst hb
      rw [upd_same] at e
      cases e
      exact new
    · rw [upd_ne hb] at e
      refine (I.hok b u e).stay (fun c v hc q => k c v ?_ q) (fun c q => by rw [upd_ne (nit c _ q)]; exact q) fun c xs q => by rw [upd_ne (nit c _ q)]; exact q
      rcases hc with z | z
      · rw [z]
        exact hb
      · exact nit c _ z
/-- sorted(xs), xs fewer than 64 instances with slots whose own < says lt and changes nothing -/
def rSortedOwn (K : PySem.W.Frag) (C : Addr) (sp : Sp) : List V → Hp → VK → Prop := fun vs H Q => ∃ (a : Addr) (xs : List V) (lt : V → V → Bool), vs = [.ref a] ∧ SqL K H a xs ∧ xs.length < 64 ∧ SrtO.Swo lt ∧
  (∀ x ∈ xs, ∃ b dx ws, x = .ref b ∧ SlX.Slt H b C dx ws) ∧ (∀ x ∈ xs, ∀ y ∈ xs, ∀ Q' : VK, Q' (.bl (lt x y)) H → sp [x, y] H Q' E0) ∧
  ∀ ys p, ys.Perm xs → ys.Pairwise (fun x y => lt y x = false) → H p = none → Q (.ref p) (upd H p (.lst ys))
theorem getD_get {α : Type} (l : List α) (d : α) {i : Nat} (h : i < l.length) : l[i]? = some (l.getD i d) := by
  rw [List.getD_eq_getElem?_getD, List.getElem?_eq_getElem h]
  rfl
theorem map_range_getD {α : Type} (l : List α) (d : α) : (List.range l.length).map (fun i => l.getD i d) = l := by
  refine List.ext_getElem (by simp) fun i h1 h2 => ?_
  rw [List.getElem_map, List.getElem_range, List.getD_eq_getElem?_getD, List.getElem?_eq_getElem h2]
  rfl
theorem vals_getD {xs : List V} {us : List Value} (r : Vals xs us) : ∀ (l : List Nat), (∀ i ∈ l, i < xs.length) → Vals (l.map fun i => xs.getD i .non) (l.map fun i => us.getD i Value.none)
  | [], _ => .nil
  | i :: l, h => by
    refine .cons ?_ (vals_getD r l fun j hj => h j (List.mem_cons_of_mem _ hj))
    have hi := h i List.mem_cons_self
    obtain ⟨u, e1, e2⟩ := r.get (getD_get xs .non hi)
    have hu : us.getD i Value.none = u := by
      rw [List.getD_eq_getElem?_getD, e1]
      rfl
    show RelV (xs.getD i .non) (us.getD i Value.none)
    rw [hu]
    exact e2
theorem cr_sortedOwn {C g : Addr} {n : Nat} {sp : Sp} (hs : PySem.W.findIn X.K (.ref C) "__lt__" = some (some (.ref g))) (hf : PySem.W.isFn X.K (.ref g) = true) (F : FnR X.prog X.w X.K X.mg X.base CX0 n g sp) (hr : Room (n + 2) X.A) : CallR X (.builtin "sorted") (rSortedOwn X.K C sp) := by
  intro pins s σ H vs us Q I r h
  obtain ⟨a, xs, lt, rfl, hq, h64, O, hx, hsp, q⟩ := h
  obtain ⟨its, rv, hl, hz⟩ := I.list hq
  rw [Vals.ref1 r]
  have hlen := rv.length
  by_cases h2 : xs.length < 2
  · -- none or one: nothing is asked
    refine SrtO.sorted_ord (ltv := fun _ _ => false) (vs := its) ⟨fun _ _ h => (nomatch h), fun _ _ _ _ _ => rfl⟩ hl.isList (by rw [← hlen]; exact hz) (fun h => absurd h (by omega)) fun out _ hb => ?_
    have eo : out = its := by
      have hp := hb.perm
      match its, hlen with
      | [], _ => exact List.Perm.eq_nil hp
      | [v], _ => exact List.perm_singleton.mp hp
      | _ :: _ :: _, e => 
        rw [List.length_cons, List.length_cons] at e
        omega
    subst eo
    obtain ⟨ep, he'⟩ := PyProof.Rows.sortedAll_at s.heap out out.toArray
    refine ⟨.ref _, upd H (s.heap.objs.size + 1) (.lst xs), I.laid (t' := s.toks) (fun _ _ => PyProof.Rows.sortedAll_old) (Nat.le_succ _) ⟨hz, out, ep, rv, he'⟩, rfl, q xs _ (List.Perm.refl _) ?_ (I.hok.fresh (Nat.le_succ _))⟩
    match xs, h2 with
    | [], _ => exact List.Pairwise.nil
    | [v], _ => exact List.pairwise_singleton _ _
    | _ :: _ :: _, e =>
      rw [List.length_cons, List.length_cons] at e
      omega
  · have hr2 : Room n X.A.in1.in1 := (show Room (n + 1) X.A.in1 from Room.in1 hr).in1
    have hle : s.heap.objs.size ≤ s.heap.objs.size + 1 := Nat.le_succ _
    have hfp : FpOk X pins H (s.heap.objs.size + 1) := I.fpOk hle (I.hok.fresh hle)
    -- each item: a reference of that type
    have ref_of : ∀ x ∈ xs, ∀ u, RelV x u → ∃ b dx ws, x = .ref b ∧ u = .ref b ∧ SlX.Slt H b C dx ws := fun x hm u ru => by
      obtain ⟨b, dx, ws, rfl, hsl⟩ := hx x hm
      exact ⟨b, dx, ws, rfl, ru, hsl⟩
    have back : ∀ u ∈ its, ∃ x ∈ xs, RelV x u := fun u hu => by
      obtain ⟨i, hi, e⟩ := List.mem_iff_getElem.mp hu
      have hi' : i < xs.length := by omega
      obtain ⟨u', e1, e2⟩ := rv.get (List.getElem?_eq_getElem hi')
      rw [List.getElem?_eq_getElem hi] at e1
      have := Option.some.inj e1
      rw [e] at this
      subst this
      exact ⟨_, List.getElem_mem hi', e2⟩
    refine sorted_ask (T := .ref C) (vs := its) hl.isList (by omega) (by omega) (fun h' k v hv => ?_) rfl (by simp) fun e1 h' k hD => ?_
    · obtain ⟨x, hxm, rx⟩ := back v hv
      obtain ⟨b, dx, ws, _, rfl, hsl⟩ := ref_of x hxm v rx
      have I0 : L2.Inv X pins σ H { s with heap := h' } := I.kept (t' := s.toks) k
      obtain ⟨sl, od, _, J, _⟩ := SlX.slt_inst I0 hsl
      exact J.type
    · -- the run
      have I0 : L2.Inv X pins σ H { s with heap := h' } := I.kept (t' := s.toks) k
      have I1 : L2.Inv X ((s.heap.objs.size + 1, seqObj "list" #[] e1) :: pins) σ H { s with heap := h' } := I0.pins_of fun p hp => by
        rcases List.mem_cons.mp hp with rfl | hp
        · exact ⟨hD, hfp.1, hfp.2.1, hfp.2.2.1, fun v z => nomatch z⟩
        · exact I0.pin p (List.mem_append_right _ hp)
      have I2 : L2.Inv X.nox ((s.heap.objs.size + 1, seqObj "list" #[] e1) :: pins) σ H { s with heap := h' } := I1.wish _
      have On : SrtO.Swo (fun i j : Nat => lt (xs.getD i .non) (xs.getD j .non)) := ⟨fun x y => O.asym _ _, fun x y z => O.tr _ _ _⟩
      have hgo := PkS.go_sort (n := its.length) On (by omega)
      refine PkS.Go.wp (P := fun s' => L2.Inv X.nox ((s.heap.objs.size + 1, seqObj "list" #[] e1) :: pins) σ H s') (fun i j Cc s' hi hj Is hc => ?_) hgo I2 fun p s' hp Is => ?_
      · -- one question
        have gi : xs[i]? = some (xs.getD i .non) := getD_get xs .non (by omega)
        have gj : xs[j]? = some (xs.getD j .non) := getD_get xs .non (by omega)
        have mi := List.mem_of_getElem? gi
        have mj := List.mem_of_getElem? gj
        obtain ⟨ui, e1i, ri⟩ := rv.get gi
        obtain ⟨uj, e1j, rj⟩ := rv.get gj
        have hui : its.getD i Value.none = ui := by
          rw [List.getD_eq_getElem?_getD, e1i]
          rfl
        have huj : its.getD j Value.none = uj := by
          rw [List.getD_eq_getElem?_getD, e1j]
          rfl
        obtain ⟨b, dx, ws, exi, rfl, hsl⟩ := ref_of _ mi ui ri
        obtain ⟨b', dx', ws', exj, rfl, hsl'⟩ := ref_of _ mj uj rj
        obtain ⟨sl, od, _, J, _⟩ := SlX.slt_inst Is hsl
        obtain ⟨m, hF⟩ := Is.fr
        show wpAny (model X.prog X.w) X.A.in1.in1 (keyLt' oneType' (its.getD i Value.none) (its.getD j Value.none)) Cc (fun _ _ => False) s'
        rw [hui, huj]
        refine PySem.W.kas_lt_inst hr2.units0 hF Is.ok.mod.kin J hs hf ?_
        have hrun := SlX.run_at (X := X.nox) (A := X.A.in1.in1) (E := E0) (us := [.ref b, .ref b']) (ws := [xs.getD i .non, xs.getD j .non]) (Q := fun z H' => z = .bl (lt (xs.getD i .non) (xs.getD j .non)) ∧ H' = H) F hr2 Is.env0.in1.in1 pass0 Is (.cons ri (.cons rj .nil)) (hsp _ mi _ mj _ ⟨rfl, rfl⟩)
        refine wpAny_mono (wpAny_call hrun) (fun w s2 z => ?_) fun _ _ x => x
        obtain ⟨z', H', I', rz, ez, eH⟩ := z
        subst ez
        subst eH
        cases (show w = Value.bool _ from rz)
        exact hc s2 I'
      · -- the end
        obtain ⟨pm, ps⟩ := hp
        have It : L2.Inv X ((s.heap.objs.size + 1, seqObj "list" #[] e1) :: pins) σ H s' := Is.unwish
        refine ⟨(It.pin _ (List.mem_append_right _ List.mem_cons_self)).1, fun h'' c sb hD'' => ?_⟩
        have Ip : L2.Inv X pins σ H s' := It.pins_of fun p hp => It.pin p (List.mem_append_right _ (List.mem_cons_of_mem _ hp))
        have hidx : ∀ i ∈ p.toList, i < xs.length := fun i hi => by
          have := List.mem_range.mp (pm.mem_iff.mp hi)
          omega
        have hv2 := vals_getD rv p.toList hidx
        have hperm : (p.toList.map fun i => xs.getD i .non).Perm xs := by
          have h1 := pm.map fun i => xs.getD i V.non
          rw [← hlen, map_range_getD] at h1
          exact h1
        refine ⟨.ref _, upd H (s.heap.objs.size + 1) (.lst (p.toList.map fun i => xs.getD i .non)), inv_become (t' := s'.toks) Ip (fun b o hb e => (sb.2 b hb).trans e) hfp ⟨by rw [hperm.length_eq]; exact hz, _, c, hv2, hD''⟩, rfl, q _ _ hperm ?_ hfp.1⟩
        rw [List.pairwise_map]
        exact ps
end
/-! ### xs != ys, item by item equal -/
section
open PySem.SeqAt GQ
open AutoSeq1 (wpAny_loadPart')
open MeetsSeq MeetsSeq2 MeetsSeq3 SeqRoads2
variable {prog : Program} {w : World} {A : Around} {R : Result → Shared → Prop}
theorem ne_loopG (l b : Addr) (N : Nat) (I : Nat → Shared → Prop) (hl : ListI prog w A (fun e s' => R (.error e) s') l b N I)
    (fin : ∀ s, I N s → R (.ok (.ret (.bool false))) s) (k : Nat) :
    ∀ i : Nat, N - i = k → i ≤ N → ∀ s, I i s →
      wpAny (model prog w) A.in1 (Builtin.«list.__eq__.loop» ⟨[.ref l, .ref b, rawInt i, rawInt 3], []⟩) (FinOf prog w A R) (fun e s' => R (.error e) s') s := by
  induction k with
  | zero =>
    intro i hk hi s h
    obtain ⟨items, items2, n, n2, hl1, hb1, hs1, hs2, _⟩ := hl _ _ h
    have hi' : i = N := by omega
    have hR : R (.ok (.ret (.bool false))) s := fin s (hi' ▸ h)
    obtain ⟨hp, g, d, tk, os⟩ := s
    wp_walk using wpAny_loadPart' hl1, wpAny_loadPart' hb1
    have hi1 : items[((i : Nat) : Int).toNat]? = none := by simp; omega
    have hi2 : items2[((i : Nat) : Int).toNat]? = none := by simp; omega
    rw [hi1, hi2]
    wp_walk using wpAny_loadPart' hl1, wpAny_loadPart' hb1
    show R (.ok (.ret (.bool (items.size != items2.size)))) _
    rw [hs1, hs2]
    simpa using hR
  | succ k ih =>
    intro i hk hi s h
    obtain ⟨items, items2, n, n2, hl1, hb1, hs1, hs2, turn⟩ := hl _ _ h
    have hlt : i < items.size := by omega
    have hlt2 : i < items2.size := by omega
    have ht := turn hlt hlt2
    obtain ⟨hp, g, d, tk, os⟩ := s
    wp_walk using wpAny_loadPart' hl1, wpAny_loadPart' hb1
    have hi1 : items[((i : Nat) : Int).toNat]? = some items[i] := by simp [hlt]
    have hi2 : items2[((i : Nat) : Int).toNat]? = some items2[i] := by simp [hlt2]
    have hc : ((i : Int) + 1) = ((i + 1 : Nat) : Int) := by omega
    rw [hi1, hi2]
    refine wpAny_bind (wpAny_mono ht (fun r s2 h2 => ?_) fun _ _ x => x)
    obtain ⟨hr, h2⟩ := h2
    subst hr
    have hrec := ih (i + 1) (by omega) (by omega) s2 h2
    obtain ⟨hp2, g2, d2, tk2, os2⟩ := s2
    wp_walk
    rw [hc]
    exact ⟨plainId_quiet plain_eq_loop _, codeAny_builtin entry_eq_loop (by
      rw [Around.under_plainId plain_eq_loop _]
      exact hrec)⟩
theorem list_neG (l b : Addr) (N : Nat) (I : Nat → Shared → Prop) (hl : ListI prog w A (fun e s' => R (.error e) s') l b N I)
    (fin : ∀ s, I N s → R (.ok (.ret (.bool false))) s) {s : Shared} (h : I 0 s) :
    wpAny (model prog w) A.in1 (Builtin.«list.__ne__» ⟨[.ref l, .ref b], []⟩) (FinOf prog w A R) (fun e s' => R (.error e) s') s := by
  obtain ⟨items, items2, n, n2, hl1, hb1, hs1, hs2, _⟩ := hl _ _ h
  have hrec := ne_loopG (A := A) (R := R) l b N I hl fin _ 0 rfl (Nat.zero_le _) s h
  obtain ⟨hp, g, d, tk, os⟩ := s
  have f3 := AutoSeq1.sub_list_list
  have hne : ¬ (items.size != items2.size) = true := by simp [hs1, hs2]
  wp_walk using wpAny_loadPart' hl1, wpAny_loadPart' hb1
  exact ⟨plainId_quiet plain_eq_loop _, codeAny_builtin entry_eq_loop (by
    rw [Around.under_plainId plain_eq_loop _]
    exact hrec)⟩
end
theorem rc_ne_listG {prog : Program} {w : World} {A : Around} {E : Value → Shared → Prop} {s : Shared} {l b : Addr} {N : Nat} {Q : Value → Shared → Prop} (hu : A.units < cLine) (I : Nat → Shared → Prop) (hl : GQ.ListI prog w A E l b N I)
    (fin : ∀ s, I N s → Q (.bool false) s) (h : I 0 s) : wpAny (model prog w) A (richCompare .NotEq (.ref l) (.ref b)) Q E s := by
  obtain ⟨items, items2, n, n2, hl1, hb1, _, _, _⟩ := hl _ _ h
  refine wpAny_richCompare_same_room (op := .NotEq) ⟨_, hl1, rfl⟩ ⟨_, hb1, rfl⟩ F.slot_list_ne (GQ.call_here F.slot_list_ne ⟨_, hl1, rfl⟩ F.entry_list_ne (F.args_list_ne_2 _ _) ?_) hu
  exact list_neG (R := wants (fun v s' => v ≠ .notImplemented ∧ Q v s') E) l b N I hl (fun s' q => ⟨(fun x => nomatch x), fin s' q⟩) h
section
variable {X : Cx} {n : Nat} {D : Eqv}
/-- xs != ys of two lists that are equal item by item: False -/
def rNeG (D : Eqv) : R2 := fun x y H Q => DList D x y H ∧ ∀ H', Ext H H' → Q (.bl false) H'
theorem op_neG (hD : Mon D) (h : EqG X n D) (hr : Room (n + 1) X.A) : OpR X (compareOp .NotEq) (rNeG D) := by
  intro pins s σ H x y v u Q I rx ry hq
  obtain ⟨⟨a, b, xs, ys, rfl, rfl, ha, hb, p⟩, q⟩ := hq
  cases (show v = Value.ref a from rx)
  cases (show u = Value.ref b from ry)
  have sb : Sub X (n + 1) X.A := ⟨hr, rfl⟩
  show wpAny (model X.prog X.w) X.A (richCompare .NotEq (.ref a) (.ref b)) (EP X pins σ Q) X.xe s
  refine rc_ne_listG (N := xs.length) hr.units0 (fun _ s' => LoopI X pins σ H s') (fun i s' q => ?_) (fun s' q' => ?_) ⟨H, I, Ext.rfl'⟩
  · obtain ⟨H1, I1, e1⟩ := id q
    obtain ⟨z, its, k, r, e⟩ := I1.hok a _ (e1 _ _ ha)
    obtain ⟨z2, its2, k2, r2, e2⟩ := I1.hok b _ (e1 _ _ hb)
    refine ⟨its.toArray, its2.toArray, k, k2, e, e2, by rw [List.size_toArray, ← r.length], by rw [List.size_toArray, ← r2.length, ← p.1], fun h1 h2 => ?_⟩
    exact turnG hD h sb p r r2 i h1 h2 s' q
  · obtain ⟨H', I', e⟩ := q'
    exact ⟨.bl false, H', I', rfl, q H' e⟩
/-- instances with slots of the class at C, by their own == -/
def DSlt (C : Addr) (R : Addr → Addr → Hp → Prop) : Eqv := fun x y H => ∃ a b dx dy vs ws, x = .ref a ∧ y = .ref b ∧ SlX.Slt H a C dx vs ∧ SlX.Slt H b C dy ws ∧ R a b H
theorem slt_ext {H H' : Hp} {a C dx : Addr} {vs : List (Option V)} (e : Ext H H') (h : SlX.Slt H a C dx vs) : SlX.Slt H' a C dx vs := by
  rcases h with ⟨h1, h2⟩ | ⟨h1, h2⟩
  · exact .inl ⟨e _ _ h1, h2⟩
  · exact .inr ⟨e _ _ h1, e _ _ h2⟩
theorem mon_slt {C : Addr} {R : Addr → Addr → Hp → Prop} (hR : ∀ a b H H', Ext H H' → R a b H → R a b H') : Mon (DSlt C R) := fun x y H H' e d => by
  obtain ⟨a, b, dx, dy, vs, ws, hx, hy, h1, h2, r⟩ := d
  exact ⟨a, b, dx, dy, vs, ws, hx, hy, slt_ext e h1, slt_ext e h2, hR a b H H' e r⟩
theorem rcG_slt {CX : CXT} {C g : Addr} {R : Addr → Addr → Hp → Prop} {E : XK} (F : FnR X.prog X.w X.K X.mg X.base CX n g (spEq R))
    (hs : PySem.W.findIn X.K (.ref C) "__eq__" = some (some (.ref g))) (hf : PySem.W.isFn X.K (.ref g) = true) (hx : Passes CX X E) : RcG X n (DSlt C R) := by
  intro A pins s σ H x y u v sb I rx ry d
  obtain ⟨a, b, dx, dy, vs, ws, rfl, rfl, ha, hb', hr⟩ := d
  cases (show u = Value.ref a from rx)
  cases (show v = Value.ref b from ry)
  obtain ⟨sl, od, _, J, _⟩ := SlX.slt_inst I ha
  obtain ⟨sl', od', _, J', _⟩ := SlX.slt_inst I hb'
  obtain ⟨m, hF⟩ := I.fr
  refine PySem.W.cmp_K (op := .Eq) (tb := .ref C) sb.room.units0 hF I.ok.mod.kin J J'.type (by simp [PySem.W.notFirst]) hs hf ?_
  have hsp : spEq R [.ref a, .ref b] H (fun v H' => v = .bl true ∧ Ext H H') E := ⟨a, b, rfl, hr, fun H' e => ⟨rfl, e⟩⟩
  have e0 : Env0 X.prog X.w X.K X.mg X.base A X.stack s H := by
    have e := I.env0
    exact ⟨by rw [sb.fr]; exact e.frames, e.mod, e.bs, e.bsz, e.funs, e.frf, e.hok, e.bare⟩
  refine wpAny_mono (wpAny_call (SlX.run_at (us := [.ref a, .ref b]) (ws := [.ref a, .ref b]) F sb.room e0 hx I (.cons rfl (.cons rfl .nil)) hsp)) (fun w s' z => ?_) fun _ _ x => x
  obtain ⟨z', H', I', rz, ez, ex⟩ := z
  subst ez
  cases (show w = Value.bool true from rz)
  exact ⟨rfl, H', I', ex⟩
theorem eqG_slt {CX : CXT} {C g : Addr} {R : Addr → Addr → Hp → Prop} {E : XK} (F : FnR X.prog X.w X.K X.mg X.base CX n g (spEq R))
    (hs : PySem.W.findIn X.K (.ref C) "__eq__" = some (some (.ref g))) (hf : PySem.W.isFn X.K (.ref g) = true) (hx : Passes CX X E) : EqG X n (DSlt C R) :=
  (rcG_slt F hs hf hx).eqG fun _ _ _ d => let ⟨a, b, _, _, _, _, hx, hy, _⟩ := d; ⟨a, b, hx, hy⟩
end
end PkR
end
section -- PkExc
set_option maxRecDepth 100000
set_option maxHeartbeats 4000000
/-! Own exceptions over a built-in's class whose __init__ says super().__init__(a text) and keeps its argument in one field; raised, caught by several clauses with a name. -/
namespace PkX
open PySem PySem.W PySem.Calls PyProof.Rows PySem.HandSPX
/-! ### the text of __init__ -/
def xA (fl : Str) (p1 p2 : Pos) : Arguments := { posonlyargs := [], args := [{ arg := "self", annotation := none, pos := p1 }, { arg := fl, annotation := none, pos := p2 }], vararg := none, kwonlyargs := [], kw_defaults := [], kwarg := none, defaults := [] }
def xB (fl msg : Str) (j : Nat) (q0 q1 q2 q3 q4 q5 r1 r2 r3 r4 : Pos) : List Stmt := [.Expr (.Call (.Attribute (.Call (.Name "super" q0) [] [] q1) "__init__" q2) [.Constant (.str msg) j q3] [] q4) q5, .Assign [.Attribute (.Name "self" r1) fl r2] (.Name fl r3) r4]
def xS (fl : Str) : Scope := { kind := .function, names := [(PySem.Str.ofString "self", .local), (fl, .local), (PySem.Str.ofString "__class__", .free), (PySem.Str.ofString "super", .globalImplicit)], isGenerator := false, isCoroutine := false, more := [] }
/-- what the written part says of the class x (at C), of its __init__ (at fI) -/
structure XTxt (K : Frag) (mg : Str → Option Value) (P : Program) (x fl : Str) (sB sN sI : String) (bmB : List Value) (C fI : Addr) : Prop where
  gC : mg x = some (.ref C)
  cls : ∃ nm q N bs sn sub ab col dd k0 k1 k2 k3 k5, K.lookup C = some (excClassObj nm q C N bs bmB true sn sub ab col dd k0 k1 k2 k3 k5 sN)
  along : alongIn K "__init__" bmB = some (some (.builtin sI))
  sa : findIn K (.ref C) "__setattr__" = some (some (.builtin "object.__setattr__"))
  ga : findIn K (.ref C) "__getattribute__" = some (some (.builtin "BaseException.__getattribute__"))
  gg : findIn K (.ref C) "__getattr__" = some none
  noN : findIn K (.ref C) fl = some none
  iC : findIn K (.ref C) "__init__" = some (some (.ref fI))
  tI : typeIn K (.ref fI) = some (.type "function")
  kC : keepIn K (.ref C) = true
  exC : subIn K (.ref C) (.type "BaseException") = some true
  sB : subIn K (.ref C) (.type sB) = some true
  tyC : typeIn K (.ref C) = some (.type "type")
  hdC : hasDictIn K C = true
  opq : nsIn K cStatics "thirdparty.any" = some none
  sup : mg "super" = none
  top : (P.main.scope.names.lookup ("super" : Str)).isSome = false
  fne : fl ≠ "self" ∧ fl ≠ "super" ∧ fl ≠ "__class__" ∧ fl ≠ "__debug__"
  fn : ∃ (oc doc pm ct : Value) (od an : Option Addr) (osl : Array (Option Value)) (cda cc : Addr) (p1 p2 : Pos) (msg : Str) (j : Nat) (q0 q1 q2 q3 q4 q5 r1 r2 r3 r4 : Pos) (qual : Str),
    K.lookup fI = some ⟨oc, od, .func (ksFn "__init__" qual (xA fl p1 p2) (xB fl msg j q0 q1 q2 q3 q4 q5 r1 r2 r3 r4) (xS fl) .none .none doc pm an (.ref cda) ct cc), osl⟩ ∧ (q2.endLine == q4.line) = true ∧ codeIn K (.ref cda) qual = true ∧
    (∃ (ccl : Value) (cdd : Option Addr) (vs : Array Value) (ccs : Array (Option Value)) (file : Str) (tf : Tok), K.lookup cda = some ⟨ccl, cdd, .fields vs, ccs⟩ ∧ vs[2]? = some (.str file tf) ∧ ((P.main.file : Str) == file) = true) ∧
    ∃ (cl : Value) (cld : Option Addr) (csl : Array (Option Value)), K.lookup cc = some ⟨cl, cld, .cell (some (.ref C)), csl⟩

/-- a store on an exception that has no dict yet, its class straight over a built-in one -/
theorem osa_new {prog : Program} {w : World} {A : Around} {R : Result → Shared → Prop} {hp : Heap} {g : Array GenState} {d : Drawn} {t : Nat} {os : OsState} {K : Frag} {name : Str} {tk : Tok} {v : Value} {x C : Addr} {fv : Array Value} {cd : ClassData} {sB : String} {bmB : List Value}
    (SFB : StoreFacts sB bmB "object.__setattr__" "object") (X : K.In hp) (hx : hp.get? x = some { cls := .ref C, data := .fields fv }) (hcd : clsIn K C = some cd) (hm : cd.mro = .ref C :: bmB) (hh : cd.hasDict = true) (ha : findIn K (.ref C) name = some none)
    (hq : ∀ h' tk' dx, (∀ b o, b ≠ x → hp.get? b = some o → h'.get? b = some o) → hp.objs.size ≤ dx → dx ≠ x → h'.get? x = some { cls := .ref C, dict := some dx, data := .fields fv } →
      h'.Ns1 dx (fun y => if y = name then some v else none) → R (.ok (.ret .none)) ⟨h', g, d, tk', os⟩) :
    codeAny (model prog w) A (.call (.builtin "object.__setattr__") ⟨[.ref x, .str name tk, v], []⟩) R ⟨hp, g, d, t, os⟩ := by
  have I : InstAt hp x { cls := .ref C, data := .fields fv } C none := ⟨hx, rfl, rfl, trivial⟩
  have SF := F.store_object
  have hob : cd.mro.contains (.type "object") = true := by rw [hm, List.contains_cons, SFB.hasOwner, Bool.or_true]
  have ne : cd.mro.isEmpty = false := by rw [hm]; rfl
  have hxs : x ≠ hp.objs.size := Nat.ne_of_lt (Heap.lt_size hx)
  have sub : Looks (model prog w) hp (isInstance (.ref x) (.type "object")) true := I.type.andThen (looks_mroIn X (by unfold mroIn; rw [hcd, Option.bind_some, if_neg (by rw [ne]; decide), hob]))
  refine codeAny_call_builtin SF.slot.plain SF.entry (@W.check_slot (model prog w) _ _ ⟨hp, g, d, t, os⟩ "object.__setattr__" "object" "__setattr__" (.ref x) [.str name tk, v] [] _ SF.kind SF.split sub (SF.args (.ref x) (.str name tk) v) ?_)
  have hmr : Looks (model prog w) hp (mroOf (.ref C)) cd.mro := (looks_clsIn X hcd).andThen .now
  have L3 : Looks (model prog w) hp (Builtin.ObjectAttr.storeTaker? none) none := .now
  have hcls : Looks (model prog w) hp (classData C) cd := looks_clsIn X hcd
  have hpass : refuseLoop (.ref x) "__setattr__" cd.mro = pure () := by
    rw [hm, refuseLoop_ref]
    exact SFB.passes _
  rw [osa_eq, refuse_eq]
  refine wpAny_bind (wpAny_bind (I.type.at (wpAny_bind (hmr.at ?_))))
  rw [hpass]
  refine wpAny_pure (wpAny_bind (I.type.at (wpAny_bind ((looks_findIn X ha).at (wpAny_bind (L3.at ?_))))))
  show wpAny _ _ (Builtin.ObjectAttr.storeInOwnDict (.ref x) (.ref C) (.str name tk) name v false) _ _ _
  obtain ⟨nm, bs, mro, ns, qn, hd, sn, sb, ab, col, del⟩ := cd
  dsimp only at hh
  subst hh
  unfold Builtin.ObjectAttr.storeInOwnDict Builtin.ObjectAttr.ownDictForStores
  repeat (first | with_reducible refine HandSPX.store_in_new ?_ ?_ | with_reducible refine wpAny_loadPart_at hx ?_ | with_reducible refine hcls.at ?_ | wp_step)
  · exact ⟨_, #[], _, (Heap.get?_update_ne _ _ _ _ hxs.symm).trans (Heap.get?_push_at rfl rfl), rfl, fun e he => absurd he (by simp), fun _ => rfl⟩
  · intro h' tk' hn' hs
    have hx₁ : (hp.push { cls := .type "dict", data := .dict #[] }).get? x = some { cls := .ref C, data := .fields fv } := Heap.get?_push_of_some _ hx
    refine hq h' tk' hp.objs.size (fun b o hb ho => ?_) (Nat.le_refl _) hxs.symm ?_ hn'
    · exact (hs.2 b (Nat.ne_of_lt (Heap.lt_size ho))).trans ((Heap.get?_update_ne _ _ _ _ hb).trans (Heap.get?_push_of_some _ ho))
    · exact (hs.2 x hxs).trans (Heap.get?_update_self _ hx₁ rfl)
/-- the built-in __init__, bound to a fresh instance, called: the args are laid anew -/
theorem call_bw {prog : Program} {w : World} {A : Around} {E : Value → Shared → Prop} {h : Heap} {g : Array GenState} {d : Drawn} {t : Nat} {os : OsState} {nm q : Str} {C N : Addr} {bs bm bmB : List Value} {hdct : Bool} {sn : List Str} {sub : List Value} {ab : Bool} {col : Option Bool} {dd : Option Addr} {k0 k1 k2 k3 k5 : Option Value}
    {sB sN sI : String} (FB : ExcBaseFacts sB sN sI bmB) {u e t0 : Addr} {rest : List Value} {Q : Value → Shared → Prop}
    (hC : h.get? C = some (excClassObj nm q C N bs bm hdct sn sub ab col dd k0 k1 k2 k3 k5 sN)) (he : h.get? e = some (HandSPX.excO C t0)) (hu : h.get? u = some (kxs_mw sI e)) (hrest : rest.length ≤ sizeLine)
    (hq : ∀ h' t1, (∀ b o, b ≠ e → h.get? b = some o → h'.get? b = some o) → h'.get? e = some (HandSPX.excO C t1) → Q .none ⟨h', g, d, t, os⟩) :
    wpAny (model prog w) A (call (.ref u) rest) Q E ⟨h, g, d, t, os⟩ := by
  refine wpAny_call (codeAny_of_tree ?_)
  show wpAny _ A.in1 (callAny (.ref u) ⟨rest, []⟩) _ _ _
  simp only [callAny]
  refine wpAny_bind (wpAny_load hu ?_)
  simp only [kxs_mw, show (Value.type "method-wrapper" == Value.type "method" || Value.type "method-wrapper" == Value.type "builtin_function_or_method" || Value.type "method-wrapper" == Value.type "method-wrapper") = true by decide, if_true]
  refine KFB.if_so (by decide) ?_
  refine wpAny_bind (check_bound_init FB.toExcCallFacts hC he rfl ?_)
  refine wpAny_bind (wpAny_pure (wpAny_pure ?_))
  refine ⟨plainId_quiet FB.init.plain _, codeAny_builtin FB.initEntry ?_⟩
  exact exc_init_tree (cls := .ref C) (t0 := t0) (dv := none) (c2 := .none) (c3 := .none) (b4 := .bool false) he hrest fun h' k e' _ => hq h' _ k e'

theorem ldL {M : Model} {s : Shared} {A : Around} {E : Value → Shared → Prop} {env : Env} {m : Str → Option Value} {x : Str} {pos : Pos} {v : Value} {Q : Value → Shared → Prop} (hn : s.heap.Ns env.locals m) (hv : m x = some v) (h : Q v s)
    (hk : env.scope.kind = .function) (hl : env.kindOf x = some .local) (hd : (x == ("__debug__" : Str)) = false) : wpAny M A (eval (.Name x pos) env) Q E s := wpAny_Name (wpAny_loadName_local hk hl hn hv h) hd
theorem xS_loc (fl : Str) : (xS fl).names.lookup fl = some .local := by
  by_cases h : fl = "self"
  · subst h
    rfl
  · show List.lookup fl ((PySem.Str.ofString "self", NameKind.local) :: (fl, NameKind.local) :: _) = _
    rw [List.lookup_cons, show (fl == PySem.Str.ofString "self") = false from by simpa using h, List.lookup_cons, show (fl == fl) = true from by simp]

theorem meth_eval {o : Expr} {name msg : Str} {j : Nat} {q3 apos pos : Pos} {env : Env} (h : (apos.endLine == pos.line) = true) : eval (.Call (.Attribute o name apos) [.Constant (.str msg) j q3] [] pos) env = (do
      let ov ← attributeBase o name env (eval o env)
      standAt apos.atName
      let (f, first) ← holding [ov] (getMethod ov name (do return (← importBound o env).getD true))
      callWith pos f first (backTo pos (starEach [.Constant (.str msg) j q3] env)) []) := by
  rw [eval]
  have e1 : methodCallForm ([Expr.Constant (.str msg) j q3].length + ([] : List Keyword).length) (backTo pos (starEach [.Constant (.str msg) j q3] env)) (backToKw pos (keywordEach [] env)) = true := rfl
  unfold methodCall
  rw [e1]
  have e2 : methodCallPos true o env apos pos = pure pos := by
    unfold methodCallPos
    simp [h]
  rw [e2]
  rfl
/-- for a field of a known name: the arguments are bound, no name is a cell -/
def BindOk (fl : Str) : Prop := (∀ (qual msg : Str) (p1 p2 : Pos) (j : Nat) (q0 q1 q2 q3 q4 q5 r1 r2 r3 r4 : Pos) (doc pm ct : Value) (an : Option Addr) (cda cc : Addr) (u v : Value),
    bindArgs (ksFn "__init__" qual (xA fl p1 p2) (xB fl msg j q0 q1 q2 q3 q4 q5 r1 r2 r3 r4) (xS fl) .none .none doc pm an (.ref cda) ct cc) ⟨[u, v], []⟩ = pure [(("self" : Str), u), (fl, v)]) ∧ (∀ y ∈ (xS fl).names, y.2 ≠ .cell)
theorem bind_reason : BindOk "reason" := ⟨fun _ _ _ _ _ _ _ _ _ _ _ _ _ _ _ _ _ _ _ _ _ _ _ => by first | rfl | with_unfolding_all rfl, by decide⟩
theorem bind_limit : BindOk "limit" := ⟨fun _ _ _ _ _ _ _ _ _ _ _ _ _ _ _ _ _ _ _ _ _ _ _ => by first | rfl | with_unfolding_all rfl, by decide⟩
theorem boot_super : bootBuiltins "super" = some (.type "super") := by first | boot_by_name | rfl | kernel_rfl
theorem along_tail {K : Frag} {C : Addr} {bm : List Value} : ((Value.ref C :: bm).dropWhile (· != .ref C)).drop 1 = bm := by simp [List.dropWhile_cons]
theorem xt_init {prog : Program} {w : World} {A : Around} {R : Result → Shared → Prop} {s : Shared} {K : Frag} {mg : Str → Option Value} {x fl : Str} {sB sN sI : String} {bmB : List Value} {C fI : Addr} (BO : BindOk fl) (FB : ExcBaseFacts sB sN sI bmB) (KF : KxsFacts sB sI)
    (SFB : StoreFacts sB bmB "object.__setattr__" "object") (T : XTxt K mg prog x fl sB sN sI bmB C fI) {base : Heap} (M : L2.Mod K mg base) {e t0 : Addr} {v : Value} (kb : ∀ b o, base.get? b = some o → s.heap.get? b = some o) (ne : base.get? e = none) (hlim : s.heap.NoLimit)
    (hx : s.heap.get? e = some (excO C t0)) (hroom : A.depth < recursionLimit)
    (hq : ∀ h' tk dx t1, (∀ b o, b ≠ e → s.heap.get? b = some o → h'.get? b = some o) → h'.get? e = some ({ cls := .ref C, dict := some dx, data := .fields #[.ref t1, .none, .none, .none, .bool false, .none] } : Obj) → s.heap.objs.size ≤ dx → dx ≠ e →
      h'.Ns1 dx (fun y => if y = fl then some v else none) → R (.ok (.ret .none)) { s with heap := h', toks := tk }) :
    codeAny (model prog w) A (.call (.ref fI) ⟨[.ref e, v], []⟩) R s := by
  obtain ⟨oc, doc, pm, ct, od, an, osl, cda, cc, p1, p2, msg, j, q0, q1, q2, q3, q4, q5, r1, r2, r3, r4, qual, ho, hpos, hcd, ⟨ccl, cdd, vs, ccs, file, tf, hcode, hvs, hfile⟩, cl, cld, csl, hcell⟩ := T.fn
  obtain ⟨nm, q, N, bs, sn, sub, ab, col, dd, k0, k1, k2, k3, k5, hC⟩ := T.cls
  obtain ⟨mb, hblt, hmb⟩ := M.blt
  have X : K.In s.heap := M.kin.keeps kb
  have nK : K.lookup e = none := by
    cases z : K.lookup e with
    | none => rfl
    | some o =>
      have := M.kin e o z
      rw [ne] at this
      cases this
  have eC : e ≠ C := fun z => by
    rw [z, hC] at nK
    cases nK
  have hcl : clsIn K C = some { name := nm, bases := bs, mro := .ref C :: bmB, ns := N, qualname := q, hasDict := true, slotNames := sn, subclasses := sub, abstract := ab, collection := col, hasDel := false } := by unfold clsIn; rw [hC] <;> rfl
  refine ks_codeAny_call_defAt (fd := ksFn "__init__" qual (xA fl p1 p2) (xB fl msg j q0 q1 q2 q3 q4 q5 r1 r2 r3 r4) (xS fl) .none .none doc pm an (.ref cda) ct cc) (body := xB fl msg j q0 q1 q2 q3 q4 q5 r1 r2 r3 r4) (binds := [(("self" : Str), .ref e), (fl, v)]) hroom (X _ _ ho) rfl hlim (codeRec_of X hcd) rfl (BindsTo.of_eq (BO.1 _ _ _ _ _ _ _ _ _ _ _ _ _ _ _ _ _ _ _ _ _ _ _)) BO.2 ?hlocs (fun h₁ hns hk₁ => ?_) rfl rfl rfl
  case hlocs =>
    intro y hy
    rcases List.mem_cons.mp hy with rfl | hy
    · rfl
    · rcases List.mem_singleton.mp hy with rfl
      exact xS_loc fl
  obtain ⟨hp, g, d, tk, os⟩ := s
  dsimp only at hx kb X hns hk₁ hlim hq ⊢
  have X₁ : K.In h₁ := X.keeps hk₁
  have hlt := Heap.lt_size hx
  have hself : (fun y => List.lookup y [(("self" : Str), Value.ref e), (fl, v)].reverse) ("self" : Str) = some (.ref e) := by
    show List.lookup ("self" : Str) [(fl, v), (("self" : Str), Value.ref e)] = _
    rw [List.lookup_cons, show (("self" : Str) == fl) = false from by simpa using fun z => T.fne.1 z.symm]
    rfl
  have hfl : (fun y => List.lookup y [(("self" : Str), Value.ref e), (fl, v)].reverse) fl = some v := by
    show List.lookup fl [(fl, v), (("self" : Str), Value.ref e)] = _
    rw [List.lookup_cons, show (fl == fl) = true from by simp]
  have hsupS : (xS fl).names.lookup ("super" : Str) = some .globalImplicit := by
    show List.lookup ("super" : Str) ((PySem.Str.ofString "self", NameKind.local) :: (fl, NameKind.local) :: _) = _
    rw [List.lookup_cons, show (("super" : Str) == PySem.Str.ofString "self") = false from by decide, List.lookup_cons, show (("super" : Str) == fl) = false from by simpa using fun z => T.fne.2.1 z.symm]
    rfl
  have hclsS : (xS fl).names.lookup ("__class__" : Str) = some .free := by
    show List.lookup ("__class__" : Str) ((PySem.Str.ofString "self", NameKind.local) :: (fl, NameKind.local) :: _) = _
    rw [List.lookup_cons, show (("__class__" : Str) == PySem.Str.ofString "self") = false from by decide, List.lookup_cons, show (("__class__" : Str) == fl) = false from by simpa using fun z => T.fne.2.2.1 z.symm]
    rfl
  have hselfS : (xS fl).names.lookup ("self" : Str) = some .local := rfl
  have hb1 : ∀ b o, base.get? b = some o → h₁.get? b = some o := fun b o z => hk₁ b o (kb b o z)
  have hsubC : mroIn K C (.ref C) = some true := by
    unfold mroIn
    rw [hcl, Option.bind_some]
    show (if (Value.ref C :: bmB).isEmpty = true then none else some ((Value.ref C :: bmB).contains (.ref C))) = some true
    rw [List.contains_cons]
    simp
  have hC₁ := X₁ _ _ hC
  have hx₁ := hk₁ _ _ hx
  refine ks_wpAt_execs_cons (ks_wpAt_Expr_any (ks_wpAt_MethodCall ?_ (meth_eval hpos)))
  refine ks_wpAt_super_base (f := fI) (cc := cda) hsupS hclsS (by decide) rfl (X₁ _ _ ho) rfl rfl rfl (X₁ _ _ hcode) rfl hvs hfile T.top ?_
  refine ks_loadName_global rfl hsupS (loadGlobal_builtin (M.glob.keeps hb1) T.sup (hblt.keeps hb1) ((hmb _ (by decide)).trans boot_super) ⟨rfl, ?_⟩)
  refine wpAny_loadName_free (c := cc) rfl hclsS rfl ⟨_, X₁ _ _ hcell, rfl⟩ ?_
  refine wpAny_loadName_local (v := .ref e) rfl hselfS hns hself ?_
  refine ks_wpAny_isType_cls hC₁ rfl ⟨rfl, ?_⟩
  refine ks_wpAny_call_super hC₁ rfl hx₁ rfl (fun c z => by cases z) (looks_mroIn X₁ hsubC) (fun h₂ hso k₂ => ?_)
  have X₂ : K.In h₂ := X₁.keeps k₂
  have hx₂ := k₂ _ _ hx₁
  have I₂ : InstAt h₂ e (excO C t0) C none := ⟨hx₂, rfl, rfl, trivial⟩
  have hmr : Looks (model prog w) h₂ (mroOf (.ref C)) (.ref C :: bmB) := fun A Q E s k q => wpAny_bind ((looks_clsIn X₂ hcl) A _ E s k (wpAny_pure q))
  refine kxs_getMethod KF hso (looks_opaque X₂ T.opq) hmr (along_tail (K := K)) X₂ T.along (I₂.type.andThen (looks_subIn X₂ T.sB)) eC (by decide) ?_
  refine kxs_callWith (i := sI) (x := e) rfl ?_
  refine evalArgs_plain (spliced_cons (Constant_str (k := j) (pos := q3) (spliced_nil ⟨?_, ?_⟩)))
  · exact Heap.get?_push_at rfl rfl
  have k₃ : ∀ b o, h₂.get? b = some o → (h₂.push (kxs_mw sI e)).get? b = some o := fun b o z => Heap.get?_push_of_some _ z
  refine call_bw FB (X₂.keeps k₃ _ _ hC) (k₃ _ _ hx₂) (Heap.get?_push_at rfl rfl) (by rw [sizeLine_eq]; exact (by decide : 1 ≤ 16777216)) (fun h₄ t1 k₄ hx₄ => ?_)
  have kall : ∀ b o, b ≠ e → hp.get? b = some o → h₄.get? b = some o := fun b o hb z => k₄ b o hb (k₃ _ _ (k₂ _ _ (hk₁ _ _ z)))
  have X₄ : K.In h₄ := fun b o z => k₄ b o (fun y => by rw [y, nK] at z; cases z) (k₃ _ _ (X₂ _ _ z))
  have hnsL : h₄.Ns hp.objs.size (fun y => List.lookup y [(("self" : Str), Value.ref e), (fl, v)].reverse) := by
    obtain ⟨oL, es, ep, hL, r⟩ := hns
    exact ⟨oL, es, ep, k₄ _ _ (Nat.ne_of_gt hlt) (k₃ _ _ (k₂ _ _ hL)), r⟩
  refine wpAt_of_wpAny ?_
  refine wpAny_execs_cons (plainObj_wpAny_Assign_Attribute ?_)
  refine ldL (v := v) hnsL hfl (ldL (v := .ref e) hnsL hself ?_ rfl hselfS (by decide)) rfl (xS_loc fl) (by simpa using T.fne.2.2.2)
  refine set_plain X₄ (ox := excO C t1) (od := none) ⟨hx₄, rfl, rfl, trivial⟩ T.sa ?_
  refine osa_new SFB X₄ hx₄ hcl rfl rfl T.noN (fun h₅ tk₅ dx k₅ dn dne hx₅ hn₅ => ?_)
  refine wpAny_execs_nil (hq h₅ tk₅ dx t1 (fun b o hb z => k₅ b o hb (kall b o hb z)) hx₅ ?_ dne hn₅)
  exact Nat.le_trans (Nat.le_of_lt hnsL.lt) dn

/-- a made one -/
structure Made (h h' : Heap) (fl : Str) (e C d : Addr) (v : Value) : Prop where
  keep : ∀ b o, h.get? b = some o → h'.get? b = some o
  new : h.objs.size ≤ e
  obj : ∃ oe vs, h'.get? e = some oe ∧ oe.cls = .ref C ∧ oe.dict = some d ∧ oe.data = .fields vs ∧ vs[1]? = some .none
  dbig : h.objs.size ≤ d
  dne : d ≠ e
  ns : h'.Ns1 d (fun y => if y = fl then some v else none)
theorem xt_made {prog : Program} {w : World} {A : Around} {R : Result → Shared → Prop} {s : Shared} {K : Frag} {mg : Str → Option Value} {x fl : Str} {sB sN sI : String} {bmB : List Value} {C fI : Addr} (BO : BindOk fl) (FB : ExcBaseFacts sB sN sI bmB) (KF : KxsFacts sB sI)
    (SFB : StoreFacts sB bmB "object.__setattr__" "object") (T : XTxt K mg prog x fl sB sN sI bmB C fI) {base : Heap} (M : L2.Mod K mg base) {v : Value} (kb : ∀ b o, base.get? b = some o → s.heap.get? b = some o) (hlim : s.heap.NoLimit) (hroom : A.depth + 1 < recursionLimit)
    (hq : ∀ h' tk e d, Made s.heap h' fl e C d v → R (.ok (.ret (.ref e))) { s with heap := h', toks := tk }) :
    codeAny (model prog w) A (.call (.ref C) ⟨[v], []⟩) R s := by
  obtain ⟨nm, q, N, bs, sn, sub, ab, col, dd, k0, k1, k2, k3, k5, hC⟩ := T.cls
  obtain ⟨hp, g, dr, tk, os⟩ := s
  dsimp only at kb hlim hq
  have X : K.In hp := M.kin.keeps kb
  have k : ∀ b o, hp.get? b = some o → ((hp.push (kdv_tup [v])).push (excO C hp.objs.size)).get? b = some o := fun b o e => Heap.get?_push_of_some _ (Heap.get?_push_of_some _ e)
  have hget : ((hp.push (kdv_tup [v])).push (excO C hp.objs.size)).get? (hp.objs.size + 1) = some (excO C hp.objs.size) := by heap_get
  have hnx : base.get? (hp.objs.size + 1) = none := by
    cases e : base.get? (hp.objs.size + 1) with
    | none => rfl
    | some o =>
      have z : hp.get? (hp.objs.size + 1) = some o := kb _ _ e
      exact absurd (Nat.lt_of_succ_lt (Heap.lt_size z)) (Nat.lt_irrefl _)
  refine call_own FB (fun X => rfl) (X _ _ hC) (looks_findIn X T.iC) (fun self => bind_fn X self T.tI) (by rw [sizeLine_eq]; exact (by decide : 1 ≤ 16777216)) ?_
  refine xt_init (s := ⟨(hp.push (kdv_tup [v])).push (excO C hp.objs.size), g, dr, tk, os⟩) (t0 := hp.objs.size) BO FB KF SFB T M (fun b o z => k _ _ (kb b o z)) hnx (hlim.keeps k) hget ?_ fun h' tk' dx t1 k' hx dn dne hns => ?_
  · show A.depth + 1 < recursionLimit
    exact hroom
  · have old : ∀ b o, hp.get? b = some o → h'.get? b = some o := fun b o e => k' b o (Nat.ne_of_lt (Nat.lt_succ_of_lt (Heap.lt_size e))) (k b o e)
    have z : hp.objs.size + 1 + 1 ≤ dx := by
      first
        | (simpa only [Heap.size_push] using dn)
        | exact dn
        | (have q := dn; rw [Heap.size_push, Heap.size_push] at q; exact q)
    exact ⟨rfl, hq h' tk' (hp.objs.size + 1) dx ⟨old, Nat.le_succ _, ⟨_, _, hx, rfl, rfl, rfl, rfl⟩, Nat.le_trans (Nat.le_trans (Nat.le_succ _) (Nat.le_succ _)) z, dne, hns⟩⟩
end PkX
namespace PkX
open PySem PySem.Spec PyProof.Rows L2
theorem relO_one {fl : Str} {v : V} {v' : Value} (r : RelV v v') (f : Str) : RelO (List.lookup f [(fl, v)]) (if f = fl then some v' else none) := by
  by_cases hw : f = fl
  · subst hw
    rw [if_pos rfl]
    have q : List.lookup f [(f, v)] = some v := by simp [List.lookup]
    rw [q]
    exact r
  · rw [if_neg hw]
    have qw : (f == fl) = false := by simpa using hw
    have q2 : List.lookup f [(fl, v)] = none := by simp [List.lookup, qw]
    rw [q2]
    trivial
/-- all that is known of one exception class -/
structure XCls (K : PySem.W.Frag) (mg : Str → Option Value) (P : Program) (x fl : Str) (C : Addr) : Prop where
  ex : ∃ (sB sN sI : String) (bmB : List Value) (fI : Addr), ExcBaseFacts sB sN sI bmB ∧ PySem.W.KxsFacts sB sI ∧ StoreFacts sB bmB "object.__setattr__" "object" ∧ XTxt K mg P x fl sB sN sI bmB C fI
  bo : BindOk fl
  te : PySem.W.exmOne K (.ref C) (.ref C) = some true
section
variable {X : Cx} {C : Addr} {x fl : Str}
/-- x(e) -/
def tMkX (fl : Str) (C : Addr) (ta : TA) : L2.St → Hp → XK → Prop := fun σ H Q => ta σ H fun vs H1 => ∃ v, vs = [v] ∧ ∀ d, H1 d = none → Q (.ref C) (some d) (upd H1 d (.xd [(fl, v)]))
theorem pmk_x {a : Expr} {ta : TA} {p pos : Pos} {k : Nat} (T : XCls X.K X.mg X.prog x fl C) (hr : Room k X.A) (ha : PA X [a] ta) (hg : Gl X x) (hd : (x == ("__debug__" : Str)) = false := by decide)
    (he : starEach (a :: []) X.env = (false, eval a X.env) :: starEach [] X.env := by rfl) (hpl : (backTo pos (starEach [] X.env)).any (·.1) = false := by rfl) :
    PMk X (.Call (.Name x p) [a] [] pos) (tMkX fl C ta) := by
  intro pins s σ H Q I h
  obtain ⟨⟨sB, sN, sI, bmB, fI, FB, KF, SFB, TX⟩, BO, _⟩ := T
  refine wpAny_Call_Name_kw (ld_glob I hg TX.gC ?_ hd)
  refine PySem.W.callWith_K (h₀ := X.base) I.ok.mod.kin TX.kC (thn (ha.run pos pins s σ H _ I h) fun us s1 hh => ?_) he hpl
  obtain ⟨vs, H1, I1, r1, v, ev, q1⟩ := hh
  subst ev
  refine ⟨I1.kIn, ?_⟩
  cases r1 with
  | cons rv rn =>
    rename_i v' us'
    cases rn
    show wpAny _ _ (call (.ref C) [v']) _ _ _
    have hlim := I1.nolimit
    have kb := I1.bk
    obtain ⟨hp, g, dr, tk, os⟩ := s1
    refine wpAny_call (xt_made BO FB KF SFB TX I1.ok.mod kb hlim (by have := hr.dp; omega) fun h' tk' e d M => ?_)
    show MkP X pins σ Q (.ref e) ⟨h', g, dr, tk', os⟩
    obtain ⟨oe, fv, hoe, hc, hd, hdat, h1⟩ := M.obj
    have hns := M.ns
    obtain ⟨G', g1, g2⟩ := restrict h' fun b => decide (b ≠ e)
    have gk : ∀ b, b ≠ e → G'.get? b = h'.get? b := fun b hb => g1 b (decide_eq_true hb)
    have ge : G'.get? e = none := g2 e (by simp)
    have old : ∀ b o, hp.get? b = some o → G'.get? b = some o := fun b o q => (gk b (Nat.ne_of_lt (Nat.lt_of_lt_of_le (Heap.lt_size q) M.new))).trans (M.keep b o q)
    have ob : ObjOk X.prog X.w (upd H1 d (.xd [(fl, v)])) G' d (.xd [(fl, v)]) :=
      ⟨_, hns.at (fun o q => (gk d M.dne).trans q), fun f => relO_one rv f⟩
    have J : Inv X pins σ (upd H1 d (.xd [(fl, v)])) ⟨G', g, dr, tk', os⟩ := I1.laid (t' := tk') old M.dbig ob
    refine ⟨e, oe, fv, ⟨G', g, dr, tk', os⟩, _, .ref C, some d, rfl, J, fun b o q => ?_, ge, hoe, ⟨hc, hd⟩, hdat, h1, ?_, rfl, I1.bare, raises_own TX.exC TX.tyC, q1 d (I1.hok.fresh M.dbig)⟩
    · by_cases hb : b = e
      · have q' : G'.get? b = some o := q
        rw [hb, ge] at q'; cases q'
      · exact (gk b hb).symm.trans q
    · rw [upd_ne (Ne.symm M.dne)]
      exact I1.hok.fresh M.new
/-- raise x(e) -/
def tRaiseX (fl : Str) (C : Addr) (W : WX) (ta : TA) : TS := fun _ σ H => tMkX fl C ta σ H fun cls d H' => W cls d σ H'
theorem ps_raiseX {a : Expr} {ta : TA} {W : WX} {p pos pos2 : Pos} {k : Nat} (hc : X.calm = true) (T : XCls X.K X.mg X.prog x fl C) (hr : Room k X.A) (tk : Takes X W) (ha : PA X [a] ta) (hg : Gl X x) (hd : (x == ("__debug__" : Str)) = false := by decide)
    (he : starEach (a :: []) X.env = (false, eval a X.env) :: starEach [] X.env := by rfl) (hpl : (backTo pos (starEach [] X.env)).any (·.1) = false := by rfl) :
    PS X (.Raise (some (.Call (.Name x p) [a] [] pos)) none pos2) (tRaiseX fl C W ta) := ps_raise hc tk (pmk_x T hr ha hg hd he hpl)
/-- e.fl, e the exception that the suite holds (at a; its class cls, its dict d) -/
def tFldX (fl : Str) (C : Addr) (a : Addr) (cls : Value) (d : Option Addr) (te : TE) : TE := fun σ H Q => te σ H fun x H1 => x = .ref a ∧ cls = .ref C ∧ ∃ (dd : Addr) (v : V), d = some dd ∧ H1 dd = some (.xd [(fl, v)]) ∧ Q v H1
theorem pe_fldX {a : Addr} {oe : Obj} {cls : Value} {d : Option Addr} {pn : List (Addr × Obj)} {e : Expr} {te : TE} {pos : Pos} (T : XCls X.K X.mg X.prog x fl C) (hz : Zc cls d oe) (hf : ∃ vs, oe.data = .fields vs) (he : PE (X.suite a ((a, oe) :: pn)) e te)
    (hb : attributeBase e fl X.env (eval e X.env) = eval e X.env := by rfl) :
    PE (X.suite a ((a, oe) :: pn)) (.Attribute e fl pos) (tFldX fl C a cls d te) := by
  obtain ⟨⟨sB, sN, sI, bmB, fI, FB, KF, SFB, TX⟩, BO, _⟩ := T
  refine ⟨fun pins s σ H Q I h => ?_⟩
  refine attr_of hb (thn (he.run pins s σ H _ I h) fun u s1 hh => ?_)
  obtain ⟨x, H1, I1, rx, ex, ec, dd, v, ed, ea, q⟩ := hh
  subst ex
  obtain rfl : u = Value.ref a := rx
  subst ec
  subst ed
  obtain ⟨ha, _⟩ := I1.pin (a, oe) (List.mem_append_left _ List.mem_cons_self)
  obtain ⟨vs, hd⟩ := hf
  have hx : ObjOk X.prog X.w H1 s1.heap dd (.xd [(fl, v)]) := I1.hok dd _ ea
  obtain ⟨mA, hns, hr⟩ := hx
  obtain ⟨od, ho, hl⟩ := lookIn_ns hns
  have l : List.lookup fl [(fl, v)] = some v := by simp [List.lookup]
  obtain ⟨u, hu, ru⟩ := RelO.some_of (v := v) (o := mA fl) (by rw [← l]; exact hr fl)
  have J : PySem.W.InstAt s1.heap a oe C (some od) := ⟨ha, hz.1, by unfold PySem.W.notCls; rw [hd] <;> rfl, by rw [hz.2]; exact ho⟩
  exact HandSPX.exc_get I1.kIn J TX.ga TX.gg TX.exC (PySem.W.findObj_own TX.hdC TX.noN rfl (by rw [hl, hu])) (handed_of ru) ⟨v, H1, I1.tok _, ru, q⟩
end
end PkX
end
section -- PkTry
set_option maxRecDepth 100000
set_option maxHeartbeats 4000000
/-! several except clauses, each with the same name behind its as (slot i): HandS.TryMany's rule and HandS.Exc's, turned into one -/
namespace PkX
open PySem PySem.Spec PyProof.Rows L2
def gone1 (i : Nat) (D : Ends) : Ends := { nx := fun σ' H' => D.nx (σ'.set i none) H', rt := D.rt, bk := fun σ' H' => D.bk (σ'.set i none) H', ct := fun σ' H' => D.ct (σ'.set i none) H' }
def wManyA (K : PySem.W.Frag) (i : Nat) (Wout : WX) (D : Ends) : List (Value × (Addr → Value → Option Addr → TS)) → WX
  | [] => Wout
  | (c, ts) :: r => fun cls d σ H => ∃ b, PySem.W.exmOne K cls c = some b ∧ (b = true → ∀ a, H a = none → ts a cls d (gone1 i D) (σ.set i (some (.ref a))) H) ∧ (b = false → wManyA K i Wout D r cls d σ H)
inductive HdsA (X : Cx) (i : Nat) (n : Str) : List ExceptHandler → List (Value × (Addr → Value → Option Addr → TS)) → Prop
  | nil : HdsA X i n [] []
  | cons {x : Str} {c : Value} {ts : Addr → Value → Option Addr → TS} {b₀ : Stmt} {suite : List Stmt} {np pos' : Pos} {hds : List ExceptHandler} {l : List (Value × (Addr → Value → Option Addr → TS))} (hc : Names X x c)
      (hsu : ∀ (a : Addr) (oe : Obj) (cls : Value) (d : Option Addr) (pn : List (Addr × Obj)), Zc cls d oe → (∃ vs, oe.data = .fields vs) → PSs (X.suite a ((a, oe) :: pn)) (b₀ :: suite) (ts a cls d)) (r : HdsA X i n hds l) :
      HdsA X i n (.ExceptHandler (some (.Name x np)) (some n) (b₀ :: suite) pos' :: hds) ((c, ts) :: l)
section
variable {X : Cx} {body : List Stmt} {h₀ : ExceptHandler} {hds : List ExceptHandler} {l : List (Value × (Addr → Value → Option Addr → TS))} {pos : Pos} {tb : WX → TS} {Wout : WX} {i : Nat} {n : Str}
theorem ps_try_manyA (hs : X.stack = X.env :: X.outer) (hf : X.env.frame = some X.env.locals) (hN : X.N.Nodup) (hi : X.N[i]? = some n) (hln : X.env.kindOf n = some .local) (tk : Takes X Wout)
    (hb : ∀ (W : WX) (pn : List (Addr × Obj)) (xe : Value → Shared → Prop), Takes (X.tr pn xe) W → PassesOwn (model X.prog X.w) X.A X.env xe → PSs (X.tr pn xe) body (tb W))
    (hh : HdsA X i n (h₀ :: hds) l) : PS X (.Try body (h₀ :: hds) [] [] pos) (fun D σ H => tb (wManyA X.K i Wout D l) D σ H) := by
  refine ⟨fun pins s σ H D I h => ?_⟩
  have ok := I.ok
  have hfr : X.A.frames = some (X.env :: X.outer) := by rw [ok.frames, hs]
  have hloc : Loc X.env.scope n := .inl hln
  refine wpAny_Try_except ?_
  refine wpAny_mono ((hb (wManyA X.K i Wout D l) (X.pn ++ pins) (fun e s₁ => wpAny (model X.prog X.w) X.A (noteFrame e X.env) (fun _ s₂ => wpAny (model X.prog X.w) X.A (setFlight e none) (fun _ s₃ =>
    wpAny (model X.prog X.w) X.A (handleBy e X.env (h₀ :: hds)) (SP X pins D) X.xe s₃) X.xe s₂) X.xe s₁) (fun u s' xx => ?_) PassesOwn.looking).run [] s σ H D (I.toTry _) h) (fun f s1 hsp => ?_) (fun e s1 he => he)
  · -- the catch
    obtain ⟨a, B, sI, pins', σ', H', cls, d, rfl, J', nb, up, sky, na, os, ag, w⟩ := xx
    have J : Inv X pins σ' H' sI := J'.ofTry ok
    have sky' : Sky B (X.env :: X.outer) a (Zc cls d) X.env.locals s'.heap := by rw [← hs]; exact sky
    show wpAny (model X.prog X.w) X.A (noteFrame (.ref a) X.env) _ _ _
    refine Sky.land Zc.steady hfr hf sky' fun h3 fl3 up3 => ?_
    have J3 : Inv X pins σ' H' { s' with heap := h3 } := J.landed nb fl3.1 (up.trans up3) os ag
    obtain ⟨oe3, vs3, he3, hz3, hd3⟩ := fl3.there
    have notFr : ∀ {h : Heap} {o : Obj} {vs : Array Value}, h.FunFrames B (X.env :: X.outer) → h.get? a = some o → o.data = .fields vs → a ∉ frs (X.env :: X.outer) := fun {h o vs} ff e dd hm => by
      obtain ⟨_, o', e', hnf⟩ := ff.mem hm
      rw [e] at e'; cases e'
      exact hnf _ dd
    have nfr := notFr fl3.2.2.1 he3 hd3
    have nL : a ≠ X.env.locals := fun z => nfr (List.mem_filterMap.mpr ⟨X.env, List.mem_cons_self, by rw [hf, z]⟩)
    have nF : a ∉ X.fs := fun hm => by
      obtain ⟨e, he, q⟩ := List.mem_filterMap.mp hm
      exact nfr (List.mem_filterMap.mpr ⟨e, List.mem_cons_of_mem _ he, q⟩)
    have S3 := J3.suite he3 hd3 na nL nF
    have go : ∀ {hds' : List ExceptHandler} {l' : List (Value × (Addr → Value → Option Addr → TS))}, HdsA X i n hds' l' → wManyA X.K i Wout D l' cls d σ' H' →
        wpAny (model X.prog X.w) X.A (handleBy (.ref a) X.env hds') (SP X pins D) X.xe { s' with heap := h3 } := by
      intro hds' l' hk
      induction hk with
      | nil =>
        intro w
        refine wpAny_handleBy_nil ?_
        obtain ⟨k1, k2, k3, oe, vs, T, oT, ts', he, hz, hd, h1, hr⟩ := id fl3
        unfold PySem.passOn
        refine wpAny_bind (wpAny_field he hd h1 ?_)
        rw [if_neg (show ¬ ((Value.ref T == Value.none) = true) from by simp)]
        have fin : wpAny (model X.prog X.w) X.A (setFlight (.ref a) X.env.frame) (fun _ s4 => wpAny (model X.prog X.w) X.A (throw (.ref a) : Sem Flow) (SP X pins D) X.xe s4) X.xe { s' with heap := h3 } := by
          rw [hf]
          refine HandSPX.setFlight_upZ fl3 fun h4 hh4 up4 => wpAny_throw (tk _ _ ?_)
          exact ⟨a, B, sI, pins, σ', H', cls, d, rfl, J, nb, (up.trans up3).trans up4, .inr (.inr (by rw [hs]; exact hh4)), na, os, ag, w⟩
        first
          | exact wpAny_bind (wpAny_pure (wpAny_bind fin))
          | exact wpAny_bind fin
      | @cons x c ts b₀ suite np pos' hds2 l2 hc hsu r ih =>
        intro w
        obtain ⟨b, hb1, hyes, hno⟩ := w
        refine wpAny_handleBy_cons (codeAny_handlers_test ?_) (by intro q; cases q)
        have LT : PySem.W.Looks (model X.prog X.w) h3 (typeOf (.ref a)) cls := fun A Q E s k q => wpAny_typeOf_ref (k _ _ he3) (by rw [hz3.1]; exact q)
        have LM := PySem.W.exm_one (M := model X.prog X.w) (J3.kIn) LT hb1
        have test : ∀ {Q : Value → Shared → Prop} {E : Value → Shared → Prop}, Q c { s' with heap := h3 } → wpAny (model X.prog X.w) (X.A.mark (some (.ref a))) (eval (.Name x np) X.env) Q E { s' with heap := h3 } := fun {Q E} q => by
          obtain ⟨hg, hdbg, hm | ⟨hm, hv, hnn⟩⟩ := hc
          · exact ld_glob (X := X.suite a ((a, oe3) :: (X.pn ++ pins))) S3 hg hm q hdbg
          · exact ld_blt (X := X.suite a ((a, oe3) :: (X.pn ++ pins))) S3 hg hm hv q hnn hdbg
        refine test (LM.here ?_)
        cases b with
        | true =>
          refine codeAny_handlers_suite_as ?_
          refine HandSPX.lands_againZ fl3 fun h4 fl4 up4 => ?_
          have J4 : Inv X pins σ' H' { s' with heap := h4 } := J.landed nb fl4.1 ((up.trans up3).trans up4) os ag
          obtain ⟨oe4, vs4, he4, hz4, hd4⟩ := fl4.there
          have S4 := J4.suite he4 hd4 na nL nF
          refine store_ok (X := X.suite a ((a, oe4) :: (X.pn ++ pins))) (v := .ref a) S4 hN hi hloc rfl (fun s5 S5 => ?_) (.inr hln)
          refine wpAny_mono ((hsu a oe4 cls d (X.pn ++ pins) hz4 ⟨_, hd4⟩).run [] s5 _ H' _ S5 (hyes rfl a na)) (fun f s6 hsp => ?_) (fun _ _ z => False.elim z)
          have end_ : ∀ {σ6 : L2.St} {H6 : Hp} {Q : Shared → Prop}, Inv (X.suite a ((a, oe4) :: (X.pn ++ pins))) [] σ6 H6 s6 → (∀ s7, Inv X pins (σ6.set i none) H6 s7 → Q s7) →
              wpAny (model X.prog X.w) X.A (do bindName X.env n .none; unbindBehindTheSuite X.env n pos') (fun _ s7 => Q s7) X.xe s6 := fun {σ6 H6 Q} S6 hq => gone_ok (S6.unsuite ok) hN hi hln hq
          cases f with
          | next =>
            obtain ⟨σ6, H6, S6, q6⟩ := hsp
            exact end_ S6 fun s7 J7 => ⟨_, _, J7, q6⟩
          | brk =>
            obtain ⟨σ6, H6, S6, q6⟩ := hsp
            exact end_ S6 fun s7 J7 => ⟨_, _, J7, q6⟩
          | cont =>
            obtain ⟨σ6, H6, S6, q6⟩ := hsp
            exact end_ S6 fun s7 J7 => ⟨_, _, J7, q6⟩
          | ret u =>
            obtain ⟨v6, σ6, H6, S6, r6, q6⟩ := hsp
            exact end_ S6 fun s7 J7 => ⟨_, _, _, J7, r6, q6⟩
        | false =>
          show wpAny _ X.A (handleBy (.ref a) X.env hds2) _ _ _
          exact ih (hno rfl)
    exact go hh w
  · cases f with
    | next =>
      obtain ⟨σ', H', J', q⟩ := hsp
      exact wpAny_execs_nil ⟨σ', H', J'.ofTry ok, q⟩
    | brk =>
      obtain ⟨σ', H', J', q⟩ := hsp
      exact ⟨σ', H', J'.ofTry ok, q⟩
    | cont =>
      obtain ⟨σ', H', J', q⟩ := hsp
      exact ⟨σ', H', J'.ofTry ok, q⟩
    | ret u =>
      obtain ⟨v, σ', H', J', r, q⟩ := hsp
      exact ⟨v, σ', H', J'.ofTry ok, r, q⟩
end
end PkX
end
section -- PkLc
set_option maxRecDepth 100000
set_option maxHeartbeats 4000000
/-! comprehensions that keep what was tracked: one lemma for every source -/
namespace PkL
open PySem PySem.Spec PyProof.Rows L2 SlX PkR RZ
/-- all but lists stays -/
def Frz (H H' : Hp) : Prop := ∀ b o, (∀ xs, o ≠ .lst xs) → H b = some o → H' b = some o
theorem _root_.L2.Same.frz {H H' : Hp} (s : Same H H') : Frz H H' := fun b o _ h => s b o h
theorem Frz.refl (H : Hp) : Frz H H := fun _ _ _ h => h
theorem Frz.trans {H H1 H2 : Hp} (a : Frz H H1) (b : Frz H1 H2) : Frz H H2 := fun c o n h => b c o n (a c o n h)
theorem frz_lst {H : Hp} {D : Addr} {xs ys : List V} (h : H D = some (.lst xs)) : Frz H (upd H D (.lst ys)) := fun b o n e => by
  have hb : b ≠ D := fun z => by
    rw [z, h] at e
    exact n xs (Option.some.inj e).symm
  rw [upd_ne hb]
  exact e
theorem same_new {H : Hp} {D : Addr} {o : HO} (h : H D = none) : Same H (upd H D o) := fun b u e => by
  rw [upd_ne (ne_of_none e h)]
  exact e
theorem same_put {H0 H : Hp} {D : Addr} {o : HO} (n : H0 D = none) (s : Same H0 H) : Same H0 (upd H D o) := fun b u e => by
  rw [upd_ne (ne_of_none e n)]
  exact s b u e
theorem Frz.sqT {K : PySem.W.Frag} {H H' : Hp} {a : Addr} {xs : List V} (e : Frz H H') (h : SqT K H a xs) : SqT K H' a xs := by
  rcases h with (h | ⟨o, h⟩) | h
  · exact .inl (.inl (e _ _ (fun _ z => by cases z) h))
  · exact .inl (.inr ⟨o, e _ _ (fun _ z => by cases z) h⟩)
  · exact .inr h
theorem _root_.L2.Same.sqT {K : PySem.W.Frag} {H H' : Hp} {a : Addr} {xs : List V} (e : Same H H') (h : SqT K H a xs) : SqT K H' a xs := e.frz.sqT h
theorem Frz.slt {H H' : Hp} {a C dx : Addr} {vs : List (Option V)} (e : Frz H H') (h : Slt H a C dx vs) : Slt H' a C dx vs := by
  rcases h with ⟨h, g⟩ | ⟨h, g⟩
  · exact .inl ⟨e _ _ (fun _ z => by cases z) h, g⟩
  · exact .inr ⟨e _ _ (fun _ z => by unfold SlO at z; cases z) h, e _ _ (fun _ z => by cases z) g⟩
theorem sqT_tup {K : PySem.W.Frag} {H : Hp} {a : Addr} {xs : List V} (h : H a = some (.tup xs)) : SqT K H a xs := .inl (.inl h)
theorem sqL_lst {K : PySem.W.Frag} {H : Hp} {a : Addr} {xs : List V} (h : H a = some (.lst xs)) : SqL K H a xs := .inl (.inl h)

/-- a source of n items, fit for heaps that keep H1: Y i x H is what is known of the i-th -/
structure Feeds (J : It) (n : Nat) (H1 : Hp) (Y : Nat → V → Hp → Prop) : Prop where
  go : ∀ i H, Same H1 H → i < n → J.go i H ∧ ∀ x H', J.yld i H x H' → Same H H' ∧ Y i x H'
  stop : ∀ H, Same H1 H → J.stop n H
theorem feeds_tup {K : PySem.W.Frag} {a : Addr} {xs : List V} {H1 : Hp} (h : SqT K H1 a xs) : Feeds (Itt K a) xs.length H1 (fun i x _ => xs[i]? = some x) where
  go := fun i H s hi => ⟨⟨xs, xs[i], s.sqT h, by simp [hi]⟩, fun x H' y => by
    obtain ⟨e, y⟩ := y
    subst e
    exact ⟨Same.refl _, y xs (s.sqT h)⟩⟩
  stop := fun H s => ⟨xs, s.sqT h, Nat.le_refl _⟩
theorem feeds_lst {K : PySem.W.Frag} {a : Addr} {xs : List V} {H1 : Hp} (h : SqL K H1 a xs) : Feeds (Itl K a) xs.length H1 (fun i x _ => xs[i]? = some x) where
  go := fun i H s hi => ⟨⟨xs, xs[i], s.seq h, by simp [hi]⟩, fun x H' y => by
    obtain ⟨e, y⟩ := y
    subst e
    exact ⟨Same.refl _, y xs (s.seq h)⟩⟩
  stop := fun H s => ⟨xs, s.seq h, Nat.le_refl _⟩
theorem feeds_rng {lo : Int} {n : Nat} {H1 : Hp} : Feeds (Itr lo n) n H1 (fun i x _ => x = .int (lo + i)) where
  go := fun i H s hi => ⟨hi, fun x H' y => by
    obtain ⟨e, y⟩ := y
    subst e
    exact ⟨Same.refl _, y⟩⟩
  stop := fun H s => Nat.le_refl _
theorem feeds_enumT {K : PySem.W.Frag} {a : Addr} {xs : List V} {H1 : Hp} (h : SqT K H1 a xs) : Feeds (IteT K a) xs.length H1 (fun i v H => ∃ T x, v = .ref T ∧ xs[i]? = some x ∧ H T = some (.tup [.int (i : Nat), x])) where
  go := fun i H s hi => ⟨⟨xs, xs[i], s.sqT h, by simp [hi]⟩, fun v H' y => by
    obtain ⟨T, x, rfl, n, rfl, y⟩ := y
    exact ⟨same_new n, T, x, rfl, y xs (s.sqT h), upd_same⟩⟩
  stop := fun H s => ⟨xs, s.sqT h, Nat.le_refl _⟩
theorem feeds_zipT {K : PySem.W.Frag} {a b : Addr} {xs ys : List V} {H1 : Hp} (h : SqT K H1 a xs) (h' : SqT K H1 b ys) :
    Feeds (ItzT K a b) (min xs.length ys.length) H1 (fun i v H => ∃ T x y, v = .ref T ∧ xs[i]? = some x ∧ ys[i]? = some y ∧ H T = some (.tup [x, y])) where
  go := fun i H s hi => by
    have h1 : i < xs.length := by omega
    have h2 : i < ys.length := by omega
    exact ⟨⟨xs, ys, xs[i], ys[i], s.sqT h, s.sqT h', by simp [h1], by simp [h2]⟩, fun v H' y => by
      obtain ⟨T, x, y, rfl, n, rfl, f1, f2⟩ := y
      exact ⟨same_new n, T, x, y, rfl, f1 xs (s.sqT h), f2 ys (s.sqT h'), upd_same⟩⟩
  stop := fun H s => ⟨xs, ys, s.sqT h, s.sqT h', by omega⟩

section
variable {J : It} {n : Nat} {H1 : Hp} {Y : Nat → V → Hp → Prop} {g : TG} {tt : TT} {te : TE} {vs : List Nat} {σ : L2.St}
/-- a comprehension: R i acc H is what is known of the list so far behind i items -/
theorem lc_same {Qd : Addr → Hp → Prop} (F : Feeds J n H1 Y) (hn : n ≤ 1000000) (R : Nat → List V → Hp → Prop) (hR : ∀ i acc H H', Frz H H' → R i acc H → R i acc H') (h0 : R 0 [] H1)
    (step : ∀ i x acc H (k1 : V → Hp → Prop) (k2 : Hp → Prop), i < n → Same H1 H → Y i x H → R i acc H → (∀ y H4, Same H H4 → R (i + 1) (acc ++ [y]) H4 → k1 y H4) → (∀ H3, Same H H3 → R (i + 1) acc H3 → k2 H3) →
      g x (wipe σ vs) H fun σ2 H2 => wipe σ2 vs = wipe σ vs ∧ tt σ2 H2 fun b H3 => if b = true then te σ2 H3 k1 else k2 H3)
    (hd : ∀ D acc H, Same H1 H → H D = some (.lst acc) → acc.length ≤ n → R n acc H → Qd D H) :
    ∀ D, H1 D = none → ∃ W : Nat → Nat → Hp → Prop, (∃ m, W 0 m (upd H1 D (.lst []))) ∧ ∀ i m H, W i m H →
      (J.stop i H ∧ Qd D H) ∨ (J.go i H ∧ ∃ Nx : Hp → Prop, (∀ H', Nx H' → ∃ m', m' < m ∧ W (i + 1) m' H') ∧ ∀ x H', J.yld i H x H' → g x (wipe σ vs) H' fun σ2 H2 => wipe σ2 vs = wipe σ vs ∧ tt σ2 H2 fun b H3 =>
        if b = true then te σ2 H3 fun y H4 => ∃ acc, H4 D = some (.lst acc) ∧ acc.length < sizeLine ∧ Nx (upd H4 D (.lst (acc ++ [y]))) else Nx H3) := by
  intro D hD
  have R0 : R 0 [] (upd H1 D (.lst [])) := hR 0 [] H1 _ (same_new hD).frz h0
  refine ⟨fun i m H => m = n - i ∧ i ≤ n ∧ Same H1 H ∧ ∃ acc, H D = some (.lst acc) ∧ acc.length ≤ i ∧ R i acc H, ⟨n, by simp, Nat.zero_le _, same_new hD, [], upd_same, Nat.le_refl _, R0⟩, ?_⟩
  rintro i m H ⟨rfl, hi, hs, acc, eD, hl, r⟩
  by_cases hlt : i < n
  · obtain ⟨go, yl⟩ := F.go i H hs hlt
    refine .inr ⟨go, fun H => Same H1 H ∧ ∃ acc, H D = some (.lst acc) ∧ acc.length ≤ i + 1 ∧ R (i + 1) acc H, fun H' p' => ⟨n - (i + 1), by omega, rfl, hlt, p'⟩, fun x H' y => ?_⟩
    obtain ⟨s', yx⟩ := yl x H' y
    refine step i x acc H' _ _ hlt (hs.trans s') yx (hR _ _ _ _ s'.frz r) (fun y H4 s4 r4 => ?_) (fun H3 s3 r3 => ?_)
    · have e4 := s4 _ _ (s' _ _ eD)
      refine ⟨acc, e4, Nat.lt_of_le_of_lt (Nat.le_trans hl (Nat.le_trans hi hn)) (by decide), same_put hD ((hs.trans s').trans s4), _, upd_same, ?_, hR _ _ _ _ (frz_lst e4) r4⟩
      rw [List.length_append]
      exact Nat.succ_le_succ hl
    · exact ⟨(hs.trans s').trans s3, acc, s3 _ _ (s' _ _ eD), Nat.le_succ_of_le hl, r3⟩
  · have e : i = n := by omega
    subst e
    exact .inl ⟨F.stop H hs, hd D acc H hs eD hl r⟩
end
section
variable {J : It} {n : Nat} {H1 : Hp} {Y : Nat → V → Hp → Prop} {g g1 : TG} {tt tt1 : TT} {te : TE} {wi1 : TI} {vs vs1 : List Nat} {σ : L2.St}
/-- two sources, no test behind the first: the second is a tuple that is read anew each time -/
theorem lc2_same {K : PySem.W.Frag} {Qd : Addr → Hp → Prop} {xs1 : List V} (F : Feeds J n H1 Y) (hn : n ≤ 100000) (hn1 : xs1.length ≤ 10) (R : Nat → Nat → List V → Hp → Prop) (hR : ∀ i j acc H H', Frz H H' → R i j acc H → R i j acc H') (h0 : R 0 0 [] H1)
    (hnext : ∀ i acc H, R i xs1.length acc H → R (i + 1) 0 acc H)
    (step : ∀ i x acc H (P : L2.St → It → Hp → Prop), i < n → Same H1 H → Y i x H → R i 0 acc H →
      (∀ σ2 t H4, Same H H4 → SqT K H4 t xs1 →
        (∀ j x1 acc H (k1 : V → Hp → Prop) (k2 : Hp → Prop), xs1[j]? = some x1 → Frz H4 H → Same H1 H → R i j acc H → (∀ y H7, Same H H7 → R i (j + 1) (acc ++ [y]) H7 → k1 y H7) → (∀ H6, Same H H6 → R i (j + 1) acc H6 → k2 H6) →
          g1 x1 (wipe σ2 vs1) H fun σ3 H5 => wipe σ3 vs1 = wipe σ2 vs1 ∧ tt1 σ3 H5 fun b H6 => if b = true then te σ3 H6 k1 else k2 H6) → P σ2 (Itt K t) H4) →
      g x (wipe σ vs) H fun σ2 H2 => wipe σ2 vs = wipe σ vs ∧ tt σ2 H2 fun b H3 => b = true ∧ wi1 σ2 H3 (P σ2))
    (htt : ∀ σ H (q q' : Bool → Hp → Prop), (∀ b H, q b H → q' b H) → tt σ H q → tt σ H q')
    (hg : ∀ x σ H (q q' : L2.St → Hp → Prop), (∀ σ H, q σ H → q' σ H) → g x σ H q → g x σ H q')
    (hd : ∀ D acc H, Same H1 H → H D = some (.lst acc) → R n 0 acc H → Qd D H) :
    ∀ D, H1 D = none → ∃ W : Nat → Nat → Hp → Prop, (∃ m, W 0 m (upd H1 D (.lst []))) ∧ ∀ i m H, W i m H →
      (J.stop i H ∧ Qd D H) ∨ (J.go i H ∧ ∃ Nx : Hp → Prop, (∀ H', Nx H' → ∃ m', m' < m ∧ W (i + 1) m' H') ∧ ∀ x H', J.yld i H x H' → g x (wipe σ vs) H' fun σ2 H2 => wipe σ2 vs = wipe σ vs ∧ tt σ2 H2 fun b H3 =>
        if b = true then wi1 σ2 H3 fun J1 H4 => ∃ W1 : Nat → Nat → Hp → Prop, (∃ m, W1 0 m H4) ∧ ∀ j k H, W1 j k H →
          (J1.stop j H ∧ Nx H) ∨ (J1.go j H ∧ ∃ Nx1 : Hp → Prop, (∀ H', Nx1 H' → ∃ k', k' < k ∧ W1 (j + 1) k' H') ∧ ∀ x H', J1.yld j H x H' → g1 x (wipe σ2 vs1) H' fun σ3 H5 => wipe σ3 vs1 = wipe σ2 vs1 ∧ tt1 σ3 H5 fun b H6 =>
            if b = true then te σ3 H6 fun y H7 => ∃ acc, H7 D = some (.lst acc) ∧ acc.length < sizeLine ∧ Nx1 (upd H7 D (.lst (acc ++ [y]))) else Nx1 H6)
        else Nx H3) := by
  intro D hD
  have R0 : R 0 0 [] (upd H1 D (.lst [])) := hR 0 0 [] H1 _ (same_new hD).frz h0
  refine ⟨fun i m H => m = n - i ∧ i ≤ n ∧ Same H1 H ∧ ∃ acc, H D = some (.lst acc) ∧ acc.length ≤ i * 10 ∧ R i 0 acc H, ⟨n, by simp, Nat.zero_le _, same_new hD, [], upd_same, Nat.zero_le _, R0⟩, ?_⟩
  rintro i m H ⟨rfl, hi, hs, acc, eD, hl, r⟩
  by_cases hlt : i < n
  · obtain ⟨go, yl⟩ := F.go i H hs hlt
    refine .inr ⟨go, fun H => Same H1 H ∧ ∃ acc, H D = some (.lst acc) ∧ acc.length ≤ (i + 1) * 10 ∧ R (i + 1) 0 acc H, fun H' p' => ⟨n - (i + 1), by omega, rfl, hlt, p'⟩, fun x H' y => ?_⟩
    obtain ⟨s', yx⟩ := yl x H' y
    have eD' := s' _ _ eD
    refine hg _ _ _ _ _ (fun σ2 H2 hq => ⟨hq.1, htt _ _ _ _ (fun b H3 hb => ?_) hq.2⟩) (step i x acc H' (fun σ2 J1 H4 => ∃ W1 : Nat → Nat → Hp → Prop, (∃ m, W1 0 m H4) ∧ ∀ j k H, W1 j k H →
          (J1.stop j H ∧ (Same H1 H ∧ ∃ acc, H D = some (.lst acc) ∧ acc.length ≤ (i + 1) * 10 ∧ R (i + 1) 0 acc H)) ∨ (J1.go j H ∧ ∃ Nx1 : Hp → Prop, (∀ H', Nx1 H' → ∃ k', k' < k ∧ W1 (j + 1) k' H') ∧ ∀ x H', J1.yld j H x H' → g1 x (wipe σ2 vs1) H' fun σ3 H5 => wipe σ3 vs1 = wipe σ2 vs1 ∧ tt1 σ3 H5 fun b H6 =>
            if b = true then te σ3 H6 fun y H7 => ∃ acc, H7 D = some (.lst acc) ∧ acc.length < sizeLine ∧ Nx1 (upd H7 D (.lst (acc ++ [y]))) else Nx1 H6)) hlt (hs.trans s') yx (hR _ _ _ _ _ s'.frz r) (fun σ2 t H4 s4 ht st => ?_))
    · obtain ⟨rfl, hb⟩ := hb
      rw [if_pos rfl]
      exact hb
    · -- the inner loop: the list at D grows
      have eD4 := s4 _ _ eD'
      have s14 : Same H1 H4 := (hs.trans s').trans s4
      refine ⟨fun j k H => k = xs1.length - j ∧ j ≤ xs1.length ∧ Frz H4 H ∧ Same H1 H ∧ ∃ acc, H D = some (.lst acc) ∧ acc.length ≤ i * 10 + j ∧ R i j acc H, ⟨xs1.length, by simp, Nat.zero_le _, Frz.refl _, s14, acc, eD4, hl, hR _ _ _ _ _ (s'.trans s4).frz r⟩, ?_⟩
      rintro j k H5 ⟨rfl, hj, f5, s5, acc5, e5, l5, r5⟩
      have q := f5.sqT ht
      by_cases hltj : j < xs1.length
      · refine .inr ⟨⟨xs1, xs1[j], q, by simp [hltj]⟩, fun H => j + 1 ≤ xs1.length ∧ Frz H4 H ∧ Same H1 H ∧ ∃ acc, H D = some (.lst acc) ∧ acc.length ≤ i * 10 + (j + 1) ∧ R i (j + 1) acc H, fun H' p' => ⟨xs1.length - (j + 1), by omega, rfl, p'⟩, fun x1 H6 y => ?_⟩
        obtain ⟨e, y⟩ := y
        subst e
        refine st j x1 acc5 _ _ _ (y xs1 q) f5 s5 r5 (fun y7 H7 s7 r7 => ?_) (fun H6 s6 r6 => ?_)
        · have e7 := s7 _ _ e5
          refine ⟨acc5, e7, Nat.lt_of_le_of_lt (Nat.le_trans l5 (show i * 10 + j ≤ 2000000 by omega)) (by decide), hltj, (f5.trans s7.frz).trans (frz_lst e7), same_put hD (s5.trans s7), _, upd_same, ?_, hR _ _ _ _ _ (frz_lst e7) r7⟩
          rw [List.length_append]
          show acc5.length + 1 ≤ _
          omega
        · exact ⟨hltj, f5.trans s6.frz, s5.trans s6, acc5, s6 _ _ e5, by omega, r6⟩
      · have e : j = xs1.length := by omega
        subst e
        exact .inl ⟨⟨xs1, q, Nat.le_refl _⟩, s5, acc5, e5, by omega, hnext _ _ _ r5⟩
  · have e : i = n := by omega
    subst e
    exact .inl ⟨F.stop H hs, hd D acc H hs eD r⟩
end
end PkL
end
section -- PkD1
set_option maxRecDepth 100000
set_option maxHeartbeats 4000000
/-! the program's defs, their promises -/
namespace PkD
open PySem PySem.Spec PyProof.Rows L2 SlX PkR PkL RZ
abbrev pw := PySem.Challenge.pw_primekinds_k09_whole_steps_and_opposites
def topS (i : Nat) : Stmt := pw.main.body.getD i (.Pass ⟨0, 0, 0, 0⟩)
abbrev iv (ns : List Int) : List V := ns.map V.int
/-- the def x of the top holds sp -/
def Pr (P : Program) (w : World) (K : PySem.W.Frag) (mg : Str → Option Value) (base : Heap) (x : Str) (n : Nat) (sp : Sp) : Prop :=
  ∃ f, mg x = some (.ref f) ∧ PySem.W.keepIn K (.ref f) = true ∧ FnR P w K mg base CX0 n f sp
def tCallR (sp : Sp) (E : XK) (t : TA) : TE := fun σ H Q => t σ H fun vs H1 => sp vs H1 Q E
section
variable {X : Cx} {x : Str} {n : Nat} {sp : Sp} {e : Expr} {es : List Expr} {t : TA} {p pos : Pos}
theorem pe_callP (h : Pr X.prog X.w X.K X.mg X.base x n sp) (hr : Room n X.A) (hg : Gl X x) (ha : PA X (e :: es) t) (hdb : (x == ("__debug__" : Str)) = false := by decide)
    (he : starEach (e :: es) X.env = (false, eval e X.env) :: starEach es X.env := by rfl) (hpl : (backTo pos (starEach es X.env)).any (·.1) = false := by rfl) :
    PE X (.Call (.Name x p) (e :: es) [] pos) (tCallR sp E0 t) := by
  obtain ⟨f, hm, hk, F⟩ := h
  refine ⟨fun pins s σ H Q I h => ?_⟩
  refine wpAny_Call_Name_kw (ld_glob I hg hm ?_ hdb)
  refine PySem.W.callWith_K (h₀ := X.base) I.ok.mod.kin hk (thn (ha.run pos pins s σ H _ I h) fun us s1 ⟨vs, H1, I1, r, q⟩ => ⟨I1.kIn, ?_⟩) he hpl
  exact wpAny_call (run_fnR F hr pass0 I1 r q)
end
theorem pg_two {X : Cx} {x1 x2 : Str} {p1 p2 : Pos} {k : Nat} {pos : Pos} {g1 g2 : TG} (K : PySem.W.Frag) (hK : X.K = K) (hc : X.calm = true) (h1 : PG X (.Name x1 p1) g1) (h2 : PG X (.Name x2 p2) g2) : PG X (.Tuple [.Name x1 p1, .Name x2 p2] k pos) (gTup K 2 (gCons g1 (gCons g2 gNil))) := by
  subst hK
  exact pg_tup hc (pgs_cons h1 (pgs_cons h2 pgs_nil))
theorem pi_tupK {X : Cx} {tg l : Expr} {tl : TE} (K : PySem.W.Frag) (hK : X.K = K) (hl : PE X l tl) : PI X tg l (iTup K tl) := by
  subst hK
  exact pi_tup hl
theorem call_lenK {X : Cx} (K : PySem.W.Frag) (hK : X.K = K) : CallR X (.builtin "len") (fun xs H Q => ∃ x n, xs = [x] ∧ LenV K x H n ∧ Q (.int n) H) := by
  subst hK
  exact call_len
theorem pe_slK {X : Cx} {e : Expr} {f : Str} {pos : Pos} {ta : TE} (K : PySem.W.Frag) (hK : X.K = K) (he : PE X e ta) (hb : attributeBase e f X.env (eval e X.env) = eval e X.env := by rfl) : PE X (.Attribute e f pos) (SlX.tSl K ta f) := by
  subst hK
  exact pe_sl he hb
theorem lenT {K : PySem.W.Frag} {H : Hp} {a : Addr} {xs : List V} (h : SqT K H a xs) : LenV K (.ref a) H xs.length := .inr ⟨xs, h, rfl⟩
theorem lenL {K : PySem.W.Frag} {H : Hp} {a : Addr} {xs : List V} (h : SqL K H a xs) : LenV K (.ref a) H xs.length := .inl ⟨xs, h, rfl⟩
theorem tyT {K : PySem.W.Frag} {H : Hp} {a : Addr} {xs : List V} (h : SqT K H a xs) : TyX K H (.ref a) (.type "tuple") := by
  rcases h with (h | ⟨o, h⟩) | ⟨o, its, n, h, hc, _⟩
  · exact .base (.tup h)
  · exact .fTuple h
  · exact .kTuple h hc
/-- what the top has written besides the defs -/
structure Top (K : PySem.W.Frag) (mg : Str → Option Value) : Prop where
  isi : mg "isinstance" = none
  int : mg "int" = none
  bool : mg "bool" = none
  tuple : mg "tuple" = none
  len : mg "len" = none
  all : mg "all" = none
  sum : mg "sum" = none
  zip : mg "zip" = none
  max : mg "max" = none
  min : mg "min" = none
  abs : mg "abs" = none
  range : mg "range" = none
  str : mg "str" = none
  sorted : mg "sorted" = none
  enumerate : mg "enumerate" = none
  list : mg "list" = none
  MAX : ∃ t, mg "MAX_SIZE" = some (.int 12 t)
  OPEN : ∃ t, mg "OPENING" = some (.str "[" t)
  CLOSE : ∃ t, mg "CLOSING" = some (.str "]" t)
  BLANK : ∃ t, mg "BLANK" = some (.str " " t)
theorem b_isi : bootBuiltins "isinstance" = some (.builtin "isinstance") := by first | boot_by_name | rfl | kernel_rfl
theorem b_int : bootBuiltins "int" = some (.type "int") := by first | boot_by_name | rfl | kernel_rfl
theorem b_bool : bootBuiltins "bool" = some (.type "bool") := by first | boot_by_name | rfl | kernel_rfl
theorem b_tuple : bootBuiltins "tuple" = some (.type "tuple") := by first | boot_by_name | rfl | kernel_rfl
theorem b_list : bootBuiltins "list" = some (.type "list") := by first | boot_by_name | rfl | kernel_rfl
theorem b_str : bootBuiltins "str" = some (.type "str") := by first | boot_by_name | rfl | kernel_rfl
theorem b_len : bootBuiltins "len" = some (.builtin "len") := by first | boot_by_name | rfl | kernel_rfl
theorem b_all : bootBuiltins "all" = some (.builtin "all") := by first | boot_by_name | rfl | kernel_rfl
theorem b_sum : bootBuiltins "sum" = some (.builtin "sum") := by first | boot_by_name | rfl | kernel_rfl
theorem b_max : bootBuiltins "max" = some (.builtin "max") := by first | boot_by_name | rfl | kernel_rfl
theorem b_min : bootBuiltins "min" = some (.builtin "min") := by first | boot_by_name | rfl | kernel_rfl
theorem b_abs : bootBuiltins "abs" = some (.builtin "abs") := by first | boot_by_name | rfl | kernel_rfl
theorem b_sorted : bootBuiltins "sorted" = some (.builtin "sorted") := by first | boot_by_name | rfl | kernel_rfl
variable {P : Program} {w : World} {K : PySem.W.Frag} {mg : Str → Option Value} {base : Heap}
theorem pe_max {X : Cx} {pos : Pos} (T : Top X.K X.mg) (hg : Gl X "MAX_SIZE") : PE X (.Name "MAX_SIZE" pos) (tC (.int 12)) := by
  obtain ⟨t, h⟩ := T.MAX
  exact pe_glob hg h ⟨t, rfl⟩ (by decide)
/-- a def's promise from its body -/
theorem pr_of {x : Str} {st : Stmt} {f : Addr} {fd : FuncData} {ps : List Str} {k : Nat} {sp : Sp} (hm : mg x = some (.ref f)) (F : Fun K x x st f fd) (G : FnOk P w K mg base CX0 k f fd ps sp)
    (h : ∀ (kV doc pm : Value) (an : Option Addr) (cdv ct : Value) (us : List Value), us.length = ps.length → bindArgs (PySem.W.fnOf x x (defArgs st) (defBody st) (defScope st) .none kV doc pm an cdv ct) ⟨us, []⟩ = pure (ps.zip us)) : Pr P w K mg base x k sp :=
  ⟨f, hm, F.kp, G.raw (F.binds h) .nil |> fun z => by simpa using z⟩

/-! ### is_whole, is_from, require_from -/
def spWhole : Sp := fun vs H Q _ => ∃ i : Int, vs = [.int i] ∧ Q (.bl true) H
theorem sc11 : FnScope ["value"] ["value"] (defScope (topS 11)) := ⟨rfl, rfl, rfl, by decide +kernel, rfl, by decide +kernel, by decide +kernel⟩
theorem ok_whole {f : Addr} {fd : FuncData} (T : Top K mg) (F : Fun K "is_whole" "is_whole" (topS 11) f fd) : FnOk P w K mg base CX0 2 f fd ["value"] spWhole := by
  refine F.ok sc11 (fun vs H Q E h => ?_) (fun cdv A outer s H vs Q E hr h => ⟨_, pss_one (ps_ret (pe_and (pe_callB call_isi (by rfl) T.isi b_isi (pa_cons (pv 0) (pa_cons (pe_bltn (v := .ty "int") (by rfl) T.int b_int rfl) pa_nil)))
      (pe_one (pe_not (pe_callB call_isi (by rfl) T.isi b_isi (pa_cons (pv 0) (pa_cons (pe_bltn (v := .ty "bool") (by rfl) T.bool b_bool rfl) pa_nil))))))), ?_⟩)
  · obtain ⟨i, rfl, _⟩ := h
    rfl
  · obtain ⟨i, rfl, q⟩ := h
    exact ⟨.int i, rfl, _, _, _, _, true, rfl, .ty _, .base (.int i), kit_ty (by rfl), true, rfl, iteT ⟨.int i, rfl, _, _, _, _, false, rfl, .ty _, .base (.int i), kit_ty (by rfl), false, rfl, q⟩⟩
theorem pr_whole {f : Addr} {fd : FuncData} (T : Top K mg) (hm : mg "is_whole" = some (.ref f)) (F : Fun K "is_whole" "is_whole" (topS 11) f fd) : Pr P w K mg base "is_whole" 2 spWhole :=
  pr_of hm F (ok_whole T F) (fun _ _ _ _ _ _ us hl => match us, hl with | [_], _ => rfl)
def spFrom : Sp := fun vs H Q _ => ∃ v lo hi : Int, vs = [.int v, .int lo, .int hi] ∧ Q (.bl (decide (lo ≤ v) && decide (v ≤ hi))) H
theorem sc13 : FnScope ["value", "least", "most"] ["value", "least", "most"] (defScope (topS 13)) := ⟨rfl, rfl, rfl, by decide +kernel, rfl, by decide +kernel, by decide +kernel⟩
theorem ok_from {f : Addr} {fd : FuncData} (G : Pr P w K mg base "is_whole" 2 spWhole) (F : Fun K "is_from" "is_from" (topS 13) f fd) : FnOk P w K mg base CX0 4 f fd ["value", "least", "most"] spFrom := by
  refine F.ok sc13 (fun vs H Q E h => ?_) (fun cdv A outer s H vs Q E hr h => ⟨_, pss_one (ps_ret (pe_and (pe_callP G (hr.mono (by decide)) (by rfl) (pa_cons (pv 0) pa_nil)) (pe_one (pe_chain op_le op_le (pv 1) (pv 0) (pv 2))))), ?_⟩)
  · obtain ⟨v, lo, hi, rfl, _⟩ := h
    rfl
  · obtain ⟨v, lo, hi, rfl, q⟩ := h
    refine ⟨_, rfl, v, rfl, true, rfl, iteT ⟨_, rfl, _, rfl, _, _, rfl, rfl, _, rfl, ite2 (fun c => ⟨_, rfl, _, _, rfl, rfl, ?_⟩) (fun c => ?_)⟩⟩
    · rw [c, Bool.true_and] at q
      exact q
    · rw [Bool.eq_false_iff.mpr c, Bool.false_and] at q
      exact q
theorem pr_from {f : Addr} {fd : FuncData} (G : Pr P w K mg base "is_whole" 2 spWhole) (hm : mg "is_from" = some (.ref f)) (F : Fun K "is_from" "is_from" (topS 13) f fd) : Pr P w K mg base "is_from" 4 spFrom :=
  pr_of hm F (ok_from G F) (fun _ _ _ _ _ _ us hl => match us, hl with | [_, _, _], _ => rfl)
def spReqFrom : Sp := fun vs H Q _ => ∃ v lo hi : Int, vs = [.int v, .int lo, .int hi] ∧ lo ≤ v ∧ v ≤ hi ∧ Q .non H
theorem sc14 : FnScope ["value", "least", "most"] ["value", "least", "most"] (defScope (topS 14)) := ⟨rfl, rfl, rfl, by decide +kernel, rfl, by decide +kernel, by decide +kernel⟩
theorem ok_reqFrom {f : Addr} {fd : FuncData} (G : Pr P w K mg base "is_from" 4 spFrom) (F : Fun K "require_from" "require_from" (topS 14) f fd) : FnOk P w K mg base CX0 6 f fd ["value", "least", "most"] spReqFrom := by
  refine F.ok sc14 (fun vs H Q E h => ?_) (fun cdv A outer s H vs Q E hr h => ⟨_, pss_one (ps_if (pt_not (pt_val (pe_callP G (hr.mono (by decide)) (by rfl) (pa_cons (pv 0) (pa_cons (pv 1) (pa_cons (pv 2) pa_nil)))))) pss_never pss_nil), ?_⟩)
  · obtain ⟨v, lo, hi, rfl, _⟩ := h
    rfl
  · obtain ⟨v, lo, hi, rfl, h1, h2, q⟩ := h
    refine ⟨_, rfl, _, rfl, _, rfl, v, lo, hi, rfl, _, rfl, ?_⟩
    rw [decide_eq_true h1, decide_eq_true h2]
    exact iteF q
theorem pr_reqFrom {f : Addr} {fd : FuncData} (G : Pr P w K mg base "is_from" 4 spFrom) (hm : mg "require_from" = some (.ref f)) (F : Fun K "require_from" "require_from" (topS 14) f fd) : Pr P w K mg base "require_from" 6 spReqFrom :=
  pr_of hm F (ok_reqFrom G F) (fun _ _ _ _ _ _ us hl => match us, hl with | [_, _, _], _ => rfl)

theorem iv_get {ns : List Int} {i : Nat} {x : V} (h : (iv ns)[i]? = some x) : ∃ n, ns[i]? = some n ∧ x = .int n := by
  rw [List.getElem?_map] at h
  cases e : ns[i]? with
  | none => rw [e] at h; cases h
  | some n =>
    rw [e] at h
    exact ⟨n, rfl, (Option.some.inj h).symm⟩
theorem all_rep (n : Nat) : (List.replicate n true).all id = true := by
  induction n with
  | zero => rfl
  | succ n ih => rw [List.replicate_succ, List.all_cons, ih]; rfl
theorem le_sum : ∀ {ns : List Int}, (∀ x ∈ ns, 1 ≤ x) → (ns.length : Int) ≤ ns.sum ∧ ∀ n ∈ ns, n ≤ ns.sum
  | [], _ => ⟨Int.le_refl _, fun _ h => by cases h⟩
  | x :: ns, h => by
    obtain ⟨h1, h2⟩ := le_sum fun y hy => h y (List.mem_cons_of_mem _ hy)
    have hx := h x List.mem_cons_self
    have e : (x :: ns).sum = x + ns.sum := List.sum_cons
    have l : ((x :: ns).length : Int) = (ns.length : Int) + 1 := by rw [List.length_cons]; rfl
    refine ⟨by omega, fun n hn => ?_⟩
    rcases List.mem_cons.mp hn with rfl | hn
    · omega
    · have := h2 n hn
      omega
theorem kd_mem {ns : List Int} {m : Int} (hk : Pk.Kd ns) (hs : ns.sum ≤ m) {n : Int} (h : n ∈ ns) : 1 ≤ n ∧ n ≤ m := ⟨hk.pos n h, Int.le_trans ((le_sum hk.pos).2 n h) hs⟩
theorem kd_len {ns : List Int} (hk : Pk.Kd ns) (hs : ns.sum ≤ 12) : ns.length ≤ 12 := by
  have := (le_sum hk.pos).1
  omega
theorem fall_next {ns : List Int} (h : Pk.Fall ns) {i : Nat} {m n : Int} (hm : ns[i]? = some m) (hn : ns[i + 1]? = some n) : n ≤ m := by
  obtain ⟨h1, rfl⟩ := List.getElem?_eq_some_iff.mp hm
  obtain ⟨h2, rfl⟩ := List.getElem?_eq_some_iff.mp hn
  exact List.pairwise_iff_getElem.mp h i (i + 1) h1 h2 (by omega)
theorem cut_whole {xs : List V} {lo hi : Option Int} (h : HT.sIx xs.length 0 lo = 0 ∧ HT.sIx xs.length xs.length hi = xs.length) : cutV xs lo hi = xs := by
  unfold cutV
  rw [h.1, h.2]
  simp
/-- t[lo:hi] of a tuple, the whole of it or a part -/
def rSlP (K : PySem.W.Frag) : V → Option Int → Option Int → Hp → VK → Prop := fun x lo hi H Q => ∃ a xs, x = .ref a ∧ SqT K H a xs ∧ ∀ p H', Same H H' → SqT K H' p (cutV xs lo hi) → Q (.ref p) H'
theorem sl_tupP {X : Cx} : L2.SlR X (rSlP X.K) := by
  intro pins s σ H x v vl vu lo hi sl Q I rx hs pl pu h
  obtain ⟨a, xs, rfl, hx, q⟩ := h
  exact sl_tupA pins s σ H _ v vl vu lo hi sl Q I rx hs pl pu ⟨a, xs, rfl, hx, fun c => q a H (Same.refl _) (by rw [cut_whole c]; exact hx), fun _ p hp => q p _ (same_new hp) (sqT_tup upd_same)⟩
/-- + of tuples -/
def rCatP (K : PySem.W.Frag) : R2 := fun x y H Q => ∃ a b xs ys, x = .ref a ∧ y = .ref b ∧ SqT K H a xs ∧ SqT K H b ys ∧ xs.length + ys.length ≤ 1000000 ∧ ∀ p H', Same H H' → SqT K H' p (xs ++ ys) → Q (.ref p) H'
theorem op_catP {X : Cx} : OpR X (binaryOp .Add) (rCatP X.K) := by
  intro pins s σ H x y v u Q I rx ry h
  obtain ⟨a, b, xs, ys, rfl, rfl, ha, hb, hz, q⟩ := h
  refine op_catA pins s σ H _ _ v u Q I rx ry ⟨a, b, xs, ys, rfl, rfl, ha, hb, Nat.le_trans hz (by decide), fun e => ?_, fun _ e => ?_, fun _ _ p hp => q p _ (same_new hp) (sqT_tup upd_same)⟩
  · subst e
    exact q b H (Same.refl _) hb
  · subst e
    exact q a H (Same.refl _) (by rw [List.append_nil]; exact ha)
/-- tuple(a list) -/
def rTupL (K : PySem.W.Frag) : List V → Hp → VK → Prop := fun vs H Q => ∃ p ys, vs = [.ref p] ∧ SqL K H p ys ∧ ∀ l H', Same H H' → H' l = some (.tup ys) → Q (.ref l) H'
theorem call_tupL {X : Cx} : CallR X (.type "tuple") (rTupL X.K) := by
  intro pins s σ H xs us Q I r h
  obtain ⟨p, ys, rfl, hp, q⟩ := h
  exact call_tuple_of pins s σ H _ us Q I r ⟨p, ys, rfl, .inl ⟨hp, fun l hl => q l _ (same_new hl) upd_same⟩⟩
theorem cut_1 (xs : List V) : cutV xs (some 1) none = xs.tail := by
  cases xs with
  | nil => rfl
  | cons x xs =>
    unfold cutV HT.sIx
    simp
/-! ### are_numbers -/
def spAre (K : PySem.W.Frag) : Sp := fun vs H Q _ => ∃ (a : Addr) (ns : List Int), vs = [.ref a] ∧ SqT K H a (iv ns) ∧ Pk.Kd ns ∧ ns.sum ≤ 12 ∧ ∀ H', Same H H' → Q (.bl true) H'
abbrev N21 : List Str := ["value", "number", "one", "other"]
theorem sc21 : FnScope ["value", "number", "one", "other"] ["value"] (defScope (topS 21)) := ⟨rfl, rfl, rfl, by decide +kernel, rfl, by decide +kernel, by decide +kernel⟩
theorem are_body {A : Around} {H : Hp} {vs : List V} {Q : VK} {E : XK} {cdv : Value} {f : Addr} {outer : List Env} {s : Shared} (T : Top K mg) (G : Pr P w K mg base "is_from" 4 spFrom) (hr : Room 5 (A.deeper (envOfC "are_numbers" (defScope (topS 21)) s.heap.objs.size f cdv))) :
    ∃ t, PSs (cxOf CX0 P w K mg base ["value", "number", "one", "other"] "are_numbers" (defScope (topS 21)) f cdv A outer s H E).nox (defBody (topS 21)) t ∧ (spAre K vs H Q E → t { nx := fun _ H' => Q .non H', rt := Q } (start ["value", "number", "one", "other"] vs) H) := by
  refine ⟨_, pss_cons (ps_if (pw_or (pt_not (pt_val (pe_callB call_isi (by rfl) T.isi b_isi (pa_cons (pv 0) (pa_cons (pe_bltn (v := .ty "tuple") (by rfl) T.tuple b_tuple rfl) pa_nil))))) (pw_or1 (pt_cmpR op_gt (pe_callB call_len (by rfl) T.len b_len (pa_cons (pv 0) pa_nil)) (pe_max T (by rfl)) (nomark _)))).pt pss_never pss_nil)
    (pss_cons (ps_if (pw_or (pt_not (pt_val (pe_callB (cr_all (by rfl)) (by rfl) T.all b_all (pa_cons (pe_lc (own := [("number", 1)]) (by rfl) sc21.nd (pi_tup (pv 0)) (blkOk_by (N := N21) (sc := defScope (topS 21)) (by decide +kernel)) (fun s H C cl fp => pg_name (i := 1) sc21.nd rfl (Or.inl rfl)) (fun s H C cl fp => pts_nil) (fun s H C cl fp => pe_callP G (hr.mono (by decide)) (by rfl) (pa_cons (pv 1) (pa_cons pe_int (pa_cons (pe_max T (by rfl)) pa_nil))))) pa_nil))))
        (pw_or1 (pt_cmpR op_gt (pe_callB (cr_sumT (by rfl)) (by rfl) T.sum b_sum (pa_cons (pv 0) pa_nil)) (pe_max T (by rfl)) (nomark _)))).pt pss_never pss_nil)
    (pss_one (ps_ret (pe_callB (cr_all (by rfl)) (by rfl) T.all b_all (pa_cons (pe_lc (own := [("one", 2), ("other", 3)]) (by rfl) sc21.nd (pi_zipA (by rfl) T.zip (pa_cons (pv 0) (pa_cons (pe_slice sl_tupP (pv 0) (po_some pe_int) po_none) pa_nil))) (blkOk_by (N := N21) (sc := defScope (topS 21)) (by decide +kernel)) (fun s H C cl fp => pg_two K (by rfl) (by rfl) (pg_name (i := 2) sc21.nd rfl (Or.inl rfl)) (pg_name (i := 3) sc21.nd rfl (Or.inl rfl))) (fun s H C cl fp => pts_nil) (fun s H C cl fp => pe_cmpR op_ge (pv 2) (pv 3) (nomark _))) pa_nil))))), fun h => ?_⟩
  obtain ⟨a, ns, rfl, hS, hk, hs, q⟩ := h
  have hl : ns.length ≤ 12 := kd_len hk hs
  have hz : (iv ns).length ≤ 1000000 := by rw [List.length_map]; omega
  refine ⟨.ref a, rfl, _, _, _, _, true, rfl, .ty _, tyT hS, kit_ty (by rfl), true, rfl, iteF ?_⟩
  refine ⟨.ref a, rfl, .ref a, _, rfl, lenT hS, _, _, rfl, rfl, _, rfl, ?_⟩
  rw [show decide ((12 : Int) < ((iv ns).length : Nat)) = false from decide_eq_false (by rw [List.length_map]; omega)]
  refine iteF ?_
  refine ⟨.ref a, rfl, a, rfl, ⟨_, hS⟩, lc_same (feeds_tup hS) hz (fun i acc _ => acc = List.replicate i (V.bl true)) (fun _ _ _ _ _ h => h) rfl (fun i x acc H1 k1 k2 hi hs1 hx hr hk1 hk2 => ?_) (fun D acc H1 s1 hD _ hr => ?_)⟩
  · obtain ⟨n, hn, rfl⟩ := iv_get hx
    have hb := kd_mem hk hs (List.mem_of_getElem? hn)
    refine ⟨rfl, _, rfl, n, 1, 12, rfl, ?_⟩
    rw [decide_eq_true hb.1, decide_eq_true hb.2]
    refine hk1 _ _ (Same.refl _) ?_
    rw [hr, List.replicate_succ']
    rfl
  · refine ⟨D, List.replicate (iv ns).length true, rfl, sqL_lst (by rw [hD, hr, List.map_replicate]), true, ?_, ?_⟩
    · rw [all_rep]
    refine ⟨.ref a, rfl, a, ns, rfl, s1.sqT hS, _, _, rfl, rfl, _, rfl, ?_⟩
    rw [show decide ((12 : Int) < ns.sum) = false from decide_eq_false (by omega)]
    refine ⟨.ref a, rfl, .ref a, rfl, 1, rfl, a, iv ns, rfl, s1.sqT hS, fun p H2 s2 hp => ?_⟩
    rw [cut_1] at hp
    have hS2 := (s1.trans s2).sqT hS
    refine ⟨a, p, iv ns, (iv ns).tail, rfl, .inr ⟨hS2, hp, lc_same (feeds_zipT hS2 hp) (Nat.le_trans (Nat.min_le_left _ _) hz) (fun i acc _ => acc = List.replicate i (V.bl true)) (fun _ _ _ _ _ h => h) rfl (fun i x acc H3 k1 k2 hi hs3 hx hr hk1 hk2 => ?_) (fun D2 acc2 H3 s3 hD2 _ hr2 => ?_)⟩⟩
    · obtain ⟨Tp, u, v, rfl, hu, hv, hT⟩ := hx
      obtain ⟨m, hm, rfl⟩ := iv_get hu
      rw [List.getElem?_tail] at hv
      obtain ⟨n, hn, rfl⟩ := iv_get hv
      refine ⟨Tp, _, rfl, sqT_tup hT, rfl, _, _, rfl, _, _, rfl, rfl, rfl, _, rfl, _, rfl, _, _, rfl, rfl, ?_⟩
      show k1 (.bl (decide (n ≤ m))) H3
      rw [decide_eq_true (fall_next hk.fall hm hn)]
      refine hk1 _ _ (Same.refl _) ?_
      rw [hr, List.replicate_succ']
    · refine ⟨D2, List.replicate (min (iv ns).length (iv ns).tail.length) true, rfl, sqL_lst (by rw [hD2, hr2, List.map_replicate]), ?_⟩
      rw [all_rep]
      exact q _ ((s1.trans s2).trans s3)
theorem pr_are {f : Addr} {fd : FuncData} (T : Top K mg) (G : Pr P w K mg base "is_from" 4 spFrom) (hm : mg "are_numbers" = some (.ref f)) (F : Fun K "are_numbers" "are_numbers" (topS 21) f fd) : Pr P w K mg base "are_numbers" 6 (spAre K) := by
  refine pr_of hm F (F.ok sc21 (fun vs H Q E h => ?_) (fun cdv A outer s H vs Q E hr h => ?_)) (fun _ _ _ _ _ _ us hl => match us, hl with | [_], _ => rfl)
  · obtain ⟨a, ns, rfl, _⟩ := h
    rfl
  · obtain ⟨t, ht, hw⟩ := are_body T G hr
    exact ⟨t, ht, hw h⟩
end PkD
end
section -- PkD2
set_option maxRecDepth 100000
set_option maxHeartbeats 4000000
namespace PkD
open PySem PySem.Spec PyProof.Rows L2 SlX PkR PkL RZ
variable {P : Program} {w : World} {K : PySem.W.Frag} {mg : Str → Option Value} {base : Heap}
theorem iv_app (a b : List Int) : iv (a ++ b) = iv a ++ iv b := List.map_append
theorem iv_len (ns : List Int) : (iv ns).length = ns.length := List.length_map ..
theorem take_iv (ns : List Int) : ns.take (iv ns).length = ns := by rw [iv_len, List.take_length]
theorem iv_turned (ns : List Int) : iv (Pk.turned ns) = (List.range (Pk.top0 ns).toNat).map fun j => V.int (Pk.cnt ns (j : Nat) : Int) := by
  show ((List.range _).map _).map V.int = _
  rw [List.map_map]
  rfl
theorem take_more {α : Type} {l : List α} {i : Nat} {x : α} (h : l[i]? = some x) : l.take (i + 1) = l.take i ++ [x] := by
  rw [List.take_add_one, h]
  rfl
theorem filter_more {α : Type} {p : α → Bool} {l : List α} {i : Nat} {x : α} (h : l[i]? = some x) : (l.take (i + 1)).filter p = (l.take i).filter p ++ (if p x = true then [x] else []) := by
  rw [take_more h, List.filter_append]
  by_cases c : p x = true
  · rw [if_pos c, List.filter_cons_of_pos c]
    rfl
  · rw [if_neg c, List.filter_cons_of_neg c]
    rfl
/-! ### without_zeros -/
def spWz (K : PySem.W.Frag) : Sp := fun vs H Q _ => ∃ (a : Addr) (ns : List Int), vs = [.ref a] ∧ SqT K H a (iv ns) ∧ ns.length ≤ 1000 ∧ ∀ p H', Same H H' → SqT K H' p (iv (Pk.wz ns)) → Q (.ref p) H'
abbrev N23 : List Str := ["numbers", "number"]
theorem sc23 : FnScope N23 ["numbers"] (defScope (topS 23)) := ⟨rfl, rfl, rfl, by decide +kernel, rfl, by decide +kernel, by decide +kernel⟩
theorem pr_wz {f : Addr} {fd : FuncData} (T : Top K mg) (hm : mg "without_zeros" = some (.ref f)) (F : Fun K "without_zeros" "without_zeros" (topS 23) f fd) : Pr P w K mg base "without_zeros" 2 (spWz K) := by
  refine pr_of hm F (F.ok sc23 (fun vs H Q E h => ?_) (fun cdv A outer s H vs Q E hr h => ⟨_, pss_one (ps_ret (pe_callTy call_tupL (by rfl) T.tuple b_tuple (pa_cons (pe_lc (own := [("number", 1)]) (by rfl) sc23.nd (pi_tup (pv 0)) (blkOk_by (N := N23) (sc := defScope (topS 23)) (by decide +kernel))
    (fun s H C cl fp => pg_name (i := 1) sc23.nd rfl (Or.inl rfl)) (fun s H C cl fp => pts_one (pt_cmpR op_gt (pv 1) pe_int (nomark _))) (fun s H C cl fp => pv 1)) pa_nil))), ?_⟩)) (fun _ _ _ _ _ _ us hl => match us, hl with | [_], _ => rfl)
  · obtain ⟨a, ns, rfl, _⟩ := h
    rfl
  · obtain ⟨a, ns, rfl, hS, hl, q⟩ := h
    have hz : (iv ns).length ≤ 1000000 := by rw [List.length_map]; omega
    refine ⟨.ref a, rfl, a, rfl, ⟨_, hS⟩, lc_same (feeds_tup hS) hz (fun i acc _ => acc = iv (Pk.wz (ns.take i))) (fun _ _ _ _ _ h => h) rfl (fun i x acc H1 k1 k2 hi hs1 hx hr hk1 hk2 => ?_) (fun D acc H1 s1 hD _ hr => ?_)⟩
    · obtain ⟨n, hn, rfl⟩ := iv_get hx
      have hw : Pk.wz (ns.take (i + 1)) = Pk.wz (ns.take i) ++ (if 0 < n then [n] else []) := by
        rw [take_more hn]
        unfold Pk.wz
        rw [List.filter_append]
        by_cases c : 0 < n
        · rw [if_pos c, List.filter_cons_of_pos (by simpa using c)]
          rfl
        · rw [if_neg c, List.filter_cons_of_neg (by simpa using c)]
          rfl
      refine ⟨rfl, _, rfl, _, _, rfl, rfl, _, rfl, ite2 (fun c => ?_) (fun c => ?_)⟩
      · refine ⟨_, rfl, hk1 _ _ (Same.refl _) ?_⟩
        rw [hr, hw, if_pos (of_decide_eq_true c), iv_app]
        rfl
      · refine hk2 _ (Same.refl _) ?_
        rw [hr, hw, if_neg (fun z => c (decide_eq_true z)), List.append_nil]
    · refine ⟨D, acc, rfl, sqL_lst hD, fun l H2 s2 hl2 => q l H2 (s1.trans s2) ?_⟩
      rw [hr, List.length_map, List.take_length] at hl2
      exact sqT_tup hl2
/-! ### turned_numbers -/
def spTurn (K : PySem.W.Frag) : Sp := fun vs H Q _ => ∃ (a : Addr) (ns : List Int), vs = [.ref a] ∧ SqT K H a (iv ns) ∧ Pk.Kd ns ∧ ns.sum ≤ 1000 ∧ ∀ p H', Same H H' → SqT K H' p (iv (Pk.turned ns)) → Q (.ref p) H'
abbrev N22 : List Str := ["numbers", "number", "at"]
theorem sc22 : FnScope N22 ["numbers"] (defScope (topS 22)) := ⟨rfl, rfl, rfl, by decide +kernel, rfl, by decide +kernel, by decide +kernel⟩
theorem maxOr_top {ns : List Int} (h : ∀ x ∈ ns, 1 ≤ x) : maxOr 0 ns = Pk.top0 ns := by
  cases ns with
  | nil => rfl
  | cons x ns =>
    have hx := h x List.mem_cons_self
    show ns.foldl max x = (x :: ns).foldl max 0
    rw [List.foldl_cons, show max 0 x = x from by omega]
def compScope : Expr → Scope
  | .ListComp _ _ sc _ => sc
  | _ => { kind := .function, names := [], isGenerator := false, isCoroutine := false }
abbrev sc22a : Scope := { kind := .function, names := [(".0", .local), ("at", .cell), ("len", .globalImplicit), ("numbers", .cell)], isGenerator := false, isCoroutine := false }
theorem pr_turn {f : Addr} {fd : FuncData} (T : Top K mg) (hm : mg "turned_numbers" = some (.ref f)) (F : Fun K "turned_numbers" "turned_numbers" (topS 22) f fd) : Pr P w K mg base "turned_numbers" 3 (spTurn K) := by
  refine pr_of hm F (F.ok sc22 (fun vs H Q E h => ?_) (fun cdv A outer s H vs Q E hr h => ⟨_, pss_one (ps_ret (pe_callTy call_tupL (by rfl) T.tuple b_tuple (pa_cons (pe_lc (own := [("at", 2)]) (by rfl) sc22.nd
    (pi_range1 (by rfl) T.range (pa_cons (pe_callBK (cr_maxT (by rfl) hr.units) (by rfl) T.max b_max (pa_cons (pv 0) pa_nil) (pk_cons pe_int pk_nil)) pa_nil)) (blkOk_by (N := N22) (sc := defScope (topS 22)) (by decide +kernel))
    (fun s H C cl fp => pg_name (i := 2) sc22.nd rfl (by first | exact Or.inl rfl | exact Or.inr rfl | exact Or.inr (Or.inl rfl))) (fun s H C cl fp => pts_nil) (fun s H C cl fp => pe_callB (call_lenK K (by rfl)) (by rfl) T.len b_len (pa_cons
      (pe_lc (own := [("number", 1)]) (by rfl) sc22.nd (pi_tupK K (by rfl) (pv 0)) (blkOk_by (N := N22) (sc := sc22a) (by decide +kernel))
        (fun s H C cl fp => pg_name (i := 1) sc22.nd rfl (Or.inl rfl)) (fun s H C cl fp => pts_one (pt_cmpR op_gt (pv 1) (pv 2) (nomark _))) (fun s H C cl fp => pv 1)) pa_nil))) pa_nil))), ?_⟩)) (fun _ _ _ _ _ _ us hl => match us, hl with | [_], _ => rfl)
  · obtain ⟨a, ns, rfl, _⟩ := h
    rfl
  · obtain ⟨a, ns, rfl, hS, hk, hs, q⟩ := h
    have hl : ns.length ≤ 1000 := by have := (le_sum hk.pos).1; omega
    have hz : (iv ns).length ≤ 1000000 := by rw [List.length_map]; omega
    have ht : Pk.top0 ns ≤ 1000 := by
      rcases (Pk.foldl_max ns 0).2.2 with e | e
      · show ns.foldl max 0 ≤ 1000
        rw [e]
        decide
      · exact (kd_mem hk hs e).2
    have ht0 : 0 ≤ Pk.top0 ns := (Pk.foldl_max ns 0).1
    refine ⟨.ref a, rfl, a, ns, 0, rfl, rfl, hS, _, rfl, ?_⟩
    rw [maxOr_top hk.pos]
    refine ⟨by omega, by omega, lc_same feeds_rng (by omega) (fun i acc _ => acc = (List.range i).map fun j => V.int (Pk.cnt ns (j : Nat) : Int)) (fun _ _ _ _ _ h => h) rfl (fun i x acc H1 k1 k2 hi hs1 hx hr hk1 hk2 => ?_) (fun D acc H1 s1 hD _ hr => ?_)⟩
    · subst hx
      refine ⟨rfl, .ref a, rfl, a, rfl, ⟨_, hs1.sqT hS⟩, lc_same (feeds_tup (hs1.sqT hS)) hz (fun j acc _ => acc = iv ((ns.take j).filter fun n => decide (((i : Nat) : Int) < n))) (fun _ _ _ _ _ h => h) rfl (fun j x acc2 H2 k3 k4 hj hs2 hx2 hr2 hk3 hk4 => ?_) (fun D2 acc2 H2 s2 hD2 _ hr2 => ?_)⟩
      · obtain ⟨n, hn, rfl⟩ := iv_get hx2
        refine ⟨rfl, _, rfl, _, rfl, _, _, rfl, rfl, _, rfl, ?_⟩
        rw [Int.zero_add]
        refine ite2 (fun c => ⟨_, rfl, hk3 _ _ (Same.refl _) ?_⟩) (fun c => hk4 _ (Same.refl _) ?_)
        · rw [hr2, filter_more hn, if_pos c, iv_app]
          rfl
        · rw [hr2, filter_more hn, if_neg c, List.append_nil]
      · refine ⟨_, _, rfl, lenL (sqL_lst hD2), hk1 _ _ s2 ?_⟩
        rw [hr, hr2, iv_len, take_iv, List.range_succ, List.map_append]
        rfl
    · refine ⟨D, acc, rfl, sqL_lst hD, fun l H2 s2 hl2 => q l H2 (s1.trans s2) ?_⟩
      rw [hr] at hl2
      rw [iv_turned]
      exact sqT_tup hl2
end PkD
end
section -- PkD3
set_option maxRecDepth 100000
set_option maxHeartbeats 4000000
namespace PkD
open PySem PySem.Spec PyProof.Rows L2 SlX PkR PkL RZ
variable {P : Program} {w : World} {K : PySem.W.Frag} {mg : Str → Option Value} {base : Heap}
/-- what the top says of the class Kind, at C -/
structure Kn (K : PySem.W.Frag) (mg : Str → Option Value) (C : Addr) : Prop where
  gC : mg "Kind" = some (.ref C)
  kC : PySem.W.keepIn K (.ref C) = true
  sc : SCls K C
  s0 : ∃ p, Slot1 K C "own_key" p 0
  s1 : ∃ p, Slot1 K C "own_numbers" p 1
  s2 : ∃ p, Slot1 K C "own_size" p 2
  s3 : ∃ p, Slot1 K C "own_text" p 3
  si : SIsi K C
def textOf (l : List Int) : Str := ("[" : Str) ++ Txt.join " " (l.map fun n => (toString n : Str)) ++ ("]" : Str)
/-- at a: the kind of the numbers l -/
def KindAt (K : PySem.W.Frag) (C : Addr) (H : Hp) (a : Addr) (l : List Int) : Prop :=
  ∃ dx k kn n, Slt H a C dx [some (.ref k), some (.ref n), some (.int l.sum), some (.str (textOf l))] ∧ SqT K H k [.int l.sum, .ref kn] ∧ SqT K H kn (iv (l.map fun x => -x)) ∧ SqT K H n (iv l) ∧ Pk.Kd l ∧ l.sum ≤ 12
theorem KindAt.frz {K : PySem.W.Frag} {C : Addr} {H H' : Hp} {a : Addr} {l : List Int} (e : Frz H H') (h : KindAt K C H a l) : KindAt K C H' a l := by
  obtain ⟨dx, k, kn, n, h1, h2, h3, h4, h5, h6⟩ := h
  exact ⟨dx, k, kn, n, e.slt h1, e.sqT h2, e.sqT h3, e.sqT h4, h5, h6⟩
theorem KindAt.same {K : PySem.W.Frag} {C : Addr} {H H' : Hp} {a : Addr} {l : List Int} (e : Same H H') (h : KindAt K C H a l) : KindAt K C H' a l := h.frz e.frz
/-- all but x and dx stays -/
def But2 (x dx : Addr) (H H' : Hp) : Prop := ∀ b o, b ≠ x → b ≠ dx → H b = some o → H' b = some o
theorem But2.same {x dx : Addr} {H H' H'' : Hp} (h : But2 x dx H H') (s : Same H' H'') : But2 x dx H H'' := fun b o h1 h2 e => s b o (h b o h1 h2 e)
theorem But2.slH {x dx C : Addr} {vs : List (Option V)} {H H' : Hp} (h : But2 x dx H H') : But2 x dx H (slH H' x C dx vs) := fun b o h1 h2 e => by
  rw [slH_ne h1 h2]
  exact h b o h1 h2 e
/-- an object of another kind than an instance and its dict -/
theorem sqT_slH {K : PySem.W.Frag} {H : Hp} {x dx C p : Addr} {vs : List (Option V)} {xs : List V} {ox od : HO} (hx : H x = some ox) (hd : H dx = some od) (n1 : (∀ ys, ox ≠ .tup ys) ∧ ∀ o u, ox ≠ .frz o u) (n2 : (∀ ys, od ≠ .tup ys) ∧ ∀ o u, od ≠ .frz o u)
    (h : SqT K H p xs) : SqT K (slH H x C dx vs) p xs := by
  have ne : ∀ {u : HO} {b : Addr} {o : HO}, H b = some o → H p = some u → o ≠ u → p ≠ b := fun {u b o} hb hp d z => by
    rw [z, hb] at hp
    exact d (Option.some.inj hp)
  rcases h with (h | ⟨o, h⟩) | h
  · refine .inl (.inl ?_)
    rw [slH_ne (ne hx h (n1.1 _)) (ne hd h (n2.1 _))]
    exact h
  · refine .inl (.inr ⟨o, ?_⟩)
    rw [slH_ne (ne hx h (n1.2 _ _)) (ne hd h (n2.2 _ _))]
    exact h
  · exact .inr h
/-- a slotted instance being made: slots vs, its dict at dx -/
structure Mkg (H : Hp) (x C dx : Addr) (vs : List (Option V)) : Prop where
  slt : Slt H x C dx vs
  ne : dx ≠ x
  ox : ∃ o, H x = some o ∧ (∀ ys, o ≠ .tup ys) ∧ (∀ a u, o ≠ .frz a u)
  od : ∃ o, H dx = some o ∧ (∀ ys, o ≠ .tup ys) ∧ (∀ a u, o ≠ .frz a u)
theorem Mkg.start {H : Hp} {x C dx : Addr} (h : H x = some (.ins C dx [])) (hd : H dx = some (.own x)) (ne : dx ≠ x) : Mkg H x C dx [] :=
  ⟨.inl ⟨h, rfl⟩, ne, ⟨_, h, (fun _ z => by cases z), (fun _ _ z => by cases z)⟩, ⟨_, hd, (fun _ z => by cases z), (fun _ _ z => by cases z)⟩⟩
theorem Mkg.put {H : Hp} {x C dx : Addr} {vs ws : List (Option V)} (h : Mkg H x C dx vs) : Mkg (slH H x C dx ws) x C dx ws :=
  ⟨slH_slt h.ne, h.ne, ⟨SlO x C dx ws, by unfold slH; exact upd_same, (fun _ z => by unfold SlO at z; cases z), (fun _ _ z => by unfold SlO at z; cases z)⟩, ⟨.xd [], by unfold slH; rw [upd_ne h.ne, upd_same], (fun _ z => by cases z), (fun _ _ z => by cases z)⟩⟩
theorem slt_same {H H' : Hp} {a C dx : Addr} {vs : List (Option V)} (e : Same H H') (h : Slt H a C dx vs) : Slt H' a C dx vs := e.frz.slt h
theorem Mkg.same {H H' : Hp} {x C dx : Addr} {vs : List (Option V)} (h : Mkg H x C dx vs) (s : Same H H') : Mkg H' x C dx vs := by
  obtain ⟨o, h1, h2⟩ := h.ox
  obtain ⟨u, g1, g2⟩ := h.od
  exact ⟨slt_same s h.slt, h.ne, ⟨o, s _ _ h1, h2⟩, ⟨u, s _ _ g1, g2⟩⟩
theorem Mkg.sqT {K : PySem.W.Frag} {H : Hp} {x C dx p : Addr} {vs ws : List (Option V)} {xs : List V} (h : Mkg H x C dx vs) (hp : SqT K H p xs) : SqT K (slH H x C dx ws) p xs := by
  obtain ⟨o, h1, h2⟩ := h.ox
  obtain ⟨u, g1, g2⟩ := h.od
  exact sqT_slH h1 g1 h2 g2 hp
def spInit (K : PySem.W.Frag) (C : Addr) : Sp := fun vs H Q _ => ∃ (x dx a : Addr) (l : List Int), vs = [.ref x, .ref a] ∧ H x = some (.ins C dx []) ∧ H dx = some (.own x) ∧ dx ≠ x ∧ SqT K H a (iv l) ∧ Pk.Kd l ∧ l.sum ≤ 12 ∧
  ∀ H', But2 x dx H H' → KindAt K C H' x l → Q .non H'
def clsS (j : Nat) : Stmt := inClass (topS 27) j
abbrev NI : List Str := ["self", "numbers", "number"]
theorem scI : FnScope NI ["self", "numbers"] (defScope (clsS 1)) := ⟨rfl, rfl, rfl, by decide +kernel, rfl, by decide +kernel, by decide +kernel⟩
theorem pe_opening {X : Cx} {pos : Pos} (T : Top X.K X.mg) (hg : Gl X "OPENING") : PE X (.Name "OPENING" pos) (tC (.str "[")) := by
  obtain ⟨t, h⟩ := T.OPEN
  exact pe_glob hg h ⟨t, rfl⟩ (by decide)
theorem pe_closing {X : Cx} {pos : Pos} (T : Top X.K X.mg) (hg : Gl X "CLOSING") : PE X (.Name "CLOSING" pos) (tC (.str "]")) := by
  obtain ⟨t, h⟩ := T.CLOSE
  exact pe_glob hg h ⟨t, rfl⟩ (by decide)
theorem pe_blank {X : Cx} {pos : Pos} (T : Top X.K X.mg) (hg : Gl X "BLANK") : PE X (.Name "BLANK" pos) (tC (.str " ")) := by
  obtain ⟨t, h⟩ := T.BLANK
  exact pe_glob hg h ⟨t, rfl⟩ (by decide)
theorem small_cases {n : Int} (h1 : 1 ≤ n) (h2 : n ≤ 12) : n = 1 ∨ n = 2 ∨ n = 3 ∨ n = 4 ∨ n = 5 ∨ n = 6 ∨ n = 7 ∨ n = 8 ∨ n = 9 ∨ n = 10 ∨ n = 11 ∨ n = 12 := by omega
theorem small_log {n : Int} (h1 : 1 ≤ n) (h2 : n ≤ 12) : n.natAbs.log2 < 1920 := by
  rcases small_cases h1 h2 with rfl | rfl | rfl | rfl | rfl | rfl | rfl | rfl | rfl | rfl | rfl | rfl <;> decide +kernel
theorem small_len {n : Int} (h1 : 1 ≤ n) (h2 : n ≤ 12) : (toString n : Str).length ≤ 2 := by
  rcases small_cases h1 h2 with rfl | rfl | rfl | rfl | rfl | rfl | rfl | rfl | rfl | rfl | rfl | rfl <;> decide +kernel
theorem len_sum : ∀ {l : List Int}, (∀ n ∈ l, 1 ≤ n ∧ n ≤ 12) → ((l.map fun n => (toString n : Str)).map (·.length)).sum ≤ 2 * l.length
  | [], _ => by decide
  | n :: l, h => by
    have ih := len_sum fun m hm => h m (List.mem_cons_of_mem _ hm)
    have hn := small_len (h n List.mem_cons_self).1 (h n List.mem_cons_self).2
    rw [List.map_cons, List.map_cons, List.sum_cons, List.length_cons]
    omega
theorem len_cat (a b : Str) : (a ++ b).length = a.length + b.length := by
  first
    | exact Str.length_append a b
    | exact PySem.Str.length_append
    | simp [Str.length]
theorem join_len (sep : Str) (l : List Str) : (Txt.join sep l).length ≤ (l.map (·.length)).sum + l.length * sep.length := by
  unfold Txt.join
  rw [StrLaws.glued_eq_join]
  exact StrLaws.join_length_le sep l
theorem ok_init {C : Addr} {f : Addr} {fd : FuncData} {dvs : List V} (T : Top K mg) (KN : Kn K mg C) (G : Pr P w K mg base "are_numbers" 6 (spAre K)) (F : FunD K "__init__" "Kind.__init__" (defArgs (clsS 1)) (defBody (clsS 1)) (defScope (clsS 1)) dvs [] f fd) :
    FnOk P w K mg base CX0 9 f fd ["self", "numbers"] (spInit K C) := by
  refine F.ok scI (fun vs H Q E h => ?_) (fun cdv A outer s H vs Q E hr h => ⟨_, pss_cons (ps_if (pt_not (pt_val (pe_callP G (hr.mono (by decide)) (by rfl) (pa_cons (pv 1) pa_nil)))) pss_never pss_nil)
    (pss_cons (ps_sl (pv 0) (pv 1))
    (pss_cons (ps_sl (pv 0) (pe_callB (cr_sumT (by rfl)) (by rfl) T.sum b_sum (pa_cons (pv 1) pa_nil)))
    (pss_cons (ps_sl (pv 0) (pe_tup (pa_cons (pe_sl (pv 0)) (pa_cons (pe_callTy call_tupL (by rfl) T.tuple b_tuple (pa_cons (pe_lc (own := [("number", 2)]) (by rfl) scI.nd (pi_tup (pv 1)) (blkOk_by (N := NI) (sc := defScope (clsS 1)) (by decide +kernel))
        (fun s H C cl fp => pg_name (i := 2) scI.nd rfl (Or.inl rfl)) (fun s H C cl fp => pts_nil) (fun s H C cl fp => pe_un un_neg (pv 2))) pa_nil)) pa_nil))))
    (pss_one (ps_sl (pv 0) (pe_op op_add_str (pe_op op_add_str (pe_opening T (by rfl)) (pe_join (pe_blank T (by rfl)) (pe_lc (own := [("number", 2)]) (by rfl) scI.nd (pi_tup (pv 1)) (blkOk_by (N := NI) (sc := defScope (clsS 1)) (by decide +kernel))
        (fun s H C cl fp => pg_name (i := 2) scI.nd rfl (Or.inl rfl)) (fun s H C cl fp => pts_nil) (fun s H C cl fp => pe_callTy call_str_int (by rfl) T.str b_str (pa_cons (pv 2) pa_nil))))) (pe_closing T (by rfl)))))))), ?_⟩)
  · obtain ⟨x, dx, a, l, rfl, _⟩ := h
    rfl
  · obtain ⟨x, dx, a, l, rfl, hx, hd, ne, hS, hk, hs, q⟩ := h
    obtain ⟨p0, t0⟩ := KN.s0
    obtain ⟨p1, t1⟩ := KN.s1
    obtain ⟨p2, t2⟩ := KN.s2
    obtain ⟨p3, t3⟩ := KN.s3
    have hz : (iv l).length ≤ 1000000 := by
      have := (le_sum hk.pos).1
      rw [iv_len]
      omega
    refine ⟨_, rfl, a, l, rfl, hS, hk, hs, fun H1 e1 => ⟨_, rfl, ?_⟩⟩
    have m0 : Mkg H1 x C dx [] := (Mkg.start hx hd ne).same e1
    have b1 : But2 x dx H (slH H1 x C dx (putS 1 (.ref a) [])) := But2.slH fun b o _ _ e => e1 b o e
    have m1 : Mkg (slH H1 x C dx (putS 1 (.ref a) [])) x C dx (putS 1 (.ref a) []) := m0.put
    have S1 : SqT K (slH H1 x C dx (putS 1 (.ref a) [])) a (iv l) := m0.sqT (e1.sqT hS)
    refine ⟨_, rfl, _, rfl, x, C, dx, p1, [], 1, rfl, m0.slt, KN.sc, t1, ?_⟩
    refine ⟨_, rfl, a, l, rfl, S1, _, rfl, x, C, dx, p2, _, 2, rfl, m1.slt, KN.sc, t2, ?_⟩
    generalize hH2 : slH (slH H1 x C dx (putS 1 (.ref a) [])) x C dx (putS 2 (.int l.sum) (putS 1 (.ref a) [])) = H2
    have m2 : Mkg H2 x C dx (putS 2 (.int l.sum) (putS 1 (.ref a) [])) := by rw [← hH2]; exact m1.put
    have b2 : But2 x dx H H2 := by rw [← hH2]; exact b1.slH
    have S2 : SqT K H2 a (iv l) := by rw [← hH2]; exact m1.sqT S1
    refine ⟨_, rfl, x, C, dx, p2, _, 2, _, rfl, m2.slt, KN.sc, t2, rfl, _, rfl, a, rfl, ⟨_, S2⟩, lc_same (feeds_tup S2) hz (fun i acc _ => acc = iv ((l.take i).map fun x => -x)) (fun _ _ _ _ _ h => h) rfl (fun i y acc H3 k1 k2 hi hs3 hy hr hk1 hk2 => ?_) (fun D acc H3 s3 hD _ hr => ?_)⟩
    · obtain ⟨n, hn, rfl⟩ := iv_get hy
      refine ⟨rfl, _, rfl, n, rfl, hk1 _ _ (Same.refl _) ?_⟩
      rw [hr, take_more hn, List.map_append, iv_app]
      rfl
    · refine ⟨D, acc, rfl, sqL_lst hD, fun kn H4 s4 hkn => ⟨(by show 2 ≤ sizeLine; decide), fun kk hkk => ⟨_, rfl, x, C, dx, p0, _, 0, rfl, ((m2.same (s3.trans s4)).same (same_new hkk)).slt, KN.sc, t0, ?_⟩⟩⟩
      generalize hH5 : upd H4 kk (.tup [V.int l.sum, V.ref kn]) = H5
      have s5 : Same H4 H5 := by rw [← hH5]; exact same_new hkk
      have e5 : H5 kk = some (.tup [V.int l.sum, V.ref kn]) := by rw [← hH5]; exact upd_same
      have s25 : Same H2 H5 := (s3.trans s4).trans s5
      have m5 := m2.same s25
      have hkn5 : SqT K H5 kn (iv (l.map fun x => -x)) := by
        rw [hr, take_iv] at hkn
        exact s5.sqT (sqT_tup hkn)
      generalize hH6 : slH H5 x C dx (putS 0 (V.ref kk) (putS 2 (.int l.sum) (putS 1 (.ref a) []))) = H6
      have m6 : Mkg H6 x C dx (putS 0 (V.ref kk) (putS 2 (.int l.sum) (putS 1 (.ref a) []))) := by rw [← hH6]; exact m5.put
      have b6 : But2 x dx H H6 := by rw [← hH6]; exact (b2.same s25).slH
      have S6 : SqT K H6 a (iv l) := by rw [← hH6]; exact m5.sqT (s25.sqT S2)
      have K6 : SqT K H6 kn (iv (l.map fun x => -x)) := by rw [← hH6]; exact m5.sqT hkn5
      have k6 : SqT K H6 kk [.int l.sum, .ref kn] := by rw [← hH6]; exact m5.sqT (sqT_tup e5)
      refine ⟨⟨_, rfl⟩, _, rfl, a, rfl, ⟨_, S6⟩, lc_same (feeds_tup S6) hz (fun i acc _ => acc = ((l.take i).map fun n => (toString n : Str)).map V.str) (fun _ _ _ _ _ h => h) rfl (fun i y acc H3 k1 k2 hi hs3 hy hr hk1 hk2 => ?_) (fun D acc H7 s7 hD _ hr => ?_)⟩
      · obtain ⟨n, hn, rfl⟩ := iv_get hy
        have hb := kd_mem hk hs (List.mem_of_getElem? hn)
        refine ⟨rfl, _, rfl, n, rfl, small_log hb.1 hb.2, hk1 _ _ (Same.refl _) ?_⟩
        rw [hr, take_more hn, List.map_append, List.map_append]
        rfl
      · rw [take_iv] at hr
        have hjoin : ((l.map fun n => (toString n : Str)).map (·.length)).sum + (l.map fun n => (toString n : Str)).length * (" " : Str).length ≤ 1000 := by
          have h1 := len_sum (l := l) (fun n hn => kd_mem hk hs hn)
          have h2 := kd_len hk hs
          rw [List.length_map, show (" " : Str).length = 1 from by decide]
          omega
        have hj2 := join_len " " (l.map fun n => (toString n : Str))
        refine ⟨(" " : Str), D, _, rfl, rfl, .inl (sqL_lst (by rw [hD, hr])), by omega, _, _, rfl, rfl, ?_, _, _, rfl, rfl, ?_, _, rfl, x, C, dx, p3, _, 3, rfl, (m6.same s7).slt, KN.sc, t3, ?_⟩
        · refine Nat.le_trans (show (1 : Nat) + _ ≤ 2000 from ?_) (by decide)
          omega
        · refine Nat.le_trans (show _ + (1 : Nat) ≤ 2000 from ?_) (by decide)
          rw [len_cat, show ("[" : Str).length = 1 from by decide]
          omega
        · refine q _ ((b6.same s7).slH) ⟨dx, kk, kn, a, (m6.same s7).put.slt, (m6.same s7).sqT (s7.sqT k6), (m6.same s7).sqT (s7.sqT K6), (m6.same s7).sqT (s7.sqT S6), hk, hs⟩
end PkD
end
section -- PkD4
set_option maxRecDepth 100000
set_option maxHeartbeats 4000000
namespace PkD
open PySem PySem.Spec PyProof.Rows L2 SlX PkR PkL RZ
variable {P : Program} {w : World} {K : PySem.W.Frag} {mg : Str → Option Value} {base : Heap}
/-! ### Kind(e) -/
/-- the class with its __init__ walked -/
structure KM (P : Program) (w : World) (K : PySem.W.Frag) (mg : Str → Option Value) (base : Heap) (C : Addr) : Prop where
  kn : Kn K mg C
  made : ∃ f, Mk K C f ∧ FnR P w K mg base CX0 9 f (spInit K C)
def tKind (K : PySem.W.Frag) (C : Addr) (t : TA) : TE := fun σ H Q => t σ H fun vs H1 => ∃ a l, vs = [.ref a] ∧ SqT K H1 a (iv l) ∧ Pk.Kd l ∧ l.sum ≤ 12 ∧ ∀ x H', H1 x = none → Same H1 H' → KindAt K C H' x l → Q (.ref x) H'
theorem pe_kind {X : Cx} {C : Addr} {e : Expr} {es : List Expr} {t : TA} {p pos : Pos} (K : PySem.W.Frag) (hK : X.K = K) (M : KM X.prog X.w X.K X.mg X.base C) (hr : Room 10 X.A) (hg : Gl X "Kind") (ha : PA X (e :: es) t)
    (he : starEach (e :: es) X.env = (false, eval e X.env) :: starEach es X.env := by rfl) (hpl : (backTo pos (starEach es X.env)).any (·.1) = false := by rfl) : PE X (.Call (.Name "Kind" p) (e :: es) [] pos) (tKind K C t) := by
  subst hK
  obtain ⟨kn, f, mk, F⟩ := M
  refine ⟨fun pins s σ H Q I h => ?_⟩
  refine wpAny_Call_Name_kw (ld_glob I hg kn.gC ?_ (by decide))
  refine PySem.W.callWith_K (h₀ := X.base) I.ok.mod.kin mk.kp (thn (ha.run pos pins s σ H _ I h) fun us s1 ⟨vs, H1, I1, r, q⟩ => ⟨I1.kIn, ?_⟩) he hpl
  obtain ⟨a, l, rfl, hS, hk, hs, q⟩ := q
  refine StX.run_makeR mk F hr pass0 I1 r fun x dx hx hd ne => ?_
  have s0 : Same H1 (upd (upd H1 dx (.own x)) x (.ins C dx [])) := fun b o e => by
    rw [upd_ne (ne_of_none e hx), upd_ne (ne_of_none e hd)]
    exact e
  refine ⟨x, dx, a, l, rfl, upd_same, by rw [upd_ne ne, upd_same], ne, s0.sqT hS, hk, hs, fun H' b2 hK => ⟨rfl, q x H' hx (fun b o e => b2 b o (ne_of_none e hx) (ne_of_none e hd) (s0 b o e)) hK⟩⟩
/-! ### reading the fields -/
theorem KindAt.numE {K : PySem.W.Frag} {C : Addr} {H : Hp} {a : Addr} {l : List Int} (KN : Kn K mg C) (h : KindAt K C H a l) {f : Str} (hf : f = "own_numbers") :
    ∃ n, SqT K H n (iv l) ∧ ∃ C' dx p vs, ∃ i v, Slt H a C' dx vs ∧ SCls K C' ∧ Slot1 K C' f p i ∧ vs[i]? = some (some v) ∧ v = .ref n := by
  obtain ⟨dx, k, kn, n, h1, h2, h3, h4, _⟩ := h
  obtain ⟨p1, t1⟩ := KN.s1
  subst hf
  exact ⟨n, h4, C, dx, p1, _, 1, _, h1, KN.sc, t1, rfl, rfl⟩
/-- e.own_numbers of a kind: any tuple of its numbers -/
def tNumK (K : PySem.W.Frag) (C : Addr) (ta : TE) : TE := fun σ H Q => ta σ H fun x H1 => ∃ a l, x = .ref a ∧ KindAt K C H1 a l ∧ ∀ n, SqT K H1 n (iv l) → Q (.ref n) H1
theorem pe_numK {X : Cx} {C : Addr} {e : Expr} {ta : TE} {pos : Pos} (K : PySem.W.Frag) (hK : X.K = K) (KN : Kn X.K X.mg C) (he : PE X e ta) (hb : attributeBase e "own_numbers" X.env (eval e X.env) = eval e X.env := by rfl) : PE X (.Attribute e "own_numbers" pos) (tNumK K C ta) := by
  subst hK
  obtain ⟨p1, t1⟩ := KN.s1
  refine ⟨fun pins s σ H Q I h => ?_⟩
  refine attr_of hb (thn (he.run pins s σ H _ I h) fun u s1 ⟨x, H1, I1, rx, a, l, ex, hK, q⟩ => ?_)
  subst ex
  obtain rfl : u = Value.ref a := rx
  obtain ⟨dx, k, kn, n, h1, h2, h3, h4, _⟩ := hK
  exact getslot_ok I1 h1 KN.sc t1 (v := .ref n) rfl fun u s' I' ru => ⟨_, H1, I', ru, q n h4⟩
def tSizeK (K : PySem.W.Frag) (C : Addr) (ta : TE) : TE := fun σ H Q => ta σ H fun x H1 => ∃ a l, x = .ref a ∧ KindAt K C H1 a l ∧ Q (.int l.sum) H1
theorem pe_sizeK {X : Cx} {C : Addr} {e : Expr} {ta : TE} {pos : Pos} (K : PySem.W.Frag) (hK : X.K = K) (KN : Kn X.K X.mg C) (he : PE X e ta) (hb : attributeBase e "own_size" X.env (eval e X.env) = eval e X.env := by rfl) : PE X (.Attribute e "own_size" pos) (tSizeK K C ta) := by
  subst hK
  obtain ⟨p1, t1⟩ := KN.s2
  refine ⟨fun pins s σ H Q I h => ?_⟩
  refine attr_of hb (thn (he.run pins s σ H _ I h) fun u s1 ⟨x, H1, I1, rx, a, l, ex, hK, q⟩ => ?_)
  subst ex
  obtain rfl : u = Value.ref a := rx
  obtain ⟨dx, k, kn, n, h1, h2, h3, h4, _⟩ := hK
  exact getslot_ok I1 h1 KN.sc t1 (v := .int l.sum) rfl fun u s' I' ru => ⟨_, H1, I', ru, q⟩
def tTextK (K : PySem.W.Frag) (C : Addr) (ta : TE) : TE := fun σ H Q => ta σ H fun x H1 => ∃ a l, x = .ref a ∧ KindAt K C H1 a l ∧ Q (.str (textOf l)) H1
theorem pe_textK {X : Cx} {C : Addr} {e : Expr} {ta : TE} {pos : Pos} (K : PySem.W.Frag) (hK : X.K = K) (KN : Kn X.K X.mg C) (he : PE X e ta) (hb : attributeBase e "own_text" X.env (eval e X.env) = eval e X.env := by rfl) : PE X (.Attribute e "own_text" pos) (tTextK K C ta) := by
  subst hK
  obtain ⟨p1, t1⟩ := KN.s3
  refine ⟨fun pins s σ H Q I h => ?_⟩
  refine attr_of hb (thn (he.run pins s σ H _ I h) fun u s1 ⟨x, H1, I1, rx, a, l, ex, hK, q⟩ => ?_)
  subst ex
  obtain rfl : u = Value.ref a := rx
  obtain ⟨dx, k, kn, n, h1, h2, h3, h4, _⟩ := hK
  exact getslot_ok I1 h1 KN.sc t1 (v := .str (textOf l)) rfl fun u s' I' ru => ⟨_, H1, I', ru, q⟩
/-- e.own_key: any tuple of the size and of the numbers with the sign turned -/
def KeyAt (K : PySem.W.Frag) (H : Hp) (k : Addr) (l : List Int) : Prop := ∃ kn, SqT K H k [.int l.sum, .ref kn] ∧ SqT K H kn (iv (l.map fun x => -x))
def tKeyK (K : PySem.W.Frag) (C : Addr) (ta : TE) : TE := fun σ H Q => ta σ H fun x H1 => ∃ a l, x = .ref a ∧ KindAt K C H1 a l ∧ ∀ k, KeyAt K H1 k l → Q (.ref k) H1
theorem pe_keyK {X : Cx} {C : Addr} {e : Expr} {ta : TE} {pos : Pos} (K : PySem.W.Frag) (hK : X.K = K) (KN : Kn X.K X.mg C) (he : PE X e ta) (hb : attributeBase e "own_key" X.env (eval e X.env) = eval e X.env := by rfl) : PE X (.Attribute e "own_key" pos) (tKeyK K C ta) := by
  subst hK
  obtain ⟨p1, t1⟩ := KN.s0
  refine ⟨fun pins s σ H Q I h => ?_⟩
  refine attr_of hb (thn (he.run pins s σ H _ I h) fun u s1 ⟨x, H1, I1, rx, a, l, ex, hK, q⟩ => ?_)
  subst ex
  obtain rfl : u = Value.ref a := rx
  obtain ⟨dx, k, kn, n, h1, h2, h3, h4, _⟩ := hK
  exact getslot_ok I1 h1 KN.sc t1 (v := .ref k) rfl fun u s' I' ru => ⟨_, H1, I', ru, q k ⟨kn, h2, h3⟩⟩
/-- isinstance(x, Kind) of a kind -/
def rIsiK (K : PySem.W.Frag) (C : Addr) : List V → Hp → VK → Prop := fun xs H Q => ∃ a l, xs = [.ref a, .ref C] ∧ KindAt K C H a l ∧ Q (.bl true) H
theorem call_isiKd {X : Cx} {C : Addr} (KN : Kn X.K X.mg C) : CallR X (.builtin "isinstance") (rIsiK X.K C) := by
  intro pins s σ H xs us Q I r h
  obtain ⟨a, l, rfl, hK, q⟩ := h
  obtain ⟨dx, k, kn, n, h1, _⟩ := hK
  exact call_isiSl (.ref C) pins s σ H _ us Q I r ⟨a, C, dx, _, .ref C, true, rfl, rfl, (fun w z => z), h1, KN.sc, KN.si, (by unfold PySem.W.kitOne; simp), q⟩
/-! ### the small methods -/
def spNums (K : PySem.W.Frag) (C : Addr) : Sp := fun vs H Q _ => ∃ a l, vs = [.ref a] ∧ KindAt K C H a l ∧ ∀ n, SqT K H n (iv l) → Q (.ref n) H
theorem scM {j : Nat} : True := trivial
theorem sc3 : FnScope ["self"] ["self"] (defScope (clsS 3)) := ⟨rfl, rfl, rfl, by decide +kernel, rfl, by decide +kernel, by decide +kernel⟩
theorem ok_nums {C f : Addr} {fd : FuncData} (KN : Kn K mg C) (F : Fun K "numbers" "Kind.numbers" (clsS 3) f fd) : FnOk P w K mg base CX0 2 f fd ["self"] (spNums K C) := by
  refine F.ok sc3 (fun vs H Q E h => ?_) (fun cdv A outer s H vs Q E hr h => ⟨_, pss_one (ps_ret (pe_numK K (by rfl) KN (pv 0))), ?_⟩)
  · obtain ⟨a, l, rfl, _⟩ := h
    rfl
  · obtain ⟨a, l, rfl, hK, q⟩ := h
    exact ⟨_, rfl, a, l, rfl, hK, q⟩
def spHeight (K : PySem.W.Frag) (C : Addr) : Sp := fun vs H Q _ => ∃ a l, vs = [.ref a] ∧ KindAt K C H a l ∧ Q (.int (Pk.top0 l)) H
theorem sc6 : FnScope ["self"] ["self"] (defScope (clsS 6)) := ⟨rfl, rfl, rfl, by decide +kernel, rfl, by decide +kernel, by decide +kernel⟩
theorem ok_height {C f : Addr} {fd : FuncData} (T : Top K mg) (KN : Kn K mg C) (F : Fun K "height" "Kind.height" (clsS 6) f fd) : FnOk P w K mg base CX0 2 f fd ["self"] (spHeight K C) := by
  refine F.ok sc6 (fun vs H Q E h => ?_) (fun cdv A outer s H vs Q E hr h => ⟨_, pss_one (ps_ret (pe_callBK (cr_maxT (by rfl) hr.units) (by rfl) T.max b_max (pa_cons (pe_numK K (by rfl) KN (pv 0)) pa_nil) (pk_cons pe_int pk_nil))), ?_⟩)
  · obtain ⟨a, l, rfl, _⟩ := h
    rfl
  · obtain ⟨a, l, rfl, hK, q⟩ := h
    obtain ⟨_, _, _, _, _, _, _, _, hk, _⟩ := id hK
    refine ⟨_, rfl, a, l, rfl, hK, fun n hn => ⟨n, l, 0, rfl, rfl, hn, ?_⟩⟩
    rw [maxOr_top hk.pos]
    exact q
def spTurnK (K : PySem.W.Frag) (C : Addr) : Sp := fun vs H Q _ => ∃ a l, vs = [.ref a] ∧ KindAt K C H a l ∧ ∀ x H', H x = none → Same H H' → KindAt K C H' x (Pk.turned l) → Q (.ref x) H'
theorem sc8 : FnScope ["self"] ["self"] (defScope (clsS 8)) := ⟨rfl, rfl, rfl, by decide +kernel, rfl, by decide +kernel, by decide +kernel⟩
theorem ok_turnK {C f : Addr} {fd : FuncData} (M : KM P w K mg base C) (G : Pr P w K mg base "turned_numbers" 3 (spTurn K)) (F : Fun K "turned" "Kind.turned" (clsS 8) f fd) : FnOk P w K mg base CX0 11 f fd ["self"] (spTurnK K C) := by
  refine F.ok sc8 (fun vs H Q E h => ?_) (fun cdv A outer s H vs Q E hr h => ⟨_, pss_one (ps_ret (pe_kind K (by rfl) M hr (by rfl) (pa_cons (pe_callP G (hr.mono (by decide)) (by rfl) (pa_cons (pe_numK K (by rfl) M.kn (pv 0)) pa_nil)) pa_nil))), ?_⟩)
  · obtain ⟨a, l, rfl, _⟩ := h
    rfl
  · obtain ⟨a, l, rfl, hK, q⟩ := h
    obtain ⟨_, _, _, _, _, _, _, _, hk, hs⟩ := id hK
    exact ⟨_, rfl, a, l, rfl, hK, fun n hn => ⟨n, l, rfl, hn, hk, by omega, fun p H' s' hp => ⟨p, _, rfl, hp, Pk.turned_kd hk, by rw [Pk.turned_sum hk]; exact hs, fun x H2 nx s2 hx => q x H2 (s'.free nx) (s'.trans s2) hx⟩⟩⟩
def spStr (K : PySem.W.Frag) (C : Addr) : Sp := fun vs H Q _ => ∃ a l, vs = [.ref a] ∧ KindAt K C H a l ∧ Q (.str (textOf l)) H
theorem sc22s : FnScope ["self"] ["self"] (defScope (clsS 22)) := ⟨rfl, rfl, rfl, by decide +kernel, rfl, by decide +kernel, by decide +kernel⟩
theorem ok_str {C f : Addr} {fd : FuncData} (T : Top K mg) (KN : Kn K mg C) (F : Fun K "__str__" "Kind.__str__" (clsS 22) f fd) : FnOk P w K mg base CX0 2 f fd ["self"] (spStr K C) := by
  refine F.ok sc22s (fun vs H Q E h => ?_) (fun cdv A outer s H vs Q E hr h => ⟨_, pss_one (ps_ret (pe_callTy SkE.call_str_str (by rfl) T.str b_str (pa_cons (pe_textK K (by rfl) KN (pv 0)) pa_nil))), ?_⟩)
  · obtain ⟨a, l, rfl, _⟩ := h
    rfl
  · obtain ⟨a, l, rfl, hK, q⟩ := h
    exact ⟨_, rfl, a, l, rfl, hK, _, rfl, q⟩
/-- an own special method of the class; a property; a method -/
def OwnAt (P : Program) (w : World) (K : PySem.W.Frag) (mg : Str → Option Value) (base : Heap) (C : Addr) (m : Str) (n : Nat) (sp : Sp) : Prop :=
  ∃ g, PySem.W.findIn K (.ref C) m = some (some (.ref g)) ∧ PySem.W.isFn K (.ref g) = true ∧ FnR P w K mg base CX0 n g sp
def PropAt (P : Program) (w : World) (K : PySem.W.Frag) (mg : Str → Option Value) (base : Heap) (C : Addr) (m : Str) (n : Nat) (sp : Sp) : Prop :=
  ∃ p g, PySem.W.findIn K (.ref C) m = some (some (.ref p)) ∧ PySem.W.specialIn K (.ref p) "__get__" = some (some (.builtin "property.__get__")) ∧ PySem.W.takesIn K (.ref p) = some true ∧ (∃ rest, PySem.W.recIn K p "property" = some (.ref g :: rest)) ∧ FnR P w K mg base CX0 n g sp
def tPropK (K : PySem.W.Frag) (C : Addr) (sp : Sp) (ta : TE) : TE := fun σ H Q => ta σ H fun x H1 => ∃ a l, x = .ref a ∧ KindAt K C H1 a l ∧ sp [.ref a] H1 Q E0
theorem pe_propK {X : Cx} {C : Addr} {e : Expr} {ta : TE} {pos : Pos} {f : Str} {n : Nat} {sp : Sp} (K : PySem.W.Frag) (hK : X.K = K) (KN : Kn X.K X.mg C) (G : PropAt X.prog X.w X.K X.mg X.base C f n sp) (hr : Room (n + 1) X.A) (he : PE X e ta) (hb : attributeBase e f X.env (eval e X.env) = eval e X.env := by rfl) :
    PE X (.Attribute e f pos) (tPropK K C sp ta) := by
  subst hK
  obtain ⟨p, g, h1, h2, h3, h4, F⟩ := G
  refine ⟨fun pins s σ H Q I h => ?_⟩
  refine attr_of hb (thn (he.run pins s σ H _ I h) fun u s1 ⟨x, H1, I1, rx, a, l, ex, hK, q⟩ => ?_)
  subst ex
  obtain rfl : u = Value.ref a := rx
  obtain ⟨dx, k, kn, m, hs, _⟩ := hK
  exact getprop_sl I1 hs KN.sc h1 h2 h3 h4 F hr (fun _ _ _ _ z => z) q
/-! ### == and < -/
def keyD (l : List Int) : PyData := .tuple [.int l.sum, .tuple ((l.map fun x => -x).map PyData.int)]
theorem keyD_dp {H : Hp} {k : Addr} {l : List Int} (h : KeyAt K H k l) : Dp K H (.ref k) (keyD l) := by
  obtain ⟨kn, h1, h2⟩ := h
  exact .tup h1 (.cons (.int _) (.cons (.tup h2 (dp_ints _)) .nil))
theorem negs_inj : ∀ {l m : List Int}, (l.map fun x => -x) = (m.map fun x => -x) → l = m
  | [], [], _ => rfl
  | [], _ :: _, h => by cases h
  | _ :: _, [], h => by cases h
  | x :: l, y :: m, h => by
    rw [List.map_cons, List.map_cons] at h
    injection h with h1 h2
    rw [negs_inj h2, show x = y from by omega]
theorem keyD_eqv (l m : List Int) : PyData.eqv (keyD l) (keyD m) = decide (l = m) := by
  unfold keyD
  have e : PyData.eqv (.tuple ((l.map fun x => -x).map PyData.int)) (.tuple ((m.map fun x => -x).map PyData.int)) = decide ((l.map fun x => -x) = (m.map fun x => -x)) := by
    rw [PyData.eqv, PySem.W.ked_eqvAll]
  rw [PyData.eqv, PyData.eqvAll, PyData.eqvAll, PyData.eqvAll, e, PyData.eqv]
  by_cases c : l = m
  · subst c
    simp
  · have n : ¬ (l.map fun x => -x) = (m.map fun x => -x) := fun z => c (negs_inj z)
    rw [decide_eq_false n, decide_eq_false c]
    simp
theorem canLay_ints : ∀ l : List Int, PyData.canLayAll0 (l.map PyData.int) = true
  | [] => by rw [List.map_nil, PyData.canLayAll0]
  | x :: l => by rw [List.map_cons, PyData.canLayAll0, canLay_ints l, PyData.canLay0]; rfl
theorem keyD_depth (l : List Int) : (keyD l).depth ≤ 64 := by
  unfold keyD
  rw [PyData.depth, PyData.depthAll, PyData.depthAll, PyData.depthAll, PyData.depth, PyData.depth, PySem.W.depth_ints]
  decide
theorem keyD_shaped (l : List Int) : SeqAt.shaped (keyD l) = true := by
  unfold SeqAt.shaped
  rw [Bool.and_eq_true]
  refine ⟨?_, decide_eq_true (keyD_depth l)⟩
  unfold keyD
  rw [PyData.canLay0, PyData.canLayAll0, PyData.canLayAll0, PyData.canLayAll0, PyData.canLay0, PyData.canLay0, canLay_ints]
  rfl
theorem alike_negs (l m : List Int) : PySem.W.alike (.tuple (l.map PyData.int)) (.tuple (m.map PyData.int)) = true := by
  rw [PySem.W.alike, PySem.W.alike_ints]
theorem alike_int (a b : Int) : PySem.W.alike (.int a) (.int b) = true := by rw [PySem.W.alike]
theorem keyD_alike (l m : List Int) : PySem.W.alike (keyD l) (keyD m) = true := by
  unfold keyD
  rw [PySem.W.alike, PySem.W.alikeAll, PySem.W.alikeAll, PySem.W.alikeAll, alike_negs, alike_int]
  rfl
theorem gl_lt : ∀ l m : List Int, Pk.gl l m = decide ((l.map fun x => -x) < (m.map fun x => -x))
  | [], [] => by simp [Pk.gl]
  | [], _ :: _ => by simp [Pk.gl]
  | _ :: _, [] => by simp [Pk.gl]
  | x :: l, y :: m => by
    have ih := gl_lt l m
    rw [Pk.gl, List.map_cons, List.map_cons]
    by_cases c : x = y
    · rw [if_pos c, ih, c]
      congr 1
      simp [List.cons_lt_cons_iff]
    · rw [if_neg c]
      congr 1
      rw [List.cons_lt_cons_iff]
      apply propext
      constructor
      · intro h
        left
        omega
      · rintro (h | ⟨h, _⟩)
        · omega
        · omega
theorem keyD_lt (l m : List Int) : PySem.W.dataLt (keyD l) (keyD m) = Pk.kl l m := by
  have e2 : PySem.W.dataLt (.tuple ((l.map fun x => -x).map PyData.int)) (.tuple ((m.map fun x => -x).map PyData.int)) = Pk.gl l m := by
    rw [PySem.W.dataLt_tuple, gl_lt]
    exact PySem.W.dataLt_ints _ _
  have e : PyData.eqv (.tuple ((l.map fun x => -x).map PyData.int)) (.tuple ((m.map fun x => -x).map PyData.int)) = decide ((l.map fun x => -x) = (m.map fun x => -x)) := by
    rw [PyData.eqv, PySem.W.ked_eqvAll]
  unfold keyD
  rw [PySem.W.dataLt_pair (alike_int _ _) (alike_negs _ _), e2, e, PySem.W.dataLt_int, PyData.eqv]
  unfold Pk.kl
  by_cases c : l.sum = m.sum
  · rw [if_pos (by simpa using c), if_pos c]
    by_cases d : (l.map fun x => -x) = (m.map fun x => -x)
    · rw [if_pos (by simpa using d), negs_inj d, Pk.gl_irr]
    · rw [if_neg (by simpa using d)]
  · rw [if_neg (by simpa using c), if_neg c]
def spEqK (K : PySem.W.Frag) (C : Addr) : Sp := fun vs H Q _ => ∃ a b l m, vs = [.ref a, .ref b] ∧ KindAt K C H a l ∧ KindAt K C H b m ∧ Q (.bl (decide (l = m))) H
theorem sc20 : FnScope ["self", "other"] ["self", "other"] (defScope (clsS 20)) := ⟨rfl, rfl, rfl, by decide +kernel, rfl, by decide +kernel, by decide +kernel⟩
theorem pe_Kind {X : Cx} {C : Addr} {pos : Pos} (KN : Kn X.K X.mg C) (hg : Gl X "Kind") : PE X (.Name "Kind" pos) (tC (.ref C)) := pe_glob hg KN.gC rfl (by decide)
theorem ok_eqK {C f : Addr} {fd : FuncData} (T : Top K mg) (KN : Kn K mg C) (F : Fun K "__eq__" "Kind.__eq__" (clsS 20) f fd) : FnOk P w K mg base CX0 2 f fd ["self", "other"] (spEqK K C) := by
  refine F.ok sc20 (fun vs H Q E h => ?_) (fun cdv A outer s H vs Q E hr h => ⟨_, pss_one (ps_ret (pe_and (pe_callB (call_isiKd KN) (by rfl) T.isi b_isi (pa_cons (pv 1) (pa_cons (pe_Kind KN (by rfl)) pa_nil))) (pe_one (pe_cmpR (op_eqD hr.units) (pe_keyK K (by rfl) KN (pv 0)) (pe_keyK K (by rfl) KN (pv 1)) (nomark _))))), ?_⟩)
  · obtain ⟨a, b, l, m, rfl, _⟩ := h
    rfl
  · obtain ⟨a, b, l, m, rfl, ha, hb, q⟩ := h
    refine ⟨_, rfl, b, m, rfl, hb, true, rfl, _, rfl, a, l, rfl, ha, fun k hk => ⟨_, rfl, b, m, rfl, hb, fun k2 hk2 => ⟨keyD l, keyD m, keyD_dp hk, keyD_dp hk2, keyD_shaped l, keyD_shaped m, ?_⟩⟩⟩
    rw [keyD_eqv]
    exact q
def spLtK (K : PySem.W.Frag) (C : Addr) : Sp := fun vs H Q _ => ∃ a b l m, vs = [.ref a, .ref b] ∧ KindAt K C H a l ∧ KindAt K C H b m ∧ Q (.bl (Pk.kl l m)) H
theorem sc21s : FnScope ["self", "other"] ["self", "other"] (defScope (clsS 21)) := ⟨rfl, rfl, rfl, by decide +kernel, rfl, by decide +kernel, by decide +kernel⟩
theorem ok_ltK {C f : Addr} {fd : FuncData} (T : Top K mg) (KN : Kn K mg C) (F : Fun K "__lt__" "Kind.__lt__" (clsS 21) f fd) : FnOk P w K mg base CX0 2 f fd ["self", "other"] (spLtK K C) := by
  refine F.ok sc21s (fun vs H Q E h => ?_) (fun cdv A outer s H vs Q E hr h => ⟨_, pss_cons (ps_if (pt_not (pt_val (pe_callB (call_isiKd KN) (by rfl) T.isi b_isi (pa_cons (pv 1) (pa_cons (pe_Kind KN (by rfl)) pa_nil))))) pss_never pss_nil)
    (pss_one (ps_ret (pe_cmpR (op_ltD hr.units) (pe_keyK K (by rfl) KN (pv 0)) (pe_keyK K (by rfl) KN (pv 1)) (nomark _)))), ?_⟩)
  · obtain ⟨a, b, l, m, rfl, _⟩ := h
    rfl
  · obtain ⟨a, b, l, m, rfl, ha, hb, q⟩ := h
    refine ⟨_, rfl, b, m, rfl, hb, true, rfl, _, rfl, a, l, rfl, ha, fun k hk => ⟨_, rfl, b, m, rfl, hb, fun k2 hk2 => ⟨keyD l, keyD m, keyD_dp hk, keyD_dp hk2, keyD_alike l m, (fun z => by unfold keyD at z; cases z), Nat.le_trans (Nat.min_le_left _ _) (keyD_depth l), ?_⟩⟩⟩
    rw [keyD_lt]
    exact q
end PkD
end
section -- PkD5
set_option maxRecDepth 100000
set_option maxHeartbeats 4000000
namespace PkD
open PySem PySem.Spec PyProof.Rows L2 SlX PkR PkL RZ
variable {P : Program} {w : World} {K : PySem.W.Frag} {mg : Str → Option Value} {base : Heap}
/-! ### require_kind, number_at, holds -/
def spReqKind (K : PySem.W.Frag) (C : Addr) : Sp := fun vs H Q _ => ∃ a l, vs = [.ref a] ∧ KindAt K C H a l ∧ Q .non H
theorem sc28 : FnScope ["value"] ["value"] (defScope (topS 28)) := ⟨rfl, rfl, rfl, by decide +kernel, rfl, by decide +kernel, by decide +kernel⟩
theorem pr_reqKind {C f : Addr} {fd : FuncData} (T : Top K mg) (KN : Kn K mg C) (hm : mg "require_kind" = some (.ref f)) (F : Fun K "require_kind" "require_kind" (topS 28) f fd) : Pr P w K mg base "require_kind" 2 (spReqKind K C) := by
  refine pr_of hm F (F.ok sc28 (fun vs H Q E h => ?_) (fun cdv A outer s H vs Q E hr h => ⟨_, pss_one (ps_if (pt_not (pt_val (pe_callB (call_isiKd KN) (by rfl) T.isi b_isi (pa_cons (pv 0) (pa_cons (pe_Kind KN (by rfl)) pa_nil))))) pss_never pss_nil), ?_⟩)) (fun _ _ _ _ _ _ us hl => match us, hl with | [_], _ => rfl)
  · obtain ⟨a, l, rfl, _⟩ := h
    rfl
  · obtain ⟨a, l, rfl, hK, q⟩ := h
    exact ⟨_, rfl, a, l, rfl, hK, true, rfl, q⟩
theorem PlainIx.neg {b : Expr} : True := trivial
def spNumAt (K : PySem.W.Frag) (C : Addr) : Sp := fun vs H Q _ => ∃ (a : Addr) (l : List Int) (i : Nat), vs = [.ref a, .int (i : Nat)] ∧ KindAt K C H a l ∧ Q (.int (Pk.at0 l i)) H
theorem sc30 : FnScope ["kind", "index"] ["kind", "index"] (defScope (topS 30)) := ⟨rfl, rfl, rfl, by decide +kernel, rfl, by decide +kernel, by decide +kernel⟩
theorem pr_numAt {C f : Addr} {fd : FuncData} (T : Top K mg) (KN : Kn K mg C) (hm : mg "number_at" = some (.ref f)) (F : Fun K "number_at" "number_at" (topS 30) f fd) : Pr P w K mg base "number_at" 2 (spNumAt K C) := by
  refine pr_of hm F (F.ok sc30 (fun vs H Q E h => ?_) (fun cdv A outer s H vs Q E hr h => ⟨_, pss_one (ps_ret (pe_ifExp (pt_cmpR op_lt (pv 1) (pe_callB call_len (by rfl) T.len b_len (pa_cons (pe_numK K (by rfl) KN (pv 0)) pa_nil)) (nomark _)) (pe_ix ix_tup (pe_numK K (by rfl) KN (pv 0)) (pv 1) (fun _ _ => rfl)) pe_int)), ?_⟩)) (fun _ _ _ _ _ _ us hl => match us, hl with | [_, _], _ => rfl)
  · obtain ⟨a, l, i, rfl, _⟩ := h
    rfl
  · obtain ⟨a, l, i, rfl, hK, q⟩ := h
    refine ⟨_, rfl, _, rfl, a, l, rfl, hK, fun n hn => ⟨_, _, rfl, lenT hn, _, _, rfl, rfl, _, rfl, ite2 (fun c => ?_) (fun c => ?_)⟩⟩
    · have hi : i < l.length := by
        have := of_decide_eq_true c
        rw [iv_len] at this
        omega
      refine ⟨_, rfl, a, l, rfl, hK, fun n2 hn2 => ⟨_, rfl, n2, iv l, _, _, rfl, rfl, hn2, atI_nat (by rw [List.getElem?_map, List.getElem?_eq_getElem hi]; rfl), ?_⟩⟩
      rw [show Pk.at0 l i = l[i] from by simp [Pk.at0, hi]] at q
      exact q
    · have hi : ¬ i < l.length := fun z => c (decide_eq_true (by rw [iv_len]; omega))
      rw [show Pk.at0 l i = 0 from by simp [Pk.at0, List.getD_eq_getElem?_getD, List.getElem?_eq_none (Nat.le_of_not_lt hi)]] at q
      exact q
def spHolds (K : PySem.W.Frag) (C : Addr) : Sp := fun vs H Q _ => ∃ a b l m, vs = [.ref a, .ref b] ∧ KindAt K C H a l ∧ KindAt K C H b m ∧ ∀ H', Same H H' → Q (.bl (Pk.holdsB l m)) H'
abbrev N12 : List Str := ["self", "other", "number", "own"]
theorem sc12 : FnScope N12 ["self", "other"] (defScope (clsS 12)) := ⟨rfl, rfl, rfl, by decide +kernel, rfl, by decide +kernel, by decide +kernel⟩
theorem ok_holds {C f : Addr} {fd : FuncData} (T : Top K mg) (KN : Kn K mg C) (G : Pr P w K mg base "require_kind" 2 (spReqKind K C)) (F : Fun K "holds" "Kind.holds" (clsS 12) f fd) : FnOk P w K mg base CX0 4 f fd ["self", "other"] (spHolds K C) := by
  refine F.ok sc12 (fun vs H Q E h => ?_) (fun cdv A outer s H vs Q E hr h => ⟨_, pss_cons (ps_expr (pe_callP G (hr.mono (by decide)) (by rfl) (pa_cons (pv 1) pa_nil)))
    (pss_cons (ps_if (pt_cmpR op_gt (pe_callB call_len (by rfl) T.len b_len (pa_cons (pe_numK K (by rfl) KN (pv 1)) pa_nil)) (pe_callB call_len (by rfl) T.len b_len (pa_cons (pe_numK K (by rfl) KN (pv 0)) pa_nil)) (nomark _)) (pss_one (ps_ret pe_bl)) pss_nil)
    (pss_one (ps_ret (pe_callB (cr_all (by rfl)) (by rfl) T.all b_all (pa_cons (pe_lc (own := [("number", 2), ("own", 3)]) (by rfl) sc12.nd (pi_zipA (by rfl) T.zip (pa_cons (pe_numK K (by rfl) KN (pv 1)) (pa_cons (pe_numK K (by rfl) KN (pv 0)) pa_nil))) (blkOk_by (N := N12) (sc := defScope (clsS 12)) (by decide +kernel))
      (fun s H C cl fp => pg_two K (by rfl) (by rfl) (pg_name (i := 2) sc12.nd rfl (Or.inl rfl)) (pg_name (i := 3) sc12.nd rfl (Or.inl rfl))) (fun s H C cl fp => pts_nil) (fun s H C cl fp => pe_cmpR op_le (pv 2) (pv 3) (nomark _))) pa_nil))))), ?_⟩)
  · obtain ⟨a, b, l, m, rfl, _⟩ := h
    rfl
  · obtain ⟨a, b, l, m, rfl, ha, hb, q⟩ := h
    obtain ⟨_, _, _, _, _, _, _, _, hka, hsa⟩ := id ha
    have hla := kd_len hka hsa
    refine ⟨_, rfl, b, m, rfl, hb, _, rfl, b, m, rfl, hb, fun nb hnb => ⟨_, _, rfl, lenT hnb, _, rfl, a, l, rfl, ha, fun na hna => ⟨_, _, rfl, lenT hna, _, _, rfl, rfl, _, rfl, ite2 (fun c => ?_) (fun c => ?_)⟩⟩⟩
    · rw [iv_len, iv_len] at c
      have c' := of_decide_eq_true c
      have e : Pk.holdsB l m = false := by
        unfold Pk.holdsB
        rw [decide_eq_false (by omega), Bool.false_and]
      rw [e] at q
      exact q H (Same.refl _)
    · rw [iv_len, iv_len] at c
      have c' : m.length ≤ l.length := by
        have : ¬ ((l.length : Int) < (m.length : Int)) := fun z => c (decide_eq_true z)
        omega
      refine ⟨_, rfl, b, m, rfl, hb, fun nb hnb => ⟨_, rfl, a, l, rfl, ha, fun na hna => ⟨nb, na, iv m, iv l, rfl, .inr ⟨hnb, hna, lc_same (feeds_zipT hnb hna) (by rw [iv_len, iv_len]; omega) (fun i acc _ => acc = ((List.range i).map fun i => decide (Pk.at0 m i ≤ Pk.at0 l i)).map V.bl) (fun _ _ _ _ _ h => h) rfl (fun i x acc H3 k1 k2 hi hs3 hx hr hk1 hk2 => ?_) (fun D acc H3 s3 hD _ hr => ?_)⟩⟩⟩⟩
      · obtain ⟨Tp, u, v, rfl, hu, hv, hT⟩ := hx
        obtain ⟨y, hy, rfl⟩ := iv_get hu
        obtain ⟨z, hz, rfl⟩ := iv_get hv
        refine ⟨Tp, _, rfl, sqT_tup hT, rfl, _, _, rfl, _, _, rfl, rfl, rfl, _, rfl, _, rfl, _, _, rfl, rfl, hk1 _ _ (Same.refl _) ?_⟩
        rw [hr, List.range_succ, List.map_append, List.map_append]
        congr 1
        show [V.bl (decide (y ≤ z))] = [V.bl (decide (Pk.at0 m i ≤ Pk.at0 l i))]
        simp [Pk.at0, List.getD_eq_getElem?_getD, hy, hz]
      · refine ⟨D, _, rfl, sqL_lst (by rw [hD, hr]), ?_⟩
        have e : Pk.holdsB l m = (((List.range (min (iv m).length (iv l).length)).map fun i => decide (Pk.at0 m i ≤ Pk.at0 l i)).all id) := by
          unfold Pk.holdsB
          rw [decide_eq_true c', Bool.true_and, iv_len, iv_len, Nat.min_eq_left c', List.all_map]
          rfl
        rw [← e]
        exact q _ s3
/-! ### require_size, as long as the size is small -/
def spReqSize0 : Sp := fun vs H Q _ => ∃ n : Int, vs = [.int n] ∧ n ≤ 12 ∧ Q .non H
theorem sc29 : FnScope ["size"] ["size"] (defScope (topS 29)) := ⟨rfl, rfl, rfl, by decide +kernel, rfl, by decide +kernel, by decide +kernel⟩
theorem pr_reqSize0 {f : Addr} {fd : FuncData} (T : Top K mg) (hm : mg "require_size" = some (.ref f)) (F : Fun K "require_size" "require_size" (topS 29) f fd) : Pr P w K mg base "require_size" 2 spReqSize0 := by
  refine pr_of hm F (F.ok sc29 (fun vs H Q E h => ?_) (fun cdv A outer s H vs Q E hr h => ⟨_, pss_one (ps_if (pt_cmpR op_gt (pv 0) (pe_max T (by rfl)) (nomark _)) pss_never pss_nil), ?_⟩)) (fun _ _ _ _ _ _ us hl => match us, hl with | [_], _ => rfl)
  · obtain ⟨n, rfl, _⟩ := h
    rfl
  · obtain ⟨n, rfl, hn, q⟩ := h
    refine ⟨_, rfl, _, _, rfl, rfl, _, rfl, ?_⟩
    rw [decide_eq_false (by omega)]
    exact iteF q
/-! ### require_step -/
def spReqStep (K : PySem.W.Frag) (C : Addr) : Sp := fun vs H Q _ => ∃ (a : Addr) (l : List Int) (m : Int), vs = [.ref a, .int m] ∧ KindAt K C H a l ∧ 0 ≤ m ∧ l.sum + m ≤ 12 ∧ Q .non H
theorem sc32 : FnScope ["kind", "many"] ["kind", "many"] (defScope (topS 32)) := ⟨rfl, rfl, rfl, by decide +kernel, rfl, by decide +kernel, by decide +kernel⟩
theorem sum_nn {l : List Int} (h : ∀ x ∈ l, 1 ≤ x) : 0 ≤ l.sum := by
  have := (le_sum h).1
  omega
theorem pr_reqStep {C f : Addr} {fd : FuncData} (T : Top K mg) (KN : Kn K mg C) (G1 : Pr P w K mg base "require_kind" 2 (spReqKind K C)) (G2 : Pr P w K mg base "require_from" 6 spReqFrom) (G3 : Pr P w K mg base "require_size" 2 spReqSize0)
    (hm : mg "require_step" = some (.ref f)) (F : Fun K "require_step" "require_step" (topS 32) f fd) : Pr P w K mg base "require_step" 8 (spReqStep K C) := by
  refine pr_of hm F (F.ok sc32 (fun vs H Q E h => ?_) (fun cdv A outer s H vs Q E hr h => ⟨_, pss_cons (ps_expr (pe_callP G1 (hr.mono (by decide)) (by rfl) (pa_cons (pv 0) pa_nil)))
    (pss_cons (ps_expr (pe_callP G2 (hr.mono (by decide)) (by rfl) (pa_cons (pv 1) (pa_cons pe_int (pa_cons (pe_max T (by rfl)) pa_nil)))))
    (pss_one (ps_expr (pe_callP G3 (hr.mono (by decide)) (by rfl) (pa_cons (pe_op op_add (pe_sizeK K (by rfl) KN (pv 0)) (pv 1)) pa_nil))))), ?_⟩)) (fun _ _ _ _ _ _ us hl => match us, hl with | [_, _], _ => rfl)
  · obtain ⟨a, l, m, rfl, _⟩ := h
    rfl
  · obtain ⟨a, l, m, rfl, hK, h0, h1, q⟩ := h
    obtain ⟨_, _, _, _, _, _, _, _, hka, hsa⟩ := id hK
    have := sum_nn hka.pos
    exact ⟨_, rfl, a, l, rfl, hK, _, rfl, m, 0, 12, rfl, h0, by omega, _, rfl, a, l, rfl, hK, _, rfl, _, _, rfl, rfl, _, rfl, h1, q⟩
end PkD
end
section -- PkD6
set_option maxRecDepth 100000
set_option maxHeartbeats 4000000
namespace PkD
open PySem PySem.Spec PyProof.Rows L2 SlX PkR PkL RZ
variable {P : Program} {w : World} {K : PySem.W.Frag} {mg : Str → Option Value} {base : Heap}
/-- refs to tuples of the numbers rows -/
def TupsAt (K : PySem.W.Frag) (H : Hp) (xs : List V) (rows : List (List Int)) : Prop := Paired (fun v r => ∃ a, v = V.ref a ∧ SqT K H a (iv r)) xs rows
theorem TupsAt.frz {K : PySem.W.Frag} {H H' : Hp} {xs : List V} {rows : List (List Int)} (e : Frz H H') (h : TupsAt K H xs rows) : TupsAt K H' xs rows := h.mono fun v r => fun ⟨a, h1, h2⟩ => ⟨a, h1, e.sqT h2⟩
theorem TupsAt.get {K : PySem.W.Frag} {H : Hp} : ∀ {xs : List V} {rows : List (List Int)}, TupsAt K H xs rows → ∀ {i : Nat} {x : V}, xs[i]? = some x → ∃ r a, rows[i]? = some r ∧ x = .ref a ∧ SqT K H a (iv r)
  | _, _, .nil, i, x, h => by simp at h
  | _, _, .cons h1 t, 0, x, h => by
    obtain ⟨a, e, hs⟩ := h1
    have ex := Option.some.inj h
    exact ⟨_, a, rfl, ex.symm.trans e, hs⟩
  | _, _, .cons h1 t, i + 1, x, h => by
    rw [List.getElem?_cons_succ] at h
    obtain ⟨r, a, h2, h3, h4⟩ := TupsAt.get t h
    exact ⟨r, a, by rw [List.getElem?_cons_succ]; exact h2, h3, h4⟩
theorem op_eqDK {X : Cx} (K : PySem.W.Frag) (hK : X.K = K) (hu : X.A.units + 64 < cLine) : OpR X (compareOp .Eq) (rEqD K) := by
  subst hK
  exact op_eqD hu
theorem ix_tupK {X : Cx} (K : PySem.W.Frag) (hK : X.K = K) : IxR X (rIxT K) := by
  subst hK
  exact ix_tup
theorem pa_starK {X : Cx} {e : Expr} {es : List Expr} {te : TE} {t : TA} {p : Pos} (K : PySem.W.Frag) (hK : X.K = K) (he : PE X e te) (hr : PA X es t) (hs : starEach (.Starred e p :: es) X.env = (true, eval e X.env) :: starEach es X.env := by rfl) : PA X (.Starred e p :: es) (StX.tStar K te t) := by
  subst hK
  exact StX.pa_star he hr hs
theorem cr_sumTK {X : Cx} (K : PySem.W.Frag) (hK : X.K = K) (hc : X.calm = true) : CallR X (.builtin "sum") (rSumT K) := by
  subst hK
  exact cr_sumT hc
/-! ### raised_rows -/
def spRows (K : PySem.W.Frag) (C : Addr) : Sp := fun vs H Q _ => ∃ (a : Addr) (l : List Int) (m : Nat), vs = [.ref a, .int (m : Nat)] ∧ KindAt K C H a l ∧ l.sum + m ≤ 12 ∧
  ∀ p xs H', Same H H' → H' p = some (.lst xs) → TupsAt K H' xs (Pk.raised l m) → Q (.ref p) H'
abbrev N31 : List Str := ["kind", "many", "found", "index", "number", "row", "more"]
theorem sc31 : FnScope N31 ["kind", "many"] (defScope (topS 31)) := ⟨rfl, rfl, rfl, by decide +kernel, rfl, by decide +kernel, by decide +kernel⟩
/-- the row with one number more, where it may be -/
def more1 (x : Int) (row : List Int) : List (List Int) := (([0, 1] : List Int).filter fun more => row.isEmpty || decide (x + more ≤ row.getLastD 0)).map fun more => row ++ [x + more]
theorem rstep_is (rows : List (List Int)) (x : Int) : Pk.rstep rows x = rows.flatMap (more1 x) := rfl
theorem more1_len {x : Int} {row r : List Int} (h : r ∈ more1 x row) : r.length = row.length + 1 := by
  unfold more1 at h
  obtain ⟨e, _, rfl⟩ := List.mem_map.mp h
  rw [List.length_append]
  rfl
theorem more1_two (x : Int) (row : List Int) : (more1 x row).length ≤ 2 := by
  unfold more1
  rw [List.length_map]
  exact List.length_filter_le _ _
theorem flatMap_two {x : Int} : ∀ rows : List (List Int), (rows.flatMap (more1 x)).length ≤ 2 * rows.length
  | [] => Nat.le_refl _
  | r :: rows => by
    have ih := flatMap_two (x := x) rows
    have h := more1_two x r
    rw [List.flatMap_cons, List.length_append, List.length_cons]
    omega
theorem rrows_facts (xs : List Int) : ∀ i, i ≤ xs.length → (Pk.rrows (xs.take i)).length ≤ 2 ^ i ∧ ∀ r ∈ Pk.rrows (xs.take i), r.length = i
  | 0, _ => by
    rw [List.take_zero]
    exact ⟨Nat.le_refl _, fun r hr => by
      have : r = [] := by simpa [Pk.rrows] using hr
      rw [this]
      rfl⟩
  | i + 1, h => by
    obtain ⟨h1, h2⟩ := rrows_facts xs i (by omega)
    have hi : xs[i]? = some xs[i] := List.getElem?_eq_getElem (by omega)
    rw [take_more hi, Pk.rrows_snoc, rstep_is]
    refine ⟨?_, fun r hr => ?_⟩
    · have := flatMap_two (x := xs[i]) (Pk.rrows (xs.take i))
      rw [Nat.pow_succ]
      omega
    · obtain ⟨r0, hr0, hr⟩ := List.mem_flatMap.mp hr
      rw [more1_len hr, h2 r0 hr0]
theorem eqv_nil (row : List Int) : PyData.eqv (.tuple (row.map PyData.int)) (.tuple []) = row.isEmpty := by
  rw [PyData.eqv]
  cases row with
  | nil => rw [List.map_nil, PyData.eqvAll]; rfl
  | cons x row => rw [List.map_cons, PyData.eqvAll]; rfl
theorem shaped_ints (l : List Int) : SeqAt.shaped (.tuple (l.map PyData.int)) = true := by
  unfold SeqAt.shaped
  rw [PyData.canLay0, canLay_ints, PyData.depth, PySem.W.depth_ints]
  rfl
/-- what is known of the rows so far: i rows done, j of the two numbers tried on the next one -/
def RowsR (K : PySem.W.Frag) (rows : List (List Int)) (x : Int) (i j : Nat) (acc : List V) (H : Hp) : Prop :=
  (j ≠ 0 → i < rows.length) ∧ TupsAt K H acc ((rows.take i).flatMap (more1 x) ++ ((([0, 1] : List Int).take j).filter fun more => (rows.getD i []).isEmpty || decide (x + more ≤ (rows.getD i []).getLastD 0)).map fun more => rows.getD i [] ++ [x + more])
theorem rowsR_next {rows : List (List Int)} {x : Int} {i : Nat} {acc : List V} {H : Hp} (h : RowsR K rows x i 2 acc H) : RowsR K rows x (i + 1) 0 acc H := by
  obtain ⟨hi, h⟩ := h
  have hi := hi (by decide)
  have e : rows[i]? = some (rows.getD i []) := by simp [hi]
  refine ⟨fun z => absurd rfl z, ?_⟩
  rw [List.take_zero, List.filter_nil, List.map_nil, List.append_nil, take_more e, List.flatMap_append, List.flatMap_cons, List.flatMap_nil, List.append_nil]
  exact h
theorem rowsR_yes {rows : List (List Int)} {x e : Int} {i j : Nat} {acc : List V} {H : Hp} {p : Addr} (h : RowsR K rows x i j acc H) (hi : i < rows.length) (he : ([0, 1] : List Int)[j]? = some e) (c : ((rows.getD i []).isEmpty || decide (x + e ≤ (rows.getD i []).getLastD 0)) = true)
    (hp : SqT K H p (iv (rows.getD i [] ++ [x + e]))) : RowsR K rows x i (j + 1) (acc ++ [.ref p]) H := by
  refine ⟨fun _ => hi, ?_⟩
  rw [filter_more he, if_pos c, List.map_append, ← List.append_assoc]
  exact h.2.snoc ⟨p, rfl, hp⟩
theorem rowsR_no {rows : List (List Int)} {x e : Int} {i j : Nat} {acc : List V} {H : Hp} (h : RowsR K rows x i j acc H) (hi : i < rows.length) (he : ([0, 1] : List Int)[j]? = some e) (c : ¬ ((rows.getD i []).isEmpty || decide (x + e ≤ (rows.getD i []).getLastD 0)) = true) :
    RowsR K rows x i (j + 1) acc H := by
  refine ⟨fun _ => hi, ?_⟩
  rw [filter_more he, if_neg c, List.append_nil]
  exact h.2
theorem RowsR.frz {rows : List (List Int)} {x : Int} {i j : Nat} {acc : List V} {H H' : Hp} (f : Frz H H') (h : RowsR K rows x i j acc H) : RowsR K rows x i j acc H' := ⟨h.1, h.2.frz f⟩
theorem atI_end {row : List Int} (h : ¬ row.isEmpty = true) : atI (iv row) (-1) = some (.int (row.getLastD 0)) := by
  have hne : row ≠ [] := fun z => h (by rw [z]; rfl)
  obtain ⟨z, hz⟩ : ∃ z, row.getLast? = some z := ⟨_, List.getLast?_eq_some_getLast hne⟩
  have e : row = row.dropLast ++ [row.getLast hne] := (List.dropLast_concat_getLast hne).symm
  have e2 : row.getLastD 0 = row.getLast hne := by
    rw [List.getLastD_eq_getLast?, List.getLast?_eq_some_getLast hne]
    rfl
  rw [e2]
  conv => lhs; rw [e]
  rw [iv_app]
  exact atI_last _ _
theorem rows_body {C f : Addr} {cdv : Value} {A : Around} {outer : List Env} {s : Shared} {H : Hp} {vs : List V} {Q : VK} {E : XK} (T : Top K mg) (KN : Kn K mg C) (G : Pr P w K mg base "number_at" 2 (spNumAt K C)) (hr : Room 3 (A.deeper (envOfC "raised_rows" (defScope (topS 31)) s.heap.objs.size f cdv))) :
    ∃ t, PSs (cxOf CX0 P w K mg base N31 "raised_rows" (defScope (topS 31)) f cdv A outer s H E).nox (defBody (topS 31)) t ∧ (spRows K C vs H Q E → t { nx := fun _ H' => Q .non H', rt := Q } (start N31 vs) H) := by
  refine ⟨_, pss_cons (ps_set (i := 2) sc31.nd rfl (Or.inl rfl) (pe_lst (pa_cons (pe_tup pa_nil) pa_nil)))
    (pss_cons (ps_for PassesOwn.never rfl (pi_range1 (by rfl) T.range (pa_cons (pe_op op_add (pe_callB call_len (by rfl) T.len b_len (pa_cons (pe_numK K (by rfl) KN (pv 0)) pa_nil)) (pv 1)) pa_nil)) (pg_name (i := 3) sc31.nd rfl (Or.inl rfl))
      (pss_cons (ps_set (i := 4) sc31.nd rfl (Or.inr rfl) (pe_callP G (hr.mono (by decide)) (by rfl) (pa_cons (pv 0) (pa_cons (pv 3) pa_nil))))
        (pss_one (ps_setLc2 (i := 2) (own := [("row", 5), ("more", 6)]) (vs1 := [6]) (by rfl) sc31.nd (by rfl) (by rfl) (by rfl) (pi_list (pv 2)) (blkOk_by (N := N31) (sc := defScope (topS 31)) (by decide +kernel)) (by decide)
          (fun s H C cl fp => pg_name (i := 5) sc31.nd rfl (Or.inl rfl)) (fun s H C cl fp => pts_nil)
          (fun s H C cl fp => pi_tupK K (by rfl) (pe_tup (pa_cons pe_int (pa_cons pe_int pa_nil)))) (fun s H C cl fp => pg_name (i := 6) sc31.nd rfl (Or.inl rfl))
          (fun s H C cl fp => pts_one (pw_or (pt_cmpR (op_eqDK K (by rfl) hr.units) (pv 5) (pe_tup pa_nil) (nomark _)) (pw_or1 (pt_cmpR op_le (pe_op op_add (pv 4) (pv 6)) (pe_ix (ix_tupK K (by rfl)) (pv 5) (pe_un un_neg pe_int) (fun _ _ => rfl)) (nomark _)))).pt)
          (fun s H C cl fp => pe_tup (pa_starK K (by rfl) (pv 5) (pa_cons (pe_op op_add (pv 4) (pv 6)) pa_nil)))))))
    (pss_one (ps_ret (pe_lc (own := [("row", 5)]) (by rfl) sc31.nd (pi_list (pv 2)) (blkOk_by (N := N31) (sc := defScope (topS 31)) (by decide +kernel)) (fun s H C cl fp => pg_name (i := 5) sc31.nd rfl (Or.inl rfl))
      (fun s H C cl fp => pts_one (pt_cmpR op_eq (pe_callB (cr_sumTK K (by rfl) (by rfl)) (by rfl) T.sum b_sum (pa_cons (pv 5) pa_nil)) (pe_op op_add (pe_sizeK K (by rfl) KN (pv 0)) (pv 1)) (nomark _))) (fun s H C cl fp => pv 5))))), fun h => ?_⟩
  obtain ⟨a, l, m, rfl, hK, hs, q⟩ := h
  obtain ⟨_, _, _, _, _, _, _, _, hka, hsa⟩ := id hK
  have hlen := kd_len hka hsa
  have hnn := (le_sum hka.pos).1
  refine ⟨by decide, fun p0 hp0 => ⟨(by show 1 ≤ sizeLine; decide), fun D0 hD0 => ?_⟩⟩
  generalize hH2 : upd (upd H p0 (.tup [])) D0 (.lst [V.ref p0]) = H2
  have s2 : Same H H2 := by rw [← hH2]; exact (same_new hp0).trans (same_new hD0)
  have e2 : H2 D0 = some (.lst [V.ref p0]) := by rw [← hH2]; exact upd_same
  have t2 : SqT K H2 p0 (iv []) := by
    rw [← hH2]
    exact (same_new hD0).sqT (sqT_tup upd_same)
  refine ⟨_, rfl, a, l, rfl, hK.same s2, fun n hn => ⟨_, _, rfl, lenT hn, _, rfl, _, _, rfl, rfl, _, rfl, by rw [iv_len]; omega, by rw [iv_len]; omega, ?_⟩⟩
  rw [iv_len, show ((l.length : Nat) : Int) + ((m : Nat) : Int) = ((l.length + m : Nat) : Int) from by omega, Int.toNat_natCast]
  have hpad : (l ++ List.replicate m (0 : Int)).length = l.length + m := by rw [List.length_append, List.length_replicate]
  refine for_range (fun i σ H' => ∃ D xs v3 v4, σ = [some (.ref a), some (.int (m : Nat)), some (.ref D), v3, v4, none, none] ∧ Same H H' ∧ H' D = some (.lst xs) ∧ TupsAt K H' xs (Pk.rrows ((l ++ List.replicate m (0 : Int)).take i)))
    ⟨D0, _, _, _, rfl, s2, e2, .cons ⟨p0, rfl, t2⟩ .nil⟩ ?_ ?_
  · rintro i σ H3 hi ⟨D, xs, v3, v4, rfl, s3, e3, ht⟩
    obtain ⟨hc, hw⟩ := rrows_facts (l ++ List.replicate m (0 : Int)) i (by omega)
    have hpow : 2 ^ i ≤ 4096 := Nat.le_trans (Nat.pow_le_pow_right (by decide) (show i ≤ 12 by omega)) (by decide)
    have hxl : xs.length ≤ 4096 := by rw [ht.length]; omega
    have hx0 : (l ++ List.replicate m (0 : Int))[i]? = some (Pk.at0 l i) := by
      rw [← Pk.at0_zeros l m i]
      simp [Pk.at0, show i < l.length + m from hi]
    rw [Int.zero_add]
    generalize hrows : Pk.rrows ((l ++ List.replicate m (0 : Int)).take i) = rows at *
    refine ⟨_, rfl, _, rfl, a, l, i, rfl, hK.same s3, _, rfl, D, rfl, ⟨_, sqL_lst e3⟩, lc2_same (K := K) (xs1 := [.int 0, .int 1]) (feeds_lst (sqL_lst e3)) (by omega) (by decide) (RowsR K rows (Pk.at0 l i)) (fun i j acc H H' f r => ⟨r.1, r.2.frz f⟩) ⟨fun z => absurd rfl z, .nil⟩ (fun i acc H r => rowsR_next r) ?_ (fun σ H q q' h x => h _ _ x) (fun x σ H q q' h y => h _ _ y) ?_⟩
    · intro i2 x acc H4 Pc hi2 s4 hx r0 hP
      obtain ⟨row, ra, hrow, rfl, hra⟩ := ht.get hx
      have hrl : row.length = i := hw row (List.mem_of_getElem? hrow)
      have hgd : rows.getD i2 [] = row := by simp [hrow]
      have hi2' : i2 < rows.length := (List.getElem?_eq_some_iff.mp hrow).1
      refine ⟨rfl, rfl, (by show 2 ≤ sizeLine; decide), fun t ht => ⟨t, rfl, ⟨_, sqT_tup upd_same⟩, hP _ t _ (same_new ht) (sqT_tup upd_same) ?_⟩⟩
      intro j x1 acc2 H5 k1 k2 hx1 f5 s5 r5 hk1 hk2
      have hra5 : SqT K H5 ra (iv row) := s5.sqT hra
      obtain ⟨e, he, rfl⟩ : ∃ e : Int, ([0, 1] : List Int)[j]? = some e ∧ x1 = .int e := by
        match j, hx1 with
        | 0, h => exact ⟨0, rfl, (Option.some.inj h).symm⟩
        | 1, h => exact ⟨1, rfl, (Option.some.inj h).symm⟩
        | j + 2, h => simp at h
      have go : ∀ (b : Bool) (H6 : Hp), Same H5 H6 → ((row.isEmpty || decide (Pk.at0 l i + e ≤ row.getLastD 0)) = b) → (b = true → ∀ p H7, Same H5 H7 → SqT K H7 p (iv (row ++ [Pk.at0 l i + e])) → k1 (.ref p) H7) ∧ (b = false → k2 H6) := fun b H6 s6 hb =>
        ⟨fun c p H7 s7 hp => hk1 _ _ s7 (rowsR_yes (r5.frz s7.frz) hi2' he (by rw [hgd, hb]; exact c) (by rw [hgd]; exact hp)), fun c => hk2 _ s6 (rowsR_no (r5.frz s6.frz) hi2' he (by rw [hgd, hb, c]; decide))⟩
      refine ⟨rfl, _, rfl, (by show 0 ≤ sizeLine; decide), fun pe hpe => ?_⟩
      have s6 : Same H5 (upd H5 pe (.tup [])) := same_new hpe
      have hra6 := s6.sqT hra5
      refine ⟨_, _, .tup hra6 (dp_ints row), .tup (sqT_tup upd_same) .nil, shaped_ints row, shaped_ints [], _, rfl, ?_⟩
      rw [eqv_nil]
      have hsz : ((iv row) ++ [V.int (Pk.at0 l i + e)]).length ≤ sizeLine := by
        rw [List.length_append, iv_len]
        refine Nat.le_trans (show _ ≤ 100 from ?_) (by decide)
        show row.length + 1 ≤ 100
        omega
      refine ite2 (fun c => ?_) (fun c => ?_)
      · refine ⟨_, rfl, ra, iv row, rfl, .inl hra6, _, rfl, _, rfl, _, _, rfl, rfl, hsz, fun pn hpn => (go true _ s6 (by rw [c, Bool.true_or])).1 rfl pn _ (s6.trans (same_new hpn)) ?_⟩
        rw [iv_app]
        exact sqT_tup upd_same
      · refine ⟨_, rfl, _, rfl, _, _, rfl, rfl, _, rfl, _, rfl, ra, iv row, _, _, rfl, rfl, hra6, atI_end c, _, _, rfl, rfl, _, rfl, ite2 (fun d => ?_) (fun d => ?_)⟩
        · refine ⟨_, rfl, ra, iv row, rfl, .inl hra6, _, rfl, _, rfl, _, _, rfl, rfl, hsz, fun pn hpn => (go true _ s6 (by rw [d, Bool.or_true])).1 rfl pn _ (s6.trans (same_new hpn)) ?_⟩
          rw [iv_app]
          exact sqT_tup upd_same
        · exact (go false _ s6 (by rw [Bool.eq_false_iff.mpr c, Bool.eq_false_iff.mpr d]; rfl)).2 rfl
    · intro D2 acc H4 s4 hD2 r4
      refine ⟨D2, acc, some (.int (i : Nat)), some (.int (Pk.at0 l i)), rfl, s3.trans s4, hD2, ?_⟩
      have e5 : Pk.rrows ((l ++ List.replicate m (0 : Int)).take (i + 1)) = rows.flatMap (more1 (Pk.at0 l i)) := by
        rw [take_more hx0, Pk.rrows_snoc, hrows, rstep_is]
      have r := r4.2
      rw [ht.length, List.take_length, List.take_zero, List.filter_nil, List.map_nil, List.append_nil] at r
      rw [e5]
      exact r
  · rintro σ H3 ⟨D, xs, v3, v4, rfl, s3, e3, ht⟩
    have hfull : (l ++ List.replicate m (0 : Int)).take (l.length + m) = l ++ List.replicate m (0 : Int) := by rw [← hpad, List.take_length]
    obtain ⟨hc, hw⟩ := rrows_facts (l ++ List.replicate m (0 : Int)) (l.length + m) (by omega)
    have hpow : 2 ^ (l.length + m) ≤ 4096 := Nat.le_trans (Nat.pow_le_pow_right (by decide) (show l.length + m ≤ 12 by omega)) (by decide)
    have hxl : xs.length ≤ 4096 := by rw [ht.length]; omega
    rw [hfull] at ht
    refine ⟨_, rfl, D, rfl, ⟨_, sqL_lst e3⟩, lc_same (feeds_lst (sqL_lst e3)) (by omega) (fun i acc H' => TupsAt K H' acc (((Pk.rrows (l ++ List.replicate m (0 : Int))).take i).filter fun r => decide (r.sum = l.sum + m))) (fun _ _ _ _ f r => r.frz f) .nil (fun i x acc H4 k1 k2 hi s4 hx r hk1 hk2 => ?_) (fun D2 acc H4 s4 hD2 _ r4 => ?_)⟩
    · obtain ⟨row, ra, hrow, rfl, hra⟩ := ht.get hx
      refine ⟨rfl, _, rfl, ra, row, rfl, s4.sqT hra, _, rfl, a, l, rfl, hK.same (s3.trans s4), _, rfl, _, _, rfl, rfl, rfl, _, rfl, ite2 (fun c => ⟨_, rfl, hk1 _ _ (Same.refl _) ?_⟩) (fun c => hk2 _ (Same.refl _) ?_)⟩
      · have c' : row.sum = l.sum + m := by simpa using c
        rw [filter_more hrow, if_pos (decide_eq_true c')]
        exact r.snoc ⟨ra, rfl, s4.sqT hra⟩
      · have c' : ¬ row.sum = l.sum + m := by simpa using c
        rw [filter_more hrow, if_neg (by simpa using c'), List.append_nil]
        exact r
    · refine q D2 acc H4 (s3.trans s4) hD2 ?_
      rw [ht.length, List.take_length] at r4
      exact r4
theorem pr_rows {C f : Addr} {fd : FuncData} (T : Top K mg) (KN : Kn K mg C) (G : Pr P w K mg base "number_at" 2 (spNumAt K C)) (hm : mg "raised_rows" = some (.ref f)) (F : Fun K "raised_rows" "raised_rows" (topS 31) f fd) : Pr P w K mg base "raised_rows" 4 (spRows K C) := by
  refine pr_of hm F (F.ok sc31 (fun vs H Q E h => ?_) (fun cdv A outer s H vs Q E hr h => ?_)) (fun _ _ _ _ _ _ us hl => match us, hl with | [_, _], _ => rfl)
  · obtain ⟨a, l, m, rfl, _⟩ := h
    rfl
  · obtain ⟨t, ht, hw⟩ := rows_body T KN G hr
    exact ⟨t, ht, hw h⟩
end PkD
end
section -- PkD7
set_option maxRecDepth 100000
set_option maxHeartbeats 4000000
namespace PkD
open PySem PySem.Spec PyProof.Rows L2 SlX PkR PkL RZ
variable {P : Program} {w : World} {K : PySem.W.Frag} {mg : Str → Option Value} {base : Heap}
theorem few_all : ((List.range 13).all fun n => (Pk.kinds n).all fun l => (List.range (13 - n)).all fun m => decide ((Pk.raised l m).length < 64)) = true := by decide +kernel
theorem few {l : List Int} (hk : Pk.Kd l) {m : Nat} (h : l.sum + m ≤ 12) : (Pk.raised l m).length < 64 := by
  have h0 := sum_nn hk.pos
  have h1 := List.all_eq_true.mp few_all l.sum.toNat (List.mem_range.mpr (by omega))
  have h2 := List.all_eq_true.mp h1 l (Pk.mem_kinds.mpr ⟨hk, by omega⟩)
  have h3 := List.all_eq_true.mp h2 m (List.mem_range.mpr (by omega))
  exact of_decide_eq_true h3
/-- refs to kinds of the numbers ls -/
def KindsAt (K : PySem.W.Frag) (C : Addr) (H : Hp) (xs : List V) (ls : List (List Int)) : Prop := Paired (fun v l => ∃ a, v = V.ref a ∧ KindAt K C H a l) xs ls
theorem KindsAt.frz {C : Addr} {H H' : Hp} {xs : List V} {ls : List (List Int)} (e : Frz H H') (h : KindsAt K C H xs ls) : KindsAt K C H' xs ls := h.mono fun v r => fun ⟨a, h1, h2⟩ => ⟨a, h1, h2.frz e⟩
theorem KindsAt.get {C : Addr} {H : Hp} : ∀ {xs : List V} {ls : List (List Int)}, KindsAt K C H xs ls → ∀ {i : Nat} {x : V}, xs[i]? = some x → ∃ l a, ls[i]? = some l ∧ x = .ref a ∧ KindAt K C H a l
  | _, _, .nil, i, x, h => by simp at h
  | _, _, .cons h1 t, 0, x, h => by
    obtain ⟨a, e, hs⟩ := h1
    have ex := Option.some.inj h
    exact ⟨_, a, rfl, ex.symm.trans e, hs⟩
  | _, _, .cons h1 t, i + 1, x, h => by
    rw [List.getElem?_cons_succ] at h
    obtain ⟨r, a, h2, h3, h4⟩ := KindsAt.get t h
    exact ⟨r, a, by rw [List.getElem?_cons_succ]; exact h2, h3, h4⟩
theorem KindAt.live {C : Addr} {H : Hp} {a : Addr} {l : List Int} (h : KindAt K C H a l) : H a ≠ none := by
  obtain ⟨dx, k, kn, n, hs, _⟩ := h
  rcases hs with ⟨e, _⟩ | ⟨e, _⟩ <;> (rw [e]; exact fun z => by cases z)
theorem KindsAt.fresh {C : Addr} {H : Hp} {xs : List V} {ls : List (List Int)} (h : KindsAt K C H xs ls) {x : Addr} (hx : H x = none) : V.ref x ∉ xs := fun hm => by
  obtain ⟨i, hi⟩ := List.mem_iff_getElem?.mp hm
  obtain ⟨l, a, _, e, hk⟩ := h.get hi
  cases e
  exact hk.live hx
theorem KindsAt.dec {C : Addr} {H : Hp} : ∀ {xs : List V} {ls : List (List Int)}, KindsAt K C H xs ls → xs.Nodup → ∃ f : V → List Int, ls = xs.map f ∧ ∀ x ∈ xs, ∃ a, x = .ref a ∧ KindAt K C H a (f x)
  | _, _, .nil, _ => ⟨fun _ => [], rfl, fun x h => by cases h⟩
  | _, _, @Paired.cons _ _ _ x l xs ls h1 t, hn => by
    obtain ⟨hx, hn'⟩ := List.nodup_cons.mp hn
    obtain ⟨f, e, hf⟩ := KindsAt.dec t hn'
    classical
    refine ⟨fun v => if v = x then l else f v, ?_, fun y hy => ?_⟩
    · rw [List.map_cons, if_pos rfl, e]
      congr 1
      refine List.map_congr_left fun y hy => ?_
      rw [if_neg fun (z : y = x) => hx (by rw [← z]; exact hy)]
    · rcases List.mem_cons.mp hy with rfl | hy
      · show ∃ a, _ ∧ KindAt K C H a (if _ = _ then l else f _)
        rw [if_pos rfl]
        exact h1
      · show ∃ a, _ ∧ KindAt K C H a (if y = x then l else f y)
        rw [if_neg fun (z : y = x) => hx (by rw [← z]; exact hy)]
        exact hf y hy
theorem KindsAt.ofMap {C : Addr} {H : Hp} {f : V → List Int} : ∀ {ys : List V}, (∀ x ∈ ys, ∃ a, x = .ref a ∧ KindAt K C H a (f x)) → KindsAt K C H ys (ys.map f)
  | [], _ => .nil
  | y :: ys, h => .cons (h y List.mem_cons_self) (KindsAt.ofMap fun x hx => h x (List.mem_cons_of_mem _ hx))
theorem swo_kl (f : V → List Int) : SrtO.Swo fun x y => Pk.kl (f x) (f y) := ⟨fun x y h => Pk.kl_asym _ _ h, fun x y z h1 h2 => Pk.kl_le_tr _ _ _ h1 h2⟩
/-- sorted(a list of kinds) -/
def rSortK (K : PySem.W.Frag) (C : Addr) : List V → Hp → VK → Prop := fun vs H Q => ∃ a xs ls, vs = [.ref a] ∧ H a = some (.lst xs) ∧ KindsAt K C H xs ls ∧ xs.Nodup ∧ xs.length < 64 ∧
  ∀ p ys fs H', Same H H' → H' p = some (.lst ys) → KindsAt K C H' ys fs → ys.Nodup → fs.Pairwise (fun x y => Pk.kl y x = false) → fs.Perm ls → Q (.ref p) H'
theorem call_sortK {X : Cx} {C : Addr} (G : OwnAt X.prog X.w X.K X.mg X.base C "__lt__" 2 (spLtK X.K C)) (hr : Room 4 X.A) : CallR X (.builtin "sorted") (rSortK X.K C) := by
  obtain ⟨g, h1, h2, F⟩ := G
  intro pins s σ H xs us Q I r h
  obtain ⟨a, ys, ls, rfl, ha, hk, hn, hl, q⟩ := h
  obtain ⟨f, hf, hm⟩ := hk.dec hn
  refine cr_sortedOwn h1 h2 F hr pins s σ H _ us Q I r ⟨a, ys, fun x y => Pk.kl (f x) (f y), rfl, sqL_lst ha, hl, swo_kl f, fun x hx => ?_, fun x hx y hy Q' hq => ?_, fun zs p hp hs hfree => ?_⟩
  · obtain ⟨b, e, dx, k, kn, n, h, _⟩ := hm x hx
    exact ⟨b, dx, _, e, h⟩
  · obtain ⟨b, e, hb⟩ := hm x hx
    obtain ⟨c, e', hc⟩ := hm y hy
    exact ⟨b, c, f x, f y, by rw [e, e'], hb, hc, hq⟩
  · have s1 : Same H (upd H p (.lst zs)) := same_new hfree
    refine q p zs (zs.map f) _ s1 upd_same (KindsAt.frz s1.frz (KindsAt.ofMap fun x hx => hm x (hp.mem_iff.mp hx))) (hp.nodup_iff.mpr hn) ?_ ?_
    · rw [List.pairwise_map]
      exact hs
    · rw [hf]
      exact hp.map f
/-! ### flats_over, lines_over -/
def spOver (K : PySem.W.Frag) (C : Addr) (rows : List Int → Nat → List (List Int)) : Sp := fun vs H Q _ => ∃ (a : Addr) (l : List Int) (m : Nat), vs = [.ref a, .int (m : Nat)] ∧ KindAt K C H a l ∧ l.sum + m ≤ 12 ∧
  ∀ p xs fs H', Same H H' → H' p = some (.tup xs) → KindsAt K C H' xs fs → xs.Nodup → fs.Pairwise (fun x y => Pk.kl y x = false) → fs.Perm (rows l m) → Q (.ref p) H'
abbrev N33 : List Str := ["kind", "many", "row"]
theorem sc33 : FnScope N33 ["kind", "many"] (defScope (topS 33)) := ⟨rfl, rfl, rfl, by decide +kernel, rfl, by decide +kernel, by decide +kernel⟩
theorem pi_listK {X : Cx} {tg l : Expr} {tl : TE} (K : PySem.W.Frag) (hK : X.K = K) (hl : PE X l tl) : PI X tg l (iList K tl) := by
  subst hK
  exact pi_list hl
theorem pr_flats {C f : Addr} {fd : FuncData} (T : Top K mg) (M : KM P w K mg base C) (LT : OwnAt P w K mg base C "__lt__" 2 (spLtK K C)) (G1 : Pr P w K mg base "require_step" 8 (spReqStep K C)) (G2 : Pr P w K mg base "raised_rows" 4 (spRows K C)) (G3 : Pr P w K mg base "without_zeros" 2 (spWz K))
    (hm : mg "flats_over" = some (.ref f)) (F : Fun K "flats_over" "flats_over" (topS 33) f fd) : Pr P w K mg base "flats_over" 12 (spOver K C Pk.flatRows) := by
  refine pr_of hm F (F.ok sc33 (fun vs H Q E h => ?_) (fun cdv A outer s H vs Q E hr h => ⟨_, pss_cons (ps_expr (pe_callP G1 (hr.mono (by decide)) (by rfl) (pa_cons (pv 0) (pa_cons (pv 1) pa_nil))))
    (pss_one (ps_ret (pe_callTy call_tupL (by rfl) T.tuple b_tuple (pa_cons (pe_callB (call_sortK LT (hr.mono (by decide))) (by rfl) T.sorted b_sorted (pa_cons (pe_lc (own := [("row", 2)]) (by rfl) sc33.nd (pi_list (pe_callP G2 (hr.mono (by decide)) (by rfl) (pa_cons (pv 0) (pa_cons (pv 1) pa_nil)))) (blkOk_by (N := N33) (sc := defScope (topS 33)) (by decide +kernel))
      (fun s H C cl fp => pg_name (i := 2) sc33.nd rfl (Or.inl rfl)) (fun s H C cl fp => pts_nil) (fun s H C' cl fp => pe_kind K (by rfl) M (hr.mono (by decide)) (by rfl) (pa_cons (pe_callP G3 (hr.mono (by decide)) (by rfl) (pa_cons (pv 2) pa_nil)) pa_nil))) pa_nil)) pa_nil)))), ?_⟩)) (fun _ _ _ _ _ _ us hl => match us, hl with | [_, _], _ => rfl)
  · obtain ⟨a, l, m, rfl, _⟩ := h
    rfl
  · obtain ⟨a, l, m, rfl, hK, hs, q⟩ := h
    obtain ⟨_, _, _, _, _, _, _, _, hka, hsa⟩ := id hK
    have hfew := few hka hs
    have hnn := (le_sum hka.pos).1
    refine ⟨_, rfl, _, rfl, a, l, (m : Nat), rfl, hK, by omega, by omega, _, rfl, _, rfl, a, l, m, rfl, hK, hs, fun p xs H1 s1 hp ht => ?_⟩
    have hxl : xs.length < 64 := by rw [ht.length]; exact hfew
    refine ⟨p, rfl, ⟨_, sqL_lst hp⟩, lc_same (feeds_lst (sqL_lst hp)) (by omega) (fun i acc H' => acc.Nodup ∧ KindsAt K C H' acc (((Pk.raised l m).take i).map Pk.wz)) (fun _ _ _ _ f r => ⟨r.1, r.2.frz f⟩) ⟨List.nodup_nil, .nil⟩ (fun i x acc H2 k1 k2 hi s2 hx r hk1 hk2 => ?_) (fun D acc H2 s2 hD hal r => ?_)⟩
    · obtain ⟨row, ra, hrow, rfl, hra⟩ := ht.get hx
      have hmem : Pk.wz row ∈ Pk.flatRows l m := List.mem_map.mpr ⟨row, List.mem_of_getElem? hrow, rfl⟩
      obtain ⟨hf, _⟩ := (Pk.mem_flatRows hka).mp hmem
      have hlen : row.length ≤ 1000 := by
        have hr := (List.mem_filter.mp (List.mem_of_getElem? hrow)).1
        have hpad : (l ++ List.replicate m (0 : Int)).length = l.length + m := by rw [List.length_append, List.length_replicate]
        have := (rrows_facts (l ++ List.replicate m (0 : Int)) (l.length + m) (by omega)).2 row (by rw [← hpad, List.take_length]; exact hr)
        omega
      refine ⟨rfl, _, rfl, ra, row, rfl, s2.sqT hra, hlen, fun pz H3 s3 hz => ⟨pz, _, rfl, hz, hf.1, by rw [hf.2]; exact hs, fun y H4 ny s4 hy => hk1 _ _ (s3.trans s4) ⟨?_, ?_⟩⟩⟩
      · refine List.nodup_append.mpr ⟨r.1, List.nodup_cons.mpr ⟨by simp, List.nodup_nil⟩, fun u hu v hv => ?_⟩
        rw [List.mem_singleton.mp hv]
        exact fun z => (r.2.frz s3.frz).fresh ny (z ▸ hu)
      · rw [take_more hrow, List.map_append]
        exact (r.2.frz (s3.trans s4).frz).snoc ⟨y, rfl, hy⟩
    · rw [ht.length, List.take_length] at r
      refine ⟨D, acc, _, rfl, hD, r.2, r.1, by omega, fun p2 ys fs H3 s3 hp2 hys hnd hsort hperm => ⟨p2, ys, rfl, sqL_lst hp2, fun p3 H4 s4 hp3 => q p3 ys fs H4 (((s1.trans s2).trans s3).trans s4) hp3 (hys.frz s4.frz) hnd hsort hperm⟩⟩
abbrev N34 : List Str := ["kind", "many", "rows", "row"]
theorem sc34 : FnScope N34 ["kind", "many"] (defScope (topS 34)) := ⟨rfl, rfl, rfl, by decide +kernel, rfl, by decide +kernel, by decide +kernel⟩
theorem pr_lines {C f : Addr} {fd : FuncData} (T : Top K mg) (M : KM P w K mg base C) (LT : OwnAt P w K mg base C "__lt__" 2 (spLtK K C)) (TU : PropAt P w K mg base C "turned" 11 (spTurnK K C)) (G1 : Pr P w K mg base "require_step" 8 (spReqStep K C)) (G2 : Pr P w K mg base "raised_rows" 4 (spRows K C)) (G3 : Pr P w K mg base "without_zeros" 2 (spWz K))
    (G4 : Pr P w K mg base "turned_numbers" 3 (spTurn K)) (hm : mg "lines_over" = some (.ref f)) (F : Fun K "lines_over" "lines_over" (topS 34) f fd) : Pr P w K mg base "lines_over" 14 (spOver K C Pk.lineRows) := by
  refine pr_of hm F (F.ok sc34 (fun vs H Q E h => ?_) (fun cdv A outer s H vs Q E hr h => ⟨_, pss_cons (ps_expr (pe_callP G1 (hr.mono (by decide)) (by rfl) (pa_cons (pv 0) (pa_cons (pv 1) pa_nil))))
    (pss_cons (ps_setLc (i := 2) (own := [("row", 3)]) (by rfl) sc34.nd (by rfl) (by rfl) (by rfl) (pi_list (pe_callP G2 (hr.mono (by decide)) (by rfl) (pa_cons (pe_propK K (by rfl) M.kn TU (hr.mono (by decide)) (pv 0)) (pa_cons (pv 1) pa_nil)))) (blkOk_by (N := N34) (sc := defScope (topS 34)) (by decide +kernel))
      (fun s H C cl fp => pg_name (i := 3) sc34.nd rfl (Or.inl rfl)) (fun s H C cl fp => pts_nil) (fun s H C' cl fp => pe_callP G3 (hr.mono (by decide)) (by rfl) (pa_cons (pv 3) pa_nil)))
    (pss_one (ps_ret (pe_callTy call_tupL (by rfl) T.tuple b_tuple (pa_cons (pe_callB (call_sortK LT (hr.mono (by decide))) (by rfl) T.sorted b_sorted (pa_cons (pe_lc (own := [("row", 3)]) (by rfl) sc34.nd (pi_list (pv 2)) (blkOk_by (N := N34) (sc := defScope (topS 34)) (by decide +kernel))
      (fun s H C cl fp => pg_name (i := 3) sc34.nd rfl (Or.inl rfl)) (fun s H C cl fp => pts_nil) (fun s H C' cl fp => pe_kind K (by rfl) M (hr.mono (by decide)) (by rfl) (pa_cons (pe_callP G4 (hr.mono (by decide)) (by rfl) (pa_cons (pv 3) pa_nil)) pa_nil))) pa_nil)) pa_nil))))), ?_⟩)) (fun _ _ _ _ _ _ us hl => match us, hl with | [_, _], _ => rfl)
  · obtain ⟨a, l, m, rfl, _⟩ := h
    rfl
  · obtain ⟨a, l, m, rfl, hK, hs, q⟩ := h
    obtain ⟨_, _, _, _, _, _, _, _, hka, hsa⟩ := id hK
    have hkt := Pk.turned_kd hka
    have hst : (Pk.turned l).sum = l.sum := Pk.turned_sum hka
    have hfew := few hkt (m := m) (by rw [hst]; exact hs)
    have hnn := (le_sum hkt.pos).1
    refine ⟨_, rfl, _, rfl, a, l, (m : Nat), rfl, hK, by omega, by omega, _, rfl, a, l, rfl, hK, a, l, rfl, hK, fun ta Ht nt st hta => ⟨_, rfl, ta, _, m, rfl, hta, by rw [hst]; exact hs, fun p xs H1 s1 hp ht => ?_⟩⟩
    have hxl : xs.length < 64 := by rw [ht.length]; exact hfew
    refine ⟨p, rfl, ⟨_, sqL_lst hp⟩, lc_same (feeds_lst (sqL_lst hp)) (by omega) (fun i acc H' => TupsAt K H' acc (((Pk.raised (Pk.turned l) m).take i).map Pk.wz)) (fun _ _ _ _ f r => r.frz f) .nil (fun i x acc H2 k1 k2 hi s2 hx r hk1 hk2 => ?_) (fun D acc H2 s2 hD hal r => ?_)⟩
    · obtain ⟨row, ra, hrow, rfl, hra⟩ := ht.get hx
      have hlen : row.length ≤ 1000 := by
        have hr := (List.mem_filter.mp (List.mem_of_getElem? hrow)).1
        have hpad : (Pk.turned l ++ List.replicate m (0 : Int)).length = (Pk.turned l).length + m := by rw [List.length_append, List.length_replicate]
        have := (rrows_facts (Pk.turned l ++ List.replicate m (0 : Int)) ((Pk.turned l).length + m) (by omega)).2 row (by rw [← hpad, List.take_length]; exact hr)
        omega
      refine ⟨rfl, _, rfl, ra, row, rfl, s2.sqT hra, hlen, fun pz H3 s3 hz => hk1 _ _ s3 ?_⟩
      rw [take_more hrow, List.map_append]
      exact (r.frz s3.frz).snoc ⟨pz, rfl, hz⟩
    · rw [ht.length, List.take_length] at r
      have r : TupsAt K H2 acc (Pk.flatRows (Pk.turned l) m) := r
      refine ⟨_, rfl, D, rfl, ⟨_, sqL_lst hD⟩, lc_same (feeds_lst (sqL_lst hD)) (by omega) (fun i acc2 H' => acc2.Nodup ∧ KindsAt K C H' acc2 (((Pk.flatRows (Pk.turned l) m).take i).map Pk.turned)) (fun _ _ _ _ f r => ⟨r.1, r.2.frz f⟩) ⟨List.nodup_nil, .nil⟩ (fun i x acc2 H3 k1 k2 hi s3 hx r2 hk1 hk2 => ?_) (fun D2 acc2 H3 s3 hD2 hal2 r2 => ?_)⟩
      · obtain ⟨row, ra, hrow, rfl, hra⟩ := r.get hx
        obtain ⟨hf, _⟩ := (Pk.mem_flatRows hkt).mp (List.mem_of_getElem? hrow)
        refine ⟨rfl, _, rfl, ra, row, rfl, s3.sqT hra, hf.1, by omega, fun pz H4 s4 hz => ⟨pz, _, rfl, hz, Pk.turned_kd hf.1, by rw [Pk.turned_sum hf.1]; omega, fun y H5 ny s5 hy => hk1 _ _ (s4.trans s5) ⟨?_, ?_⟩⟩⟩
        · refine List.nodup_append.mpr ⟨r2.1, List.nodup_cons.mpr ⟨by simp, List.nodup_nil⟩, fun u hu v hv => ?_⟩
          rw [List.mem_singleton.mp hv]
          exact fun z => (r2.2.frz s4.frz).fresh ny (z ▸ hu)
        · rw [take_more hrow, List.map_append]
          exact (r2.2.frz (s4.trans s5).frz).snoc ⟨y, rfl, hy⟩
      · rw [r.length, List.take_length] at r2
        exact ⟨D2, acc2, _, rfl, hD2, r2.2, r2.1, by omega, fun p2 ys fs H4 s4 hp2 hys hnd hsort hperm => ⟨p2, ys, rfl, sqL_lst hp2, fun p3 H5 s5 hp3 => q p3 ys fs H5 (((((st.trans s1).trans s2).trans s3).trans s4).trans s5) hp3 (hys.frz s5.frz) hnd hsort hperm⟩⟩
end PkD
end
section -- PkD8
set_option maxRecDepth 100000
set_option maxHeartbeats 4000000
namespace PkD
open PySem PySem.Spec PyProof.Rows L2 SlX PkR PkL RZ PkX
variable {P : Program} {w : World} {K : PySem.W.Frag} {mg : Str → Option Value} {base : Heap}
/-! ### without_zeros of a list -/
def spWzL (K : PySem.W.Frag) : Sp := fun vs H Q _ => ∃ (a : Addr) (ns : List Int), vs = [.ref a] ∧ SqL K H a (iv ns) ∧ ns.length ≤ 1000 ∧ ∀ p H', Same H H' → SqT K H' p (iv (Pk.wz ns)) → Q (.ref p) H'
theorem pr_wzL {f : Addr} {fd : FuncData} (T : Top K mg) (hm : mg "without_zeros" = some (.ref f)) (F : Fun K "without_zeros" "without_zeros" (topS 23) f fd) : Pr P w K mg base "without_zeros" 2 (spWzL K) := by
  refine pr_of hm F (F.ok sc23 (fun vs H Q E h => ?_) (fun cdv A outer s H vs Q E hr h => ⟨_, pss_one (ps_ret (pe_callTy call_tupL (by rfl) T.tuple b_tuple (pa_cons (pe_lc (own := [("number", 1)]) (by rfl) sc23.nd (pi_list (pv 0)) (blkOk_by (N := N23) (sc := defScope (topS 23)) (by decide +kernel))
    (fun s H C cl fp => pg_name (i := 1) sc23.nd rfl (Or.inl rfl)) (fun s H C cl fp => pts_one (pt_cmpR op_gt (pv 1) pe_int (nomark _))) (fun s H C cl fp => pv 1)) pa_nil))), ?_⟩)) (fun _ _ _ _ _ _ us hl => match us, hl with | [_], _ => rfl)
  · obtain ⟨a, ns, rfl, _⟩ := h
    rfl
  · obtain ⟨a, ns, rfl, hS, hl, q⟩ := h
    have hz : (iv ns).length ≤ 1000000 := by rw [List.length_map]; omega
    refine ⟨.ref a, rfl, a, rfl, ⟨_, hS⟩, lc_same (feeds_lst hS) hz (fun i acc _ => acc = iv (Pk.wz (ns.take i))) (fun _ _ _ _ _ h => h) rfl (fun i x acc H1 k1 k2 hi hs1 hx hr hk1 hk2 => ?_) (fun D acc H1 s1 hD _ hr => ?_)⟩
    · obtain ⟨n, hn, rfl⟩ := iv_get hx
      have hw : Pk.wz (ns.take (i + 1)) = Pk.wz (ns.take i) ++ (if decide (0 < n) = true then [n] else []) := by
        unfold Pk.wz
        rw [filter_more hn]
      refine ⟨rfl, _, rfl, _, _, rfl, rfl, _, rfl, ite2 (fun c => ?_) (fun c => ?_)⟩
      · refine ⟨_, rfl, hk1 _ _ (Same.refl _) ?_⟩
        rw [hr, hw, if_pos c, iv_app]
        rfl
      · refine hk2 _ (Same.refl _) ?_
        rw [hr, hw, if_neg c, List.append_nil]
    · refine ⟨D, acc, rfl, sqL_lst hD, fun l H2 s2 hl2 => q l H2 (s1.trans s2) ?_⟩
      rw [hr, take_iv] at hl2
      exact sqT_tup hl2
/-! ### defs that may raise -/
def PrE (P : Program) (w : World) (K : PySem.W.Frag) (mg : Str → Option Value) (base : Heap) (x : Str) (n : Nat) (sp : Sp) : Prop :=
  ∃ f, mg x = some (.ref f) ∧ PySem.W.keepIn K (.ref f) = true ∧ FnR P w K mg base (L2.CX P w) n f sp
theorem pe_callE {X : Cx} {x : Str} {n : Nat} {sp : Sp} {E : XK} {e : Expr} {es : List Expr} {t : TA} {p pos : Pos} (h : PrE X.prog X.w X.K X.mg X.base x n sp) (hr : Room n X.A) (hx : Passes (L2.CX X.prog X.w) X E) (hg : Gl X x) (ha : PA X (e :: es) t) (hdb : (x == ("__debug__" : Str)) = false := by decide)
    (he : starEach (e :: es) X.env = (false, eval e X.env) :: starEach es X.env := by rfl) (hpl : (backTo pos (starEach es X.env)).any (·.1) = false := by rfl) :
    PE X (.Call (.Name x p) (e :: es) [] pos) (tCallR sp E t) := by
  obtain ⟨f, hm, hk, F⟩ := h
  refine ⟨fun pins s σ H Q I h => ?_⟩
  refine wpAny_Call_Name_kw (ld_glob I hg hm ?_ hdb)
  refine PySem.W.callWith_K (h₀ := X.base) I.ok.mod.kin hk (thn (ha.run pos pins s σ H _ I h) fun us s1 ⟨vs, H1, I1, r, q⟩ => ⟨I1.kIn, ?_⟩) he hpl
  exact wpAny_call (run_fnR F hr hx I1 r q)
theorem prE_of {x : Str} {st : Stmt} {f : Addr} {fd : FuncData} {ps : List Str} {k : Nat} {sp : Sp} (hm : mg x = some (.ref f)) (F : Fun K x x st f fd) (G : FnOk P w K mg base (L2.CX P w) k f fd ps sp)
    (h : ∀ (kV doc pm : Value) (an : Option Addr) (cdv ct : Value) (us : List Value), us.length = ps.length → bindArgs (PySem.W.fnOf x x (defArgs st) (defBody st) (defScope st) .none kV doc pm an cdv ct) ⟨us, []⟩ = pure (ps.zip us)) : PrE P w K mg base x k sp :=
  ⟨f, hm, F.kp, G.raw (F.binds h) .nil |> fun z => by simpa using z⟩
def spReqSize (CT : Addr) : Sp := fun vs H Q E => ∃ n : Int, vs = [.int n] ∧ (n ≤ 12 → Q .non H) ∧ (12 < n → ∀ d, H d = none → E (.ref CT) (some d) (upd H d (.xd [("limit", .int 12)])))
theorem prE_reqSize {CT f : Addr} {fd : FuncData} (T : Top K mg) (X2 : XCls K mg P "TooMany" "limit" CT) (hm : mg "require_size" = some (.ref f)) (F : Fun K "require_size" "require_size" (topS 29) f fd) : PrE P w K mg base "require_size" 3 (spReqSize CT) := by
  refine prE_of hm F (F.okX sc29 (fun vs H Q E h => ?_) (fun cdv A outer s H vs Q E hr h => ⟨_, pss_one (ps_if (pt_cmpR op_gt (pv 0) (pe_max T (by rfl)) (nomark _)) (pss_one (ps_raiseX (W := fun cls d _ H => E cls d H) rfl X2 hr (takes_of rfl rfl rfl rfl) (pa_cons (pe_max T (by rfl)) pa_nil) (by rfl))) pss_nil), ?_⟩)) (fun _ _ _ _ _ _ us hl => match us, hl with | [_], _ => rfl)
  · obtain ⟨n, rfl, _⟩ := h
    rfl
  · obtain ⟨n, rfl, h1, h2⟩ := h
    refine ⟨_, rfl, _, _, rfl, rfl, _, rfl, ite2 (fun c => ?_) (fun c => ?_)⟩
    · exact ⟨_, rfl, fun d hd => h2 (of_decide_eq_true c) d hd⟩
    · exact h1 (by
        have : ¬ (12 < n) := fun z => c (decide_eq_true z)
        omega)
/-! ### opposite -/
def spOpp (K : PySem.W.Frag) (C CR CT : Addr) : Sp := fun vs H Q E => ∃ (a : Addr) (l : List Int) (wd hg : Nat), vs = [.ref a, .int (wd : Nat), .int (hg : Nat)] ∧ KindAt K C H a l ∧ wd ≤ 12 ∧ hg ≤ 12 ∧
  ((wd < l.length ∨ (hg : Int) < Pk.top0 l) → ∀ H' t d, Same H H' → SqT K H' t [.str "outside"] → H' d = some (.xd [("reason", .ref t)]) → E (.ref CR) (some d) H') ∧
  (¬ (wd < l.length ∨ (hg : Int) < Pk.top0 l) → 12 < (wd : Int) * hg - l.sum → ∀ H' d, Same H H' → H' d = some (.xd [("limit", .int 12)]) → E (.ref CT) (some d) H') ∧
  (¬ (wd < l.length ∨ (hg : Int) < Pk.top0 l) → (wd : Int) * hg - l.sum ≤ 12 → ∀ x H', Same H H' → KindAt K C H' x (Pk.opp l wd hg) → Q (.ref x) H')
abbrev N15 : List Str := ["self", "wide", "high", "at"]
theorem sc15 : FnScope N15 ["self", "wide", "high"] (defScope (clsS 15)) := ⟨rfl, rfl, rfl, by decide +kernel, rfl, by decide +kernel, by decide +kernel⟩
theorem inBlock {l : List Int} {wd hg : Nat} (hk : Pk.Kd l) (h : ¬ (wd < l.length ∨ (hg : Int) < Pk.top0 l)) : Pk.InBlock l wd hg := by
  have h1 : ¬ wd < l.length := fun z => h (.inl z)
  have h2 : ¬ (hg : Int) < Pk.top0 l := fun z => h (.inr z)
  refine ⟨hk, by omega, fun i => ?_⟩
  have := hk.le (Nat.zero_le i)
  have e := hk.top
  omega
theorem ok_opp {C CR CT f : Addr} {fd : FuncData} (T : Top K mg) (M : KM P w K mg base C) (X1 : XCls K mg P "Refused" "reason" CR) (HE : PropAt P w K mg base C "height" 2 (spHeight K C)) (G1 : Pr P w K mg base "require_from" 6 spReqFrom) (G2 : PrE P w K mg base "require_size" 3 (spReqSize CT))
    (G3 : Pr P w K mg base "without_zeros" 2 (spWzL K)) (G4 : Pr P w K mg base "number_at" 2 (spNumAt K C)) (F : Fun K "opposite" "Kind.opposite" (clsS 15) f fd) : FnOk P w K mg base (L2.CX P w) 12 f fd ["self", "wide", "high"] (spOpp K C CR CT) := by
  refine F.okX sc15 (fun vs H Q E h => ?_) (fun cdv A outer s H vs Q E hr h => ⟨_, pss_cons (ps_expr (pe_callP G1 (hr.mono (by decide)) (by rfl) (pa_cons (pv 1) (pa_cons pe_int (pa_cons (pe_max T (by rfl)) pa_nil)))))
    (pss_cons (ps_expr (pe_callP G1 (hr.mono (by decide)) (by rfl) (pa_cons (pv 2) (pa_cons pe_int (pa_cons (pe_max T (by rfl)) pa_nil)))))
    (pss_cons (ps_if (pw_or (pt_cmpR op_gt (pe_callB call_len (by rfl) T.len b_len (pa_cons (pe_numK K (by rfl) M.kn (pv 0)) pa_nil)) (pv 1) (nomark _)) (pw_or1 (pt_cmpR op_gt (pe_propK K (by rfl) M.kn HE (hr.mono (by decide)) (pv 0)) (pv 2) (nomark _)))).pt
        (pss_one (ps_raiseX (W := fun cls d _ H => E cls d H) rfl X1 hr (takes_of rfl rfl rfl rfl) (pa_cons (pe_tup (pa_cons pe_str pa_nil)) pa_nil) (by rfl))) pss_nil)
    (pss_cons (ps_expr (pe_callE (E := E) G2 (hr.mono (by decide)) (passes_call (takes_of rfl rfl rfl rfl) (fun _ _ _ _ h => h)) (by rfl) (pa_cons (pe_op op_sub (pe_op op_mul (pv 1) (pv 2)) (pe_sizeK K (by rfl) M.kn (pv 0))) pa_nil)))
    (pss_one (ps_ret (pe_kind K (by rfl) M (hr.mono (by decide)) (by rfl) (pa_cons (pe_callP G3 (hr.mono (by decide)) (by rfl) (pa_cons (pe_lc (own := [("at", 3)]) (by rfl) sc15.nd (pi_range1 (by rfl) T.range (pa_cons (pv 1) pa_nil)) (blkOk_by (N := N15) (sc := defScope (clsS 15)) (by decide +kernel))
      (fun s H C cl fp => pg_name (i := 3) sc15.nd rfl (Or.inl rfl)) (fun s H C cl fp => pts_nil) (fun s H C cl fp => pe_op op_sub (pv 2) (pe_callP G4 (hr.mono (by decide)) (by rfl) (pa_cons (pv 0) (pa_cons (pe_op op_sub (pe_op op_sub (pv 1) pe_int) (pv 3)) pa_nil))))) pa_nil)) pa_nil))))))), ?_⟩)
  · obtain ⟨a, l, wd, hg, rfl, _⟩ := h
    rfl
  · obtain ⟨a, l, wd, hg, rfl, hK, hw, hh, q1, q2, q3⟩ := h
    obtain ⟨_, _, _, _, _, _, _, _, hka, hsa⟩ := id hK
    refine ⟨_, rfl, (wd : Nat), 0, 12, rfl, by omega, by omega, _, rfl, (hg : Nat), 0, 12, rfl, by omega, by omega, ?_⟩
    have raise : (wd < l.length ∨ (hg : Int) < Pk.top0 l) → ∀ p, H p = none → ∀ d, upd H p (.tup [.str "outside"]) d = none → E (.ref CR) (some d) (upd (upd H p (.tup [.str "outside"])) d (.xd [("reason", .ref p)])) := fun c p hp d hd =>
      q1 c _ p d ((same_new hp).trans (same_new hd)) ((same_new hd).sqT (sqT_tup upd_same)) upd_same
    refine ⟨_, rfl, a, l, rfl, hK, fun n hn => ⟨_, _, rfl, lenT hn, _, rfl, _, _, rfl, rfl, _, rfl, ite2 (fun c => ?_) (fun c => ?_)⟩⟩
    · have c' : wd < l.length ∨ (hg : Int) < Pk.top0 l := .inl (by
        have := of_decide_eq_true c
        rw [iv_len] at this
        omega)
      exact ⟨(by show 1 ≤ sizeLine; decide), fun p hp => ⟨_, rfl, fun d hd => raise c' p hp d hd⟩⟩
    · refine ⟨_, rfl, a, l, rfl, hK, a, l, rfl, hK, _, rfl, _, _, rfl, rfl, _, rfl, ite2 (fun c2 => ?_) (fun c2 => ?_)⟩
      · have c' : wd < l.length ∨ (hg : Int) < Pk.top0 l := .inr (of_decide_eq_true c2)
        exact ⟨(by show 1 ≤ sizeLine; decide), fun p hp => ⟨_, rfl, fun d hd => raise c' p hp d hd⟩⟩
      · have c' : ¬ (wd < l.length ∨ (hg : Int) < Pk.top0 l) := by
          rintro (z | z)
          · exact c (decide_eq_true (by rw [iv_len]; omega))
          · exact c2 (decide_eq_true z)
        have IB := inBlock hka c'
        refine ⟨_, rfl, _, rfl, _, _, rfl, rfl, .inl (by omega), _, rfl, a, l, rfl, hK, _, _, rfl, rfl, _, rfl, fun hle => ?_, fun hgt d hd => q2 c' hgt _ d (same_new hd) upd_same⟩
        refine ⟨_, rfl, (wd : Nat), rfl, by omega, by omega, lc_same feeds_rng (by omega) (fun i acc _ => acc = iv ((List.range i).map fun i => (hg : Int) - Pk.at0 l (wd - 1 - i))) (fun _ _ _ _ _ h => h) rfl (fun i x acc H1 k1 k2 hi hs1 hx hr hk1 hk2 => ?_) (fun D acc H1 s1 hD _ hr => ?_)⟩
        · subst hx
          rw [Int.toNat_natCast] at hi
          refine ⟨rfl, _, rfl, _, rfl, _, rfl, _, _, rfl, rfl, _, rfl, _, _, rfl, rfl, a, l, wd - 1 - i, ?_, hK.same hs1, _, _, rfl, rfl, hk1 _ _ (Same.refl _) ?_⟩
          · show [V.ref a, V.int ((wd : Int) - 1 - (0 + (i : Nat)))] = [V.ref a, V.int ((wd - 1 - i : Nat) : Int)]
            rw [show ((wd : Int) - 1 - (0 + (i : Nat))) = ((wd - 1 - i : Nat) : Int) from by omega]
          · rw [hr, List.range_succ, List.map_append, iv_app]
            rfl
        · rw [Int.toNat_natCast] at hr
          refine ⟨D, _, rfl, sqL_lst (by rw [hD, hr]), by rw [List.length_map, List.length_range]; omega, fun p H2 s2 hp => ⟨p, _, rfl, hp, Pk.opp_kd IB, ?_, fun x H3 nx s3 hx => q3 c' hle x H3 ((s1.trans s2).trans s3) hx⟩⟩
          have e := Pk.opp_sum IB
          show (Pk.opp l wd hg).sum ≤ 12
          omega
end PkD
end
section -- PkD9
set_option maxRecDepth 100000
set_option maxHeartbeats 4000000
namespace PkD
open PySem PySem.Spec PyProof.Rows L2 SlX PkR PkL RZ
variable {P : Program} {w : World} {K : PySem.W.Frag} {mg : Str → Option Value} {base : Heap}
/-- the dice at d: three ints, the first not negative -/
def DiceAt (H : Hp) (d : Addr) : Prop := ∃ x y z : Int, H d = some (.lst [.int x, .int y, .int z]) ∧ 0 ≤ x
/-- all but the dice stays -/
def DK (d : Addr) (H H' : Hp) : Prop := (∀ b o, b ≠ d → H b = some o → H' b = some o) ∧ DiceAt H' d
theorem DK.same {d : Addr} {H H1 H2 : Hp} (h : DK d H H1) (s : Same H1 H2) : DK d H H2 := ⟨fun b o hb e => s b o (h.1 b o hb e), let ⟨x, y, z, e, hx⟩ := h.2; ⟨x, y, z, s _ _ e, hx⟩⟩
theorem DiceAt.same {d : Addr} {H H' : Hp} (h : DiceAt H d) (s : Same H H') : DiceAt H' d := let ⟨x, y, z, e, hx⟩ := h; ⟨x, y, z, s _ _ e, hx⟩
theorem DK.ofSame {d : Addr} {H H' : Hp} (hd : DiceAt H d) (s : Same H H') : DK d H H' := ⟨fun b o _ e => s b o e, hd.same s⟩
theorem DK.trans {d : Addr} {H H1 H2 : Hp} (h : DK d H H1) (g : DK d H1 H2) : DK d H H2 := ⟨fun b o hb e => g.1 b o hb (h.1 b o hb e), g.2⟩
theorem DK.frz {d : Addr} {H H' : Hp} (hd : DiceAt H d) (h : DK d H H') : Frz H H' := fun b o n e => by
  refine h.1 b o (fun z => ?_) e
  obtain ⟨x, y, w, ed, _⟩ := hd
  rw [z, ed] at e
  exact n _ (Option.some.inj e).symm
theorem DiceAt.ne {d a : Addr} {H : Hp} (hd : DiceAt H d) (h : H a = none) : a ≠ d := fun z => by
  obtain ⟨x, y, w, ed, _⟩ := hd
  rw [z, ed] at h
  cases h
theorem ix_listK {X : Cx} (K : PySem.W.Frag) (hK : X.K = K) : IxR X (rIxL K) := by
  subst hK
  exact ix_list
/-! ### _law_roll -/
def spRoll : Sp := fun vs H Q _ => ∃ (d : Addr) (n : Nat), vs = [.ref d, .int (n : Nat)] ∧ DiceAt H d ∧ 0 < n ∧ n ≤ 1000000 ∧ ∀ (r : Nat) H', r < n → DK d H H' → Q (.int (r : Nat)) H'
abbrev N37 : List Str := ["_law_dice_here", "_law_total", "_law_found", "_law_one", "_law_two"]
theorem sc37 : FnScope N37 ["_law_dice_here", "_law_total"] (defScope (topS 37)) := ⟨rfl, rfl, rfl, by decide +kernel, rfl, by decide +kernel, by decide +kernel⟩
theorem dice_put {H : Hp} {d : Addr} {x y z x' y' z' : Int} (e : H d = some (.lst [.int x, .int y, .int z])) (hx : 0 ≤ x') : DK d H (upd H d (.lst [.int x', .int y', .int z'])) :=
  ⟨fun b o hb h => by rw [upd_ne hb]; exact h, x', y', z', upd_same, hx⟩
theorem pr_roll {f : Addr} {fd : FuncData} (T : Top K mg) (hm : mg "_law_roll" = some (.ref f)) (F : Fun K "_law_roll" "_law_roll" (topS 37) f fd) : Pr P w K mg base "_law_roll" 2 spRoll := by
  refine pr_of hm F (F.ok sc37 (fun vs H Q E h => ?_) (fun cdv A outer s H vs Q E hr h => ⟨_, pss_cons (ps_if (pt_cmpR op_gt (pe_ix ix_list (pv 0) pe_int (fun _ _ => rfl)) pe_int (nomark _))
      (pss_cons (ps_set (i := 2) sc37.nd rfl (Or.inl rfl) (pe_op op_mod (pe_callTy call_int1 (by rfl) T.int b_int (pa_cons (pe_ix ix_list (pv 0) pe_int (fun _ _ => rfl)) pa_nil)) (pv 1)))
      (pss_cons (ps_asg (pe_op op_fdiv (pe_ix ix_list (pv 0) pe_int (fun _ _ => rfl)) (pv 1)) (pg_sub (pv 0) pe_int set_list))
      (pss_one (ps_ret (pv 2))))) pss_nil)
    (pss_cons (ps_asg (pe_op op_add (pe_ix ix_list (pv 0) pe_int (fun _ _ => rfl)) pe_int) (pg_sub (pv 0) pe_int set_list))
    (pss_cons (ps_set (i := 3) sc37.nd rfl (Or.inl rfl) (pe_op op_mod (pe_callTy call_int1 (by rfl) T.int b_int (pa_cons (pe_op op_add (pe_ix ix_list (pv 0) pe_int (fun _ _ => rfl)) (pe_op op_mul pe_int (pe_ix ix_list (pv 0) pe_int (fun _ _ => rfl)))) pa_nil)) pe_int))
    (pss_cons (ps_set (i := 4) sc37.nd rfl (Or.inl rfl) (pe_op op_add (pe_op op_mul (pe_op op_mod (pe_callTy call_int1 (by rfl) T.int b_int (pa_cons (pe_op op_add (pe_op op_mul (pv 3) (pv 3)) (pe_op op_mul pe_int (pe_ix ix_list (pv 0) pe_int (fun _ _ => rfl)))) pa_nil)) pe_int) pe_int) (pv 3)))
    (pss_one (ps_ret (pe_op op_mod (pe_callTy call_int1 (by rfl) T.int b_int (pa_cons (pe_op op_fdiv (pv 4) pe_int) pa_nil)) (pv 1))))))), ?_⟩)) (fun _ _ _ _ _ _ us hl => match us, hl with | [_, _], _ => rfl)
  · obtain ⟨d, n, rfl, _⟩ := h
    rfl
  · obtain ⟨d, n, rfl, ⟨x, y, z, ed, hx⟩, hn, hn2, q⟩ := h
    have hn' : (0 : Int) < (n : Int) := by omega
    have q' : ∀ (r : Int) H', 0 ≤ r → r < n → DK d H H' → Q (.int r) H' := fun r H' h0 h1 dk => by
      have := q r.toNat H' (by omega) dk
      rw [Int.toNat_of_nonneg h0] at this
      exact this
    refine ⟨_, rfl, d, _, 0, _, rfl, rfl, sqL_lst ed, atI_nat (j := 0) rfl, _, _, rfl, rfl, _, rfl, ite2 (fun c => ?_) (fun c => ?_)⟩
    · refine ⟨_, rfl, d, _, 0, _, rfl, rfl, sqL_lst ed, atI_nat (j := 0) rfl, .inl ⟨_, rfl, _, rfl, _, _, rfl, rfl, hn', ?_⟩⟩
      refine ⟨_, rfl, d, _, 0, _, rfl, rfl, sqL_lst ed, atI_nat (j := 0) rfl, _, rfl, _, _, rfl, rfl, ⟨hn', by omega⟩, ?_⟩
      refine ⟨_, rfl, d, _, 0, 0, rfl, rfl, ed, rfl, _, rfl, ?_⟩
      exact q' _ _ (Int.emod_nonneg _ (by omega)) (Int.emod_lt_of_pos _ hn') (dice_put (y' := y) (z' := z) ed (Int.ediv_nonneg hx (by omega)))
    · refine ⟨_, rfl, d, _, 2, _, rfl, rfl, sqL_lst ed, atI_nat (j := 2) rfl, _, _, rfl, rfl, _, rfl, d, _, 2, 2, rfl, rfl, ed, rfl, ?_⟩
      generalize hH2 : upd H d (.lst ([V.int x, V.int y, V.int z].set 2 (V.int (z + 1)))) = H2
      have e2 : H2 d = some (.lst [V.int x, V.int y, V.int (z + 1)]) := by rw [← hH2]; exact upd_same
      have dk : DK d H H2 := by rw [← hH2]; exact dice_put (y' := y) (z' := z + 1) ed hx
      refine ⟨_, rfl, d, _, 1, _, rfl, rfl, sqL_lst e2, atI_nat (j := 1) rfl, _, rfl, d, _, 2, _, rfl, rfl, sqL_lst e2, atI_nat (j := 2) rfl, _, _, rfl, rfl, .inl (by decide), _, _, rfl, rfl, .inl ⟨_, rfl, _, _, rfl, rfl, (by show (0 : Int) < 2305843009213693571; decide), ?_⟩⟩
      generalize ho : (y + 122949823 * (z + 1)) % 2305843009213693571 = one
      have h1 : 0 ≤ one := by rw [← ho]; exact Int.emod_nonneg _ (by decide)
      have h2 : one < 2305843009213693571 := by rw [← ho]; exact Int.emod_lt_of_pos _ (by decide)
      refine ⟨_, rfl, _, rfl, _, _, rfl, rfl, .inl ⟨by omega, by omega⟩, _, rfl, d, _, 2, _, rfl, rfl, sqL_lst e2, atI_nat (j := 2) rfl, _, _, rfl, rfl, .inl (by decide), _, _, rfl, rfl, .inl ⟨_, rfl, _, _, rfl, rfl, (by show (0 : Int) < 2305843009213693487; decide), _, _, rfl, rfl, .inr (by decide), _, rfl, _, _, rfl, rfl,
        _, rfl, _, _, rfl, rfl, (by show (0 : Int) < 65536 ∧ (65536 : Int) < 1073741824; decide), .inl ⟨_, rfl, _, rfl, _, _, rfl, rfl, hn', q' _ _ (Int.emod_nonneg _ (by omega)) (Int.emod_lt_of_pos _ hn') dk⟩⟩⟩
/-! ### _law_pick -/
def spPick (K : PySem.W.Frag) : Sp := fun vs H Q _ => ∃ (d a : Addr) (xs : List V), vs = [.ref d, .ref a] ∧ DiceAt H d ∧ a ≠ d ∧ H a = some (.lst xs) ∧ xs ≠ [] ∧ xs.length ≤ 1000000 ∧ ∀ v H', v ∈ xs → DK d H H' → Q v H'
abbrev N38 : List Str := ["_law_dice_here", "_law_items"]
theorem sc38 : FnScope N38 ["_law_dice_here", "_law_items"] (defScope (topS 38)) := ⟨rfl, rfl, rfl, by decide +kernel, rfl, by decide +kernel, by decide +kernel⟩
theorem pr_pick {f : Addr} {fd : FuncData} (T : Top K mg) (G : Pr P w K mg base "_law_roll" 2 spRoll) (hm : mg "_law_pick" = some (.ref f)) (F : Fun K "_law_pick" "_law_pick" (topS 38) f fd) : Pr P w K mg base "_law_pick" 4 (spPick K) := by
  refine pr_of hm F (F.ok sc38 (fun vs H Q E h => ?_) (fun cdv A outer s H vs Q E hr h => ⟨_, pss_one (ps_ret (pe_ix ix_list (pv 1) (pe_callP G (hr.mono (by decide)) (by rfl) (pa_cons (pv 0) (pa_cons (pe_callB call_len (by rfl) T.len b_len (pa_cons (pv 1) pa_nil)) pa_nil))) (fun _ _ => rfl))), ?_⟩)) (fun _ _ _ _ _ _ us hl => match us, hl with | [_, _], _ => rfl)
  · obtain ⟨d, a, xs, rfl, _⟩ := h
    rfl
  · obtain ⟨d, a, xs, rfl, hd, ne, ha, hne, hl, q⟩ := h
    have hpos : 0 < xs.length := List.length_pos_iff.mpr hne
    refine ⟨_, rfl, _, rfl, _, rfl, _, _, rfl, lenL (sqL_lst ha), d, xs.length, rfl, hd, hpos, hl, fun r H' hr dk => ?_⟩
    exact ⟨a, xs, _, _, rfl, rfl, sqL_lst (dk.1 a _ ne ha), atI_nat (List.getElem?_eq_getElem hr), q _ _ (List.getElem_mem hr) dk⟩
/-! ### _law_dice -/
def spDice (K : PySem.W.Frag) : Sp := fun vs H Q _ => ∃ (a : Addr) (ns : List Int) (k : Nat), vs = [.ref a, .int (k : Nat)] ∧ SqL K H a (iv ns) ∧ ns.length ≤ 1000 ∧ k ≤ 1000 ∧ ∀ d H', H d = none → Same H H' → DiceAt H' d → Q (.ref d) H'
abbrev N36 : List Str := ["_law_script", "_law_spot", "_law_cell", "_law_left"]
theorem sc36 : FnScope N36 ["_law_script", "_law_spot"] (defScope (topS 36)) := ⟨rfl, rfl, rfl, by decide +kernel, rfl, by decide +kernel, by decide +kernel⟩
theorem big60 : ((10 : Int) ^ (60 : Int).toNat).natAbs < 2 ^ 200 := by decide +kernel
theorem pr_dice {f : Addr} {fd : FuncData} (T : Top K mg) (hm : mg "_law_dice" = some (.ref f)) (F : Fun K "_law_dice" "_law_dice" (topS 36) f fd) : Pr P w K mg base "_law_dice" 2 (spDice K) := by
  refine pr_of hm F (F.ok sc36 (fun vs H Q E h => ?_) (fun cdv A outer s H vs Q E hr h => ⟨_, pss_cons (ps_set (i := 2) sc36.nd rfl (Or.inl rfl) (pe_ifExp (pt_cmpR op_lt (pv 1) (pe_callB call_len (by rfl) T.len b_len (pa_cons (pv 0) pa_nil)) (nomark _)) (pe_callTy call_int1 (by rfl) T.int b_int (pa_cons (pe_ix ix_list (pv 0) (pv 1) (fun _ _ => rfl)) pa_nil)) (pe_op op_add (pe_op op_mul pe_int (pv 1)) pe_int)))
    (pss_cons (ps_set (i := 3) sc36.nd rfl (Or.inl rfl) (pe_op op_modN (pe_callB (call_max2 (by rfl)) (by rfl) T.max b_max (pa_cons pe_int (pa_cons (pe_op op_sub (pe_callB call_abs (by rfl) T.abs b_abs (pa_cons (pv 2) pa_nil)) (pe_op op_pow pe_int pe_int)) pa_nil))) (pe_op op_mulW (pe_op op_pow pe_int pe_int) (pe_op op_pow pe_int pe_int))))
    (pss_one (ps_ret (pe_lst (pa_cons (pv 3) (pa_cons (pe_op op_add (pe_op op_add (pe_op op_add (pe_op op_mul (pe_op op_mod (pe_callB call_abs (by rfl) T.abs b_abs (pa_cons (pv 2) pa_nil)) pe_int) pe_int) (pe_op op_mul pe_int (pv 1))) (pe_op op_mul pe_int (pe_callTy call_int1 (by rfl) T.int b_int (pa_cons (pe_cmpR op_lt (pv 2) pe_int (nomark _)) pa_nil)))) pe_int) (pa_cons pe_int pa_nil))))))), ?_⟩)) (fun _ _ _ _ _ _ us hl => match us, hl with | [_, _], _ => rfl)
  · obtain ⟨a, ns, k, rfl, _⟩ := h
    rfl
  · obtain ⟨a, ns, k, rfl, hS, hl, hk, q⟩ := h
    have c16 : CPow 10 16 := by unfold CPow; decide
    have c60 : CPow 10 60 := by unfold CPow; decide
    have cW : CMulW ((10 : Int) ^ (60 : Int).toNat) ((10 : Int) ^ (60 : Int).toNat) := wide_mul big60 big60 (by decide) (by decide) (by decide)
    have n0 : ((10 : Int) ^ (60 : Int).toNat) * ((10 : Int) ^ (60 : Int).toNat) ≠ 0 := by decide +kernel
    have p0 : 0 ≤ ((10 : Int) ^ (60 : Int).toNat) * ((10 : Int) ^ (60 : Int).toNat) := by decide +kernel
    have end_ : ∀ (i m y : Int) (d : Addr), H d = none → 0 ≤ m → Q (.ref d) (upd H d (.lst [.int (((if i > 0 then i else 0) : Int).fmod m), .int y, .int 0])) := fun i m y d hd hm => by
      refine q d _ hd (same_new hd) ⟨_, _, _, upd_same, ?_⟩
      refine Int.fmod_nonneg ?_ hm
      split <;> omega
    refine ⟨_, rfl, _, rfl, _, _, rfl, lenL hS, _, _, rfl, rfl, _, rfl, ite2 (fun c => ?_) (fun c => ?_)⟩
    · have hi : k < ns.length := by
        have := of_decide_eq_true c
        rw [iv_len] at this
        omega
      refine ⟨_, rfl, _, rfl, a, iv ns, _, _, rfl, rfl, hS, atI_nat (by rw [List.getElem?_map, List.getElem?_eq_getElem hi]; rfl), .inl ⟨_, rfl, ?_⟩⟩
      refine ⟨_, rfl, _, rfl, _, _, rfl, rfl, c16, _, _, rfl, rfl, _, _, rfl, _, _, rfl, rfl, c60, _, _, rfl, rfl, c60, _, _, rfl, rfl, cW, _, _, rfl, rfl, n0, ?_⟩
      refine ⟨_, rfl, _, rfl, _, rfl, _, _, rfl, rfl, (by show (0 : Int) < 1152921504606846559; decide), _, _, rfl, rfl, .inr (by decide), _, rfl, _, _, rfl, rfl, .inl (by decide), _, _, rfl, rfl, _, rfl, _, _, rfl, rfl, .inr ⟨_, rfl, _, _, rfl, rfl, .inl (by decide), _, _, rfl, rfl, _, _, rfl, rfl, (by show 3 ≤ sizeLine; decide), fun d hd => end_ _ _ _ d hd p0⟩⟩
    · refine ⟨_, rfl, _, _, rfl, rfl, .inl (by decide), _, _, rfl, rfl, ?_⟩
      refine ⟨_, rfl, _, rfl, _, _, rfl, rfl, c16, _, _, rfl, rfl, _, _, rfl, _, _, rfl, rfl, c60, _, _, rfl, rfl, c60, _, _, rfl, rfl, cW, _, _, rfl, rfl, n0, ?_⟩
      refine ⟨_, rfl, _, rfl, _, rfl, _, _, rfl, rfl, (by show (0 : Int) < 1152921504606846559; decide), _, _, rfl, rfl, .inr (by decide), _, rfl, _, _, rfl, rfl, .inl (by decide), _, _, rfl, rfl, _, rfl, _, _, rfl, rfl, .inr ⟨_, rfl, _, _, rfl, rfl, .inl (by decide), _, _, rfl, rfl, _, _, rfl, rfl, (by show 3 ≤ sizeLine; decide), fun d hd => end_ _ _ _ d hd p0⟩⟩
end PkD
end
section -- PkD10
set_option maxRecDepth 100000
set_option maxHeartbeats 4000000
namespace PkD
open PySem PySem.Spec PyProof.Rows L2 SlX PkR PkL RZ
variable {P : Program} {w : World} {K : PySem.W.Frag} {mg : Str → Option Value} {base : Heap}
/-! ### _law_kinds: the stack, in plain Lean -/
/-- the greatest number that may follow -/
def mOf (l : List Int) (left : Nat) : Nat := if l = [] then left else min left (l.getLastD 0).toNat
/-- all kinds that begin with l and have left more -/
def compl (p : List Int × Nat) : List (List Int) := (Pk.parts p.2 (mOf p.1 p.2) p.2).map (p.1 ++ ·)
/-- the next ones on the stack -/
def nexts (p : List Int × Nat) : List (List Int × Nat) := (List.range (mOf p.1 p.2)).map fun (i : Nat) => (p.1 ++ [1 + (i : Int)], ((p.2 - (1 + i) : Nat)))
theorem compl_zero (l : List Int) : compl (l, 0) = [l] := by
  unfold compl
  rw [Pk.parts_zero]
  simp
theorem mOf_le (l : List Int) (n : Nat) : mOf l n ≤ n := by
  unfold mOf
  split <;> omega
theorem mOf_snoc (l : List Int) (i n : Nat) : mOf (l ++ [1 + (i : Int)]) n = min n (i + 1) := by
  unfold mOf
  rw [if_neg (by simp)]
  rw [List.getLastD_concat]
  congr 1
  omega
theorem parts_min (f m : Nat) : ∀ n, Pk.parts f (min n m) n = Pk.parts f m n
  | 0 => by rw [Pk.parts_zero, Pk.parts_zero]
  | n + 1 => by
    cases f with
    | zero => rfl
    | succ f => rw [Pk.parts_succ, Pk.parts_succ, show min (min (n + 1) m) (n + 1) = min m (n + 1) from by omega]
theorem compl_next (l : List Int) (n : Nat) : compl (l, n + 1) = ((nexts (l, n + 1)).reverse).flatMap compl := by
  unfold nexts
  rw [← List.map_reverse, List.flatMap_map]
  show (Pk.parts (n + 1) (mOf l (n + 1)) (n + 1)).map (l ++ ·) = _
  rw [Pk.parts_succ, List.map_flatMap, Nat.min_eq_left (mOf_le l (n + 1))]
  congr 1
  funext i
  rw [List.map_map]
  show _ = (Pk.parts (n + 1 - (1 + i)) (mOf (l ++ [1 + (i : Int)]) (n + 1 - (1 + i))) (n + 1 - (1 + i))).map ((l ++ [1 + (i : Int)]) ++ ·)
  rw [show n + 1 - (1 + i) = n - i from by omega, mOf_snoc, parts_min, Pk.parts_fuel n (n - i) (i + 1) (n - i) (by omega) (Nat.le_refl _)]
  refine List.map_congr_left fun x _ => ?_
  show l ++ (((i : Int) + 1) :: x) = (l ++ [1 + (i : Int)]) ++ x
  rw [List.append_assoc, Int.add_comm]
  rfl
def wgt (W : List (List Int × Nat)) : Nat := (W.map fun p => 2 ^ p.2).sum
theorem wgt_next_aux (l : List Int) (n : Nat) : ∀ m, m ≤ n + 1 → (((List.range m).map fun (i : Nat) => (l ++ [1 + (i : Int)], ((n + 1 - (1 + i) : Nat)))).map fun (p : List Int × Nat) => 2 ^ p.2).sum + 2 ^ (n + 1 - m) ≤ 2 ^ (n + 1)
  | 0, _ => by simp
  | m + 1, h => by
    have ih := wgt_next_aux l n m (by omega)
    rw [List.range_succ, List.map_append, List.map_append, List.sum_append]
    simp only [List.map_cons, List.map_nil, List.sum_cons, List.sum_nil]
    have e1 : n + 1 - m = (n - m) + 1 := by omega
    have e2 : n + 1 - (1 + m) = n - m := by omega
    have e3 : n + 1 - (m + 1) = n - m := by omega
    rw [e1, Nat.pow_succ] at ih
    rw [e2, e3]
    omega
theorem wgt_next (l : List Int) (n : Nat) : wgt (nexts (l, n + 1)) < 2 ^ (n + 1) := by
  have h := wgt_next_aux l n (mOf l (n + 1)) (mOf_le l (n + 1))
  have hp : 0 < 2 ^ (n + 1 - mOf l (n + 1)) := Nat.pow_pos (by decide)
  have e : wgt (nexts (l, n + 1)) = (((List.range (mOf l (n + 1))).map fun (i : Nat) => (l ++ [1 + (i : Int)], ((n + 1 - (1 + i) : Nat)))).map fun (p : List Int × Nat) => 2 ^ p.2).sum := rfl
  rw [e]
  omega
theorem wgt_app (A B : List (List Int × Nat)) : wgt (A ++ B) = wgt A + wgt B := by
  unfold wgt
  rw [List.map_append, List.sum_append]
theorem wgt_one (p : List Int × Nat) : wgt [p] = 2 ^ p.2 := by
  unfold wgt
  simp
theorem wgt_len : ∀ W : List (List Int × Nat), W.length ≤ wgt W
  | [] => Nat.zero_le _
  | p :: W => by
    have ih := wgt_len W
    have h : 0 < 2 ^ p.2 := Nat.pow_pos (by decide)
    rw [show p :: W = [p] ++ W from rfl, wgt_app, wgt_one, List.length_append]
    show 1 + W.length ≤ _
    omega
theorem few_kinds : ((List.range 13).all fun n => decide ((Pk.kinds n).length ≤ 100)) = true := by decide +kernel
theorem kinds_few {n : Nat} (h : n ≤ 12) : (Pk.kinds n).length ≤ 100 := of_decide_eq_true (List.all_eq_true.mp few_kinds n (List.mem_range.mpr (by omega)))
theorem paired_snoc {α β : Type} {F : α → β → Prop} {p : β} : ∀ {W : List β} {xs : List α}, Paired F xs (W ++ [p]) → ∃ xs' v, xs = xs' ++ [v] ∧ Paired F xs' W ∧ F v p
  | [], _, .cons h .nil => ⟨[], _, rfl, .nil, h⟩
  | _ :: W, _, .cons h t => by
    obtain ⟨xs', v, e, h1, h2⟩ := paired_snoc (W := W) t
    exact ⟨_ :: xs', v, by rw [e]; rfl, .cons h h1, h2⟩
theorem paired_app {α β : Type} {F : α → β → Prop} : ∀ {xs : List α} {W : List β} {ys : List α} {V : List β}, Paired F xs W → Paired F ys V → Paired F (xs ++ ys) (W ++ V)
  | _, _, _, _, .nil, h => h
  | _, _, _, _, .cons h t, g => .cons h (paired_app t g)
/-! ### the walk -/
def StackAt (K : PySem.W.Frag) (H : Hp) (xs : List V) (W : List (List Int × Nat)) : Prop := Paired (fun v p => ∃ t kh, v = V.ref t ∧ SqT K H t [.ref kh, .int (p.2 : Nat)] ∧ SqT K H kh (iv p.1)) xs W
def spKinds (K : PySem.W.Frag) : Sp := fun vs H Q _ => ∃ n : Nat, vs = [.int (n : Nat)] ∧ n ≤ 12 ∧ ∀ p xs H', Same H H' → H' p = some (.lst xs) → TupsAt K H' xs (Pk.kinds n) → Q (.ref p) H'
abbrev N39 : List Str := ["_law_size", "_law_found", "_law_waits", "_law_kind_here", "_law_left", "_law_most", "_law_number"]
theorem sc39 : FnScope N39 ["_law_size"] (defScope (topS 39)) := ⟨rfl, rfl, rfl, by decide +kernel, rfl, by decide +kernel, by decide +kernel⟩
theorem op_catPK {X : Cx} (K : PySem.W.Frag) (hK : X.K = K) : OpR X (binaryOp .Add) (rCatP K) := by
  subst hK
  exact op_catP
theorem StackAt.frz {H H' : Hp} {xs : List V} {W : List (List Int × Nat)} (e : Frz H H') (h : StackAt K H xs W) : StackAt K H' xs W := h.mono fun v p => fun ⟨t, kh, h1, h2, h3⟩ => ⟨t, kh, h1, e.sqT h2, e.sqT h3⟩
def pD (p : List Int × Nat) : PyData := .tuple [.tuple (p.1.map PyData.int), .int (p.2 : Nat)]
theorem stack_dp {H : Hp} : ∀ {xs : List V} {W : List (List Int × Nat)}, StackAt K H xs W → DpAll K H xs (W.map pD)
  | _, _, .nil => .nil
  | _, _, .cons ⟨t, kh, h1, h2, h3⟩ r => by
    subst h1
    exact .cons (.tup h2 (.cons (.tup h3 (dp_ints _)) (.cons (.int _) .nil))) (stack_dp r)
theorem stack_lay : ∀ W : List (List Int × Nat), PyData.canLayAll0 (W.map pD) = true ∧ PyData.depthAll (W.map pD) ≤ 2
  | [] => by
    rw [List.map_nil, PyData.canLayAll0, PyData.depthAll]
    exact ⟨rfl, by decide⟩
  | p :: W => by
    obtain ⟨h1, h2⟩ := stack_lay W
    rw [List.map_cons, PyData.canLayAll0, PyData.depthAll, h1]
    unfold pD
    refine ⟨?_, ?_⟩
    · rw [PyData.canLay0, PyData.canLayAll0, PyData.canLayAll0, PyData.canLayAll0, PyData.canLay0, PyData.canLay0, canLay_ints]
      rfl
    · rw [PyData.depth, PyData.depthAll, PyData.depthAll, PyData.depthAll, PyData.depth, PyData.depth, PySem.W.depth_ints]
      have : max (max (0 + 1) (max 0 0) + 1) (PyData.depthAll (W.map pD)) ≤ 2 := by omega
      exact this
theorem stack_shaped (W : List (List Int × Nat)) : SeqAt.shaped (.list (W.map pD)) = true := by
  obtain ⟨h1, h2⟩ := stack_lay W
  unfold SeqAt.shaped
  rw [PyData.canLay0, h1, PyData.depth, Bool.true_and]
  exact decide_eq_true (by omega)
theorem nil_shaped : SeqAt.shaped (.list []) = true := stack_shaped []
theorem eqv_lnil (ds : List PyData) : PyData.eqv (.list ds) (.list []) = ds.isEmpty := by
  rw [PyData.eqv]
  cases ds with
  | nil => rw [PyData.eqvAll]; rfl
  | cons x ds => rw [PyData.eqvAll]; rfl
/-- what holds before each turn -/
def KI (K : PySem.W.Frag) (H : Hp) (n : Nat) (m : Nat) (σ : L2.St) (H' : Hp) : Prop :=
  ∃ F Wt fs ws done stk v3 v4 v5, σ = [some (.int (n : Nat)), some (.ref F), some (.ref Wt), v3, v4, v5, none] ∧ H F = none ∧ H Wt = none ∧ F ≠ Wt ∧ Same H H' ∧ H' F = some (.lst fs) ∧ H' Wt = some (.lst ws) ∧
    TupsAt K H' fs done ∧ StackAt K H' ws stk ∧ done ++ stk.reverse.flatMap compl = Pk.kinds n ∧ (∀ p ∈ stk, p.1.length + p.2 ≤ 12 ∧ 0 ≤ p.1.getLastD 0) ∧ wgt stk ≤ 4096 ∧ m = wgt stk
theorem kinds_body {f : Addr} {cdv : Value} {A : Around} {outer : List Env} {s : Shared} {H : Hp} {vs : List V} {Q : VK} {E : XK} (T : Top K mg) (hr : Room 3 (A.deeper (envOfC "_law_kinds" (defScope (topS 39)) s.heap.objs.size f cdv))) :
    ∃ t, PSs (cxOf CX0 P w K mg base N39 "_law_kinds" (defScope (topS 39)) f cdv A outer s H E).nox (defBody (topS 39)) t ∧ (spKinds K vs H Q E → t { nx := fun _ H' => Q .non H', rt := Q } (start N39 vs) H) := by
  refine ⟨_, pss_cons (ps_par (i := 1) (j := 2) (by rfl) sc39.nd (by rfl) (by rfl) (by decide) (by rfl) (by rfl) (pa_cons (pe_lst pa_nil) (pa_cons (pe_lst (pa_cons (pe_tup (pa_cons (pe_tup pa_nil) (pa_cons (pv 0) pa_nil))) pa_nil)) pa_nil)) (by rfl))
    (pss_cons (ps_while PassesOwn.never (pt_cmpR (op_neD hr.units) (pv 2) (pe_lst pa_nil) (nomark _))
      (pss_cons (ps_asg (pe_bm0 PySem.F.plainAttrs_list PySem.F.slot_list_pop PySem.F.type_list_pop mt_pop (pv 2)) (pg_two K (by rfl) (by rfl) (pg_name (i := 3) sc39.nd rfl (Or.inr rfl)) (pg_name (i := 4) sc39.nd rfl (Or.inr rfl))))
      (pss_one (ps_if (pt_cmpR op_eq (pv 4) pe_int (nomark _))
        (pss_one (ps_expr (pe_bm PySem.F.plainAttrs_list PySem.F.slot_list_append PySem.F.type_list_append mt_append (pv 1) (pa_cons (pv 3) pa_nil))))
        (pss_cons (ps_set (i := 5) sc39.nd rfl (Or.inl rfl) (pe_ifExp (pt_cmpR (op_neD hr.units) (pv 3) (pe_tup pa_nil) (nomark _)) (pe_callB (call_min2 (by rfl)) (by rfl) T.min b_min (pa_cons (pv 4) (pa_cons (pe_ix ix_tup (pv 3) (pe_un un_neg pe_int) (fun _ _ => rfl)) pa_nil))) (pv 4)))
        (pss_one (ps_expr (pe_bm PySem.F.plainAttrs_list PySem.F.slot_list_extend PySem.F.type_list_extend mt_extend (pv 2) (pa_cons (pe_lc (own := [("_law_number", 6)]) (by rfl) sc39.nd (pi_range2 (by rfl) T.range (pa_cons pe_int (pa_cons (pe_op op_add (pv 5) pe_int) pa_nil))) (blkOk_by (N := N39) (sc := defScope (topS 39)) (by decide +kernel))
          (fun s H C cl fp => pg_name (i := 6) sc39.nd rfl (Or.inl rfl)) (fun s H C cl fp => pts_nil) (fun s H C cl fp => pe_tup (pa_cons (pe_op (op_catPK K (by rfl)) (pv 3) (pe_tup (pa_cons (pv 6) pa_nil))) (pa_cons (pe_op op_sub (pv 4) (pv 6)) pa_nil)))) pa_nil)))))))))
    (pss_one (ps_ret (pv 1)))), fun h => ?_⟩
  obtain ⟨n, rfl, hn, q⟩ := h
  have hkf := kinds_few hn
  refine ⟨(by show 0 ≤ sizeLine; decide), fun F hF => ⟨(by show 0 ≤ sizeLine; decide), fun t0 ht0 => ⟨_, rfl, (by show 2 ≤ sizeLine; decide), fun t1 ht1 => ⟨(by show 1 ≤ sizeLine; decide), fun Wt hWt => ⟨_, _, rfl, ?_⟩⟩⟩⟩⟩
  generalize hH1 : upd H F (.lst []) = H1 at *
  generalize hH2 : upd H1 t0 (.tup []) = H2 at *
  generalize hH3 : upd H2 t1 (.tup [V.ref t0, V.int (n : Nat)]) = H3 at *
  generalize hH4 : upd H3 Wt (.lst [V.ref t1]) = H4 at *
  have s1 : Same H H1 := by rw [← hH1]; exact same_new hF
  have s2 : Same H1 H2 := by rw [← hH2]; exact same_new ht0
  have s3 : Same H2 H3 := by rw [← hH3]; exact same_new ht1
  have s4 : Same H3 H4 := by rw [← hH4]; exact same_new hWt
  have eF : H4 F = some (.lst []) := s4 _ _ (s3 _ _ (s2 _ _ (by rw [← hH1]; exact upd_same)))
  have eW : H4 Wt = some (.lst [V.ref t1]) := by rw [← hH4]; exact upd_same
  have et0 : SqT K H4 t0 (iv []) := sqT_tup (s4 _ _ (s3 _ _ (by rw [← hH2]; exact upd_same)))
  have et1 : SqT K H4 t1 [V.ref t0, V.int (n : Nat)] := sqT_tup (s4 _ _ (by rw [← hH3]; exact upd_same))
  have nW : H Wt = none := s1.free (s2.free (s3.free hWt))
  have neFW : F ≠ Wt := fun z => by
    rw [z] at eF
    rw [eF] at eW
    cases eW
  refine ⟨KI K H n, ⟨_, F, Wt, [], [V.ref t1], [], [([], n)], none, none, none, rfl, hF, nW, neFW, ((s1.trans s2).trans s3).trans s4, eF, eW, .nil, .cons ⟨t1, t0, rfl, et1, et0⟩ .nil, ?_, ?_, ?_, rfl⟩, ?_⟩
  · show [] ++ [([], n)].flatMap compl = Pk.kinds n
    rw [List.nil_append, List.flatMap_cons, List.flatMap_nil, List.append_nil]
    unfold compl Pk.kinds mOf
    rw [if_pos rfl]
    simp
  · intro p hp
    rw [List.mem_singleton.mp hp]
    exact ⟨by show 0 + n ≤ 12; omega, Int.le_refl _⟩
  · rw [wgt_one]
    exact Nat.le_trans (Nat.pow_le_pow_right (by decide) hn) (by decide)
  rintro m σ H5 ⟨F, Wt, fs, ws, done, stk, v3, v4, v5, rfl, nF, nW, neFW, s5, eF, eW, hfs, hst, hall, hok, hwg, rfl⟩
  refine ⟨_, rfl, (by show 0 ≤ sizeLine; decide), fun e0 he0 => ⟨.list (stk.map pD), .list [], ?_, .lst (sqL_lst upd_same) .nil, stack_shaped _, nil_shaped, _, rfl, ?_⟩⟩
  · exact .lst (sqL_lst ((same_new he0) _ _ eW)) (stack_dp (hst.frz (same_new he0).frz))
  rw [eqv_lnil]
  generalize hH6 : upd H5 e0 (.lst []) = H6
  have s6 : Same H5 H6 := by rw [← hH6]; exact same_new he0
  have eF6 := s6 _ _ eF
  have eW6 := s6 _ _ eW
  have hfs6 := hfs.frz s6.frz
  have hst6 := hst.frz s6.frz
  have s06 := s5.trans s6
  refine ite2 (fun c => ?_) (fun c => ?_)
  · have hne : stk ≠ [] := fun z => by
      rw [z] at c
      cases c
    obtain ⟨stk', p, rfl⟩ : ∃ L p, stk = L ++ [p] := ⟨stk.dropLast, stk.getLast hne, (List.dropLast_concat_getLast hne).symm⟩
    obtain ⟨ws', v, rfl, hst', t, kh, rfl, ht, hkh⟩ := paired_snoc hst6
    obtain ⟨l, left⟩ := p
    have hst' : StackAt K H6 ws' stk' := hst'
    have hlen := (hok (l, left) (by simp)).1
    have hlast := (hok (l, left) (by simp)).2
    have hok' : ∀ p ∈ stk', p.1.length + p.2 ≤ 12 ∧ 0 ≤ p.1.getLastD 0 := fun p hp => hok p (List.mem_append_left _ hp)
    rw [wgt_app, wgt_one] at hwg
    dsimp only at hlen hlast hwg ht hkh
    rw [List.reverse_append, List.reverse_singleton, List.flatMap_append, List.flatMap_cons, List.flatMap_nil, List.append_nil] at hall
    refine ⟨fun σ' H' => ∃ m', m' < wgt (stk' ++ [(l, left)]) ∧ KI K H n m' σ' H', fun _ _ z => z, ?_⟩
    refine ⟨_, rfl, .inl ⟨rfl, _, sqL_lst eW6⟩, Wt, _, .ref t, rfl, rfl, eW6, by simp, ?_⟩
    rw [List.dropLast_concat]
    generalize hH7 : upd H6 Wt (.lst ws') = H7
    have f7 : Frz H6 H7 := by rw [← hH7]; exact frz_lst eW6
    have s07 : Same H H7 := by rw [← hH7]; exact same_put nW s06
    have eF7 : H7 F = some (.lst fs) := by rw [← hH7, upd_ne neFW]; exact eF6
    have eW7 : H7 Wt = some (.lst ws') := by rw [← hH7]; exact upd_same
    refine ⟨t, _, rfl, f7.sqT ht, rfl, _, _, rfl, _, _, rfl, rfl, _, rfl, rfl, _, rfl, ite2 (fun c2 => ?_) (fun c2 => ?_)⟩
    · have hl0 : left = 0 := by
        have : V.int (left : Nat) = V.int 0 := of_decide_eq_true c2
        injection this with h
        omega
      subst hl0
      have hfl : fs.length ≤ 100 := by
        have h1 := congrArg List.length hall
        rw [List.length_append, List.length_append] at h1
        have h2 := hfs.length
        omega
      refine ⟨_, rfl, .inl ⟨rfl, _, sqL_lst eF7⟩, _, rfl, F, fs, .ref kh, rfl, rfl, eF7, Nat.lt_of_le_of_lt hfl (by decide), wgt stk', ?_, F, Wt, fs ++ [.ref kh], ws', done ++ [l], stk', _, _, _, rfl, nF, nW, neFW, same_put nF s07, upd_same, ?_, ?_, (hst'.frz f7).frz (frz_lst eF7), ?_, hok', by omega, rfl⟩
      · rw [wgt_app, wgt_one]
        have : 0 < 2 ^ ((l, 0) : List Int × Nat).2 := Nat.pow_pos (by decide)
        omega
      · rw [upd_ne (Ne.symm neFW)]
        exact eW7
      · exact ((hfs6.frz f7).frz (frz_lst eF7)).snoc ⟨kh, rfl, (frz_lst eF7).sqT (f7.sqT hkh)⟩
      · rw [← hall, compl_zero, List.append_assoc]
    · obtain ⟨left, rfl⟩ : ∃ k, left = k + 1 := ⟨left - 1, by
        have : ¬ left = 0 := fun z => c2 (decide_eq_true (by rw [z]; rfl))
        omega⟩
      refine ⟨_, rfl, (by show 0 ≤ sizeLine; decide), fun e1 he1 => ⟨.tuple (l.map PyData.int), .tuple [], .tup ((same_new he1).sqT (f7.sqT hkh)) (dp_ints l), .tup (sqT_tup upd_same) .nil, shaped_ints l, shaped_ints [], _, rfl, ?_⟩⟩
      rw [eqv_nil]
      generalize hH8 : upd H7 e1 (.tup []) = H8
      have s78 : Same H7 H8 := by rw [← hH8]; exact same_new he1
      have s08 := s07.trans s78
      have hkh8 : SqT K H8 kh (iv l) := s78.sqT (f7.sqT hkh)
      have eF8 := s78 _ _ eF7
      have eW8 := s78 _ _ eW7
      have hst8 := (hst'.frz f7).frz s78.frz
      have hfs8 := (hfs6.frz f7).frz s78.frz
      have hst8 : StackAt K H8 ws' stk' := hst8
      refine ite2 (fun c3 => ?_) (fun c3 => ?_)
      · have hle : ¬ l.isEmpty = true := fun z => by
          rw [z] at c3
          cases c3
        have hln : l ≠ [] := fun z => hle (by rw [z]; rfl)
        refine ⟨_, rfl, _, rfl, _, rfl, kh, iv l, _, _, rfl, rfl, hkh8, atI_end hle, _, _, rfl, ?_⟩
        generalize hmost : (if l.getLastD 0 < ((left + 1 : Nat) : Int) then l.getLastD 0 else ((left + 1 : Nat) : Int)) = most
        have hm1 : most.toNat = mOf l (left + 1) ∧ 0 ≤ most ∧ most ≤ 12 := by
          unfold mOf
          rw [if_neg hln, ← hmost]
          split <;> omega
        obtain ⟨hm1, hm2, hm3⟩ := hm1
        refine ⟨_, rfl, .inl ⟨rfl, _, sqL_lst eW8⟩, _, rfl, _, _, rfl, rfl, 1, _, rfl, ⟨by omega, by omega, by omega, by omega⟩, lc_same feeds_rng (by omega) (fun i acc H' => StackAt K H' acc ((nexts (l, left + 1)).take i)) (fun _ _ _ _ f r => r.frz f) .nil (fun i x acc H9 k1 k2 hi s9 hx r hk1 hk2 => ?_) (fun D acc H9 s9 hD hal r => ?_)⟩
        · subst hx
          have hi2 : i < mOf l (left + 1) := by omega
          have hi3 : i < left + 1 := Nat.lt_of_lt_of_le hi2 (mOf_le l _)
          have hkh9 := s9.sqT hkh8
          refine ⟨rfl, _, rfl, _, rfl, (by show 1 ≤ sizeLine; decide), fun tp htp => ⟨kh, tp, iv l, [.int (1 + (i : Nat))], rfl, rfl, (same_new htp).sqT hkh9, sqT_tup upd_same, by rw [iv_len]; show l.length + 1 ≤ 1000000; omega, fun pc H10 s10 hpc => ⟨_, rfl, _, rfl, _, _, rfl, rfl, (by show 2 ≤ sizeLine; decide), fun pp hpp => hk1 _ _ (((same_new htp).trans s10).trans (same_new hpp)) ?_⟩⟩⟩
          have e : (nexts (l, left + 1))[i]? = some (l ++ [1 + (i : Int)], ((left + 1 - (1 + i) : Nat))) := by
            unfold nexts
            rw [List.getElem?_map, List.getElem?_range hi2]
            rfl
          rw [take_more e]
          refine (StackAt.frz (((same_new htp).trans s10).trans (same_new hpp)).frz r).snoc ⟨pp, pc, rfl, sqT_tup ?_, (same_new hpp).sqT ?_⟩
          · rw [upd_same]
            show some (HO.tup [V.ref pc, V.int (((left + 1 : Nat) : Int) - (1 + (i : Nat)))]) = some (HO.tup [V.ref pc, V.int ((left + 1 - (1 + i) : Nat) : Int)])
            rw [show (((left + 1 : Nat) : Int) - (1 + (i : Nat))) = ((left + 1 - (1 + i) : Nat) : Int) from by omega]
          · rw [iv_app]
            exact hpc
        · have hcnt : (nexts (l, left + 1)).length = mOf l (left + 1) := by
            unfold nexts
            rw [List.length_map, List.length_range]
          have htk : (nexts (l, left + 1)).take (most + 1 - 1).toNat = nexts (l, left + 1) := by
            rw [show (most + 1 - 1).toNat = (nexts (l, left + 1)).length from by rw [hcnt]; omega, List.take_length]
          rw [htk] at r
          have hw1 := wgt_len stk'
          have hw2 := hst'.length
          have hw3 := wgt_next l left
          refine ⟨Wt, D, ws', acc, rfl, rfl, s9 _ _ eW8, hD, Nat.le_trans (show ws'.length + acc.length ≤ 100000 by omega) (by decide), wgt (stk' ++ nexts (l, left + 1)), ?_, F, Wt, fs, ws' ++ acc, done, stk' ++ nexts (l, left + 1), _, _, _, rfl, nF, nW, neFW, same_put nW (s08.trans s9), ?_, upd_same, (hfs8.frz s9.frz).frz (frz_lst (s9 _ _ eW8)), paired_app ((hst8.frz s9.frz).frz (frz_lst (s9 _ _ eW8))) (r.frz (frz_lst (s9 _ _ eW8))), ?_, ?_, ?_, rfl⟩
          · rw [wgt_app, wgt_app, wgt_one]
            show wgt stk' + wgt (nexts (l, left + 1)) < wgt stk' + 2 ^ (left + 1)
            omega
          · rw [upd_ne neFW]
            exact s9 _ _ eF8
          · rw [← hall, compl_next, List.reverse_append, List.flatMap_append]
          · intro p hp
            rcases List.mem_append.mp hp with hp | hp
            · exact hok' p hp
            · unfold nexts at hp
              obtain ⟨i, hi, rfl⟩ := List.mem_map.mp hp
              have hi2 : i < left + 1 := Nat.lt_of_lt_of_le (List.mem_range.mp hi) (mOf_le l _)
              dsimp only
              rw [List.length_append, List.getLastD_concat]
              refine ⟨?_, by omega⟩
              show l.length + 1 + (left + 1 - (1 + i)) ≤ 12
              omega
          · rw [wgt_app]
            have : wgt stk' + 2 ^ (left + 1) ≤ 4096 := hwg
            omega
      · have hln : l = [] := by
          cases l with
          | nil => rfl
          | cons a b => exact absurd rfl c3
        refine ⟨_, rfl, ?_⟩
        have hm1 : (((left + 1 : Nat) : Int)).toNat = mOf l (left + 1) := by
          unfold mOf
          rw [if_pos hln]
          omega
        refine ⟨_, rfl, .inl ⟨rfl, _, sqL_lst eW8⟩, _, rfl, _, _, rfl, rfl, 1, _, rfl, ⟨by omega, by omega, by omega, by omega⟩, lc_same feeds_rng (by omega) (fun i acc H' => StackAt K H' acc ((nexts (l, left + 1)).take i)) (fun _ _ _ _ f r => r.frz f) .nil (fun i x acc H9 k1 k2 hi s9 hx r hk1 hk2 => ?_) (fun D acc H9 s9 hD hal r => ?_)⟩
        · subst hx
          have hi2 : i < mOf l (left + 1) := by omega
          have hi3 : i < left + 1 := Nat.lt_of_lt_of_le hi2 (mOf_le l _)
          have hkh9 := s9.sqT hkh8
          refine ⟨rfl, _, rfl, _, rfl, (by show 1 ≤ sizeLine; decide), fun tp htp => ⟨kh, tp, iv l, [.int (1 + (i : Nat))], rfl, rfl, (same_new htp).sqT hkh9, sqT_tup upd_same, by rw [iv_len]; show l.length + 1 ≤ 1000000; omega, fun pc H10 s10 hpc => ⟨_, rfl, _, rfl, _, _, rfl, rfl, (by show 2 ≤ sizeLine; decide), fun pp hpp => hk1 _ _ (((same_new htp).trans s10).trans (same_new hpp)) ?_⟩⟩⟩
          have e : (nexts (l, left + 1))[i]? = some (l ++ [1 + (i : Int)], ((left + 1 - (1 + i) : Nat))) := by
            unfold nexts
            rw [List.getElem?_map, List.getElem?_range hi2]
            rfl
          rw [take_more e]
          refine (StackAt.frz (((same_new htp).trans s10).trans (same_new hpp)).frz r).snoc ⟨pp, pc, rfl, sqT_tup ?_, (same_new hpp).sqT ?_⟩
          · rw [upd_same]
            show some (HO.tup [V.ref pc, V.int (((left + 1 : Nat) : Int) - (1 + (i : Nat)))]) = some (HO.tup [V.ref pc, V.int ((left + 1 - (1 + i) : Nat) : Int)])
            rw [show (((left + 1 : Nat) : Int) - (1 + (i : Nat))) = ((left + 1 - (1 + i) : Nat) : Int) from by omega]
          · rw [iv_app]
            exact hpc
        · have hcnt : (nexts (l, left + 1)).length = mOf l (left + 1) := by
            unfold nexts
            rw [List.length_map, List.length_range]
          have htk : (nexts (l, left + 1)).take (((left + 1 : Nat) : Int) + 1 - 1).toNat = nexts (l, left + 1) := by
            rw [show (((left + 1 : Nat) : Int) + 1 - 1).toNat = (nexts (l, left + 1)).length from by rw [hcnt]; omega, List.take_length]
          rw [htk] at r
          have hw1 := wgt_len stk'
          have hw2 := hst'.length
          have hw3 := wgt_next l left
          refine ⟨Wt, D, ws', acc, rfl, rfl, s9 _ _ eW8, hD, Nat.le_trans (show ws'.length + acc.length ≤ 100000 by omega) (by decide), wgt (stk' ++ nexts (l, left + 1)), ?_, F, Wt, fs, ws' ++ acc, done, stk' ++ nexts (l, left + 1), _, _, _, rfl, nF, nW, neFW, same_put nW (s08.trans s9), ?_, upd_same, (hfs8.frz s9.frz).frz (frz_lst (s9 _ _ eW8)), paired_app ((hst8.frz s9.frz).frz (frz_lst (s9 _ _ eW8))) (r.frz (frz_lst (s9 _ _ eW8))), ?_, ?_, ?_, rfl⟩
          · rw [wgt_app, wgt_app, wgt_one]
            show wgt stk' + wgt (nexts (l, left + 1)) < wgt stk' + 2 ^ (left + 1)
            omega
          · rw [upd_ne neFW]
            exact s9 _ _ eF8
          · rw [← hall, compl_next, List.reverse_append, List.flatMap_append]
          · intro p hp
            rcases List.mem_append.mp hp with hp | hp
            · exact hok' p hp
            · unfold nexts at hp
              obtain ⟨i, hi, rfl⟩ := List.mem_map.mp hp
              have hi2 : i < left + 1 := Nat.lt_of_lt_of_le (List.mem_range.mp hi) (mOf_le l _)
              dsimp only
              rw [List.length_append, List.getLastD_concat]
              refine ⟨?_, by omega⟩
              show l.length + 1 + (left + 1 - (1 + i)) ≤ 12
              omega
          · rw [wgt_app]
            have : wgt stk' + 2 ^ (left + 1) ≤ 4096 := hwg
            omega
  · have hnil : stk = [] := by
      cases stk with
      | nil => rfl
      | cons a b => exact absurd rfl c
    subst hnil
    refine ⟨_, rfl, q F fs H6 s06 eF6 ?_⟩
    have e : done = Pk.kinds n := by
      rw [← hall]
      simp
    rw [← e]
    exact hfs6
theorem pr_kinds {f : Addr} {fd : FuncData} (T : Top K mg) (hm : mg "_law_kinds" = some (.ref f)) (F : Fun K "_law_kinds" "_law_kinds" (topS 39) f fd) : Pr P w K mg base "_law_kinds" 4 (spKinds K) := by
  refine pr_of hm F (F.ok sc39 (fun vs H Q E h => ?_) (fun cdv A outer s H vs Q E hr h => ?_)) (fun _ _ _ _ _ _ us hl => match us, hl with | [_], _ => rfl)
  · obtain ⟨n, rfl, _⟩ := h
    rfl
  · obtain ⟨t, ht, hw⟩ := kinds_body T hr
    exact ⟨t, ht, hw h⟩
end PkD
end
section -- PkD11
set_option maxRecDepth 100000
set_option maxHeartbeats 4000000
namespace PkD
open PySem PySem.Spec PyProof.Rows L2 SlX PkR PkL RZ
variable {P : Program} {w : World} {K : PySem.W.Frag} {mg : Str → Option Value} {base : Heap}
/-! ### _law_kind -/
def spKind (K : PySem.W.Frag) : Sp := fun vs H Q _ => ∃ (d : Addr) (m : Nat), vs = [.ref d, .int (m : Nat)] ∧ DiceAt H d ∧ m ≤ 12 ∧ ∀ t l H', DK d H H' → SqT K H' t (iv l) → Pk.Kd l → l.sum ≤ m → Q (.ref t) H'
abbrev N40 : List Str := ["_law_dice_here", "_law_most"]
theorem sc40 : FnScope N40 ["_law_dice_here", "_law_most"] (defScope (topS 40)) := ⟨rfl, rfl, rfl, by decide +kernel, rfl, by decide +kernel, by decide +kernel⟩
theorem ones_kd (n : Nat) : Pk.Kd (List.replicate n (1 : Int)) := ⟨by
  show List.Pairwise _ _
  rw [List.pairwise_replicate]
  exact .inr (Int.le_refl _), fun x h => by rw [(List.mem_replicate.mp h).2]; exact Int.le_refl _⟩
theorem ones_sum : ∀ n : Nat, (List.replicate n (1 : Int)).sum = n
  | 0 => rfl
  | n + 1 => by
    rw [List.replicate_succ, List.sum_cons, ones_sum n]
    omega
theorem kinds_ne (n : Nat) : Pk.kinds n ≠ [] := fun z => by
  have : List.replicate n (1 : Int) ∈ Pk.kinds n := Pk.mem_kinds.mpr ⟨ones_kd n, ones_sum n⟩
  rw [z] at this
  cases this
theorem pr_kind {f : Addr} {fd : FuncData} (G1 : Pr P w K mg base "_law_pick" 4 (spPick K)) (G2 : Pr P w K mg base "_law_kinds" 4 (spKinds K)) (G3 : Pr P w K mg base "_law_roll" 2 spRoll) (hm : mg "_law_kind" = some (.ref f)) (F : Fun K "_law_kind" "_law_kind" (topS 40) f fd) : Pr P w K mg base "_law_kind" 6 (spKind K) := by
  refine pr_of hm F (F.ok sc40 (fun vs H Q E h => ?_) (fun cdv A outer s H vs Q E hr h => ⟨_, pss_one (ps_ret (pe_callP G1 (hr.mono (by decide)) (by rfl) (pa_cons (pv 0) (pa_cons (pe_callP G2 (hr.mono (by decide)) (by rfl) (pa_cons (pe_callP G3 (hr.mono (by decide)) (by rfl) (pa_cons (pv 0) (pa_cons (pe_op op_add (pv 1) pe_int) pa_nil))) pa_nil)) pa_nil)))), ?_⟩)) (fun _ _ _ _ _ _ us hl => match us, hl with | [_, _], _ => rfl)
  · obtain ⟨d, m, rfl, _⟩ := h
    rfl
  · obtain ⟨d, m, rfl, hd, hm, q⟩ := h
    refine ⟨_, rfl, _, rfl, _, rfl, _, _, rfl, rfl, d, m + 1, rfl, hd, by omega, by omega, fun r H1 hr dk => ⟨r, rfl, by omega, fun p xs H2 s2 hp ht => ?_⟩⟩
    have dk2 := dk.same s2
    have hne : p ≠ d := fun z => by
      obtain ⟨x, y, z', e, _⟩ := dk2.2
      rw [z, e] at hp
      have e2 : [V.int x, V.int y, V.int z'] = xs := by injection (Option.some.inj hp)
      rw [← e2] at ht
      obtain ⟨_, a, _, ea, _⟩ := ht.get (i := 0) rfl
      cases ea
    have hx : xs ≠ [] := fun z => by
      have := ht.length
      rw [z] at this
      exact kinds_ne r (List.length_eq_zero_iff.mp this.symm)
    have hl : xs.length ≤ 1000000 := by
      rw [ht.length]
      exact Nat.le_trans (kinds_few (show r ≤ 12 by omega)) (by decide)
    refine ⟨d, p, xs, rfl, dk2.2, hne, hp, hx, hl, fun v H3 hv dk3 => ?_⟩
    obtain ⟨i, hi⟩ := List.mem_iff_getElem?.mp hv
    obtain ⟨l, t, hl, rfl, hst⟩ := ht.get hi
    have hmem := Pk.mem_kinds.mp (List.mem_of_getElem? hl)
    exact q t l H3 (dk2.trans dk3) ((DK.frz dk2.2 dk3).sqT hst) hmem.1 (by rw [hmem.2]; omega)
/-! ### _law_every_kind -/
def spEvery (K : PySem.W.Frag) : Sp := fun vs H Q _ => ∃ m : Nat, vs = [.int (m : Nat)] ∧ m ≤ 12 ∧ ∀ p xs ls H', Same H H' → H' p = some (.lst xs) → TupsAt K H' xs ls → (∀ l, l ∈ ls ↔ Pk.Kd l ∧ l.sum ≤ m) → xs.length ≤ 2000 → Q (.ref p) H'
abbrev N41 : List Str := ["_law_most", "_law_found", "_law_size"]
theorem sc41 : FnScope N41 ["_law_most"] (defScope (topS 41)) := ⟨rfl, rfl, rfl, by decide +kernel, rfl, by decide +kernel, by decide +kernel⟩
theorem pr_every {f : Addr} {fd : FuncData} (T : Top K mg) (G2 : Pr P w K mg base "_law_kinds" 4 (spKinds K)) (hm : mg "_law_every_kind" = some (.ref f)) (F : Fun K "_law_every_kind" "_law_every_kind" (topS 41) f fd) : Pr P w K mg base "_law_every_kind" 6 (spEvery K) := by
  refine pr_of hm F (F.ok sc41 (fun vs H Q E h => ?_) (fun cdv A outer s H vs Q E hr h => ⟨_, pss_cons (ps_set (i := 1) sc41.nd rfl (Or.inl rfl) (pe_lst pa_nil))
    (pss_cons (ps_for PassesOwn.never rfl (pi_range1 (by rfl) T.range (pa_cons (pe_op op_add (pv 0) pe_int) pa_nil)) (pg_name (i := 2) sc41.nd rfl (Or.inl rfl))
      (pss_one (ps_set (i := 1) sc41.nd rfl (Or.inl rfl) (pe_op op_cat (pv 1) (pe_callP G2 (hr.mono (by decide)) (by rfl) (pa_cons (pv 2) pa_nil))))))
    (pss_one (ps_ret (pv 1)))), ?_⟩)) (fun _ _ _ _ _ _ us hl => match us, hl with | [_], _ => rfl)
  · obtain ⟨m, rfl, _⟩ := h
    rfl
  · obtain ⟨m, rfl, hm, q⟩ := h
    refine ⟨(by show 0 ≤ sizeLine; decide), fun D0 hD0 => ⟨_, rfl, _, _, rfl, rfl, _, rfl, by omega, by omega, ?_⟩⟩
    rw [show ((m : Nat) : Int) + 1 = ((m + 1 : Nat) : Int) from by omega, Int.toNat_natCast]
    refine for_range (fun i σ H' => ∃ D xs ls v, σ = [some (.int (m : Nat)), some (.ref D), v] ∧ Same H H' ∧ H' D = some (.lst xs) ∧ TupsAt K H' xs ls ∧ (∀ l, l ∈ ls ↔ Pk.Kd l ∧ l.sum < i) ∧ xs.length ≤ i * 100)
      ⟨D0, [], [], _, rfl, same_new hD0, upd_same, .nil, fun l => ⟨fun h => by (cases h), fun ⟨h1, h2⟩ => by have := sum_nn h1.pos; omega⟩, Nat.le_refl _⟩ ?_ ?_
    · rintro i σ H1 hi ⟨D, xs, ls, v, rfl, s1, hD, ht, hls, hl⟩
      rw [Int.zero_add]
      refine ⟨_, rfl, _, rfl, i, rfl, by omega, fun p ys H2 s2 hp ht2 => ?_⟩
      have hyl := ht2.length
      have hkf := kinds_few (show i ≤ 12 by omega)
      refine ⟨D, p, xs, ys, rfl, rfl, s2 _ _ hD, hp, Nat.le_trans (show xs.length + ys.length ≤ 5000 by omega) (by decide), fun D2 hD2 => ⟨D2, xs ++ ys, ls ++ Pk.kinds i, _, rfl, (s1.trans s2).trans (same_new hD2), upd_same, paired_app (ht.frz (s2.trans (same_new hD2)).frz) (ht2.frz (same_new hD2).frz), fun l => ?_, ?_⟩⟩
      · rw [List.mem_append, hls, Pk.mem_kinds]
        constructor
        · rintro (⟨h1, h2⟩ | ⟨h1, h2⟩)
          · exact ⟨h1, by omega⟩
          · exact ⟨h1, by omega⟩
        · rintro ⟨h1, h2⟩
          by_cases c : l.sum < i
          · exact .inl ⟨h1, c⟩
          · exact .inr ⟨h1, by omega⟩
      · rw [List.length_append]
        omega
    · rintro σ H1 ⟨D, xs, ls, v, rfl, s1, hD, ht, hls, hl⟩
      exact ⟨_, rfl, q D xs ls H1 s1 hD ht (fun l => by rw [hls]; constructor <;> rintro ⟨h1, h2⟩ <;> exact ⟨h1, by omega⟩) (by omega)⟩
/-! ### _law_does_hold -/
def spDoes (K : PySem.W.Frag) : Sp := fun vs H Q _ => ∃ a b l m, vs = [.ref a, .ref b] ∧ SqT K H a (iv l) ∧ SqT K H b (iv m) ∧ l.length ≤ 1000 ∧ ∀ H', Same H H' → Q (.bl (Pk.holdsB l m)) H'
abbrev N42 : List Str := ["_law_kind_here", "_law_other", "_law_one", "_law_two"]
theorem sc42 : FnScope N42 ["_law_kind_here", "_law_other"] (defScope (topS 42)) := ⟨rfl, rfl, rfl, by decide +kernel, rfl, by decide +kernel, by decide +kernel⟩
theorem ones_dp {H : Hp} : ∀ n : Nat, DpAll K H (iv (List.replicate n (1 : Int))) ((List.replicate n (1 : Int)).map PyData.int) := fun n => dp_ints _
theorem lshaped_ints (l : List Int) : SeqAt.shaped (.list (l.map PyData.int)) = true := by
  unfold SeqAt.shaped
  rw [PyData.canLay0, canLay_ints, PyData.depth, PySem.W.depth_ints]
  rfl
theorem filt_nil {α : Type} {p : α → Bool} {l : List α} : (l.filter p).isEmpty = l.all fun x => !p x := by
  induction l with
  | nil => rfl
  | cons x l ih =>
    rw [List.all_cons]
    cases c : p x with
    | true => rw [List.filter_cons_of_pos c]; rfl
    | false => rw [List.filter_cons_of_neg (by rw [c]; decide), ih]; rfl
theorem pr_does {f : Addr} {fd : FuncData} (T : Top K mg) (hm : mg "_law_does_hold" = some (.ref f)) (F : Fun K "_law_does_hold" "_law_does_hold" (topS 42) f fd) : Pr P w K mg base "_law_does_hold" 3 (spDoes K) := by
  refine pr_of hm F (F.ok sc42 (fun vs H Q E h => ?_) (fun cdv A outer s H vs Q E hr h => ⟨_, pss_one (ps_ret (pe_and (pe_cmpR op_le (pe_callB call_len (by rfl) T.len b_len (pa_cons (pv 1) pa_nil)) (pe_callB call_len (by rfl) T.len b_len (pa_cons (pv 0) pa_nil)) (nomark _))
    (pe_one (pe_cmpR (op_eqD hr.units) (pe_lc (own := [("_law_one", 2), ("_law_two", 3)]) (by rfl) sc42.nd (pi_zipA (by rfl) T.zip (pa_cons (pv 1) (pa_cons (pv 0) pa_nil))) (blkOk_by (N := N42) (sc := defScope (topS 42)) (by decide +kernel))
      (fun s H C cl fp => pg_two K (by rfl) (by rfl) (pg_name (i := 2) sc42.nd rfl (Or.inl rfl)) (pg_name (i := 3) sc42.nd rfl (Or.inl rfl))) (fun s H C cl fp => pts_one (pt_cmpR op_gt (pv 2) (pv 3) (nomark _))) (fun s H C cl fp => pe_int)) (pe_lst pa_nil) (nomark _))))), ?_⟩)) (fun _ _ _ _ _ _ us hl => match us, hl with | [_, _], _ => rfl)
  · obtain ⟨a, b, l, m, rfl, _⟩ := h
    rfl
  · obtain ⟨a, b, l, m, rfl, ha, hb, hl, q⟩ := h
    refine ⟨_, rfl, _, _, rfl, lenT hb, _, rfl, _, _, rfl, lenT ha, _, _, rfl, rfl, _, rfl, ite2 (fun c => ?_) (fun c => ?_)⟩
    · rw [iv_len, iv_len] at c
      have c' : m.length ≤ l.length := by
        have := of_decide_eq_true c
        omega
      refine ⟨_, rfl, _, rfl, b, a, iv m, iv l, rfl, .inr ⟨hb, ha, lc_same (feeds_zipT hb ha) (by rw [iv_len, iv_len]; omega) (fun i acc _ => acc = iv (((List.range i).filter fun i => decide (Pk.at0 l i < Pk.at0 m i)).map fun _ => 1)) (fun _ _ _ _ _ h => h) rfl (fun i x acc H3 k1 k2 hi hs3 hx hr hk1 hk2 => ?_) (fun D acc H3 s3 hD _ hr => ?_)⟩⟩
      · obtain ⟨Tp, u, v, rfl, hu, hv, hT⟩ := hx
        obtain ⟨y, hy, rfl⟩ := iv_get hu
        obtain ⟨z, hz, rfl⟩ := iv_get hv
        have ey : Pk.at0 m i = y := by simp [Pk.at0, List.getD_eq_getElem?_getD, hy]
        have ez : Pk.at0 l i = z := by simp [Pk.at0, List.getD_eq_getElem?_getD, hz]
        refine ⟨Tp, _, rfl, sqT_tup hT, rfl, _, _, rfl, _, _, rfl, rfl, rfl, _, rfl, _, rfl, _, _, rfl, rfl, _, rfl, ite2 (fun d => hk1 _ _ (Same.refl _) ?_) (fun d => hk2 _ (Same.refl _) ?_)⟩
        · rw [hr, List.range_succ, List.filter_append, List.filter_cons_of_pos (by rw [ey, ez]; exact d), List.map_append, iv_app]
          rfl
        · rw [hr, List.range_succ, List.filter_append, List.filter_cons_of_neg (by rw [ey, ez]; exact d)]
          simp
      · refine ⟨(by show 0 ≤ sizeLine; decide), fun e1 he1 => ⟨.list _, .list [], .lst ((same_new he1).seq (sqL_lst (by rw [hD, hr]))) (dp_ints _), .lst (sqL_lst upd_same) .nil, lshaped_ints _, nil_shaped, ?_⟩⟩
        rw [eqv_lnil]
        have e : Pk.holdsB l m = (((((List.range (min (iv m).length (iv l).length)).filter fun i => decide (Pk.at0 l i < Pk.at0 m i)).map fun _ => (1 : Int)).map PyData.int).isEmpty) := by
          unfold Pk.holdsB
          rw [decide_eq_true c', Bool.true_and, iv_len, iv_len, Nat.min_eq_left c', List.isEmpty_map, List.isEmpty_map, filt_nil]
          congr 1
          funext i
          by_cases d : Pk.at0 m i ≤ Pk.at0 l i
          · rw [decide_eq_true d, decide_eq_false (by omega)]; rfl
          · rw [decide_eq_false d, decide_eq_true (by omega)]; rfl
        rw [← e]
        exact q _ (s3.trans (same_new he1))
    · rw [iv_len, iv_len] at c
      have e : Pk.holdsB l m = false := by
        unfold Pk.holdsB
        rw [decide_eq_false (fun z => c (decide_eq_true (by omega))), Bool.false_and]
      rw [e] at q
      exact q H (Same.refl _)
end PkD
end
section -- PkD12
set_option maxRecDepth 100000
set_option maxHeartbeats 4000000
namespace PkD
open PySem PySem.Spec PyProof.Rows L2 SlX PkR PkL RZ PkX
variable {P : Program} {w : World} {K : PySem.W.Frag} {mg : Str → Option Value} {base : Heap}
/-! ### _law_is_flat_over -/
def spIs (K : PySem.W.Frag) (b : List Int → List Int → Bool) : Sp := fun vs H Q _ => ∃ a r l k, vs = [.ref a, .ref r] ∧ SqT K H a (iv l) ∧ SqT K H r (iv k) ∧ l.length ≤ 1000 ∧ k.length ≤ 1000 ∧ ∀ H', Same H H' → Q (.bl (b l k)) H'
abbrev N43 : List Str := ["_law_kind_here", "_law_rest", "_law_at", "_law_number"]
theorem sc43 : FnScope N43 ["_law_kind_here", "_law_rest"] (defScope (topS 43)) := ⟨rfl, rfl, rfl, by decide +kernel, rfl, by decide +kernel, by decide +kernel⟩
theorem at0_get' {l : List Int} {i : Nat} {y : Int} (h : l[i]? = some y) : Pk.at0 l i = y := by simp [Pk.at0, List.getD_eq_getElem?_getD, h]
theorem at0_no {l : List Int} {i : Nat} (h : ¬ i < l.length) : Pk.at0 l i = 0 := by simp [Pk.at0, List.getD_eq_getElem?_getD, List.getElem?_eq_none (Nat.le_of_not_lt h)]
theorem iv_at {l : List Int} {i : Nat} (h : i < l.length) : (iv l)[i]? = some (V.int (Pk.at0 l i)) := by
  rw [List.getElem?_map, List.getElem?_eq_getElem h]
  simp [Pk.at0, h]
theorem filter_range_yes {p : Nat → Bool} {i : Nat} (h : p i = true) : (List.range (i + 1)).filter p = (List.range i).filter p ++ [i] := by
  rw [List.range_succ, List.filter_append, List.filter_cons_of_pos h]
  rfl
theorem filter_range_no {p : Nat → Bool} {i : Nat} (h : ¬ p i = true) : (List.range (i + 1)).filter p = (List.range i).filter p := by
  rw [List.range_succ, List.filter_append, List.filter_cons_of_neg h]
  simp
theorem pr_isFlat {f : Addr} {fd : FuncData} (T : Top K mg) (G : Pr P w K mg base "_law_does_hold" 3 (spDoes K)) (hm : mg "_law_is_flat_over" = some (.ref f)) (F : Fun K "_law_is_flat_over" "_law_is_flat_over" (topS 43) f fd) : Pr P w K mg base "_law_is_flat_over" 5 (spIs K Pk.flatB) := by
  refine pr_of hm F (F.ok sc43 (fun vs H Q E h => ?_) (fun cdv A outer s H vs Q E hr h => ⟨_, pss_cons (ps_if (pt_not (pt_val (pe_callP G (hr.mono (by decide)) (by rfl) (pa_cons (pv 0) (pa_cons (pv 1) pa_nil))))) (pss_one (ps_ret pe_bl)) pss_nil)
    (pss_one (ps_ret (pe_cmpR (op_eqD hr.units) (pe_lc (own := [("_law_at", 2), ("_law_number", 3)]) (by rfl) sc43.nd (pi_enumT (by rfl) T.enumerate (pa_cons (pv 0) pa_nil)) (blkOk_by (N := N43) (sc := defScope (topS 43)) (by decide +kernel))
      (fun s H C cl fp => pg_two K (by rfl) (by rfl) (pg_name (i := 2) sc43.nd rfl (Or.inl rfl)) (pg_name (i := 3) sc43.nd rfl (Or.inl rfl)))
      (fun s H C cl fp => pts_one (pt_cmpR op_gt (pv 3) (pe_op op_add (pe_ifExp (pt_cmpR op_lt (pv 2) (pe_callB (call_lenK K (by rfl)) (by rfl) T.len b_len (pa_cons (pv 1) pa_nil)) (nomark _)) (pe_ix (ix_tupK K (by rfl)) (pv 1) (pv 2) (fun _ _ => rfl)) pe_int) pe_int) (nomark _)))
      (fun s H C cl fp => pv 2)) (pe_lst pa_nil) (nomark _)))), ?_⟩)) (fun _ _ _ _ _ _ us hl => match us, hl with | [_, _], _ => rfl)
  · obtain ⟨a, r, l, k, rfl, _⟩ := h
    rfl
  · obtain ⟨a, r, l, k, rfl, ha, hb, hl, hkl, q⟩ := h
    refine ⟨_, rfl, _, rfl, a, r, l, k, rfl, ha, hb, hl, fun H1 s1 => ⟨_, rfl, ?_⟩⟩
    cases hh : Pk.holdsB l k with
    | false =>
      have e : Pk.flatB l k = false := by unfold Pk.flatB; rw [hh, Bool.false_and]
      rw [e] at q
      exact q _ s1
    | true =>
      have ha1 := s1.sqT ha
      have hb1 := s1.sqT hb
      refine ⟨_, rfl, a, iv l, rfl, ha1, lc_same (feeds_enumT ha1) (by rw [iv_len]; omega) (fun i acc _ => acc = iv (((List.range i).filter fun i => decide (Pk.at0 k i + 1 < Pk.at0 l i)).map fun (i : Nat) => (i : Int))) (fun _ _ _ _ _ h => h) rfl (fun i x acc H3 k1 k2 hi hs3 hx hr hk1 hk2 => ?_) (fun D acc H3 s3 hD _ hr => ?_)⟩
      · obtain ⟨Tp, u, rfl, hu, hT⟩ := hx
        obtain ⟨y, hy, rfl⟩ := iv_get hu
        have ey := at0_get' hy
        have hb3 := hs3.sqT hb1
        have go1 : decide (Pk.at0 k i + 1 < y) = true → k1 (.int (i : Nat)) H3 := fun d => by
          refine hk1 _ _ (Same.refl _) ?_
          rw [hr, List.range_succ, List.filter_append, List.filter_cons_of_pos (by rw [ey]; exact d), List.map_append, iv_app]
          rfl
        have go2 : ¬ decide (Pk.at0 k i + 1 < y) = true → k2 H3 := fun d => by
          refine hk2 _ (Same.refl _) ?_
          rw [hr, List.range_succ, List.filter_append, List.filter_cons_of_neg (by rw [ey]; exact d)]
          simp
        refine ⟨Tp, _, rfl, sqT_tup hT, rfl, _, _, rfl, _, _, rfl, rfl, rfl, _, rfl, _, rfl, _, rfl, _, _, rfl, lenT hb3, _, _, rfl, rfl, _, rfl, ite2 (fun c => ?_) (fun c => ?_)⟩
        · have hik : i < k.length := by
            have := of_decide_eq_true c
            rw [iv_len] at this
            omega
          exact ⟨_, rfl, _, rfl, r, iv k, _, _, rfl, rfl, hb3, atI_nat (iv_at hik), _, _, rfl, rfl, _, _, rfl, rfl, _, rfl, ite2 (fun d => ⟨_, rfl, go1 d⟩) go2⟩
        · have hik : ¬ i < k.length := fun z => c (decide_eq_true (by rw [iv_len]; omega))
          rw [at0_no hik] at go1 go2
          exact ⟨_, _, rfl, rfl, _, _, rfl, rfl, _, rfl, ite2 (fun d => ⟨_, rfl, go1 d⟩) go2⟩
      · refine ⟨(by show 0 ≤ sizeLine; decide), fun e1 he1 => ⟨.list _, .list [], .lst ((same_new he1).seq (sqL_lst (by rw [hD, hr]))) (dp_ints _), .lst (sqL_lst upd_same) .nil, lshaped_ints _, nil_shaped, ?_⟩⟩
        rw [eqv_lnil]
        have e : Pk.flatB l k = (((((List.range (iv l).length).filter fun i => decide (Pk.at0 k i + 1 < Pk.at0 l i)).map fun (i : Nat) => (i : Int)).map PyData.int).isEmpty) := by
          unfold Pk.flatB
          rw [hh, Bool.true_and, iv_len, List.isEmpty_map, List.isEmpty_map, filt_nil]
          congr 1
          funext i
          by_cases d : Pk.at0 l i ≤ Pk.at0 k i + 1
          · rw [decide_eq_true d, decide_eq_false (by omega)]; rfl
          · rw [decide_eq_false d, decide_eq_true (by omega)]; rfl
        rw [← e]
        exact q _ ((s1.trans s3).trans (same_new he1))
/-! ### _law_is_line_over -/
abbrev N44 : List Str := ["_law_kind_here", "_law_rest", "_law_at"]
theorem sc44 : FnScope N44 ["_law_kind_here", "_law_rest"] (defScope (topS 44)) := ⟨rfl, rfl, rfl, by decide +kernel, rfl, by decide +kernel, by decide +kernel⟩
theorem pr_isLine {f : Addr} {fd : FuncData} (T : Top K mg) (G : Pr P w K mg base "_law_does_hold" 3 (spDoes K)) (hm : mg "_law_is_line_over" = some (.ref f)) (F : Fun K "_law_is_line_over" "_law_is_line_over" (topS 44) f fd) : Pr P w K mg base "_law_is_line_over" 5 (spIs K Pk.lineB) := by
  refine pr_of hm F (F.ok sc44 (fun vs H Q E h => ?_) (fun cdv A outer s H vs Q E hr h => ⟨_, pss_cons (ps_if (pt_not (pt_val (pe_callP G (hr.mono (by decide)) (by rfl) (pa_cons (pv 0) (pa_cons (pv 1) pa_nil))))) (pss_one (ps_ret pe_bl)) pss_nil)
    (pss_one (ps_ret (pe_cmpR (op_eqD hr.units) (pe_lc (own := [("_law_at", 2)]) (by rfl) sc44.nd (pi_range2 (by rfl) T.range (pa_cons pe_int (pa_cons (pe_callB call_len (by rfl) T.len b_len (pa_cons (pv 0) pa_nil)) pa_nil))) (blkOk_by (N := N44) (sc := defScope (topS 44)) (by decide +kernel))
      (fun s H C cl fp => pg_name (i := 2) sc44.nd rfl (Or.inl rfl))
      (fun s H C cl fp => pts_one (pt_cmpR op_gt (pe_ix (ix_tupK K (by rfl)) (pv 0) (pv 2) (fun _ _ => rfl)) (pe_ifExp (pt_cmpR op_le (pv 2) (pe_callB (call_lenK K (by rfl)) (by rfl) T.len b_len (pa_cons (pv 1) pa_nil)) (nomark _)) (pe_ix (ix_tupK K (by rfl)) (pv 1) (pe_op op_sub (pv 2) pe_int) (fun _ _ => rfl)) pe_int) (nomark _)))
      (fun s H C cl fp => pv 2)) (pe_lst pa_nil) (nomark _)))), ?_⟩)) (fun _ _ _ _ _ _ us hl => match us, hl with | [_, _], _ => rfl)
  · obtain ⟨a, r, l, k, rfl, _⟩ := h
    rfl
  · obtain ⟨a, r, l, k, rfl, ha, hb, hl, hkl, q⟩ := h
    refine ⟨_, rfl, _, rfl, a, r, l, k, rfl, ha, hb, hl, fun H1 s1 => ⟨_, rfl, ?_⟩⟩
    cases hh : Pk.holdsB l k with
    | false =>
      have e : Pk.lineB l k = false := by unfold Pk.lineB; rw [hh, Bool.false_and]
      rw [e] at q
      exact q _ s1
    | true =>
      have ha1 := s1.sqT ha
      have hb1 := s1.sqT hb
      refine ⟨_, rfl, _, _, rfl, lenT ha1, 1, _, rfl, ⟨by omega, by omega, by rw [iv_len]; omega, by rw [iv_len]; omega⟩, lc_same feeds_rng (by rw [iv_len]; omega) (fun i acc _ => acc = iv (((List.range i).filter fun i => decide (Pk.at0 k i < Pk.at0 l (i + 1))).map fun (i : Nat) => 1 + (i : Int))) (fun _ _ _ _ _ h => h) rfl (fun i x acc H3 k1 k2 hi hs3 hx hr hk1 hk2 => ?_) (fun D acc H3 s3 hD _ hr => ?_)⟩
      · subst hx
        rw [iv_len] at hi
        have hi2 : i + 1 < l.length := by omega
        have ha3 := hs3.sqT ha1
        have hb3 := hs3.sqT hb1
        have go1 : decide (Pk.at0 k i < Pk.at0 l (i + 1)) = true → k1 (.int (1 + (i : Nat))) H3 := fun d => by
          refine hk1 _ _ (Same.refl _) ?_
          rw [hr, filter_range_yes (p := fun i => decide (Pk.at0 k i < Pk.at0 l (i + 1))) d, List.map_append, iv_app]
          rfl
        have go2 : ¬ decide (Pk.at0 k i < Pk.at0 l (i + 1)) = true → k2 H3 := fun d => by
          refine hk2 _ (Same.refl _) ?_
          rw [hr, filter_range_no (p := fun i => decide (Pk.at0 k i < Pk.at0 l (i + 1))) d]
        have hat1 : atI (iv l) (1 + (i : Nat)) = some (V.int (Pk.at0 l (i + 1))) := by
          rw [show (1 : Int) + (i : Nat) = ((i + 1 : Nat) : Int) from by omega]
          exact atI_nat (iv_at hi2)
        refine ⟨rfl, _, rfl, _, rfl, a, iv l, _, _, rfl, rfl, ha3, hat1, _, rfl, _, rfl, _, _, rfl, lenT hb3, _, _, rfl, rfl, _, rfl, ite2 (fun c => ?_) (fun c => ?_)⟩
        · have hik : i < k.length := by
            have := of_decide_eq_true c
            rw [iv_len] at this
            omega
          refine ⟨_, rfl, _, rfl, _, _, rfl, rfl, r, iv k, _, V.int (Pk.at0 k i), rfl, rfl, hb3, ?_, _, _, rfl, rfl, _, rfl, ite2 (fun d => ⟨_, rfl, go1 d⟩) go2⟩
          rw [show (1 : Int) + (i : Nat) - 1 = ((i : Nat) : Int) from by omega]
          exact atI_nat (iv_at hik)
        · have hik : ¬ i < k.length := fun z => c (decide_eq_true (by rw [iv_len]; omega))
          rw [at0_no hik] at go1 go2
          exact ⟨_, _, rfl, rfl, _, rfl, ite2 (fun d => ⟨_, rfl, go1 d⟩) go2⟩
      · refine ⟨(by show 0 ≤ sizeLine; decide), fun e1 he1 => ⟨.list _, .list [], .lst ((same_new he1).seq (sqL_lst (by rw [hD, hr]))) (dp_ints _), .lst (sqL_lst upd_same) .nil, lshaped_ints _, nil_shaped, ?_⟩⟩
        rw [eqv_lnil]
        have e : Pk.lineB l k = (((((List.range (((iv l).length : Nat) - 1 : Int).toNat).filter fun i => decide (Pk.at0 k i < Pk.at0 l (i + 1))).map fun (i : Nat) => 1 + (i : Int)).map PyData.int).isEmpty) := by
          unfold Pk.lineB
          rw [hh, Bool.true_and, iv_len, List.isEmpty_map, List.isEmpty_map, filt_nil, show ((l.length : Nat) - 1 : Int).toNat = l.length - 1 from by omega]
          congr 1
          funext i
          by_cases d : Pk.at0 l (i + 1) ≤ Pk.at0 k i
          · rw [decide_eq_true d, decide_eq_false (by omega)]; rfl
          · rw [decide_eq_false d, decide_eq_true (by omega)]; rfl
        rw [← e]
        exact q _ ((s1.trans s3).trans (same_new he1))
end PkD
end
section -- PkD13
set_option maxRecDepth 100000
set_option maxHeartbeats 4000000
namespace PkD
open PySem PySem.Spec PyProof.Rows L2 SlX PkR PkL RZ PkX
variable {P : Program} {w : World} {K : PySem.W.Frag} {mg : Str → Option Value} {base : Heap}
/-! ### _law_opposite_of -/
def spOppOf (K : PySem.W.Frag) : Sp := fun vs H Q _ => ∃ (a : Addr) (l : List Int) (wd hg : Nat), vs = [.ref a, .int (wd : Nat), .int (hg : Nat)] ∧ SqT K H a (iv l) ∧ l.length ≤ wd ∧ wd ≤ 100 ∧ ∀ p H', Same H H' → SqT K H' p (iv (Pk.opp l wd hg)) → Q (.ref p) H'
abbrev N45 : List Str := ["_law_numbers", "_law_wide", "_law_high", "_law_number", "_law_rows", "_law_turn"]
theorem sc45 : FnScope N45 ["_law_numbers", "_law_wide", "_law_high"] (defScope (topS 45)) := ⟨rfl, rfl, rfl, by decide +kernel, rfl, by decide +kernel, by decide +kernel⟩
theorem rev_row {l : List Int} {wd : Nat} {hg : Int} (h : l.length ≤ wd) : ((l ++ List.replicate (wd - l.length) (0 : Int)).map fun x => hg - x).reverse = (List.range wd).map fun i => hg - Pk.at0 l (wd - 1 - i) := by
  have hlen : (l ++ List.replicate (wd - l.length) (0 : Int)).length = wd := by rw [List.length_append, List.length_replicate]; omega
  refine List.ext_getElem (by rw [List.length_reverse, List.length_map, hlen, List.length_map, List.length_range]) fun i h1 h2 => ?_
  have hi : i < wd := by
    rw [List.length_map, List.length_range] at h2
    exact h2
  rw [List.getElem_reverse, List.getElem_map, List.getElem_map, List.getElem_range]
  congr 1
  rw [← Pk.at0_zeros l (wd - l.length)]
  have hj : wd - 1 - i < (l ++ List.replicate (wd - l.length) (0 : Int)).length := by omega
  rw [Pk.at0_get hj]
  congr 1
  rw [List.length_map, hlen]
theorem pr_oppOf {f : Addr} {fd : FuncData} (T : Top K mg) (hm : mg "_law_opposite_of" = some (.ref f)) (F : Fun K "_law_opposite_of" "_law_opposite_of" (topS 45) f fd) : Pr P w K mg base "_law_opposite_of" 3 (spOppOf K) := by
  refine pr_of hm F (F.ok sc45 (fun vs H Q E h => ?_) (fun cdv A outer s H vs Q E hr h => ⟨_, pss_cons (ps_setLc (i := 4) (own := [("_law_number", 3)]) (by rfl) sc45.nd (by rfl) (by rfl) (by rfl) (pi_list (pe_op op_cat (pe_callTy call_list_of (by rfl) T.list b_list (pa_cons (pv 0) pa_nil))
        (pe_lc (own := [("_law_turn", 5)]) (by rfl) sc45.nd (pi_range1 (by rfl) T.range (pa_cons (pe_op op_sub (pv 1) (pe_callB call_len (by rfl) T.len b_len (pa_cons (pv 0) pa_nil))) pa_nil)) (blkOk_by (N := N45) (sc := defScope (topS 45)) (by decide +kernel)) (fun s H C cl fp => pg_name (i := 5) sc45.nd rfl (Or.inl rfl)) (fun s H C cl fp => pts_nil) (fun s H C cl fp => pe_int))))
      (blkOk_by (N := N45) (sc := defScope (topS 45)) (by decide +kernel)) (fun s H C cl fp => pg_name (i := 3) sc45.nd rfl (Or.inl rfl)) (fun s H C cl fp => pts_nil) (fun s H C cl fp => pe_op op_sub (pv 2) (pv 3)))
    (pss_one (ps_ret (pe_callTy call_tupL (by rfl) T.tuple b_tuple (pa_cons (pe_lc (own := [("_law_number", 3)]) (by rfl) sc45.nd (pi_list (pe_revL (pv 4))) (blkOk_by (N := N45) (sc := defScope (topS 45)) (by decide +kernel)) (fun s H C cl fp => pg_name (i := 3) sc45.nd rfl (Or.inl rfl)) (fun s H C cl fp => pts_one (pt_cmpR op_gt (pv 3) pe_int (nomark _))) (fun s H C cl fp => pv 3)) pa_nil)))), ?_⟩)) (fun _ _ _ _ _ _ us hl => match us, hl with | [_, _, _], _ => rfl)
  · obtain ⟨a, l, wd, hg, rfl, _⟩ := h
    rfl
  · obtain ⟨a, l, wd, hg, rfl, ha, hl, hw, q⟩ := h
    refine ⟨_, rfl, a, iv l, rfl, .inr ha, fun L hL => ?_⟩
    generalize hH1 : upd H L (.lst (iv l)) = H1
    have s1 : Same H H1 := by rw [← hH1]; exact same_new hL
    have eL : H1 L = some (.lst (iv l)) := by rw [← hH1]; exact upd_same
    have hcnt : (((wd : Nat) : Int) - ((l.length : Nat) : Int)).toNat = wd - l.length := by omega
    refine ⟨_, rfl, _, rfl, _, _, rfl, lenT (s1.sqT ha), _, _, rfl, rfl, _, rfl, by rw [iv_len]; omega, by rw [iv_len]; omega, lc_same feeds_rng (by rw [iv_len]; omega) (fun i acc _ => acc = iv (List.replicate i (0 : Int))) (fun _ _ _ _ _ h => h) rfl (fun i x acc H3 k1 k2 hi hs3 hx hr hk1 hk2 => ?_) (fun D acc H3 s3 hD _ hr => ?_)⟩
    · refine ⟨rfl, hk1 _ _ (Same.refl _) ?_⟩
      rw [hr, List.replicate_succ', iv_app]
      rfl
    · rw [iv_len, hcnt] at hr
      subst hr
      refine ⟨L, D, iv l, _, rfl, rfl, s3 _ _ eL, hD, Nat.le_trans (show (iv l).length + (iv (List.replicate (wd - l.length) (0 : Int))).length ≤ 1000 from by rw [iv_len, iv_len, List.length_replicate]; omega) (by decide), fun p hp => ?_⟩
      rw [← iv_app]
      generalize hX : l ++ List.replicate (wd - l.length) (0 : Int) = X
      have hXl : X.length = wd := by rw [← hX, List.length_append, List.length_replicate]; omega
      generalize hH4 : upd H3 p (.lst (iv X)) = H4
      have s4 : Same H3 H4 := by rw [← hH4]; exact same_new hp
      have eX : H4 p = some (.lst (iv X)) := by rw [← hH4]; exact upd_same
      refine ⟨p, rfl, ⟨_, sqL_lst eX⟩, lc_same (feeds_lst (sqL_lst eX)) (by rw [iv_len]; omega) (fun i acc _ => acc = iv ((X.take i).map fun x => (hg : Int) - x)) (fun _ _ _ _ _ h => h) rfl (fun i x acc H5 k1 k2 hi hs5 hx hr hk1 hk2 => ?_) (fun D2 acc H5 s5 hD2 _ hr => ?_)⟩
      · obtain ⟨n, hn, rfl⟩ := iv_get hx
        refine ⟨rfl, _, rfl, _, rfl, _, _, rfl, rfl, hk1 _ _ (Same.refl _) ?_⟩
        rw [hr, take_more hn, List.map_append, iv_app]
        rfl
      · rw [take_iv] at hr
        subst hr
        refine ⟨_, rfl, D2, _, rfl, sqL_lst hD2, fun p2 hp2 => ?_⟩
        rw [show (iv (X.map fun x => (hg : Int) - x)).reverse = iv ((X.map fun x => (hg : Int) - x).reverse) from List.map_reverse.symm, ← hX, rev_row hl]
        generalize hY : (List.range wd).map (fun i => (hg : Int) - Pk.at0 l (wd - 1 - i)) = Y
        have hYl : Y.length = wd := by rw [← hY, List.length_map, List.length_range]
        generalize hH6 : upd H5 p2 (.lst (iv Y)) = H6
        have s6 : Same H5 H6 := by rw [← hH6]; exact same_new hp2
        have eY : H6 p2 = some (.lst (iv Y)) := by rw [← hH6]; exact upd_same
        refine ⟨p2, rfl, ⟨_, sqL_lst eY⟩, lc_same (feeds_lst (sqL_lst eY)) (by rw [iv_len]; omega) (fun i acc _ => acc = iv (Pk.wz (Y.take i))) (fun _ _ _ _ _ h => h) rfl (fun i x acc H7 k1 k2 hi hs7 hx hr hk1 hk2 => ?_) (fun D3 acc H7 s7 hD3 _ hr => ?_)⟩
        · obtain ⟨n, hn, rfl⟩ := iv_get hx
          have hwz : Pk.wz (Y.take (i + 1)) = Pk.wz (Y.take i) ++ (if decide (0 < n) = true then [n] else []) := by
            unfold Pk.wz
            rw [filter_more hn]
          refine ⟨rfl, _, rfl, _, _, rfl, rfl, _, rfl, ite2 (fun c => ?_) (fun c => ?_)⟩
          · refine ⟨_, rfl, hk1 _ _ (Same.refl _) ?_⟩
            rw [hr, hwz, if_pos c, iv_app]
            rfl
          · refine hk2 _ (Same.refl _) ?_
            rw [hr, hwz, if_neg c, List.append_nil]
        · refine ⟨D3, acc, rfl, sqL_lst hD3, fun l2 H8 s8 hl2 => q l2 H8 (((((s1.trans s3).trans s4).trans s5).trans s6).trans (s7.trans s8)) ?_⟩
          rw [hr, take_iv] at hl2
          unfold Pk.opp
          rw [hY]
          exact sqT_tup hl2
/-! ### _law_did_turn -/
/-- o.m(e, ..), what is wished of an exception told by the state -/
def tMethS (C : Addr) (sp : Sp) (E : L2.St → XK) (ta : TE) (t : TA) : TE := fun σ H Q => ta σ H fun x H1 => ∃ a dx vs, x = .ref a ∧ Slt H1 a C dx vs ∧ t σ H1 fun ws H2 => sp (x :: ws) H2 Q (E σ)
theorem run_fnRS {X : Cx} {CX : CXT} {k : Nat} {f : Addr} {sp : Sp} {E : L2.St → XK} {pins : List (Addr × Obj)} {σ : L2.St} {H : Hp} {s : Shared} {Q : VK} {us : List Value} {vs : List V} (F : FnR X.prog X.w X.K X.mg X.base CX k f sp) (hr : Room k X.A) (hx : PassesAt CX X σ (E σ)) (I : Inv X pins σ H s) (r : Vals vs us) (h : sp vs H Q (E σ)) :
    codeAny (model X.prog X.w) X.A (.call (.ref f) ⟨us, []⟩) (fun r s' => match r with | .ok (.ret v) => EP X pins σ Q v s' | .ok _ => False | .error e => X.xe e s') s := by
  refine codeAny_mono (F X.A X.stack s H us vs Q (E σ) hr I.env0 r h) fun r s' hq => ?_
  cases r with
  | error e => exact hx pins H s e s' I hq
  | ok fl =>
    cases fl with
    | ret u => exact I.after hq
    | next => exact False.elim hq
    | brk => exact False.elim hq
    | cont => exact False.elim hq
theorem pe_methS {X : Cx} {CX : CXT} {k : Nat} {C g : Addr} {m : Str} {sp : Sp} {E : L2.St → XK} {pl : Sem Bool} {o e : Expr} {es : List Expr} {ta : TE} {t : TA} {apos pos : Pos} (he : PE X o ta) (c : SCls X.K C) (hm : Meth X.K C m g) (F : FnR X.prog X.w X.K X.mg X.base CX k g sp) (hr : Room k X.A) (hx : ∀ σ, PassesAt CX X σ (E σ)) (ha : PA X (e :: es) t)
    (hst : starEach (e :: es) X.env = (false, eval e X.env) :: starEach es X.env := by rfl) (hpl : (backTo pos (starEach es X.env)).any (·.1) = false := by rfl)
    (ht : eval (.Call (.Attribute o m apos) (e :: es) [] pos) X.env = (do
      let ov ← eval o X.env
      standAt apos.atName
      let (f, first) ← holding [ov] (getMethod ov m pl)
      callWith pos f first (backTo pos (starEach (e :: es) X.env)) (backToKw pos (keywordEach [] X.env))) := by rfl) :
    PE X (.Call (.Attribute o m apos) (e :: es) [] pos) (tMethS C sp E ta t) := by
  refine ⟨fun pins s σ H Q I h => ?_⟩
  refine PySem.W.methodCall_KW (pl := pl) (thn (he.run pins s σ H _ I h) fun u s1 ⟨x, H1, I1, rx, a, dx, vs, ex, hsl, q⟩ => ?_) ht
  subst ex
  obtain rfl : u = Value.ref a := rx
  refine getmethsl_ok I1 hsl c hm ?_
  refine PySem.W.callWith_K (first := [.ref a]) (h₀ := X.base) I.ok.mod.kin hm.kp (thn (ha.run pos pins s1 σ H1 _ I1 q) fun us s2 ⟨ws, H2, I2, r, q2⟩ => ⟨I2.kIn, ?_⟩) hst hpl
  exact wpAny_call (run_fnRS (us := .ref a :: us) (vs := .ref a :: ws) F hr (hx σ) I2 (.cons rfl r) q2)
def spDid (K : PySem.W.Frag) (C : Addr) : Sp := fun vs H Q _ => ∃ (a : Addr) (l : List Int) (wd hg : Nat), vs = [.ref a, .int (wd : Nat), .int (hg : Nat)] ∧ KindAt K C H a l ∧ wd ≤ 12 ∧ hg ≤ 12 ∧
  ((wd < l.length ∨ (hg : Int) < Pk.top0 l) → ∀ t H', Same H H' → SqT K H' t [.str "outside"] → Q (.ref t) H') ∧
  (¬ (wd < l.length ∨ (hg : Int) < Pk.top0 l) → 12 < (wd : Int) * hg - l.sum → ∀ H', Same H H' → Q (.int 12) H') ∧
  (¬ (wd < l.length ∨ (hg : Int) < Pk.top0 l) → (wd : Int) * hg - l.sum ≤ 12 → ∀ n H', Same H H' → SqT K H' n (iv (Pk.opp l wd hg)) → Q (.ref n) H')
abbrev N46 : List Str := ["_law_kind_here", "_law_wide", "_law_high", "e"]
theorem sc46 : FnScope N46 ["_law_kind_here", "_law_wide", "_law_high"] (defScope (topS 46)) := ⟨rfl, rfl, rfl, by decide +kernel, rfl, by decide +kernel, by decide +kernel⟩
theorem pr_did {C CR CT f : Addr} {fd : FuncData} (KN : Kn K mg C) (X1 : XCls K mg P "Refused" "reason" CR) (X2 : XCls K mg P "TooMany" "limit" CT) (no : PySem.W.exmOne K (.ref CT) (.ref CR) = some false) (g1 : mg "Refused" = some (.ref CR)) (g2 : mg "TooMany" = some (.ref CT))
    (NU : PropAt P w K mg base C "numbers" 2 (spNums K C)) (OP : ∃ g, Meth K C "opposite" g ∧ FnR P w K mg base (L2.CX P w) 12 g (spOpp K C CR CT)) (hm : mg "_law_did_turn" = some (.ref f)) (F : Fun K "_law_did_turn" "_law_did_turn" (topS 46) f fd) : Pr P w K mg base "_law_did_turn" 14 (spDid K C) := by
  obtain ⟨go, mo, FO⟩ := OP
  refine pr_of hm F (F.ok sc46 (fun vs H Q E h => ?_) (fun cdv A outer s H vs Q E hr h => ⟨_, pss_one (ps_try_manyA (i := 3) (n := "e") (tb := fun W => tRet (tPropK K C (spNums K C) (tMethS C (spOpp K C CR CT) (WE W) (tVar 0) (tCons (tVar 1) (tCons (tVar 2) tNil))))) (Wout := fun _ _ _ _ => False)
      (l := [(.ref CR, fun a cls d => tRet (tFldX "reason" CR a cls d (tVar 3))), (.ref CT, fun a cls d => tRet (tFldX "limit" CT a cls d (tVar 3)))]) rfl rfl sc46.nd rfl rfl takes0
      (fun W pn xe tk _ => pss_one (ps_ret (by exact (pe_propK K (by rfl) KN NU (hr.mono (by decide)) (pe_methS (pv 0) KN.sc mo FO (hr.mono (by decide)) (fun σ => passAt tk σ) (pa_cons (pv 1) (pa_cons (pv 2) pa_nil)))))))
      (.cons ⟨rfl, by decide, Or.inl g1⟩ (fun a oe cls d pn hz hf => pss_one (ps_ret (by exact (pe_fldX X1 hz hf (pv 3)))))
        (.cons ⟨rfl, by decide, Or.inl g2⟩ (fun a oe cls d pn hz hf => pss_one (ps_ret (by exact (pe_fldX X2 hz hf (pv 3))))) .nil))), ?_⟩)) (fun _ _ _ _ _ _ us hl => match us, hl with | [_, _, _], _ => rfl)
  · obtain ⟨a, l, wd, hg, rfl, _⟩ := h
    rfl
  · obtain ⟨a, l, wd, hg, rfl, hK, hw, hh, q1, q2, q3⟩ := h
    obtain ⟨dx, k, kn, n, hsl, _⟩ := id hK
    refine ⟨_, rfl, a, dx, _, rfl, hsl, _, rfl, _, rfl, a, l, wd, hg, rfl, hK, hw, hh, fun c H' t d s' ht hd => ?_, fun c c2 H' d s' hd => ?_, fun c c2 x H' s' hx => ?_⟩
    · exact ⟨true, X1.te, fun _ a0 _ => ⟨_, rfl, rfl, rfl, d, _, rfl, hd, q1 c t H' s' ht⟩, fun z => Bool.noConfusion z⟩
    · exact ⟨false, no, fun z => Bool.noConfusion z, fun _ => ⟨true, X2.te, fun _ a0 _ => ⟨_, rfl, rfl, rfl, d, _, rfl, hd, q2 c c2 H' s'⟩, fun z => Bool.noConfusion z⟩⟩
    · exact ⟨x, _, rfl, hx, x, _, rfl, hx, fun n hn => q3 c c2 n H' s' hn⟩
end PkD
end
section -- PkD14
set_option maxRecDepth 100000
set_option maxHeartbeats 4000000
namespace PkD
open PySem PySem.Spec PyProof.Rows L2 SlX PkR PkL RZ PkX
variable {P : Program} {w : World} {K : PySem.W.Frag} {mg : Str → Option Value} {base : Heap}
/-! ### _law_are_opposites_right -/
def spOpps (K : PySem.W.Frag) : Sp := fun vs H Q _ => ∃ (d a : Addr) (l : List Int), vs = [.ref d, .ref a] ∧ DiceAt H d ∧ SqT K H a (iv l) ∧ Pk.Kd l ∧ l.sum ≤ 12 ∧ ∀ H', DK d H H' → Q (.bl true) H'
abbrev N47 : List Str := ["_law_dice_here", "_law_numbers", "_law_kind_here", "_law_wide", "_law_high", "_law_told", "_law_lesser", "_law_far", "_law_other"]
theorem sc47 : FnScope N47 ["_law_dice_here", "_law_numbers"] (defScope (topS 47)) := ⟨rfl, rfl, rfl, by decide +kernel, rfl, by decide +kernel, by decide +kernel⟩
/-- what the program's defs and its class promise -/
structure Pro (P : Program) (w : World) (K : PySem.W.Frag) (mg : Str → Option Value) (base : Heap) (C : Addr) : Prop where
  T : Top K mg
  M : KM P w K mg base C
  LT : OwnAt P w K mg base C "__lt__" 2 (spLtK K C)
  EQ : OwnAt P w K mg base C "__eq__" 2 (spEqK K C)
  ST : OwnAt P w K mg base C "__str__" 2 (spStr K C)
  NU : PropAt P w K mg base C "numbers" 2 (spNums K C)
  HE : PropAt P w K mg base C "height" 2 (spHeight K C)
  TU : PropAt P w K mg base C "turned" 11 (spTurnK K C)
  HO : ∃ g, Meth K C "holds" g ∧ FnR P w K mg base CX0 4 g (spHolds K C)
  flats : Pr P w K mg base "flats_over" 12 (spOver K C Pk.flatRows)
  lines : Pr P w K mg base "lines_over" 14 (spOver K C Pk.lineRows)
  roll : Pr P w K mg base "_law_roll" 2 spRoll
  pick : Pr P w K mg base "_law_pick" 4 (spPick K)
  dice : Pr P w K mg base "_law_dice" 2 (spDice K)
  kinds : Pr P w K mg base "_law_kinds" 4 (spKinds K)
  kind : Pr P w K mg base "_law_kind" 6 (spKind K)
  every : Pr P w K mg base "_law_every_kind" 6 (spEvery K)
  does : Pr P w K mg base "_law_does_hold" 3 (spDoes K)
  isFlat : Pr P w K mg base "_law_is_flat_over" 5 (spIs K Pk.flatB)
  isLine : Pr P w K mg base "_law_is_line_over" 5 (spIs K Pk.lineB)
  oppOf : Pr P w K mg base "_law_opposite_of" 3 (spOppOf K)
  did : Pr P w K mg base "_law_did_turn" 14 (spDid K C)
def tMethK (K : PySem.W.Frag) (C : Addr) (sp : Sp) (ta : TE) (t : TA) : TE := fun σ H Q => ta σ H fun x H1 => ∃ a l, x = .ref a ∧ KindAt K C H1 a l ∧ t σ H1 fun ws H2 => sp (x :: ws) H2 Q E0
theorem pe_methK {X : Cx} {k : Nat} {C : Addr} {m : Str} {sp : Sp} {pl : Sem Bool} {o e : Expr} {es : List Expr} {ta : TE} {t : TA} {apos pos : Pos} (K : PySem.W.Frag) (hK : X.K = K) (KN : Kn X.K X.mg C) (G : ∃ g, Meth X.K C m g ∧ FnR X.prog X.w X.K X.mg X.base CX0 k g sp) (hr : Room k X.A) (he : PE X o ta) (ha : PA X (e :: es) t)
    (hst : starEach (e :: es) X.env = (false, eval e X.env) :: starEach es X.env := by rfl) (hpl : (backTo pos (starEach es X.env)).any (·.1) = false := by rfl)
    (ht : eval (.Call (.Attribute o m apos) (e :: es) [] pos) X.env = (do
      let ov ← eval o X.env
      standAt apos.atName
      let (f, first) ← holding [ov] (getMethod ov m pl)
      callWith pos f first (backTo pos (starEach (e :: es) X.env)) (backToKw pos (keywordEach [] X.env))) := by rfl) :
    PE X (.Call (.Attribute o m apos) (e :: es) [] pos) (tMethK K C sp ta t) := by
  subst hK
  obtain ⟨g, hm, F⟩ := G
  refine ⟨fun pins s σ H Q I h => ?_⟩
  refine PySem.W.methodCall_KW (pl := pl) (thn (he.run pins s σ H _ I h) fun u s1 ⟨x, H1, I1, rx, a, l, ex, hK, q⟩ => ?_) ht
  subst ex
  obtain rfl : u = Value.ref a := rx
  obtain ⟨dx, k1, kn, n, hsl, _⟩ := hK
  refine getmethsl_ok I1 hsl KN.sc hm ?_
  refine PySem.W.callWith_K (first := [.ref a]) (h₀ := X.base) I.ok.mod.kin hm.kp (thn (ha.run pos pins s1 σ H1 _ I1 q) fun us s2 ⟨ws, H2, I2, r, q2⟩ => ⟨I2.kIn, ?_⟩) hst hpl
  exact wpAny_call (run_fnR (us := .ref a :: us) (vs := .ref a :: ws) F hr pass0 I2 (.cons rfl r) q2)
theorem eqv_tints (a b : List Int) : PyData.eqv (.tuple (a.map PyData.int)) (.tuple (b.map PyData.int)) = decide (a = b) := by rw [PyData.eqv, PySem.W.ked_eqvAll]
theorem out_eqv : PyData.eqv (.tuple [.str "outside"]) (.tuple [.str "outside"]) = true := by decide +kernel
theorem out_shaped : SeqAt.shaped (.tuple [.str "outside"]) = true := by decide +kernel
theorem int_eqv (i j : Int) : PyData.eqv (.int i) (.int j) = decide (i = j) := by
  rw [PyData.eqv]
  by_cases c : i = j
  · rw [decide_eq_true c]; simpa using c
  · rw [decide_eq_false c]; simpa using c
theorem tup_int_eqv (l : List PyData) (j : Int) : PyData.eqv (.tuple l) (.int j) = false := by rw [PyData.eqv]
theorem int_shaped (i : Int) : SeqAt.shaped (.int i) = true := by
  unfold SeqAt.shaped
  rw [PyData.canLay0, PyData.depth]
  rfl
theorem blk_not {l : List Int} {wd hg : Nat} (b : Pk.InBlock l wd hg) : ¬ (wd < l.length ∨ (hg : Int) < Pk.top0 l) := by
  have h1 := b.wide
  have h2 := b.high 0
  have h3 := b.kd.top
  rintro (z | z) <;> omega
theorem opps_body {C f : Addr} {cdv : Value} {A : Around} {outer : List Env} {s : Shared} {H : Hp} {vs : List V} {Q : VK} {E : XK} (R : Pro P w K mg base C) (hr : Room 16 (A.deeper (envOfC "_law_are_opposites_right" (defScope (topS 47)) s.heap.objs.size f cdv))) :
    ∃ t, PSs (cxOf CX0 P w K mg base N47 "_law_are_opposites_right" (defScope (topS 47)) f cdv A outer s H E).nox (defBody (topS 47)) t ∧ (spOpps K vs H Q E → t { nx := fun _ H' => Q .non H', rt := Q } (start N47 vs) H) := by
  refine ⟨_, pss_cons (ps_par3 (i := 2) (j := 3) (l := 4) (by rfl) sc47.nd (by rfl) (by rfl) (by rfl) (by decide) (by decide) (by decide) (by rfl) (by rfl) (by rfl) (pa_cons (pe_kind K (by rfl) R.M (hr.mono (by decide)) (by rfl) (pa_cons (pv 1) pa_nil)) (pa_cons (pe_callP R.roll (hr.mono (by decide)) (by rfl) (pa_cons (pv 0) (pa_cons pe_int pa_nil))) (pa_cons (pe_callP R.roll (hr.mono (by decide)) (by rfl) (pa_cons (pv 0) (pa_cons pe_int pa_nil))) pa_nil))) (by rfl))
    (pss_cons (ps_set (i := 5) sc47.nd rfl (Or.inl rfl) (pe_callP R.did (hr.mono (by decide)) (by rfl) (pa_cons (pv 2) (pa_cons (pv 3) (pa_cons (pv 4) pa_nil)))))
    (pss_cons (ps_if (pw_or (pt_cmpR op_gt (pe_callB call_len (by rfl) R.T.len b_len (pa_cons (pv 1) pa_nil)) (pv 3) (nomark _)) (pw_or1 (pt_cmpR op_gt (pe_propK K (by rfl) R.M.kn R.HE (hr.mono (by decide)) (pv 2)) (pv 4) (nomark _)))).pt
        (pss_one (ps_ret (pe_cmpR (op_eqD hr.units) (pv 5) (pe_tup (pa_cons pe_str pa_nil)) (nomark _)))) pss_nil)
    (pss_cons (ps_if (pt_cmpR op_gt (pe_op op_sub (pe_op op_mul (pv 3) (pv 4)) (pe_callB (cr_sumT (by rfl)) (by rfl) R.T.sum b_sum (pa_cons (pv 1) pa_nil))) pe_int (nomark _))
        (pss_one (ps_ret (pe_cmpR op_eq (pv 5) pe_int (nomark _)))) pss_nil)
    (pss_cons (ps_if (pw_or (pt_cmpR (op_neD hr.units) (pv 5) (pe_callP R.oppOf (hr.mono (by decide)) (by rfl) (pa_cons (pv 1) (pa_cons (pv 3) (pa_cons (pv 4) pa_nil)))) (nomark _))
          (pw_or1 (pt_cmpR (op_neD hr.units) (pe_callP R.did (hr.mono (by decide)) (by rfl) (pa_cons (pe_kind K (by rfl) R.M (hr.mono (by decide)) (by rfl) (pa_cons (pv 5) pa_nil)) (pa_cons (pv 3) (pa_cons (pv 4) pa_nil)))) (pv 1) (nomark _)))).pt
        (pss_one (ps_ret pe_bl)) pss_nil)
    (pss_cons (ps_set (i := 6) sc47.nd rfl (Or.inl rfl) (pe_callP R.pick (hr.mono (by decide)) (by rfl) (pa_cons (pv 0) (pa_cons (pe_lc (own := [("_law_other", 8)]) (by rfl) sc47.nd (pi_list (pe_callP R.every (hr.mono (by decide)) (by rfl) (pa_cons (pe_callB (cr_sumT (by rfl)) (by rfl) R.T.sum b_sum (pa_cons (pv 1) pa_nil)) pa_nil))) (blkOk_by (N := N47) (sc := defScope (topS 47)) (by decide +kernel))
          (fun s H C cl fp => pg_name (i := 8) sc47.nd rfl (Or.inl rfl)) (fun s H C cl fp => pts_one (pt_val (pe_callP R.does (hr.mono (by decide)) (by rfl) (pa_cons (pv 1) (pa_cons (pv 8) pa_nil))))) (fun s H C cl fp => pv 8)) pa_nil))))
    (pss_cons (ps_set (i := 7) sc47.nd rfl (Or.inl rfl) (pe_callP R.did (hr.mono (by decide)) (by rfl) (pa_cons (pe_kind K (by rfl) R.M (hr.mono (by decide)) (by rfl) (pa_cons (pv 6) pa_nil)) (pa_cons (pv 3) (pa_cons (pv 4) pa_nil)))))
    (pss_one (ps_ret (pe_or (pe_cmpR (op_eqD hr.units) (pv 7) pe_int (nomark _)) (pe_one (pe_and (pe_callP R.does (hr.mono (by decide)) (by rfl) (pa_cons (pv 7) (pa_cons (pv 5) pa_nil)))
      (pe_one (pe_methK K (by rfl) R.M.kn R.HO (hr.mono (by decide)) (pe_kind K (by rfl) R.M (hr.mono (by decide)) (by rfl) (pa_cons (pv 7) pa_nil)) (pa_cons (pe_kind K (by rfl) R.M (hr.mono (by decide)) (by rfl) (pa_cons (pv 5) pa_nil)) pa_nil))))))))))))))
, fun h => ?_⟩
  obtain ⟨d, a, l, rfl, hd, ha, hk, hs, q⟩ := h
  have hll := kd_len hk hs
  refine ⟨_, rfl, a, l, rfl, ha, hk, hs, fun ka H1 nka s1 hka => ⟨_, rfl, d, 6, rfl, hd.same s1, by decide, by decide, fun wd H2 hwd dk2 => ⟨_, rfl, d, 6, rfl, dk2.2, by decide, by decide, fun hg H3 hhg dk3 => ⟨_, _, _, rfl, ?_⟩⟩⟩⟩
  have dk13 : DK d H1 H3 := dk2.trans dk3
  have dk03 : DK d H H3 := (DK.ofSame hd s1).trans dk13
  have hka3 : KindAt K C H3 ka l := hka.frz (DK.frz (hd.same s1) dk13)
  have ha3 := (DK.frz hd dk03).sqT ha
  refine ⟨_, rfl, _, rfl, _, rfl, ka, l, wd, hg, rfl, hka3, by omega, by omega, fun c t H4 s4 ht => ?_, fun c c2 H4 s4 => ?_, fun c c2 n H4 s4 hn => ?_⟩
  · have ha4 := s4.sqT ha3
    have hka4 := hka3.same s4
    have ret : ∀ p, H4 p = none → ∃ d e, Dp K (upd H4 p (.tup [.str "outside"])) (.ref t) d ∧ Dp K (upd H4 p (.tup [.str "outside"])) (.ref p) e ∧ SeqAt.shaped d = true ∧ SeqAt.shaped e = true ∧ Q (.bl (PyData.eqv d e)) (upd H4 p (.tup [.str "outside"])) := fun p hp =>
      ⟨.tuple [.str "outside"], .tuple [.str "outside"], .tup ((same_new hp).sqT ht) (.cons (.str _) .nil), .tup (sqT_tup upd_same) (.cons (.str _) .nil), out_shaped, out_shaped, by rw [out_eqv]; exact q _ (dk03.same (s4.trans (same_new hp)))⟩
    refine ⟨_, rfl, _, _, rfl, lenT ha4, _, rfl, _, _, rfl, rfl, _, rfl, ite2 (fun z => ⟨_, rfl, (by show 1 ≤ sizeLine; decide), ret⟩) (fun z => ⟨_, rfl, ka, l, rfl, hka4, ka, l, rfl, hka4, _, rfl, _, _, rfl, rfl, _, rfl, ite2 (fun z2 => ⟨_, rfl, (by show 1 ≤ sizeLine; decide), ret⟩) (fun z2 => ?_)⟩)⟩
    rcases c with c | c
    · exact absurd (decide_eq_true (by rw [iv_len]; omega)) z
    · exact absurd (decide_eq_true c) z2
  · have ha4 := s4.sqT ha3
    have hka4 := hka3.same s4
    refine ⟨_, rfl, _, _, rfl, lenT ha4, _, rfl, _, _, rfl, rfl, _, rfl, ite2 (fun z => absurd (Or.inl (by have := of_decide_eq_true z; rw [iv_len] at this; omega)) c) (fun z => ⟨_, rfl, ka, l, rfl, hka4, ka, l, rfl, hka4, _, rfl, _, _, rfl, rfl, _, rfl, ite2 (fun z2 => absurd (Or.inr (of_decide_eq_true z2)) c) (fun z2 => ?_)⟩)⟩
    refine ⟨_, rfl, _, rfl, _, _, rfl, rfl, .inl (by omega), _, rfl, a, l, rfl, ha4, _, _, rfl, rfl, _, _, rfl, rfl, _, rfl, ?_⟩
    rw [decide_eq_true c2]
    exact ⟨_, rfl, rfl, q _ (dk03.same s4)⟩
  · have ha4 := s4.sqT ha3
    have hka4 := hka3.same s4
    have dk04 : DK d H H4 := dk03.same s4
    have IB := inBlock hk c
    have hos : (Pk.opp l wd hg).sum ≤ 12 := by
      have := Pk.opp_sum IB
      omega
    have hok := Pk.opp_kd IB
    refine ⟨_, rfl, _, _, rfl, lenT ha4, _, rfl, _, _, rfl, rfl, _, rfl, ite2 (fun z => absurd (Or.inl (by have := of_decide_eq_true z; rw [iv_len] at this; omega)) c) (fun z => ⟨_, rfl, ka, l, rfl, hka4, ka, l, rfl, hka4, _, rfl, _, _, rfl, rfl, _, rfl, ite2 (fun z2 => absurd (Or.inr (of_decide_eq_true z2)) c) (fun z2 => ?_)⟩)⟩
    refine ⟨_, rfl, _, rfl, _, _, rfl, rfl, .inl (by omega), _, rfl, a, l, rfl, ha4, _, _, rfl, rfl, _, _, rfl, rfl, _, rfl, ?_⟩
    rw [decide_eq_false (by omega)]
    -- told != opposite_of(..), did_turn(Kind(told)) != numbers
    refine ⟨_, rfl, _, rfl, _, rfl, _, rfl, a, l, wd, hg, rfl, ha4, IB.wide, by omega, fun p H5 s5 hp => ⟨_, _, .tup (s5.sqT hn) (dp_ints _), .tup hp (dp_ints _), shaped_ints _, shaped_ints _, _, rfl, ?_⟩⟩
    rw [eqv_tints, decide_eq_true rfl]
    refine ⟨_, rfl, n, _, rfl, s5.sqT hn, hok, hos, fun kt H6 nkt s6 hkt => ⟨_, rfl, _, rfl, kt, _, wd, hg, rfl, hkt, by omega, by omega, fun c' => absurd c' (blk_not (Pk.opp_block IB)), fun _ c' => ?_, fun _ c' n2 H7 s7 hn2 => ?_⟩⟩
    · have := Pk.opp_sum IB
      omega
    have s47 : Same H4 H7 := (s5.trans s6).trans s7
    have ha7 := s47.sqT ha4
    have hn7 := s47.sqT hn
    refine ⟨_, rfl, _, _, .tup hn2 (dp_ints _), .tup ha7 (dp_ints _), shaped_ints _, shaped_ints _, _, rfl, ?_⟩
    rw [eqv_tints, Pk.opp_opp IB, decide_eq_true rfl]
    have hsn := sum_nn hk.pos
    -- the lesser one
    refine ⟨_, rfl, _, rfl, a, l, rfl, ha7, l.sum.toNat, by rw [Int.toNat_of_nonneg hsn], by omega, fun pe xs ls H8 s8 hpe ht hls hxl => ⟨pe, rfl, ⟨_, sqL_lst hpe⟩, lc_same (feeds_lst (sqL_lst hpe)) (by omega) (fun i acc H' => TupsAt K H' acc ((ls.take i).filter fun m => Pk.holdsB l m)) (fun _ _ _ _ f r => r.frz f) .nil (fun i x acc H9 k1 k2 hi s9 hx r hk1 hk2 => ?_) (fun D acc H9 s9 hD hal r => ?_)⟩⟩
    · obtain ⟨m, ra, hm, rfl, hra⟩ := ht.get hx
      refine ⟨rfl, _, rfl, _, rfl, a, ra, l, m, rfl, s9.sqT (s8.sqT ha7), s9.sqT hra, by omega, fun H10 s10 => ⟨_, rfl, ite2 (fun e => ⟨_, rfl, hk1 _ _ s10 ?_⟩) (fun e => hk2 _ s10 ?_)⟩⟩
      · rw [filter_more (p := fun m => Pk.holdsB l m) hm, if_pos e]
        exact (r.frz s10.frz).snoc ⟨ra, rfl, s10.sqT (s9.sqT hra)⟩
      · rw [filter_more (p := fun m => Pk.holdsB l m) hm, if_neg e, List.append_nil]
        exact r.frz s10.frz
    · rw [ht.length, List.take_length] at r
      have dk09 : DK d H H9 := dk04.same ((s47.trans s8).trans s9)
      have hself : l ∈ ls.filter fun m => Pk.holdsB l m := List.mem_filter.mpr ⟨(hls l).mpr ⟨hk, by omega⟩, Pk.holdsB_self l⟩
      have hne : acc ≠ [] := fun z => by
        have e := r.length
        rw [z] at e
        rw [List.length_eq_zero_iff.mp e.symm] at hself
        cases hself
      have hDd : D ≠ d := fun z => by
        obtain ⟨x, y, z', e, _⟩ := dk09.2
        rw [z, e] at hD
        have e2 : [V.int x, V.int y, V.int z'] = acc := by injection (Option.some.inj hD)
        rw [← e2] at r
        obtain ⟨_, b, _, eb, _⟩ := r.get (i := 0) rfl
        cases eb
      refine ⟨d, D, acc, rfl, dk09.2, hDd, hD, hne, by omega, fun v H10 hv dk10 => ?_⟩
      obtain ⟨i, hi⟩ := List.mem_iff_getElem?.mp hv
      obtain ⟨m, ra, hm, rfl, hra⟩ := r.get hi
      obtain ⟨hm1, hm2⟩ := List.mem_filter.mp (List.mem_of_getElem? hm)
      obtain ⟨hmk, hms⟩ := (hls m).mp hm1
      have hHold := (Pk.holdsB_iff hk hmk).mp hm2
      have IBm := IB.lesser hmk hHold
      have f10 : Frz H9 H10 := DK.frz dk09.2 dk10
      have hra10 := f10.sqT hra
      have hn10 : SqT K H10 n (iv (Pk.opp l wd hg)) := f10.sqT ((s8.trans s9).sqT hn7)
      have dk010 : DK d H H10 := dk09.trans dk10
      refine ⟨_, rfl, ra, m, rfl, hra10, hmk, by omega, fun km H11 nkm s11 hkm => ⟨_, rfl, _, rfl, km, m, wd, hg, rfl, hkm, by omega, by omega, fun c' => absurd c' (blk_not IBm), fun _ c' H12 s12 => ?_, fun _ c' nf H12 s12 hnf => ?_⟩⟩
      · refine ⟨_, rfl, .int 12, .int 12, .int 12, .int 12, int_shaped _, int_shaped _, _, rfl, ?_⟩
        rw [int_eqv, decide_eq_true rfl]
        exact q _ (dk010.same (s11.trans s12))
      · refine ⟨_, rfl, _, .int 12, .tup hnf (dp_ints _), .int 12, shaped_ints _, int_shaped _, _, rfl, ?_⟩
        rw [tup_int_eqv]
        have hn12 := (s11.trans s12).sqT hn10
        have hom := Pk.opp_kd IBm
        have homs : (Pk.opp m wd hg).sum ≤ 12 := by
          have := Pk.opp_sum IBm
          omega
        have hh : Pk.holdsB (Pk.opp m wd hg) (Pk.opp l wd hg) = true := (Pk.holdsB_iff hom hok).mpr (Pk.opp_hold IB IBm hHold)
        have hml := kd_len hom homs
        refine ⟨_, rfl, _, rfl, nf, n, _, _, rfl, hnf, hn12, by omega, fun H13 s13 => ⟨_, rfl, ?_⟩⟩
        rw [hh]
        refine ⟨_, rfl, nf, _, rfl, s13.sqT hnf, hom, homs, fun kf H14 nkf s14 hkf => ⟨kf, _, rfl, hkf, _, rfl, n, _, rfl, (s13.trans s14).sqT hn12, hok, hos, fun ko H15 nko s15 hko => ⟨kf, ko, _, _, rfl, hkf.same s15, hko, fun H16 s16 => ?_⟩⟩⟩
        rw [hh]
        exact q _ (dk010.same ((((s11.trans s12).trans s13).trans s14).trans (s15.trans s16)))
theorem pr_opps {C f : Addr} {fd : FuncData} (R : Pro P w K mg base C) (hm : mg "_law_are_opposites_right" = some (.ref f)) (F : Fun K "_law_are_opposites_right" "_law_are_opposites_right" (topS 47) f fd) : Pr P w K mg base "_law_are_opposites_right" 17 (spOpps K) := by
  refine pr_of hm F (F.ok sc47 (fun vs H Q E h => ?_) (fun cdv A outer s H vs Q E hr h => ?_)) (fun _ _ _ _ _ _ us hl => match us, hl with | [_, _], _ => rfl)
  · obtain ⟨d, a, l, rfl, _⟩ := h
    rfl
  · obtain ⟨t, ht, hw⟩ := opps_body R hr
    exact ⟨t, ht, hw h⟩
end PkD
end
section -- PkD15
set_option maxRecDepth 100000
set_option maxHeartbeats 4000000
namespace PkD
open PySem PySem.Spec PyProof.Rows L2 SlX PkR PkL RZ PkX
variable {P : Program} {w : World} {K : PySem.W.Frag} {mg : Str → Option Value} {base : Heap}
def spRight (K : PySem.W.Frag) : Sp := fun vs H Q _ => ∃ d : Addr, vs = [.ref d] ∧ DiceAt H d ∧ ∀ H', DK d H H' → Q (.bl true) H'
abbrev N48 : List Str := ["_law_dice_here", "_law_numbers", "_law_many", "_law_kind_here", "_law_every", "_law_flats", "_law_lines", "_law_found"]
theorem sc48 : FnScope N48 ["_law_dice_here"] (defScope (topS 48)) := ⟨rfl, rfl, rfl, by decide +kernel, rfl, by decide +kernel, by decide +kernel⟩
/-- two kinds of the same numbers -/
def SameK (K : PySem.W.Frag) (C : Addr) : Addr → Addr → Hp → Prop := fun a b H => ∃ l, KindAt K C H a l ∧ KindAt K C H b l
theorem eqR {C g : Addr} (F : FnR P w K mg base CX0 2 g (spEqK K C)) : FnR P w K mg base CX0 2 g (spEq (SameK K C)) := F.imp fun vs H Q E ⟨a, b, e, ⟨l, h1, h2⟩, q⟩ => ⟨a, b, l, l, e, h1, h2, by rw [decide_eq_true rfl]; exact q H Ext.rfl'⟩
def tD (rows : List (List Int)) : List PyData := rows.map fun r => .tuple (r.map PyData.int)
theorem tups_dp {H : Hp} : ∀ {xs : List V} {rows : List (List Int)}, TupsAt K H xs rows → DpAll K H xs (tD rows)
  | _, _, .nil => .nil
  | _, _, .cons ⟨a, e, h⟩ r => by
    subst e
    exact .cons (.tup h (dp_ints _)) (tups_dp r)
theorem tD_lay : ∀ rows : List (List Int), PyData.canLayAll0 (tD rows) = true ∧ PyData.depthAll (tD rows) ≤ 2
  | [] => by
    show PyData.canLayAll0 [] = true ∧ PyData.depthAll [] ≤ 2
    rw [PyData.canLayAll0, PyData.depthAll]
    exact ⟨rfl, by decide⟩
  | r :: rows => by
    obtain ⟨h1, h2⟩ := tD_lay rows
    show PyData.canLayAll0 (.tuple (r.map PyData.int) :: tD rows) = true ∧ PyData.depthAll (.tuple (r.map PyData.int) :: tD rows) ≤ 2
    rw [PyData.canLayAll0, PyData.depthAll, h1, PyData.canLay0, canLay_ints, PyData.depth, PySem.W.depth_ints]
    exact ⟨rfl, by omega⟩
theorem tD_shaped (rows : List (List Int)) : SeqAt.shaped (.list (tD rows)) = true := by
  obtain ⟨h1, h2⟩ := tD_lay rows
  unfold SeqAt.shaped
  rw [PyData.canLay0, h1, PyData.depth, Bool.true_and]
  exact decide_eq_true (by omega)
theorem tD_eqv (rows : List (List Int)) : PyData.eqv (.list (tD rows)) (.list (tD rows)) = true := by
  have h : ∀ rows : List (List Int), PyData.eqvAll (tD rows) (tD rows) = true := by
    intro rows
    induction rows with
    | nil => show PyData.eqvAll [] [] = true; rw [PyData.eqvAll]
    | cons r rows ih =>
      show PyData.eqvAll (.tuple (r.map PyData.int) :: tD rows) (.tuple (r.map PyData.int) :: tD rows) = true
      rw [PyData.eqvAll, ih, eqv_tints, decide_eq_true rfl]
      rfl
  rw [PyData.eqv]
  exact h rows
theorem right_body {C f : Addr} {cdv : Value} {A : Around} {outer : List Env} {s : Shared} {H : Hp} {vs : List V} {Q : VK} {E : XK} (R : Pro P w K mg base C) (OP : Pr P w K mg base "_law_are_opposites_right" 17 (spOpps K)) {g : Addr} (hs : PySem.W.findIn K (.ref C) "__eq__" = some (some (.ref g))) (hf : PySem.W.isFn K (.ref g) = true) (FQ : FnR P w K mg base CX0 2 g (spEqK K C))
    (hr : Room 18 (A.deeper (envOfC "_law_right" (defScope (topS 48)) s.heap.objs.size f cdv))) :
    ∃ t, PSs (cxOf CX0 P w K mg base N48 "_law_right" (defScope (topS 48)) f cdv A outer s H E).nox (defBody (topS 48)) t ∧ (spRight K vs H Q E → t { nx := fun _ H' => Q .non H', rt := Q } (start N48 vs) H) := by
  refine ⟨_, pss_cons (ps_set (i := 1) sc48.nd rfl (Or.inr rfl) (pe_callP R.kind (hr.mono (by decide)) (by rfl) (pa_cons (pv 0) (pa_cons (pe_callP R.pick (hr.mono (by decide)) (by rfl) (pa_cons (pv 0) (pa_cons (pe_lst (pa_cons pe_int (pa_cons pe_int (pa_cons pe_int pa_nil)))) pa_nil))) pa_nil))))
    (pss_cons (ps_set (i := 2) sc48.nd rfl (Or.inl rfl) (pe_callP R.roll (hr.mono (by decide)) (by rfl) (pa_cons (pv 0) (pa_cons (pe_op op_add (pe_callB (call_min2 (by rfl)) (by rfl) R.T.min b_min (pa_cons (pe_op op_sub pe_int (pe_callB (cr_sumT (by rfl)) (by rfl) R.T.sum b_sum (pa_cons (pv 1) pa_nil))) (pa_cons pe_int pa_nil))) pe_int) pa_nil))))
    (pss_cons (ps_par (i := 3) (j := 4) (by rfl) sc48.nd (by rfl) (by rfl) (by decide) (by rfl) (by rfl) (pa_cons (pe_kind K (by rfl) R.M (hr.mono (by decide)) (by rfl) (pa_cons (pv 1) pa_nil)) (pa_cons (pe_callP R.kinds (hr.mono (by decide)) (by rfl) (pa_cons (pe_op op_add (pe_callB (cr_sumT (by rfl)) (by rfl) R.T.sum b_sum (pa_cons (pv 1) pa_nil)) (pv 2)) pa_nil)) pa_nil)) (by rfl))
    (pss_cons (ps_par (i := 5) (j := 6) (by rfl) sc48.nd (by rfl) (by rfl) (by decide) (by rfl) (by rfl) (pa_cons (pe_callP R.flats (hr.mono (by decide)) (by rfl) (pa_cons (pv 3) (pa_cons (pv 2) pa_nil))) (pa_cons (pe_callP R.lines (hr.mono (by decide)) (by rfl) (pa_cons (pv 3) (pa_cons (pv 2) pa_nil))) pa_nil)) (by rfl))
    (pss_cons (ps_if (pt_cmpR (op_neD hr.units)
        (pe_lc (own := [("_law_found", 7)]) (by rfl) sc48.nd (pi_tup (pv 5)) (blkOk_by (N := N48) (sc := defScope (topS 48)) (by decide +kernel)) (fun s H C cl fp => pg_name (i := 7) sc48.nd rfl (Or.inl rfl)) (fun s H C cl fp => pts_nil) (fun s H C cl fp => pe_propK K (by rfl) R.M.kn R.NU (hr.mono (by decide)) (pv 7)))
        (pe_lc (own := [("_law_found", 7)]) (by rfl) sc48.nd (pi_list (pv 4)) (blkOk_by (N := N48) (sc := defScope (topS 48)) (by decide +kernel)) (fun s H C cl fp => pg_name (i := 7) sc48.nd rfl (Or.inl rfl)) (fun s H C cl fp => pts_one (pt_val (pe_callP R.isFlat (hr.mono (by decide)) (by rfl) (pa_cons (pv 7) (pa_cons (pv 1) pa_nil))))) (fun s H C cl fp => pv 7)) (nomark _))
      (pss_one (ps_ret pe_bl)) pss_nil)
    (pss_cons (ps_if (pt_cmpR (op_neD hr.units)
        (pe_lc (own := [("_law_found", 7)]) (by rfl) sc48.nd (pi_tup (pv 6)) (blkOk_by (N := N48) (sc := defScope (topS 48)) (by decide +kernel)) (fun s H C cl fp => pg_name (i := 7) sc48.nd rfl (Or.inl rfl)) (fun s H C cl fp => pts_nil) (fun s H C cl fp => pe_propK K (by rfl) R.M.kn R.NU (hr.mono (by decide)) (pv 7)))
        (pe_lc (own := [("_law_found", 7)]) (by rfl) sc48.nd (pi_list (pv 4)) (blkOk_by (N := N48) (sc := defScope (topS 48)) (by decide +kernel)) (fun s H C cl fp => pg_name (i := 7) sc48.nd rfl (Or.inl rfl)) (fun s H C cl fp => pts_one (pt_val (pe_callP R.isLine (hr.mono (by decide)) (by rfl) (pa_cons (pv 7) (pa_cons (pv 1) pa_nil))))) (fun s H C cl fp => pv 7)) (nomark _))
      (pss_one (ps_ret pe_bl)) pss_nil)
    (pss_cons (ps_if (pt_cmpR (op_neG (D := DSlt C (SameK K C)) (mon_slt fun a b H H' e ⟨l, h1, h2⟩ => ⟨l, h1.same e, h2.same e⟩) (eqG_slt (eqR FQ) hs hf pass0) (hr.mono (by decide)))
        (pe_callB (call_sortK R.LT (hr.mono (by decide))) (by rfl) R.T.sorted b_sorted (pa_cons (pe_lc (own := [("_law_found", 7)]) (by rfl) sc48.nd (pi_tup (pv 5)) (blkOk_by (N := N48) (sc := defScope (topS 48)) (by decide +kernel)) (fun s H C cl fp => pg_name (i := 7) sc48.nd rfl (Or.inl rfl)) (fun s H C cl fp => pts_nil) (fun s H C' cl fp => pe_propK K (by rfl) R.M.kn R.TU (hr.mono (by decide)) (pv 7))) pa_nil))
        (pe_callTy call_list_of (by rfl) R.T.list b_list (pa_cons (pe_callP R.lines (hr.mono (by decide)) (by rfl) (pa_cons (pe_propK K (by rfl) R.M.kn R.TU (hr.mono (by decide)) (pv 3)) (pa_cons (pv 2) pa_nil))) pa_nil)) (nomark _))
      (pss_one (ps_ret pe_bl)) pss_nil)
    (pss_one (ps_ret (pe_and (pe_callP OP (hr.mono (by decide)) (by rfl) (pa_cons (pv 0) (pa_cons (pv 1) pa_nil))) (pe_one (pe_callP OP (hr.mono (by decide)) (by rfl) (pa_cons (pv 0) (pa_cons (pe_callP R.kind (hr.mono (by decide)) (by rfl) (pa_cons (pv 0) (pa_cons pe_int pa_nil))) pa_nil))))))))))))), fun h => ?_⟩
  obtain ⟨d, rfl, hd, q⟩ := h
  refine ⟨_, rfl, _, rfl, (by show 3 ≤ sizeLine; decide), fun L hL => ⟨d, L, _, rfl, hd.same (same_new hL), hd.ne hL, upd_same, by simp, by decide, fun v H1 hv dk1 => ?_⟩⟩
  obtain ⟨m0, rfl, hm0⟩ : ∃ m : Nat, v = .int (m : Nat) ∧ m ≤ 12 := by
    rcases List.mem_cons.mp hv with rfl | hv
    · exact ⟨4, rfl, by decide⟩
    rcases List.mem_cons.mp hv with rfl | hv
    · exact ⟨8, rfl, by decide⟩
    rcases List.mem_cons.mp hv with rfl | hv
    · exact ⟨12, rfl, by decide⟩
    cases hv
  refine ⟨d, m0, rfl, dk1.2, hm0, fun t l H2 dk2 ht hk hs => ?_⟩
  have dk02 : DK d H H2 := (DK.ofSame hd (same_new hL)).trans (dk1.trans dk2)
  have hsn := sum_nn hk.pos
  have hs12 : l.sum ≤ 12 := by omega
  have hll := kd_len hk hs12
  refine ⟨_, rfl, _, rfl, t, l, rfl, ht, _, _, rfl, rfl, _, _, rfl, _, _, rfl, rfl, d, ((if (7 : Int) < 12 - l.sum then 7 else 12 - l.sum) + 1).toNat, by rw [Int.toNat_of_nonneg (by split <;> omega)], dk02.2, by split <;> omega, by split <;> omega, fun many H3 hmany dk3 => ?_⟩
  have hmm : many ≤ 7 ∧ l.sum + many ≤ 12 := by
    split at hmany <;> omega
  have dk03 := dk02.trans dk3
  have ht3 := (DK.frz dk02.2 dk3).sqT ht
  refine ⟨_, rfl, t, l, rfl, ht3, hk, hs12, fun ka H4 nka s4 hka => ⟨_, rfl, t, l, rfl, s4.sqT ht3, _, rfl, _, _, rfl, rfl, l.sum.toNat + many, by show [V.int (l.sum + (many : Int))] = _; rw [show l.sum + (many : Int) = ((l.sum.toNat + many : Nat) : Int) from by omega], by omega, fun pe xs H5 s5 hpe hts => ⟨_, _, rfl, ?_⟩⟩⟩
  have hka5 := hka.same s5
  have hN : l.sum + many = ((l.sum.toNat + many : Nat) : Int) := by omega
  generalize hNN : l.sum.toNat + many = N at *
  refine ⟨_, rfl, _, rfl, ka, l, many, rfl, hka5, by omega, fun pf xf fs H6 s6 hpf hkf hnf hsf hpermf => ⟨_, rfl, _, rfl, ka, l, many, rfl, hka5.same s6, by omega, fun pl xl gs H7 s7 hpl hkl hnl hsl hperml => ⟨_, _, rfl, ?_⟩⟩⟩
  have efs := Pk.flats_are hk hN hsf hpermf
  have egs := Pk.lines_are hk hN hsl hperml
  have hfl : fs.length < 64 := by
    rw [hpermf.length_eq]
    show ((Pk.raised l many).map Pk.wz).length < 64
    rw [List.length_map]
    exact few hk (by omega)
  have hgl : gs.length < 64 := by
    rw [hperml.length_eq]
    show (((Pk.raised (Pk.turned l) many).map Pk.wz).map Pk.turned).length < 64
    rw [List.length_map, List.length_map]
    exact few (Pk.turned_kd hk) (by rw [Pk.turned_sum hk]; omega)
  have hxf := hkf.length
  have hxl := hkl.length
  have hxs := hts.length
  have hN12 : N ≤ 12 := by omega
  have hkN := kinds_few hN12
  have hpf := s7 _ _ hpf
  have hkf := hkf.frz s7.frz
  have hpe := s7 _ _ (s6 _ _ hpe)
  have hts := hts.frz (s6.trans s7).frz
  have s37 : Same H3 H7 := ((s4.trans s5).trans s6).trans s7
  have ht7 := s37.sqT ht3
  have hka7 := (hka5.same s6).same s7
  refine ⟨_, rfl, pf, rfl, ⟨_, sqT_tup hpf⟩, lc_same (feeds_tup (sqT_tup hpf)) (by omega) (fun i acc H' => TupsAt K H' acc (fs.take i)) (fun _ _ _ _ f r => r.frz f) .nil (fun i x acc H8 k1 k2 hi s8 hx r hk1 hk2 => ?_) (fun D1 acc1 H8 s8 hD1 _ r8 => ⟨_, rfl, pe, rfl, ⟨_, sqL_lst (s8 _ _ hpe)⟩, lc_same (feeds_lst (sqL_lst (s8 _ _ hpe))) (by omega) (fun i acc H' => TupsAt K H' acc (((Pk.kinds N).take i).filter fun m => Pk.flatB m l)) (fun _ _ _ _ f r => r.frz f) .nil (fun i x acc H9 k1 k2 hi s9 hx r hk1 hk2 => ?_) (fun D2 acc2 H9 s9 hD2 _ r9 => ⟨.list (tD fs), .list (tD fs), ?_, ?_, tD_shaped _, tD_shaped _, _, rfl, ?_⟩)⟩)⟩
  · obtain ⟨m, a0, hm, rfl, ha0⟩ := hkf.get hx
    have ha8 := ha0.same s8
    refine ⟨rfl, _, rfl, a0, m, rfl, ha8, a0, m, rfl, ha8, fun n hn => hk1 _ _ (Same.refl _) ?_⟩
    rw [take_more hm]
    exact r.snoc ⟨n, rfl, hn⟩
  · obtain ⟨m, ra, hm, rfl, hra⟩ := hts.get hx
    have hmk := Pk.mem_kinds.mp (List.mem_of_getElem? hm)
    have hml := kd_len hmk.1 (by rw [hmk.2]; omega)
    refine ⟨rfl, _, rfl, _, rfl, ra, t, m, l, rfl, (s8.trans s9).sqT hra, (s8.trans s9).sqT ht7, by omega, by omega, fun H10 s10 => ⟨_, rfl, ite2 (fun e => ⟨_, rfl, hk1 _ _ s10 ?_⟩) (fun e => hk2 _ s10 ?_)⟩⟩
    · rw [filter_more (p := fun m => Pk.flatB m l) hm, if_pos e]
      exact (r.frz s10.frz).snoc ⟨ra, rfl, s10.sqT ((s8.trans s9).sqT hra)⟩
    · rw [filter_more (p := fun m => Pk.flatB m l) hm, if_neg e, List.append_nil]
      exact r.frz s10.frz
  · rw [hxf, List.take_length] at r8
    exact .lst (sqL_lst (s9 _ _ hD1)) (tups_dp (r8.frz s9.frz))
  · rw [hxs, List.take_length] at r9
    rw [efs]
    exact .lst (sqL_lst hD2) (tups_dp r9)
  rw [tD_eqv]
  have s79 : Same H7 H9 := s8.trans s9
  have hpl := s79 _ _ hpl
  have hkl := hkl.frz s79.frz
  have hpe := s79 _ _ hpe
  have hts := hts.frz s79.frz
  have ht9 := s79.sqT ht7
  refine ⟨_, rfl, pl, rfl, ⟨_, sqT_tup hpl⟩, lc_same (feeds_tup (sqT_tup hpl)) (by omega) (fun i acc H' => TupsAt K H' acc (gs.take i)) (fun _ _ _ _ f r => r.frz f) .nil (fun i x acc H8 k1 k2 hi s8 hx r hk1 hk2 => ?_) (fun D1 acc1 H8 s8 hD1 _ r8 => ⟨_, rfl, pe, rfl, ⟨_, sqL_lst (s8 _ _ hpe)⟩, lc_same (feeds_lst (sqL_lst (s8 _ _ hpe))) (by omega) (fun i acc H' => TupsAt K H' acc (((Pk.kinds N).take i).filter fun m => Pk.lineB m l)) (fun _ _ _ _ f r => r.frz f) .nil (fun i x acc H9 k1 k2 hi s9 hx r hk1 hk2 => ?_) (fun D2 acc2 H9 s9 hD2 _ r9 => ⟨.list (tD gs), .list (tD gs), ?_, ?_, tD_shaped _, tD_shaped _, _, rfl, ?_⟩)⟩)⟩
  · obtain ⟨m, a0, hm, rfl, ha0⟩ := hkl.get hx
    have ha8 := ha0.same s8
    refine ⟨rfl, _, rfl, a0, m, rfl, ha8, a0, m, rfl, ha8, fun n hn => hk1 _ _ (Same.refl _) ?_⟩
    rw [take_more hm]
    exact r.snoc ⟨n, rfl, hn⟩
  · obtain ⟨m, ra, hm, rfl, hra⟩ := hts.get hx
    have hmk := Pk.mem_kinds.mp (List.mem_of_getElem? hm)
    have hml := kd_len hmk.1 (by rw [hmk.2]; omega)
    refine ⟨rfl, _, rfl, _, rfl, ra, t, m, l, rfl, (s8.trans s9).sqT hra, (s8.trans s9).sqT ht9, by omega, by omega, fun H10 s10 => ⟨_, rfl, ite2 (fun e => ⟨_, rfl, hk1 _ _ s10 ?_⟩) (fun e => hk2 _ s10 ?_)⟩⟩
    · rw [filter_more (p := fun m => Pk.lineB m l) hm, if_pos e]
      exact (r.frz s10.frz).snoc ⟨ra, rfl, s10.sqT ((s8.trans s9).sqT hra)⟩
    · rw [filter_more (p := fun m => Pk.lineB m l) hm, if_neg e, List.append_nil]
      exact r.frz s10.frz
  · rw [hxl, List.take_length] at r8
    exact .lst (sqL_lst (s9 _ _ hD1)) (tups_dp (r8.frz s9.frz))
  · rw [hxs, List.take_length] at r9
    rw [egs]
    exact .lst (sqL_lst hD2) (tups_dp r9)
  rw [tD_eqv]
  have s7b : Same H7 H9 := (s79.trans s8).trans s9
  have hpf9 := s7b _ _ hpf
  have hkf9 := hkf.frz s7b.frz
  have hka9 := hka7.same s7b
  refine ⟨_, rfl, pf, rfl, ⟨_, sqT_tup hpf9⟩, lc_same (feeds_tup (sqT_tup hpf9)) (by omega) (fun i acc H' => acc.Nodup ∧ KindsAt K C H' acc ((fs.take i).map Pk.turned)) (fun _ _ _ _ f r => ⟨r.1, r.2.frz f⟩) ⟨List.nodup_nil, .nil⟩ (fun i x acc H10 k1 k2 hi s10 hx r hk1 hk2 => ?_) (fun D3 acc3 H10 s10 hD3 hal r10 => ⟨D3, acc3, _, rfl, hD3, r10.2, r10.1, by omega, fun p4 ys ts H11 s11 hp4 hys hny hsy hpy => ?_⟩)⟩
  · obtain ⟨m, a0, hm, rfl, ha0⟩ := hkf9.get hx
    have ha10 := ha0.same s10
    refine ⟨rfl, _, rfl, a0, m, rfl, ha10, a0, m, rfl, ha10, fun y H12 ny s12 hy => hk1 _ _ s12 ⟨?_, ?_⟩⟩
    · refine List.nodup_append.mpr ⟨r.1, List.nodup_cons.mpr ⟨by simp, List.nodup_nil⟩, fun u hu v hv => ?_⟩
      rw [List.mem_singleton.mp hv]
      exact fun z => r.2.fresh ny (z ▸ hu)
    · rw [take_more hm, List.map_append]
      exact (r.2.frz s12.frz).snoc ⟨y, rfl, hy⟩
  rw [hxf, List.take_length] at hpy
  have s911 : Same H9 H11 := s10.trans s11
  have hka11 := hka9.same s911
  have hst : (Pk.turned l).sum = l.sum := Pk.turned_sum hk
  refine ⟨_, rfl, ka, l, rfl, hka11, ka, l, rfl, hka11, fun kt H12 nkt s12 hkt => ⟨_, rfl, kt, Pk.turned l, many, rfl, hkt, by omega, fun p5 xs5 ls5 H13 s13 hp5 hx5 hn5 hs5 hperm5 => ⟨p5, xs5, rfl, .inr (sqT_tup hp5), fun L2 hL2 => ?_⟩⟩⟩
  have ets : ts = ls5 := Pk.turned_are hk hpermf hsy hpy hs5 hperm5
  subst ets
  have s11b : Same H11 (upd H13 L2 (.lst xs5)) := (s12.trans s13).trans (same_new hL2)
  have hys15 := hys.frz s11b.frz
  have hx15 := hx5.frz (same_new (o := .lst xs5) hL2).frz
  refine ⟨⟨p4, L2, ys, xs5, rfl, rfl, s11b _ _ hp4, upd_same, by rw [hys.length, hx5.length], fun i x y hx hy => ?_⟩, fun H15 e15 => ⟨_, rfl, ?_⟩⟩
  · obtain ⟨m, a1, hm, rfl, ha1⟩ := hys15.get hx
    obtain ⟨m2, b1, hm2, rfl, hb1⟩ := hx15.get hy
    have em : m = m2 := by
      rw [hm] at hm2
      exact Option.some.inj hm2
    subst em
    obtain ⟨da, _, _, _, sa, _⟩ := id ha1
    obtain ⟨db, _, _, _, sb, _⟩ := id hb1
    exact ⟨a1, b1, da, db, _, _, rfl, rfl, sa, sb, m, ha1, hb1⟩
  · have s315 : Same H3 H15 := (((s37.trans s7b).trans s911).trans s11b).trans e15
    have dk15 : DK d H H15 := dk03.same s315
    refine ⟨_, rfl, _, rfl, d, t, l, rfl, dk15.2, s315.sqT ht3, hk, hs12, fun H16 dk16 => ⟨true, rfl, _, rfl, _, rfl, d, 5, rfl, (dk15.trans dk16).2, by decide, fun t2 l2 H17 dk17 ht2 hk2 hs2 => ⟨d, t2, l2, rfl, dk17.2, ht2, hk2, by omega, fun H18 dk18 => q _ (dk15.trans (dk16.trans (dk17.trans dk18)))⟩⟩⟩
theorem pr_right {C f : Addr} {fd : FuncData} (R : Pro P w K mg base C) (OP : Pr P w K mg base "_law_are_opposites_right" 17 (spOpps K)) (hm : mg "_law_right" = some (.ref f)) (F : Fun K "_law_right" "_law_right" (topS 48) f fd) : Pr P w K mg base "_law_right" 19 (spRight K) := by
  obtain ⟨g, h1, h2, FQ⟩ := R.EQ
  refine pr_of hm F (F.ok sc48 (fun vs H Q E h => ?_) (fun cdv A outer s H vs Q E hr h => ?_)) (fun _ _ _ _ _ _ us hl => match us, hl with | [_], _ => rfl)
  · obtain ⟨d, rfl, _⟩ := h
    rfl
  · obtain ⟨t, ht, hw⟩ := right_body R OP h1 h2 FQ hr
    exact ⟨t, ht, hw h⟩
end PkD
end
section -- PkD16
set_option maxRecDepth 100000
set_option maxHeartbeats 4000000
namespace PkD
open PySem PySem.Spec PyProof.Rows L2 SlX PkR PkL RZ PkX
variable {P : Program} {w : World} {K : PySem.W.Frag} {mg : Str → Option Value} {base : Heap}
/-! ### Kind() -/
/-- __init__ with its default -/
def Make0 (P : Program) (w : World) (K : PySem.W.Frag) (mg : Str → Option Value) (base : Heap) (C : Addr) : Prop :=
  ∃ f tp, Mk K C f ∧ (∀ H : Hp, SqT K H tp []) ∧ FnR P w K mg base CX0 9 f (fun vs H Q E => spInit K C (vs ++ [.ref tp]) H Q E)
theorem pe_kind0 {X : Cx} {C : Addr} {p pos : Pos} (KN : Kn X.K X.mg C) (M : Make0 X.prog X.w X.K X.mg X.base C) (hr : Room 10 X.A) (hg : Gl X "Kind") :
    PE X (.Call (.Name "Kind" p) [] [] pos) (fun σ H Q => ∀ x H', H x = none → Same H H' → KindAt X.K C H' x [] → Q (.ref x) H') := by
  obtain ⟨f, tp, mk, htp, F⟩ := M
  refine ⟨fun pins s σ H Q I h => ?_⟩
  refine wpAny_Call_Name_kw (ld_glob I hg KN.gC ?_ (by decide))
  refine PySem.W.callWith_K0 I.kIn mk.kp (StX.run_makeR mk F hr pass0 I .nil fun x dx hx hd ne => ?_)
  have s0 : Same H (upd (upd H dx (.own x)) x (.ins C dx [])) := fun b o e => by
    rw [upd_ne (ne_of_none e hx), upd_ne (ne_of_none e hd)]
    exact e
  exact ⟨x, dx, tp, [], rfl, upd_same, by rw [upd_ne ne, upd_same], ne, htp _, Pk.Kd.nil, by decide, fun H' b2 hK => ⟨rfl, h x H' hx (fun b o e => b2 b o (ne_of_none e hx) (ne_of_none e hd) (s0 b o e)) hK⟩⟩
/-! ### law -/
def spLaw (K : PySem.W.Frag) : Sp := fun vs H Q _ => ∃ (a : Addr) (ns : List Int), vs = [.ref a] ∧ SqL K H a (ns.map V.int) ∧ ns.length ≤ 63 ∧ ∀ H', Q (.bl true) H'
abbrev N49 : List Str := ["_law_script", "_law_spot", "_law_dice_here", "_law_turn", "_law_told", "_law_kind_here"]
theorem sc49 : FnScope N49 ["_law_script"] (defScope (topS 49)) := ⟨rfl, rfl, rfl, by decide +kernel, rfl, by decide +kernel, by decide +kernel⟩
theorem kd_by {l : List Int} (h : ((List.range l.length).all fun i => decide (1 ≤ l.getD i 0) && decide (l.getD (i + 1) 0 ≤ l.getD i 0)) = true) (hp : l.Pairwise (fun x y => y ≤ x)) (h1 : ∀ x ∈ l, 1 ≤ x) : Pk.Kd l := ⟨hp, h1⟩
theorem kd2 : Pk.Kd [2] := ⟨by decide, by decide⟩
theorem kd1 : Pk.Kd [1] := ⟨by decide, by decide⟩
theorem kd21 : Pk.Kd [2, 1] := ⟨by decide, by decide⟩
theorem flats2 : ((Pk.kinds 4).filter fun l => Pk.flatB l [2]) = [[3, 1], [2, 1, 1]] := by decide +kernel
theorem lines2 : ((Pk.kinds 4).filter fun l => Pk.lineB l [2]) = [[4], [3, 1], [2, 2]] := by decide +kernel
theorem txt31 : textOf [3, 1] = "[3 1]" := by decide +kernel
theorem txt211 : textOf [2, 1, 1] = "[2 1 1]" := by decide +kernel
theorem txt4 : textOf [4] = "[4]" := by decide +kernel
theorem txt22 : textOf [2, 2] = "[2 2]" := by decide +kernel
theorem opp21 : Pk.opp [2, 1] 3 ((3 : Nat) : Int) = [3, 2, 1] := by decide +kernel
theorem opp0 : Pk.opp [] 0 ((12 : Nat) : Int) = [] := by decide +kernel
def datT : PyData := .list [.list [.str "[3 1]", .str "[2 1 1]"], .list [.str "[4]", .str "[3 1]", .str "[2 2]"]]
theorem datT_eqv : PyData.eqv datT datT = true := by decide +kernel
theorem datT_shaped : SeqAt.shaped datT = true := by decide +kernel
def datE : PyData := .list [.tuple [.int 3, .int 2, .int 1], .tuple [], .int 12]
theorem datE_eqv : PyData.eqv datE datE = true := by decide +kernel
theorem datE_shaped : SeqAt.shaped datE = true := by decide +kernel
theorem law_body {C f : Addr} {cdv : Value} {A : Around} {outer : List Env} {s : Shared} {H : Hp} {vs : List V} {Q : VK} {E : XK} (R : Pro P w K mg base C) (M0 : Make0 P w K mg base C) (RI : Pr P w K mg base "_law_right" 19 (spRight K)) {g : Addr} (hs : PySem.W.findIn K (.ref C) "__str__" = some (some (.ref g))) (hf : PySem.W.isFn K (.ref g) = true) (FS : FnR P w K mg base CX0 2 g (spStr K C))
    (hr : Room 20 (A.deeper (envOfC "law" (defScope (topS 49)) s.heap.objs.size f cdv))) :
    ∃ t, PSs (cxOf CX0 P w K mg base N49 "law" (defScope (topS 49)) f cdv A outer s H E).nox (defBody (topS 49)) t ∧ (spLaw K vs H Q E → t { nx := fun _ H' => Q .non H', rt := Q } (start N49 vs) H) := by
  refine ⟨_, pss_cons (ps_for PassesOwn.never rfl (pi_range1 (by rfl) R.T.range (pa_cons (pe_callB (call_max2 (by rfl)) (by rfl) R.T.max b_max (pa_cons pe_int (pa_cons (pe_callB (call_min2 (by rfl)) (by rfl) R.T.min b_min (pa_cons pe_int (pa_cons (pe_callB call_len (by rfl) R.T.len b_len (pa_cons (pv 0) pa_nil)) pa_nil))) pa_nil))) pa_nil)) (pg_name (i := 1) sc49.nd rfl (Or.inl rfl))
      (pss_cons (ps_set (i := 2) sc49.nd rfl (Or.inl rfl) (pe_callP R.dice (hr.mono (by decide)) (by rfl) (pa_cons (pv 0) (pa_cons (pv 1) pa_nil))))
      (pss_one (ps_for PassesOwn.never rfl (pi_range1 (by rfl) R.T.range (pa_cons pe_int pa_nil)) (pg_name (i := 3) sc49.nd rfl (Or.inl rfl))
        (pss_one (ps_if (pt_not (pt_val (pe_callP RI (hr.mono (by decide)) (by rfl) (pa_cons (pv 2) pa_nil)))) (pss_one (ps_ret pe_bl)) pss_nil))))))
    (pss_cons (ps_set (i := 4) sc49.nd rfl (Or.inl rfl) (pe_lst (pa_cons
        (pe_lc (own := [("_law_kind_here", 5)]) (by rfl) sc49.nd (pi_tup (pe_callP R.flats (hr.mono (by decide)) (by rfl) (pa_cons (pe_kind K (by rfl) R.M (hr.mono (by decide)) (by rfl) (pa_cons (pe_tup (pa_cons pe_int pa_nil)) pa_nil)) (pa_cons pe_int pa_nil)))) (blkOk_by (N := N49) (sc := defScope (topS 49)) (by decide +kernel)) (fun s H C cl fp => pg_name (i := 5) sc49.nd rfl (Or.inl rfl)) (fun s H C cl fp => pts_nil)
          (fun s H C' cl fp => pe_callTy (call_strOwn hs hf FS (hr.mono (by decide)) pass0) (by rfl) R.T.str b_str (pa_cons (pv 5) pa_nil)))
        (pa_cons (pe_lc (own := [("_law_kind_here", 5)]) (by rfl) sc49.nd (pi_tup (pe_callP R.lines (hr.mono (by decide)) (by rfl) (pa_cons (pe_kind K (by rfl) R.M (hr.mono (by decide)) (by rfl) (pa_cons (pe_tup (pa_cons pe_int pa_nil)) pa_nil)) (pa_cons pe_int pa_nil)))) (blkOk_by (N := N49) (sc := defScope (topS 49)) (by decide +kernel)) (fun s H C cl fp => pg_name (i := 5) sc49.nd rfl (Or.inl rfl)) (fun s H C cl fp => pts_nil)
          (fun s H C' cl fp => pe_callTy (call_strOwn hs hf FS (hr.mono (by decide)) pass0) (by rfl) R.T.str b_str (pa_cons (pv 5) pa_nil))) pa_nil))))
    (pss_cons (ps_if (pt_cmpR (op_neD hr.units) (pv 4) (pe_lst (pa_cons (pe_lst (pa_cons pe_str (pa_cons pe_str pa_nil))) (pa_cons (pe_lst (pa_cons pe_str (pa_cons pe_str (pa_cons pe_str pa_nil)))) pa_nil))) (nomark _)) (pss_one (ps_ret pe_bl)) pss_nil)
    (pss_one (ps_ret (pe_cmpR (op_eqD hr.units) (pe_lst (pa_cons (pe_callP R.did (hr.mono (by decide)) (by rfl) (pa_cons (pe_kind K (by rfl) R.M (hr.mono (by decide)) (by rfl) (pa_cons (pe_tup (pa_cons pe_int (pa_cons pe_int pa_nil))) pa_nil)) (pa_cons pe_int (pa_cons pe_int pa_nil))))
        (pa_cons (pe_callP R.did (hr.mono (by decide)) (by rfl) (pa_cons (pe_kind0 R.M.kn M0 (hr.mono (by decide)) (by rfl)) (pa_cons pe_int (pa_cons pe_int pa_nil))))
        (pa_cons (pe_callP R.did (hr.mono (by decide)) (by rfl) (pa_cons (pe_kind K (by rfl) R.M (hr.mono (by decide)) (by rfl) (pa_cons (pe_tup (pa_cons pe_int pa_nil)) pa_nil)) (pa_cons pe_int (pa_cons pe_int pa_nil)))) pa_nil))))
      (pe_lst (pa_cons (pe_tup (pa_cons pe_int (pa_cons pe_int (pa_cons pe_int pa_nil)))) (pa_cons (pe_tup pa_nil) (pa_cons pe_int pa_nil)))) (nomark _)))))), fun h => ?_⟩
  obtain ⟨a, ns, rfl, hS, hl, q⟩ := h
  refine ⟨_, rfl, _, _, rfl, lenL hS, _, _, rfl, _, _, rfl, _, rfl, by rw [iv_len]; split <;> (try split) <;> omega, by rw [iv_len]; split <;> (try split) <;> omega, ?_⟩
  rw [iv_len]
  generalize hJ : (if (if (ns.length : Int) < 3 then (ns.length : Int) else 3) > 1 then (if (ns.length : Int) < 3 then (ns.length : Int) else 3) else 1) = J
  have hJ3 : J.toNat ≤ 3 := by
    rw [← hJ]
    split <;> (try split) <;> omega
  refine for_range (fun i σ H' => ∃ v1 v2 v3, σ = [some (.ref a), v1, v2, v3, none, none] ∧ Same H H') ⟨none, none, none, rfl, Same.refl _⟩ ?_ ?_
  · rintro i σ H1 hi ⟨v1, v2, v3, rfl, s1⟩
    rw [Int.zero_add]
    refine ⟨_, rfl, _, rfl, a, ns, i, rfl, s1.seq hS, by omega, by omega, fun d H2 nd s2 hd => ⟨4, rfl, by decide, by decide, ?_⟩⟩
    refine for_range (fun j σ H' => ∃ v3, σ = [some (.ref a), some (.int (i : Nat)), some (.ref d), v3, none, none] ∧ Same H H' ∧ DiceAt H' d) ⟨_, rfl, s1.trans s2, hd⟩ ?_ ?_
    · rintro j σ H3 hj ⟨v3, rfl, s3, hd3⟩
      refine ⟨_, rfl, d, rfl, hd3, fun H4 dk4 => ⟨true, rfl, ⟨_, rfl, fun b o e => dk4.1 b o (ne_of_none e (s1.free nd)) (s3 b o e), dk4.2⟩⟩⟩
    · rintro σ H3 ⟨v3, rfl, s3, hd3⟩
      exact ⟨_, _, _, rfl, s3⟩
  rintro σ H1 ⟨v1, v2, v3, rfl, s1⟩
  refine ⟨(by show 1 ≤ sizeLine; decide), fun p1 hp1 => ⟨p1, [2], rfl, sqT_tup upd_same, kd2, by decide, fun k1 H2 nk1 s2 hk1 => ⟨k1, [2], 2, rfl, hk1, by decide, fun pf xf fs H3 s3 hpf hkf hnf hsf hpermf => ⟨pf, rfl, ⟨_, sqT_tup hpf⟩, ?_⟩⟩⟩⟩
  have efs : fs = [[3, 1], [2, 1, 1]] := (Pk.flats_are kd2 (n := 4) (by decide) hsf hpermf).trans flats2
  subst efs
  have hxf := hkf.length
  refine lc_same (feeds_tup (sqT_tup hpf)) (by rw [hxf]; decide) (fun i acc _ => acc = ((([[3, 1], [2, 1, 1]] : List (List Int)).take i).map textOf).map V.str) (fun _ _ _ _ _ h => h) rfl (fun i x acc H4 c1 c2 hi s4 hx r hc1 hc2 => ?_) (fun D1 acc1 H4 s4 hD1 _ r4 => ?_)
  · obtain ⟨m, a0, hm, rfl, ha0⟩ := hkf.get hx
    have ha4 := ha0.same s4
    obtain ⟨dx, _, _, _, hsl, _⟩ := id ha4
    refine ⟨rfl, _, rfl, a0, dx, _, rfl, hsl, a0, m, rfl, ha4, _, rfl, hc1 _ _ (Same.refl _) ?_⟩
    rw [r, take_more hm, List.map_append, List.map_append]
    rfl
  rw [hxf] at r4
  have r4 : acc1 = [.str "[3 1]", .str "[2 1 1]"] := by
    rw [r4]
    show [V.str (textOf [3, 1]), V.str (textOf [2, 1, 1])] = _
    rw [txt31, txt211]
  subst r4
  refine ⟨(by show 1 ≤ sizeLine; decide), fun p2 hp2 => ⟨p2, [2], rfl, sqT_tup upd_same, kd2, by decide, fun k2 H5 nk2 s5 hk2 => ⟨k2, [2], 2, rfl, hk2, by decide, fun pl xl gs H6 s6 hpl hkl hnl hsl hperml => ⟨pl, rfl, ⟨_, sqT_tup hpl⟩, ?_⟩⟩⟩⟩
  have egs : gs = [[4], [3, 1], [2, 2]] := (Pk.lines_are kd2 (n := 4) (by decide) hsl hperml).trans lines2
  subst egs
  have hxl := hkl.length
  refine lc_same (feeds_tup (sqT_tup hpl)) (by rw [hxl]; decide) (fun i acc _ => acc = ((([[4], [3, 1], [2, 2]] : List (List Int)).take i).map textOf).map V.str) (fun _ _ _ _ _ h => h) rfl (fun i x acc H7 c1 c2 hi s7 hx r hc1 hc2 => ?_) (fun D2 acc2 H7 s7 hD2 _ r7 => ?_)
  · obtain ⟨m, a0, hm, rfl, ha0⟩ := hkl.get hx
    have ha7 := ha0.same s7
    obtain ⟨dx, _, _, _, hsl, _⟩ := id ha7
    refine ⟨rfl, _, rfl, a0, dx, _, rfl, hsl, a0, m, rfl, ha7, _, rfl, hc1 _ _ (Same.refl _) ?_⟩
    rw [r, take_more hm, List.map_append, List.map_append]
    rfl
  rw [hxl] at r7
  have r7 : acc2 = [.str "[4]", .str "[3 1]", .str "[2 2]"] := by
    rw [r7]
    show [V.str (textOf [4]), V.str (textOf [3, 1]), V.str (textOf [2, 2])] = _
    rw [txt4, txt31, txt22]
  subst r7
  have s47 : Same H4 H7 := (((same_new hp2).trans s5).trans s6).trans s7
  have hD1' := s47 _ _ hD1
  refine ⟨(by show 2 ≤ sizeLine; decide), fun pt hpt => ⟨_, rfl, (by show 2 ≤ sizeLine; decide), fun l1 hl1 => ⟨(by show 3 ≤ sizeLine; decide), fun l2 hl2 => ⟨(by show 2 ≤ sizeLine; decide), fun l3 hl3 => ⟨datT, datT, ?_, ?_, datT_shaped, datT_shaped, _, rfl, ?_⟩⟩⟩⟩⟩
  · have sA : Same (upd H7 pt (.lst [.ref D1, .ref D2])) (upd (upd (upd (upd H7 pt (.lst [.ref D1, .ref D2])) l1 (.lst [.str "[3 1]", .str "[2 1 1]"])) l2 (.lst [.str "[4]", .str "[3 1]", .str "[2 2]"])) l3 (.lst [.ref l1, .ref l2])) := ((same_new hl1).trans (same_new hl2)).trans (same_new hl3)
    have sB := (same_new hpt).trans sA
    exact .lst (sqL_lst (sA _ _ upd_same)) (.cons (.lst (sqL_lst (sB _ _ hD1')) (.cons (.str _) (.cons (.str _) .nil))) (.cons (.lst (sqL_lst (sB _ _ hD2)) (.cons (.str _) (.cons (.str _) (.cons (.str _) .nil)))) .nil))
  · have sC := (same_new (o := .lst [.str "[4]", .str "[3 1]", .str "[2 2]"]) hl2).trans (same_new (o := .lst [.ref l1, .ref l2]) hl3)
    exact .lst (sqL_lst upd_same) (.cons (.lst (sqL_lst (sC _ _ upd_same)) (.cons (.str _) (.cons (.str _) .nil))) (.cons (.lst (sqL_lst ((same_new hl3) _ _ upd_same)) (.cons (.str _) (.cons (.str _) (.cons (.str _) .nil)))) .nil))
  rw [datT_eqv]
  generalize upd (upd (upd (upd H7 pt _) l1 _) l2 _) l3 _ = H8
  refine ⟨(by show 2 ≤ sizeLine; decide), fun q1 hq1 => ⟨q1, [2, 1], rfl, sqT_tup upd_same, kd21, by decide, fun k3 H9 nk3 s9 hk3 => ⟨k3, [2, 1], 3, 3, rfl, hk3, by decide, by decide, fun c => absurd c (by decide +kernel), fun _ c => absurd c (by decide +kernel), fun _ _ n1 H10 s10 hn1 => ?_⟩⟩⟩
  rw [opp21] at hn1
  refine fun k4 H11 nk4 s11 hk4 => ⟨k4, [], 0, 12, rfl, hk4, by decide, by decide, fun c => absurd c (by decide +kernel), fun _ c => absurd c (by decide +kernel), fun _ _ n2 H12 s12 hn2 => ?_⟩
  rw [opp0] at hn2
  refine ⟨(by show 1 ≤ sizeLine; decide), fun q2 hq2 => ⟨q2, [1], rfl, sqT_tup upd_same, kd1, by decide, fun k5 H13 nk5 s13 hk5 => ⟨k5, [1], 4, 4, rfl, hk5, by decide, by decide, fun c => absurd c (by decide +kernel), fun _ _ H14 s14 => ?_, fun _ c => absurd c (by decide +kernel)⟩⟩⟩
  have s1014 : Same H10 H14 := (((s11.trans s12).trans (same_new hq2)).trans s13).trans s14
  have s1214 : Same H12 H14 := ((same_new hq2).trans s13).trans s14
  refine ⟨(by show 3 ≤ sizeLine; decide), fun w1 hw1 => ⟨(by show 3 ≤ sizeLine; decide), fun w2 hw2 => ⟨(by show 0 ≤ sizeLine; decide), fun w3 hw3 => ⟨(by show 3 ≤ sizeLine; decide), fun w4 hw4 => ⟨datE, datE, ?_, ?_, datE_shaped, datE_shaped, ?_⟩⟩⟩⟩⟩
  · have sA := ((same_new (o := .tup [.int 3, .int 2, .int 1]) hw2).trans (same_new (o := .tup []) hw3)).trans (same_new (o := .lst [.ref w2, .ref w3, .int 12]) hw4)
    have sB := (same_new (o := .lst [.ref n1, .ref n2, .int 12]) hw1).trans sA
    exact .lst (sqL_lst (sA _ _ upd_same)) (.cons (.tup (sB.sqT (s1014.sqT hn1)) (.cons (.int 3) (.cons (.int 2) (.cons (.int 1) .nil)))) (.cons (.tup (sB.sqT (s1214.sqT hn2)) .nil) (.cons (.int 12) .nil)))
  · have sC := (same_new (o := .tup []) hw3).trans (same_new (o := .lst [.ref w2, .ref w3, .int 12]) hw4)
    exact .lst (sqL_lst upd_same) (.cons (.tup (sqT_tup (sC _ _ upd_same)) (.cons (.int 3) (.cons (.int 2) (.cons (.int 1) .nil)))) (.cons (.tup (sqT_tup ((same_new hw4) _ _ upd_same)) .nil) (.cons (.int 12) .nil)))
  · rw [datE_eqv]
    exact q _
end PkD
end
section -- PkJ
set_option maxRecDepth 100000
set_option maxHeartbeats 4000000
namespace PkD
open PySem PySem.Spec PyProof.Rows L2 SlX PkR PkL RZ PkX
variable {P : Program} {w : World} {K : PySem.W.Frag} {mg : Str → Option Value} {base : Heap}
/-! ### where the defs stand -/
/-- the def x of the top -/
def AtD (K : PySem.W.Frag) (mg : Str → Option Value) (x : Str) (st : Stmt) : Prop := ∃ f fd, mg x = some (.ref f) ∧ Fun K x x st f fd
/-- a method of the class at C -/
def MeD (K : PySem.W.Frag) (C : Addr) (m qual : Str) (st : Stmt) : Prop := ∃ f fd, PySem.W.findIn K (.ref C) m = some (some (.ref f)) ∧ PySem.W.isFn K (.ref f) = true ∧ Fun K m qual st f fd
/-- a property of the class at C -/
def PrD (K : PySem.W.Frag) (C : Addr) (m qual : Str) (st : Stmt) : Prop := ∃ p f fd, PySem.W.findIn K (.ref C) m = some (some (.ref p)) ∧ PySem.W.specialIn K (.ref p) "__get__" = some (some (.builtin "property.__get__")) ∧ PySem.W.takesIn K (.ref p) = some true ∧
  (∃ rest, PySem.W.recIn K p "property" = some (.ref f :: rest)) ∧ Fun K m qual st f fd
theorem fnr_of {x qual : Str} {st : Stmt} {f : Addr} {fd : FuncData} {ps : List Str} {k : Nat} {sp : Sp} {CX : CXT} (F : Fun K x qual st f fd) (G : FnOk P w K mg base CX k f fd ps sp)
    (h : ∀ (kV doc pm : Value) (an : Option Addr) (cdv ct : Value) (us : List Value), us.length = ps.length → bindArgs (PySem.W.fnOf x qual (defArgs st) (defBody st) (defScope st) .none kV doc pm an cdv ct) ⟨us, []⟩ = pure (ps.zip us)) : FnR P w K mg base CX k f sp :=
  G.raw (F.binds h) .nil |> fun z => by simpa using z
theorem atD {x : Str} {st : Stmt} {h : Heap} (X : K.In h) (G : h.Ns mainGlobals mg) {f : Addr} {oc : Value} {od an : Option Addr} {osl : Array (Option Value)} {kV doc pm cdv ct : Value} (a : PySem.W.nsIn K mainGlobals x = some (some (.ref f)))
    (l : K.lookup f = some ⟨oc, od, .func (PySem.W.fnOf x x (defArgs st) (defBody st) (defScope st) .none kV doc pm an cdv ct), osl⟩) (c : PySem.W.codeIn K cdv x = true) (k : PySem.W.keepIn K (.ref f) = true) : AtD K mg x st := ⟨f, _, PySem.W.mg_of X G a, fun_mk l c k⟩
theorem meD {C : Addr} {m qual : Str} {st : Stmt} {f : Addr} {oc : Value} {od an : Option Addr} {osl : Array (Option Value)} {kV doc pm cdv ct : Value} (a : PySem.W.findIn K (.ref C) m = some (some (.ref f))) (i : PySem.W.isFn K (.ref f) = true)
    (l : K.lookup f = some ⟨oc, od, .func (PySem.W.fnOf m qual (defArgs st) (defBody st) (defScope st) .none kV doc pm an cdv ct), osl⟩) (c : PySem.W.codeIn K cdv qual = true) (k : PySem.W.keepIn K (.ref f) = true) : MeD K C m qual st := ⟨f, _, a, i, fun_mk l c k⟩
theorem prD {C : Addr} {m qual : Str} {st : Stmt} {p f : Addr} {rest : List Value} {oc : Value} {od an : Option Addr} {osl : Array (Option Value)} {kV doc pm cdv ct : Value} (a : PySem.W.findIn K (.ref C) m = some (some (.ref p))) (g : PySem.W.specialIn K (.ref p) "__get__" = some (some (.builtin "property.__get__")))
    (t : PySem.W.takesIn K (.ref p) = some true) (r : PySem.W.recIn K p "property" = some (.ref f :: rest))
    (l : K.lookup f = some ⟨oc, od, .func (PySem.W.fnOf m qual (defArgs st) (defBody st) (defScope st) .none kV doc pm an cdv ct), osl⟩) (c : PySem.W.codeIn K cdv qual = true) (k : PySem.W.keepIn K (.ref f) = true) : PrD K C m qual st := ⟨p, f, _, a, g, t, ⟨rest, r⟩, fun_mk l c k⟩
theorem slot1 {C p : Addr} {f : Str} {i : Nat} (h1 : PySem.W.findIn K (.ref C) f = some (some (.ref p))) (h2 : PySem.W.specialIn K (.ref p) "__get__" = some (some (.builtin "member_descriptor.__get__"))) (h3 : PySem.W.takesIn K (.ref p) = some true)
    (h4 : PySem.W.typeIn K (.ref p) = some (.type "member_descriptor")) (h5 : PySem.W.slotIn K p C = some i) (h6 : i < 1000) : ∃ p, Slot1 K C f p i := ⟨p, h1, h2, h3, h4, h5, h6⟩
/-- Kind.__init__, its default the empty tuple -/
def IniD (K : PySem.W.Frag) (C : Addr) : Prop := ∃ f fd tp, Mk K C f ∧ (∀ H : Hp, SqT K H tp []) ∧ FunD K "__init__" "Kind.__init__" (defArgs (clsS 1)) (defBody (clsS 1)) (defScope (clsS 1)) [.ref tp] [] f fd
theorem iniD {C f T tp : Addr} {oc : Value} {od an : Option Addr} {osl : Array (Option Value)} {kV doc pm cdv ct : Value} {o1 : Value} {d1 d2 : Option Addr} {s1 s2 : Array (Option Value)} {n1 n2 : Nat}
    (mk : PySem.W.makesIn K C = true) (a : PySem.W.findIn K (.ref C) "__init__" = some (some (.ref f))) (i : PySem.W.isFn K (.ref f) = true) (kc : PySem.W.keepIn K (.ref C) = true)
    (l : K.lookup f = some ⟨oc, od, .func (PySem.W.fnOf "__init__" "Kind.__init__" (defArgs (clsS 1)) (defBody (clsS 1)) (defScope (clsS 1)) (.ref T) kV doc pm an cdv ct), osl⟩) (c : PySem.W.codeIn K cdv "Kind.__init__" = true) (k : PySem.W.keepIn K (.ref f) = true)
    (lT : K.lookup T = some ⟨o1, d1, .seq (Array.mk [.ref tp]) n1, s1⟩) (lt : K.lookup tp = some ⟨.type "tuple", d2, .seq (Array.mk []) n2, s2⟩) : IniD K C :=
  ⟨f, _, tp, ⟨mk, a, i, kc⟩, fun H => .inr ⟨_, _, n2, lt, rfl, rfl, Nat.zero_le _, .nil⟩, ⟨_, _, _, _, _, _, _, _, _, _, rfl, l, c, .inr ⟨(fun z => by cases z), T, _, [.ref tp], n1, rfl, lT, rfl, .cons rfl .nil⟩, .inl rfl⟩, k⟩
/-! ### all that the top has written -/
structure All (P : Program) (K : PySem.W.Frag) (mg : Str → Option Value) (C CR CT : Addr) : Prop where
  T : Top K mg
  KN : Kn K mg C
  X1 : XCls K mg P "Refused" "reason" CR
  X2 : XCls K mg P "TooMany" "limit" CT
  no : PySem.W.exmOne K (.ref CT) (.ref CR) = some false
  g1 : mg "Refused" = some (.ref CR)
  g2 : mg "TooMany" = some (.ref CT)
  ini : IniD K C
  d11 : AtD K mg "is_whole" (topS 11)
  d13 : AtD K mg "is_from" (topS 13)
  d14 : AtD K mg "require_from" (topS 14)
  d21 : AtD K mg "are_numbers" (topS 21)
  d22 : AtD K mg "turned_numbers" (topS 22)
  d23 : AtD K mg "without_zeros" (topS 23)
  d28 : AtD K mg "require_kind" (topS 28)
  d29 : AtD K mg "require_size" (topS 29)
  d30 : AtD K mg "number_at" (topS 30)
  d31 : AtD K mg "raised_rows" (topS 31)
  d32 : AtD K mg "require_step" (topS 32)
  d33 : AtD K mg "flats_over" (topS 33)
  d34 : AtD K mg "lines_over" (topS 34)
  d36 : AtD K mg "_law_dice" (topS 36)
  d37 : AtD K mg "_law_roll" (topS 37)
  d38 : AtD K mg "_law_pick" (topS 38)
  d39 : AtD K mg "_law_kinds" (topS 39)
  d40 : AtD K mg "_law_kind" (topS 40)
  d41 : AtD K mg "_law_every_kind" (topS 41)
  d42 : AtD K mg "_law_does_hold" (topS 42)
  d43 : AtD K mg "_law_is_flat_over" (topS 43)
  d44 : AtD K mg "_law_is_line_over" (topS 44)
  d45 : AtD K mg "_law_opposite_of" (topS 45)
  d46 : AtD K mg "_law_did_turn" (topS 46)
  d47 : AtD K mg "_law_are_opposites_right" (topS 47)
  d48 : AtD K mg "_law_right" (topS 48)
  nu : PrD K C "numbers" "Kind.numbers" (clsS 3)
  he : PrD K C "height" "Kind.height" (clsS 6)
  tu : PrD K C "turned" "Kind.turned" (clsS 8)
  ho : MeD K C "holds" "Kind.holds" (clsS 12)
  op : MeD K C "opposite" "Kind.opposite" (clsS 15)
  eq : MeD K C "__eq__" "Kind.__eq__" (clsS 20)
  lt : MeD K C "__lt__" "Kind.__lt__" (clsS 21)
  st : MeD K C "__str__" "Kind.__str__" (clsS 22)
theorem KM.of {C : Addr} (T : Top K mg) (KN : Kn K mg C) (I : IniD K C) (G : Pr P w K mg base "are_numbers" 6 (spAre K)) : KM P w K mg base C ∧ Make0 P w K mg base C := by
  obtain ⟨f, fd, tp, mk, ht, F⟩ := I
  have O := ok_init (w := w) (base := base) T KN G F
  obtain ⟨ds, v0, b0⟩ := F.binds1 (ps := ["self", "numbers"]) 1 0 (fun z => by cases z) rfl fun _ _ _ _ _ _ _ us its h1 h2 => match us, its, h1, h2 with | [_], [_], _, _ => ⟨_, rfl, rfl⟩
  obtain ⟨es, v1, b1⟩ := F.binds1 (ps := ["self", "numbers"]) 2 1 (fun z => by cases z) rfl fun _ _ _ _ _ _ _ us its h1 h2 => match us, its, h1, h2 with | [_, _], [_], _, _ => ⟨_, rfl, rfl⟩
  refine ⟨⟨KN, f, mk, ?_⟩, f, tp, mk, ht, O.raw b0 v0⟩
  exact O.raw b1 v1 |> fun z => by simpa using z
theorem law_all {C CR CT f : Addr} {fd : FuncData} (A : All P K mg C CR CT) (F : Fun K "law" "law" (topS 49) f fd) : FnOk P w K mg base CX0 21 f fd ["_law_script"] (spLaw K) := by
  obtain ⟨T, KN, X1, X2, no, g1, g2, ini, ⟨f11, _, m11, F11⟩, ⟨f13, _, m13, F13⟩, ⟨f14, _, m14, F14⟩, ⟨f21, _, m21, F21⟩, ⟨f22, _, m22, F22⟩, ⟨f23, _, m23, F23⟩, ⟨f28, _, m28, F28⟩, ⟨f29, _, m29, F29⟩, ⟨f30, _, m30, F30⟩, ⟨f31, _, m31, F31⟩, ⟨f32, _, m32, F32⟩, ⟨f33, _, m33, F33⟩, ⟨f34, _, m34, F34⟩,
    ⟨f36, _, m36, F36⟩, ⟨f37, _, m37, F37⟩, ⟨f38, _, m38, F38⟩, ⟨f39, _, m39, F39⟩, ⟨f40, _, m40, F40⟩, ⟨f41, _, m41, F41⟩, ⟨f42, _, m42, F42⟩, ⟨f43, _, m43, F43⟩, ⟨f44, _, m44, F44⟩, ⟨f45, _, m45, F45⟩, ⟨f46, _, m46, F46⟩, ⟨f47, _, m47, F47⟩, ⟨f48, _, m48, F48⟩,
    ⟨pn, fn, _, an, gn, tn, rn, Fn⟩, ⟨ph, fh, _, ah, gh, th, rh, Fh⟩, ⟨pt, ft, _, at_, gt, tt, rt, Ft⟩, ⟨fo, _, ao, io, Fo⟩, ⟨fp, _, ap, ip, Fp⟩, ⟨fq, _, aq, iq, Fq⟩, ⟨fl, _, al, il, Fl⟩, ⟨fs, _, as, is, Fs⟩⟩ := A
  have p11 := pr_whole (P := P) (w := w) (base := base) T m11 F11
  have p13 := pr_from p11 m13 F13
  have p14 := pr_reqFrom p13 m14 F14
  have p21 := pr_are T p13 m21 F21
  have p22 := pr_turn (P := P) (w := w) (base := base) T m22 F22
  have p23 := pr_wz (P := P) (w := w) (base := base) T m23 F23
  have p23L := pr_wzL (P := P) (w := w) (base := base) T m23 F23
  obtain ⟨M, M0⟩ := KM.of T KN ini p21
  have p28 := pr_reqKind (P := P) (w := w) (base := base) T KN m28 F28
  have p29 := pr_reqSize0 (P := P) (w := w) (base := base) T m29 F29
  have p29E := prE_reqSize (P := P) (w := w) (base := base) T X2 m29 F29
  have p30 := pr_numAt (P := P) (w := w) (base := base) T KN m30 F30
  have p31 := pr_rows T KN p30 m31 F31
  have p32 := pr_reqStep T KN p28 p14 p29 m32 F32
  have NU : PropAt P w K mg base C "numbers" 2 (spNums K C) := ⟨pn, fn, an, gn, tn, rn, fnr_of Fn (ok_nums KN Fn) fun _ _ _ _ _ _ us hl => match us, hl with | [_], _ => rfl⟩
  have HE : PropAt P w K mg base C "height" 2 (spHeight K C) := ⟨ph, fh, ah, gh, th, rh, fnr_of Fh (ok_height T KN Fh) fun _ _ _ _ _ _ us hl => match us, hl with | [_], _ => rfl⟩
  have TU : PropAt P w K mg base C "turned" 11 (spTurnK K C) := ⟨pt, ft, at_, gt, tt, rt, fnr_of Ft (ok_turnK M p22 Ft) fun _ _ _ _ _ _ us hl => match us, hl with | [_], _ => rfl⟩
  have HO : ∃ g, Meth K C "holds" g ∧ FnR P w K mg base CX0 4 g (spHolds K C) := ⟨fo, ⟨ao, io, Fo.kp⟩, fnr_of Fo (ok_holds T KN p28 Fo) fun _ _ _ _ _ _ us hl => match us, hl with | [_, _], _ => rfl⟩
  have OP : ∃ g, Meth K C "opposite" g ∧ FnR P w K mg base (L2.CX P w) 12 g (spOpp K C CR CT) := ⟨fp, ⟨ap, ip, Fp.kp⟩, fnr_of Fp (ok_opp T M X1 HE p14 p29E p23L p30 Fp) fun _ _ _ _ _ _ us hl => match us, hl with | [_, _, _], _ => rfl⟩
  have EQ : OwnAt P w K mg base C "__eq__" 2 (spEqK K C) := ⟨fq, aq, iq, fnr_of Fq (ok_eqK T KN Fq) fun _ _ _ _ _ _ us hl => match us, hl with | [_, _], _ => rfl⟩
  have LT : OwnAt P w K mg base C "__lt__" 2 (spLtK K C) := ⟨fl, al, il, fnr_of Fl (ok_ltK T KN Fl) fun _ _ _ _ _ _ us hl => match us, hl with | [_, _], _ => rfl⟩
  have FS : FnR P w K mg base CX0 2 fs (spStr K C) := fnr_of Fs (ok_str T KN Fs) fun _ _ _ _ _ _ us hl => match us, hl with | [_], _ => rfl
  have ST : OwnAt P w K mg base C "__str__" 2 (spStr K C) := ⟨fs, as, is, FS⟩
  have p33 := pr_flats T M LT p32 p31 p23 m33 F33
  have p34 := pr_lines T M LT TU p32 p31 p23 p22 m34 F34
  have p36 := pr_dice (P := P) (w := w) (base := base) T m36 F36
  have p37 := pr_roll (P := P) (w := w) (base := base) T m37 F37
  have p38 := pr_pick T p37 m38 F38
  have p39 := pr_kinds (P := P) (w := w) (base := base) T m39 F39
  have p40 := pr_kind p38 p39 p37 m40 F40
  have p41 := pr_every T p39 m41 F41
  have p42 := pr_does (P := P) (w := w) (base := base) T m42 F42
  have p43 := pr_isFlat T p42 m43 F43
  have p44 := pr_isLine T p42 m44 F44
  have p45 := pr_oppOf (P := P) (w := w) (base := base) T m45 F45
  have p46 := pr_did KN X1 X2 no g1 g2 NU OP m46 F46
  have R : Pro P w K mg base C := ⟨T, M, LT, EQ, ST, NU, HE, TU, HO, p33, p34, p37, p38, p36, p39, p40, p41, p42, p43, p44, p45, p46⟩
  have p47 := pr_opps R m47 F47
  have p48 := pr_right R p47 m48 F48
  refine F.ok sc49 (fun vs H Q E h => ?_) (fun cdv A outer s H vs Q E hr h => ?_)
  · obtain ⟨a, ns, rfl, _⟩ := h
    rfl
  · obtain ⟨t, ht, hw⟩ := law_body R M0 p48 as is FS hr
    exact ⟨t, ht, hw h⟩
end PkD
end
section -- PkF
set_option maxRecDepth 100000
set_option maxHeartbeats 4000000
namespace PkD
open PySem PySem.Spec PyProof.Rows L2 SlX PkR PkL RZ PkX
variable {P : Program} {K : PySem.W.Frag} {mg : Str → Option Value}
/-! ### the facts as they are found in what the top has written -/
theorem exm_is {S U : Addr} {b : Bool} (h1 : PySem.W.subIn K (.ref U) (.type "BaseException") = some true) (h2 : PySem.W.isClsIn K U = true) (h3 : PySem.W.typeIn K (.ref U) = some (.type "type")) (h4 : PySem.W.subIn K (.ref S) (.ref U) = some b) :
    PySem.W.exmOne K (.ref S) (.ref U) = some b := by
  have e1 : (PySem.W.subIn K (.ref U) (.type "BaseException") == some true) = true := by rw [h1] <;> rfl
  have e2 : ((PySem.W.clsIn K U).isSome && PySem.W.typeIn K (.ref U) == some (.type "type")) = true := by
    have h2' : (PySem.W.clsIn K U).isSome = true := h2
    rw [h2', h3] <;> rfl
  show (if (PySem.W.subIn K (.ref U) (.type "BaseException") == some true) = true then (if ((PySem.W.clsIn K U).isSome && PySem.W.typeIn K (.ref U) == some (.type "type")) = true then PySem.W.subIn K (.ref S) (.ref U) else none) else none) = some b
  rw [if_pos e1, if_pos e2]
  exact h4
theorem xcls {h : Heap} (X : K.In h) (G : h.Ns mainGlobals mg) {x fl qual msg : Str} {sB sN sI : String} {bmB : List Value} {C fI : Addr} (FB : ExcBaseFacts sB sN sI bmB) (KF : PySem.W.KxsFacts sB sI) (SF : StoreFacts sB bmB "object.__setattr__" "object") (BO : BindOk fl)
    {nm q : Str} {N : Addr} {bs : List Value} {sn : List Str} {sub : List Value} {ab : Bool} {col : Option Bool} {dd : Option Addr} {k0 k1 k2 k3 k5 : Option Value} {oc doc pm ct ccl cl : Value} {od an cdd cld : Option Addr} {osl ccs csl : Array (Option Value)} {cda cc : Addr} {p1 p2 : Pos} {j : Nat} {q0 q1 q2 q3 q4 q5 r1 r2 r3 r4 : Pos}
    {u0 u1 : Value} {vs : List Value} {file : Str} {tf : Tok}
    (gC : PySem.W.nsIn K mainGlobals x = some (some (.ref C)))
    (cls : K.lookup C = some (excClassObj nm q C N bs bmB true sn sub ab col dd k0 k1 k2 k3 k5 sN))
    (al : PySem.W.alongIn K "__init__" bmB = some (some (.builtin sI)))
    (sa : PySem.W.findIn K (.ref C) "__setattr__" = some (some (.builtin "object.__setattr__")))
    (ga : PySem.W.findIn K (.ref C) "__getattribute__" = some (some (.builtin "BaseException.__getattribute__")))
    (gg : PySem.W.findIn K (.ref C) "__getattr__" = some none)
    (noN : PySem.W.findIn K (.ref C) fl = some none)
    (iC : PySem.W.findIn K (.ref C) "__init__" = some (some (.ref fI)))
    (tI : PySem.W.typeIn K (.ref fI) = some (.type "function"))
    (kC : PySem.W.keepIn K (.ref C) = true)
    (exC : PySem.W.subIn K (.ref C) (.type "BaseException") = some true)
    (sb : PySem.W.subIn K (.ref C) (.type sB) = some true)
    (tyC : PySem.W.typeIn K (.ref C) = some (.type "type"))
    (hdC : PySem.W.hasDictIn K C = true)
    (ic : PySem.W.isClsIn K C = true)
    (sC : PySem.W.subIn K (.ref C) (.ref C) = some true)
    (opq : PySem.W.nsIn K cStatics "thirdparty.any" = some none)
    (sup : PySem.W.nsIn K mainGlobals "super" = some none)
    (top : (P.main.scope.names.lookup ("super" : Str)).isSome = false)
    (fne : fl ≠ "self" ∧ fl ≠ "super" ∧ fl ≠ "__class__" ∧ fl ≠ "__debug__")
    (l : K.lookup fI = some ⟨oc, od, .func (PySem.W.ksFn "__init__" qual (xA fl p1 p2) (xB fl msg j q0 q1 q2 q3 q4 q5 r1 r2 r3 r4) (xS fl) .none .none doc pm an (.ref cda) ct cc), osl⟩)
    (hq : (q2.endLine == q4.line) = true) (cd : PySem.W.codeIn K (.ref cda) qual = true)
    (lc : K.lookup cda = some ⟨ccl, cdd, .fields (Array.mk (u0 :: u1 :: .str file tf :: vs)), ccs⟩) (hf : ((P.main.file : Str) == file) = true)
    (lx : K.lookup cc = some ⟨cl, cld, .cell (some (.ref C)), csl⟩) : XCls K mg P x fl C :=
  { ex := ⟨sB, sN, sI, bmB, fI, FB, KF, SF,
      { gC := PySem.W.mg_of X G gC, cls := ⟨_, _, _, _, _, _, _, _, _, _, _, _, _, _, cls⟩, along := al, sa := sa, ga := ga, gg := gg, noN := noN, iC := iC, tI := tI, kC := kC, exC := exC, sB := sb, tyC := tyC, hdC := hdC, opq := opq, sup := PySem.W.mg_none_of X G sup, top := top, fne := fne,
        fn := ⟨_, _, _, _, _, _, _, _, _, _, _, _, _, _, _, _, _, _, _, _, _, _, _, _, l, hq, cd, ⟨_, _, _, _, _, _, lc, rfl, hf⟩, _, _, _, lx⟩ }⟩,
    bo := BO, te := exm_is exC ic tyC sC }
theorem int_at {h : Heap} (X : K.In h) (G : h.Ns mainGlobals mg) {x : Str} {i : Int} {t : Tok} (e : PySem.W.nsIn K mainGlobals x = some (some (.int i t))) : ∃ t, mg x = some (.int i t) := ⟨t, PySem.W.mg_of X G e⟩
theorem str_at {h : Heap} (X : K.In h) (G : h.Ns mainGlobals mg) {x z : Str} {t : Tok} (e : PySem.W.nsIn K mainGlobals x = some (some (.str z t))) : ∃ t, mg x = some (.str z t) := ⟨t, PySem.W.mg_of X G e⟩
theorem law_fact {h : Heap} (X : K.In h) (G : h.Ns mainGlobals mg) {fa f : Addr} (hfa : mg "law" = some (.ref fa)) {w : World} {C CR CT : Addr} {oc : Value} {od an : Option Addr} {osl : Array (Option Value)} {kV doc pm cdv ct : Value} (a : PySem.W.nsIn K mainGlobals "law" = some (some (.ref f)))
    (l : K.lookup f = some ⟨oc, od, .func (PySem.W.fnOf "law" "law" (defArgs (topS 49)) (defBody (topS 49)) (defScope (topS 49)) .none kV doc pm an cdv ct), osl⟩) (c : PySem.W.codeIn K cdv "law" = true) (k : PySem.W.keepIn K (.ref f) = true) (A : All P K mg C CR CT) :
    ∃ fd : FuncData, (∀ (s : Shared) (v : Value), BindsTo s fd ⟨[v], []⟩ [("_law_script", v)]) ∧ ∀ base : Heap, K.In base → base.Ns mainGlobals mg → FnOk P w K mg base CX0 21 fa fd ["_law_script"] (spLaw K) := by
  have e := hfa.symm.trans (PySem.W.mg_of X G a)
  cases e
  exact ⟨_, fun s v => .of_eq rfl, fun base _ _ => law_all A (fun_mk (st := topS 49) l c k)⟩
end PkD
end
section -- HeadTop
open PySem PySem.W PyProof.Rows
set_option maxRecDepth 100000
set_option maxHeartbeats 0
open_top headK for PySem.Challenge.rw_primekinds_k09_whole_steps_and_opposites
end
section -- PkEnd
set_option maxRecDepth 100000
open PySem PySem.W PyProof.Rows
set_option maxHeartbeats 0 in
theorem PySem.Challenge.cw_primekinds_k09_whole_steps_and_opposites_holds : PySem.Challenge.rw_primekinds_k09_whole_steps_and_opposites.Holds := by
  refine headK ?_
  k_fill
  refine L2.walk_of (l := PySem.Challenge.rw_primekinds_k09_whole_steps_and_opposites) (n := 63) (k := 21) (x := "_law_script") (CX := fun _ => L2.CX0) (sp := fun w => PkD.spLaw _) rfl (by decide) rfl ⟨rfl, by decide, by decide⟩ (fun w h Y => PySem.W.kIn_of Y) ?F (fun _ _ a ns hl _ hS => ⟨a, ns, rfl, hS, hl, fun _ => rfl⟩) (fun _ _ _ _ _ h => h)
  case F =>
    intro w mg fa h KX G hmg
    refine' PkD.law_fact KX G hmg ?a ?l ?c ?k ?A
    (case a => k_is); (case l => k_is); (case c => k_is); (case k => k_is)
    case A =>
      refine' PkD.All.mk ?T ?KN ?X1 ?X2 ?no ?g1 ?g2 ?ini (PkD.atD KX G ?d11a ?d11b ?d11c ?d11d) (PkD.atD KX G ?d13a ?d13b ?d13c ?d13d) (PkD.atD KX G ?d14a ?d14b ?d14c ?d14d) (PkD.atD KX G ?d21a ?d21b ?d21c ?d21d) (PkD.atD KX G ?d22a ?d22b ?d22c ?d22d) (PkD.atD KX G ?d23a ?d23b ?d23c ?d23d) (PkD.atD KX G ?d28a ?d28b ?d28c ?d28d) (PkD.atD KX G ?d29a ?d29b ?d29c ?d29d) (PkD.atD KX G ?d30a ?d30b ?d30c ?d30d) (PkD.atD KX G ?d31a ?d31b ?d31c ?d31d) (PkD.atD KX G ?d32a ?d32b ?d32c ?d32d) (PkD.atD KX G ?d33a ?d33b ?d33c ?d33d) (PkD.atD KX G ?d34a ?d34b ?d34c ?d34d) (PkD.atD KX G ?d36a ?d36b ?d36c ?d36d) (PkD.atD KX G ?d37a ?d37b ?d37c ?d37d) (PkD.atD KX G ?d38a ?d38b ?d38c ?d38d) (PkD.atD KX G ?d39a ?d39b ?d39c ?d39d) (PkD.atD KX G ?d40a ?d40b ?d40c ?d40d) (PkD.atD KX G ?d41a ?d41b ?d41c ?d41d) (PkD.atD KX G ?d42a ?d42b ?d42c ?d42d) (PkD.atD KX G ?d43a ?d43b ?d43c ?d43d) (PkD.atD KX G ?d44a ?d44b ?d44c ?d44d) (PkD.atD KX G ?d45a ?d45b ?d45c ?d45d) (PkD.atD KX G ?d46a ?d46b ?d46c ?d46d) (PkD.atD KX G ?d47a ?d47b ?d47c ?d47d) (PkD.atD KX G ?d48a ?d48b ?d48c ?d48d) (PkD.prD ?nua ?nub ?nuc ?nud ?nue ?nuf ?nug) (PkD.prD ?hea ?heb ?hec ?hed ?hee ?hef ?heg) (PkD.prD ?tua ?tub ?tuc ?tud ?tue ?tuf ?tug) (PkD.meD ?hoa ?hob ?hoc ?hod ?hoe) (PkD.meD ?opa ?opb ?opc ?opd ?ope) (PkD.meD ?eqa ?eqb ?eqc ?eqd ?eqe) (PkD.meD ?lta ?ltb ?ltc ?ltd ?lte) (PkD.meD ?sta ?stb ?stc ?std ?ste)
      case T =>
        refine' { isi := PySem.W.mg_none_of KX G ?t0, int := PySem.W.mg_none_of KX G ?t1, bool := PySem.W.mg_none_of KX G ?t2, tuple := PySem.W.mg_none_of KX G ?t3, len := PySem.W.mg_none_of KX G ?t4, all := PySem.W.mg_none_of KX G ?t5, sum := PySem.W.mg_none_of KX G ?t6, zip := PySem.W.mg_none_of KX G ?t7, max := PySem.W.mg_none_of KX G ?t8, min := PySem.W.mg_none_of KX G ?t9, abs := PySem.W.mg_none_of KX G ?t10, range := PySem.W.mg_none_of KX G ?t11, str := PySem.W.mg_none_of KX G ?t12, sorted := PySem.W.mg_none_of KX G ?t13, enumerate := PySem.W.mg_none_of KX G ?t14, list := PySem.W.mg_none_of KX G ?t15, MAX := PkD.int_at KX G ?tM, OPEN := PkD.str_at KX G ?tO, CLOSE := PkD.str_at KX G ?tC, BLANK := PkD.str_at KX G ?tB }
        (case t0 => k_is); (case t1 => k_is); (case t2 => k_is); (case t3 => k_is); (case t4 => k_is); (case t5 => k_is)
        (case t6 => k_is); (case t7 => k_is); (case t8 => k_is); (case t9 => k_is); (case t10 => k_is); (case t11 => k_is)
        (case t12 => k_is); (case t13 => k_is); (case t14 => k_is); (case t15 => k_is); (case tM => k_is); (case tO => k_is)
        (case tC => k_is); (case tB => k_is)
      case KN =>
        refine' { gC := PySem.W.mg_of KX G ?gC, kC := ?kC, sc := ⟨?s1, ?s2, ?s3, ?s4⟩, s0 := PkD.slot1 ?v0a ?v0b ?v0c ?v0d ?v0e (by decide), s1 := PkD.slot1 ?v1a ?v1b ?v1c ?v1d ?v1e (by decide), s2 := PkD.slot1 ?v2a ?v2b ?v2c ?v2d ?v2e (by decide), s3 := PkD.slot1 ?v3a ?v3b ?v3c ?v3d ?v3e (by decide), si := ⟨?i1, ?i2, ?i3, ?i4⟩ }
        (case gC => k_is); (case kC => k_is); (case s1 => k_is); (case s2 => k_is); (case s3 => k_is); (case s4 => k_is)
        (case v0a => k_is); (case v0b => k_is); (case v0c => k_is); (case v0d => k_is); (case v0e => k_is); (case v1a => k_is)
        (case v1b => k_is); (case v1c => k_is); (case v1d => k_is); (case v1e => k_is); (case v2a => k_is); (case v2b => k_is)
        (case v2c => k_is); (case v2d => k_is); (case v2e => k_is); (case v3a => k_is); (case v3b => k_is); (case v3c => k_is)
        (case v3d => k_is); (case v3e => k_is); (case i1 => k_is); (case i2 => k_is); (case i3 => k_is); (case i4 => k_is)
      case X1 =>
        refine' PkD.xcls KX G PySem.F.excBase_ArithmeticError PySem.W.kxs_ArithmeticError PySem.F.store_ArithmeticError PkX.bind_reason ?pgC ?pcls ?pal ?psa ?pga ?pgg ?pnoN ?piC ?ptI ?pkC ?pexC ?psb ?ptyC ?phdC ?pic ?psC ?popq ?psup ?ptop ?pfne ?pl ?phq ?pcd ?plc ?phf ?plx
        (case pgC => k_is); (case pcls => k_is); (case pal => kernel_rfl); (case psa => k_is); (case pga => k_is); (case pgg => k_is)
        (case pnoN => k_is); (case piC => k_is); (case ptI => k_is); (case pkC => k_is); (case pexC => k_is); (case psb => k_is)
        (case ptyC => k_is); (case phdC => k_is); (case pic => k_is); (case psC => first | rfl | k_is); (case popq => k_is); (case psup => k_is)
        (case ptop => kernel_rfl); (case pfne => decide); (case pl => k_is); (case phq => first | rfl | kernel_rfl); (case pcd => k_is); (case plc => k_is)
        (case phf => first | rfl | kernel_rfl); (case plx => k_is)
      case X2 =>
        refine' PkD.xcls KX G PySem.F.excBase_OverflowError PySem.W.kxs_OverflowError PySem.F.store_OverflowError PkX.bind_limit ?qgC ?qcls ?qal ?qsa ?qga ?qgg ?qnoN ?qiC ?qtI ?qkC ?qexC ?qsb ?qtyC ?qhdC ?qic ?qsC ?qopq ?qsup ?qtop ?qfne ?ql ?qhq ?qcd ?qlc ?qhf ?qlx
        (case qgC => k_is); (case qcls => k_is); (case qal => kernel_rfl); (case qsa => k_is); (case qga => k_is); (case qgg => k_is)
        (case qnoN => k_is); (case qiC => k_is); (case qtI => k_is); (case qkC => k_is); (case qexC => k_is); (case qsb => k_is)
        (case qtyC => k_is); (case qhdC => k_is); (case qic => k_is); (case qsC => first | rfl | k_is); (case qopq => k_is); (case qsup => k_is)
        (case qtop => kernel_rfl); (case qfne => decide); (case ql => k_is); (case qhq => first | rfl | kernel_rfl); (case qcd => k_is); (case qlc => k_is)
        (case qhf => first | rfl | kernel_rfl); (case qlx => k_is)
      case no =>
        refine' PkD.exm_is ?n1 ?n2 ?n3 ?n4
        (case n1 => k_is); (case n2 => k_is); (case n3 => k_is); (case n4 => k_is)
      case g1 =>
        refine' PySem.W.mg_of KX G ?y
        (case y => k_is)
      case g2 =>
        refine' PySem.W.mg_of KX G ?y
        (case y => k_is)
      case ini =>
        refine' PkD.iniD ?j1 ?j2 ?j3 ?j4 ?j5 ?j6 ?j7 ?j8 ?j9
        (case j1 => k_is); (case j2 => k_is); (case j3 => k_is); (case j4 => k_is); (case j5 => k_is); (case j6 => k_is)
        (case j7 => k_is); (case j8 => k_is); (case j9 => k_is)
      (case d11a => k_is); (case d11b => k_is); (case d11c => k_is); (case d11d => k_is)
      (case d13a => k_is); (case d13b => k_is); (case d13c => k_is); (case d13d => k_is)
      (case d14a => k_is); (case d14b => k_is); (case d14c => k_is); (case d14d => k_is)
      (case d21a => k_is); (case d21b => k_is); (case d21c => k_is); (case d21d => k_is)
      (case d22a => k_is); (case d22b => k_is); (case d22c => k_is); (case d22d => k_is)
      (case d23a => k_is); (case d23b => k_is); (case d23c => k_is); (case d23d => k_is)
      (case d28a => k_is); (case d28b => k_is); (case d28c => k_is); (case d28d => k_is)
      (case d29a => k_is); (case d29b => k_is); (case d29c => k_is); (case d29d => k_is)
      (case d30a => k_is); (case d30b => k_is); (case d30c => k_is); (case d30d => k_is)
      (case d31a => k_is); (case d31b => k_is); (case d31c => k_is); (case d31d => k_is)
      (case d32a => k_is); (case d32b => k_is); (case d32c => k_is); (case d32d => k_is)
      (case d33a => k_is); (case d33b => k_is); (case d33c => k_is); (case d33d => k_is)
      (case d34a => k_is); (case d34b => k_is); (case d34c => k_is); (case d34d => k_is)
      (case d36a => k_is); (case d36b => k_is); (case d36c => k_is); (case d36d => k_is)
      (case d37a => k_is); (case d37b => k_is); (case d37c => k_is); (case d37d => k_is)
      (case d38a => k_is); (case d38b => k_is); (case d38c => k_is); (case d38d => k_is)
      (case d39a => k_is); (case d39b => k_is); (case d39c => k_is); (case d39d => k_is)
      (case d40a => k_is); (case d40b => k_is); (case d40c => k_is); (case d40d => k_is)
      (case d41a => k_is); (case d41b => k_is); (case d41c => k_is); (case d41d => k_is)
      (case d42a => k_is); (case d42b => k_is); (case d42c => k_is); (case d42d => k_is)
      (case d43a => k_is); (case d43b => k_is); (case d43c => k_is); (case d43d => k_is)
      (case d44a => k_is); (case d44b => k_is); (case d44c => k_is); (case d44d => k_is)
      (case d45a => k_is); (case d45b => k_is); (case d45c => k_is); (case d45d => k_is)
      (case d46a => k_is); (case d46b => k_is); (case d46c => k_is); (case d46d => k_is)
      (case d47a => k_is); (case d47b => k_is); (case d47c => k_is); (case d47d => k_is)
      (case d48a => k_is); (case d48b => k_is); (case d48c => k_is); (case d48d => k_is)
      (case nua => k_is); (case nub => k_is); (case nuc => k_is); (case nud => k_is); (case nue => k_is); (case nuf => k_is)
      (case nug => k_is)
      (case hea => k_is); (case heb => k_is); (case hec => k_is); (case hed => k_is); (case hee => k_is); (case hef => k_is)
      (case heg => k_is)
      (case tua => k_is); (case tub => k_is); (case tuc => k_is); (case tud => k_is); (case tue => k_is); (case tuf => k_is)
      (case tug => k_is)
      (case hoa => k_is); (case hob => k_is); (case hoc => k_is); (case hod => k_is); (case hoe => k_is)
      (case opa => k_is); (case opb => k_is); (case opc => k_is); (case opd => k_is); (case ope => k_is)
      (case eqa => k_is); (case eqb => k_is); (case eqc => k_is); (case eqd => k_is); (case eqe => k_is)
      (case lta => k_is); (case ltb => k_is); (case ltc => k_is); (case ltd => k_is); (case lte => k_is)
      (case sta => k_is); (case stb => k_is); (case stc => k_is); (case std => k_is); (case ste => k_is)
end

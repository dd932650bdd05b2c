import PyProof.Rows.All
import Wide.All
import OpenK.AllK
import Wide.FinOn
import Open.SpecLaws
import KE.OsGo
import HandS.ForSpec
import HandS.Comp
import HandS.Iter
import HandS.Zip
import HandS.Walk
import HandS.Conv
import HandS.Style
import HandS.SortRule
import HandS.Text
import PySem.Challenge.RW_breadstreet_s01_answers
/-! ## BsMath -/
set_option Elab.async false
namespace Bs
open Sr100 SrCommon

/-! ### lists -/
theorem take_more {α : Type} : ∀ {l : List α} {i : Nat} {x : α}, l[i]? = some x → l.take (i + 1) = l.take i ++ [x]
  | [], i, x, h => by simp at h
  | a :: l, 0, x, h => by
    have e : a = x := Option.some.inj h
    subst e
    rfl
  | a :: l, i + 1, x, h => by
    have ih := take_more (l := l) (i := i) (x := x) h
    show a :: l.take (i + 1) = a :: l.take i ++ [x]
    rw [ih]
    rfl

/-! ### the breadth-first sweep -/
/-- how many of these a begun route has -/
def takenFrom (sm begun : List Nat) : Nat := (sm.filter fun i => decide (i ∈ begun)).length
/-- the continuation by one side -/
def longer1 (sm begun : List Nat) : List (List Nat) :=
  match sm[takenFrom sm begun]? with
  | none => []
  | some x => [begun ++ [x]]
def longer (left right begun : List Nat) : List (List Nat) := longer1 left begun ++ longer1 right begun
def sweepStep (left right : List Nat) (found : List (List Nat)) : List (List Nat) := found.flatMap (longer left right)
def sweep (left right : List Nat) : Nat → List (List Nat)
  | 0 => [[]]
  | n + 1 => sweepStep left right (sweep left right n)
/-- n turns from any list -/
def sweepFrom (left right : List Nat) : Nat → List (List Nat) → List (List Nat)
  | 0, L => L
  | n + 1, L => sweepFrom left right n (sweepStep left right L)
theorem sweepFrom_succ (left right : List Nat) : ∀ (n : Nat) (L : List (List Nat)), sweepFrom left right (n + 1) L = sweepStep left right (sweepFrom left right n L)
  | 0, _ => rfl
  | n + 1, L => sweepFrom_succ left right n (sweepStep left right L)
theorem sweep_eq (left right : List Nat) : ∀ n, sweep left right n = sweepFrom left right n [[]]
  | 0 => rfl
  | n + 1 => by rw [sweepFrom_succ, ← sweep_eq left right n]; rfl
theorem sweepFrom_append (left right : List Nat) : ∀ (n : Nat) (L M : List (List Nat)), sweepFrom left right n (L ++ M) = sweepFrom left right n L ++ sweepFrom left right n M
  | 0, _, _ => rfl
  | n + 1, L, M => by
    show sweepFrom left right n ((L ++ M).flatMap _) = _
    rw [List.flatMap_append, sweepFrom_append left right n]
    rfl
theorem sweepFrom_nil (left right : List Nat) : ∀ n, sweepFrom left right n [] = []
  | 0 => rfl
  | n + 1 => sweepFrom_nil left right n
theorem taken_take {l p : List Nat} {a : Nat} (hn : l.Nodup) (ha : a ≤ l.length) (h : ∀ x ∈ l, x ∈ p ↔ x ∈ l.take a) : takenFrom l p = a := by
  unfold takenFrom
  have e1 : l.filter (fun i => decide (i ∈ p)) = l.filter (fun i => decide (i ∈ l.take a)) := by
    apply List.filter_congr
    intro x hx
    exact decide_eq_decide.mpr (h x hx)
  rw [e1]
  have e2 : l = l.take a ++ l.drop a := (List.take_append_drop a l).symm
  have hn2 : (l.take a ++ l.drop a).Nodup := by rw [List.take_append_drop]; exact hn
  rw [List.nodup_append] at hn2
  have e3 : l.filter (fun i => decide (i ∈ l.take a)) = l.take a := by
    conv => lhs; rw [e2]
    rw [List.filter_append]
    have f1 : (l.take a).filter (fun i => decide (i ∈ (l.take a ++ l.drop a).take a)) = l.take a := by
      rw [List.filter_eq_self]
      intro x hx
      rw [List.take_append_drop]
      exact decide_eq_true hx
    have f2 : (l.drop a).filter (fun i => decide (i ∈ (l.take a ++ l.drop a).take a)) = [] := by
      rw [List.filter_eq_nil_iff]
      intro x hx
      rw [List.take_append_drop]
      simp only [decide_eq_true_eq]
      intro hx'
      exact hn2.2.2 x hx' x hx rfl
    rw [f1, f2, List.append_nil]
  rw [e3, List.length_take]
  omega
theorem drop_match {l : List Nat} {a : Nat} : (match l.drop a with | [] => (none : Option (Nat × List Nat)) | x :: r => some (x, r)) = (l[a]?).map fun x => (x, l.drop (a + 1)) := by
  cases h : l[a]? with
  | none =>
    have : l.length ≤ a := List.getElem?_eq_none_iff.mp h
    rw [List.drop_eq_nil_of_le this]
    rfl
  | some x =>
    obtain ⟨h1, h2⟩ := List.getElem?_eq_some_iff.mp h
    rw [List.drop_eq_getElem_cons h1, h2]
    rfl
theorem sweepFrom_merge {left right : List Nat} (hn : (left ++ right).Nodup) : ∀ (n a b : Nat) (p : List Nat), a ≤ left.length → b ≤ right.length →
    (∀ x, x ∈ p ↔ x ∈ left.take a ∨ x ∈ right.take b) → sweepFrom left right n [p] = (mergings n (left.drop a) (right.drop b)).map (p ++ ·)
  | 0, a, b, p, _, _, _ => by simp [sweepFrom, mergings]
  | n + 1, a, b, p, ha, hb, hp => by
    have hnl := (List.nodup_append.mp hn).1
    have hnr := (List.nodup_append.mp hn).2.1
    have hd := (List.nodup_append.mp hn).2.2
    have tl : takenFrom left p = a := taken_take hnl ha fun x hx => by
      rw [hp x]
      constructor
      · rintro (h | h)
        · exact h
        · exact absurd rfl (hd x hx x (List.mem_of_mem_take h))
      · exact .inl
    have tr : takenFrom right p = b := taken_take hnr hb fun x hx => by
      rw [hp x]
      constructor
      · rintro (h | h)
        · exact absurd rfl (hd x (List.mem_of_mem_take h) x hx)
        · exact h
      · exact .inr
    have e0 : sweepFrom left right (n + 1) [p] = sweepFrom left right n (longer1 left p) ++ sweepFrom left right n (longer1 right p) := by
      show sweepFrom left right n ([p].flatMap (longer left right)) = _
      rw [List.flatMap_cons, List.flatMap_nil, List.append_nil]
      exact sweepFrom_append _ _ _ _ _
    have eL : sweepFrom left right n (longer1 left p) = (match left.drop a with | [] => [] | i :: rest => (mergings n rest (right.drop b)).map fun route => i :: route).map (p ++ ·) := by
      unfold longer1
      rw [tl]
      cases h : left[a]? with
      | none =>
        have : left.length ≤ a := List.getElem?_eq_none_iff.mp h
        rw [List.drop_eq_nil_of_le this]
        exact sweepFrom_nil _ _ _
      | some x =>
        obtain ⟨h1, h2⟩ := List.getElem?_eq_some_iff.mp h
        rw [List.drop_eq_getElem_cons h1, h2]
        show sweepFrom left right n [p ++ [x]] = _
        rw [sweepFrom_merge hn n (a + 1) b (p ++ [x]) (by omega) hb (fun y => ?_)]
        · simp
        · rw [take_more h]
          simp only [List.mem_append, hp y, List.mem_singleton]
          constructor
          · rintro ((h | h) | h)
            · exact .inl (.inl h)
            · exact .inr h
            · exact .inl (.inr h)
          · rintro ((h | h) | h)
            · exact .inl (.inl h)
            · exact .inr h
            · exact .inl (.inr h)
    have eR : sweepFrom left right n (longer1 right p) = (match right.drop b with | [] => [] | i :: rest => (mergings n (left.drop a) rest).map fun route => i :: route).map (p ++ ·) := by
      unfold longer1
      rw [tr]
      cases h : right[b]? with
      | none =>
        have : right.length ≤ b := List.getElem?_eq_none_iff.mp h
        rw [List.drop_eq_nil_of_le this]
        exact sweepFrom_nil _ _ _
      | some x =>
        obtain ⟨h1, h2⟩ := List.getElem?_eq_some_iff.mp h
        rw [List.drop_eq_getElem_cons h1, h2]
        show sweepFrom left right n [p ++ [x]] = _
        rw [sweepFrom_merge hn n a (b + 1) (p ++ [x]) ha (by omega) (fun y => ?_)]
        · simp
        · rw [take_more h]
          simp only [List.mem_append, hp y, List.mem_singleton]
          constructor
          · rintro ((h | h) | h)
            · exact .inl h
            · exact .inr (.inl h)
            · exact .inr (.inr h)
          · rintro (h | (h | h))
            · exact .inl (.inl h)
            · exact .inl (.inr h)
            · exact .inr h
    rw [e0, eL, eR, ← List.map_append]
    rfl
theorem sweep_is {left right : List Nat} (hn : (left ++ right).Nodup) (n : Nat) : sweep left right n = mergings n left right := by
  rw [sweep_eq, sweepFrom_merge hn n 0 0 [] (Nat.zero_le _) (Nat.zero_le _) (fun x => by simp)]
  simp

/-! ### how many routes, how long -/
theorem sweep_len_le {left right : List Nat} : ∀ n, (sweep left right n).length ≤ 2 ^ n
  | 0 => Nat.le_refl _
  | n + 1 => by
    have h1 : ∀ L : List (List Nat), (sweepStep left right L).length ≤ 2 * L.length := by
      intro L
      induction L with
      | nil => exact Nat.le_refl _
      | cons x r ih =>
        show (longer left right x ++ r.flatMap (longer left right)).length ≤ _
        have q1 : ∀ l, (longer1 l x).length ≤ 1 := by
          intro l
          unfold longer1
          split <;> simp
        have q : (longer left right x).length ≤ 2 := by
          unfold longer
          rw [List.length_append]
          have := q1 left
          have := q1 right
          omega
        rw [List.length_append, List.length_cons]
        have : (r.flatMap (longer left right)).length ≤ 2 * r.length := ih
        omega
    have h2 := sweep_len_le (left := left) (right := right) n
    have h3 := h1 (sweep left right n)
    show (sweepStep left right (sweep left right n)).length ≤ 2 ^ (n + 1)
    rw [Nat.pow_succ]
    omega
theorem sweep_item {left right : List Nat} : ∀ n, ∀ r ∈ sweep left right n, r.length = n ∧ ∀ x ∈ r, x ∈ left ∨ x ∈ right
  | 0, r, h => by
    have : r = [] := by simpa [sweep] using h
    subst this
    simp
  | n + 1, r, h => by
    have h' : r ∈ (sweep left right n).flatMap (longer left right) := h
    rw [List.mem_flatMap] at h'
    obtain ⟨q, hq, hr⟩ := h'
    obtain ⟨e1, e2⟩ := sweep_item n q hq
    have one : ∀ l, r ∈ longer1 l q → ∃ x ∈ l, r = q ++ [x] := by
      intro l hl
      unfold longer1 at hl
      split at hl
      · cases hl
      · rename_i x hx
        exact ⟨x, List.mem_of_getElem? hx, by simpa using hl⟩
    unfold longer at hr
    rw [List.mem_append] at hr
    rcases hr with hr | hr
    · obtain ⟨x, hx, rfl⟩ := one _ hr
      refine ⟨by simp [e1], fun y hy => ?_⟩
      rw [List.mem_append, List.mem_singleton] at hy
      rcases hy with hy | rfl
      · exact e2 y hy
      · exact .inl hx
    · obtain ⟨x, hx, rfl⟩ := one _ hr
      refine ⟨by simp [e1], fun y hy => ?_⟩
      rw [List.mem_append, List.mem_singleton] at hy
      rcases hy with hy | rfl
      · exact e2 y hy
      · exact .inr hx
end Bs

/-! ## BsMath2 -/
set_option Elab.async false
set_option linter.all false
namespace Bs
open Sr100 SrCommon

/-! ### sums -/
theorem foldl_add : ∀ (l : List Nat) (a : Nat), l.foldl (· + ·) a = a + l.sum
  | [], a => by simp
  | x :: l, a => by rw [List.foldl_cons, foldl_add l, List.sum_cons]; omega
theorem sum_is (l : List Nat) : SrCommon.sum l = l.sum := by
  show l.foldl (· + ·) 0 = _
  rw [foldl_add]
  omega
theorem sum_ints : ∀ (l : List Nat), (natsToInts l).sum = (SrCommon.sum l : Int)
  | [] => rfl
  | x :: l => by
    have ih := sum_ints l
    rw [sum_is] at *
    show ((x : Int) :: natsToInts l).sum = _
    rw [List.sum_cons, ih, List.sum_cons]
    simp
theorem loaves_perm {s : Street} {l m : List Nat} (h : l.Perm m) : totalLoaves s l = totalLoaves s m := by
  unfold totalLoaves
  rw [sum_is, sum_is]
  exact (h.map _).sum_nat

/-! ### by distance -/
def lexLe (p q : Int × Int) : Prop := p.1 < q.1 ∨ (p.1 = q.1 ∧ p.2 ≤ q.2)
def dI (s : Street) (i : Nat) : Int × Int := (((shopAt s i).position.natAbs : Int), (i : Int))
theorem ins_perm (s : Street) (i : Nat) : ∀ l, (insertByDistance s i l).Perm (i :: l)
  | [] => List.Perm.refl _
  | j :: r => by
    unfold insertByDistance
    split
    · exact List.Perm.refl _
    · exact ((ins_perm s i r).cons j).trans (List.Perm.swap i j r)
theorem ins_sorted (s : Street) (i : Nat) : ∀ l, (l.map (dI s)).Pairwise lexLe → (∀ j ∈ l, j < i) → ((insertByDistance s i l).map (dI s)).Pairwise lexLe
  | [], _, _ => by simp [insertByDistance]
  | j :: r, h, hl => by
    unfold insertByDistance
    rw [List.map_cons, List.pairwise_cons] at h
    split
    · rename_i c
      rw [List.map_cons, List.pairwise_cons]
      refine ⟨fun y hy => ?_, by rw [List.map_cons, List.pairwise_cons]; exact h⟩
      rw [List.map_cons, List.mem_cons] at hy
      rcases hy with rfl | hy
      · exact .inl (by show ((shopAt s i).position.natAbs : Int) < ((shopAt s j).position.natAbs : Int); omega)
      · have := h.1 y hy
        have c' : ((shopAt s i).position.natAbs : Int) < ((shopAt s j).position.natAbs : Int) := by omega
        rcases this with q | ⟨q, _⟩
        · exact .inl (Int.lt_trans c' q)
        · exact .inl (by rw [← q]; exact c')
    · rename_i c
      rw [List.map_cons, List.pairwise_cons]
      refine ⟨fun y hy => ?_, ins_sorted s i r h.2 fun k hk => hl k (List.mem_cons_of_mem _ hk)⟩
      rw [List.mem_map] at hy
      obtain ⟨k, hk, rfl⟩ := hy
      have hk' := (ins_perm s i r).mem_iff.mp hk
      rw [List.mem_cons] at hk'
      rcases hk' with rfl | hk'
      · have hj := hl j List.mem_cons_self
        show ((shopAt s j).position.natAbs : Int) < ((shopAt s k).position.natAbs : Int) ∨ _ = _ ∧ (j : Int) ≤ (k : Int)
        have e : (shopAt s j).position.natAbs ≤ (shopAt s k).position.natAbs := by omega
        by_cases e2 : (shopAt s j).position.natAbs = (shopAt s k).position.natAbs
        · exact .inr ⟨by show ((shopAt s j).position.natAbs : Int) = ((shopAt s k).position.natAbs : Int); omega, by omega⟩
        · exact .inl (by omega)
      · exact h.1 _ (List.mem_map.mpr ⟨k, hk', rfl⟩)
theorem sortD_step (s : Street) : ∀ (sm acc : List Nat), (acc.map (dI s)).Pairwise lexLe → sm.Pairwise (· < ·) → (∀ a ∈ acc, ∀ b ∈ sm, a < b) →
    ((sm.foldl (fun sorted i => insertByDistance s i sorted) acc).map (dI s)).Pairwise lexLe ∧ (sm.foldl (fun sorted i => insertByDistance s i sorted) acc).Perm (acc ++ sm)
  | [], acc, h, _, _ => ⟨h, by simp⟩
  | i :: r, acc, h, hp, hl => by
    rw [List.pairwise_cons] at hp
    obtain ⟨q1, q2⟩ := sortD_step s r (insertByDistance s i acc) (ins_sorted s i acc h fun j hj => hl j hj i List.mem_cons_self) hp.2 fun a ha b hb => by
      have := (ins_perm s i acc).mem_iff.mp ha
      rw [List.mem_cons] at this
      rcases this with rfl | this
      · exact hp.1 b hb
      · exact hl a this b (List.mem_cons_of_mem _ hb)
    refine ⟨q1, q2.trans ?_⟩
    refine ((ins_perm s i acc).append_right r).trans ?_
    exact (List.perm_middle (l₁ := acc) (l₂ := r) (a := i)).symm
theorem sortD_perm (s : Street) {sm : List Nat} (h : sm.Pairwise (· < ·)) : (sortByDistance s sm).Perm sm := (sortD_step s sm [] (by simp) h (by simp)).2
theorem sortD_sorted (s : Street) {sm : List Nat} (h : sm.Pairwise (· < ·)) : ((sortByDistance s sm).map (dI s)).Pairwise lexLe := (sortD_step s sm [] (by simp) h (by simp)).1
/-- there is one sorted list of the pairs -/
theorem sortD_uniq (s : Street) {sm : List Nat} (h : sm.Pairwise (· < ·)) {P : List (Int × Int)} (hp : P.Perm (sm.map (dI s))) (hs : P.Pairwise lexLe) : P = (sortByDistance s sm).map (dI s) := by
  refine List.Perm.eq_of_pairwise (le := lexLe) (fun a b _ _ h1 h2 => ?_) hs (sortD_sorted s h) (hp.trans ((sortD_perm s h).symm.map _))
  obtain ⟨a1, a2⟩ := a
  obtain ⟨b1, b2⟩ := b
  have e1 : a1 = b1 := by
    rcases h1 with h1 | h1 <;> rcases h2 with h2 | h2
    · have := Int.lt_trans h1 h2; simp at this
    · have h1 : a1 < b1 := h1; have h2 : b1 = a1 ∧ _ := h2; omega
    · exact h1.1
    · exact h1.1
  have e2 : a2 = b2 := by
    rcases h1 with h1 | h1
    · have h1 : a1 < b1 := h1; omega
    · rcases h2 with h2 | h2
      · have h2 : b1 < a1 := h2; omega
      · have h1 : a2 ≤ b2 := h1.2
        have h2 : b2 ≤ a2 := h2.2
        omega
  rw [e1, e2]

/-! ### the sides -/
theorem left_perm (s : Street) {sm : List Nat} (h : sm.Pairwise (· < ·)) : (leftShops s sm).Perm (sm.filter fun i => (shopAt s i).position < 0) := sortD_perm s (h.sublist List.filter_sublist)
theorem right_perm (s : Street) {sm : List Nat} (h : sm.Pairwise (· < ·)) : (rightShops s sm).Perm (sm.filter fun i => 0 ≤ (shopAt s i).position) := sortD_perm s (h.sublist List.filter_sublist)
theorem sides_perm (s : Street) {sm : List Nat} (h : sm.Pairwise (· < ·)) : (leftShops s sm ++ rightShops s sm).Perm sm := by
  refine (((left_perm s h).append_right _).trans ((right_perm s h).append_left _)).trans ?_
  have e : (fun i => decide (0 ≤ (shopAt s i).position)) = fun i => !decide ((shopAt s i).position < 0) := by
    funext i
    rw [← decide_not]
    exact decide_eq_decide.mpr (by omega)
  rw [e]
  exact List.filter_append_perm _ _
theorem sides_nodup (s : Street) {sm : List Nat} (h : sm.Pairwise (· < ·)) : (leftShops s sm ++ rightShops s sm).Nodup :=
  (sides_perm s h).nodup_iff.mpr (h.imp fun h => Nat.ne_of_lt h)
/-- all sweeping routes, breadth first -/
theorem sweep_routes (s : Street) {sm : List Nat} (h : sm.Pairwise (· < ·)) : sweep (leftShops s sm) (rightShops s sm) sm.length = sweepingRoutes s sm := sweep_is (sides_nodup s h) _

/-! ### each merging is a rearrangement -/
theorem merge_perm : ∀ (n : Nat) (l r : List Nat), n = l.length + r.length → ∀ q ∈ mergings n l r, q.Perm (l ++ r)
  | 0, l, r, hn, q, hq => by
    have hq' : q = [] := by simpa [mergings] using hq
    have : l = [] := List.eq_nil_of_length_eq_zero (by omega)
    subst this
    have : r = [] := List.eq_nil_of_length_eq_zero (by omega)
    subst this
    rw [hq']
    exact List.Perm.refl _
  | n + 1, l, r, hn, q, hq => by
    unfold mergings at hq
    rw [List.mem_append] at hq
    rcases hq with hq | hq
    · cases l with
      | nil => cases hq
      | cons i l =>
        have hq : q ∈ (mergings n l r).map fun route => i :: route := hq
        rw [List.mem_map] at hq
        obtain ⟨t, ht, rfl⟩ := hq
        exact (merge_perm n l r (by simp at hn; omega) t ht).cons i
    · cases r with
      | nil => cases hq
      | cons i r =>
        have hq : q ∈ (mergings n l r).map fun route => i :: route := hq
        rw [List.mem_map] at hq
        obtain ⟨t, ht, rfl⟩ := hq
        exact ((merge_perm n l r (by simp at hn; omega) t ht).cons i).trans List.perm_middle.symm
theorem merge_ne : ∀ (n : Nat) (l r : List Nat), n = l.length + r.length → mergings n l r ≠ []
  | 0, l, r, hn => by simp [mergings]
  | n + 1, l, r, hn => by
    unfold mergings
    cases l with
    | cons i l =>
      have := merge_ne n l r (by simp at hn; omega)
      simp [this]
    | nil =>
      cases r with
      | nil => simp at hn
      | cons i r =>
        have := merge_ne n [] r (by simp at hn ⊢; omega)
        simp [this]
theorem route_perm (s : Street) {sm r : List Nat} (h : sm.Pairwise (· < ·)) (hr : r ∈ sweepingRoutes s sm) : r.Perm sm := by
  have e : sm.length = (leftShops s sm).length + (rightShops s sm).length := by
    rw [← List.length_append]
    exact (sides_perm s h).length_eq.symm
  unfold sweepingRoutes at hr
  exact (merge_perm _ _ _ e r hr).trans (sides_perm s h)
theorem routes_ne (s : Street) {sm : List Nat} (h : sm.Pairwise (· < ·)) : sweepingRoutes s sm ≠ [] := by
  have e : sm.length = (leftShops s sm).length + (rightShops s sm).length := by
    rw [← List.length_append]
    exact (sides_perm s h).length_eq.symm
  exact merge_ne _ _ _ e

/-! ### the best route -/
def better (s : Street) (best : Option (List Nat)) (route : List Nat) : Option (List Nat) := match best with
  | none => some route
  | some b => if finishTime s route < finishTime s b then some route else some b
def bestStep (s : Street) (best : Option (List Nat)) (route : List Nat) : Option (List Nat) := if isOnTime s route = true then better s best route else best
theorem best_is (s : Street) (sm : List Nat) : bestRoute s sm = (sweepingRoutes s sm).foldl (bestStep s) none := by
  unfold bestRoute
  rw [List.foldl_filter]
  rfl
theorem bestStep_cases (s : Street) (b : Option (List Nat)) (r : List Nat) : bestStep s b r = some r ∧ isOnTime s r = true ∨ bestStep s b r = b ∧ (isOnTime s r = true → b ≠ none) := by
  unfold bestStep
  by_cases h : isOnTime s r = true
  · rw [if_pos h]
    cases b with
    | none => exact .inl ⟨rfl, h⟩
    | some b =>
      unfold better
      dsimp only
      split
      · exact .inl ⟨rfl, h⟩
      · exact .inr ⟨rfl, fun _ q => nomatch q⟩
  · rw [if_neg h]
    exact .inr ⟨rfl, fun q => absurd q h⟩
theorem best_fold (s : Street) : ∀ (L : List (List Nat)) (b : Option (List Nat)), (∀ r, L.foldl (bestStep s) b = some r → b = some r ∨ (r ∈ L ∧ isOnTime s r = true)) ∧
    ((L.foldl (bestStep s) b = none) ↔ (b = none ∧ ∀ r ∈ L, ¬ isOnTime s r = true))
  | [], b => ⟨fun r h => .inl h, by simp⟩
  | x :: L, b => by
    obtain ⟨h1, h2⟩ := best_fold s L (bestStep s b x)
    refine ⟨fun r h => ?_, ?_⟩
    · rcases h1 r h with q | ⟨q, q2⟩
      · rcases bestStep_cases s b x with ⟨e, t⟩ | ⟨e, t⟩
        · rw [e] at q
          cases q
          exact .inr ⟨List.mem_cons_self, t⟩
        · rw [e] at q
          exact .inl q
      · exact .inr ⟨List.mem_cons_of_mem _ q, q2⟩
    · rw [List.foldl_cons, h2]
      constructor
      · rintro ⟨q, q2⟩
        rcases bestStep_cases s b x with ⟨e, t⟩ | ⟨e, t⟩
        · rw [e] at q; cases q
        · rw [e] at q
          refine ⟨q, fun r hr => ?_⟩
          rw [List.mem_cons] at hr
          rcases hr with rfl | hr
          · exact fun z => t z q
          · exact q2 r hr
      · rintro ⟨rfl, q⟩
        refine ⟨?_, fun r hr => q r (List.mem_cons_of_mem _ hr)⟩
        unfold bestStep
        rw [if_neg (q x List.mem_cons_self)]
theorem best_mem (s : Street) {sm r : List Nat} (h : bestRoute s sm = some r) : r ∈ sweepingRoutes s sm ∧ isOnTime s r = true := by
  rw [best_is] at h
  rcases (best_fold s _ _).1 r h with q | q
  · cases q
  · exact q
theorem best_some (s : Street) (sm : List Nat) : (bestRoute s sm).isSome = true ↔ ∃ r ∈ sweepingRoutes s sm, isOnTime s r = true := by
  have h := (best_fold s (sweepingRoutes s sm) none).2
  rw [← best_is] at h
  cases e : bestRoute s sm with
  | none =>
    have := (h.mp e).2
    simp only [Option.isSome_none, Bool.false_eq_true, false_iff, not_exists, not_and]
    exact this
  | some r =>
    simp only [Option.isSome_some, true_iff]
    exact ⟨r, best_mem s e⟩

/-! ### times -/
def stepAt (s : Street) (st : Int × Nat) (i : Nat) : Int × Nat := ((shopAt s i).position, st.2 + distance st.1 (shopAt s i).position)
def endAt (s : Street) (l : List Nat) (st : Int × Nat) : Int × Nat := l.foldl (stepAt s) st
theorem arr_more (s : Street) (x : Nat) : ∀ (l : List Nat) (p : Int) (t : Nat), arrivalTimesFrom s (l ++ [x]) p t = arrivalTimesFrom s l p t ++ [(endAt s (l ++ [x]) (p, t)).2]
  | [], p, t => rfl
  | i :: l, p, t => by
    have ih := arr_more s x l (shopAt s i).position (t + distance p (shopAt s i).position)
    show _ :: arrivalTimesFrom s (l ++ [x]) _ _ = _
    rw [ih]
    rfl
theorem arr_len (s : Street) : ∀ (l : List Nat) (p : Int) (t : Nat), (arrivalTimesFrom s l p t).length = l.length
  | [], _, _ => rfl
  | i :: l, p, t => congrArg (· + 1) (arr_len s l _ _)
theorem end_more (s : Street) (l : List Nat) (x : Nat) (st : Int × Nat) : endAt s (l ++ [x]) st = stepAt s (endAt s l st) x := by
  unfold endAt
  rw [List.foldl_append]
  rfl
/-- a later departure -/
theorem arr_shift (s : Street) : ∀ (l : List Nat) (p : Int) (t : Nat), arrivalTimesFrom s l p t = (arrivalTimesFrom s l p 0).map (· + t)
  | [], _, _ => rfl
  | i :: l, p, t => by
    show _ :: arrivalTimesFrom s l _ _ = (_ :: arrivalTimesFrom s l _ _).map _
    rw [arr_shift s l _ (t + _), arr_shift s l _ (0 + _), List.map_cons, List.map_map]
    refine congr (congrArg _ ?_) ?_
    · omega
    · apply List.map_congr_left
      intro a _
      show a + (t + _) = a + (0 + _) + t
      omega
theorem shopAt_dep (s : Street) (t i : Nat) : shopAt { s with departure := t } i = shopAt s i := rfl
theorem arr_dep (s : Street) (d : Nat) : ∀ (l : List Nat) (p : Int) (t : Nat), arrivalTimesFrom { s with departure := d } l p t = arrivalTimesFrom s l p t
  | [], _, _ => rfl
  | i :: l, p, t => congrArg _ (arr_dep s d l _ _)
theorem ins_dep (s : Street) (t i : Nat) : ∀ l, insertByDistance { s with departure := t } i l = insertByDistance s i l
  | [] => rfl
  | j :: r => by
    unfold insertByDistance
    rw [ins_dep s t i r]
    rfl
theorem sort_dep (s : Street) (t : Nat) (l : List Nat) : sortByDistance { s with departure := t } l = sortByDistance s l := by
  unfold sortByDistance
  congr 1
  funext a i
  exact ins_dep s t i a
theorem routes_dep (s : Street) (t : Nat) (sm : List Nat) : sweepingRoutes { s with departure := t } sm = sweepingRoutes s sm := by
  unfold sweepingRoutes leftShops rightShops
  rw [sort_dep s t, sort_dep s t]
  rfl

/-! ### the latest departure -/
/-- the latest departure for a route -/
def lateStep (s : Street) (f : Int) (y : Nat × Nat) : Int := if ((shopAt s y.1).deadline : Int) - (y.2 : Int) < f then ((shopAt s y.1).deadline : Int) - (y.2 : Int) else f
def latestFor (s : Street) (route : List Nat) : Int := (route.zip (arrivalTimesFrom s route 0 0)).foldl (lateStep s) 299
theorem late_fold (s : Street) (t : Int) : ∀ (L : List (Nat × Nat)) (f : Int), t ≤ L.foldl (lateStep s) f ↔ t ≤ f ∧ ∀ y ∈ L, t ≤ ((shopAt s y.1).deadline : Int) - (y.2 : Int)
  | [], f => by simp
  | y :: L, f => by
    rw [List.foldl_cons, late_fold s t L]
    unfold lateStep
    rw [List.forall_mem_cons]
    split
    · constructor
      · rintro ⟨h1, h2⟩; exact ⟨by omega, by omega, h2⟩
      · rintro ⟨h1, h2, h3⟩; exact ⟨h2, h3⟩
    · constructor
      · rintro ⟨h1, h2⟩; exact ⟨by omega, by omega, h2⟩
      · rintro ⟨h1, h2, h3⟩; exact ⟨h1, h3⟩
theorem onTime_late (s : Street) (route : List Nat) (t : Nat) (ht : t ≤ 299) : isOnTime { s with departure := t } route = true ↔ (t : Int) ≤ latestFor s route := by
  unfold latestFor
  rw [late_fold]
  unfold isOnTime arrivalTimes
  rw [arr_dep, arr_shift, List.all_eq_true, List.zip_map_right]
  constructor
  · intro h
    refine ⟨by omega, fun y hy => ?_⟩
    have := h (y.1, y.2 + t) (List.mem_map.mpr ⟨y, hy, rfl⟩)
    rw [decide_eq_true_eq] at this
    have : y.2 + t ≤ (shopAt s y.1).deadline := this
    omega
  · rintro ⟨_, h⟩ z hz
    obtain ⟨y, hy, rfl⟩ := List.mem_map.mp hz
    have := h y hy
    rw [decide_eq_true_eq]
    show y.2 + t ≤ (shopAt s y.1).deadline
    omega
theorem late_le (s : Street) (route : List Nat) : latestFor s route ≤ 299 := (late_fold s _ _ _).mp (Int.le_refl _) |>.1
theorem find_rev (p : Nat → Bool) (M : Int) : ∀ n : Nat, M < n → (∀ t < n, p t = true ↔ (t : Int) ≤ M) → (List.range n).reverse.find? p = if 0 ≤ M then some M.toNat else none
  | 0, h, _ => by
    have : ¬ 0 ≤ M := by omega
    rw [if_neg this]
    rfl
  | n + 1, h, hp => by
    rw [List.range_succ, List.reverse_append]
    show (n :: (List.range n).reverse).find? p = _
    by_cases e : p n = true
    · rw [List.find?_cons_of_pos e]
      have := (hp n (Nat.lt_succ_self n)).mp e
      rw [if_pos (by omega)]
      congr 1
      omega
    · rw [List.find?_cons_of_neg e]
      have h1 : ¬ (n : Int) ≤ M := fun q => e ((hp n (Nat.lt_succ_self n)).mpr q)
      exact find_rev p M n (by omega) fun t ht => hp t (Nat.lt_succ_of_lt ht)
theorem latest_is (s : Street) (m : Int) (hm : ∃ r ∈ sweepingRoutes s (allShops s), latestFor s r = m) (hu : ∀ r ∈ sweepingRoutes s (allShops s), latestFor s r ≤ m) : latestDeparture s = if 0 ≤ m then some m.toNat else none := by
  unfold latestDeparture
  obtain ⟨r0, hr0, e0⟩ := hm
  have h299 := late_le s r0
  apply find_rev
  · omega
  · intro t ht
    rw [best_some, routes_dep]
    constructor
    · rintro ⟨r, hr, h⟩
      exact Int.le_trans ((onTime_late s r t (by omega)).mp h) (hu r hr)
    · intro h
      exact ⟨r0, hr0, (onTime_late s r0 t (by omega)).mpr (by omega)⟩

/-! ### the richest set -/
theorem mask_sorted (n x : Nat) : (maskMembers n x).Pairwise (· < ·) := List.pairwise_lt_range.sublist List.filter_sublist
theorem mask_lt {n x i : Nat} (h : i ∈ maskMembers n x) : i < n := List.mem_range.mp (List.mem_filter.mp h).1
/-- one turn: the best set and its best route -/
def richStep (s : Street) (best : List Nat) (x : Nat) : List Nat :=
  if totalLoaves s best < totalLoaves s (maskMembers s.shops.length x) ∧ (bestRoute s (maskMembers s.shops.length x)).isSome = true then maskMembers s.shops.length x else best
def richAt (s : Street) (k : Nat) : List Nat := (List.range k).foldl (richStep s) []
theorem rich_is (s : Street) : bestShops s = richAt s (2 ^ s.shops.length) := rfl
theorem rich_more (s : Street) (k : Nat) : richAt s (k + 1) = richStep s (richAt s k) k := by
  unfold richAt
  rw [List.range_succ, List.foldl_append]
  rfl
theorem best_nil (s : Street) : bestRoute s [] = some [] := rfl
theorem rich_ok (s : Street) : ∀ k, (richAt s k).Pairwise (· < ·) ∧ (∀ i ∈ richAt s k, i < s.shops.length) ∧ ∃ r, bestRoute s (richAt s k) = some r
  | 0 => ⟨List.Pairwise.nil, fun i h => (List.not_mem_nil h).elim, [], rfl⟩
  | k + 1 => by
    rw [rich_more]
    unfold richStep
    split
    · rename_i h
      exact ⟨mask_sorted _ _, fun i hi => mask_lt hi, Option.isSome_iff_exists.mp h.2⟩
    · exact rich_ok s k
/-- the route that is kept -/
def richRoute (s : Street) (k : Nat) : List Nat := (bestRoute s (richAt s k)).getD []
theorem rich_loaves (s : Street) (k : Nat) : totalLoaves s (richRoute s k) = totalLoaves s (richAt s k) := by
  obtain ⟨h1, _, r, hr⟩ := rich_ok s k
  unfold richRoute
  rw [hr]
  exact loaves_perm (route_perm s h1 (best_mem s hr).1)
theorem rich_lt (s : Street) (k : Nat) : ∀ i ∈ richRoute s k, i < s.shops.length := by
  obtain ⟨h1, h2, r, hr⟩ := rich_ok s k
  unfold richRoute
  rw [hr]
  intro i hi
  exact h2 i ((route_perm s h1 (best_mem s hr).1).mem_iff.mp hi)
theorem rich_turn (s : Street) (k : Nat) : richRoute s (k + 1) =
    if totalLoaves s (richRoute s k) < totalLoaves s (maskMembers s.shops.length k) then (match bestRoute s (maskMembers s.shops.length k) with | none => richRoute s k | some r => r) else richRoute s k := by
  rw [rich_loaves]
  unfold richRoute
  rw [rich_more]
  unfold richStep
  by_cases h : totalLoaves s (richAt s k) < totalLoaves s (maskMembers s.shops.length k)
  · rw [if_pos h]
    cases e : bestRoute s (maskMembers s.shops.length k) with
    | none =>
      rw [if_neg (fun q => by simpa using q.2)]
    | some r =>
      rw [if_pos ⟨h, rfl⟩, e]
      rfl
  · rw [if_neg h, if_neg (fun q => h q.1)]

/-! ### small things -/
theorem all_sorted (s : Street) : (allShops s).Pairwise (· < ·) := List.pairwise_lt_range
theorem without_is (n i : Nat) : (List.range n).eraseIdx i = (List.range n).filter fun j => j != i := by
  induction n with
  | zero => rfl
  | succ n ih =>
    rw [List.range_succ, List.filter_append]
    by_cases h : i < n
    · rw [List.eraseIdx_append_of_lt_length (by simpa using h), ih]
      have : (n != i) = true := by simp; omega
      simp [this]
    · rw [List.eraseIdx_append_of_length_le (by simpa using h), List.length_range]
      have e1 : (List.range n).filter (fun j => j != i) = List.range n := by
        rw [List.filter_eq_self]
        intro a ha
        have := List.mem_range.mp ha
        simp
        omega
      rw [e1]
      by_cases e : i = n
      · subst e
        simp
      · have : (n != i) = true := by simp; omega
        have e3 : i - n = (i - n - 1) + 1 := by omega
        rw [e3]
        simp [this]
theorem without_sorted (n i : Nat) : ((List.range n).filter fun j => j != i).Pairwise (· < ·) := List.pairwise_lt_range.sublist List.filter_sublist
end Bs

/-! ## BsMath3 -/
set_option Elab.async false
set_option linter.all false
namespace Bs
/-- a call's number, its numbers, its route -/
inductive Enc : Sr100.Call → Int → List Int → List Int → Prop
  | create (a : Int) (r : List Int) : Enc (.create a) 0 [a] r
  | addShop (a b c : Int) (r : List Int) : Enc (.addShop a b c) 1 [a, b, c] r
  | removeShop (a : Int) (r : List Int) : Enc (.removeShop a) 2 [a] r
  | setPosition (a b : Int) (r : List Int) : Enc (.setPosition a b) 3 [a, b] r
  | setDeadline (a b : Int) (r : List Int) : Enc (.setDeadline a b) 4 [a, b] r
  | setLoaves (a b : Int) (r : List Int) : Enc (.setLoaves a b) 5 [a, b] r
  | setDeparture (a : Int) (r : List Int) : Enc (.setDeparture a) 6 [a] r
  | earliestFinish (r : List Int) : Enc .earliestFinish 7 [] r
  | bestRoute (r : List Int) : Enc .bestRoute 8 [] r
  | arrivalTimes (r : List Int) : r.length ≤ 4400 → Enc (.arrivalTimes r) 9 [] r
  | checkRoute (r : List Int) : r.length ≤ 4400 → Enc (.checkRoute r) 10 [] r
  | maxLoaves (r : List Int) : Enc .maxLoaves 11 [] r
  | earliestFinishOf (a : Int) (r : List Int) : Enc (.earliestFinishOf a) 12 [a] r
  | latestDeparture (r : List Int) : Enc .latestDeparture 13 [] r
  | returnTime (r : List Int) : Enc .returnTime 14 [] r
  | earliestFinishWithout (a : Int) (r : List Int) : Enc (.earliestFinishWithout a) 15 [a] r
  | describe (r : List Int) : Enc .describe 16 [] r

/-- how many numbers a call has -/
def NUM : List Int := [1, 3, 1, 2, 2, 2, 1, 0, 0, 0, 0, 0, 1, 0, 0, 1, 0]
/-- a call that stands at the list's begin: its number p, the rest r behind it; n numbers, a route or none; t is what comes behind -/
structure One (p : Int) (r : List Int) (c : List (List Int)) (t : List Int) (n : Nat) (call : Sr100.Call) : Prop where
  num : ∃ k : Nat, p = (k : Int) ∧ NUM[k]? = some (n : Int)
  le : n ≤ r.length
  parse : Sr100Neutral.parseCall c = some call
  way : ((p ≠ 9 ∧ p ≠ 10) ∧ t = r.drop n ∧ ∀ rl, Enc call p (r.take n) rl) ∨
    ((p = 9 ∨ p = 10) ∧ n = 0 ∧ ∃ (m : Int) (r' : List Int), r = m :: r' ∧ 0 ≤ m ∧ m.toNat ≤ r'.length ∧ t = r'.drop m.toNat ∧ (r'.length ≤ 4400 → Enc call p (r.take n) (r'.take m.toNat)))
theorem one_of {p : Int} {r : List Int} {c : List (List Int)} {t : List Int} (h : PyFlat.call PySr100.shape (p :: r) = some (c, t)) : ∃ n call, One p r c t n call := by
  have rows0 : ∀ (k : Nat) (n : Nat) (call : List Int → Sr100.Call) (hk : NUM[k]? = some (n : Int)) (hp : p = (k : Int)) (h9 : k ≠ 9 ∧ k ≠ 10) (hs : PySr100.shape p = some (n, 0))
      (hparse : ∀ g : List Int, g.length = n → Sr100Neutral.parseCall [p :: g] = some (call g) ∧ ∀ rl, Enc (call g) p g rl), ∃ n call, One p r c t n call := by
    intro k n call hk hp h9 hs hparse
    unfold PyFlat.call at h
    dsimp only at h
    rw [hs] at h
    dsimp only at h
    split at h
    · cases h
    · rename_i hlen
      unfold PyFlat.rows at h
      have h := Option.some.inj h
      have e1 : [p :: r.take n] = c := congrArg Prod.fst h
      have e2 : r.drop n = t := congrArg Prod.snd h
      have hg : (r.take n).length = n := by rw [List.length_take]; omega
      obtain ⟨q1, q2⟩ := hparse (r.take n) hg
      exact ⟨n, call (r.take n), ⟨k, hp, hk⟩, by omega, by rw [← e1]; exact q1, .inl ⟨by omega, e2.symm, q2⟩⟩
  have rows1 : ∀ (k : Nat) (call : List Int → Sr100.Call) (hk : NUM[k]? = some 0) (hp : p = (k : Int)) (h9 : k = 9 ∨ k = 10) (hs : PySr100.shape p = some (0, 1))
      (hparse : ∀ g : List Int, Sr100Neutral.parseCall [[p], g] = some (call g) ∧ (g.length ≤ 4400 → Enc (call g) p [] g)), ∃ n call, One p r c t n call := by
    intro k call hk hp h9 hs hparse
    unfold PyFlat.call at h
    dsimp only at h
    rw [hs] at h
    dsimp only at h
    rw [if_neg (Nat.not_lt_zero _), List.drop_zero, List.take_zero] at h
    unfold PyFlat.rows at h
    cases r with
    | nil => cases h
    | cons m r' =>
      unfold PyFlat.row at h
      dsimp only at h
      by_cases hm : 0 ≤ m ∧ m.toNat ≤ r'.length
      · rw [if_pos hm] at h
        unfold PyFlat.rows at h
        dsimp only at h
        have h := Option.some.inj h
        have e1 : [[p], r'.take m.toNat] = c := congrArg Prod.fst h
        have e2 : r'.drop m.toNat = t := congrArg Prod.snd h
        obtain ⟨q1, q2⟩ := hparse (r'.take m.toNat)
        exact ⟨0, call (r'.take m.toNat), ⟨k, hp, hk⟩, Nat.zero_le _, by rw [← e1]; exact q1, .inr ⟨by omega, rfl, m, r', rfl, hm.1, hm.2, e2.symm, fun hl => q2 (by rw [List.length_take]; omega)⟩⟩
      · rw [if_neg hm] at h
        cases h
  have len0 : ∀ g : List Int, g.length = 0 → g = [] := fun g h => List.eq_nil_of_length_eq_zero h
  have len1 : ∀ g : List Int, g.length = 1 → ∃ a, g = [a] := fun g h => by
    match g, h with
    | [a], _ => exact ⟨a, rfl⟩
  have len2 : ∀ g : List Int, g.length = 2 → ∃ a b, g = [a, b] := fun g h => by
    match g, h with
    | [a, b], _ => exact ⟨a, b, rfl⟩
  have len3 : ∀ g : List Int, g.length = 3 → ∃ a b c, g = [a, b, c] := fun g h => by
    match g, h with
    | [a, b, c], _ => exact ⟨a, b, c, rfl⟩
  by_cases h0 : p = 0
  · subst h0
    exact rows0 0 1 (fun g => .create (g.getD 0 0)) rfl rfl (by decide) rfl fun g hg => by
      obtain ⟨a, rfl⟩ := len1 g hg
      exact ⟨rfl, fun rl => .create a rl⟩
  by_cases h1 : p = 1
  · subst h1
    exact rows0 1 3 (fun g => .addShop (g.getD 0 0) (g.getD 1 0) (g.getD 2 0)) rfl rfl (by decide) rfl fun g hg => by
      obtain ⟨a, b, c, rfl⟩ := len3 g hg
      exact ⟨rfl, fun rl => .addShop a b c rl⟩
  by_cases h2 : p = 2
  · subst h2
    exact rows0 2 1 (fun g => .removeShop (g.getD 0 0)) rfl rfl (by decide) rfl fun g hg => by
      obtain ⟨a, rfl⟩ := len1 g hg
      exact ⟨rfl, fun rl => .removeShop a rl⟩
  by_cases h3 : p = 3
  · subst h3
    exact rows0 3 2 (fun g => .setPosition (g.getD 0 0) (g.getD 1 0)) rfl rfl (by decide) rfl fun g hg => by
      obtain ⟨a, b, rfl⟩ := len2 g hg
      exact ⟨rfl, fun rl => .setPosition a b rl⟩
  by_cases h4 : p = 4
  · subst h4
    exact rows0 4 2 (fun g => .setDeadline (g.getD 0 0) (g.getD 1 0)) rfl rfl (by decide) rfl fun g hg => by
      obtain ⟨a, b, rfl⟩ := len2 g hg
      exact ⟨rfl, fun rl => .setDeadline a b rl⟩
  by_cases h5 : p = 5
  · subst h5
    exact rows0 5 2 (fun g => .setLoaves (g.getD 0 0) (g.getD 1 0)) rfl rfl (by decide) rfl fun g hg => by
      obtain ⟨a, b, rfl⟩ := len2 g hg
      exact ⟨rfl, fun rl => .setLoaves a b rl⟩
  by_cases h6 : p = 6
  · subst h6
    exact rows0 6 1 (fun g => .setDeparture (g.getD 0 0)) rfl rfl (by decide) rfl fun g hg => by
      obtain ⟨a, rfl⟩ := len1 g hg
      exact ⟨rfl, fun rl => .setDeparture a rl⟩
  by_cases h7 : p = 7
  · subst h7
    exact rows0 7 0 (fun _ => .earliestFinish) rfl rfl (by decide) rfl fun g hg => by
      rw [len0 g hg]
      exact ⟨rfl, fun rl => .earliestFinish rl⟩
  by_cases h8 : p = 8
  · subst h8
    exact rows0 8 0 (fun _ => .bestRoute) rfl rfl (by decide) rfl fun g hg => by
      rw [len0 g hg]
      exact ⟨rfl, fun rl => .bestRoute rl⟩
  by_cases h9 : p = 9
  · subst h9
    exact rows1 9 (fun g => .arrivalTimes g) rfl rfl (by decide) rfl fun g => ⟨rfl, fun hl => .arrivalTimes g hl⟩
  by_cases h10 : p = 10
  · subst h10
    exact rows1 10 (fun g => .checkRoute g) rfl rfl (by decide) rfl fun g => ⟨rfl, fun hl => .checkRoute g hl⟩
  by_cases h11 : p = 11
  · subst h11
    exact rows0 11 0 (fun _ => .maxLoaves) rfl rfl (by decide) rfl fun g hg => by
      rw [len0 g hg]
      exact ⟨rfl, fun rl => .maxLoaves rl⟩
  by_cases h12 : p = 12
  · subst h12
    exact rows0 12 1 (fun g => .earliestFinishOf (g.getD 0 0)) rfl rfl (by decide) rfl fun g hg => by
      obtain ⟨a, rfl⟩ := len1 g hg
      exact ⟨rfl, fun rl => .earliestFinishOf a rl⟩
  by_cases h13 : p = 13
  · subst h13
    exact rows0 13 0 (fun _ => .latestDeparture) rfl rfl (by decide) rfl fun g hg => by
      rw [len0 g hg]
      exact ⟨rfl, fun rl => .latestDeparture rl⟩
  by_cases h14 : p = 14
  · subst h14
    exact rows0 14 0 (fun _ => .returnTime) rfl rfl (by decide) rfl fun g hg => by
      rw [len0 g hg]
      exact ⟨rfl, fun rl => .returnTime rl⟩
  by_cases h15 : p = 15
  · subst h15
    exact rows0 15 1 (fun g => .earliestFinishWithout (g.getD 0 0)) rfl rfl (by decide) rfl fun g hg => by
      obtain ⟨a, rfl⟩ := len1 g hg
      exact ⟨rfl, fun rl => .earliestFinishWithout a rl⟩
  by_cases h16 : p = 16
  · subst h16
    exact rows0 16 0 (fun _ => .describe) rfl rfl (by decide) rfl fun g hg => by
      rw [len0 g hg]
      exact ⟨rfl, fun rl => .describe rl⟩
  exfalso
  have hs : PySr100.shape p = none := by
    unfold PySr100.shape
    rw [if_neg h0, if_neg h1, if_neg h2, if_neg h3, if_neg h4, if_neg h5, if_neg h6, if_neg h7, if_neg h8, if_neg h9, if_neg h10, if_neg h11, if_neg h12, if_neg h13, if_neg h14, if_neg h15, if_neg h16]
  unfold PyFlat.call at h
  dsimp only at h
  rw [hs] at h
  cases h

/-! ### the calls one after another -/
theorem calls_nil {f : Nat} {cs : List (List (List Int))} (h : PyFlat.calls PySr100.shape f [] = some cs) : cs = [] := by
  unfold PyFlat.calls at h
  exact (Option.some.inj h).symm
theorem calls_cons {f : Nat} {p : Int} {r : List Int} {cs : List (List (List Int))} (h : PyFlat.calls PySr100.shape f (p :: r) = some cs) :
    ∃ f' c t cs', PyFlat.call PySr100.shape (p :: r) = some (c, t) ∧ PyFlat.calls PySr100.shape f' t = some cs' ∧ cs = c :: cs' := by
  cases f with
  | zero =>
    unfold PyFlat.calls at h
    cases h
  | succ f =>
    unfold PyFlat.calls at h
    cases e : PyFlat.call PySr100.shape (p :: r) with
    | none => rw [e] at h; cases h
    | some ct =>
      obtain ⟨c, t⟩ := ct
      rw [e] at h
      dsimp only at h
      cases e2 : PyFlat.calls PySr100.shape f t with
      | none => rw [e2] at h; cases h
      | some cs' =>
        rw [e2] at h
        exact ⟨f, c, t, cs', rfl, e2, (Option.some.inj h).symm⟩
theorem whole_id (c : List (List Int)) : PySr100.whole c = c := by
  unfold PySr100.whole
  split <;> rfl
theorem map_whole (cs : List (List (List Int))) : cs.map PySr100.whole = cs := by
  have : PySr100.whole = id := by
    funext c
    exact whole_id c
  rw [this, List.map_id]
/-- what is due of the calls that are left -/
def due (st : Sr100.State) (cs : List (List (List Int))) : List Int := PyFlat.told (PyFlat.played Sr100Neutral.step st cs)
theorem due_nil (st : Sr100.State) : due st [] = [] := rfl
theorem due_cons {st : Sr100.State} {c : List (List Int)} {cs : List (List (List Int))} {call : Sr100.Call} (h : Sr100Neutral.parseCall c = some call) :
    due st (c :: cs) = (((Sr100.step st call).2.code :: (Sr100.step st call).2.values).length : Int) :: ((Sr100.step st call).2.code :: (Sr100.step st call).2.values) ++ due (Sr100.step st call).1 cs := by
  have e : Sr100Neutral.step st c = ((Sr100.step st call).1, (Sr100.step st call).2.code :: (Sr100.step st call).2.values) := by
    unfold Sr100Neutral.step
    rw [h]
  show PyFlat.told ((Sr100Neutral.step st c).2 :: PyFlat.played Sr100Neutral.step (Sr100Neutral.step st c).1 cs) = _
  rw [e]
  rfl
theorem answers_due {l : List Int} (h : PySr100.answers_asked l = true) : ∃ cs, PyFlat.calls PySr100.shape l.length l = some cs ∧ PySr100.answers l = due none cs ∧ (PySr100.answers l).length ≤ 10000000 := by
  unfold PySr100.answers_asked at h
  cases e : PyFlat.calls PySr100.shape l.length l with
  | none => rw [e] at h; cases h
  | some raw =>
    rw [e] at h
    dsimp only at h
    rw [Bool.and_eq_true] at h
    refine ⟨raw, rfl, ?_, of_decide_eq_true h.2⟩
    unfold PySr100.answers PySr100.calls
    rw [e]
    dsimp only
    rw [map_whole]
    rfl
section
open Sr100 (Street State)
def stepOf (s : Street) (p : Option Street × SrCommon.Result) : State × SrCommon.Result := match p with
  | (some changed, result) => (some changed, result)
  | (none, result) => (some s, result)
theorem step_is {s : Street} {c : Sr100.Call} (h : ∀ d, c ≠ .create d) : Sr100.step (some s) c = stepOf s (Sr100.perform s c) := by
  cases c <;> first
    | exact absurd rfl (h _)
    | rfl
theorem step_err {s : Street} {c : Sr100.Call} {z : Int} (h : ∀ d, c ≠ .create d) (e : Sr100.perform s c = Sr100.error z) : Sr100.step (some s) c = (some s, .ofCode z) := by
  rw [step_is h, e]
  rfl
theorem step_ok {s s' : Street} {c : Sr100.Call} {r : SrCommon.Result} (h : ∀ d, c ≠ .create d) (e : Sr100.perform s c = (some s', r)) : Sr100.step (some s) c = (some s', r) := by
  rw [step_is h, e]
  rfl
theorem step_ask {s : Street} {c : Sr100.Call} {r : SrCommon.Result} (h : ∀ d, c ≠ .create d) (e : Sr100.perform s c = (none, r)) : Sr100.step (some s) c = (some s, r) := by
  rw [step_is h, e]
  rfl
end
/-- an edit answers one number, a question leaves the instance -/
theorem stepOf_snd (s : Sr100.Street) (p : Option Sr100.Street × SrCommon.Result) : (stepOf s p).2 = p.2 := by
  obtain ⟨o, r⟩ := p
  cases o <;> rfl
theorem edit_values {st : Sr100.State} {c : Sr100.Call} {n : Int} {gl rl : List Int} (h : Enc c n gl rl) (hn : n ≤ 6) : (Sr100.step st c).2.values = [] := by
  have cr : ∀ a, (Sr100.step st (.create a)).2.values = [] := fun a => by
    unfold Sr100.step
    dsimp only
    split <;> rfl
  cases st with
  | none => cases h <;> first | exact cr _ | rfl | omega
  | some s =>
    have go : ∀ c : Sr100.Call, (∀ d, c ≠ .create d) → (Sr100.perform s c).2.values = [] → (Sr100.step (some s) c).2.values = [] := fun c h1 h2 => by
      rw [step_is h1, stepOf_snd]
      exact h2
    cases h with
    | create a => exact cr a
    | addShop a b c =>
      refine go _ (fun _ => by intro h; cases h) ?_
      unfold Sr100.perform
      dsimp only
      split
      · rfl
      · split <;> rfl
    | removeShop a =>
      refine go _ (fun _ => by intro h; cases h) ?_
      unfold Sr100.perform
      dsimp only
      split <;> rfl
    | setPosition a b =>
      refine go _ (fun _ => by intro h; cases h) ?_
      unfold Sr100.perform
      dsimp only
      split
      · rfl
      · split <;> rfl
    | setDeadline a b =>
      refine go _ (fun _ => by intro h; cases h) ?_
      unfold Sr100.perform
      dsimp only
      split
      · rfl
      · split <;> rfl
    | setLoaves a b =>
      refine go _ (fun _ => by intro h; cases h) ?_
      unfold Sr100.perform
      dsimp only
      split
      · rfl
      · split <;> rfl
    | setDeparture a =>
      refine go _ (fun _ => by intro h; cases h) ?_
      unfold Sr100.perform
      dsimp only
      split <;> rfl
    | _ => omega
theorem enc_create {c : Sr100.Call} {n : Int} {gl rl : List Int} (h : Enc c n gl rl) (hn : n ≠ 0) : ∀ d, c ≠ .create d := by
  intro d e
  subst e
  cases h
  exact hn rfl
theorem ask_step {s : Sr100.Street} {c : Sr100.Call} {n : Int} {gl rl : List Int} (h : Enc c n gl rl) (hn : 7 ≤ n) : Sr100.step (some s) c = (some s, (Sr100.perform s c).2) := by
  have e : (Sr100.perform s c).1 = none := by cases h <;> first | omega | rfl
  have e2 : Sr100.perform s c = (none, (Sr100.perform s c).2) := by
    rw [← e]
  exact step_ask (enc_create h (by omega)) e2
theorem none_step {c : Sr100.Call} {n : Int} {gl rl : List Int} (h : Enc c n gl rl) (hn : n ≠ 0) : Sr100.step none c = (none, .ofCode (-11)) := by
  cases h <;> first | exact absurd rfl hn | rfl
end Bs

/-! ## BsText -/
set_option Elab.async false
set_option linter.all false
set_option maxRecDepth 100000
set_option maxHeartbeats 4000000
namespace Bs
open PySem PySem.Spec PyProof.Rows L2
/-! ### the text: the defs of the row's top by their places, their scopes -/
def topS (i : Nat) : Stmt := PySem.Challenge.pw_breadstreet_s01_answers.main.body.getD i (.Pass ⟨0, 0, 0, 0⟩)
abbrev s_is_within : Stmt := topS 10
abbrev N_is_within : List Str := ["value", "low", "high"]
abbrev P_is_within : List Str := ["value", "low", "high"]
theorem sc_is_within : FnScope N_is_within P_is_within (defScope s_is_within) := ⟨rfl, rfl, rfl, by decide +kernel, rfl, by decide +kernel, by decide +kernel⟩
abbrev s_is_index : Stmt := topS 11
abbrev N_is_index : List Str := ["value", "items"]
abbrev P_is_index : List Str := ["value", "items"]
theorem sc_is_index : FnScope N_is_index P_is_index (defScope s_is_index) := ⟨rfl, rfl, rfl, by decide +kernel, rfl, by decide +kernel, by decide +kernel⟩
abbrev s_are_indices : Stmt := topS 12
abbrev N_are_indices : List Str := ["values", "items", "place"]
abbrev P_are_indices : List Str := ["values", "items"]
theorem sc_are_indices : FnScope N_are_indices P_are_indices (defScope s_are_indices) := ⟨rfl, rfl, rfl, by decide +kernel, rfl, by decide +kernel, by decide +kernel⟩
abbrev s_members : Stmt := topS 13
abbrev N_members : List Str := ["mask", "items", "index"]
abbrev P_members : List Str := ["mask", "items"]
theorem sc_members : FnScope N_members P_members (defScope s_members) := ⟨rfl, rfl, rfl, by decide +kernel, rfl, by decide +kernel, by decide +kernel⟩
abbrev s_without : Stmt := topS 14
abbrev N_without : List Str := ["items", "place"]
abbrev P_without : List Str := ["items", "place"]
theorem sc_without : FnScope N_without P_without (defScope s_without) := ⟨rfl, rfl, rfl, by decide +kernel, rfl, by decide +kernel, by decide +kernel⟩
abbrev s_replaced : Stmt := topS 15
abbrev N_replaced : List Str := ["items", "place", "item"]
abbrev P_replaced : List Str := ["items", "place", "item"]
theorem sc_replaced : FnScope N_replaced P_replaced (defScope s_replaced) := ⟨rfl, rfl, rfl, by decide +kernel, rfl, by decide +kernel, by decide +kernel⟩
abbrev s_arrivals : Stmt := topS 20
abbrev N_arrivals : List Str := ["shops", "departure", "route", "found", "here", "time", "i"]
abbrev P_arrivals : List Str := ["shops", "departure", "route"]
theorem sc_arrivals : FnScope N_arrivals P_arrivals (defScope s_arrivals) := ⟨rfl, rfl, rfl, by decide +kernel, rfl, by decide +kernel, by decide +kernel⟩
abbrev s_finish_of : Stmt := topS 21
abbrev N_finish_of : List Str := ["shops", "departure", "route"]
abbrev P_finish_of : List Str := ["shops", "departure", "route"]
theorem sc_finish_of : FnScope N_finish_of P_finish_of (defScope s_finish_of) := ⟨rfl, rfl, rfl, by decide +kernel, rfl, by decide +kernel, by decide +kernel⟩
abbrev s_is_on_time : Stmt := topS 22
abbrev N_is_on_time : List Str := ["shops", "departure", "route", "times", "i", "time"]
abbrev P_is_on_time : List Str := ["shops", "departure", "route"]
theorem sc_is_on_time : FnScope N_is_on_time P_is_on_time (defScope s_is_on_time) := ⟨rfl, rfl, rfl, by decide +kernel, rfl, by decide +kernel, by decide +kernel⟩
abbrev s_loaves_of : Stmt := topS 23
abbrev N_loaves_of : List Str := ["shops", "some", "i"]
abbrev P_loaves_of : List Str := ["shops", "some"]
theorem sc_loaves_of : FnScope N_loaves_of P_loaves_of (defScope s_loaves_of) := ⟨rfl, rfl, rfl, by decide +kernel, rfl, by decide +kernel, by decide +kernel⟩
abbrev s_by_distance : Stmt := topS 24
abbrev N_by_distance : List Str := ["shops", "some", "distance", "i"]
abbrev P_by_distance : List Str := ["shops", "some"]
theorem sc_by_distance : FnScope N_by_distance P_by_distance (defScope s_by_distance) := ⟨rfl, rfl, rfl, by decide +kernel, rfl, by decide +kernel, by decide +kernel⟩
abbrev s_left_ones : Stmt := topS 25
abbrev N_left_ones : List Str := ["shops", "some", "i"]
abbrev P_left_ones : List Str := ["shops", "some"]
theorem sc_left_ones : FnScope N_left_ones P_left_ones (defScope s_left_ones) := ⟨rfl, rfl, rfl, by decide +kernel, rfl, by decide +kernel, by decide +kernel⟩
abbrev s_right_ones : Stmt := topS 26
abbrev N_right_ones : List Str := ["shops", "some", "i"]
abbrev P_right_ones : List Str := ["shops", "some"]
theorem sc_right_ones : FnScope N_right_ones P_right_ones (defScope s_right_ones) := ⟨rfl, rfl, rfl, by decide +kernel, rfl, by decide +kernel, by decide +kernel⟩
abbrev s_taken_from : Stmt := topS 27
abbrev N_taken_from : List Str := ["some", "begun", "i"]
abbrev P_taken_from : List Str := ["some", "begun"]
theorem sc_taken_from : FnScope N_taken_from P_taken_from (defScope s_taken_from) := ⟨rfl, rfl, rfl, by decide +kernel, rfl, by decide +kernel, by decide +kernel⟩
abbrev s_longer_routes : Stmt := topS 28
abbrev N_longer_routes : List Str := ["left", "right", "begun", "found", "some", "many"]
abbrev P_longer_routes : List Str := ["left", "right", "begun"]
theorem sc_longer_routes : FnScope N_longer_routes P_longer_routes (defScope s_longer_routes) := ⟨rfl, rfl, rfl, by decide +kernel, rfl, by decide +kernel, by decide +kernel⟩
abbrev s_sweeping_routes : Stmt := topS 29
abbrev N_sweeping_routes : List Str := ["shops", "some", "left", "right", "found", "turn", "longer", "begun"]
abbrev P_sweeping_routes : List Str := ["shops", "some"]
theorem sc_sweeping_routes : FnScope N_sweeping_routes P_sweeping_routes (defScope s_sweeping_routes) := ⟨rfl, rfl, rfl, by decide +kernel, rfl, by decide +kernel, by decide +kernel⟩
abbrev s_best_route : Stmt := topS 30
abbrev N_best_route : List Str := ["shops", "departure", "some", "found", "route"]
abbrev P_best_route : List Str := ["shops", "departure", "some"]
theorem sc_best_route : FnScope N_best_route P_best_route (defScope s_best_route) := ⟨rfl, rfl, rfl, by decide +kernel, rfl, by decide +kernel, by decide +kernel⟩
abbrev s_richest_route : Stmt := topS 31
abbrev N_richest_route : List Str := ["shops", "departure", "found", "mask", "some", "route"]
abbrev P_richest_route : List Str := ["shops", "departure"]
theorem sc_richest_route : FnScope N_richest_route P_richest_route (defScope s_richest_route) := ⟨rfl, rfl, rfl, by decide +kernel, rfl, by decide +kernel, by decide +kernel⟩
abbrev s_latest_for : Stmt := topS 32
abbrev N_latest_for : List Str := ["shops", "route", "found", "i", "time"]
abbrev P_latest_for : List Str := ["shops", "route"]
theorem sc_latest_for : FnScope N_latest_for P_latest_for (defScope s_latest_for) := ⟨rfl, rfl, rfl, by decide +kernel, rfl, by decide +kernel, by decide +kernel⟩
abbrev s_latest_departure : Stmt := topS 33
abbrev N_latest_departure : List Str := ["shops", "some", "route"]
abbrev P_latest_departure : List Str := ["shops", "some"]
theorem sc_latest_departure : FnScope N_latest_departure P_latest_departure (defScope s_latest_departure) := ⟨rfl, rfl, rfl, by decide +kernel, rfl, by decide +kernel, by decide +kernel⟩
abbrev s_init : Stmt := inClass (topS 37) 0
abbrev N_init : List Str := ["self"]
abbrev P_init : List Str := ["self"]
theorem sc_init : FnScope N_init P_init (defScope s_init) := ⟨rfl, rfl, rfl, by decide +kernel, rfl, by decide +kernel, by decide +kernel⟩
abbrev s_exists : Stmt := inClass (topS 37) 1
abbrev N_exists : List Str := ["self"]
abbrev P_exists : List Str := ["self"]
theorem sc_exists : FnScope N_exists P_exists (defScope s_exists) := ⟨rfl, rfl, rfl, by decide +kernel, rfl, by decide +kernel, by decide +kernel⟩
abbrev s_is_departure : Stmt := topS 38
abbrev N_is_departure : List Str := ["value"]
abbrev P_is_departure : List Str := ["value"]
theorem sc_is_departure : FnScope N_is_departure P_is_departure (defScope s_is_departure) := ⟨rfl, rfl, rfl, by decide +kernel, rfl, by decide +kernel, by decide +kernel⟩
abbrev s_is_field : Stmt := topS 39
abbrev N_is_field : List Str := ["field", "value"]
abbrev P_is_field : List Str := ["field", "value"]
theorem sc_is_field : FnScope N_is_field P_is_field (defScope s_is_field) := ⟨rfl, rfl, rfl, by decide +kernel, rfl, by decide +kernel, by decide +kernel⟩
abbrev s_create : Stmt := topS 40
abbrev N_create : List Str := ["instance", "departure"]
abbrev P_create : List Str := ["instance", "departure"]
theorem sc_create : FnScope N_create P_create (defScope s_create) := ⟨rfl, rfl, rfl, by decide +kernel, rfl, by decide +kernel, by decide +kernel⟩
abbrev s_add_shop : Stmt := topS 41
abbrev N_add_shop : List Str := ["instance", "shop", "field"]
abbrev P_add_shop : List Str := ["instance", "shop"]
theorem sc_add_shop : FnScope N_add_shop P_add_shop (defScope s_add_shop) := ⟨rfl, rfl, rfl, by decide +kernel, rfl, by decide +kernel, by decide +kernel⟩
abbrev s_remove_shop : Stmt := topS 42
abbrev N_remove_shop : List Str := ["instance", "i"]
abbrev P_remove_shop : List Str := ["instance", "i"]
theorem sc_remove_shop : FnScope N_remove_shop P_remove_shop (defScope s_remove_shop) := ⟨rfl, rfl, rfl, by decide +kernel, rfl, by decide +kernel, by decide +kernel⟩
abbrev s_set_field : Stmt := topS 43
abbrev N_set_field : List Str := ["instance", "i", "field", "value", "before"]
abbrev P_set_field : List Str := ["instance", "i", "field", "value"]
theorem sc_set_field : FnScope N_set_field P_set_field (defScope s_set_field) := ⟨rfl, rfl, rfl, by decide +kernel, rfl, by decide +kernel, by decide +kernel⟩
abbrev s_set_departure : Stmt := topS 44
abbrev N_set_departure : List Str := ["instance", "departure", "before"]
abbrev P_set_departure : List Str := ["instance", "departure"]
theorem sc_set_departure : FnScope N_set_departure P_set_departure (defScope s_set_departure) := ⟨rfl, rfl, rfl, by decide +kernel, rfl, by decide +kernel, by decide +kernel⟩
abbrev s_every : Stmt := topS 46
abbrev N_every : List Str := ["instance"]
abbrev P_every : List Str := ["instance"]
theorem sc_every : FnScope N_every P_every (defScope s_every) := ⟨rfl, rfl, rfl, by decide +kernel, rfl, by decide +kernel, by decide +kernel⟩
abbrev s_earliest_finish : Stmt := topS 47
abbrev N_earliest_finish : List Str := ["instance", "some", "route"]
abbrev P_earliest_finish : List Str := ["instance", "some"]
theorem sc_earliest_finish : FnScope N_earliest_finish P_earliest_finish (defScope s_earliest_finish) := ⟨rfl, rfl, rfl, by decide +kernel, rfl, by decide +kernel, by decide +kernel⟩
abbrev s_ask_best_route : Stmt := topS 48
abbrev N_ask_best_route : List Str := ["instance", "route"]
abbrev P_ask_best_route : List Str := ["instance"]
theorem sc_ask_best_route : FnScope N_ask_best_route P_ask_best_route (defScope s_ask_best_route) := ⟨rfl, rfl, rfl, by decide +kernel, rfl, by decide +kernel, by decide +kernel⟩
abbrev s_arrival_times : Stmt := topS 49
abbrev N_arrival_times : List Str := ["instance", "route"]
abbrev P_arrival_times : List Str := ["instance", "route"]
theorem sc_arrival_times : FnScope N_arrival_times P_arrival_times (defScope s_arrival_times) := ⟨rfl, rfl, rfl, by decide +kernel, rfl, by decide +kernel, by decide +kernel⟩
abbrev s_check_route : Stmt := topS 50
abbrev N_check_route : List Str := ["instance", "route", "shops", "departure", "on_time"]
abbrev P_check_route : List Str := ["instance", "route"]
theorem sc_check_route : FnScope N_check_route P_check_route (defScope s_check_route) := ⟨rfl, rfl, rfl, by decide +kernel, rfl, by decide +kernel, by decide +kernel⟩
abbrev s_max_loaves : Stmt := topS 51
abbrev N_max_loaves : List Str := ["instance", "route"]
abbrev P_max_loaves : List Str := ["instance"]
theorem sc_max_loaves : FnScope N_max_loaves P_max_loaves (defScope s_max_loaves) := ⟨rfl, rfl, rfl, by decide +kernel, rfl, by decide +kernel, by decide +kernel⟩
abbrev s_earliest_finish_of : Stmt := topS 52
abbrev N_earliest_finish_of : List Str := ["instance", "mask"]
abbrev P_earliest_finish_of : List Str := ["instance", "mask"]
theorem sc_earliest_finish_of : FnScope N_earliest_finish_of P_earliest_finish_of (defScope s_earliest_finish_of) := ⟨rfl, rfl, rfl, by decide +kernel, rfl, by decide +kernel, by decide +kernel⟩
abbrev s_return_time : Stmt := topS 53
abbrev N_return_time : List Str := ["instance", "shops", "departure", "route", "home"]
abbrev P_return_time : List Str := ["instance"]
theorem sc_return_time : FnScope N_return_time P_return_time (defScope s_return_time) := ⟨rfl, rfl, rfl, by decide +kernel, rfl, by decide +kernel, by decide +kernel⟩
abbrev s_earliest_finish_without : Stmt := topS 54
abbrev N_earliest_finish_without : List Str := ["instance", "i"]
abbrev P_earliest_finish_without : List Str := ["instance", "i"]
theorem sc_earliest_finish_without : FnScope N_earliest_finish_without P_earliest_finish_without (defScope s_earliest_finish_without) := ⟨rfl, rfl, rfl, by decide +kernel, rfl, by decide +kernel, by decide +kernel⟩
abbrev s_describe : Stmt := topS 55
abbrev N_describe : List Str := ["instance", "found", "shop"]
abbrev P_describe : List Str := ["instance"]
theorem sc_describe : FnScope N_describe P_describe (defScope s_describe) := ⟨rfl, rfl, rfl, by decide +kernel, rfl, by decide +kernel, by decide +kernel⟩
abbrev s_ask_latest : Stmt := topS 56
abbrev N_ask_latest : List Str := ["instance", "departure"]
abbrev P_ask_latest : List Str := ["instance"]
theorem sc_ask_latest : FnScope N_ask_latest P_ask_latest (defScope s_ask_latest) := ⟨rfl, rfl, rfl, by decide +kernel, rfl, by decide +kernel, by decide +kernel⟩
abbrev s_answer_edit : Stmt := topS 60
abbrev N_answer_edit : List Str := ["instance", "call", "given"]
abbrev P_answer_edit : List Str := ["instance", "call", "given"]
theorem sc_answer_edit : FnScope N_answer_edit P_answer_edit (defScope s_answer_edit) := ⟨rfl, rfl, rfl, by decide +kernel, rfl, by decide +kernel, by decide +kernel⟩
abbrev s_answer_question : Stmt := topS 61
abbrev N_answer_question : List Str := ["instance", "call", "given", "route"]
abbrev P_answer_question : List Str := ["instance", "call", "given", "route"]
theorem sc_answer_question : FnScope N_answer_question P_answer_question (defScope s_answer_question) := ⟨rfl, rfl, rfl, by decide +kernel, rfl, by decide +kernel, by decide +kernel⟩
abbrev s_answer : Stmt := topS 62
abbrev N_answer : List Str := ["instance", "call", "given", "route"]
abbrev P_answer : List Str := ["instance", "call", "given", "route"]
theorem sc_answer : FnScope N_answer P_answer (defScope s_answer) := ⟨rfl, rfl, rfl, by decide +kernel, rfl, by decide +kernel, by decide +kernel⟩
abbrev s_end_of : Stmt := topS 63
abbrev N_end_of : List Str := ["calls", "begin", "call"]
abbrev P_end_of : List Str := ["calls", "begin", "call"]
theorem sc_end_of : FnScope N_end_of P_end_of (defScope s_end_of) := ⟨rfl, rfl, rfl, by decide +kernel, rfl, by decide +kernel, by decide +kernel⟩
abbrev s_answers : Stmt := topS 64
abbrev N_answers : List Str := ["calls", "instance", "found", "place", "call", "begin", "end", "numbers"]
abbrev P_answers : List Str := ["calls"]
theorem sc_answers : FnScope N_answers P_answers (defScope s_answers) := ⟨rfl, rfl, rfl, by decide +kernel, rfl, by decide +kernel, by decide +kernel⟩
end Bs

/-! ## BsDefs -/
set_option Elab.async false
set_option linter.all false
set_option maxRecDepth 100000
set_option maxHeartbeats 4000000
namespace Bs
open PySem PySem.Spec PyProof.Rows L2
open Sr100 (Street Shop State shopAt arrivalTimesFrom finishTime isOnTime totalLoaves sortByDistance leftShops rightShops sweepingRoutes bestRoute bestShops)
open SrCommon (natsToInts maskMembers inRange isIndex)
/-! ### words for the readings -/
abbrev rPlus : R2 := rI0 fun i j => .int (i + j)
abbrev rMinus : R2 := rI0 fun i j => .int (i - j)
abbrev rShr : R2 := rI (fun _ j => 0 ≤ j) fun i j => .int (i / 2 ^ j.toNat)
abbrev rShl : R2 := rI CPow fun i j => .int (i * 2 ^ j.toNat)
abbrev rBand : R2 := rI0 fun i j => .int (Builtin.bitAnd i j)
abbrev rLt : R2 := rI0 fun i j => .bl (decide (i < j))
abbrev rLe : R2 := rI0 fun i j => .bl (decide (i ≤ j))
abbrev rGt : R2 := rI0 fun i j => .bl (decide (j < i))
abbrev rGe : R2 := rI0 fun i j => .bl (decide (j ≤ i))
abbrev rIsN : R2 := fun x y H Q => y = .non ∧ Q (.bl (decide (x = .non))) H
abbrev rNotN : R2 := fun x y H Q => y = .non ∧ Q (.bl (!decide (x = .non))) H
abbrev rNeg : V → Hp → VK → Prop := rU fun i => .int (-i)
abbrev rLen (K : PySem.W.Frag) : List V → Hp → VK → Prop := fun xs H Q => ∃ p ys, xs = [.ref p] ∧ (SqL K H p ys ∨ SqT K H p ys) ∧ Q (.int ys.length) H
abbrev rAbs : List V → Hp → VK → Prop := fun xs H Q => ∃ i, xs = [.int i] ∧ Q (.int (if i < 0 then -i else i)) H
abbrev rMin2 : List V → Hp → VK → Prop := fun xs H Q => ∃ i j, xs = [.int i, .int j] ∧ Q (.int (if j < i then j else i)) H

/-! ### what lies in the heap -/
abbrev iv (l : List Int) : List V := l.map V.int
def IL (H : Hp) (a : Addr) (l : List Int) : Prop := H a = some (.lst (iv l))
abbrev NL (H : Hp) (a : Addr) (l : List Nat) : Prop := IL H a (natsToInts l)
abbrev rv (as : List Addr) : List V := as.map V.ref
structure Rows (H : Hp) (as : List Addr) (ls : List (List Int)) : Prop where
  len : as.length = ls.length
  at_ : ∀ (i : Nat) (a : Addr) (l : List Int), as[i]? = some a → ls[i]? = some l → IL H a l
def encShop (s : Shop) : List Int := [s.position, (s.deadline : Int), (s.loaves : Int)]
def Shops (H : Hp) (a : Addr) (ss : List Shop) : Prop := ∃ as, H a = some (.lst (rv as)) ∧ Rows H as (ss.map encShop)
/-- a new list of ints is answered -/
def newIL (H : Hp) (Q : VK) (l : List Int) : Prop := ∀ H' p, Same H H' → H p = none → IL H' p l → Q (.ref p) H'
/-- new rows are answered -/
def newRL (H : Hp) (Q : VK) (ls : List (List Int)) : Prop := ∀ H' p as, Same H H' → H p = none → (∀ b ∈ as, H b = none) → H' p = some (.lst (rv as)) → Rows H' as ls → Q (.ref p) H'
/-- a value is answered -/
def gives (H : Hp) (Q : VK) (v : V) : Prop := ∀ H', Same H H' → Q v H'
/-- all but the object at x stands -/
def SameBut (x : Addr) (H H' : Hp) : Prop := ∀ b o, H b = some o → b ≠ x → H' b = some o

theorem IL.mono {H H' : Hp} {a : Addr} {l : List Int} (s : Same H H') (h : IL H a l) : IL H' a l := s _ _ h
theorem Rows.mono {H H' : Hp} {as : List Addr} {ls : List (List Int)} (s : Same H H') (h : Rows H as ls) : Rows H' as ls := ⟨h.len, fun i a l e1 e2 => (h.at_ i a l e1 e2).mono s⟩
theorem Shops.mono {H H' : Hp} {a : Addr} {ss : List Shop} (s : Same H H') (h : Shops H a ss) : Shops H' a ss := by
  obtain ⟨as, h1, h2⟩ := h
  exact ⟨as, s _ _ h1, h2.mono s⟩
theorem newIL.mono {H H' : Hp} {Q : VK} {l : List Int} (s : Same H H') (h : newIL H Q l) : newIL H' Q l := fun H2 p s2 n i => h H2 p (s.trans s2) (s.free n) i
theorem newRL.mono {H H' : Hp} {Q : VK} {l : List (List Int)} (s : Same H H') (h : newRL H Q l) : newRL H' Q l := fun H2 p as s2 n m i r => h H2 p as (s.trans s2) (s.free n) (fun b hb => s.free (m b hb)) i r
theorem gives.mono {H H' : Hp} {Q : VK} {v : V} (s : Same H H') (h : gives H Q v) : gives H' Q v := fun H2 s2 => h H2 (s.trans s2)
/-- a new object -/
theorem same_new {H : Hp} {p : Addr} {o : HO} (h : H p = none) : Same H (upd H p o) := fun b q e => by
  rw [upd_ne (ne_of_none e h)]
  exact e
/-- a change at a place that was not tracked at first -/
theorem same_at {H H' : Hp} {p : Addr} {o : HO} (s : Same H H') (h : H p = none) : Same H (upd H' p o) := fun b q e => by
  rw [upd_ne (ne_of_none e h)]
  exact s b q e
theorem nodup2 {a b : Addr} {o : HO} {H : Hp} (h1 : H a = some o) (h2 : H b = none) : a ≠ b := ne_of_none h1 h2
theorem iv_len (l : List Int) : (iv l).length = l.length := List.length_map ..
theorem nats_len (l : List Nat) : (natsToInts l).length = l.length := List.length_map ..
theorem iv_at {l : List Int} {i : Nat} {x : V} (h : (iv l)[i]? = some x) : ∃ z, l[i]? = some z ∧ x = V.int z := by
  rw [List.getElem?_map] at h
  cases e : l[i]? with
  | none => rw [e] at h; cases h
  | some z => rw [e] at h; exact ⟨z, rfl, (Option.some.inj h).symm⟩
theorem nats_at {l : List Nat} {i : Nat} {z : Int} (h : (natsToInts l)[i]? = some z) : ∃ n : Nat, l[i]? = some n ∧ z = (n : Int) := by
  have h : (l.map fun (x : Nat) => (x : Int))[i]? = some z := h
  rw [List.getElem?_map] at h
  cases e : l[i]? with
  | none => rw [e] at h; cases h
  | some n => rw [e] at h; exact ⟨n, rfl, (Option.some.inj h).symm⟩
theorem nv_at {l : List Nat} {i : Nat} {x : V} (h : (iv (natsToInts l))[i]? = some x) : ∃ n : Nat, l[i]? = some n ∧ x = V.int (n : Int) := by
  obtain ⟨z, h1, h2⟩ := iv_at h
  obtain ⟨n, h3, h4⟩ := nats_at h1
  exact ⟨n, h3, by rw [h2, h4]⟩
theorem rv_at {as : List Addr} {i : Nat} {x : V} (h : (rv as)[i]? = some x) : ∃ a, as[i]? = some a ∧ x = V.ref a := by
  rw [List.getElem?_map] at h
  cases e : as[i]? with
  | none => rw [e] at h; cases h
  | some z => rw [e] at h; exact ⟨z, rfl, (Option.some.inj h).symm⟩
theorem iv_get {l : List Int} {i : Nat} {z : Int} (h : l[i]? = some z) : (iv l)[i]? = some (V.int z) := by
  rw [List.getElem?_map, h]
  rfl
theorem nats_get {l : List Nat} {i : Nat} {n : Nat} (h : l[i]? = some n) : (natsToInts l)[i]? = some (n : Int) := by
  show (l.map fun (x : Nat) => (x : Int))[i]? = _
  rw [List.getElem?_map, h]
  rfl
theorem rv_get {as : List Addr} {i : Nat} {a : Addr} (h : as[i]? = some a) : (rv as)[i]? = some (V.ref a) := by
  rw [List.getElem?_map, h]
  rfl
theorem nats_append (l m : List Nat) : natsToInts (l ++ m) = natsToInts l ++ natsToInts m := List.map_append
theorem iv_append (l m : List Int) : iv (l ++ m) = iv l ++ iv m := List.map_append
theorem iv_take (l : List Int) (i : Nat) : (iv l).take i = iv (l.take i) := List.map_take.symm
theorem iv_drop (l : List Int) (i : Nat) : (iv l).drop i = iv (l.drop i) := List.map_drop.symm
/-- a shop's row, a field of it -/
theorem Shops.row {H : Hp} {a : Addr} {s : Street} (h : Shops H a s.shops) {i : Nat} (hi : i < s.shops.length) : ∃ (as : List Addr) (b : Addr), H a = some (.lst (rv as)) ∧ (rv as)[i]? = some (.ref b) ∧ IL H b (encShop (shopAt s i)) := by
  obtain ⟨as, h1, h2⟩ := h
  have hl : as.length = s.shops.length := by rw [h2.len, List.length_map]
  have hb : as[i]? = some as[i] := List.getElem?_eq_getElem (by omega)
  refine ⟨as, as[i], h1, rv_get hb, h2.at_ i _ _ hb ?_⟩
  rw [List.getElem?_map, List.getElem?_eq_getElem hi]
  show some _ = some (encShop (s.shops.getD i ⟨0, 0, 0⟩))
  rw [List.getD_eq_getElem?_getD, List.getElem?_eq_getElem hi]
  rfl
theorem enc_pos (s : Shop) : (iv (encShop s))[0]? = some (.int s.position) := rfl
theorem enc_dl (s : Shop) : (iv (encShop s))[1]? = some (.int (s.deadline : Int)) := rfl
theorem enc_lo (s : Shop) : (iv (encShop s))[2]? = some (.int (s.loaves : Int)) := rfl
theorem atI0 {xs : List V} {v : V} (h : xs[0]? = some v) : atI xs 0 = some v := atI_nat (j := 0) h
theorem atI1 {xs : List V} {v : V} (h : xs[1]? = some v) : atI xs 1 = some v := atI_nat (j := 1) h
theorem atI2 {xs : List V} {v : V} (h : xs[2]? = some v) : atI xs 2 = some v := atI_nat (j := 2) h

/-! ### what each def promises -/
def sp_is_within : Sp := fun vs H Q _ => ∃ v lo hi : Int, vs = [.int v, .int lo, .int hi] ∧ Q (.bl (inRange v lo hi)) H
def sp_is_index : Sp := fun vs H Q _ => ∃ (v : Int) (a : Addr) (xs : List V), vs = [.int v, .ref a] ∧ H a = some (.lst xs) ∧ Q (.bl (isIndex v xs.length)) H
def sp_are_indices : Sp := fun vs H Q _ => ∃ (a b : Addr) (l : List Int) (xs : List V), vs = [.ref a, .ref b] ∧ IL H a l ∧ H b = some (.lst xs) ∧ l.length ≤ 5000 ∧
  gives H Q (.bl (decide l.Nodup && l.all fun i => isIndex i xs.length))
def sp_members : Sp := fun vs H Q _ => ∃ (m : Nat) (a : Addr) (xs : List V), vs = [.int (m : Int), .ref a] ∧ H a = some (.lst xs) ∧ xs.length ≤ 7 ∧ newIL H Q (natsToInts (maskMembers xs.length m))
def sp_without : Sp := fun vs H Q _ => ∃ (a : Addr) (xs : List V) (i : Nat), vs = [.ref a, .int (i : Int)] ∧ H a = some (.lst xs) ∧ xs.length ≤ 1000 ∧
  ∀ H' p, Same H H' → H p = none → H' p = some (.lst (xs.eraseIdx i)) → Q (.ref p) H'
def sp_replaced : Sp := fun vs H Q _ => ∃ (a : Addr) (xs : List V) (i : Nat) (y : V), vs = [.ref a, .int (i : Int), y] ∧ H a = some (.lst xs) ∧ xs.length ≤ 1000 ∧ i < xs.length ∧
  ∀ H' p, Same H H' → H p = none → H' p = some (.lst (xs.set i y)) → Q (.ref p) H'
/-- shops, a route of them -/
structure Rt (s : Street) (H : Hp) (a r : Addr) (route : List Nat) : Prop where
  sh : Shops H a s.shops
  rt : NL H r route
  lt : ∀ i ∈ route, i < s.shops.length
  few : route.length ≤ 5000
theorem Rt.mono {s : Street} {H H' : Hp} {a r : Addr} {route : List Nat} (e : Same H H') (h : Rt s H a r route) : Rt s H' a r route := ⟨h.sh.mono e, h.rt.mono e, h.lt, h.few⟩
/-- shops, a set of them in ascending order -/
structure St_ (s : Street) (H : Hp) (a r : Addr) (sm : List Nat) : Prop extends Rt s H a r sm where
  asc : sm.Pairwise (· < ·)
  seven : sm.length ≤ 7
theorem St_.mono {s : Street} {H H' : Hp} {a r : Addr} {route : List Nat} (e : Same H H') (h : St_ s H a r route) : St_ s H' a r route := ⟨h.toRt.mono e, h.asc, h.seven⟩
def sp_arrivals : Sp := fun vs H Q _ => ∃ (a r : Addr) (d : Nat) (s : Street) (route : List Nat), vs = [.ref a, .int (d : Int), .ref r] ∧ Rt s H a r route ∧ newIL H Q (natsToInts (arrivalTimesFrom s route 0 d))
def sp_finish_of : Sp := fun vs H Q _ => ∃ (a r : Addr) (s : Street) (route : List Nat), vs = [.ref a, .int (s.departure : Int), .ref r] ∧ Rt s H a r route ∧ gives H Q (.int (finishTime s route : Int))
def sp_is_on_time : Sp := fun vs H Q _ => ∃ (a r : Addr) (s : Street) (route : List Nat), vs = [.ref a, .int (s.departure : Int), .ref r] ∧ Rt s H a r route ∧ gives H Q (.bl (isOnTime s route))
def sp_loaves_of : Sp := fun vs H Q _ => ∃ (a r : Addr) (s : Street) (route : List Nat), vs = [.ref a, .ref r] ∧ Rt s H a r route ∧ gives H Q (.int (totalLoaves s route : Int))
def sp_by_distance : Sp := fun vs H Q _ => ∃ (a r : Addr) (s : Street) (sm : List Nat), vs = [.ref a, .ref r] ∧ St_ s H a r sm ∧ newIL H Q (natsToInts (sortByDistance s sm))
def sp_left_ones : Sp := fun vs H Q _ => ∃ (a r : Addr) (s : Street) (sm : List Nat), vs = [.ref a, .ref r] ∧ St_ s H a r sm ∧ newIL H Q (natsToInts (leftShops s sm))
def sp_right_ones : Sp := fun vs H Q _ => ∃ (a r : Addr) (s : Street) (sm : List Nat), vs = [.ref a, .ref r] ∧ St_ s H a r sm ∧ newIL H Q (natsToInts (rightShops s sm))
def sp_taken_from : Sp := fun vs H Q _ => ∃ (a b : Addr) (sm begun : List Nat), vs = [.ref a, .ref b] ∧ NL H a sm ∧ NL H b begun ∧ sm.length ≤ 7 ∧ gives H Q (.int (takenFrom sm begun : Int))
def sp_longer_routes : Sp := fun vs H Q _ => ∃ (a b c : Addr) (left right begun : List Nat), vs = [.ref a, .ref b, .ref c] ∧ NL H a left ∧ NL H b right ∧ NL H c begun ∧ left.length ≤ 7 ∧ right.length ≤ 7 ∧ begun.length ≤ 7 ∧
  newRL H Q ((longer left right begun).map natsToInts)
def sp_sweeping_routes : Sp := fun vs H Q _ => ∃ (a r : Addr) (s : Street) (sm : List Nat), vs = [.ref a, .ref r] ∧ St_ s H a r sm ∧ newRL H Q ((sweepingRoutes s sm).map natsToInts)
/-- None or a new list -/
def newOpt (H : Hp) (Q : VK) (o : Option (List Nat)) : Prop := (o = none → gives H Q .non) ∧ ∀ r, o = some r → newIL H Q (natsToInts r)
theorem newOpt.mono {H H' : Hp} {Q : VK} {o : Option (List Nat)} (s : Same H H') (h : newOpt H Q o) : newOpt H' Q o := ⟨fun e => (h.1 e).mono s, fun r e => (h.2 r e).mono s⟩
def sp_best_route : Sp := fun vs H Q _ => ∃ (a r : Addr) (s : Street) (sm : List Nat), vs = [.ref a, .int (s.departure : Int), .ref r] ∧ St_ s H a r sm ∧ newOpt H Q (bestRoute s sm)
def sp_richest_route : Sp := fun vs H Q _ => ∃ (a : Addr) (s : Street), vs = [.ref a, .int (s.departure : Int)] ∧ Shops H a s.shops ∧ s.shops.length ≤ 7 ∧ newIL H Q (natsToInts ((bestRoute s (bestShops s)).getD []))
def sp_latest_for : Sp := fun vs H Q _ => ∃ (a r : Addr) (s : Street) (route : List Nat), vs = [.ref a, .ref r] ∧ Rt s H a r route ∧ gives H Q (.int (latestFor s route))
def sp_latest_departure : Sp := fun vs H Q _ => ∃ (a r : Addr) (s : Street) (sm : List Nat), vs = [.ref a, .ref r] ∧ St_ s H a r sm ∧
  ∀ m, (∃ q ∈ sweepingRoutes s sm, latestFor s q = m) → (∀ q ∈ sweepingRoutes s sm, latestFor s q ≤ m) → gives H Q (.int m)

/-! ### the instance -/
def dOf : State → Int
  | none => -1
  | some s => s.departure
def shopsOf : State → List Shop
  | none => []
  | some s => s.shops
def insF (d : Int) (a : Addr) : List (Str × V) := [("departure", .int d), ("shops", .ref a)]
def InsAt (C : Addr) (H : Hp) (x : Addr) (st : State) : Prop := ∃ dx a, H x = some (.ins C dx (insF (dOf st) a)) ∧ Shops H a (shopsOf st) ∧ (shopsOf st).length ≤ 7
theorem InsAt.mono {C : Addr} {H H' : Hp} {x : Addr} {st : State} (s : Same H H') (h : InsAt C H x st) : InsAt C H' x st := by
  obtain ⟨dx, a, h1, h2, h3⟩ := h
  exact ⟨dx, a, s _ _ h1, h2.mono s, h3⟩
def sp_init (C : Addr) : Sp := fun vs H Q _ => ∃ (p dx : Addr), vs = [.ref p] ∧ H p = some (.ins C dx []) ∧ ∀ H' : Hp, InsAt C H' p none → SameBut p H H' → Q .non H'
def sp_exists (C : Addr) : Sp := fun vs H Q _ => ∃ (x : Addr) (st : State), vs = [.ref x] ∧ InsAt C H x st ∧ Q (.bl st.isSome) H
def sp_is_departure : Sp := fun vs H Q _ => ∃ v : Int, vs = [.int v] ∧ Q (.bl (Sr100.isTime v)) H
def fieldOk (f : Nat) (v : Int) : Bool := if f = 0 then Sr100.isPosition v else if f = 1 then Sr100.isTime v else Sr100.isLoaves v
def sp_is_field : Sp := fun vs H Q _ => ∃ (f : Nat) (v : Int), vs = [.int (f : Int), .int v] ∧ f ≤ 2 ∧ Q (.bl (fieldOk f v)) H
/-- z is none of the lists of the instance at x -/
def Off (H : Hp) (x z : Addr) : Prop := ∃ C dx d a as, H x = some (.ins C dx (insF d a)) ∧ H a = some (.lst (rv as)) ∧ a ≠ z ∧ z ∉ as
/-- what was tracked and none of the instance's lists is none of them afterwards, but what G tells -/
def Keeps (x : Addr) (G : Addr → Prop) (H H' : Hp) : Prop := ∀ z o, H z = some o → ¬ G z → Off H x z → Off H' x z
/-- an edit: the call's step -/
def edits (C : Addr) (H : Hp) (Q : VK) (x : Addr) (st : State) (c : Sr100.Call) (G : Addr → Prop := fun _ => False) : Prop := ∀ H' : Hp, InsAt C H' x (Sr100.step st c).1 → SameBut x H H' → Keeps x G H H' → Q (.int (Sr100.step st c).2.code) H'
def sp_create (C : Addr) : Sp := fun vs H Q _ => ∃ (x : Addr) (st : State) (d : Int), vs = [.ref x, .int d] ∧ InsAt C H x st ∧ edits C H Q x st (.create d)
def sp_add_shop (C : Addr) : Sp := fun vs H Q _ => ∃ (x g : Addr) (s : Street) (p d l : Int), vs = [.ref x, .ref g] ∧ InsAt C H x (some s) ∧ IL H g [p, d, l] ∧ edits C H Q x (some s) (.addShop p d l) (fun z => z = g)
def sp_remove_shop (C : Addr) : Sp := fun vs H Q _ => ∃ (x : Addr) (s : Street) (i : Int), vs = [.ref x, .int i] ∧ InsAt C H x (some s) ∧ edits C H Q x (some s) (.removeShop i)
def fieldCall (f : Nat) (i v : Int) : Sr100.Call := if f = 0 then .setPosition i v else if f = 1 then .setDeadline i v else .setLoaves i v
def sp_set_field (C : Addr) : Sp := fun vs H Q _ => ∃ (x : Addr) (s : Street) (i v : Int) (f : Nat), vs = [.ref x, .int i, .int (f : Int), .int v] ∧ f ≤ 2 ∧ InsAt C H x (some s) ∧ edits C H Q x (some s) (fieldCall f i v)
def sp_set_departure (C : Addr) : Sp := fun vs H Q _ => ∃ (x : Addr) (s : Street) (d : Int), vs = [.ref x, .int d] ∧ InsAt C H x (some s) ∧ edits C H Q x (some s) (.setDeparture d)
/-- a question: the call's result -/
def told (s : Street) (c : Sr100.Call) : List Int := (Sr100.perform s c).2.code :: (Sr100.perform s c).2.values
def asks (H : Hp) (Q : VK) (s : Street) (c : Sr100.Call) : Prop := newIL H Q (told s c)
def sp_every (C : Addr) : Sp := fun vs H Q _ => ∃ (x : Addr) (s : Street), vs = [.ref x] ∧ InsAt C H x (some s) ∧ newIL H Q (natsToInts (Sr100.allShops s))
/-- the instance, a set of its shops -/
structure Of (C : Addr) (H : Hp) (x r : Addr) (s : Street) (sm : List Nat) : Prop where
  ins : InsAt C H x (some s)
  rt : NL H r sm
  lt : ∀ i ∈ sm, i < s.shops.length
  asc : sm.Pairwise (· < ·)
  seven : sm.length ≤ 7
def finishCode (s : Street) (sm : List Nat) : Int := (Sr100.timeResult (Sr100.earliestFinish s sm)).code
def sp_earliest_finish (C : Addr) : Sp := fun vs H Q _ => ∃ (x r : Addr) (s : Street) (sm : List Nat), vs = [.ref x, .ref r] ∧ Of C H x r s sm ∧ newIL H Q [finishCode s sm]
def sp_ask_best_route (C : Addr) : Sp := fun vs H Q _ => ∃ (x : Addr) (s : Street), vs = [.ref x] ∧ InsAt C H x (some s) ∧ asks H Q s .bestRoute
def sp_arrival_times (C : Addr) : Sp := fun vs H Q _ => ∃ (x r : Addr) (s : Street) (l : List Int), vs = [.ref x, .ref r] ∧ InsAt C H x (some s) ∧ IL H r l ∧ l.length ≤ 4400 ∧ asks H Q s (.arrivalTimes l)
def sp_check_route (C : Addr) : Sp := fun vs H Q _ => ∃ (x r : Addr) (s : Street) (l : List Int), vs = [.ref x, .ref r] ∧ InsAt C H x (some s) ∧ IL H r l ∧ l.length ≤ 4400 ∧ asks H Q s (.checkRoute l)
def sp_max_loaves (C : Addr) : Sp := fun vs H Q _ => ∃ (x : Addr) (s : Street), vs = [.ref x] ∧ InsAt C H x (some s) ∧ asks H Q s .maxLoaves
def sp_earliest_finish_of (C : Addr) : Sp := fun vs H Q _ => ∃ (x : Addr) (s : Street) (m : Int), vs = [.ref x, .int m] ∧ InsAt C H x (some s) ∧ asks H Q s (.earliestFinishOf m)
def sp_return_time (C : Addr) : Sp := fun vs H Q _ => ∃ (x : Addr) (s : Street), vs = [.ref x] ∧ InsAt C H x (some s) ∧ asks H Q s .returnTime
def sp_earliest_finish_without (C : Addr) : Sp := fun vs H Q _ => ∃ (x : Addr) (s : Street) (i : Int), vs = [.ref x, .int i] ∧ InsAt C H x (some s) ∧ asks H Q s (.earliestFinishWithout i)
def sp_describe (C : Addr) : Sp := fun vs H Q _ => ∃ (x : Addr) (s : Street), vs = [.ref x] ∧ InsAt C H x (some s) ∧ asks H Q s .describe
def sp_ask_latest (C : Addr) : Sp := fun vs H Q _ => ∃ (x : Addr) (s : Street), vs = [.ref x] ∧ InsAt C H x (some s) ∧ asks H Q s .latestDeparture

/-! ### the calls -/
def sp_answer_edit (C : Addr) : Sp := fun vs H Q _ => ∃ (x g : Addr) (s : Street) (c : Sr100.Call) (n : Int) (gl rl : List Int), vs = [.ref x, .int n, .ref g] ∧ Enc c n gl rl ∧ 1 ≤ n ∧ n ≤ 6 ∧ InsAt C H x (some s) ∧ IL H g gl ∧ edits C H Q x (some s) c (fun z => z = g)
def sp_answer_question (C : Addr) : Sp := fun vs H Q _ => ∃ (x g r : Addr) (s : Street) (c : Sr100.Call) (n : Int) (gl rl : List Int), vs = [.ref x, .int n, .ref g, .ref r] ∧ Enc c n gl rl ∧ 7 ≤ n ∧ InsAt C H x (some s) ∧ IL H g gl ∧ IL H r rl ∧ asks H Q s c
def sp_answer (C : Addr) : Sp := fun vs H Q _ => ∃ (x g r : Addr) (st : State) (c : Sr100.Call) (n : Int) (gl rl : List Int), vs = [.ref x, .int n, .ref g, .ref r] ∧ Enc c n gl rl ∧ InsAt C H x st ∧ IL H g gl ∧ IL H r rl ∧
  ∀ (H' : Hp) (p : Addr), InsAt C H' x (Sr100.step st c).1 → SameBut x H H' → Keeps x (fun z => z = g) H H' → H p = none → IL H' p ((Sr100.step st c).2.code :: (Sr100.step st c).2.values) → Q (.ref p) H'
def sp_end_of (K : PySem.W.Frag) : Sp := fun vs H Q _ => ∃ (a : Addr) (l : List Int) (b : Nat) (c : Int), vs = [.ref a, .int (b : Int), .int c] ∧ SqL K H a (iv l) ∧
  (if c = 9 ∨ c = 10 then ∃ n : Int, l[b]? = some n ∧ Q (.int ((b : Int) + 1 + n)) H else Q (.int (b : Int)) H)
def sp_answers (K : PySem.W.Frag) : Sp := fun vs H Q _ => ∃ (a : Addr) (ns : List Int), vs = [.ref a] ∧ SqL K H a (iv ns) ∧ PySr100.answers_asked ns = true ∧ ns.length ≤ 4400 ∧
  ∀ (H' : Hp) (p : Addr), H' p = some (.lst (iv (PySr100.answers ns))) → Q (.ref p) H'
end Bs

/-! ## BsBase -/
set_option Elab.async false
set_option linter.all false
set_option maxRecDepth 100000
set_option maxHeartbeats 4000000
namespace Bs
open PySem PySem.Spec PyProof.Rows L2
/-- what the top has written of the class, of the constants; what of the built-ins it has not hidden -/
structure Txt (K : PySem.W.Frag) (mg : Str → Option Value) (C a_LOW a_HIGH a_NUMBERS a_WITH_ROUTE : Addr) : Prop where
  cl : Cls K C
  nD : NoAttr K C "departure"
  nS : NoAttr K C "shops"
  gC : mg "Instance" = some (.ref C)
  c_MOST_TIME : ∃ t, mg "MOST_TIME" = some (.int 299 t)
  c_MOST_SHOPS : ∃ t, mg "MOST_SHOPS" = some (.int 7 t)
  c_ABSENT : ∃ t, mg "ABSENT" = some (.int (-11) t)
  c_MISSING : ∃ t, mg "MISSING" = some (.int (-2) t)
  c_OUT_OF_RANGE : ∃ t, mg "OUT_OF_RANGE" = some (.int (-22) t)
  c_FULL : ∃ t, mg "FULL" = some (.int (-28) t)
  c_LATE : ∃ t, mg "LATE" = some (.int (-33) t)
  c_POSITION : ∃ t, mg "POSITION" = some (.int 0 t)
  c_DEADLINE : ∃ t, mg "DEADLINE" = some (.int 1 t)
  c_LOAVES : ∃ t, mg "LOAVES" = some (.int 2 t)
  c_LOW : mg "LOW" = some (.ref a_LOW)
  s_LOW : ∀ H, SqT K H a_LOW [.int (-99), .int 0, .int 0]
  c_HIGH : mg "HIGH" = some (.ref a_HIGH)
  s_HIGH : ∀ H, SqT K H a_HIGH [.int 99, .int 299, .int 99]
  c_NUMBERS : mg "NUMBERS" = some (.ref a_NUMBERS)
  s_NUMBERS : ∀ H, SqT K H a_NUMBERS (iv [1, 3, 1, 2, 2, 2, 1, 0, 0, 0, 0, 0, 1, 0, 0, 1, 0])
  c_WITH_ROUTE : mg "WITH_ROUTE" = some (.ref a_WITH_ROUTE)
  s_WITH_ROUTE : ∀ H, SqT K H a_WITH_ROUTE [.int 9, .int 10]
  b_len : mg "len" = none
  b_range : mg "range" = none
  b_abs : mg "abs" = none
  b_min : mg "min" = none
  b_max : mg "max" = none
  b_sum : mg "sum" = none
  b_sorted : mg "sorted" = none
  b_zip : mg "zip" = none
  b_list : mg "list" = none
/-- a def of the top stands under its name -/
def Def (K : PySem.W.Frag) (mg : Str → Option Value) (x : Str) (st : Stmt) : Prop := ∃ f fd, mg x = some (.ref f) ∧ Fun K x x st f fd
/-- .. and keeps its promise -/
def Ok (P : Program) (w : World) (K : PySem.W.Frag) (mg : Str → Option Value) (base : Heap) (x : Str) (ps : List Str) (sp : Sp) (k : Nat) : Prop :=
  ∃ f fd, mg x = some (.ref f) ∧ PySem.W.keepIn K (.ref f) = true ∧ Binds K fd ps [] ∧ FnOk P w K mg base CX0 k f fd ps sp
/-- the reading of a body follows from the promise -/
def Pure (t : TS) (sp : Sp) (N : List Str) : Prop := ∀ vs H Q E, sp vs H Q E → t { nx := fun _ H' => Q .non H', rt := Q } (start N vs) H
section
variable {X : Cx}
theorem pe_gint {x : Str} {i : Int} {pos : Pos} (hg : Gl X x) (hm : ∃ t, X.mg x = some (.int i t)) (hd : (x == ("__debug__" : Str)) = false := by decide) : PE X (.Name x pos) (tC (.int i)) := by
  obtain ⟨t, h⟩ := hm
  exact pe_glob hg h ⟨t, rfl⟩ hd
theorem pe_fn {k : Nat} {ps : List Str} {sp : Sp} {x : Str} {p pos : Pos} {e : Expr} {es : List Expr} {t : TA} (O : Ok X.prog X.w X.K X.mg X.base x ps sp k) (hr : Room k X.A) (hg : Gl X x) (ha : PA X (e :: es) t) (hdb : (x == ("__debug__" : Str)) = false := by decide)
    (he : starEach (e :: es) X.env = (false, eval e X.env) :: starEach es X.env := by rfl) (hpl : (backTo pos (starEach es X.env)).any (·.1) = false := by rfl) : PE X (.Call (.Name x p) (e :: es) [] pos) (tCall sp [] E0 t) := by
  obtain ⟨f, fd, hm, kp, b, G⟩ := O
  exact pe_call G hr hg hm kp b .nil pass0 ha hdb he hpl
end
end Bs

/-! ## BsRead -/
set_option Elab.async false
set_option linter.all false
set_option maxRecDepth 100000
set_option maxHeartbeats 4000000
namespace Bs
open PySem PySem.Spec PyProof.Rows L2
/-! ### the readings of the bodies (printed by gen.py) -/
/-- the reading of is_within -/
def t_is_within (K : PySem.W.Frag) : TS := (tRet (tChain rLe rLe (tVar 1) (tVar 0) (tVar 2)))
/-- the reading of is_index -/
def t_is_index (K : PySem.W.Frag) : TS := (tRet (tChain rLe rLt (tC (.int 0)) (tVar 0) (tCB (rLen K) (tCons (tVar 1) tNil))))
/-- the reading of are_indices -/
def t_are_indices (K : PySem.W.Frag) : TS := (tSeq (tFor (iRng1 (tCons (tCB (rLen K) (tCons (tVar 0) tNil)) tNil)) (gName 2) (tIfS (tOr (tNot (tB (tCall sp_is_index [] E0 (tCons (tOp (rIxL K) (tVar 0) (tVar 2)) (tCons (tVar 1) tNil))))) (tTest (tOp (rIn K false) (tOp (rIxL K) (tVar 0) (tVar 2)) (tSl (rSlL K) (tVar 0) tNoPart (tPart (tVar 2)))))) (tRet (tC (.bl false))) tNext))
    (tRet (tC (.bl true))))
/-- the reading of members -/
def t_members (K : PySem.W.Frag) : TS := (tRet (tLc (iRng1 (tCons (tCB (rLen K) (tCons (tVar 1) tNil)) tNil)) (gName 2) (tTest (tOp rEq (tOp rBand (tOp rShr (tVar 0) (tVar 2)) (tC (.int 1))) (tC (.int 1)))) (tVar 2) [2]))
/-- the reading of without -/
def t_without (K : PySem.W.Frag) : TS := (tRet (tOp rCat (tSl (rSlL K) (tVar 0) tNoPart (tPart (tVar 1))) (tSl (rSlL K) (tVar 0) (tPart (tOp rPlus (tVar 1) (tC (.int 1)))) tNoPart)))
/-- the reading of replaced -/
def t_replaced (K : PySem.W.Frag) : TS := (tRet (tOp rCat (tOp rCat (tSl (rSlL K) (tVar 0) tNoPart (tPart (tVar 1))) (tLst (tCons (tVar 2) tNil))) (tSl (rSlL K) (tVar 0) (tPart (tOp rPlus (tVar 1) (tC (.int 1)))) tNoPart)))
/-- the reading of arrivals -/
def t_arrivals (K : PySem.W.Frag) : TS := (tSeq (tPar3 3 4 5 (tCons (tLst tNil) (tCons (tC (.int 0)) (tCons (tVar 1) tNil))))
    (tSeq (tFor (iList K (tVar 2)) (gName 6) (tSeq (tAsg (tOp rPlus (tVar 5) (tCB rAbs (tCons (tOp rMinus (tOp (rIxL K) (tOp (rIxL K) (tVar 0) (tVar 6)) (tC (.int 0))) (tVar 4)) tNil))) (gName 5))
    (tSeq (tAsg (tOp (rIxL K) (tOp (rIxL K) (tVar 0) (tVar 6)) (tC (.int 0))) (gName 4))
    (tDrop (tBM K "list" rAppend (tVar 3) (tCons (tVar 5) tNil))))))
    (tRet (tVar 3))))
/-- the reading of finish_of -/
def t_finish_of (K : PySem.W.Frag) : TS := (tRet (tOp (rIxL K) (tOp rCat (tLst (tCons (tVar 1) tNil)) (tCall sp_arrivals [] E0 (tCons (tVar 0) (tCons (tVar 1) (tCons (tVar 2) tNil))))) (tUn rNeg (tC (.int 1)))))
/-- the reading of is_on_time -/
def t_is_on_time (K : PySem.W.Frag) : TS := (tSeq (tAsg (tCall sp_arrivals [] E0 (tCons (tVar 0) (tCons (tVar 1) (tCons (tVar 2) tNil)))) (gName 3))
    (tRet (tOp rEq (tCB (rLen K) (tCons (tLc (iZip K (tCons (tVar 2) (tCons (tVar 3) tNil))) (gTup K 2 (gCons (gName 4) (gCons (gName 5) gNil))) (tTest (tOp rGt (tVar 5) (tOp (rIxL K) (tOp (rIxL K) (tVar 0) (tVar 4)) (tC (.int 1))))) (tC (.int 1)) [4, 5]) tNil)) (tC (.int 0)))))
/-- the reading of loaves_of -/
def t_loaves_of (K : PySem.W.Frag) : TS := (tRet (tCB (rSum K) (tCons (tLc (iList K (tVar 1)) (gName 2) tYes (tOp (rIxL K) (tOp (rIxL K) (tVar 0) (tVar 2)) (tC (.int 2))) [2]) tNil)))
/-- the reading of by_distance -/
def t_by_distance (K : PySem.W.Frag) : TS := (tRet (tLc (iList K (tCB (rSortedPO K) (tCons (tLc (iList K (tVar 1)) (gName 3) tYes (tTup (tCons (tCB rAbs (tCons (tOp (rIxL K) (tOp (rIxL K) (tVar 0) (tVar 3)) (tC (.int 0))) tNil)) (tCons (tVar 3) tNil))) [3]) tNil))) (gTup K 2 (gCons (gName 2) (gCons (gName 3) gNil))) tYes (tVar 3) [2, 3]))
/-- the reading of left_ones -/
def t_left_ones (K : PySem.W.Frag) : TS := (tRet (tCall sp_by_distance [] E0 (tCons (tVar 0) (tCons (tLc (iList K (tVar 1)) (gName 2) (tTest (tOp rLt (tOp (rIxL K) (tOp (rIxL K) (tVar 0) (tVar 2)) (tC (.int 0))) (tC (.int 0)))) (tVar 2) [2]) tNil))))
/-- the reading of right_ones -/
def t_right_ones (K : PySem.W.Frag) : TS := (tRet (tCall sp_by_distance [] E0 (tCons (tVar 0) (tCons (tLc (iList K (tVar 1)) (gName 2) (tTest (tOp rGe (tOp (rIxL K) (tOp (rIxL K) (tVar 0) (tVar 2)) (tC (.int 0))) (tC (.int 0)))) (tVar 2) [2]) tNil))))
/-- the reading of taken_from -/
def t_taken_from (K : PySem.W.Frag) : TS := (tRet (tCB (rLen K) (tCons (tLc (iList K (tVar 0)) (gName 2) (tTest (tOp (rIn K false) (tVar 2) (tVar 1))) (tVar 2) [2]) tNil)))
/-- the reading of longer_routes -/
def t_longer_routes (K : PySem.W.Frag) : TS := (tSeq (tAsg (tLst tNil) (gName 3))
    (tSeq (tFor (iTup K (tTup (tCons (tVar 0) (tCons (tVar 1) tNil)))) (gName 4) (tSeq (tAsg (tCall sp_taken_from [] E0 (tCons (tVar 4) (tCons (tVar 2) tNil))) (gName 5))
    (tIfS (tTest (tOp rLt (tVar 5) (tCB (rLen K) (tCons (tVar 4) tNil)))) (tDrop (tBM K "list" rAppend (tVar 3) (tCons (tOp rCat (tVar 2) (tLst (tCons (tOp (rIxL K) (tVar 4) (tVar 5)) tNil))) tNil))) tNext)))
    (tRet (tVar 3))))
/-- the reading of sweeping_routes -/
def t_sweeping_routes (K : PySem.W.Frag) : TS := (tSeq (tPar 2 3 (tCons (tCall sp_left_ones [] E0 (tCons (tVar 0) (tCons (tVar 1) tNil))) (tCons (tCall sp_right_ones [] E0 (tCons (tVar 0) (tCons (tVar 1) tNil))) tNil)))
    (tSeq (tAsg (tLst (tCons (tLst tNil) tNil)) (gName 4))
    (tSeq (tFor (iRng1 (tCons (tCB (rLen K) (tCons (tVar 1) tNil)) tNil)) (gName 5) (tSeq (tAsg (tLst tNil) (gName 6))
    (tSeq (tFor (iList K (tVar 4)) (gName 7) (tDrop (tBM K "list" rExtend (tVar 6) (tCons (tCall sp_longer_routes [] E0 (tCons (tVar 2) (tCons (tVar 3) (tCons (tVar 7) tNil)))) tNil))))
    (tAsg (tVar 6) (gName 4)))))
    (tRet (tVar 4)))))
/-- the reading of best_route -/
def t_best_route (K : PySem.W.Frag) : TS := (tSeq (tAsg (tC .non) (gName 3))
    (tSeq (tFor (iList K (tCall sp_sweeping_routes [] E0 (tCons (tVar 0) (tCons (tVar 2) tNil)))) (gName 4) (tIfS (tB (tCall sp_is_on_time [] E0 (tCons (tVar 0) (tCons (tVar 1) (tCons (tVar 4) tNil))))) (tIfS (tOr (tTest (tOp rIsN (tVar 3) (tC .non))) (tTest (tOp rLt (tCall sp_finish_of [] E0 (tCons (tVar 0) (tCons (tVar 1) (tCons (tVar 4) tNil)))) (tCall sp_finish_of [] E0 (tCons (tVar 0) (tCons (tVar 1) (tCons (tVar 3) tNil))))))) (tAsg (tVar 4) (gName 3)) tNext) tNext))
    (tRet (tVar 3))))
/-- the reading of richest_route -/
def t_richest_route (K : PySem.W.Frag) : TS := (tSeq (tAsg (tLst tNil) (gName 2))
    (tSeq (tFor (iRng1 (tCons (tOp rShl (tC (.int 1)) (tCB (rLen K) (tCons (tVar 0) tNil))) tNil)) (gName 3) (tSeq (tAsg (tCall sp_members [] E0 (tCons (tVar 3) (tCons (tVar 0) tNil))) (gName 4))
    (tIfS (tTest (tOp rGt (tCall sp_loaves_of [] E0 (tCons (tVar 0) (tCons (tVar 4) tNil))) (tCall sp_loaves_of [] E0 (tCons (tVar 0) (tCons (tVar 2) tNil))))) (tSeq (tAsg (tCall sp_best_route [] E0 (tCons (tVar 0) (tCons (tVar 1) (tCons (tVar 4) tNil)))) (gName 5))
    (tIfS (tTest (tOp rNotN (tVar 5) (tC .non))) (tAsg (tVar 5) (gName 2)) tNext)) tNext)))
    (tRet (tVar 2))))
/-- the reading of latest_for -/
def t_latest_for (K : PySem.W.Frag) : TS := (tSeq (tAsg (tC (.int 299)) (gName 2))
    (tSeq (tFor (iZip K (tCons (tVar 1) (tCons (tCall sp_arrivals [] E0 (tCons (tVar 0) (tCons (tC (.int 0)) (tCons (tVar 1) tNil)))) tNil))) (gTup K 2 (gCons (gName 3) (gCons (gName 4) gNil))) (tAsg (tCB rMin2 (tCons (tVar 2) (tCons (tOp rMinus (tOp (rIxL K) (tOp (rIxL K) (tVar 0) (tVar 3)) (tC (.int 1))) (tVar 4)) tNil))) (gName 2)))
    (tRet (tVar 2))))
/-- the reading of latest_departure -/
def t_latest_departure (K : PySem.W.Frag) : TS := (tRet (tCB (rMax K) (tCons (tLc (iList K (tCall sp_sweeping_routes [] E0 (tCons (tVar 0) (tCons (tVar 1) tNil)))) (gName 2) tYes (tCall sp_latest_for [] E0 (tCons (tVar 0) (tCons (tVar 2) tNil))) [2]) tNil)))
/-- the reading of __init__ -/
def t_init (K : PySem.W.Frag) : TS := (tSeq (sFld K (tVar 0) (tUn rNeg (tC (.int 1))) "departure")
    (sFld K (tVar 0) (tLst tNil) "shops"))
/-- the reading of exists -/
def t_exists (K : PySem.W.Frag) : TS := (tRet (tOp rGe (tFld K (tVar 0) "departure") (tC (.int 0))))
/-- the reading of is_departure -/
def t_is_departure (K : PySem.W.Frag) : TS := (tRet (tCall sp_is_within [] E0 (tCons (tVar 0) (tCons (tC (.int 0)) (tCons (tC (.int 299)) tNil)))))
/-- the reading of is_field -/
def t_is_field (K : PySem.W.Frag) (a_LOW : Addr) (a_HIGH : Addr) : TS := (tRet (tCall sp_is_within [] E0 (tCons (tVar 1) (tCons (tOp (rIxT K) (tC (.ref a_LOW)) (tVar 0)) (tCons (tOp (rIxT K) (tC (.ref a_HIGH)) (tVar 0)) tNil)))))
/-- the reading of create -/
def t_create (K : PySem.W.Frag) : TS := (tSeq (tIfS (tNot (tB (tCall sp_is_departure [] E0 (tCons (tVar 1) tNil)))) (tRet (tC (.int (-22)))) tNext)
    (tSeq (sFld K (tVar 0) (tVar 1) "departure")
    (tSeq (sFld K (tVar 0) (tLst tNil) "shops")
    (tRet (tC (.int 0))))))
/-- the reading of add_shop -/
def t_add_shop (K : PySem.W.Frag) : TS := (tSeq (tFor (iTup K (tTup (tCons (tC (.int 0)) (tCons (tC (.int 1)) (tCons (tC (.int 2)) tNil))))) (gName 2) (tIfS (tNot (tB (tCall sp_is_field [] E0 (tCons (tVar 2) (tCons (tOp (rIxL K) (tVar 1) (tVar 2)) tNil))))) (tRet (tC (.int (-22)))) tNext))
    (tSeq (tIfS (tTest (tOp rEq (tCB (rLen K) (tCons (tFld K (tVar 0) "shops") tNil)) (tC (.int 7)))) (tRet (tC (.int (-28)))) tNext)
    (tSeq (sFld K (tVar 0) (tOp rCat (tFld K (tVar 0) "shops") (tLst (tCons (tVar 1) tNil))) "shops")
    (tRet (tOp rMinus (tCB (rLen K) (tCons (tFld K (tVar 0) "shops") tNil)) (tC (.int 1)))))))
/-- the reading of remove_shop -/
def t_remove_shop (K : PySem.W.Frag) : TS := (tSeq (tIfS (tNot (tB (tCall sp_is_index [] E0 (tCons (tVar 1) (tCons (tFld K (tVar 0) "shops") tNil))))) (tRet (tC (.int (-2)))) tNext)
    (tSeq (sFld K (tVar 0) (tCall sp_without [] E0 (tCons (tFld K (tVar 0) "shops") (tCons (tVar 1) tNil))) "shops")
    (tRet (tCB (rLen K) (tCons (tFld K (tVar 0) "shops") tNil)))))
/-- the reading of set_field -/
def t_set_field (K : PySem.W.Frag) : TS := (tSeq (tIfS (tNot (tB (tCall sp_is_index [] E0 (tCons (tVar 1) (tCons (tFld K (tVar 0) "shops") tNil))))) (tRet (tC (.int (-2)))) tNext)
    (tSeq (tIfS (tNot (tB (tCall sp_is_field [] E0 (tCons (tVar 2) (tCons (tVar 3) tNil))))) (tRet (tC (.int (-22)))) tNext)
    (tSeq (tAsg (tOp (rIxL K) (tOp (rIxL K) (tFld K (tVar 0) "shops") (tVar 1)) (tVar 2)) (gName 4))
    (tSeq (sFld K (tVar 0) (tCall sp_replaced [] E0 (tCons (tFld K (tVar 0) "shops") (tCons (tVar 1) (tCons (tCall sp_replaced [] E0 (tCons (tOp (rIxL K) (tFld K (tVar 0) "shops") (tVar 1)) (tCons (tVar 2) (tCons (tVar 3) tNil)))) tNil)))) "shops")
    (tRet (tIf (tTest (tOp rEq (tVar 2) (tC (.int 0)))) (tCB rAbs (tCons (tOp rMinus (tVar 3) (tVar 4)) tNil)) (tVar 4)))))))
/-- the reading of set_departure -/
def t_set_departure (K : PySem.W.Frag) : TS := (tSeq (tIfS (tNot (tB (tCall sp_is_departure [] E0 (tCons (tVar 1) tNil)))) (tRet (tC (.int (-22)))) tNext)
    (tSeq (tAsg (tFld K (tVar 0) "departure") (gName 2))
    (tSeq (sFld K (tVar 0) (tVar 1) "departure")
    (tRet (tVar 2)))))
/-- the reading of every -/
def t_every (K : PySem.W.Frag) : TS := (tRet (tLstRg (tRg1 (tCB (rLen K) (tCons (tFld K (tVar 0) "shops") tNil)))))
/-- the reading of earliest_finish -/
def t_earliest_finish (K : PySem.W.Frag) : TS := (tSeq (tAsg (tCall sp_best_route [] E0 (tCons (tFld K (tVar 0) "shops") (tCons (tFld K (tVar 0) "departure") (tCons (tVar 1) tNil)))) (gName 2))
    (tRet (tIf (tTest (tOp rIsN (tVar 2) (tC .non))) (tLst (tCons (tC (.int (-33))) tNil)) (tLst (tCons (tCall sp_finish_of [] E0 (tCons (tFld K (tVar 0) "shops") (tCons (tFld K (tVar 0) "departure") (tCons (tVar 2) tNil)))) tNil)))))
/-- the reading of ask_best_route -/
def t_ask_best_route (K : PySem.W.Frag) (C : Addr) : TS := (tSeq (tAsg (tCall sp_best_route [] E0 (tCons (tFld K (tVar 0) "shops") (tCons (tFld K (tVar 0) "departure") (tCons (tCall (sp_every C) [] E0 (tCons (tVar 0) tNil)) tNil)))) (gName 1))
    (tRet (tIf (tTest (tOp rIsN (tVar 1) (tC .non))) (tLst (tCons (tC (.int (-33))) tNil)) (tOp rCat (tLst (tCons (tCall sp_finish_of [] E0 (tCons (tFld K (tVar 0) "shops") (tCons (tFld K (tVar 0) "departure") (tCons (tVar 1) tNil)))) tNil)) (tVar 1)))))
/-- the reading of arrival_times -/
def t_arrival_times (K : PySem.W.Frag) : TS := (tSeq (tIfS (tNot (tB (tCall sp_are_indices [] E0 (tCons (tVar 1) (tCons (tFld K (tVar 0) "shops") tNil))))) (tRet (tLst (tCons (tC (.int (-22))) tNil))) tNext)
    (tRet (tOp rCat (tLst (tCons (tCB (rLen K) (tCons (tVar 1) tNil)) tNil)) (tCall sp_arrivals [] E0 (tCons (tFld K (tVar 0) "shops") (tCons (tFld K (tVar 0) "departure") (tCons (tVar 1) tNil)))))))
/-- the reading of check_route -/
def t_check_route (K : PySem.W.Frag) : TS := (tSeq (tPar 2 3 (tCons (tFld K (tVar 0) "shops") (tCons (tFld K (tVar 0) "departure") tNil)))
    (tSeq (tIfS (tNot (tB (tCall sp_are_indices [] E0 (tCons (tVar 1) (tCons (tVar 2) tNil))))) (tRet (tLst (tCons (tC (.int (-22))) tNil))) tNext)
    (tSeq (tAsg (tIf (tB (tCall sp_is_on_time [] E0 (tCons (tVar 2) (tCons (tVar 3) (tCons (tVar 1) tNil))))) (tC (.int 1)) (tC (.int 0))) (gName 4))
    (tRet (tLst (tCons (tVar 4) (tCons (tCall sp_finish_of [] E0 (tCons (tVar 2) (tCons (tVar 3) (tCons (tVar 1) tNil)))) (tCons (tCall sp_loaves_of [] E0 (tCons (tVar 2) (tCons (tVar 1) tNil))) tNil))))))))
/-- the reading of max_loaves -/
def t_max_loaves (K : PySem.W.Frag) : TS := (tSeq (tAsg (tCall sp_richest_route [] E0 (tCons (tFld K (tVar 0) "shops") (tCons (tFld K (tVar 0) "departure") tNil))) (gName 1))
    (tRet (tOp rCat (tLst (tCons (tCall sp_loaves_of [] E0 (tCons (tFld K (tVar 0) "shops") (tCons (tVar 1) tNil))) tNil)) (tVar 1))))
/-- the reading of earliest_finish_of -/
def t_earliest_finish_of (K : PySem.W.Frag) (C : Addr) : TS := (tSeq (tIfS (tNot (tB (tCall sp_is_within [] E0 (tCons (tVar 1) (tCons (tC (.int 0)) (tCons (tOp rMinus (tOp rShl (tC (.int 1)) (tCB (rLen K) (tCons (tFld K (tVar 0) "shops") tNil))) (tC (.int 1))) tNil)))))) (tRet (tLst (tCons (tC (.int (-22))) tNil))) tNext)
    (tRet (tCall (sp_earliest_finish C) [] E0 (tCons (tVar 0) (tCons (tCall sp_members [] E0 (tCons (tVar 1) (tCons (tFld K (tVar 0) "shops") tNil))) tNil)))))
/-- the reading of return_time -/
def t_return_time (K : PySem.W.Frag) (C : Addr) : TS := (tSeq (tPar 1 2 (tCons (tFld K (tVar 0) "shops") (tCons (tFld K (tVar 0) "departure") tNil)))
    (tSeq (tAsg (tCall sp_best_route [] E0 (tCons (tVar 1) (tCons (tVar 2) (tCons (tCall (sp_every C) [] E0 (tCons (tVar 0) tNil)) tNil)))) (gName 3))
    (tSeq (tIfS (tTest (tOp rIsN (tVar 3) (tC .non))) (tRet (tLst (tCons (tC (.int (-33))) tNil))) tNext)
    (tSeq (tAsg (tIf (tTest (tOp rGt (tCB (rLen K) (tCons (tVar 3) tNil)) (tC (.int 0)))) (tCB rAbs (tCons (tOp (rIxL K) (tOp (rIxL K) (tVar 1) (tOp (rIxL K) (tVar 3) (tUn rNeg (tC (.int 1))))) (tC (.int 0))) tNil)) (tC (.int 0))) (gName 4))
    (tRet (tLst (tCons (tOp rPlus (tCall sp_finish_of [] E0 (tCons (tVar 1) (tCons (tVar 2) (tCons (tVar 3) tNil)))) (tVar 4)) tNil)))))))
/-- the reading of earliest_finish_without -/
def t_earliest_finish_without (K : PySem.W.Frag) (C : Addr) : TS := (tSeq (tIfS (tNot (tB (tCall sp_is_index [] E0 (tCons (tVar 1) (tCons (tFld K (tVar 0) "shops") tNil))))) (tRet (tLst (tCons (tC (.int (-2))) tNil))) tNext)
    (tRet (tCall (sp_earliest_finish C) [] E0 (tCons (tVar 0) (tCons (tCall sp_without [] E0 (tCons (tCall (sp_every C) [] E0 (tCons (tVar 0) tNil)) (tCons (tVar 1) tNil))) tNil)))))
/-- the reading of describe -/
def t_describe (K : PySem.W.Frag) : TS := (tSeq (tAsg (tLst (tCons (tFld K (tVar 0) "departure") (tCons (tCB (rLen K) (tCons (tFld K (tVar 0) "shops") tNil)) tNil))) (gName 1))
    (tSeq (tFor (iList K (tFld K (tVar 0) "shops")) (gName 2) (tDrop (tBM K "list" rExtend (tVar 1) (tCons (tVar 2) tNil))))
    (tRet (tVar 1))))
/-- the reading of ask_latest -/
def t_ask_latest (K : PySem.W.Frag) (C : Addr) : TS := (tSeq (tAsg (tCall sp_latest_departure [] E0 (tCons (tFld K (tVar 0) "shops") (tCons (tCall (sp_every C) [] E0 (tCons (tVar 0) tNil)) tNil))) (gName 1))
    (tRet (tIf (tTest (tOp rGe (tVar 1) (tC (.int 0)))) (tLst (tCons (tVar 1) tNil)) (tLst (tCons (tC (.int (-33))) tNil)))))
/-- the reading of answer_edit -/
def t_answer_edit (K : PySem.W.Frag) (C : Addr) : TS := (tSeq (tIfS (tTest (tOp rEq (tVar 1) (tC (.int 1)))) (tRet (tCall (sp_add_shop C) [] E0 (tCons (tVar 0) (tCons (tVar 2) tNil)))) tNext)
    (tSeq (tIfS (tTest (tOp rEq (tVar 1) (tC (.int 2)))) (tRet (tCall (sp_remove_shop C) [] E0 (tCons (tVar 0) (tCons (tOp (rIxL K) (tVar 2) (tC (.int 0))) tNil)))) tNext)
    (tRet (tIf (tTest (tOp rEq (tVar 1) (tC (.int 6)))) (tCall (sp_set_departure C) [] E0 (tCons (tVar 0) (tCons (tOp (rIxL K) (tVar 2) (tC (.int 0))) tNil))) (tCall (sp_set_field C) [] E0 (tCons (tVar 0) (tCons (tOp (rIxL K) (tVar 2) (tC (.int 0))) (tCons (tOp rMinus (tVar 1) (tC (.int 3))) (tCons (tOp (rIxL K) (tVar 2) (tC (.int 1))) tNil)))))))))
/-- the reading of answer_question -/
def t_answer_question (K : PySem.W.Frag) (C : Addr) : TS := (tSeq (tIfS (tTest (tOp rEq (tVar 1) (tC (.int 7)))) (tRet (tCall (sp_earliest_finish C) [] E0 (tCons (tVar 0) (tCons (tCall (sp_every C) [] E0 (tCons (tVar 0) tNil)) tNil)))) tNext)
    (tSeq (tIfS (tTest (tOp rEq (tVar 1) (tC (.int 8)))) (tRet (tCall (sp_ask_best_route C) [] E0 (tCons (tVar 0) tNil))) tNext)
    (tSeq (tIfS (tTest (tOp rEq (tVar 1) (tC (.int 9)))) (tRet (tCall (sp_arrival_times C) [] E0 (tCons (tVar 0) (tCons (tVar 3) tNil)))) tNext)
    (tSeq (tIfS (tTest (tOp rEq (tVar 1) (tC (.int 10)))) (tRet (tCall (sp_check_route C) [] E0 (tCons (tVar 0) (tCons (tVar 3) tNil)))) tNext)
    (tSeq (tIfS (tTest (tOp rEq (tVar 1) (tC (.int 11)))) (tRet (tCall (sp_max_loaves C) [] E0 (tCons (tVar 0) tNil))) tNext)
    (tSeq (tIfS (tTest (tOp rEq (tVar 1) (tC (.int 12)))) (tRet (tCall (sp_earliest_finish_of C) [] E0 (tCons (tVar 0) (tCons (tOp (rIxL K) (tVar 2) (tC (.int 0))) tNil)))) tNext)
    (tSeq (tIfS (tTest (tOp rEq (tVar 1) (tC (.int 13)))) (tRet (tCall (sp_ask_latest C) [] E0 (tCons (tVar 0) tNil))) tNext)
    (tSeq (tIfS (tTest (tOp rEq (tVar 1) (tC (.int 14)))) (tRet (tCall (sp_return_time C) [] E0 (tCons (tVar 0) tNil))) tNext)
    (tRet (tIf (tTest (tOp rEq (tVar 1) (tC (.int 15)))) (tCall (sp_earliest_finish_without C) [] E0 (tCons (tVar 0) (tCons (tOp (rIxL K) (tVar 2) (tC (.int 0))) tNil))) (tCall (sp_describe C) [] E0 (tCons (tVar 0) tNil))))))))))))
/-- the reading of answer -/
def t_answer (K : PySem.W.Frag) (C : Addr) : TS := (tSeq (tIfS (tTest (tOp rEq (tVar 1) (tC (.int 0)))) (tRet (tLst (tCons (tCall (sp_create C) [] E0 (tCons (tVar 0) (tCons (tOp (rIxL K) (tVar 2) (tC (.int 0))) tNil))) tNil))) tNext)
    (tSeq (tIfS (tNot (tB (tMeth C "exists" (sp_exists C) [] E0 (tVar 0) tNil))) (tRet (tLst (tCons (tC (.int (-11))) tNil))) tNext)
    (tRet (tIf (tTest (tOp rLe (tVar 1) (tC (.int 6)))) (tLst (tCons (tCall (sp_answer_edit C) [] E0 (tCons (tVar 0) (tCons (tVar 1) (tCons (tVar 2) tNil)))) tNil)) (tCall (sp_answer_question C) [] E0 (tCons (tVar 0) (tCons (tVar 1) (tCons (tVar 2) (tCons (tVar 3) tNil)))))))))
/-- the reading of end_of -/
def t_end_of (K : PySem.W.Frag) (a_WITH_ROUTE : Addr) : TS := (tRet (tIf (tTest (tOp (rIn K false) (tVar 2) (tC (.ref a_WITH_ROUTE)))) (tOp rPlus (tOp rPlus (tVar 1) (tC (.int 1))) (tOp (rIxL K) (tVar 0) (tVar 1))) (tVar 1)))
/-- the reading of answers -/
def t_answers (K : PySem.W.Frag) (C : Addr) (a_NUMBERS : Addr) : TS := (tSeq (tAsg (tMake C (sp_init C) [] E0 tNil) (gName 1))
    (tSeq (tAsg (tLst tNil) (gName 2))
    (tSeq (tAsg (tC (.int 0)) (gName 3))
    (tSeq (tWhile (tTest (tOp rLt (tVar 3) (tCB (rLen K) (tCons (tVar 0) tNil)))) (tSeq (tAsg (tOp (rIxL K) (tVar 0) (tVar 3)) (gName 4))
    (tSeq (tAsg (tOp rPlus (tOp rPlus (tVar 3) (tC (.int 1))) (tOp (rIxT K) (tC (.ref a_NUMBERS)) (tVar 4))) (gName 5))
    (tSeq (tAsg (tCall (sp_end_of K) [] E0 (tCons (tVar 0) (tCons (tVar 5) (tCons (tVar 4) tNil)))) (gName 6))
    (tSeq (tAsg (tCall (sp_answer C) [] E0 (tCons (tVar 1) (tCons (tVar 4) (tCons (tSl (rSlL K) (tVar 0) (tPart (tOp rPlus (tVar 3) (tC (.int 1)))) (tPart (tVar 5))) (tCons (tSl (rSlL K) (tVar 0) (tPart (tOp rPlus (tVar 5) (tC (.int 1)))) (tPart (tVar 6))) tNil))))) (gName 7))
    (tSeq (tDrop (tBM K "list" rAppend (tVar 2) (tCons (tCB (rLen K) (tCons (tVar 7) tNil)) tNil)))
    (tSeq (tDrop (tBM K "list" rExtend (tVar 2) (tCons (tVar 7) tNil)))
    (tAsg (tVar 6) (gName 3)))))))))
    (tRet (tVar 2))))))
end Bs

/-! ## BsDer -/
set_option Elab.async false
set_option linter.all false
set_option maxRecDepth 100000
set_option maxHeartbeats 4000000
namespace Bs
open PySem PySem.Spec PyProof.Rows L2
/-! ### the bodies have their readings (printed by gen.py) -/
section
variable {P : Program} {w : World} {K : PySem.W.Frag} {mg : Str → Option Value} {base : Heap} {C a_LOW a_HIGH a_NUMBERS a_WITH_ROUTE : Addr}
theorem ok_is_within (F : Def K mg "is_within" s_is_within) (T : Txt K mg C a_LOW a_HIGH a_NUMBERS a_WITH_ROUTE) (hp : Pure (t_is_within K) sp_is_within N_is_within) :
    Ok P w K mg base "is_within" P_is_within sp_is_within 1 := by
  obtain ⟨f, fd, mgf, F⟩ := F
  refine ⟨f, fd, mgf, F.kp, F.binds (ps := P_is_within) fun _ _ _ _ _ _ us hl => match us, hl with | [_, _, _], _ => rfl, F.ok sc_is_within (fun vs H Q E h => ?_) (fun cdv A outer s H vs Q E hr h => ⟨t_is_within K, ?_, hp vs H Q E h⟩)⟩
  · first | (obtain ⟨_, rfl, _⟩ := h; rfl) | (obtain ⟨_, _, rfl, _⟩ := h; rfl) | (obtain ⟨_, _, _, rfl, _⟩ := h; rfl) | (obtain ⟨_, _, _, _, rfl, _⟩ := h; rfl) | (obtain ⟨_, _, _, _, _, rfl, _⟩ := h; rfl) | (obtain ⟨_, _, _, _, _, _, rfl, _⟩ := h; rfl) | (obtain ⟨_, _, _, _, _, _, _, rfl, _⟩ := h; rfl) | (obtain ⟨_, _, _, _, _, _, _, _, rfl, _⟩ := h; rfl)
  · exact (pss_one (ps_ret (pe_chain op_le op_le (pv 1) (pv 0) (pv 2))))
theorem ok_is_index (F : Def K mg "is_index" s_is_index) (T : Txt K mg C a_LOW a_HIGH a_NUMBERS a_WITH_ROUTE) (hp : Pure (t_is_index K) sp_is_index N_is_index) :
    Ok P w K mg base "is_index" P_is_index sp_is_index 1 := by
  obtain ⟨f, fd, mgf, F⟩ := F
  refine ⟨f, fd, mgf, F.kp, F.binds (ps := P_is_index) fun _ _ _ _ _ _ us hl => match us, hl with | [_, _], _ => rfl, F.ok sc_is_index (fun vs H Q E h => ?_) (fun cdv A outer s H vs Q E hr h => ⟨t_is_index K, ?_, hp vs H Q E h⟩)⟩
  · first | (obtain ⟨_, rfl, _⟩ := h; rfl) | (obtain ⟨_, _, rfl, _⟩ := h; rfl) | (obtain ⟨_, _, _, rfl, _⟩ := h; rfl) | (obtain ⟨_, _, _, _, rfl, _⟩ := h; rfl) | (obtain ⟨_, _, _, _, _, rfl, _⟩ := h; rfl) | (obtain ⟨_, _, _, _, _, _, rfl, _⟩ := h; rfl) | (obtain ⟨_, _, _, _, _, _, _, rfl, _⟩ := h; rfl) | (obtain ⟨_, _, _, _, _, _, _, _, rfl, _⟩ := h; rfl)
  · exact (pss_one (ps_ret (pe_chain op_le op_lt pe_int (pv 0) (pe_callB call_len_seq (by rfl) T.b_len boot_len (pa_cons (pv 1) pa_nil)))))
theorem ok_are_indices (F : Def K mg "are_indices" s_are_indices) (T : Txt K mg C a_LOW a_HIGH a_NUMBERS a_WITH_ROUTE) (O_is_index : Ok P w K mg base "is_index" P_is_index sp_is_index 1) (hp : Pure (t_are_indices K) sp_are_indices N_are_indices) :
    Ok P w K mg base "are_indices" P_are_indices sp_are_indices 2 := by
  obtain ⟨f, fd, mgf, F⟩ := F
  refine ⟨f, fd, mgf, F.kp, F.binds (ps := P_are_indices) fun _ _ _ _ _ _ us hl => match us, hl with | [_, _], _ => rfl, F.ok sc_are_indices (fun vs H Q E h => ?_) (fun cdv A outer s H vs Q E hr h => ⟨t_are_indices K, ?_, hp vs H Q E h⟩)⟩
  · first | (obtain ⟨_, rfl, _⟩ := h; rfl) | (obtain ⟨_, _, rfl, _⟩ := h; rfl) | (obtain ⟨_, _, _, rfl, _⟩ := h; rfl) | (obtain ⟨_, _, _, _, rfl, _⟩ := h; rfl) | (obtain ⟨_, _, _, _, _, rfl, _⟩ := h; rfl) | (obtain ⟨_, _, _, _, _, _, rfl, _⟩ := h; rfl) | (obtain ⟨_, _, _, _, _, _, _, rfl, _⟩ := h; rfl) | (obtain ⟨_, _, _, _, _, _, _, _, rfl, _⟩ := h; rfl)
  · exact (pss_cons (ps_for PassesOwn.never rfl (pi_range1 rfl T.b_range (pa_cons (pe_callB call_len_seq (by rfl) T.b_len boot_len (pa_cons (pv 0) pa_nil)) pa_nil)) (pg_name (i := 2) sc_are_indices.nd rfl (Or.inl rfl)) (pss_one (ps_if (PW.pt (pw_or (pt_not (pt_val (pe_fn O_is_index (hr.mono (by decide)) rfl (pa_cons (pe_ix ix_list (pv 0) (pv 2) (fun _ _ => rfl)) (pa_cons (pv 1) pa_nil))))) (pw_or1 (pt_cmpR op_in_seq (pe_ix ix_list (pv 0) (pv 2) (fun _ _ => rfl)) (pe_slice sl_list (pv 0) po_none (po_some (pv 2))) (by with_unfolding_all rfl))))) (pss_one (ps_ret pe_bl)) pss_nil)))
      (pss_one (ps_ret pe_bl)))
theorem ok_members (F : Def K mg "members" s_members) (T : Txt K mg C a_LOW a_HIGH a_NUMBERS a_WITH_ROUTE) (hp : Pure (t_members K) sp_members N_members) :
    Ok P w K mg base "members" P_members sp_members 1 := by
  obtain ⟨f, fd, mgf, F⟩ := F
  refine ⟨f, fd, mgf, F.kp, F.binds (ps := P_members) fun _ _ _ _ _ _ us hl => match us, hl with | [_, _], _ => rfl, F.ok sc_members (fun vs H Q E h => ?_) (fun cdv A outer s H vs Q E hr h => ⟨t_members K, ?_, hp vs H Q E h⟩)⟩
  · first | (obtain ⟨_, rfl, _⟩ := h; rfl) | (obtain ⟨_, _, rfl, _⟩ := h; rfl) | (obtain ⟨_, _, _, rfl, _⟩ := h; rfl) | (obtain ⟨_, _, _, _, rfl, _⟩ := h; rfl) | (obtain ⟨_, _, _, _, _, rfl, _⟩ := h; rfl) | (obtain ⟨_, _, _, _, _, _, rfl, _⟩ := h; rfl) | (obtain ⟨_, _, _, _, _, _, _, rfl, _⟩ := h; rfl) | (obtain ⟨_, _, _, _, _, _, _, _, rfl, _⟩ := h; rfl)
  · exact (pss_one (ps_ret (pe_lc (own := [("index", 2)]) (g := (gName 2)) (tt := (tTest (tOp rEq (tOp rBand (tOp rShr (tVar 0) (tVar 2)) (tC (.int 1))) (tC (.int 1))))) rfl sc_members.nd (pi_range1 rfl T.b_range (pa_cons (pe_callB call_len_seq (by rfl) T.b_len boot_len (pa_cons (pv 1) pa_nil)) pa_nil)) (blkOk_by (own := [("index", 2)]) (N := N_members) (sc := defScope s_members) (by decide +kernel)) (fun _ _ _ _ _ => (pg_name (i := 2) sc_members.nd rfl (Or.inl rfl))) (fun _ _ _ _ _ => (pts_one (pt_cmpR op_eq (pe_op op_and (pe_op op_shr (pv 0) (pv 2)) pe_int) pe_int (nomark _)))) (fun _ _ _ _ _ => (pv 2)))))
theorem ok_without (F : Def K mg "without" s_without) (T : Txt K mg C a_LOW a_HIGH a_NUMBERS a_WITH_ROUTE) (hp : Pure (t_without K) sp_without N_without) :
    Ok P w K mg base "without" P_without sp_without 1 := by
  obtain ⟨f, fd, mgf, F⟩ := F
  refine ⟨f, fd, mgf, F.kp, F.binds (ps := P_without) fun _ _ _ _ _ _ us hl => match us, hl with | [_, _], _ => rfl, F.ok sc_without (fun vs H Q E h => ?_) (fun cdv A outer s H vs Q E hr h => ⟨t_without K, ?_, hp vs H Q E h⟩)⟩
  · first | (obtain ⟨_, rfl, _⟩ := h; rfl) | (obtain ⟨_, _, rfl, _⟩ := h; rfl) | (obtain ⟨_, _, _, rfl, _⟩ := h; rfl) | (obtain ⟨_, _, _, _, rfl, _⟩ := h; rfl) | (obtain ⟨_, _, _, _, _, rfl, _⟩ := h; rfl) | (obtain ⟨_, _, _, _, _, _, rfl, _⟩ := h; rfl) | (obtain ⟨_, _, _, _, _, _, _, rfl, _⟩ := h; rfl) | (obtain ⟨_, _, _, _, _, _, _, _, rfl, _⟩ := h; rfl)
  · exact (pss_one (ps_ret (pe_op op_cat (pe_slice sl_list (pv 0) po_none (po_some (pv 1))) (pe_slice sl_list (pv 0) (po_some (pe_op op_add (pv 1) pe_int)) po_none))))
theorem ok_replaced (F : Def K mg "replaced" s_replaced) (T : Txt K mg C a_LOW a_HIGH a_NUMBERS a_WITH_ROUTE) (hp : Pure (t_replaced K) sp_replaced N_replaced) :
    Ok P w K mg base "replaced" P_replaced sp_replaced 1 := by
  obtain ⟨f, fd, mgf, F⟩ := F
  refine ⟨f, fd, mgf, F.kp, F.binds (ps := P_replaced) fun _ _ _ _ _ _ us hl => match us, hl with | [_, _, _], _ => rfl, F.ok sc_replaced (fun vs H Q E h => ?_) (fun cdv A outer s H vs Q E hr h => ⟨t_replaced K, ?_, hp vs H Q E h⟩)⟩
  · first | (obtain ⟨_, rfl, _⟩ := h; rfl) | (obtain ⟨_, _, rfl, _⟩ := h; rfl) | (obtain ⟨_, _, _, rfl, _⟩ := h; rfl) | (obtain ⟨_, _, _, _, rfl, _⟩ := h; rfl) | (obtain ⟨_, _, _, _, _, rfl, _⟩ := h; rfl) | (obtain ⟨_, _, _, _, _, _, rfl, _⟩ := h; rfl) | (obtain ⟨_, _, _, _, _, _, _, rfl, _⟩ := h; rfl) | (obtain ⟨_, _, _, _, _, _, _, _, rfl, _⟩ := h; rfl)
  · exact (pss_one (ps_ret (pe_op op_cat (pe_op op_cat (pe_slice sl_list (pv 0) po_none (po_some (pv 1))) (pe_lst (pa_cons (pv 2) pa_nil))) (pe_slice sl_list (pv 0) (po_some (pe_op op_add (pv 1) pe_int)) po_none))))
theorem ok_arrivals (F : Def K mg "arrivals" s_arrivals) (T : Txt K mg C a_LOW a_HIGH a_NUMBERS a_WITH_ROUTE) (hp : Pure (t_arrivals K) sp_arrivals N_arrivals) :
    Ok P w K mg base "arrivals" P_arrivals sp_arrivals 1 := by
  obtain ⟨f, fd, mgf, F⟩ := F
  refine ⟨f, fd, mgf, F.kp, F.binds (ps := P_arrivals) fun _ _ _ _ _ _ us hl => match us, hl with | [_, _, _], _ => rfl, F.ok sc_arrivals (fun vs H Q E h => ?_) (fun cdv A outer s H vs Q E hr h => ⟨t_arrivals K, ?_, hp vs H Q E h⟩)⟩
  · first | (obtain ⟨_, rfl, _⟩ := h; rfl) | (obtain ⟨_, _, rfl, _⟩ := h; rfl) | (obtain ⟨_, _, _, rfl, _⟩ := h; rfl) | (obtain ⟨_, _, _, _, rfl, _⟩ := h; rfl) | (obtain ⟨_, _, _, _, _, rfl, _⟩ := h; rfl) | (obtain ⟨_, _, _, _, _, _, rfl, _⟩ := h; rfl) | (obtain ⟨_, _, _, _, _, _, _, rfl, _⟩ := h; rfl) | (obtain ⟨_, _, _, _, _, _, _, _, rfl, _⟩ := h; rfl)
  · exact (pss_cons (ps_par3 (i := 3) (j := 4) (l := 5) (by rfl) sc_arrivals.nd rfl rfl rfl (by decide) (by decide) (by decide) rfl rfl rfl (pa_cons (pe_lst pa_nil) (pa_cons pe_int (pa_cons (pv 1) pa_nil))) (by rfl))
      (pss_cons (ps_for PassesOwn.never rfl (pi_list (pv 2)) (pg_name (i := 6) sc_arrivals.nd rfl (Or.inl rfl)) (pss_cons (ps_set (i := 5) sc_arrivals.nd rfl (Or.inl rfl) (pe_op op_add (pv 5) (pe_callB call_abs (by rfl) T.b_abs boot_abs (pa_cons (pe_op op_sub (pe_ix ix_list (pe_ix ix_list (pv 0) (pv 6) (fun _ _ => rfl)) (pe_gint rfl T.c_POSITION) (fun _ _ => rfl)) (pv 4)) pa_nil))))
      (pss_cons (ps_set (i := 4) sc_arrivals.nd rfl (Or.inl rfl) (pe_ix ix_list (pe_ix ix_list (pv 0) (pv 6) (fun _ _ => rfl)) (pe_gint rfl T.c_POSITION) (fun _ _ => rfl)))
      (pss_one (ps_expr (pe_bm PySem.F.plainAttrs_list PySem.F.slot_list_append PySem.F.type_list_append mt_append (pv 3) (pa_cons (pv 5) pa_nil)))))))
      (pss_one (ps_ret (pv 3)))))
theorem ok_finish_of (F : Def K mg "finish_of" s_finish_of) (T : Txt K mg C a_LOW a_HIGH a_NUMBERS a_WITH_ROUTE) (O_arrivals : Ok P w K mg base "arrivals" P_arrivals sp_arrivals 1) (hp : Pure (t_finish_of K) sp_finish_of N_finish_of) :
    Ok P w K mg base "finish_of" P_finish_of sp_finish_of 2 := by
  obtain ⟨f, fd, mgf, F⟩ := F
  refine ⟨f, fd, mgf, F.kp, F.binds (ps := P_finish_of) fun _ _ _ _ _ _ us hl => match us, hl with | [_, _, _], _ => rfl, F.ok sc_finish_of (fun vs H Q E h => ?_) (fun cdv A outer s H vs Q E hr h => ⟨t_finish_of K, ?_, hp vs H Q E h⟩)⟩
  · first | (obtain ⟨_, rfl, _⟩ := h; rfl) | (obtain ⟨_, _, rfl, _⟩ := h; rfl) | (obtain ⟨_, _, _, rfl, _⟩ := h; rfl) | (obtain ⟨_, _, _, _, rfl, _⟩ := h; rfl) | (obtain ⟨_, _, _, _, _, rfl, _⟩ := h; rfl) | (obtain ⟨_, _, _, _, _, _, rfl, _⟩ := h; rfl) | (obtain ⟨_, _, _, _, _, _, _, rfl, _⟩ := h; rfl) | (obtain ⟨_, _, _, _, _, _, _, _, rfl, _⟩ := h; rfl)
  · exact (pss_one (ps_ret (pe_ix ix_list (pe_op op_cat (pe_lst (pa_cons (pv 1) pa_nil)) (pe_fn O_arrivals (hr.mono (by decide)) rfl (pa_cons (pv 0) (pa_cons (pv 1) (pa_cons (pv 2) pa_nil))))) (pe_un un_neg pe_int) (fun _ _ => rfl))))
theorem ok_is_on_time (F : Def K mg "is_on_time" s_is_on_time) (T : Txt K mg C a_LOW a_HIGH a_NUMBERS a_WITH_ROUTE) (O_arrivals : Ok P w K mg base "arrivals" P_arrivals sp_arrivals 1) (hp : Pure (t_is_on_time K) sp_is_on_time N_is_on_time) :
    Ok P w K mg base "is_on_time" P_is_on_time sp_is_on_time 2 := by
  obtain ⟨f, fd, mgf, F⟩ := F
  refine ⟨f, fd, mgf, F.kp, F.binds (ps := P_is_on_time) fun _ _ _ _ _ _ us hl => match us, hl with | [_, _, _], _ => rfl, F.ok sc_is_on_time (fun vs H Q E h => ?_) (fun cdv A outer s H vs Q E hr h => ⟨t_is_on_time K, ?_, hp vs H Q E h⟩)⟩
  · first | (obtain ⟨_, rfl, _⟩ := h; rfl) | (obtain ⟨_, _, rfl, _⟩ := h; rfl) | (obtain ⟨_, _, _, rfl, _⟩ := h; rfl) | (obtain ⟨_, _, _, _, rfl, _⟩ := h; rfl) | (obtain ⟨_, _, _, _, _, rfl, _⟩ := h; rfl) | (obtain ⟨_, _, _, _, _, _, rfl, _⟩ := h; rfl) | (obtain ⟨_, _, _, _, _, _, _, rfl, _⟩ := h; rfl) | (obtain ⟨_, _, _, _, _, _, _, _, rfl, _⟩ := h; rfl)
  · exact (pss_cons (ps_set (i := 3) sc_is_on_time.nd rfl (Or.inl rfl) (pe_fn O_arrivals (hr.mono (by decide)) rfl (pa_cons (pv 0) (pa_cons (pv 1) (pa_cons (pv 2) pa_nil)))))
      (pss_one (ps_ret (pe_cmpR op_eq (pe_callB call_len_seq (by rfl) T.b_len boot_len (pa_cons (pe_lc (own := [("i", 4), ("time", 5)]) (g := (gTup K 2 (gCons (gName 4) (gCons (gName 5) gNil)))) (tt := (tTest (tOp rGt (tVar 5) (tOp (rIxL K) (tOp (rIxL K) (tVar 0) (tVar 4)) (tC (.int 1)))))) rfl sc_is_on_time.nd (pi_zip (by rfl) T.b_zip (pa_cons (pv 2) (pa_cons (pv 3) pa_nil))) (blkOk_by (own := [("i", 4), ("time", 5)]) (N := N_is_on_time) (sc := defScope s_is_on_time) (by decide +kernel)) (fun _ _ _ _ _ => (pg_tup rfl (pgs_cons (pg_name (i := 4) sc_is_on_time.nd rfl (Or.inl rfl)) (pgs_cons (pg_name (i := 5) sc_is_on_time.nd rfl (Or.inl rfl)) pgs_nil)))) (fun _ _ _ _ _ => (pts_one (pt_cmpR op_gt (pv 5) (pe_ix ix_list (pe_ix ix_list (pv 0) (pv 4) (fun _ _ => rfl)) (pe_gint rfl T.c_DEADLINE) (fun _ _ => rfl)) (nomark _)))) (fun _ _ _ _ _ => pe_int)) pa_nil)) pe_int (nomark _)))))
theorem ok_loaves_of (F : Def K mg "loaves_of" s_loaves_of) (T : Txt K mg C a_LOW a_HIGH a_NUMBERS a_WITH_ROUTE) (hp : Pure (t_loaves_of K) sp_loaves_of N_loaves_of) :
    Ok P w K mg base "loaves_of" P_loaves_of sp_loaves_of 1 := by
  obtain ⟨f, fd, mgf, F⟩ := F
  refine ⟨f, fd, mgf, F.kp, F.binds (ps := P_loaves_of) fun _ _ _ _ _ _ us hl => match us, hl with | [_, _], _ => rfl, F.ok sc_loaves_of (fun vs H Q E h => ?_) (fun cdv A outer s H vs Q E hr h => ⟨t_loaves_of K, ?_, hp vs H Q E h⟩)⟩
  · first | (obtain ⟨_, rfl, _⟩ := h; rfl) | (obtain ⟨_, _, rfl, _⟩ := h; rfl) | (obtain ⟨_, _, _, rfl, _⟩ := h; rfl) | (obtain ⟨_, _, _, _, rfl, _⟩ := h; rfl) | (obtain ⟨_, _, _, _, _, rfl, _⟩ := h; rfl) | (obtain ⟨_, _, _, _, _, _, rfl, _⟩ := h; rfl) | (obtain ⟨_, _, _, _, _, _, _, rfl, _⟩ := h; rfl) | (obtain ⟨_, _, _, _, _, _, _, _, rfl, _⟩ := h; rfl)
  · exact (pss_one (ps_ret (pe_callB (cr_sum rfl) (by rfl) T.b_sum boot_sum (pa_cons (pe_lc (own := [("i", 2)]) (g := (gName 2)) (tt := tYes) rfl sc_loaves_of.nd (pi_list (pv 1)) (blkOk_by (own := [("i", 2)]) (N := N_loaves_of) (sc := defScope s_loaves_of) (by decide +kernel)) (fun _ _ _ _ _ => (pg_name (i := 2) sc_loaves_of.nd rfl (Or.inl rfl))) (fun _ _ _ _ _ => pts_nil) (fun _ _ _ _ _ => (pe_ix ix_list (pe_ix ix_list (pv 0) (pv 2) (fun _ _ => rfl)) (pe_gint rfl T.c_LOAVES) (fun _ _ => rfl)))) pa_nil))))
theorem ok_by_distance (F : Def K mg "by_distance" s_by_distance) (T : Txt K mg C a_LOW a_HIGH a_NUMBERS a_WITH_ROUTE) (hp : Pure (t_by_distance K) sp_by_distance N_by_distance) :
    Ok P w K mg base "by_distance" P_by_distance sp_by_distance 1 := by
  obtain ⟨f, fd, mgf, F⟩ := F
  refine ⟨f, fd, mgf, F.kp, F.binds (ps := P_by_distance) fun _ _ _ _ _ _ us hl => match us, hl with | [_, _], _ => rfl, F.ok sc_by_distance (fun vs H Q E h => ?_) (fun cdv A outer s H vs Q E hr h => ⟨t_by_distance K, ?_, hp vs H Q E h⟩)⟩
  · first | (obtain ⟨_, rfl, _⟩ := h; rfl) | (obtain ⟨_, _, rfl, _⟩ := h; rfl) | (obtain ⟨_, _, _, rfl, _⟩ := h; rfl) | (obtain ⟨_, _, _, _, rfl, _⟩ := h; rfl) | (obtain ⟨_, _, _, _, _, rfl, _⟩ := h; rfl) | (obtain ⟨_, _, _, _, _, _, rfl, _⟩ := h; rfl) | (obtain ⟨_, _, _, _, _, _, _, rfl, _⟩ := h; rfl) | (obtain ⟨_, _, _, _, _, _, _, _, rfl, _⟩ := h; rfl)
  · exact (pss_one (ps_ret (pe_lc (own := [("distance", 2), ("i", 3)]) (g := (gTup K 2 (gCons (gName 2) (gCons (gName 3) gNil)))) (tt := tYes) rfl sc_by_distance.nd (pi_list (pe_callB cr_sortedPO (by rfl) T.b_sorted boot_sorted (pa_cons (pe_lc (own := [("i", 3)]) (g := (gName 3)) (tt := tYes) rfl sc_by_distance.nd (pi_list (pv 1)) (blkOk_by (own := [("i", 3)]) (N := N_by_distance) (sc := defScope s_by_distance) (by decide +kernel)) (fun _ _ _ _ _ => (pg_name (i := 3) sc_by_distance.nd rfl (Or.inl rfl))) (fun _ _ _ _ _ => pts_nil) (fun _ _ _ _ _ => (pe_tup (pa_cons (pe_callB call_abs (by rfl) T.b_abs boot_abs (pa_cons (pe_ix ix_list (pe_ix ix_list (pv 0) (pv 3) (fun _ _ => rfl)) (pe_gint rfl T.c_POSITION) (fun _ _ => rfl)) pa_nil)) (pa_cons (pv 3) pa_nil))))) pa_nil))) (blkOk_by (own := [("distance", 2), ("i", 3)]) (N := N_by_distance) (sc := defScope s_by_distance) (by decide +kernel)) (fun _ _ _ _ _ => (pg_tup rfl (pgs_cons (pg_name (i := 2) sc_by_distance.nd rfl (Or.inl rfl)) (pgs_cons (pg_name (i := 3) sc_by_distance.nd rfl (Or.inl rfl)) pgs_nil)))) (fun _ _ _ _ _ => pts_nil) (fun _ _ _ _ _ => (pv 3)))))
theorem ok_left_ones (F : Def K mg "left_ones" s_left_ones) (T : Txt K mg C a_LOW a_HIGH a_NUMBERS a_WITH_ROUTE) (O_by_distance : Ok P w K mg base "by_distance" P_by_distance sp_by_distance 1) (hp : Pure (t_left_ones K) sp_left_ones N_left_ones) :
    Ok P w K mg base "left_ones" P_left_ones sp_left_ones 2 := by
  obtain ⟨f, fd, mgf, F⟩ := F
  refine ⟨f, fd, mgf, F.kp, F.binds (ps := P_left_ones) fun _ _ _ _ _ _ us hl => match us, hl with | [_, _], _ => rfl, F.ok sc_left_ones (fun vs H Q E h => ?_) (fun cdv A outer s H vs Q E hr h => ⟨t_left_ones K, ?_, hp vs H Q E h⟩)⟩
  · first | (obtain ⟨_, rfl, _⟩ := h; rfl) | (obtain ⟨_, _, rfl, _⟩ := h; rfl) | (obtain ⟨_, _, _, rfl, _⟩ := h; rfl) | (obtain ⟨_, _, _, _, rfl, _⟩ := h; rfl) | (obtain ⟨_, _, _, _, _, rfl, _⟩ := h; rfl) | (obtain ⟨_, _, _, _, _, _, rfl, _⟩ := h; rfl) | (obtain ⟨_, _, _, _, _, _, _, rfl, _⟩ := h; rfl) | (obtain ⟨_, _, _, _, _, _, _, _, rfl, _⟩ := h; rfl)
  · exact (pss_one (ps_ret (pe_fn O_by_distance (hr.mono (by decide)) rfl (pa_cons (pv 0) (pa_cons (pe_lc (own := [("i", 2)]) (g := (gName 2)) (tt := (tTest (tOp rLt (tOp (rIxL K) (tOp (rIxL K) (tVar 0) (tVar 2)) (tC (.int 0))) (tC (.int 0))))) rfl sc_left_ones.nd (pi_list (pv 1)) (blkOk_by (own := [("i", 2)]) (N := N_left_ones) (sc := defScope s_left_ones) (by decide +kernel)) (fun _ _ _ _ _ => (pg_name (i := 2) sc_left_ones.nd rfl (Or.inl rfl))) (fun _ _ _ _ _ => (pts_one (pt_cmpR op_lt (pe_ix ix_list (pe_ix ix_list (pv 0) (pv 2) (fun _ _ => rfl)) (pe_gint rfl T.c_POSITION) (fun _ _ => rfl)) pe_int (nomark _)))) (fun _ _ _ _ _ => (pv 2))) pa_nil)))))
theorem ok_right_ones (F : Def K mg "right_ones" s_right_ones) (T : Txt K mg C a_LOW a_HIGH a_NUMBERS a_WITH_ROUTE) (O_by_distance : Ok P w K mg base "by_distance" P_by_distance sp_by_distance 1) (hp : Pure (t_right_ones K) sp_right_ones N_right_ones) :
    Ok P w K mg base "right_ones" P_right_ones sp_right_ones 2 := by
  obtain ⟨f, fd, mgf, F⟩ := F
  refine ⟨f, fd, mgf, F.kp, F.binds (ps := P_right_ones) fun _ _ _ _ _ _ us hl => match us, hl with | [_, _], _ => rfl, F.ok sc_right_ones (fun vs H Q E h => ?_) (fun cdv A outer s H vs Q E hr h => ⟨t_right_ones K, ?_, hp vs H Q E h⟩)⟩
  · first | (obtain ⟨_, rfl, _⟩ := h; rfl) | (obtain ⟨_, _, rfl, _⟩ := h; rfl) | (obtain ⟨_, _, _, rfl, _⟩ := h; rfl) | (obtain ⟨_, _, _, _, rfl, _⟩ := h; rfl) | (obtain ⟨_, _, _, _, _, rfl, _⟩ := h; rfl) | (obtain ⟨_, _, _, _, _, _, rfl, _⟩ := h; rfl) | (obtain ⟨_, _, _, _, _, _, _, rfl, _⟩ := h; rfl) | (obtain ⟨_, _, _, _, _, _, _, _, rfl, _⟩ := h; rfl)
  · exact (pss_one (ps_ret (pe_fn O_by_distance (hr.mono (by decide)) rfl (pa_cons (pv 0) (pa_cons (pe_lc (own := [("i", 2)]) (g := (gName 2)) (tt := (tTest (tOp rGe (tOp (rIxL K) (tOp (rIxL K) (tVar 0) (tVar 2)) (tC (.int 0))) (tC (.int 0))))) rfl sc_right_ones.nd (pi_list (pv 1)) (blkOk_by (own := [("i", 2)]) (N := N_right_ones) (sc := defScope s_right_ones) (by decide +kernel)) (fun _ _ _ _ _ => (pg_name (i := 2) sc_right_ones.nd rfl (Or.inl rfl))) (fun _ _ _ _ _ => (pts_one (pt_cmpR op_ge (pe_ix ix_list (pe_ix ix_list (pv 0) (pv 2) (fun _ _ => rfl)) (pe_gint rfl T.c_POSITION) (fun _ _ => rfl)) pe_int (nomark _)))) (fun _ _ _ _ _ => (pv 2))) pa_nil)))))
theorem ok_taken_from (F : Def K mg "taken_from" s_taken_from) (T : Txt K mg C a_LOW a_HIGH a_NUMBERS a_WITH_ROUTE) (hp : Pure (t_taken_from K) sp_taken_from N_taken_from) :
    Ok P w K mg base "taken_from" P_taken_from sp_taken_from 1 := by
  obtain ⟨f, fd, mgf, F⟩ := F
  refine ⟨f, fd, mgf, F.kp, F.binds (ps := P_taken_from) fun _ _ _ _ _ _ us hl => match us, hl with | [_, _], _ => rfl, F.ok sc_taken_from (fun vs H Q E h => ?_) (fun cdv A outer s H vs Q E hr h => ⟨t_taken_from K, ?_, hp vs H Q E h⟩)⟩
  · first | (obtain ⟨_, rfl, _⟩ := h; rfl) | (obtain ⟨_, _, rfl, _⟩ := h; rfl) | (obtain ⟨_, _, _, rfl, _⟩ := h; rfl) | (obtain ⟨_, _, _, _, rfl, _⟩ := h; rfl) | (obtain ⟨_, _, _, _, _, rfl, _⟩ := h; rfl) | (obtain ⟨_, _, _, _, _, _, rfl, _⟩ := h; rfl) | (obtain ⟨_, _, _, _, _, _, _, rfl, _⟩ := h; rfl) | (obtain ⟨_, _, _, _, _, _, _, _, rfl, _⟩ := h; rfl)
  · exact (pss_one (ps_ret (pe_callB call_len_seq (by rfl) T.b_len boot_len (pa_cons (pe_lc (own := [("i", 2)]) (g := (gName 2)) (tt := (tTest (tOp (rIn K false) (tVar 2) (tVar 1)))) rfl sc_taken_from.nd (pi_list (pv 0)) (blkOk_by (own := [("i", 2)]) (N := N_taken_from) (sc := defScope s_taken_from) (by decide +kernel)) (fun _ _ _ _ _ => (pg_name (i := 2) sc_taken_from.nd rfl (Or.inl rfl))) (fun _ _ _ _ _ => (pts_one (pt_cmpR op_in_seq (pv 2) (pv 1) (by with_unfolding_all rfl)))) (fun _ _ _ _ _ => (pv 2))) pa_nil))))
theorem ok_longer_routes (F : Def K mg "longer_routes" s_longer_routes) (T : Txt K mg C a_LOW a_HIGH a_NUMBERS a_WITH_ROUTE) (O_taken_from : Ok P w K mg base "taken_from" P_taken_from sp_taken_from 1) (hp : Pure (t_longer_routes K) sp_longer_routes N_longer_routes) :
    Ok P w K mg base "longer_routes" P_longer_routes sp_longer_routes 2 := by
  obtain ⟨f, fd, mgf, F⟩ := F
  refine ⟨f, fd, mgf, F.kp, F.binds (ps := P_longer_routes) fun _ _ _ _ _ _ us hl => match us, hl with | [_, _, _], _ => rfl, F.ok sc_longer_routes (fun vs H Q E h => ?_) (fun cdv A outer s H vs Q E hr h => ⟨t_longer_routes K, ?_, hp vs H Q E h⟩)⟩
  · first | (obtain ⟨_, rfl, _⟩ := h; rfl) | (obtain ⟨_, _, rfl, _⟩ := h; rfl) | (obtain ⟨_, _, _, rfl, _⟩ := h; rfl) | (obtain ⟨_, _, _, _, rfl, _⟩ := h; rfl) | (obtain ⟨_, _, _, _, _, rfl, _⟩ := h; rfl) | (obtain ⟨_, _, _, _, _, _, rfl, _⟩ := h; rfl) | (obtain ⟨_, _, _, _, _, _, _, rfl, _⟩ := h; rfl) | (obtain ⟨_, _, _, _, _, _, _, _, rfl, _⟩ := h; rfl)
  · exact (pss_cons (ps_set (i := 3) sc_longer_routes.nd rfl (Or.inl rfl) (pe_lst pa_nil))
      (pss_cons (ps_for PassesOwn.never rfl (pi_tup (pe_tup (pa_cons (pv 0) (pa_cons (pv 1) pa_nil)))) (pg_name (i := 4) sc_longer_routes.nd rfl (Or.inl rfl)) (pss_cons (ps_set (i := 5) sc_longer_routes.nd rfl (Or.inl rfl) (pe_fn O_taken_from (hr.mono (by decide)) rfl (pa_cons (pv 4) (pa_cons (pv 2) pa_nil))))
      (pss_one (ps_if (pt_cmpR op_lt (pv 5) (pe_callB call_len_seq (by rfl) T.b_len boot_len (pa_cons (pv 4) pa_nil)) (nomark _)) (pss_one (ps_expr (pe_bm PySem.F.plainAttrs_list PySem.F.slot_list_append PySem.F.type_list_append mt_append (pv 3) (pa_cons (pe_op op_cat (pv 2) (pe_lst (pa_cons (pe_ix ix_list (pv 4) (pv 5) (fun _ _ => rfl)) pa_nil))) pa_nil)))) pss_nil))))
      (pss_one (ps_ret (pv 3)))))
theorem ok_sweeping_routes (F : Def K mg "sweeping_routes" s_sweeping_routes) (T : Txt K mg C a_LOW a_HIGH a_NUMBERS a_WITH_ROUTE) (O_left_ones : Ok P w K mg base "left_ones" P_left_ones sp_left_ones 2) (O_longer_routes : Ok P w K mg base "longer_routes" P_longer_routes sp_longer_routes 2) (O_right_ones : Ok P w K mg base "right_ones" P_right_ones sp_right_ones 2) (hp : Pure (t_sweeping_routes K) sp_sweeping_routes N_sweeping_routes) :
    Ok P w K mg base "sweeping_routes" P_sweeping_routes sp_sweeping_routes 3 := by
  obtain ⟨f, fd, mgf, F⟩ := F
  refine ⟨f, fd, mgf, F.kp, F.binds (ps := P_sweeping_routes) fun _ _ _ _ _ _ us hl => match us, hl with | [_, _], _ => rfl, F.ok sc_sweeping_routes (fun vs H Q E h => ?_) (fun cdv A outer s H vs Q E hr h => ⟨t_sweeping_routes K, ?_, hp vs H Q E h⟩)⟩
  · first | (obtain ⟨_, rfl, _⟩ := h; rfl) | (obtain ⟨_, _, rfl, _⟩ := h; rfl) | (obtain ⟨_, _, _, rfl, _⟩ := h; rfl) | (obtain ⟨_, _, _, _, rfl, _⟩ := h; rfl) | (obtain ⟨_, _, _, _, _, rfl, _⟩ := h; rfl) | (obtain ⟨_, _, _, _, _, _, rfl, _⟩ := h; rfl) | (obtain ⟨_, _, _, _, _, _, _, rfl, _⟩ := h; rfl) | (obtain ⟨_, _, _, _, _, _, _, _, rfl, _⟩ := h; rfl)
  · exact (pss_cons (ps_par (i := 2) (j := 3) (by rfl) sc_sweeping_routes.nd rfl rfl (by decide) rfl rfl (pa_cons (pe_fn O_left_ones (hr.mono (by decide)) rfl (pa_cons (pv 0) (pa_cons (pv 1) pa_nil))) (pa_cons (pe_fn O_right_ones (hr.mono (by decide)) rfl (pa_cons (pv 0) (pa_cons (pv 1) pa_nil))) pa_nil)) (by rfl))
      (pss_cons (ps_set (i := 4) sc_sweeping_routes.nd rfl (Or.inl rfl) (pe_lst (pa_cons (pe_lst pa_nil) pa_nil)))
      (pss_cons (ps_for PassesOwn.never rfl (pi_range1 rfl T.b_range (pa_cons (pe_callB call_len_seq (by rfl) T.b_len boot_len (pa_cons (pv 1) pa_nil)) pa_nil)) (pg_name (i := 5) sc_sweeping_routes.nd rfl (Or.inl rfl)) (pss_cons (ps_set (i := 6) sc_sweeping_routes.nd rfl (Or.inl rfl) (pe_lst pa_nil))
      (pss_cons (ps_for PassesOwn.never rfl (pi_list (pv 4)) (pg_name (i := 7) sc_sweeping_routes.nd rfl (Or.inl rfl)) (pss_one (ps_expr (pe_bm PySem.F.plainAttrs_list PySem.F.slot_list_extend PySem.F.type_list_extend mt_extend (pv 6) (pa_cons (pe_fn O_longer_routes (hr.mono (by decide)) rfl (pa_cons (pv 2) (pa_cons (pv 3) (pa_cons (pv 7) pa_nil)))) pa_nil)))))
      (pss_one (ps_set (i := 4) sc_sweeping_routes.nd rfl (Or.inl rfl) (pv 6))))))
      (pss_one (ps_ret (pv 4))))))
theorem ok_best_route (F : Def K mg "best_route" s_best_route) (T : Txt K mg C a_LOW a_HIGH a_NUMBERS a_WITH_ROUTE) (O_finish_of : Ok P w K mg base "finish_of" P_finish_of sp_finish_of 2) (O_is_on_time : Ok P w K mg base "is_on_time" P_is_on_time sp_is_on_time 2) (O_sweeping_routes : Ok P w K mg base "sweeping_routes" P_sweeping_routes sp_sweeping_routes 3) (hp : Pure (t_best_route K) sp_best_route N_best_route) :
    Ok P w K mg base "best_route" P_best_route sp_best_route 4 := by
  obtain ⟨f, fd, mgf, F⟩ := F
  refine ⟨f, fd, mgf, F.kp, F.binds (ps := P_best_route) fun _ _ _ _ _ _ us hl => match us, hl with | [_, _, _], _ => rfl, F.ok sc_best_route (fun vs H Q E h => ?_) (fun cdv A outer s H vs Q E hr h => ⟨t_best_route K, ?_, hp vs H Q E h⟩)⟩
  · first | (obtain ⟨_, rfl, _⟩ := h; rfl) | (obtain ⟨_, _, rfl, _⟩ := h; rfl) | (obtain ⟨_, _, _, rfl, _⟩ := h; rfl) | (obtain ⟨_, _, _, _, rfl, _⟩ := h; rfl) | (obtain ⟨_, _, _, _, _, rfl, _⟩ := h; rfl) | (obtain ⟨_, _, _, _, _, _, rfl, _⟩ := h; rfl) | (obtain ⟨_, _, _, _, _, _, _, rfl, _⟩ := h; rfl) | (obtain ⟨_, _, _, _, _, _, _, _, rfl, _⟩ := h; rfl)
  · exact (pss_cons (ps_set (i := 3) sc_best_route.nd rfl (Or.inl rfl) pe_non)
      (pss_cons (ps_for PassesOwn.never rfl (pi_list (pe_fn O_sweeping_routes (hr.mono (by decide)) rfl (pa_cons (pv 0) (pa_cons (pv 2) pa_nil)))) (pg_name (i := 4) sc_best_route.nd rfl (Or.inl rfl)) (pss_one (ps_if (pt_val (pe_fn O_is_on_time (hr.mono (by decide)) rfl (pa_cons (pv 0) (pa_cons (pv 1) (pa_cons (pv 4) pa_nil))))) (pss_one (ps_if (PW.pt (pw_or (pt_cmpR op_isN (pv 3) pe_non (nomark _)) (pw_or1 (pt_cmpR op_lt (pe_fn O_finish_of (hr.mono (by decide)) rfl (pa_cons (pv 0) (pa_cons (pv 1) (pa_cons (pv 4) pa_nil)))) (pe_fn O_finish_of (hr.mono (by decide)) rfl (pa_cons (pv 0) (pa_cons (pv 1) (pa_cons (pv 3) pa_nil)))) (nomark _))))) (pss_one (ps_set (i := 3) sc_best_route.nd rfl (Or.inl rfl) (pv 4))) pss_nil)) pss_nil)))
      (pss_one (ps_ret (pv 3)))))
theorem ok_richest_route (F : Def K mg "richest_route" s_richest_route) (T : Txt K mg C a_LOW a_HIGH a_NUMBERS a_WITH_ROUTE) (O_best_route : Ok P w K mg base "best_route" P_best_route sp_best_route 4) (O_loaves_of : Ok P w K mg base "loaves_of" P_loaves_of sp_loaves_of 1) (O_members : Ok P w K mg base "members" P_members sp_members 1) (hp : Pure (t_richest_route K) sp_richest_route N_richest_route) :
    Ok P w K mg base "richest_route" P_richest_route sp_richest_route 5 := by
  obtain ⟨f, fd, mgf, F⟩ := F
  refine ⟨f, fd, mgf, F.kp, F.binds (ps := P_richest_route) fun _ _ _ _ _ _ us hl => match us, hl with | [_, _], _ => rfl, F.ok sc_richest_route (fun vs H Q E h => ?_) (fun cdv A outer s H vs Q E hr h => ⟨t_richest_route K, ?_, hp vs H Q E h⟩)⟩
  · first | (obtain ⟨_, rfl, _⟩ := h; rfl) | (obtain ⟨_, _, rfl, _⟩ := h; rfl) | (obtain ⟨_, _, _, rfl, _⟩ := h; rfl) | (obtain ⟨_, _, _, _, rfl, _⟩ := h; rfl) | (obtain ⟨_, _, _, _, _, rfl, _⟩ := h; rfl) | (obtain ⟨_, _, _, _, _, _, rfl, _⟩ := h; rfl) | (obtain ⟨_, _, _, _, _, _, _, rfl, _⟩ := h; rfl) | (obtain ⟨_, _, _, _, _, _, _, _, rfl, _⟩ := h; rfl)
  · exact (pss_cons (ps_set (i := 2) sc_richest_route.nd rfl (Or.inl rfl) (pe_lst pa_nil))
      (pss_cons (ps_for PassesOwn.never rfl (pi_range1 rfl T.b_range (pa_cons (pe_op op_shl pe_int (pe_callB call_len_seq (by rfl) T.b_len boot_len (pa_cons (pv 0) pa_nil))) pa_nil)) (pg_name (i := 3) sc_richest_route.nd rfl (Or.inl rfl)) (pss_cons (ps_set (i := 4) sc_richest_route.nd rfl (Or.inl rfl) (pe_fn O_members (hr.mono (by decide)) rfl (pa_cons (pv 3) (pa_cons (pv 0) pa_nil))))
      (pss_one (ps_if (pt_cmpR op_gt (pe_fn O_loaves_of (hr.mono (by decide)) rfl (pa_cons (pv 0) (pa_cons (pv 4) pa_nil))) (pe_fn O_loaves_of (hr.mono (by decide)) rfl (pa_cons (pv 0) (pa_cons (pv 2) pa_nil))) (nomark _)) (pss_cons (ps_set (i := 5) sc_richest_route.nd rfl (Or.inl rfl) (pe_fn O_best_route (hr.mono (by decide)) rfl (pa_cons (pv 0) (pa_cons (pv 1) (pa_cons (pv 4) pa_nil)))))
      (pss_one (ps_if (pt_cmpR op_notN (pv 5) pe_non (nomark _)) (pss_one (ps_set (i := 2) sc_richest_route.nd rfl (Or.inl rfl) (pv 5))) pss_nil))) pss_nil))))
      (pss_one (ps_ret (pv 2)))))
theorem ok_latest_for (F : Def K mg "latest_for" s_latest_for) (T : Txt K mg C a_LOW a_HIGH a_NUMBERS a_WITH_ROUTE) (O_arrivals : Ok P w K mg base "arrivals" P_arrivals sp_arrivals 1) (hp : Pure (t_latest_for K) sp_latest_for N_latest_for) :
    Ok P w K mg base "latest_for" P_latest_for sp_latest_for 2 := by
  obtain ⟨f, fd, mgf, F⟩ := F
  refine ⟨f, fd, mgf, F.kp, F.binds (ps := P_latest_for) fun _ _ _ _ _ _ us hl => match us, hl with | [_, _], _ => rfl, F.ok sc_latest_for (fun vs H Q E h => ?_) (fun cdv A outer s H vs Q E hr h => ⟨t_latest_for K, ?_, hp vs H Q E h⟩)⟩
  · first | (obtain ⟨_, rfl, _⟩ := h; rfl) | (obtain ⟨_, _, rfl, _⟩ := h; rfl) | (obtain ⟨_, _, _, rfl, _⟩ := h; rfl) | (obtain ⟨_, _, _, _, rfl, _⟩ := h; rfl) | (obtain ⟨_, _, _, _, _, rfl, _⟩ := h; rfl) | (obtain ⟨_, _, _, _, _, _, rfl, _⟩ := h; rfl) | (obtain ⟨_, _, _, _, _, _, _, rfl, _⟩ := h; rfl) | (obtain ⟨_, _, _, _, _, _, _, _, rfl, _⟩ := h; rfl)
  · exact (pss_cons (ps_set (i := 2) sc_latest_for.nd rfl (Or.inl rfl) (pe_gint rfl T.c_MOST_TIME))
      (pss_cons (ps_for PassesOwn.never rfl (pi_zip (by rfl) T.b_zip (pa_cons (pv 1) (pa_cons (pe_fn O_arrivals (hr.mono (by decide)) rfl (pa_cons (pv 0) (pa_cons pe_int (pa_cons (pv 1) pa_nil)))) pa_nil))) (pg_tup rfl (pgs_cons (pg_name (i := 3) sc_latest_for.nd rfl (Or.inl rfl)) (pgs_cons (pg_name (i := 4) sc_latest_for.nd rfl (Or.inl rfl)) pgs_nil))) (pss_one (ps_set (i := 2) sc_latest_for.nd rfl (Or.inl rfl) (pe_callB (call_min2 rfl) (by rfl) T.b_min boot_min (pa_cons (pv 2) (pa_cons (pe_op op_sub (pe_ix ix_list (pe_ix ix_list (pv 0) (pv 3) (fun _ _ => rfl)) (pe_gint rfl T.c_DEADLINE) (fun _ _ => rfl)) (pv 4)) pa_nil))))))
      (pss_one (ps_ret (pv 2)))))
theorem ok_latest_departure (F : Def K mg "latest_departure" s_latest_departure) (T : Txt K mg C a_LOW a_HIGH a_NUMBERS a_WITH_ROUTE) (O_latest_for : Ok P w K mg base "latest_for" P_latest_for sp_latest_for 2) (O_sweeping_routes : Ok P w K mg base "sweeping_routes" P_sweeping_routes sp_sweeping_routes 3) (hp : Pure (t_latest_departure K) sp_latest_departure N_latest_departure) :
    Ok P w K mg base "latest_departure" P_latest_departure sp_latest_departure 4 := by
  obtain ⟨f, fd, mgf, F⟩ := F
  refine ⟨f, fd, mgf, F.kp, F.binds (ps := P_latest_departure) fun _ _ _ _ _ _ us hl => match us, hl with | [_, _], _ => rfl, F.ok sc_latest_departure (fun vs H Q E h => ?_) (fun cdv A outer s H vs Q E hr h => ⟨t_latest_departure K, ?_, hp vs H Q E h⟩)⟩
  · first | (obtain ⟨_, rfl, _⟩ := h; rfl) | (obtain ⟨_, _, rfl, _⟩ := h; rfl) | (obtain ⟨_, _, _, rfl, _⟩ := h; rfl) | (obtain ⟨_, _, _, _, rfl, _⟩ := h; rfl) | (obtain ⟨_, _, _, _, _, rfl, _⟩ := h; rfl) | (obtain ⟨_, _, _, _, _, _, rfl, _⟩ := h; rfl) | (obtain ⟨_, _, _, _, _, _, _, rfl, _⟩ := h; rfl) | (obtain ⟨_, _, _, _, _, _, _, _, rfl, _⟩ := h; rfl)
  · exact (pss_one (ps_ret (pe_callB (cr_max rfl) (by rfl) T.b_max boot_max (pa_cons (pe_lc (own := [("route", 2)]) (g := (gName 2)) (tt := tYes) rfl sc_latest_departure.nd (pi_list (pe_fn O_sweeping_routes (hr.mono (by decide)) rfl (pa_cons (pv 0) (pa_cons (pv 1) pa_nil)))) (blkOk_by (own := [("route", 2)]) (N := N_latest_departure) (sc := defScope s_latest_departure) (by decide +kernel)) (fun _ _ _ _ _ => (pg_name (i := 2) sc_latest_departure.nd rfl (Or.inl rfl))) (fun _ _ _ _ _ => pts_nil) (fun _ _ _ _ _ => (pe_fn O_latest_for (hr.mono (by decide)) rfl (pa_cons (pv 0) (pa_cons (pv 2) pa_nil))))) pa_nil))))
theorem ok_init {f : Addr} {fd : FuncData} (F : Fun K "__init__" "Instance.__init__" s_init f fd) (T : Txt K mg C a_LOW a_HIGH a_NUMBERS a_WITH_ROUTE) (hp : Pure (t_init K) (sp_init C) N_init) :
    FnOk P w K mg base CX0 1 f fd P_init (sp_init C) := by
  refine F.ok sc_init (fun vs H Q E h => ?_) (fun cdv A outer s H vs Q E hr h => ⟨t_init K, ?_, hp vs H Q E h⟩)
  · first | (obtain ⟨_, rfl, _⟩ := h; rfl) | (obtain ⟨_, _, rfl, _⟩ := h; rfl) | (obtain ⟨_, _, _, rfl, _⟩ := h; rfl) | (obtain ⟨_, _, _, _, rfl, _⟩ := h; rfl) | (obtain ⟨_, _, _, _, _, rfl, _⟩ := h; rfl) | (obtain ⟨_, _, _, _, _, _, rfl, _⟩ := h; rfl) | (obtain ⟨_, _, _, _, _, _, _, rfl, _⟩ := h; rfl) | (obtain ⟨_, _, _, _, _, _, _, _, rfl, _⟩ := h; rfl)
  · exact (pss_cons (ps_fld (pv 0) (pe_un un_neg pe_int) rfl)
      (pss_one (ps_fld (pv 0) (pe_lst pa_nil) rfl)))
theorem ok_exists {f : Addr} {fd : FuncData} (F : Fun K "exists" "Instance.exists" s_exists f fd) (T : Txt K mg C a_LOW a_HIGH a_NUMBERS a_WITH_ROUTE) (hp : Pure (t_exists K) (sp_exists C) N_exists) :
    FnOk P w K mg base CX0 1 f fd P_exists (sp_exists C) := by
  refine F.ok sc_exists (fun vs H Q E h => ?_) (fun cdv A outer s H vs Q E hr h => ⟨t_exists K, ?_, hp vs H Q E h⟩)
  · first | (obtain ⟨_, rfl, _⟩ := h; rfl) | (obtain ⟨_, _, rfl, _⟩ := h; rfl) | (obtain ⟨_, _, _, rfl, _⟩ := h; rfl) | (obtain ⟨_, _, _, _, rfl, _⟩ := h; rfl) | (obtain ⟨_, _, _, _, _, rfl, _⟩ := h; rfl) | (obtain ⟨_, _, _, _, _, _, rfl, _⟩ := h; rfl) | (obtain ⟨_, _, _, _, _, _, _, rfl, _⟩ := h; rfl) | (obtain ⟨_, _, _, _, _, _, _, _, rfl, _⟩ := h; rfl)
  · exact (pss_one (ps_ret (pe_cmpR op_ge (pe_fld (pv 0) rfl) pe_int (nomark _))))
theorem ok_is_departure (F : Def K mg "is_departure" s_is_departure) (T : Txt K mg C a_LOW a_HIGH a_NUMBERS a_WITH_ROUTE) (O_is_within : Ok P w K mg base "is_within" P_is_within sp_is_within 1) (hp : Pure (t_is_departure K) sp_is_departure N_is_departure) :
    Ok P w K mg base "is_departure" P_is_departure sp_is_departure 2 := by
  obtain ⟨f, fd, mgf, F⟩ := F
  refine ⟨f, fd, mgf, F.kp, F.binds (ps := P_is_departure) fun _ _ _ _ _ _ us hl => match us, hl with | [_], _ => rfl, F.ok sc_is_departure (fun vs H Q E h => ?_) (fun cdv A outer s H vs Q E hr h => ⟨t_is_departure K, ?_, hp vs H Q E h⟩)⟩
  · first | (obtain ⟨_, rfl, _⟩ := h; rfl) | (obtain ⟨_, _, rfl, _⟩ := h; rfl) | (obtain ⟨_, _, _, rfl, _⟩ := h; rfl) | (obtain ⟨_, _, _, _, rfl, _⟩ := h; rfl) | (obtain ⟨_, _, _, _, _, rfl, _⟩ := h; rfl) | (obtain ⟨_, _, _, _, _, _, rfl, _⟩ := h; rfl) | (obtain ⟨_, _, _, _, _, _, _, rfl, _⟩ := h; rfl) | (obtain ⟨_, _, _, _, _, _, _, _, rfl, _⟩ := h; rfl)
  · exact (pss_one (ps_ret (pe_fn O_is_within (hr.mono (by decide)) rfl (pa_cons (pv 0) (pa_cons pe_int (pa_cons (pe_gint rfl T.c_MOST_TIME) pa_nil))))))
theorem ok_is_field (F : Def K mg "is_field" s_is_field) (T : Txt K mg C a_LOW a_HIGH a_NUMBERS a_WITH_ROUTE) (O_is_within : Ok P w K mg base "is_within" P_is_within sp_is_within 1) (hp : Pure (t_is_field K a_LOW a_HIGH) sp_is_field N_is_field) :
    Ok P w K mg base "is_field" P_is_field sp_is_field 2 := by
  obtain ⟨f, fd, mgf, F⟩ := F
  refine ⟨f, fd, mgf, F.kp, F.binds (ps := P_is_field) fun _ _ _ _ _ _ us hl => match us, hl with | [_, _], _ => rfl, F.ok sc_is_field (fun vs H Q E h => ?_) (fun cdv A outer s H vs Q E hr h => ⟨t_is_field K a_LOW a_HIGH, ?_, hp vs H Q E h⟩)⟩
  · first | (obtain ⟨_, rfl, _⟩ := h; rfl) | (obtain ⟨_, _, rfl, _⟩ := h; rfl) | (obtain ⟨_, _, _, rfl, _⟩ := h; rfl) | (obtain ⟨_, _, _, _, rfl, _⟩ := h; rfl) | (obtain ⟨_, _, _, _, _, rfl, _⟩ := h; rfl) | (obtain ⟨_, _, _, _, _, _, rfl, _⟩ := h; rfl) | (obtain ⟨_, _, _, _, _, _, _, rfl, _⟩ := h; rfl) | (obtain ⟨_, _, _, _, _, _, _, _, rfl, _⟩ := h; rfl)
  · exact (pss_one (ps_ret (pe_fn O_is_within (hr.mono (by decide)) rfl (pa_cons (pv 1) (pa_cons (pe_ix ix_tup (pe_glob rfl T.c_LOW rfl) (pv 0) (fun _ _ => rfl)) (pa_cons (pe_ix ix_tup (pe_glob rfl T.c_HIGH rfl) (pv 0) (fun _ _ => rfl)) pa_nil))))))
theorem ok_create (F : Def K mg "create" s_create) (T : Txt K mg C a_LOW a_HIGH a_NUMBERS a_WITH_ROUTE) (O_is_departure : Ok P w K mg base "is_departure" P_is_departure sp_is_departure 2) (hp : Pure (t_create K) (sp_create C) N_create) :
    Ok P w K mg base "create" P_create (sp_create C) 3 := by
  obtain ⟨f, fd, mgf, F⟩ := F
  refine ⟨f, fd, mgf, F.kp, F.binds (ps := P_create) fun _ _ _ _ _ _ us hl => match us, hl with | [_, _], _ => rfl, F.ok sc_create (fun vs H Q E h => ?_) (fun cdv A outer s H vs Q E hr h => ⟨t_create K, ?_, hp vs H Q E h⟩)⟩
  · first | (obtain ⟨_, rfl, _⟩ := h; rfl) | (obtain ⟨_, _, rfl, _⟩ := h; rfl) | (obtain ⟨_, _, _, rfl, _⟩ := h; rfl) | (obtain ⟨_, _, _, _, rfl, _⟩ := h; rfl) | (obtain ⟨_, _, _, _, _, rfl, _⟩ := h; rfl) | (obtain ⟨_, _, _, _, _, _, rfl, _⟩ := h; rfl) | (obtain ⟨_, _, _, _, _, _, _, rfl, _⟩ := h; rfl) | (obtain ⟨_, _, _, _, _, _, _, _, rfl, _⟩ := h; rfl)
  · exact (pss_cons (ps_if (pt_not (pt_val (pe_fn O_is_departure (hr.mono (by decide)) rfl (pa_cons (pv 1) pa_nil)))) (pss_one (ps_ret (pe_gint rfl T.c_OUT_OF_RANGE))) pss_nil)
      (pss_cons (ps_fld (pv 0) (pv 1) rfl)
      (pss_cons (ps_fld (pv 0) (pe_lst pa_nil) rfl)
      (pss_one (ps_ret pe_int)))))
theorem ok_add_shop (F : Def K mg "add_shop" s_add_shop) (T : Txt K mg C a_LOW a_HIGH a_NUMBERS a_WITH_ROUTE) (O_is_field : Ok P w K mg base "is_field" P_is_field sp_is_field 2) (hp : Pure (t_add_shop K) (sp_add_shop C) N_add_shop) :
    Ok P w K mg base "add_shop" P_add_shop (sp_add_shop C) 3 := by
  obtain ⟨f, fd, mgf, F⟩ := F
  refine ⟨f, fd, mgf, F.kp, F.binds (ps := P_add_shop) fun _ _ _ _ _ _ us hl => match us, hl with | [_, _], _ => rfl, F.ok sc_add_shop (fun vs H Q E h => ?_) (fun cdv A outer s H vs Q E hr h => ⟨t_add_shop K, ?_, hp vs H Q E h⟩)⟩
  · first | (obtain ⟨_, rfl, _⟩ := h; rfl) | (obtain ⟨_, _, rfl, _⟩ := h; rfl) | (obtain ⟨_, _, _, rfl, _⟩ := h; rfl) | (obtain ⟨_, _, _, _, rfl, _⟩ := h; rfl) | (obtain ⟨_, _, _, _, _, rfl, _⟩ := h; rfl) | (obtain ⟨_, _, _, _, _, _, rfl, _⟩ := h; rfl) | (obtain ⟨_, _, _, _, _, _, _, rfl, _⟩ := h; rfl) | (obtain ⟨_, _, _, _, _, _, _, _, rfl, _⟩ := h; rfl)
  · exact (pss_cons (ps_for PassesOwn.never rfl (pi_tup (pe_tup (pa_cons (pe_gint rfl T.c_POSITION) (pa_cons (pe_gint rfl T.c_DEADLINE) (pa_cons (pe_gint rfl T.c_LOAVES) pa_nil))))) (pg_name (i := 2) sc_add_shop.nd rfl (Or.inl rfl)) (pss_one (ps_if (pt_not (pt_val (pe_fn O_is_field (hr.mono (by decide)) rfl (pa_cons (pv 2) (pa_cons (pe_ix ix_list (pv 1) (pv 2) (fun _ _ => rfl)) pa_nil))))) (pss_one (ps_ret (pe_gint rfl T.c_OUT_OF_RANGE))) pss_nil)))
      (pss_cons (ps_if (pt_cmpR op_eq (pe_callB call_len_seq (by rfl) T.b_len boot_len (pa_cons (pe_fld (pv 0) rfl) pa_nil)) (pe_gint rfl T.c_MOST_SHOPS) (nomark _)) (pss_one (ps_ret (pe_gint rfl T.c_FULL))) pss_nil)
      (pss_cons (ps_fld (pv 0) (pe_op op_cat (pe_fld (pv 0) rfl) (pe_lst (pa_cons (pv 1) pa_nil))) rfl)
      (pss_one (ps_ret (pe_op op_sub (pe_callB call_len_seq (by rfl) T.b_len boot_len (pa_cons (pe_fld (pv 0) rfl) pa_nil)) pe_int))))))
theorem ok_remove_shop (F : Def K mg "remove_shop" s_remove_shop) (T : Txt K mg C a_LOW a_HIGH a_NUMBERS a_WITH_ROUTE) (O_is_index : Ok P w K mg base "is_index" P_is_index sp_is_index 1) (O_without : Ok P w K mg base "without" P_without sp_without 1) (hp : Pure (t_remove_shop K) (sp_remove_shop C) N_remove_shop) :
    Ok P w K mg base "remove_shop" P_remove_shop (sp_remove_shop C) 2 := by
  obtain ⟨f, fd, mgf, F⟩ := F
  refine ⟨f, fd, mgf, F.kp, F.binds (ps := P_remove_shop) fun _ _ _ _ _ _ us hl => match us, hl with | [_, _], _ => rfl, F.ok sc_remove_shop (fun vs H Q E h => ?_) (fun cdv A outer s H vs Q E hr h => ⟨t_remove_shop K, ?_, hp vs H Q E h⟩)⟩
  · first | (obtain ⟨_, rfl, _⟩ := h; rfl) | (obtain ⟨_, _, rfl, _⟩ := h; rfl) | (obtain ⟨_, _, _, rfl, _⟩ := h; rfl) | (obtain ⟨_, _, _, _, rfl, _⟩ := h; rfl) | (obtain ⟨_, _, _, _, _, rfl, _⟩ := h; rfl) | (obtain ⟨_, _, _, _, _, _, rfl, _⟩ := h; rfl) | (obtain ⟨_, _, _, _, _, _, _, rfl, _⟩ := h; rfl) | (obtain ⟨_, _, _, _, _, _, _, _, rfl, _⟩ := h; rfl)
  · exact (pss_cons (ps_if (pt_not (pt_val (pe_fn O_is_index (hr.mono (by decide)) rfl (pa_cons (pv 1) (pa_cons (pe_fld (pv 0) rfl) pa_nil))))) (pss_one (ps_ret (pe_gint rfl T.c_MISSING))) pss_nil)
      (pss_cons (ps_fld (pv 0) (pe_fn O_without (hr.mono (by decide)) rfl (pa_cons (pe_fld (pv 0) rfl) (pa_cons (pv 1) pa_nil))) rfl)
      (pss_one (ps_ret (pe_callB call_len_seq (by rfl) T.b_len boot_len (pa_cons (pe_fld (pv 0) rfl) pa_nil))))))
theorem ok_set_field (F : Def K mg "set_field" s_set_field) (T : Txt K mg C a_LOW a_HIGH a_NUMBERS a_WITH_ROUTE) (O_is_field : Ok P w K mg base "is_field" P_is_field sp_is_field 2) (O_is_index : Ok P w K mg base "is_index" P_is_index sp_is_index 1) (O_replaced : Ok P w K mg base "replaced" P_replaced sp_replaced 1) (hp : Pure (t_set_field K) (sp_set_field C) N_set_field) :
    Ok P w K mg base "set_field" P_set_field (sp_set_field C) 3 := by
  obtain ⟨f, fd, mgf, F⟩ := F
  refine ⟨f, fd, mgf, F.kp, F.binds (ps := P_set_field) fun _ _ _ _ _ _ us hl => match us, hl with | [_, _, _, _], _ => rfl, F.ok sc_set_field (fun vs H Q E h => ?_) (fun cdv A outer s H vs Q E hr h => ⟨t_set_field K, ?_, hp vs H Q E h⟩)⟩
  · first | (obtain ⟨_, rfl, _⟩ := h; rfl) | (obtain ⟨_, _, rfl, _⟩ := h; rfl) | (obtain ⟨_, _, _, rfl, _⟩ := h; rfl) | (obtain ⟨_, _, _, _, rfl, _⟩ := h; rfl) | (obtain ⟨_, _, _, _, _, rfl, _⟩ := h; rfl) | (obtain ⟨_, _, _, _, _, _, rfl, _⟩ := h; rfl) | (obtain ⟨_, _, _, _, _, _, _, rfl, _⟩ := h; rfl) | (obtain ⟨_, _, _, _, _, _, _, _, rfl, _⟩ := h; rfl)
  · exact (pss_cons (ps_if (pt_not (pt_val (pe_fn O_is_index (hr.mono (by decide)) rfl (pa_cons (pv 1) (pa_cons (pe_fld (pv 0) rfl) pa_nil))))) (pss_one (ps_ret (pe_gint rfl T.c_MISSING))) pss_nil)
      (pss_cons (ps_if (pt_not (pt_val (pe_fn O_is_field (hr.mono (by decide)) rfl (pa_cons (pv 2) (pa_cons (pv 3) pa_nil))))) (pss_one (ps_ret (pe_gint rfl T.c_OUT_OF_RANGE))) pss_nil)
      (pss_cons (ps_set (i := 4) sc_set_field.nd rfl (Or.inl rfl) (pe_ix ix_list (pe_ix ix_list (pe_fld (pv 0) rfl) (pv 1) (fun _ _ => rfl)) (pv 2) (fun _ _ => rfl)))
      (pss_cons (ps_fld (pv 0) (pe_fn O_replaced (hr.mono (by decide)) rfl (pa_cons (pe_fld (pv 0) rfl) (pa_cons (pv 1) (pa_cons (pe_fn O_replaced (hr.mono (by decide)) rfl (pa_cons (pe_ix ix_list (pe_fld (pv 0) rfl) (pv 1) (fun _ _ => rfl)) (pa_cons (pv 2) (pa_cons (pv 3) pa_nil)))) pa_nil)))) rfl)
      (pss_one (ps_ret (pe_ifExp (pt_cmpR op_eq (pv 2) (pe_gint rfl T.c_POSITION) (nomark _)) (pe_callB call_abs (by rfl) T.b_abs boot_abs (pa_cons (pe_op op_sub (pv 3) (pv 4)) pa_nil)) (pv 4))))))))
theorem ok_set_departure (F : Def K mg "set_departure" s_set_departure) (T : Txt K mg C a_LOW a_HIGH a_NUMBERS a_WITH_ROUTE) (O_is_departure : Ok P w K mg base "is_departure" P_is_departure sp_is_departure 2) (hp : Pure (t_set_departure K) (sp_set_departure C) N_set_departure) :
    Ok P w K mg base "set_departure" P_set_departure (sp_set_departure C) 3 := by
  obtain ⟨f, fd, mgf, F⟩ := F
  refine ⟨f, fd, mgf, F.kp, F.binds (ps := P_set_departure) fun _ _ _ _ _ _ us hl => match us, hl with | [_, _], _ => rfl, F.ok sc_set_departure (fun vs H Q E h => ?_) (fun cdv A outer s H vs Q E hr h => ⟨t_set_departure K, ?_, hp vs H Q E h⟩)⟩
  · first | (obtain ⟨_, rfl, _⟩ := h; rfl) | (obtain ⟨_, _, rfl, _⟩ := h; rfl) | (obtain ⟨_, _, _, rfl, _⟩ := h; rfl) | (obtain ⟨_, _, _, _, rfl, _⟩ := h; rfl) | (obtain ⟨_, _, _, _, _, rfl, _⟩ := h; rfl) | (obtain ⟨_, _, _, _, _, _, rfl, _⟩ := h; rfl) | (obtain ⟨_, _, _, _, _, _, _, rfl, _⟩ := h; rfl) | (obtain ⟨_, _, _, _, _, _, _, _, rfl, _⟩ := h; rfl)
  · exact (pss_cons (ps_if (pt_not (pt_val (pe_fn O_is_departure (hr.mono (by decide)) rfl (pa_cons (pv 1) pa_nil)))) (pss_one (ps_ret (pe_gint rfl T.c_OUT_OF_RANGE))) pss_nil)
      (pss_cons (ps_set (i := 2) sc_set_departure.nd rfl (Or.inl rfl) (pe_fld (pv 0) rfl))
      (pss_cons (ps_fld (pv 0) (pv 1) rfl)
      (pss_one (ps_ret (pv 2))))))
theorem ok_every (F : Def K mg "every" s_every) (T : Txt K mg C a_LOW a_HIGH a_NUMBERS a_WITH_ROUTE) (hp : Pure (t_every K) (sp_every C) N_every) :
    Ok P w K mg base "every" P_every (sp_every C) 1 := by
  obtain ⟨f, fd, mgf, F⟩ := F
  refine ⟨f, fd, mgf, F.kp, F.binds (ps := P_every) fun _ _ _ _ _ _ us hl => match us, hl with | [_], _ => rfl, F.ok sc_every (fun vs H Q E h => ?_) (fun cdv A outer s H vs Q E hr h => ⟨t_every K, ?_, hp vs H Q E h⟩)⟩
  · first | (obtain ⟨_, rfl, _⟩ := h; rfl) | (obtain ⟨_, _, rfl, _⟩ := h; rfl) | (obtain ⟨_, _, _, rfl, _⟩ := h; rfl) | (obtain ⟨_, _, _, _, rfl, _⟩ := h; rfl) | (obtain ⟨_, _, _, _, _, rfl, _⟩ := h; rfl) | (obtain ⟨_, _, _, _, _, _, rfl, _⟩ := h; rfl) | (obtain ⟨_, _, _, _, _, _, _, rfl, _⟩ := h; rfl) | (obtain ⟨_, _, _, _, _, _, _, _, rfl, _⟩ := h; rfl)
  · exact (pss_one (ps_ret (pe_listRg rfl rfl T.b_list (prg_1 rfl T.b_range (pe_callB call_len_seq (by rfl) T.b_len boot_len (pa_cons (pe_fld (pv 0) rfl) pa_nil))))))
theorem ok_earliest_finish (F : Def K mg "earliest_finish" s_earliest_finish) (T : Txt K mg C a_LOW a_HIGH a_NUMBERS a_WITH_ROUTE) (O_best_route : Ok P w K mg base "best_route" P_best_route sp_best_route 4) (O_finish_of : Ok P w K mg base "finish_of" P_finish_of sp_finish_of 2) (hp : Pure (t_earliest_finish K) (sp_earliest_finish C) N_earliest_finish) :
    Ok P w K mg base "earliest_finish" P_earliest_finish (sp_earliest_finish C) 5 := by
  obtain ⟨f, fd, mgf, F⟩ := F
  refine ⟨f, fd, mgf, F.kp, F.binds (ps := P_earliest_finish) fun _ _ _ _ _ _ us hl => match us, hl with | [_, _], _ => rfl, F.ok sc_earliest_finish (fun vs H Q E h => ?_) (fun cdv A outer s H vs Q E hr h => ⟨t_earliest_finish K, ?_, hp vs H Q E h⟩)⟩
  · first | (obtain ⟨_, rfl, _⟩ := h; rfl) | (obtain ⟨_, _, rfl, _⟩ := h; rfl) | (obtain ⟨_, _, _, rfl, _⟩ := h; rfl) | (obtain ⟨_, _, _, _, rfl, _⟩ := h; rfl) | (obtain ⟨_, _, _, _, _, rfl, _⟩ := h; rfl) | (obtain ⟨_, _, _, _, _, _, rfl, _⟩ := h; rfl) | (obtain ⟨_, _, _, _, _, _, _, rfl, _⟩ := h; rfl) | (obtain ⟨_, _, _, _, _, _, _, _, rfl, _⟩ := h; rfl)
  · exact (pss_cons (ps_set (i := 2) sc_earliest_finish.nd rfl (Or.inl rfl) (pe_fn O_best_route (hr.mono (by decide)) rfl (pa_cons (pe_fld (pv 0) rfl) (pa_cons (pe_fld (pv 0) rfl) (pa_cons (pv 1) pa_nil)))))
      (pss_one (ps_ret (pe_ifExp (pt_cmpR op_isN (pv 2) pe_non (nomark _)) (pe_lst (pa_cons (pe_gint rfl T.c_LATE) pa_nil)) (pe_lst (pa_cons (pe_fn O_finish_of (hr.mono (by decide)) rfl (pa_cons (pe_fld (pv 0) rfl) (pa_cons (pe_fld (pv 0) rfl) (pa_cons (pv 2) pa_nil)))) pa_nil))))))
theorem ok_ask_best_route (F : Def K mg "ask_best_route" s_ask_best_route) (T : Txt K mg C a_LOW a_HIGH a_NUMBERS a_WITH_ROUTE) (O_best_route : Ok P w K mg base "best_route" P_best_route sp_best_route 4) (O_every : Ok P w K mg base "every" P_every (sp_every C) 1) (O_finish_of : Ok P w K mg base "finish_of" P_finish_of sp_finish_of 2) (hp : Pure (t_ask_best_route K C) (sp_ask_best_route C) N_ask_best_route) :
    Ok P w K mg base "ask_best_route" P_ask_best_route (sp_ask_best_route C) 5 := by
  obtain ⟨f, fd, mgf, F⟩ := F
  refine ⟨f, fd, mgf, F.kp, F.binds (ps := P_ask_best_route) fun _ _ _ _ _ _ us hl => match us, hl with | [_], _ => rfl, F.ok sc_ask_best_route (fun vs H Q E h => ?_) (fun cdv A outer s H vs Q E hr h => ⟨t_ask_best_route K C, ?_, hp vs H Q E h⟩)⟩
  · first | (obtain ⟨_, rfl, _⟩ := h; rfl) | (obtain ⟨_, _, rfl, _⟩ := h; rfl) | (obtain ⟨_, _, _, rfl, _⟩ := h; rfl) | (obtain ⟨_, _, _, _, rfl, _⟩ := h; rfl) | (obtain ⟨_, _, _, _, _, rfl, _⟩ := h; rfl) | (obtain ⟨_, _, _, _, _, _, rfl, _⟩ := h; rfl) | (obtain ⟨_, _, _, _, _, _, _, rfl, _⟩ := h; rfl) | (obtain ⟨_, _, _, _, _, _, _, _, rfl, _⟩ := h; rfl)
  · exact (pss_cons (ps_set (i := 1) sc_ask_best_route.nd rfl (Or.inl rfl) (pe_fn O_best_route (hr.mono (by decide)) rfl (pa_cons (pe_fld (pv 0) rfl) (pa_cons (pe_fld (pv 0) rfl) (pa_cons (pe_fn O_every (hr.mono (by decide)) rfl (pa_cons (pv 0) pa_nil)) pa_nil)))))
      (pss_one (ps_ret (pe_ifExp (pt_cmpR op_isN (pv 1) pe_non (nomark _)) (pe_lst (pa_cons (pe_gint rfl T.c_LATE) pa_nil)) (pe_op op_cat (pe_lst (pa_cons (pe_fn O_finish_of (hr.mono (by decide)) rfl (pa_cons (pe_fld (pv 0) rfl) (pa_cons (pe_fld (pv 0) rfl) (pa_cons (pv 1) pa_nil)))) pa_nil)) (pv 1))))))
theorem ok_arrival_times (F : Def K mg "arrival_times" s_arrival_times) (T : Txt K mg C a_LOW a_HIGH a_NUMBERS a_WITH_ROUTE) (O_are_indices : Ok P w K mg base "are_indices" P_are_indices sp_are_indices 2) (O_arrivals : Ok P w K mg base "arrivals" P_arrivals sp_arrivals 1) (hp : Pure (t_arrival_times K) (sp_arrival_times C) N_arrival_times) :
    Ok P w K mg base "arrival_times" P_arrival_times (sp_arrival_times C) 3 := by
  obtain ⟨f, fd, mgf, F⟩ := F
  refine ⟨f, fd, mgf, F.kp, F.binds (ps := P_arrival_times) fun _ _ _ _ _ _ us hl => match us, hl with | [_, _], _ => rfl, F.ok sc_arrival_times (fun vs H Q E h => ?_) (fun cdv A outer s H vs Q E hr h => ⟨t_arrival_times K, ?_, hp vs H Q E h⟩)⟩
  · first | (obtain ⟨_, rfl, _⟩ := h; rfl) | (obtain ⟨_, _, rfl, _⟩ := h; rfl) | (obtain ⟨_, _, _, rfl, _⟩ := h; rfl) | (obtain ⟨_, _, _, _, rfl, _⟩ := h; rfl) | (obtain ⟨_, _, _, _, _, rfl, _⟩ := h; rfl) | (obtain ⟨_, _, _, _, _, _, rfl, _⟩ := h; rfl) | (obtain ⟨_, _, _, _, _, _, _, rfl, _⟩ := h; rfl) | (obtain ⟨_, _, _, _, _, _, _, _, rfl, _⟩ := h; rfl)
  · exact (pss_cons (ps_if (pt_not (pt_val (pe_fn O_are_indices (hr.mono (by decide)) rfl (pa_cons (pv 1) (pa_cons (pe_fld (pv 0) rfl) pa_nil))))) (pss_one (ps_ret (pe_lst (pa_cons (pe_gint rfl T.c_OUT_OF_RANGE) pa_nil)))) pss_nil)
      (pss_one (ps_ret (pe_op op_cat (pe_lst (pa_cons (pe_callB call_len_seq (by rfl) T.b_len boot_len (pa_cons (pv 1) pa_nil)) pa_nil)) (pe_fn O_arrivals (hr.mono (by decide)) rfl (pa_cons (pe_fld (pv 0) rfl) (pa_cons (pe_fld (pv 0) rfl) (pa_cons (pv 1) pa_nil))))))))
theorem ok_check_route (F : Def K mg "check_route" s_check_route) (T : Txt K mg C a_LOW a_HIGH a_NUMBERS a_WITH_ROUTE) (O_are_indices : Ok P w K mg base "are_indices" P_are_indices sp_are_indices 2) (O_finish_of : Ok P w K mg base "finish_of" P_finish_of sp_finish_of 2) (O_is_on_time : Ok P w K mg base "is_on_time" P_is_on_time sp_is_on_time 2) (O_loaves_of : Ok P w K mg base "loaves_of" P_loaves_of sp_loaves_of 1) (hp : Pure (t_check_route K) (sp_check_route C) N_check_route) :
    Ok P w K mg base "check_route" P_check_route (sp_check_route C) 3 := by
  obtain ⟨f, fd, mgf, F⟩ := F
  refine ⟨f, fd, mgf, F.kp, F.binds (ps := P_check_route) fun _ _ _ _ _ _ us hl => match us, hl with | [_, _], _ => rfl, F.ok sc_check_route (fun vs H Q E h => ?_) (fun cdv A outer s H vs Q E hr h => ⟨t_check_route K, ?_, hp vs H Q E h⟩)⟩
  · first | (obtain ⟨_, rfl, _⟩ := h; rfl) | (obtain ⟨_, _, rfl, _⟩ := h; rfl) | (obtain ⟨_, _, _, rfl, _⟩ := h; rfl) | (obtain ⟨_, _, _, _, rfl, _⟩ := h; rfl) | (obtain ⟨_, _, _, _, _, rfl, _⟩ := h; rfl) | (obtain ⟨_, _, _, _, _, _, rfl, _⟩ := h; rfl) | (obtain ⟨_, _, _, _, _, _, _, rfl, _⟩ := h; rfl) | (obtain ⟨_, _, _, _, _, _, _, _, rfl, _⟩ := h; rfl)
  · exact (pss_cons (ps_par (i := 2) (j := 3) (by rfl) sc_check_route.nd rfl rfl (by decide) rfl rfl (pa_cons (pe_fld (pv 0) rfl) (pa_cons (pe_fld (pv 0) rfl) pa_nil)) (by rfl))
      (pss_cons (ps_if (pt_not (pt_val (pe_fn O_are_indices (hr.mono (by decide)) rfl (pa_cons (pv 1) (pa_cons (pv 2) pa_nil))))) (pss_one (ps_ret (pe_lst (pa_cons (pe_gint rfl T.c_OUT_OF_RANGE) pa_nil)))) pss_nil)
      (pss_cons (ps_set (i := 4) sc_check_route.nd rfl (Or.inl rfl) (pe_ifExp (pt_val (pe_fn O_is_on_time (hr.mono (by decide)) rfl (pa_cons (pv 2) (pa_cons (pv 3) (pa_cons (pv 1) pa_nil))))) pe_int pe_int))
      (pss_one (ps_ret (pe_lst (pa_cons (pv 4) (pa_cons (pe_fn O_finish_of (hr.mono (by decide)) rfl (pa_cons (pv 2) (pa_cons (pv 3) (pa_cons (pv 1) pa_nil)))) (pa_cons (pe_fn O_loaves_of (hr.mono (by decide)) rfl (pa_cons (pv 2) (pa_cons (pv 1) pa_nil))) pa_nil)))))))))
theorem ok_max_loaves (F : Def K mg "max_loaves" s_max_loaves) (T : Txt K mg C a_LOW a_HIGH a_NUMBERS a_WITH_ROUTE) (O_loaves_of : Ok P w K mg base "loaves_of" P_loaves_of sp_loaves_of 1) (O_richest_route : Ok P w K mg base "richest_route" P_richest_route sp_richest_route 5) (hp : Pure (t_max_loaves K) (sp_max_loaves C) N_max_loaves) :
    Ok P w K mg base "max_loaves" P_max_loaves (sp_max_loaves C) 6 := by
  obtain ⟨f, fd, mgf, F⟩ := F
  refine ⟨f, fd, mgf, F.kp, F.binds (ps := P_max_loaves) fun _ _ _ _ _ _ us hl => match us, hl with | [_], _ => rfl, F.ok sc_max_loaves (fun vs H Q E h => ?_) (fun cdv A outer s H vs Q E hr h => ⟨t_max_loaves K, ?_, hp vs H Q E h⟩)⟩
  · first | (obtain ⟨_, rfl, _⟩ := h; rfl) | (obtain ⟨_, _, rfl, _⟩ := h; rfl) | (obtain ⟨_, _, _, rfl, _⟩ := h; rfl) | (obtain ⟨_, _, _, _, rfl, _⟩ := h; rfl) | (obtain ⟨_, _, _, _, _, rfl, _⟩ := h; rfl) | (obtain ⟨_, _, _, _, _, _, rfl, _⟩ := h; rfl) | (obtain ⟨_, _, _, _, _, _, _, rfl, _⟩ := h; rfl) | (obtain ⟨_, _, _, _, _, _, _, _, rfl, _⟩ := h; rfl)
  · exact (pss_cons (ps_set (i := 1) sc_max_loaves.nd rfl (Or.inl rfl) (pe_fn O_richest_route (hr.mono (by decide)) rfl (pa_cons (pe_fld (pv 0) rfl) (pa_cons (pe_fld (pv 0) rfl) pa_nil))))
      (pss_one (ps_ret (pe_op op_cat (pe_lst (pa_cons (pe_fn O_loaves_of (hr.mono (by decide)) rfl (pa_cons (pe_fld (pv 0) rfl) (pa_cons (pv 1) pa_nil))) pa_nil)) (pv 1)))))
theorem ok_earliest_finish_of (F : Def K mg "earliest_finish_of" s_earliest_finish_of) (T : Txt K mg C a_LOW a_HIGH a_NUMBERS a_WITH_ROUTE) (O_earliest_finish : Ok P w K mg base "earliest_finish" P_earliest_finish (sp_earliest_finish C) 5) (O_is_within : Ok P w K mg base "is_within" P_is_within sp_is_within 1) (O_members : Ok P w K mg base "members" P_members sp_members 1) (hp : Pure (t_earliest_finish_of K C) (sp_earliest_finish_of C) N_earliest_finish_of) :
    Ok P w K mg base "earliest_finish_of" P_earliest_finish_of (sp_earliest_finish_of C) 6 := by
  obtain ⟨f, fd, mgf, F⟩ := F
  refine ⟨f, fd, mgf, F.kp, F.binds (ps := P_earliest_finish_of) fun _ _ _ _ _ _ us hl => match us, hl with | [_, _], _ => rfl, F.ok sc_earliest_finish_of (fun vs H Q E h => ?_) (fun cdv A outer s H vs Q E hr h => ⟨t_earliest_finish_of K C, ?_, hp vs H Q E h⟩)⟩
  · first | (obtain ⟨_, rfl, _⟩ := h; rfl) | (obtain ⟨_, _, rfl, _⟩ := h; rfl) | (obtain ⟨_, _, _, rfl, _⟩ := h; rfl) | (obtain ⟨_, _, _, _, rfl, _⟩ := h; rfl) | (obtain ⟨_, _, _, _, _, rfl, _⟩ := h; rfl) | (obtain ⟨_, _, _, _, _, _, rfl, _⟩ := h; rfl) | (obtain ⟨_, _, _, _, _, _, _, rfl, _⟩ := h; rfl) | (obtain ⟨_, _, _, _, _, _, _, _, rfl, _⟩ := h; rfl)
  · exact (pss_cons (ps_if (pt_not (pt_val (pe_fn O_is_within (hr.mono (by decide)) rfl (pa_cons (pv 1) (pa_cons pe_int (pa_cons (pe_op op_sub (pe_op op_shl pe_int (pe_callB call_len_seq (by rfl) T.b_len boot_len (pa_cons (pe_fld (pv 0) rfl) pa_nil))) pe_int) pa_nil)))))) (pss_one (ps_ret (pe_lst (pa_cons (pe_gint rfl T.c_OUT_OF_RANGE) pa_nil)))) pss_nil)
      (pss_one (ps_ret (pe_fn O_earliest_finish (hr.mono (by decide)) rfl (pa_cons (pv 0) (pa_cons (pe_fn O_members (hr.mono (by decide)) rfl (pa_cons (pv 1) (pa_cons (pe_fld (pv 0) rfl) pa_nil))) pa_nil))))))
theorem ok_return_time (F : Def K mg "return_time" s_return_time) (T : Txt K mg C a_LOW a_HIGH a_NUMBERS a_WITH_ROUTE) (O_best_route : Ok P w K mg base "best_route" P_best_route sp_best_route 4) (O_every : Ok P w K mg base "every" P_every (sp_every C) 1) (O_finish_of : Ok P w K mg base "finish_of" P_finish_of sp_finish_of 2) (hp : Pure (t_return_time K C) (sp_return_time C) N_return_time) :
    Ok P w K mg base "return_time" P_return_time (sp_return_time C) 5 := by
  obtain ⟨f, fd, mgf, F⟩ := F
  refine ⟨f, fd, mgf, F.kp, F.binds (ps := P_return_time) fun _ _ _ _ _ _ us hl => match us, hl with | [_], _ => rfl, F.ok sc_return_time (fun vs H Q E h => ?_) (fun cdv A outer s H vs Q E hr h => ⟨t_return_time K C, ?_, hp vs H Q E h⟩)⟩
  · first | (obtain ⟨_, rfl, _⟩ := h; rfl) | (obtain ⟨_, _, rfl, _⟩ := h; rfl) | (obtain ⟨_, _, _, rfl, _⟩ := h; rfl) | (obtain ⟨_, _, _, _, rfl, _⟩ := h; rfl) | (obtain ⟨_, _, _, _, _, rfl, _⟩ := h; rfl) | (obtain ⟨_, _, _, _, _, _, rfl, _⟩ := h; rfl) | (obtain ⟨_, _, _, _, _, _, _, rfl, _⟩ := h; rfl) | (obtain ⟨_, _, _, _, _, _, _, _, rfl, _⟩ := h; rfl)
  · exact (pss_cons (ps_par (i := 1) (j := 2) (by rfl) sc_return_time.nd rfl rfl (by decide) rfl rfl (pa_cons (pe_fld (pv 0) rfl) (pa_cons (pe_fld (pv 0) rfl) pa_nil)) (by rfl))
      (pss_cons (ps_set (i := 3) sc_return_time.nd rfl (Or.inl rfl) (pe_fn O_best_route (hr.mono (by decide)) rfl (pa_cons (pv 1) (pa_cons (pv 2) (pa_cons (pe_fn O_every (hr.mono (by decide)) rfl (pa_cons (pv 0) pa_nil)) pa_nil)))))
      (pss_cons (ps_if (pt_cmpR op_isN (pv 3) pe_non (nomark _)) (pss_one (ps_ret (pe_lst (pa_cons (pe_gint rfl T.c_LATE) pa_nil)))) pss_nil)
      (pss_cons (ps_set (i := 4) sc_return_time.nd rfl (Or.inl rfl) (pe_ifExp (pt_cmpR op_gt (pe_callB call_len_seq (by rfl) T.b_len boot_len (pa_cons (pv 3) pa_nil)) pe_int (nomark _)) (pe_callB call_abs (by rfl) T.b_abs boot_abs (pa_cons (pe_ix ix_list (pe_ix ix_list (pv 1) (pe_ix ix_list (pv 3) (pe_un un_neg pe_int) (fun _ _ => rfl)) (fun _ _ => rfl)) (pe_gint rfl T.c_POSITION) (fun _ _ => rfl)) pa_nil)) pe_int))
      (pss_one (ps_ret (pe_lst (pa_cons (pe_op op_add (pe_fn O_finish_of (hr.mono (by decide)) rfl (pa_cons (pv 1) (pa_cons (pv 2) (pa_cons (pv 3) pa_nil)))) (pv 4)) pa_nil))))))))
theorem ok_earliest_finish_without (F : Def K mg "earliest_finish_without" s_earliest_finish_without) (T : Txt K mg C a_LOW a_HIGH a_NUMBERS a_WITH_ROUTE) (O_earliest_finish : Ok P w K mg base "earliest_finish" P_earliest_finish (sp_earliest_finish C) 5) (O_every : Ok P w K mg base "every" P_every (sp_every C) 1) (O_is_index : Ok P w K mg base "is_index" P_is_index sp_is_index 1) (O_without : Ok P w K mg base "without" P_without sp_without 1) (hp : Pure (t_earliest_finish_without K C) (sp_earliest_finish_without C) N_earliest_finish_without) :
    Ok P w K mg base "earliest_finish_without" P_earliest_finish_without (sp_earliest_finish_without C) 6 := by
  obtain ⟨f, fd, mgf, F⟩ := F
  refine ⟨f, fd, mgf, F.kp, F.binds (ps := P_earliest_finish_without) fun _ _ _ _ _ _ us hl => match us, hl with | [_, _], _ => rfl, F.ok sc_earliest_finish_without (fun vs H Q E h => ?_) (fun cdv A outer s H vs Q E hr h => ⟨t_earliest_finish_without K C, ?_, hp vs H Q E h⟩)⟩
  · first | (obtain ⟨_, rfl, _⟩ := h; rfl) | (obtain ⟨_, _, rfl, _⟩ := h; rfl) | (obtain ⟨_, _, _, rfl, _⟩ := h; rfl) | (obtain ⟨_, _, _, _, rfl, _⟩ := h; rfl) | (obtain ⟨_, _, _, _, _, rfl, _⟩ := h; rfl) | (obtain ⟨_, _, _, _, _, _, rfl, _⟩ := h; rfl) | (obtain ⟨_, _, _, _, _, _, _, rfl, _⟩ := h; rfl) | (obtain ⟨_, _, _, _, _, _, _, _, rfl, _⟩ := h; rfl)
  · exact (pss_cons (ps_if (pt_not (pt_val (pe_fn O_is_index (hr.mono (by decide)) rfl (pa_cons (pv 1) (pa_cons (pe_fld (pv 0) rfl) pa_nil))))) (pss_one (ps_ret (pe_lst (pa_cons (pe_gint rfl T.c_MISSING) pa_nil)))) pss_nil)
      (pss_one (ps_ret (pe_fn O_earliest_finish (hr.mono (by decide)) rfl (pa_cons (pv 0) (pa_cons (pe_fn O_without (hr.mono (by decide)) rfl (pa_cons (pe_fn O_every (hr.mono (by decide)) rfl (pa_cons (pv 0) pa_nil)) (pa_cons (pv 1) pa_nil))) pa_nil))))))
theorem ok_describe (F : Def K mg "describe" s_describe) (T : Txt K mg C a_LOW a_HIGH a_NUMBERS a_WITH_ROUTE) (hp : Pure (t_describe K) (sp_describe C) N_describe) :
    Ok P w K mg base "describe" P_describe (sp_describe C) 1 := by
  obtain ⟨f, fd, mgf, F⟩ := F
  refine ⟨f, fd, mgf, F.kp, F.binds (ps := P_describe) fun _ _ _ _ _ _ us hl => match us, hl with | [_], _ => rfl, F.ok sc_describe (fun vs H Q E h => ?_) (fun cdv A outer s H vs Q E hr h => ⟨t_describe K, ?_, hp vs H Q E h⟩)⟩
  · first | (obtain ⟨_, rfl, _⟩ := h; rfl) | (obtain ⟨_, _, rfl, _⟩ := h; rfl) | (obtain ⟨_, _, _, rfl, _⟩ := h; rfl) | (obtain ⟨_, _, _, _, rfl, _⟩ := h; rfl) | (obtain ⟨_, _, _, _, _, rfl, _⟩ := h; rfl) | (obtain ⟨_, _, _, _, _, _, rfl, _⟩ := h; rfl) | (obtain ⟨_, _, _, _, _, _, _, rfl, _⟩ := h; rfl) | (obtain ⟨_, _, _, _, _, _, _, _, rfl, _⟩ := h; rfl)
  · exact (pss_cons (ps_set (i := 1) sc_describe.nd rfl (Or.inl rfl) (pe_lst (pa_cons (pe_fld (pv 0) rfl) (pa_cons (pe_callB call_len_seq (by rfl) T.b_len boot_len (pa_cons (pe_fld (pv 0) rfl) pa_nil)) pa_nil))))
      (pss_cons (ps_for PassesOwn.never rfl (pi_list (pe_fld (pv 0) rfl)) (pg_name (i := 2) sc_describe.nd rfl (Or.inl rfl)) (pss_one (ps_expr (pe_bm PySem.F.plainAttrs_list PySem.F.slot_list_extend PySem.F.type_list_extend mt_extend (pv 1) (pa_cons (pv 2) pa_nil)))))
      (pss_one (ps_ret (pv 1)))))
theorem ok_ask_latest (F : Def K mg "ask_latest" s_ask_latest) (T : Txt K mg C a_LOW a_HIGH a_NUMBERS a_WITH_ROUTE) (O_every : Ok P w K mg base "every" P_every (sp_every C) 1) (O_latest_departure : Ok P w K mg base "latest_departure" P_latest_departure sp_latest_departure 4) (hp : Pure (t_ask_latest K C) (sp_ask_latest C) N_ask_latest) :
    Ok P w K mg base "ask_latest" P_ask_latest (sp_ask_latest C) 5 := by
  obtain ⟨f, fd, mgf, F⟩ := F
  refine ⟨f, fd, mgf, F.kp, F.binds (ps := P_ask_latest) fun _ _ _ _ _ _ us hl => match us, hl with | [_], _ => rfl, F.ok sc_ask_latest (fun vs H Q E h => ?_) (fun cdv A outer s H vs Q E hr h => ⟨t_ask_latest K C, ?_, hp vs H Q E h⟩)⟩
  · first | (obtain ⟨_, rfl, _⟩ := h; rfl) | (obtain ⟨_, _, rfl, _⟩ := h; rfl) | (obtain ⟨_, _, _, rfl, _⟩ := h; rfl) | (obtain ⟨_, _, _, _, rfl, _⟩ := h; rfl) | (obtain ⟨_, _, _, _, _, rfl, _⟩ := h; rfl) | (obtain ⟨_, _, _, _, _, _, rfl, _⟩ := h; rfl) | (obtain ⟨_, _, _, _, _, _, _, rfl, _⟩ := h; rfl) | (obtain ⟨_, _, _, _, _, _, _, _, rfl, _⟩ := h; rfl)
  · exact (pss_cons (ps_set (i := 1) sc_ask_latest.nd rfl (Or.inl rfl) (pe_fn O_latest_departure (hr.mono (by decide)) rfl (pa_cons (pe_fld (pv 0) rfl) (pa_cons (pe_fn O_every (hr.mono (by decide)) rfl (pa_cons (pv 0) pa_nil)) pa_nil))))
      (pss_one (ps_ret (pe_ifExp (pt_cmpR op_ge (pv 1) pe_int (nomark _)) (pe_lst (pa_cons (pv 1) pa_nil)) (pe_lst (pa_cons (pe_gint rfl T.c_LATE) pa_nil))))))
theorem ok_answer_edit (F : Def K mg "answer_edit" s_answer_edit) (T : Txt K mg C a_LOW a_HIGH a_NUMBERS a_WITH_ROUTE) (O_add_shop : Ok P w K mg base "add_shop" P_add_shop (sp_add_shop C) 3) (O_remove_shop : Ok P w K mg base "remove_shop" P_remove_shop (sp_remove_shop C) 2) (O_set_departure : Ok P w K mg base "set_departure" P_set_departure (sp_set_departure C) 3) (O_set_field : Ok P w K mg base "set_field" P_set_field (sp_set_field C) 3) (hp : Pure (t_answer_edit K C) (sp_answer_edit C) N_answer_edit) :
    Ok P w K mg base "answer_edit" P_answer_edit (sp_answer_edit C) 4 := by
  obtain ⟨f, fd, mgf, F⟩ := F
  refine ⟨f, fd, mgf, F.kp, F.binds (ps := P_answer_edit) fun _ _ _ _ _ _ us hl => match us, hl with | [_, _, _], _ => rfl, F.ok sc_answer_edit (fun vs H Q E h => ?_) (fun cdv A outer s H vs Q E hr h => ⟨t_answer_edit K C, ?_, hp vs H Q E h⟩)⟩
  · first | (obtain ⟨_, rfl, _⟩ := h; rfl) | (obtain ⟨_, _, rfl, _⟩ := h; rfl) | (obtain ⟨_, _, _, rfl, _⟩ := h; rfl) | (obtain ⟨_, _, _, _, rfl, _⟩ := h; rfl) | (obtain ⟨_, _, _, _, _, rfl, _⟩ := h; rfl) | (obtain ⟨_, _, _, _, _, _, rfl, _⟩ := h; rfl) | (obtain ⟨_, _, _, _, _, _, _, rfl, _⟩ := h; rfl) | (obtain ⟨_, _, _, _, _, _, _, _, rfl, _⟩ := h; rfl)
  · exact (pss_cons (ps_if (pt_cmpR op_eq (pv 1) pe_int (nomark _)) (pss_one (ps_ret (pe_fn O_add_shop (hr.mono (by decide)) rfl (pa_cons (pv 0) (pa_cons (pv 2) pa_nil))))) pss_nil)
      (pss_cons (ps_if (pt_cmpR op_eq (pv 1) pe_int (nomark _)) (pss_one (ps_ret (pe_fn O_remove_shop (hr.mono (by decide)) rfl (pa_cons (pv 0) (pa_cons (pe_ix ix_list (pv 2) pe_int (fun _ _ => rfl)) pa_nil))))) pss_nil)
      (pss_one (ps_ret (pe_ifExp (pt_cmpR op_eq (pv 1) pe_int (nomark _)) (pe_fn O_set_departure (hr.mono (by decide)) rfl (pa_cons (pv 0) (pa_cons (pe_ix ix_list (pv 2) pe_int (fun _ _ => rfl)) pa_nil))) (pe_fn O_set_field (hr.mono (by decide)) rfl (pa_cons (pv 0) (pa_cons (pe_ix ix_list (pv 2) pe_int (fun _ _ => rfl)) (pa_cons (pe_op op_sub (pv 1) pe_int) (pa_cons (pe_ix ix_list (pv 2) pe_int (fun _ _ => rfl)) pa_nil))))))))))
theorem ok_answer_question (F : Def K mg "answer_question" s_answer_question) (T : Txt K mg C a_LOW a_HIGH a_NUMBERS a_WITH_ROUTE) (O_arrival_times : Ok P w K mg base "arrival_times" P_arrival_times (sp_arrival_times C) 3) (O_ask_best_route : Ok P w K mg base "ask_best_route" P_ask_best_route (sp_ask_best_route C) 5) (O_ask_latest : Ok P w K mg base "ask_latest" P_ask_latest (sp_ask_latest C) 5) (O_check_route : Ok P w K mg base "check_route" P_check_route (sp_check_route C) 3) (O_describe : Ok P w K mg base "describe" P_describe (sp_describe C) 1) (O_earliest_finish : Ok P w K mg base "earliest_finish" P_earliest_finish (sp_earliest_finish C) 5) (O_earliest_finish_of : Ok P w K mg base "earliest_finish_of" P_earliest_finish_of (sp_earliest_finish_of C) 6) (O_earliest_finish_without : Ok P w K mg base "earliest_finish_without" P_earliest_finish_without (sp_earliest_finish_without C) 6) (O_every : Ok P w K mg base "every" P_every (sp_every C) 1) (O_max_loaves : Ok P w K mg base "max_loaves" P_max_loaves (sp_max_loaves C) 6) (O_return_time : Ok P w K mg base "return_time" P_return_time (sp_return_time C) 5) (hp : Pure (t_answer_question K C) (sp_answer_question C) N_answer_question) :
    Ok P w K mg base "answer_question" P_answer_question (sp_answer_question C) 7 := by
  obtain ⟨f, fd, mgf, F⟩ := F
  refine ⟨f, fd, mgf, F.kp, F.binds (ps := P_answer_question) fun _ _ _ _ _ _ us hl => match us, hl with | [_, _, _, _], _ => rfl, F.ok sc_answer_question (fun vs H Q E h => ?_) (fun cdv A outer s H vs Q E hr h => ⟨t_answer_question K C, ?_, hp vs H Q E h⟩)⟩
  · first | (obtain ⟨_, rfl, _⟩ := h; rfl) | (obtain ⟨_, _, rfl, _⟩ := h; rfl) | (obtain ⟨_, _, _, rfl, _⟩ := h; rfl) | (obtain ⟨_, _, _, _, rfl, _⟩ := h; rfl) | (obtain ⟨_, _, _, _, _, rfl, _⟩ := h; rfl) | (obtain ⟨_, _, _, _, _, _, rfl, _⟩ := h; rfl) | (obtain ⟨_, _, _, _, _, _, _, rfl, _⟩ := h; rfl) | (obtain ⟨_, _, _, _, _, _, _, _, rfl, _⟩ := h; rfl)
  · exact (pss_cons (ps_if (pt_cmpR op_eq (pv 1) pe_int (nomark _)) (pss_one (ps_ret (pe_fn O_earliest_finish (hr.mono (by decide)) rfl (pa_cons (pv 0) (pa_cons (pe_fn O_every (hr.mono (by decide)) rfl (pa_cons (pv 0) pa_nil)) pa_nil))))) pss_nil)
      (pss_cons (ps_if (pt_cmpR op_eq (pv 1) pe_int (nomark _)) (pss_one (ps_ret (pe_fn O_ask_best_route (hr.mono (by decide)) rfl (pa_cons (pv 0) pa_nil)))) pss_nil)
      (pss_cons (ps_if (pt_cmpR op_eq (pv 1) pe_int (nomark _)) (pss_one (ps_ret (pe_fn O_arrival_times (hr.mono (by decide)) rfl (pa_cons (pv 0) (pa_cons (pv 3) pa_nil))))) pss_nil)
      (pss_cons (ps_if (pt_cmpR op_eq (pv 1) pe_int (nomark _)) (pss_one (ps_ret (pe_fn O_check_route (hr.mono (by decide)) rfl (pa_cons (pv 0) (pa_cons (pv 3) pa_nil))))) pss_nil)
      (pss_cons (ps_if (pt_cmpR op_eq (pv 1) pe_int (nomark _)) (pss_one (ps_ret (pe_fn O_max_loaves (hr.mono (by decide)) rfl (pa_cons (pv 0) pa_nil)))) pss_nil)
      (pss_cons (ps_if (pt_cmpR op_eq (pv 1) pe_int (nomark _)) (pss_one (ps_ret (pe_fn O_earliest_finish_of (hr.mono (by decide)) rfl (pa_cons (pv 0) (pa_cons (pe_ix ix_list (pv 2) pe_int (fun _ _ => rfl)) pa_nil))))) pss_nil)
      (pss_cons (ps_if (pt_cmpR op_eq (pv 1) pe_int (nomark _)) (pss_one (ps_ret (pe_fn O_ask_latest (hr.mono (by decide)) rfl (pa_cons (pv 0) pa_nil)))) pss_nil)
      (pss_cons (ps_if (pt_cmpR op_eq (pv 1) pe_int (nomark _)) (pss_one (ps_ret (pe_fn O_return_time (hr.mono (by decide)) rfl (pa_cons (pv 0) pa_nil)))) pss_nil)
      (pss_one (ps_ret (pe_ifExp (pt_cmpR op_eq (pv 1) pe_int (nomark _)) (pe_fn O_earliest_finish_without (hr.mono (by decide)) rfl (pa_cons (pv 0) (pa_cons (pe_ix ix_list (pv 2) pe_int (fun _ _ => rfl)) pa_nil))) (pe_fn O_describe (hr.mono (by decide)) rfl (pa_cons (pv 0) pa_nil)))))))))))))
theorem ok_answer (F : Def K mg "answer" s_answer) (T : Txt K mg C a_LOW a_HIGH a_NUMBERS a_WITH_ROUTE) (O_answer_edit : Ok P w K mg base "answer_edit" P_answer_edit (sp_answer_edit C) 4) (O_answer_question : Ok P w K mg base "answer_question" P_answer_question (sp_answer_question C) 7) (O_create : Ok P w K mg base "create" P_create (sp_create C) 3) {f_exists : Addr} {fd_exists : FuncData} (m_exists : Meth K C "exists" f_exists) (b_exists : Binds K fd_exists P_exists []) (G_exists : FnOk P w K mg base CX0 1 f_exists fd_exists P_exists (sp_exists C)) (hp : Pure (t_answer K C) (sp_answer C) N_answer) :
    Ok P w K mg base "answer" P_answer (sp_answer C) 8 := by
  obtain ⟨f, fd, mgf, F⟩ := F
  refine ⟨f, fd, mgf, F.kp, F.binds (ps := P_answer) fun _ _ _ _ _ _ us hl => match us, hl with | [_, _, _, _], _ => rfl, F.ok sc_answer (fun vs H Q E h => ?_) (fun cdv A outer s H vs Q E hr h => ⟨t_answer K C, ?_, hp vs H Q E h⟩)⟩
  · first | (obtain ⟨_, rfl, _⟩ := h; rfl) | (obtain ⟨_, _, rfl, _⟩ := h; rfl) | (obtain ⟨_, _, _, rfl, _⟩ := h; rfl) | (obtain ⟨_, _, _, _, rfl, _⟩ := h; rfl) | (obtain ⟨_, _, _, _, _, rfl, _⟩ := h; rfl) | (obtain ⟨_, _, _, _, _, _, rfl, _⟩ := h; rfl) | (obtain ⟨_, _, _, _, _, _, _, rfl, _⟩ := h; rfl) | (obtain ⟨_, _, _, _, _, _, _, _, rfl, _⟩ := h; rfl)
  · exact (pss_cons (ps_if (pt_cmpR op_eq (pv 1) pe_int (nomark _)) (pss_one (ps_ret (pe_lst (pa_cons (pe_fn O_create (hr.mono (by decide)) rfl (pa_cons (pv 0) (pa_cons (pe_ix ix_list (pv 2) pe_int (fun _ _ => rfl)) pa_nil))) pa_nil)))) pss_nil)
      (pss_cons (ps_if (pt_not (pt_val (pe_meth0 (pv 0) T.cl m_exists G_exists (hr.mono (by decide)) b_exists .nil pass0))) (pss_one (ps_ret (pe_lst (pa_cons (pe_gint rfl T.c_ABSENT) pa_nil)))) pss_nil)
      (pss_one (ps_ret (pe_ifExp (pt_cmpR op_le (pv 1) pe_int (nomark _)) (pe_lst (pa_cons (pe_fn O_answer_edit (hr.mono (by decide)) rfl (pa_cons (pv 0) (pa_cons (pv 1) (pa_cons (pv 2) pa_nil)))) pa_nil)) (pe_fn O_answer_question (hr.mono (by decide)) rfl (pa_cons (pv 0) (pa_cons (pv 1) (pa_cons (pv 2) (pa_cons (pv 3) pa_nil))))))))))
theorem ok_end_of (F : Def K mg "end_of" s_end_of) (T : Txt K mg C a_LOW a_HIGH a_NUMBERS a_WITH_ROUTE) (hp : Pure (t_end_of K a_WITH_ROUTE) (sp_end_of K) N_end_of) :
    Ok P w K mg base "end_of" P_end_of (sp_end_of K) 1 := by
  obtain ⟨f, fd, mgf, F⟩ := F
  refine ⟨f, fd, mgf, F.kp, F.binds (ps := P_end_of) fun _ _ _ _ _ _ us hl => match us, hl with | [_, _, _], _ => rfl, F.ok sc_end_of (fun vs H Q E h => ?_) (fun cdv A outer s H vs Q E hr h => ⟨t_end_of K a_WITH_ROUTE, ?_, hp vs H Q E h⟩)⟩
  · first | (obtain ⟨_, rfl, _⟩ := h; rfl) | (obtain ⟨_, _, rfl, _⟩ := h; rfl) | (obtain ⟨_, _, _, rfl, _⟩ := h; rfl) | (obtain ⟨_, _, _, _, rfl, _⟩ := h; rfl) | (obtain ⟨_, _, _, _, _, rfl, _⟩ := h; rfl) | (obtain ⟨_, _, _, _, _, _, rfl, _⟩ := h; rfl) | (obtain ⟨_, _, _, _, _, _, _, rfl, _⟩ := h; rfl) | (obtain ⟨_, _, _, _, _, _, _, _, rfl, _⟩ := h; rfl)
  · exact (pss_one (ps_ret (pe_ifExp (pt_cmpR op_in_seq (pv 2) (pe_glob rfl T.c_WITH_ROUTE rfl) (by with_unfolding_all rfl)) (pe_op op_add (pe_op op_add (pv 1) pe_int) (pe_ix ix_list (pv 0) (pv 1) (fun _ _ => rfl))) (pv 1))))
theorem ok_answers {f : Addr} {fd : FuncData} (F : Fun K "answers" "answers" s_answers f fd) (T : Txt K mg C a_LOW a_HIGH a_NUMBERS a_WITH_ROUTE) (O_answer : Ok P w K mg base "answer" P_answer (sp_answer C) 8) (O_end_of : Ok P w K mg base "end_of" P_end_of (sp_end_of K) 1) {f_init : Addr} {fd_init : FuncData} (M_init : Mk K C f_init) (b_init : Binds K fd_init P_init []) (G_init : FnOk P w K mg base CX0 1 f_init fd_init P_init (sp_init C)) (hp : Pure (t_answers K C a_NUMBERS) (sp_answers K) N_answers) :
    FnOk P w K mg base CX0 9 f fd P_answers (sp_answers K) := by
  refine F.ok sc_answers (fun vs H Q E h => ?_) (fun cdv A outer s H vs Q E hr h => ⟨t_answers K C a_NUMBERS, ?_, hp vs H Q E h⟩)
  · first | (obtain ⟨_, rfl, _⟩ := h; rfl) | (obtain ⟨_, _, rfl, _⟩ := h; rfl) | (obtain ⟨_, _, _, rfl, _⟩ := h; rfl) | (obtain ⟨_, _, _, _, rfl, _⟩ := h; rfl) | (obtain ⟨_, _, _, _, _, rfl, _⟩ := h; rfl) | (obtain ⟨_, _, _, _, _, _, rfl, _⟩ := h; rfl) | (obtain ⟨_, _, _, _, _, _, _, rfl, _⟩ := h; rfl) | (obtain ⟨_, _, _, _, _, _, _, _, rfl, _⟩ := h; rfl)
  · exact (pss_cons (ps_set (i := 1) sc_answers.nd rfl (Or.inl rfl) (pe_make0 M_init G_init (hr.mono (by decide)) rfl T.gC b_init .nil pass0))
      (pss_cons (ps_set (i := 2) sc_answers.nd rfl (Or.inl rfl) (pe_lst pa_nil))
      (pss_cons (ps_set (i := 3) sc_answers.nd rfl (Or.inl rfl) pe_int)
      (pss_cons (ps_while PassesOwn.never (pt_cmpR op_lt (pv 3) (pe_callB call_len_seq (by rfl) T.b_len boot_len (pa_cons (pv 0) pa_nil)) (nomark _)) (pss_cons (ps_set (i := 4) sc_answers.nd rfl (Or.inl rfl) (pe_ix ix_list (pv 0) (pv 3) (fun _ _ => rfl)))
      (pss_cons (ps_set (i := 5) sc_answers.nd rfl (Or.inl rfl) (pe_op op_add (pe_op op_add (pv 3) pe_int) (pe_ix ix_tup (pe_glob rfl T.c_NUMBERS rfl) (pv 4) (fun _ _ => rfl))))
      (pss_cons (ps_set (i := 6) sc_answers.nd rfl (Or.inl rfl) (pe_fn O_end_of (hr.mono (by decide)) rfl (pa_cons (pv 0) (pa_cons (pv 5) (pa_cons (pv 4) pa_nil)))))
      (pss_cons (ps_set (i := 7) sc_answers.nd rfl (Or.inl rfl) (pe_fn O_answer (hr.mono (by decide)) rfl (pa_cons (pv 1) (pa_cons (pv 4) (pa_cons (pe_slice sl_list (pv 0) (po_some (pe_op op_add (pv 3) pe_int)) (po_some (pv 5))) (pa_cons (pe_slice sl_list (pv 0) (po_some (pe_op op_add (pv 5) pe_int)) (po_some (pv 6))) pa_nil))))))
      (pss_cons (ps_expr (pe_bm PySem.F.plainAttrs_list PySem.F.slot_list_append PySem.F.type_list_append mt_append (pv 2) (pa_cons (pe_callB call_len_seq (by rfl) T.b_len boot_len (pa_cons (pv 7) pa_nil)) pa_nil)))
      (pss_cons (ps_expr (pe_bm PySem.F.plainAttrs_list PySem.F.slot_list_extend PySem.F.type_list_extend mt_extend (pv 2) (pa_cons (pv 7) pa_nil)))
      (pss_one (ps_set (i := 3) sc_answers.nd rfl (Or.inl rfl) (pv 6))))))))))
      (pss_one (ps_ret (pv 2)))))))
end
end Bs

/-! ## BsP1 -/
set_option Elab.async false
set_option linter.all false
set_option maxRecDepth 100000
set_option maxHeartbeats 4000000
namespace Bs
open PySem PySem.Spec PyProof.Rows L2
open SrCommon (natsToInts maskMembers inRange isIndex)
variable {K : PySem.W.Frag}
theorem cut_to (xs : List V) (i : Nat) : cutV xs none (some (i : Int)) = xs.take i := by
  unfold cutV
  rw [HT.sIx_none, HT.sIx_nat, List.drop_zero, Nat.sub_zero, ← List.take_take, List.take_length]
theorem cut_from (xs : List V) (i : Nat) : cutV xs (some (i : Int)) none = xs.drop i := by
  unfold cutV
  rw [HT.sIx_none, HT.sIx_nat]
  by_cases h : i ≤ xs.length
  · rw [Nat.min_eq_left h, List.take_of_length_le (by rw [List.length_drop]; exact Nat.le_refl _)]
  · have h' : xs.length ≤ i := by omega
    rw [Nat.min_eq_right h', List.drop_of_length_le (Nat.le_refl _), List.drop_of_length_le h', List.take_nil]
theorem inV_ints (z : Int) : ∀ l : List Int, inV (.int z) (iv l) = decide (z ∈ l)
  | [] => rfl
  | y :: l => by
    have ih := inV_ints z l
    show (eqV (.int y) (.int z) || inV (.int z) (iv l)) = _
    rw [ih]
    show ((y == z) || decide (z ∈ l)) = _
    by_cases e : y = z
    · subst e
      simp
    · have e' : ¬ z = y := fun h => e h.symm
      simp [e, e']
theorem flat_ints (l : List Int) : (iv l).all flatV = true := by
  rw [List.all_eq_true]
  intro x hx
  obtain ⟨z, _, rfl⟩ := List.mem_map.mp hx
  rfl
theorem bl_eq {Q : VK} {H : Hp} {a b : Bool} (e : a = b) (h : Q (.bl b) H) : Q (.bl a) H := by
  rw [e]
  exact h
theorem v_eq {Q : VK} {H : Hp} {a b : V} (e : a = b) (h : Q b H) : Q a H := by
  rw [e]
  exact h
theorem len62 {n : Nat} (h : n ≤ 5000) : -(2 ^ 62) ≤ (n : Int) ∧ (n : Int) < 2 ^ 62 := by omega

theorem pure_is_within : Pure (t_is_within K) sp_is_within N_is_within := by
  intro vs H Q E h
  obtain ⟨v, lo, hi, rfl, q⟩ := h
  refine ⟨_, rfl, _, rfl, _, _, rfl, rfl, _, rfl, ite2 (fun c => ?_) (fun c => ?_)⟩
  · refine ⟨_, rfl, _, _, rfl, rfl, ?_⟩
    refine bl_eq ?_ q
    unfold inRange
    rw [c]
    rfl
  · refine bl_eq ?_ q
    unfold inRange
    rw [Bool.not_eq_true _ |>.mp c]
    rfl
theorem pure_is_index : Pure (t_is_index K) sp_is_index N_is_index := by
  intro vs H Q E h
  obtain ⟨v, a, xs, rfl, ha, q⟩ := h
  refine ⟨_, rfl, _, _, rfl, rfl, _, rfl, ite2 (fun c => ?_) (fun c => ?_)⟩
  · refine ⟨_, rfl, a, xs, rfl, .inl (SqL.of ha), _, _, rfl, rfl, ?_⟩
    refine bl_eq ?_ q
    unfold isIndex
    rw [c]
    rfl
  · refine bl_eq ?_ q
    unfold isIndex
    rw [Bool.not_eq_true _ |>.mp c]
    rfl
theorem pure_are_indices : Pure (t_are_indices K) sp_are_indices N_are_indices := by
  intro vs H Q E h
  obtain ⟨a, b, l, xs, rfl, hl, hb, few, q⟩ := h
  have hn : (((iv l).length : Nat) : Int).toNat = l.length := by rw [Int.toNat_natCast, iv_len]
  have hb62 := len62 (n := (iv l).length) (by rw [iv_len]; exact few)
  refine ⟨_, rfl, a, iv l, rfl, .inl (SqL.of hl), _, rfl, hb62.1, hb62.2, for_range (lo := 0)
    (fun i σ H' => (∃ v, σ = [some (.ref a), some (.ref b), v]) ∧ Same H H' ∧ (l.take i).Nodup ∧ ∀ j ∈ l.take i, isIndex j xs.length = true)
    ⟨⟨none, rfl⟩, Same.refl H, by simp, by simp⟩ ?_ ?_⟩
  · rintro i σ H1 hi ⟨⟨v, rfl⟩, s1, nd, al⟩
    rw [hn] at hi
    have hz : l[i]? = some l[i] := List.getElem?_eq_getElem hi
    generalize l[i] = z at hz
    have hl1 := hl.mono s1
    rw [Int.zero_add]
    have ix : ∀ {G : V → Hp → Prop} {H'}, Same H H' → G (.int z) H' → rIxL K (.ref a) (.int (i : Int)) H' G := fun {G H'} s g => ⟨a, iv l, _, _, rfl, rfl, SqL.of (hl.mono s), atI_nat (iv_get hz), g⟩
    refine ⟨_, rfl, _, rfl, ix s1 ⟨_, rfl, z, b, xs, rfl, s1 _ _ hb, _, rfl, ite2 (fun c => ?_) (fun c => ?_)⟩⟩
    · refine iteT ?_
      have e : isIndex z xs.length = false := by simpa using c
      refine bl_eq (Eq.symm ?_) (q _ s1)
      rw [Bool.and_eq_false_iff]
      refine .inr ?_
      rw [List.all_eq_false]
      exact ⟨z, List.mem_of_getElem? hz, by rw [e]; exact Bool.false_ne_true⟩
    · have e : isIndex z xs.length = true := by simpa using c
      refine ⟨_, rfl, _, rfl, ix s1 ⟨_, rfl, _, rfl, _, rfl, a, iv l, rfl, SqL.of hl1, fun p hp => ?_⟩⟩
      have s2 : Same H (upd H1 p (.lst (cutV (iv l) none (some (i : Int))))) := s1.trans (same_new hp)
      refine ⟨p, _, rfl, .inl (SqL.of upd_same), rfl, ?_, _, rfl, ?_⟩
      · rw [cut_to, iv_take]
        exact flat_ints _
      · rw [if_neg Bool.false_ne_true, cut_to, iv_take, inV_ints]
        refine ite2 (fun c => ?_) (fun c => ?_)
        · rw [cut_to, iv_take] at s2
          refine bl_eq (Eq.symm ?_) (q _ s2)
          rw [Bool.and_eq_false_iff]
          refine .inl (decide_eq_false fun nd2 => ?_)
          have hm := of_decide_eq_true c
          have e2 := take_more hz
          have nd3 : (l.take (i + 1)).Nodup := nd2.sublist (List.take_sublist _ _)
          rw [e2, List.nodup_append] at nd3
          exact nd3.2.2 z hm z (List.mem_singleton.mpr rfl) rfl
        · rw [cut_to, iv_take] at s2
          have hm : z ∉ l.take i := fun h => c (decide_eq_true h)
          refine ⟨⟨_, rfl⟩, s2, ?_, ?_⟩
          · rw [take_more hz, List.nodup_append]
            refine ⟨nd, by simp, fun x hx y hy => ?_⟩
            rw [List.mem_singleton] at hy
            rintro rfl
            exact hm (by rw [← hy]; exact hx)
          · rw [take_more hz]
            intro j hj
            rw [List.mem_append, List.mem_singleton] at hj
            rcases hj with hj | rfl
            · exact al j hj
            · exact e
  · rintro σ H1 ⟨⟨v, rfl⟩, s1, nd, al⟩
    rw [hn, List.take_length] at nd al
    refine bl_eq ?_ (q _ s1)
    rw [decide_eq_true nd, Bool.true_and]
    exact (List.all_eq_true.mpr al).symm
theorem pure_without : Pure (t_without K) sp_without N_without := by
  intro vs H Q E h
  obtain ⟨a, xs, i, rfl, ha, few, q⟩ := h
  refine ⟨_, rfl, _, rfl, _, rfl, a, xs, rfl, SqL.of ha, fun p hp => ?_⟩
  rw [cut_to]
  have s1 : Same H (upd H p (.lst (xs.take i))) := same_new hp
  refine ⟨_, rfl, _, rfl, _, _, rfl, rfl, _, rfl, a, xs, rfl, SqL.of (s1 _ _ ha), fun p2 hp2 => ?_⟩
  have e : (i : Int) + 1 = ((i + 1 : Nat) : Int) := by omega
  rw [e, cut_from]
  have s2 : Same H (upd (upd H p (.lst (xs.take i))) p2 (.lst (xs.drop (i + 1)))) := s1.trans (same_new hp2)
  refine ⟨p, p2, xs.take i, xs.drop (i + 1), rfl, rfl, (same_new hp2) _ _ upd_same, upd_same, ?_, fun p3 hp3 => ?_⟩
  · rw [List.length_take, List.length_drop]
    have := small1000 few
    omega
  · refine q _ p3 (s2.trans (same_new hp3)) (s2.free hp3) ?_
    rw [upd_same, List.eraseIdx_eq_take_drop_succ]
theorem pure_replaced : Pure (t_replaced K) sp_replaced N_replaced := by
  intro vs H Q E h
  obtain ⟨a, xs, i, y, rfl, ha, few, hi, q⟩ := h
  refine ⟨_, rfl, _, rfl, _, rfl, a, xs, rfl, SqL.of ha, fun p hp => ?_⟩
  rw [cut_to]
  have s1 : Same H (upd H p (.lst (xs.take i))) := same_new hp
  refine ⟨_, rfl, (by show 1 ≤ sizeLine; decide), fun p1 hp1 => ?_⟩
  have s2 := s1.trans (same_new (o := .lst [y]) hp1)
  refine ⟨p, p1, xs.take i, [y], rfl, rfl, (same_new hp1) _ _ upd_same, upd_same, ?_, fun p2 hp2 => ?_⟩
  · rw [List.length_take, List.length_singleton]
    have := small1000 few
    omega
  have s3 := s2.trans (same_new (o := .lst (xs.take i ++ [y])) hp2)
  refine ⟨_, rfl, _, rfl, _, _, rfl, rfl, _, rfl, a, xs, rfl, SqL.of (s3 _ _ ha), fun p3 hp3 => ?_⟩
  have e : (i : Int) + 1 = ((i + 1 : Nat) : Int) := by omega
  rw [e, cut_from]
  have s4 := s3.trans (same_new (o := .lst (xs.drop (i + 1))) hp3)
  refine ⟨p2, p3, xs.take i ++ [y], xs.drop (i + 1), rfl, rfl, (same_new hp3) _ _ upd_same, upd_same, ?_, fun p4 hp4 => ?_⟩
  · rw [List.length_append, List.length_take, List.length_drop, List.length_singleton]
    have := small1000 few
    omega
  · refine q _ p4 (s4.trans (same_new hp4)) (s4.free hp4) ?_
    rw [upd_same, List.set_eq_take_append_cons_drop, if_pos hi, List.append_assoc]
    rfl
theorem pure_members : Pure (t_members K) sp_members N_members := by
  intro vs H Q E h
  obtain ⟨m, a, xs, rfl, ha, few, q⟩ := h
  have hb62 := len62 (n := xs.length) (by omega)
  refine ⟨_, rfl, a, xs, rfl, .inl (SqL.of ha), _, rfl, hb62.1, hb62.2, fun D hD => lc_range (lo := 0)
    (fun i H' => Same H H' ∧ H' D = some (.lst (iv (natsToInts (maskMembers i m)))))
    ⟨same_new hD, upd_same⟩ ?_ ?_⟩
  · rintro i H1 hi ⟨s1, hd⟩
    rw [Int.toNat_natCast] at hi
    rw [Int.zero_add]
    refine ⟨rfl, ?_⟩
    refine ⟨_, rfl, _, rfl, _, _, rfl, rfl, by omega, _, _, rfl, rfl, rfl, _, rfl, ?_⟩
    have e : decide (V.int (Builtin.bitAnd ((m : Int) / 2 ^ ((i : Int).toNat)) 1) = V.int 1) = (m / 2 ^ i % 2 == 1) := by
      have e1 : (m : Int) / 2 ^ ((i : Int).toNat) = ((m / 2 ^ i : Nat) : Int) := by
        rw [Int.toNat_natCast]
        norm_cast
      have e2 : Builtin.bitAnd ((m / 2 ^ i : Nat) : Int) 1 = ((m / 2 ^ i % 2 : Nat) : Int) := by
        have := Bits.bitAnd_mask (x := ((m / 2 ^ i : Nat) : Int)) 1 (Int.natCast_nonneg _)
        rw [show ((2 : Int) ^ 1 - 1) = 1 from rfl] at this
        rw [this]
        norm_cast
      rw [e1, e2, dec_int]
      generalize m / 2 ^ i % 2 = k
      rw [Bool.eq_iff_iff, beq_iff_eq, beq_iff_eq]
      omega
    rw [e]
    have e3 : maskMembers (i + 1) m = maskMembers i m ++ (if (m / 2 ^ i % 2 == 1) = true then [i] else []) := by
      unfold maskMembers
      rw [List.range_succ, List.filter_append, List.filter_cons, List.filter_nil]
    refine ite2 (fun c => ?_) (fun c => ?_)
    · refine ⟨_, rfl, _, hd, ?_, same_at s1 hD, ?_⟩
      · rw [iv_len, nats_len]
        have : (maskMembers i m).length ≤ i := by
          unfold maskMembers
          exact Nat.le_trans (List.length_filter_le _ _) (by rw [List.length_range]; exact Nat.le_refl _)
        have := small1000 (n := i) (by omega)
        omega
      · rw [upd_same, e3, if_pos c, nats_append, iv_append]
        rfl
    · refine ⟨s1, ?_⟩
      rw [hd, e3, if_neg c, List.append_nil]
  · rintro H1 ⟨s1, hd⟩
    rw [Int.toNat_natCast] at hd
    exact q _ D s1 hD hd
end Bs

/-! ## BsP2 -/
set_option Elab.async false
set_option linter.all false
set_option maxRecDepth 100000
set_option maxHeartbeats 4000000
namespace Bs
open PySem PySem.Spec PyProof.Rows L2
open Sr100 (Street Shop State shopAt arrivalTimesFrom finishTime isOnTime totalLoaves sortByDistance leftShops rightShops sweepingRoutes bestRoute bestShops)
open SrCommon (natsToInts maskMembers inRange isIndex)
variable {K : PySem.W.Frag}
theorem small5000 {n : Nat} (h : n ≤ 5000) : n < sizeLine := Nat.lt_of_le_of_lt h (by decide)
/-- a field of a shop, read by two subscripts -/
theorem pos_at {σ : L2.St} {H : Hp} {a : Addr} {s : Street} {i j k : Nat} {Q : VK} (hs : Shops H a s.shops) (hi : i < s.shops.length) (e0 : σ[j]? = some (some (.ref a))) (e1 : σ[k]? = some (some (.int (i : Int)))) (q : Q (.int (shopAt s i).position) H) :
    tOp (rIxL K) (tOp (rIxL K) (tVar j) (tVar k)) (tC (.int 0)) σ H Q := by
  obtain ⟨as, b, h1, h2, h3⟩ := hs.row hi
  exact ⟨_, e0, _, e1, a, rv as, _, _, rfl, rfl, SqL.of h1, atI_nat h2, b, _, _, _, rfl, rfl, SqL.of h3, atI0 (enc_pos _), q⟩
theorem dl_at {σ : L2.St} {H : Hp} {a : Addr} {s : Street} {i j k : Nat} {Q : VK} (hs : Shops H a s.shops) (hi : i < s.shops.length) (e0 : σ[j]? = some (some (.ref a))) (e1 : σ[k]? = some (some (.int (i : Int)))) (q : Q (.int ((shopAt s i).deadline : Int)) H) :
    tOp (rIxL K) (tOp (rIxL K) (tVar j) (tVar k)) (tC (.int 1)) σ H Q := by
  obtain ⟨as, b, h1, h2, h3⟩ := hs.row hi
  exact ⟨_, e0, _, e1, a, rv as, _, _, rfl, rfl, SqL.of h1, atI_nat h2, b, _, _, _, rfl, rfl, SqL.of h3, atI1 (enc_dl _), q⟩
theorem lo_at {σ : L2.St} {H : Hp} {a : Addr} {s : Street} {i j k : Nat} {Q : VK} (hs : Shops H a s.shops) (hi : i < s.shops.length) (e0 : σ[j]? = some (some (.ref a))) (e1 : σ[k]? = some (some (.int (i : Int)))) (q : Q (.int ((shopAt s i).loaves : Int)) H) :
    tOp (rIxL K) (tOp (rIxL K) (tVar j) (tVar k)) (tC (.int 2)) σ H Q := by
  obtain ⟨as, b, h1, h2, h3⟩ := hs.row hi
  exact ⟨_, e0, _, e1, a, rv as, _, _, rfl, rfl, SqL.of h1, atI_nat h2, b, _, _, _, rfl, rfl, SqL.of h3, atI2 (enc_lo _), q⟩
theorem abs_dist (a b : Int) : (if b - a < 0 then -(b - a) else b - a) = ((Sr100.distance a b : Nat) : Int) := by
  show _ = (((a - b).natAbs : Nat) : Int)
  split <;> omega
theorem abs_nat (a : Int) : (if a < 0 then -a else a) = ((a.natAbs : Nat) : Int) := by
  split <;> omega
/-- a list grows by an item -/
theorem nv_snoc (l : List Nat) (n : Nat) : iv (natsToInts l) ++ [V.int (n : Int)] = iv (natsToInts (l ++ [n])) := by
  rw [nats_append, iv_append]
  rfl
theorem nv_len (l : List Nat) : (iv (natsToInts l)).length = l.length := by rw [iv_len, nats_len]
theorem mem_at {α : Type} {l : List α} {i : Nat} {x : α} (h : l[i]? = some x) : x ∈ l := List.mem_of_getElem? h
theorem lt_at {α : Type} {l : List α} {i : Nat} {x : α} (h : l[i]? = some x) : i < l.length := (List.getElem?_eq_some_iff.mp h).1

/-- no test in a comprehension -/
theorem yes_ {σ : L2.St} {H : Hp} {A B : Hp → Prop} (h : A H) : tYes σ H (fun b H3 => if b = true then A H3 else B H3) := by
  show (if true = true then A H else B H)
  rw [if_pos rfl]
  exact h
theorem pure_arrivals : Pure (t_arrivals K) sp_arrivals N_arrivals := by
  intro vs H Q E h
  obtain ⟨a, r, d, s, route, rfl, R, q⟩ := h
  refine ⟨Nat.zero_le _, fun p hp => ⟨_, rfl, _, _, _, rfl, ?_⟩⟩
  have s0 : Same H (upd H p (.lst [])) := same_new hp
  refine ⟨_, rfl, r, rfl, ⟨_, SqL.of (R.rt.mono s0)⟩, for_list (K := K) (a := r) (xs := iv (natsToInts route))
    (fun i σ H' => ∃ v6, σ = [some (.ref a), some (.int (d : Int)), some (.ref r), some (.ref p), some (.int (endAt s (route.take i) (0, d)).1), some (.int ((endAt s (route.take i) (0, d)).2 : Int)), v6] ∧
      Same H H' ∧ NL H' p (arrivalTimesFrom s (route.take i) 0 d))
    ⟨none, rfl, s0, upd_same⟩ (fun i σ H' _ ⟨_, _, s1, _⟩ => SqL.of (R.rt.mono s1)) ?_ ?_⟩
  · rintro i x σ H1 hi ⟨v6, rfl, s1, hp1⟩
    obtain ⟨n, hn, rfl⟩ := nv_at hi
    have hs := R.sh.mono s1
    have hlt := R.lt n (mem_at hn)
    refine ⟨_, rfl, ?_⟩
    refine pos_at hs hlt rfl rfl ⟨_, rfl, _, _, rfl, rfl, _, rfl, _, _, rfl, rfl, ?_⟩
    refine pos_at hs hlt rfl rfl ?_
    refine ⟨_, rfl, .inl ⟨rfl, _, SqL.of hp1⟩, _, rfl, p, _, _, rfl, rfl, hp1, ?_, ?_⟩
    · rw [nv_len, arr_len]
      have := List.length_take_le i route
      exact small5000 (Nat.le_trans (List.length_take_le' _ _) R.few)
    · have e1 : endAt s (route.take (i + 1)) (0, d) = stepAt s (endAt s (route.take i) (0, d)) n := by rw [take_more hn, end_more]
      have e2 : ((endAt s (route.take i) (0, d)).2 : Int) + (if (shopAt s n).position - (endAt s (route.take i) (0, d)).1 < 0 then -((shopAt s n).position - (endAt s (route.take i) (0, d)).1) else (shopAt s n).position - (endAt s (route.take i) (0, d)).1) = ((endAt s (route.take (i + 1)) (0, d)).2 : Int) := by
        rw [abs_dist, e1]
        rfl
      dsimp only
      rw [e2]
      refine ⟨some (.int (n : Int)), ?_, same_at s1 hp, ?_⟩
      · rw [e1]
        rfl
      · show upd H1 p _ p = _
        rw [upd_same, nv_snoc, take_more hn, arr_more, ← take_more hn]
  · rintro σ H1 ⟨v6, rfl, s1, hp1⟩
    rw [nv_len, List.take_length] at hp1
    exact ⟨_, rfl, q _ p s1 hp hp1⟩
theorem last_at (d : Nat) (arr : List Nat) : atI ([V.int (d : Int)] ++ iv (natsToInts arr)) (-1) = some (V.int ((arr.getLastD d : Nat) : Int)) := by
  rcases List.eq_nil_or_concat arr with e | ⟨l, x, e⟩
  · subst e
    exact atI_last [] _
  · subst e
    rw [List.concat_eq_append, ← nv_snoc, ← List.append_assoc, List.getLastD_concat]
    exact atI_last _ _
theorem pure_finish_of : Pure (t_finish_of K) sp_finish_of N_finish_of := by
  intro vs H Q E h
  obtain ⟨a, r, s, route, rfl, R, q⟩ := h
  refine ⟨_, rfl, (by show 1 ≤ sizeLine; decide), fun p hp => ?_⟩
  have s0 : Same H (upd H p (.lst [V.int (s.departure : Int)])) := same_new hp
  refine ⟨_, rfl, _, rfl, _, rfl, a, r, s.departure, s, route, rfl, R.mono s0, fun H1 p1 s1 n1 h1 => ?_⟩
  refine ⟨p, p1, _, _, rfl, rfl, s1 _ _ upd_same, h1, ?_, fun p2 hp2 => ?_⟩
  · rw [nv_len, arr_len]
    have := small5000 (n := route.length + 1) 
    have h5 := R.few
    have : (5001 : Nat) ≤ sizeLine := by decide
    show 1 + route.length ≤ sizeLine
    omega
  · refine ⟨_, rfl, p2, _, _, _, rfl, rfl, SqL.of upd_same, last_at _ _, ?_⟩
    exact q _ ((s0.trans s1).trans (same_new hp2))
theorem pure_is_on_time : Pure (t_is_on_time K) sp_is_on_time N_is_on_time := by
  intro vs H Q E h
  obtain ⟨a, r, s, route, rfl, R, q⟩ := h
  refine ⟨_, rfl, _, rfl, _, rfl, a, r, s.departure, s, route, rfl, R, fun H1 p1 s1 n1 h1 => ?_⟩
  have R1 := R.mono s1
  refine ⟨_, rfl, _, rfl, r, p1, _, _, rfl, SqL.of R1.rt, SqL.of h1, fun D hD => lc_it (walk_zip (n := route.length) (by rw [nv_len, nv_len, arr_len, Nat.min_self]))
    (fun i H' => Same H1 H' ∧ ∃ acc : List V, H' D = some (.lst acc) ∧ acc.length = (((route.zip (arrivalTimesFrom s route 0 s.departure)).take i).filter fun y => !decide (y.2 ≤ (shopAt s y.1).deadline)).length)
    ⟨same_new hD, [], upd_same, by simp⟩ (fun i H' _ ⟨s2, _⟩ => ⟨SqL.of (R1.rt.mono s2), SqL.of (h1.mono s2)⟩) ?_ ?_⟩
  · rintro i x H2 H3 hi ⟨s2, acc, hacc, hlen⟩ ⟨T, x1, y1, rfl, hT, rfl, hx, hy⟩
    obtain ⟨n, hn, rfl⟩ := nv_at hx
    obtain ⟨t, ht, rfl⟩ := nv_at hy
    have s3 := s2.trans (same_new (o := .tup [.int (n : Int), .int (t : Int)]) hT)
    have hz : (route.zip (arrivalTimesFrom s route 0 s.departure))[i]? = some (n, t) := List.getElem?_zip_eq_some.mpr ⟨hn, ht⟩
    refine ⟨T, _, rfl, SqT.of upd_same, rfl, _, _, rfl, _, _, rfl, rfl, rfl, ?_⟩
    refine ⟨_, rfl, ?_⟩
    refine dl_at (R1.sh.mono s3) (R.lt n (mem_at hn)) rfl rfl ⟨_, _, rfl, rfl, _, rfl, ?_⟩
    have hacc3 : upd H2 T (.tup [.int (n : Int), .int (t : Int)]) D = some (.lst acc) := (same_new hT) _ _ hacc
    have hb : acc.length ≤ i := by
      rw [hlen]
      exact Nat.le_trans (List.length_filter_le _ _) (List.length_take_le _ _)
    refine ite2 (fun c => ?_) (fun c => ?_)
    · refine ⟨acc, hacc3, small5000 (by have := R.few; omega), same_at s3 hD, _, upd_same, ?_⟩
      have c := of_decide_eq_true c
      rw [take_more hz, List.filter_append, List.length_append, List.length_append, hlen, List.filter_cons, if_pos (by simp; omega)]
      rfl
    · refine ⟨s3, acc, hacc3, ?_⟩
      have c : ¬ ((shopAt s n).deadline : Int) < (t : Int) := fun h => c (decide_eq_true h)
      rw [take_more hz, List.filter_append, List.length_append, hlen, List.filter_cons, if_neg (by simp; omega)]
      rfl
  · rintro H2 ⟨s2, acc, hacc, hlen⟩
    refine ⟨D, acc, rfl, .inl (SqL.of hacc), rfl, ?_⟩
    have hzl : (route.zip (arrivalTimesFrom s route 0 s.departure)).length = route.length := by rw [List.length_zip, arr_len, Nat.min_self]
    rw [← hzl, List.take_length] at hlen
    refine bl_eq ?_ (q _ (s1.trans s2))
    unfold isOnTime Sr100.arrivalTimes
    rw [dec_int, hlen, Bool.eq_iff_iff, beq_iff_eq, List.all_eq_true]
    constructor
    · intro h0 y hy
      have h0 : ((route.zip (arrivalTimesFrom s route 0 s.departure)).filter fun y => !decide (y.2 ≤ (shopAt s y.1).deadline)) = [] := List.eq_nil_of_length_eq_zero (by omega)
      rw [List.filter_eq_nil_iff] at h0
      have := h0 y hy
      simpa using this
    · intro h0
      have : ((route.zip (arrivalTimesFrom s route 0 s.departure)).filter fun y => !decide (y.2 ≤ (shopAt s y.1).deadline)) = [] := by
        rw [List.filter_eq_nil_iff]
        intro y hy
        rw [h0 y hy]
        exact Bool.false_ne_true
      rw [this]
      rfl
theorem pure_loaves_of : Pure (t_loaves_of K) sp_loaves_of N_loaves_of := by
  intro vs H Q E h
  obtain ⟨a, r, s, route, rfl, R, q⟩ := h
  refine ⟨_, rfl, r, rfl, ⟨_, SqL.of R.rt⟩, fun D hD => lc_list (K := K) (a := r) (xs := iv (natsToInts route))
    (fun i H' => Same H H' ∧ NL H' D ((route.take i).map fun i => (shopAt s i).loaves))
    ⟨same_new hD, upd_same⟩ (fun i H' _ ⟨s1, _⟩ => SqL.of (R.rt.mono s1)) ?_ ?_⟩
  · rintro i x H1 hi ⟨s1, h1⟩
    obtain ⟨n, hn, rfl⟩ := nv_at hi
    refine ⟨rfl, ?_⟩
    refine yes_ ?_
    refine lo_at (R.sh.mono s1) (R.lt n (mem_at hn)) rfl rfl ⟨_, h1, ?_, same_at s1 hD, ?_⟩
    · rw [nv_len, List.length_map]
      exact small5000 (Nat.le_trans (List.length_take_le' _ _) R.few)
    · show upd H1 D _ D = _
      rw [upd_same, nv_snoc, take_more hn, List.map_append]
      rfl
  · rintro H1 ⟨s1, h1⟩
    rw [nv_len, List.take_length] at h1
    refine ⟨D, _, rfl, SqL.of h1, ?_⟩
    rw [sum_ints]
    exact q _ s1
/-- a comprehension that keeps the items that pass a test -/
theorem lc_filter {σ : L2.St} {H : Hp} {Q : VK} {j k : Nat} {a : Addr} {sm : List Nat} {p : Nat → Bool} {T : TT} (ej : σ[j]? = some (some (.ref a))) (ha : NL H a sm) (few : sm.length ≤ 5000) (hk : k < σ.length)
    (hT : ∀ (n : Nat) (H' : Hp) (R : Bool → Hp → Prop), Same H H' → n ∈ sm → R (p n) H' → T ((σ.set k none).set k (some (.int (n : Int)))) H' R) (q : newIL H Q (natsToInts (sm.filter p))) :
    tLc (iList K (tVar j)) (gName k) T (tVar k) [k] σ H Q := by
  refine ⟨_, ej, a, rfl, ⟨_, SqL.of ha⟩, fun D hD => lc_list (K := K) (a := a) (xs := iv (natsToInts sm))
    (fun i H' => Same H H' ∧ NL H' D ((sm.take i).filter p))
    ⟨same_new hD, upd_same⟩ (fun i H' _ ⟨s1, _⟩ => SqL.of (ha.mono s1)) ?_ ?_⟩
  · rintro i x H1 hi ⟨s1, h1⟩
    obtain ⟨n, hn, rfl⟩ := nv_at hi
    refine ⟨?_, hT n H1 _ s1 (mem_at hn) ?_⟩
    · show (((σ.set k none).set k _).set k none) = σ.set k none
      rw [List.set_set, List.set_set]
    · refine ite2 (fun c => ?_) (fun c => ?_)
      · refine ⟨.int (n : Int), ?_, _, h1, ?_, same_at s1 hD, ?_⟩
        · rw [List.getElem?_set_self (by rw [wipe_length]; exact hk)]
        · rw [nv_len]
          exact small5000 (Nat.le_trans (List.length_filter_le _ _) (Nat.le_trans (List.length_take_le' _ _) few))
        · show upd H1 D _ D = _
          rw [upd_same, nv_snoc, take_more hn, List.filter_append, List.filter_cons, if_pos c]
          rfl
      · refine ⟨s1, ?_⟩
        rw [take_more hn, List.filter_append, List.filter_cons, if_neg c, List.filter_nil, List.append_nil]
        exact h1
  · rintro H1 ⟨s1, h1⟩
    rw [nv_len, List.take_length] at h1
    exact q _ D s1 hD h1
theorem pure_taken_from : Pure (t_taken_from K) sp_taken_from N_taken_from := by
  intro vs H Q E h
  obtain ⟨a, b, sm, begun, rfl, ha, hb, few, q⟩ := h
  show tLc (iList K (tVar 0)) (gName 2) (tTest (tOp (rIn K false) (tVar 2) (tVar 1))) (tVar 2) [2] (L2.start N_taken_from [.ref a, .ref b]) H (fun x H1 => rLen K [x] H1 Q)
  refine lc_filter (sm := sm) (p := fun i => decide (i ∈ begun)) rfl ha (by omega) (by show 2 < 3; decide) (fun n H1 R s1 hn r => ?_) (fun H1 p s1 n1 h1 => ?_)
  · refine ⟨_, rfl, _, rfl, b, _, rfl, .inl (SqL.of (hb.mono s1)), rfl, flat_ints _, _, rfl, ?_⟩
    rw [if_neg Bool.false_ne_true, inV_ints]
    have e : decide ((n : Int) ∈ natsToInts begun) = decide (n ∈ begun) := by
      refine decide_eq_decide.mpr ?_
      show (n : Int) ∈ begun.map (fun (x : Nat) => (x : Int)) ↔ _
      rw [List.mem_map]
      constructor
      · rintro ⟨m, hm, e⟩
        have : m = n := by omega
        rw [← this]
        exact hm
      · exact fun hm => ⟨n, hm, rfl⟩
    rw [e]
    exact r
  · refine ⟨p, _, rfl, .inl (SqL.of h1), ?_⟩
    rw [nv_len]
    exact q _ s1
theorem St_.filter {s : Street} {H : Hp} {a r : Addr} {sm : List Nat} (S : St_ s H a r sm) {H' : Hp} {r' : Addr} {p : Nat → Bool} (e : Same H H') (h : NL H' r' (sm.filter p)) : St_ s H' a r' (sm.filter p) :=
  ⟨⟨S.sh.mono e, h, fun i hi => S.lt i (List.mem_filter.mp hi).1, Nat.le_trans (List.length_filter_le _ _) S.few⟩, S.asc.sublist List.filter_sublist, Nat.le_trans (List.length_filter_le _ _) S.seven⟩
theorem pure_left_ones : Pure (t_left_ones K) sp_left_ones N_left_ones := by
  intro vs H Q E h
  obtain ⟨a, r, s, sm, rfl, S, q⟩ := h
  refine ⟨_, rfl, ?_⟩
  refine lc_filter (sm := sm) (p := fun i => decide ((shopAt s i).position < 0)) rfl S.rt S.few (by show 2 < 3; decide) (fun n H1 R s1 hn r => ?_) (fun H1 p s1 n1 h1 => ?_)
  · exact pos_at (S.sh.mono s1) (S.lt n hn) rfl rfl ⟨_, _, rfl, rfl, _, rfl, r⟩
  · exact ⟨a, p, s, _, rfl, S.filter s1 h1, q.mono s1⟩
theorem pure_right_ones : Pure (t_right_ones K) sp_right_ones N_right_ones := by
  intro vs H Q E h
  obtain ⟨a, r, s, sm, rfl, S, q⟩ := h
  refine ⟨_, rfl, ?_⟩
  refine lc_filter (sm := sm) (p := fun i => decide (0 ≤ (shopAt s i).position)) rfl S.rt S.few (by show 2 < 3; decide) (fun n H1 R s1 hn r => ?_) (fun H1 p s1 n1 h1 => ?_)
  · exact pos_at (S.sh.mono s1) (S.lt n hn) rfl rfl ⟨_, _, rfl, rfl, _, rfl, r⟩
  · exact ⟨a, p, s, _, rfl, S.filter s1 h1, q.mono s1⟩
end Bs

/-! ## BsP3 -/
set_option Elab.async false
set_option linter.all false
set_option maxRecDepth 100000
set_option maxHeartbeats 4000000
namespace Bs
open PySem PySem.Spec PyProof.Rows L2
open Sr100 (Street Shop State shopAt arrivalTimesFrom finishTime isOnTime totalLoaves sortByDistance leftShops rightShops sweepingRoutes bestRoute bestShops)
open SrCommon (natsToInts maskMembers inRange isIndex)
variable {K : PySem.W.Frag}
/-- the pair of ints that lies at a reference -/
def pairAt (H : Hp) : V → Int × Int
  | .ref t => (match H t with
    | some (.tup [.int a, .int b]) => (a, b)
    | _ => (0, 0))
  | _ => (0, 0)
theorem pairAt_of {H : Hp} {t : Addr} {a b : Int} (h : H t = some (.tup [.int a, .int b])) : pairAt H (.ref t) = (a, b) := by
  show (match H t with | some (.tup [.int a, .int b]) => (a, b) | _ => (0, 0)) = (a, b)
  rw [h]
theorem lexB_le {x y : Int × Int} (h : SrtO.lexB y x = false) : lexLe x y := by
  unfold SrtO.lexB at h
  by_cases e : y.1 = x.1
  · rw [if_pos e, decide_eq_false_iff_not] at h
    exact .inr ⟨e.symm, by omega⟩
  · rw [if_neg e, decide_eq_false_iff_not] at h
    exact .inl (by omega)
theorem pure_by_distance : Pure (t_by_distance K) sp_by_distance N_by_distance := by
  intro vs H Q E h
  obtain ⟨a, r, s, sm, rfl, S, q⟩ := h
  refine ⟨_, rfl, r, rfl, ⟨_, SqL.of S.rt⟩, fun D hD => lc_list (K := K) (a := r) (xs := iv (natsToInts sm))
    (fun i H' => Same H H' ∧ ∃ ts : List Addr, H' D = some (.lst (rv ts)) ∧ ts.length = i ∧ ∀ (j : Nat) (t : Addr) (n : Nat), ts[j]? = some t → sm[j]? = some n → H' t = some (.tup [.int (dI s n).1, .int (dI s n).2]))
    ⟨same_new hD, [], upd_same, rfl, fun j t n e => by simp at e⟩ (fun i H' _ ⟨s1, _⟩ => SqL.of (S.rt.mono s1)) ?_ ?_⟩
  · rintro i x H1 hi ⟨s1, ts, hts, hl, hj⟩
    obtain ⟨n, hn, rfl⟩ := nv_at hi
    refine ⟨rfl, yes_ ?_⟩
    refine pos_at (S.sh.mono s1) (S.lt n (mem_at hn)) rfl rfl ⟨_, rfl, _, rfl, ?_⟩
    refine ⟨(by show 2 ≤ sizeLine; decide), fun p hp => ?_⟩
    have hDp : D ≠ p := ne_of_none hts hp
    have s2 := same_new (o := .tup [.int (if (shopAt s n).position < 0 then -(shopAt s n).position else (shopAt s n).position), .int (n : Int)]) hp
    refine ⟨rv ts, s2 _ _ hts, ?_, same_at (s1.trans s2) hD, ts ++ [p], ?_, ?_, ?_⟩
    · rw [List.length_map, hl]
      exact small5000 (by have := lt_at hn; have := S.few; omega)
    · rw [upd_same]
      show some (HO.lst (rv ts ++ [V.ref p])) = some (.lst (rv (ts ++ [p])))
      unfold rv
      rw [List.map_append]
      rfl
    · rw [List.length_append, hl]
      rfl
    · intro j t m e1 e2
      have ht : t ≠ D ∧ upd H1 p (.tup [.int (if (shopAt s n).position < 0 then -(shopAt s n).position else (shopAt s n).position), .int (n : Int)]) t = some (.tup [.int (dI s m).1, .int (dI s m).2]) := by
        by_cases hjl : j < ts.length
        · rw [List.getElem?_append_left hjl] at e1
          have := hj j t m e1 e2
          exact ⟨ne_of this hts (by intro z; cases z), s2 _ _ this⟩
        · rw [List.getElem?_append_right (by omega)] at e1
          have hj0 : j - ts.length = 0 := by
            cases e : j - ts.length with
            | zero => rfl
            | succ k => rw [e] at e1; simp at e1
          rw [hj0] at e1
          have e1 : p = t := Option.some.inj e1
          have hji : j = i := by omega
          subst hji
          subst e1
          rw [hn] at e2
          have e2 : n = m := Option.some.inj e2
          subst e2
          refine ⟨hDp.symm, ?_⟩
          rw [upd_same, abs_nat]
          rfl
      rw [upd_ne ht.1]
      exact ht.2
  · rintro H1 ⟨s1, ts, hts, hl, hj⟩
    rw [nv_len] at hl
    have hk : ∀ (j : Nat) (t : Addr) (n : Nat), ts[j]? = some t → sm[j]? = some n → pairAt H1 (.ref t) = dI s n := fun j t n e1 e2 => pairAt_of (hj j t n e1 e2)
    have hmap : (rv ts).map (pairAt H1) = sm.map (dI s) := by
      apply List.ext_getElem?
      intro j
      rw [List.getElem?_map, List.getElem?_map, List.getElem?_map]
      cases e1 : ts[j]? with
      | none =>
        have : ts.length ≤ j := List.getElem?_eq_none_iff.mp e1
        rw [List.getElem?_eq_none_iff.mpr (by omega : sm.length ≤ j)]
        rfl
      | some t =>
        have := lt_at e1
        have e2 : sm[j]? = some sm[j] := List.getElem?_eq_getElem (by omega)
        rw [e2]
        show some (pairAt H1 (.ref t)) = some (dI s sm[j])
        rw [hk j t _ e1 e2]
    have hall : ∀ x ∈ rv ts, ∃ t, x = V.ref t ∧ H1 t = some (.tup [.int (pairAt H1 x).1, .int (pairAt H1 x).2]) := by
      intro x hx
      obtain ⟨t, ht, rfl⟩ := List.mem_map.mp hx
      obtain ⟨j, hjl, e1⟩ := List.mem_iff_getElem.mp ht
      have e1 : ts[j]? = some t := by rw [List.getElem?_eq_getElem hjl, e1]
      have e2 : sm[j]? = some sm[j] := List.getElem?_eq_getElem (by omega)
      refine ⟨t, rfl, ?_⟩
      rw [hk j t _ e1 e2]
      exact hj j t _ e1 e2
    refine ⟨D, rv ts, pairAt H1, rfl, SqL.of hts, hall, fun ys p hsr hst hp => ?_⟩
    have s2 : Same H1 (upd H1 p (.lst ys)) := same_new hp
    have hys : ys.map (pairAt H1) = (sortByDistance s sm).map (dI s) := by
      refine sortD_uniq s S.asc ?_ ?_
      · rw [← hmap]
        exact hst.perm.map _
      · rw [List.pairwise_map]
        exact hsr.imp fun h => lexB_le h
    have hyl : ys.length = (sortByDistance s sm).length := by
      have := congrArg List.length hys
      rwa [List.length_map, List.length_map] at this
    have hsl : (sortByDistance s sm).length = sm.length := (sortD_perm s S.asc).length_eq
    refine ⟨p, rfl, ⟨_, SqL.of upd_same⟩, fun D2 hD2 => lc_list (K := K) (a := p) (xs := ys)
      (fun i H' => Same (upd H1 p (.lst ys)) H' ∧ NL H' D2 ((sortByDistance s sm).take i))
      ⟨same_new hD2, upd_same⟩ (fun i H' _ ⟨s3, _⟩ => SqL.of (s3 _ _ upd_same)) ?_ ?_⟩
    · rintro i y H3 hi ⟨s3, h3⟩
      have hy : y ∈ rv ts := hst.perm.mem_iff.mp (mem_at hi)
      obtain ⟨t, rfl, ht⟩ := hall y hy
      have ht3 := s3 _ _ (s2 _ _ ht)
      have hi2 : i < (sortByDistance s sm).length := by rw [← hyl]; exact lt_at hi
      obtain ⟨n, hn⟩ : ∃ n, (sortByDistance s sm)[i]? = some n := ⟨_, List.getElem?_eq_getElem hi2⟩
      have ek : pairAt H1 (.ref t) = dI s n := by
        have e1 : (ys.map (pairAt H1))[i]? = some (pairAt H1 (.ref t)) := by rw [List.getElem?_map, hi]; rfl
        rw [hys, List.getElem?_map, hn] at e1
        exact (Option.some.inj e1).symm
      rw [ek] at ht3
      refine ⟨t, _, rfl, SqT.of ht3, rfl, _, _, rfl, _, _, rfl, rfl, rfl, ?_⟩
      refine yes_ ⟨_, rfl, _, h3, ?_, same_at s3 hD2, ?_⟩
      · rw [nv_len]
        exact small5000 (Nat.le_trans (List.length_take_le' _ _) (by rw [hsl]; exact S.few))
      · show upd H3 D2 _ D2 = _
        rw [upd_same, take_more hn, ← nv_snoc]
        rfl
    · rintro H3 ⟨s3, h3⟩
      rw [hyl, List.take_length] at h3
      exact q _ D2 ((s1.trans s2).trans s3) ((s1.trans s2).free hD2) h3
/-- a row more -/
theorem Rows.snoc {H : Hp} {as : List Addr} {ls : List (List Int)} {b : Addr} {l : List Int} (h : Rows H as ls) (hb : IL H b l) : Rows H (as ++ [b]) (ls ++ [l]) := by
  refine ⟨by rw [List.length_append, List.length_append, h.len]; rfl, fun i a m e1 e2 => ?_⟩
  by_cases hi : i < as.length
  · rw [List.getElem?_append_left hi] at e1
    rw [List.getElem?_append_left (by rw [← h.len]; exact hi)] at e2
    exact h.at_ i a m e1 e2
  · rw [List.getElem?_append_right (by omega)] at e1
    rw [List.getElem?_append_right (by rw [← h.len]; omega), ← h.len] at e2
    cases e : i - as.length with
    | zero =>
      rw [e] at e1 e2
      have e1 : b = a := Option.some.inj e1
      have e2 : l = m := Option.some.inj e2
      subst e1
      subst e2
      exact hb
    | succ k => rw [e] at e1; simp at e1
theorem Rows.app {H : Hp} {as bs : List Addr} {ls ms : List (List Int)} (h : Rows H as ls) (h2 : Rows H bs ms) : Rows H (as ++ bs) (ls ++ ms) := by
  refine ⟨by rw [List.length_append, List.length_append, h.len, h2.len], fun i a m e1 e2 => ?_⟩
  by_cases hi : i < as.length
  · rw [List.getElem?_append_left hi] at e1
    rw [List.getElem?_append_left (by rw [← h.len]; exact hi)] at e2
    exact h.at_ i a m e1 e2
  · rw [List.getElem?_append_right (by omega)] at e1
    rw [List.getElem?_append_right (by rw [← h.len]; omega), ← h.len] at e2
    exact h2.at_ _ a m e1 e2
/-- rows that stand elsewhere than at x -/
theorem Rows.off {H : Hp} {as : List Addr} {ls : List (List Int)} {x : Addr} {o : HO} (h : Rows H as ls) (hx : ∀ b ∈ as, b ≠ x) : Rows (upd H x o) as ls := by
  refine ⟨h.len, fun i a m e1 e2 => ?_⟩
  show upd H x o a = _
  rw [upd_ne (hx a (mem_at e1))]
  exact h.at_ i a m e1 e2
theorem rv_append (as bs : List Addr) : rv (as ++ bs) = rv as ++ rv bs := List.map_append
theorem longer1_len (sm begun : List Nat) : (longer1 sm begun).length ≤ 1 := by
  unfold longer1
  split <;> simp
theorem longer_len (l r begun : List Nat) : (longer l r begun).length ≤ 2 := by
  unfold longer
  rw [List.length_append]
  have := longer1_len l begun
  have := longer1_len r begun
  omega
theorem pure_longer_routes : Pure (t_longer_routes K) sp_longer_routes N_longer_routes := by
  intro vs H Q E h
  obtain ⟨a, b, c, left, right, begun, rfl, ha, hb, hc, l1, l2, l3, q⟩ := h
  refine ⟨Nat.zero_le _, fun p hp => ?_⟩
  have s0 : Same H (upd H p (.lst [])) := same_new hp
  refine ⟨_, rfl, _, rfl, (by show 2 ≤ sizeLine; decide), fun tp htp => ?_⟩
  have s1 := s0.trans (same_new (o := .tup [.ref a, .ref b]) htp)
  have hpt : p ≠ tp := ne_of_none (upd_same (H := H) (o := .lst [])) htp
  refine ⟨tp, rfl, ⟨_, SqT.of upd_same⟩, for_tup (K := K) (a := tp) (xs := [.ref a, .ref b])
    (fun i σ H' => ∃ v4 v5, σ = [some (.ref a), some (.ref b), some (.ref c), some (.ref p), v4, v5] ∧ Same H H' ∧ H' tp = some (.tup [.ref a, .ref b]) ∧
      ∃ as : List Addr, H' p = some (.lst (rv as)) ∧ (∀ b ∈ as, H b = none ∧ b ≠ p) ∧ Rows H' as ((([left, right].take i).flatMap fun l => longer1 l begun).map natsToInts))
    ⟨none, none, rfl, s1, upd_same, [], ?_, by simp, ⟨rfl, fun i a l e => by simp at e⟩⟩ (fun i σ H' _ ⟨_, _, _, _, h2, _⟩ => SqT.of h2) ?_ ?_⟩
  · rw [upd_ne hpt, upd_same]
    rfl
  · rintro i x σ H1 hi ⟨v4, v5, rfl, s2, h2, as, has, hfr, hR⟩
    obtain ⟨xa, l, rfl, hx, hl, hli⟩ : ∃ (xa : Addr) (l : List Nat), x = .ref xa ∧ NL H xa l ∧ l.length ≤ 7 ∧ ([left, right] : List (List Nat))[i]? = some l := by
      match i, hi with
      | 0, hi => exact ⟨a, left, (Option.some.inj hi).symm, ha, l1, rfl⟩
      | 1, hi => exact ⟨b, right, (Option.some.inj hi).symm, hb, l2, rfl⟩
      | i + 2, hi => simp at hi
    refine ⟨_, rfl, _, rfl, xa, c, l, begun, rfl, hx.mono s2, hc.mono s2, hl, fun H2 s3 => ?_⟩
    have s4 := s2.trans s3
    have hx4 := hx.mono s4
    have hstep : (([left, right].take (i + 1)).flatMap fun l => longer1 l begun) = (([left, right].take i).flatMap fun l => longer1 l begun) ++ longer1 l begun := by
      rw [take_more hli, List.flatMap_append, List.flatMap_cons, List.flatMap_nil, List.append_nil]
    refine ⟨_, rfl, _, rfl, xa, _, rfl, .inl (SqL.of hx4), _, _, rfl, rfl, _, rfl, ite2 (fun cc => ?_) (fun cc => ?_)⟩
    · have cc := of_decide_eq_true cc
      rw [nv_len] at cc
      have hz : l[takenFrom l begun]? = some l[takenFrom l begun] := List.getElem?_eq_getElem (by omega)
      generalize l[takenFrom l begun] = z at hz
      have e1 : longer1 l begun = [begun ++ [z]] := by
        unfold longer1
        rw [hz]
      refine ⟨_, rfl, .inl ⟨rfl, _, SqL.of (s3 _ _ has)⟩, _, rfl, _, rfl, _, rfl, xa, _, _, _, rfl, rfl, SqL.of hx4, atI_nat (iv_get (nats_get hz)), (by show 1 ≤ sizeLine; decide), fun q1 hq1 => ?_⟩
      have s5 := s4.trans (same_new (o := .lst [.int (z : Int)]) hq1)
      refine ⟨c, q1, _, _, rfl, rfl, hc.mono s5, upd_same, ?_, fun q2 hq2 => ?_⟩
      · rw [nv_len]
        have : (8 : Nat) ≤ sizeLine := by decide
        show begun.length + 1 ≤ sizeLine
        omega
      have s6 := s5.trans (same_new (o := .lst (iv (natsToInts begun) ++ [.int (z : Int)])) hq2)
      have has6 : upd (upd H2 q1 (.lst [.int (z : Int)])) q2 (.lst (iv (natsToInts begun) ++ [.int (z : Int)])) p = some (.lst (rv as)) := (same_new hq2) _ _ ((same_new hq1) _ _ (s3 _ _ has))
      have hpq : p ≠ q2 := ne_of_none ((same_new (o := .lst [.int (z : Int)]) hq1) _ _ (s3 _ _ has)) hq2
      have hlen : as.length ≤ 2 := by
        rw [hR.len, List.length_map]
        have : i < 2 := lt_at hi
        match i, this with
        | 0, _ => exact Nat.zero_le _
        | 1, _ =>
          show ((([left] : List (List Nat)).flatMap fun l => longer1 l begun).length) ≤ 2
          rw [List.flatMap_cons, List.flatMap_nil, List.append_nil]
          exact Nat.le_succ_of_le (longer1_len _ _)
      refine ⟨p, _, _, rfl, rfl, has6, ?_, ?_⟩
      · rw [List.length_map]
        exact small1000 (by omega)
      refine ⟨_, _, rfl, same_at s6 hp, ?_, as ++ [q2], ?_, ?_, ?_⟩
      · have htp6 := (same_new (o := .lst (iv (natsToInts begun) ++ [.int (z : Int)])) hq2) _ _ ((same_new (o := .lst [.int (z : Int)]) hq1) _ _ (s3 _ _ h2))
        rw [upd_ne hpt.symm]
        exact htp6
      · rw [upd_same, rv_append]
        rfl
      · intro b hb
        rw [List.mem_append, List.mem_singleton] at hb
        rcases hb with hb | rfl
        · exact hfr b hb
        · exact ⟨s5.free hq2, hpq.symm⟩
      · rw [hstep, e1, List.map_append]
        have hR6 : Rows (upd (upd H2 q1 (.lst [.int (z : Int)])) q2 (.lst (iv (natsToInts begun) ++ [.int (z : Int)]))) as _ := hR.mono ((s3.trans (same_new hq1)).trans (same_new hq2))
        refine (hR6.snoc (b := q2) (l := natsToInts (begun ++ [z])) ?_).off ?_
        · show upd _ q2 _ q2 = _
          rw [upd_same, nv_snoc]
        · intro b hb
          rw [List.mem_append, List.mem_singleton] at hb
          rcases hb with hb | rfl
          · exact (hfr b hb).2
          · exact hpq.symm
    · have cc : ¬ ((takenFrom l begun : Nat) : Int) < ((iv (natsToInts l)).length : Int) := fun h => cc (decide_eq_true h)
      rw [nv_len] at cc
      have hz : l[takenFrom l begun]? = none := List.getElem?_eq_none_iff.mpr (by omega)
      have e1 : longer1 l begun = [] := by
        unfold longer1
        rw [hz]
      refine ⟨_, _, rfl, s4, s3 _ _ h2, as, s3 _ _ has, hfr, ?_⟩
      rw [hstep, e1, List.append_nil]
      exact hR.mono s3
  · rintro σ H1 ⟨v4, v5, rfl, s2, h2, as, has, hfr, hR⟩
    refine ⟨_, rfl, q _ p as s2 hp (fun b hb => (hfr b hb).1) has ?_⟩
    have e : ((([left, right] : List (List Nat)).take ([V.ref a, V.ref b] : List V).length).flatMap fun l => longer1 l begun) = longer left right begun := by
      show longer1 left begun ++ (longer1 right begun ++ []) = _
      rw [List.append_nil]
      rfl
    rw [e] at hR
    exact hR
end Bs

/-! ## BsP4 -/
set_option Elab.async false
set_option linter.all false
set_option maxRecDepth 100000
set_option maxHeartbeats 4000000
namespace Bs
open PySem PySem.Spec PyProof.Rows L2
open Sr100 (Street Shop State shopAt arrivalTimesFrom finishTime isOnTime totalLoaves sortByDistance leftShops rightShops sweepingRoutes bestRoute bestShops)
open SrCommon (natsToInts maskMembers inRange isIndex)
variable {K : PySem.W.Frag}
theorem flat_len (l r : List Nat) : ∀ L : List (List Nat), (L.flatMap (longer l r)).length ≤ 2 * L.length
  | [] => Nat.le_refl _
  | x :: L => by
    have h1 := flat_len l r L
    have h2 := longer_len l r x
    rw [List.flatMap_cons, List.length_append, List.length_cons]
    omega
theorem pow7 {i : Nat} (h : i ≤ 7) : 2 ^ i ≤ 128 := Nat.pow_le_pow_right (by decide) h
theorem pure_sweeping_routes : Pure (t_sweeping_routes K) sp_sweeping_routes N_sweeping_routes := by
  intro vs H Q E h
  obtain ⟨a, r, s, sm, rfl, S, q⟩ := h
  have hsp := (sides_perm s S.asc).length_eq
  rw [List.length_append] at hsp
  have h7 := S.seven
  refine ⟨_, rfl, _, rfl, a, r, s, sm, rfl, S, fun H1 p1 s1 n1 h1 => ?_⟩
  refine ⟨_, rfl, _, rfl, a, r, s, sm, rfl, S.mono s1, fun H2 p2 s2 n2 h2 => ?_⟩
  refine ⟨_, _, rfl, ?_⟩
  have s12 := s1.trans s2
  have hL := h1.mono s2
  -- the list that begins with the empty route
  refine ⟨Nat.zero_le _, fun e he => ⟨(by show 1 ≤ sizeLine; decide), fun f hf => ?_⟩⟩
  have s3 := same_new (o := .lst []) he
  have s4 := s3.trans (same_new (o := .lst [.ref e]) hf)
  have hle : ((iv (natsToInts sm)).length : Int).toNat = sm.length := by rw [Int.toNat_natCast, nv_len]
  have hb62 := len62 (n := (iv (natsToInts sm)).length) (by rw [nv_len]; omega)
  refine ⟨_, rfl, r, _, rfl, .inl (SqL.of ((S.mono s12).mono s4).rt), _, rfl, hb62.1, hb62.2, for_range (lo := 0)
    (fun i σ H' => ∃ f v5 v6 v7, σ = [some (.ref a), some (.ref r), some (.ref p1), some (.ref p2), some (.ref f), v5, v6, v7] ∧ Same H2 H' ∧
      ∃ as : List Addr, H' f = some (.lst (rv as)) ∧ H2 f = none ∧ (∀ b ∈ as, H2 b = none) ∧ Rows H' as ((sweep (leftShops s sm) (rightShops s sm) i).map natsToInts))
    ⟨f, none, none, none, rfl, s4, [e], upd_same, s3.free hf, ?_, ?_⟩ ?_ ?_⟩
  · intro b hb
    rw [List.mem_singleton] at hb
    rw [hb]
    exact he
  · refine ⟨rfl, fun i b l e1 e2 => ?_⟩
    match i, e1, e2 with
    | 0, e1, e2 =>
      have e1 : e = b := Option.some.inj e1
      have e2 : ([] : List Int) = l := Option.some.inj e2
      subst e1
      subst e2
      exact (same_new hf) _ _ upd_same
    | i + 1, e1, e2 => simp at e1
  · rintro i σ H3 hi ⟨f, v5, v6, v7, rfl, s5, as, hf, hfn, hn, hR⟩
    rw [hle] at hi
    -- a turn begins with an empty list
    refine ⟨Nat.zero_le _, fun lo hlo => ?_⟩
    have s6 : Same H3 (upd H3 lo (.lst [])) := same_new hlo
    have hal : as.length ≤ 128 := by
      rw [hR.len, List.length_map]
      exact Nat.le_trans (sweep_len_le i) (pow7 (by omega))
    refine ⟨_, rfl, f, rfl, ⟨_, SqL.of (s6 _ _ hf)⟩, for_list (K := K) (a := f) (xs := rv as)
      (fun j σ H' => ∃ v7, σ = [some (.ref a), some (.ref r), some (.ref p1), some (.ref p2), some (.ref f), some (.int (0 + (i : Int))), some (.ref lo), v7] ∧ Same H3 H' ∧
        ∃ bs : List Addr, H' lo = some (.lst (rv bs)) ∧ (∀ b ∈ bs, H3 b = none ∧ b ≠ lo) ∧ Rows H' bs ((((sweep (leftShops s sm) (rightShops s sm) i).take j).flatMap (longer (leftShops s sm) (rightShops s sm))).map natsToInts))
      ⟨_, rfl, s6, [], upd_same, by simp, ⟨rfl, fun i a l e => by simp at e⟩⟩ (fun j σ H' _ ⟨_, _, s7, _⟩ => SqL.of (s7 _ _ hf)) ?_ ?_⟩
    · rintro j x σ H4 hj ⟨v7, rfl, s7, bs, hbs, hbn, hRb⟩
      obtain ⟨b, hb, rfl⟩ := rv_at hj
      obtain ⟨begun, hbeg⟩ : ∃ g, (sweep (leftShops s sm) (rightShops s sm) i)[j]? = some g := by
        have h1 := hR.len
        rw [List.length_map] at h1
        exact ⟨_, List.getElem?_eq_getElem (by rw [← h1]; exact lt_at hb)⟩
      have hrow : NL H3 b begun := hR.at_ j b _ hb (by rw [List.getElem?_map, hbeg]; rfl)
      have hbl := (sweep_item i begun (mem_at hbeg)).1
      have s27 := s5.trans s7
      refine ⟨_, rfl, .inl ⟨rfl, _, SqL.of hbs⟩, _, rfl, _, rfl, _, rfl, p1, p2, b, leftShops s sm, rightShops s sm, begun, rfl, hL.mono s27, h2.mono s27, hrow.mono s7, by omega, by omega, by omega, fun H5 p as2 s8 hpn hnn hp hR2 => ?_⟩
      have hbl2 : bs.length ≤ 2 * j := by
        rw [hRb.len, List.length_map]
        exact Nat.le_trans (flat_len _ _ _) (Nat.mul_le_mul_left _ (List.length_take_le _ _))
      have hal2 : as2.length ≤ 2 := by
        rw [hR2.len, List.length_map]
        exact longer_len _ _ _
      have hjl := lt_at hb
      refine ⟨lo, p, _, _, rfl, rfl, s8 _ _ hbs, hp, ?_, ?_⟩
      · rw [List.length_map, List.length_map]
        have : (300 : Nat) ≤ sizeLine := by decide
        omega
      · have s9 := s7.trans s8
        refine ⟨_, rfl, same_at s9 hlo, bs ++ as2, ?_, ?_, ?_⟩
        · rw [upd_same, rv_append]
        · intro c hc
          rw [List.mem_append] at hc
          rcases hc with hc | hc
          · exact hbn c hc
          · exact ⟨s7.free (hnn c hc), (ne_of_none hbs (hnn c hc)).symm⟩
        · rw [take_more hbeg, List.flatMap_append, List.map_append, List.flatMap_cons, List.flatMap_nil, List.append_nil]
          refine ((hRb.mono s8).app hR2).off ?_
          intro c hc
          rw [List.mem_append] at hc
          rcases hc with hc | hc
          · exact (hbn c hc).2
          · exact (ne_of_none hbs (hnn c hc)).symm
    · rintro σ H4 ⟨v7, rfl, s7, bs, hbs, hbn, hRb⟩
      refine ⟨_, rfl, ?_⟩
      have e : (sweep (leftShops s sm) (rightShops s sm) i).take (rv as).length = sweep (leftShops s sm) (rightShops s sm) i := by
        have h1 := hR.len
        rw [List.length_map] at h1
        rw [List.length_map, h1, List.take_length]
      rw [e] at hRb
      exact ⟨lo, _, _, _, rfl, s5.trans s7, bs, hbs, s5.free hlo, fun b hb => s5.free (hbn b hb).1, hRb⟩
  · rintro σ H3 ⟨f, v5, v6, v7, rfl, s5, as, hf, hfn, hn, hR⟩
    rw [hle, sweep_routes s S.asc] at hR
    exact ⟨_, rfl, q _ f as (s12.trans s5) (s12.free hfn) (fun b hb => s12.free (hn b hb)) hf hR⟩
/-- what the variable found holds -/
def Hold (H : Hp) (v : Option V) : Option (List Nat) → Prop
  | none => v = some .non
  | some r => ∃ q, v = some (.ref q) ∧ NL H q r
theorem pure_best_route : Pure (t_best_route K) sp_best_route N_best_route := by
  intro vs H Q E h
  obtain ⟨a, r, s, sm, rfl, S, q⟩ := h
  refine ⟨_, rfl, _, rfl, a, r, s, sm, rfl, S, fun H1 f as s1 nf nas hf hR => ?_⟩
  have hal : ∀ (j : Nat) (b : Addr), as[j]? = some b → ∃ g, (sweepingRoutes s sm)[j]? = some g ∧ g ∈ sweepingRoutes s sm ∧ NL H1 b g := by
    intro j b hb
    have h1 := hR.len
    rw [List.length_map] at h1
    have hg : (sweepingRoutes s sm)[j]? = some ((sweepingRoutes s sm)[j]'(by rw [← h1]; exact lt_at hb)) := List.getElem?_eq_getElem (by rw [← h1]; exact lt_at hb)
    exact ⟨_, hg, mem_at hg, hR.at_ j b _ hb (by rw [List.getElem?_map, hg]; rfl)⟩
  have hrt : ∀ g ∈ sweepingRoutes s sm, ∀ b, NL H1 b g → ∀ H', Same H1 H' → Rt s H' a b g := by
    intro g hg b hb H' s2
    have hp := route_perm s S.asc hg
    refine ⟨(S.sh.mono s1).mono s2, hb.mono s2, fun i hi => S.lt i (hp.mem_iff.mp hi), ?_⟩
    rw [hp.length_eq]
    exact S.few
  refine ⟨f, rfl, ⟨_, SqL.of hf⟩, for_list (K := K) (a := f) (xs := rv as)
    (fun i σ H' => ∃ v3 v4, σ = [some (.ref a), some (.int (s.departure : Int)), some (.ref r), v3, v4] ∧ Same H1 H' ∧
      ((((sweepingRoutes s sm).take i).foldl (bestStep s) none = none ∧ v3 = some .non) ∨
        ∃ g p, ((sweepingRoutes s sm).take i).foldl (bestStep s) none = some g ∧ v3 = some (.ref p) ∧ NL H1 p g ∧ H p = none ∧ g ∈ sweepingRoutes s sm))
    ⟨_, none, rfl, Same.refl H1, .inl ⟨rfl, rfl⟩⟩ (fun i σ H' _ ⟨_, _, _, s2, _⟩ => SqL.of (s2 _ _ hf)) ?_ ?_⟩
  · rintro i x σ H2 hi ⟨v3, v4, rfl, s2, hv⟩
    obtain ⟨b, hb, rfl⟩ := rv_at hi
    obtain ⟨g, hg, hgm, hbg⟩ := hal i b hb
    have hfold : ((sweepingRoutes s sm).take (i + 1)).foldl (bestStep s) none = bestStep s (((sweepingRoutes s sm).take i).foldl (bestStep s) none) g := by
      rw [take_more hg, List.foldl_append]
      rfl
    refine ⟨_, rfl, _, rfl, _, rfl, a, b, s, g, rfl, hrt g hgm b hbg H2 s2, fun H3 s3 => ⟨_, rfl, ite2 (fun c => ?_) (fun c => ?_)⟩⟩
    · rcases hv with ⟨e0, rfl⟩ | ⟨g0, p0, e0, rfl, hp0, hn0, hm0⟩
      · refine ⟨_, rfl, rfl, _, rfl, iteT ?_⟩
        refine iteT ?_
        refine ⟨_, rfl, _, _, rfl, s2.trans s3, .inr ⟨g, b, ?_, rfl, hbg, nas b (mem_at hb), hgm⟩⟩
        rw [hfold, e0]
        unfold bestStep
        rw [if_pos c]
        rfl
      · refine ⟨_, rfl, rfl, _, rfl, iteF ?_⟩
        refine ⟨_, rfl, _, rfl, _, rfl, a, b, s, g, rfl, hrt g hgm b hbg H3 (s2.trans s3), fun H4 s4 => ?_⟩
        refine ⟨_, rfl, _, rfl, _, rfl, a, p0, s, g0, rfl, hrt g0 hm0 p0 hp0 H4 ((s2.trans s3).trans s4), fun H5 s5 => ?_⟩
        refine ⟨_, _, rfl, rfl, _, rfl, ite2 (fun c2 => ?_) (fun c2 => ?_)⟩
        · have c2 := of_decide_eq_true c2
          refine ⟨_, rfl, _, _, rfl, ((s2.trans s3).trans s4).trans s5, .inr ⟨g, b, ?_, rfl, hbg, nas b (mem_at hb), hgm⟩⟩
          rw [hfold, e0]
          unfold bestStep better
          rw [if_pos c]
          dsimp only
          rw [if_pos (by omega)]
        · have c2 : ¬ (finishTime s g : Int) < (finishTime s g0 : Int) := fun h => c2 (decide_eq_true h)
          refine ⟨_, _, rfl, ((s2.trans s3).trans s4).trans s5, .inr ⟨g0, p0, ?_, rfl, hp0, hn0, hm0⟩⟩
          rw [hfold, e0]
          unfold bestStep better
          rw [if_pos c]
          dsimp only
          rw [if_neg (by omega)]
    · refine ⟨_, _, rfl, s2.trans s3, ?_⟩
      have e : bestStep s (((sweepingRoutes s sm).take i).foldl (bestStep s) none) g = ((sweepingRoutes s sm).take i).foldl (bestStep s) none := by
        generalize ((sweepingRoutes s sm).take i).foldl (bestStep s) none = o
        unfold bestStep
        rw [if_neg c]
      rw [hfold, e]
      exact hv
  · rintro σ H2 ⟨v3, v4, rfl, s2, hv⟩
    have hl : (rv as).length = (sweepingRoutes s sm).length := by
      have h1 := hR.len
      rw [List.length_map] at h1
      rw [List.length_map, h1]
    rw [hl, List.take_length, ← best_is] at hv
    rcases hv with ⟨e0, rfl⟩ | ⟨g0, p0, e0, rfl, hp0, hn0, hm0⟩
    · exact ⟨_, rfl, q.1 e0 _ (s1.trans s2)⟩
    · exact ⟨_, rfl, q.2 g0 e0 _ p0 (s1.trans s2) hn0 (hp0.mono s2)⟩
theorem mask_len (n x : Nat) : (maskMembers n x).length ≤ n := by
  unfold maskMembers
  exact Nat.le_trans (List.length_filter_le _ _) (by rw [List.length_range]; exact Nat.le_refl _)
theorem pure_richest_route : Pure (t_richest_route K) sp_richest_route N_richest_route := by
  intro vs H Q E h
  obtain ⟨a, s, rfl, hs, h7, q⟩ := h
  obtain ⟨as, has, hRs⟩ := id hs
  have hal : as.length = s.shops.length := by rw [hRs.len, List.length_map]
  refine ⟨Nat.zero_le _, fun p hp => ?_⟩
  have s0 : Same H (upd H p (.lst [])) := same_new hp
  have hpw : ((1 : Int) * 2 ^ ((as.length : Int)).toNat) = ((2 ^ as.length : Nat) : Int) := by
    rw [Int.one_mul, Int.toNat_natCast]
    norm_cast
  have hp7 : 2 ^ as.length ≤ 128 := pow7 (by omega)
  have hle : (((2 ^ as.length : Nat) : Int)).toNat = 2 ^ as.length := Int.toNat_natCast _
  refine ⟨_, rfl, a, rv as, rfl, .inl (SqL.of (s0 _ _ has)), _, _, rfl, rfl, ⟨by omega, ?_, by decide⟩, ?_⟩
  · rw [List.length_map]
    omega
  rw [List.length_map]
  have hb62 := len62 (n := 2 ^ as.length) (by omega)
  refine ⟨_, rfl, (by rw [hpw]; exact hb62.1), (by rw [hpw]; exact hb62.2), for_range (lo := 0)
    (fun i σ H' => ∃ p v3 v4 v5, σ = [some (.ref a), some (.int (s.departure : Int)), some (.ref p), v3, v4, v5] ∧ Same H H' ∧ H p = none ∧ NL H' p (richRoute s i))
    ⟨p, none, none, none, rfl, s0, hp, upd_same⟩ ?_ ?_⟩
  · rintro i σ H1 hi ⟨p, v3, v4, v5, rfl, s1, hpn, hpr⟩
    rw [Int.zero_add]
    have hs1 := hs.mono s1
    refine ⟨_, rfl, _, rfl, i, a, rv as, rfl, s1 _ _ has, by rw [List.length_map]; omega, fun H2 m s2 nm hm => ?_⟩
    rw [List.length_map, hal] at hm
    have hrich : (richRoute s i).length ≤ 5000 := by
      obtain ⟨r1, r2, r, hr⟩ := rich_ok s i
      have e : richRoute s i = r := by unfold richRoute; rw [hr]; rfl
      rw [e, (route_perm s r1 (best_mem s hr).1).length_eq]
      have hnd : (richAt s i).Nodup := r1.imp fun h => Nat.ne_of_lt h
      have : (richAt s i).length ≤ s.shops.length := by
        have := hnd.length_le_of_subset (l₂ := List.range s.shops.length) (fun x hx => List.mem_range.mpr (r2 x hx))
        rwa [List.length_range] at this
      omega
    have hml := mask_len s.shops.length i
    have R1 : Rt s H2 a m (maskMembers s.shops.length i) := ⟨hs1.mono s2, hm, fun j hj => mask_lt hj, by omega⟩
    refine ⟨_, rfl, _, rfl, a, m, s, _, rfl, R1, fun H3 s3 => ?_⟩
    have R2 : Rt s H3 a p (richRoute s i) := ⟨(hs1.mono s2).mono s3, (hpr.mono s2).mono s3, rich_lt s i, hrich⟩
    refine ⟨_, rfl, _, rfl, a, p, s, _, rfl, R2, fun H4 s4 => ?_⟩
    have s14 := (s2.trans s3).trans s4
    refine ⟨_, _, rfl, rfl, _, rfl, ite2 (fun c => ?_) (fun c => ?_)⟩
    · have c := of_decide_eq_true c
      have S1 : St_ s H4 a m (maskMembers s.shops.length i) := ⟨(R1.mono s3).mono s4, mask_sorted _ _, by omega⟩
      refine ⟨_, rfl, _, rfl, _, rfl, a, m, s, _, rfl, S1, fun e0 H5 s5 => ?_, fun g e0 H5 p5 s5 n5 h5 => ?_⟩
      · refine ⟨_, rfl, rfl, _, rfl, iteF ?_⟩
        refine ⟨p, _, _, _, rfl, s1.trans (s14.trans s5), hpn, ?_⟩
        rw [rich_turn, if_pos (by omega), e0]
        exact (hpr.mono s14).mono s5
      · refine ⟨_, rfl, rfl, _, rfl, iteT ?_⟩
        refine ⟨_, rfl, p5, _, _, _, rfl, s1.trans (s14.trans s5), (s1.trans s14).free n5, ?_⟩
        rw [rich_turn, if_pos (by omega), e0]
        exact h5
    · have c : ¬ (totalLoaves s (richRoute s i) : Int) < (totalLoaves s (maskMembers s.shops.length i) : Int) := fun h => c (decide_eq_true h)
      refine ⟨p, _, _, _, rfl, s1.trans s14, hpn, ?_⟩
      rw [rich_turn, if_neg (by omega)]
      exact hpr.mono s14
  · rintro σ H1 ⟨p, v3, v4, v5, rfl, s1, hpn, hpr⟩
    rw [hpw, hle, hal] at hpr
    exact ⟨_, rfl, q _ p s1 hpn hpr⟩
theorem pure_latest_for : Pure (t_latest_for K) sp_latest_for N_latest_for := by
  intro vs H Q E h
  obtain ⟨a, r, s, route, rfl, R, q⟩ := h
  refine ⟨_, rfl, _, rfl, _, rfl, a, r, 0, s, route, rfl, R, fun H1 p1 s1 n1 h1 => ?_⟩
  have R1 := R.mono s1
  refine ⟨r, p1, _, _, rfl, SqL.of R1.rt, SqL.of h1, RZ.for_zipL (K := K) (a := r) (b := p1) (xs := iv (natsToInts route)) (ys := iv (natsToInts (arrivalTimesFrom s route 0 0))) (by rw [nv_len, nv_len, arr_len])
    (fun i σ H' => ∃ v3 v4, σ = [some (.ref a), some (.ref r), some (.int (((route.zip (arrivalTimesFrom s route 0 0)).take i).foldl (lateStep s) 299)), v3, v4] ∧ Same H1 H')
    ⟨none, none, rfl, Same.refl H1⟩ (fun i σ H' ⟨_, _, _, s2⟩ => ⟨SqL.of (R1.rt.mono s2), SqL.of (h1.mono s2)⟩) ?_ ?_⟩
  · rintro i x y T σ H2 hx hy ⟨v3, v4, rfl, s2⟩ hT
    obtain ⟨n, hn, rfl⟩ := nv_at hx
    obtain ⟨t, ht, rfl⟩ := nv_at hy
    have s3 := s2.trans (same_new (o := .tup [.int (n : Int), .int (t : Int)]) hT)
    have hz : (route.zip (arrivalTimesFrom s route 0 0))[i]? = some (n, t) := List.getElem?_zip_eq_some.mpr ⟨hn, ht⟩
    refine ⟨T, _, rfl, SqT.of upd_same, rfl, _, _, rfl, _, _, rfl, rfl, ?_⟩
    refine ⟨_, rfl, ?_⟩
    refine dl_at (R1.sh.mono s3) (R.lt n (mem_at hn)) rfl rfl ⟨_, rfl, _, _, rfl, rfl, _, _, rfl, ?_⟩
    refine ⟨some (.int (n : Int)), some (.int (t : Int)), ?_, s3⟩
    rw [take_more hz, List.foldl_append]
    rfl
  · rintro σ H2 ⟨v3, v4, rfl, s2⟩
    have hl : (iv (natsToInts route)).length = (route.zip (arrivalTimesFrom s route 0 0)).length := by rw [nv_len, List.length_zip, arr_len, Nat.min_self]
    rw [hl, List.take_length]
    exact ⟨_, rfl, q _ (s1.trans s2)⟩
theorem pure_latest_departure : Pure (t_latest_departure K) sp_latest_departure N_latest_departure := by
  intro vs H Q E h
  obtain ⟨a, r, s, sm, rfl, S, q⟩ := h
  refine ⟨_, rfl, _, rfl, a, r, s, sm, rfl, S, fun H1 f as s1 nf nas hf hR => ?_⟩
  have hl : as.length = (sweepingRoutes s sm).length := by
    have h1 := hR.len
    rwa [List.length_map] at h1
  have hfew : (sweepingRoutes s sm).length ≤ 128 := by
    rw [← sweep_routes s S.asc]
    exact Nat.le_trans (sweep_len_le _) (pow7 S.seven)
  refine ⟨f, rfl, ⟨_, SqL.of hf⟩, fun D hD => lc_list (K := K) (a := f) (xs := rv as)
    (fun i H' => Same H1 H' ∧ IL H' D (((sweepingRoutes s sm).take i).map (latestFor s)))
    ⟨same_new hD, upd_same⟩ (fun i H' _ ⟨s2, _⟩ => SqL.of (s2 _ _ hf)) ?_ ?_⟩
  · rintro i x H2 hi ⟨s2, h2⟩
    obtain ⟨b, hb, rfl⟩ := rv_at hi
    obtain ⟨g, hg⟩ : ∃ g, (sweepingRoutes s sm)[i]? = some g := ⟨_, List.getElem?_eq_getElem (by rw [← hl]; exact lt_at hb)⟩
    have hbg : NL H1 b g := hR.at_ i b _ hb (by rw [List.getElem?_map, hg]; rfl)
    have hp := route_perm s S.asc (mem_at hg)
    refine ⟨rfl, yes_ ?_⟩
    refine ⟨_, rfl, _, rfl, a, b, s, g, rfl, ⟨(S.sh.mono s1).mono s2, hbg.mono s2, fun j hj => S.lt j (hp.mem_iff.mp hj), by rw [hp.length_eq]; exact S.few⟩, fun H3 s3 => ?_⟩
    refine ⟨_, s3 _ _ h2, ?_, same_at (s2.trans s3) hD, ?_⟩
    · rw [iv_len, List.length_map]
      exact small1000 (Nat.le_trans (List.length_take_le' _ _) (by omega))
    · show upd H3 D _ D = _
      rw [upd_same, take_more hg, List.map_append, iv_append]
      rfl
  · rintro H2 ⟨s2, h2⟩
    have e : (rv as).length = (sweepingRoutes s sm).length := by rw [List.length_map, hl]
    rw [e, List.take_length] at h2
    refine ⟨D, _, rfl, SqL.of h2, ?_, fun m hm hu => ?_⟩
    · rw [List.length_map]
      exact List.length_pos_iff.mpr (routes_ne s S.asc)
    · obtain ⟨g, hg, e⟩ := List.mem_map.mp hm
      exact q m ⟨g, hg, e⟩ (fun g' hg' => hu _ (List.mem_map.mpr ⟨g', hg', rfl⟩)) _ (s1.trans s2)
end Bs

/-! ## BsP5 -/
set_option Elab.async false
set_option linter.all false
set_option maxRecDepth 100000
set_option maxHeartbeats 4000000
namespace Bs
open PySem PySem.Spec PyProof.Rows L2
open Sr100 (Street Shop State shopAt arrivalTimesFrom finishTime isOnTime totalLoaves sortByDistance leftShops rightShops sweepingRoutes bestRoute bestShops)
open SrCommon (natsToInts maskMembers inRange isIndex)
/-! ### the instance in the heap -/
theorem lk_here {k : Str} {v : V} {r : List (Str × V)} : List.lookup k ((k, v) :: r) = some v := by
  have e : (k == k) = true := beq_self_eq_true k
  simp only [List.lookup, e]
theorem lk_past {k g : Str} {v : V} {r : List (Str × V)} (h : (k == g) = false) : List.lookup k ((g, v) :: r) = List.lookup k r := by
  simp only [List.lookup, h]
theorem put_here {f : Str} {v x : V} {r : List (Str × V)} : putF f v ((f, x) :: r) = (f, v) :: r := if_pos rfl
theorem put_past {f g : Str} {v x : V} {r : List (Str × V)} (h : ¬ g = f) : putF f v ((g, x) :: r) = (g, x) :: putF f v r := if_neg h
theorem insF_dep (d : Int) (a : Addr) : (insF d a).lookup ("departure" : Str) = some (.int d) := lk_here
theorem insF_shops (d : Int) (a : Addr) : (insF d a).lookup ("shops" : Str) = some (.ref a) := (lk_past (by decide +kernel)).trans lk_here
theorem insF_exists (d : Int) (a : Addr) : (insF d a).lookup ("exists" : Str) = none := (lk_past (by decide +kernel)).trans ((lk_past (by decide +kernel)).trans rfl)
theorem put_dep (d y : Int) (a : Addr) : putF "departure" (.int y) (insF d a) = insF y a := put_here
theorem put_shops (d : Int) (a b : Addr) : putF "shops" (.ref b) (insF d a) = insF d b := (put_past (by decide +kernel)).trans (congrArg _ put_here)
theorem put_new (d : Int) (b : Addr) : putF "shops" (.ref b) (putF "departure" (.int d) []) = insF d b := (put_past (by decide +kernel)).trans rfl
theorem SameBut.refl (x : Addr) (H : Hp) : SameBut x H H := fun _ _ h _ => h
theorem SameBut.trans {x : Addr} {H H1 H2 : Hp} (a : SameBut x H H1) (b : SameBut x H1 H2) : SameBut x H H2 := fun c o h n => b c o (a c o h n) n
theorem SameBut.of {x : Addr} {H H' : Hp} (s : Same H H') : SameBut x H H' := fun b o h _ => s b o h
theorem SameBut.put (x : Addr) (H : Hp) (o : HO) : SameBut x H (upd H x o) := fun b q h n => by
  rw [upd_ne n]
  exact h
theorem IL.but {x C dx a : Addr} {fs : List (Str × V)} {H H' : Hp} {l : List Int} (s : SameBut x H H') (hx : H x = some (.ins C dx fs)) (h : IL H a l) : IL H' a l := s _ _ h (ne_of h hx (by intro z; cases z))
theorem Rows.but {x C dx : Addr} {fs : List (Str × V)} {H H' : Hp} {as : List Addr} {ls : List (List Int)} (s : SameBut x H H') (hx : H x = some (.ins C dx fs)) (h : Rows H as ls) : Rows H' as ls := ⟨h.len, fun i a l e1 e2 => (h.at_ i a l e1 e2).but s hx⟩
theorem Shops.but {x C dx a : Addr} {fs : List (Str × V)} {H H' : Hp} {ss : List Shop} (s : SameBut x H H') (hx : H x = some (.ins C dx fs)) (h : Shops H a ss) : Shops H' a ss := by
  obtain ⟨as, h1, h2⟩ := h
  exact ⟨as, s _ _ h1 (ne_of h1 hx (by intro z; cases z)), h2.but s hx⟩
section
variable {K : PySem.W.Frag} {mg : Str → Option Value} {C a_LOW a_HIGH a_NUMBERS a_WITH_ROUTE : Addr}
theorem dep_at (T : Txt K mg C a_LOW a_HIGH a_NUMBERS a_WITH_ROUTE) {σ : L2.St} {H : Hp} {x dx a : Addr} {d : Int} {j : Nat} {Q : VK} (h : H x = some (.ins C dx (insF d a))) (e : σ[j]? = some (some (.ref x))) (q : Q (.int d) H) : tFld K (tVar j) "departure" σ H Q :=
  ⟨_, e, x, C, dx, _, _, rfl, h, T.cl, T.nD, insF_dep d a, q⟩
theorem shops_at (T : Txt K mg C a_LOW a_HIGH a_NUMBERS a_WITH_ROUTE) {σ : L2.St} {H : Hp} {x dx a : Addr} {d : Int} {j : Nat} {Q : VK} (h : H x = some (.ins C dx (insF d a))) (e : σ[j]? = some (some (.ref x))) (q : Q (.ref a) H) : tFld K (tVar j) "shops" σ H Q :=
  ⟨_, e, x, C, dx, _, _, rfl, h, T.cl, T.nS, insF_shops d a, q⟩
theorem pure_init (T : Txt K mg C a_LOW a_HIGH a_NUMBERS a_WITH_ROUTE) : Pure (t_init K) (sp_init C) N_init := by
  intro vs H Q E h
  obtain ⟨p, dx, rfl, hp, k⟩ := h
  refine ⟨_, rfl, _, rfl, p, C, dx, [], rfl, hp, T.cl, T.nD, (by show 0 < 1000; decide), ?_⟩
  refine ⟨Nat.zero_le _, fun l hl => ⟨_, rfl, p, C, dx, _, rfl, (same_new hl) _ _ upd_same, T.cl, T.nS, (by show 1 < 1000; decide), ?_⟩⟩
  have hpl : l ≠ p := (ne_of_none upd_same hl).symm
  refine k _ ⟨dx, l, ?_, ⟨[], ?_, ⟨rfl, fun i a l e => by simp at e⟩⟩, Nat.zero_le _⟩ ?_
  · rw [upd_same, put_new]
    rfl
  · rw [upd_ne hpl, upd_same]
    rfl
  · exact (SameBut.put _ _ _).trans ((SameBut.of (same_new hl)).trans (SameBut.put _ _ _))
theorem pure_exists (T : Txt K mg C a_LOW a_HIGH a_NUMBERS a_WITH_ROUTE) : Pure (t_exists K) (sp_exists C) N_exists := by
  intro vs H Q E h
  obtain ⟨x, st, rfl, ⟨dx, a, hx, hs, h7⟩, q⟩ := h
  refine ⟨_, rfl, x, C, dx, _, _, rfl, hx, T.cl, T.nD, insF_dep _ _, _, _, rfl, rfl, ?_⟩
  refine bl_eq ?_ q
  cases st with
  | none => rfl
  | some s => exact decide_eq_true (Int.natCast_nonneg _)
theorem pure_is_departure : Pure (t_is_departure K) sp_is_departure N_is_departure := by
  intro vs H Q E h
  obtain ⟨v, rfl, q⟩ := h
  exact ⟨_, rfl, v, 0, 299, rfl, q⟩
theorem pure_is_field (T : Txt K mg C a_LOW a_HIGH a_NUMBERS a_WITH_ROUTE) : Pure (t_is_field K a_LOW a_HIGH) sp_is_field N_is_field := by
  intro vs H Q E h
  obtain ⟨f, v, rfl, hf, q⟩ := h
  have hf : f = 0 ∨ f = 1 ∨ f = 2 := by omega
  rcases hf with rfl | rfl | rfl
  · exact ⟨_, rfl, _, rfl, a_LOW, _, _, _, rfl, rfl, T.s_LOW _, rfl, _, rfl, a_HIGH, _, _, _, rfl, rfl, T.s_HIGH _, rfl, v, -99, 99, rfl, q⟩
  · exact ⟨_, rfl, _, rfl, a_LOW, _, _, _, rfl, rfl, T.s_LOW _, rfl, _, rfl, a_HIGH, _, _, _, rfl, rfl, T.s_HIGH _, rfl, v, 0, 299, rfl, q⟩
  · exact ⟨_, rfl, _, rfl, a_LOW, _, _, _, rfl, rfl, T.s_LOW _, rfl, _, rfl, a_HIGH, _, _, _, rfl, rfl, T.s_HIGH _, rfl, v, 0, 99, rfl, q⟩
theorem of_not {b : Bool} (h : (!b) = true) : b = false := by simpa using h
theorem time_nat {d : Int} (h : ¬ Sr100.isTime d = false) : ((d.toNat : Nat) : Int) = d := by
  have h : Sr100.isTime d = true := by simpa using h
  unfold Sr100.isTime inRange at h
  rw [Bool.and_eq_true, decide_eq_true_eq, decide_eq_true_eq] at h
  omega
theorem loaves_nat {d : Int} (h : ¬ Sr100.isLoaves d = false) : ((d.toNat : Nat) : Int) = d := by
  have h : Sr100.isLoaves d = true := by simpa using h
  unfold Sr100.isLoaves inRange at h
  rw [Bool.and_eq_true, decide_eq_true_eq, decide_eq_true_eq] at h
  omega
theorem Off.mono {H H' : Hp} {x z : Addr} (s : Same H H') (h : Off H x z) : Off H' x z := by
  obtain ⟨C, dx, d, a, as, h1, h2, h3⟩ := h
  exact ⟨C, dx, d, a, as, s _ _ h1, s _ _ h2, h3⟩
theorem rv_inj : ∀ {as bs : List Addr}, rv as = rv bs → as = bs
  | [], [], _ => rfl
  | [], _ :: _, h => by cases h
  | _ :: _, [], h => by cases h
  | a :: as, b :: bs, h => by
    have h : V.ref a :: rv as = V.ref b :: rv bs := h
    injection h with h1 h2
    injection h1 with h1
    rw [h1, rv_inj h2]
theorem Off.get {H : Hp} {x z C dx a : Addr} {d : Int} {as : List Addr} (h : Off H x z) (hx : H x = some (.ins C dx (insF d a))) (ha : H a = some (.lst (rv as))) : a ≠ z ∧ z ∉ as := by
  obtain ⟨C', dx', d', a', as', h1, h2, h3, h4⟩ := h
  rw [hx] at h1
  have e : insF d a = insF d' a' := by
    injection h1 with h1
    injection h1
  unfold insF at e
  injection e with e1 e2
  injection e2 with e2 e3
  injection e2 with e2 e4
  injection e4 with e4
  subst e4
  rw [ha] at h2
  injection h2 with h2
  injection h2 with h2
  rw [rv_inj h2]
  exact ⟨h3, h4⟩
theorem Keeps.of {x : Addr} {G : Addr → Prop} {H H' : Hp} (s : Same H H') : Keeps x G H H' := fun _ _ _ _ h => h.mono s
theorem edits.weak {C : Addr} {H : Hp} {Q : VK} {x : Addr} {st : State} {c : Sr100.Call} {G : Addr → Prop} (q : edits C H Q x st c G) : edits C H Q x st c := fun H' h1 h2 h3 => q H' h1 h2 fun z o hz _ => h3 z o hz id
theorem edits.err {C : Addr} {H : Hp} {Q : VK} {x : Addr} {st : State} {c : Sr100.Call} {z : Int} {G : Addr → Prop} (q : edits C H Q x st c G) (e : Sr100.step st c = (st, .ofCode z)) {H' : Hp} (s : Same H H') (hI : InsAt C H x st) : Q (.int z) H' := by
  have := q H'
  rw [e] at this
  exact this (hI.mono s) (.of s) (.of s)
theorem edits.ok {C : Addr} {H : Hp} {Q : VK} {x : Addr} {st st' : State} {c : Sr100.Call} {r : SrCommon.Result} {G : Addr → Prop} (q : edits C H Q x st c G) (e : Sr100.step st c = (st', r)) {H' : Hp} (hI : InsAt C H' x st') (s : SameBut x H H') (k : Keeps x G H H') : Q (.int r.code) H' := by
  have := q H'
  rw [e] at this
  exact this hI s k
theorem pure_create (T : Txt K mg C a_LOW a_HIGH a_NUMBERS a_WITH_ROUTE) : Pure (t_create K) (sp_create C) N_create := by
  intro vs H Q E h
  obtain ⟨x, st, d, rfl, hI, q⟩ := h
  have es : Sr100.step st (.create d) = if Sr100.isTime d = false then (st, .ofCode (-22)) else (some ⟨[], d.toNat⟩, .ofCode 0) := rfl
  refine ⟨_, rfl, d, rfl, _, rfl, ite2 (fun c => ?_) (fun c => ?_)⟩
  · exact q.err (es.trans (if_pos (by simpa using c))) (Same.refl H) hI
  · have c : ¬ Sr100.isTime d = false := by simpa using c
    obtain ⟨dx, a, hx, hs, h7⟩ := hI
    refine ⟨_, rfl, _, rfl, x, C, dx, _, rfl, hx, T.cl, T.nD, (by show 2 < 1000; decide), ?_⟩
    rw [put_dep]
    refine ⟨Nat.zero_le _, fun p hp => ⟨_, rfl, x, C, dx, _, rfl, (same_new hp) _ _ upd_same, T.cl, T.nS, (by show 2 < 1000; decide), ?_⟩⟩
    rw [put_shops]
    have hxp : p ≠ x := (ne_of_none upd_same hp).symm
    have hpl : ∀ o, upd (upd (upd H x (.ins C dx (insF d a))) p (.lst [])) x o p = some (.lst (rv [])) := fun o => by
      rw [upd_ne hxp, upd_same]
      rfl
    refine q.ok (es.trans (if_neg c)) ⟨dx, p, ?_, ⟨[], hpl _, ⟨rfl, fun i a l e => by simp at e⟩⟩, Nat.zero_le _⟩ ((SameBut.put _ _ _).trans ((SameBut.of (same_new hp)).trans (SameBut.put _ _ _))) ?_
    · rw [upd_same]
      show some (HO.ins C dx (insF d p)) = some (.ins C dx (insF ((d.toNat : Nat) : Int) p))
      rw [time_nat c]
    · intro z o hz _ _
      refine ⟨C, dx, d, p, [], upd_same, hpl _, ?_, List.not_mem_nil⟩
      rintro rfl
      rw [upd_ne hxp] at hp
      rw [hz] at hp
      cases hp
theorem pure_set_departure (T : Txt K mg C a_LOW a_HIGH a_NUMBERS a_WITH_ROUTE) : Pure (t_set_departure K) (sp_set_departure C) N_set_departure := by
  intro vs H Q E h
  obtain ⟨x, s, d, rfl, hI, q⟩ := h
  refine ⟨_, rfl, d, rfl, _, rfl, ite2 (fun c => ?_) (fun c => ?_)⟩
  · have c : Sr100.isTime d = false := by simpa using c
    have ep : Sr100.perform s (.setDeparture d) = Sr100.error (-22) := if_pos c
    have es : Sr100.step (some s) (.setDeparture d) = (some s, .ofCode (-22)) := by
      show (match Sr100.perform s (.setDeparture d) with | (some changed, result) => (some changed, result) | (none, result) => (some s, result)) = _
      rw [ep]
      rfl
    exact q.err es (Same.refl H) hI
  · have c : ¬ Sr100.isTime d = false := by simpa using c
    have ep : Sr100.perform s (.setDeparture d) = (some { s with departure := d.toNat }, Sr100.countResult s.departure) := if_neg c
    have es : Sr100.step (some s) (.setDeparture d) = (some { s with departure := d.toNat }, Sr100.countResult s.departure) := by
      show (match Sr100.perform s (.setDeparture d) with | (some changed, result) => (some changed, result) | (none, result) => (some s, result)) = _
      rw [ep]
    obtain ⟨dx, a, hx, hs, h7⟩ := hI
    refine ⟨_, rfl, x, C, dx, _, _, rfl, hx, T.cl, T.nD, insF_dep _ _, ?_⟩
    refine ⟨_, rfl, _, rfl, x, C, dx, _, rfl, hx, T.cl, T.nD, (by show 2 < 1000; decide), ?_⟩
    rw [put_dep]
    refine ⟨_, rfl, q.ok es ⟨dx, a, ?_, hs.but (SameBut.put _ _ _) hx, h7⟩ (SameBut.put _ _ _) ?_⟩
    · rw [upd_same]
      show some (HO.ins C dx (insF d a)) = some (.ins C dx (insF ((d.toNat : Nat) : Int) a))
      rw [time_nat c]
    · intro z o hz _ hoff
      obtain ⟨as, has, _⟩ := hs
      obtain ⟨k1, k2⟩ := hoff.get hx has
      refine ⟨C, dx, d, a, as, upd_same, ?_, k1, k2⟩
      rw [upd_ne (ne_of has hx (by intro z; cases z))]
      exact has
theorem erase_map {α β : Type} (f : α → β) : ∀ (l : List α) (i : Nat), (l.map f).eraseIdx i = (l.eraseIdx i).map f
  | [], _ => rfl
  | _ :: _, 0 => rfl
  | x :: l, i + 1 => congrArg (f x :: ·) (erase_map f l i)
theorem field_at {p d l : Int} {i : Nat} {z : Int} (h : ([p, d, l] : List Int)[i]? = some z) : i ≤ 2 := by
  have := lt_at h
  show i ≤ 2
  have : i < 3 := this
  omega
theorem pure_add_shop (T : Txt K mg C a_LOW a_HIGH a_NUMBERS a_WITH_ROUTE) : Pure (t_add_shop K) (sp_add_shop C) N_add_shop := by
  intro vs H Q E h
  obtain ⟨x, g, s, p, d, l, rfl, hI, hg, q⟩ := h
  have ep : Sr100.perform s (.addShop p d l) = if Sr100.isPosition p = false ∨ Sr100.isTime d = false ∨ Sr100.isLoaves l = false then Sr100.error (-22) else if Sr100.maxShops ≤ s.shops.length then Sr100.error (-28) else (some { s with shops := s.shops ++ [⟨p, d.toNat, l.toNat⟩] }, Sr100.countResult s.shops.length) := rfl
  refine ⟨(by show 3 ≤ sizeLine; decide), fun tp htp => ?_⟩
  refine ⟨tp, rfl, ⟨_, SqT.of upd_same⟩, for_tup (K := K) (a := tp) (xs := [.int 0, .int 1, .int 2])
    (fun i σ H' => ∃ v, σ = [some (.ref x), some (.ref g), v] ∧ Same H H' ∧ H' tp = some (.tup [.int 0, .int 1, .int 2]) ∧ ∀ (j : Nat) (z : Int), j < i → ([p, d, l] : List Int)[j]? = some z → fieldOk j z = true)
    ⟨none, rfl, same_new htp, upd_same, fun j z hj => absurd hj (Nat.not_lt_zero _)⟩ (fun i σ H' _ ⟨_, _, _, h2, _⟩ => SqT.of h2) ?_ ?_⟩
  · rintro i y σ H1 hi ⟨v, rfl, s1, h2, hok⟩
    obtain ⟨z, hz, rfl⟩ : ∃ z : Int, ([p, d, l] : List Int)[i]? = some z ∧ y = .int (i : Int) := by
      match i, hi with
      | 0, hi => exact ⟨p, rfl, (Option.some.inj hi).symm⟩
      | 1, hi => exact ⟨d, rfl, (Option.some.inj hi).symm⟩
      | 2, hi => exact ⟨l, rfl, (Option.some.inj hi).symm⟩
      | i + 3, hi => simp at hi
    refine ⟨_, rfl, _, rfl, _, rfl, g, _, _, _, rfl, rfl, SqL.of (hg.mono s1), atI_nat (iv_get hz), i, z, rfl, field_at hz, _, rfl, ite2 (fun c => ?_) (fun c => ?_)⟩
    · have c : fieldOk i z = false := by simpa using c
      refine q.err (step_err (fun _ => by intro h; cases h) (ep.trans (if_pos ?_))) s1 hI
      match i, hz with
      | 0, hz => exact .inl (by rw [Option.some.inj hz]; exact c)
      | 1, hz => exact .inr (.inl (by rw [Option.some.inj hz]; exact c))
      | 2, hz => exact .inr (.inr (by rw [Option.some.inj hz]; exact c))
      | i + 3, hz => simp at hz
    · have c : fieldOk i z = true := by simpa using c
      refine ⟨_, rfl, s1, h2, fun j y hj hy => ?_⟩
      by_cases e : j = i
      · subst e
        rw [hz] at hy
        rw [← Option.some.inj hy]
        exact c
      · exact hok j y (by omega) hy
  · rintro σ H1 ⟨v, rfl, s1, h2, hok⟩
    have o1 : Sr100.isPosition p = true := hok 0 p (by decide) rfl
    have o2 : Sr100.isTime d = true := hok 1 d (by decide) rfl
    have o3 : Sr100.isLoaves l = true := hok 2 l (by decide) rfl
    have ep := ep.trans (if_neg (by rw [o1, o2, o3]; simp))
    have hI1 := hI.mono s1
    obtain ⟨dx, a, hx, ⟨as, has, hR⟩, h7⟩ := hI1
    have hal : as.length = s.shops.length := by rw [hR.len, List.length_map]; rfl
    have h7 : s.shops.length ≤ 7 := h7
    refine ⟨_, rfl, x, C, dx, _, _, rfl, hx, T.cl, T.nS, insF_shops _ _, a, rv as, rfl, .inl (SqL.of has), rfl, _, rfl, ?_⟩
    rw [List.length_map, hal]
    refine ite2 (fun c => ?_) (fun c => ?_)
    · have c : (s.shops.length : Int) = 7 := V.int.inj (of_decide_eq_true c)
      exact q.err (step_err (fun _ => by intro h; cases h) (ep.trans (if_pos (by show 7 ≤ _; omega)))) s1 hI
    · have c : ¬ s.shops.length = 7 := fun h => c (decide_eq_true (by rw [h]; rfl))
      have ep := ep.trans (if_neg (by show ¬ 7 ≤ _; omega))
      refine ⟨_, rfl, x, C, dx, _, _, rfl, hx, T.cl, T.nS, insF_shops _ _, _, rfl, (by show 1 ≤ sizeLine; decide), fun p1 hp1 => ?_⟩
      have s2 := s1.trans (same_new (o := .lst [.ref g]) hp1)
      refine ⟨a, p1, _, _, rfl, rfl, (same_new hp1) _ _ has, upd_same, ?_, fun p2 hp2 => ?_⟩
      · rw [List.length_map, hal]
        have : (9 : Nat) ≤ sizeLine := by decide
        show s.shops.length + 1 ≤ sizeLine
        omega
      have s3 := s2.trans (same_new (o := .lst (rv as ++ [.ref g])) hp2)
      have s13 : Same H1 _ := (same_new (o := .lst [.ref g]) hp1).trans (same_new (o := .lst (rv as ++ [.ref g])) hp2)
      have hx3 := s13 _ _ hx
      refine ⟨_, rfl, x, C, dx, _, rfl, hx3, T.cl, T.nS, (by show 2 < 1000; decide), ?_⟩
      rw [put_shops]
      have hp2x : p2 ≠ x := (ne_of_none ((same_new (o := .lst [.ref g]) hp1) _ _ hx) hp2).symm
      refine ⟨_, rfl, x, C, dx, _, _, rfl, upd_same, T.cl, T.nS, insF_shops _ _, p2, rv as ++ [.ref g], rfl, .inl (SqL.of (by rw [upd_ne hp2x, upd_same])), _, _, rfl, rfl, ?_⟩
      have e1 : (((rv as ++ [V.ref g]).length : Nat) : Int) - 1 = (s.shops.length : Int) := by
        rw [List.length_append, List.length_map, hal]
        show ((s.shops.length + 1 : Nat) : Int) - 1 = _
        omega
      refine v_eq (congrArg V.int e1) ?_
      refine q.ok (step_ok (fun _ => by intro h; cases h) ep) ⟨dx, p2, upd_same, ⟨as ++ [g], ?_, ?_⟩, ?_⟩ ((SameBut.of s3).trans (SameBut.put _ _ _)) ?_
      · rw [upd_ne hp2x, upd_same, rv_append]
        rfl
      · show Rows _ (as ++ [g]) ((s.shops ++ [_]).map encShop)
        rw [List.map_append]
        refine ((hR.mono s13).snoc ?_).but (SameBut.put _ _ _) hx3
        have e2 : encShop ⟨p, d.toNat, l.toNat⟩ = [p, d, l] := by
          show [p, ((d.toNat : Nat) : Int), ((l.toNat : Nat) : Int)] = _
          rw [time_nat (by rw [o2]; simp), loaves_nat (by rw [o3]; simp)]
        show IL _ g (encShop ⟨p, d.toNat, l.toNat⟩)
        rw [e2]
        exact hg.mono s3
      · show (s.shops ++ [_]).length ≤ 7
        rw [List.length_append]
        show s.shops.length + 1 ≤ 7
        omega
      · intro z o hz hG hoff
        obtain ⟨k1, k2⟩ := (hoff.mono s1).get hx has
        refine ⟨C, dx, dOf (some s), p2, as ++ [g], upd_same, ?_, ?_, ?_⟩
        · rw [upd_ne hp2x, upd_same, rv_append]
          rfl
        · exact (ne_of_none (s2 _ _ hz) hp2).symm
        · rw [List.mem_append, List.mem_singleton]
          rintro (k | k)
          · exact k2 k
          · exact hG k
/-- a row less -/
theorem Rows.erase {H : Hp} {as : List Addr} {ls : List (List Int)} (h : Rows H as ls) (i : Nat) : Rows H (as.eraseIdx i) (ls.eraseIdx i) := by
  refine ⟨by rw [List.length_eraseIdx, List.length_eraseIdx, h.len], fun j a l e1 e2 => ?_⟩
  rw [List.getElem?_eraseIdx] at e1 e2
  by_cases c : j < i
  · rw [if_pos c] at e1 e2
    exact h.at_ j a l e1 e2
  · rw [if_neg c] at e1 e2
    exact h.at_ _ a l e1 e2
/-- another row -/
theorem Rows.set {H : Hp} {as : List Addr} {ls : List (List Int)} (h : Rows H as ls) {i : Nat} {b : Addr} {m : List Int} (hb : IL H b m) : Rows H (as.set i b) (ls.set i m) := by
  refine ⟨by rw [List.length_set, List.length_set, h.len], fun j a l e1 e2 => ?_⟩
  by_cases c : i = j
  · subst c
    rw [List.getElem?_set] at e1 e2
    rw [if_pos rfl] at e1 e2
    split at e1
    · split at e2
      · rw [← Option.some.inj e1, ← Option.some.inj e2]
        exact hb
      · cases e2
    · cases e1
  · rw [List.getElem?_set_ne c] at e1 e2
    exact h.at_ j a l e1 e2
theorem shop_nat {s : Street} {i : Int} (h : Sr100.isShop s i = true) : ((i.toNat : Nat) : Int) = i ∧ i.toNat < s.shops.length := by
  unfold Sr100.isShop isIndex at h
  rw [Bool.and_eq_true, decide_eq_true_eq, decide_eq_true_eq] at h
  omega
theorem pure_remove_shop (T : Txt K mg C a_LOW a_HIGH a_NUMBERS a_WITH_ROUTE) : Pure (t_remove_shop K) (sp_remove_shop C) N_remove_shop := by
  intro vs H Q E h
  obtain ⟨x, s, i, rfl, hI, q⟩ := h
  have ep : Sr100.perform s (.removeShop i) = if Sr100.isShop s i = false then Sr100.error (-2) else (some { s with shops := s.shops.eraseIdx i.toNat }, Sr100.countResult (s.shops.length - 1)) := rfl
  obtain ⟨dx, a, hx, ⟨as, has, hR⟩, h7⟩ := id hI
  have hal : as.length = s.shops.length := by rw [hR.len, List.length_map]; rfl
  have h7 : s.shops.length ≤ 7 := h7
  refine ⟨_, rfl, ?_⟩
  refine ⟨_, rfl, x, C, dx, _, _, rfl, hx, T.cl, T.nS, insF_shops _ _, i, a, rv as, rfl, has, _, rfl, ?_⟩
  rw [List.length_map, hal]
  refine ite2 (fun c => ?_) (fun c => ?_)
  · exact q.err (step_err (fun _ => by intro h; cases h) (ep.trans (if_pos (of_not c)))) (Same.refl H) hI
  · have c : Sr100.isShop s i = true := by
      show isIndex i s.shops.length = true
      simpa using c
    have ep := ep.trans (if_neg (by rw [c]; simp))
    obtain ⟨e1, e2⟩ := shop_nat c
    refine ⟨_, rfl, x, C, dx, _, _, rfl, hx, T.cl, T.nS, insF_shops _ _, _, rfl, a, rv as, i.toNat, ?_, has, by rw [List.length_map]; omega, fun H1 p s1 n1 h1 => ?_⟩
    · rw [e1]
      rfl
    have hx1 := s1 _ _ hx
    refine ⟨_, rfl, x, C, dx, _, rfl, hx1, T.cl, T.nS, (by show 2 < 1000; decide), ?_⟩
    rw [put_shops]
    have hpx : p ≠ x := (ne_of_none hx n1).symm
    have hp1 : upd H1 x (.ins C dx (insF (dOf (some s)) p)) p = some (.lst ((rv as).eraseIdx i.toNat)) := by
      rw [upd_ne hpx]
      exact h1
    refine ⟨_, rfl, x, C, dx, _, _, rfl, upd_same, T.cl, T.nS, insF_shops _ _, p, _, rfl, .inl (SqL.of hp1), ?_⟩
    have e3 : ((((rv as).eraseIdx i.toNat).length : Nat) : Int) = ((s.shops.length - 1 : Nat) : Int) := by
      rw [List.length_eraseIdx, List.length_map, if_pos (by omega), hal]
    refine v_eq (congrArg V.int e3) ?_
    refine q.ok (step_ok (fun _ => by intro h; cases h) ep) ⟨dx, p, upd_same, ⟨as.eraseIdx i.toNat, ?_, ?_⟩, ?_⟩ ((SameBut.of s1).trans (SameBut.put _ _ _)) ?_
    · rw [hp1]
      unfold rv
      rw [erase_map]
    · show Rows _ _ ((s.shops.eraseIdx i.toNat).map encShop)
      rw [← erase_map]
      exact ((hR.mono s1).erase _).but (SameBut.put _ _ _) hx1
    · show (s.shops.eraseIdx i.toNat).length ≤ 7
      rw [List.length_eraseIdx, if_pos e2]
      omega
    · intro z o hz _ hoff
      obtain ⟨k1, k2⟩ := hoff.get hx has
      refine ⟨C, dx, dOf (some s), p, as.eraseIdx i.toNat, upd_same, ?_, (ne_of_none hz n1).symm, fun k => k2 (List.mem_of_mem_eraseIdx k)⟩
      rw [hp1]
      unfold rv
      rw [erase_map]
/-- a shop with another field -/
def newShop (f : Nat) (v : Int) (sh : Shop) : Shop := if f = 0 then { sh with position := v } else if f = 1 then { sh with deadline := v.toNat } else { sh with loaves := v.toNat }
def oldField (f : Nat) (sh : Shop) : Int := if f = 0 then sh.position else if f = 1 then (sh.deadline : Int) else (sh.loaves : Int)
def fieldCode (f : Nat) (v : Int) (sh : Shop) : Nat := if f = 0 then Sr100.distance v sh.position else if f = 1 then sh.deadline else sh.loaves
theorem field_perform (s : Street) (i v : Int) {f : Nat} (hf : f ≤ 2) : Sr100.perform s (fieldCall f i v) =
    if Sr100.isShop s i = false then Sr100.error (-2) else if fieldOk f v = false then Sr100.error (-22) else (some (Sr100.withShop s i.toNat (newShop f v (shopAt s i.toNat))), Sr100.countResult (fieldCode f v (shopAt s i.toNat))) := by
  have hf : f = 0 ∨ f = 1 ∨ f = 2 := by omega
  rcases hf with rfl | rfl | rfl <;> rfl
theorem field_ne (i v : Int) (f : Nat) : ∀ d, fieldCall f i v ≠ .create d := by
  intro d
  unfold fieldCall
  split
  · intro h; cases h
  · split
    · intro h; cases h
    · intro h; cases h
theorem enc_set {f : Nat} (hf : f ≤ 2) {v : Int} (hv : fieldOk f v = true) (sh : Shop) : (iv (encShop sh)).set f (.int v) = iv (encShop (newShop f v sh)) := by
  have hf : f = 0 ∨ f = 1 ∨ f = 2 := by omega
  rcases hf with rfl | rfl | rfl
  · rfl
  · show [V.int sh.position, V.int v, V.int sh.loaves] = [V.int sh.position, V.int ((v.toNat : Nat) : Int), V.int sh.loaves]
    rw [time_nat (by have h : Sr100.isTime v = true := hv; rw [h]; simp)]
  · show [V.int sh.position, V.int sh.deadline, V.int v] = [V.int sh.position, V.int sh.deadline, V.int ((v.toNat : Nat) : Int)]
    rw [loaves_nat (by have h : Sr100.isLoaves v = true := hv; rw [h]; simp)]
theorem enc_old {f : Nat} (hf : f ≤ 2) (sh : Shop) : (iv (encShop sh))[f]? = some (.int (oldField f sh)) := by
  have hf : f = 0 ∨ f = 1 ∨ f = 2 := by omega
  rcases hf with rfl | rfl | rfl <;> rfl
theorem pure_set_field (T : Txt K mg C a_LOW a_HIGH a_NUMBERS a_WITH_ROUTE) : Pure (t_set_field K) (sp_set_field C) N_set_field := by
  intro vs H Q E h
  obtain ⟨x, s, i, v, f, rfl, hf, hI, q⟩ := h
  have ep := field_perform s i v hf
  obtain ⟨dx, a, hx, hs, h7⟩ := id hI
  have hs : Shops H a s.shops := hs
  obtain ⟨as, has, hR⟩ := id hs
  have hal : as.length = s.shops.length := by rw [hR.len, List.length_map]
  have h7 : s.shops.length ≤ 7 := h7
  refine ⟨_, rfl, ?_⟩
  refine ⟨_, rfl, x, C, dx, _, _, rfl, hx, T.cl, T.nS, insF_shops _ _, i, a, rv as, rfl, has, _, rfl, ?_⟩
  rw [List.length_map, hal]
  refine ite2 (fun c => ?_) (fun c => ?_)
  · exact q.err (step_err (field_ne i v f) (ep.trans (if_pos (of_not c)))) (Same.refl H) hI
  have c : Sr100.isShop s i = true := by
    show isIndex i s.shops.length = true
    simpa using c
  have ep := ep.trans (if_neg (by rw [c]; simp))
  obtain ⟨e1, e2⟩ := shop_nat c
  refine ⟨_, rfl, _, rfl, f, v, rfl, hf, _, rfl, ite2 (fun c2 => ?_) (fun c2 => ?_)⟩
  · exact q.err (step_err (field_ne i v f) (ep.trans (if_pos (by simpa using c2)))) (Same.refl H) hI
  have c2 : fieldOk f v = true := by simpa using c2
  have ep := ep.trans (if_neg (by rw [c2]; simp))
  obtain ⟨as', b, has', hb, hrow⟩ := hs.row e2
  rw [has] at has'
  have has' : rv as = rv as' := HO.lst.inj (Option.some.inj has')
  rw [← has'] at hb
  -- the field's value is read
  refine ⟨_, rfl, x, C, dx, _, _, rfl, hx, T.cl, T.nS, insF_shops _ _, _, rfl, a, rv as, i, _, rfl, rfl, SqL.of has, at_of e1.symm hb, _, rfl, b, _, _, _, rfl, rfl, SqL.of hrow, atI_nat (enc_old hf _), ?_⟩
  -- the two new lists
  refine ⟨_, rfl, x, C, dx, _, _, rfl, hx, T.cl, T.nS, insF_shops _ _, _, rfl, ?_⟩
  refine ⟨_, rfl, x, C, dx, _, _, rfl, hx, T.cl, T.nS, insF_shops _ _, _, rfl, a, rv as, i, _, rfl, rfl, SqL.of has, at_of e1.symm hb, _, rfl, _, rfl, b, _, f, _, rfl, hrow, (by show 3 ≤ 1000; decide), (by show f < 3; omega), fun H1 p1 s1 n1 h1 => ?_⟩
  rw [enc_set hf c2] at h1
  refine ⟨a, rv as, i.toNat, .ref p1, ?_, s1 _ _ has, by rw [List.length_map]; omega, by rw [List.length_map]; omega, fun H2 p2 s2 n2 h2 => ?_⟩
  · rw [e1]
    rfl
  have s12 := s1.trans s2
  have hx2 := s12 _ _ hx
  refine ⟨_, rfl, x, C, dx, _, rfl, hx2, T.cl, T.nS, (by show 2 < 1000; decide), ?_⟩
  rw [put_shops]
  have hpx : p2 ≠ x := (ne_of_none (s1 _ _ hx) n2).symm
  have fin : ∀ z : Int, z = (fieldCode f v (shopAt s i.toNat) : Int) → Q (.int z) (upd H2 x (.ins C dx (insF (dOf (some s)) p2))) := by
    rintro z rfl
    refine q.ok (step_ok (field_ne i v f) ep) ⟨dx, p2, upd_same, ⟨as.set i.toNat p1, ?_, ?_⟩, ?_⟩ ((SameBut.of s12).trans (SameBut.put _ _ _)) ?_
    · rw [upd_ne hpx, h2]
      unfold rv
      rw [List.map_set]
    · show Rows _ _ ((s.shops.set i.toNat _).map encShop)
      rw [List.map_set]
      exact ((hR.mono s12).set (IL.mono s2 h1)).but (SameBut.put _ _ _) hx2
    · show (s.shops.set i.toNat _).length ≤ 7
      rw [List.length_set]
      exact h7
    · intro z o hz _ hoff
      obtain ⟨k1, k2⟩ := hoff.get hx has
      refine ⟨C, dx, dOf (some s), p2, as.set i.toNat p1, upd_same, ?_, (ne_of_none (s1 _ _ hz) n2).symm, fun k => ?_⟩
      · rw [upd_ne hpx, h2]
        unfold rv
        rw [List.map_set]
      · rcases List.mem_or_eq_of_mem_set k with k | k
        · exact k2 k
        · exact ne_of_none hz n1 k
  refine ⟨_, rfl, rfl, _, rfl, ite2 (fun c3 => ?_) (fun c3 => ?_)⟩
  · have c3 : (f : Int) = 0 := V.int.inj (of_decide_eq_true c3)
    have c3 : f = 0 := by omega
    subst c3
    refine ⟨_, rfl, _, rfl, _, _, rfl, rfl, _, rfl, fin _ ?_⟩
    show (if v - (shopAt s i.toNat).position < 0 then -(v - (shopAt s i.toNat).position) else v - (shopAt s i.toNat).position) = ((v - (shopAt s i.toNat).position).natAbs : Int)
    exact abs_nat _
  · have c3 : ¬ f = 0 := fun h => c3 (decide_eq_true (by rw [h]; rfl))
    refine ⟨_, rfl, fin _ ?_⟩
    unfold oldField fieldCode
    rw [if_neg c3, if_neg c3]
    split <;> rfl
end
end Bs

/-! ## BsP6 -/
set_option Elab.async false
set_option linter.all false
set_option maxRecDepth 100000
set_option maxHeartbeats 4000000
namespace Bs
open PySem PySem.Spec PyProof.Rows L2
open Sr100 (Street Shop State shopAt arrivalTimesFrom finishTime isOnTime totalLoaves sortByDistance leftShops rightShops sweepingRoutes bestRoute bestShops)
open SrCommon (natsToInts intsToNats maskMembers inRange isIndex)
section
variable {K : PySem.W.Frag} {mg : Str → Option Value} {C a_LOW a_HIGH a_NUMBERS a_WITH_ROUTE : Addr}
theorem one_line : (1 : Nat) ≤ sizeLine := by decide
/-- a new list of one item is the answer -/
theorem newIL.one {H H' : Hp} {Q : VK} {z : Int} {l : List Int} (q : newIL H Q l) (e : l = [z]) (s : Same H H') : ∀ p, H' p = none → Q (.ref p) (upd H' p (.lst [.int z])) := fun p hp => by
  refine q _ p (s.trans (same_new hp)) (s.free hp) ?_
  rw [e]
  exact upd_same
theorem rg_is (n : Nat) : rgV 0 (n : Int) = iv (natsToInts (List.range n)) := by
  unfold rgV iv natsToInts
  rw [List.map_map, Int.sub_zero, Int.toNat_natCast]
  apply List.map_congr_left
  intro i _
  show V.int (0 + (i : Int)) = V.int (i : Int)
  rw [Int.zero_add]
theorem InsAt.all {H : Hp} {x : Addr} {s : Street} (h : InsAt C H x (some s)) : ∃ dx a as, H x = some (.ins C dx (insF (s.departure : Int) a)) ∧ Shops H a s.shops ∧ H a = some (.lst (rv as)) ∧ Rows H as (s.shops.map encShop) ∧ as.length = s.shops.length ∧ s.shops.length ≤ 7 := by
  obtain ⟨dx, a, hx, hs, h7⟩ := h
  obtain ⟨as, has, hR⟩ := id hs
  exact ⟨dx, a, as, hx, hs, has, hR, by rw [hR.len, List.length_map]; rfl, h7⟩
theorem pure_every (T : Txt K mg C a_LOW a_HIGH a_NUMBERS a_WITH_ROUTE) : Pure (t_every K) (sp_every C) N_every := by
  intro vs H Q E h
  obtain ⟨x, s, rfl, hI, q⟩ := h
  obtain ⟨dx, a, as, hx, hs, has, hR, hal, h7⟩ := hI.all
  refine ⟨_, rfl, x, C, dx, _, _, rfl, hx, T.cl, T.nS, insF_shops _ _, a, rv as, rfl, .inl (SqL.of has), _, rfl, ?_, fun p hp => ?_⟩
  · rw [List.length_map]
    exact RgOk.of_le (by omega) (by omega) (by omega) (by omega)
  · rw [List.length_map, hal, rg_is]
    exact q _ p (same_new hp) hp upd_same
theorem St_.all {H : Hp} {a r : Addr} {s : Street} (hs : Shops H a s.shops) (h7 : s.shops.length ≤ 7) (h : NL H r (Sr100.allShops s)) : St_ s H a r (Sr100.allShops s) :=
  ⟨⟨hs, h, fun i hi => List.mem_range.mp hi, by show (List.range _).length ≤ _; rw [List.length_range]; omega⟩, all_sorted s, by show (List.range _).length ≤ _; rw [List.length_range]; exact h7⟩
theorem best_rt {H : Hp} {a r p : Addr} {s : Street} {sm g : List Nat} (S : St_ s H a r sm) (e : bestRoute s sm = some g) {H' : Hp} (s1 : Same H H') (h : NL H' p g) : Rt s H' a p g := by
  have hp := route_perm s S.asc (best_mem s e).1
  exact ⟨S.sh.mono s1, h, fun i hi => S.lt i (hp.mem_iff.mp hi), by rw [hp.length_eq]; exact S.few⟩
theorem finish_none {s : Street} {sm : List Nat} (e : bestRoute s sm = none) : finishCode s sm = -33 := by
  unfold finishCode Sr100.earliestFinish
  rw [e]
  rfl
theorem finish_some {s : Street} {sm g : List Nat} (e : bestRoute s sm = some g) : finishCode s sm = (finishTime s g : Int) := by
  unfold finishCode Sr100.earliestFinish
  rw [e]
  rfl
theorem pure_earliest_finish (T : Txt K mg C a_LOW a_HIGH a_NUMBERS a_WITH_ROUTE) : Pure (t_earliest_finish K) (sp_earliest_finish C) N_earliest_finish := by
  intro vs H Q E h
  obtain ⟨x, r, s, sm, rfl, O, q⟩ := h
  obtain ⟨dx, a, as, hx, hs, has, hR, hal, h7⟩ := O.ins.all
  have S : St_ s H a r sm := ⟨⟨hs, O.rt, O.lt, Nat.le_trans O.seven (by decide)⟩, O.asc, O.seven⟩
  refine ⟨_, rfl, x, C, dx, _, _, rfl, hx, T.cl, T.nS, insF_shops _ _, _, rfl, x, C, dx, _, _, rfl, hx, T.cl, T.nD, insF_dep _ _, _, rfl, a, r, s, sm, rfl, S, fun e0 H1 s1 => ?_, fun g e0 H1 p s1 n1 h1 => ?_⟩
  · refine ⟨_, rfl, rfl, _, rfl, iteT ?_⟩
    exact ⟨one_line, q.one (by rw [finish_none e0]) s1⟩
  · have hx1 := s1 _ _ hx
    refine ⟨_, rfl, rfl, _, rfl, iteF ?_⟩
    refine ⟨_, rfl, x, C, dx, _, _, rfl, hx1, T.cl, T.nS, insF_shops _ _, _, rfl, x, C, dx, _, _, rfl, hx1, T.cl, T.nD, insF_dep _ _, _, rfl, a, p, s, g, rfl, best_rt S e0 s1 h1, fun H2 s2 => ?_⟩
    exact ⟨one_line, q.one (by rw [finish_some e0]) (s1.trans s2)⟩
theorem pure_ask_best_route (T : Txt K mg C a_LOW a_HIGH a_NUMBERS a_WITH_ROUTE) : Pure (t_ask_best_route K C) (sp_ask_best_route C) N_ask_best_route := by
  intro vs H Q E h
  obtain ⟨x, s, rfl, hI, q⟩ := h
  obtain ⟨dx, a, as, hx, hs, has, hR, hal, h7⟩ := hI.all
  refine ⟨_, rfl, x, C, dx, _, _, rfl, hx, T.cl, T.nS, insF_shops _ _, _, rfl, x, C, dx, _, _, rfl, hx, T.cl, T.nD, insF_dep _ _, _, rfl, x, s, rfl, hI, fun H1 r s1 n1 h1 => ?_⟩
  have S := St_.all (hs.mono s1) h7 h1
  refine ⟨a, r, s, _, rfl, S, fun e0 H2 s2 => ?_, fun g e0 H2 p s2 n2 h2 => ?_⟩
  · refine ⟨_, rfl, rfl, _, rfl, iteT ?_⟩
    refine ⟨one_line, newIL.one q ?_ (s1.trans s2)⟩
    unfold told Sr100.perform
    dsimp only
    rw [e0]
    rfl
  · have s12 := s1.trans s2
    have hx2 := s12 _ _ hx
    refine ⟨_, rfl, rfl, _, rfl, iteF ?_⟩
    refine ⟨_, rfl, x, C, dx, _, _, rfl, hx2, T.cl, T.nS, insF_shops _ _, _, rfl, x, C, dx, _, _, rfl, hx2, T.cl, T.nD, insF_dep _ _, _, rfl, a, p, s, g, rfl, best_rt S e0 s2 h2, fun H3 s3 => ?_⟩
    refine ⟨one_line, fun l hl => ⟨_, rfl, l, p, _, _, rfl, rfl, upd_same, (same_new hl) _ _ (s3 _ _ h2), ?_, fun l2 hl2 => ?_⟩⟩
    · rw [nv_len, (route_perm s S.asc (best_mem s e0).1).length_eq]
      have : (8 : Nat) ≤ sizeLine := by decide
      have := S.seven
      show 1 + _ ≤ sizeLine
      omega
    · have s5 := (s12.trans s3).trans (same_new (o := .lst [.int (finishTime s g : Int)]) hl)
      refine q _ l2 (s5.trans (same_new hl2)) (s5.free hl2) ?_
      show upd _ l2 _ l2 = _
      rw [upd_same]
      have e : told s .bestRoute = (finishTime s g : Int) :: natsToInts g := by
        unfold told Sr100.perform
        dsimp only
        rw [e0]
      rw [e]
      rfl
theorem route_nat : ∀ (l : List Int), (∀ i ∈ l, 0 ≤ i) → natsToInts (intsToNats l) = l
  | [], _ => rfl
  | i :: l, h => by
    show ((i.toNat : Nat) : Int) :: natsToInts (intsToNats l) = _
    rw [route_nat l fun j hj => h j (List.mem_cons_of_mem _ hj), Int.toNat_of_nonneg (h i List.mem_cons_self)]
theorem route_ok {H : Hp} {a r : Addr} {s : Street} {l : List Int} (hs : Shops H a s.shops) (h : IL H r l) (few : l.length ≤ 4400) (e : Sr100.isRoute s l = true) : Rt s H a r (intsToNats l) := by
  unfold Sr100.isRoute at e
  rw [Bool.and_eq_true, List.all_eq_true] at e
  have h0 : ∀ i ∈ l, 0 ≤ i ∧ i < s.shops.length := fun i hi => by
    have := e.2 i hi
    unfold Sr100.isShop isIndex at this
    rwa [Bool.and_eq_true, decide_eq_true_eq, decide_eq_true_eq] at this
  refine ⟨hs, ?_, fun i hi => ?_, ?_⟩
  · show IL H r (natsToInts (intsToNats l))
    rw [route_nat l fun i hi => (h0 i hi).1]
    exact h
  · obtain ⟨z, hz, rfl⟩ := List.mem_map.mp hi
    have := h0 z hz
    omega
  · show (l.map _).length ≤ 5000
    rw [List.length_map]
    omega
theorem pure_arrival_times (T : Txt K mg C a_LOW a_HIGH a_NUMBERS a_WITH_ROUTE) : Pure (t_arrival_times K) (sp_arrival_times C) N_arrival_times := by
  intro vs H Q E h
  obtain ⟨x, r, s, l, rfl, hI, hr, few, q⟩ := h
  obtain ⟨dx, a, as, hx, hs, has, hR, hal, h7⟩ := hI.all
  have et : told s (.arrivalTimes l) = (if Sr100.isRoute s l = false then SrCommon.Result.ofCode (-22) else ⟨(l.length : Int), natsToInts (Sr100.arrivalTimes s (intsToNats l))⟩).code :: (if Sr100.isRoute s l = false then SrCommon.Result.ofCode (-22) else ⟨(l.length : Int), natsToInts (Sr100.arrivalTimes s (intsToNats l))⟩).values := rfl
  refine ⟨_, rfl, _, rfl, x, C, dx, _, _, rfl, hx, T.cl, T.nS, insF_shops _ _, r, a, l, rv as, rfl, hr, has, by omega, fun H1 s1 => ?_⟩
  rw [List.length_map, hal]
  refine ⟨_, rfl, ite2 (fun c => ?_) (fun c => ?_)⟩
  · have c : Sr100.isRoute s l = false := of_not c
    refine ⟨one_line, newIL.one q ?_ s1⟩
    rw [et, if_pos c]
    rfl
  · have c : Sr100.isRoute s l = true := by
      show (decide l.Nodup && l.all fun i => isIndex i s.shops.length) = true
      simpa using c
    have hx1 := s1 _ _ hx
    have hr1 := hr.mono s1
    refine ⟨_, rfl, r, _, rfl, .inl (SqL.of hr1), one_line, fun p hp => ?_⟩
    have s2 := s1.trans (same_new (o := .lst [.int ((iv l).length : Int)]) hp)
    have hx2 := s2 _ _ hx
    refine ⟨_, rfl, x, C, dx, _, _, rfl, hx2, T.cl, T.nS, insF_shops _ _, _, rfl, x, C, dx, _, _, rfl, hx2, T.cl, T.nD, insF_dep _ _, _, rfl, a, r, s.departure, s, _, rfl, route_ok (hs.mono s2) (hr.mono s2) few c, fun H3 p3 s3 n3 h3 => ?_⟩
    refine ⟨p, p3, _, _, rfl, rfl, s3 _ _ upd_same, h3, ?_, fun p4 hp4 => ?_⟩
    · rw [nv_len, arr_len]
      have : (4401 : Nat) ≤ sizeLine := by decide
      show 1 + (l.map _).length ≤ sizeLine
      rw [List.length_map]
      omega
    · have s4 := s2.trans s3
      refine q _ p4 (s4.trans (same_new hp4)) (s4.free hp4) ?_
      show upd _ p4 _ p4 = _
      rw [upd_same, et, if_neg (by rw [c]; simp), iv_len]
      rfl
theorem pure_check_route (T : Txt K mg C a_LOW a_HIGH a_NUMBERS a_WITH_ROUTE) : Pure (t_check_route K) (sp_check_route C) N_check_route := by
  intro vs H Q E h
  obtain ⟨x, r, s, l, rfl, hI, hr, few, q⟩ := h
  obtain ⟨dx, a, as, hx, hs, has, hR, hal, h7⟩ := hI.all
  refine ⟨_, rfl, x, C, dx, _, _, rfl, hx, T.cl, T.nS, insF_shops _ _, _, rfl, x, C, dx, _, _, rfl, hx, T.cl, T.nD, insF_dep _ _, _, _, rfl, ?_⟩
  refine ⟨_, rfl, _, rfl, r, a, l, rv as, rfl, hr, has, by omega, fun H1 s1 => ?_⟩
  rw [List.length_map, hal]
  refine ⟨_, rfl, ite2 (fun c => ?_) (fun c => ?_)⟩
  · have c : Sr100.isRoute s l = false := of_not c
    refine ⟨one_line, newIL.one q ?_ s1⟩
    unfold told Sr100.perform
    dsimp only
    rw [if_pos c]
    rfl
  · have c : Sr100.isRoute s l = true := by
      show (decide l.Nodup && l.all fun i => isIndex i s.shops.length) = true
      simpa using c
    have R1 := route_ok (hs.mono s1) (hr.mono s1) few c
    refine ⟨_, rfl, _, rfl, _, rfl, a, r, s, _, rfl, R1, fun H2 s2 => ⟨_, rfl, ?_⟩⟩
    have R2 := R1.mono s2
    have go : ∀ z : Int, z = SrCommon.boolToInt (isOnTime s (intsToNats l)) → tRet (tLst (tCons (tVar 4) (tCons (tCall sp_finish_of [] E0 (tCons (tVar 2) (tCons (tVar 3) (tCons (tVar 1) tNil)))) (tCons (tCall sp_loaves_of [] E0 (tCons (tVar 2) (tCons (tVar 1) tNil))) tNil)))) { nx := fun _ H' => Q .non H', rt := Q } [some (.ref x), some (.ref r), some (.ref a), some (.int (s.departure : Int)), some (.int z)] H2 := by
      rintro z rfl
      refine ⟨_, rfl, _, rfl, _, rfl, _, rfl, a, r, s, _, rfl, R2, fun H3 s3 => ?_⟩
      refine ⟨_, rfl, _, rfl, a, r, s, _, rfl, R2.mono s3, fun H4 s4 => ?_⟩
      refine ⟨(by show 3 ≤ sizeLine; decide), fun p hp => ?_⟩
      have s5 := ((s1.trans s2).trans s3).trans s4
      refine q _ p (s5.trans (same_new hp)) (s5.free hp) ?_
      show upd _ p _ p = _
      rw [upd_same]
      have e : told s (.checkRoute l) = [SrCommon.boolToInt (isOnTime s (intsToNats l)), (finishTime s (intsToNats l) : Int), (totalLoaves s (intsToNats l) : Int)] := by
        unfold told Sr100.perform
        dsimp only
        rw [if_neg (by rw [c]; simp)]
      rw [e]
      rfl
    refine ite2 (fun c2 => ?_) (fun c2 => ?_)
    · exact go 1 (by rw [c2]; rfl)
    · exact go 0 (by rw [Bool.not_eq_true _ |>.mp c2]; rfl)
theorem rich_len (s : Street) (k : Nat) : (richRoute s k).length ≤ s.shops.length := by
  obtain ⟨r1, r2, r, hr⟩ := rich_ok s k
  have e : richRoute s k = r := by unfold richRoute; rw [hr]; rfl
  rw [e, (route_perm s r1 (best_mem s hr).1).length_eq]
  have hnd : (richAt s k).Nodup := r1.imp fun h => Nat.ne_of_lt h
  have := hnd.length_le_of_subset (l₂ := List.range s.shops.length) (fun x hx => List.mem_range.mpr (r2 x hx))
  rwa [List.length_range] at this
theorem pure_max_loaves (T : Txt K mg C a_LOW a_HIGH a_NUMBERS a_WITH_ROUTE) : Pure (t_max_loaves K) (sp_max_loaves C) N_max_loaves := by
  intro vs H Q E h
  obtain ⟨x, s, rfl, hI, q⟩ := h
  obtain ⟨dx, a, as, hx, hs, has, hR, hal, h7⟩ := hI.all
  refine ⟨_, rfl, x, C, dx, _, _, rfl, hx, T.cl, T.nS, insF_shops _ _, _, rfl, x, C, dx, _, _, rfl, hx, T.cl, T.nD, insF_dep _ _, a, s, rfl, hs, h7, fun H1 p s1 n1 h1 => ?_⟩
  have hx1 := s1 _ _ hx
  have h1 : NL H1 p (richRoute s (2 ^ s.shops.length)) := h1
  have hl := rich_len s (2 ^ s.shops.length)
  have R1 : Rt s H1 a p (richRoute s (2 ^ s.shops.length)) := ⟨hs.mono s1, h1, rich_lt s _, by omega⟩
  refine ⟨_, rfl, x, C, dx, _, _, rfl, hx1, T.cl, T.nS, insF_shops _ _, _, rfl, a, p, s, _, rfl, R1, fun H2 s2 => ?_⟩
  refine ⟨one_line, fun l hl1 => ⟨_, rfl, l, p, _, _, rfl, rfl, upd_same, (same_new hl1) _ _ (s2 _ _ h1), ?_, fun l2 hl2 => ?_⟩⟩
  · rw [nv_len]
    have : (8 : Nat) ≤ sizeLine := by decide
    show 1 + _ ≤ sizeLine
    omega
  · have s5 := (s1.trans s2).trans (same_new (o := .lst [.int (totalLoaves s (richRoute s (2 ^ s.shops.length)) : Int)]) hl1)
    refine q _ l2 (s5.trans (same_new hl2)) (s5.free hl2) ?_
    show upd _ l2 _ l2 = _
    rw [upd_same, rich_loaves]
    rfl
theorem time_values (t : Option Nat) : (Sr100.timeResult t).values = [] := by cases t <;> rfl
theorem pure_earliest_finish_of (T : Txt K mg C a_LOW a_HIGH a_NUMBERS a_WITH_ROUTE) : Pure (t_earliest_finish_of K C) (sp_earliest_finish_of C) N_earliest_finish_of := by
  intro vs H Q E h
  obtain ⟨x, s, m, rfl, hI, q⟩ := h
  obtain ⟨dx, a, as, hx, hs, has, hR, hal, h7⟩ := hI.all
  have hpw : ((1 : Int) * 2 ^ (((rv as).length : Int)).toNat) = ((2 ^ s.shops.length : Nat) : Int) := by
    rw [Int.one_mul, Int.toNat_natCast, List.length_map, hal]
    norm_cast
  have hl : (rv as).length = s.shops.length := by rw [List.length_map, hal]
  refine ⟨_, rfl, _, rfl, x, C, dx, _, _, rfl, hx, T.cl, T.nS, insF_shops _ _, a, rv as, rfl, .inl (SqL.of has), _, _, rfl, rfl, ⟨by omega, by omega, by decide⟩, _, _, rfl, rfl, m, 0, _, rfl, _, rfl, ite2 (fun c => ?_) (fun c => ?_)⟩
  · have c : inRange m 0 ((1 : Int) * 2 ^ (((rv as).length : Int)).toNat - 1) = false := of_not c
    rw [hpw] at c
    have c : m < 0 ∨ ((2 ^ s.shops.length : Nat) : Int) ≤ m := by
      unfold inRange at c
      rw [Bool.and_eq_false_iff, decide_eq_false_iff_not, decide_eq_false_iff_not] at c
      omega
    refine ⟨one_line, newIL.one q ?_ (Same.refl H)⟩
    unfold told Sr100.perform
    dsimp only
    rw [if_pos c]
    rfl
  · have c : inRange m 0 ((1 : Int) * 2 ^ (((rv as).length : Int)).toNat - 1) = true := by simpa using c
    rw [hpw] at c
    have c : 0 ≤ m ∧ ¬ (m < 0 ∨ ((2 ^ s.shops.length : Nat) : Int) ≤ m) := by
      unfold inRange at c
      rw [Bool.and_eq_true, decide_eq_true_eq, decide_eq_true_eq] at c
      omega
    have em : ((m.toNat : Nat) : Int) = m := Int.toNat_of_nonneg c.1
    refine ⟨_, rfl, _, rfl, _, rfl, x, C, dx, _, _, rfl, hx, T.cl, T.nS, insF_shops _ _, m.toNat, a, rv as, ?_, has, by omega, fun H1 p s1 n1 h1 => ?_⟩
    · rw [em]
      rfl
    rw [hl] at h1
    refine ⟨x, p, s, _, rfl, ⟨hI.mono s1, h1, fun i hi => mask_lt hi, mask_sorted _ _, Nat.le_trans (mask_len _ _) h7⟩, fun H2 p2 s2 n2 h2 => ?_⟩
    refine q _ p2 (s1.trans s2) (s1.free n2) ?_
    have e : told s (.earliestFinishOf m) = [finishCode s (maskMembers s.shops.length m.toNat)] := by
      unfold told Sr100.perform
      dsimp only
      rw [if_neg c.2, time_values]
      rfl
    rw [e]
    exact h2
theorem last_of {g : List Nat} (h : g ≠ []) : atI (iv (natsToInts g)) (-1) = some (V.int ((g.getLastD 0 : Nat) : Int)) ∧ g.getLastD 0 ∈ g := by
  rcases List.eq_nil_or_concat g with e | ⟨l, x, e⟩
  · exact absurd e h
  · subst e
    rw [List.concat_eq_append, ← nv_snoc, List.getLastD_concat]
    exact ⟨atI_last _ _, by simp⟩
theorem return_some {s : Street} {g : List Nat} (e : bestRoute s (Sr100.allShops s) = some g) : told s .returnTime = [((finishTime s g + (if g = [] then 0 else Sr100.distance (shopAt s (g.getLastD 0)).position 0) : Nat) : Int)] := by
  unfold told Sr100.perform
  dsimp only
  rw [e]
  cases g with
  | nil => rfl
  | cons n g => rw [if_neg (by simp)]; rfl
theorem pure_return_time (T : Txt K mg C a_LOW a_HIGH a_NUMBERS a_WITH_ROUTE) : Pure (t_return_time K C) (sp_return_time C) N_return_time := by
  intro vs H Q E h
  obtain ⟨x, s, rfl, hI, q⟩ := h
  obtain ⟨dx, a, as, hx, hs, has, hR, hal, h7⟩ := hI.all
  refine ⟨_, rfl, x, C, dx, _, _, rfl, hx, T.cl, T.nS, insF_shops _ _, _, rfl, x, C, dx, _, _, rfl, hx, T.cl, T.nD, insF_dep _ _, _, _, rfl, ?_⟩
  refine ⟨_, rfl, _, rfl, _, rfl, x, s, rfl, hI, fun H1 r s1 n1 h1 => ?_⟩
  have S := St_.all (hs.mono s1) h7 h1
  refine ⟨a, r, s, _, rfl, S, fun e0 H2 s2 => ?_, fun g e0 H2 p s2 n2 h2 => ?_⟩
  · refine ⟨_, rfl, rfl, _, rfl, iteT ?_⟩
    refine ⟨one_line, newIL.one q ?_ (s1.trans s2)⟩
    unfold told Sr100.perform
    dsimp only
    rw [e0]
    rfl
  · have s12 := s1.trans s2
    have R2 := best_rt S e0 s2 h2
    refine ⟨_, rfl, rfl, _, rfl, iteF ?_⟩
    have go : ∀ z : Int, z = ((if g = [] then 0 else Sr100.distance (shopAt s (g.getLastD 0)).position 0 : Nat) : Int) → tRet (tLst (tCons (tOp rPlus (tCall sp_finish_of [] E0 (tCons (tVar 1) (tCons (tVar 2) (tCons (tVar 3) tNil)))) (tVar 4)) tNil)) { nx := fun _ H' => Q .non H', rt := Q } [some (.ref x), some (.ref a), some (.int (s.departure : Int)), some (.ref p), some (.int z)] H2 := by
      rintro z rfl
      refine ⟨_, rfl, _, rfl, _, rfl, a, p, s, g, rfl, R2, fun H3 s3 => ?_⟩
      refine ⟨_, rfl, _, _, rfl, rfl, one_line, newIL.one q ?_ (s12.trans s3)⟩
      rw [return_some e0]
      rfl
    refine ⟨_, rfl, p, _, rfl, .inl (SqL.of h2), _, _, rfl, rfl, _, rfl, ite2 (fun c => ?_) (fun c => ?_)⟩
    · have c := of_decide_eq_true c
      rw [nv_len] at c
      have hg : g ≠ [] := by
        rintro rfl
        exact absurd c (by decide)
      obtain ⟨e1, e2⟩ := last_of hg
      obtain ⟨bs, b, k1, k2, k3⟩ := R2.sh.row (R2.lt _ e2)
      refine ⟨_, rfl, _, rfl, _, rfl, p, _, _, _, rfl, rfl, SqL.of h2, e1, a, rv bs, _, _, rfl, rfl, SqL.of k1, atI_nat k2, b, _, _, _, rfl, rfl, SqL.of k3, atI0 (enc_pos _), _, rfl, ?_⟩
      refine go _ ?_
      rw [if_neg hg, abs_nat]
      show _ = (((shopAt s (g.getLastD 0)).position - 0).natAbs : Int)
      rw [Int.sub_zero]
    · have c : ¬ (0 : Int) < ((iv (natsToInts g)).length : Int) := fun h => c (decide_eq_true h)
      rw [nv_len] at c
      have hg : g = [] := List.eq_nil_of_length_eq_zero (by omega)
      exact go 0 (by rw [if_pos hg]; rfl)
theorem pure_earliest_finish_without (T : Txt K mg C a_LOW a_HIGH a_NUMBERS a_WITH_ROUTE) : Pure (t_earliest_finish_without K C) (sp_earliest_finish_without C) N_earliest_finish_without := by
  intro vs H Q E h
  obtain ⟨x, s, i, rfl, hI, q⟩ := h
  obtain ⟨dx, a, as, hx, hs, has, hR, hal, h7⟩ := hI.all
  refine ⟨_, rfl, _, rfl, x, C, dx, _, _, rfl, hx, T.cl, T.nS, insF_shops _ _, i, a, rv as, rfl, has, _, rfl, ?_⟩
  rw [List.length_map, hal]
  refine ite2 (fun c => ?_) (fun c => ?_)
  · have c : Sr100.isShop s i = false := of_not c
    refine ⟨one_line, newIL.one q ?_ (Same.refl H)⟩
    unfold told Sr100.perform
    dsimp only
    rw [if_pos c]
    rfl
  · have c : Sr100.isShop s i = true := by
      show isIndex i s.shops.length = true
      simpa using c
    obtain ⟨e1, e2⟩ := shop_nat c
    refine ⟨_, rfl, _, rfl, x, s, rfl, hI, fun H1 r s1 n1 h1 => ?_⟩
    have hrl : (iv (natsToInts (Sr100.allShops s))).length = s.shops.length := by
      rw [nv_len]
      exact List.length_range
    refine ⟨_, rfl, r, _, i.toNat, ?_, h1, by omega, fun H2 p s2 n2 h2 => ?_⟩
    · rw [e1]
      rfl
    have s12 := s1.trans s2
    have h2 : NL H2 p ((Sr100.allShops s).filter fun j => j != i.toNat) := by
      show H2 p = _
      rw [h2]
      show some (HO.lst (((natsToInts (List.range s.shops.length)).map V.int).eraseIdx i.toNat)) = _
      rw [erase_map, show natsToInts (List.range s.shops.length) = (List.range s.shops.length).map (fun (x : Nat) => (x : Int)) from rfl, erase_map, without_is]
      rfl
    refine ⟨x, p, s, _, rfl, ⟨hI.mono s12, h2, fun j hj => List.mem_range.mp (List.mem_filter.mp hj).1, without_sorted _ _, ?_⟩, fun H3 p3 s3 n3 h3 => ?_⟩
    · refine Nat.le_trans (List.length_filter_le _ _) ?_
      show (List.range _).length ≤ 7
      rw [List.length_range]
      exact h7
    refine q _ p3 (s12.trans s3) (s12.free n3) ?_
    have e : told s (.earliestFinishWithout i) = [finishCode s ((Sr100.allShops s).filter fun j => j != i.toNat)] := by
      unfold told Sr100.perform
      dsimp only
      rw [if_neg (by rw [c]; simp), time_values]
      rfl
    rw [e]
    exact h3
theorem pure_describe (T : Txt K mg C a_LOW a_HIGH a_NUMBERS a_WITH_ROUTE) : Pure (t_describe K) (sp_describe C) N_describe := by
  intro vs H Q E h
  obtain ⟨x, s, rfl, hI, q⟩ := h
  obtain ⟨dx, a, as, hx, hs, has, hR, hal, h7⟩ := hI.all
  refine ⟨_, rfl, x, C, dx, _, _, rfl, hx, T.cl, T.nD, insF_dep _ _, _, rfl, x, C, dx, _, _, rfl, hx, T.cl, T.nS, insF_shops _ _, a, rv as, rfl, .inl (SqL.of has), (by show 2 ≤ sizeLine; decide), fun p hp => ?_⟩
  have s0 := same_new (o := .lst [.int (s.departure : Int), .int ((rv as).length : Int)]) hp
  have hl : (rv as).length = s.shops.length := by rw [List.length_map, hal]
  refine ⟨_, rfl, x, C, dx, _, _, rfl, s0 _ _ hx, T.cl, T.nS, insF_shops _ _, a, rfl, ⟨_, SqL.of (s0 _ _ has)⟩, for_list (K := K) (a := a) (xs := rv as)
    (fun i σ H' => ∃ v2, σ = [some (.ref x), some (.ref p), v2] ∧ Same H H' ∧ IL H' p ((s.departure : Int) :: (s.shops.length : Int) :: (s.shops.take i).flatMap encShop))
    ⟨none, rfl, s0, ?_⟩ (fun i σ H' _ ⟨_, _, s1, _⟩ => SqL.of (s1 _ _ has)) ?_ ?_⟩
  · show upd _ p _ p = _
    rw [upd_same, hl]
    rfl
  · rintro i y σ H1 hi ⟨v2, rfl, s1, h1⟩
    obtain ⟨b, hb, rfl⟩ := rv_at hi
    have hi2 : i < s.shops.length := by rw [← hal]; exact lt_at hb
    obtain ⟨sh, hsh⟩ : ∃ sh, s.shops[i]? = some sh := ⟨_, List.getElem?_eq_getElem hi2⟩
    have hrow : IL H b (encShop sh) := hR.at_ i b _ hb (by rw [List.getElem?_map, hsh]; rfl)
    refine ⟨_, rfl, .inl ⟨rfl, _, SqL.of h1⟩, _, rfl, p, b, _, _, rfl, rfl, h1, hrow.mono s1, ?_, _, rfl, same_at s1 hp, ?_⟩
    · rw [iv_len, iv_len]
      have e3 : ∀ L : List Shop, (L.flatMap encShop).length = 3 * L.length := by
        intro L
        induction L with
        | nil => rfl
        | cons y L ih =>
          rw [List.flatMap_cons, List.length_append, ih, List.length_cons]
          show 3 + _ = _
          omega
      rw [List.length_cons, List.length_cons, e3]
      have := List.length_take_le i s.shops
      have : (100 : Nat) ≤ sizeLine := by decide
      show 3 * (s.shops.take i).length + 1 + 1 + 3 ≤ sizeLine
      omega
    · show upd H1 p _ p = _
      rw [upd_same, take_more hsh, List.flatMap_append, List.flatMap_cons, List.flatMap_nil, List.append_nil, ← iv_append]
      rfl
  · rintro σ H1 ⟨v2, rfl, s1, h1⟩
    rw [hl, List.take_length] at h1
    exact ⟨_, rfl, q _ p s1 hp h1⟩
theorem pure_ask_latest (T : Txt K mg C a_LOW a_HIGH a_NUMBERS a_WITH_ROUTE) : Pure (t_ask_latest K C) (sp_ask_latest C) N_ask_latest := by
  intro vs H Q E h
  obtain ⟨x, s, rfl, hI, q⟩ := h
  obtain ⟨dx, a, as, hx, hs, has, hR, hal, h7⟩ := hI.all
  refine ⟨_, rfl, x, C, dx, _, _, rfl, hx, T.cl, T.nS, insF_shops _ _, _, rfl, x, s, rfl, hI, fun H1 r s1 n1 h1 => ?_⟩
  have S := St_.all (hs.mono s1) h7 h1
  refine ⟨a, r, s, _, rfl, S, fun m hm hu H2 s2 => ?_⟩
  have e := latest_is s m hm hu
  have et : told s .latestDeparture = [if 0 ≤ m then m else -33] := by
    unfold told Sr100.perform
    dsimp only
    rw [time_values, e]
    by_cases c : 0 ≤ m
    · rw [if_pos c, if_pos c]
      show [((m.toNat : Nat) : Int)] = _
      rw [Int.toNat_of_nonneg c]
    · rw [if_neg c, if_neg c]
      rfl
  refine ⟨_, rfl, _, _, rfl, rfl, _, rfl, ite2 (fun c => ?_) (fun c => ?_)⟩
  · have c := of_decide_eq_true c
    exact ⟨_, rfl, one_line, newIL.one q (by rw [et, if_pos c]) (s1.trans s2)⟩
  · have c : ¬ (0 : Int) ≤ m := fun h => c (decide_eq_true h)
    exact ⟨one_line, newIL.one q (by rw [et, if_neg c]) (s1.trans s2)⟩
end
end Bs

/-! ## BsP7 -/
set_option Elab.async false
set_option linter.all false
set_option maxRecDepth 100000
set_option maxHeartbeats 4000000
namespace Bs
open PySem PySem.Spec PyProof.Rows L2
open Sr100 (Street Shop State shopAt arrivalTimesFrom finishTime isOnTime totalLoaves sortByDistance leftShops rightShops sweepingRoutes bestRoute bestShops)
open SrCommon (natsToInts intsToNats maskMembers inRange isIndex)
section
variable {K : PySem.W.Frag} {mg : Str → Option Value} {C a_LOW a_HIGH a_NUMBERS a_WITH_ROUTE : Addr}
theorem ifeq {a b : Int} {A B : Prop} (h : a = b) (q : A) : if decide (V.int a = V.int b) = true then A else B := by
  rw [if_pos (decide_eq_true (congrArg V.int h))]
  exact q
theorem ifne {a b : Int} {A B : Prop} (h : a ≠ b) (q : B) : if decide (V.int a = V.int b) = true then A else B := by
  rw [if_neg (fun e => h (V.int.inj (of_decide_eq_true e)))]
  exact q
theorem SameBut.free {x C dx l : Addr} {fs : List (Str × V)} {H H' : Hp} (s : SameBut x H H') (hx : H' x = some (.ins C dx fs)) (h : H' l = none) : H l = none := by
  cases e : H l with
  | none => rfl
  | some o =>
    have hl : l ≠ x := by
      rintro rfl
      rw [hx] at h
      cases h
    rw [s l o e hl] at h
    cases h
theorem InsAt.obj {H : Hp} {x : Addr} {st : State} (h : InsAt C H x st) : ∃ dx fs, H x = some (.ins C dx fs) := by
  obtain ⟨dx, a, hx, _⟩ := h
  exact ⟨dx, _, hx⟩
theorem pure_end_of (T : Txt K mg C a_LOW a_HIGH a_NUMBERS a_WITH_ROUTE) : Pure (t_end_of K a_WITH_ROUTE) (sp_end_of K) N_end_of := by
  intro vs H Q E h
  obtain ⟨a, l, b, c, rfl, hl, q⟩ := h
  have e : inV (.int c) [.int 9, .int 10] = decide (c ∈ ([9, 10] : List Int)) := inV_ints c [9, 10]
  refine ⟨_, rfl, a_WITH_ROUTE, _, rfl, .inr (T.s_WITH_ROUTE _), rfl, rfl, _, rfl, ?_⟩
  rw [if_neg Bool.false_ne_true, e]
  refine ite2 (fun k => ?_) (fun k => ?_)
  · have k : c = 9 ∨ c = 10 := by simpa using k
    rw [if_pos k] at q
    obtain ⟨n, hn, q⟩ := q
    exact ⟨_, rfl, _, _, rfl, rfl, _, rfl, _, rfl, a, _, _, _, rfl, rfl, hl, atI_nat (iv_get hn), _, _, rfl, rfl, q⟩
  · have k : ¬ (c = 9 ∨ c = 10) := by simpa using k
    rw [if_neg k] at q
    exact ⟨_, rfl, q⟩
theorem pure_answer_edit : Pure (t_answer_edit K C) (sp_answer_edit C) N_answer_edit := by
  intro vs H Q E h
  obtain ⟨x, g, s, c, n, gl, rl, rfl, henc, h1, h6, hI, hg, q⟩ := h
  have g0 : ∀ {z : Int} {l : List Int} {G : V → Hp → Prop}, gl = z :: l → G (.int z) H → rIxL K (.ref g) (.int 0) H G := fun {z l G} e k => ⟨g, _, _, _, rfl, rfl, SqL.of hg, atI0 (by rw [e]; rfl), k⟩
  have g1 : ∀ {y z : Int} {l : List Int} {G : V → Hp → Prop}, gl = y :: z :: l → G (.int z) H → rIxL K (.ref g) (.int 1) H G := fun {y z l G} e k => ⟨g, _, _, _, rfl, rfl, SqL.of hg, atI1 (by rw [e]; rfl), k⟩
  cases henc with
  | addShop a b d => exact ⟨_, rfl, rfl, _, rfl, ifeq rfl ⟨_, rfl, _, rfl, x, g, s, a, b, d, rfl, hI, hg, q⟩⟩
  | removeShop a => exact ⟨_, rfl, rfl, _, rfl, ifne (by decide) ⟨_, rfl, rfl, _, rfl, ifeq rfl ⟨_, rfl, _, rfl, g0 rfl ⟨x, s, a, rfl, hI, q.weak⟩⟩⟩⟩
  | setPosition a b => exact ⟨_, rfl, rfl, _, rfl, ifne (by decide) ⟨_, rfl, rfl, _, rfl, ifne (by decide) ⟨_, rfl, rfl, _, rfl, ifne (by decide) ⟨_, rfl, _, rfl, g, _, _, _, rfl, rfl, SqL.of hg, atI0 rfl, _, rfl, _, _, rfl, rfl, _, rfl, g, _, _, _, rfl, rfl, SqL.of hg, atI1 rfl, ⟨x, s, a, b, 0, rfl, by decide, hI, q.weak⟩⟩⟩⟩⟩
  | setDeadline a b => exact ⟨_, rfl, rfl, _, rfl, ifne (by decide) ⟨_, rfl, rfl, _, rfl, ifne (by decide) ⟨_, rfl, rfl, _, rfl, ifne (by decide) ⟨_, rfl, _, rfl, g, _, _, _, rfl, rfl, SqL.of hg, atI0 rfl, _, rfl, _, _, rfl, rfl, _, rfl, g, _, _, _, rfl, rfl, SqL.of hg, atI1 rfl, ⟨x, s, a, b, 1, rfl, by decide, hI, q.weak⟩⟩⟩⟩⟩
  | setLoaves a b => exact ⟨_, rfl, rfl, _, rfl, ifne (by decide) ⟨_, rfl, rfl, _, rfl, ifne (by decide) ⟨_, rfl, rfl, _, rfl, ifne (by decide) ⟨_, rfl, _, rfl, g, _, _, _, rfl, rfl, SqL.of hg, atI0 rfl, _, rfl, _, _, rfl, rfl, _, rfl, g, _, _, _, rfl, rfl, SqL.of hg, atI1 rfl, ⟨x, s, a, b, 2, rfl, by decide, hI, q.weak⟩⟩⟩⟩⟩
  | setDeparture a => exact ⟨_, rfl, rfl, _, rfl, ifne (by decide) ⟨_, rfl, rfl, _, rfl, ifne (by decide) ⟨_, rfl, rfl, _, rfl, ifeq rfl ⟨_, rfl, _, rfl, g0 rfl ⟨x, s, a, rfl, hI, q.weak⟩⟩⟩⟩⟩
  | _ => omega
theorem pure_answer_question : Pure (t_answer_question K C) (sp_answer_question C) N_answer_question := by
  intro vs H Q E h
  obtain ⟨x, g, r, s, c, n, gl, rl, rfl, henc, h7, hI, hg, hr, q⟩ := h
  have g0 : ∀ {z : Int} {l : List Int} {G : V → Hp → Prop}, gl = z :: l → G (.int z) H → rIxL K (.ref g) (.int 0) H G := fun {z l G} e k => ⟨g, _, _, _, rfl, rfl, SqL.of hg, atI0 (by rw [e]; rfl), k⟩
  obtain ⟨dx, a, as, hx, hs, has, hR, hal, h7s⟩ := hI.all
  cases henc with
  | earliestFinish =>
    refine ⟨_, rfl, rfl, _, rfl, ifeq rfl ⟨_, rfl, _, rfl, x, s, rfl, hI, fun H1 p s1 n1 h1 => ⟨x, p, s, _, rfl, ⟨hI.mono s1, h1, fun i hi => List.mem_range.mp hi, all_sorted s, ?_⟩, fun H2 p2 s2 n2 h2 => ?_⟩⟩⟩
    · show (List.range _).length ≤ 7
      rw [List.length_range]
      exact h7s
    · refine q _ p2 (s1.trans s2) (s1.free n2) ?_
      have e : told s .earliestFinish = [finishCode s (Sr100.allShops s)] := by
        unfold told Sr100.perform
        dsimp only
        rw [time_values]
        rfl
      rw [e]
      exact h2
  | bestRoute => exact ⟨_, rfl, rfl, _, rfl, ifne (by decide) ⟨_, rfl, rfl, _, rfl, ifeq rfl ⟨_, rfl, x, s, rfl, hI, q⟩⟩⟩
  | arrivalTimes _ hl => exact ⟨_, rfl, rfl, _, rfl, ifne (by decide) ⟨_, rfl, rfl, _, rfl, ifne (by decide) ⟨_, rfl, rfl, _, rfl, ifeq rfl ⟨_, rfl, _, rfl, x, r, s, _, rfl, hI, hr, hl, q⟩⟩⟩⟩
  | checkRoute _ hl => exact ⟨_, rfl, rfl, _, rfl, ifne (by decide) ⟨_, rfl, rfl, _, rfl, ifne (by decide) ⟨_, rfl, rfl, _, rfl, ifne (by decide) ⟨_, rfl, rfl, _, rfl, ifeq rfl ⟨_, rfl, _, rfl, x, r, s, _, rfl, hI, hr, hl, q⟩⟩⟩⟩⟩
  | maxLoaves => exact ⟨_, rfl, rfl, _, rfl, ifne (by decide) ⟨_, rfl, rfl, _, rfl, ifne (by decide) ⟨_, rfl, rfl, _, rfl, ifne (by decide) ⟨_, rfl, rfl, _, rfl, ifne (by decide) ⟨_, rfl, rfl, _, rfl, ifeq rfl ⟨_, rfl, x, s, rfl, hI, q⟩⟩⟩⟩⟩⟩
  | earliestFinishOf m => exact ⟨_, rfl, rfl, _, rfl, ifne (by decide) ⟨_, rfl, rfl, _, rfl, ifne (by decide) ⟨_, rfl, rfl, _, rfl, ifne (by decide) ⟨_, rfl, rfl, _, rfl, ifne (by decide) ⟨_, rfl, rfl, _, rfl, ifne (by decide) ⟨_, rfl, rfl, _, rfl, ifeq rfl ⟨_, rfl, _, rfl, g0 rfl ⟨x, s, m, rfl, hI, q⟩⟩⟩⟩⟩⟩⟩⟩
  | latestDeparture => exact ⟨_, rfl, rfl, _, rfl, ifne (by decide) ⟨_, rfl, rfl, _, rfl, ifne (by decide) ⟨_, rfl, rfl, _, rfl, ifne (by decide) ⟨_, rfl, rfl, _, rfl, ifne (by decide) ⟨_, rfl, rfl, _, rfl, ifne (by decide) ⟨_, rfl, rfl, _, rfl, ifne (by decide) ⟨_, rfl, rfl, _, rfl, ifeq rfl ⟨_, rfl, x, s, rfl, hI, q⟩⟩⟩⟩⟩⟩⟩⟩
  | returnTime => exact ⟨_, rfl, rfl, _, rfl, ifne (by decide) ⟨_, rfl, rfl, _, rfl, ifne (by decide) ⟨_, rfl, rfl, _, rfl, ifne (by decide) ⟨_, rfl, rfl, _, rfl, ifne (by decide) ⟨_, rfl, rfl, _, rfl, ifne (by decide) ⟨_, rfl, rfl, _, rfl, ifne (by decide) ⟨_, rfl, rfl, _, rfl, ifne (by decide) ⟨_, rfl, rfl, _, rfl, ifeq rfl ⟨_, rfl, x, s, rfl, hI, q⟩⟩⟩⟩⟩⟩⟩⟩⟩
  | earliestFinishWithout i => exact ⟨_, rfl, rfl, _, rfl, ifne (by decide) ⟨_, rfl, rfl, _, rfl, ifne (by decide) ⟨_, rfl, rfl, _, rfl, ifne (by decide) ⟨_, rfl, rfl, _, rfl, ifne (by decide) ⟨_, rfl, rfl, _, rfl, ifne (by decide) ⟨_, rfl, rfl, _, rfl, ifne (by decide) ⟨_, rfl, rfl, _, rfl, ifne (by decide) ⟨_, rfl, rfl, _, rfl, ifne (by decide) ⟨_, rfl, rfl, _, rfl, ifeq rfl ⟨_, rfl, _, rfl, g0 rfl ⟨x, s, i, rfl, hI, q⟩⟩⟩⟩⟩⟩⟩⟩⟩⟩⟩
  | describe => exact ⟨_, rfl, rfl, _, rfl, ifne (by decide) ⟨_, rfl, rfl, _, rfl, ifne (by decide) ⟨_, rfl, rfl, _, rfl, ifne (by decide) ⟨_, rfl, rfl, _, rfl, ifne (by decide) ⟨_, rfl, rfl, _, rfl, ifne (by decide) ⟨_, rfl, rfl, _, rfl, ifne (by decide) ⟨_, rfl, rfl, _, rfl, ifne (by decide) ⟨_, rfl, rfl, _, rfl, ifne (by decide) ⟨_, rfl, rfl, _, rfl, ifne (by decide) ⟨_, rfl, x, s, rfl, hI, q⟩⟩⟩⟩⟩⟩⟩⟩⟩⟩
  | _ => omega
theorem pure_answer (T : Txt K mg C a_LOW a_HIGH a_NUMBERS a_WITH_ROUTE) : Pure (t_answer K C) (sp_answer C) N_answer := by
  intro vs H Q E h
  obtain ⟨x, g, r, st, c, n, gl, rl, rfl, henc, hI, hg, hr, q⟩ := h
  -- what an edit hands back lies in a new list
  have fin : ∀ {H1 : Hp}, (Sr100.step st c).2.values = [] → InsAt C H1 x (Sr100.step st c).1 → SameBut x H H1 → Keeps x (fun z => z = g) H H1 → ∀ l, H1 l = none → Q (.ref l) (upd H1 l (.lst [.int (Sr100.step st c).2.code])) := by
    intro H1 hv hI1 s1 k1 l hl
    obtain ⟨dx, fs, hx⟩ := hI1.obj
    refine q _ l (hI1.mono (same_new hl)) (s1.trans (.of (same_new hl))) (fun z o hz hG hoff => (k1 z o hz hG hoff).mono (same_new hl)) (s1.free hx hl) ?_
    show upd H1 l _ l = _
    rw [upd_same, hv]
    rfl
  by_cases hn : n = 0
  · cases henc with
    | create a =>
      refine ⟨_, rfl, rfl, _, rfl, ifeq rfl ⟨_, rfl, _, rfl, g, _, _, _, rfl, rfl, SqL.of hg, atI0 rfl, x, st, a, rfl, hI, fun H1 hI1 s1 k1 => ⟨one_line, fin ?_ hI1 s1 fun z o hz _ => k1 z o hz id⟩⟩⟩
      exact edit_values (Enc.create a rl) (by decide)
    | _ => exact absurd hn (by decide)
  · obtain ⟨dx, a, hx, hrest⟩ := id hI
    refine ⟨_, rfl, rfl, _, rfl, ifne hn ⟨_, rfl, x, dx, _, rfl, hx, insF_exists _ _, x, st, rfl, hI, _, rfl, ?_⟩⟩
    cases st with
    | none =>
      refine iteT ⟨one_line, fun l hl => ?_⟩
      have e := none_step henc hn
      rw [e] at fin
      exact fin rfl hI (SameBut.refl x H) (.of (Same.refl H)) l hl
    | some s =>
      refine iteF ?_
      refine ⟨_, rfl, _, _, rfl, rfl, _, rfl, ite2 (fun k => ?_) (fun k => ?_)⟩
      · have k := of_decide_eq_true k
        have h1 : 1 ≤ n := by
          cases henc <;> first | exact absurd rfl hn | decide
        exact ⟨_, rfl, _, rfl, _, rfl, x, g, s, c, n, gl, rl, rfl, henc, h1, k, hI, hg, fun H1 hI1 s1 k1 => ⟨one_line, fin (edit_values henc k) hI1 s1 k1⟩⟩
      · have k : ¬ n ≤ 6 := fun h => k (decide_eq_true h)
        have e := ask_step (s := s) henc (by omega)
        refine ⟨_, rfl, _, rfl, _, rfl, _, rfl, x, g, r, s, c, n, gl, rl, rfl, henc, by omega, hI, hg, hr, fun H1 p s1 n1 h1 => ?_⟩
        rw [e] at q
        exact q H1 p (hI.mono s1) (.of s1) (.of s1) n1 h1
theorem cut_ints (l : List Int) (lo hi : Option Int) : ∃ m : List Int, cutV (iv l) lo hi = iv m := ⟨(l.drop (HT.sIx (iv l).length 0 lo)).take (HT.sIx (iv l).length (iv l).length hi - HT.sIx (iv l).length 0 lo), by
  unfold cutV
  rw [iv_drop, iv_take]⟩
theorem cut_mid (l : List Int) (i n : Nat) : cutV (iv l) (some (i : Int)) (some ((i + n : Nat) : Int)) = iv ((l.drop i).take n) := by
  unfold cutV
  rw [HT.sIx_nat, HT.sIx_nat, iv_len, iv_drop, iv_take]
  by_cases h : i ≤ l.length
  · rw [Nat.min_eq_left h]
    congr 1
    by_cases h2 : i + n ≤ l.length
    · rw [Nat.min_eq_left h2, Nat.add_sub_cancel_left]
    · rw [Nat.min_eq_right (by omega), List.take_of_length_le (by rw [List.length_drop]; omega), List.take_of_length_le (by rw [List.length_drop]; omega)]
  · rw [Nat.min_eq_right (show l.length ≤ i by omega), List.drop_of_length_le (Nat.le_refl _), List.drop_of_length_le (show l.length ≤ i by omega), List.take_nil, List.take_nil]
theorem same_but {x : Addr} {H H1 H2 : Hp} (s : Same H H1) (hx : H x = none) (b : SameBut x H1 H2) : Same H H2 := fun c o h => b c o (s c o h) (ne_of_none h hx)
/-- the loop's word: m numbers are left -/
def Wst (C : Addr) (ns : List Int) (a x fo : Addr) (H : Hp) (m : Nat) (σ : L2.St) (H' : Hp) : Prop :=
  ∃ (place : Nat) (v4 v5 v6 v7 : Option V) (st : State) (f : Nat) (cs : List (List (List Int))) (out : List Int),
    σ = [some (.ref a), some (.ref x), some (.ref fo), some (.int (place : Int)), v4, v5, v6, v7] ∧ m = ns.length - place ∧ Same H H' ∧ InsAt C H' x st ∧ Off H' x fo ∧ IL H' fo out ∧ place ≤ ns.length ∧
      PyFlat.calls PySr100.shape f (ns.drop place) = some cs ∧ out ++ due st cs = PySr100.answers ns
theorem big {n m : Nat} (h : n ≤ 10000000) (hm : m ≤ n) : m < sizeLine := Nat.lt_of_le_of_lt (Nat.le_trans hm h) (by decide)
theorem pure_answers (T : Txt K mg C a_LOW a_HIGH a_NUMBERS a_WITH_ROUTE) : Pure (t_answers K C a_NUMBERS) (sp_answers K) N_answers := by
  intro vs H Q E h
  obtain ⟨a, ns, rfl, hS, hasked, hlen, q⟩ := h
  obtain ⟨cs0, hcs0, hdue, hbig⟩ := answers_due hasked
  -- a new instance
  intro x dx nx nd ne
  refine ⟨x, dx, rfl, upd_same, fun H1 hI1 b1 => ⟨rfl, ?_⟩⟩
  have s1 : Same H H1 := Same.made nx nd b1
  -- the answer begins empty
  refine ⟨Nat.zero_le _, fun fo hfo => ?_⟩
  have hfon : H fo = none := s1.free hfo
  have s2 : Same H (upd H1 fo (.lst [])) := s1.trans (same_new hfo)
  have hoff0 : Off (upd H1 fo (.lst [])) x fo := by
    obtain ⟨dx1, a1, hx1, ⟨as1, has1, hR1⟩, _⟩ := hI1
    have e : as1 = [] := List.eq_nil_of_length_eq_zero hR1.len
    exact ⟨C, dx1, _, a1, as1, (same_new hfo) _ _ hx1, (same_new hfo) _ _ has1, ne_of_none has1 hfo, by rw [e]; exact List.not_mem_nil⟩
  refine ⟨Wst C ns a x fo H, ⟨_, 0, none, none, none, none, none, ns.length, cs0, [], rfl, rfl, s2, hI1.mono (same_new hfo), hoff0, upd_same, Nat.zero_le _, hcs0, hdue.symm⟩, ?_⟩
  rintro m σ H2 ⟨place, v4, v5, v6, v7, st, f, cs, out, rfl, rfl, s3, hI, hoff, hf, hpl, hcs, hout⟩
  have hS2 := s3.seq hS
  refine ⟨_, rfl, _, rfl, a, _, rfl, .inl hS2, _, _, rfl, rfl, _, rfl, ite2 (fun k => ?_) (fun k => ?_)⟩
  · have k : (place : Int) < ((iv ns).length : Int) := of_decide_eq_true k
    rw [iv_len] at k
    have k : place < ns.length := by omega
    obtain ⟨p, hp⟩ : ∃ p, ns[place]? = some p := ⟨_, List.getElem?_eq_getElem k⟩
    have hdrop : ns.drop place = p :: ns.drop (place + 1) := by
      obtain ⟨h1, h2⟩ := List.getElem?_eq_some_iff.mp hp
      rw [List.drop_eq_getElem_cons h1, h2]
    rw [hdrop] at hcs
    obtain ⟨f', c, t, cs', hc, hcs', rfl⟩ := calls_cons hcs
    obtain ⟨n, call, O⟩ := one_of hc
    obtain ⟨k9, hk9, hnum⟩ := O.num
    have hle := O.le
    rw [List.length_drop] at hle
    refine ⟨fun σ' H' => ∃ m', m' < ns.length - place ∧ Wst C ns a x fo H m' σ' H', fun _ _ h => h, ?_⟩
    -- the call's number, and the place behind its numbers
    refine ⟨_, rfl, _, rfl, a, _, _, _, rfl, rfl, hS2, atI_nat (iv_get hp), ?_⟩
    refine ⟨_, rfl, _, _, rfl, rfl, _, rfl, a_NUMBERS, _, _, _, rfl, rfl, T.s_NUMBERS _, at_of hk9 (iv_get hnum), _, _, rfl, rfl, ?_⟩
    have eb : (place : Int) + 1 + (n : Int) = ((place + 1 + n : Nat) : Int) := by omega
    -- the place behind its route
    have key : ∃ e : Nat, (if p = 9 ∨ p = 10 then ∃ m : Int, ns[place + 1 + n]? = some m ∧ ((place + 1 + n : Nat) : Int) + 1 + m = (e : Int) else ((place + 1 + n : Nat) : Int) = (e : Int)) ∧ place < e ∧ e ≤ ns.length ∧ ns.drop e = t ∧
        ∃ rl : List Int, cutV (iv ns) (some (((place + 1 + n : Nat) : Int) + 1)) (some (e : Int)) = iv rl ∧ Enc call p ((ns.drop (place + 1)).take n) rl := by
      rcases O.way with ⟨⟨n9, n10⟩, ht, henc⟩ | ⟨h910, hn0, m, r', hr, hm0, hml, ht, henc⟩
      · obtain ⟨rl, hrl⟩ := cut_ints ns (some (((place + 1 + n : Nat) : Int) + 1)) (some ((place + 1 + n : Nat) : Int))
        refine ⟨place + 1 + n, ?_, by omega, by omega, ?_, rl, hrl, henc rl⟩
        · rw [if_neg (by omega)]
        · rw [ht, List.drop_drop]
      · subst hn0
        have hr' : ns.drop (place + 1 + 1) = r' := by
          rw [← List.drop_drop, hr]
          rfl
        have hrl : ns.length - (place + 1) = r'.length + 1 := by
          rw [← List.length_drop, hr]
          rfl
        have hm : ns[place + 1]? = some m := by
          have : (ns.drop (place + 1))[0]? = some m := by rw [hr]; rfl
          rwa [List.getElem?_drop] at this
        refine ⟨place + 1 + 1 + m.toNat, ?_, by omega, by omega, ?_, r'.take m.toNat, ?_, henc (by omega)⟩
        · rw [if_pos h910]
          exact ⟨m, hm, by omega⟩
        · rw [ht, ← hr', List.drop_drop]
        · rw [show ((place + 1 + 0 : Nat) : Int) + 1 = ((place + 1 + 1 : Nat) : Int) by omega, cut_mid, hr']
    obtain ⟨e, hend, hlt, hel, het, rl, hcut, henc⟩ := key
    refine ⟨_, rfl, _, rfl, _, rfl, a, ns, place + 1 + n, p, ?_, hS2, ?_⟩
    · show [V.ref a, V.int ((place : Int) + 1 + (n : Int)), V.int p] = _
      rw [eb]
    have go : ∀ z : Int, z = (e : Int) → tSeq (tAsg (tCall (sp_answer C) [] E0 (tCons (tVar 1) (tCons (tVar 4) (tCons (tSl (rSlL K) (tVar 0) (tPart (tOp rPlus (tVar 3) (tC (.int 1)))) (tPart (tVar 5))) (tCons (tSl (rSlL K) (tVar 0) (tPart (tOp rPlus (tVar 5) (tC (.int 1)))) (tPart (tVar 6))) tNil))))) (gName 7))
        (tSeq (tDrop (tBM K "list" rAppend (tVar 2) (tCons (tCB (rLen K) (tCons (tVar 7) tNil)) tNil)))
        (tSeq (tDrop (tBM K "list" rExtend (tVar 2) (tCons (tVar 7) tNil)))
        (tAsg (tVar 6) (gName 3))))
        { nx := fun σ' H' => ∃ m', m' < ns.length - place ∧ Wst C ns a x fo H m' σ' H', rt := Q }
        [some (.ref a), some (.ref x), some (.ref fo), some (.int (place : Int)), some (.int p), some (.int ((place : Int) + 1 + (n : Int))), some (.int z), v7] H2 := by
      rintro z rfl
      have c1 : cutV (iv ns) (some ((place : Int) + 1)) (some ((place : Int) + 1 + (n : Int))) = iv ((ns.drop (place + 1)).take n) := by
        rw [eb, show (place : Int) + 1 = ((place + 1 : Nat) : Int) by omega, cut_mid]
      have c2 : cutV (iv ns) (some ((place : Int) + 1 + (n : Int) + 1)) (some (e : Int)) = iv rl := by
        rw [eb, hcut]
      refine ⟨_, rfl, _, rfl, _, rfl, _, rfl, _, _, rfl, rfl, _, rfl, _, rfl, _, rfl, a, iv ns, rfl, hS2, fun g hg => ?_⟩
      rw [c1]
      have s4 := same_new (o := .lst (iv ((ns.drop (place + 1)).take n))) hg
      refine ⟨_, rfl, _, rfl, _, _, rfl, rfl, _, rfl, _, rfl, _, rfl, a, iv ns, rfl, s4.seq hS2, fun r hr => ?_⟩
      rw [c2]
      have s5 := s4.trans (same_new (o := .lst (iv rl)) hr)
      refine ⟨x, g, r, st, call, p, _, rl, rfl, henc, hI.mono s5, (same_new hr) _ _ upd_same, upd_same, fun H5 p2 hI5 b5 k5 n5 h5 => ?_⟩
      obtain ⟨dx5, fs5, hx5⟩ := (hI.mono s5).obj
      have hf5 : IL H5 fo out := (hf.mono s5).but b5 hx5
      have hgf : ¬ fo = g := fun h => ne_of_none hf hg h
      have hoff5 := k5 fo _ (hf.mono s5) hgf (hoff.mono s5)
      have s6 : Same H H5 := same_but (s3.trans s5) nx b5
      have hdc := due_cons (st := st) (cs := cs') O.parse
      rw [hdc] at hout
      have hlen5 : out.length + 1 + ((Sr100.step st call).2.code :: (Sr100.step st call).2.values).length ≤ (PySr100.answers ns).length := by
        rw [← hout]
        simp only [List.length_append, List.length_cons]
        omega
      refine ⟨_, rfl, .inl ⟨rfl, _, SqL.of hf5⟩, _, rfl, p2, _, rfl, .inl (SqL.of h5), fo, _, _, rfl, rfl, hf5, ?_, ?_⟩
      · rw [iv_len]
        exact big hbig (by omega)
      have hp2 : p2 ≠ fo := (ne_of_none (hf.mono s5) n5).symm
      have h5' : upd H5 fo (.lst (iv out ++ [V.int ((iv ((Sr100.step st call).2.code :: (Sr100.step st call).2.values)).length : Int)])) p2 = some (.lst (iv ((Sr100.step st call).2.code :: (Sr100.step st call).2.values))) := by
        rw [upd_ne hp2]
        exact h5
      refine ⟨_, rfl, .inl ⟨rfl, _, SqL.of upd_same⟩, _, rfl, fo, p2, _, _, rfl, rfl, upd_same, h5', ?_, ?_⟩
      · rw [List.length_append, iv_len, iv_len]
        exact Nat.le_of_lt (big hbig hlen5)
      refine ⟨_, rfl, ns.length - e, by omega, e, _, _, _, _, (Sr100.step st call).1, f', cs', out ++ [(((Sr100.step st call).2.code :: (Sr100.step st call).2.values).length : Int)] ++ ((Sr100.step st call).2.code :: (Sr100.step st call).2.values), rfl, rfl, ?_, ?_, ?_, ?_, hel, ?_, ?_⟩
      · exact same_at (same_at s6 hfon) hfon
      · obtain ⟨dxo, ao, hxo, ⟨aso, haso, hRo⟩, h7o⟩ := hI5
        obtain ⟨k1, k2⟩ := hoff5.get hxo haso
        have hfx : x ≠ fo := ne_of hxo hf5 (by intro z; cases z)
        have hk2 : ∀ b ∈ aso, b ≠ fo := fun b hb e => k2 (by rw [← e]; exact hb)
        refine ⟨dxo, ao, ?_, ⟨aso, ?_, (hRo.off hk2).off hk2⟩, h7o⟩
        · rw [upd_ne hfx, upd_ne hfx]
          exact hxo
        · rw [upd_ne k1, upd_ne k1]
          exact haso
      · obtain ⟨dxo, ao, hxo, ⟨aso, haso, hRo⟩, h7o⟩ := hI5
        obtain ⟨k1, k2⟩ := hoff5.get hxo haso
        have hfx : x ≠ fo := ne_of hxo hf5 (by intro z; cases z)
        refine ⟨C, dxo, dOf (Sr100.step st call).1, ao, aso, ?_, ?_, k1, k2⟩
        · rw [upd_ne hfx, upd_ne hfx]
          exact hxo
        · rw [upd_ne k1, upd_ne k1]
          exact haso
      · show upd _ fo _ fo = _
        rw [upd_same, iv_len, iv_append, iv_append]
        rfl
      · rw [het]
        exact hcs'
      · rw [← hout]
        simp
    by_cases h910 : p = 9 ∨ p = 10
    · rw [if_pos h910] at hend ⊢
      obtain ⟨m, hm, he⟩ := hend
      exact ⟨m, hm, go _ he⟩
    · rw [if_neg h910] at hend ⊢
      exact go _ hend
  · have k : ¬ (place : Int) < ((iv ns).length : Int) := fun h => k (decide_eq_true h)
    rw [iv_len] at k
    have hd : ns.drop place = [] := List.drop_of_length_le (by omega)
    rw [hd] at hcs
    have := calls_nil hcs
    subst this
    rw [due_nil, List.append_nil] at hout
    refine ⟨_, rfl, q _ fo ?_⟩
    rw [← hout]
    exact hf
end
end Bs

/-! ## BsMk -/
set_option Elab.async false
set_option linter.all false
set_option maxRecDepth 100000
set_option maxHeartbeats 4000000
namespace Bs
open PySem PySem.Spec PyProof.Rows L2
/-! ### the end: what the top has written, every address a letter (printed by gen.py) -/
theorem sqt_of {K : PySem.W.Frag} {a : Addr} {d : Option Addr} {its : Array Value} {n : Nat} {sl : Array (Option Value)} {xs : List V} (l : K.lookup a = some ⟨.type "tuple", d, .seq its n, sl⟩) (h : its.size ≤ sizeLine) (v : Vals xs its.toList) : ∀ H, SqT K H a xs :=
  fun _ => .inr ⟨_, its, n, l, rfl, rfl, h, v⟩
theorem all_mk {P : Program} {w : World} {K : PySem.W.Frag} {h : Heap} {mg : Str → Option Value} {fa C a_LOW a_HIGH a_NUMBERS a_WITH_ROUTE : Addr} (X : K.In h) (G : h.Ns mainGlobals mg) (hfa : mg "answers" = some (.ref fa)) (aC : PySem.W.nsIn K mainGlobals "Instance" = some (some (.ref C)))
    {f_is_within : Addr} {od_is_within an_is_within : Option Addr} {sl_is_within : Array (Option Value)} {oc_is_within kV_is_within dc_is_within pm_is_within cd_is_within ct_is_within : Value}
    (a_is_within : PySem.W.nsIn K mainGlobals "is_within" = some (some (.ref f_is_within)))
    (l_is_within : K.lookup f_is_within = some ⟨oc_is_within, od_is_within, .func (PySem.W.fnOf "is_within" "is_within" (defArgs s_is_within) (defBody s_is_within) (defScope s_is_within) .none kV_is_within dc_is_within pm_is_within an_is_within cd_is_within ct_is_within), sl_is_within⟩) (c_is_within : PySem.W.codeIn K cd_is_within "is_within" = true) (k_is_within : PySem.W.keepIn K (.ref f_is_within) = true)
    {f_is_index : Addr} {od_is_index an_is_index : Option Addr} {sl_is_index : Array (Option Value)} {oc_is_index kV_is_index dc_is_index pm_is_index cd_is_index ct_is_index : Value}
    (a_is_index : PySem.W.nsIn K mainGlobals "is_index" = some (some (.ref f_is_index)))
    (l_is_index : K.lookup f_is_index = some ⟨oc_is_index, od_is_index, .func (PySem.W.fnOf "is_index" "is_index" (defArgs s_is_index) (defBody s_is_index) (defScope s_is_index) .none kV_is_index dc_is_index pm_is_index an_is_index cd_is_index ct_is_index), sl_is_index⟩) (c_is_index : PySem.W.codeIn K cd_is_index "is_index" = true) (k_is_index : PySem.W.keepIn K (.ref f_is_index) = true)
    {f_are_indices : Addr} {od_are_indices an_are_indices : Option Addr} {sl_are_indices : Array (Option Value)} {oc_are_indices kV_are_indices dc_are_indices pm_are_indices cd_are_indices ct_are_indices : Value}
    (a_are_indices : PySem.W.nsIn K mainGlobals "are_indices" = some (some (.ref f_are_indices)))
    (l_are_indices : K.lookup f_are_indices = some ⟨oc_are_indices, od_are_indices, .func (PySem.W.fnOf "are_indices" "are_indices" (defArgs s_are_indices) (defBody s_are_indices) (defScope s_are_indices) .none kV_are_indices dc_are_indices pm_are_indices an_are_indices cd_are_indices ct_are_indices), sl_are_indices⟩) (c_are_indices : PySem.W.codeIn K cd_are_indices "are_indices" = true) (k_are_indices : PySem.W.keepIn K (.ref f_are_indices) = true)
    {f_members : Addr} {od_members an_members : Option Addr} {sl_members : Array (Option Value)} {oc_members kV_members dc_members pm_members cd_members ct_members : Value}
    (a_members : PySem.W.nsIn K mainGlobals "members" = some (some (.ref f_members)))
    (l_members : K.lookup f_members = some ⟨oc_members, od_members, .func (PySem.W.fnOf "members" "members" (defArgs s_members) (defBody s_members) (defScope s_members) .none kV_members dc_members pm_members an_members cd_members ct_members), sl_members⟩) (c_members : PySem.W.codeIn K cd_members "members" = true) (k_members : PySem.W.keepIn K (.ref f_members) = true)
    {f_without : Addr} {od_without an_without : Option Addr} {sl_without : Array (Option Value)} {oc_without kV_without dc_without pm_without cd_without ct_without : Value}
    (a_without : PySem.W.nsIn K mainGlobals "without" = some (some (.ref f_without)))
    (l_without : K.lookup f_without = some ⟨oc_without, od_without, .func (PySem.W.fnOf "without" "without" (defArgs s_without) (defBody s_without) (defScope s_without) .none kV_without dc_without pm_without an_without cd_without ct_without), sl_without⟩) (c_without : PySem.W.codeIn K cd_without "without" = true) (k_without : PySem.W.keepIn K (.ref f_without) = true)
    {f_replaced : Addr} {od_replaced an_replaced : Option Addr} {sl_replaced : Array (Option Value)} {oc_replaced kV_replaced dc_replaced pm_replaced cd_replaced ct_replaced : Value}
    (a_replaced : PySem.W.nsIn K mainGlobals "replaced" = some (some (.ref f_replaced)))
    (l_replaced : K.lookup f_replaced = some ⟨oc_replaced, od_replaced, .func (PySem.W.fnOf "replaced" "replaced" (defArgs s_replaced) (defBody s_replaced) (defScope s_replaced) .none kV_replaced dc_replaced pm_replaced an_replaced cd_replaced ct_replaced), sl_replaced⟩) (c_replaced : PySem.W.codeIn K cd_replaced "replaced" = true) (k_replaced : PySem.W.keepIn K (.ref f_replaced) = true)
    {f_arrivals : Addr} {od_arrivals an_arrivals : Option Addr} {sl_arrivals : Array (Option Value)} {oc_arrivals kV_arrivals dc_arrivals pm_arrivals cd_arrivals ct_arrivals : Value}
    (a_arrivals : PySem.W.nsIn K mainGlobals "arrivals" = some (some (.ref f_arrivals)))
    (l_arrivals : K.lookup f_arrivals = some ⟨oc_arrivals, od_arrivals, .func (PySem.W.fnOf "arrivals" "arrivals" (defArgs s_arrivals) (defBody s_arrivals) (defScope s_arrivals) .none kV_arrivals dc_arrivals pm_arrivals an_arrivals cd_arrivals ct_arrivals), sl_arrivals⟩) (c_arrivals : PySem.W.codeIn K cd_arrivals "arrivals" = true) (k_arrivals : PySem.W.keepIn K (.ref f_arrivals) = true)
    {f_finish_of : Addr} {od_finish_of an_finish_of : Option Addr} {sl_finish_of : Array (Option Value)} {oc_finish_of kV_finish_of dc_finish_of pm_finish_of cd_finish_of ct_finish_of : Value}
    (a_finish_of : PySem.W.nsIn K mainGlobals "finish_of" = some (some (.ref f_finish_of)))
    (l_finish_of : K.lookup f_finish_of = some ⟨oc_finish_of, od_finish_of, .func (PySem.W.fnOf "finish_of" "finish_of" (defArgs s_finish_of) (defBody s_finish_of) (defScope s_finish_of) .none kV_finish_of dc_finish_of pm_finish_of an_finish_of cd_finish_of ct_finish_of), sl_finish_of⟩) (c_finish_of : PySem.W.codeIn K cd_finish_of "finish_of" = true) (k_finish_of : PySem.W.keepIn K (.ref f_finish_of) = true)
    {f_is_on_time : Addr} {od_is_on_time an_is_on_time : Option Addr} {sl_is_on_time : Array (Option Value)} {oc_is_on_time kV_is_on_time dc_is_on_time pm_is_on_time cd_is_on_time ct_is_on_time : Value}
    (a_is_on_time : PySem.W.nsIn K mainGlobals "is_on_time" = some (some (.ref f_is_on_time)))
    (l_is_on_time : K.lookup f_is_on_time = some ⟨oc_is_on_time, od_is_on_time, .func (PySem.W.fnOf "is_on_time" "is_on_time" (defArgs s_is_on_time) (defBody s_is_on_time) (defScope s_is_on_time) .none kV_is_on_time dc_is_on_time pm_is_on_time an_is_on_time cd_is_on_time ct_is_on_time), sl_is_on_time⟩) (c_is_on_time : PySem.W.codeIn K cd_is_on_time "is_on_time" = true) (k_is_on_time : PySem.W.keepIn K (.ref f_is_on_time) = true)
    {f_loaves_of : Addr} {od_loaves_of an_loaves_of : Option Addr} {sl_loaves_of : Array (Option Value)} {oc_loaves_of kV_loaves_of dc_loaves_of pm_loaves_of cd_loaves_of ct_loaves_of : Value}
    (a_loaves_of : PySem.W.nsIn K mainGlobals "loaves_of" = some (some (.ref f_loaves_of)))
    (l_loaves_of : K.lookup f_loaves_of = some ⟨oc_loaves_of, od_loaves_of, .func (PySem.W.fnOf "loaves_of" "loaves_of" (defArgs s_loaves_of) (defBody s_loaves_of) (defScope s_loaves_of) .none kV_loaves_of dc_loaves_of pm_loaves_of an_loaves_of cd_loaves_of ct_loaves_of), sl_loaves_of⟩) (c_loaves_of : PySem.W.codeIn K cd_loaves_of "loaves_of" = true) (k_loaves_of : PySem.W.keepIn K (.ref f_loaves_of) = true)
    {f_by_distance : Addr} {od_by_distance an_by_distance : Option Addr} {sl_by_distance : Array (Option Value)} {oc_by_distance kV_by_distance dc_by_distance pm_by_distance cd_by_distance ct_by_distance : Value}
    (a_by_distance : PySem.W.nsIn K mainGlobals "by_distance" = some (some (.ref f_by_distance)))
    (l_by_distance : K.lookup f_by_distance = some ⟨oc_by_distance, od_by_distance, .func (PySem.W.fnOf "by_distance" "by_distance" (defArgs s_by_distance) (defBody s_by_distance) (defScope s_by_distance) .none kV_by_distance dc_by_distance pm_by_distance an_by_distance cd_by_distance ct_by_distance), sl_by_distance⟩) (c_by_distance : PySem.W.codeIn K cd_by_distance "by_distance" = true) (k_by_distance : PySem.W.keepIn K (.ref f_by_distance) = true)
    {f_left_ones : Addr} {od_left_ones an_left_ones : Option Addr} {sl_left_ones : Array (Option Value)} {oc_left_ones kV_left_ones dc_left_ones pm_left_ones cd_left_ones ct_left_ones : Value}
    (a_left_ones : PySem.W.nsIn K mainGlobals "left_ones" = some (some (.ref f_left_ones)))
    (l_left_ones : K.lookup f_left_ones = some ⟨oc_left_ones, od_left_ones, .func (PySem.W.fnOf "left_ones" "left_ones" (defArgs s_left_ones) (defBody s_left_ones) (defScope s_left_ones) .none kV_left_ones dc_left_ones pm_left_ones an_left_ones cd_left_ones ct_left_ones), sl_left_ones⟩) (c_left_ones : PySem.W.codeIn K cd_left_ones "left_ones" = true) (k_left_ones : PySem.W.keepIn K (.ref f_left_ones) = true)
    {f_right_ones : Addr} {od_right_ones an_right_ones : Option Addr} {sl_right_ones : Array (Option Value)} {oc_right_ones kV_right_ones dc_right_ones pm_right_ones cd_right_ones ct_right_ones : Value}
    (a_right_ones : PySem.W.nsIn K mainGlobals "right_ones" = some (some (.ref f_right_ones)))
    (l_right_ones : K.lookup f_right_ones = some ⟨oc_right_ones, od_right_ones, .func (PySem.W.fnOf "right_ones" "right_ones" (defArgs s_right_ones) (defBody s_right_ones) (defScope s_right_ones) .none kV_right_ones dc_right_ones pm_right_ones an_right_ones cd_right_ones ct_right_ones), sl_right_ones⟩) (c_right_ones : PySem.W.codeIn K cd_right_ones "right_ones" = true) (k_right_ones : PySem.W.keepIn K (.ref f_right_ones) = true)
    {f_taken_from : Addr} {od_taken_from an_taken_from : Option Addr} {sl_taken_from : Array (Option Value)} {oc_taken_from kV_taken_from dc_taken_from pm_taken_from cd_taken_from ct_taken_from : Value}
    (a_taken_from : PySem.W.nsIn K mainGlobals "taken_from" = some (some (.ref f_taken_from)))
    (l_taken_from : K.lookup f_taken_from = some ⟨oc_taken_from, od_taken_from, .func (PySem.W.fnOf "taken_from" "taken_from" (defArgs s_taken_from) (defBody s_taken_from) (defScope s_taken_from) .none kV_taken_from dc_taken_from pm_taken_from an_taken_from cd_taken_from ct_taken_from), sl_taken_from⟩) (c_taken_from : PySem.W.codeIn K cd_taken_from "taken_from" = true) (k_taken_from : PySem.W.keepIn K (.ref f_taken_from) = true)
    {f_longer_routes : Addr} {od_longer_routes an_longer_routes : Option Addr} {sl_longer_routes : Array (Option Value)} {oc_longer_routes kV_longer_routes dc_longer_routes pm_longer_routes cd_longer_routes ct_longer_routes : Value}
    (a_longer_routes : PySem.W.nsIn K mainGlobals "longer_routes" = some (some (.ref f_longer_routes)))
    (l_longer_routes : K.lookup f_longer_routes = some ⟨oc_longer_routes, od_longer_routes, .func (PySem.W.fnOf "longer_routes" "longer_routes" (defArgs s_longer_routes) (defBody s_longer_routes) (defScope s_longer_routes) .none kV_longer_routes dc_longer_routes pm_longer_routes an_longer_routes cd_longer_routes ct_longer_routes), sl_longer_routes⟩) (c_longer_routes : PySem.W.codeIn K cd_longer_routes "longer_routes" = true) (k_longer_routes : PySem.W.keepIn K (.ref f_longer_routes) = true)
    {f_sweeping_routes : Addr} {od_sweeping_routes an_sweeping_routes : Option Addr} {sl_sweeping_routes : Array (Option Value)} {oc_sweeping_routes kV_sweeping_routes dc_sweeping_routes pm_sweeping_routes cd_sweeping_routes ct_sweeping_routes : Value}
    (a_sweeping_routes : PySem.W.nsIn K mainGlobals "sweeping_routes" = some (some (.ref f_sweeping_routes)))
    (l_sweeping_routes : K.lookup f_sweeping_routes = some ⟨oc_sweeping_routes, od_sweeping_routes, .func (PySem.W.fnOf "sweeping_routes" "sweeping_routes" (defArgs s_sweeping_routes) (defBody s_sweeping_routes) (defScope s_sweeping_routes) .none kV_sweeping_routes dc_sweeping_routes pm_sweeping_routes an_sweeping_routes cd_sweeping_routes ct_sweeping_routes), sl_sweeping_routes⟩) (c_sweeping_routes : PySem.W.codeIn K cd_sweeping_routes "sweeping_routes" = true) (k_sweeping_routes : PySem.W.keepIn K (.ref f_sweeping_routes) = true)
    {f_best_route : Addr} {od_best_route an_best_route : Option Addr} {sl_best_route : Array (Option Value)} {oc_best_route kV_best_route dc_best_route pm_best_route cd_best_route ct_best_route : Value}
    (a_best_route : PySem.W.nsIn K mainGlobals "best_route" = some (some (.ref f_best_route)))
    (l_best_route : K.lookup f_best_route = some ⟨oc_best_route, od_best_route, .func (PySem.W.fnOf "best_route" "best_route" (defArgs s_best_route) (defBody s_best_route) (defScope s_best_route) .none kV_best_route dc_best_route pm_best_route an_best_route cd_best_route ct_best_route), sl_best_route⟩) (c_best_route : PySem.W.codeIn K cd_best_route "best_route" = true) (k_best_route : PySem.W.keepIn K (.ref f_best_route) = true)
    {f_richest_route : Addr} {od_richest_route an_richest_route : Option Addr} {sl_richest_route : Array (Option Value)} {oc_richest_route kV_richest_route dc_richest_route pm_richest_route cd_richest_route ct_richest_route : Value}
    (a_richest_route : PySem.W.nsIn K mainGlobals "richest_route" = some (some (.ref f_richest_route)))
    (l_richest_route : K.lookup f_richest_route = some ⟨oc_richest_route, od_richest_route, .func (PySem.W.fnOf "richest_route" "richest_route" (defArgs s_richest_route) (defBody s_richest_route) (defScope s_richest_route) .none kV_richest_route dc_richest_route pm_richest_route an_richest_route cd_richest_route ct_richest_route), sl_richest_route⟩) (c_richest_route : PySem.W.codeIn K cd_richest_route "richest_route" = true) (k_richest_route : PySem.W.keepIn K (.ref f_richest_route) = true)
    {f_latest_for : Addr} {od_latest_for an_latest_for : Option Addr} {sl_latest_for : Array (Option Value)} {oc_latest_for kV_latest_for dc_latest_for pm_latest_for cd_latest_for ct_latest_for : Value}
    (a_latest_for : PySem.W.nsIn K mainGlobals "latest_for" = some (some (.ref f_latest_for)))
    (l_latest_for : K.lookup f_latest_for = some ⟨oc_latest_for, od_latest_for, .func (PySem.W.fnOf "latest_for" "latest_for" (defArgs s_latest_for) (defBody s_latest_for) (defScope s_latest_for) .none kV_latest_for dc_latest_for pm_latest_for an_latest_for cd_latest_for ct_latest_for), sl_latest_for⟩) (c_latest_for : PySem.W.codeIn K cd_latest_for "latest_for" = true) (k_latest_for : PySem.W.keepIn K (.ref f_latest_for) = true)
    {f_latest_departure : Addr} {od_latest_departure an_latest_departure : Option Addr} {sl_latest_departure : Array (Option Value)} {oc_latest_departure kV_latest_departure dc_latest_departure pm_latest_departure cd_latest_departure ct_latest_departure : Value}
    (a_latest_departure : PySem.W.nsIn K mainGlobals "latest_departure" = some (some (.ref f_latest_departure)))
    (l_latest_departure : K.lookup f_latest_departure = some ⟨oc_latest_departure, od_latest_departure, .func (PySem.W.fnOf "latest_departure" "latest_departure" (defArgs s_latest_departure) (defBody s_latest_departure) (defScope s_latest_departure) .none kV_latest_departure dc_latest_departure pm_latest_departure an_latest_departure cd_latest_departure ct_latest_departure), sl_latest_departure⟩) (c_latest_departure : PySem.W.codeIn K cd_latest_departure "latest_departure" = true) (k_latest_departure : PySem.W.keepIn K (.ref f_latest_departure) = true)
    {f_init : Addr} {od_init an_init : Option Addr} {sl_init : Array (Option Value)} {oc_init kV_init dc_init pm_init cd_init ct_init : Value}
    (a_init : PySem.W.findIn K (.ref C) "__init__" = some (some (.ref f_init))) (i_init : PySem.W.isFn K (.ref f_init) = true)
    (l_init : K.lookup f_init = some ⟨oc_init, od_init, .func (PySem.W.fnOf "__init__" "Instance.__init__" (defArgs s_init) (defBody s_init) (defScope s_init) .none kV_init dc_init pm_init an_init cd_init ct_init), sl_init⟩) (c_init : PySem.W.codeIn K cd_init "Instance.__init__" = true) (k_init : PySem.W.keepIn K (.ref f_init) = true)
    {f_exists : Addr} {od_exists an_exists : Option Addr} {sl_exists : Array (Option Value)} {oc_exists kV_exists dc_exists pm_exists cd_exists ct_exists : Value}
    (a_exists : PySem.W.findIn K (.ref C) "exists" = some (some (.ref f_exists))) (i_exists : PySem.W.isFn K (.ref f_exists) = true)
    (l_exists : K.lookup f_exists = some ⟨oc_exists, od_exists, .func (PySem.W.fnOf "exists" "Instance.exists" (defArgs s_exists) (defBody s_exists) (defScope s_exists) .none kV_exists dc_exists pm_exists an_exists cd_exists ct_exists), sl_exists⟩) (c_exists : PySem.W.codeIn K cd_exists "Instance.exists" = true) (k_exists : PySem.W.keepIn K (.ref f_exists) = true)
    {f_is_departure : Addr} {od_is_departure an_is_departure : Option Addr} {sl_is_departure : Array (Option Value)} {oc_is_departure kV_is_departure dc_is_departure pm_is_departure cd_is_departure ct_is_departure : Value}
    (a_is_departure : PySem.W.nsIn K mainGlobals "is_departure" = some (some (.ref f_is_departure)))
    (l_is_departure : K.lookup f_is_departure = some ⟨oc_is_departure, od_is_departure, .func (PySem.W.fnOf "is_departure" "is_departure" (defArgs s_is_departure) (defBody s_is_departure) (defScope s_is_departure) .none kV_is_departure dc_is_departure pm_is_departure an_is_departure cd_is_departure ct_is_departure), sl_is_departure⟩) (c_is_departure : PySem.W.codeIn K cd_is_departure "is_departure" = true) (k_is_departure : PySem.W.keepIn K (.ref f_is_departure) = true)
    {f_is_field : Addr} {od_is_field an_is_field : Option Addr} {sl_is_field : Array (Option Value)} {oc_is_field kV_is_field dc_is_field pm_is_field cd_is_field ct_is_field : Value}
    (a_is_field : PySem.W.nsIn K mainGlobals "is_field" = some (some (.ref f_is_field)))
    (l_is_field : K.lookup f_is_field = some ⟨oc_is_field, od_is_field, .func (PySem.W.fnOf "is_field" "is_field" (defArgs s_is_field) (defBody s_is_field) (defScope s_is_field) .none kV_is_field dc_is_field pm_is_field an_is_field cd_is_field ct_is_field), sl_is_field⟩) (c_is_field : PySem.W.codeIn K cd_is_field "is_field" = true) (k_is_field : PySem.W.keepIn K (.ref f_is_field) = true)
    {f_create : Addr} {od_create an_create : Option Addr} {sl_create : Array (Option Value)} {oc_create kV_create dc_create pm_create cd_create ct_create : Value}
    (a_create : PySem.W.nsIn K mainGlobals "create" = some (some (.ref f_create)))
    (l_create : K.lookup f_create = some ⟨oc_create, od_create, .func (PySem.W.fnOf "create" "create" (defArgs s_create) (defBody s_create) (defScope s_create) .none kV_create dc_create pm_create an_create cd_create ct_create), sl_create⟩) (c_create : PySem.W.codeIn K cd_create "create" = true) (k_create : PySem.W.keepIn K (.ref f_create) = true)
    {f_add_shop : Addr} {od_add_shop an_add_shop : Option Addr} {sl_add_shop : Array (Option Value)} {oc_add_shop kV_add_shop dc_add_shop pm_add_shop cd_add_shop ct_add_shop : Value}
    (a_add_shop : PySem.W.nsIn K mainGlobals "add_shop" = some (some (.ref f_add_shop)))
    (l_add_shop : K.lookup f_add_shop = some ⟨oc_add_shop, od_add_shop, .func (PySem.W.fnOf "add_shop" "add_shop" (defArgs s_add_shop) (defBody s_add_shop) (defScope s_add_shop) .none kV_add_shop dc_add_shop pm_add_shop an_add_shop cd_add_shop ct_add_shop), sl_add_shop⟩) (c_add_shop : PySem.W.codeIn K cd_add_shop "add_shop" = true) (k_add_shop : PySem.W.keepIn K (.ref f_add_shop) = true)
    {f_remove_shop : Addr} {od_remove_shop an_remove_shop : Option Addr} {sl_remove_shop : Array (Option Value)} {oc_remove_shop kV_remove_shop dc_remove_shop pm_remove_shop cd_remove_shop ct_remove_shop : Value}
    (a_remove_shop : PySem.W.nsIn K mainGlobals "remove_shop" = some (some (.ref f_remove_shop)))
    (l_remove_shop : K.lookup f_remove_shop = some ⟨oc_remove_shop, od_remove_shop, .func (PySem.W.fnOf "remove_shop" "remove_shop" (defArgs s_remove_shop) (defBody s_remove_shop) (defScope s_remove_shop) .none kV_remove_shop dc_remove_shop pm_remove_shop an_remove_shop cd_remove_shop ct_remove_shop), sl_remove_shop⟩) (c_remove_shop : PySem.W.codeIn K cd_remove_shop "remove_shop" = true) (k_remove_shop : PySem.W.keepIn K (.ref f_remove_shop) = true)
    {f_set_field : Addr} {od_set_field an_set_field : Option Addr} {sl_set_field : Array (Option Value)} {oc_set_field kV_set_field dc_set_field pm_set_field cd_set_field ct_set_field : Value}
    (a_set_field : PySem.W.nsIn K mainGlobals "set_field" = some (some (.ref f_set_field)))
    (l_set_field : K.lookup f_set_field = some ⟨oc_set_field, od_set_field, .func (PySem.W.fnOf "set_field" "set_field" (defArgs s_set_field) (defBody s_set_field) (defScope s_set_field) .none kV_set_field dc_set_field pm_set_field an_set_field cd_set_field ct_set_field), sl_set_field⟩) (c_set_field : PySem.W.codeIn K cd_set_field "set_field" = true) (k_set_field : PySem.W.keepIn K (.ref f_set_field) = true)
    {f_set_departure : Addr} {od_set_departure an_set_departure : Option Addr} {sl_set_departure : Array (Option Value)} {oc_set_departure kV_set_departure dc_set_departure pm_set_departure cd_set_departure ct_set_departure : Value}
    (a_set_departure : PySem.W.nsIn K mainGlobals "set_departure" = some (some (.ref f_set_departure)))
    (l_set_departure : K.lookup f_set_departure = some ⟨oc_set_departure, od_set_departure, .func (PySem.W.fnOf "set_departure" "set_departure" (defArgs s_set_departure) (defBody s_set_departure) (defScope s_set_departure) .none kV_set_departure dc_set_departure pm_set_departure an_set_departure cd_set_departure ct_set_departure), sl_set_departure⟩) (c_set_departure : PySem.W.codeIn K cd_set_departure "set_departure" = true) (k_set_departure : PySem.W.keepIn K (.ref f_set_departure) = true)
    {f_every : Addr} {od_every an_every : Option Addr} {sl_every : Array (Option Value)} {oc_every kV_every dc_every pm_every cd_every ct_every : Value}
    (a_every : PySem.W.nsIn K mainGlobals "every" = some (some (.ref f_every)))
    (l_every : K.lookup f_every = some ⟨oc_every, od_every, .func (PySem.W.fnOf "every" "every" (defArgs s_every) (defBody s_every) (defScope s_every) .none kV_every dc_every pm_every an_every cd_every ct_every), sl_every⟩) (c_every : PySem.W.codeIn K cd_every "every" = true) (k_every : PySem.W.keepIn K (.ref f_every) = true)
    {f_earliest_finish : Addr} {od_earliest_finish an_earliest_finish : Option Addr} {sl_earliest_finish : Array (Option Value)} {oc_earliest_finish kV_earliest_finish dc_earliest_finish pm_earliest_finish cd_earliest_finish ct_earliest_finish : Value}
    (a_earliest_finish : PySem.W.nsIn K mainGlobals "earliest_finish" = some (some (.ref f_earliest_finish)))
    (l_earliest_finish : K.lookup f_earliest_finish = some ⟨oc_earliest_finish, od_earliest_finish, .func (PySem.W.fnOf "earliest_finish" "earliest_finish" (defArgs s_earliest_finish) (defBody s_earliest_finish) (defScope s_earliest_finish) .none kV_earliest_finish dc_earliest_finish pm_earliest_finish an_earliest_finish cd_earliest_finish ct_earliest_finish), sl_earliest_finish⟩) (c_earliest_finish : PySem.W.codeIn K cd_earliest_finish "earliest_finish" = true) (k_earliest_finish : PySem.W.keepIn K (.ref f_earliest_finish) = true)
    {f_ask_best_route : Addr} {od_ask_best_route an_ask_best_route : Option Addr} {sl_ask_best_route : Array (Option Value)} {oc_ask_best_route kV_ask_best_route dc_ask_best_route pm_ask_best_route cd_ask_best_route ct_ask_best_route : Value}
    (a_ask_best_route : PySem.W.nsIn K mainGlobals "ask_best_route" = some (some (.ref f_ask_best_route)))
    (l_ask_best_route : K.lookup f_ask_best_route = some ⟨oc_ask_best_route, od_ask_best_route, .func (PySem.W.fnOf "ask_best_route" "ask_best_route" (defArgs s_ask_best_route) (defBody s_ask_best_route) (defScope s_ask_best_route) .none kV_ask_best_route dc_ask_best_route pm_ask_best_route an_ask_best_route cd_ask_best_route ct_ask_best_route), sl_ask_best_route⟩) (c_ask_best_route : PySem.W.codeIn K cd_ask_best_route "ask_best_route" = true) (k_ask_best_route : PySem.W.keepIn K (.ref f_ask_best_route) = true)
    {f_arrival_times : Addr} {od_arrival_times an_arrival_times : Option Addr} {sl_arrival_times : Array (Option Value)} {oc_arrival_times kV_arrival_times dc_arrival_times pm_arrival_times cd_arrival_times ct_arrival_times : Value}
    (a_arrival_times : PySem.W.nsIn K mainGlobals "arrival_times" = some (some (.ref f_arrival_times)))
    (l_arrival_times : K.lookup f_arrival_times = some ⟨oc_arrival_times, od_arrival_times, .func (PySem.W.fnOf "arrival_times" "arrival_times" (defArgs s_arrival_times) (defBody s_arrival_times) (defScope s_arrival_times) .none kV_arrival_times dc_arrival_times pm_arrival_times an_arrival_times cd_arrival_times ct_arrival_times), sl_arrival_times⟩) (c_arrival_times : PySem.W.codeIn K cd_arrival_times "arrival_times" = true) (k_arrival_times : PySem.W.keepIn K (.ref f_arrival_times) = true)
    {f_check_route : Addr} {od_check_route an_check_route : Option Addr} {sl_check_route : Array (Option Value)} {oc_check_route kV_check_route dc_check_route pm_check_route cd_check_route ct_check_route : Value}
    (a_check_route : PySem.W.nsIn K mainGlobals "check_route" = some (some (.ref f_check_route)))
    (l_check_route : K.lookup f_check_route = some ⟨oc_check_route, od_check_route, .func (PySem.W.fnOf "check_route" "check_route" (defArgs s_check_route) (defBody s_check_route) (defScope s_check_route) .none kV_check_route dc_check_route pm_check_route an_check_route cd_check_route ct_check_route), sl_check_route⟩) (c_check_route : PySem.W.codeIn K cd_check_route "check_route" = true) (k_check_route : PySem.W.keepIn K (.ref f_check_route) = true)
    {f_max_loaves : Addr} {od_max_loaves an_max_loaves : Option Addr} {sl_max_loaves : Array (Option Value)} {oc_max_loaves kV_max_loaves dc_max_loaves pm_max_loaves cd_max_loaves ct_max_loaves : Value}
    (a_max_loaves : PySem.W.nsIn K mainGlobals "max_loaves" = some (some (.ref f_max_loaves)))
    (l_max_loaves : K.lookup f_max_loaves = some ⟨oc_max_loaves, od_max_loaves, .func (PySem.W.fnOf "max_loaves" "max_loaves" (defArgs s_max_loaves) (defBody s_max_loaves) (defScope s_max_loaves) .none kV_max_loaves dc_max_loaves pm_max_loaves an_max_loaves cd_max_loaves ct_max_loaves), sl_max_loaves⟩) (c_max_loaves : PySem.W.codeIn K cd_max_loaves "max_loaves" = true) (k_max_loaves : PySem.W.keepIn K (.ref f_max_loaves) = true)
    {f_earliest_finish_of : Addr} {od_earliest_finish_of an_earliest_finish_of : Option Addr} {sl_earliest_finish_of : Array (Option Value)} {oc_earliest_finish_of kV_earliest_finish_of dc_earliest_finish_of pm_earliest_finish_of cd_earliest_finish_of ct_earliest_finish_of : Value}
    (a_earliest_finish_of : PySem.W.nsIn K mainGlobals "earliest_finish_of" = some (some (.ref f_earliest_finish_of)))
    (l_earliest_finish_of : K.lookup f_earliest_finish_of = some ⟨oc_earliest_finish_of, od_earliest_finish_of, .func (PySem.W.fnOf "earliest_finish_of" "earliest_finish_of" (defArgs s_earliest_finish_of) (defBody s_earliest_finish_of) (defScope s_earliest_finish_of) .none kV_earliest_finish_of dc_earliest_finish_of pm_earliest_finish_of an_earliest_finish_of cd_earliest_finish_of ct_earliest_finish_of), sl_earliest_finish_of⟩) (c_earliest_finish_of : PySem.W.codeIn K cd_earliest_finish_of "earliest_finish_of" = true) (k_earliest_finish_of : PySem.W.keepIn K (.ref f_earliest_finish_of) = true)
    {f_return_time : Addr} {od_return_time an_return_time : Option Addr} {sl_return_time : Array (Option Value)} {oc_return_time kV_return_time dc_return_time pm_return_time cd_return_time ct_return_time : Value}
    (a_return_time : PySem.W.nsIn K mainGlobals "return_time" = some (some (.ref f_return_time)))
    (l_return_time : K.lookup f_return_time = some ⟨oc_return_time, od_return_time, .func (PySem.W.fnOf "return_time" "return_time" (defArgs s_return_time) (defBody s_return_time) (defScope s_return_time) .none kV_return_time dc_return_time pm_return_time an_return_time cd_return_time ct_return_time), sl_return_time⟩) (c_return_time : PySem.W.codeIn K cd_return_time "return_time" = true) (k_return_time : PySem.W.keepIn K (.ref f_return_time) = true)
    {f_earliest_finish_without : Addr} {od_earliest_finish_without an_earliest_finish_without : Option Addr} {sl_earliest_finish_without : Array (Option Value)} {oc_earliest_finish_without kV_earliest_finish_without dc_earliest_finish_without pm_earliest_finish_without cd_earliest_finish_without ct_earliest_finish_without : Value}
    (a_earliest_finish_without : PySem.W.nsIn K mainGlobals "earliest_finish_without" = some (some (.ref f_earliest_finish_without)))
    (l_earliest_finish_without : K.lookup f_earliest_finish_without = some ⟨oc_earliest_finish_without, od_earliest_finish_without, .func (PySem.W.fnOf "earliest_finish_without" "earliest_finish_without" (defArgs s_earliest_finish_without) (defBody s_earliest_finish_without) (defScope s_earliest_finish_without) .none kV_earliest_finish_without dc_earliest_finish_without pm_earliest_finish_without an_earliest_finish_without cd_earliest_finish_without ct_earliest_finish_without), sl_earliest_finish_without⟩) (c_earliest_finish_without : PySem.W.codeIn K cd_earliest_finish_without "earliest_finish_without" = true) (k_earliest_finish_without : PySem.W.keepIn K (.ref f_earliest_finish_without) = true)
    {f_describe : Addr} {od_describe an_describe : Option Addr} {sl_describe : Array (Option Value)} {oc_describe kV_describe dc_describe pm_describe cd_describe ct_describe : Value}
    (a_describe : PySem.W.nsIn K mainGlobals "describe" = some (some (.ref f_describe)))
    (l_describe : K.lookup f_describe = some ⟨oc_describe, od_describe, .func (PySem.W.fnOf "describe" "describe" (defArgs s_describe) (defBody s_describe) (defScope s_describe) .none kV_describe dc_describe pm_describe an_describe cd_describe ct_describe), sl_describe⟩) (c_describe : PySem.W.codeIn K cd_describe "describe" = true) (k_describe : PySem.W.keepIn K (.ref f_describe) = true)
    {f_ask_latest : Addr} {od_ask_latest an_ask_latest : Option Addr} {sl_ask_latest : Array (Option Value)} {oc_ask_latest kV_ask_latest dc_ask_latest pm_ask_latest cd_ask_latest ct_ask_latest : Value}
    (a_ask_latest : PySem.W.nsIn K mainGlobals "ask_latest" = some (some (.ref f_ask_latest)))
    (l_ask_latest : K.lookup f_ask_latest = some ⟨oc_ask_latest, od_ask_latest, .func (PySem.W.fnOf "ask_latest" "ask_latest" (defArgs s_ask_latest) (defBody s_ask_latest) (defScope s_ask_latest) .none kV_ask_latest dc_ask_latest pm_ask_latest an_ask_latest cd_ask_latest ct_ask_latest), sl_ask_latest⟩) (c_ask_latest : PySem.W.codeIn K cd_ask_latest "ask_latest" = true) (k_ask_latest : PySem.W.keepIn K (.ref f_ask_latest) = true)
    {f_answer_edit : Addr} {od_answer_edit an_answer_edit : Option Addr} {sl_answer_edit : Array (Option Value)} {oc_answer_edit kV_answer_edit dc_answer_edit pm_answer_edit cd_answer_edit ct_answer_edit : Value}
    (a_answer_edit : PySem.W.nsIn K mainGlobals "answer_edit" = some (some (.ref f_answer_edit)))
    (l_answer_edit : K.lookup f_answer_edit = some ⟨oc_answer_edit, od_answer_edit, .func (PySem.W.fnOf "answer_edit" "answer_edit" (defArgs s_answer_edit) (defBody s_answer_edit) (defScope s_answer_edit) .none kV_answer_edit dc_answer_edit pm_answer_edit an_answer_edit cd_answer_edit ct_answer_edit), sl_answer_edit⟩) (c_answer_edit : PySem.W.codeIn K cd_answer_edit "answer_edit" = true) (k_answer_edit : PySem.W.keepIn K (.ref f_answer_edit) = true)
    {f_answer_question : Addr} {od_answer_question an_answer_question : Option Addr} {sl_answer_question : Array (Option Value)} {oc_answer_question kV_answer_question dc_answer_question pm_answer_question cd_answer_question ct_answer_question : Value}
    (a_answer_question : PySem.W.nsIn K mainGlobals "answer_question" = some (some (.ref f_answer_question)))
    (l_answer_question : K.lookup f_answer_question = some ⟨oc_answer_question, od_answer_question, .func (PySem.W.fnOf "answer_question" "answer_question" (defArgs s_answer_question) (defBody s_answer_question) (defScope s_answer_question) .none kV_answer_question dc_answer_question pm_answer_question an_answer_question cd_answer_question ct_answer_question), sl_answer_question⟩) (c_answer_question : PySem.W.codeIn K cd_answer_question "answer_question" = true) (k_answer_question : PySem.W.keepIn K (.ref f_answer_question) = true)
    {f_answer : Addr} {od_answer an_answer : Option Addr} {sl_answer : Array (Option Value)} {oc_answer kV_answer dc_answer pm_answer cd_answer ct_answer : Value}
    (a_answer : PySem.W.nsIn K mainGlobals "answer" = some (some (.ref f_answer)))
    (l_answer : K.lookup f_answer = some ⟨oc_answer, od_answer, .func (PySem.W.fnOf "answer" "answer" (defArgs s_answer) (defBody s_answer) (defScope s_answer) .none kV_answer dc_answer pm_answer an_answer cd_answer ct_answer), sl_answer⟩) (c_answer : PySem.W.codeIn K cd_answer "answer" = true) (k_answer : PySem.W.keepIn K (.ref f_answer) = true)
    {f_end_of : Addr} {od_end_of an_end_of : Option Addr} {sl_end_of : Array (Option Value)} {oc_end_of kV_end_of dc_end_of pm_end_of cd_end_of ct_end_of : Value}
    (a_end_of : PySem.W.nsIn K mainGlobals "end_of" = some (some (.ref f_end_of)))
    (l_end_of : K.lookup f_end_of = some ⟨oc_end_of, od_end_of, .func (PySem.W.fnOf "end_of" "end_of" (defArgs s_end_of) (defBody s_end_of) (defScope s_end_of) .none kV_end_of dc_end_of pm_end_of an_end_of cd_end_of ct_end_of), sl_end_of⟩) (c_end_of : PySem.W.codeIn K cd_end_of "end_of" = true) (k_end_of : PySem.W.keepIn K (.ref f_end_of) = true)
    {f_answers : Addr} {od_answers an_answers : Option Addr} {sl_answers : Array (Option Value)} {oc_answers kV_answers dc_answers pm_answers cd_answers ct_answers : Value}
    (a_answers : PySem.W.nsIn K mainGlobals "answers" = some (some (.ref f_answers)))
    (l_answers : K.lookup f_answers = some ⟨oc_answers, od_answers, .func (PySem.W.fnOf "answers" "answers" (defArgs s_answers) (defBody s_answers) (defScope s_answers) .none kV_answers dc_answers pm_answers an_answers cd_answers ct_answers), sl_answers⟩) (c_answers : PySem.W.codeIn K cd_answers "answers" = true) (k_answers : PySem.W.keepIn K (.ref f_answers) = true)
    (pg : PySem.W.plainGet K C Str.empty = true) (hd : PySem.W.hasDictIn K C = true) (po : PySem.W.plainOver K C = true) (sa : PySem.W.findIn K (.ref C) "__setattr__" = some (some (.builtin "object.__setattr__"))) (mk : PySem.W.makesIn K C = true) (kc : PySem.W.keepIn K (.ref C) = true) (nD : PySem.W.findIn K (.ref C) "departure" = some none) (nS : PySem.W.findIn K (.ref C) "shops" = some none)
    {t_MOST_TIME : Tok} (g_MOST_TIME : PySem.W.nsIn K mainGlobals "MOST_TIME" = some (some (.int 299 t_MOST_TIME)))
    {t_MOST_SHOPS : Tok} (g_MOST_SHOPS : PySem.W.nsIn K mainGlobals "MOST_SHOPS" = some (some (.int 7 t_MOST_SHOPS)))
    {t_ABSENT : Tok} (g_ABSENT : PySem.W.nsIn K mainGlobals "ABSENT" = some (some (.int (-11) t_ABSENT)))
    {t_MISSING : Tok} (g_MISSING : PySem.W.nsIn K mainGlobals "MISSING" = some (some (.int (-2) t_MISSING)))
    {t_OUT_OF_RANGE : Tok} (g_OUT_OF_RANGE : PySem.W.nsIn K mainGlobals "OUT_OF_RANGE" = some (some (.int (-22) t_OUT_OF_RANGE)))
    {t_FULL : Tok} (g_FULL : PySem.W.nsIn K mainGlobals "FULL" = some (some (.int (-28) t_FULL)))
    {t_LATE : Tok} (g_LATE : PySem.W.nsIn K mainGlobals "LATE" = some (some (.int (-33) t_LATE)))
    {t_POSITION : Tok} (g_POSITION : PySem.W.nsIn K mainGlobals "POSITION" = some (some (.int 0 t_POSITION)))
    {t_DEADLINE : Tok} (g_DEADLINE : PySem.W.nsIn K mainGlobals "DEADLINE" = some (some (.int 1 t_DEADLINE)))
    {t_LOAVES : Tok} (g_LOAVES : PySem.W.nsIn K mainGlobals "LOAVES" = some (some (.int 2 t_LOAVES)))
    {u_LOW0 u_LOW1 u_LOW2 : Tok} {n_LOW : Nat} {d_LOW : Option Addr} {sl_LOW : Array (Option Value)} (g_LOW : PySem.W.nsIn K mainGlobals "LOW" = some (some (.ref a_LOW))) (x_LOW : K.lookup a_LOW = some ⟨.type "tuple", d_LOW, .seq #[.int (-99) u_LOW0, .int 0 u_LOW1, .int 0 u_LOW2] n_LOW, sl_LOW⟩)
    {u_HIGH0 u_HIGH1 u_HIGH2 : Tok} {n_HIGH : Nat} {d_HIGH : Option Addr} {sl_HIGH : Array (Option Value)} (g_HIGH : PySem.W.nsIn K mainGlobals "HIGH" = some (some (.ref a_HIGH))) (x_HIGH : K.lookup a_HIGH = some ⟨.type "tuple", d_HIGH, .seq #[.int 99 u_HIGH0, .int 299 u_HIGH1, .int 99 u_HIGH2] n_HIGH, sl_HIGH⟩)
    {u_NUMBERS0 u_NUMBERS1 u_NUMBERS2 u_NUMBERS3 u_NUMBERS4 u_NUMBERS5 u_NUMBERS6 u_NUMBERS7 u_NUMBERS8 u_NUMBERS9 u_NUMBERS10 u_NUMBERS11 u_NUMBERS12 u_NUMBERS13 u_NUMBERS14 u_NUMBERS15 u_NUMBERS16 : Tok} {n_NUMBERS : Nat} {d_NUMBERS : Option Addr} {sl_NUMBERS : Array (Option Value)} (g_NUMBERS : PySem.W.nsIn K mainGlobals "NUMBERS" = some (some (.ref a_NUMBERS))) (x_NUMBERS : K.lookup a_NUMBERS = some ⟨.type "tuple", d_NUMBERS, .seq #[.int 1 u_NUMBERS0, .int 3 u_NUMBERS1, .int 1 u_NUMBERS2, .int 2 u_NUMBERS3, .int 2 u_NUMBERS4, .int 2 u_NUMBERS5, .int 1 u_NUMBERS6, .int 0 u_NUMBERS7, .int 0 u_NUMBERS8, .int 0 u_NUMBERS9, .int 0 u_NUMBERS10, .int 0 u_NUMBERS11, .int 1 u_NUMBERS12, .int 0 u_NUMBERS13, .int 0 u_NUMBERS14, .int 1 u_NUMBERS15, .int 0 u_NUMBERS16] n_NUMBERS, sl_NUMBERS⟩)
    {u_WITH_ROUTE0 u_WITH_ROUTE1 : Tok} {n_WITH_ROUTE : Nat} {d_WITH_ROUTE : Option Addr} {sl_WITH_ROUTE : Array (Option Value)} (g_WITH_ROUTE : PySem.W.nsIn K mainGlobals "WITH_ROUTE" = some (some (.ref a_WITH_ROUTE))) (x_WITH_ROUTE : K.lookup a_WITH_ROUTE = some ⟨.type "tuple", d_WITH_ROUTE, .seq #[.int 9 u_WITH_ROUTE0, .int 10 u_WITH_ROUTE1] n_WITH_ROUTE, sl_WITH_ROUTE⟩)
    (b_len : PySem.W.nsIn K mainGlobals "len" = some none)
    (b_range : PySem.W.nsIn K mainGlobals "range" = some none)
    (b_abs : PySem.W.nsIn K mainGlobals "abs" = some none)
    (b_min : PySem.W.nsIn K mainGlobals "min" = some none)
    (b_max : PySem.W.nsIn K mainGlobals "max" = some none)
    (b_sum : PySem.W.nsIn K mainGlobals "sum" = some none)
    (b_sorted : PySem.W.nsIn K mainGlobals "sorted" = some none)
    (b_zip : PySem.W.nsIn K mainGlobals "zip" = some none)
    (b_list : PySem.W.nsIn K mainGlobals "list" = some none)
    : ∃ fd : FuncData, (∀ (s : Shared) (us : List Value), us.length = (["calls"] : List Str).length → BindsTo s fd ⟨us, []⟩ ((["calls"] : List Str).zip us)) ∧ ∀ base : Heap, K.In base → base.Ns mainGlobals mg → FnOk P w K mg base CX0 9 fa fd ["calls"] (sp_answers K) := by
  have e := hfa.symm.trans (PySem.W.mg_of X G a_answers)
  cases e
  have T : Txt K mg C a_LOW a_HIGH a_NUMBERS a_WITH_ROUTE := ⟨⟨pg, hd, po, sa⟩, nD, nS, PySem.W.mg_of X G aC, ⟨_, PySem.W.mg_of X G g_MOST_TIME⟩, ⟨_, PySem.W.mg_of X G g_MOST_SHOPS⟩, ⟨_, PySem.W.mg_of X G g_ABSENT⟩, ⟨_, PySem.W.mg_of X G g_MISSING⟩, ⟨_, PySem.W.mg_of X G g_OUT_OF_RANGE⟩, ⟨_, PySem.W.mg_of X G g_FULL⟩, ⟨_, PySem.W.mg_of X G g_LATE⟩, ⟨_, PySem.W.mg_of X G g_POSITION⟩, ⟨_, PySem.W.mg_of X G g_DEADLINE⟩, ⟨_, PySem.W.mg_of X G g_LOAVES⟩, PySem.W.mg_of X G g_LOW, sqt_of x_LOW (by show 3 ≤ sizeLine; decide) (.cons ⟨_, rfl⟩ (.cons ⟨_, rfl⟩ (.cons ⟨_, rfl⟩ (.nil)))), PySem.W.mg_of X G g_HIGH, sqt_of x_HIGH (by show 3 ≤ sizeLine; decide) (.cons ⟨_, rfl⟩ (.cons ⟨_, rfl⟩ (.cons ⟨_, rfl⟩ (.nil)))), PySem.W.mg_of X G g_NUMBERS, sqt_of x_NUMBERS (by show 17 ≤ sizeLine; decide) (.cons ⟨_, rfl⟩ (.cons ⟨_, rfl⟩ (.cons ⟨_, rfl⟩ (.cons ⟨_, rfl⟩ (.cons ⟨_, rfl⟩ (.cons ⟨_, rfl⟩ (.cons ⟨_, rfl⟩ (.cons ⟨_, rfl⟩ (.cons ⟨_, rfl⟩ (.cons ⟨_, rfl⟩ (.cons ⟨_, rfl⟩ (.cons ⟨_, rfl⟩ (.cons ⟨_, rfl⟩ (.cons ⟨_, rfl⟩ (.cons ⟨_, rfl⟩ (.cons ⟨_, rfl⟩ (.cons ⟨_, rfl⟩ (.nil)))))))))))))))))), PySem.W.mg_of X G g_WITH_ROUTE, sqt_of x_WITH_ROUTE (by show 2 ≤ sizeLine; decide) (.cons ⟨_, rfl⟩ (.cons ⟨_, rfl⟩ (.nil))), PySem.W.mg_none_of X G b_len, PySem.W.mg_none_of X G b_range, PySem.W.mg_none_of X G b_abs, PySem.W.mg_none_of X G b_min, PySem.W.mg_none_of X G b_max, PySem.W.mg_none_of X G b_sum, PySem.W.mg_none_of X G b_sorted, PySem.W.mg_none_of X G b_zip, PySem.W.mg_none_of X G b_list⟩
  have D_is_within : Def K mg "is_within" s_is_within := ⟨_, _, PySem.W.mg_of X G a_is_within, fun_mk (st := s_is_within) l_is_within c_is_within k_is_within⟩
  have D_is_index : Def K mg "is_index" s_is_index := ⟨_, _, PySem.W.mg_of X G a_is_index, fun_mk (st := s_is_index) l_is_index c_is_index k_is_index⟩
  have D_are_indices : Def K mg "are_indices" s_are_indices := ⟨_, _, PySem.W.mg_of X G a_are_indices, fun_mk (st := s_are_indices) l_are_indices c_are_indices k_are_indices⟩
  have D_members : Def K mg "members" s_members := ⟨_, _, PySem.W.mg_of X G a_members, fun_mk (st := s_members) l_members c_members k_members⟩
  have D_without : Def K mg "without" s_without := ⟨_, _, PySem.W.mg_of X G a_without, fun_mk (st := s_without) l_without c_without k_without⟩
  have D_replaced : Def K mg "replaced" s_replaced := ⟨_, _, PySem.W.mg_of X G a_replaced, fun_mk (st := s_replaced) l_replaced c_replaced k_replaced⟩
  have D_arrivals : Def K mg "arrivals" s_arrivals := ⟨_, _, PySem.W.mg_of X G a_arrivals, fun_mk (st := s_arrivals) l_arrivals c_arrivals k_arrivals⟩
  have D_finish_of : Def K mg "finish_of" s_finish_of := ⟨_, _, PySem.W.mg_of X G a_finish_of, fun_mk (st := s_finish_of) l_finish_of c_finish_of k_finish_of⟩
  have D_is_on_time : Def K mg "is_on_time" s_is_on_time := ⟨_, _, PySem.W.mg_of X G a_is_on_time, fun_mk (st := s_is_on_time) l_is_on_time c_is_on_time k_is_on_time⟩
  have D_loaves_of : Def K mg "loaves_of" s_loaves_of := ⟨_, _, PySem.W.mg_of X G a_loaves_of, fun_mk (st := s_loaves_of) l_loaves_of c_loaves_of k_loaves_of⟩
  have D_by_distance : Def K mg "by_distance" s_by_distance := ⟨_, _, PySem.W.mg_of X G a_by_distance, fun_mk (st := s_by_distance) l_by_distance c_by_distance k_by_distance⟩
  have D_left_ones : Def K mg "left_ones" s_left_ones := ⟨_, _, PySem.W.mg_of X G a_left_ones, fun_mk (st := s_left_ones) l_left_ones c_left_ones k_left_ones⟩
  have D_right_ones : Def K mg "right_ones" s_right_ones := ⟨_, _, PySem.W.mg_of X G a_right_ones, fun_mk (st := s_right_ones) l_right_ones c_right_ones k_right_ones⟩
  have D_taken_from : Def K mg "taken_from" s_taken_from := ⟨_, _, PySem.W.mg_of X G a_taken_from, fun_mk (st := s_taken_from) l_taken_from c_taken_from k_taken_from⟩
  have D_longer_routes : Def K mg "longer_routes" s_longer_routes := ⟨_, _, PySem.W.mg_of X G a_longer_routes, fun_mk (st := s_longer_routes) l_longer_routes c_longer_routes k_longer_routes⟩
  have D_sweeping_routes : Def K mg "sweeping_routes" s_sweeping_routes := ⟨_, _, PySem.W.mg_of X G a_sweeping_routes, fun_mk (st := s_sweeping_routes) l_sweeping_routes c_sweeping_routes k_sweeping_routes⟩
  have D_best_route : Def K mg "best_route" s_best_route := ⟨_, _, PySem.W.mg_of X G a_best_route, fun_mk (st := s_best_route) l_best_route c_best_route k_best_route⟩
  have D_richest_route : Def K mg "richest_route" s_richest_route := ⟨_, _, PySem.W.mg_of X G a_richest_route, fun_mk (st := s_richest_route) l_richest_route c_richest_route k_richest_route⟩
  have D_latest_for : Def K mg "latest_for" s_latest_for := ⟨_, _, PySem.W.mg_of X G a_latest_for, fun_mk (st := s_latest_for) l_latest_for c_latest_for k_latest_for⟩
  have D_latest_departure : Def K mg "latest_departure" s_latest_departure := ⟨_, _, PySem.W.mg_of X G a_latest_departure, fun_mk (st := s_latest_departure) l_latest_departure c_latest_departure k_latest_departure⟩
  have F_init := fun_mk (st := s_init) l_init c_init k_init
  have b_init := F_init.binds (ps := P_init) fun _ _ _ _ _ _ us hl => match us, hl with | [_], _ => rfl
  have F_exists := fun_mk (st := s_exists) l_exists c_exists k_exists
  have b_exists := F_exists.binds (ps := P_exists) fun _ _ _ _ _ _ us hl => match us, hl with | [_], _ => rfl
  have D_is_departure : Def K mg "is_departure" s_is_departure := ⟨_, _, PySem.W.mg_of X G a_is_departure, fun_mk (st := s_is_departure) l_is_departure c_is_departure k_is_departure⟩
  have D_is_field : Def K mg "is_field" s_is_field := ⟨_, _, PySem.W.mg_of X G a_is_field, fun_mk (st := s_is_field) l_is_field c_is_field k_is_field⟩
  have D_create : Def K mg "create" s_create := ⟨_, _, PySem.W.mg_of X G a_create, fun_mk (st := s_create) l_create c_create k_create⟩
  have D_add_shop : Def K mg "add_shop" s_add_shop := ⟨_, _, PySem.W.mg_of X G a_add_shop, fun_mk (st := s_add_shop) l_add_shop c_add_shop k_add_shop⟩
  have D_remove_shop : Def K mg "remove_shop" s_remove_shop := ⟨_, _, PySem.W.mg_of X G a_remove_shop, fun_mk (st := s_remove_shop) l_remove_shop c_remove_shop k_remove_shop⟩
  have D_set_field : Def K mg "set_field" s_set_field := ⟨_, _, PySem.W.mg_of X G a_set_field, fun_mk (st := s_set_field) l_set_field c_set_field k_set_field⟩
  have D_set_departure : Def K mg "set_departure" s_set_departure := ⟨_, _, PySem.W.mg_of X G a_set_departure, fun_mk (st := s_set_departure) l_set_departure c_set_departure k_set_departure⟩
  have D_every : Def K mg "every" s_every := ⟨_, _, PySem.W.mg_of X G a_every, fun_mk (st := s_every) l_every c_every k_every⟩
  have D_earliest_finish : Def K mg "earliest_finish" s_earliest_finish := ⟨_, _, PySem.W.mg_of X G a_earliest_finish, fun_mk (st := s_earliest_finish) l_earliest_finish c_earliest_finish k_earliest_finish⟩
  have D_ask_best_route : Def K mg "ask_best_route" s_ask_best_route := ⟨_, _, PySem.W.mg_of X G a_ask_best_route, fun_mk (st := s_ask_best_route) l_ask_best_route c_ask_best_route k_ask_best_route⟩
  have D_arrival_times : Def K mg "arrival_times" s_arrival_times := ⟨_, _, PySem.W.mg_of X G a_arrival_times, fun_mk (st := s_arrival_times) l_arrival_times c_arrival_times k_arrival_times⟩
  have D_check_route : Def K mg "check_route" s_check_route := ⟨_, _, PySem.W.mg_of X G a_check_route, fun_mk (st := s_check_route) l_check_route c_check_route k_check_route⟩
  have D_max_loaves : Def K mg "max_loaves" s_max_loaves := ⟨_, _, PySem.W.mg_of X G a_max_loaves, fun_mk (st := s_max_loaves) l_max_loaves c_max_loaves k_max_loaves⟩
  have D_earliest_finish_of : Def K mg "earliest_finish_of" s_earliest_finish_of := ⟨_, _, PySem.W.mg_of X G a_earliest_finish_of, fun_mk (st := s_earliest_finish_of) l_earliest_finish_of c_earliest_finish_of k_earliest_finish_of⟩
  have D_return_time : Def K mg "return_time" s_return_time := ⟨_, _, PySem.W.mg_of X G a_return_time, fun_mk (st := s_return_time) l_return_time c_return_time k_return_time⟩
  have D_earliest_finish_without : Def K mg "earliest_finish_without" s_earliest_finish_without := ⟨_, _, PySem.W.mg_of X G a_earliest_finish_without, fun_mk (st := s_earliest_finish_without) l_earliest_finish_without c_earliest_finish_without k_earliest_finish_without⟩
  have D_describe : Def K mg "describe" s_describe := ⟨_, _, PySem.W.mg_of X G a_describe, fun_mk (st := s_describe) l_describe c_describe k_describe⟩
  have D_ask_latest : Def K mg "ask_latest" s_ask_latest := ⟨_, _, PySem.W.mg_of X G a_ask_latest, fun_mk (st := s_ask_latest) l_ask_latest c_ask_latest k_ask_latest⟩
  have D_answer_edit : Def K mg "answer_edit" s_answer_edit := ⟨_, _, PySem.W.mg_of X G a_answer_edit, fun_mk (st := s_answer_edit) l_answer_edit c_answer_edit k_answer_edit⟩
  have D_answer_question : Def K mg "answer_question" s_answer_question := ⟨_, _, PySem.W.mg_of X G a_answer_question, fun_mk (st := s_answer_question) l_answer_question c_answer_question k_answer_question⟩
  have D_answer : Def K mg "answer" s_answer := ⟨_, _, PySem.W.mg_of X G a_answer, fun_mk (st := s_answer) l_answer c_answer k_answer⟩
  have D_end_of : Def K mg "end_of" s_end_of := ⟨_, _, PySem.W.mg_of X G a_end_of, fun_mk (st := s_end_of) l_end_of c_end_of k_end_of⟩
  have F_answers := fun_mk (st := s_answers) l_answers c_answers k_answers
  have b_answers := F_answers.binds (ps := P_answers) fun _ _ _ _ _ _ us hl => match us, hl with | [_], _ => rfl
  refine ⟨PySem.W.fnOf "answers" "answers" (defArgs s_answers) (defBody s_answers) (defScope s_answers) .none kV_answers dc_answers pm_answers an_answers cd_answers ct_answers, fun s us hu => match us, hu with | [_], _ => .of_eq rfl, fun base _ _ => ?_⟩
  have O_is_within := ok_is_within (P := P) (w := w) (base := base) D_is_within T pure_is_within
  have O_is_index := ok_is_index (P := P) (w := w) (base := base) D_is_index T pure_is_index
  have O_members := ok_members (P := P) (w := w) (base := base) D_members T pure_members
  have O_without := ok_without (P := P) (w := w) (base := base) D_without T pure_without
  have O_replaced := ok_replaced (P := P) (w := w) (base := base) D_replaced T pure_replaced
  have O_arrivals := ok_arrivals (P := P) (w := w) (base := base) D_arrivals T pure_arrivals
  have O_loaves_of := ok_loaves_of (P := P) (w := w) (base := base) D_loaves_of T pure_loaves_of
  have O_by_distance := ok_by_distance (P := P) (w := w) (base := base) D_by_distance T pure_by_distance
  have O_taken_from := ok_taken_from (P := P) (w := w) (base := base) D_taken_from T pure_taken_from
  have O_init := ok_init (P := P) (w := w) (base := base) F_init T (pure_init T)
  have O_exists := ok_exists (P := P) (w := w) (base := base) F_exists T (pure_exists T)
  have O_every := ok_every (P := P) (w := w) (base := base) D_every T (pure_every T)
  have O_describe := ok_describe (P := P) (w := w) (base := base) D_describe T (pure_describe T)
  have O_end_of := ok_end_of (P := P) (w := w) (base := base) D_end_of T (pure_end_of T)
  have O_are_indices := ok_are_indices (P := P) (w := w) (base := base) D_are_indices T O_is_index pure_are_indices
  have O_finish_of := ok_finish_of (P := P) (w := w) (base := base) D_finish_of T O_arrivals pure_finish_of
  have O_is_on_time := ok_is_on_time (P := P) (w := w) (base := base) D_is_on_time T O_arrivals pure_is_on_time
  have O_left_ones := ok_left_ones (P := P) (w := w) (base := base) D_left_ones T O_by_distance pure_left_ones
  have O_right_ones := ok_right_ones (P := P) (w := w) (base := base) D_right_ones T O_by_distance pure_right_ones
  have O_longer_routes := ok_longer_routes (P := P) (w := w) (base := base) D_longer_routes T O_taken_from pure_longer_routes
  have O_latest_for := ok_latest_for (P := P) (w := w) (base := base) D_latest_for T O_arrivals pure_latest_for
  have O_is_departure := ok_is_departure (P := P) (w := w) (base := base) D_is_departure T O_is_within pure_is_departure
  have O_is_field := ok_is_field (P := P) (w := w) (base := base) D_is_field T O_is_within (pure_is_field T)
  have O_remove_shop := ok_remove_shop (P := P) (w := w) (base := base) D_remove_shop T O_is_index O_without (pure_remove_shop T)
  have O_sweeping_routes := ok_sweeping_routes (P := P) (w := w) (base := base) D_sweeping_routes T O_left_ones O_longer_routes O_right_ones pure_sweeping_routes
  have O_create := ok_create (P := P) (w := w) (base := base) D_create T O_is_departure (pure_create T)
  have O_add_shop := ok_add_shop (P := P) (w := w) (base := base) D_add_shop T O_is_field (pure_add_shop T)
  have O_set_field := ok_set_field (P := P) (w := w) (base := base) D_set_field T O_is_field O_is_index O_replaced (pure_set_field T)
  have O_set_departure := ok_set_departure (P := P) (w := w) (base := base) D_set_departure T O_is_departure (pure_set_departure T)
  have O_arrival_times := ok_arrival_times (P := P) (w := w) (base := base) D_arrival_times T O_are_indices O_arrivals (pure_arrival_times T)
  have O_check_route := ok_check_route (P := P) (w := w) (base := base) D_check_route T O_are_indices O_finish_of O_is_on_time O_loaves_of (pure_check_route T)
  have O_best_route := ok_best_route (P := P) (w := w) (base := base) D_best_route T O_finish_of O_is_on_time O_sweeping_routes pure_best_route
  have O_latest_departure := ok_latest_departure (P := P) (w := w) (base := base) D_latest_departure T O_latest_for O_sweeping_routes pure_latest_departure
  have O_answer_edit := ok_answer_edit (P := P) (w := w) (base := base) D_answer_edit T O_add_shop O_remove_shop O_set_departure O_set_field pure_answer_edit
  have O_richest_route := ok_richest_route (P := P) (w := w) (base := base) D_richest_route T O_best_route O_loaves_of O_members pure_richest_route
  have O_earliest_finish := ok_earliest_finish (P := P) (w := w) (base := base) D_earliest_finish T O_best_route O_finish_of (pure_earliest_finish T)
  have O_ask_best_route := ok_ask_best_route (P := P) (w := w) (base := base) D_ask_best_route T O_best_route O_every O_finish_of (pure_ask_best_route T)
  have O_return_time := ok_return_time (P := P) (w := w) (base := base) D_return_time T O_best_route O_every O_finish_of (pure_return_time T)
  have O_ask_latest := ok_ask_latest (P := P) (w := w) (base := base) D_ask_latest T O_every O_latest_departure (pure_ask_latest T)
  have O_max_loaves := ok_max_loaves (P := P) (w := w) (base := base) D_max_loaves T O_loaves_of O_richest_route (pure_max_loaves T)
  have O_earliest_finish_of := ok_earliest_finish_of (P := P) (w := w) (base := base) D_earliest_finish_of T O_earliest_finish O_is_within O_members (pure_earliest_finish_of T)
  have O_earliest_finish_without := ok_earliest_finish_without (P := P) (w := w) (base := base) D_earliest_finish_without T O_earliest_finish O_every O_is_index O_without (pure_earliest_finish_without T)
  have O_answer_question := ok_answer_question (P := P) (w := w) (base := base) D_answer_question T O_arrival_times O_ask_best_route O_ask_latest O_check_route O_describe O_earliest_finish O_earliest_finish_of O_earliest_finish_without O_every O_max_loaves O_return_time pure_answer_question
  have O_answer := ok_answer (P := P) (w := w) (base := base) D_answer T O_answer_edit O_answer_question O_create ⟨a_exists, i_exists, k_exists⟩ b_exists O_exists (pure_answer T)
  have O_answers := ok_answers (P := P) (w := w) (base := base) F_answers T O_answer O_end_of ⟨mk, a_init, i_init, kc⟩ b_init O_init (pure_answers T)
  exact O_answers
end Bs

/-! ## BsEnd -/
set_option Elab.async false
set_option linter.all false
open PySem PySem.W PyProof.Rows
set_option maxRecDepth 100000 in
set_option maxHeartbeats 8000000 in
theorem PySem.Challenge.cw_breadstreet_s01_answers_holds : PySem.Challenge.rw_breadstreet_s01_answers.Holds := by
  w_on; k_headS; (case hw => exact ⟨[.list [.int 7]], by decide +kernel, by decide +kernel⟩)
  k_fillS
  refine L2.walk_specK (r := PySem.Challenge.rw_breadstreet_s01_answers) (k := 9) (CX := L2.CX0) (ps := ["calls"]) (sp := Bs.sp_answers) (by decide +kernel) rfl rfl ⟨rfl, by decide, by decide⟩ (fun w h Y => PySem.W.kIn_of Y) ?F ?S (fun _ _ _ _ z => z)
  case F =>
    intro w mg fa h Y KX G hmg
    refine' Bs.all_mk KX G hmg ?aC ?a_is_within ?l_is_within ?c_is_within ?k_is_within ?a_is_index ?l_is_index ?c_is_index ?k_is_index ?a_are_indices ?l_are_indices ?c_are_indices ?k_are_indices ?a_members ?l_members ?c_members ?k_members ?a_without ?l_without ?c_without ?k_without ?a_replaced ?l_replaced ?c_replaced ?k_replaced ?a_arrivals ?l_arrivals ?c_arrivals ?k_arrivals ?a_finish_of ?l_finish_of ?c_finish_of ?k_finish_of ?a_is_on_time ?l_is_on_time ?c_is_on_time ?k_is_on_time ?a_loaves_of ?l_loaves_of ?c_loaves_of ?k_loaves_of ?a_by_distance ?l_by_distance ?c_by_distance ?k_by_distance ?a_left_ones ?l_left_ones ?c_left_ones ?k_left_ones ?a_right_ones ?l_right_ones ?c_right_ones ?k_right_ones ?a_taken_from ?l_taken_from ?c_taken_from ?k_taken_from ?a_longer_routes ?l_longer_routes ?c_longer_routes ?k_longer_routes ?a_sweeping_routes ?l_sweeping_routes ?c_sweeping_routes ?k_sweeping_routes ?a_best_route ?l_best_route ?c_best_route ?k_best_route ?a_richest_route ?l_richest_route ?c_richest_route ?k_richest_route ?a_latest_for ?l_latest_for ?c_latest_for ?k_latest_for ?a_latest_departure ?l_latest_departure ?c_latest_departure ?k_latest_departure ?a_init ?i_init ?l_init ?c_init ?k_init ?a_exists ?i_exists ?l_exists ?c_exists ?k_exists ?a_is_departure ?l_is_departure ?c_is_departure ?k_is_departure ?a_is_field ?l_is_field ?c_is_field ?k_is_field ?a_create ?l_create ?c_create ?k_create ?a_add_shop ?l_add_shop ?c_add_shop ?k_add_shop ?a_remove_shop ?l_remove_shop ?c_remove_shop ?k_remove_shop ?a_set_field ?l_set_field ?c_set_field ?k_set_field ?a_set_departure ?l_set_departure ?c_set_departure ?k_set_departure ?a_every ?l_every ?c_every ?k_every ?a_earliest_finish ?l_earliest_finish ?c_earliest_finish ?k_earliest_finish ?a_ask_best_route ?l_ask_best_route ?c_ask_best_route ?k_ask_best_route ?a_arrival_times ?l_arrival_times ?c_arrival_times ?k_arrival_times ?a_check_route ?l_check_route ?c_check_route ?k_check_route ?a_max_loaves ?l_max_loaves ?c_max_loaves ?k_max_loaves ?a_earliest_finish_of ?l_earliest_finish_of ?c_earliest_finish_of ?k_earliest_finish_of ?a_return_time ?l_return_time ?c_return_time ?k_return_time ?a_earliest_finish_without ?l_earliest_finish_without ?c_earliest_finish_without ?k_earliest_finish_without ?a_describe ?l_describe ?c_describe ?k_describe ?a_ask_latest ?l_ask_latest ?c_ask_latest ?k_ask_latest ?a_answer_edit ?l_answer_edit ?c_answer_edit ?k_answer_edit ?a_answer_question ?l_answer_question ?c_answer_question ?k_answer_question ?a_answer ?l_answer ?c_answer ?k_answer ?a_end_of ?l_end_of ?c_end_of ?k_end_of ?a_answers ?l_answers ?c_answers ?k_answers ?pg ?hd ?po ?sa ?mk ?kc ?nD ?nS ?g_MOST_TIME ?g_MOST_SHOPS ?g_ABSENT ?g_MISSING ?g_OUT_OF_RANGE ?g_FULL ?g_LATE ?g_POSITION ?g_DEADLINE ?g_LOAVES ?g_LOW ?x_LOW ?g_HIGH ?x_HIGH ?g_NUMBERS ?x_NUMBERS ?g_WITH_ROUTE ?x_WITH_ROUTE ?b_len ?b_range ?b_abs ?b_min ?b_max ?b_sum ?b_sorted ?b_zip ?b_list
    (case aC => k_is)
    (case a_is_within => k_is)
    (case l_is_within => k_is)
    (case c_is_within => k_is)
    (case k_is_within => k_is)
    (case a_is_index => k_is)
    (case l_is_index => k_is)
    (case c_is_index => k_is)
    (case k_is_index => k_is)
    (case a_are_indices => k_is)
    (case l_are_indices => k_is)
    (case c_are_indices => k_is)
    (case k_are_indices => k_is)
    (case a_members => k_is)
    (case l_members => k_is)
    (case c_members => k_is)
    (case k_members => k_is)
    (case a_without => k_is)
    (case l_without => k_is)
    (case c_without => k_is)
    (case k_without => k_is)
    (case a_replaced => k_is)
    (case l_replaced => k_is)
    (case c_replaced => k_is)
    (case k_replaced => k_is)
    (case a_arrivals => k_is)
    (case l_arrivals => k_is)
    (case c_arrivals => k_is)
    (case k_arrivals => k_is)
    (case a_finish_of => k_is)
    (case l_finish_of => k_is)
    (case c_finish_of => k_is)
    (case k_finish_of => k_is)
    (case a_is_on_time => k_is)
    (case l_is_on_time => k_is)
    (case c_is_on_time => k_is)
    (case k_is_on_time => k_is)
    (case a_loaves_of => k_is)
    (case l_loaves_of => k_is)
    (case c_loaves_of => k_is)
    (case k_loaves_of => k_is)
    (case a_by_distance => k_is)
    (case l_by_distance => k_is)
    (case c_by_distance => k_is)
    (case k_by_distance => k_is)
    (case a_left_ones => k_is)
    (case l_left_ones => k_is)
    (case c_left_ones => k_is)
    (case k_left_ones => k_is)
    (case a_right_ones => k_is)
    (case l_right_ones => k_is)
    (case c_right_ones => k_is)
    (case k_right_ones => k_is)
    (case a_taken_from => k_is)
    (case l_taken_from => k_is)
    (case c_taken_from => k_is)
    (case k_taken_from => k_is)
    (case a_longer_routes => k_is)
    (case l_longer_routes => k_is)
    (case c_longer_routes => k_is)
    (case k_longer_routes => k_is)
    (case a_sweeping_routes => k_is)
    (case l_sweeping_routes => k_is)
    (case c_sweeping_routes => k_is)
    (case k_sweeping_routes => k_is)
    (case a_best_route => k_is)
    (case l_best_route => k_is)
    (case c_best_route => k_is)
    (case k_best_route => k_is)
    (case a_richest_route => k_is)
    (case l_richest_route => k_is)
    (case c_richest_route => k_is)
    (case k_richest_route => k_is)
    (case a_latest_for => k_is)
    (case l_latest_for => k_is)
    (case c_latest_for => k_is)
    (case k_latest_for => k_is)
    (case a_latest_departure => k_is)
    (case l_latest_departure => k_is)
    (case c_latest_departure => k_is)
    (case k_latest_departure => k_is)
    (case a_init => k_is)
    (case i_init => k_is)
    (case l_init => k_is)
    (case c_init => k_is)
    (case k_init => k_is)
    (case a_exists => k_is)
    (case i_exists => k_is)
    (case l_exists => k_is)
    (case c_exists => k_is)
    (case k_exists => k_is)
    (case a_is_departure => k_is)
    (case l_is_departure => k_is)
    (case c_is_departure => k_is)
    (case k_is_departure => k_is)
    (case a_is_field => k_is)
    (case l_is_field => k_is)
    (case c_is_field => k_is)
    (case k_is_field => k_is)
    (case a_create => k_is)
    (case l_create => k_is)
    (case c_create => k_is)
    (case k_create => k_is)
    (case a_add_shop => k_is)
    (case l_add_shop => k_is)
    (case c_add_shop => k_is)
    (case k_add_shop => k_is)
    (case a_remove_shop => k_is)
    (case l_remove_shop => k_is)
    (case c_remove_shop => k_is)
    (case k_remove_shop => k_is)
    (case a_set_field => k_is)
    (case l_set_field => k_is)
    (case c_set_field => k_is)
    (case k_set_field => k_is)
    (case a_set_departure => k_is)
    (case l_set_departure => k_is)
    (case c_set_departure => k_is)
    (case k_set_departure => k_is)
    (case a_every => k_is)
    (case l_every => k_is)
    (case c_every => k_is)
    (case k_every => k_is)
    (case a_earliest_finish => k_is)
    (case l_earliest_finish => k_is)
    (case c_earliest_finish => k_is)
    (case k_earliest_finish => k_is)
    (case a_ask_best_route => k_is)
    (case l_ask_best_route => k_is)
    (case c_ask_best_route => k_is)
    (case k_ask_best_route => k_is)
    (case a_arrival_times => k_is)
    (case l_arrival_times => k_is)
    (case c_arrival_times => k_is)
    (case k_arrival_times => k_is)
    (case a_check_route => k_is)
    (case l_check_route => k_is)
    (case c_check_route => k_is)
    (case k_check_route => k_is)
    (case a_max_loaves => k_is)
    (case l_max_loaves => k_is)
    (case c_max_loaves => k_is)
    (case k_max_loaves => k_is)
    (case a_earliest_finish_of => k_is)
    (case l_earliest_finish_of => k_is)
    (case c_earliest_finish_of => k_is)
    (case k_earliest_finish_of => k_is)
    (case a_return_time => k_is)
    (case l_return_time => k_is)
    (case c_return_time => k_is)
    (case k_return_time => k_is)
    (case a_earliest_finish_without => k_is)
    (case l_earliest_finish_without => k_is)
    (case c_earliest_finish_without => k_is)
    (case k_earliest_finish_without => k_is)
    (case a_describe => k_is)
    (case l_describe => k_is)
    (case c_describe => k_is)
    (case k_describe => k_is)
    (case a_ask_latest => k_is)
    (case l_ask_latest => k_is)
    (case c_ask_latest => k_is)
    (case k_ask_latest => k_is)
    (case a_answer_edit => k_is)
    (case l_answer_edit => k_is)
    (case c_answer_edit => k_is)
    (case k_answer_edit => k_is)
    (case a_answer_question => k_is)
    (case l_answer_question => k_is)
    (case c_answer_question => k_is)
    (case k_answer_question => k_is)
    (case a_answer => k_is)
    (case l_answer => k_is)
    (case c_answer => k_is)
    (case k_answer => k_is)
    (case a_end_of => k_is)
    (case l_end_of => k_is)
    (case c_end_of => k_is)
    (case k_end_of => k_is)
    (case a_answers => k_is)
    (case l_answers => k_is)
    (case c_answers => k_is)
    (case k_answers => k_is)
    (case pg => k_is)
    (case hd => k_is)
    (case po => k_is)
    (case sa => k_is)
    (case mk => k_is)
    (case kc => k_is)
    (case nD => k_is)
    (case nS => k_is)
    (case g_MOST_TIME => k_is)
    (case g_MOST_SHOPS => k_is)
    (case g_ABSENT => k_is)
    (case g_MISSING => k_is)
    (case g_OUT_OF_RANGE => k_is)
    (case g_FULL => k_is)
    (case g_LATE => k_is)
    (case g_POSITION => k_is)
    (case g_DEADLINE => k_is)
    (case g_LOAVES => k_is)
    (case g_LOW => k_is)
    (case x_LOW => k_is)
    (case g_HIGH => k_is)
    (case x_HIGH => k_is)
    (case g_NUMBERS => k_is)
    (case x_NUMBERS => k_is)
    (case g_WITH_ROUTE => k_is)
    (case x_WITH_ROUTE => k_is)
    (case b_len => k_is)
    (case b_range => k_is)
    (case b_abs => k_is)
    (case b_min => k_is)
    (case b_max => k_is)
    (case b_sum => k_is)
    (case b_sorted => k_is)
    (case b_zip => k_is)
    (case b_list => k_is)
  case S =>
    intro K H xs a hO hwi hask hx
    cases hx with
    | cons h1 h2 =>
      cases h2
      cases h1 with
      | lst hs ha =>
        have e := L2.ints_dw a.1 _ ha
        subst e
        have q : ((Codec.inLen 0 4400 a.1 && a.1.all (Codec.inInt (_root_.Int.negSucc 2147483647) (_root_.Int.ofNat 2147483647))) && true) = true := hwi
        rw [Bool.and_eq_true, Bool.and_eq_true] at q
        exact ⟨_, a.1, rfl, hs, hask, (Codec.inNat_iff.mp q.1.1).2, fun H' p hp => .lst (L2.SqL.of hp) (L2.dw_ints _)⟩
#print axioms PySem.Challenge.cw_breadstreet_s01_answers_holds

import PyProof.Rows.All
import Wide.All
import OpenK.AllK
import Wide.FinOn
import HandS.ForMost
import HandS.GenList
import HandS.RevRange
import HandS.Replace
import HandS.StrMore
import HandS.IsInst
import HandS.Wide
import HandS.Zip
import HandS.Codes
import PySem.Challenge.RW_jartext_k04_whole_neighbours_of_strings
set_option Elab.async false
set_option linter.all false
set_option maxRecDepth 100000
set_option maxHeartbeats 4000000
/-! The mathematics of neighbours: no program in sight. Words are lists of code points. -/
namespace Nb
abbrev W := List Nat
def ltrs : List Nat := [97, 99, 103, 116]
def Ltr (w : W) : Prop := ∀ x, x ∈ w → x ∈ ltrs
theorem ltr_cons {c : Nat} {r : W} : Ltr (c :: r) ↔ c ∈ ltrs ∧ Ltr r := by
  unfold Ltr; simp
theorem ltr_app {p r : W} : Ltr (p ++ r) ↔ Ltr p ∧ Ltr r := by
  unfold Ltr
  constructor
  · exact fun h => ⟨fun x hx => h x (List.mem_append_left _ hx), fun x hx => h x (List.mem_append_right _ hx)⟩
  · rintro ⟨h1, h2⟩ x hx
    rcases List.mem_append.mp hx with z | z
    · exact h1 x z
    · exact h2 x z
/-! ### order -/
theorem pre_lt : ∀ (p : W) {x y : W}, p ++ x < p ++ y ↔ x < y
  | [], x, y => Iff.rfl
  | a :: p, x, y => by
    rw [List.cons_append, List.cons_append, List.cons_lt_cons_iff]
    constructor
    · rintro (h | ⟨_, h⟩)
      · omega
      · exact (pre_lt p).mp h
    · exact fun h => .inr ⟨rfl, (pre_lt p).mpr h⟩
theorem le_anti {x y : W} (h1 : x ≤ y) (h2 : y ≤ x) : x = y := List.le_antisymm h1 h2
def isort (xs : List W) : List W := xs.mergeSort (fun a b => decide (a ≤ b))
theorem isort_perm (xs : List W) : (isort xs).Perm xs := List.mergeSort_perm _ _
theorem isort_le (xs : List W) : (isort xs).Pairwise (· ≤ ·) := by
  have h := List.pairwise_mergeSort (le := fun (a b : W) => decide (a ≤ b)) (fun a b c h1 h2 => decide_eq_true (List.le_trans (of_decide_eq_true h1) (of_decide_eq_true h2)))
    (fun a b => by
      rcases List.le_total a b with h | h
      · simp [h]
      · simp [h]) xs
  exact h.imp fun h => of_decide_eq_true h
theorem isort_eq {xs ys : List W} (hp : ys.Perm xs) (hs : ys.Pairwise (· ≤ ·)) : ys = isort xs :=
  List.Perm.eq_of_pairwise (fun a b _ _ h1 h2 => le_anti h1 h2) hs (isort_le xs) (hp.trans (isort_perm xs).symm)
theorem isort_lt {xs : List W} (hn : xs.Nodup) : (isort xs).Pairwise (· < ·) := by
  have h1 := isort_le xs
  have h2 : (isort xs).Nodup := (isort_perm xs).nodup_iff.mpr hn
  refine List.Pairwise.imp (fun {a b} => ?_) (h1.and h2)
  rintro ⟨h, n⟩
  rcases Classical.em (a < b) with z | z
  · exact z
  · exact absurd (le_anti h (List.not_lt.mp z)) n
theorem mem_isort {xs : List W} {x : W} : x ∈ isort xs ↔ x ∈ xs := (isort_perm xs).mem_iff
/-! ### the strings that first differ by a letter -/
def raw (p : W) (c : Nat) (r : W) (l : Nat) : List W := [p ++ l :: r, p ++ l :: c :: r] ++ (if r.head? = some l then [p ++ r] else [])
def stw (p : W) (c : Nat) (r : W) (l : Nat) : List W := isort (raw p c r l)
theorem mem_stw {p r x : W} {c l : Nat} : x ∈ stw p c r l ↔ ∃ t, x = p ++ l :: t ∧ (t = r ∨ t = c :: r ∨ l :: t = r) := by
  unfold stw
  rw [mem_isort]
  unfold raw
  cases r with
  | nil =>
    simp
    constructor
    · rintro (h | h)
      · exact ⟨[], h, .inl rfl⟩
      · exact ⟨[c], h, .inr rfl⟩
    · rintro ⟨t, h, rfl | rfl⟩
      · exact .inl h
      · exact .inr h
  | cons d r =>
    by_cases e : d = l
    · subst e
      simp
      constructor
      · rintro (h | h | h)
        · exact ⟨_, h, .inl rfl⟩
        · exact ⟨_, h, .inr (.inl rfl)⟩
        · exact ⟨_, h, .inr (.inr rfl)⟩
      · rintro ⟨t, h, rfl | rfl | rfl⟩
        · exact .inl h
        · exact .inr (.inl h)
        · exact .inr (.inr h)
    · have e' : ¬ l = d := fun z => e z.symm
      simp [e, e']
      constructor
      · rintro (h | h)
        · exact ⟨_, h, .inl rfl⟩
        · exact ⟨_, h, .inr rfl⟩
      · rintro ⟨t, h, rfl | rfl⟩
        · exact .inl h
        · exact .inr h
theorem stw_lt (p : W) (c : Nat) (r : W) (l : Nat) : (stw p c r l).Pairwise (· < ·) := by
  refine isort_lt ?_
  have ne : ∀ {a b : W}, a.length ≠ b.length → a ≠ b := fun h z => h (by rw [z])
  unfold raw
  split
  · simp only [List.cons_append, List.nil_append, List.nodup_cons, List.mem_cons, List.not_mem_nil, or_false, not_or, List.nodup_nil, and_true, not_false_eq_true]
    exact ⟨⟨ne (by simp), ne (by simp)⟩, ne (by simp <;> omega)⟩
  · simp only [List.append_nil, List.nodup_cons, List.mem_cons, List.not_mem_nil, or_false, List.nodup_nil, and_true, not_false_eq_true]
    exact ne (by simp)
theorem stw_len (p : W) (c : Nat) (r : W) (l : Nat) : (stw p c r l).length = 2 + (if r.head? = some l then 1 else 0) := by
  unfold stw
  rw [(isort_perm _).length_eq]
  unfold raw
  split <;> simp
/-! ### lower and higher letters -/
def lows (c : Nat) : List Nat := ltrs.take (ltrs.idxOf c)
def highs (c : Nat) : List Nat := ltrs.drop (ltrs.idxOf c + 1)
theorem mem4 {c : Nat} (h : c ∈ ltrs) : c = 97 ∨ c = 99 ∨ c = 103 ∨ c = 116 := by
  unfold ltrs at h
  simpa using h
theorem mem_lows {c l : Nat} (h : c ∈ ltrs) : l ∈ lows c ↔ l ∈ ltrs ∧ l < c := by
  rcases mem4 h with rfl | rfl | rfl | rfl
  · rw [show lows 97 = [] from rfl]; unfold ltrs; simp; omega
  · rw [show lows 99 = [97] from rfl]; unfold ltrs; simp; omega
  · rw [show lows 103 = [97, 99] from rfl]; unfold ltrs; simp; omega
  · rw [show lows 116 = [97, 99, 103] from rfl]; unfold ltrs; simp; omega
theorem mem_highs {c l : Nat} (h : c ∈ ltrs) : l ∈ highs c ↔ l ∈ ltrs ∧ c < l := by
  rcases mem4 h with rfl | rfl | rfl | rfl
  · rw [show highs 97 = [99, 103, 116] from rfl]; unfold ltrs; simp; omega
  · rw [show highs 99 = [103, 116] from rfl]; unfold ltrs; simp; omega
  · rw [show highs 103 = [116] from rfl]; unfold ltrs; simp; omega
  · rw [show highs 116 = [] from rfl]; unfold ltrs; simp; omega
theorem lows_lt {c : Nat} (h : c ∈ ltrs) : (lows c).Pairwise (· < ·) := by
  rcases mem4 h with rfl | rfl | rfl | rfl <;> decide
theorem highs_lt {c : Nat} (h : c ∈ ltrs) : (highs c).Pairwise (· < ·) := by
  rcases mem4 h with rfl | rfl | rfl | rfl <;> decide
/-! ### all of them -/
def N : W → W → List W
  | p, [] => ltrs.map (fun l => p ++ [l])
  | p, c :: r => (if r = [] ∧ p ≠ [] then [p] else []) ++ ((lows c).flatMap (stw p c r) ++ (N (p ++ [c]) r ++ (highs c).flatMap (stw p c r)))
/-- within one letter -/
def near : W → W → Bool
  | [], [] => true
  | [], [_] => true
  | [], _ :: _ :: _ => false
  | [_], [] => true
  | _ :: _ :: _, [] => false
  | a :: x, b :: w => if a = b then near x w else decide (x = w ∨ x = b :: w ∨ a :: x = w)
theorem near_cons (a b : Nat) (x w : W) : near (a :: x) (b :: w) = if a = b then near x w else decide (x = w ∨ x = b :: w ∨ a :: x = w) := by
  rw [near]
theorem near_same : ∀ w : W, near w w = true
  | [] => rfl
  | a :: w => by
    rw [near_cons, if_pos rfl]
    exact near_same w
theorem near_nil {x : W} : near x [] = true ↔ x = [] ∨ ∃ l, x = [l] := by
  match x with
  | [] => simp [near]
  | [a] => simp [near]
  | a :: b :: r => simp [near]
theorem nil_near {w : W} : near [] w = true ↔ w = [] ∨ ∃ l, w = [l] := by
  match w with
  | [] => simp [near]
  | [a] => simp [near]
  | a :: b :: r => simp [near]
theorem near_symm : ∀ x w : W, near x w = near w x
  | [], [] => rfl
  | [], [_] => rfl
  | [], _ :: _ :: _ => rfl
  | [_], [] => rfl
  | _ :: _ :: _, [] => rfl
  | a :: x, b :: w => by
    rw [near_cons, near_cons]
    by_cases e : a = b
    · subst e
      rw [if_pos rfl, if_pos rfl]
      exact near_symm x w
    · rw [if_neg e, if_neg fun z => e z.symm]
      refine decide_eq_decide.mpr ?_
      constructor
      · rintro (h | h | h)
        · exact .inl h.symm
        · exact .inr (.inr h.symm)
        · exact .inr (.inl h.symm)
      · rintro (h | h | h)
        · exact .inl h.symm
        · exact .inr (.inr h.symm)
        · exact .inr (.inl h.symm)
theorem mem_N : ∀ (r p : W), Ltr r → ∀ x, x ∈ N p r ↔ ∃ y, x = p ++ y ∧ y ≠ r ∧ near y r = true ∧ Ltr y ∧ x ≠ []
  | [], p, _, x => by
    unfold N
    rw [List.mem_map]
    constructor
    · rintro ⟨l, hl, rfl⟩
      exact ⟨[l], rfl, by simp, rfl, by unfold Ltr; simpa using hl, by simp⟩
    · rintro ⟨y, rfl, hy, hn, hL, _⟩
      rcases near_nil.mp hn with rfl | ⟨l, rfl⟩
      · exact absurd rfl hy
      · exact ⟨l, hL l (List.mem_singleton.mpr rfl), rfl⟩
  | c :: r, p, hL, x => by
    obtain ⟨hc, hr⟩ := ltr_cons.mp hL
    have ih := mem_N r (p ++ [c]) hr x
    rw [N, List.mem_append, List.mem_append, List.mem_append, ih, List.mem_flatMap, List.mem_flatMap]
    constructor
    · rintro (h | ⟨l, hl, h⟩ | ⟨y, rfl, h1, h2, h3, h4⟩ | ⟨l, hl, h⟩)
      · split at h
        · next q =>
          obtain rfl := List.mem_singleton.mp h
          refine ⟨[], by simp, by simp, nil_near.mpr (.inr ⟨c, by rw [q.1]⟩), fun z hz => (by cases hz), q.2⟩
        · cases h
      · obtain ⟨hl1, hl2⟩ := (mem_lows hc).mp hl
        obtain ⟨t, rfl, ht⟩ := mem_stw.mp h
        refine ⟨l :: t, rfl, fun z => ?_, ?_, ?_, by simp⟩
        · injection z with z1 z2; omega
        · rw [near_cons, if_neg (by omega)]; exact decide_eq_true ht
        · refine ltr_cons.mpr ⟨hl1, ?_⟩
          rcases ht with rfl | rfl | rfl
          · exact hr
          · exact hL
          · exact (ltr_cons.mp hr).2
      · refine ⟨c :: y, by simp, fun z => h1 (by injection z), ?_, ltr_cons.mpr ⟨hc, h3⟩, by simp⟩
        rw [near_cons, if_pos rfl]; exact h2
      · obtain ⟨hl1, hl2⟩ := (mem_highs hc).mp hl
        obtain ⟨t, rfl, ht⟩ := mem_stw.mp h
        refine ⟨l :: t, rfl, fun z => ?_, ?_, ?_, by simp⟩
        · injection z with z1 z2; omega
        · rw [near_cons, if_neg (by omega)]; exact decide_eq_true ht
        · refine ltr_cons.mpr ⟨hl1, ?_⟩
          rcases ht with rfl | rfl | rfl
          · exact hr
          · exact hL
          · exact (ltr_cons.mp hr).2
    · rintro ⟨y, rfl, h1, h2, h3, h4⟩
      cases y with
      | nil =>
        refine .inl ?_
        rcases nil_near.mp h2 with z | ⟨l, z⟩
        · cases z
        · have hr0 : r = [] := by injection z
          have hp0 : p ≠ [] := fun z => h4 (by rw [z]; rfl)
          rw [if_pos ⟨hr0, hp0⟩]
          simp
      | cons a y =>
        obtain ⟨ha, hy⟩ := ltr_cons.mp h3
        by_cases e : a = c
        · subst e
          rw [near_cons, if_pos rfl] at h2
          exact .inr (.inr (.inl ⟨y, by simp, fun z => h1 (by rw [z]), h2, hy, by simp⟩))
        · rw [near_cons, if_neg e] at h2
          have h2' := of_decide_eq_true h2
          rcases Nat.lt_or_gt_of_ne e with lt | gt
          · exact .inr (.inl ⟨a, (mem_lows hc).mpr ⟨ha, lt⟩, mem_stw.mpr ⟨y, rfl, h2'⟩⟩)
          · exact .inr (.inr (.inr ⟨a, (mem_highs hc).mpr ⟨ha, gt⟩, mem_stw.mpr ⟨y, rfl, h2'⟩⟩))
theorem N_pre {r p x : W} (hr : Ltr r) (h : x ∈ N p r) : ∃ y, x = p ++ y := by
  obtain ⟨y, e, _⟩ := (mem_N r p hr x).mp h
  exact ⟨y, e⟩
theorem lt_of_head {p s t : W} {a b : Nat} (h : a < b) : p ++ a :: s < p ++ b :: t := (pre_lt p).mpr (List.cons_lt_cons_iff.mpr (.inl h))
theorem N_lt : ∀ (r p : W), Ltr r → (N p r).Pairwise (· < ·)
  | [], p, _ => by
    unfold N
    rw [List.pairwise_map]
    have h : ltrs.Pairwise (· < ·) := by decide
    exact h.imp fun {a b} h => lt_of_head h
  | c :: r, p, hL => by
    obtain ⟨hc, hr⟩ := ltr_cons.mp hL
    have ih := N_lt r (p ++ [c]) hr
    have flat : ∀ ls : List Nat, ls.Pairwise (· < ·) → (ls.flatMap (stw p c r)).Pairwise (· < ·) := fun ls h => by
      rw [List.pairwise_flatMap]
      refine ⟨fun l _ => stw_lt p c r l, h.imp fun {a b} hab x hx y hy => ?_⟩
      obtain ⟨t, rfl, _⟩ := mem_stw.mp hx
      obtain ⟨u, rfl, _⟩ := mem_stw.mp hy
      exact lt_of_head hab
    have inl : ∀ x, x ∈ (lows c).flatMap (stw p c r) → ∃ l t, l < c ∧ x = p ++ l :: t := fun x hx => by
      obtain ⟨l, hl, h⟩ := List.mem_flatMap.mp hx
      obtain ⟨t, e, _⟩ := mem_stw.mp h
      exact ⟨l, t, ((mem_lows hc).mp hl).2, e⟩
    have inh : ∀ x, x ∈ (highs c).flatMap (stw p c r) → ∃ l t, c < l ∧ x = p ++ l :: t := fun x hx => by
      obtain ⟨l, hl, h⟩ := List.mem_flatMap.mp hx
      obtain ⟨t, e, _⟩ := mem_stw.mp h
      exact ⟨l, t, ((mem_highs hc).mp hl).2, e⟩
    have inm : ∀ x, x ∈ N (p ++ [c]) r → ∃ t, x = p ++ c :: t := fun x hx => by
      obtain ⟨y, e⟩ := N_pre hr hx
      exact ⟨y, by rw [e]; simp⟩
    have p0 : ∀ (l : Nat) (t : W), p < p ++ l :: t := fun l t => by
      have h : p ++ [] < p ++ l :: t := (pre_lt p).mpr (List.nil_lt_cons l t)
      rwa [List.append_nil] at h
    rw [N, List.pairwise_append, List.pairwise_append, List.pairwise_append]
    refine ⟨by split <;> simp, ⟨flat _ (lows_lt hc), ⟨ih, flat _ (highs_lt hc), ?_⟩, ?_⟩, ?_⟩
    · intro x hx y hy
      obtain ⟨t, rfl⟩ := inm x hx
      obtain ⟨l, u, h, rfl⟩ := inh y hy
      exact lt_of_head h
    · intro x hx y hy
      obtain ⟨l, t, h, rfl⟩ := inl x hx
      rcases List.mem_append.mp hy with z | z
      · obtain ⟨u, rfl⟩ := inm y z
        exact lt_of_head h
      · obtain ⟨l2, u, h2, rfl⟩ := inh y z
        exact lt_of_head (Nat.lt_trans h h2)
    · intro x hx y hy
      split at hx
      · obtain rfl := List.mem_singleton.mp hx
        rcases List.mem_append.mp hy with z | z
        · obtain ⟨l, t, _, rfl⟩ := inl y z
          exact p0 _ _
        · rcases List.mem_append.mp z with z | z
          · obtain ⟨u, rfl⟩ := inm y z
            exact p0 _ _
          · obtain ⟨l2, u, h2, rfl⟩ := inh y z
            exact p0 _ _
      · cases hx
/-! ### how many -/
def ch : W → Nat
  | [] => 0
  | [_] => 0
  | a :: b :: r => (if b = a then 0 else 1) + ch (b :: r)
def hd1 (r : W) (c : Nat) : Nat := match r with | [] => 0 | b :: _ => if b = c then 0 else 1
theorem flat_len (p : W) (c : Nat) (r : W) (hc : c ∈ ltrs) (hr : Ltr r) :
    ((lows c).flatMap (stw p c r)).length + ((highs c).flatMap (stw p c r)).length = 6 + hd1 r c := by
  simp only [List.length_flatMap]
  have e : (fun l => (stw p c r l).length) = fun l => 2 + (if r.head? = some l then 1 else 0) := by
    funext l; exact stw_len p c r l
  rw [e]
  cases r with
  | nil => rcases mem4 hc with rfl | rfl | rfl | rfl <;> decide
  | cons b r =>
    have hb := (ltr_cons.mp hr).1
    show _ = 6 + (if b = c then 0 else 1)
    rw [List.head?_cons]
    clear hr
    rcases mem4 hc with rfl | rfl | rfl | rfl <;> rcases mem4 hb with rfl | rfl | rfl | rfl <;> decide
theorem N_len : ∀ (r p : W), Ltr r → (N p r).length = 6 * r.length + 4 + ch r + (if r ≠ [] ∧ (p ≠ [] ∨ 1 < r.length) then 1 else 0)
  | [], p, _ => by simp [N, ch, ltrs]
  | c :: r, p, hL => by
    obtain ⟨hc, hr⟩ := ltr_cons.mp hL
    have ih := N_len r (p ++ [c]) hr
    have fl := flat_len p c r hc hr
    rw [N, List.length_append, List.length_append, List.length_append, ih]
    cases r with
    | nil =>
      by_cases hp : p = []
      · simp [hp, ch, hd1] at fl ⊢; omega
      · simp [hp, ch, hd1] at fl ⊢; omega
    | cons b r =>
      have z : (if (b :: r : W) ≠ [] ∧ (p ++ [c] ≠ [] ∨ 1 < (b :: r).length) then 1 else 0) = 1 := if_pos ⟨by simp, .inl (by simp)⟩
      have z2 : (if (c :: b :: r : W) ≠ [] ∧ (p ≠ [] ∨ 1 < (c :: b :: r).length) then 1 else 0) = 1 := if_pos ⟨by simp, .inr (by simp)⟩
      have z3 : (if (b :: r : W) = [] ∧ p ≠ [] then [p] else []) = [] := if_neg (by simp)
      rw [z, z2, z3]
      simp only [ch, hd1, List.length_cons, List.length_nil] at fl ⊢
      omega
/-- the changes by places -/
def chT (w : W) (i : Nat) : Nat := ((List.range i).filter fun k => decide (w.getD (k + 1) 0 ≠ w.getD k 0)).length
theorem chT_cons (a b : Nat) (r : W) : ∀ i, chT (a :: b :: r) (i + 1) = (if b = a then 0 else 1) + chT (b :: r) i := fun i => by
  unfold chT
  rw [List.range_succ_eq_map, List.filter_cons, List.filter_map, ]
  by_cases e : b = a
  · subst e
    simp [Function.comp_def]
  · simp [Function.comp_def, e]
    omega
theorem chT_all : ∀ w : W, chT w (w.length - 1) = ch w
  | [] => rfl
  | [_] => rfl
  | a :: b :: r => by
    have ih := chT_all (b :: r)
    show chT (a :: b :: r) (r.length + 1) = _
    rw [chT_cons]
    show _ + chT (b :: r) ((b :: r).length - 1) = _
    rw [ih]
    rfl
theorem chT_succ (w : W) (i : Nat) : chT w (i + 1) = chT w i + (if w.getD (i + 1) 0 ≠ w.getD i 0 then 1 else 0) := by
  unfold chT
  rw [List.range_succ, List.filter_append, List.length_append]
  congr 1
  by_cases e : w.getD (i + 1) 0 = w.getD i 0
  · rw [List.filter_cons_of_neg (by simpa using e), if_neg (by simpa using e)]; rfl
  · rw [List.filter_cons_of_pos (by simpa using e), if_pos e]; rfl
/-! ### as the program goes: three loops -/
def A (w : W) (i : Nat) : List W := (if i + 1 = w.length ∧ 0 < i then [w.take i] else []) ++ (lows (w.getD i 0)).flatMap (stw (w.take i) (w.getD i 0) (w.drop (i + 1)))
def B (w : W) (i : Nat) : List W := (highs (w.getD i 0)).flatMap (stw (w.take i) (w.getD i 0) (w.drop (i + 1)))
def P1 (w : W) : Nat → List W
  | 0 => []
  | i + 1 => P1 w i ++ A w i
def Q3 (w : W) : Nat → List W
  | 0 => []
  | j + 1 => Q3 w j ++ B w (w.length - 1 - j)
def mid (w : W) : List W := ltrs.map fun l => w ++ [l]
def nb (w : W) : List W := P1 w w.length ++ mid w ++ Q3 w w.length
theorem N_turn (w : W) (i : Nat) (h : i < w.length) : N (w.take i) (w.drop i) = A w i ++ (N (w.take (i + 1)) (w.drop (i + 1)) ++ B w i) := by
  have e1 : w.drop i = w.getD i 0 :: w.drop (i + 1) := by
    rw [List.drop_eq_getElem_cons h]
    simp [h]
  have e2 : w.take (i + 1) = w.take i ++ [w.getD i 0] := by
    rw [List.take_add_one, List.getElem?_eq_getElem h]
    simp [h]
  rw [e1, N, ← e2]
  unfold A B
  have c1 : (w.drop (i + 1) = [] ∧ w.take i ≠ []) ↔ (i + 1 = w.length ∧ 0 < i) := by
    constructor
    · rintro ⟨h1, h2⟩
      have : (w.drop (i + 1)).length = 0 := by rw [h1]; rfl
      rw [List.length_drop] at this
      refine ⟨by omega, Nat.pos_of_ne_zero fun z => h2 (by rw [z]; rfl)⟩
    · rintro ⟨h1, h2⟩
      refine ⟨List.drop_eq_nil_of_le (by omega), fun z => ?_⟩
      have : (w.take i).length = 0 := by rw [z]; rfl
      rw [List.length_take] at this
      omega
  by_cases q : i + 1 = w.length ∧ 0 < i
  · rw [if_pos (c1.mpr q), if_pos q, List.append_assoc]
  · rw [if_neg (fun z => q (c1.mp z)), if_neg q, List.append_assoc]
theorem nb_go (w : W) : ∀ j, j ≤ w.length → P1 w (w.length - j) ++ N (w.take (w.length - j)) (w.drop (w.length - j)) = P1 w w.length ++ mid w ++ Q3 w j
  | 0, _ => by
    rw [Nat.sub_zero, List.take_length, List.drop_length]
    simp [N, mid, Q3]
  | j + 1, h => by
    have ih := nb_go w j (by omega)
    have hi : w.length - (j + 1) < w.length := by omega
    have hs : w.length - (j + 1) + 1 = w.length - j := by omega
    have t := N_turn w (w.length - (j + 1)) hi
    rw [hs] at t
    have ep : P1 w (w.length - (j + 1)) ++ A w (w.length - (j + 1)) = P1 w (w.length - j) := by
      rw [← hs]; rfl
    rw [t, ← List.append_assoc, ep, ← List.append_assoc, ih, List.append_assoc]
    show _ = _ ++ (Q3 w j ++ B w (w.length - 1 - j))
    rw [show w.length - 1 - j = w.length - (j + 1) by omega]
theorem nb_eq (w : W) : nb w = N [] w := by
  have h := nb_go w w.length (Nat.le_refl _)
  rw [Nat.sub_self] at h
  exact h.symm
theorem mem_nb {w x : W} (h : Ltr w) : x ∈ nb w ↔ x ≠ [] ∧ x ≠ w ∧ near x w = true ∧ Ltr x := by
  rw [nb_eq, mem_N w [] h]
  constructor
  · rintro ⟨y, rfl, h1, h2, h3, h4⟩
    exact ⟨h4, h1, h2, h3⟩
  · rintro ⟨h1, h2, h3, h4⟩
    exact ⟨x, rfl, h2, h3, h4, h1⟩
theorem nb_lt {w : W} (h : Ltr w) : (nb w).Pairwise (· < ·) := by
  rw [nb_eq]; exact N_lt w [] h
theorem nb_len {w : W} (h : Ltr w) (h0 : w ≠ []) : (nb w).length = 6 * w.length + 4 + (if 1 < w.length then 1 + chT w (w.length - 1) else 0) := by
  rw [nb_eq, N_len w [] h, chT_all]
  cases w with
  | nil => exact absurd rfl h0
  | cons a r =>
    cases r with
    | nil => simp [ch]
    | cons b r => simp; omega
/-! ### near, as the law reckons it: from both ends -/
theorem near_both : ∀ (a : Nat) (x w : W) (b : Nat), a ≤ min x.length w.length → (∀ i, i < a → x[i]? = w[i]?) → (a = min x.length w.length ∨ x[a]? ≠ w[a]?) →
    max x.length w.length - min x.length w.length ≤ 1 → a + b ≤ min x.length w.length → (∀ i, i < b → x[x.length - 1 - i]? = w[w.length - 1 - i]?) →
    (a + b = min x.length w.length ∨ x[x.length - 1 - b]? ≠ w[w.length - 1 - b]?) → near x w = decide (max x.length w.length - 1 ≤ a + b)
  | a + 1, [], w, b, h, _, _, _, _, _, _ => by simp at h
  | a + 1, x :: xs, [], b, h, _, _, _, _, _, _ => by simp at h
  | a + 1, x :: xs, y :: ys, b, h, h1, h2, hd, hb, h3, h4 => by
    have e : x = y := by
      have := h1 0 (by omega)
      simpa using this
    subst e
    rw [near_cons, if_pos rfl]
    simp only [List.length_cons] at *
    have ih := near_both a xs ys b (by omega) (fun i hi => by have := h1 (i + 1) (by omega); simpa using this)
      (by
        rcases h2 with h2 | h2
        · exact .inl (by omega)
        · exact .inr (by simpa using h2))
      (by omega) (by omega)
      (fun i hi => by
        have := h3 i hi
        rw [show xs.length + 1 - 1 - i = (xs.length - 1 - i) + 1 by omega, show ys.length + 1 - 1 - i = (ys.length - 1 - i) + 1 by omega] at this
        simpa using this)
      (by
        by_cases q : a + b = min xs.length ys.length
        · exact .inl q
        · rcases h4 with h4 | h4
          · exact .inl (by omega)
          · refine .inr ?_
            rw [show xs.length + 1 - 1 - b = (xs.length - 1 - b) + 1 by omega, show ys.length + 1 - 1 - b = (ys.length - 1 - b) + 1 by omega] at h4
            simpa using h4)
    rw [ih]
    refine decide_eq_decide.mpr ?_
    omega
  | 0, [], w, b, _, _, _, hd, hb, _, _ => by
    have hw : w.length ≤ 1 := by simp at hd; exact hd
    have : near [] w = true := nil_near.mpr (by
      match w, hw with
      | [], _ => exact .inl rfl
      | [l], _ => exact .inr ⟨l, rfl⟩)
    rw [this]
    refine (decide_eq_true ?_).symm
    simp; omega
  | 0, x :: xs, [], b, _, _, _, hd, hb, _, _ => by
    have hw : (x :: xs).length ≤ 1 := by simp at hd ⊢; exact hd
    have : near (x :: xs) [] = true := near_nil.mpr (by
      match xs, hw with
      | [], _ => exact .inr ⟨x, rfl⟩)
    rw [this]
    refine (decide_eq_true ?_).symm
    simp only [List.length_cons, List.length_nil] at hw ⊢
    omega
  | 0, x :: xs, y :: ys, b, _, _, h2, hd, hb, h3, h4 => by
    have e : x ≠ y := by
      rcases h2 with h2 | h2
      · simp only [List.length_cons] at h2; omega
      · simpa using h2
    rw [near_cons, if_neg e]
    refine decide_eq_decide.mpr ?_
    simp only [List.length_cons, Nat.zero_add] at *
    have tail : ∀ i, i < b → xs.length - i ≥ 1 → ys.length - i ≥ 1 → xs[xs.length - 1 - i]? = ys[ys.length - 1 - i]? := fun i hi q1 q2 => by
      have := h3 i hi
      rw [show xs.length + 1 - 1 - i = (xs.length - 1 - i) + 1 by omega, show ys.length + 1 - 1 - i = (ys.length - 1 - i) + 1 by omega] at this
      simpa using this
    rcases Nat.lt_trichotomy xs.length ys.length with lt | eq | gt
    · -- one letter less
      have z1 : ¬ xs = ys := fun z => by rw [z] at lt; omega
      have z2 : ¬ xs = y :: ys := fun z => by rw [z] at lt; simp at lt; omega
      simp only [z1, z2, false_or]
      constructor
      · intro h
        have hl : ys.length = xs.length + 1 := by rw [← h]; rfl
        by_cases q : max (xs.length + 1) (ys.length + 1) - 1 ≤ b
        · exact q
        · exfalso
          rcases h4 with h4 | h4
          · omega
          · apply h4
            rw [← h]
            show _ = (y :: x :: xs)[((x :: xs).length + 1 - 1 - b)]?
            rw [show (x :: xs).length + 1 - 1 - b = (xs.length + 1 - 1 - b) + 1 by simp at *; omega]
            rw [List.getElem?_cons_succ]
      · intro h
        have hl : ys.length = xs.length + 1 := by omega
        refine List.ext_getElem? fun j => ?_
        by_cases hj : j < ys.length
        · have := h3 (xs.length - j) (by omega)
          rw [show xs.length + 1 - 1 - (xs.length - j) = j by omega, show ys.length + 1 - 1 - (xs.length - j) = j + 1 by omega] at this
          rw [this, List.getElem?_cons_succ]
        · rw [List.getElem?_eq_none (by simp; omega), List.getElem?_eq_none (by omega)]
    · have z2 : ¬ xs = y :: ys := fun z => by rw [z] at eq; simp at eq
      have z3 : ¬ x :: xs = ys := fun z => by rw [← z] at eq; simp at eq
      simp only [z2, z3, or_false]
      constructor
      · intro h
        by_cases q : max (xs.length + 1) (ys.length + 1) - 1 ≤ b
        · exact q
        · exfalso
          rcases h4 with h4 | h4
          · omega
          · apply h4
            rw [show xs.length + 1 - 1 - b = (xs.length - 1 - b) + 1 by omega, show ys.length + 1 - 1 - b = (ys.length - 1 - b) + 1 by omega, List.getElem?_cons_succ, List.getElem?_cons_succ, h]
      · intro h
        refine List.ext_getElem? fun j => ?_
        by_cases hj : j < ys.length
        · have := tail (xs.length - 1 - j) (by omega) (by omega) (by omega)
          rw [show xs.length - 1 - (xs.length - 1 - j) = j by omega, show ys.length - 1 - (xs.length - 1 - j) = j by omega] at this
          exact this
        · rw [List.getElem?_eq_none (by omega), List.getElem?_eq_none (by omega)]
    · have z1 : ¬ xs = ys := fun z => by rw [z] at gt; omega
      have z3 : ¬ x :: xs = ys := fun z => by rw [← z] at gt; simp at gt; omega
      simp only [z1, z3, or_false, false_or]
      constructor
      · intro h
        have hl : xs.length = ys.length + 1 := by rw [h]; rfl
        by_cases q : max (xs.length + 1) (ys.length + 1) - 1 ≤ b
        · exact q
        · exfalso
          rcases h4 with h4 | h4
          · omega
          · apply h4
            rw [h]
            show (x :: y :: ys)[((y :: ys).length + 1 - 1 - b)]? = _
            rw [show (y :: ys).length + 1 - 1 - b = (ys.length + 1 - 1 - b) + 1 by simp at *; omega]
            rw [List.getElem?_cons_succ]
      · intro h
        have hl : xs.length = ys.length + 1 := by omega
        refine List.ext_getElem? fun j => ?_
        by_cases hj : j < xs.length
        · have := h3 (ys.length - j) (by omega)
          rw [show xs.length + 1 - 1 - (ys.length - j) = j + 1 by omega, show ys.length + 1 - 1 - (ys.length - j) = j by omega] at this
          rw [List.getElem?_cons_succ] at this
          exact this
        · rw [List.getElem?_eq_none (by omega), List.getElem?_eq_none (by simp; omega)]
theorem near_far : ∀ {x w : W}, near x w = true → max x.length w.length - min x.length w.length ≤ 1
  | [], [], _ => by simp
  | [], [_], _ => by simp
  | [], _ :: _ :: _, h => by simp [near] at h
  | [_], [], _ => by simp
  | _ :: _ :: _, [], h => by simp [near] at h
  | a :: x, b :: w, h => by
    rw [near_cons] at h
    simp only [List.length_cons]
    by_cases e : a = b
    · rw [if_pos e] at h
      have := near_far h
      omega
    · rw [if_neg e] at h
      rcases of_decide_eq_true h with rfl | rfl | rfl
      · omega
      · simp only [List.length_cons]; omega
      · simp only [List.length_cons]; omega
/-! ### near, as the program reckons it: by the first difference -/
def rest (x w : W) (a : Nat) : Bool :=
  if x.length = w.length then decide (x.drop (a + 1) = w.drop (a + 1))
  else if x.length + 1 = w.length then decide (x.drop a = w.drop (a + 1))
  else if x.length = w.length + 1 then decide (x.drop (a + 1) = w.drop a) else false
theorem near_first : ∀ (a : Nat) (x w : W), x ≠ w → a ≤ min x.length w.length → (∀ i, i < a → x[i]? = w[i]?) → (a = min x.length w.length ∨ x[a]? ≠ w[a]?) → near x w = rest x w a
  | a + 1, [], w, _, h, _, _ => by simp at h
  | a + 1, x :: xs, [], _, h, _, _ => by simp at h
  | a + 1, x :: xs, y :: ys, hn, h, h1, h2 => by
    have e : x = y := by
      have := h1 0 (by omega)
      simpa using this
    subst e
    rw [near_cons, if_pos rfl]
    have ih := near_first a xs ys (fun z => hn (by rw [z])) (by simp at h; omega) (fun i hi => by have := h1 (i + 1) (by omega); simpa using this)
      (by
        rcases h2 with h2 | h2
        · exact .inl (by simp at h2; omega)
        · exact .inr (by simpa using h2))
    rw [ih]
    unfold rest
    simp only [List.length_cons, List.drop_succ_cons, Nat.add_right_cancel_iff]
  | 0, [], w, hn, _, _, _ => by
    unfold rest
    match w with
    | [] => exact absurd rfl hn
    | [l] => simp [near]
    | a :: b :: r => simp [near]
  | 0, x :: xs, [], hn, _, _, _ => by
    unfold rest
    match xs with
    | [] => simp [near]
    | b :: r => simp [near]
  | 0, x :: xs, y :: ys, hn, _, _, h2 => by
    have e : x ≠ y := by
      rcases h2 with h2 | h2
      · simp only [List.length_cons] at h2; omega
      · simpa using h2
    rw [near_cons, if_neg e]
    unfold rest
    simp only [List.length_cons, List.drop_succ_cons, List.drop_zero]
    by_cases q1 : xs.length = ys.length
    · rw [if_pos (by omega)]
      refine decide_eq_decide.mpr ⟨?_, .inl⟩
      rintro (h | h | h)
      · exact h
      · rw [h] at q1; simp at q1
      · rw [← h] at q1; simp at q1
    · rw [if_neg (by omega)]
      by_cases q2 : xs.length + 1 = ys.length
      · rw [if_pos (by omega)]
        refine decide_eq_decide.mpr ⟨?_, fun h => .inr (.inr h)⟩
        rintro (h | h | h)
        · rw [h] at q1; exact absurd rfl q1
        · rw [h] at q2; simp at q2; omega
        · exact h
      · rw [if_neg (by omega)]
        by_cases q3 : xs.length = ys.length + 1
        · rw [if_pos (by omega)]
          refine decide_eq_decide.mpr ⟨?_, fun h => .inr (.inl h)⟩
          rintro (h | h | h)
          · rw [h] at q1; exact absurd rfl q1
          · exact h
          · rw [← h] at q3; simp at q3; omega
        · rw [if_neg (by omega)]
          refine decide_eq_false ?_
          rintro (h | h | h)
          · exact q1 (by rw [h])
          · exact q3 (by rw [h]; rfl)
          · exact q2 (by rw [← h]; rfl)
end Nb
/-! Generators further: if, for, yield from over a list, calls by keywords alone. -/
namespace GF
open PySem PySem.Spec PyProof.Rows L2 GenW

/-! ### if -/
def tGIf (tc : TT) (ta tb : TGn) : TGn := fun D ys σ H => tc σ H fun d H1 => if d = true then ta D ys σ H1 else tb D ys σ H1
section
variable {X : Cx}
theorem gs_if {c : Expr} {a b : List Stmt} {pos : Pos} {tc : TT} {t u : TGn} (hc : PT X c tc) (ha : GSs X a t) (hb : GSs X b u) : GS X (.If c a b pos) (tGIf tc t u) := by
  refine ⟨fun A S ip R n ys s₀ cc fs K J gd lv s σ H D g hn k hI ht => ?_⟩
  obtain ⟨acc, cn, r, I⟩ := hI
  rw [exec_If]
  refine seg_bind_wrap (wpAny_standAt ?_)
  refine seg_bind_wrap ?_
  rw [g.over]
  refine wpAny_mono (hc.run _ s σ H _ I ht) (fun d s1 h1 => ?_) fun x s' hx => k.exc n s₀ x s' hx
  obtain ⟨H1, I1, q1⟩ := h1
  cases d with
  | true => exact ha.run A S ip R n ys s₀ cc fs K J gd lv s1 σ H1 D g hn k ⟨acc, cn, r, I1⟩ (by rw [if_pos rfl] at q1; exact q1)
  | false => exact hb.run A S ip R n ys s₀ cc fs K J gd lv s1 σ H1 D g hn k ⟨acc, cn, r, I1⟩ (by rw [if_neg Bool.false_ne_true] at q1; exact q1)
end
/-! ### for -/
section
variable {prog : Program} {w : World} {A : Around} {R : GenEnd} {Y : Protocol} {n : Nat} {s₀ : Shared} {fs : List Frame} {s : Shared} {env : Env} {c : Code}
  {K : Flow → Sem PySem.Fin} {J : Value → Sem PySem.Fin} {gd : Bool → Bool} {lv : List Value → List Value}
theorem seg_For {M : Model} {tg iter : Expr} {body orelse : List Stmt} {pos : Pos}
    (h : wpAny M (A.over c fs) (eval iter env) (fun x s1 => wpAny M (A.over c fs) (pyIter x) (fun it s2 => ∀ p, Seg M A R Y n s₀ (.forLoop tg it body orelse env) (M.den (.forLoop tg it body orelse env))
      (.ret (fun r => ((match r with | .ok f => (.pure f : Sem Flow) | .error e => .raise e).onRaise (cameBack env)).wrap K J gd lv) none (gd false) (lv []) c p [] :: fs) s2) (fun x s' => Seg M A R Y n s₀ c (J x) fs s') s1) (fun x s' => Seg M A R Y n s₀ c (J x) fs s') s)
    (hs : ∀ x, foldedSetIterable iter env x = pure x) :
    Seg M A R Y n s₀ c ((exec (.For tg iter body orelse pos) env).wrap K J gd lv) fs s := by
  rw [exec_For]
  refine seg_bind_wrap (wpAny_standAt ?_)
  refine seg_bind_wrap (wpAny_mono h (fun x s1 h1 => ?_) fun _ _ h' => h')
  refine seg_bind_wrap (wpAny_of_eq (hs x) ?_)
  refine seg_bind_wrap (wpAny_standAt ?_)
  refine seg_bind_wrap (wpAny_holding (wpAny_mono h1 (fun it s2 h2 => ?_) fun _ _ h' => h'))
  exact seg_call h2
/-- what an exception finds in a loop's turn -/
abbrev Noted (prog : Program) (w : World) (A : Around) (R : GenEnd) (Y : Protocol) (n : Nat) (s₀ : Shared) (c : Code) (env : Env) (fs : List Frame) (x : Value) (s' : Shared) : Prop :=
  Seg (model prog w) A R Y n s₀ c ((do noteFrame x env; theTreesLotGoes x : Sem Unit).wrap (fun _ => .raise x) .raise id id) fs s'
theorem seg_block {sts : List Stmt}
    (h : Seg (model prog w) A R Y n s₀ (.block sts env) ((execs sts env).wrap (fun f => .pure (.done f)) (fun e => (do noteFrame e env; theTreesLotGoes e : Sem Unit).wrap (fun _ => .raise e) .raise id id) id id) fs s) :
    Seg (model prog w) A R Y n s₀ (.block sts env) ((model prog w).den (.block sts env)) fs s := by
  show Seg _ A R Y n s₀ _ ((execs sts env).onRaise (fun x => do noteFrame x env; theTreesLotGoes x) >>= fun f => (.pure (.done f) : Sem PySem.Fin)) fs s
  rw [Sem.onRaise_eq_wrap, Sem.bind_eq_wrap', Sem.wrap_wrap]
  rw [Sem.wrap_congr (execs sts env) _ _ (K' := fun f => (.pure (.done f) : Sem PySem.Fin)) (H' := fun e => (do noteFrame e env; theTreesLotGoes e : Sem Unit).wrap (fun _ => .raise e) .raise id id)
    (fun f => by rfl)
    (fun e => by rw [Sem.bind_eq_wrap, Sem.wrap_wrap]; rfl)]
  exact h
theorem seg_forLoop {tg : Expr} {it : Value} {body : List Stmt}
    (h : wpAny (model prog w) (A.over (.forLoop tg it body [] env) fs) (pyNext it) (fun r s1 => match r with
      | none => ∀ c', Seg (model prog w) A R Y n s₀ c' (.pure (.done .next)) fs s1
      | some v => wpAny (model prog w) (A.over (.forLoop tg it body [] env) fs) (letOwnedTupleGo tg it v) (fun _ s2 => wpAny (model prog w) (A.over (.forLoop tg it body [] env) fs) (assign tg env v) (fun _ s3 =>
          Seg (model prog w) A R Y n s₀ (.forLoop tg it body [] env) ((execs body env).wrap (fun f => match f with
            | .next | .cont => .pure (.again (.forLoop tg it body [] env))
            | .brk => .pure (.done .next)
            | .ret v => .pure (.done (.ret v))) (fun e => (do noteFrame e env; theTreesLotGoes e : Sem Unit).wrap (fun _ => .raise e) .raise id id) id id) fs s3)
          (Noted prog w A R Y n s₀ (.forLoop tg it body [] env) env fs) s2) (Noted prog w A R Y n s₀ (.forLoop tg it body [] env) env fs) s1) (Noted prog w A R Y n s₀ (.forLoop tg it body [] env) env fs) s) :
    Seg (model prog w) A R Y n s₀ (.forLoop tg it body [] env) ((model prog w).den (.forLoop tg it body [] env)) fs s := by
  have hE : ∀ (m : Sem PySem.Fin) (s : Shared), Seg (model prog w) A R Y n s₀ (.forLoop tg it body [] env) (m.wrap .pure (fun e => (do noteFrame e env; theTreesLotGoes e : Sem Unit).wrap (fun _ => .raise e) .raise id id) id id) fs s →
      Seg (model prog w) A R Y n s₀ (.forLoop tg it body [] env) (m.onRaise (fun x => do noteFrame x env; theTreesLotGoes x)) fs s := fun m s hm => by
    rw [Sem.onRaise_eq_wrap]
    rw [Sem.wrap_congr m _ _ (K' := .pure) (H' := fun e => (do noteFrame e env; theTreesLotGoes e : Sem Unit).wrap (fun _ => .raise e) .raise id id) (fun f => rfl) (fun e => by rw [Sem.bind_eq_wrap])]
    exact hm
  show Seg _ A R Y n s₀ _ ((forTurn tg it body [] env).onRaise (fun x => do noteFrame x env; theTreesLotGoes x)) fs s
  refine hE _ _ ?_
  unfold forTurn
  refine seg_bind_wrap (wpAny_standAt ?_)
  refine seg_bind_wrap (wpAny_onRaise (wpAny_mono h (fun r s1 h1 => ?_) fun x s' hx => wpAny_standAt hx))
  cases r with
  | none =>
    show Seg _ A R Y n s₀ _ (.pure (.again (.block [] env))) fs s1
    refine seg_again rfl (seg_block ?_)
    exact seg_execs_nil (h1 _)
  | some v =>
    refine seg_bind_wrap (wpAny_mono h1 (fun _ s2 h2 => ?_) fun x s' hx => hx)
    refine seg_bind_wrap (wpAny_mono h2 (fun _ s3 h3 => ?_) fun x s' hx => hx)
    rw [Sem.bind_eq_wrap', Sem.wrap_wrap]
    refine Eq.mp (congrArg (fun t => Seg (model prog w) A R Y n s₀ (.forLoop tg it body [] env) t fs s3) (Sem.wrap_congr (execs body env) _ _ (fun f => ?_) (fun e => ?_)).symm) h3
    · cases f <;> rfl
    · rfl
end
section
variable {X : Cx}
/-- W: the invariant by the turn and a measure, over what is out too; N: what the body is to reach -/
def tGFor (wi : TI) (g : TG) (tb : TGn) : TGn := fun D ys σ H => wi σ H fun Jt H1 => ∃ W : Nat → Nat → List V → L2.St → Hp → Prop, (∃ m, W 0 m ys σ H1) ∧ ∀ i m ys σ H, W i m ys σ H →
  (Jt.stop i H ∧ D.nx ys σ H) ∨ (Jt.go i H ∧ ∃ N : List V → L2.St → Hp → Prop, (∀ ys' σ' H', N ys' σ' H' → ∃ m', m' < m ∧ W (i + 1) m' ys' σ' H') ∧ ∀ x H', Jt.yld i H x H' → g x σ H' fun σ2 H2 => tb { D with nx := N, ct := N, bk := D.nx } ys σ2 H2)
theorem GI.pinned {S : Addr} {ip : List (Addr × Obj)} {ys : List V} {σ : L2.St} {H : Hp} {s : Shared} {fp : List Addr} {acc : Array Value} {cn : Nat} (r : Vals ys acc.toList) (I : Inv X ((S, lstObj acc cn) :: ip) σ H s)
    (hf : ∀ b ∈ fp, FpOk X ((S, lstObj acc cn) :: ip) H b) (ho : ∀ b ∈ fp, ∃ o, s.heap.get? b = some o ∧ ∀ v, o.data ≠ .cell v) : GI X S (ip ++ pinsAt fp s.heap) ys σ H s :=
  ⟨acc, cn, r, (I.pinned hf ho).pins_of fun p hp => (I.pinned hf ho).pin p (List.mem_append_right _ (by simpa using hp))⟩
theorem gs_for {tg iter : Expr} {body : List Stmt} {wi : TI} {g : TG} {tb : TGn} {pos : Pos} (hp : PassesOwn (model X.prog X.w) X.A X.env X.xe) (hc : X.calm = true) (hi : PI X tg iter wi) (hg : PG X tg g) (hb : GSs X body tb)
    (hs : ∀ x, foldedSetIterable iter X.env x = pure x := by intro _; rfl) : GS X (.For tg iter body [] pos) (tGFor wi g tb) := by
  refine ⟨fun A S ip R n ys s₀ c fs K J gd lv s σ H D gc hn k hI ht => ?_⟩
  obtain ⟨acc, cn, r, I⟩ := hI
  refine seg_For ?_ hs
  rw [gc.over]
  refine wpAny_mono (hi.run _ s σ H _ I ht) (fun v s1 h1 => wpAny_mono h1 (fun itv s2 h2 => ?_) fun x s' hx => k.exc n s₀ x s' hx) fun x s' hx => k.exc n s₀ x s' hx
  intro p
  obtain ⟨it, fp, tn, Jt, H2, e, I2, T, st2, f2, W, ⟨m0, w0⟩, turn⟩ := h2
  subst e
  have gl := fun (kk : Result → Sem PySem.Fin) => gc_loop (k := kk) (c' := .forLoop tg (.ref it) body [] X.env) (l := lv []) (kp := []) (p := p) gc rfl rfl
  -- the iterator's objects, apart from the consumer's list
  have fpS : ∀ b ∈ fp, b ≠ S := fun b hb z => (f2 b hb).2.2.2.2.2 (S, lstObj acc cn) (List.mem_append_right _ List.mem_cons_self) z.symm
  have stat : ∀ {H' : Hp} {acc' : Array Value} {cn' : Nat}, (∀ b ∈ fp, H' b = none) → ∀ b ∈ fp, FpOk X ((S, lstObj acc' cn') :: ip) H' b := fun hn b hb => by
    obtain ⟨_, q1, q2, q3, q4, q5⟩ := f2 b hb
    refine ⟨hn b hb, q1, q2, q3, q4, fun p hp => ?_⟩
    rcases List.mem_append.mp hp with z | z
    · exact q5 p (List.mem_append_left _ z)
    · rcases List.mem_cons.mp z with z | z
      · rw [z]; exact (fpS b hb).symm
      · exact q5 p (List.mem_append_right _ (List.mem_cons_of_mem _ z))
  have loop : ∀ (m n : Nat) (i : Nat) (ys : List V) (s₀ s : Shared) (σ : L2.St) (H : Hp), n + ys.length = sizeLine → W i m ys σ H → GI X S ip ys σ H s → tn i s.heap → (∀ b ∈ fp, H b = none) →
      Seg (model X.prog X.w) A R (GY X S) n s₀ (.forLoop tg (.ref it) body [] X.env) ((model X.prog X.w).den (.forLoop tg (.ref it) body [] X.env))
        (.ret (fun r => ((match r with | .ok f => (.pure f : Sem Flow) | .error e => .raise e).onRaise (cameBack X.env)).wrap K J gd lv) none (gd false) (lv []) c p [] :: fs) s := by
    intro m
    induction m using Nat.strongRecOn with
    | ind m ih =>
      intro n i ys s₀ s σ H hn w hI st fr
      have ee : ∀ (n : Nat) (s₀ : Shared) (x : Value) (s' : Shared), X.xe x s' → Noted X.prog X.w A R (GY X S) n s₀ (.forLoop tg (.ref it) body [] X.env) X.env
          (.ret (fun r => ((match r with | .ok f => (.pure f : Sem Flow) | .error e => .raise e).onRaise (cameBack X.env)).wrap K J gd lv) none (gd false) (lv []) c p [] :: fs) x s' := fun n s₀ x s' hx => by
        refine seg_wrap ?_
        rw [(gl _).over]
        refine wpAny_bind (wpAny_mono (hp x s' hx) (fun _ s'' hcb => wpAny_theTreesLotGoes ?_) fun y s'' hcb => ?_)
        · exact seg_leaf (.error x) (seg_cameBack gc k hcb)
        · exact seg_leaf (.error y) (seg_cameBack gc k hcb)
      refine seg_forLoop ?_
      rw [(gl _).over]
      obtain ⟨acc1, cn1, r1, I1⟩ := hI
      rcases turn i m ys σ H w with ⟨stop, qn⟩ | ⟨go, N, hN, step⟩
      · refine wpAny_mono (T.done X rfl rfl rfl hc i _ s σ H X.xe I1 (stat fr) st stop) (fun rr s4 h4 => ?_) fun x s' hx => ee n s₀ x s' hx
        obtain ⟨hr, I4⟩ := h4
        subst hr
        intro c'
        exact seg_leaf (.ok .next) (k.ok n ys s₀ s4 .next hn ⟨σ, H, ⟨acc1, cn1, r1, I4⟩, qn⟩)
      · refine wpAny_mono (T.item X rfl rfl rfl hc i _ s σ H X.xe I1 (stat fr) st go) (fun rr s4 h4 => ?_) fun x s' hx => ee n s₀ x s' hx
        obtain ⟨u, hr, h4⟩ := h4
        subst hr
        refine wpAny_mono h4 (fun _ s5 h5 => ?_) fun x s' hx => ee n s₀ x s' hx
        obtain ⟨x, H5, I5, r5, y5, st5, fr5⟩ := h5
        have G5 := GI.pinned r1 I5 (stat fr5) (T.obj _ _ st5)
        obtain ⟨acc5, cn5, r5', I5'⟩ := G5
        refine wpAny_mono (hg.run _ s5 σ H5 x u _ I5' r5 (step x H5 y5)) (fun _ s6 h6 => ?_) fun x s' hx => ee n s₀ x s' hx
        obtain ⟨σ6, H6, I6, q6⟩ := h6
        have gl' : GC X S (ip ++ pinsAt fp s5.heap) A (.forLoop tg (.ref it) body [] X.env) (.ret (fun r => ((match r with | .ok f => (.pure f : Sem Flow) | .error e => .raise e).onRaise (cameBack X.env)).wrap K J gd lv) none (gd false) (lv []) c p [] :: fs) id := by
          obtain ⟨g1, g2, g3, g4, g5, g6, g7⟩ := gl (fun r => ((match r with | .ok f => (.pure f : Sem Flow) | .error e => .raise e).onRaise (cameBack X.env)).wrap K J gd lv)
          refine ⟨g1, fun p hp => ?_, g3, g4, g5, g6, g7⟩
          rcases List.mem_append.mp hp with z | z
          · exact g2 p z
          · exact fpS p.1 (of_pinsAt z).1
        have again : ∀ {n7 : Nat} {ys7 : List V} {s07 s7 : Shared} {σ7 : L2.St} {H7 : Hp}, n7 + ys7.length = sizeLine → GI X S (ip ++ pinsAt fp s5.heap) ys7 σ7 H7 s7 → N ys7 σ7 H7 →
            Seg (model X.prog X.w) A R (GY X S) n7 s07 (.forLoop tg (.ref it) body [] X.env) ((model X.prog X.w).den (.forLoop tg (.ref it) body [] X.env))
              (.ret (fun r => ((match r with | .ok f => (.pure f : Sem Flow) | .error e => .raise e).onRaise (cameBack X.env)).wrap K J gd lv) none (gd false) (lv []) c p [] :: fs) s7 := fun {n7 ys7 s07 s7 σ7 H7} hn7 G7 n7' => by
          obtain ⟨m', hm, w7⟩ := hN ys7 σ7 H7 n7'
          obtain ⟨acc7, cn7, r7, I7⟩ := G7
          refine ih m' hm n7 (i + 1) ys7 s07 s7 σ7 H7 hn7 w7 ⟨acc7, cn7, r7, I7.pins_of fun q hq => I7.pin q ?_⟩ (T.keep _ _ _ st5 fun b hb o e => (I7.pin (b, o) ?_).1) fun b hb => ?_
          · rcases List.mem_cons.mp hq with z | z
            · exact List.mem_append_right _ (by rw [z]; exact List.mem_cons_self)
            · exact List.mem_append_right _ (List.mem_cons_of_mem _ (List.mem_append_left _ z))
          · exact List.mem_append_right _ (List.mem_cons_of_mem _ (List.mem_append_right _ (mem_pinsAt hb e)))
          · obtain ⟨o, e, d⟩ := T.obj _ _ st5 b hb
            exact (I7.pin (b, o) (List.mem_append_right _ (List.mem_cons_of_mem _ (List.mem_append_right _ (mem_pinsAt hb e))))).2.1
        refine hb.run A S (ip ++ pinsAt fp s5.heap) R n ys s₀ _ _ _ _ id id s6 σ6 H6 { D with nx := N, ct := N, bk := D.nx } gl' hn ⟨fun n' ys' s₀' s7 f hn' hs => ?_, fun n' s₀' x s7 hx => ee n' s₀' x s7 hx⟩ ⟨acc5, cn5, r5', I6⟩ q6
        have back : ∀ {ys' : List V} {σ7 : L2.St} {H7 : Hp} {s7 : Shared}, GI X S (ip ++ pinsAt fp s5.heap) ys' σ7 H7 s7 → GI X S ip ys' σ7 H7 s7 := fun {ys' σ7 H7 s7} G7 => by
          obtain ⟨acc7, cn7, r7, I7⟩ := G7
          refine ⟨acc7, cn7, r7, I7.pins_of fun q hq => I7.pin q ?_⟩
          rcases List.mem_cons.mp hq with z | z
          · exact List.mem_append_right _ (by rw [z]; exact List.mem_cons_self)
          · exact List.mem_append_right _ (List.mem_cons_of_mem _ (List.mem_append_left _ z))
        cases f with
        | next =>
          obtain ⟨σ7, H7, I7, n7⟩ := hs
          exact seg_again rfl (again hn' I7 n7)
        | cont =>
          obtain ⟨σ7, H7, I7, n7⟩ := hs
          exact seg_again rfl (again hn' I7 n7)
        | brk =>
          obtain ⟨σ7, H7, I7, n7⟩ := hs
          exact seg_leaf (.ok .next) (k.ok n' ys' s₀' s7 .next hn' ⟨σ7, H7, back I7, n7⟩)
        | ret v =>
          obtain ⟨x7, σ7, H7, I7, r7, n7⟩ := hs
          exact seg_leaf (.ok (.ret v)) (k.ok n' ys' s₀' s7 (.ret v) hn' ⟨x7, σ7, H7, back I7, r7, n7⟩)
  exact loop m0 n 0 ys s₀ s2 σ H2 hn w0 ⟨acc, cn, r, I2⟩ st2 fun b hb => (f2 b hb).1
end
/-! ### yield from a list -/
section
variable {prog : Program} {w : World} {A : Around} {E : Value → Shared → Prop} {s : Shared}
/-- a walk's end is raised where nothing is handled -/
theorem ended {α : Type} {h0 h1 : Heap} {it : Addr} {Q : α → Shared → Prop} (hA : A.handled = none) (hs : Heap.SameBut it h0 h1) (hE : ∀ e h', StopX e h' → Heap.ExtBut it h0 h' → E e { s with heap := h' }) :
    wpAny (model prog w) A (newExc (.type "StopIteration") [] >>= fun e => (raiseNew e : Sem α)) Q E { s with heap := h1 } := by
  have none1 : ∀ (B : Around) (a : Addr) (Q' : Value → Shared → Prop) (E' : Value → Shared → Prop) (s' : Shared), Q' .none s' → wpAny (model prog w) B (firstArgMember (.type "StopIteration") []) Q' E' s' := fun B a Q' E' s' q => by
    simp only [firstArgMember]
    exact wpAny_pure q
  apply wpAny_bind
  simp only [newExc, newTuple]
  refine wpAny_bind (wpAny_newObj_type (wpAny_bind (none1 _ 0 _ _ _ (wpAny_newObj_type ?_ ?_))) ?_)
  · simp only [raiseNew]
    refine wpAny_bind (wpAny_handled ?_)
    rw [hA]
    exact wpAny_bind (wpAny_pure (wpAny_throw (hE _ _ ⟨_, _, _, rfl, Heap.get?_push_size _ rfl, rfl, rfl, by rfl⟩ ((hs.extBut.push _).push _))))
  · size_fits
  · size_fits
/-- a list's iterator is asked for the next item: it is there, or the walk has ended -/
theorem list_next {it l : Addr} {i : Nat} {xs : Array Value} {Q : Option Value → Shared → Prop} (hit : s.heap.IsListIter it l i) (hl : s.heap.IsList l xs)
    (more : ∀ x h', xs[i]? = some x → h'.IsListIter it l (i + 1) → Heap.SameBut it s.heap h' → Q (some x) { s with heap := h' })
    (over : xs[i]? = none → A.handled = none ∧ ∀ e h', StopX e h' → Heap.ExtBut it s.heap h' → E e { s with heap := h' }) :
    wpAny (model prog w) A (callSpecial? (.ref it) "__next__") Q E s := by
  have hT := hit.typeIs (s := s)
  obtain ⟨o, ho, hc, hd⟩ := hit
  obtain ⟨ol, hol, _, _, hdl⟩ := hl
  have at0 : ∀ {B : Around} {β : Type} {k : Value → Sem β} {Q' : β → Shared → Prop} {E' : Value → Shared → Prop}, wpAny (model prog w) B (k (.ref l)) Q' E' s → wpAny (model prog w) B (field (.ref it) 0 >>= k) Q' E' s := fun z => wpAny_bind (wpAny_field ho hd rfl z)
  have at1 : ∀ {B : Around} {β : Type} {k : Value → Sem β} {Q' : β → Shared → Prop} {E' : Value → Shared → Prop}, wpAny (model prog w) B (k (.int i 0)) Q' E' s → wpAny (model prog w) B (field (.ref it) 1 >>= k) Q' E' s := fun z => wpAny_bind (wpAny_field ho hd rfl z)
  refine wpAny_callSpecial?_slot (name := Str.ofString "__next__") hT slot_listiter_next (wpAny_call_entry slot_listiter_next hT entry_listiter_next ?_ (args_listiter_next _))
  refine at0 ?_
  refine at1 ?_
  refine wpAny_bind (m := seqItems? (.ref l)) (wpAny_seqItems hol hdl ?_)
  dsimp only
  rw [Int.toNat_natCast]
  cases hx : xs[i]? with
  | some x =>
    refine wpAny_bind (wpAny_setField ho hd (by simp) (wpAny_pure ⟨x, rfl, more x _ hx ⟨_, Heap.get?_update_self _ ho (Obj.isFreed_of_fields (Obj.data_mapFields hd _)), ?_, ?_⟩ (Heap.SameBut.update ..)⟩))
    · rw [Obj.cls_mapFields]; exact hc
    · rw [Obj.data_mapFields hd]; rfl
  | none =>
    obtain ⟨hA, fin⟩ := over hx
    refine wpAny_bind (wpAny_rule (wpAny_bind (wpAny_setField ho hd (by simp) ?_)))
    exact ended (A := A.in1) hA (Heap.SameBut.update ..) fin
end
def tYfLst (te : TE) : TYf := fun σ H Q => te σ H fun x H1 => ∃ a xs, x = .ref a ∧ H1 a = some (.lst xs) ∧ Q xs H1
theorem close_listiter : typeLookup (.type "list_iterator") "close" = pure none := by
  rw [typeLookup_type, builtinLookup_eq_fast]
  kernel_rfl
/-- the iterator of a tracked list, by its turns -/
theorem qit_lst {X : Cx} {H : Hp} {it a : Addr} {xs : List V} {us : List Value} (ha : H a = some (.lst xs)) (rv : Vals xs us) (ne : a ≠ it) :
    QIt X H it xs fun j h => h.IsListIter it a j ∧ h.IsList a us.toArray where
  ty := ⟨"list_iterator", fun j h q => q.1.imp fun o z => ⟨z.1, z.2.1⟩, close_listiter, by decide⟩
  frame := fun j h h' q hk => ⟨q.1.imp fun o z => ⟨hk it o (.inl rfl) z.1, z.2⟩, q.2.imp fun o z => ⟨hk a o (.inr fun e => nomatch ha.symm.trans e) z.1, z.2⟩⟩
  item := fun A j x s Q E _ hx q hQ => by
    obtain ⟨u, hu, ru⟩ := rv.get hx
    refine list_next q.1 q.2 (fun y h' hy it' sb => ?_) fun z => ?_
    · have e : y = u := by
        rw [List.getElem?_toArray, hu] at hy
        exact (Option.some.inj hy).symm
      subst e
      exact hQ y h' s.toks ru ⟨it', q.2.extBut sb.extBut ne⟩ fun b o hb eb => sb.extBut b o hb eb
    · rw [List.getElem?_toArray, hu] at z
      cases z
  done := fun A s Q E hA q hE => by
    have short : us.length ≤ xs.length := Nat.le_of_eq rv.length.symm
    refine list_next q.1 q.2 (fun y h' hy _ _ => ?_) fun _ => ⟨hA, fun e h' hS hk => hE e h' s.toks hS hk⟩
    rw [List.getElem?_toArray, List.getElem?_eq_none short] at hy
    cases hy
/-- yield from a list that is tracked -/
theorem yf_lst {X : Cx} {e : Expr} {te : TE} (he : PE X e te) : YfE X e (tYfLst te) where
  run := fun pins s σ H Q I h => wpAny_mono (he.run pins s σ H _ I h) (fun v s1 got => by
    obtain ⟨x, H1, I1, rx, a, xs, rfl, ha, hq⟩ := got
    cases (show v = Value.ref a from rx)
    obtain ⟨_, us, n, rv, hobj⟩ := I1.hok a _ ha
    have hl : s1.heap.IsList a us.toArray := ⟨_, hobj, rfl, n, rfl⟩
    have young : ∀ {b : Addr} {o : Obj}, s1.heap.get? b = some o → b ≠ s1.heap.objs.size := fun z => Nat.ne_of_lt (Heap.lt_size z)
    refine ⟨"list", hl.typeIs, by decide, wpAny_pyIter_list hl ?_⟩
    refine ⟨_, H1, xs, fun j h => h.IsListIter s1.heap.objs.size a j ∧ h.IsList a us.toArray, rfl, I1.kept (t' := s1.toks) fun b o z => Heap.get?_push_of_some _ z, .inr I1.sz, Nat.ne_of_gt I1.lt, ?_, I1.hok.fresh (Nat.le_refl _), fun p hp => young (I1.pin p hp).1,
      ⟨⟨_, Heap.get?_push_size _ rfl, rfl, rfl⟩, hl.push _⟩, qit_lst ha rv (young hobj), hq⟩
    intro y c hy
    obtain ⟨_, _, z, _⟩ := I1.cell y c hy
    exact young z) fun _ _ z => z
/-! ### calls by keywords alone -/
section
variable {X : Cx} {CX : CXT} {k : Nat} {f : Addr} {fd : FuncData} {ps ks : List Str} {sp : Sp} {E : XK} {x : Str} {p pos : Pos} {kws : List Keyword} {tk : TA} {g : List Value → List Value → List Value} {gV : List V → List V → List V}
theorem pe_callK0 (F : FnOk X.prog X.w X.K X.mg X.base CX k f fd ps sp) (hr : Room k X.A) (hg : Gl X x) (hm : X.mg x = some (.ref f)) (hk : PySem.W.keepIn X.K (.ref f) = true) (hb : KBinds X.K fd ps ks g gV) (hx : Passes CX X E)
    (hkw : PK X kws tk) (hall : (backToKw pos (keywordEach kws X.env)).all (·.1.isSome) = true := by rfl) (hks : (backToKw pos (keywordEach kws X.env)).filterMap (·.1) = ks := by rfl)
    (hdb : (x == ("__debug__" : Str)) = false := by decide)
    (hpl : ((backTo pos (starEach [] X.env)).any (·.1) || (backToKw pos (keywordEach kws X.env)).any (·.1.isNone)) = false := by rfl) :
    PE X (.Call (.Name x p) [] kws pos) (tCallK sp gV E tNil tk) := by
  refine ⟨fun pins s σ H Q I h => ?_⟩
  refine wpAny_Call_Name_kw (ld_glob I hg hm ?_ hdb)
  refine PySem.W.callWith_KW0 (h₀ := X.base) I.ok.mod.kin hk hall (thn (hkw.run pos pins s σ H _ I h) fun ws s2 ⟨zs, H2, I2, rz, q2⟩ => ⟨I2.kIn, ?_⟩) hpl
  rw [hks]
  exact run_fnk F hr hb hx I2 (us := []) (vs := []) .nil rz q2
def tCallGK (sp : SpG) (gV : List V → List V → List V) (E : XK) (tk : TA) : TGen := fun σ H cont => tk σ H fun zs H1 => sp (gV [] zs) H1 cont E
theorem pgen_callK0 {spg : SpG} (F : GFn X.prog X.w X.K X.mg X.base k f fd ps spg) (hr : Room k X.A) (hg : Gl X x) (hm : X.mg x = some (.ref f)) (hk : PySem.W.keepIn X.K (.ref f) = true) (hb : KBinds X.K fd ps ks g gV)
    (hkw : PK X kws tk) (hall : (backToKw pos (keywordEach kws X.env)).all (·.1.isSome) = true := by rfl) (hks : (backToKw pos (keywordEach kws X.env)).filterMap (·.1) = ks := by rfl)
    (hdb : (x == ("__debug__" : Str)) = false := by decide)
    (hpl : ((backTo pos (starEach [] X.env)).any (·.1) || (backToKw pos (keywordEach kws X.env)).any (·.1.isNone)) = false := by rfl) :
    PGen X k (.Call (.Name x p) [] kws pos) (tCallGK spg gV E tk) E := by
  refine ⟨fun pins s σ H cont I h => ?_⟩
  refine wpAny_Call_Name_kw (ld_glob I hg hm ?_ hdb)
  refine PySem.W.callWith_KW0 (h₀ := X.base) I.ok.mod.kin hk hall (thn (hkw.run pos pins s σ H _ I h) fun ws s2 ⟨zs, H2, I2, rz, q2⟩ => ⟨I2.kIn, ?_⟩) hpl
  rw [hks]
  have r2 : Vals (gV [] zs) (g [] ws) := hb.rel .nil rz
  have hl2 : (g [] ws).length = ps.length := by rw [← r2.length]; exact F.len _ _ _ _ q2
  refine wpAny_call (codeAny_mono (F.run X.A X.stack s2 H2 ⟨[], ks.zip ws⟩ (g [] ws) (gV [] zs) cont E hr I2.env0 (hb.to s2 [] ws I2.kIn hl2) r2 q2) fun r s' hq => ?_)
  cases r with
  | error e => exact False.elim hq
  | ok fl =>
    cases fl with
    | ret u => exact ⟨H2, s2, [], I2, .nil, hq⟩
    | next => exact False.elim hq
    | brk => exact False.elim hq
    | cont => exact False.elim hq
end
end GF
namespace K4
open PySem PySem.Spec PyProof.Rows L2 GF
/-! ### the text -/
def topS (i : Nat) : Stmt := PySem.Challenge.pw_jartext_k04_whole_neighbours_of_strings.main.body.getD i (.Pass ⟨0, 0, 0, 0⟩)
abbrev sNb : Stmt := topS 2
abbrev sSw : Stmt := topS 3
abbrev sCo : Stmt := topS 4
abbrev sCh : Stmt := topS 5
abbrev sFd : Stmt := topS 6
abbrev sRs : Stmt := topS 7
abbrev sBag : Stmt := topS 9
abbrev sDraw : Stmt := topS 10
abbrev sOf : Stmt := topS 11
abbrev sLike : Stmt := topS 12
abbrev sStr : Stmt := topS 13
abbrev sNear : Stmt := topS 14
abbrev sRuns : Stmt := topS 15
abbrev sHurt : Stmt := topS 16
abbrev sAr : Stmt := topS 17
abbrev sBw : Stmt := topS 18
abbrev sLaw : Stmt := topS 19
/-! ### texts as lists of code points -/
abbrev W := List Nat
def T (w : W) : Str := ⟨w.toArray⟩
def tv (ws : List W) : List V := ws.map fun w => V.str (T w)
theorem T_list (w : W) : (T w).cps.toList = w := rfl
theorem T_len (w : W) : (T w).length = w.length := by
  show w.toArray.size = w.length
  simp
theorem T_inj {a b : W} : T a = T b ↔ a = b := by
  constructor
  · intro h
    have := congrArg (fun s : Str => s.cps.toList) h
    exact this
  · exact fun h => by rw [h]
theorem T_of (s : Str) : s = T s.cps.toList := by
  cases s
  rfl
theorem T_app (a b : W) : T a ++ T b = T (a ++ b) := by
  show (⟨a.toArray ++ b.toArray⟩ : Str) = ⟨(a ++ b).toArray⟩
  simp
theorem V_str {a b : W} : V.str (T a) = V.str (T b) ↔ a = b := by
  constructor
  · intro h
    injection h with h
    exact T_inj.mp h
  · exact fun h => by rw [h]
theorem dec_str (a b : W) : decide (V.str (T a) = V.str (T b)) = decide (a = b) := decide_eq_decide.mpr V_str
theorem cut_to (w : W) (k : Nat) (z : Int) (e : z = (k : Int)) : cutS (T w) none (some z) = T (w.take k) := by
  subst e
  unfold cutS
  rw [T_len, HT.sIx_none, HT.sIx_nat, T_list, List.drop_zero, Nat.sub_zero]
  show T _ = T _
  congr 1
  rcases Nat.le_total k w.length with h | h
  · rw [Nat.min_eq_left h]
  · rw [Nat.min_eq_right h, List.take_of_length_le (Nat.le_refl _), List.take_of_length_le h]
theorem cut_from (w : W) (k : Nat) (z : Int) (e : z = (k : Int)) : cutS (T w) (some z) none = T (w.drop k) := by
  subst e
  unfold cutS
  rw [T_len, HT.sIx_none, HT.sIx_nat, T_list]
  show T _ = T _
  congr 1
  rcases Nat.le_total k w.length with h | h
  · rw [Nat.min_eq_left h, List.take_of_length_le (by rw [List.length_drop]; exact Nat.le_refl _)]
  · rw [Nat.min_eq_right h, List.drop_eq_nil_of_le (Nat.le_refl _), List.drop_eq_nil_of_le h]
    simp
theorem cut_mid (w : W) (i k : Nat) (y z : Int) (ey : y = (i : Int)) (ez : z = ((i + k : Nat) : Int)) : cutS (T w) (some y) (some z) = T ((w.drop i).take k) := by
  subst ey ez
  unfold cutS
  rw [T_len, HT.sIx_nat, HT.sIx_nat, T_list]
  show T _ = T _
  congr 1
  rcases Nat.le_total i w.length with h | h
  · rw [Nat.min_eq_left h]
    rcases Nat.le_total (i + k) w.length with h2 | h2
    · rw [Nat.min_eq_left h2, Nat.add_sub_cancel_left]
    · rw [Nat.min_eq_right h2, List.take_of_length_le (by rw [List.length_drop]; exact Nat.le_refl _), List.take_of_length_le (by rw [List.length_drop]; omega)]
  · rw [Nat.min_eq_right h, List.drop_eq_nil_of_le (Nat.le_refl _), List.drop_eq_nil_of_le h]
    simp
/-- one sign -/
theorem at_T {w : W} {i : Nat} (z : Int) (e : z = (i : Int)) (h : i < w.length) : atI (T w).cps.toList z = some (w.getD i 0) := by
  rw [e]
  refine atI_nat ?_
  rw [T_list, List.getElem?_eq_getElem h]
  simp [h]
theorem T_one (c : Nat) : (⟨#[c]⟩ : Str) = T [c] := rfl
theorem lit_acgt : ("acgt" : Str) = T Nb.ltrs := by decide +kernel
theorem lit_nil : ("" : Str) = T [] := by decide +kernel
theorem lit_aa : ("aa" : Str) = T [97, 97] := by decide +kernel
theorem small {n : Nat} (h : n ≤ 1000) : n ≤ sizeLine := Nat.le_of_lt (small1000 h)
/-! ### heaps -/
theorem same_new {H : Hp} {p : Addr} (h : H p = none) (o : HO) : Same H (upd H p o) := fun b u q => by
  rw [upd_ne (ne_of_none q h)]
  exact q
/-- a new object's content is changed: nothing else -/
theorem same_put {H H1 : Hp} {p : Addr} (h : H p = none) (s : Same H H1) (o : HO) : Same H (upd H1 p o) := fun b u q => by
  rw [upd_ne (ne_of_none q h)]
  exact s b u q
theorem tv_len (ws : List W) : (tv ws).length = ws.length := List.length_map _
theorem tv_flat (ws : List W) : (tv ws).all flatV = true := by
  rw [List.all_eq_true]
  intro v hv
  obtain ⟨w, _, rfl⟩ := List.mem_map.mp hv
  rfl
theorem tv_get (ws : List W) (i : Nat) : (tv ws)[i]? = (ws[i]?).map fun w => V.str (T w) := by
  unfold tv
  rw [List.getElem?_map]
/-- texts and their code points -/
theorem str_map (ws : List W) : (ws.map T).map V.str = tv ws := by
  unfold tv
  rw [List.map_map]
  rfl
end K4
namespace K4
open PySem PySem.Spec PyProof.Rows L2 GF
theorem scSw : FnScope ["source", "at", "letter", "strings"] ["source", "at", "letter"] (defScope sSw) := ⟨rfl, rfl, rfl, by decide +kernel, rfl, by decide +kernel, by decide +kernel⟩
/-- the sorted strings, by their code points -/
theorem rising_le : ∀ (ys : List W) (p : W), risingS (T p) (ys.map T) = true → (p :: ys).Pairwise (· ≤ ·)
  | [], p, _ => List.pairwise_singleton _ _
  | x :: r, p, h => by
    have h' : (!ltCps x p && risingS (T x) (r.map T)) = true := h
    rw [Bool.and_eq_true] at h'
    have ih := rising_le r x h'.2
    have h1 : p ≤ x := by
      have z : ltCps x p = false := by simpa using h'.1
      rw [ltCps_eq] at z
      exact List.not_lt.mp (of_decide_eq_false z)
    refine List.pairwise_cons.mpr ⟨fun y hy => ?_, ih⟩
    rcases List.mem_cons.mp hy with rfl | hy
    · exact h1
    · exact List.le_trans h1 (List.rel_of_pairwise_cons ih hy)
theorem sorted_le {ys : List W} (h : sortedS (ys.map T) = true) : ys.Pairwise (· ≤ ·) := by
  cases ys with
  | nil => exact .nil
  | cons x r => exact rising_le r x h
/-- a permutation of texts is one of words -/
theorem sorted_is {ys : List Str} {xs : List W} (hp : ys.Perm (xs.map T)) (hs : sortedS ys = true) : ys = (Nb.isort xs).map T := by
  have e : ys = (ys.map fun s => s.cps.toList).map T := by
    rw [List.map_map]
    conv => lhs; rw [← List.map_id ys]
    exact List.map_congr_left fun s _ => T_of s
  have hp2 : (ys.map fun s => s.cps.toList).Perm xs := by
    have := hp.map (fun s : Str => s.cps.toList)
    rw [List.map_map] at this
    have e2 : xs.map ((fun s : Str => s.cps.toList) ∘ T) = xs := by
      conv => rhs; rw [← List.map_id xs]
      exact List.map_congr_left fun s _ => rfl
    rwa [e2] at this
  rw [e] at hs ⊢
  rw [Nb.isort_eq hp2 (sorted_le hs)]
section
variable {P : Program} {w : World} {K : PySem.W.Frag} {mg : Str → Option Value} {base : Heap}
def spSw : Sp := fun vs H Q _ => ∃ (s : W) (i l : Nat), vs = [.str (T s), .int (i : Nat), .str (T [l])] ∧ i < s.length ∧ s.length ≤ 100 ∧
  ∀ H' p, Same H H' → H p = none → H' p = some (.lst (tv (Nb.stw (s.take i) (s.getD i 0) (s.drop (i + 1)) l))) → Q (.ref p) H'
theorem ok_sw {f : Addr} {fd : FuncData} {k : Nat} (F : Fun K "_strings_with" "_strings_with" sSw f fd) (ms : mg "sorted" = none) : FnOk P w K mg base CX0 (k + 1) f fd ["source", "at", "letter"] spSw := by
  refine F.ok scSw (fun vs H Q E h => ?_) (fun cdv A outer s H vs Q E hr h => ?_)
  · obtain ⟨_, _, _, rfl, _⟩ := h
    rfl
  · obtain ⟨s, i, l, rfl, hi, hlen, q⟩ := h
    refine ⟨_, pss_cons (ps_set (i := 3) scSw.nd rfl (.inl rfl) (pe_lst (pa_cons
        (pe_op op_add_str (pe_op op_add_str (pe_slice sl_str (pv 0) po_none (po_some (pv 1))) (pv 2)) (pe_slice sl_str (pv 0) (po_some (pe_op op_add (pv 1) pe_int)) po_none)) (pa_cons
        (pe_op op_add_str (pe_op op_add_str (pe_slice sl_str (pv 0) po_none (po_some (pv 1))) (pv 2)) (pe_slice sl_str (pv 0) (po_some (pv 1)) po_none)) pa_nil))))
      (pss_cons (ps_if (pt_cmpR op_eq (pe_slice sl_str (pv 0) (po_some (pe_op op_add (pv 1) pe_int)) (po_some (pe_op op_add (pv 1) pe_int))) (pv 2) (nomark _))
        (pss_one (ps_expr (pe_bm PySem.F.plainAttrs_list PySem.F.slot_list_append PySem.F.type_list_append mt_append (pv 3) (pa_cons (pe_op op_add_str (pe_slice sl_str (pv 0) po_none (po_some (pv 1))) (pe_slice sl_str (pv 0) (po_some (pe_op op_add (pv 1) pe_int)) po_none)) pa_nil)))) pss_nil)
      (pss_one (ps_ret (pe_callB cr_sortedS (by rfl) ms (by decide +kernel) (pa_cons (pv 3) pa_nil))))), ?_⟩
    have hs : (T s).length ≤ sizeLine := by rw [T_len]; exact small (by omega)
    have ed : s.drop i = s.getD i 0 :: s.drop (i + 1) := by
      rw [List.drop_eq_getElem_cons hi]
      simp [hi]
    -- source[:at] + letter + source[at + 1:]
    refine ⟨_, rfl, _, rfl, _, rfl, T s, rfl, hs, _, rfl, T (s.take i), T [l], by rw [cut_to s i _ rfl], rfl, ?_, _, rfl, _, rfl, _, _, rfl, rfl, _, rfl, T s, rfl, hs, T (s.take i ++ [l]), T (s.drop (i + 1)), by rw [T_app], by rw [cut_from s (i + 1) _ (by simp)], ?_, ?_⟩
    · rw [T_len, T_len, List.length_take]; exact small (by simp; omega)
    · rw [T_len, T_len, List.length_append, List.length_take, List.length_drop]; exact small (by simp; omega)
    rw [T_app]
    -- source[:at] + letter + source[at:]
    refine ⟨_, rfl, _, rfl, _, rfl, T s, rfl, hs, _, rfl, T (s.take i), T [l], by rw [cut_to s i _ rfl], rfl, ?_, _, rfl, _, rfl, _, rfl, T s, rfl, hs, T (s.take i ++ [l]), T (s.drop i), by rw [T_app], by rw [cut_from s i _ rfl], ?_, ?_⟩
    · rw [T_len, T_len, List.length_take]; exact small (by simp; omega)
    · rw [T_len, T_len, List.length_append, List.length_take, List.length_drop]; exact small (by simp; omega)
    rw [T_app]
    refine ⟨by show 2 ≤ sizeLine; decide, fun p hp => ?_⟩
    -- if source[at + 1:at + 2] == letter
    refine ⟨_, rfl, _, rfl, _, _, rfl, rfl, _, rfl, _, rfl, _, _, rfl, rfl, _, rfl, T s, rfl, hs, _, rfl, ?_⟩
    rw [cut_mid s (i + 1) 1 _ _ (by omega) (by omega)]
    refine ⟨rfl, _, rfl, ?_⟩
    rw [dec_str]
    have e0 : ((s.drop (i + 1)).take 1 = [l]) ↔ (s.drop (i + 1)).head? = some l := by
      cases s.drop (i + 1) with
      | nil => simp
      | cons a r => simp
    have e1 : s.take i ++ [l] ++ s.drop (i + 1) = s.take i ++ l :: s.drop (i + 1) := by simp
    have e2 : s.take i ++ [l] ++ s.drop i = s.take i ++ l :: s.getD i 0 :: s.drop (i + 1) := by rw [ed]; simp
    rw [e1, e2]
    refine ite2 (fun c => ?_) (fun c => ?_)
    · have c' := e0.mp (of_decide_eq_true c)
      refine ⟨_, rfl, .inl ⟨rfl, _, .inl (.inl upd_same)⟩, _, rfl, _, rfl, _, rfl, T s, rfl, hs, _, rfl, _, rfl, _, _, rfl, rfl, _, rfl, T s, rfl, hs, T (s.take i), T (s.drop (i + 1)), by rw [cut_to s i _ rfl], by rw [cut_from s (i + 1) _ (by omega)], ?_, p, _, _, rfl, rfl, upd_same, by show 2 < sizeLine; decide, ?_⟩
      · rw [T_len, T_len, List.length_take, List.length_drop]; exact small (by omega)
      rw [upd_upd, T_app]
      refine ⟨_, rfl, p, [s.take i ++ l :: s.drop (i + 1), s.take i ++ l :: s.getD i 0 :: s.drop (i + 1), s.take i ++ s.drop (i + 1)].map T, rfl, .inl (.inl upd_same), by show 3 < 64; decide, fun ys r hp1 hs1 nr => ?_⟩
      rw [sorted_is hp1 hs1, str_map]
      refine q _ r ((same_new hp _).trans (same_new nr _)) ?_ ?_
      · exact (same_new hp _).free nr
      · rw [upd_same]
        unfold Nb.stw Nb.raw
        rw [if_pos c']
        rfl
    · have c' : ¬ (s.drop (i + 1)).head? = some l := fun z => c (decide_eq_true (e0.mpr z))
      refine ⟨_, rfl, p, [s.take i ++ l :: s.drop (i + 1), s.take i ++ l :: s.getD i 0 :: s.drop (i + 1)].map T, rfl, .inl (.inl upd_same), by show 2 < 64; decide, fun ys r hp1 hs1 nr => ?_⟩
      rw [sorted_is hp1 hs1, str_map]
      refine q _ r ((same_new hp _).trans (same_new nr _)) ?_ ?_
      · exact (same_new hp _).free nr
      · rw [upd_same]
        unfold Nb.stw Nb.raw
        rw [if_neg c']
        rfl
end
end K4
namespace K4
open PySem PySem.Spec PyProof.Rows L2 GF
theorem scFd : FnScope ["one", "other", "common", "at"] ["one", "other"] (defScope sFd) := ⟨rfl, rfl, rfl, by decide +kernel, rfl, by decide +kernel, by decide +kernel⟩
theorem scRs : FnScope ["string", "at"] ["string", "at"] (defScope sRs) := ⟨rfl, rfl, rfl, by decide +kernel, rfl, by decide +kernel, by decide +kernel⟩
theorem scCh : FnScope ["string", "source", "at"] ["string", "source"] (defScope sCh) := ⟨rfl, rfl, rfl, by decide +kernel, rfl, by decide +kernel, by decide +kernel⟩
theorem scCo : FnScope ["string", "source"] ["string", "source"] (defScope sCo) := ⟨rfl, rfl, rfl, by decide +kernel, rfl, by decide +kernel, by decide +kernel⟩
theorem hlen {s : W} (h : s.length ≤ 100) : (T s).length ≤ sizeLine := by rw [T_len]; exact small (by omega)
theorem min_is (a b : Nat) : (if (b : Int) < (a : Int) then (b : Int) else (a : Int)) = ((min a b : Nat) : Int) := by
  split <;> omega
theorem max_is (a b : Nat) : (if (b : Int) > (a : Int) then (b : Int) else (a : Int)) = ((max a b : Nat) : Int) := by
  split <;> omega
theorem one_str (a b : Nat) : decide (V.str (⟨#[a]⟩ : Str) = V.str ⟨#[b]⟩) = decide (a = b) := by
  refine decide_eq_decide.mpr ?_
  rw [T_one, T_one, V_str]
  simp
theorem getD_get {w : W} {i : Nat} (h : i < w.length) : w[i]? = some (w.getD i 0) := by
  rw [List.getElem?_eq_getElem h]
  simp [h]
section
variable {P : Program} {w : World} {K : PySem.W.Frag} {mg : Str → Option Value} {base : Heap}
structure First (x y : W) (a : Nat) : Prop where
  le : a ≤ min x.length y.length
  eq : ∀ i, i < a → x[i]? = y[i]?
  df : a = min x.length y.length ∨ x[a]? ≠ y[a]?
def spFd : Sp := fun vs H Q _ => ∃ x y : W, vs = [.str (T x), .str (T y)] ∧ x.length ≤ 100 ∧ y.length ≤ 100 ∧ ∀ a : Nat, First x y a → Q (.int (a : Nat)) H
theorem ok_fd {f : Addr} {fd : FuncData} {k : Nat} (F : Fun K "_first_difference" "_first_difference" sFd f fd) (ml : mg "len" = none) (mm : mg "min" = none) (mr : mg "range" = none) : FnOk P w K mg base CX0 (k + 1) f fd ["one", "other"] spFd := by
  refine F.ok scFd (fun vs H Q E h => ?_) (fun cdv A outer s H vs Q E hr h => ?_)
  · obtain ⟨_, _, rfl, _⟩ := h
    rfl
  · obtain ⟨x, y, rfl, hx, hy, q⟩ := h
    refine ⟨_, pss_cons (ps_set (i := 2) scFd.nd rfl (.inl rfl) (pe_callB (call_min2 rfl) (by rfl) mm (by decide +kernel) (pa_cons (pe_callB call_len_str (by rfl) ml PySem.boot_len (pa_cons (pv 0) pa_nil)) (pa_cons (pe_callB call_len_str (by rfl) ml PySem.boot_len (pa_cons (pv 1) pa_nil)) pa_nil))))
      (pss_cons (ps_for PassesOwn.never rfl (pi_range1 rfl mr (pa_cons (pv 2) pa_nil)) (pg_name (i := 3) scFd.nd rfl (.inl rfl))
        (pss_one (ps_if (pt_cmpR op_ne (pe_ix ix_str (pv 0) (pv 3) (fun _ _ => rfl)) (pe_ix ix_str (pv 1) (pv 3) (fun _ _ => rfl)) (nomark _)) (pss_one (ps_ret (pv 3))) pss_nil)))
      (pss_one (ps_ret (pv 2)))), ?_⟩
    refine ⟨_, rfl, _, rfl, hlen hx, _, rfl, _, rfl, hlen hy, _, _, rfl, ?_⟩
    rw [T_len, T_len, min_is]
    refine ⟨_, rfl, _, rfl, by omega, by omega, for_range (fun i σ H' => H' = H ∧ i ≤ min x.length y.length ∧ (∀ j, j < i → x[j]? = y[j]?) ∧ ∃ z, σ = [some (.str (T x)), some (.str (T y)), some (.int ((min x.length y.length : Nat) : Int)), z]) ⟨rfl, Nat.zero_le _, fun j hj => absurd hj (Nat.not_lt_zero _), none, rfl⟩ ?_ ?_⟩
    · rintro i σ H' hi ⟨rfl, hi2, he, z, rfl⟩
      have hi' : i < min x.length y.length := by omega
      refine ⟨_, rfl, _, rfl, T x, _, _, rfl, rfl, hlen hx, at_T (i := i) _ (by omega) (by omega), _, rfl, _, rfl, T y, _, _, rfl, rfl, hlen hy, at_T (i := i) _ (by omega) (by omega), rfl, _, rfl, ?_⟩
      rw [one_str]
      by_cases e : x.getD i 0 = y.getD i 0
      · rw [decide_eq_true e]
        refine iteF ?_
        refine ⟨rfl, hi', fun j hj => ?_, _, rfl⟩
        rcases Nat.lt_succ_iff_lt_or_eq.mp hj with z | z
        · exact he j z
        · rw [z, getD_get (by omega), getD_get (by omega), e]
      · rw [decide_eq_false e]
        refine iteT ?_
        refine ⟨_, rfl, ?_⟩
        have := q i ⟨hi2, he, .inr fun z => e (by rw [getD_get (by omega), getD_get (by omega)] at z; exact Option.some.inj z)⟩
        rw [Int.zero_add]
        exact this
    · rintro σ H' ⟨rfl, hi2, he, z, rfl⟩
      refine ⟨_, rfl, ?_⟩
      exact q _ ⟨Nat.le_refl _, fun i hi => he i (by omega), .inl rfl⟩
def spRs : Sp := fun vs H Q _ => ∃ (x : W) (a : Nat), vs = [.str (T x), .int (a : Nat)] ∧ x.length ≤ 100 ∧ a < x.length ∧ ∀ b : Int, Q (.int b) H
theorem ok_rs {f : Addr} {fd : FuncData} {k : Nat} (F : Fun K "_run_start" "_run_start" sRs f fd) : FnOk P w K mg base CX0 (k + 1) f fd ["string", "at"] spRs := by
  refine F.ok scRs (fun vs H Q E h => ?_) (fun cdv A outer s H vs Q E hr h => ?_)
  · obtain ⟨_, _, rfl, _⟩ := h
    rfl
  · obtain ⟨x, a, rfl, hx, ha, q⟩ := h
    refine ⟨_, pss_cons (ps_while PassesOwn.never (PW.pt (pw_and (pt_cmpR op_gt (pv 1) pe_int (nomark _)) (pw_and1 (pt_cmpR op_eq (pe_ix ix_str (pv 0) (pe_op op_sub (pv 1) pe_int) (fun _ _ => rfl)) (pe_ix ix_str (pv 0) (pv 1) (fun _ _ => rfl)) (nomark _)))))
        (pss_one (ps_aug (i := 1) scRs.nd rfl (.inl rfl) pe_int ip_sub)))
      (pss_one (ps_ret (pv 1))), ?_⟩
    refine ⟨fun m σ H' => H' = H ∧ m < x.length ∧ σ = [some (.str (T x)), some (.int (m : Nat))], ⟨a, rfl, ha, rfl⟩, ?_⟩
    rintro m σ H' ⟨rfl, hm, rfl⟩
    refine ⟨_, rfl, _, _, rfl, rfl, _, rfl, ?_⟩
    by_cases h0 : (0 : Int) < (m : Int)
    · rw [decide_eq_true h0]
      refine iteT ?_
      refine ⟨_, rfl, _, rfl, _, _, rfl, rfl, T x, _, _, rfl, rfl, hlen hx, at_T (i := m - 1) _ (by omega) (by omega), _, rfl, _, rfl, T x, _, _, rfl, rfl, hlen hx, at_T (i := m) _ (by omega) (by omega), rfl, _, rfl, ?_⟩
      refine ite2 (fun c => ?_) (fun c => ?_)
      · refine ⟨fun σ' H'' => H'' = H' ∧ σ' = [some (.str (T x)), some (.int ((m - 1 : Nat) : Nat))], fun σ' H'' z => ⟨m - 1, by omega, z.1, by omega, z.2⟩, ?_⟩
        refine ⟨_, rfl, _, _, rfl, rfl, rfl, ?_⟩
        have e : (m : Int) - 1 = ((m - 1 : Nat) : Int) := by omega
        show [some (V.str (T x)), some (V.int ((m : Int) - 1))] = _
        rw [e]
      · exact ⟨_, rfl, q _⟩
    · rw [decide_eq_false h0]
      refine iteF ?_
      refine iteF ?_
      exact ⟨_, rfl, q _⟩
theorem first_lt {x y : W} {a : Nat} (h : First x y a) (hn : x ≠ y) (hl : x.length = y.length) : a < x.length := by
  by_cases z : a < x.length
  · exact z
  · exfalso
    have := h.le
    refine hn (List.ext_getElem? fun i => ?_)
    by_cases hi : i < a
    · exact h.eq i hi
    · rw [List.getElem?_eq_none (by omega), List.getElem?_eq_none (by omega)]
def spCh : Sp := fun vs H Q _ => ∃ x y : W, vs = [.str (T x), .str (T y)] ∧ x.length ≤ 100 ∧ y.length ≤ 100 ∧ ∀ v H', Same H H' → (!decide (v = V.non)) = Nb.near x y → Q v H'
theorem ok_ch {f fF fR : Addr} {fd fdF fdR : FuncData} {k : Nat} (F : Fun K "change_of" "change_of" sCh f fd) (ml : mg "len" = none)
    (GF1 : FnOk P w K mg base CX0 (k + 1) fF fdF ["one", "other"] spFd) (kF : PySem.W.keepIn K (.ref fF) = true) (mF : mg "_first_difference" = some (.ref fF)) (bF : Binds K fdF ["one", "other"] [])
    (GR1 : FnOk P w K mg base CX0 (k + 1) fR fdR ["string", "at"] spRs) (kR : PySem.W.keepIn K (.ref fR) = true) (mR : mg "_run_start" = some (.ref fR)) (bR : Binds K fdR ["string", "at"] []) :
    FnOk P w K mg base CX0 (k + 2) f fd ["string", "source"] spCh := by
  refine F.ok scCh (fun vs H Q E h => ?_) (fun cdv A outer s H vs Q E hr h => ?_)
  · obtain ⟨_, _, rfl, _⟩ := h
    rfl
  · obtain ⟨x, y, rfl, hx, hy, q⟩ := h
    have tail : ∀ {a : Nat}, First x y a → x ≠ y → Nb.near x y = Nb.rest x y a := fun {a} h hn => Nb.near_first a x y hn h.le h.eq h.df
    refine ⟨_, pss_cons (ps_if (pt_cmpR op_eq (pv 0) (pv 1) (nomark _)) (pss_one (ps_ret (pe_tup (pa_cons pe_str pa_nil)))) pss_nil)
      (pss_cons (ps_set (i := 2) scCh.nd rfl (.inl rfl) (pe_call GF1 hr (by rfl) mF kF bF .nil pass0 (pa_cons (pv 0) (pa_cons (pv 1) pa_nil))))
      (pss_cons (ps_if (pt_cmpR op_eq (pe_callB call_len_str (by rfl) ml PySem.boot_len (pa_cons (pv 0) pa_nil)) (pe_callB call_len_str (by rfl) ml PySem.boot_len (pa_cons (pv 1) pa_nil)) (nomark _))
        (pss_one (ps_if (pt_cmpR op_eq (pe_slice sl_str (pv 0) (po_some (pe_op op_add (pv 2) pe_int)) po_none) (pe_slice sl_str (pv 1) (po_some (pe_op op_add (pv 2) pe_int)) po_none) (nomark _))
          (pss_one (ps_ret (pe_tup (pa_cons pe_str (pa_cons (pv 2) (pa_cons (pe_ix ix_str (pv 0) (pv 2) (fun _ _ => rfl)) pa_nil)))))) pss_nil))
        (pss_one (ps_if (pt_cmpR op_eq (pe_callB call_len_str (by rfl) ml PySem.boot_len (pa_cons (pv 0) pa_nil)) (pe_op op_sub (pe_callB call_len_str (by rfl) ml PySem.boot_len (pa_cons (pv 1) pa_nil)) pe_int) (nomark _))
          (pss_one (ps_if (pt_cmpR op_eq (pe_slice sl_str (pv 0) (po_some (pv 2)) po_none) (pe_slice sl_str (pv 1) (po_some (pe_op op_add (pv 2) pe_int)) po_none) (nomark _))
            (pss_one (ps_ret (pe_tup (pa_cons pe_str (pa_cons (pe_call GR1 hr (by rfl) mR kR bR .nil pass0 (pa_cons (pv 1) (pa_cons (pv 2) pa_nil))) pa_nil))))) pss_nil))
          (pss_one (ps_if (pt_cmpR op_eq (pe_callB call_len_str (by rfl) ml PySem.boot_len (pa_cons (pv 0) pa_nil)) (pe_op op_add (pe_callB call_len_str (by rfl) ml PySem.boot_len (pa_cons (pv 1) pa_nil)) pe_int) (nomark _))
            (pss_one (ps_if (pt_cmpR op_eq (pe_slice sl_str (pv 0) (po_some (pe_op op_add (pv 2) pe_int)) po_none) (pe_slice sl_str (pv 1) (po_some (pv 2)) po_none) (nomark _))
              (pss_one (ps_ret (pe_tup (pa_cons pe_str (pa_cons (pe_call GR1 hr (by rfl) mR kR bR .nil pass0 (pa_cons (pv 0) (pa_cons (pv 2) pa_nil))) (pa_cons (pe_ix ix_str (pv 0) (pv 2) (fun _ _ => rfl)) pa_nil)))))) pss_nil))
            pss_nil)))))
      (pss_one (ps_ret pe_non)))), ?_⟩
    have yes : ∀ (t : Addr) (o : HO), H t = none → Nb.near x y = true → Q (.ref t) (upd H t o) := fun t o ht e => q _ _ (same_new ht o) (by rw [e]; rfl)
    have no : Nb.near x y = false → Q .non H := fun e => q _ _ (Same.refl H) (by rw [e]; rfl)
    refine ⟨_, rfl, _, rfl, rfl, _, rfl, ?_⟩
    rw [dec_str]
    refine ite2 (fun c => ?_) (fun c => ?_)
    · have e : x = y := of_decide_eq_true c
      refine ⟨by show 1 ≤ sizeLine; decide, fun t ht => yes t _ ht (by rw [e]; exact Nb.near_same y)⟩
    · have hn : x ≠ y := of_decide_eq_false (Bool.eq_false_iff.mpr c)
      refine ⟨_, rfl, _, rfl, x, y, rfl, hx, hy, fun a ha => ?_⟩
      have en := tail ha hn
      have hle := ha.le
      unfold Nb.rest at en
      refine ⟨_, rfl, _, rfl, hlen hx, _, rfl, _, rfl, hlen hy, rfl, _, rfl, ?_⟩
      rw [T_len, T_len]
      refine ite2 (fun c1 => ?_) (fun c1 => ?_)
      · have e1 : x.length = y.length := by
          have := V.int.inj (of_decide_eq_true c1)
          omega
        rw [if_pos e1] at en
        refine ⟨_, rfl, _, rfl, _, _, rfl, rfl, _, rfl, T x, rfl, hlen hx, _, rfl, _, rfl, _, _, rfl, rfl, _, rfl, T y, rfl, hlen hy, ?_⟩
        rw [cut_from x (a + 1) _ (by omega), cut_from y (a + 1) _ (by omega)]
        refine ⟨rfl, _, rfl, ?_⟩
        rw [dec_str]
        refine ite2 (fun c2 => ?_) (fun c2 => ?_)
        · have hlt := first_lt ha hn e1
          refine ⟨_, rfl, _, rfl, _, rfl, T x, _, _, rfl, rfl, hlen hx, at_T (i := a) _ (by omega) (by omega), by show 3 ≤ sizeLine; decide, fun t ht => yes t _ ht (by rw [en]; exact c2)⟩
        · exact no (by rw [en]; exact Bool.eq_false_iff.mpr c2)
      · have e1 : ¬ x.length = y.length := fun z => c1 (decide_eq_true (by rw [z]))
        rw [if_neg e1] at en
        refine ⟨_, rfl, _, rfl, hlen hx, _, rfl, _, rfl, hlen hy, _, _, rfl, rfl, rfl, _, rfl, ?_⟩
        rw [T_len, T_len]
        refine ite2 (fun c2 => ?_) (fun c2 => ?_)
        · have e2 : x.length + 1 = y.length := by
            have := V.int.inj (of_decide_eq_true c2)
            omega
          rw [if_pos e2] at en
          refine ⟨_, rfl, _, rfl, _, rfl, T x, rfl, hlen hx, _, rfl, _, rfl, _, _, rfl, rfl, _, rfl, T y, rfl, hlen hy, ?_⟩
          rw [cut_from x a _ (by omega), cut_from y (a + 1) _ (by omega)]
          refine ⟨rfl, _, rfl, ?_⟩
          rw [dec_str]
          refine ite2 (fun c3 => ?_) (fun c3 => ?_)
          · refine ⟨_, rfl, _, rfl, y, a, rfl, hy, by omega, fun b => ⟨by show 2 ≤ sizeLine; decide, fun t ht => yes t _ ht (by rw [en]; exact c3)⟩⟩
          · exact no (by rw [en]; exact Bool.eq_false_iff.mpr c3)
        · have e2 : ¬ x.length + 1 = y.length := fun z => c2 (decide_eq_true (by congr 1; omega))
          rw [if_neg e2] at en
          refine ⟨_, rfl, _, rfl, hlen hx, _, rfl, _, rfl, hlen hy, _, _, rfl, rfl, rfl, _, rfl, ?_⟩
          rw [T_len, T_len]
          refine ite2 (fun c3 => ?_) (fun c3 => ?_)
          · have e3 : x.length = y.length + 1 := by
              have := V.int.inj (of_decide_eq_true c3)
              omega
            rw [if_pos e3] at en
            refine ⟨_, rfl, _, rfl, _, _, rfl, rfl, _, rfl, T x, rfl, hlen hx, _, rfl, _, rfl, _, rfl, T y, rfl, hlen hy, ?_⟩
            rw [cut_from x (a + 1) _ (by omega), cut_from y a _ (by omega)]
            refine ⟨rfl, _, rfl, ?_⟩
            rw [dec_str]
            refine ite2 (fun c4 => ?_) (fun c4 => ?_)
            · refine ⟨_, rfl, _, rfl, x, a, rfl, hx, by omega, fun b => ⟨_, rfl, _, rfl, T x, _, _, rfl, rfl, hlen hx, at_T (i := a) _ (by omega) (by omega), by show 3 ≤ sizeLine; decide, fun t ht => yes t _ ht (by rw [en]; exact c4)⟩⟩
            · exact no (by rw [en]; exact Bool.eq_false_iff.mpr c4)
          · have e3 : ¬ x.length = y.length + 1 := fun z => c3 (decide_eq_true (by congr 1; omega))
            rw [if_neg e3] at en
            exact no en
def spCo : Sp := fun vs H Q _ => ∃ x y : W, vs = [.str (T x), .str (T y)] ∧ x.length ≤ 100 ∧ y.length ≤ 100 ∧ ∀ H', Same H H' → Q (.bl (Nb.near x y)) H'
theorem ok_co {f fC : Addr} {fd fdC : FuncData} {k : Nat} (F : Fun K "comes_of" "comes_of" sCo f fd)
    (GC1 : FnOk P w K mg base CX0 (k + 1) fC fdC ["string", "source"] spCh) (kC : PySem.W.keepIn K (.ref fC) = true) (mC : mg "change_of" = some (.ref fC)) (bC : Binds K fdC ["string", "source"] []) :
    FnOk P w K mg base CX0 (k + 2) f fd ["string", "source"] spCo := by
  refine F.ok scCo (fun vs H Q E h => ?_) (fun cdv A outer s H vs Q E hr h => ?_)
  · obtain ⟨_, _, rfl, _⟩ := h
    rfl
  · obtain ⟨x, y, rfl, hx, hy, q⟩ := h
    refine ⟨_, pss_one (ps_ret (pe_cmp (pc_notN (pe_call GC1 hr (by rfl) mC kC bC .nil pass0 (pa_cons (pv 0) (pa_cons (pv 1) pa_nil)))) rfl)), ?_⟩
    refine ⟨_, rfl, _, rfl, x, y, rfl, hx, hy, fun v H' sm e => ?_⟩
    have := q H' sm
    rw [← e] at this
    exact this
end
end K4
namespace K4
open PySem PySem.Spec PyProof.Rows L2 GF
theorem scNb : GScope ["source", "last", "at", "letter"] ["source"] (defScope sNb) := ⟨rfl, rfl, rfl, by decide +kernel, rfl, by decide +kernel, by decide +kernel⟩
theorem small5 {n : Nat} (h : n ≤ 5000) : n < sizeLine := Nat.lt_of_le_of_lt h (by decide)
/-! ### loops of a generator -/
section
variable {g : TG} {tb : TGn} {D : GEnds} {ys : List V} {σ : L2.St} {H : Hp}
abbrev GLoop (J : It) (g : TG) (tb : TGn) (D : GEnds) (ys : List V) (σ : L2.St) (H : Hp) : Prop :=
  ∃ W : Nat → Nat → List V → L2.St → Hp → Prop, (∃ m, W 0 m ys σ H) ∧ ∀ i m ys σ H, W i m ys σ H →
    (J.stop i H ∧ D.nx ys σ H) ∨ (J.go i H ∧ ∃ N : List V → L2.St → Hp → Prop, (∀ ys' σ' H', N ys' σ' H' → ∃ m', m' < m ∧ W (i + 1) m' ys' σ' H') ∧ ∀ x H', J.yld i H x H' → g x σ H' fun σ2 H2 => tb { D with nx := N, ct := N, bk := D.nx } ys σ2 H2)
theorem gfor_range {lo : Int} {n : Nat} (Pv : Nat → List V → L2.St → Hp → Prop) (h0 : Pv 0 ys σ H)
    (hs : ∀ i ys σ H, i < n → Pv i ys σ H → g (.int (lo + i)) σ H fun σ2 H2 => tb { D with nx := Pv (i + 1), ct := Pv (i + 1), bk := D.nx } ys σ2 H2) (hd : ∀ ys σ H, Pv n ys σ H → D.nx ys σ H) : GLoop (Itr lo n) g tb D ys σ H := by
  refine ⟨fun i m ys σ H => m = n - i ∧ i ≤ n ∧ Pv i ys σ H, ⟨n, by simp, Nat.zero_le _, h0⟩, ?_⟩
  rintro i m ys σ H ⟨rfl, hi, p⟩
  by_cases hlt : i < n
  · refine .inr ⟨hlt, Pv (i + 1), fun ys' σ' H' p' => ⟨n - (i + 1), by omega, rfl, hlt, p'⟩, fun x H' y => ?_⟩
    obtain ⟨e, y⟩ := y
    subst e y
    exact hs i ys σ _ hlt p
  · have e : i = n := by omega
    subst e
    exact .inl ⟨Nat.le_refl _, hd ys σ H p⟩
theorem gfor_rangeC {lo c : Int} {n : Nat} (Pv : Nat → List V → L2.St → Hp → Prop) (h0 : Pv 0 ys σ H)
    (hs : ∀ i ys σ H, i < n → Pv i ys σ H → g (.int (lo + (i : Nat) * c)) σ H fun σ2 H2 => tb { D with nx := Pv (i + 1), ct := Pv (i + 1), bk := D.nx } ys σ2 H2) (hd : ∀ ys σ H, Pv n ys σ H → D.nx ys σ H) : GLoop (Itc lo c n) g tb D ys σ H := by
  refine ⟨fun i m ys σ H => m = n - i ∧ i ≤ n ∧ Pv i ys σ H, ⟨n, by simp, Nat.zero_le _, h0⟩, ?_⟩
  rintro i m ys σ H ⟨rfl, hi, p⟩
  by_cases hlt : i < n
  · refine .inr ⟨hlt, Pv (i + 1), fun ys' σ' H' p' => ⟨n - (i + 1), by omega, rfl, hlt, p'⟩, fun x H' y => ?_⟩
    obtain ⟨e, y⟩ := y
    subst e y
    exact hs i ys σ _ hlt p
  · have e : i = n := by omega
    subst e
    exact .inl ⟨Nat.le_refl _, hd ys σ H p⟩
theorem gfor_str {w : W} (Pv : Nat → List V → L2.St → Hp → Prop) (h0 : Pv 0 ys σ H)
    (hs : ∀ i c ys σ H, w[i]? = some c → Pv i ys σ H → g (.str (T [c])) σ H fun σ2 H2 => tb { D with nx := Pv (i + 1), ct := Pv (i + 1), bk := D.nx } ys σ2 H2) (hd : ∀ ys σ H, Pv w.length ys σ H → D.nx ys σ H) : GLoop (Its (T w)) g tb D ys σ H := by
  have hsz : (T w).cps.size = w.length := T_len w
  refine ⟨fun i m ys σ H => m = w.length - i ∧ i ≤ w.length ∧ Pv i ys σ H, ⟨w.length, by simp, Nat.zero_le _, h0⟩, ?_⟩
  rintro i m ys σ H ⟨rfl, hi, p⟩
  by_cases hlt : i < w.length
  · refine .inr ⟨by show i < (T w).cps.size; rw [hsz]; exact hlt, Pv (i + 1), fun ys' σ' H' p' => ⟨w.length - (i + 1), by omega, rfl, hlt, p'⟩, fun x H' y => ?_⟩
    obtain ⟨e, c, hc, y⟩ := y
    subst e y
    refine hs i c ys σ _ ?_ p
    have : w.toArray[i]? = some c := hc
    simpa using this
  · have e : i = w.length := by omega
    subst e
    exact .inl ⟨by show (T w).cps.size ≤ w.length; rw [hsz]; exact Nat.le_refl _, hd ys σ H p⟩
end
/-! ### lengths -/
theorem flat_le (p : W) (c : Nat) (r : W) : ∀ ls : List Nat, (ls.flatMap (Nb.stw p c r)).length ≤ 3 * ls.length
  | [] => by simp
  | l :: ls => by
    have ih := flat_le p c r ls
    have h1 := Nb.stw_len p c r l
    rw [List.flatMap_cons, List.length_append, List.length_cons, h1]
    split <;> omega
theorem lows_le (c : Nat) : (Nb.lows c).length ≤ 4 := by
  unfold Nb.lows
  rw [List.length_take]
  show min _ 4 ≤ 4
  omega
theorem highs_le (c : Nat) : (Nb.highs c).length ≤ 4 := by
  unfold Nb.highs
  rw [List.length_drop]
  show 4 - _ ≤ 4
  omega
theorem A_le (w : W) (i : Nat) : (Nb.A w i).length ≤ 13 := by
  unfold Nb.A
  have h := flat_le (w.take i) (w.getD i 0) (w.drop (i + 1)) (Nb.lows (w.getD i 0))
  have h2 := lows_le (w.getD i 0)
  rw [List.length_append]
  split
  · rw [List.length_singleton]; omega
  · rw [List.length_nil]; omega
theorem B_le (w : W) (i : Nat) : (Nb.B w i).length ≤ 13 := by
  unfold Nb.B
  have h := flat_le (w.take i) (w.getD i 0) (w.drop (i + 1)) (Nb.highs (w.getD i 0))
  have h2 := highs_le (w.getD i 0)
  omega
theorem P1_le (w : W) : ∀ i, (Nb.P1 w i).length ≤ 13 * i
  | 0 => by simp [Nb.P1]
  | i + 1 => by
    have := P1_le w i
    have := A_le w i
    show (Nb.P1 w i ++ Nb.A w i).length ≤ _
    rw [List.length_append]; omega
theorem Q3_le (w : W) : ∀ i, (Nb.Q3 w i).length ≤ 13 * i
  | 0 => by simp [Nb.Q3]
  | i + 1 => by
    have := Q3_le w i
    have := B_le w (w.length - 1 - i)
    show (Nb.Q3 w i ++ Nb.B w (w.length - 1 - i)).length ≤ _
    rw [List.length_append]; omega
theorem index_is {c : Nat} (h : c ∈ Nb.ltrs) : Builtin.Str.occurrences (T Nb.ltrs) (T [c]) 0 (T Nb.ltrs).length 1 = [Nb.ltrs.idxOf c] := by
  rcases Nb.mem4 h with rfl | rfl | rfl | rfl <;> decide +kernel
theorem ltr_at {s : W} (h : Nb.Ltr s) {i : Nat} (hi : i < s.length) : s.getD i 0 ∈ Nb.ltrs := by
  refine h _ ?_
  have : s.getD i 0 = s[i] := by simp [hi]
  rw [this]
  exact List.getElem_mem hi
theorem take_flat (f : Nat → List W) {l : List Nat} {j c : Nat} (h : l[j]? = some c) : (l.take (j + 1)).flatMap f = (l.take j).flatMap f ++ f c := by
  rw [List.take_add_one, h, List.flatMap_append]
  simp
theorem take_map (f : Nat → W) {l : List Nat} {j c : Nat} (h : l[j]? = some c) : (l.take (j + 1)).map f = (l.take j).map f ++ [f c] := by
  rw [List.take_add_one, h, List.map_append]
  rfl
theorem tv_app (a b : List W) : tv (a ++ b) = tv a ++ tv b := List.map_append
section
variable {P : Program} {w : World} {K : PySem.W.Frag} {mg : Str → Option Value} {base : Heap}
def spNb : SpG := fun vs H Q _ => ∃ s : W, vs = [.str (T s)] ∧ Nb.Ltr s ∧ s ≠ [] ∧ s.length ≤ 60 ∧ ∀ H', Same H H' → Q (tv (Nb.nb s)) H'
/-- for letter in ls: yield from _strings_with(source, at, letter) -/
theorem yf_loop {s ls : W} {i : Nat} {iz : Int} {zs : List W} {a1 : Option V} {z : Option V} {D : GEnds} {H : Hp} (ei : iz = (i : Int)) (hi : i < s.length) (hl : s.length ≤ 60) (hz : zs.length ≤ 3000) (h4 : ls.length ≤ 4)
    (hd : ∀ H' z', Same H H' → D.nx (tv (zs ++ ls.flatMap (Nb.stw (s.take i) (s.getD i 0) (s.drop (i + 1))))) [some (.str (T s)), a1, some (.int iz), z'] H') :
    GLoop (Its (T ls)) (gName 3) (tGThen (tGFrom (tYfLst (tCall spSw [] E0 (tCons (tVar 0) (tCons (tVar 2) (tCons (tVar 3) tNil)))))) tG0) D (tv zs) [some (.str (T s)), a1, some (.int iz), z] H := by
  subst ei
  refine gfor_str (fun j ys σ H' => Same H H' ∧ ys = tv (zs ++ (ls.take j).flatMap (Nb.stw (s.take i) (s.getD i 0) (s.drop (i + 1)))) ∧ ∃ z, σ = [some (.str (T s)), a1, some (.int (i : Nat)), z]) ⟨Same.refl H, by simp, z, rfl⟩ ?_ ?_
  · rintro j c ys σ H1 hc ⟨sm, rfl, z, rfl⟩
    have hj : j < ls.length := (List.getElem?_eq_some_iff.mp hc).1
    refine ⟨_, rfl, _, rfl, _, rfl, s, i, c, rfl, hi, by omega, fun H2 p sm2 np ep => ?_⟩
    refine ⟨p, _, rfl, ep, ?_, sm.trans sm2, ?_, _, rfl⟩
    · have h1 := flat_le (s.take i) (s.getD i 0) (s.drop (i + 1)) (ls.take j)
      have h2 := Nb.stw_len (s.take i) (s.getD i 0) (s.drop (i + 1)) c
      have h3 : (ls.take j).length ≤ 4 := by rw [List.length_take]; omega
      rw [tv_len, tv_len, List.length_append]
      refine Nat.le_of_lt (small5 ?_)
      split at h2 <;> omega
    · rw [take_flat _ hc, ← List.append_assoc]
      simp only [tv_app]
  · rintro ys σ H1 ⟨sm, rfl, z, rfl⟩
    rw [List.take_length]
    exact hd H1 z sm
theorem ok_nb {f fS : Addr} {fd fdS : FuncData} {tk : Tok} (F : Fun K "neighbours" "neighbours" sNb f fd) (ml : mg "len" = none) (mr : mg "range" = none) (mv : mg "reversed" = none) (mL : mg "LETTERS" = some (.str (T Nb.ltrs) tk))
    (GS1 : FnOk P w K mg base CX0 1 fS fdS ["source", "at", "letter"] spSw) (kS : PySem.W.keepIn K (.ref fS) = true) (mS : mg "_strings_with" = some (.ref fS)) (bS : Binds K fdS ["source", "at", "letter"] []) :
    GFn P w K mg base 2 f fd ["source"] spNb := by
  obtain ⟨oc, od, kV, doc, pm, an, cdv, ct, osl, rfl, lk, hcd⟩ := F.ex
  refine gfn_of (k := 1) lk hcd scNb (fun vs H Q E h => ?_) (fun A outer st H vs Q E pn hr h => ?_)
  · obtain ⟨_, rfl, _⟩ := h
    rfl
  obtain ⟨s, rfl, hL, h0, hl, q⟩ := h
  have hs : (T s).length ≤ sizeLine := by rw [T_len]; exact small (by omega)
  have hpos : 0 < s.length := List.length_pos_iff.mpr h0
  refine ⟨_, gss_cons (gs_ps (ps_set (i := 1) scNb.nd rfl (.inl rfl) (pe_op op_sub (pe_callB call_len_str (by rfl) ml PySem.boot_len (pa_cons (pv 0) pa_nil)) pe_int)))
    (gss_cons (gs_for owns_gcx rfl (pi_range1 rfl mr (pa_cons (pe_callB call_len_str (by rfl) ml PySem.boot_len (pa_cons (pv 0) pa_nil)) pa_nil)) (pg_name (i := 2) scNb.nd rfl (.inl rfl))
      (gss_cons (gs_if (PW.pt (pw_and (pt_cmpR op_eq (pv 2) (pv 1) (nomark _)) (pw_and1 (pt_cmpR op_gt (pv 2) pe_int (nomark _))))) (gss_cons (gs_yield (pe_slice sl_str (pv 0) po_none (po_some (pv 2)))) gss_nil) gss_nil)
      (gss_cons (gs_for owns_gcx rfl (pi_str (pe_slice sl_str (pe_glob (v := .str (T Nb.ltrs)) rfl mL ⟨_, rfl⟩) po_none (po_some (pe_bm PySem.F.plainAttrs_str PySem.F.slot_str_index PySem.F.type_str_index mt_sindex (pe_glob (v := .str (T Nb.ltrs)) rfl mL ⟨_, rfl⟩) (pa_cons (pe_ix ix_str (pv 0) (pv 2) (fun _ _ => rfl)) pa_nil)))))
        (pg_name (i := 3) scNb.nd rfl (.inl rfl)) (gss_cons (gs_yieldFrom (yf_lst (pe_call GS1 hr (by rfl) mS kS bS .nil pass0 (pa_cons (pv 0) (pa_cons (pv 2) (pa_cons (pv 3) pa_nil))))) hr.hd) gss_nil)) gss_nil)))
    (gss_cons (gs_for owns_gcx rfl (pi_str (pe_glob (v := .str (T Nb.ltrs)) rfl mL ⟨_, rfl⟩)) (pg_name (i := 3) scNb.nd rfl (.inl rfl)) (gss_cons (gs_yield (pe_op op_add_str (pv 0) (pv 3))) gss_nil))
    (gss_cons (gs_for owns_gcx rfl (pi_revR rfl mv (prg_1 rfl mr (pe_callB call_len_str (by rfl) ml PySem.boot_len (pa_cons (pv 0) pa_nil)))) (pg_name (i := 2) scNb.nd rfl (.inl rfl))
      (gss_cons (gs_for owns_gcx rfl (pi_str (pe_slice sl_str (pe_glob (v := .str (T Nb.ltrs)) rfl mL ⟨_, rfl⟩) (po_some (pe_op op_add (pe_bm PySem.F.plainAttrs_str PySem.F.slot_str_index PySem.F.type_str_index mt_sindex (pe_glob (v := .str (T Nb.ltrs)) rfl mL ⟨_, rfl⟩) (pa_cons (pe_ix ix_str (pv 0) (pv 2) (fun _ _ => rfl)) pa_nil)) pe_int)) po_none))
        (pg_name (i := 3) scNb.nd rfl (.inl rfl)) (gss_cons (gs_yieldFrom (yf_lst (pe_call GS1 hr (by rfl) mS kS bS .nil pass0 (pa_cons (pv 0) (pa_cons (pv 2) (pa_cons (pv 3) pa_nil))))) hr.hd) gss_nil)) gss_nil)) gss_nil))), ?_⟩
  have t4 : (T Nb.ltrs).length ≤ sizeLine := by rw [T_len]; exact small (by decide)
  -- last = len(source) - 1
  refine ⟨_, rfl, _, rfl, hs, _, _, rfl, rfl, ?_⟩
  rw [T_len]
  -- for at in range(len(source))
  refine ⟨_, rfl, _, rfl, hs, _, rfl, ?_⟩
  rw [T_len]
  refine ⟨by omega, by omega, gfor_range (fun i ys σ H' => Same H H' ∧ ys = tv (Nb.P1 s i) ∧ ∃ z2 z3, σ = [some (.str (T s)), some (.int ((s.length : Int) - 1)), z2, z3]) ⟨Same.refl H, rfl, none, none, rfl⟩ ?_ ?_⟩
  · rintro i ys σ H1 hi ⟨sm, rfl, z2, z3, rfl⟩
    have hi' : i < s.length := by omega
    have hc := ltr_at hL hi'
    have hP := P1_le s i
    have hl1 : (tv (Nb.P1 s i)).length < sizeLine := by rw [tv_len]; exact small5 (by omega)
    have tailE : ∀ (E : List W), (E = if i + 1 = s.length ∧ 0 < i then [s.take i] else []) → Nb.P1 s (i + 1) = (Nb.P1 s i ++ E) ++ (Nb.lows (s.getD i 0)).flatMap (Nb.stw (s.take i) (s.getD i 0) (s.drop (i + 1))) ∧ (Nb.P1 s i ++ E).length ≤ 3000 := fun E e => by
      refine ⟨?_, ?_⟩
      · rw [e, List.append_assoc]
        rfl
      · rw [List.length_append, e]
        split
        · rw [List.length_singleton]; omega
        · rw [List.length_nil]; omega
    -- if at == last and at > 0
    refine ⟨_, rfl, _, rfl, rfl, _, rfl, ?_⟩
    by_cases c1 : i + 1 = s.length
    · rw [decide_eq_true (show V.int ((0 : Int) + (i : Nat)) = V.int ((s.length : Int) - 1) by congr 1; omega)]
      refine iteT ?_
      refine ⟨_, rfl, _, _, rfl, rfl, _, rfl, ?_⟩
      by_cases c2 : 0 < i
      · obtain ⟨eP, lP⟩ := tailE [s.take i] (by rw [if_pos ⟨c1, c2⟩])
        rw [decide_eq_true (show (0 : Int) < (0 : Int) + (i : Nat) by omega)]
        refine iteT ?_
        refine ⟨hl1, _, rfl, _, rfl, _, rfl, T s, rfl, hs, ?_⟩
        rw [cut_to s i _ (by omega)]
        show tGThen _ _ _ (tv (Nb.P1 s i) ++ [V.str (T (s.take i))]) _ _
        rw [show tv (Nb.P1 s i) ++ [V.str (T (s.take i))] = tv (Nb.P1 s i ++ [s.take i]) by rw [tv_app]; rfl]
        refine ⟨rfl, _, rfl, _, rfl, T s, _, _, rfl, rfl, hs, at_T (i := i) _ (by omega) hi', T Nb.ltrs, T [s.getD i 0], _, [], rfl, rfl, index_is hc, _, rfl, T Nb.ltrs, rfl, t4, T (Nb.lows (s.getD i 0)), by rw [cut_to Nb.ltrs (Nb.ltrs.idxOf (s.getD i 0)) _ rfl]; rfl,
          yf_loop (i := i) (by omega) hi' hl lP (lows_le _) fun H' z' sm' => ⟨sm.trans sm', by rw [eP], _, z', rfl⟩⟩
      · obtain ⟨eP, lP⟩ := tailE [] (by rw [if_neg fun z => c2 z.2])
        rw [List.append_nil] at eP lP
        rw [decide_eq_false (show ¬ (0 : Int) < (0 : Int) + (i : Nat) by omega)]
        refine iteF ?_
        refine ⟨rfl, _, rfl, _, rfl, T s, _, _, rfl, rfl, hs, at_T (i := i) _ (by omega) hi', T Nb.ltrs, T [s.getD i 0], _, [], rfl, rfl, index_is hc, _, rfl, T Nb.ltrs, rfl, t4, T (Nb.lows (s.getD i 0)), by rw [cut_to Nb.ltrs (Nb.ltrs.idxOf (s.getD i 0)) _ rfl]; rfl,
          yf_loop (i := i) (by omega) hi' hl lP (lows_le _) fun H' z' sm' => ⟨sm.trans sm', by rw [eP], _, z', rfl⟩⟩
    · obtain ⟨eP, lP⟩ := tailE [] (by rw [if_neg fun z => c1 z.1])
      rw [List.append_nil] at eP lP
      rw [decide_eq_false (show ¬ V.int ((0 : Int) + (i : Nat)) = V.int ((s.length : Int) - 1) from fun z => c1 (by have := V.int.inj z; omega))]
      refine iteF ?_
      refine iteF ?_
      refine ⟨rfl, _, rfl, _, rfl, T s, _, _, rfl, rfl, hs, at_T (i := i) _ (by omega) hi', T Nb.ltrs, T [s.getD i 0], _, [], rfl, rfl, index_is hc, _, rfl, T Nb.ltrs, rfl, t4, T (Nb.lows (s.getD i 0)), by rw [cut_to Nb.ltrs (Nb.ltrs.idxOf (s.getD i 0)) _ rfl]; rfl,
        yf_loop (i := i) (by omega) hi' hl lP (lows_le _) fun H' z' sm' => ⟨sm.trans sm', by rw [eP], _, z', rfl⟩⟩
  · rintro ys σ H1 ⟨sm, rfl, z2, z3, rfl⟩
    rw [Int.toNat_natCast]
    have hP := P1_le s s.length
    -- for letter in LETTERS
    refine ⟨T Nb.ltrs, rfl, gfor_str (fun j ys σ H' => Same H H' ∧ ys = tv (Nb.P1 s s.length ++ (Nb.ltrs.take j).map fun l => s ++ [l]) ∧ ∃ z3, σ = [some (.str (T s)), some (.int ((s.length : Int) - 1)), z2, z3]) ⟨sm, by simp, z3, rfl⟩ ?_ ?_⟩
    · rintro j c ys σ H2 hc ⟨sm2, rfl, z3, rfl⟩
      have hj : j < 4 := (List.getElem?_eq_some_iff.mp hc).1
      refine ⟨?_, _, rfl, _, rfl, T s, T [c], rfl, rfl, ?_, sm2, ?_, _, rfl⟩
      · rw [tv_len, List.length_append, List.length_map, List.length_take]
        exact small5 (by omega)
      · rw [T_len, T_len]
        exact small (by simp; omega)
      · rw [take_map _ hc, ← List.append_assoc, T_app]
        simp only [tv_app]
        rfl
    · rintro ys σ H2 ⟨sm2, rfl, z3, rfl⟩
      rw [List.take_of_length_le (show Nb.ltrs.length ≤ Nb.ltrs.length from Nat.le_refl _)]
      -- for at in reversed(range(len(source)))
      refine ⟨_, rfl, _, rfl, hs, _, rfl, by omega, by omega, by rw [T_len]; omega, by rw [T_len]; omega, ?_⟩
      rw [T_len]
      have eM : (Nb.P1 s s.length ++ Nb.ltrs.map fun l => s ++ [l]) = Nb.P1 s s.length ++ Nb.mid s := rfl
      rw [eM]
      have lM : (Nb.mid s).length = 4 := by unfold Nb.mid; rw [List.length_map]; rfl
      refine gfor_rangeC (fun j ys σ H' => Same H H' ∧ ys = tv (Nb.P1 s s.length ++ Nb.mid s ++ Nb.Q3 s j) ∧ ∃ z2 z3, σ = [some (.str (T s)), some (.int ((s.length : Int) - 1)), z2, z3]) ⟨sm2, by show _ = tv (_ ++ []); rw [List.append_nil], z2, z3, rfl⟩ ?_ ?_
      · rintro j ys σ H3 hj ⟨sm3, rfl, z2, z3, rfl⟩
        have hi' : s.length - 1 - j < s.length := by omega
        have hc := ltr_at hL hi'
        have hQ := Q3_le s j
        have hj' : j < s.length := by omega
        refine ⟨rfl, _, rfl, _, rfl, T s, _, _, rfl, rfl, hs, at_T (i := s.length - 1 - j) _ (by omega) hi', T Nb.ltrs, T [s.getD (s.length - 1 - j) 0], _, [], rfl, rfl, index_is hc, _, _, rfl, rfl, _, rfl, T Nb.ltrs, rfl, t4, T (Nb.highs (s.getD (s.length - 1 - j) 0)), by rw [cut_from Nb.ltrs (Nb.ltrs.idxOf (s.getD (s.length - 1 - j) 0) + 1) _ (by omega)]; rfl,
          yf_loop (i := s.length - 1 - j) (by omega) hi' hl (by rw [List.length_append, List.length_append, lM]; omega) (highs_le _) fun H' z' sm' => ⟨sm3.trans sm', by rw [List.append_assoc]; rfl, _, z', rfl⟩⟩
      · rintro ys σ H3 ⟨sm3, rfl, z2, z3, rfl⟩
        have e : ((s.length : Int) - 0).toNat = s.length := by omega
        rw [e]
        exact q H3 sm3
end
end K4
namespace K4
open PySem PySem.Spec PyProof.Rows L2 GF
theorem scBag : FnScope ["_law_script", "_law_seed", "_law_item"] ["_law_script"] (defScope sBag) := ⟨rfl, rfl, rfl, by decide +kernel, rfl, by decide +kernel, by decide +kernel⟩
theorem scDraw : FnScope ["_law_bag_here", "_law_size", "_law_item", "_law_digit"] ["_law_bag_here", "_law_size"] (defScope sDraw) := ⟨rfl, rfl, rfl, by decide +kernel, rfl, by decide +kernel, by decide +kernel⟩
theorem scOf : FnScope ["_law_bag_here", "_law_things"] ["_law_bag_here", "_law_things"] (defScope sOf) := ⟨rfl, rfl, rfl, by decide +kernel, rfl, by decide +kernel, by decide +kernel⟩
/-! ### the bag -/
def bagL (c : Addr) (k g s d : Int) : List V := [.ref c, .int k, .int g, .int s, .int d]
structure BagIs (H : Hp) (b c : Addr) (cells : List Int) (k g s d : Int) : Prop where
  ob : H b = some (.lst (bagL c k g s d))
  oc : H c = some (.lst (cells.map V.int))
  hl : cells.length ≤ 63
  hk : 0 ≤ k
  s0 : 0 ≤ s
  s1 : s < 2147483549
theorem BagIs.ne {H : Hp} {b c : Addr} {cells : List Int} {k g s d : Int} (h : BagIs H b c cells k g s d) : c ≠ b := by
  refine ne_of h.oc h.ob fun z => ?_
  have e : cells.map V.int = bagL c k g s d := HO.lst.inj z
  cases cells with
  | nil => exact nomatch e
  | cons x r =>
    have e1 := (List.cons.inj e).1
    cases e1
/-- the bag's list is written anew -/
theorem BagIs.put {H : Hp} {b c : Addr} {cells : List Int} {k g s d k' g' s' d' : Int} (h : BagIs H b c cells k g s d) (hk : 0 ≤ k') (s0 : 0 ≤ s') (s1 : s' < 2147483549) : BagIs (upd H b (.lst (bagL c k' g' s' d'))) b c cells k' g' s' d' :=
  ⟨upd_same, by rw [upd_ne h.ne]; exact h.oc, h.hl, hk, s0, s1⟩
def BagAt (H : Hp) (b : Addr) : Prop := ∃ (c : Addr) (cells : List Int) (k g s d : Int), BagIs H b c cells k g s d
/-- all but b is as it was -/
def Kp (b : Addr) (H H' : Hp) : Prop := ∀ x o, H x = some o → x ≠ b → H' x = some o
theorem Kp.refl (b : Addr) (H : Hp) : Kp b H H := fun _ _ h _ => h
theorem Kp.trans {b : Addr} {H H1 H2 : Hp} (a : Kp b H H1) (c : Kp b H1 H2) : Kp b H H2 := fun x o h hb => c x o (a x o h hb) hb
theorem Kp.put {b : Addr} {H H1 : Hp} (a : Kp b H H1) (o : HO) : Kp b H (upd H1 b o) := fun x u h hb => by
  rw [upd_ne hb]
  exact a x u h hb
theorem Same.kp {b : Addr} {H H1 : Hp} (s : Same H H1) : Kp b H H1 := fun x o h _ => s x o h
theorem BagAt.same {b : Addr} {H H1 : Hp} (h : BagAt H b) (s : Same H H1) : BagAt H1 b := by
  obtain ⟨c, cells, k, g, sd, d, h⟩ := h
  exact ⟨c, cells, k, g, sd, d, s _ _ h.ob, s _ _ h.oc, h.hl, h.hk, h.s0, h.s1⟩
theorem Kp.free {b : Addr} {H H' : Hp} (hb : ∃ o, H' b = some o) (e : Kp b H H') {l : Addr} (h : H' l = none) : H l = none := by
  cases q : H l with
  | none => rfl
  | some o =>
    by_cases hl : l = b
    · subst hl
      obtain ⟨o', z⟩ := hb
      rw [z] at h
      cases h
    · rw [e l o q hl] at h
      cases h
theorem Kp.seq {K : PySem.W.Frag} {b a : Addr} {H H' : Hp} {xs : List V} (e : Kp b H H') (hb : a ≠ b) (h : SqL K H a xs) : SqL K H' a xs := by
  rcases h with (h | ⟨o, h⟩) | h
  · exact .inl (.inl (e _ _ h hb))
  · exact .inl (.inr ⟨o, e _ _ h hb⟩)
  · exact .inr h
section
variable {P : Program} {w : World} {K : PySem.W.Frag} {mg : Str → Option Value} {base : Heap}
def spDraw : Sp := fun vs H Q _ => ∃ (b : Addr) (n : Nat), vs = [.ref b, .int (n : Nat)] ∧ BagAt H b ∧ 0 < n ∧ n ≤ 1000 ∧ ∀ (d : Nat) H', d < n → BagAt H' b → Kp b H H' → Q (.int (d : Nat)) H'
theorem ok_draw {f : Addr} {fd : FuncData} {k : Nat} (F : Fun K "_law_draw" "_law_draw" sDraw f fd) (ml : mg "len" = none) (mi : mg "int" = none) : FnOk P w K mg base CX0 (k + 1) f fd ["_law_bag_here", "_law_size"] spDraw := by
  refine F.ok scDraw (fun vs H Q E h => ?_) (fun cdv A outer s H vs Q E hr h => ?_)
  · obtain ⟨_, _, rfl, _⟩ := h
    rfl
  · obtain ⟨b, n, rfl, ⟨c, cells, k0, g0, s0, d0, hB⟩, hn0, hn1, q⟩ := h
    refine ⟨_, pss_cons (ps_asg (pe_op op_add (pe_ix ix_list (pv 0) pe_int (fun _ _ => rfl)) pe_int) (pg_sub (pv 0) pe_int set_list))
      (C8.pss_cut (ps_if (PW.pt (pw_and (pt_cmpR op_eq (pe_ix ix_list (pv 0) pe_int (fun _ _ => rfl)) pe_int (nomark _)) (pw_and1 (pt_cmpR op_lt (pe_ix ix_list (pv 0) pe_int (fun _ _ => rfl)) (pe_callB call_len_seq (by rfl) ml PySem.boot_len (pa_cons (pe_ix ix_list (pv 0) pe_int (fun _ _ => rfl)) pa_nil)) (nomark _)))))
        (pss_cons (ps_set (i := 2) scDraw.nd rfl (.inl rfl) (pe_ix ix_list (pe_ix ix_list (pv 0) pe_int (fun _ _ => rfl)) (pe_ix ix_list (pv 0) pe_int (fun _ _ => rfl)) (fun _ _ => rfl)))
        (pss_cons (ps_asg (pe_op op_add (pe_ix ix_list (pv 0) pe_int (fun _ _ => rfl)) pe_int) (pg_sub (pv 0) pe_int set_list))
        (pss_one (ps_if (pt_cmpR op_ge (pv 2) (pe_op op_pow pe_int pe_int) (nomark _))
          (pss_one (ps_asg (pv 2) (pg_sub (pv 0) pe_int set_list)))
          (pss_one (ps_asg (pe_op op_mod (pe_callTy call_int1 (by rfl) mi PyProof.Rows.boot_int (pa_cons (pe_op op_add (pe_op op_add (pe_op op_mul (pe_ix ix_list (pv 0) pe_int (fun _ _ => rfl)) pe_int) (pe_op op_mul (pe_op op_mod (pe_callTy call_int1 (by rfl) mi PyProof.Rows.boot_int (pa_cons (pv 2) pa_nil)) pe_int) pe_int)) pe_int) pa_nil)) pe_int) (pg_sub (pv 0) pe_int set_list)))))))
        pss_nil)
      (pss_cons (ps_if (pt_cmpR op_gt (pe_ix ix_list (pv 0) pe_int (fun _ _ => rfl)) pe_int (nomark _))
        (pss_cons (ps_set (i := 3) scDraw.nd rfl (.inl rfl) (pe_op op_mod (pe_callTy call_int1 (by rfl) mi PyProof.Rows.boot_int (pa_cons (pe_ix ix_list (pv 0) pe_int (fun _ _ => rfl)) pa_nil)) (pv 1)))
        (pss_cons (ps_asg (pe_op op_fdiv (pe_ix ix_list (pv 0) pe_int (fun _ _ => rfl)) (pv 1)) (pg_sub (pv 0) pe_int set_list))
        (pss_one (ps_ret (pv 3)))))
        pss_nil)
      (pss_cons (ps_asg (pe_op op_mod (pe_callTy call_int1 (by rfl) mi PyProof.Rows.boot_int (pa_cons (pe_op op_add (pe_op op_add (pe_op op_pow (pe_ix ix_list (pv 0) pe_int (fun _ _ => rfl)) pe_int) (pe_op op_mul (pe_ix ix_list (pv 0) pe_int (fun _ _ => rfl)) pe_int)) pe_int) pa_nil)) pe_int) (pg_sub (pv 0) pe_int set_list))
      (pss_one (ps_ret (pe_op op_mod (pe_callTy call_int1 (by rfl) mi PyProof.Rows.boot_int (pa_cons (pe_op op_add (pe_op op_fdiv (pe_ix ix_list (pv 0) pe_int (fun _ _ => rfl)) pe_int) (pe_op op_mul (pe_op op_mod (pe_callTy call_int1 (by rfl) mi PyProof.Rows.boot_int (pa_cons (pe_ix ix_list (pv 0) pe_int (fun _ _ => rfl)) pa_nil)) pe_int) pe_int)) pa_nil)) (pv 1))))))), ?_⟩
    -- _law_bag_here[4] = _law_bag_here[4] + 1
    refine ⟨_, rfl, b, _, _, _, rfl, rfl, .inl (.inl hB.ob), rfl, _, _, rfl, rfl, _, rfl, b, _, _, 4, rfl, rfl, hB.ob, rfl, ?_⟩
    have hB1 : BagIs (upd H b (.lst (bagL c k0 g0 s0 (d0 + 1)))) b c cells k0 g0 s0 (d0 + 1) := hB.put hB.hk hB.s0 hB.s1
    have kp1 : Kp b H (upd H b (.lst (bagL c k0 g0 s0 (d0 + 1)))) := (Kp.refl b H).put _
    -- the cell
    refine ⟨fun σ H' => Kp b H H' ∧ (∃ k g s d, BagIs H' b c cells k g s d) ∧ ∃ z2 z3, σ = [some (.ref b), some (.int (n : Nat)), z2, z3], ?_, ?_⟩
    · refine ⟨_, rfl, b, _, _, _, rfl, rfl, .inl (.inl hB1.ob), rfl, rfl, _, rfl, ?_⟩
      refine ite2 (fun c1 => ?_) (fun c1 => ?_)
      · refine ⟨_, rfl, b, _, _, _, rfl, rfl, .inl (.inl hB1.ob), rfl, _, rfl, b, _, _, _, rfl, rfl, .inl (.inl hB1.ob), rfl, c, _, rfl, .inl (.inl (.inl hB1.oc)), _, _, rfl, rfl, _, rfl, ?_⟩
        refine ite2 (fun c2 => ?_) (fun c2 => ?_)
        · have hk1 : k0 < (cells.length : Int) := by
            have := of_decide_eq_true c2
            rw [List.length_map] at this
            exact this
          have hk0 := hB.hk
          have hkn : k0.toNat < cells.length := by omega
          have gk : atI (cells.map V.int) k0 = some (.int (cells[k0.toNat])) := by
            exact at_of (j := k0.toNat) (by omega) (by rw [List.getElem?_map, List.getElem?_eq_getElem hkn]; rfl)
          -- _law_item
          refine ⟨_, rfl, b, _, _, _, rfl, rfl, .inl (.inl hB1.ob), rfl, _, rfl, b, _, _, _, rfl, rfl, .inl (.inl hB1.ob), rfl, c, _, _, _, rfl, rfl, .inl (.inl hB1.oc), gk, ?_⟩
          refine ⟨_, rfl, b, _, _, _, rfl, rfl, .inl (.inl hB1.ob), rfl, _, _, rfl, rfl, _, rfl, b, _, _, 1, rfl, rfl, hB1.ob, rfl, ?_⟩
          have hB2 : BagIs (upd (upd H b (.lst (bagL c k0 g0 s0 (d0 + 1)))) b (.lst (bagL c (k0 + 1) g0 s0 (d0 + 1)))) b c cells (k0 + 1) g0 s0 (d0 + 1) := hB1.put (by omega) hB.s0 hB.s1
          have kp2 := kp1.put (.lst (bagL c (k0 + 1) g0 s0 (d0 + 1)))
          refine ⟨_, rfl, _, _, rfl, rfl, ⟨by decide, by decide, by decide⟩, _, _, rfl, rfl, _, rfl, ?_⟩
          refine ite2 (fun c3 => ?_) (fun c3 => ?_)
          · refine ⟨_, rfl, _, rfl, b, _, _, 2, rfl, rfl, hB2.ob, rfl, ?_⟩
            exact ⟨kp2.put _, ⟨_, _, _, _, hB2.put hB2.hk hB2.s0 hB2.s1⟩, _, _, rfl⟩
          · refine ⟨_, rfl, b, _, _, _, rfl, rfl, .inl (.inl hB2.ob), rfl, _, _, rfl, rfl, .inr ⟨by decide, by decide⟩, _, rfl, .inl ⟨_, rfl, _, _, rfl, rfl, by show (0 : Int) < 2147483587; decide, _, _, rfl, rfl, .inr ⟨by decide, by decide⟩, _, _, rfl, rfl, _, _, rfl, rfl,
              .inl ⟨_, rfl, _, _, rfl, rfl, by show (0 : Int) < 2147483549; decide, _, rfl, b, _, _, 3, rfl, rfl, hB2.ob, rfl, ?_⟩⟩⟩
            exact ⟨kp2.put _, ⟨_, _, _, _, hB2.put hB2.hk (Int.emod_nonneg _ (by decide)) (Int.emod_lt_of_pos _ (by decide))⟩, _, _, rfl⟩
        · exact ⟨kp1, ⟨_, _, _, _, hB1⟩, _, _, rfl⟩
      · refine iteF ?_
        exact ⟨kp1, ⟨_, _, _, _, hB1⟩, _, _, rfl⟩
    · rintro σ H1 ⟨kp, ⟨k1, g1, s1, d1, hC⟩, z2, z3, rfl⟩
      have hs0 := hC.s0
      have hs1 := hC.s1
      refine ⟨_, rfl, b, _, _, _, rfl, rfl, .inl (.inl hC.ob), rfl, _, _, rfl, rfl, _, rfl, ?_⟩
      refine ite2 (fun c1 => ?_) (fun c1 => ?_)
      · refine ⟨_, rfl, b, _, _, _, rfl, rfl, .inl (.inl hC.ob), rfl, .inl ⟨_, rfl, _, rfl, _, _, rfl, rfl, by show (0 : Int) < (n : Int); omega, ?_⟩⟩
        refine ⟨_, rfl, b, _, _, _, rfl, rfl, .inl (.inl hC.ob), rfl, _, rfl, _, _, rfl, rfl, ⟨by omega, by omega⟩, _, rfl, b, _, _, 2, rfl, rfl, hC.ob, rfl, ?_⟩
        refine ⟨_, rfl, ?_⟩
        have h1 := Int.emod_nonneg g1 (show (n : Int) ≠ 0 by omega)
        have h2 := Int.emod_lt_of_pos g1 (show (0 : Int) < (n : Int) by omega)
        have e : g1 % (n : Int) = (((g1 % (n : Int)).toNat : Nat) : Int) := by omega
        have := q (g1 % (n : Int)).toNat _ (by omega) ⟨_, _, _, _, _, _, hC.put (g' := g1 / (n : Int)) (d' := d1) hC.hk hC.s0 hC.s1⟩ (kp.put _)
        rw [← e] at this
        exact this
      · refine ⟨_, rfl, b, _, _, _, rfl, rfl, .inl (.inl hC.ob), rfl, _, _, rfl, rfl, ⟨by decide, by decide, by omega⟩, _, rfl, b, _, _, _, rfl, rfl, .inl (.inl hC.ob), rfl, _, _, rfl, rfl, .inr ⟨by decide, by decide⟩, _, _, rfl, rfl, _, _, rfl, rfl,
          .inl ⟨_, rfl, _, _, rfl, rfl, by show (0 : Int) < 2147483549; decide, _, rfl, b, _, _, 3, rfl, rfl, hC.ob, rfl, ?_⟩⟩
        have hD := hC.put (k' := k1) (g' := g1) (d' := d1) (s' := (s1 ^ (3 : Int).toNat + d1 * 1299709 + 70001) % 2147483549) hC.hk (Int.emod_nonneg _ (by decide)) (Int.emod_lt_of_pos _ (by decide))
        refine ⟨_, rfl, b, _, _, _, rfl, rfl, .inl (.inl hD.ob), rfl, _, _, rfl, rfl, ⟨by decide, by decide⟩, _, rfl, b, _, _, _, rfl, rfl, .inl (.inl hD.ob), rfl, .inl ⟨_, rfl, _, _, rfl, rfl, by show (0 : Int) < 7919; decide, _, _, rfl, rfl, .inr ⟨by decide, by decide⟩, _, _, rfl, rfl,
          .inl ⟨_, rfl, _, rfl, _, _, rfl, rfl, by show (0 : Int) < (n : Int); omega, ?_⟩⟩⟩
        generalize ((s1 ^ (3 : Int).toNat + d1 * 1299709 + 70001) % 2147483549 / 89 + (s1 ^ (3 : Int).toNat + d1 * 1299709 + 70001) % 2147483549 % 7919 * 61) = y
        have h1 := Int.emod_nonneg y (show (n : Int) ≠ 0 by omega)
        have h2 := Int.emod_lt_of_pos y (show (0 : Int) < (n : Int) by omega)
        have e : y % (n : Int) = (((y % (n : Int)).toNat : Nat) : Int) := by omega
        have := q (y % (n : Int)).toNat _ (by omega) ⟨_, _, _, _, _, _, hD⟩ (kp.put _)
        rw [← e] at this
        exact this
def spBag (K : PySem.W.Frag) : Sp := fun vs H Q _ => ∃ (a : Addr) (ns : List Int), vs = [.ref a] ∧ SqL K H a (ns.map V.int) ∧ ns.length ≤ 63 ∧ ∀ b H', Same H H' → H b = none → BagAt H' b → Q (.ref b) H'
theorem cut63 {ns : List Int} (h : ns.length ≤ 63) : cutV (ns.map V.int) none (some 63) = ns.map V.int := by
  unfold cutV
  rw [HT.sIx_none, show ((63 : Int)) = ((63 : Nat) : Int) from rfl, HT.sIx_nat, List.length_map, Nat.min_eq_right h, List.drop_zero, Nat.sub_zero]
  exact List.take_of_length_le (by rw [List.length_map]; exact Nat.le_refl _)
theorem ok_bag {f : Addr} {fd : FuncData} {k : Nat} (F : Fun K "_law_bag" "_law_bag" sBag f fd) (mi : mg "int" = none) (mli : mg "list" = none) : FnOk P w K mg base CX0 (k + 1) f fd ["_law_script"] (spBag K) := by
  refine F.ok scBag (fun vs H Q E h => ?_) (fun cdv A outer s H vs Q E hr h => ?_)
  · obtain ⟨_, _, rfl, _⟩ := h
    rfl
  · obtain ⟨a, ns, rfl, hS, hlen, q⟩ := h
    refine ⟨_, pss_cons (ps_set (i := 1) scBag.nd rfl (.inl rfl) pe_int)
      (pss_cons (ps_for PassesOwn.never rfl (pi_list (pe_slice sl_list (pv 0) po_none (po_some pe_int))) (pg_name (i := 2) scBag.nd rfl (.inl rfl))
        (pss_one (ps_set (i := 1) scBag.nd rfl (.inl rfl) (pe_op op_mod (pe_callTy call_int1 (by rfl) mi PyProof.Rows.boot_int (pa_cons (pe_op op_add (pe_op op_add (pe_op op_mul (pv 1) pe_int) (pe_op op_mod (pe_callTy call_int1 (by rfl) mi PyProof.Rows.boot_int (pa_cons (pv 2) pa_nil)) pe_int)) pe_int) pa_nil)) pe_int))))
      (pss_one (ps_ret (pe_lst (pa_cons (pe_callTy call_list_of (by rfl) mli PyProof.Rows.boot_list (pa_cons (pe_slice sl_list (pv 0) po_none (po_some pe_int)) pa_nil)) (pa_cons pe_int (pa_cons pe_int (pa_cons (pv 1) (pa_cons pe_int pa_nil))))))))), ?_⟩
    refine ⟨_, rfl, _, rfl, a, _, rfl, hS, fun p np => ?_⟩
    rw [cut63 hlen]
    have s1 : Same H (upd H p (.lst (ns.map V.int))) := same_new np _
    have hP : SqL K (upd H p (.lst (ns.map V.int))) p (ns.map V.int) := .inl (.inl upd_same)
    refine ⟨p, rfl, ⟨_, hP⟩, for_list (K := K) (a := p) (xs := ns.map V.int) (fun i σ H' => H' = upd H p (.lst (ns.map V.int)) ∧ ∃ sd z, σ = [some (.ref a), some (.int sd), z] ∧ 0 ≤ sd ∧ sd < 2147483549)
      ⟨rfl, 14374, none, rfl, by decide, by decide⟩ (fun i σ H' _ h => by obtain ⟨rfl, _⟩ := h; exact hP) ?_ ?_⟩
    · rintro i x σ H' hi ⟨rfl, sd, z, rfl, h0, h1⟩
      obtain ⟨y, rfl⟩ : ∃ y, x = V.int y := by
        rw [List.getElem?_map] at hi
        cases e : ns[i]? with
        | none => rw [e] at hi; cases hi
        | some y => rw [e] at hi; exact ⟨y, (Option.some.inj hi).symm⟩
      refine ⟨_, rfl, _, _, rfl, rfl, .inr ⟨by decide, by decide⟩, _, rfl, .inl ⟨_, rfl, _, _, rfl, rfl, by show (0 : Int) < 2147483563; decide, _, _, rfl, rfl, _, _, rfl, rfl, .inl ⟨_, rfl, _, _, rfl, rfl, by show (0 : Int) < 2147483549; decide, rfl, _, _, rfl, Int.emod_nonneg _ (by decide), Int.emod_lt_of_pos _ (by decide)⟩⟩⟩
    · rintro σ H' ⟨rfl, sd, z, rfl, h0, h1⟩
      refine ⟨_, rfl, _, rfl, a, _, rfl, s1.seq hS, fun p2 np2 => ?_⟩
      rw [cut63 hlen]
      have s2 := s1.trans (same_new np2 (.lst (ns.map V.int)))
      refine ⟨p2, _, rfl, .inl (.inl (.inl upd_same)), fun c nc => ⟨_, rfl, by show 5 ≤ sizeLine; decide, fun b nb => ?_⟩⟩
      have s3 := s2.trans (same_new nc (.lst (ns.map V.int)))
      refine q b _ (s3.trans (same_new nb _)) (s3.free nb) ⟨c, ns, 0, 0, sd, 0, upd_same, ?_, hlen, by decide, h0, h1⟩
      have ncb : c ≠ b := fun z => by
        subst z
        rw [upd_same] at nb
        cases nb
      rw [upd_ne ncb, upd_same]
/-- a sign of a text -/
def spOfS : Sp := fun vs H Q _ => ∃ (b : Addr) (s : W), vs = [.ref b, .str (T s)] ∧ BagAt H b ∧ s ≠ [] ∧ s.length ≤ 1000 ∧ ∀ c H', c ∈ s → BagAt H' b → Kp b H H' → Q (.str (T [c])) H'
/-- an item of a list or a tuple -/
def spOfL (K : PySem.W.Frag) : Sp := fun vs H Q _ => ∃ (b a : Addr) (xs : List V), vs = [.ref b, .ref a] ∧ BagAt H b ∧ (H a = some (.lst xs) ∨ H a = some (.tup xs)) ∧ a ≠ b ∧ xs ≠ [] ∧ xs.length ≤ 1000 ∧ ∀ v H', v ∈ xs → BagAt H' b → Kp b H H' → Q v H'
theorem ok_ofS {f fD : Addr} {fd fdD : FuncData} {k : Nat} (F : Fun K "_law_of" "_law_of" sOf f fd) (ml : mg "len" = none)
    (GD : FnOk P w K mg base CX0 (k + 1) fD fdD ["_law_bag_here", "_law_size"] spDraw) (kD : PySem.W.keepIn K (.ref fD) = true) (mD : mg "_law_draw" = some (.ref fD)) (bD : Binds K fdD ["_law_bag_here", "_law_size"] []) :
    FnOk P w K mg base CX0 (k + 2) f fd ["_law_bag_here", "_law_things"] spOfS := by
  refine F.ok scOf (fun vs H Q E h => ?_) (fun cdv A outer s H vs Q E hr h => ?_)
  · obtain ⟨_, _, rfl, _⟩ := h
    rfl
  · obtain ⟨b, t, rfl, hB, h0, hlen, q⟩ := h
    have hpos : 0 < t.length := List.length_pos_iff.mpr h0
    have hs : (T t).length ≤ sizeLine := by rw [T_len]; exact small (by omega)
    refine ⟨_, pss_one (ps_ret (pe_ix ix_str (pv 1) (pe_call GD hr (by rfl) mD kD bD .nil pass0 (pa_cons (pv 0) (pa_cons (pe_callB call_len (by rfl) ml PySem.boot_len (pa_cons (pv 1) pa_nil)) pa_nil))) (fun _ _ => rfl))), ?_⟩
    refine ⟨_, rfl, _, rfl, _, rfl, _, _, rfl, ⟨hs, rfl⟩, b, t.length, by rw [T_len]; rfl, hB, hpos, hlen, fun d H' hd hB' kp => ?_⟩
    refine ⟨T t, _, t.getD d 0, rfl, rfl, hs, at_T (i := d) _ rfl hd, ?_⟩
    refine q _ H' ?_ hB' kp
    have e : t.getD d 0 = t[d] := by simp [hd]
    rw [e]
    exact List.getElem_mem hd
theorem ok_ofL {f fD : Addr} {fd fdD : FuncData} {k : Nat} (F : Fun K "_law_of" "_law_of" sOf f fd) (ml : mg "len" = none)
    (GD : FnOk P w K mg base CX0 (k + 1) fD fdD ["_law_bag_here", "_law_size"] spDraw) (kD : PySem.W.keepIn K (.ref fD) = true) (mD : mg "_law_draw" = some (.ref fD)) (bD : Binds K fdD ["_law_bag_here", "_law_size"] []) :
    FnOk P w K mg base CX0 (k + 2) f fd ["_law_bag_here", "_law_things"] (spOfL K) := by
  refine F.ok scOf (fun vs H Q E h => ?_) (fun cdv A outer s H vs Q E hr h => ?_)
  · obtain ⟨_, _, _, rfl, _⟩ := h
    rfl
  · obtain ⟨b, a, xs, rfl, hB, hA, hab, h0, hlen, q⟩ := h
    have hpos : 0 < xs.length := List.length_pos_iff.mpr h0
    have sq : ∀ H', Kp b H H' → SqL K H' a xs ∨ SqT K H' a xs := fun H' kp => by
      rcases hA with z | z
      · exact .inl (SqL.of (kp _ _ z hab))
      · exact .inr (SqT.of (kp _ _ z hab))
    refine ⟨_, pss_one (ps_ret (pe_ix ix_seq (pv 1) (pe_call GD hr (by rfl) mD kD bD .nil pass0 (pa_cons (pv 0) (pa_cons (pe_callB call_len_seq (by rfl) ml PySem.boot_len (pa_cons (pv 1) pa_nil)) pa_nil))) (fun _ _ => rfl))), ?_⟩
    refine ⟨_, rfl, _, rfl, _, rfl, a, xs, rfl, sq H (Kp.refl b H), b, xs.length, rfl, hB, hpos, hlen, fun d H' hd hB' kp => ?_⟩
    have g : atI xs (d : Int) = some xs[d] := atI_nat (List.getElem?_eq_getElem hd)
    have qq := q xs[d] H' (List.getElem_mem hd) hB' kp
    rcases sq H' kp with z | z
    · exact .inl ⟨a, xs, _, _, rfl, rfl, z, g, qq⟩
    · exact .inr (.inl ⟨a, xs, _, _, rfl, rfl, z, g, qq⟩)
end
end K4
namespace K4
open PySem PySem.Spec PyProof.Rows L2 GF
theorem scNear : FnScope ["_law_one", "_law_two", "_law_small", "_law_great", "_law_ahead", "_law_behind"] ["_law_one", "_law_two"] (defScope sNear) := ⟨rfl, rfl, rfl, by decide +kernel, rfl, by decide +kernel, by decide +kernel⟩
theorem scRuns : FnScope ["_law_word", "_law_k"] ["_law_word"] (defScope sRuns) := ⟨rfl, rfl, rfl, by decide +kernel, rfl, by decide +kernel, by decide +kernel⟩
section
variable {P : Program} {w : World} {K : PySem.W.Frag} {mg : Str → Option Value} {base : Heap}
def spNear : Sp := fun vs H Q _ => ∃ x y : W, vs = [.str (T x), .str (T y)] ∧ x.length ≤ 100 ∧ y.length ≤ 100 ∧ Q (.bl (Nb.near x y)) H
theorem ok_near {f : Addr} {fd : FuncData} {k : Nat} (F : Fun K "_law_near" "_law_near" sNear f fd) (ml : mg "len" = none) (mm : mg "min" = none) (mM : mg "max" = none) : FnOk P w K mg base CX0 (k + 1) f fd ["_law_one", "_law_two"] spNear := by
  refine F.ok scNear (fun vs H Q E h => ?_) (fun cdv A outer s H vs Q E hr h => ?_)
  · obtain ⟨_, _, rfl, _⟩ := h
    rfl
  · obtain ⟨x, y, rfl, hx, hy, q⟩ := h
    refine ⟨_, pss_cons (ps_par (i := 2) (j := 3) (by rfl) scNear.nd rfl rfl (by decide) rfl rfl
        (pa_cons (pe_callB (call_min2 rfl) (by rfl) mm (by decide +kernel) (pa_cons (pe_callB call_len_str (by rfl) ml PySem.boot_len (pa_cons (pv 0) pa_nil)) (pa_cons (pe_callB call_len_str (by rfl) ml PySem.boot_len (pa_cons (pv 1) pa_nil)) pa_nil)))
        (pa_cons (pe_callB (call_max2 rfl) (by rfl) mM (by decide +kernel) (pa_cons (pe_callB call_len_str (by rfl) ml PySem.boot_len (pa_cons (pv 0) pa_nil)) (pa_cons (pe_callB call_len_str (by rfl) ml PySem.boot_len (pa_cons (pv 1) pa_nil)) pa_nil))) pa_nil)) (by rfl))
      (pss_cons (ps_if (pt_cmpR op_gt (pe_op op_sub (pv 3) (pv 2)) pe_int (nomark _)) (pss_one (ps_ret pe_bl)) pss_nil)
      (pss_cons (ps_set (i := 4) scNear.nd rfl (.inl rfl) pe_int)
      (C8.pss_cut (ps_while PassesOwn.never (PW.pt (pw_and (pt_cmpR op_lt (pv 4) (pv 2) (nomark _)) (pw_and1 (pt_cmpR op_eq (pe_ix ix_str (pv 0) (pv 4) (fun _ _ => rfl)) (pe_ix ix_str (pv 1) (pv 4) (fun _ _ => rfl)) (nomark _)))))
        (pss_one (ps_set (i := 4) scNear.nd rfl (.inl rfl) (pe_op op_add (pv 4) pe_int))))
      (pss_cons (ps_set (i := 5) scNear.nd rfl (.inl rfl) pe_int)
      (C8.pss_cut (ps_while PassesOwn.never (PW.pt (pw_and (pt_cmpR op_lt (pv 5) (pe_op op_sub (pv 2) (pv 4)) (nomark _)) (pw_and1 (pt_cmpR op_eq
            (pe_ix ix_str (pv 0) (pe_op op_sub (pe_op op_sub (pe_callB call_len_str (by rfl) ml PySem.boot_len (pa_cons (pv 0) pa_nil)) pe_int) (pv 5)) (fun _ _ => rfl))
            (pe_ix ix_str (pv 1) (pe_op op_sub (pe_op op_sub (pe_callB call_len_str (by rfl) ml PySem.boot_len (pa_cons (pv 1) pa_nil)) pe_int) (pv 5)) (fun _ _ => rfl)) (nomark _)))))
        (pss_one (ps_set (i := 5) scNear.nd rfl (.inl rfl) (pe_op op_add (pv 5) pe_int))))
      (pss_one (ps_ret (pe_cmpR op_ge (pe_op op_add (pv 4) (pv 5)) (pe_op op_sub (pv 3) pe_int) (nomark _))))))))), ?_⟩
    refine ⟨_, rfl, _, rfl, hlen hx, _, rfl, _, rfl, hlen hy, _, _, rfl, _, rfl, _, rfl, hlen hx, _, rfl, _, rfl, hlen hy, _, _, rfl, ?_⟩
    rw [T_len, T_len, min_is, max_is]
    refine ⟨_, _, rfl, ?_⟩
    -- if great - small > 1
    refine ⟨_, rfl, _, rfl, _, _, rfl, rfl, _, _, rfl, rfl, _, rfl, ?_⟩
    refine ite2 (fun c0 => ?_) (fun c0 => ?_)
    · have c0' := of_decide_eq_true c0
      have e : Nb.near x y = false := by
        cases h : Nb.near x y with
        | false => rfl
        | true =>
          have := Nb.near_far h
          omega
      rw [e] at q
      exact q
    · have hd : max x.length y.length - min x.length y.length ≤ 1 := by
        have := of_decide_eq_false (Bool.eq_false_iff.mpr c0)
        omega
      -- the first while
      refine ⟨fun σ H' => H' = H ∧ ∃ a : Nat, First x y a ∧ σ = [some (.str (T x)), some (.str (T y)), some (.int ((min x.length y.length : Nat) : Int)), some (.int ((max x.length y.length : Nat) : Int)), some (.int (a : Nat)), none], ?_, ?_⟩
      · refine ⟨fun m σ H' => H' = H ∧ ∃ a : Nat, a + m = min x.length y.length ∧ (∀ i, i < a → x[i]? = y[i]?) ∧ σ = [some (.str (T x)), some (.str (T y)), some (.int ((min x.length y.length : Nat) : Int)), some (.int ((max x.length y.length : Nat) : Int)), some (.int (a : Nat)), none],
          ⟨min x.length y.length, rfl, 0, by omega, fun i hi => absurd hi (Nat.not_lt_zero _), rfl⟩, ?_⟩
        rintro m σ H' ⟨rfl, a, ham, he, rfl⟩
        refine ⟨_, rfl, _, rfl, _, _, rfl, rfl, _, rfl, ?_⟩
        refine ite2 (fun c1 => ?_) (fun c1 => ?_)
        · have c1' := of_decide_eq_true c1
          have hax : a < x.length := by omega
          have hay : a < y.length := by omega
          refine ⟨_, rfl, _, rfl, T x, _, _, rfl, rfl, hlen hx, at_T (i := a) _ rfl hax, _, rfl, _, rfl, T y, _, _, rfl, rfl, hlen hy, at_T (i := a) _ rfl hay, rfl, _, rfl, ?_⟩
          rw [one_str]
          refine ite2 (fun c2 => ?_) (fun c2 => ?_)
          · have c2' := of_decide_eq_true c2
            refine ⟨fun σ' H'' => H'' = H' ∧ σ' = [some (.str (T x)), some (.str (T y)), some (.int ((min x.length y.length : Nat) : Int)), some (.int ((max x.length y.length : Nat) : Int)), some (.int ((a + 1 : Nat) : Int)), none], fun σ' H'' z => ⟨m - 1, by omega, z.1, a + 1, by omega, fun i hi => ?_, z.2⟩, ?_⟩
            · rcases Nat.lt_succ_iff_lt_or_eq.mp hi with z | z
              · exact he i z
              · rw [z, getD_get hax, getD_get hay, c2']
            · refine ⟨_, rfl, _, _, rfl, rfl, rfl, rfl⟩
          · have c2' := of_decide_eq_false (Bool.eq_false_iff.mpr c2)
            exact ⟨rfl, a, ⟨by omega, he, .inr fun z => c2' (by rw [getD_get hax, getD_get hay] at z; exact Option.some.inj z)⟩, rfl⟩
        · have c1' := of_decide_eq_false (Bool.eq_false_iff.mpr c1)
          refine iteF ?_
          exact ⟨rfl, a, ⟨by omega, he, .inl (by omega)⟩, rfl⟩
      · rintro σ H1 ⟨rfl, a, hF, rfl⟩
        have hle := hF.le
        -- the second while
        refine ⟨fun σ H' => H' = H1 ∧ ∃ b : Nat, a + b ≤ min x.length y.length ∧ (∀ i, i < b → x[x.length - 1 - i]? = y[y.length - 1 - i]?) ∧ (a + b = min x.length y.length ∨ x[x.length - 1 - b]? ≠ y[y.length - 1 - b]?) ∧
          σ = [some (.str (T x)), some (.str (T y)), some (.int ((min x.length y.length : Nat) : Int)), some (.int ((max x.length y.length : Nat) : Int)), some (.int (a : Nat)), some (.int (b : Nat))], ?_, ?_⟩
        · refine ⟨fun m σ H' => H' = H1 ∧ ∃ b : Nat, a + b + m = min x.length y.length ∧ (∀ i, i < b → x[x.length - 1 - i]? = y[y.length - 1 - i]?) ∧ σ = [some (.str (T x)), some (.str (T y)), some (.int ((min x.length y.length : Nat) : Int)), some (.int ((max x.length y.length : Nat) : Int)), some (.int (a : Nat)), some (.int (b : Nat))],
            ⟨min x.length y.length - a, rfl, 0, by omega, fun i hi => absurd hi (Nat.not_lt_zero _), rfl⟩, ?_⟩
          rintro m σ H' ⟨rfl, b, hbm, he, rfl⟩
          refine ⟨_, rfl, _, rfl, _, rfl, _, _, rfl, rfl, _, _, rfl, rfl, _, rfl, ?_⟩
          refine ite2 (fun c1 => ?_) (fun c1 => ?_)
          · have c1' := of_decide_eq_true c1
            have hax : x.length - 1 - b < x.length := by omega
            have hay : y.length - 1 - b < y.length := by omega
            refine ⟨_, rfl, _, rfl, T x, rfl, hlen hx, _, _, rfl, rfl, _, rfl, _, _, rfl, rfl, T x, _, _, rfl, rfl, hlen hx, at_T (i := x.length - 1 - b) _ (by rw [T_len]; omega) hax, _, rfl, _, rfl, T y, rfl, hlen hy, _, _, rfl, rfl, _, rfl, _, _, rfl, rfl, T y, _, _, rfl, rfl, hlen hy, at_T (i := y.length - 1 - b) _ (by rw [T_len]; omega) hay, rfl, _, rfl, ?_⟩
            rw [one_str]
            refine ite2 (fun c2 => ?_) (fun c2 => ?_)
            · have c2' := of_decide_eq_true c2
              refine ⟨fun σ' H'' => H'' = H' ∧ σ' = [some (.str (T x)), some (.str (T y)), some (.int ((min x.length y.length : Nat) : Int)), some (.int ((max x.length y.length : Nat) : Int)), some (.int (a : Nat)), some (.int ((b + 1 : Nat) : Int))], fun σ' H'' z => ⟨m - 1, by omega, z.1, b + 1, by omega, fun i hi => ?_, z.2⟩, ?_⟩
              · rcases Nat.lt_succ_iff_lt_or_eq.mp hi with z | z
                · exact he i z
                · rw [z, getD_get hax, getD_get hay, c2']
              · refine ⟨_, rfl, _, _, rfl, rfl, rfl, rfl⟩
            · have c2' := of_decide_eq_false (Bool.eq_false_iff.mpr c2)
              exact ⟨rfl, b, by omega, he, .inr fun z => c2' (by rw [getD_get hax, getD_get hay] at z; exact Option.some.inj z), rfl⟩
          · have c1' := of_decide_eq_false (Bool.eq_false_iff.mpr c1)
            refine iteF ?_
            exact ⟨rfl, b, by omega, he, .inl (by omega), rfl⟩
        · rintro σ H2 ⟨rfl, b, hb, he, hdf, rfl⟩
          refine ⟨_, rfl, _, rfl, _, _, rfl, rfl, _, rfl, _, _, rfl, rfl, _, _, rfl, rfl, ?_⟩
          have e := Nb.near_both a x y b hF.le hF.eq hF.df hd hb he hdf
          have e2 : decide (((max x.length y.length : Nat) : Int) - 1 ≤ (a : Int) + (b : Int)) = decide (max x.length y.length - 1 ≤ a + b) := decide_eq_decide.mpr (by omega)
          show Q (.bl (decide (((max x.length y.length : Nat) : Int) - 1 ≤ (a : Int) + (b : Int)))) H2
          rw [e2, ← e]
          exact q
def spRuns : Sp := fun vs H Q _ => ∃ x : W, vs = [.str (T x)] ∧ x.length ≤ 100 ∧ x ≠ [] ∧ ∀ H', Same H H' → Q (.int ((1 + Nb.chT x (x.length - 1) : Nat) : Int)) H'
theorem ok_runs {f : Addr} {fd : FuncData} {k : Nat} (F : Fun K "_law_runs" "_law_runs" sRuns f fd) (ml : mg "len" = none) (mr : mg "range" = none) : FnOk P w K mg base CX0 (k + 1) f fd ["_law_word"] spRuns := by
  refine F.ok scRuns (fun vs H Q E h => ?_) (fun cdv A outer s H vs Q E hr h => ?_)
  · obtain ⟨_, rfl, _⟩ := h
    rfl
  · obtain ⟨x, rfl, hx, h0, q⟩ := h
    have hpos : 0 < x.length := List.length_pos_iff.mpr h0
    refine ⟨_, pss_one (ps_ret (pe_op op_add pe_int (pe_callB call_len_seq (by rfl) ml PySem.boot_len (pa_cons
      (pe_lc (own := [("_law_k", 1)]) (g := gName 1) rfl scRuns.nd (pi_range2 rfl mr (pa_cons pe_int (pa_cons (pe_callB call_len_str (by rfl) ml PySem.boot_len (pa_cons (pv 0) pa_nil)) pa_nil)))
        (blkOk_by (own := [("_law_k", 1)]) (N := ["_law_word", "_law_k"]) (sc := defScope sRuns) (by decide +kernel)) (fun _ _ _ _ _ => pg_name (i := 1) scRuns.nd rfl (Or.inl rfl))
        (fun _ _ _ _ _ => pts_one (pt_cmpR op_ne (pe_ix ix_str (pv 0) (pv 1) (fun _ _ => rfl)) (pe_ix ix_str (pv 0) (pe_op op_sub (pv 1) pe_int) (fun _ _ => rfl)) (nomark _))) (fun _ _ _ _ _ => pv 1)) pa_nil)))), ?_⟩
    refine ⟨_, rfl, T x, rfl, hlen hx, _, _, rfl, ?_⟩
    rw [T_len]
    refine ⟨⟨by decide, by decide, by omega, by omega⟩, fun D nD => lc_range (lo := 1) (n := ((x.length : Int) - 1).toNat) (fun i H' => Same H H' ∧ ∃ acc, H' D = some (.lst acc) ∧ acc.length = Nb.chT x i)
      ⟨same_new nD _, [], upd_same, rfl⟩ ?_ ?_⟩
    · rintro i H' hi ⟨sm, acc, hD, hacc⟩
      have hi1 : i + 1 < x.length := by omega
      have hch := Nb.chT_succ x i
      have hbd : Nb.chT x i ≤ i := by
        unfold Nb.chT
        refine Nat.le_trans (List.length_filter_le _ _) ?_
        rw [List.length_range]
        exact Nat.le_refl _
      refine ⟨rfl, ?_⟩
      refine ⟨_, rfl, _, rfl, T x, _, _, rfl, rfl, hlen hx, at_T (i := i + 1) _ (by omega) hi1, _, rfl, _, rfl, _, _, rfl, rfl, T x, _, _, rfl, rfl, hlen hx, at_T (i := i) _ (by omega) (by omega), rfl, _, rfl, ?_⟩
      rw [one_str]
      by_cases e : x.getD (i + 1) 0 = x.getD i 0
      · rw [decide_eq_true e]
        refine iteF ?_
        refine ⟨sm, acc, hD, ?_⟩
        rw [hch, if_neg (fun z => z e), hacc]
        rfl
      · rw [decide_eq_false e]
        refine iteT ?_
        refine ⟨_, rfl, acc, hD, small1000 (by omega), same_put nD sm _, _, upd_same, ?_⟩
        rw [hch, if_pos e, List.length_append, hacc]
        rfl
    · rintro H' ⟨sm, acc, hD, hacc⟩
      refine ⟨D, acc, rfl, .inl (SqL.of hD), _, _, rfl, rfl, ?_⟩
      have e : ((1 : Int) + (acc.length : Int)) = ((1 + Nb.chT x (x.length - 1) : Nat) : Int) := by
        rw [hacc, show ((x.length : Int) - 1).toNat = x.length - 1 by omega]
        omega
      show Q (.int ((1 : Int) + (acc.length : Int))) H'
      rw [e]
      exact q H' sm
end
end K4
namespace K4
open PySem PySem.Spec PyProof.Rows L2 GF
theorem scStr : FnScope ["_law_bag_here", "_law_size", "_law_word", "_law_pool", "_law_k"] ["_law_bag_here", "_law_size"] (defScope sStr) := ⟨rfl, rfl, rfl, by decide +kernel, rfl, by decide +kernel, by decide +kernel⟩
theorem scHurt : FnScope ["_law_bag_here", "_law_word", "_law_spot", "_law_pick"] ["_law_bag_here", "_law_word"] (defScope sHurt) := ⟨rfl, rfl, rfl, by decide +kernel, rfl, by decide +kernel, by decide +kernel⟩
/-- a pool -/
def Pool (v : V) : Prop := ∃ s : W, v = .str (T s) ∧ Nb.Ltr s ∧ s ≠ [] ∧ s.length ≤ 1000
theorem pool_of (x : Str) (s : W) (e : x = T s) (h : s.all (fun c => Nb.ltrs.contains c) = true) (h0 : s ≠ []) (h1 : s.length ≤ 1000) : Pool (.str x) := by
  refine ⟨s, by rw [e], fun c hc => ?_, h0, h1⟩
  have := List.all_eq_true.mp h c hc
  simpa using this
theorem pools {v : V} (h : v ∈ [V.str ("acgt" : Str), .str ("acgt" : Str), .str ("acgt" : Str), .str ("cg" : Str), .str ("at" : Str), .str ("gt" : Str), .str ("tca" : Str)]) : Pool v := by
  have p1 : Pool (.str ("acgt" : Str)) := pool_of _ [97, 99, 103, 116] (by decide +kernel) (by decide) (by decide) (by decide)
  have p2 : Pool (.str ("cg" : Str)) := pool_of _ [99, 103] (by decide +kernel) (by decide) (by decide) (by decide)
  have p3 : Pool (.str ("at" : Str)) := pool_of _ [97, 116] (by decide +kernel) (by decide) (by decide) (by decide)
  have p4 : Pool (.str ("gt" : Str)) := pool_of _ [103, 116] (by decide +kernel) (by decide) (by decide) (by decide)
  have p5 : Pool (.str ("tca" : Str)) := pool_of _ [116, 99, 97] (by decide +kernel) (by decide) (by decide) (by decide)
  simp only [List.mem_cons, List.not_mem_nil, or_false] at h
  rcases h with rfl | rfl | rfl | rfl | rfl | rfl | rfl
  · exact p1
  · exact p1
  · exact p1
  · exact p2
  · exact p3
  · exact p4
  · exact p5
theorem BagAt.has {H : Hp} {b : Addr} (h : BagAt H b) : ∃ o, H b = some o := by
  obtain ⟨c, cells, k, g, s, d, h⟩ := h
  exact ⟨_, h.ob⟩
section
variable {P : Program} {w : World} {K : PySem.W.Frag} {mg : Str → Option Value} {base : Heap}
def spStr : Sp := fun vs H Q _ => ∃ (b : Addr) (n : Nat), vs = [.ref b, .int (n : Nat)] ∧ BagAt H b ∧ n ≤ 60 ∧ ∀ s H', Nb.Ltr s → s.length = n → BagAt H' b → Kp b H H' → Q (.str (T s)) H'
theorem ok_str {f fD fO : Addr} {fd fdD fdO : FuncData} {k : Nat} (F : Fun K "_law_string" "_law_string" sStr f fd) (ml : mg "len" = none) (mr : mg "range" = none)
    (GD : FnOk P w K mg base CX0 (k + 1) fD fdD ["_law_bag_here", "_law_size"] spDraw) (kD : PySem.W.keepIn K (.ref fD) = true) (mD : mg "_law_draw" = some (.ref fD)) (bD : Binds K fdD ["_law_bag_here", "_law_size"] [])
    (GOS : FnOk P w K mg base CX0 (k + 2) fO fdO ["_law_bag_here", "_law_things"] spOfS) (GOL : FnOk P w K mg base CX0 (k + 2) fO fdO ["_law_bag_here", "_law_things"] (spOfL K)) (kO : PySem.W.keepIn K (.ref fO) = true) (mO : mg "_law_of" = some (.ref fO)) (bO : Binds K fdO ["_law_bag_here", "_law_things"] []) :
    FnOk P w K mg base CX0 (k + 3) f fd ["_law_bag_here", "_law_size"] spStr := by
  refine F.ok scStr (fun vs H Q E h => ?_) (fun cdv A outer s H vs Q E hr h => ?_)
  · obtain ⟨_, _, rfl, _⟩ := h
    rfl
  · obtain ⟨b, n, rfl, hB, hn, q⟩ := h
    refine ⟨_, pss_cons (ps_set (i := 2) scStr.nd rfl (.inl rfl) pe_str)
      (pss_cons (ps_set (i := 3) scStr.nd rfl (.inl rfl) (pe_call GOL hr (by rfl) mO kO bO .nil pass0 (pa_cons (pv 0) (pa_cons (pe_lst (pa_cons pe_str (pa_cons pe_str (pa_cons pe_str (pa_cons pe_str (pa_cons pe_str (pa_cons pe_str (pa_cons pe_str pa_nil)))))))) pa_nil))))
      (pss_cons (ps_for PassesOwn.never rfl (pi_range1 rfl mr (pa_cons (pv 1) pa_nil)) (pg_name (i := 4) scStr.nd rfl (.inl rfl))
        (pss_one (ps_if (PW.pt (pw_and (pt_cmpR op_ne (pv 2) pe_str (nomark _)) (pw_and1 (pt_cmpR op_eq (pe_call GD (hr.mono (by omega)) (by rfl) mD kD bD .nil pass0 (pa_cons (pv 0) (pa_cons pe_int pa_nil))) pe_int (nomark _)))))
          (pss_one (ps_set (i := 2) scStr.nd rfl (.inl rfl) (pe_op op_add_str (pv 2) (pe_ix ix_str (pv 2) (pe_op op_sub (pe_callB call_len_str (by rfl) ml PySem.boot_len (pa_cons (pv 2) pa_nil)) pe_int) (fun _ _ => rfl)))))
          (pss_one (ps_set (i := 2) scStr.nd rfl (.inl rfl) (pe_op op_add_str (pv 2) (pe_call GOS hr (by rfl) mO kO bO .nil pass0 (pa_cons (pv 0) (pa_cons (pv 3) pa_nil)))))))))
      (pss_one (ps_ret (pv 2))))), ?_⟩
    -- the pool
    refine ⟨_, rfl, by show 7 ≤ sizeLine; decide, fun l nl => ?_⟩
    have s1 : Same H (upd H l (.lst [V.str ("acgt" : Str), .str ("acgt" : Str), .str ("acgt" : Str), .str ("cg" : Str), .str ("at" : Str), .str ("gt" : Str), .str ("tca" : Str)])) := same_new nl _
    have nlb : l ≠ b := fun z => by
      obtain ⟨o, e⟩ := hB.has
      rw [z, e] at nl
      cases nl
    refine ⟨b, l, _, rfl, hB.same s1, .inl upd_same, nlb, by simp, by show 7 ≤ 1000; decide, fun v H1 hv hB1 kp1 => ?_⟩
    obtain ⟨t, rfl, tL, t0, tl⟩ := pools hv
    have kp0 := (Same.kp (b := b) s1).trans kp1
    -- the loop
    refine ⟨_, rfl, _, rfl, by omega, by omega, for_range (fun i σ H' => Kp b H H' ∧ BagAt H' b ∧ ∃ wd z, Nb.Ltr wd ∧ wd.length = i ∧ σ = [some (.ref b), some (.int (n : Nat)), some (.str (T wd)), some (.str (T t)), z])
      ⟨kp0, hB1, [], none, (fun _ h => by cases h), rfl, by rw [← lit_nil]; rfl⟩ ?_ ?_⟩
    · rintro i σ H2 hi ⟨kp2, hB2, wd, z, hL, hwl, rfl⟩
      have hi' : i < n := by omega
      have hs : (T wd).length ≤ sizeLine := by rw [T_len]; exact small (by omega)
      -- one sign more, out of the pool
      have more : ∀ (H3 : Hp) (D : Ends), Kp b H H3 → BagAt H3 b → (∀ (wd' : W) H4, Kp b H H4 → BagAt H4 b → Nb.Ltr wd' → wd'.length = i + 1 → D.nx [some (.ref b), some (.int (n : Nat)), some (.str (T wd')), some (.str (T t)), some (.int ((0 : Int) + (i : Nat)))] H4) →
          tAsg (tOp (fun x y H Q => ∃ i j, x = V.str i ∧ y = V.str j ∧ i.length + j.length ≤ sizeLine ∧ Q (V.str (i ++ j)) H) (tVar 2) (tCall spOfS [] E0 (tCons (tVar 0) (tCons (tVar 3) tNil)))) (gName 2) D [some (.ref b), some (.int (n : Nat)), some (.str (T wd)), some (.str (T t)), some (.int ((0 : Int) + (i : Nat)))] H3 := fun H3 D kp3 hB3 hD => by
        refine ⟨_, rfl, _, rfl, _, rfl, b, t, rfl, hB3, t0, tl, fun c H4 hc hB4 kp4 => ⟨T wd, T [c], rfl, rfl, ?_, ?_⟩⟩
        · rw [T_len, T_len]; exact small (by simp; omega)
        · rw [T_app]
          exact hD (wd ++ [c]) H4 (kp3.trans kp4) hB4 (Nb.ltr_app.mpr ⟨hL, fun x hx => by rw [List.mem_singleton.mp hx]; exact tL c hc⟩) (by rw [List.length_append, hwl]; rfl)
      refine ⟨_, rfl, rfl, _, rfl, ?_⟩
      refine ite2 (fun c1 => ?_) (fun c1 => ?_)
      · have hne : wd ≠ [] := fun z => by
          rw [z, ← lit_nil] at c1
          simp at c1
        have hpos : 0 < wd.length := List.length_pos_iff.mpr hne
        refine ⟨_, rfl, b, 4, rfl, hB2, by decide, by decide, fun d H3 hd hB3 kp3 => ⟨rfl, _, rfl, ?_⟩⟩
        refine ite2 (fun c2 => ?_) (fun c2 => ?_)
        · refine ⟨_, rfl, _, rfl, _, rfl, T wd, rfl, hs, _, _, rfl, rfl, T wd, _, _, rfl, rfl, hs, at_T (i := wd.length - 1) _ (by rw [T_len]; omega) (by omega), T wd, T [wd.getD (wd.length - 1) 0], rfl, rfl, ?_, ?_⟩
          · rw [T_len, T_len]; exact small (by simp; omega)
          · rw [T_app]
            refine ⟨kp2.trans kp3, hB3, _, _, Nb.ltr_app.mpr ⟨hL, fun x hx => ?_⟩, ?_, rfl⟩
            · rw [List.mem_singleton.mp hx]
              have e : wd.getD (wd.length - 1) 0 = wd[wd.length - 1] := by simp [show wd.length - 1 < wd.length by omega]
              rw [e]
              exact hL _ (List.getElem_mem _)
            · rw [List.length_append, hwl]; rfl
        · exact more H3 _ (kp2.trans kp3) hB3 fun wd' H4 k4 b4 l4 e4 => ⟨k4, b4, wd', _, l4, e4, rfl⟩
      · refine iteF ?_
        exact more H2 _ kp2 hB2 fun wd' H4 k4 b4 l4 e4 => ⟨k4, b4, wd', _, l4, e4, rfl⟩
    · rintro σ H2 ⟨kp2, hB2, wd, z, hL, hwl, rfl⟩
      exact ⟨_, rfl, q wd H2 hL (by rw [hwl]; exact Int.toNat_natCast n) hB2 kp2⟩
def spHurt : Sp := fun vs H Q _ => ∃ (b : Addr) (s : W), vs = [.ref b, .str (T s)] ∧ BagAt H b ∧ s ≠ [] ∧ s.length ≤ 80 ∧ Nb.Ltr s ∧ ∀ s' H', Nb.Ltr s' → s' ≠ [] → s'.length ≤ s.length + 1 → BagAt H' b → Kp b H H' → Q (.str (T s')) H'
theorem ok_hurt {f fD fO : Addr} {fd fdD fdO : FuncData} {k : Nat} (F : Fun K "_law_hurt" "_law_hurt" sHurt f fd) (ml : mg "len" = none)
    (GD : FnOk P w K mg base CX0 (k + 1) fD fdD ["_law_bag_here", "_law_size"] spDraw) (kD : PySem.W.keepIn K (.ref fD) = true) (mD : mg "_law_draw" = some (.ref fD)) (bD : Binds K fdD ["_law_bag_here", "_law_size"] [])
    (GOS : FnOk P w K mg base CX0 (k + 2) fO fdO ["_law_bag_here", "_law_things"] spOfS) (kO : PySem.W.keepIn K (.ref fO) = true) (mO : mg "_law_of" = some (.ref fO)) (bO : Binds K fdO ["_law_bag_here", "_law_things"] []) :
    FnOk P w K mg base CX0 (k + 3) f fd ["_law_bag_here", "_law_word"] spHurt := by
  refine F.ok scHurt (fun vs H Q E h => ?_) (fun cdv A outer s H vs Q E hr h => ?_)
  · obtain ⟨_, _, rfl, _⟩ := h
    rfl
  · obtain ⟨b, s, rfl, hB, h0, hl, hL, q⟩ := h
    have hs : (T s).length ≤ sizeLine := by rw [T_len]; exact small (by omega)
    refine ⟨_, pss_cons (ps_set (i := 2) scHurt.nd rfl (.inl rfl) (pe_call GD (hr.mono (by omega)) (by rfl) mD kD bD .nil pass0 (pa_cons (pv 0) (pa_cons (pe_op op_add (pe_callB call_len_str (by rfl) ml PySem.boot_len (pa_cons (pv 1) pa_nil)) pe_int) pa_nil))))
      (pss_cons (ps_set (i := 3) scHurt.nd rfl (.inl rfl) (pe_call GD (hr.mono (by omega)) (by rfl) mD kD bD .nil pass0 (pa_cons (pv 0) (pa_cons pe_int pa_nil))))
      (pss_cons (ps_if (pt_cmpR op_eq (pv 3) pe_int (nomark _))
        (pss_one (ps_ret (pe_op op_add_str (pe_op op_add_str (pe_slice sl_str (pv 1) po_none (po_some (pv 2))) (pe_call GOS hr (by rfl) mO kO bO .nil pass0 (pa_cons (pv 0) (pa_cons pe_str pa_nil)))) (pe_slice sl_str (pv 1) (po_some (pv 2)) po_none)))) pss_nil)
      (pss_cons (ps_if (PW.pt (pw_and (pt_cmpR op_eq (pv 3) pe_int (nomark _)) (pw_and1 (pt_cmpR op_gt (pe_callB call_len_str (by rfl) ml PySem.boot_len (pa_cons (pv 1) pa_nil)) pe_int (nomark _)))))
        (pss_one (ps_ret (pe_op op_add_str (pe_slice sl_str (pv 1) po_none (po_some (pv 2))) (pe_slice sl_str (pv 1) (po_some (pe_op op_add (pv 2) pe_int)) po_none)))) pss_nil)
      (pss_one (ps_ret (pe_op op_add_str (pe_op op_add_str (pe_slice sl_str (pv 1) po_none (po_some (pv 2))) (pe_call GOS hr (by rfl) mO kO bO .nil pass0 (pa_cons (pv 0) (pa_cons pe_str pa_nil)))) (pe_slice sl_str (pv 1) (po_some (pe_op op_add (pv 2) pe_int)) po_none))))))), ?_⟩
    -- the spot, the pick
    refine ⟨_, rfl, _, rfl, T s, rfl, hs, _, _, rfl, rfl, b, s.length + 1, by rw [T_len]; rfl, hB, by omega, by omega, fun d H1 hd hB1 kp1 => ?_⟩
    refine ⟨_, rfl, b, 3, rfl, hB1, by decide, by decide, fun pk H2 hpk hB2 kp2 => ?_⟩
    have kp := kp1.trans kp2
    have tl : Nb.Ltr (s.take d) := fun x hx => hL x (List.mem_of_mem_take hx)
    have dl : ∀ j, Nb.Ltr (s.drop j) := fun j x hx => hL x (List.mem_of_mem_drop hx)
    have pl : Nb.ltrs.length ≤ 1000 := by decide
    -- a letter between two parts
    have put : ∀ (j : Nat) (c : Nat) (H3 : Hp), c ∈ Nb.ltrs → (j = d ∨ j = d + 1) → BagAt H3 b → Kp b H2 H3 → Q (.str (T (s.take d ++ [c] ++ s.drop j))) H3 := fun j c H3 hc hj hB3 kp3 => by
      refine q _ H3 (Nb.ltr_app.mpr ⟨Nb.ltr_app.mpr ⟨tl, fun x hx => by rw [List.mem_singleton.mp hx]; exact hc⟩, dl j⟩) (by simp) ?_ hB3 (kp.trans kp3)
      rw [List.length_append, List.length_append, List.length_take, List.length_drop, List.length_singleton]
      omega
    refine ⟨_, rfl, rfl, _, rfl, ?_⟩
    refine ite2 (fun c1 => ?_) (fun c1 => ?_)
    · refine ⟨_, rfl, _, rfl, _, rfl, T s, rfl, hs, _, rfl, b, Nb.ltrs, by rw [← lit_acgt]; rfl, hB2, by decide, pl, fun c H3 hc hB3 kp3 => ?_⟩
      rw [cut_to s d _ rfl]
      refine ⟨_, _, rfl, rfl, ?_, _, rfl, _, rfl, _, rfl, T s, rfl, hs, T (s.take d ++ [c]), T (s.drop d), by rw [T_app], by rw [cut_from s d _ rfl], ?_, ?_⟩
      · rw [T_len, T_len, List.length_take, List.length_singleton]; exact small (by omega)
      · rw [T_len, T_len, List.length_append, List.length_take, List.length_drop, List.length_singleton]; exact small (by omega)
      · rw [T_app]
        exact put d c H3 hc (.inl rfl) hB3 kp3
    · refine ⟨_, rfl, rfl, _, rfl, ?_⟩
      by_cases c2 : V.int (pk : Int) = V.int 1 ∧ 1 < s.length
      · rw [decide_eq_true c2.1]
        refine iteT ?_
        refine ⟨_, rfl, T s, rfl, hs, _, _, rfl, rfl, _, rfl, ?_⟩
        rw [decide_eq_true (show (1 : Int) < ((T s).length : Int) by rw [T_len]; omega)]
        refine iteT ?_
        refine ⟨_, rfl, _, rfl, _, rfl, T s, rfl, hs, _, rfl, _, rfl, _, _, rfl, rfl, _, rfl, T s, rfl, hs, T (s.take d), T (s.drop (d + 1)), by rw [cut_to s d _ rfl], by rw [cut_from s (d + 1) _ (by omega)], ?_, ?_⟩
        · rw [T_len, T_len, List.length_take, List.length_drop]; exact small (by omega)
        · rw [T_app]
          refine q _ H2 (Nb.ltr_app.mpr ⟨tl, dl _⟩) (fun z => ?_) ?_ hB2 kp
          · have := congrArg List.length z
            rw [List.length_append, List.length_take, List.length_drop, List.length_nil] at this
            omega
          · rw [List.length_append, List.length_take, List.length_drop]; omega
      · by_cases pk1 : V.int (pk : Int) = V.int 1
        · rw [decide_eq_true pk1]
          refine iteT ?_
          refine ⟨_, rfl, T s, rfl, hs, _, _, rfl, rfl, _, rfl, ?_⟩
          rw [decide_eq_false (show ¬ (1 : Int) < ((T s).length : Int) from fun z => c2 ⟨pk1, by rw [T_len] at z; omega⟩)]
          refine iteF ?_
          refine ⟨_, rfl, _, rfl, _, rfl, T s, rfl, hs, _, rfl, b, Nb.ltrs, by rw [← lit_acgt]; rfl, hB2, by decide, pl, fun c H3 hc hB3 kp3 => ?_⟩
          rw [cut_to s d _ rfl]
          refine ⟨_, _, rfl, rfl, ?_, _, rfl, _, rfl, _, _, rfl, rfl, _, rfl, T s, rfl, hs, T (s.take d ++ [c]), T (s.drop (d + 1)), by rw [T_app], by rw [cut_from s (d + 1) _ (by omega)], ?_, ?_⟩
          · rw [T_len, T_len, List.length_take, List.length_singleton]; exact small (by omega)
          · rw [T_len, T_len, List.length_append, List.length_take, List.length_drop, List.length_singleton]; exact small (by omega)
          · rw [T_app]
            exact put (d + 1) c H3 hc (.inr rfl) hB3 kp3
        · rw [decide_eq_false pk1]
          refine iteF ?_
          refine iteF ?_
          refine ⟨_, rfl, _, rfl, _, rfl, T s, rfl, hs, _, rfl, b, Nb.ltrs, by rw [← lit_acgt]; rfl, hB2, by decide, pl, fun c H3 hc hB3 kp3 => ?_⟩
          rw [cut_to s d _ rfl]
          refine ⟨_, _, rfl, rfl, ?_, _, rfl, _, rfl, _, _, rfl, rfl, _, rfl, T s, rfl, hs, T (s.take d ++ [c]), T (s.drop (d + 1)), by rw [T_app], by rw [cut_from s (d + 1) _ (by omega)], ?_, ?_⟩
          · rw [T_len, T_len, List.length_take, List.length_singleton]; exact small (by omega)
          · rw [T_len, T_len, List.length_append, List.length_take, List.length_drop, List.length_singleton]; exact small (by omega)
          · rw [T_app]
            exact put (d + 1) c H3 hc (.inr rfl) hB3 kp3
end
end K4
namespace K4
open PySem PySem.Spec PyProof.Rows L2 GF
theorem scLike : FnScope ["_law_told", "_law_due", "_law_a", "_law_b"] ["_law_told", "_law_due"] (defScope sLike) := ⟨rfl, rfl, rfl, by decide +kernel, rfl, by decide +kernel, by decide +kernel⟩
/-- a flag or a text -/
def Leaf (v : V) : Prop := (∃ b, v = .bl b) ∨ ∃ s, v = .str s
structure LeafTy (K : PySem.W.Frag) (v : V) (tn : String) : Prop where
  ty : ∀ H, TyX K H v (.type tn)
  l : kitB tn "list" = some false
  t : kitB tn "tuple" = some false
  d : kitB tn "dict" = some false
  b : ∃ r, kitB tn "bool" = some r
  s : ∃ r, kitB tn "str" = some r
  i : ∃ r, kitB tn "int" = some r
  sc : scal v v = true
  nn : v ≠ .non
theorem leaf_ty {K : PySem.W.Frag} {v : V} (h : Leaf v) : ∃ tn, LeafTy K v tn := by
  rcases h with ⟨b, rfl⟩ | ⟨s, rfl⟩
  · exact ⟨"bool", fun H => .base (.bl b), by decide +kernel, by decide +kernel, by decide +kernel, ⟨true, by decide +kernel⟩, ⟨false, by decide +kernel⟩, ⟨true, by decide +kernel⟩, rfl, fun z => nomatch z⟩
  · exact ⟨"str", fun H => .base (.str s), by decide +kernel, by decide +kernel, by decide +kernel, ⟨false, by decide +kernel⟩, ⟨true, by decide +kernel⟩, ⟨false, by decide +kernel⟩, rfl, fun z => nomatch z⟩
section
variable {P : Program} {w : World} {K : PySem.W.Frag} {mg : Str → Option Value} {base : Heap}
/-- the built-ins' names are the built-ins -/
structure Names (mg : Str → Option Value) : Prop where
  isi : mg "isinstance" = none
  li : mg "list" = none
  tu : mg "tuple" = none
  di : mg "dict" = none
  bo : mg "bool" = none
  st : mg "str" = none
  it : mg "int" = none
  len : mg "len" = none
  all : mg "all" = none
  zip : mg "zip" = none
def spLeaf : Sp := fun vs H Q _ => ∃ v, vs = [v, v] ∧ Leaf v ∧ ∀ H', Same H H' → Q (.bl true) H'
theorem ok_leaf {f : Addr} {fd : FuncData} {k : Nat} (F : Fun K "_law_like" "_law_like" sLike f fd) (N : Names mg) : FnOk P w K mg base CX0 (k + 1) f fd ["_law_told", "_law_due"] spLeaf := by
  refine F.ok scLike (fun vs H Q E h => ?_) (fun cdv A outer s H vs Q E hr h => ?_)
  · obtain ⟨_, rfl, _⟩ := h
    rfl
  · obtain ⟨v, rfl, hv, q⟩ := h
    obtain ⟨tn, L⟩ := leaf_ty (K := K) hv
    refine ⟨_, pss_cons (ps_if (pt_val (pe_callB call_isiT (by rfl) N.isi (by decide +kernel) (pa_cons (pv 1) (pa_cons (pe_tup (pa_cons (pe_bltn (v := .ty "list") (by rfl) N.li PyProof.Rows.boot_list rfl) (pa_cons (pe_bltn (v := .ty "tuple") (by rfl) N.tu PyProof.Rows.boot_tuple rfl) pa_nil))) pa_nil)))) pss_never pss_nil)
      (pss_cons (ps_if (PW.pt (pw_or (pt_val (pe_callB call_isi (by rfl) N.isi (by decide +kernel) (pa_cons (pv 1) (pa_cons (pe_bltn (v := .ty "dict") (by rfl) N.di PyProof.Rows.boot_dict rfl) pa_nil))))
          (pw_or1 (pt_val (pe_callB call_isi (by rfl) N.isi (by decide +kernel) (pa_cons (pv 0) (pa_cons (pe_bltn (v := .ty "dict") (by rfl) N.di PyProof.Rows.boot_dict rfl) pa_nil))))))) pss_never pss_nil)
      (pss_cons (ps_if (PW.pt (pw_or (pt_cmpR op_isN (pv 1) pe_non (nomark _)) (pw_or1 (pt_cmpR op_isN (pv 0) pe_non (nomark _))))) pss_never pss_nil)
      (pss_cons (ps_if (PW.pt (pw_or (pt_val (pe_callB call_isiT (by rfl) N.isi (by decide +kernel) (pa_cons (pv 0) (pa_cons (pe_tup (pa_cons (pe_bltn (v := .ty "list") (by rfl) N.li PyProof.Rows.boot_list rfl) (pa_cons (pe_bltn (v := .ty "tuple") (by rfl) N.tu PyProof.Rows.boot_tuple rfl) pa_nil))) pa_nil))))
          (pw_or1 (pt_cmpR op_ne (pe_callB call_isi (by rfl) N.isi (by decide +kernel) (pa_cons (pv 0) (pa_cons (pe_bltn (v := .ty "bool") (by rfl) N.bo PyProof.Rows.boot_bool rfl) pa_nil))) (pe_callB call_isi (by rfl) N.isi (by decide +kernel) (pa_cons (pv 1) (pa_cons (pe_bltn (v := .ty "bool") (by rfl) N.bo PyProof.Rows.boot_bool rfl) pa_nil))) (nomark _))))) pss_never pss_nil)
      (pss_cons (ps_if (PW.pt (pw_or (pt_cmpR op_ne (pe_callB call_isi (by rfl) N.isi (by decide +kernel) (pa_cons (pv 0) (pa_cons (pe_bltn (v := .ty "str") (by rfl) N.st PyProof.Rows.boot_str rfl) pa_nil))) (pe_callB call_isi (by rfl) N.isi (by decide +kernel) (pa_cons (pv 1) (pa_cons (pe_bltn (v := .ty "str") (by rfl) N.st PyProof.Rows.boot_str rfl) pa_nil))) (nomark _))
          (pw_or1 (pt_cmpR op_ne (pe_callB call_isi (by rfl) N.isi (by decide +kernel) (pa_cons (pv 0) (pa_cons (pe_bltn (v := .ty "int") (by rfl) N.it PyProof.Rows.boot_int rfl) pa_nil))) (pe_callB call_isi (by rfl) N.isi (by decide +kernel) (pa_cons (pv 1) (pa_cons (pe_bltn (v := .ty "int") (by rfl) N.it PyProof.Rows.boot_int rfl) pa_nil))) (nomark _))))) pss_never pss_nil)
      (pss_one (ps_ret (pe_cmpR op_eq (pv 0) (pv 1) (nomark _)))))))), ?_⟩
    have eT : PySem.W.kitAny K (.type tn) [.type "list", .type "tuple"] = some false := kitAny_cons (kit_ty L.l) (fun _ => kitAny_cons (kit_ty L.t) (fun _ => kitAny_nil) (fun z => by cases z)) (fun z => by cases z)
    obtain ⟨rb, eb⟩ := L.b
    obtain ⟨rs, es⟩ := L.s
    obtain ⟨ri, ei⟩ := L.i
    have nn : decide (v = V.non) = false := decide_eq_false L.nn
    have dd : ∀ r : Bool, (!decide (V.bl r = V.bl r)) = false := fun r => by simp
    -- isinstance(due, (list, tuple))
    refine ⟨_, rfl, by show 2 ≤ sizeLine; decide, fun t nt => ⟨v, t, _, _, [.type "list", .type "tuple"], false, rfl, upd_same, .cons (.ty "list") (.cons (.ty "tuple") .nil), L.ty _, eT, _, rfl, iteF ?_⟩⟩
    -- dict
    refine ⟨_, rfl, v, .ty "dict", _, _, false, rfl, .ty "dict", L.ty _, kit_ty L.d, _, rfl, iteF ?_⟩
    refine ⟨_, rfl, v, .ty "dict", _, _, false, rfl, .ty "dict", L.ty _, kit_ty L.d, _, rfl, iteF ?_⟩
    -- None
    refine ⟨_, rfl, rfl, _, rfl, ?_⟩
    rw [nn]
    refine iteF ⟨_, rfl, rfl, _, rfl, ?_⟩
    rw [nn]
    refine iteF ?_
    -- list, tuple; bool
    refine ⟨_, rfl, by show 2 ≤ sizeLine; decide, fun t2 nt2 => ⟨v, t2, _, _, [.type "list", .type "tuple"], false, rfl, upd_same, .cons (.ty "list") (.cons (.ty "tuple") .nil), L.ty _, eT, _, rfl, iteF ?_⟩⟩
    refine ⟨_, rfl, v, .ty "bool", _, _, rb, rfl, .ty "bool", L.ty _, kit_ty eb, _, rfl, v, .ty "bool", _, _, rb, rfl, .ty "bool", L.ty _, kit_ty eb, rfl, _, rfl, ?_⟩
    rw [dd]
    refine iteF ?_
    -- str, int
    refine ⟨_, rfl, v, .ty "str", _, _, rs, rfl, .ty "str", L.ty _, kit_ty es, _, rfl, v, .ty "str", _, _, rs, rfl, .ty "str", L.ty _, kit_ty es, rfl, _, rfl, ?_⟩
    rw [dd]
    refine iteF ?_
    refine ⟨_, rfl, v, .ty "int", _, _, ri, rfl, .ty "int", L.ty _, kit_ty ei, _, rfl, v, .ty "int", _, _, ri, rfl, .ty "int", L.ty _, kit_ty ei, rfl, _, rfl, ?_⟩
    rw [dd]
    refine iteF ?_
    refine ⟨_, rfl, _, rfl, L.sc, ?_⟩
    rw [decide_eq_true rfl]
    exact q _ ((same_new nt _).trans (same_new nt2 _))
def spLike : Sp := fun vs H Q _ => ∃ (a b : Addr) (xs : List V), vs = [.ref a, .ref b] ∧ H a = some (.lst xs) ∧ H b = some (.lst xs) ∧ (∀ v ∈ xs, Leaf v) ∧ xs.length ≤ 1000 ∧ ∀ H', Same H H' → Q (.bl true) H'
theorem ok_like {f : Addr} {fd : FuncData} {k : Nat} (F : Fun K "_law_like" "_law_like" sLike f fd) (N : Names mg) (mL : mg "_law_like" = some (.ref f)) (bL : Binds K fd ["_law_told", "_law_due"] []) : FnOk P w K mg base CX0 (k + 2) f fd ["_law_told", "_law_due"] spLike := by
  have GL : FnOk P w K mg base CX0 (k + 1) f fd ["_law_told", "_law_due"] spLeaf := ok_leaf F N
  refine F.ok scLike (fun vs H Q E h => ?_) (fun cdv A outer s H vs Q E hr h => ?_)
  · obtain ⟨_, _, _, rfl, _⟩ := h
    rfl
  · obtain ⟨a, b, xs, rfl, hA, hB, hv, hl, q⟩ := h
    refine ⟨_, pss_cons (ps_if (pt_val (pe_callB call_isiT (by rfl) N.isi (by decide +kernel) (pa_cons (pv 1) (pa_cons (pe_tup (pa_cons (pe_bltn (v := .ty "list") (by rfl) N.li PyProof.Rows.boot_list rfl) (pa_cons (pe_bltn (v := .ty "tuple") (by rfl) N.tu PyProof.Rows.boot_tuple rfl) pa_nil))) pa_nil))))
        (pss_cons (ps_if (PW.pt (pw_or (pt_cmpR op_ne (pe_callB call_isi (by rfl) N.isi (by decide +kernel) (pa_cons (pv 0) (pa_cons (pe_bltn (v := .ty "list") (by rfl) N.li PyProof.Rows.boot_list rfl) pa_nil))) (pe_callB call_isi (by rfl) N.isi (by decide +kernel) (pa_cons (pv 1) (pa_cons (pe_bltn (v := .ty "list") (by rfl) N.li PyProof.Rows.boot_list rfl) pa_nil))) (nomark _))
          (pw_or1 (pt_cmpR op_ne (pe_callB call_isi (by rfl) N.isi (by decide +kernel) (pa_cons (pv 0) (pa_cons (pe_bltn (v := .ty "tuple") (by rfl) N.tu PyProof.Rows.boot_tuple rfl) pa_nil))) (pe_callB call_isi (by rfl) N.isi (by decide +kernel) (pa_cons (pv 1) (pa_cons (pe_bltn (v := .ty "tuple") (by rfl) N.tu PyProof.Rows.boot_tuple rfl) pa_nil))) (nomark _))))) pss_never pss_nil)
        (pss_one (ps_ret (pe_and (pe_cmpR op_eq (pe_callB call_len_seq (by rfl) N.len PySem.boot_len (pa_cons (pv 0) pa_nil)) (pe_callB call_len_seq (by rfl) N.len PySem.boot_len (pa_cons (pv 1) pa_nil)) (nomark _))
          (pe_one (pe_callB (cr_all rfl) (by rfl) N.all (by decide +kernel) (pa_cons
            (pe_lc (own := [("_law_a", 2), ("_law_b", 3)]) (g := gTup K 2 (gCons (gName 2) (gCons (gName 3) gNil))) (tt := tYes) rfl scLike.nd (pi_zip (by rfl) N.zip (pa_cons (pv 0) (pa_cons (pv 1) pa_nil)))
              (blkOk_by (own := [("_law_a", 2), ("_law_b", 3)]) (N := ["_law_told", "_law_due", "_law_a", "_law_b"]) (sc := defScope sLike) (by decide +kernel))
              (fun _ _ _ _ _ => pg_tup rfl (pgs_cons (pg_name (i := 2) scLike.nd rfl (.inl rfl)) (pgs_cons (pg_name (i := 3) scLike.nd rfl (.inl rfl)) pgs_nil)))
              (fun _ _ _ _ _ => pts_nil) (fun _ _ _ _ _ => pe_call GL hr (by rfl) mL F.kp bL .nil pass0 (pa_cons (pv 2) (pa_cons (pv 3) pa_nil)))) pa_nil))))))) pss_nil)
      pss_never, ?_⟩
    have tyL : ∀ {H' : Hp} {p : Addr}, H' p = some (.lst xs) → TyX K H' (.ref p) (.type "list") := fun e => .base (.lst e)
    have kLL : kitB "list" "list" = some true := by decide +kernel
    have kLT : kitB "list" "tuple" = some false := by decide +kernel
    have eT : PySem.W.kitAny K (.type "list") [.type "list", .type "tuple"] = some true := kitAny_cons (kit_ty kLL) (fun z => by cases z) (fun _ => rfl)
    have dd : ∀ r : Bool, (!decide (V.bl r = V.bl r)) = false := fun r => by simp
    refine ⟨_, rfl, by show 2 ≤ sizeLine; decide, fun t nt => ?_⟩
    have s1 : Same H (upd H t (.tup [.ty "list", .ty "tuple"])) := same_new nt _
    have hA1 := s1 _ _ hA
    have hB1 := s1 _ _ hB
    refine ⟨.ref b, t, _, _, [.type "list", .type "tuple"], true, rfl, upd_same, .cons (.ty "list") (.cons (.ty "tuple") .nil), tyL hB1, eT, _, rfl, iteT ?_⟩
    refine ⟨_, rfl, .ref a, .ty "list", _, _, true, rfl, .ty "list", tyL hA1, kit_ty kLL, _, rfl, .ref b, .ty "list", _, _, true, rfl, .ty "list", tyL hB1, kit_ty kLL, rfl, _, rfl, ?_⟩
    rw [dd]
    refine iteF ?_
    refine ⟨_, rfl, .ref a, .ty "tuple", _, _, false, rfl, .ty "tuple", tyL hA1, kit_ty kLT, _, rfl, .ref b, .ty "tuple", _, _, false, rfl, .ty "tuple", tyL hB1, kit_ty kLT, rfl, _, rfl, ?_⟩
    rw [dd]
    refine iteF ?_
    -- len == len
    refine ⟨_, rfl, a, xs, rfl, .inl (SqL.of hA1), _, rfl, b, xs, rfl, .inl (SqL.of hB1), rfl, _, rfl, ?_⟩
    rw [decide_eq_true rfl]
    refine iteT ?_
    -- all([..])
    refine ⟨_, rfl, _, rfl, a, b, xs, xs, rfl, SqL.of hA1, SqL.of hB1, fun D nD => ?_⟩
    have s2 : Same H (upd (upd H t (.tup [.ty "list", .ty "tuple"])) D (.lst [])) := s1.trans (same_new nD _)
    have nD0 : H D = none := s1.free nD
    refine ⟨fun i m H' => Same H H' ∧ H' D = some (.lst ((List.replicate i true).map V.bl)) ∧ i + m = xs.length, ⟨xs.length, s2, upd_same, by omega⟩, ?_⟩
    rintro i m H1 ⟨sm, hD, him⟩
    have hAi : SqL K H1 a xs := SqL.of (sm _ _ hA)
    have hBi : SqL K H1 b xs := SqL.of (sm _ _ hB)
    by_cases hi : i < xs.length
    · have gi : xs[i]? = some xs[i] := List.getElem?_eq_getElem hi
      refine .inr ⟨⟨_, _, _, _, hAi, hBi, gi, gi⟩, fun H' => Same H H' ∧ H' D = some (.lst ((List.replicate (i + 1) true).map V.bl)), fun H' z => ⟨m - 1, by omega, z.1, z.2, by omega⟩, fun x H' hy => ?_⟩
      obtain ⟨p, x1, x2, rfl, np, rfl, f1, f2⟩ := hy
      have e1 : x1 = xs[i] := Option.some.inj ((f1 _ hAi).symm.trans gi)
      have e2 : x2 = xs[i] := Option.some.inj ((f2 _ hBi).symm.trans gi)
      subst e1 e2
      have s3 : Same H1 (upd H1 p (.tup [xs[i], xs[i]])) := same_new np _
      refine ⟨p, [xs[i], xs[i]], rfl, SqT.of upd_same, rfl, xs[i], [xs[i]], rfl, xs[i], [], rfl, rfl, rfl, ?_⟩
      refine ⟨_, rfl, _, rfl, xs[i], rfl, hv _ (List.getElem_mem hi), fun H4 s4 => ?_⟩
      refine ⟨_, s4 _ _ (s3 _ _ hD), ?_, ?_, ?_⟩
      · rw [List.length_map, List.length_replicate]; exact small1000 (by omega)
      · exact same_put nD0 ((sm.trans s3).trans s4) _
      · rw [upd_same, List.replicate_succ', List.map_append]
        rfl
    · refine .inl ⟨⟨_, _, hAi, hBi, .inr (by omega)⟩, ?_⟩
      refine ⟨D, List.replicate i true, rfl, SqL.of hD, ?_⟩
      have e : (List.replicate i true).all id = true := by
        rw [List.all_eq_true]
        intro x hx
        rw [(List.mem_replicate.mp hx).2]
        rfl
      rw [e]
      exact q H1 sm
end
end K4
namespace K4
open PySem PySem.Spec PyProof.Rows L2 GF
theorem scAr : FnScope ["_law_word", "_law_told", "_law_many", "_law_k", "_law_one"] ["_law_word"] (defScope sAr) := ⟨rfl, rfl, rfl, by decide +kernel, rfl, by decide +kernel, by decide +kernel⟩
/-- strip of letters alone -/
theorem take_all {p : Nat → Bool} : ∀ {l : List Nat}, (∀ x ∈ l, p x = true) → l.takeWhile p = l
  | [], _ => rfl
  | a :: r, h => by
    rw [List.takeWhile_cons_of_pos (h a (List.mem_cons_self ..)), take_all fun x hx => h x (List.mem_cons_of_mem _ hx)]
theorem strip_ltr {x : W} (h : Nb.Ltr x) : Txt.stripChars (T x) (T Nb.ltrs) = T [] := by
  have hg : ∀ c ∈ x, (T Nb.ltrs).cps.contains c = true := fun c hc => by
    have := h c hc
    show (Nb.ltrs.toArray).contains c = true
    simpa using this
  have lo : stripLo (T Nb.ltrs).cps.contains true (T x) = x.length := by
    unfold stripLo
    rw [if_pos rfl, T_list, take_all hg]
  have hi : stripHi (T Nb.ltrs).cps.contains true (T x) x.length = x.length := by
    unfold stripHi
    rw [if_pos rfl, T_list, T_len, List.drop_length]
    simp
  unfold Txt.stripChars Txt.stripBy
  cases x with
  | nil =>
    split
    · rfl
    · unfold stripped
      rw [lo, hi]
      rfl
  | cons a r =>
    have e : stripSame (T Nb.ltrs).cps.contains true true (T (a :: r)) = false := by
      unfold stripSame
      rw [lo]
      rfl
    rw [e, if_neg Bool.false_ne_true]
    unfold stripped
    rw [lo, hi]
    show Str.mk _ = Str.mk _
    congr 1
    simp
    exact Nat.min_le_left _ _
section
variable {P : Program} {w : World} {K : PySem.W.Frag} {mg : Str → Option Value} {base : Heap}
theorem passG {X : Cx} : Passes (CX X.prog X.w) X E0 := fun pins σ H s e s' I c => by
  obtain ⟨_, _, _, _, _, _, _, _, _, _, _, _, z⟩ := c
  exact z.elim
theorem noStop0 {K : PySem.W.Frag} : NoStop K E0 := fun _ _ _ h => h.elim
theorem nb_small {s : W} (hL : Nb.Ltr s) (h0 : s ≠ []) (hl : s.length ≤ 60) : (Nb.nb s).length ≤ 500 := by
  have h := Nb.nb_len hL h0
  have hc : Nb.chT s (s.length - 1) ≤ s.length - 1 := by
    unfold Nb.chT
    refine Nat.le_trans (List.length_filter_le _ _) ?_
    rw [List.length_range]
    exact Nat.le_refl _
  split at h <;> omega
def spAr : Sp := fun vs H Q _ => ∃ s : W, vs = [.str (T s)] ∧ Nb.Ltr s ∧ s ≠ [] ∧ s.length ≤ 60 ∧ ∀ H', Same H H' → Q (.bl true) H'
theorem ok_ar {f fN fE fR : Addr} {fd fdN fdE fdR : FuncData} (F : Fun K "_law_around" "_law_around" sAr f fd) (ml : mg "len" = none) (mr : mg "range" = none) (mli : mg "list" = none) (mi : mg "isinstance" = none) (mst : mg "str" = none)
    (GN : GFn P w K mg base 2 fN fdN ["source"] spNb) (kN : PySem.W.keepIn K (.ref fN) = true) (mN : mg "neighbours" = some (.ref fN)) (bN : Binds K fdN ["source"] [])
    (GE : FnOk P w K mg base CX0 1 fE fdE ["_law_one", "_law_two"] spNear) (kE : PySem.W.keepIn K (.ref fE) = true) (mE : mg "_law_near" = some (.ref fE)) (bE : Binds K fdE ["_law_one", "_law_two"] [])
    (GR : FnOk P w K mg base CX0 1 fR fdR ["_law_word"] spRuns) (kR : PySem.W.keepIn K (.ref fR) = true) (mR : mg "_law_runs" = some (.ref fR)) (bR : Binds K fdR ["_law_word"] []) :
    FnOk P w K mg base CX0 6 f fd ["_law_word"] spAr := by
  refine F.ok scAr (fun vs H Q E h => ?_) (fun cdv A outer s H vs Q E hr h => ?_)
  · obtain ⟨_, rfl, _⟩ := h
    rfl
  · obtain ⟨s, rfl, hL, h0, hl, q⟩ := h
    have hs : (T s).length ≤ sizeLine := by rw [T_len]; exact small (by omega)
    have hpos : 0 < s.length := List.length_pos_iff.mpr h0
    refine ⟨_, pss_cons (ps_set (i := 1) scAr.nd rfl (.inl rfl) (pe_listG (pgen_call (E := E0) GN (hr.mono (by decide)) (by rfl) mN kN bN .nil (pa_cons (pv 0) pa_nil)) passG noStop0 hr (by rfl) mli PyProof.Rows.boot_list))
      (C8.pss_cut (ps_set (i := 2) scAr.nd rfl (.inl rfl) (pe_op op_add (pe_op op_add (pe_op op_mul pe_int (pe_callB call_len_str (by rfl) ml PySem.boot_len (pa_cons (pv 0) pa_nil))) pe_int)
        (pe_ifExp (pt_cmpR op_gt (pe_callB call_len_str (by rfl) ml PySem.boot_len (pa_cons (pv 0) pa_nil)) pe_int (nomark _)) (pe_call GR (hr.mono (by decide)) (by rfl) mR kR bR .nil pass0 (pa_cons (pv 0) pa_nil)) pe_int)))
      (pss_cons (ps_if (pt_cmpR op_ne (pe_callB call_len_seq (by rfl) ml PySem.boot_len (pa_cons (pv 1) pa_nil)) (pv 2) (nomark _)) pss_never pss_nil)
      (pss_cons (ps_for PassesOwn.never rfl (pi_range1 rfl mr (pa_cons (pe_callB call_len_seq (by rfl) ml PySem.boot_len (pa_cons (pv 1) pa_nil)) pa_nil)) (pg_name (i := 3) scAr.nd rfl (.inl rfl))
        (pss_cons (ps_set (i := 4) scAr.nd rfl (.inl rfl) (pe_ix ix_list (pv 1) (pv 3) (fun _ _ => rfl)))
        (pss_cons (ps_if (pt_not (pt_val (pe_callB call_isi (by rfl) mi (by decide +kernel) (pa_cons (pv 4) (pa_cons (pe_bltn (v := .ty "str") (by rfl) mst PyProof.Rows.boot_str rfl) pa_nil))))) pss_never pss_nil)
        (pss_cons (ps_if (PW.pt (pw_or (pt_cmpR op_eq (pv 4) pe_str (nomark _)) (pw_or (pt_cmpR op_eq (pv 4) (pv 0) (nomark _)) (pw_or (pt_cmpR op_ne (pe_bm PySem.F.plainAttrs_str PySem.F.slot_str_strip PySem.F.type_str_strip mt_stripChars (pv 4) (pa_cons pe_str pa_nil)) pe_str (nomark _))
            (pw_or1 (pt_not (pt_val (pe_call GE (hr.mono (by decide)) (by rfl) mE kE bE .nil pass0 (pa_cons (pv 4) (pa_cons (pv 0) pa_nil)))))))))) pss_never pss_nil)
        (pss_one (ps_if (PW.pt (pw_and (pt_cmpR op_gt (pv 3) pe_int (nomark _)) (pw_and1 (pt_not (pt_cmpR op_lt_str (pe_ix ix_list (pv 1) (pe_op op_sub (pv 3) pe_int) (fun _ _ => rfl)) (pv 4) (nomark _)))))) pss_never pss_nil))))))
      (pss_one (ps_ret pe_bl))))), ?_⟩
    have hnl := nb_small hL h0 hl
    have hlen := Nb.nb_len hL h0
    -- told
    refine ⟨_, rfl, s, rfl, hL, h0, hl, fun H1 s1 p np => ?_⟩
    have s2 := s1.trans (same_new np (.lst (tv (Nb.nb s))))
    have hP : (upd H1 p (.lst (tv (Nb.nb s)))) p = some (.lst (tv (Nb.nb s))) := upd_same
    generalize upd H1 p (.lst (tv (Nb.nb s))) = H2 at s2 hP
    -- many
    refine ⟨fun σ H' => σ = [some (.str (T s)), some (.ref p), some (.int ((Nb.nb s).length : Nat)), none, none] ∧ Same H H' ∧ H' p = some (.lst (tv (Nb.nb s))), ?_, ?_⟩
    · refine ⟨_, rfl, T s, rfl, hs, _, _, rfl, rfl, .inl ⟨by decide, by decide⟩, _, _, rfl, rfl, _, rfl, T s, rfl, hs, _, _, rfl, rfl, _, rfl, ?_⟩
      have fin : ∀ (z : Int) (H' : Hp), z = ((Nb.nb s).length : Nat) → [some (V.str (T s)), some (V.ref p), some (V.int z), none, none] = [some (.str (T s)), some (.ref p), some (.int ((Nb.nb s).length : Nat)), none, none] := fun z H' e => by rw [e]
      by_cases c1 : 1 < s.length
      · rw [decide_eq_true (show (1 : Int) < ((T s).length : Int) by rw [T_len]; omega)]
        rw [if_pos c1] at hlen
        refine iteT ?_
        refine ⟨_, rfl, s, rfl, by omega, h0, fun H' s3 => ⟨_, _, rfl, rfl, ?_⟩⟩
        refine ⟨fin _ H' ?_, s2.trans s3, s3 _ _ hP⟩
        rw [T_len, hlen]
        omega
      · rw [decide_eq_false (show ¬ (1 : Int) < ((T s).length : Int) by rw [T_len]; omega)]
        rw [if_neg c1] at hlen
        refine iteF ?_
        refine ⟨_, _, rfl, rfl, ?_⟩
        refine ⟨fin _ H2 ?_, s2, hP⟩
        rw [T_len, hlen]
        omega
    · rintro σ H3 ⟨rfl, s3, hP3⟩
      have hPs : SqL K H3 p (tv (Nb.nb s)) := SqL.of hP3
      refine ⟨_, rfl, p, _, rfl, .inl hPs, _, rfl, rfl, _, rfl, ?_⟩
      rw [tv_len, decide_eq_true rfl]
      refine iteF ?_
      -- the loop
      refine ⟨_, rfl, p, _, rfl, .inl hPs, _, rfl, by omega, by rw [tv_len]; omega, for_range (fun i σ H' => H' = H3 ∧ ∃ z3 z4, σ = [some (.str (T s)), some (.ref p), some (.int ((Nb.nb s).length : Nat)), z3, z4]) ⟨rfl, none, none, rfl⟩ ?_ ?_⟩
      · rintro i σ H4 hi ⟨rfl, z3, z4, rfl⟩
        rw [tv_len] at hi
        have hi' : i < (Nb.nb s).length := by omega
        have gi : (tv (Nb.nb s))[i]? = some (V.str (T (Nb.nb s)[i])) := by
          rw [tv_get, List.getElem?_eq_getElem hi']
          rfl
        obtain ⟨m0, m1, m2, m3⟩ := (Nb.mem_nb hL).mp (List.getElem_mem hi')
        have ml42 : (Nb.nb s)[i].length ≤ 100 := by
          have := Nb.near_far m2
          omega
        refine ⟨_, rfl, _, rfl, p, _, _, _, rfl, rfl, hPs, at_of (j := i) (by omega) gi, ?_⟩
        refine ⟨_, rfl, .str (T (Nb.nb s)[i]), .ty "str", _, _, true, rfl, .ty "str", .base (.str _), kit_ty (by decide +kernel), _, rfl, ?_⟩
        refine iteF ?_
        -- == ""
        refine ⟨_, rfl, rfl, _, rfl, ?_⟩
        rw [lit_nil, dec_str, decide_eq_false m0]
        refine iteF ⟨_, rfl, _, rfl, rfl, _, rfl, ?_⟩
        rw [dec_str, decide_eq_false m1]
        refine iteF ⟨_, rfl, rfl, T (Nb.nb s)[i], T Nb.ltrs, rfl, by rw [← lit_acgt], by rw [T_len]; exact small (by omega), rfl, _, rfl, ?_⟩
        rw [strip_ltr m3, dec_str, decide_eq_true rfl]
        refine iteF ⟨_, rfl, _, rfl, (Nb.nb s)[i], s, rfl, ml42, by omega, _, rfl, ?_⟩
        rw [m2]
        refine iteF ?_
        -- ascending
        refine ⟨_, rfl, _, _, rfl, rfl, _, rfl, ?_⟩
        by_cases c2 : 0 < i
        · rw [decide_eq_true (show (0 : Int) < (0 : Int) + (i : Nat) by omega)]
          have hi1 : i - 1 < (Nb.nb s).length := by omega
          have gj : (tv (Nb.nb s))[i - 1]? = some (V.str (T (Nb.nb s)[i - 1])) := by
            rw [tv_get, List.getElem?_eq_getElem hi1]
            rfl
          have hlt : (Nb.nb s)[i - 1] < (Nb.nb s)[i] := List.pairwise_iff_getElem.mp (Nb.nb_lt hL) (i - 1) i hi1 hi' (by omega)
          refine iteT ⟨_, rfl, _, rfl, _, _, rfl, rfl, p, _, _, _, rfl, rfl, hPs, at_of (j := i - 1) (by omega) gj, _, rfl, T (Nb.nb s)[i - 1], T (Nb.nb s)[i], rfl, rfl, _, rfl, ?_⟩
          rw [T_list, T_list, decide_eq_true hlt]
          refine iteF ?_
          exact ⟨rfl, _, _, rfl⟩
        · rw [decide_eq_false (show ¬ (0 : Int) < (0 : Int) + (i : Nat) by omega)]
          refine iteF ?_
          refine iteF ?_
          exact ⟨rfl, _, _, rfl⟩
      · rintro σ H4 ⟨rfl, z3, z4, rfl⟩
        exact q _ s3
end
end K4
namespace K4
open PySem PySem.Spec PyProof.Rows L2 GF
theorem scBw : FnScope ["_law_bag_here", "_law_word", "_law_told", "_law_kept", "_law_k", "_law_one", "_law_back"] ["_law_bag_here", "_law_word"] (defScope sBw) := ⟨rfl, rfl, rfl, by decide +kernel, rfl, by decide +kernel, by decide +kernel⟩
/-- keywords alone -/
def gKw {α : Type} (us ws : List α) : List α := match us with | [] => ws | _ => []
theorem kw_rel {vs : List V} {us : List Value} {zs : List V} {ws : List Value} (r : Vals vs us) (z : Vals zs ws) : Vals (gKw vs zs) (gKw us ws) := by
  cases r with
  | nil => exact z
  | cons _ _ => exact .nil
theorem in_tv (x : W) (L : List W) : inV (V.str (T x)) (tv L) = decide (x ∈ L) := by
  unfold inV tv
  rw [List.any_map]
  by_cases h : x ∈ L
  · rw [decide_eq_true h, List.any_eq_true]
    refine ⟨x, h, ?_⟩
    show (T x == T x) = true
    simp
  · rw [decide_eq_false h, List.any_eq_false]
    intro y hy z
    have z' : (T y == T x) = true := z
    have : y = x := T_inj.mp (by simpa using z')
    exact h (this ▸ hy)
theorem BagAt.other {H : Hp} {b p : Addr} {xs : List V} {o : HO} {s : Str} (h : BagAt H b) (hp : H p = some (.lst xs)) (hb : p ≠ b) (hs : V.str s ∈ xs) : BagAt (upd H p o) b := by
  obtain ⟨c, cells, k, g, sd, d, h⟩ := h
  have ncp : c ≠ p := ne_of h.oc hp fun z => by
    have e : cells.map V.int = xs := HO.lst.inj z
    rw [← e] at hs
    obtain ⟨_, _, e2⟩ := List.mem_map.mp hs
    cases e2
  exact ⟨c, cells, k, g, sd, d, by rw [upd_ne hb.symm]; exact h.ob, by rw [upd_ne ncp]; exact h.oc, h.hl, h.hk, h.s0, h.s1⟩
theorem Kp.other {b p : Addr} {H H1 : Hp} (k : Kp b H H1) (hp : H p = none) (o : HO) : Kp b H (upd H1 p o) := fun x u h hb => by
  rw [upd_ne (ne_of_none h hp)]
  exact k x u h hb
theorem not_b {H : Hp} {b p : Addr} (h : BagAt H b) (hp : H p = none) : p ≠ b := fun z => by
  obtain ⟨o, e⟩ := h.has
  rw [z, e] at hp
  cases hp
section
variable {P : Program} {w : World} {K : PySem.W.Frag} {mg : Str → Option Value} {base : Heap}
def spBw : Sp := fun vs H Q _ => ∃ (b : Addr) (s : W), vs = [.ref b, .str (T s)] ∧ BagAt H b ∧ Nb.Ltr s ∧ s ≠ [] ∧ s.length ≤ 58 ∧ ∀ H', BagAt H' b → Kp b H H' → Q (.bl true) H'
theorem ok_bw {f fN fO fL fC : Addr} {fd fdN fdO fdL fdC : FuncData} (F : Fun K "_law_both_ways" "_law_both_ways" sBw f fd) (mr : mg "range" = none) (mli : mg "list" = none) (mtu : mg "tuple" = none)
    (GN : GFn P w K mg base 2 fN fdN ["source"] spNb) (kN : PySem.W.keepIn K (.ref fN) = true) (mN : mg "neighbours" = some (.ref fN)) (bN : Binds K fdN ["source"] []) (kbN : KBinds K fdN ["source"] ["source"] gKw gKw)
    (GOL : FnOk P w K mg base CX0 2 fO fdO ["_law_bag_here", "_law_things"] (spOfL K)) (kO : PySem.W.keepIn K (.ref fO) = true) (mO : mg "_law_of" = some (.ref fO)) (bO : Binds K fdO ["_law_bag_here", "_law_things"] [])
    (GL : FnOk P w K mg base CX0 2 fL fdL ["_law_told", "_law_due"] spLike) (kL : PySem.W.keepIn K (.ref fL) = true) (mL : mg "_law_like" = some (.ref fL)) (bL : Binds K fdL ["_law_told", "_law_due"] [])
    (GC : FnOk P w K mg base CX0 3 fC fdC ["string", "source"] spCo) (kC : PySem.W.keepIn K (.ref fC) = true) (mC : mg "comes_of" = some (.ref fC)) (bC : Binds K fdC ["string", "source"] []) (kbC : KBinds K fdC ["string", "source"] ["string", "source"] gKw gKw) :
    FnOk P w K mg base CX0 6 f fd ["_law_bag_here", "_law_word"] spBw := by
  refine F.ok scBw (fun vs H Q E h => ?_) (fun cdv A outer st H vs Q E hr h => ?_)
  · obtain ⟨_, _, rfl, _⟩ := h
    rfl
  · obtain ⟨b, s, rfl, hB, hL, h0, hl, q⟩ := h
    have hr2 : Room 2 _ := hr.mono (by decide)
    have hr3 : Room 3 _ := hr.mono (by decide)
    refine ⟨_, pss_cons (ps_set (i := 2) scBw.nd rfl (.inl rfl) (pe_listG (pgen_callK0 (E := E0) GN hr2 (by rfl) mN kN kbN (pk_cons (pv 1) pk_nil)) passG noStop0 hr (by rfl) mli PyProof.Rows.boot_list))
      (pss_cons (ps_set (i := 3) scBw.nd rfl (.inl rfl) (pe_callTy call_tuple_of (by rfl) mtu PyProof.Rows.boot_tuple (pa_cons (pv 2) pa_nil)))
      (pss_cons (ps_for PassesOwn.never rfl (pi_range1 rfl mr (pa_cons pe_int pa_nil)) (pg_name (i := 4) scBw.nd rfl (.inl rfl))
        (pss_cons (ps_set (i := 5) scBw.nd rfl (.inl rfl) (pe_call GOL hr2 (by rfl) mO kO bO .nil pass0 (pa_cons (pv 0) (pa_cons (pv 3) pa_nil))))
        (pss_cons (ps_set (i := 6) scBw.nd rfl (.inl rfl) (pe_listG (pgen_call (E := E0) GN hr2 (by rfl) mN kN bN .nil (pa_cons (pv 5) pa_nil)) passG noStop0 hr (by rfl) mli PyProof.Rows.boot_list))
        (pss_cons (ps_if (pt_not (pt_val (pe_call GL hr2 (by rfl) mL kL bL .nil pass0 (pa_cons (pe_lst (pa_cons (pe_cmpR op_in_seq (pv 1) (pv 6) (by rfl)) (pa_cons (pe_cmpR op_in_seq (pv 5) (pv 6) (by rfl)) pa_nil))) (pa_cons (pe_lst (pa_cons pe_bl (pa_cons pe_bl pa_nil))) pa_nil))))) pss_never pss_nil)
        (pss_one (ps_if (pt_not (pt_val (pe_call GL hr2 (by rfl) mL kL bL .nil pass0 (pa_cons (pe_lst (pa_cons (pe_call GC hr3 (by rfl) mC kC bC .nil pass0 (pa_cons (pv 5) (pa_cons (pv 1) pa_nil))) (pa_cons (pe_callK0 GC hr3 (by rfl) mC kC kbC pass0 (pk_cons (pv 1) (pk_cons (pv 5) pk_nil))) pa_nil))) (pa_cons (pe_lst (pa_cons pe_bl (pa_cons pe_bl pa_nil))) pa_nil))))) pss_never pss_nil))))))
      (pss_cons (ps_expr (pe_bm0 PySem.F.plainAttrs_list PySem.F.slot_list_reverse PySem.F.type_list_reverse mt_reverse (pv 2)))
      (pss_cons (ps_expr (pe_bm PySem.F.plainAttrs_list PySem.F.slot_list_append PySem.F.type_list_append mt_append (pv 2) (pa_cons pe_str pa_nil)))
      (pss_one (ps_ret (pe_call GL hr2 (by rfl) mL kL bL .nil pass0 (pa_cons (pe_listG (pgen_call (E := E0) GN hr2 (by rfl) mN kN bN .nil (pa_cons (pv 1) pa_nil)) passG noStop0 hr (by rfl) mli PyProof.Rows.boot_list) (pa_cons (pe_callTy call_list_of (by rfl) mli PyProof.Rows.boot_list (pa_cons (pv 3) pa_nil)) pa_nil))))))))), ?_⟩
    have hnl := nb_small hL h0 (by omega)
    have hnb : 0 < (Nb.nb s).length := by
      have := Nb.nb_len hL h0
      omega
    -- told, kept
    refine ⟨_, rfl, s, rfl, hL, h0, by omega, fun H1 s1 p np => ?_⟩
    refine ⟨_, rfl, p, _, rfl, .inl ⟨SqL.of upd_same, fun kp nkp => ?_⟩⟩
    have np0 : H p = none := s1.free np
    have s2 : Same H (upd (upd H1 p (.lst (tv (Nb.nb s)))) kp (.tup (tv (Nb.nb s)))) := (s1.trans (same_new np _)).trans (same_new nkp _)
    have nkp0 : H kp = none := (s1.trans (same_new np _)).free nkp
    have npk : p ≠ kp := ne_of_none upd_same nkp
    have hp2 : (upd (upd H1 p (.lst (tv (Nb.nb s)))) kp (.tup (tv (Nb.nb s)))) p = some (.lst (tv (Nb.nb s))) := by rw [upd_ne npk, upd_same]
    have hk2 : (upd (upd H1 p (.lst (tv (Nb.nb s)))) kp (.tup (tv (Nb.nb s)))) kp = some (.tup (tv (Nb.nb s))) := upd_same
    generalize upd (upd H1 p (.lst (tv (Nb.nb s)))) kp (.tup (tv (Nb.nb s))) = H2 at s2 hp2 hk2
    have pb : p ≠ b := not_b hB np0
    have kb : kp ≠ b := not_b hB nkp0
    refine ⟨5, rfl, by decide, by decide, for_range (fun i σ H' => Kp b H H' ∧ BagAt H' b ∧ H' p = some (.lst (tv (Nb.nb s))) ∧ H' kp = some (.tup (tv (Nb.nb s))) ∧ ∃ z4 z5 z6, σ = [some (.ref b), some (.str (T s)), some (.ref p), some (.ref kp), z4, z5, z6])
      ⟨Same.kp s2, hB.same s2, hp2, hk2, none, none, none, rfl⟩ ?_ ?_⟩
    · rintro i σ H3 hi ⟨k3, B3, hp3, hk3, z4, z5, z6, rfl⟩
      -- one
      refine ⟨_, rfl, _, rfl, b, kp, _, rfl, B3, .inr hk3, kb, ?_, by rw [tv_len]; omega, fun v H4 hv B4 k4 => ?_⟩
      · intro z
        have := congrArg List.length z
        rw [tv_len, List.length_nil] at this
        omega
      obtain ⟨x, hx, rfl⟩ := List.mem_map.mp hv
      obtain ⟨m0, m1, m2, m3⟩ := (Nb.mem_nb hL).mp hx
      have xl : x.length ≤ 59 := by
        have := Nb.near_far m2
        omega
      have hp4 := k4 _ _ hp3 pb
      have hk4 := k4 _ _ hk3 kb
      -- back
      refine ⟨_, rfl, x, rfl, m3, m0, by omega, fun H5 s5 r nr => ?_⟩
      have nbl := nb_small m3 m0 (by omega)
      have s6 : Same H4 (upd H5 r (.lst (tv (Nb.nb x)))) := s5.trans (same_new nr _)
      have hr6 : (upd H5 r (.lst (tv (Nb.nb x)))) r = some (.lst (tv (Nb.nb x))) := upd_same
      generalize upd H5 r (.lst (tv (Nb.nb x))) = H6 at s6 hr6
      -- [word in back, one in back]
      refine ⟨_, rfl, _, rfl, r, _, rfl, .inl (SqL.of hr6), rfl, tv_flat _, _, rfl, _, rfl, r, _, rfl, .inl (SqL.of hr6), rfl, tv_flat _, by show 2 ≤ sizeLine; decide, fun l1 n1 => ⟨by show 2 ≤ sizeLine; decide, fun l2 n2 => ?_⟩⟩
      have e1 : inV (V.str (T s)) (tv (Nb.nb x)) = true := by
        rw [in_tv]
        exact decide_eq_true ((Nb.mem_nb m3).mpr ⟨h0, fun z => m1 z.symm, by rw [Nb.near_symm]; exact m2, hL⟩)
      have e2 : inV (V.str (T x)) (tv (Nb.nb x)) = false := by
        rw [in_tv]
        exact decide_eq_false fun z => ((Nb.mem_nb m3).mp z).2.1 rfl
      rw [e1, e2] at n2 ⊢
      have n21 : l1 ≠ l2 := ne_of_none upd_same n2
      refine ⟨l1, l2, [.bl true, .bl false], rfl, by rw [upd_ne n21, upd_same]; rfl, upd_same, ?_, by show 2 ≤ 1000; decide, fun H7 s7 => ⟨_, rfl, ?_⟩⟩
      · intro v hv
        simp only [List.mem_cons, List.not_mem_nil, or_false] at hv
        rcases hv with rfl | rfl
        · exact .inl ⟨true, rfl⟩
        · exact .inl ⟨false, rfl⟩
      refine iteF ?_
      have s8 : Same H4 H7 := ((s6.trans (same_new n1 _)).trans (same_new n2 _)).trans s7
      -- [comes_of(one, word), comes_of(string=word, source=one)]
      refine ⟨_, rfl, _, rfl, x, s, rfl, by omega, by omega, fun H8 s9 => ?_⟩
      refine ⟨_, rfl, _, rfl, s, x, rfl, by omega, by omega, fun H9 s10 => ?_⟩
      rw [m2, show Nb.near s x = true by rw [Nb.near_symm]; exact m2]
      refine ⟨by show 2 ≤ sizeLine; decide, fun l3 n3 => ⟨by show 2 ≤ sizeLine; decide, fun l4 n4 => ?_⟩⟩
      have n43 : l3 ≠ l4 := ne_of_none upd_same n4
      refine ⟨l3, l4, [.bl true, .bl true], rfl, by rw [upd_ne n43, upd_same], upd_same, ?_, by show 2 ≤ 1000; decide, fun H10 s11 => ⟨_, rfl, ?_⟩⟩
      · intro v hv
        simp only [List.mem_cons, List.not_mem_nil, or_false] at hv
        rcases hv with rfl | rfl <;> exact .inl ⟨true, rfl⟩
      refine iteF ?_
      have s12 : Same H4 H10 := ((((s8.trans s9).trans s10).trans (same_new n3 _)).trans (same_new n4 _)).trans s11
      exact ⟨(k3.trans k4).trans (Same.kp s12), B4.same s12, s12 _ _ hp4, s12 _ _ hk4, _, _, _, rfl⟩
    · rintro σ H3 ⟨k3, B3, hp3, hk3, z4, z5, z6, rfl⟩
      have hin : V.str (T (Nb.nb s)[0]) ∈ tv (Nb.nb s) := List.mem_map.mpr ⟨_, List.getElem_mem hnb, rfl⟩
      -- told.reverse(); told.append("aa")
      refine ⟨_, rfl, .inl ⟨rfl, _, SqL.of hp3⟩, p, _, rfl, rfl, hp3, ?_⟩
      refine ⟨_, rfl, .inl ⟨rfl, _, SqL.of upd_same⟩, p, _, _, rfl, rfl, upd_same, by rw [List.length_reverse, tv_len]; exact small1000 (by omega), ?_⟩
      rw [upd_upd]
      have B4 : BagAt (upd H3 p (.lst ((tv (Nb.nb s)).reverse ++ [.str ("aa" : Str)]))) b := B3.other hp3 pb hin
      have k4 : Kp b H (upd H3 p (.lst ((tv (Nb.nb s)).reverse ++ [.str ("aa" : Str)]))) := k3.other np0 _
      have hk4 : (upd H3 p (.lst ((tv (Nb.nb s)).reverse ++ [.str ("aa" : Str)]))) kp = some (.tup (tv (Nb.nb s))) := by rw [upd_ne npk.symm]; exact hk3
      generalize upd H3 p (.lst ((tv (Nb.nb s)).reverse ++ [.str ("aa" : Str)])) = H4 at B4 k4 hk4
      -- list(neighbours(word)), list(kept)
      refine ⟨_, rfl, s, rfl, hL, h0, by omega, fun H5 s5 r nr => ?_⟩
      have s6 : Same H4 (upd H5 r (.lst (tv (Nb.nb s)))) := s5.trans (same_new nr _)
      refine ⟨_, rfl, kp, _, rfl, .inr (SqT.of (s6 _ _ hk4)), fun t nt => ?_⟩
      have nrt : r ≠ t := ne_of_none upd_same nt
      have s7 := s6.trans (same_new nt (.lst (tv (Nb.nb s))))
      refine ⟨r, t, tv (Nb.nb s), rfl, by rw [upd_ne nrt, upd_same], upd_same, ?_, by rw [tv_len]; omega, fun H8 s8 => ?_⟩
      · intro v hv
        obtain ⟨y, _, rfl⟩ := List.mem_map.mp hv
        exact .inr ⟨_, rfl⟩
      · exact q H8 (B4.same (s7.trans s8)) (k4.trans (Same.kp (s7.trans s8)))
end
end K4
namespace K4
open PySem PySem.Spec PyProof.Rows L2 GF
theorem scLaw : FnScope ["_law_script", "_law_bag_here", "_law_lap", "_law_word", "_law_told", "_law_k", "_law_one"] ["_law_script"] (defScope sLaw) := ⟨rfl, rfl, rfl, by decide +kernel, rfl, by decide +kernel, by decide +kernel⟩
/-- a length -/
def Len (v : V) : Prop := ∃ n : Nat, v = .int (n : Nat) ∧ 1 ≤ n ∧ n ≤ 40
theorem len_a {v : V} (h : v ∈ [V.int 1, .int 1, .int 2, .int 2, .int 3, .int 4, .int 5, .int 6, .int 7, .int 8]) : Len v := by
  simp only [List.mem_cons, List.not_mem_nil, or_false] at h
  rcases h with rfl | rfl | rfl | rfl | rfl | rfl | rfl | rfl | rfl | rfl
  · exact ⟨1, rfl, by decide, by decide⟩
  · exact ⟨1, rfl, by decide, by decide⟩
  · exact ⟨2, rfl, by decide, by decide⟩
  · exact ⟨2, rfl, by decide, by decide⟩
  · exact ⟨3, rfl, by decide, by decide⟩
  · exact ⟨4, rfl, by decide, by decide⟩
  · exact ⟨5, rfl, by decide, by decide⟩
  · exact ⟨6, rfl, by decide, by decide⟩
  · exact ⟨7, rfl, by decide, by decide⟩
  · exact ⟨8, rfl, by decide, by decide⟩
theorem len_b {v : V} (h : v ∈ [V.int 12, .int 29, .int 30, .int 31, .int 40]) : Len v := by
  simp only [List.mem_cons, List.not_mem_nil, or_false] at h
  rcases h with rfl | rfl | rfl | rfl | rfl
  · exact ⟨12, rfl, by decide, by decide⟩
  · exact ⟨29, rfl, by decide, by decide⟩
  · exact ⟨30, rfl, by decide, by decide⟩
  · exact ⟨31, rfl, by decide, by decide⟩
  · exact ⟨40, rfl, by decide, by decide⟩
section
variable {P : Program} {w : World} {K : PySem.W.Frag} {mg : Str → Option Value} {base : Heap}
def spLaw (K : PySem.W.Frag) : Sp := fun vs H Q _ => ∃ (a : Addr) (ns : List Int), vs = [.ref a] ∧ SqL K H a (ns.map V.int) ∧ ns.length ≤ 63 ∧ ∀ H', Q (.bl true) H'
theorem ok_law {f fB fD fO fL fS fE fH fA fW fN fC : Addr} {fd fdB fdD fdO fdL fdS fdE fdH fdA fdW fdN fdC : FuncData} (F : Fun K "law" "law" sLaw f fd) (mr : mg "range" = none) (mli : mg "list" = none)
    (GB : FnOk P w K mg base CX0 1 fB fdB ["_law_script"] (spBag K)) (kB : PySem.W.keepIn K (.ref fB) = true) (mB : mg "_law_bag" = some (.ref fB)) (bB : Binds K fdB ["_law_script"] [])
    (GD : FnOk P w K mg base CX0 1 fD fdD ["_law_bag_here", "_law_size"] spDraw) (kD : PySem.W.keepIn K (.ref fD) = true) (mD : mg "_law_draw" = some (.ref fD)) (bD : Binds K fdD ["_law_bag_here", "_law_size"] [])
    (GOL : FnOk P w K mg base CX0 2 fO fdO ["_law_bag_here", "_law_things"] (spOfL K)) (kO : PySem.W.keepIn K (.ref fO) = true) (mO : mg "_law_of" = some (.ref fO)) (bO : Binds K fdO ["_law_bag_here", "_law_things"] [])
    (GL : FnOk P w K mg base CX0 2 fL fdL ["_law_told", "_law_due"] spLike) (kL : PySem.W.keepIn K (.ref fL) = true) (mL : mg "_law_like" = some (.ref fL)) (bL : Binds K fdL ["_law_told", "_law_due"] [])
    (GS : FnOk P w K mg base CX0 3 fS fdS ["_law_bag_here", "_law_size"] spStr) (kS : PySem.W.keepIn K (.ref fS) = true) (mS : mg "_law_string" = some (.ref fS)) (bS : Binds K fdS ["_law_bag_here", "_law_size"] [])
    (GE : FnOk P w K mg base CX0 1 fE fdE ["_law_one", "_law_two"] spNear) (kE : PySem.W.keepIn K (.ref fE) = true) (mE : mg "_law_near" = some (.ref fE)) (bE : Binds K fdE ["_law_one", "_law_two"] [])
    (GH : FnOk P w K mg base CX0 3 fH fdH ["_law_bag_here", "_law_word"] spHurt) (kH : PySem.W.keepIn K (.ref fH) = true) (mH : mg "_law_hurt" = some (.ref fH)) (bH : Binds K fdH ["_law_bag_here", "_law_word"] [])
    (GA : FnOk P w K mg base CX0 6 fA fdA ["_law_word"] spAr) (kA : PySem.W.keepIn K (.ref fA) = true) (mA : mg "_law_around" = some (.ref fA)) (bA : Binds K fdA ["_law_word"] [])
    (GW : FnOk P w K mg base CX0 6 fW fdW ["_law_bag_here", "_law_word"] spBw) (kW : PySem.W.keepIn K (.ref fW) = true) (mW : mg "_law_both_ways" = some (.ref fW)) (bW : Binds K fdW ["_law_bag_here", "_law_word"] [])
    (GN : GFn P w K mg base 2 fN fdN ["source"] spNb) (kN : PySem.W.keepIn K (.ref fN) = true) (mN : mg "neighbours" = some (.ref fN)) (bN : Binds K fdN ["source"] [])
    (GC : FnOk P w K mg base CX0 3 fC fdC ["string", "source"] spCo) (kC : PySem.W.keepIn K (.ref fC) = true) (mC : mg "comes_of" = some (.ref fC)) (bC : Binds K fdC ["string", "source"] []) :
    FnOk P w K mg base CX0 7 f fd ["_law_script"] (spLaw K) := by
  refine F.ok scLaw (fun vs H Q E h => ?_) (fun cdv A outer st H vs Q E hr h => ?_)
  · obtain ⟨_, _, rfl, _⟩ := h
    rfl
  · obtain ⟨a, ns, rfl, hS, hlen63, q⟩ := h
    have hr1 : Room 1 _ := hr.mono (by decide)
    have hr2 : Room 2 _ := hr.mono (by decide)
    have hr3 : Room 3 _ := hr.mono (by decide)
    have hr5 : Room 5 _ := hr.mono (by decide)
    refine ⟨_, pss_cons (ps_set (i := 1) scLaw.nd rfl (.inl rfl) (pe_call GB hr1 (by rfl) mB kB bB .nil pass0 (pa_cons (pv 0) pa_nil)))
      (pss_cons (ps_for PassesOwn.never rfl (pi_range1 rfl mr (pa_cons pe_int pa_nil)) (pg_name (i := 2) scLaw.nd rfl (.inl rfl))
        (pss_cons (ps_set (i := 3) scLaw.nd rfl (.inl rfl) (pe_call GS hr3 (by rfl) mS kS bS .nil pass0 (pa_cons (pv 1) (pa_cons (pe_call GOL hr2 (by rfl) mO kO bO .nil pass0 (pa_cons (pv 1) (pa_cons (pe_lst
          (pa_cons pe_int (pa_cons pe_int (pa_cons pe_int (pa_cons pe_int (pa_cons pe_int (pa_cons pe_int (pa_cons pe_int (pa_cons pe_int (pa_cons pe_int (pa_cons pe_int pa_nil))))))))))) pa_nil))) pa_nil))))
        (C8.pss_cut (ps_if (PW.pt (pw_and (pt_cmpR op_eq (pv 2) pe_int (nomark _)) (pw_and1 (pt_cmpR op_eq (pe_call GD hr1 (by rfl) mD kD bD .nil pass0 (pa_cons (pv 1) (pa_cons pe_int pa_nil))) pe_int (nomark _)))))
          (pss_one (ps_set (i := 3) scLaw.nd rfl (.inl rfl) (pe_call GS hr3 (by rfl) mS kS bS .nil pass0 (pa_cons (pv 1) (pa_cons (pe_call GOL hr2 (by rfl) mO kO bO .nil pass0 (pa_cons (pv 1) (pa_cons (pe_lst
            (pa_cons pe_int (pa_cons pe_int (pa_cons pe_int (pa_cons pe_int (pa_cons pe_int pa_nil)))))) pa_nil))) pa_nil))))) pss_nil)
        (pss_cons (ps_if (PW.pt (pw_or (pt_not (pt_val (pe_call GA hr (by rfl) mA kA bA .nil pass0 (pa_cons (pv 3) pa_nil)))) (pw_or1 (pt_not (pt_val (pe_call GW hr (by rfl) mW kW bW .nil pass0 (pa_cons (pv 1) (pa_cons (pv 3) pa_nil)))))))) pss_never pss_nil)
        (pss_cons (ps_set (i := 4) scLaw.nd rfl (.inl rfl) (pe_listG (pgen_call (E := E0) GN hr2 (by rfl) mN kN bN .nil (pa_cons (pv 3) pa_nil)) passG noStop0 hr5 (by rfl) mli PyProof.Rows.boot_list))
        (pss_one (ps_for PassesOwn.never rfl (pi_range1 rfl mr (pa_cons pe_int pa_nil)) (pg_name (i := 5) scLaw.nd rfl (.inl rfl))
          (pss_cons (ps_set (i := 6) scLaw.nd rfl (.inl rfl) (pe_call GH hr3 (by rfl) mH kH bH .nil pass0 (pa_cons (pv 1) (pa_cons (pe_call GH hr3 (by rfl) mH kH bH .nil pass0 (pa_cons (pv 1) (pa_cons (pv 3) pa_nil))) pa_nil))))
          (pss_one (ps_if (pt_not (pt_val (pe_call GL hr2 (by rfl) mL kL bL .nil pass0
            (pa_cons (pe_lst (pa_cons (pe_cmpR op_in_seq (pv 6) (pv 4) (by rfl)) (pa_cons (pe_call GC hr3 (by rfl) mC kC bC .nil pass0 (pa_cons (pv 6) (pa_cons (pv 3) pa_nil))) pa_nil)))
            (pa_cons (pe_lst (pa_cons (pe_and (pe_call GE hr1 (by rfl) mE kE bE .nil pass0 (pa_cons (pv 6) (pa_cons (pv 3) pa_nil))) (pe_one (pe_cmpR op_ne (pv 6) (pv 3) (nomark _)))) (pa_cons (pe_call GE hr1 (by rfl) mE kE bE .nil pass0 (pa_cons (pv 6) (pa_cons (pv 3) pa_nil))) pa_nil))) pa_nil))))) pss_never pss_nil))))))))))
      (pss_one (ps_ret pe_bl))), ?_⟩
    -- the bag
    refine ⟨_, rfl, a, ns, rfl, hS, hlen63, fun b H1 s1 nb hB => ?_⟩
    refine ⟨4, rfl, by decide, by decide, for_range (fun i σ H' => BagAt H' b ∧ ∃ z2 z3 z4 z5 z6, σ = [some (.ref a), some (.ref b), z2, z3, z4, z5, z6]) ⟨hB, none, none, none, none, none, rfl⟩ ?_ ?_⟩
    · rintro i σ H2 hi ⟨B2, z2, z3, z4, z5, z6, rfl⟩
      -- word
      refine ⟨_, rfl, _, rfl, by show 10 ≤ sizeLine; decide, fun l nl => ?_⟩
      refine ⟨b, l, _, rfl, B2.same (same_new nl _), .inl upd_same, not_b B2 nl, by simp, by show 10 ≤ 1000; decide, fun v H3 hv B3 k3 => ?_⟩
      obtain ⟨n, rfl, n1, n2⟩ := len_a hv
      refine ⟨b, n, rfl, B3, by omega, fun s0 H4 L0 e0 B4 k4 => ?_⟩
      -- perhaps another word
      refine ⟨fun σ H' => BagAt H' b ∧ ∃ (s : W) (z2 z4 z5 z6 : Option V), Nb.Ltr s ∧ s ≠ [] ∧ s.length ≤ 40 ∧ σ = [some (.ref a), some (.ref b), z2, some (.str (T s)), z4, z5, z6], ?_, ?_⟩
      · have ne0 : s0 ≠ [] := fun z => by rw [z] at e0; simp at e0; omega
        refine ⟨_, rfl, rfl, _, rfl, ?_⟩
        refine ite2 (fun c1 => ?_) (fun c1 => ?_)
        · refine ⟨_, rfl, b, 4, rfl, B4, by decide, by decide, fun d H5 hd B5 k5 => ⟨rfl, _, rfl, ?_⟩⟩
          refine ite2 (fun c2 => ?_) (fun c2 => ?_)
          · refine ⟨_, rfl, _, rfl, by show 5 ≤ sizeLine; decide, fun l nl => ?_⟩
            refine ⟨b, l, _, rfl, B5.same (same_new nl _), .inl upd_same, not_b B5 nl, by simp, by show 5 ≤ 1000; decide, fun v H6 hv B6 k6 => ?_⟩
            obtain ⟨n', rfl, n3, n4⟩ := len_b hv
            refine ⟨b, n', rfl, B6, by omega, fun s1 H7 L1 e1 B7 k7 => ?_⟩
            exact ⟨B7, s1, _, _, _, _, L1, fun z => by rw [z] at e1; simp at e1; omega, by omega, rfl⟩
          · exact ⟨B5, s0, _, _, _, _, L0, ne0, by omega, rfl⟩
        · refine iteF ?_
          exact ⟨B4, s0, _, _, _, _, L0, ne0, by omega, rfl⟩
      · rintro σ H5 ⟨B5, s, z2, z4, z5, z6, hL, h0, hl, rfl⟩
        -- around, both ways
        refine ⟨_, rfl, s, rfl, hL, h0, by omega, fun H6 s6 => ⟨_, rfl, ?_⟩⟩
        refine iteF ?_
        refine ⟨_, rfl, _, rfl, b, s, rfl, B5.same s6, hL, h0, by omega, fun H7 B7 k7 => ⟨_, rfl, ?_⟩⟩
        refine iteF ?_
        -- told
        refine ⟨_, rfl, s, rfl, hL, h0, by omega, fun H8 s8 p np => ?_⟩
        have s9 : Same H7 (upd H8 p (.lst (tv (Nb.nb s)))) := s8.trans (same_new np _)
        have np7 : H7 p = none := s8.free np
        have hp9 : (upd H8 p (.lst (tv (Nb.nb s)))) p = some (.lst (tv (Nb.nb s))) := upd_same
        generalize upd H8 p (.lst (tv (Nb.nb s))) = H9 at s9 hp9
        have pb : p ≠ b := not_b B7 np7
        refine ⟨8, rfl, by decide, by decide, for_range (fun i σ H' => BagAt H' b ∧ H' p = some (.lst (tv (Nb.nb s))) ∧ ∃ z5 z6, σ = [some (.ref a), some (.ref b), z2, some (.str (T s)), some (.ref p), z5, z6]) ⟨B7.same s9, hp9, _, _, rfl⟩ ?_ ?_⟩
        · rintro j σ H10 hj ⟨B10, hp10, z5, z6, rfl⟩
          -- one
          refine ⟨_, rfl, _, rfl, _, rfl, b, s, rfl, B10, h0, by omega, hL, fun x1 H11 L1 e1 l1 B11 k11 => ?_⟩
          refine ⟨b, x1, rfl, B11, e1, by omega, L1, fun x H12 Lx ex lx B12 k12 => ?_⟩
          have hp12 : H12 p = some (.lst (tv (Nb.nb s))) := k12 _ _ (k11 _ _ hp10 pb) pb
          -- [one in told, comes_of(one, word)]
          refine ⟨_, rfl, _, rfl, p, _, rfl, .inl (SqL.of hp12), rfl, tv_flat _, _, rfl, _, rfl, x, s, rfl, by omega, by omega, fun H13 s13 => ⟨by show 2 ≤ sizeLine; decide, fun l1 n1 => ?_⟩⟩
          have ein : inV (V.str (T x)) (tv (Nb.nb s)) = (Nb.near x s && !decide (x = s)) := by
            rw [in_tv]
            by_cases c1 : Nb.near x s = true
            · rw [c1, Bool.true_and]
              by_cases c2 : x = s
              · rw [decide_eq_true c2]
                exact decide_eq_false fun z => ((Nb.mem_nb hL).mp z).2.1 c2
              · rw [decide_eq_false c2]
                exact decide_eq_true ((Nb.mem_nb hL).mpr ⟨ex, c2, c1, Lx⟩)
            · have c1' : Nb.near x s = false := by simpa using c1
              rw [c1', Bool.false_and]
              exact decide_eq_false fun z => by
                have := ((Nb.mem_nb hL).mp z).2.2.1
                rw [c1'] at this
                cases this
          rw [ein]
          have fin : ∀ (o1 o2 : HO) (l2 : Addr) (H' : Hp), (upd H13 l1 o1) l2 = none → Same (upd (upd H13 l1 o1) l2 o2) H' → BagAt H' b ∧ H' p = some (.lst (tv (Nb.nb s))) := fun o1 o2 l2 H' n2 sm => by
            have sa := ((s13.trans (same_new n1 o1)).trans (same_new n2 o2)).trans sm
            exact ⟨B12.same sa, sa _ _ hp12⟩
          have leaf2 : ∀ (c d : Bool), ∀ v ∈ [V.bl c, V.bl d], Leaf v := fun c d v hv => by
            simp only [List.mem_cons, List.not_mem_nil, or_false] at hv
            rcases hv with rfl | rfl
            · exact .inl ⟨c, rfl⟩
            · exact .inl ⟨d, rfl⟩
          refine ⟨_, rfl, _, rfl, x, s, rfl, by omega, by omega, _, rfl, ?_⟩
          by_cases c1 : Nb.near x s = true
          · rw [c1]
            refine iteT ⟨_, rfl, _, rfl, rfl, _, rfl, _, rfl, x, s, rfl, by omega, by omega, ?_⟩
            rw [c1]
            refine ⟨by show 2 ≤ sizeLine; decide, fun l2 n2 => ?_⟩
            have n12 : l1 ≠ l2 := ne_of_none upd_same n2
            refine ⟨l1, l2, _, rfl, ?_, upd_same, leaf2 _ _, by show 2 ≤ 1000; decide, fun H' sm => ⟨_, rfl, iteF ?_⟩⟩
            · rw [upd_ne n12, upd_same, dec_str]
              rfl
            · obtain ⟨b1, b2⟩ := fin _ _ l2 H' n2 sm
              exact ⟨b1, b2, _, _, rfl⟩
          · have c1' : Nb.near x s = false := by simpa using c1
            rw [c1']
            refine iteF ⟨_, rfl, _, rfl, x, s, rfl, by omega, by omega, ?_⟩
            rw [c1']
            refine ⟨by show 2 ≤ sizeLine; decide, fun l2 n2 => ?_⟩
            have n12 : l1 ≠ l2 := ne_of_none upd_same n2
            refine ⟨l1, l2, _, rfl, ?_, upd_same, leaf2 _ _, by show 2 ≤ 1000; decide, fun H' sm => ⟨_, rfl, iteF ?_⟩⟩
            · rw [upd_ne n12, upd_same]
              rfl
            · obtain ⟨b1, b2⟩ := fin _ _ l2 H' n2 sm
              exact ⟨b1, b2, _, _, rfl⟩
        · rintro σ H10 ⟨B10, hp10, z5, z6, rfl⟩
          exact ⟨B10, _, _, _, _, _, rfl⟩
    · rintro σ H2 ⟨B2, z2, z3, z4, z5, z6, rfl⟩
      exact q H2
end
end K4
namespace K4
open PySem PySem.Spec PyProof.Rows L2 GF
section
variable {P : Program} {w : World} {K : PySem.W.Frag} {mg : Str → Option Value} {base : Heap}
theorem kb_of {x qual : Str} {st : Stmt} {f : Addr} {fd : FuncData} {ps : List Str} (F : Fun K x qual st f fd) (hp : 0 < ps.length)
    (h : ∀ (kV doc pm : Value) (an : Option Addr) (cdv ct : Value) (ws : List Value), ws.length = ps.length → bindArgs (PySem.W.fnOf x qual (defArgs st) (defBody st) (defScope st) .none kV doc pm an cdv ct) ⟨[], ps.zip ws⟩ = pure (ps.zip ws)) : KBinds K fd ps ps gKw gKw := by
  obtain ⟨oc, od, kV, doc, pm, an, cdv, ct, osl, rfl, lk, hcd⟩ := F.ex
  refine ⟨fun s us ws hK hl => ?_, kw_rel⟩
  cases us with
  | nil => exact .of_eq (h kV doc pm an cdv ct ws hl)
  | cons u us =>
    have z : ([] : List Value).length = ps.length := hl
    rw [List.length_nil] at z
    omega
end
/-! ### what the top has written; the law's own head -/
theorem all_mk {l : PySem.W.OpenLaw} {w : World} {K : PySem.W.Frag} {h : Heap} {mg : Str → Option Value} {fa f1 f2 f3 f4 f5 f6 f7 f8 f9 f10 f11 f12 f13 f14 f15 f16 f17 : Addr} {tkL : Tok} (X : K.In h) (G : h.Ns mainGlobals mg) (hfa : mg "law" = some (.ref fa))
    {od1 an1 od2 an2 od3 an3 od4 an4 od5 an5 od6 an6 od7 an7 od8 an8 od9 an9 od10 an10 od11 an11 od12 an12 od13 an13 od14 an14 od15 an15 od16 an16 od17 an17 : Option Addr} {sl1 sl2 sl3 sl4 sl5 sl6 sl7 sl8 sl9 sl10 sl11 sl12 sl13 sl14 sl15 sl16 sl17 : Array (Option Value)} {oc1 kV1 dc1 pm1 cd1 ct1 oc2 kV2 dc2 pm2 cd2 ct2 oc3 kV3 dc3 pm3 cd3 ct3 oc4 kV4 dc4 pm4 cd4 ct4 oc5 kV5 dc5 pm5 cd5 ct5 oc6 kV6 dc6 pm6 cd6 ct6 oc7 kV7 dc7 pm7 cd7 ct7 oc8 kV8 dc8 pm8 cd8 ct8 oc9 kV9 dc9 pm9 cd9 ct9 oc10 kV10 dc10 pm10 cd10 ct10 oc11 kV11 dc11 pm11 cd11 ct11 oc12 kV12 dc12 pm12 cd12 ct12 oc13 kV13 dc13 pm13 cd13 ct13 oc14 kV14 dc14 pm14 cd14 ct14 oc15 kV15 dc15 pm15 cd15 ct15 oc16 kV16 dc16 pm16 cd16 ct16 oc17 kV17 dc17 pm17 cd17 ct17 : Value}
    (a1 : PySem.W.nsIn K mainGlobals "neighbours" = some (some (.ref f1))) (l1 : K.lookup f1 = some ⟨oc1, od1, .func (PySem.W.fnOf "neighbours" "neighbours" (defArgs sNb) (defBody sNb) (defScope sNb) .none kV1 dc1 pm1 an1 cd1 ct1), sl1⟩) (c1 : PySem.W.codeIn K cd1 "neighbours" = true) (k1 : PySem.W.keepIn K (.ref f1) = true)
    (a2 : PySem.W.nsIn K mainGlobals "_strings_with" = some (some (.ref f2))) (l2 : K.lookup f2 = some ⟨oc2, od2, .func (PySem.W.fnOf "_strings_with" "_strings_with" (defArgs sSw) (defBody sSw) (defScope sSw) .none kV2 dc2 pm2 an2 cd2 ct2), sl2⟩) (c2 : PySem.W.codeIn K cd2 "_strings_with" = true) (k2 : PySem.W.keepIn K (.ref f2) = true)
    (a3 : PySem.W.nsIn K mainGlobals "comes_of" = some (some (.ref f3))) (l3 : K.lookup f3 = some ⟨oc3, od3, .func (PySem.W.fnOf "comes_of" "comes_of" (defArgs sCo) (defBody sCo) (defScope sCo) .none kV3 dc3 pm3 an3 cd3 ct3), sl3⟩) (c3 : PySem.W.codeIn K cd3 "comes_of" = true) (k3 : PySem.W.keepIn K (.ref f3) = true)
    (a4 : PySem.W.nsIn K mainGlobals "change_of" = some (some (.ref f4))) (l4 : K.lookup f4 = some ⟨oc4, od4, .func (PySem.W.fnOf "change_of" "change_of" (defArgs sCh) (defBody sCh) (defScope sCh) .none kV4 dc4 pm4 an4 cd4 ct4), sl4⟩) (c4 : PySem.W.codeIn K cd4 "change_of" = true) (k4 : PySem.W.keepIn K (.ref f4) = true)
    (a5 : PySem.W.nsIn K mainGlobals "_first_difference" = some (some (.ref f5))) (l5 : K.lookup f5 = some ⟨oc5, od5, .func (PySem.W.fnOf "_first_difference" "_first_difference" (defArgs sFd) (defBody sFd) (defScope sFd) .none kV5 dc5 pm5 an5 cd5 ct5), sl5⟩) (c5 : PySem.W.codeIn K cd5 "_first_difference" = true) (k5 : PySem.W.keepIn K (.ref f5) = true)
    (a6 : PySem.W.nsIn K mainGlobals "_run_start" = some (some (.ref f6))) (l6 : K.lookup f6 = some ⟨oc6, od6, .func (PySem.W.fnOf "_run_start" "_run_start" (defArgs sRs) (defBody sRs) (defScope sRs) .none kV6 dc6 pm6 an6 cd6 ct6), sl6⟩) (c6 : PySem.W.codeIn K cd6 "_run_start" = true) (k6 : PySem.W.keepIn K (.ref f6) = true)
    (a7 : PySem.W.nsIn K mainGlobals "_law_bag" = some (some (.ref f7))) (l7 : K.lookup f7 = some ⟨oc7, od7, .func (PySem.W.fnOf "_law_bag" "_law_bag" (defArgs sBag) (defBody sBag) (defScope sBag) .none kV7 dc7 pm7 an7 cd7 ct7), sl7⟩) (c7 : PySem.W.codeIn K cd7 "_law_bag" = true) (k7 : PySem.W.keepIn K (.ref f7) = true)
    (a8 : PySem.W.nsIn K mainGlobals "_law_draw" = some (some (.ref f8))) (l8 : K.lookup f8 = some ⟨oc8, od8, .func (PySem.W.fnOf "_law_draw" "_law_draw" (defArgs sDraw) (defBody sDraw) (defScope sDraw) .none kV8 dc8 pm8 an8 cd8 ct8), sl8⟩) (c8 : PySem.W.codeIn K cd8 "_law_draw" = true) (k8 : PySem.W.keepIn K (.ref f8) = true)
    (a9 : PySem.W.nsIn K mainGlobals "_law_of" = some (some (.ref f9))) (l9 : K.lookup f9 = some ⟨oc9, od9, .func (PySem.W.fnOf "_law_of" "_law_of" (defArgs sOf) (defBody sOf) (defScope sOf) .none kV9 dc9 pm9 an9 cd9 ct9), sl9⟩) (c9 : PySem.W.codeIn K cd9 "_law_of" = true) (k9 : PySem.W.keepIn K (.ref f9) = true)
    (a10 : PySem.W.nsIn K mainGlobals "_law_like" = some (some (.ref f10))) (l10 : K.lookup f10 = some ⟨oc10, od10, .func (PySem.W.fnOf "_law_like" "_law_like" (defArgs sLike) (defBody sLike) (defScope sLike) .none kV10 dc10 pm10 an10 cd10 ct10), sl10⟩) (c10 : PySem.W.codeIn K cd10 "_law_like" = true) (k10 : PySem.W.keepIn K (.ref f10) = true)
    (a11 : PySem.W.nsIn K mainGlobals "_law_string" = some (some (.ref f11))) (l11 : K.lookup f11 = some ⟨oc11, od11, .func (PySem.W.fnOf "_law_string" "_law_string" (defArgs sStr) (defBody sStr) (defScope sStr) .none kV11 dc11 pm11 an11 cd11 ct11), sl11⟩) (c11 : PySem.W.codeIn K cd11 "_law_string" = true) (k11 : PySem.W.keepIn K (.ref f11) = true)
    (a12 : PySem.W.nsIn K mainGlobals "_law_near" = some (some (.ref f12))) (l12 : K.lookup f12 = some ⟨oc12, od12, .func (PySem.W.fnOf "_law_near" "_law_near" (defArgs sNear) (defBody sNear) (defScope sNear) .none kV12 dc12 pm12 an12 cd12 ct12), sl12⟩) (c12 : PySem.W.codeIn K cd12 "_law_near" = true) (k12 : PySem.W.keepIn K (.ref f12) = true)
    (a13 : PySem.W.nsIn K mainGlobals "_law_runs" = some (some (.ref f13))) (l13 : K.lookup f13 = some ⟨oc13, od13, .func (PySem.W.fnOf "_law_runs" "_law_runs" (defArgs sRuns) (defBody sRuns) (defScope sRuns) .none kV13 dc13 pm13 an13 cd13 ct13), sl13⟩) (c13 : PySem.W.codeIn K cd13 "_law_runs" = true) (k13 : PySem.W.keepIn K (.ref f13) = true)
    (a14 : PySem.W.nsIn K mainGlobals "_law_hurt" = some (some (.ref f14))) (l14 : K.lookup f14 = some ⟨oc14, od14, .func (PySem.W.fnOf "_law_hurt" "_law_hurt" (defArgs sHurt) (defBody sHurt) (defScope sHurt) .none kV14 dc14 pm14 an14 cd14 ct14), sl14⟩) (c14 : PySem.W.codeIn K cd14 "_law_hurt" = true) (k14 : PySem.W.keepIn K (.ref f14) = true)
    (a15 : PySem.W.nsIn K mainGlobals "_law_around" = some (some (.ref f15))) (l15 : K.lookup f15 = some ⟨oc15, od15, .func (PySem.W.fnOf "_law_around" "_law_around" (defArgs sAr) (defBody sAr) (defScope sAr) .none kV15 dc15 pm15 an15 cd15 ct15), sl15⟩) (c15 : PySem.W.codeIn K cd15 "_law_around" = true) (k15 : PySem.W.keepIn K (.ref f15) = true)
    (a16 : PySem.W.nsIn K mainGlobals "_law_both_ways" = some (some (.ref f16))) (l16 : K.lookup f16 = some ⟨oc16, od16, .func (PySem.W.fnOf "_law_both_ways" "_law_both_ways" (defArgs sBw) (defBody sBw) (defScope sBw) .none kV16 dc16 pm16 an16 cd16 ct16), sl16⟩) (c16 : PySem.W.codeIn K cd16 "_law_both_ways" = true) (k16 : PySem.W.keepIn K (.ref f16) = true)
    (a17 : PySem.W.nsIn K mainGlobals "law" = some (some (.ref f17))) (l17 : K.lookup f17 = some ⟨oc17, od17, .func (PySem.W.fnOf "law" "law" (defArgs sLaw) (defBody sLaw) (defScope sLaw) .none kV17 dc17 pm17 an17 cd17 ct17), sl17⟩) (c17 : PySem.W.codeIn K cd17 "law" = true) (k17 : PySem.W.keepIn K (.ref f17) = true)
    (z1 : PySem.W.nsIn K mainGlobals "len" = some none)
    (z2 : PySem.W.nsIn K mainGlobals "range" = some none)
    (z3 : PySem.W.nsIn K mainGlobals "reversed" = some none)
    (z4 : PySem.W.nsIn K mainGlobals "sorted" = some none)
    (z5 : PySem.W.nsIn K mainGlobals "min" = some none)
    (z6 : PySem.W.nsIn K mainGlobals "max" = some none)
    (z7 : PySem.W.nsIn K mainGlobals "int" = some none)
    (z8 : PySem.W.nsIn K mainGlobals "list" = some none)
    (z9 : PySem.W.nsIn K mainGlobals "tuple" = some none)
    (z10 : PySem.W.nsIn K mainGlobals "isinstance" = some none)
    (z11 : PySem.W.nsIn K mainGlobals "dict" = some none)
    (z12 : PySem.W.nsIn K mainGlobals "bool" = some none)
    (z13 : PySem.W.nsIn K mainGlobals "str" = some none)
    (z14 : PySem.W.nsIn K mainGlobals "all" = some none)
    (z15 : PySem.W.nsIn K mainGlobals "zip" = some none)
    (aL : PySem.W.nsIn K mainGlobals "LETTERS" = some (some (.str ("acgt" : Str) tkL))) :
    ∃ fd : FuncData, (∀ (s : Shared) (v : Value), BindsTo s fd ⟨[v], []⟩ [("_law_script", v)]) ∧ ∀ base : Heap, K.In base → base.Ns mainGlobals mg → FnOk l.prog w K mg base CX0 7 fa fd ["_law_script"] (spLaw K) := by
  have e := hfa.symm.trans (PySem.W.mg_of X G a17)
  cases e
  have F1 := fun_mk (st := sNb) l1 c1 k1
  have F2 := fun_mk (st := sSw) l2 c2 k2
  have F3 := fun_mk (st := sCo) l3 c3 k3
  have F4 := fun_mk (st := sCh) l4 c4 k4
  have F5 := fun_mk (st := sFd) l5 c5 k5
  have F6 := fun_mk (st := sRs) l6 c6 k6
  have F7 := fun_mk (st := sBag) l7 c7 k7
  have F8 := fun_mk (st := sDraw) l8 c8 k8
  have F9 := fun_mk (st := sOf) l9 c9 k9
  have F10 := fun_mk (st := sLike) l10 c10 k10
  have F11 := fun_mk (st := sStr) l11 c11 k11
  have F12 := fun_mk (st := sNear) l12 c12 k12
  have F13 := fun_mk (st := sRuns) l13 c13 k13
  have F14 := fun_mk (st := sHurt) l14 c14 k14
  have F15 := fun_mk (st := sAr) l15 c15 k15
  have F16 := fun_mk (st := sBw) l16 c16 k16
  have F17 := fun_mk (st := sLaw) l17 c17 k17
  have b1 := F1.binds (ps := ["source"]) fun _ _ _ _ _ _ us hl => match us, hl with | [_], _ => rfl
  have m1 := PySem.W.mg_of X G a1
  have b2 := F2.binds (ps := ["source", "at", "letter"]) fun _ _ _ _ _ _ us hl => match us, hl with | [_, _, _], _ => rfl
  have m2 := PySem.W.mg_of X G a2
  have b3 := F3.binds (ps := ["string", "source"]) fun _ _ _ _ _ _ us hl => match us, hl with | [_, _], _ => rfl
  have m3 := PySem.W.mg_of X G a3
  have b4 := F4.binds (ps := ["string", "source"]) fun _ _ _ _ _ _ us hl => match us, hl with | [_, _], _ => rfl
  have m4 := PySem.W.mg_of X G a4
  have b5 := F5.binds (ps := ["one", "other"]) fun _ _ _ _ _ _ us hl => match us, hl with | [_, _], _ => rfl
  have m5 := PySem.W.mg_of X G a5
  have b6 := F6.binds (ps := ["string", "at"]) fun _ _ _ _ _ _ us hl => match us, hl with | [_, _], _ => rfl
  have m6 := PySem.W.mg_of X G a6
  have b7 := F7.binds (ps := ["_law_script"]) fun _ _ _ _ _ _ us hl => match us, hl with | [_], _ => rfl
  have m7 := PySem.W.mg_of X G a7
  have b8 := F8.binds (ps := ["_law_bag_here", "_law_size"]) fun _ _ _ _ _ _ us hl => match us, hl with | [_, _], _ => rfl
  have m8 := PySem.W.mg_of X G a8
  have b9 := F9.binds (ps := ["_law_bag_here", "_law_things"]) fun _ _ _ _ _ _ us hl => match us, hl with | [_, _], _ => rfl
  have m9 := PySem.W.mg_of X G a9
  have b10 := F10.binds (ps := ["_law_told", "_law_due"]) fun _ _ _ _ _ _ us hl => match us, hl with | [_, _], _ => rfl
  have m10 := PySem.W.mg_of X G a10
  have b11 := F11.binds (ps := ["_law_bag_here", "_law_size"]) fun _ _ _ _ _ _ us hl => match us, hl with | [_, _], _ => rfl
  have m11 := PySem.W.mg_of X G a11
  have b12 := F12.binds (ps := ["_law_one", "_law_two"]) fun _ _ _ _ _ _ us hl => match us, hl with | [_, _], _ => rfl
  have m12 := PySem.W.mg_of X G a12
  have b13 := F13.binds (ps := ["_law_word"]) fun _ _ _ _ _ _ us hl => match us, hl with | [_], _ => rfl
  have m13 := PySem.W.mg_of X G a13
  have b14 := F14.binds (ps := ["_law_bag_here", "_law_word"]) fun _ _ _ _ _ _ us hl => match us, hl with | [_, _], _ => rfl
  have m14 := PySem.W.mg_of X G a14
  have b15 := F15.binds (ps := ["_law_word"]) fun _ _ _ _ _ _ us hl => match us, hl with | [_], _ => rfl
  have m15 := PySem.W.mg_of X G a15
  have b16 := F16.binds (ps := ["_law_bag_here", "_law_word"]) fun _ _ _ _ _ _ us hl => match us, hl with | [_, _], _ => rfl
  have m16 := PySem.W.mg_of X G a16
  have n_len := PySem.W.mg_none_of X G z1
  have n_range := PySem.W.mg_none_of X G z2
  have n_reversed := PySem.W.mg_none_of X G z3
  have n_sorted := PySem.W.mg_none_of X G z4
  have n_min := PySem.W.mg_none_of X G z5
  have n_max := PySem.W.mg_none_of X G z6
  have n_int := PySem.W.mg_none_of X G z7
  have n_list := PySem.W.mg_none_of X G z8
  have n_tuple := PySem.W.mg_none_of X G z9
  have n_isinstance := PySem.W.mg_none_of X G z10
  have n_dict := PySem.W.mg_none_of X G z11
  have n_bool := PySem.W.mg_none_of X G z12
  have n_str := PySem.W.mg_none_of X G z13
  have n_all := PySem.W.mg_none_of X G z14
  have n_zip := PySem.W.mg_none_of X G z15
  have mL : mg "LETTERS" = some (.str (T Nb.ltrs) tkL) := by
    rw [← lit_acgt]
    exact PySem.W.mg_of X G aL
  have kbN := kb_of F1 (ps := ["source"]) (by decide) fun _ _ _ _ _ _ us hl => match us, hl with | [_], _ => rfl
  have kbC := kb_of F3 (ps := ["string", "source"]) (by decide) fun _ _ _ _ _ _ us hl => match us, hl with | [_, _], _ => rfl
  refine ⟨PySem.W.fnOf "law" "law" (defArgs sLaw) (defBody sLaw) (defScope sLaw) .none kV17 dc17 pm17 an17 cd17 ct17, fun s v => .of_eq rfl, fun base _ _ => ?_⟩
  have Nm : Names mg := ⟨n_isinstance, n_list, n_tuple, n_dict, n_bool, n_str, n_int, n_len, n_all, n_zip⟩
  have GSw := ok_sw (P := l.prog) (w := w) (mg := mg) (base := base) (k := 0) F2 n_sorted
  have GNb := ok_nb (P := l.prog) (w := w) (mg := mg) (base := base) F1 n_len n_range n_reversed mL GSw k2 m2 b2
  have GFd := ok_fd (P := l.prog) (w := w) (mg := mg) (base := base) (k := 0) F5 n_len n_min n_range
  have GRs := ok_rs (P := l.prog) (w := w) (mg := mg) (base := base) (k := 0) F6
  have GCh := ok_ch (P := l.prog) (w := w) (mg := mg) (base := base) (k := 0) F4 n_len GFd k5 m5 b5 GRs k6 m6 b6
  have GCo := ok_co (P := l.prog) (w := w) (mg := mg) (base := base) (k := 1) F3 GCh k4 m4 b4
  have GBag := ok_bag (P := l.prog) (w := w) (mg := mg) (base := base) (k := 0) F7 n_int n_list
  have GDraw := ok_draw (P := l.prog) (w := w) (mg := mg) (base := base) (k := 0) F8 n_len n_int
  have GOfS := ok_ofS (P := l.prog) (w := w) (mg := mg) (base := base) (k := 0) F9 n_len GDraw k8 m8 b8
  have GOfL := ok_ofL (P := l.prog) (w := w) (mg := mg) (base := base) (k := 0) F9 n_len GDraw k8 m8 b8
  have GLike := ok_like (P := l.prog) (w := w) (mg := mg) (base := base) (k := 0) F10 Nm m10 b10
  have GStr := ok_str (P := l.prog) (w := w) (mg := mg) (base := base) (k := 0) F11 n_len n_range GDraw k8 m8 b8 GOfS GOfL k9 m9 b9
  have GNear := ok_near (P := l.prog) (w := w) (mg := mg) (base := base) (k := 0) F12 n_len n_min n_max
  have GRuns := ok_runs (P := l.prog) (w := w) (mg := mg) (base := base) (k := 0) F13 n_len n_range
  have GHurt := ok_hurt (P := l.prog) (w := w) (mg := mg) (base := base) (k := 0) F14 n_len GDraw k8 m8 b8 GOfS k9 m9 b9
  have GAr := ok_ar (P := l.prog) (w := w) (mg := mg) (base := base) F15 n_len n_range n_list n_isinstance n_str GNb k1 m1 b1 GNear k12 m12 b12 GRuns k13 m13 b13
  have GBw := ok_bw (P := l.prog) (w := w) (mg := mg) (base := base) F16 n_range n_list n_tuple GNb k1 m1 b1 kbN GOfL k9 m9 b9 GLike k10 m10 b10 GCo k3 m3 b3 kbC
  exact ok_law F17 n_range n_list GBag k7 m7 b7 GDraw k8 m8 b8 GOfL k9 m9 b9 GLike k10 m10 b10 GStr k11 m11 b11 GNear k12 m12 b12 GHurt k14 m14 b14 GAr k15 m15 b15 GBw k16 m16 b16 GNb k1 m1 b1 GCo k3 m3 b3
theorem walk {l : PySem.W.OpenLaw} {q : Program} {loose : List Str} {XP : (Str → Option Value) → Heap → Prop} {YP : World → Heap → Prop} {d : DefRec} {K : Params → PySem.W.Frag} (hn : l.most = some 63) (hdf : d.params.defaults = [])
    (hY : ∀ (w : World) (h : Heap), YP w h → (K w.params).In h)
    (F : ∀ (w : World) (mg : Str → Option Value) (fa : Addr) (h : Heap), (K w.params).In h → h.Ns mainGlobals mg → mg d.name = some (.ref fa) →
      ∃ fd : FuncData, (∀ (s : Shared) (u : Value), BindsTo s fd ⟨[u], []⟩ [("_law_script", u)]) ∧ ∀ base : Heap, (K w.params).In base → base.Ns mainGlobals mg → FnOk l.prog w (K w.params) mg base CX0 7 fa fd ["_law_script"] (spLaw (K w.params))) :
    PySem.W.WalkO q loose XP YP l.row.toRowW d [] (fun f vs => PySem.call f vs) :=
  L2.walk_of (n := 63) (k := 7) (x := "_law_script") (CX := fun _ => CX0) (sp := fun w => spLaw (K w.params)) hn (by decide) hdf ⟨rfl, by decide, by decide⟩ hY F (fun _ _ a ns hl _ hS => ⟨a, ns, rfl, hS, hl, fun _ => rfl⟩) fun _ _ _ _ _ z => z
end K4
open PySem PySem.W PyProof.Rows
set_option maxRecDepth 100000 in
set_option maxHeartbeats 0 in
theorem PySem.Challenge.cw_jartext_k04_whole_neighbours_of_strings_holds : PySem.Challenge.rw_jartext_k04_whole_neighbours_of_strings.Holds := by
  w_on; o_law; k_head; (case hw => w_witness2)
  k_fill
  refine K4.walk (l := PySem.Challenge.rw_jartext_k04_whole_neighbours_of_strings) rfl rfl (fun w h Y => PySem.W.kIn_of Y) ?F
  case F =>
    intro w mg fa h KX G hmg
    refine' K4.all_mk KX G hmg ?a1 ?l1 ?c1 ?k1 ?a2 ?l2 ?c2 ?k2 ?a3 ?l3 ?c3 ?k3 ?a4 ?l4 ?c4 ?k4 ?a5 ?l5 ?c5 ?k5 ?a6 ?l6 ?c6 ?k6 ?a7 ?l7 ?c7 ?k7 ?a8 ?l8 ?c8 ?k8 ?a9 ?l9 ?c9 ?k9 ?a10 ?l10 ?c10 ?k10 ?a11 ?l11 ?c11 ?k11 ?a12 ?l12 ?c12 ?k12 ?a13 ?l13 ?c13 ?k13 ?a14 ?l14 ?c14 ?k14 ?a15 ?l15 ?c15 ?k15 ?a16 ?l16 ?c16 ?k16 ?a17 ?l17 ?c17 ?k17 ?z1 ?z2 ?z3 ?z4 ?z5 ?z6 ?z7 ?z8 ?z9 ?z10 ?z11 ?z12 ?z13 ?z14 ?z15 ?aL
    (case a1 => k_is); (case l1 => k_is); (case c1 => k_is); (case k1 => k_is)
    (case a2 => k_is); (case l2 => k_is); (case c2 => k_is); (case k2 => k_is)
    (case a3 => k_is); (case l3 => k_is); (case c3 => k_is); (case k3 => k_is)
    (case a4 => k_is); (case l4 => k_is); (case c4 => k_is); (case k4 => k_is)
    (case a5 => k_is); (case l5 => k_is); (case c5 => k_is); (case k5 => k_is)
    (case a6 => k_is); (case l6 => k_is); (case c6 => k_is); (case k6 => k_is)
    (case a7 => k_is); (case l7 => k_is); (case c7 => k_is); (case k7 => k_is)
    (case a8 => k_is); (case l8 => k_is); (case c8 => k_is); (case k8 => k_is)
    (case a9 => k_is); (case l9 => k_is); (case c9 => k_is); (case k9 => k_is)
    (case a10 => k_is); (case l10 => k_is); (case c10 => k_is); (case k10 => k_is)
    (case a11 => k_is); (case l11 => k_is); (case c11 => k_is); (case k11 => k_is)
    (case a12 => k_is); (case l12 => k_is); (case c12 => k_is); (case k12 => k_is)
    (case a13 => k_is); (case l13 => k_is); (case c13 => k_is); (case k13 => k_is)
    (case a14 => k_is); (case l14 => k_is); (case c14 => k_is); (case k14 => k_is)
    (case a15 => k_is); (case l15 => k_is); (case c15 => k_is); (case k15 => k_is)
    (case a16 => k_is); (case l16 => k_is); (case c16 => k_is); (case k16 => k_is)
    (case a17 => k_is); (case l17 => k_is); (case c17 => k_is); (case k17 => k_is)
    (case z1 => k_is); (case z2 => k_is); (case z3 => k_is); (case z4 => k_is)
    (case z5 => k_is); (case z6 => k_is); (case z7 => k_is); (case z8 => k_is)
    (case z9 => k_is); (case z10 => k_is); (case z11 => k_is); (case z12 => k_is)
    (case z13 => k_is); (case z14 => k_is); (case z15 => k_is); (case aL => k_is)

import PyProof.Rows.All
import Wide.All
import OpenK.AllK
import Wide.FinOn
import PyQr02
import PyProof.EqAt
import PyProof.EqKinds
import PyProof.TupleCall
import Open.SpecLaws
import KE.OsGo
import HandS.ForSpec
import HandS.Comp
import HandS.Iter
import HandS.Zip
import HandS.Evl
import HandS.TupAny
import HandS.Style
import PySem.Challenge.RW_relationdesk_s01_answers
import KE.GoesEnum
import KE.DataMinMax
import KE.SortData
import HandS.SortKw
import KE.OsArith
import HandS.Text
set_option autoImplicit false
/-! RdM1: heights: the least coordinates, if any there are. -/
namespace Rd
open Qr

def wt (e : Edge) : Nat := if e.strict = true then 1 else 0
/-- a solution of the constraints -/
def Sol (es : List Edge) (f : Nat → Nat) : Prop := ∀ e ∈ es, f e.i + wt e ≤ f e.j
abbrev at0 (h : List Nat) (i : Nat) : Nat := h.getD i 0

theorem fine_iff (es : List Edge) (h : List Nat) : fine es h = true ↔ Sol es (at0 h) := by
  unfold fine Sol wt at0
  rw [List.all_eq_true]
  constructor
  · intro q e he
    exact of_decide_eq_true (q e he)
  · intro q e he
    exact decide_eq_true (q e he)

def raise1 (h : List Nat) (e : Edge) : List Nat := if at0 h e.j < at0 h e.i + wt e then h.set e.j (at0 h e.i + wt e) else h
theorem raise_eq (es : List Edge) (h : List Nat) : raise es h = es.foldl raise1 h := rfl
theorem raise1_len (h : List Nat) (e : Edge) : (raise1 h e).length = h.length := by
  unfold raise1; split <;> simp
theorem at0_set (h : List Nat) (j v i : Nat) : at0 (h.set j v) i = if i = j ∧ j < h.length then v else at0 h i := by
  unfold at0
  rw [List.getD_eq_getElem?_getD, List.getD_eq_getElem?_getD, List.getElem?_set]
  by_cases e : j = i
  · subst e
    by_cases c : j < h.length
    · simp [c]
    · simp [c]
  · have e' : ¬ i = j := fun q => e q.symm
    simp [e, e']
theorem raise1_ge (h : List Nat) (e : Edge) (i : Nat) : at0 h i ≤ at0 (raise1 h e) i := by
  unfold raise1
  split
  · rw [at0_set]
    split
    · rename_i h1 h2
      rw [h2.1]; omega
    · exact Nat.le_refl _
  · exact Nat.le_refl _
theorem raise1_le {es : List Edge} {f : Nat → Nat} (S : Sol es f) (h : List Nat) (e : Edge) (he : e ∈ es) (hl : ∀ i, at0 h i ≤ f i) (i : Nat) : at0 (raise1 h e) i ≤ f i := by
  unfold raise1
  split
  · rw [at0_set]
    split
    · rename_i h1 h2
      have := S e he
      have := hl e.i
      rw [h2.1]; omega
    · exact hl i
  · exact hl i
theorem raise1_edge (h : List Nat) (e : Edge) (hj : e.j < h.length) : at0 h e.i + wt e ≤ at0 (raise1 h e) e.j := by
  unfold raise1
  split
  · rw [at0_set, if_pos ⟨rfl, hj⟩]
    exact Nat.le_refl _
  · omega
theorem raise_len : ∀ (es : List Edge) (h : List Nat), (es.foldl raise1 h).length = h.length
  | [], _ => rfl
  | e :: es, h => by rw [List.foldl_cons, raise_len es, raise1_len]
theorem raise_ge : ∀ (es : List Edge) (h : List Nat) (i : Nat), at0 h i ≤ at0 (es.foldl raise1 h) i
  | [], _, _ => Nat.le_refl _
  | e :: es, h, i => Nat.le_trans (raise1_ge h e i) (by rw [List.foldl_cons]; exact raise_ge es _ i)
theorem raise_le {es0 : List Edge} {f : Nat → Nat} (S : Sol es0 f) : ∀ (es : List Edge) (h : List Nat), (∀ e ∈ es, e ∈ es0) → (∀ i, at0 h i ≤ f i) → ∀ i, at0 (es.foldl raise1 h) i ≤ f i
  | [], _, _, hl, i => hl i
  | e :: es, h, hs, hl, i => by
    rw [List.foldl_cons]
    exact raise_le S es _ (fun x hx => hs x (List.mem_cons_of_mem _ hx)) (raise1_le S h e (hs e List.mem_cons_self) hl) i
theorem raise_edge : ∀ (es : List Edge) (h : List Nat) (e : Edge), e ∈ es → (∀ e ∈ es, e.j < h.length) → at0 h e.i + wt e ≤ at0 (es.foldl raise1 h) e.j
  | [], _, _, he, _ => nomatch he
  | x :: es, h, e, he, hj => by
    rw [List.foldl_cons]
    rcases List.mem_cons.mp he with rfl | he'
    · exact Nat.le_trans (raise1_edge h e (hj e List.mem_cons_self)) (raise_ge es _ _)
    · have := raise1_ge h x e.i
      have := raise_edge es (raise1 h x) e he' (fun y hy => by rw [raise1_len]; exact hj y (List.mem_cons_of_mem _ hy))
      omega

/-- there is a least solution, if there is any -/
theorem least_sol {es : List Edge} {f : Nat → Nat} (S : Sol es f) : ∃ L : Nat → Nat, Sol es L ∧ ∀ g, Sol es g → ∀ i, L i ≤ g i := by
  have hex : ∀ i, ∃ v, (∃ g, Sol es g ∧ g i = v) ∧ ∀ g, Sol es g → v ≤ g i := by
    intro i
    have key : ∀ n, (∃ g, Sol es g ∧ g i = n) → ∃ v, (∃ g, Sol es g ∧ g i = v) ∧ ∀ g, Sol es g → v ≤ g i := by
      intro n
      induction n using Nat.strongRecOn with
      | _ n ih =>
        intro hn
        by_cases c : ∃ m, m < n ∧ ∃ g, Sol es g ∧ g i = m
        · obtain ⟨m, hm, hg⟩ := c
          exact ih m hm hg
        · refine ⟨n, hn, fun g hg => ?_⟩
          apply Nat.le_of_not_lt
          intro hlt
          exact c ⟨g i, hlt, g, hg, rfl⟩
    exact key (f i) ⟨f, S, rfl⟩
  refine ⟨fun i => Classical.choose (hex i), fun e he => ?_, fun g hg i => (Classical.choose_spec (hex i)).2 g hg⟩
  obtain ⟨⟨g, hg, e1⟩, _⟩ := Classical.choose_spec (hex e.j)
  have h2 := (Classical.choose_spec (hex e.i)).2 g hg
  have h3 := hg e he
  show Classical.choose (hex e.i) + wt e ≤ Classical.choose (hex e.j)
  omega

/-- if something is below the least solution, a round settles a coordinate -/
theorem progress {es : List Edge} {L : Nat → Nat} (S : Sol es L) (mn : ∀ g, Sol es g → ∀ i, L i ≤ g i) (h : List Nat) (hl : ∀ i, at0 h i ≤ L i) (hj : ∀ e ∈ es, e.j < h.length)
    (hu : ∃ i, at0 h i < L i) : ∃ i, at0 h i < L i ∧ at0 (es.foldl raise1 h) i = L i := by
  apply Classical.byContradiction
  intro no
  have no' : ∀ i, at0 h i < L i → at0 (es.foldl raise1 h) i < L i := fun i hi => by
    have h1 := raise_le S es h (fun _ q => q) hl i
    have h2 : at0 (es.foldl raise1 h) i ≠ L i := fun q => no ⟨i, hi, q⟩
    omega
  let g : Nat → Nat := fun i => if at0 h i < L i then L i - 1 else L i
  have hg : Sol es g := by
    intro e he
    have h1 := S e he
    show (if at0 h e.i < L e.i then L e.i - 1 else L e.i) + wt e ≤ (if at0 h e.j < L e.j then L e.j - 1 else L e.j)
    by_cases c1 : at0 h e.i < L e.i
    · by_cases c2 : at0 h e.j < L e.j
      · rw [if_pos c1, if_pos c2]; omega
      · rw [if_pos c1, if_neg c2]; omega
    · by_cases c2 : at0 h e.j < L e.j
      · rw [if_neg c1, if_pos c2]
        have h2 := raise_edge es h e he hj
        have h3 := no' e.j c2
        have h4 := hl e.i
        omega
      · rw [if_neg c1, if_neg c2]; exact h1
  obtain ⟨i, hi⟩ := hu
  have := mn g hg i
  have e : g i = L i - 1 := if_pos hi
  omega

/-- how many of the first m coordinates are below -/
def lowN (h : List Nat) (L : Nat → Nat) : Nat → Nat
  | 0 => 0
  | m + 1 => lowN h L m + if at0 h m < L m then 1 else 0
theorem lowN_le (h : List Nat) (L : Nat → Nat) : ∀ m, lowN h L m ≤ m
  | 0 => Nat.le_refl _
  | m + 1 => by
    have := lowN_le h L m
    unfold lowN; split <;> omega
theorem lowN_zero {h : List Nat} {L : Nat → Nat} : ∀ {m}, lowN h L m = 0 → ∀ i, i < m → ¬ at0 h i < L i
  | 0, _, i, hi => absurd hi (Nat.not_lt_zero i)
  | m + 1, e, i, hi => by
    unfold lowN at e
    rcases Nat.lt_succ_iff_lt_or_eq.mp hi with hi | rfl
    · exact lowN_zero (m := m) (by omega) i hi
    · intro c
      rw [if_pos c] at e
      omega
theorem lowN_mono {h h' : List Nat} {L : Nat → Nat} (hle : ∀ i, at0 h i ≤ at0 h' i) : ∀ m, lowN h' L m ≤ lowN h L m
  | 0 => Nat.le_refl _
  | m + 1 => by
    have := lowN_mono (L := L) hle m
    have := hle m
    unfold lowN
    split <;> split <;> omega
theorem lowN_lt {h h' : List Nat} {L : Nat → Nat} (hle : ∀ i, at0 h i ≤ at0 h' i) : ∀ m i, i < m → at0 h i < L i → at0 h' i = L i → lowN h' L m < lowN h L m
  | 0, i, hi, _, _ => absurd hi (Nat.not_lt_zero i)
  | m + 1, i, hi, h1, h2 => by
    unfold lowN
    rcases Nat.lt_succ_iff_lt_or_eq.mp hi with hi | rfl
    · have := lowN_lt hle m i hi h1 h2
      have := hle m
      split <;> split <;> omega
    · have := lowN_mono (L := L) hle i
      rw [if_pos h1, if_neg (by omega)]
      omega

theorem rounds_len (es : List Edge) : ∀ (k : Nat) (h : List Nat), (rounds es k h).length = h.length
  | 0, _ => rfl
  | k + 1, h => by rw [rounds, rounds_len es k, raise_eq, raise_len]
/-- behind so many rounds as there are coordinates below, all is settled -/
theorem rounds_settle {es : List Edge} {L : Nat → Nat} (S : Sol es L) (mn : ∀ g, Sol es g → ∀ i, L i ≤ g i) : ∀ (k : Nat) (h : List Nat), (∀ i, at0 h i ≤ L i) → (∀ e ∈ es, e.j < h.length) → lowN h L h.length ≤ k → ∀ i, at0 (rounds es k h) i = L i
  | k, h, hl, hj, hk => by
    have settled : (¬ ∃ i, at0 h i < L i) → ∀ k i, at0 (rounds es k h) i = L i := by
      intro no
      have e0 : ∀ i, at0 h i = L i := fun i => by
        have := hl i
        have : ¬ at0 h i < L i := fun q => no ⟨i, q⟩
        omega
      have gen : ∀ (k : Nat) (h : List Nat), (∀ i, at0 h i = L i) → ∀ i, at0 (rounds es k h) i = L i := by
        intro k
        induction k with
        | zero => intro h e i; exact e i
        | succ k ih =>
          intro h e i
          rw [rounds]
          refine ih _ (fun j => ?_) i
          rw [raise_eq]
          have h1 := raise_le S es h (fun _ q => q) (fun i => Nat.le_of_eq (e i)) j
          have h2 := raise_ge es h j
          have := e j
          omega
      exact fun k => gen k h e0
    by_cases c : ∃ i, at0 h i < L i
    · obtain ⟨i, h1, h2⟩ := progress S mn h hl hj c
      have hi : i < h.length := by
        apply Nat.lt_of_not_le
        intro q
        have e : at0 (es.foldl raise1 h) i = 0 := by
          unfold at0
          rw [List.getD_eq_getElem?_getD, List.getElem?_eq_none (by rw [raise_len]; exact q)]
          rfl
        omega
      have h3 := lowN_lt (raise_ge es h) h.length i hi h1 h2
      cases k with
      | zero => omega
      | succ k =>
        intro j
        rw [rounds, raise_eq]
        refine rounds_settle S mn k _ (raise_le S es h (fun _ q => q) hl) (fun e he => by rw [raise_len]; exact hj e he) (by rw [raise_len]; omega) j
    · exact settled c k

/-- all marks of the constraints are below m -/
def InR (m : Nat) (es : List Edge) : Prop := ∀ e ∈ es, e.j < m
theorem at0_zero (m i : Nat) : at0 (List.replicate m 0) i = 0 := by
  unfold at0
  rw [List.getD_eq_getElem?_getD, List.getElem?_replicate]
  split <;> rfl
/-- two lists of one length with the same numbers -/
theorem ext0 {a b : List Nat} (hl : a.length = b.length) (h : ∀ i, at0 a i = at0 b i) : a = b := by
  apply List.ext_getElem hl
  intro i h1 h2
  have := h i
  unfold at0 at this
  rw [List.getD_eq_getElem?_getD, List.getD_eq_getElem?_getD, List.getElem?_eq_getElem h1, List.getElem?_eq_getElem h2] at this
  exact this
theorem heights_some {k n : Nat} {l : List Fact} {h : List Nat} (e : heights k n l = some h) : Sol (told k n l) (at0 h) ∧ h.length = n * marks k := by
  unfold heights at e
  simp only at e
  split at e
  · rename_i c
    have e' := Option.some.inj e
    subst e'
    refine ⟨(fine_iff _ _).mp c, ?_⟩
    rw [rounds_len, List.length_replicate]
  · cases e
/-- the least solution is what heights gives -/
theorem heights_of {k n : Nat} {l : List Fact} {h : List Nat} (hr : InR (n * marks k) (told k n l)) (hl : h.length = n * marks k) (S : Sol (told k n l) (at0 h)) (mn : ∀ g, Sol (told k n l) g → ∀ i, at0 h i ≤ g i) : heights k n l = some h := by
  have key := rounds_settle S mn (n * marks k + 1) (List.replicate (n * marks k) 0) (fun i => by rw [at0_zero]; exact Nat.zero_le _) (fun e he => by rw [List.length_replicate]; exact hr e he)
    (Nat.le_trans (lowN_le _ _ _) (by rw [List.length_replicate]; omega))
  have e : rounds (told k n l) (n * marks k + 1) (List.replicate (n * marks k) 0) = h := ext0 (by rw [rounds_len, List.length_replicate, hl]) key
  have hf : fine (told k n l) h = true := (fine_iff _ _).mpr S
  unfold heights
  simp only
  rw [e, if_pos hf]
theorem heights_isSome {k n : Nat} {l : List Fact} {f : Nat → Nat} (hr : InR (n * marks k) (told k n l)) (S : Sol (told k n l) f) : (heights k n l).isSome = true := by
  obtain ⟨L, SL, mn⟩ := least_sol S
  have key := rounds_settle SL mn (n * marks k + 1) (List.replicate (n * marks k) 0) (fun i => by rw [at0_zero]; exact Nat.zero_le _) (fun e he => by rw [List.length_replicate]; exact hr e he)
    (Nat.le_trans (lowN_le _ _ _) (by rw [List.length_replicate]; omega))
  have e : at0 (rounds (told k n l) (n * marks k + 1) (List.replicate (n * marks k) 0)) = L := funext key
  have hf : fine (told k n l) (rounds (told k n l) (n * marks k + 1) (List.replicate (n * marks k) 0)) = true := (fine_iff _ _).mpr (by rw [e]; exact SL)
  unfold heights
  simp only
  rw [if_pos hf]
  rfl
end Rd

set_option autoImplicit false
/-! RdM2: the relation of two objects by their coordinates; the constraints say just that. -/
namespace Rd
open Qr

def cmp (a b : Nat) : Nat := if a < b then 0 else if a = b then 1 else 2
/-- the relation of two intervals -/
def irel (s e s' e' : Nat) : Nat :=
  if e ≤ s' then (if e = s' then 1 else 0)
  else if e' ≤ s then (if s = e' then 11 else 12)
  else if e < e' then (if s < s' then 2 else if s = s' then 3 else 4)
  else if e = e' then (if s < s' then 7 else if s = s' then 6 else 5)
  else (if s < s' then 8 else if s = s' then 9 else 10)
/-- the relation of the objects i and j by the coordinates f -/
def relOf (k : Nat) (f : Nat → Nat) (i j : Nat) : Nat :=
  if k = 1 then irel (f (2 * i)) (f (2 * i + 1)) (f (2 * j)) (f (2 * j + 1))
  else if k = 3 then 3 * cmp (f (2 * i)) (f (2 * j)) + cmp (f (2 * i + 1)) (f (2 * j + 1))
  else cmp (f i) (f j)

def holds (f : Nat → Nat) (c : Comp) : Prop := if c.c = 0 then f c.i < f c.j else if c.c = 2 then f c.j < f c.i else f c.i = f c.j

theorem sol_append {a b : List Edge} {f : Nat → Nat} : Sol (a ++ b) f ↔ Sol a f ∧ Sol b f := by
  unfold Sol
  constructor
  · intro h
    exact ⟨fun e he => h e (List.mem_append.mpr (.inl he)), fun e he => h e (List.mem_append.mpr (.inr he))⟩
  · rintro ⟨h1, h2⟩ e he
    rcases List.mem_append.mp he with he | he
    · exact h1 e he
    · exact h2 e he
theorem sol_nil {f : Nat → Nat} : Sol [] f := fun _ h => nomatch h
theorem sol_cons {e : Edge} {l : List Edge} {f : Nat → Nat} : Sol (e :: l) f ↔ f e.i + wt e ≤ f e.j ∧ Sol l f := by
  unfold Sol
  constructor
  · intro h
    exact ⟨h e List.mem_cons_self, fun x hx => h x (List.mem_cons_of_mem _ hx)⟩
  · rintro ⟨h1, h2⟩ x hx
    rcases List.mem_cons.mp hx with rfl | hx
    · exact h1
    · exact h2 x hx
theorem edges_cons (c : Comp) (l : List Comp) : edges (c :: l) = (if c.c = 0 then [⟨c.i, c.j, true⟩] else if c.c = 2 then [⟨c.j, c.i, true⟩] else [⟨c.i, c.j, false⟩, ⟨c.j, c.i, false⟩]) ++ edges l := by
  unfold edges
  rw [List.flatMap_cons]
theorem edges_append (a b : List Comp) : edges (a ++ b) = edges a ++ edges b := by
  unfold edges
  rw [List.flatMap_append]
theorem sol_edges (f : Nat → Nat) : ∀ l : List Comp, Sol (edges l) f ↔ ∀ c ∈ l, holds f c
  | [] => ⟨fun _ c (h : c ∈ []) => absurd h List.not_mem_nil, fun _ => sol_nil⟩
  | c :: l => by
    rw [edges_cons, sol_append, sol_edges f l, List.forall_mem_cons]
    apply and_congr_left
    intro _
    unfold holds
    by_cases h0 : c.c = 0
    · rw [if_pos h0, if_pos h0, sol_cons]
      simp only [wt, if_true, sol_nil, and_true]
      omega
    · by_cases h2 : c.c = 2
      · rw [if_neg h0, if_pos h2, if_neg h0, if_pos h2, sol_cons]
        simp only [wt, if_true, sol_nil, and_true]
        omega
      · rw [if_neg h0, if_neg h2, if_neg h0, if_neg h2, sol_cons, sol_cons]
        simp only [wt, Bool.false_eq_true, if_false, sol_nil, and_true]
        omega

theorem cmp_holds (f : Nat → Nat) (i j c : Nat) (hc : c < 3) : holds f ⟨i, j, c⟩ ↔ cmp (f i) (f j) = c := by
  unfold holds cmp
  simp only
  have : c = 0 ∨ c = 1 ∨ c = 2 := by omega
  rcases this with rfl | rfl | rfl
  · simp only [if_true]
    split <;> rename_i h
    · simp [h]
    · split <;> simp [h]
  · rw [if_neg (by decide), if_neg (by decide)]
    split <;> rename_i h
    · exact ⟨fun q => by omega, fun q => by omega⟩
    · split <;> rename_i h2
      · simp [h2]
      · exact ⟨fun q => by omega, fun q => by omega⟩
  · rw [if_neg (by decide), if_pos rfl]
    split <;> rename_i h
    · exact ⟨fun q => by omega, fun q => by omega⟩
    · split <;> rename_i h2
      · exact ⟨fun q => by omega, fun q => by omega⟩
      · exact ⟨fun _ => rfl, fun _ => by omega⟩

theorem cmp_lt (a b : Nat) : cmp a b < 3 := by
  unfold cmp
  split
  · decide
  · split <;> decide

/-- what a relation of intervals requires -/
def spanP (a b c d : Nat) : Nat → Prop
  | 0 => b < c
  | 1 => b = c
  | 2 => a < c ∧ c < b ∧ b < d
  | 3 => a = c ∧ b < d
  | 4 => c < a ∧ b < d
  | 5 => c < a ∧ b = d
  | 6 => a = c ∧ b = d
  | 7 => a < c ∧ b = d
  | 8 => a < c ∧ d < b
  | 9 => a = c ∧ d < b
  | 10 => c < a ∧ a < d ∧ d < b
  | 11 => a = d
  | _ => d < a
theorem case13 {P : Nat → Prop} {r : Nat} (hr : r < 13) (h0 : P 0) (h1 : P 1) (h2 : P 2) (h3 : P 3) (h4 : P 4) (h5 : P 5) (h6 : P 6) (h7 : P 7) (h8 : P 8) (h9 : P 9) (h10 : P 10) (h11 : P 11) (h12 : P 12) : P r := by
  have : r = 0 ∨ r = 1 ∨ r = 2 ∨ r = 3 ∨ r = 4 ∨ r = 5 ∨ r = 6 ∨ r = 7 ∨ r = 8 ∨ r = 9 ∨ r = 10 ∨ r = 11 ∨ r = 12 := by omega
  rcases this with rfl | rfl | rfl | rfl | rfl | rfl | rfl | rfl | rfl | rfl | rfl | rfl | rfl <;> assumption
theorem span_irel {a b c d : Nat} (h1 : a < b) (h2 : c < d) : ∀ r, r < 13 → spanP a b c d r → irel a b c d = r := by
  intro r hr
  refine case13 (P := fun r => spanP a b c d r → irel a b c d = r) hr ?_ ?_ ?_ ?_ ?_ ?_ ?_ ?_ ?_ ?_ ?_ ?_ ?_ <;>
  simp only [spanP, irel] <;> intro q
  · rw [if_pos (by omega), if_neg (by omega)]
  · rw [if_pos (by omega), if_pos (by omega)]
  · rw [if_neg (by omega), if_neg (by omega), if_pos (by omega), if_pos (by omega)]
  · rw [if_neg (by omega), if_neg (by omega), if_pos (by omega), if_neg (by omega), if_pos (by omega)]
  · by_cases z : b ≤ c
    · omega
    · rw [if_neg (by omega), if_neg (by omega), if_pos (by omega), if_neg (by omega), if_neg (by omega)]
  · rw [if_neg (by omega), if_neg (by omega), if_neg (by omega), if_pos (by omega), if_neg (by omega), if_neg (by omega)]
  · rw [if_neg (by omega), if_neg (by omega), if_neg (by omega), if_pos (by omega), if_neg (by omega), if_pos (by omega)]
  · rw [if_neg (by omega), if_neg (by omega), if_neg (by omega), if_pos (by omega), if_pos (by omega)]
  · rw [if_neg (by omega), if_neg (by omega), if_neg (by omega), if_neg (by omega), if_pos (by omega)]
  · rw [if_neg (by omega), if_neg (by omega), if_neg (by omega), if_neg (by omega), if_neg (by omega), if_pos (by omega)]
  · rw [if_neg (by omega), if_neg (by omega), if_neg (by omega), if_neg (by omega), if_neg (by omega), if_neg (by omega)]
  · rw [if_neg (by omega), if_pos (by omega), if_pos (by omega)]
  · rw [if_neg (by omega), if_pos (by omega), if_neg (by omega)]
theorem irel_lt (a b c d : Nat) : irel a b c d < 13 := by
  unfold irel
  repeat' split
  all_goals decide
theorem irel_span {a b c d : Nat} (h1 : a < b) (h2 : c < d) : spanP a b c d (irel a b c d) := by
  unfold irel
  repeat' split
  all_goals simp only [spanP]
  all_goals omega
/-- what the comparisons of a relation of intervals say -/
theorem spans_spanP (r : Nat) (hr : r < 13) (g : Nat → Nat) : (∀ x ∈ spans r, holds g x) ↔ spanP (g 0) (g 1) (g 2) (g 3) r := by
  refine case13 (P := fun r => (∀ x ∈ spans r, holds g x) ↔ spanP (g 0) (g 1) (g 2) (g 3) r) hr ?_ ?_ ?_ ?_ ?_ ?_ ?_ ?_ ?_ ?_ ?_ ?_ ?_ <;>
  simp [spans, holds, spanP]
theorem spans_iff (a b c d r : Nat) (hr : r < 13) (h1 : a < b) (h2 : c < d) (g : Nat → Nat) (g0 : g 0 = a) (g1 : g 1 = b) (g2 : g 2 = c) (g3 : g 3 = d) :
    (∀ x ∈ spans r, holds g x) ↔ irel a b c d = r := by
  rw [spans_spanP r hr, g0, g1, g2, g3]
  constructor
  · exact span_irel h1 h2 r hr
  · rintro rfl
    exact irel_span h1 h2

theorem size_of (k r : Nat) (hk : k = 0 ∨ k = 1 ∨ k = 3) (hr : r < size k) : (k = 0 → r < 3) ∧ (k = 1 → r < 13) ∧ (k = 3 → r < 9) := by
  rcases hk with rfl | rfl | rfl <;> simp [size] at hr <;> omega

/-- the comparisons of a fact say which relation it is -/
theorem comps_iff (k : Nat) (hk : k = 0 ∨ k = 1 ∨ k = 3) (x : Fact) (hr : x.r < size k) (f : Nat → Nat) (hi : k = 1 → f (2 * x.i) < f (2 * x.i + 1) ∧ f (2 * x.j) < f (2 * x.j + 1)) :
    (∀ c ∈ comps k x, holds f c) ↔ relOf k f x.i x.j = x.r := by
  rcases hk with rfl | rfl | rfl
  · have h3 : x.r < 3 := by simpa [size] using hr
    unfold comps relOf
    rw [if_pos rfl, if_neg (by decide), if_neg (by decide)]
    simp only [List.forall_mem_cons, List.not_mem_nil, false_implies, implies_true, and_true]
    exact cmp_holds f _ _ _ h3
  · have h3 : x.r < 13 := by simpa [size] using hr
    obtain ⟨h1, h2⟩ := hi rfl
    unfold comps relOf
    rw [if_neg (by decide), if_neg (by decide), if_pos rfl]
    have key := spans_iff (f (2 * x.i)) (f (2 * x.i + 1)) (f (2 * x.j)) (f (2 * x.j + 1)) x.r h3 h1 h2
      (fun y => f (if y < 2 then 2 * x.i + y else 2 * x.j + (y - 2))) rfl rfl rfl rfl
    rw [← key]
    simp only [List.forall_mem_map]
    rfl
  · have h3 : x.r < 9 := by simpa [size] using hr
    unfold comps relOf
    rw [if_neg (by decide), if_pos rfl, if_neg (by decide), if_pos rfl]
    simp only [List.forall_mem_cons, List.not_mem_nil, false_implies, implies_true, and_true]
    rw [cmp_holds f _ _ _ (by omega), cmp_holds f _ _ _ (by omega)]
    have := cmp_lt (f (2 * x.i)) (f (2 * x.j))
    have := cmp_lt (f (2 * x.i + 1)) (f (2 * x.j + 1))
    omega

/-- a fact of objects below n, of a relation of the kind -/
def FactOk (k n : Nat) (x : Fact) : Prop := x.i < n ∧ x.j < n ∧ x.r < size k
/-- intervals end after they start -/
def Wide (k n : Nat) (f : Nat → Nat) : Prop := k = 1 → ∀ i, i < n → f (2 * i) < f (2 * i + 1)

theorem sol_told (k n : Nat) (hk : k = 0 ∨ k = 1 ∨ k = 3) (l : List Fact) (hl : ∀ x ∈ l, FactOk k n x) (f : Nat → Nat) :
    Sol (told k n l) f ↔ Wide k n f ∧ ∀ x ∈ l, relOf k f x.i x.j = x.r := by
  unfold told
  rw [sol_append, sol_edges]
  have hw : Sol (if k = 1 then (List.range n).map fun i => (⟨2 * i, 2 * i + 1, true⟩ : Edge) else []) f ↔ Wide k n f := by
    unfold Wide
    by_cases c : k = 1
    · rw [if_pos c]
      unfold Sol
      simp only [List.forall_mem_map, List.mem_range, wt, if_true]
      exact ⟨fun h _ i hi => h i hi, fun h i hi => h c i hi⟩
    · rw [if_neg c]
      exact ⟨fun _ q => absurd q c, fun _ => sol_nil⟩
  rw [hw, and_comm]
  apply and_congr_right
  intro W
  constructor
  · intro h x hx
    refine (comps_iff k hk x (hl x hx).2.2 f (fun e => ⟨W e _ (hl x hx).1, W e _ (hl x hx).2.1⟩)).mp fun c hc => h c ?_
    exact List.mem_flatMap.mpr ⟨x, hx, hc⟩
  · intro h c hc
    obtain ⟨x, hx, hc⟩ := List.mem_flatMap.mp hc
    exact (comps_iff k hk x (hl x hx).2.2 f (fun e => ⟨W e _ (hl x hx).1, W e _ (hl x hx).2.1⟩)).mpr (h x hx) c hc

theorem spans_lt : ∀ r, r < 13 → ∀ c ∈ spans r, c.i < 4 ∧ c.j < 4 := by decide
theorem spans_lt' (r : Nat) : ∀ c ∈ spans r, c.i < 4 ∧ c.j < 4 := by
  by_cases h : r < 13
  · exact spans_lt r h
  · have e : spans r = [⟨0, 3, 2⟩] := by
      unfold spans
      split <;> first | rfl | omega
    rw [e]
    intro c hc
    rw [List.mem_singleton] at hc
    subst hc
    decide
theorem edges_lt (m : Nat) (l : List Comp) (h : ∀ c ∈ l, c.i < m ∧ c.j < m) : ∀ e ∈ edges l, e.i < m ∧ e.j < m := by
  intro e he
  unfold edges at he
  obtain ⟨c, hc, he⟩ := List.mem_flatMap.mp he
  obtain ⟨h1, h2⟩ := h c hc
  split at he
  · rw [List.mem_singleton] at he; subst he; exact ⟨h1, h2⟩
  · split at he
    · rw [List.mem_singleton] at he; subst he; exact ⟨h2, h1⟩
    · rcases List.mem_cons.mp he with rfl | he
      · exact ⟨h1, h2⟩
      · rw [List.mem_singleton] at he; subst he; exact ⟨h2, h1⟩
theorem told_inR (k n : Nat) (hk : k = 0 ∨ k = 1 ∨ k = 3) (l : List Fact) (hl : ∀ x ∈ l, FactOk k n x) : InR (n * marks k) (told k n l) := by
  intro e he
  unfold told at he
  rcases List.mem_append.mp he with he | he
  · refine (edges_lt (n * marks k) _ (fun c hc => ?_) e he).2
    obtain ⟨x, hx, hc⟩ := List.mem_flatMap.mp hc
    obtain ⟨h1, h2, _⟩ := hl x hx
    rcases hk with rfl | rfl | rfl
    · unfold comps at hc
      rw [if_pos rfl, List.mem_singleton] at hc
      subst hc
      simp only [marks, if_true]
      omega
    · unfold comps at hc
      rw [if_neg (by decide), if_neg (by decide)] at hc
      obtain ⟨y, hy, rfl⟩ := List.mem_map.mp hc
      have := spans_lt' _ y hy
      simp only [marks, show ¬ ((1 : Nat) = 0) by decide, if_false]
      constructor <;> split <;> omega
    · unfold comps at hc
      rw [if_neg (by decide), if_pos rfl] at hc
      simp only [marks, show ¬ ((3 : Nat) = 0) by decide, if_false]
      rcases List.mem_cons.mp hc with rfl | hc
      · constructor <;> simp only <;> omega
      · rw [List.mem_singleton] at hc
        subst hc
        constructor <;> simp only <;> omega
  · by_cases hk1 : k = 1
    · subst hk1
      rw [if_pos rfl] at he
      obtain ⟨i, hi, rfl⟩ := List.mem_map.mp he
      have := List.mem_range.mp hi
      simp only [marks, show ¬ ((1 : Nat) = 0) by decide, if_false]
      omega
    · rw [if_neg hk1] at he
      cases he

/-- the same order of the coordinates below m (of positions: of those of one kind) -/
def Same (k m : Nat) (a b : Nat → Nat) : Prop := ∀ i j, i < m → j < m → (k = 3 → i % 2 = j % 2) → (a i < a j ↔ b i < b j)
theorem Same.symm {k m : Nat} {a b : Nat → Nat} (h : Same k m a b) : Same k m b a := fun i j hi hj e => (h i j hi hj e).symm
theorem Same.trans {k m : Nat} {a b c : Nat → Nat} (h : Same k m a b) (h2 : Same k m b c) : Same k m a c := fun i j hi hj e => (h i j hi hj e).trans (h2 i j hi hj e)
theorem Same.refl (k m : Nat) (a : Nat → Nat) : Same k m a a := fun _ _ _ _ _ => Iff.rfl
theorem Same.mono {k m m' : Nat} {a b : Nat → Nat} (h : Same k m a b) (hm : m' ≤ m) : Same k m' a b := fun i j hi hj e => h i j (by omega) (by omega) e

theorem cmp_same {a b c d : Nat} (h1 : a < b ↔ c < d) (h2 : b < a ↔ d < c) : cmp a b = cmp c d := by
  unfold cmp
  by_cases x : a < b
  · rw [if_pos x, if_pos (h1.mp x)]
  · rw [if_neg x, if_neg (fun q => x (h1.mpr q))]
    by_cases y : b < a
    · rw [if_neg (by omega), if_neg (by have := h2.mp y; omega)]
    · have h3 : ¬ c < d := fun q => x (h1.mpr q)
      have h4 : ¬ d < c := fun q => y (h2.mpr q)
      rw [if_pos (by omega), if_pos (by omega)]
theorem same_cmp {a b c d : Nat} (h : cmp a b = cmp c d) : (a < b ↔ c < d) ∧ (b < a ↔ d < c) := by
  unfold cmp at h
  constructor <;> (repeat' split at h) <;> omega

theorem marks_of {k : Nat} (n : Nat) (hk : k = 0 ∨ k = 1 ∨ k = 3) : (k = 0 ∧ n * marks k = n) ∨ ((k = 1 ∨ k = 3) ∧ n * marks k = 2 * n) := by
  rcases hk with rfl | rfl | rfl
  · left; simp [marks]
  · right; simp [marks]; omega
  · right; simp [marks]; omega

/-- the order of the coordinates tells the relations -/
theorem relOf_same {k n : Nat} (hk : k = 0 ∨ k = 1 ∨ k = 3) {a b : Nat → Nat} (h : Same k (n * marks k) a b) {i j : Nat} (hi : i < n) (hj : j < n) : relOf k a i j = relOf k b i j := by
  unfold relOf
  rcases hk with rfl | rfl | rfl
  · have hm : n * marks 0 = n := by simp [marks]
    rw [hm] at h
    rw [if_neg (by decide), if_neg (by decide), if_neg (by decide), if_neg (by decide)]
    exact cmp_same (h _ _ hi hj (fun q => nomatch q)) (h _ _ hj hi (fun q => nomatch q))
  · have hm : n * marks 1 = 2 * n := by simp [marks]; omega
    rw [hm] at h
    rw [if_pos rfl, if_pos rfl]
    have e1 : ∀ x y, x < 2 * n → y < 2 * n → (a x < a y ↔ b x < b y) := fun x y hx hy => h x y hx hy (fun q => nomatch q)
    have c1 := e1 (2 * i + 1) (2 * j) (by omega) (by omega)
    have c2 := e1 (2 * j) (2 * i + 1) (by omega) (by omega)
    have c3 := e1 (2 * j + 1) (2 * i) (by omega) (by omega)
    have c4 := e1 (2 * i) (2 * j + 1) (by omega) (by omega)
    have c5 := e1 (2 * i) (2 * j) (by omega) (by omega)
    have c6 := e1 (2 * j) (2 * i) (by omega) (by omega)
    have c7 := e1 (2 * i + 1) (2 * j + 1) (by omega) (by omega)
    have c8 := e1 (2 * j + 1) (2 * i + 1) (by omega) (by omega)
    unfold irel
    have t1 : (a (2 * i + 1) ≤ a (2 * j)) ↔ (b (2 * i + 1) ≤ b (2 * j)) := by omega
    have t2 : (a (2 * i + 1) = a (2 * j)) ↔ (b (2 * i + 1) = b (2 * j)) := by omega
    have t3 : (a (2 * j + 1) ≤ a (2 * i)) ↔ (b (2 * j + 1) ≤ b (2 * i)) := by omega
    have t4 : (a (2 * i) = a (2 * j + 1)) ↔ (b (2 * i) = b (2 * j + 1)) := by omega
    have t5 : (a (2 * i) = a (2 * j)) ↔ (b (2 * i) = b (2 * j)) := by omega
    have t6 : (a (2 * i + 1) = a (2 * j + 1)) ↔ (b (2 * i + 1) = b (2 * j + 1)) := by omega
    simp only [t1, t2, t3, t4, t5, t6, c5, c7]
  · have hm : n * marks 3 = 2 * n := by simp [marks]; omega
    rw [hm] at h
    rw [if_neg (by decide), if_pos rfl, if_neg (by decide), if_pos rfl]
    rw [cmp_same (h (2 * i) (2 * j) (by omega) (by omega) (fun _ => by omega)) (h (2 * j) (2 * i) (by omega) (by omega) (fun _ => by omega))]
    rw [cmp_same (h (2 * i + 1) (2 * j + 1) (by omega) (by omega) (fun _ => by omega)) (h (2 * j + 1) (2 * i + 1) (by omega) (by omega) (fun _ => by omega))]

/-- the relation of two intervals tells how their ends lie -/
theorem irel_same {a b c d a' b' c' d' : Nat} (h1 : a < b) (h2 : c < d) (h1' : a' < b') (h2' : c' < d') (e : irel a b c d = irel a' b' c' d') :
    (a < c ↔ a' < c') ∧ (c < a ↔ c' < a') ∧ (a < d ↔ a' < d') ∧ (d < a ↔ d' < a') ∧ (b < c ↔ b' < c') ∧ (c < b ↔ c' < b') ∧ (b < d ↔ b' < d') ∧ (d < b ↔ d' < b') := by
  have p := irel_span h1 h2
  have q := irel_span h1' h2'
  rw [← e] at q
  have hr := irel_lt a b c d
  generalize irel a b c d = r at p q hr
  revert p q
  refine case13 (P := fun r => spanP a b c d r → spanP a' b' c' d' r → (a < c ↔ a' < c') ∧ (c < a ↔ c' < a') ∧ (a < d ↔ a' < d') ∧ (d < a ↔ d' < a') ∧ (b < c ↔ b' < c') ∧ (c < b ↔ c' < b') ∧ (b < d ↔ b' < d') ∧ (d < b ↔ d' < b')) hr ?_ ?_ ?_ ?_ ?_ ?_ ?_ ?_ ?_ ?_ ?_ ?_ ?_ <;>
  simp only [spanP] <;> intro p q <;> omega

/-- the relations of all pairs tell the order of the coordinates -/
theorem same_relOf {k n : Nat} (hk : k = 0 ∨ k = 1 ∨ k = 3) {a b : Nat → Nat} (wa : Wide k n a) (wb : Wide k n b) (h : ∀ i j, i < j → j < n → relOf k a i j = relOf k b i j) : Same k (n * marks k) a b := by
  rcases hk with rfl | rfl | rfl
  · have hm : n * marks 0 = n := by simp [marks]
    rw [hm]
    intro i j hi hj _
    have h' : ∀ i j, i < j → j < n → cmp (a i) (a j) = cmp (b i) (b j) := fun i j q w => by
      have := h i j q w
      unfold relOf at this
      rwa [if_neg (by decide), if_neg (by decide), if_neg (by decide), if_neg (by decide)] at this
    rcases Nat.lt_trichotomy i j with q | q | q
    · exact (same_cmp (h' i j q hj)).1
    · subst q; exact ⟨fun q => absurd q (Nat.lt_irrefl _), fun q => absurd q (Nat.lt_irrefl _)⟩
    · exact (same_cmp (h' j i q hi)).2
  · have hm : n * marks 1 = 2 * n := by simp [marks]; omega
    rw [hm]
    intro x y hx hy _
    have wa' : ∀ i, i < n → a (2 * i) < a (2 * i + 1) := wa rfl
    have wb' : ∀ i, i < n → b (2 * i) < b (2 * i + 1) := wb rfl
    have h' : ∀ i j, i < j → j < n → irel (a (2 * i)) (a (2 * i + 1)) (a (2 * j)) (a (2 * j + 1)) = irel (b (2 * i)) (b (2 * i + 1)) (b (2 * j)) (b (2 * j + 1)) := fun i j q w => by
      have := h i j q w
      unfold relOf at this
      rwa [if_pos rfl, if_pos rfl] at this
    have ex : x = 2 * (x / 2) ∨ x = 2 * (x / 2) + 1 := by omega
    have ey : y = 2 * (y / 2) ∨ y = 2 * (y / 2) + 1 := by omega
    have hix : x / 2 < n := by omega
    have hiy : y / 2 < n := by omega
    generalize x / 2 = i at ex hix
    generalize y / 2 = j at ey hiy
    have wi := wa' i hix
    have wi' := wb' i hix
    have wj := wa' j hiy
    have wj' := wb' j hiy
    rcases Nat.lt_trichotomy i j with q | q | q
    · have t := irel_same wi wj wi' wj' (h' i j q hiy)
      rcases ex with rfl | rfl <;> rcases ey with rfl | rfl <;> omega
    · subst q
      rcases ex with rfl | rfl <;> rcases ey with rfl | rfl <;> omega
    · have t := irel_same wj wi wj' wi' (h' j i q hix)
      rcases ex with rfl | rfl <;> rcases ey with rfl | rfl <;> omega
  · have hm : n * marks 3 = 2 * n := by simp [marks]; omega
    rw [hm]
    intro x y hx hy hp
    have hp := hp rfl
    have h' : ∀ i j, i < j → j < n → cmp (a (2 * i)) (a (2 * j)) = cmp (b (2 * i)) (b (2 * j)) ∧ cmp (a (2 * i + 1)) (a (2 * j + 1)) = cmp (b (2 * i + 1)) (b (2 * j + 1)) := fun i j q w => by
      have := h i j q w
      unfold relOf at this
      rw [if_neg (by decide), if_pos rfl, if_neg (by decide), if_pos rfl] at this
      have := cmp_lt (a (2 * i)) (a (2 * j))
      have := cmp_lt (a (2 * i + 1)) (a (2 * j + 1))
      have := cmp_lt (b (2 * i)) (b (2 * j))
      have := cmp_lt (b (2 * i + 1)) (b (2 * j + 1))
      omega
    have hix : x / 2 < n := by omega
    have hiy : y / 2 < n := by omega
    by_cases ex : x % 2 = 0
    · have ex' : x = 2 * (x / 2) := by omega
      have ey' : y = 2 * (y / 2) := by omega
      generalize x / 2 = i at ex' hix
      generalize y / 2 = j at ey' hiy
      subst ex' ey'
      rcases Nat.lt_trichotomy i j with q | q | q
      · exact (same_cmp (h' i j q hiy).1).1
      · subst q; exact ⟨fun q => absurd q (Nat.lt_irrefl _), fun q => absurd q (Nat.lt_irrefl _)⟩
      · exact (same_cmp (h' j i q hix).1).2
    · have ex' : x = 2 * (x / 2) + 1 := by omega
      have ey' : y = 2 * (y / 2) + 1 := by omega
      generalize x / 2 = i at ex' hix
      generalize y / 2 = j at ey' hiy
      subst ex' ey'
      rcases Nat.lt_trichotomy i j with q | q | q
      · exact (same_cmp (h' i j q hiy).2).1
      · subst q; exact ⟨fun q => absurd q (Nat.lt_irrefl _), fun q => absurd q (Nat.lt_irrefl _)⟩
      · exact (same_cmp (h' j i q hix).2).2
end Rd

set_option autoImplicit false
/-! RdM3: orders: all lists of numbers in which each one from 0 to the greatest stands. -/
namespace Rd
open Qr

/-- each number below one that stands there stands there too -/
def Dense (o : List Nat) : Prop := ∀ x ∈ o, ∀ y, y < x → y ∈ o
/-- one more than the greatest -/
def top : List Nat → Nat
  | [] => 0
  | x :: l => if x + 1 ≤ top l then top l else x + 1
theorem lt_top : ∀ {o : List Nat} {x : Nat}, x ∈ o → x < top o
  | [], _, h => nomatch h
  | a :: l, x, h => by
    unfold top
    rcases List.mem_cons.mp h with rfl | h
    · split <;> omega
    · have := lt_top h
      split <;> omega
theorem top_mem : ∀ {o : List Nat}, 0 < top o → top o - 1 ∈ o
  | [], h => absurd h (by decide)
  | a :: l, h => by
    unfold top at h ⊢
    split
    · rename_i c
      rw [if_pos c] at h
      exact List.mem_cons_of_mem _ (top_mem h)
    · exact List.mem_cons_self
theorem dense_lt {o : List Nat} (d : Dense o) {x : Nat} : x ∈ o ↔ x < top o := by
  constructor
  · exact lt_top
  · intro h
    have h1 := top_mem (o := o) (by omega)
    by_cases e : x = top o - 1
    · rw [e]; exact h1
    · exact d _ h1 x (by omega)
theorem top_le : ∀ (o : List Nat) (m : Nat), (∀ x ∈ o, x < m) → top o ≤ m
  | [], m, _ => Nat.zero_le m
  | a :: l, m, h => by
    have := h a List.mem_cons_self
    have := top_le l m fun x hx => h x (List.mem_cons_of_mem _ hx)
    unfold top; split <;> omega

def bump (v x : Nat) : Nat := if v ≤ x then x + 1 else x
/-- all orders that have a number more, last -/
def withNumber (o : List Nat) : List (List Nat) := (List.range (top o)).map (fun v => o ++ [v]) ++ (List.range (top o + 1)).map fun v => o.map (bump v) ++ [v]

theorem at0_lt {o : List Nat} {i : Nat} (h : i < o.length) : at0 o i = o[i] := by
  unfold at0
  rw [List.getD_eq_getElem?_getD, List.getElem?_eq_getElem h]
  rfl
theorem at0_mem {o : List Nat} {i : Nat} (h : i < o.length) : at0 o i ∈ o := by
  rw [at0_lt h]
  exact List.getElem_mem h
theorem mem_at0 {o : List Nat} {x : Nat} (h : x ∈ o) : ∃ i, i < o.length ∧ at0 o i = x := by
  obtain ⟨i, hi, e⟩ := List.mem_iff_getElem.mp h
  exact ⟨i, hi, by rw [at0_lt hi]; exact e⟩
theorem at0_snoc_lt {o : List Nat} {v i : Nat} (h : i < o.length) : at0 (o ++ [v]) i = at0 o i := by
  unfold at0
  rw [List.getD_eq_getElem?_getD, List.getD_eq_getElem?_getD, List.getElem?_append_left h]
theorem at0_snoc_eq {o : List Nat} {v : Nat} : at0 (o ++ [v]) o.length = v := by
  unfold at0
  rw [List.getD_eq_getElem?_getD, List.getElem?_append_right (Nat.le_refl _), Nat.sub_self]
  rfl
theorem at0_map {o : List Nat} {g : Nat → Nat} {i : Nat} (h : i < o.length) : at0 (o.map g) i = g (at0 o i) := by
  rw [at0_lt (by rw [List.length_map]; exact h), at0_lt h, List.getElem_map]
theorem bump_lt (v x y : Nat) : bump v x < bump v y ↔ x < y := by
  unfold bump; split <;> split <;> omega
theorem bump_ne (v x : Nat) : bump v x ≠ v := by
  unfold bump; split <;> omega

abbrev SameN (m : Nat) (a b : Nat → Nat) : Prop := ∀ i j, i < m → j < m → (a i < a j ↔ b i < b j)

theorem mem_withNumber {o o' : List Nat} : o' ∈ withNumber o ↔ (∃ v, v < top o ∧ o' = o ++ [v]) ∨ ∃ v, v < top o + 1 ∧ o' = o.map (bump v) ++ [v] := by
  unfold withNumber
  rw [List.mem_append, List.mem_map, List.mem_map]
  constructor
  · rintro (⟨v, h1, h2⟩ | ⟨v, h1, h2⟩)
    · exact .inl ⟨v, List.mem_range.mp h1, h2.symm⟩
    · exact .inr ⟨v, List.mem_range.mp h1, h2.symm⟩
  · rintro (⟨v, h1, h2⟩ | ⟨v, h1, h2⟩)
    · exact .inl ⟨v, List.mem_range.mpr h1, h2.symm⟩
    · exact .inr ⟨v, List.mem_range.mpr h1, h2.symm⟩
/-- one more, and the old order stands -/
theorem withNumber_sound {o o' : List Nat} (d : Dense o) (h : o' ∈ withNumber o) : Dense o' ∧ o'.length = o.length + 1 ∧ SameN o.length (at0 o') (at0 o) := by
  rcases mem_withNumber.mp h with ⟨v, hv, rfl⟩ | ⟨v, hv, rfl⟩
  · refine ⟨fun x hx y hy => ?_, by simp, fun i j hi hj => by rw [at0_snoc_lt hi, at0_snoc_lt hj]⟩
    rw [List.mem_append, List.mem_singleton] at hx ⊢
    have hv' := (dense_lt d).mpr hv
    rcases hx with hx | rfl
    · exact .inl (d x hx y hy)
    · exact .inl (d x hv' y hy)
  · refine ⟨fun x hx y hy => ?_, by simp, fun i j hi hj => ?_⟩
    · rw [List.mem_append, List.mem_singleton] at hx ⊢
      have hy' : y < top o + 1 := by
        rcases hx with hx | rfl
        · obtain ⟨z, hz, rfl⟩ := List.mem_map.mp hx
          have := lt_top hz
          unfold bump at hy
          split at hy <;> omega
        · omega
      rcases Nat.lt_trichotomy y v with q | q | q
      · exact .inl (List.mem_map.mpr ⟨y, (dense_lt d).mpr (by omega), by unfold bump; rw [if_neg (by omega)]⟩)
      · exact .inr q
      · exact .inl (List.mem_map.mpr ⟨y - 1, (dense_lt d).mpr (by omega), by unfold bump; rw [if_pos (by omega)]; omega⟩)
    · rw [at0_snoc_lt (by rw [List.length_map]; exact hi), at0_snoc_lt (by rw [List.length_map]; exact hj), at0_map hi, at0_map hj]
      exact bump_lt v _ _
/-- where the next number comes -/
theorem withNumber_all {o : List Nat} (d : Dense o) {s : Nat → Nat} (h : SameN o.length (at0 o) s) : ∃ o', o' ∈ withNumber o ∧ SameN (o.length + 1) (at0 o') s := by
  by_cases c : ∃ i, i < o.length ∧ s i = s o.length
  · obtain ⟨i, hi, e⟩ := c
    refine ⟨o ++ [at0 o i], mem_withNumber.mpr (.inl ⟨_, lt_top (at0_mem hi), rfl⟩), ?_⟩
    intro x y hx hy
    rcases Nat.lt_succ_iff_lt_or_eq.mp hx with hx | rfl
    · rcases Nat.lt_succ_iff_lt_or_eq.mp hy with hy | rfl
      · rw [at0_snoc_lt hx, at0_snoc_lt hy]
        exact h x y hx hy
      · rw [at0_snoc_lt hx, at0_snoc_eq, ← e]
        exact h x i hx hi
    · rcases Nat.lt_succ_iff_lt_or_eq.mp hy with hy | rfl
      · rw [at0_snoc_lt hy, at0_snoc_eq, ← e]
        exact h i y hi hy
      · exact ⟨fun q => absurd q (Nat.lt_irrefl _), fun q => absurd q (Nat.lt_irrefl _)⟩
  · -- the numbers that stand for less are those below v
    have hv : ∃ v, v ≤ top o ∧ ∀ i, i < o.length → (at0 o i < v ↔ s i < s o.length) := by
      have key : ∀ n, n ≤ top o → (∃ v, v ≤ n ∧ ∀ i, i < o.length → at0 o i < n → (at0 o i < v ↔ s i < s o.length)) := by
        intro n
        induction n with
        | zero => exact fun _ => ⟨0, Nat.le_refl _, fun i _ q => absurd q (Nat.not_lt_zero _)⟩
        | succ n ih =>
          intro hn
          obtain ⟨v, h1, h2⟩ := ih (by omega)
          obtain ⟨j, hj, ej⟩ := mem_at0 ((dense_lt d).mpr (show n < top o by omega))
          by_cases q : s j < s o.length
          · refine ⟨n + 1, Nat.le_refl _, fun i hi hl => ⟨fun _ => ?_, fun _ => hl⟩⟩
            by_cases w : at0 o i < n
            · have := (h i j hi hj).mp (by omega)
              omega
            · have h3 : ¬ s j < s i := fun z => by have := (h j i hj hi).mpr z; omega
              omega
          · refine ⟨v, by omega, fun i hi hl => ?_⟩
            by_cases w : at0 o i < n
            · exact h2 i hi w
            · have h3 : ¬ s i < s j := fun z => by have := (h i j hi hj).mpr z; omega
              exact ⟨fun z => by omega, fun z => by omega⟩
      obtain ⟨v, h1, h2⟩ := key (top o) (Nat.le_refl _)
      exact ⟨v, h1, fun i hi => h2 i hi (lt_top (at0_mem hi))⟩
    obtain ⟨v, hv, hs⟩ := hv
    refine ⟨o.map (bump v) ++ [v], mem_withNumber.mpr (.inr ⟨v, by omega, rfl⟩), ?_⟩
    have hl : (o.map (bump v)).length = o.length := List.length_map _
    have last : at0 (o.map (bump v) ++ [v]) o.length = v := by
      have := at0_snoc_eq (o := o.map (bump v)) (v := v)
      rwa [hl] at this
    have old : ∀ x, x < o.length → at0 (o.map (bump v) ++ [v]) x = bump v (at0 o x) := fun x hx => by
      rw [at0_snoc_lt (by rw [hl]; exact hx), at0_map hx]
    intro x y hx hy
    rcases Nat.lt_succ_iff_lt_or_eq.mp hx with hx | rfl
    · rcases Nat.lt_succ_iff_lt_or_eq.mp hy with hy | rfl
      · rw [old x hx, old y hy, bump_lt]
        exact h x y hx hy
      · rw [old x hx, last, ← hs x hx]
        unfold bump
        split <;> omega
    · rcases Nat.lt_succ_iff_lt_or_eq.mp hy with hy | rfl
      · rw [old y hy, last]
        have h1 := hs y hy
        have h2 : ¬ s y = s o.length := fun q => c ⟨y, hy, q⟩
        unfold bump
        split <;> omega
      · exact ⟨fun q => absurd q (Nat.lt_irrefl _), fun q => absurd q (Nat.lt_irrefl _)⟩
/-- an order is the least of all numbers that lie so -/
theorem dense_least {o : List Nat} (d : Dense o) {s : Nat → Nat} (h : ∀ i j, i < o.length → j < o.length → at0 o i < at0 o j → s i < s j) : ∀ i, i < o.length → at0 o i ≤ s i := by
  have key : ∀ n i, i < o.length → at0 o i = n → n ≤ s i := by
    intro n
    induction n with
    | zero => exact fun _ _ _ => Nat.zero_le _
    | succ n ih =>
      intro i hi e
      obtain ⟨j, hj, ej⟩ := mem_at0 (d _ (at0_mem hi) n (by omega))
      have := ih j hj ej
      have := h j i hj hi (by omega)
      omega
  exact fun i hi => key _ i hi rfl
theorem dense_unique {o p : List Nat} (d : Dense o) (d' : Dense p) (hl : o.length = p.length) (h : SameN o.length (at0 o) (at0 p)) : o = p := by
  apply List.ext_getElem hl
  intro i h1 h2
  have a := dense_least d (s := at0 p) (fun i j hi hj q => (h i j hi hj).mp q) i h1
  have b := dense_least d' (s := at0 o) (fun i j hi hj q => (h i j (by omega) (by omega)).mpr q) i h2
  rw [at0_lt h1, at0_lt h2] at a b
  omega
theorem last_inj {a b : List Nat} {x y : Nat} (h : a ++ [x] = b ++ [y]) : a = b ∧ x = y := by
  have := List.append_inj' h rfl
  exact ⟨this.1, by simpa using this.2⟩
theorem map_nodup {α β : Type} {g : α → β} : ∀ {l : List α}, (∀ x ∈ l, ∀ y ∈ l, g x = g y → x = y) → l.Nodup → (l.map g).Nodup
  | [], _, _ => List.nodup_nil
  | a :: l, h, n => by
    rw [List.map_cons, List.nodup_cons]
    rw [List.nodup_cons] at n
    refine ⟨fun q => ?_, map_nodup (fun x hx y hy => h x (List.mem_cons_of_mem _ hx) y (List.mem_cons_of_mem _ hy)) n.2⟩
    obtain ⟨y, hy, e⟩ := List.mem_map.mp q
    have := h y (List.mem_cons_of_mem _ hy) a List.mem_cons_self e
    subst this
    exact n.1 hy
theorem withNumber_nodup {o : List Nat} (d : Dense o) : (withNumber o).Nodup := by
  unfold withNumber
  rw [List.nodup_append]
  refine ⟨map_nodup (fun x _ y _ e => (last_inj e).2) List.nodup_range, map_nodup (fun x _ y _ e => (last_inj e).2) List.nodup_range, ?_⟩
  intro a ha b hb e
  obtain ⟨v, hv, rfl⟩ := List.mem_map.mp ha
  obtain ⟨u, hu, rfl⟩ := List.mem_map.mp hb
  obtain ⟨h1, rfl⟩ := last_inj e
  have hm := (dense_lt d).mpr (List.mem_range.mp hv)
  obtain ⟨i, hi, ei⟩ := mem_at0 hm
  have h2 : at0 o i = bump v (at0 o i) := by
    have := at0_map (g := bump v) hi
    rwa [← h1] at this
  rw [ei] at h2
  unfold bump at h2
  rw [if_pos (Nat.le_refl _)] at h2
  omega
theorem nodup_le : ∀ (l m : List Nat), l.Nodup → (∀ x ∈ l, x ∈ m) → l.length ≤ m.length
  | [], _, _, _ => Nat.zero_le _
  | a :: l, m, n, h => by
    rw [List.nodup_cons] at n
    have ha := h a List.mem_cons_self
    have := nodup_le l (m.erase a) n.2 fun x hx => (List.mem_erase_of_ne (fun (e : x = a) => n.1 (by rw [← e]; exact hx))).mpr (h x (List.mem_cons_of_mem _ hx))
    have h1 := List.length_erase_of_mem ha
    have h2 := List.length_pos_of_mem ha
    rw [List.length_cons]
    omega
theorem top_len (o : List Nat) (d : Dense o) : top o ≤ o.length := by
  -- each number below the top stands at a place of its own
  have key : ∀ n, n ≤ top o → n ≤ o.length := by
    intro n hn
    have sub : ∀ x ∈ List.range n, x ∈ o := fun x hx => (dense_lt d).mpr (by have := List.mem_range.mp hx; omega)
    have h2 := nodup_le _ _ (List.nodup_range (n := n)) sub
    rwa [List.length_range] at h2
  exact key _ (Nat.le_refl _)
theorem withNumber_len (o : List Nat) (d : Dense o) : (withNumber o).length ≤ 2 * o.length + 1 := by
  have := top_len o d
  unfold withNumber
  simp
  omega

/-- all orders that have an interval's numbers more -/
def withInterval (o : List Nat) : List (List Nat) := (withNumber o).flatMap fun p => (withNumber p).filter fun q => decide (at0 q (q.length - 2) < at0 q (q.length - 1))
theorem mem_withInterval {o q : List Nat} : q ∈ withInterval o ↔ ∃ p, p ∈ withNumber o ∧ q ∈ withNumber p ∧ at0 q (q.length - 2) < at0 q (q.length - 1) := by
  unfold withInterval
  rw [List.mem_flatMap]
  constructor
  · rintro ⟨p, hp, hq⟩
    obtain ⟨h1, h2⟩ := List.mem_filter.mp hq
    exact ⟨p, hp, h1, of_decide_eq_true h2⟩
  · rintro ⟨p, hp, h1, h2⟩
    exact ⟨p, hp, List.mem_filter.mpr ⟨h1, decide_eq_true h2⟩⟩
theorem withInterval_sound {o q : List Nat} (d : Dense o) (h : q ∈ withInterval o) : Dense q ∧ q.length = o.length + 2 ∧ SameN o.length (at0 q) (at0 o) ∧ at0 q o.length < at0 q (o.length + 1) := by
  obtain ⟨p, hp, hq, hlt⟩ := mem_withInterval.mp h
  obtain ⟨d1, l1, s1⟩ := withNumber_sound d hp
  obtain ⟨d2, l2, s2⟩ := withNumber_sound d1 hq
  refine ⟨d2, by omega, fun i j hi hj => (s2 i j (by omega) (by omega)).trans (s1 i j hi hj), ?_⟩
  have e1 : q.length - 2 = o.length := by omega
  have e2 : q.length - 1 = o.length + 1 := by omega
  rwa [e1, e2] at hlt
theorem withInterval_all {o : List Nat} (d : Dense o) {s : Nat → Nat} (h : SameN o.length (at0 o) s) (hw : s o.length < s (o.length + 1)) : ∃ q, q ∈ withInterval o ∧ SameN (o.length + 2) (at0 q) s := by
  obtain ⟨p, hp, hs⟩ := withNumber_all d h
  obtain ⟨d1, l1, _⟩ := withNumber_sound d hp
  rw [← l1] at hs
  obtain ⟨q, hq, hs2⟩ := withNumber_all d1 hs
  obtain ⟨d2, l2, _⟩ := withNumber_sound d1 hq
  rw [l1] at hs2
  refine ⟨q, mem_withInterval.mpr ⟨p, hp, hq, ?_⟩, hs2⟩
  have e1 : q.length - 2 = o.length := by omega
  have e2 : q.length - 1 = o.length + 1 := by omega
  rw [e1, e2]
  exact (hs2 _ _ (by omega) (by omega)).mpr hw
/-- what comes of two different ones is different -/
theorem flatMap_nodup {α β : Type} {g : α → List β} : ∀ {l : List α}, l.Nodup → (∀ x ∈ l, (g x).Nodup) → (∀ x ∈ l, ∀ y ∈ l, ∀ z, z ∈ g x → z ∈ g y → x = y) → (l.flatMap g).Nodup
  | [], _, _, _ => List.nodup_nil
  | a :: l, n, hn, hd => by
    rw [List.nodup_cons] at n
    rw [List.flatMap_cons, List.nodup_append]
    refine ⟨hn a List.mem_cons_self, flatMap_nodup n.2 (fun x hx => hn x (List.mem_cons_of_mem _ hx)) (fun x hx y hy => hd x (List.mem_cons_of_mem _ hx) y (List.mem_cons_of_mem _ hy)), ?_⟩
    rintro z hz w hw rfl
    obtain ⟨y, hy, hzy⟩ := List.mem_flatMap.mp hw
    have := hd a List.mem_cons_self y (List.mem_cons_of_mem _ hy) z hz hzy
    subst this
    exact n.1 hy
theorem withNumber_apart {o p q : List Nat} (d : Dense o) (d' : Dense p) (hl : o.length = p.length) (h1 : q ∈ withNumber o) (h2 : q ∈ withNumber p) : o = p := by
  obtain ⟨_, _, s1⟩ := withNumber_sound d h1
  obtain ⟨_, _, s2⟩ := withNumber_sound d' h2
  exact dense_unique d d' hl fun i j hi hj => (s1 i j hi hj).symm.trans (s2 i j (by omega) (by omega))
theorem withInterval_apart {o p q : List Nat} (d : Dense o) (d' : Dense p) (hl : o.length = p.length) (h1 : q ∈ withInterval o) (h2 : q ∈ withInterval p) : o = p := by
  obtain ⟨_, _, s1, _⟩ := withInterval_sound d h1
  obtain ⟨_, _, s2, _⟩ := withInterval_sound d' h2
  exact dense_unique d d' hl fun i j hi hj => (s1 i j hi hj).symm.trans (s2 i j (by omega) (by omega))
theorem withInterval_nodup {o : List Nat} (d : Dense o) : (withInterval o).Nodup := by
  refine flatMap_nodup (withNumber_nodup d) (fun p hp => (withNumber_nodup (withNumber_sound d hp).1).filter _) ?_
  intro x hx y hy z hz hz'
  obtain ⟨d1, l1, _⟩ := withNumber_sound d hx
  obtain ⟨d2, l2, _⟩ := withNumber_sound d hy
  exact withNumber_apart d1 d2 (by omega) (List.mem_filter.mp hz).1 (List.mem_filter.mp hz').1
end Rd

set_option autoImplicit false
/-! RdM4: figures: the scenarios of points, intervals and positions. -/
namespace Rd
open Qr

def KO (k : Nat) : Prop := k = 0 ∨ k = 1 ∨ k = 3
abbrev Fig := List (List Nat)
/-- the coordinates of a figure -/
def crd (k : Nat) (g : Fig) : Nat → Nat := if k = 3 then fun i => if i % 2 = 0 then at0 (g.getD 0 []) (i / 2) else at0 (g.getD 1 []) (i / 2) else at0 (g.getD 0 [])
def withObject (k : Nat) (g : Fig) : List Fig :=
  if k = 1 then (withInterval (g.getD 0 [])).map fun o => [o]
  else if k = 3 then (withNumber (g.getD 0 [])).flatMap fun o => (withNumber (g.getD 1 [])).map fun p => [o, p]
  else (withNumber (g.getD 0 [])).map fun o => [o]
/-- a figure of n objects -/
def FigOk (k n : Nat) (g : Fig) : Prop :=
  Dense (g.getD 0 []) ∧ (if k = 3 then (g.getD 0 []).length = n ∧ Dense (g.getD 1 []) ∧ (g.getD 1 []).length = n else (g.getD 0 []).length = n * marks k) ∧
  (n = 0 ∧ g = [[], []] ∨ 0 < n ∧ (if k = 3 then ∃ o p, g = [o, p] else ∃ o, g = [o])) ∧ Wide k n (crd k g)

theorem figOk_zero (k : Nat) : FigOk k 0 [[], []] := by
  refine ⟨fun x hx => (nomatch hx), ?_, .inl ⟨rfl, rfl⟩, fun _ i hi => absurd hi (Nat.not_lt_zero i)⟩
  split
  · exact ⟨rfl, fun x hx => (nomatch hx), rfl⟩
  · rw [Nat.zero_mul]; rfl
theorem crd_ne {k : Nat} (hk : k ≠ 3) (g : Fig) : crd k g = at0 (g.getD 0 []) := by
  unfold crd; rw [if_neg hk]
theorem crd3_even (g : Fig) (i : Nat) : crd 3 g (2 * i) = at0 (g.getD 0 []) i := by
  unfold crd; rw [if_pos rfl]
  simp
theorem crd3_odd (g : Fig) (i : Nat) : crd 3 g (2 * i + 1) = at0 (g.getD 1 []) i := by
  unfold crd; rw [if_pos rfl]
  have h1 : (2 * i + 1) % 2 = 1 := by omega
  have h2 : (2 * i + 1) / 2 = i := by omega
  simp only [h1, h2]
  rfl
theorem same3 {m : Nat} {a b : Nat → Nat} : Same 3 (2 * m) a b ↔ SameN m (fun i => a (2 * i)) (fun i => b (2 * i)) ∧ SameN m (fun i => a (2 * i + 1)) (fun i => b (2 * i + 1)) := by
  constructor
  · intro h
    exact ⟨fun i j hi hj => h _ _ (by omega) (by omega) (fun _ => by omega), fun i j hi hj => h _ _ (by omega) (by omega) (fun _ => by omega)⟩
  · rintro ⟨h1, h2⟩ x y hx hy hp
    have hp := hp rfl
    by_cases c : x % 2 = 0
    · have ex : x = 2 * (x / 2) := by omega
      have ey : y = 2 * (y / 2) := by omega
      rw [ex, ey]
      exact h1 _ _ (by omega) (by omega)
    · have ex : x = 2 * (x / 2) + 1 := by omega
      have ey : y = 2 * (y / 2) + 1 := by omega
      rw [ex, ey]
      exact h2 _ _ (by omega) (by omega)
theorem same_ne {k m : Nat} (hk : k ≠ 3) {a b : Nat → Nat} : Same k m a b ↔ SameN m a b :=
  ⟨fun h i j hi hj => h i j hi hj (fun q => absurd q hk), fun h i j hi hj _ => h i j hi hj⟩
theorem sameN_crd3 (m : Nat) (g g' : Fig) : Same 3 (2 * m) (crd 3 g) (crd 3 g') ↔ SameN m (at0 (g.getD 0 [])) (at0 (g'.getD 0 [])) ∧ SameN m (at0 (g.getD 1 [])) (at0 (g'.getD 1 [])) := by
  rw [same3]
  unfold SameN
  simp only [crd3_even, crd3_odd]

theorem m0 (n : Nat) : n * marks 0 = n := by simp [marks]
theorem m1 (n : Nat) : n * marks 1 = 2 * n := by simp [marks]; omega
theorem m3 (n : Nat) : n * marks 3 = 2 * n := by simp [marks]; omega

/-- an object more: a figure, in which the older ones lie as they lay -/
theorem withObject_sound {k n : Nat} (hk : KO k) {g g' : Fig} (G : FigOk k n g) (h : g' ∈ withObject k g) : FigOk k (n + 1) g' ∧ Same k (n * marks k) (crd k g') (crd k g) := by
  obtain ⟨d, hl, _, W⟩ := G
  rcases hk with rfl | rfl | rfl
  · rw [if_neg (by decide), m0] at hl
    unfold withObject at h
    rw [if_neg (by decide), if_neg (by decide)] at h
    obtain ⟨o, ho, rfl⟩ := List.mem_map.mp h
    obtain ⟨d', l', s'⟩ := withNumber_sound d ho
    refine ⟨⟨d', ?_, .inr ⟨by omega, ?_⟩, fun q => nomatch q⟩, ?_⟩
    · rw [if_neg (by decide), m0]; show o.length = _; omega
    · rw [if_neg (by decide)]; exact ⟨o, rfl⟩
    · rw [same_ne (by decide), crd_ne (by decide), crd_ne (by decide), m0, ← hl]
      exact s'
  · rw [if_neg (by decide), m1] at hl
    unfold withObject at h
    rw [if_pos rfl] at h
    obtain ⟨o, ho, rfl⟩ := List.mem_map.mp h
    obtain ⟨d', l', s', w'⟩ := withInterval_sound d ho
    refine ⟨⟨d', ?_, .inr ⟨by omega, ?_⟩, fun _ i hi => ?_⟩, ?_⟩
    · rw [if_neg (by decide), m1]; show o.length = _; omega
    · rw [if_neg (by decide)]; exact ⟨o, rfl⟩
    · rw [crd_ne (by decide)]
      show at0 o (2 * i) < at0 o (2 * i + 1)
      rcases Nat.lt_succ_iff_lt_or_eq.mp hi with hi | rfl
      · have := W rfl i hi
        rw [crd_ne (by decide)] at this
        exact (s' _ _ (by omega) (by omega)).mpr this
      · rw [← hl]; exact w'
    · rw [same_ne (by decide), crd_ne (by decide), crd_ne (by decide), m1, ← hl]
      exact s'
  · rw [if_pos rfl] at hl
    obtain ⟨hl, e, hl2⟩ := hl
    unfold withObject at h
    rw [if_neg (by decide), if_pos rfl] at h
    obtain ⟨o, ho, h⟩ := List.mem_flatMap.mp h
    obtain ⟨p, hp, rfl⟩ := List.mem_map.mp h
    obtain ⟨d', l', s'⟩ := withNumber_sound d ho
    obtain ⟨d2, l2, s2⟩ := withNumber_sound e hp
    refine ⟨⟨d', ?_, .inr ⟨by omega, ?_⟩, fun q => nomatch q⟩, ?_⟩
    · rw [if_pos rfl]; exact ⟨by show o.length = _; omega, d2, by show p.length = _; omega⟩
    · rw [if_pos rfl]; exact ⟨o, p, rfl⟩
    · rw [m3, sameN_crd3]
      rw [hl] at s'
      rw [hl2] at s2
      exact ⟨s', s2⟩
/-- wherever an object lies, there is a figure with it there -/
theorem withObject_all {k n : Nat} (hk : KO k) {g : Fig} (G : FigOk k n g) {s : Nat → Nat} (h : Same k (n * marks k) (crd k g) s) (W : Wide k (n + 1) s) : ∃ g', g' ∈ withObject k g ∧ Same k ((n + 1) * marks k) (crd k g') s := by
  obtain ⟨d, hl, _, _⟩ := G
  rcases hk with rfl | rfl | rfl
  · rw [if_neg (by decide), m0] at hl
    rw [same_ne (by decide), crd_ne (by decide), m0, ← hl] at h
    obtain ⟨o, ho, so⟩ := withNumber_all d h
    refine ⟨[o], ?_, ?_⟩
    · unfold withObject
      rw [if_neg (by decide), if_neg (by decide)]
      exact List.mem_map.mpr ⟨o, ho, rfl⟩
    · rw [same_ne (by decide), crd_ne (by decide), m0, ← hl]
      exact so
  · rw [if_neg (by decide), m1] at hl
    rw [same_ne (by decide), crd_ne (by decide), m1, ← hl] at h
    have w := W rfl n (by omega)
    rw [← hl] at w
    obtain ⟨o, ho, so⟩ := withInterval_all d h w
    refine ⟨[o], ?_, ?_⟩
    · unfold withObject
      rw [if_pos rfl]
      exact List.mem_map.mpr ⟨o, ho, rfl⟩
    · rw [same_ne (by decide), crd_ne (by decide), m1]
      have e : 2 * (n + 1) = (g.getD 0 []).length + 2 := by omega
      rw [e]
      exact so
  · rw [if_pos rfl] at hl
    obtain ⟨hl, e, hl2⟩ := hl
    rw [m3, same3] at h
    simp only [crd3_even, crd3_odd] at h
    obtain ⟨h1, h2⟩ := h
    rw [← hl] at h1
    rw [← hl2] at h2
    obtain ⟨o, ho, so⟩ := withNumber_all d h1
    obtain ⟨p, hp, sp⟩ := withNumber_all e h2
    refine ⟨[o, p], ?_, ?_⟩
    · unfold withObject
      rw [if_neg (by decide), if_pos rfl]
      exact List.mem_flatMap.mpr ⟨o, ho, List.mem_map.mpr ⟨p, hp, rfl⟩⟩
    · rw [m3, same3]
      simp only [crd3_even, crd3_odd]
      rw [hl] at so
      rw [hl2] at sp
      exact ⟨so, sp⟩
theorem fig_unique {k n : Nat} (hk : KO k) {g g' : Fig} (G : FigOk k n g) (G' : FigOk k n g') (h : Same k (n * marks k) (crd k g) (crd k g')) : g = g' := by
  obtain ⟨d, hl, sh, _⟩ := G
  obtain ⟨d', hl', sh', _⟩ := G'
  rcases sh with ⟨rfl, rfl⟩ | ⟨hn, sh⟩
  · rcases sh' with ⟨_, rfl⟩ | ⟨hn, _⟩
    · rfl
    · exact absurd hn (Nat.lt_irrefl _)
  rcases sh' with ⟨rfl, _⟩ | ⟨_, sh'⟩
  · exact absurd hn (Nat.lt_irrefl _)
  rcases hk with rfl | rfl | rfl
  · rw [if_neg (by decide)] at hl hl' sh sh'
    obtain ⟨o, rfl⟩ := sh
    obtain ⟨p, rfl⟩ := sh'
    rw [same_ne (by decide), crd_ne (by decide), crd_ne (by decide)] at h
    have e : o = p := dense_unique d d' (by rw [show o.length = _ from hl, show p.length = _ from hl']) (by rw [show o.length = _ from hl]; exact h)
    rw [e]
  · rw [if_neg (by decide)] at hl hl' sh sh'
    obtain ⟨o, rfl⟩ := sh
    obtain ⟨p, rfl⟩ := sh'
    rw [same_ne (by decide), crd_ne (by decide), crd_ne (by decide)] at h
    have e : o = p := dense_unique d d' (by rw [show o.length = _ from hl, show p.length = _ from hl']) (by rw [show o.length = _ from hl]; exact h)
    rw [e]
  · rw [if_pos rfl] at hl hl' sh sh'
    obtain ⟨o, p, rfl⟩ := sh
    obtain ⟨o', p', rfl⟩ := sh'
    rw [m3, sameN_crd3] at h
    obtain ⟨l1, dp, l2⟩ := hl
    obtain ⟨l1', dp', l2'⟩ := hl'
    have e1 : o = o' := dense_unique d d' (by rw [show o.length = _ from l1, show o'.length = _ from l1']) (by rw [show o.length = _ from l1]; exact h.1)
    have e2 : p = p' := dense_unique dp dp' (by rw [show p.length = _ from l2, show p'.length = _ from l2']) (by rw [show p.length = _ from l2]; exact h.2)
    rw [e1, e2]
theorem withObject_nodup {k n : Nat} (hk : KO k) {g : Fig} (G : FigOk k n g) : (withObject k g).Nodup := by
  obtain ⟨d, hl, _, _⟩ := G
  unfold withObject
  rcases hk with rfl | rfl | rfl
  · rw [if_neg (by decide), if_neg (by decide)]
    exact map_nodup (fun x _ y _ e => by simpa using e) (withNumber_nodup d)
  · rw [if_pos rfl]
    exact map_nodup (fun x _ y _ e => by simpa using e) (withInterval_nodup d)
  · rw [if_pos rfl] at hl
    rw [if_neg (by decide), if_pos rfl]
    refine flatMap_nodup (withNumber_nodup d) (fun o _ => map_nodup (fun x _ y _ e => by simpa using e) (withNumber_nodup hl.2.1)) ?_
    intro x _ y _ z hz hz'
    obtain ⟨p, _, rfl⟩ := List.mem_map.mp hz
    obtain ⟨q, _, e⟩ := List.mem_map.mp hz'
    simp at e
    exact e.1.symm
theorem withObject_apart {k n : Nat} (hk : KO k) {g g' z : Fig} (G : FigOk k n g) (G' : FigOk k n g') (h : z ∈ withObject k g) (h' : z ∈ withObject k g') : g = g' := by
  have s1 := (withObject_sound hk G h).2
  have s2 := (withObject_sound hk G' h').2
  exact fig_unique hk G G' (s1.symm.trans s2)

/-- all pairs of n objects -/
abbrev pairs := Qr02.pairs
theorem pairs_succ (n : Nat) : pairs (n + 1) = pairs n ++ (List.range n).map fun i => (i, n) := by
  show Qr02.pairs (n + 1) = Qr02.pairs n ++ _
  unfold Qr02.pairs
  rw [List.range_succ, List.flatMap_append, List.flatMap_cons, List.flatMap_nil, List.append_nil]
theorem pairs_zero : pairs 0 = [] := rfl
theorem mem_pairs : ∀ {n : Nat} {p : Nat × Nat}, p ∈ pairs n ↔ p.1 < p.2 ∧ p.2 < n
  | 0, p => Iff.intro (fun h => absurd h List.not_mem_nil) (fun h => absurd h.2 (Nat.not_lt_zero _))
  | n + 1, p => by
    rw [pairs_succ, List.mem_append, mem_pairs (n := n), List.mem_map]
    constructor
    · rintro (h | ⟨i, hi, rfl⟩)
      · omega
      · have := List.mem_range.mp hi
        show i < n ∧ n < n + 1
        omega
    · rintro ⟨h1, h2⟩
      by_cases c : p.2 < n
      · exact .inl ⟨h1, c⟩
      · refine .inr ⟨p.1, List.mem_range.mpr (by omega), ?_⟩
        have e : p.2 = n := by omega
        rw [← e]
def nPairs (n : Nat) : Nat := n * (n - 1) / 2
theorem pairs_len : ∀ n, (pairs n).length = nPairs n
  | 0 => rfl
  | n + 1 => by
    rw [pairs_succ, List.length_append, pairs_len n, List.length_map, List.length_range]
    unfold nPairs
    cases n with
    | zero => rfl
    | succ n =>
      have e1 : (n + 1 + 1) * (n + 1 + 1 - 1) = (n + 1) * (n + 1 - 1) + 2 * (n + 1) := by
        simp only [Nat.add_sub_cancel]
        rw [Nat.succ_mul (n + 1) (n + 1), Nat.mul_succ (n + 1) n]
        omega
      rw [e1]
      omega
/-- the relations of the pairs of n objects, by their coordinates -/
def relsOf (k n : Nat) (f : Nat → Nat) : List Nat := (pairs n).map fun p => relOf k f p.1 p.2
theorem relsOf_succ (k n : Nat) (f : Nat → Nat) : relsOf k (n + 1) f = relsOf k n f ++ (List.range n).map fun i => relOf k f i n := by
  unfold relsOf
  rw [pairs_succ, List.map_append, List.map_map]
  rfl
theorem relsOf_len (k n : Nat) (f : Nat → Nat) : (relsOf k n f).length = nPairs n := by
  unfold relsOf
  rw [List.length_map, pairs_len]
theorem relsOf_same {k n : Nat} (hk : KO k) {a b : Nat → Nat} (h : Same k (n * marks k) a b) : relsOf k n a = relsOf k n b := by
  unfold relsOf
  apply List.map_congr_left
  intro p hp
  have := mem_pairs.mp hp
  exact relOf_same hk h (by omega) (by omega)
theorem same_relsOf {k n : Nat} (hk : KO k) {a b : Nat → Nat} (wa : Wide k n a) (wb : Wide k n b) (h : relsOf k n a = relsOf k n b) : Same k (n * marks k) a b := by
  refine same_relOf hk wa wb fun i j hij hj => ?_
  unfold relsOf at h
  exact List.map_inj_left.mp h (i, j) (mem_pairs.mpr ⟨hij, hj⟩)

/-- all relations are among those that are left for the pairs from the first on -/
def areLeft (left : List Nat) (first : Nat) (rels : List Nat) : Bool := (List.range rels.length).all fun i => has (left.getD (first + i) 0) (at0 rels i)
theorem areLeft_iff {left : List Nat} {first : Nat} {rels : List Nat} : areLeft left first rels = true ↔ ∀ i, i < rels.length → has (left.getD (first + i) 0) (at0 rels i) = true := by
  unfold areLeft
  rw [List.all_eq_true]
  exact ⟨fun h i hi => h i (List.mem_range.mpr hi), fun h i hi => h i (List.mem_range.mp hi)⟩
theorem areLeft_append {left a b : List Nat} : areLeft left 0 (a ++ b) = true ↔ areLeft left 0 a = true ∧ areLeft left a.length b = true := by
  rw [areLeft_iff, areLeft_iff, areLeft_iff]
  constructor
  · intro h
    refine ⟨fun i hi => ?_, fun i hi => ?_⟩
    · have := h i (by rw [List.length_append]; omega)
      rwa [show at0 (a ++ b) i = at0 a i by unfold at0; rw [List.getD_eq_getElem?_getD, List.getD_eq_getElem?_getD, List.getElem?_append_left hi]] at this
    · have := h (a.length + i) (by rw [List.length_append]; omega)
      rw [show at0 (a ++ b) (a.length + i) = at0 b i by unfold at0; rw [List.getD_eq_getElem?_getD, List.getD_eq_getElem?_getD, List.getElem?_append_right (by omega), Nat.add_sub_cancel_left]] at this
      rwa [Nat.zero_add] at this
  · rintro ⟨h1, h2⟩ i hi
    rw [List.length_append] at hi
    by_cases c : i < a.length
    · rw [show at0 (a ++ b) i = at0 a i by unfold at0; rw [List.getD_eq_getElem?_getD, List.getD_eq_getElem?_getD, List.getElem?_append_left c]]
      exact h1 i c
    · rw [show at0 (a ++ b) i = at0 b (i - a.length) by unfold at0; rw [List.getD_eq_getElem?_getD, List.getD_eq_getElem?_getD, List.getElem?_append_right (by omega)]]
      have := h2 (i - a.length) (by omega)
      rwa [show 0 + i = a.length + (i - a.length) by omega]

/-- one turn of all_figures: an object more -/
def relsToLast (k : Nat) (g : Fig) (last : Nat) : List Nat := (List.range last).map fun i => relOf k (crd k g) i last
def longer (k : Nat) (left : List Nat) (last : Nat) (x : List Nat × Fig) : List (List Nat × Fig) :=
  ((withObject k x.2).filter fun g => areLeft left x.1.length (relsToLast k g last)).map fun g => (x.1 ++ relsToLast k g last, g)
def allFigs (k : Nat) (left : List Nat) : Nat → List (List Nat × Fig)
  | 0 => [([], [[], []])]
  | n + 1 => (allFigs k left n).flatMap (longer k left n)

theorem mem_longer {k : Nat} {left : List Nat} {n : Nat} {x y : List Nat × Fig} : y ∈ longer k left n x ↔ y.2 ∈ withObject k x.2 ∧ areLeft left x.1.length (relsToLast k y.2 n) = true ∧ y.1 = x.1 ++ relsToLast k y.2 n := by
  unfold longer
  rw [List.mem_map]
  constructor
  · rintro ⟨g, hg, rfl⟩
    obtain ⟨h1, h2⟩ := List.mem_filter.mp hg
    exact ⟨h1, h2, rfl⟩
  · rintro ⟨h1, h2, h3⟩
    exact ⟨y.2, List.mem_filter.mpr ⟨h1, h2⟩, by rw [← h3]⟩

structure AllOk (k : Nat) (left : List Nat) (n : Nat) (l : List (List Nat × Fig)) : Prop where
  sound : ∀ x ∈ l, FigOk k n x.2 ∧ x.1 = relsOf k n (crd k x.2) ∧ areLeft left 0 x.1 = true
  all : ∀ s : Nat → Nat, Wide k n s → areLeft left 0 (relsOf k n s) = true → ∃ x, x ∈ l ∧ Same k (n * marks k) (crd k x.2) s
  nodup : (l.map (·.2)).Nodup
theorem map_flatMap' {α β γ : Type} (f : α → List β) (g : β → γ) : ∀ l : List α, (l.flatMap f).map g = l.flatMap fun x => (f x).map g
  | [] => rfl
  | a :: l => by rw [List.flatMap_cons, List.flatMap_cons, List.map_append, map_flatMap' f g l]
theorem longer_snd (k : Nat) (left : List Nat) (n : Nat) (x : List Nat × Fig) : (longer k left n x).map (·.2) = (withObject k x.2).filter fun g => areLeft left x.1.length (relsToLast k g n) := by
  unfold longer
  rw [List.map_map]
  exact List.map_id _
theorem allFigs_ok {k : Nat} (hk : KO k) (left : List Nat) : ∀ n, AllOk k left n (allFigs k left n)
  | 0 => by
    refine ⟨fun x hx => ?_, fun s _ _ => ⟨_, List.mem_singleton.mpr rfl, ?_⟩, by simp [allFigs]⟩
    · rw [allFigs, List.mem_singleton] at hx
      subst hx
      exact ⟨figOk_zero k, rfl, rfl⟩
    · rw [Nat.zero_mul]
      exact fun i _ hi => absurd hi (Nat.not_lt_zero i)
  | n + 1 => by
    have ih := allFigs_ok hk left n
    refine ⟨fun y hy => ?_, fun s W hs => ?_, ?_⟩
    · rw [allFigs] at hy
      obtain ⟨x, hx, hy⟩ := List.mem_flatMap.mp hy
      obtain ⟨h1, h2, h3⟩ := mem_longer.mp hy
      obtain ⟨G, e, L⟩ := ih.sound x hx
      obtain ⟨G', S⟩ := withObject_sound hk G h1
      have e1 : y.1 = relsOf k (n + 1) (crd k y.2) := by
        rw [h3, relsOf_succ, e, relsOf_same hk S]
        rfl
      refine ⟨G', e1, ?_⟩
      rw [h3, areLeft_append]
      exact ⟨L, h2⟩
    · have hs' := hs
      rw [relsOf_succ, areLeft_append] at hs'
      obtain ⟨x, hx, S⟩ := ih.all s (fun q i hi => W q i (by omega)) hs'.1
      obtain ⟨G, e, L⟩ := ih.sound x hx
      obtain ⟨g', hg', S'⟩ := withObject_all hk G S W
      refine ⟨(x.1 ++ relsToLast k g' n, g'), ?_, S'⟩
      rw [allFigs]
      refine List.mem_flatMap.mpr ⟨x, hx, mem_longer.mpr ⟨hg', ?_, rfl⟩⟩
      have e1 : relsToLast k g' n = (List.range n).map fun i => relOf k s i n := by
        unfold relsToLast
        apply List.map_congr_left
        intro i hi
        have := List.mem_range.mp hi
        exact relOf_same hk S' (by omega) (by omega)
      show areLeft left x.1.length (relsToLast k g' n) = true
      rw [e1, e, relsOf_len, ← relsOf_len k n s]
      exact hs'.2
    · rw [allFigs, map_flatMap']
      have e : ((allFigs k left n).flatMap fun x => (longer k left n x).map (·.2)) = (allFigs k left n).flatMap fun x => (withObject k x.2).filter fun g => areLeft left x.1.length (relsToLast k g n) := by
        congr 1
        funext x
        exact longer_snd k left n x
      rw [e]
      refine flatMap_nodup (List.Pairwise.of_map (·.2) (fun _ _ q w => q (congrArg _ w)) ih.nodup) (fun x hx => (withObject_nodup hk (ih.sound x hx).1).filter _) ?_
      intro x hx y hy z hz hz'
      have h := withObject_apart hk (ih.sound x hx).1 (ih.sound y hy).1 (List.mem_filter.mp hz).1 (List.mem_filter.mp hz').1
      have h1 := (ih.sound x hx).2.1
      have h2 := (ih.sound y hy).2.1
      rw [h, ← h2] at h1
      exact Prod.ext h1 h
/-- the numbers of a figure, object by object -/
def numsOf (k : Nat) (g : Fig) : List Nat := if k = 3 then ((g.getD 0 []).zip (g.getD 1 [])).flatMap fun p => [p.1, p.2] else g.getD 0 []
theorem zip_at0 : ∀ (a b : List Nat), a.length = b.length → ((a.zip b).flatMap fun p => [p.1, p.2]).length = 2 * a.length ∧ ∀ i, at0 ((a.zip b).flatMap fun p => [p.1, p.2]) (2 * i) = at0 a i ∧ at0 ((a.zip b).flatMap fun p => [p.1, p.2]) (2 * i + 1) = at0 b i
  | [], [], _ => ⟨rfl, fun i => ⟨rfl, rfl⟩⟩
  | [], b :: bs, h => nomatch h
  | a :: as, [], h => nomatch h
  | a :: as, b :: bs, h => by
    obtain ⟨h1, h2⟩ := zip_at0 as bs (by simpa using h)
    rw [List.zip_cons_cons, List.flatMap_cons]
    refine ⟨by rw [List.length_append, h1]; simp; omega, fun i => ?_⟩
    cases i with
    | zero => exact ⟨rfl, rfl⟩
    | succ i =>
      have := h2 i
      have e1 : 2 * (i + 1) = 2 * i + 1 + 1 := by omega
      rw [e1]
      exact this
theorem numsOf_crd {k n : Nat} (hk : KO k) {g : Fig} (G : FigOk k n g) : (numsOf k g).length = n * marks k ∧ at0 (numsOf k g) = crd k g := by
  obtain ⟨d, hl, _, _⟩ := G
  rcases hk with rfl | rfl | rfl
  · rw [if_neg (by decide)] at hl
    unfold numsOf
    rw [if_neg (by decide), crd_ne (by decide)]
    exact ⟨hl, rfl⟩
  · rw [if_neg (by decide)] at hl
    unfold numsOf
    rw [if_neg (by decide), crd_ne (by decide)]
    exact ⟨hl, rfl⟩
  · rw [if_pos rfl] at hl
    obtain ⟨l1, _, l2⟩ := hl
    obtain ⟨h1, h2⟩ := zip_at0 (g.getD 0 []) (g.getD 1 []) (by omega)
    unfold numsOf
    rw [if_pos rfl, m3]
    refine ⟨by omega, funext fun i => ?_⟩
    by_cases c : i % 2 = 0
    · have e : i = 2 * (i / 2) := by omega
      rw [e, (h2 _).1, crd3_even]
    · have e : i = 2 * (i / 2) + 1 := by omega
      rw [e, (h2 _).2, crd3_odd]
/-- a figure's coordinates are the least that lie so -/
theorem crd_least {k n : Nat} (hk : KO k) {g : Fig} (G : FigOk k n g) {s : Nat → Nat} (h : Same k (n * marks k) (crd k g) s) : ∀ i, crd k g i ≤ s i := by
  obtain ⟨d, hl, _, _⟩ := G
  have out : ∀ (o : List Nat) i, o.length ≤ i → at0 o i = 0 := fun o i q => by
    unfold at0
    rw [List.getD_eq_getElem?_getD, List.getElem?_eq_none q]
    rfl
  rcases hk with rfl | rfl | rfl
  · rw [if_neg (by decide)] at hl
    rw [same_ne (by decide), crd_ne (by decide), ← hl] at h
    intro i
    rw [crd_ne (by decide)]
    by_cases c : i < (g.getD 0 []).length
    · exact dense_least d (fun i j hi hj q => (h i j hi hj).mp q) i c
    · rw [out _ _ (by omega)]; exact Nat.zero_le _
  · rw [if_neg (by decide)] at hl
    rw [same_ne (by decide), crd_ne (by decide), ← hl] at h
    intro i
    rw [crd_ne (by decide)]
    by_cases c : i < (g.getD 0 []).length
    · exact dense_least d (fun i j hi hj q => (h i j hi hj).mp q) i c
    · rw [out _ _ (by omega)]; exact Nat.zero_le _
  · rw [if_pos rfl] at hl
    obtain ⟨l1, d2, l2⟩ := hl
    rw [m3, same3] at h
    simp only [crd3_even, crd3_odd] at h
    obtain ⟨h1, h2⟩ := h
    rw [← l1] at h1
    rw [← l2] at h2
    intro i
    by_cases c : i % 2 = 0
    · have e : i = 2 * (i / 2) := by omega
      rw [e, crd3_even]
      by_cases c : i / 2 < (g.getD 0 []).length
      · exact dense_least d (s := fun i => s (2 * i)) (fun i j hi hj q => (h1 i j hi hj).mp q) _ c
      · rw [out _ _ (by omega)]; exact Nat.zero_le _
    · have e : i = 2 * (i / 2) + 1 := by omega
      rw [e, crd3_odd]
      by_cases c : i / 2 < (g.getD 1 []).length
      · exact dense_least d2 (s := fun i => s (2 * i + 1)) (fun i j hi hj q => (h2 i j hi hj).mp q) _ c
      · rw [out _ _ (by omega)]; exact Nat.zero_le _
end Rd

set_option autoImplicit false
/-! RdM5: the specification's search, may and count are those of the list of all scenarios. -/
namespace Rd
open Qr
open Qr02 (Book News)

/-- the given facts of pairs -/
def facts : List (Nat × Nat) → List Nat → List Fact
  | p :: ps, r :: rs => ⟨p.1, p.2, r⟩ :: facts ps rs
  | _, _ => []
/-- all choices, one of each list, in order -/
def prod : List (List Nat) → List (List Nat)
  | [] => [[]]
  | m :: ms => m.flatMap fun t => (prod ms).map (t :: ·)

theorem facts_map_r : ∀ (ps : List (Nat × Nat)) (rs : List Nat), ps.length = rs.length → (facts ps rs).map (fun f => f.r) = rs
  | [], [], _ => rfl
  | [], _ :: _, h => nomatch h
  | _ :: _, [], h => nomatch h
  | p :: ps, r :: rs, h => by
    show r :: (facts ps rs).map (fun f => f.r) = r :: rs
    rw [facts_map_r ps rs (by simpa using h)]
theorem facts_len : ∀ (ps : List (Nat × Nat)) (rs : List Nat), ps.length = rs.length → (facts ps rs).length = rs.length
  | [], [], _ => rfl
  | [], _ :: _, h => nomatch h
  | _ :: _, [], h => nomatch h
  | p :: ps, r :: rs, h => by
    show (facts ps rs).length + 1 = rs.length + 1
    rw [facts_len ps rs (by simpa using h)]
theorem facts_append : ∀ (ps ps' : List (Nat × Nat)) (rs rs' : List Nat), ps.length = rs.length → facts (ps ++ ps') (rs ++ rs') = facts ps rs ++ facts ps' rs'
  | [], _, [], _, _ => rfl
  | [], _, _ :: _, _, h => nomatch h
  | _ :: _, _, [], _, h => nomatch h
  | p :: ps, ps', r :: rs, rs', h => by
    show _ :: facts (ps ++ ps') (rs ++ rs') = _ :: (facts ps rs ++ facts ps' rs')
    rw [facts_append ps ps' rs rs' (by simpa using h)]
theorem mem_facts : ∀ {ps : List (Nat × Nat)} {rs : List Nat} {x : Fact}, ps.length = rs.length → (x ∈ facts ps rs ↔ ∃ i, i < ps.length ∧ ps[i]? = some (x.i, x.j) ∧ at0 rs i = x.r)
  | [], [], x, _ => Iff.intro (fun h => absurd h List.not_mem_nil) (fun ⟨i, h, _⟩ => absurd h (Nat.not_lt_zero i))
  | [], _ :: _, _, h => nomatch h
  | _ :: _, [], _, h => nomatch h
  | p :: ps, r :: rs, x, h => by
    show x ∈ _ :: facts ps rs ↔ _
    rw [List.mem_cons, mem_facts (ps := ps) (rs := rs) (by simpa using h)]
    constructor
    · rintro (rfl | ⟨i, h1, h2, h3⟩)
      · exact ⟨0, by simp, rfl, rfl⟩
      · exact ⟨i + 1, by simpa using h1, by simpa using h2, h3⟩
    · rintro ⟨i, h1, h2, h3⟩
      cases i with
      | zero =>
        left
        have e : p = (x.i, x.j) := by simpa using h2
        subst e
        have e2 : r = x.r := h3
        subst e2
        rfl
      | succ i => exact .inr ⟨i, by simpa using h1, by simpa using h2, h3⟩

theorem mem_prod : ∀ {ms : List (List Nat)} {rs : List Nat}, rs ∈ prod ms ↔ rs.length = ms.length ∧ ∀ i, i < ms.length → at0 rs i ∈ ms.getD i []
  | [], rs => by
    show rs ∈ [[]] ↔ _
    rw [List.mem_singleton]
    constructor
    · rintro rfl
      exact ⟨rfl, fun i h => absurd h (Nat.not_lt_zero i)⟩
    · rintro ⟨h, _⟩
      exact List.eq_nil_of_length_eq_zero h
  | m :: ms, rs => by
    show rs ∈ m.flatMap (fun t => (prod ms).map (t :: ·)) ↔ _
    rw [List.mem_flatMap]
    constructor
    · rintro ⟨t, ht, h⟩
      obtain ⟨r, hr, rfl⟩ := List.mem_map.mp h
      obtain ⟨h1, h2⟩ := mem_prod.mp hr
      refine ⟨by simp [h1], fun i hi => ?_⟩
      cases i with
      | zero => exact ht
      | succ i => exact h2 i (by simpa using hi)
    · rintro ⟨h1, h2⟩
      cases rs with
      | nil => simp at h1
      | cons t r =>
        refine ⟨t, h2 0 (by simp), List.mem_map.mpr ⟨r, mem_prod.mpr ⟨by simpa using h1, fun i hi => h2 (i + 1) (by simpa using hi)⟩, rfl⟩⟩
theorem prod_append : ∀ a b : List (List Nat), prod (a ++ b) = (prod a).flatMap fun x => (prod b).map (x ++ ·)
  | [], b => by
    show prod b = [[]].flatMap fun x => (prod b).map (x ++ ·)
    rw [List.flatMap_cons, List.flatMap_nil, List.append_nil]
    exact (List.map_id _).symm
  | m :: a, b => by
    show m.flatMap (fun t => (prod (a ++ b)).map (t :: ·)) = (m.flatMap fun t => (prod a).map (t :: ·)).flatMap fun x => (prod b).map (x ++ ·)
    rw [List.flatMap_assoc]
    congr 1
    funext t
    rw [prod_append a b, List.flatMap_map, map_flatMap']
    congr 1
    funext x
    rw [List.map_map]
    rfl
abbrev zints (l : List Nat) : List Int := l.map fun (x : Nat) => (x : Int)
/-- the choices come in rising order -/
theorem prod_sorted : ∀ ms : List (List Nat), (∀ m ∈ ms, m.Pairwise (· < ·)) → (prod ms).Pairwise fun a b => zints a < zints b
  | [], _ => List.pairwise_singleton _ _
  | m :: ms, h => by
    show (m.flatMap (fun t => (prod ms).map (t :: ·))).Pairwise _
    rw [List.pairwise_flatMap]
    refine ⟨fun t _ => ?_, ?_⟩
    · rw [List.pairwise_map]
      refine (prod_sorted ms fun x hx => h x (List.mem_cons_of_mem _ hx)).imp fun {a b} q => ?_
      show (t : Int) :: zints a < (t : Int) :: zints b
      exact List.cons_lt_cons_iff.mpr (.inr ⟨rfl, q⟩)
    · refine (h m List.mem_cons_self).imp fun {a b} q x hx y hy => ?_
      obtain ⟨u, _, rfl⟩ := List.mem_map.mp hx
      obtain ⟨v, _, rfl⟩ := List.mem_map.mp hy
      show (a : Int) :: zints u < (b : Int) :: zints v
      exact List.cons_lt_cons_iff.mpr (.inl (by omega))
theorem list_sorted (k m : Nat) : (Qr.list k m).Pairwise (· < ·) := by
  unfold Qr.list
  exact (List.pairwise_lt_range).sublist List.filter_sublist

/-! ### a book's scenarios -/
def lefts (b : Book) (ps : List (Nat × Nat)) : List (List Nat) := ps.map fun p => Qr.list b.kind (b.left p.1 p.2)
def OkL (k n : Nat) (l : List Fact) : Prop := ∀ x ∈ l, FactOk k n x
/-- less facts hold too -/
def Mono (k n : Nat) : Prop := ∀ (l : List Fact) (x : Fact), OkL k n (l ++ [x]) → Qr.can k n (l ++ [x]) = true → Qr.can k n l = true
theorem Mono.all {k n : Nat} (M : Mono k n) : ∀ (m l : List Fact), OkL k n (l ++ m) → Qr.can k n (l ++ m) = true → Qr.can k n l = true
  | [], l, _, h => by rwa [List.append_nil] at h
  | x :: m, l, o, h => by
    have e : l ++ x :: m = (l ++ [x]) ++ m := by rw [List.append_assoc]; rfl
    rw [e] at h o
    exact M l x (fun y hy => o y (List.mem_append.mpr (.inl hy))) (M.all m _ o h)
theorem okL_append {k n : Nat} {l m : List Fact} : OkL k n (l ++ m) ↔ OkL k n l ∧ OkL k n m := by
  unfold OkL
  exact List.forall_mem_append
def PairsIn (n : Nat) (ps : List (Nat × Nat)) : Prop := ∀ p ∈ ps, p.1 < n ∧ p.2 < n
theorem pairsIn (n : Nat) : PairsIn n (pairs n) := fun p hp => by
  have := mem_pairs.mp hp
  omega
theorem mem_list {k m t : Nat} : t ∈ Qr.list k m ↔ t < size k ∧ Qr.has m t = true := by
  unfold Qr.list
  rw [List.mem_filter, List.mem_range]
theorem okL_facts (b : Book) : ∀ (ps : List (Nat × Nat)) (rs : List Nat), PairsIn b.things ps → rs ∈ prod (lefts b ps) → OkL b.kind b.things (facts ps rs)
  | [], [], _, _ => fun _ h => nomatch h
  | [], _ :: _, _, _ => fun _ h => nomatch h
  | _ :: _, [], _, _ => fun _ h => nomatch h
  | p :: ps, r :: rs, hp, h => by
    have h' : (r :: rs) ∈ (Qr.list b.kind (b.left p.1 p.2)).flatMap (fun t => (prod (lefts b ps)).map (t :: ·)) := h
    obtain ⟨t, ht, h2⟩ := List.mem_flatMap.mp h'
    obtain ⟨u, hu, e⟩ := List.mem_map.mp h2
    injection e with e1 e2
    subst e1 e2
    intro x hx
    rcases List.mem_cons.mp (show x ∈ (⟨p.1, p.2, t⟩ : Fact) :: facts ps u from hx) with rfl | hx
    · exact ⟨(hp p List.mem_cons_self).1, (hp p List.mem_cons_self).2, (mem_list.mp ht).1⟩
    · exact okL_facts b ps u (fun q hq => hp q (List.mem_cons_of_mem _ hq)) hu x hx
theorem lefts_len (b : Book) (ps : List (Nat × Nat)) : (lefts b ps).length = ps.length := List.length_map _
theorem prod_lefts_len {b : Book} {ps : List (Nat × Nat)} {rs : List Nat} (h : rs ∈ prod (lefts b ps)) : rs.length = ps.length := by
  rw [(mem_prod.mp h).1, lefts_len]
theorem lefts_facts (b : Book) (p : Nat × Nat) (ps : List (Nat × Nat)) (l : List Fact) :
    (prod (lefts b (p :: ps))).map (fun rs => l ++ facts (p :: ps) rs) = (Qr.list b.kind (b.left p.1 p.2)).flatMap fun t => (prod (lefts b ps)).map fun rs => (l ++ [⟨p.1, p.2, t⟩]) ++ facts ps rs := by
  show ((Qr.list b.kind (b.left p.1 p.2)).flatMap fun t => (prod (lefts b ps)).map (t :: ·)).map (fun rs => l ++ facts (p :: ps) rs) = _
  rw [map_flatMap']
  congr 1
  funext t
  rw [List.map_map]
  apply List.map_congr_left
  intro rs _
  show l ++ _ :: facts ps rs = _
  rw [List.append_assoc]
  rfl
theorem findSome_congr {α β : Type} {f g : α → Option β} : ∀ (l : List α), (∀ x ∈ l, f x = g x) → l.findSome? f = l.findSome? g
  | [], _ => rfl
  | a :: l, h => by
    rw [List.findSome?_cons, List.findSome?_cons, h a List.mem_cons_self, findSome_congr l fun x hx => h x (List.mem_cons_of_mem _ hx)]
theorem search_eq (b : Book) (M : Mono b.kind b.things) : ∀ (ps : List (Nat × Nat)) (l : List Fact), PairsIn b.things ps → OkL b.kind b.things l → Qr.can b.kind b.things l = true →
    Qr02.search b ps l = ((prod (lefts b ps)).map fun rs => l ++ facts ps rs).find? (Qr.can b.kind b.things)
  | [], l, _, _, h => by
    show some l = [l ++ []].find? _
    rw [List.append_nil, List.find?_cons_of_pos h]
  | p :: ps, l, hp, ol, _ => by
    rw [lefts_facts, List.find?_flatMap]
    show (Qr.list b.kind (b.left p.1 p.2)).findSome? (fun t => if Qr.can b.kind b.things (l ++ [⟨p.1, p.2, t⟩]) = true then Qr02.search b ps (l ++ [⟨p.1, p.2, t⟩]) else none) = _
    refine findSome_congr _ fun t ht => ?_
    have ol' : OkL b.kind b.things (l ++ [⟨p.1, p.2, t⟩]) := okL_append.mpr ⟨ol, fun x hx => by
      rw [List.mem_singleton] at hx
      subst hx
      exact ⟨(hp p List.mem_cons_self).1, (hp p List.mem_cons_self).2, (mem_list.mp ht).1⟩⟩
    have hp' : PairsIn b.things ps := fun q hq => hp q (List.mem_cons_of_mem _ hq)
    by_cases c : Qr.can b.kind b.things (l ++ [⟨p.1, p.2, t⟩]) = true
    · rw [if_pos c]
      exact search_eq b M ps _ hp' ol' c
    · rw [if_neg c]
      symm
      rw [List.find?_eq_none]
      intro x hx q
      obtain ⟨rs, hrs, rfl⟩ := List.mem_map.mp hx
      exact c (M.all _ _ (okL_append.mpr ⟨ol', okL_facts b ps rs hp' hrs⟩) q)
theorem foldl_sum : ∀ (l : List Nat) (a : Nat), l.foldl (fun a c => a + c) a = a + l.sum
  | [], a => by simp
  | x :: l, a => by rw [List.foldl_cons, foldl_sum l, List.sum_cons]; omega
theorem count_eq (b : Book) (M : Mono b.kind b.things) : ∀ (ps : List (Nat × Nat)) (l : List Fact), PairsIn b.things ps → OkL b.kind b.things l → Qr.can b.kind b.things l = true →
    Qr02.count b ps l = (((prod (lefts b ps)).map fun rs => l ++ facts ps rs).filter (Qr.can b.kind b.things)).length
  | [], l, _, _, h => by
    show 1 = ([l ++ []].filter _).length
    rw [List.append_nil, List.filter_cons_of_pos h]
    rfl
  | p :: ps, l, hp, ol, _ => by
    rw [lefts_facts, List.filter_flatMap, List.length_flatMap]
    rw [Qr02.count, foldl_sum, Nat.zero_add]
    congr 1
    refine List.map_congr_left fun t ht => ?_
    have ol' : OkL b.kind b.things (l ++ [⟨p.1, p.2, t⟩]) := okL_append.mpr ⟨ol, fun x hx => by
      rw [List.mem_singleton] at hx
      subst hx
      exact ⟨(hp p List.mem_cons_self).1, (hp p List.mem_cons_self).2, (mem_list.mp ht).1⟩⟩
    have hp' : PairsIn b.things ps := fun q hq => hp q (List.mem_cons_of_mem _ hq)
    by_cases c : Qr.can b.kind b.things (l ++ [⟨p.1, p.2, t⟩]) = true
    · rw [if_pos c]
      exact count_eq b M ps _ hp' ol' c
    · rw [if_neg c]
      symm
      rw [List.length_eq_zero_iff, List.filter_eq_nil_iff]
      intro x hx q
      obtain ⟨rs, hrs, rfl⟩ := List.mem_map.mp hx
      exact c (M.all _ _ (okL_append.mpr ⟨ol', okL_facts b ps rs hp' hrs⟩) q)

/-- the relations of all scenarios, in order -/
def scen (b : Book) : List (List Nat) := (prod (lefts b (pairs b.things))).filter fun rs => Qr.can b.kind b.things (facts (pairs b.things) rs)
theorem scen_len {b : Book} {rs : List Nat} (h : rs ∈ scen b) : rs.length = (pairs b.things).length := prod_lefts_len (List.mem_filter.mp h).1
theorem way_eq (b : Book) (M : Mono b.kind b.things) : b.way = (scen b).head?.map (facts (pairs b.things)) := by
  unfold Book.way scen
  rw [List.head?_filter]
  by_cases c : Qr.can b.kind b.things [] = true
  · rw [if_pos c, search_eq b M _ _ (pairsIn _) (fun _ h => absurd h List.not_mem_nil) c, List.find?_map]
    rfl
  · rw [if_neg c]
    symm
    rw [Option.map_eq_none_iff, List.find?_eq_none]
    intro rs hrs q
    exact c (M.all (facts (pairs b.things) rs) [] (okL_facts b _ rs (pairsIn _) hrs) q)
theorem countAll_eq (b : Book) (M : Mono b.kind b.things) : (if Qr.can b.kind b.things [] = true then Qr02.count b (pairs b.things) [] else 0) = (scen b).length := by
  unfold scen
  by_cases c : Qr.can b.kind b.things [] = true
  · rw [if_pos c, count_eq b M _ _ (pairsIn _) (fun _ h => absurd h List.not_mem_nil) c, List.filter_map, List.length_map]
    rfl
  · rw [if_neg c]
    symm
    rw [List.length_eq_zero_iff, List.filter_eq_nil_iff]
    intro rs hrs q
    exact c (M.all (facts (pairs b.things) rs) [] (okL_facts b _ rs (pairsIn _) hrs) q)
theorem way_isSome (b : Book) (M : Mono b.kind b.things) : b.way.isSome = true ↔ scen b ≠ [] := by
  rw [way_eq b M]
  cases scen b with
  | nil => simp
  | cons a l => simp
theorem scen_sorted (b : Book) : (scen b).Pairwise fun x y => zints x < zints y := by
  unfold scen
  refine (prod_sorted _ fun m hm => ?_).sublist List.filter_sublist
  obtain ⟨p, _, rfl⟩ := List.mem_map.mp hm
  exact list_sorted _ _

/-! ### sets of relations -/
theorem has_iff (m r : Nat) : Qr.has m r = m.testBit r := by
  unfold Qr.has
  rw [Nat.testBit_eq_decide_div_mod_eq]
  exact Bool.beq_eq_decide_eq _ _
def orAll (l : List Nat) : Nat := l.foldl (fun m r => m ||| 2 ^ r) 0
theorem or_fold : ∀ (l : List Nat) (a i : Nat), (l.foldl (fun m r => m ||| 2 ^ r) a).testBit i = (a.testBit i || decide (i ∈ l))
  | [], a, i => by simp
  | x :: l, a, i => by
    rw [List.foldl_cons, or_fold l, Nat.testBit_or, Nat.testBit_two_pow]
    by_cases c : x = i
    · subst c; simp
    · have c' : ¬ i = x := fun q => c q.symm
      simp [c, c']
theorem orAll_bit (l : List Nat) (i : Nat) : (orAll l).testBit i = decide (i ∈ l) := by
  unfold orAll
  rw [or_fold, Nat.zero_testBit, Bool.false_or]
theorem mask_fold : ∀ (l : List Nat) (a : Nat), l.foldl (fun m r => if Qr.has m r = true then m else m + 2 ^ r) a = l.foldl (fun m r => m ||| 2 ^ r) a
  | [], _ => rfl
  | x :: l, a => by
    rw [List.foldl_cons, List.foldl_cons, mask_fold l]
    congr 1
    rw [has_iff]
    by_cases c : a.testBit x = true
    · rw [if_pos c]
      apply Nat.eq_of_testBit_eq
      intro i
      rw [Nat.testBit_or, Nat.testBit_two_pow]
      by_cases e : x = i
      · subst e; simp [c]
      · simp [e]
    · rw [if_neg c]
      have c' : a.testBit x = false := by simpa using c
      apply Nat.eq_of_testBit_eq
      intro i
      rw [Nat.testBit_or, Nat.testBit_two_pow]
      exact add_two_pow_bit a x c' i
where
  add_two_pow_bit (a x : Nat) (c : a.testBit x = false) (i : Nat) : (a + 2 ^ x).testBit i = (a.testBit i || decide (x = i)) := by
    have e : a + 2 ^ x = a ||| 2 ^ x := by
      have h0 : a / 2 ^ x % 2 = 0 := by
        rw [Nat.testBit_eq_decide_div_mod_eq] at c
        have := of_decide_eq_false c
        omega
      have h1 : a % 2 ^ (x + 1) = a % 2 ^ x := by rw [Nat.mod_pow_succ, h0, Nat.mul_zero, Nat.add_zero]
      have hr : a % 2 ^ x < 2 ^ x := Nat.mod_lt _ (Nat.two_pow_pos x)
      have h2 := Nat.div_add_mod a (2 ^ (x + 1))
      rw [h1] at h2
      generalize a / 2 ^ (x + 1) = q at h2
      generalize a % 2 ^ x = r at h2 hr
      have hp : 2 ^ (x + 1) = 2 ^ x * 2 := Nat.pow_succ 2 x
      have e1 := Nat.two_pow_add_eq_or_of_lt (i := x + 1) (b := r) (by omega) q
      have e2 := Nat.two_pow_add_eq_or_of_lt (i := x) (b := r) hr 1
      have e3 := Nat.two_pow_add_eq_or_of_lt (i := x + 1) (b := 2 ^ x * 1 + r) (by omega) q
      have e4 : a + 2 ^ x = 2 ^ (x + 1) * q + (2 ^ x * 1 + r) := by omega
      rw [e4, e3, e2, ← h2, e1, Nat.mul_one, Nat.or_comm (2 ^ x) r, Nat.or_assoc]
    rw [e, Nat.testBit_or, Nat.testBit_two_pow]
theorem mask_eq (l : List Nat) : Qr.mask l = orAll l := mask_fold l 0
theorem orAll_ext {l m : List Nat} (h : ∀ x, x ∈ l ↔ x ∈ m) : orAll l = orAll m := by
  apply Nat.eq_of_testBit_eq
  intro i
  rw [orAll_bit, orAll_bit]
  exact decide_eq_decide.mpr (h i)

/-! ### may -/
theorem left_with (b : Book) (x : News) (i j : Nat) : (b.with_ x).left i j = if x.i = i ∧ x.j = j then Qr.meet (b.left i j) x.m else b.left i j := by
  unfold Book.left Book.with_
  simp only [List.foldl_append, List.foldl_cons, List.foldl_nil]
theorem getD_map {α β : Type} (f : α → β) (l : List α) (i : Nat) (d : β) (x : α) (h : l[i]? = some x) : (l.map f).getD i d = f x := by
  rw [List.getD_eq_getElem?_getD, List.getElem?_map, h]
  rfl
theorem scen_with {b : Book} {i j t q : Nat} (hq : (pairs b.things)[q]? = some (i, j)) (hu : ∀ q', (pairs b.things)[q']? = some (i, j) → q' = q) (ht : t < size b.kind) (rs : List Nat) :
    rs ∈ scen (b.with_ ⟨i, j, 2 ^ t⟩) ↔ rs ∈ scen b ∧ at0 rs q = t := by
  unfold scen
  rw [List.mem_filter, List.mem_filter, mem_prod, mem_prod]
  have hql : q < (pairs b.things).length := (List.getElem?_eq_some_iff.mp hq).1
  have key : ∀ u p, (pairs b.things)[u]? = some p → ∀ r, (r ∈ (lefts (b.with_ ⟨i, j, 2 ^ t⟩) (pairs b.things)).getD u [] ↔ r ∈ (lefts b (pairs b.things)).getD u [] ∧ (u = q → r = t)) := by
    intro u p hp r
    unfold lefts
    rw [getD_map _ _ _ _ _ hp, getD_map _ _ _ _ _ hp, mem_list, mem_list, left_with, has_iff, has_iff]
    show (r < size b.kind ∧ _ = true) ↔ _
    by_cases c : i = p.1 ∧ j = p.2
    · have e : u = q := hu u (by rw [hp, c.1, c.2])
      rw [if_pos c]
      unfold Qr.meet
      rw [show Nat.land (b.left p.1 p.2) (2 ^ t) = b.left p.1 p.2 &&& 2 ^ t from rfl, Nat.testBit_and, Nat.testBit_two_pow, Bool.and_eq_true, decide_eq_true_iff]
      constructor
      · rintro ⟨h1, h2, h3⟩
        exact ⟨⟨h1, h2⟩, fun _ => h3.symm⟩
      · rintro ⟨⟨h1, h2⟩, h3⟩
        exact ⟨h1, h2, (h3 e).symm⟩
    · rw [if_neg c]
      have e : u ≠ q := fun z => by
        subst z
        rw [hq] at hp
        have e := Option.some.inj hp
        subst e
        exact c ⟨rfl, rfl⟩
      exact ⟨fun h => ⟨h, fun z => absurd z e⟩, fun h => h.1⟩
  have l1 : (lefts (b.with_ ⟨i, j, 2 ^ t⟩) (pairs (b.with_ ⟨i, j, 2 ^ t⟩).things)).length = (pairs b.things).length := lefts_len _ _
  rw [l1, lefts_len]
  have key' : ∀ u, u < (pairs b.things).length → ∀ r, (r ∈ (lefts (b.with_ ⟨i, j, 2 ^ t⟩) (pairs (b.with_ ⟨i, j, 2 ^ t⟩).things)).getD u [] ↔ r ∈ (lefts b (pairs b.things)).getD u [] ∧ (u = q → r = t)) := fun u hu' => key u _ (List.getElem?_eq_getElem hu')
  constructor
  · rintro ⟨⟨h1, h2⟩, h3⟩
    refine ⟨⟨⟨h1, fun u hu' => ((key' u hu' _).mp (h2 u hu')).1⟩, h3⟩, ((key' q hql _).mp (h2 q hql)).2 rfl⟩
  · rintro ⟨⟨⟨h1, h2⟩, h3⟩, h4⟩
    exact ⟨⟨h1, fun u hu' => (key' u hu' _).mpr ⟨h2 u hu', fun e => by rw [e]; exact h4⟩⟩, h3⟩
theorem may_eq (b : Book) (M : Mono b.kind b.things) {i j q : Nat} (hq : (pairs b.things)[q]? = some (i, j)) (hu : ∀ q', (pairs b.things)[q']? = some (i, j) → q' = q) :
    b.may i j = orAll ((scen b).map fun rs => at0 rs q) := by
  unfold Book.may
  rw [mask_eq]
  apply orAll_ext
  intro t
  rw [List.mem_filter, List.mem_map]
  constructor
  · rintro ⟨h1, h2⟩
    have ht := (mem_list.mp h1).1
    have h3 := (way_isSome (b.with_ ⟨i, j, 2 ^ t⟩) M).mp h2
    cases hs : scen (b.with_ ⟨i, j, 2 ^ t⟩) with
    | nil => exact absurd hs h3
    | cons rs l =>
      have := (scen_with hq hu ht rs).mp (by rw [hs]; exact List.mem_cons_self)
      exact ⟨rs, this.1, this.2⟩
  · rintro ⟨rs, h1, h2⟩
    have hl := mem_prod.mp (List.mem_filter.mp h1).1
    have hql : q < (pairs b.things).length := (List.getElem?_eq_some_iff.mp hq).1
    have h3 := hl.2 q (by rw [lefts_len]; exact hql)
    unfold lefts at h3
    rw [getD_map _ _ _ _ _ hq, h2] at h3
    refine ⟨h3, (way_isSome (b.with_ ⟨i, j, 2 ^ t⟩) M).mpr ?_⟩
    intro e
    have := (scen_with hq hu (mem_list.mp h3).1 rs).mpr ⟨h1, h2⟩
    rw [e] at this
    exact absurd this List.not_mem_nil
end Rd

set_option autoImplicit false
/-! RdM6: what the program's lists of scenarios are. -/
namespace Rd
open Qr
open Qr02 (Book News)

theorem can_ord {k : Nat} (hk : KO k) (n : Nat) (l : List Fact) : Qr.can k n l = (heights k n l).isSome := by
  unfold Qr.can Qr.picture
  rw [if_neg (by rcases hk with rfl | rfl | rfl <;> decide)]
theorem pic_ord {k : Nat} (hk : KO k) (n : Nat) (l : List Fact) : Qr.picture k n l = heights k n l := by
  unfold Qr.picture
  rw [if_neg (by rcases hk with rfl | rfl | rfl <;> decide)]
theorem mono_ord {k : Nat} (hk : KO k) (n : Nat) : Mono k n := by
  intro l x o h
  rw [can_ord hk] at h ⊢
  obtain ⟨hh, e⟩ := Option.isSome_iff_exists.mp h
  obtain ⟨S, _⟩ := heights_some e
  obtain ⟨o1, _⟩ := okL_append.mp o
  rw [sol_told k n hk _ o] at S
  refine heights_isSome (told_inR k n hk _ o1) (f := at0 hh) ?_
  rw [sol_told k n hk _ o1]
  exact ⟨S.1, fun y hy => S.2 y (List.mem_append.mpr (.inl hy))⟩

/-! ### pairs by their number -/
theorem nPairs_succ (n : Nat) : nPairs (n + 1) = nPairs n + n := by
  have h := pairs_len (n + 1)
  rw [pairs_succ, List.length_append, pairs_len n, List.length_map, List.length_range] at h
  omega
theorem pairs_get : ∀ {n q i j : Nat}, (pairs n)[q]? = some (i, j) ↔ i < j ∧ j < n ∧ q = nPairs j + i
  | 0, q, i, j => Iff.intro (fun h => by simp [pairs_zero] at h) (fun h => absurd h.2.1 (Nat.not_lt_zero _))
  | n + 1, q, i, j => by
    rw [pairs_succ]
    by_cases c : q < (pairs n).length
    · rw [List.getElem?_append_left c, pairs_get (n := n)]
      constructor
      · rintro ⟨h1, h2, h3⟩
        exact ⟨h1, by omega, h3⟩
      · rintro ⟨h1, h2, h3⟩
        refine ⟨h1, ?_, h3⟩
        by_cases e : j = n
        · subst e
          rw [pairs_len] at c
          omega
        · omega
    · rw [List.getElem?_append_right (by omega), List.getElem?_map, pairs_len]
      rw [pairs_len] at c
      by_cases d : q - nPairs n < n
      · rw [List.getElem?_range d]
        show some (q - nPairs n, n) = some (i, j) ↔ _
        constructor
        · intro e
          have e' := Option.some.inj e
          have e1 : q - nPairs n = i := congrArg Prod.fst e'
          have e2 : n = j := congrArg Prod.snd e'
          subst e2
          exact ⟨by omega, by omega, by omega⟩
        · rintro ⟨h1, h2, h3⟩
          have e : j = n := by
            by_cases e : j = n
            · exact e
            · exfalso
              have hm : nPairs j + i < nPairs (j + 1) := by rw [nPairs_succ]; omega
              have := nPairs_mono (show j + 1 ≤ n by omega)
              omega
          subst e
          have : q - nPairs j = i := by omega
          rw [this]
      · rw [List.getElem?_eq_none (by rw [List.length_range]; omega)]
        refine Iff.intro (fun h => nomatch h) ?_
        rintro ⟨h1, h2, h3⟩
        exfalso
        have hm : nPairs j + i < nPairs (j + 1) := by rw [nPairs_succ]; omega
        have := nPairs_mono (show j + 1 ≤ n + 1 by omega)
        rw [nPairs_succ n] at this
        omega
where
  nPairs_mono : ∀ {a b : Nat}, a ≤ b → nPairs a ≤ nPairs b := by
    intro a b h
    induction h with
    | refl => exact Nat.le_refl _
    | step _ ih => rw [nPairs_succ]; omega
theorem pairs_at {n i j : Nat} (h1 : i < j) (h2 : j < n) : (pairs n)[nPairs j + i]? = some (i, j) := pairs_get.mpr ⟨h1, h2, rfl⟩
theorem pairs_lt {n i j : Nat} (h1 : i < j) (h2 : j < n) : nPairs j + i < nPairs n := by
  have := (List.getElem?_eq_some_iff.mp (pairs_at h1 h2)).1
  rwa [pairs_len] at this

/-- the masks that are left, pair by pair -/
def leftL (b : Book) : List Nat := (pairs b.things).map fun p => b.left p.1 p.2
theorem leftL_len (b : Book) : (leftL b).length = nPairs b.things := by
  unfold leftL
  rw [List.length_map, pairs_len]
theorem lefts_leftL (b : Book) : lefts b (pairs b.things) = (leftL b).map (Qr.list b.kind) := by
  unfold lefts leftL
  rw [List.map_map]
  rfl
theorem mem_prod_left {b : Book} {rs : List Nat} : rs ∈ prod (lefts b (pairs b.things)) ↔ rs.length = nPairs b.things ∧ areLeft (leftL b) 0 rs = true ∧ ∀ r ∈ rs, r < size b.kind := by
  rw [lefts_leftL, mem_prod, List.length_map, leftL_len, areLeft_iff]
  constructor
  · rintro ⟨h1, h2⟩
    have h3 : ∀ i, i < nPairs b.things → at0 rs i < size b.kind ∧ Qr.has ((leftL b).getD (0 + i) 0) (at0 rs i) = true := fun i hi => by
      have := h2 i hi
      have hl : i < (leftL b).length := by rw [leftL_len]; exact hi
      rw [getD_map _ _ _ _ _ (List.getElem?_eq_getElem hl), mem_list] at this
      rw [Nat.zero_add, List.getD_eq_getElem?_getD, List.getElem?_eq_getElem hl]
      exact this
    refine ⟨h1, fun i hi => (h3 i (by omega)).2, fun r hr => ?_⟩
    obtain ⟨i, hi, rfl⟩ := mem_at0 hr
    exact (h3 i (by omega)).1
  · rintro ⟨h1, h2, h3⟩
    refine ⟨h1, fun i hi => ?_⟩
    have hl : i < (leftL b).length := by rw [leftL_len]; exact hi
    have := h2 i (by omega)
    rw [Nat.zero_add, List.getD_eq_getElem?_getD, List.getElem?_eq_getElem hl] at this
    rw [getD_map _ _ _ _ _ (List.getElem?_eq_getElem hl), mem_list]
    exact ⟨h3 _ (at0_mem (by omega)), this⟩
theorem facts_rels {k n : Nat} (f : Nat → Nat) : ∀ x ∈ facts (pairs n) (relsOf k n f), relOf k f x.i x.j = x.r := by
  intro x hx
  have hl : (pairs n).length = (relsOf k n f).length := by rw [relsOf_len, pairs_len]
  obtain ⟨i, hi, h1, h2⟩ := (mem_facts hl).mp hx
  rw [← h2]
  unfold relsOf at0
  rw [getD_map _ _ _ _ _ h1]
theorem rels_facts {k n : Nat} {f : Nat → Nat} {rs : List Nat} (hl : rs.length = nPairs n) (h : ∀ x ∈ facts (pairs n) rs, relOf k f x.i x.j = x.r) : relsOf k n f = rs := by
  apply ext0
  · rw [relsOf_len, hl]
  intro i
  by_cases c : i < nPairs n
  · have hi : i < (pairs n).length := by rw [pairs_len]; exact c
    have e := List.getElem?_eq_getElem hi
    unfold relsOf at0
    rw [getD_map _ _ _ _ _ e]
    exact h ⟨_, _, at0 rs i⟩ ((mem_facts (by rw [pairs_len, hl])).mpr ⟨i, hi, e, rfl⟩)
  · unfold at0
    rw [List.getD_eq_getElem?_getD, List.getD_eq_getElem?_getD, List.getElem?_eq_none (by rw [relsOf_len]; omega), List.getElem?_eq_none (by omega)]

/-- a scenario's relations and its picture -/
def picOf (b : Book) (rs : List Nat) : List Nat := (Qr.picture b.kind b.things (facts (pairs b.things) rs)).getD []
def scenP (b : Book) : List (List Nat × List Nat) := (scen b).map fun rs => (rs, picOf b rs)
def ordP (b : Book) : List (List Nat × List Nat) := (allFigs b.kind (leftL b) b.things).map fun x => (x.1, numsOf b.kind x.2)

theorem relOf_size {k : Nat} (hk : KO k) (f : Nat → Nat) (i j : Nat) : relOf k f i j < size k := by
  unfold relOf
  rcases hk with rfl | rfl | rfl
  · rw [if_neg (by decide), if_neg (by decide)]
    exact cmp_lt _ _
  · rw [if_pos rfl]
    exact irel_lt _ _ _ _
  · rw [if_neg (by decide), if_pos rfl]
    have := cmp_lt (f (2 * i)) (f (2 * j))
    have := cmp_lt (f (2 * i + 1)) (f (2 * j + 1))
    show _ < 9
    omega
theorem figs_pic {b : Book} (hk : KO b.kind) {x : List Nat × Fig} (hx : x ∈ allFigs b.kind (leftL b) b.things) : x.1 ∈ scen b ∧ Qr.picture b.kind b.things (facts (pairs b.things) x.1) = some (numsOf b.kind x.2) := by
  obtain ⟨G, e, L⟩ := (allFigs_ok hk (leftL b) b.things).sound x hx
  have hl : x.1.length = nPairs b.things := by rw [e, relsOf_len]
  have hp : x.1 ∈ prod (lefts b (pairs b.things)) := mem_prod_left.mpr ⟨hl, L, fun r hr => by
    rw [e] at hr
    obtain ⟨p, _, rfl⟩ := List.mem_map.mp hr
    exact relOf_size hk _ _ _⟩
  have ok := okL_facts b _ _ (pairsIn _) hp
  obtain ⟨n1, n2⟩ := numsOf_crd hk G
  have S : Sol (told b.kind b.things (facts (pairs b.things) x.1)) (at0 (numsOf b.kind x.2)) := by
    rw [sol_told _ _ hk _ ok, n2]
    refine ⟨G.2.2.2, ?_⟩
    rw [e]
    exact facts_rels _
  have hh := heights_of (told_inR _ _ hk _ ok) n1 S fun g hg i => by
    rw [sol_told _ _ hk _ ok] at hg
    rw [n2]
    refine crd_least hk G (same_relsOf hk G.2.2.2 hg.1 ?_) i
    rw [rels_facts hl hg.2, e]
  refine ⟨List.mem_filter.mpr ⟨hp, ?_⟩, ?_⟩
  · rw [can_ord hk, hh]
    rfl
  · rw [pic_ord hk, hh]
theorem ord_perm {b : Book} (hk : KO b.kind) : (ordP b).Perm (scenP b) := by
  have A := allFigs_ok hk (leftL b) b.things
  rw [List.perm_ext_iff_of_nodup]
  · intro a
    unfold ordP scenP
    rw [List.mem_map, List.mem_map]
    constructor
    · rintro ⟨x, hx, rfl⟩
      obtain ⟨h1, h2⟩ := figs_pic hk hx
      exact ⟨x.1, h1, by unfold picOf; rw [h2]; rfl⟩
    · rintro ⟨rs, h, rfl⟩
      obtain ⟨h1, h2⟩ := List.mem_filter.mp h
      obtain ⟨l1, l2, l3⟩ := mem_prod_left.mp h1
      have ok := okL_facts b _ _ (pairsIn _) h1
      rw [can_ord hk] at h2
      obtain ⟨hh, e⟩ := Option.isSome_iff_exists.mp h2
      obtain ⟨S, _⟩ := heights_some e
      rw [sol_told _ _ hk _ ok] at S
      have er := rels_facts l1 S.2
      obtain ⟨x, hx, sx⟩ := A.all (at0 hh) S.1 (by rw [er]; exact l2)
      have e1 : x.1 = rs := by rw [(A.sound x hx).2.1, relsOf_same hk sx, er]
      refine ⟨x, hx, ?_⟩
      rw [e1]
      have h3 := (figs_pic hk hx).2
      rw [e1] at h3
      unfold picOf
      rw [h3]
      rfl
  · unfold ordP
    refine map_nodup (fun x hx y hy e => ?_) (List.Pairwise.of_map (·.2) (fun _ _ q w => q (congrArg _ w)) A.nodup)
    have e1 : x.1 = y.1 := (Prod.mk.inj e).1
    obtain ⟨G, h1, _⟩ := A.sound x hx
    obtain ⟨G', h2, _⟩ := A.sound y hy
    have := fig_unique hk G G' (same_relsOf hk G.2.2.2 G'.2.2.2 (by rw [← h1, ← h2, e1]))
    exact Prod.ext e1 this
  · unfold scenP
    refine map_nodup (fun x _ y _ e => (Prod.mk.inj e).1) ?_
    refine (scen_sorted b).imp fun {a c} q e => ?_
    subst e
    exact absurd q (List.lt_irrefl _)
end Rd

set_option autoImplicit false
/-! RdM7: sets: the scenarios and their cells. -/
namespace Rd
open Qr
open Qr02 (Book News)

def excl (r : Nat) (a b : Bool) : Bool :=
  if r = 0 then a && b else if r = 2 then a && !b else if r = 4 then b && !a else decide (r = 3) && (a != b)
def isExcl (rels : List Nat) (n c : Nat) : Bool := (List.range n).any fun j => (List.range j).any fun i => excl (at0 rels (nPairs j + i)) (in_ c i) (in_ c j)
def cellsOf (rels : List Nat) (n : Nat) : List Nat := ((List.range (2 ^ n - 1)).map (· + 1)).filter fun c => !isExcl rels n c
def relBy (cs : List Nat) (i j : Nat) : Nat :=
  if (cs.any fun c => in_ c i && in_ c j) = false then 0
  else if (cs.any fun c => in_ c i && !in_ c j) = true then (if (cs.any fun c => in_ c j && !in_ c i) = true then 1 else 4)
  else if (cs.any fun c => in_ c j && !in_ c i) = true then 2 else 3
def canHold (rels : List Nat) (n : Nat) : Bool :=
  ((List.range n).all fun i => (cellsOf rels n).any fun c => in_ c i) && (List.range n).all fun j => (List.range j).all fun i => decide (relBy (cellsOf rels n) i j = at0 rels (nPairs j + i))
def choicesOf (left : List Nat) (first : Nat) : Nat → List (List Nat)
  | 0 => [[]]
  | m + 1 => (choicesOf left first m).flatMap fun r => (Qr.list 2 (left.getD (first + m) 0)).map fun t => r ++ [t]
def allRels (left : List Nat) : Nat → List (List Nat)
  | 0 => [[]]
  | n + 1 => (allRels left n).flatMap fun r => ((choicesOf left r.length n).map (r ++ ·)).filter fun s => canHold s (n + 1)
def setP (b : Book) : List (List Nat × List Nat) := (allRels (leftL b) b.things).map fun r => (r, cellsOf r b.things)

/-! ### the cells -/
def mayF (f : Fact) (c : Nat) : Bool := if f.r = 0 then !(in_ c f.i && in_ c f.j) else if f.r = 2 then !in_ c f.i || in_ c f.j else if f.r = 4 then !in_ c f.j || in_ c f.i else if f.r = 3 then in_ c f.i == in_ c f.j else true
theorem may_all (l : List Fact) (c : Nat) : Qr.may l c = l.all fun f => mayF f c := rfl
theorem mayF_excl (f : Fact) (c : Nat) : mayF f c = !excl f.r (in_ c f.i) (in_ c f.j) := by
  unfold mayF excl
  by_cases h0 : f.r = 0
  · rw [if_pos h0, if_pos h0]
  · by_cases h2 : f.r = 2
    · rw [if_neg h0, if_pos h2, if_neg h0, if_pos h2]
      cases in_ c f.i <;> cases in_ c f.j <;> rfl
    · by_cases h4 : f.r = 4
      · rw [if_neg h0, if_neg h2, if_pos h4, if_neg h0, if_neg h2, if_pos h4]
        cases in_ c f.i <;> cases in_ c f.j <;> rfl
      · rw [if_neg h0, if_neg h2, if_neg h4, if_neg h0, if_neg h2, if_neg h4]
        by_cases h3 : f.r = 3
        · rw [if_pos h3, h3]
          cases in_ c f.i <;> cases in_ c f.j <;> rfl
        · rw [if_neg h3, decide_eq_false h3]
          rfl
/-- something of all facts is something of all pairs -/
theorem all_facts {n : Nat} {rels : List Nat} (hl : rels.length = nPairs n) (P : Nat → Nat → Nat → Prop) : (∀ x ∈ facts (pairs n) rels, P x.i x.j x.r) ↔ ∀ j, j < n → ∀ i, i < j → P i j (at0 rels (nPairs j + i)) := by
  have hl' : (pairs n).length = rels.length := by rw [pairs_len, hl]
  constructor
  · intro h j hj i hi
    exact h ⟨i, j, _⟩ ((mem_facts hl').mpr ⟨nPairs j + i, by rw [pairs_len]; exact pairs_lt hi hj, pairs_at hi hj, rfl⟩)
  · intro h x hx
    obtain ⟨q, h1, h2, h3⟩ := (mem_facts hl').mp hx
    obtain ⟨h4, h5, h6⟩ := pairs_get.mp h2
    have := h x.j h5 x.i h4
    rwa [← h6, h3] at this
theorem may_isExcl {n : Nat} {rels : List Nat} (hl : rels.length = nPairs n) (c : Nat) : Qr.may (facts (pairs n) rels) c = !isExcl rels n c := by
  rw [Bool.eq_iff_iff, may_all, List.all_eq_true, Bool.not_eq_true']
  have := all_facts hl fun i j r => mayF ⟨i, j, r⟩ c = true
  refine Iff.trans this ?_
  unfold isExcl
  rw [← Bool.not_eq_true, List.any_eq_true]
  constructor
  · rintro h ⟨j, hj, q⟩
    obtain ⟨i, hi, q⟩ := List.any_eq_true.mp q
    have := h j (List.mem_range.mp hj) i (List.mem_range.mp hi)
    rw [mayF_excl] at this
    simp only at this
    rw [q] at this
    exact absurd this (by decide)
  · intro h j hj i hi
    rw [mayF_excl]
    simp only
    rw [Bool.not_eq_true']
    apply Classical.byContradiction
    intro q
    refine h ⟨j, List.mem_range.mpr hj, List.any_eq_true.mpr ⟨i, List.mem_range.mpr hi, ?_⟩⟩
    simpa using q
theorem range_pos (m : Nat) (p : Nat → Bool) : ((List.range (m - 1)).map (· + 1)).filter p = (List.range m).filter fun c => c != 0 && p c := by
  cases m with
  | zero => rfl
  | succ m =>
    rw [Nat.add_sub_cancel, List.range_succ_eq_map, List.filter_cons_of_neg (by simp)]
    apply List.filter_congr
    intro x hx
    obtain ⟨y, _, rfl⟩ := List.mem_map.mp hx
    simp
theorem cellsOf_eq {n : Nat} {rels : List Nat} (hl : rels.length = nPairs n) : cellsOf rels n = Qr.cells n (facts (pairs n) rels) := by
  unfold cellsOf Qr.cells
  rw [range_pos]
  congr 1
  funext c
  rw [may_isExcl hl]

theorem mem_cells {n : Nat} {l : List Fact} {c : Nat} : c ∈ Qr.cells n l ↔ c < 2 ^ n ∧ c ≠ 0 ∧ Qr.may l c = true := by
  unfold Qr.cells
  rw [List.mem_filter, List.mem_range, Bool.and_eq_true, bne_iff_ne]

def fullF (cs : List Nat) (f : Fact) : Bool :=
  if f.r = 1 then (cs.any fun c => in_ c f.i && in_ c f.j) && ((cs.any fun c => in_ c f.i && !in_ c f.j) && (cs.any fun c => in_ c f.j && !in_ c f.i))
  else if f.r = 2 then (cs.any fun c => in_ c f.j && !in_ c f.i) else if f.r = 4 then (cs.any fun c => in_ c f.i && !in_ c f.j) else true
theorem full_eq (n : Nat) (l : List Fact) (cs : List Nat) : Qr.full n l cs = (((List.range n).all fun i => cs.any fun c => in_ c i) && l.all (fullF cs)) := rfl
theorem can_set (n : Nat) (l : List Fact) : Qr.can 2 n l = Qr.full n l (Qr.cells n l) := by
  unfold Qr.can Qr.picture
  rw [if_pos rfl]
  simp only
  cases Qr.full n l (Qr.cells n l) <;> rfl
theorem pic_set {n : Nat} {l : List Fact} (h : Qr.can 2 n l = true) : Qr.picture 2 n l = some (Qr.cells n l) := by
  rw [can_set] at h
  unfold Qr.picture
  rw [if_pos rfl]
  simp only
  rw [if_pos h]

/-- what a fact asks of the cells that it allows -/
theorem relBy_full {cs : List Nat} {f : Fact} (hr : f.r < 5) (hm : ∀ c ∈ cs, mayF f c = true) (hi : (cs.any fun c => in_ c f.i) = true) (hj : (cs.any fun c => in_ c f.j) = true) : relBy cs f.i f.j = f.r ↔ fullF cs f = true := by
  have b1 : (∀ c ∈ cs, in_ c f.i = true → in_ c f.j = true) → (cs.any fun c => in_ c f.i && in_ c f.j) = true := fun h => by
    obtain ⟨c, hc, q⟩ := List.any_eq_true.mp hi
    exact List.any_eq_true.mpr ⟨c, hc, by rw [q, h c hc q]; rfl⟩
  have b2 : (∀ c ∈ cs, in_ c f.j = true → in_ c f.i = true) → (cs.any fun c => in_ c f.i && in_ c f.j) = true := fun h => by
    obtain ⟨c, hc, q⟩ := List.any_eq_true.mp hj
    exact List.any_eq_true.mpr ⟨c, hc, by rw [q, h c hc q]; rfl⟩
  have n1 : (∀ c ∈ cs, in_ c f.i = true → in_ c f.j = true) → (cs.any fun c => in_ c f.i && !in_ c f.j) = false := fun h => by
    rw [List.any_eq_false]
    intro c hc q
    rw [Bool.and_eq_true, Bool.not_eq_true'] at q
    rw [h c hc q.1] at q
    exact absurd q.2 (by decide)
  have n2 : (∀ c ∈ cs, in_ c f.j = true → in_ c f.i = true) → (cs.any fun c => in_ c f.j && !in_ c f.i) = false := fun h => by
    rw [List.any_eq_false]
    intro c hc q
    rw [Bool.and_eq_true, Bool.not_eq_true'] at q
    rw [h c hc q.1] at q
    exact absurd q.2 (by decide)
  have hr' : f.r = 0 ∨ f.r = 1 ∨ f.r = 2 ∨ f.r = 3 ∨ f.r = 4 := by omega
  unfold relBy fullF
  rcases hr' with e | e | e | e | e
  · have z : (cs.any fun c => in_ c f.i && in_ c f.j) = false := by
      rw [List.any_eq_false]
      intro c hc q
      have := hm c hc
      unfold mayF at this
      rw [if_pos e, q] at this
      exact absurd this (by decide)
    rw [z, e]
    simp
  · rw [e]
    cases (cs.any fun c => in_ c f.i && in_ c f.j) <;> cases (cs.any fun c => in_ c f.i && !in_ c f.j) <;> cases (cs.any fun c => in_ c f.j && !in_ c f.i) <;> decide
  · have h : ∀ c ∈ cs, in_ c f.i = true → in_ c f.j = true := fun c hc q => by
      have := hm c hc
      unfold mayF at this
      rw [e, if_neg (by decide), if_pos rfl, q] at this
      simpa using this
    rw [b1 h, n1 h, e]
    cases (cs.any fun c => in_ c f.j && !in_ c f.i) <;> decide
  · have h : ∀ c ∈ cs, in_ c f.i = in_ c f.j := fun c hc => by
      have := hm c hc
      unfold mayF at this
      rw [e, if_neg (by decide), if_neg (by decide), if_neg (by decide), if_pos rfl] at this
      simpa using this
    rw [b1 (fun c hc q => by rw [← h c hc]; exact q), n1 (fun c hc q => by rw [← h c hc]; exact q), n2 (fun c hc q => by rw [h c hc]; exact q), e]
    decide
  · have h : ∀ c ∈ cs, in_ c f.j = true → in_ c f.i = true := fun c hc q => by
      have := hm c hc
      unfold mayF at this
      rw [e, if_neg (by decide), if_neg (by decide), if_pos rfl, q] at this
      simpa using this
    rw [b2 h, n2 h, e]
    cases (cs.any fun c => in_ c f.i && !in_ c f.j) <;> decide
theorem canHold_can {n : Nat} {rels : List Nat} (hl : rels.length = nPairs n) (hr : ∀ r ∈ rels, r < 5) : canHold rels n = Qr.can 2 n (facts (pairs n) rels) := by
  rw [can_set, full_eq]
  unfold canHold
  rw [cellsOf_eq hl]
  cases hc : ((List.range n).all fun i => (Qr.cells n (facts (pairs n) rels)).any fun c => in_ c i) with
  | false => rfl
  | true =>
    rw [Bool.true_and, Bool.true_and, Bool.eq_iff_iff, List.all_eq_true, List.all_eq_true]
    have key := all_facts hl fun i j r => fullF (Qr.cells n (facts (pairs n) rels)) ⟨i, j, r⟩ = true
    refine Iff.trans ?_ key.symm
    have ne : ∀ i, i < n → ((Qr.cells n (facts (pairs n) rels)).any fun c => in_ c i) = true := fun i hi => List.all_eq_true.mp hc i (List.mem_range.mpr hi)
    have one : ∀ j, j < n → ∀ i, i < j → (relBy (Qr.cells n (facts (pairs n) rels)) i j = at0 rels (nPairs j + i) ↔ fullF (Qr.cells n (facts (pairs n) rels)) ⟨i, j, at0 rels (nPairs j + i)⟩ = true) := fun j hj i hi => by
      refine relBy_full (f := ⟨i, j, at0 rels (nPairs j + i)⟩) (hr _ (at0_mem (by rw [hl]; exact pairs_lt hi hj))) (fun c hc => ?_) (ne i (by omega)) (ne j hj)
      have h1 := (mem_cells.mp hc).2.2
      rw [may_all, List.all_eq_true] at h1
      exact h1 _ ((mem_facts (by rw [pairs_len, hl])).mpr ⟨nPairs j + i, by rw [pairs_len]; exact pairs_lt hi hj, pairs_at hi hj, rfl⟩)
    constructor
    · intro h j hj i hi
      have := List.all_eq_true.mp (h j (List.mem_range.mpr hj)) i (List.mem_range.mpr hi)
      exact (one j hj i hi).mp (of_decide_eq_true this)
    · intro h j hj
      rw [List.all_eq_true]
      intro i hi
      exact decide_eq_true ((one j (List.mem_range.mp hj) i (List.mem_range.mp hi)).mpr (h j (List.mem_range.mp hj) i (List.mem_range.mp hi)))

/-! ### less facts, less sets -/
theorem in_mod {c i n : Nat} (h : i < n) : in_ (c % 2 ^ n) i = in_ c i := by
  have e : ∀ m r, Qr.in_ m r = m.testBit r := fun m r => has_iff m r
  rw [e, e, Nat.testBit_mod_two_pow, decide_eq_true h, Bool.true_and]
theorem can_less {n n' : Nat} (hn : n ≤ n') {l l' : List Fact} (hl : ∀ x ∈ l, x.i < n ∧ x.j < n) (h : Qr.can 2 n' (l ++ l') = true) : Qr.can 2 n l = true := by
  rw [can_set, full_eq, Bool.and_eq_true, List.all_eq_true, List.all_eq_true] at h ⊢
  obtain ⟨h1, h2⟩ := h
  -- a cell of the more sets, seen in the less ones
  have low : ∀ c, c ∈ Qr.cells n' (l ++ l') → ∀ i, i < n → in_ c i = true → c % 2 ^ n ∈ Qr.cells n l := fun c hc i hi q => by
    obtain ⟨_, _, hm⟩ := mem_cells.mp hc
    refine mem_cells.mpr ⟨Nat.mod_lt _ (Nat.two_pow_pos n), fun z => ?_, ?_⟩
    · rw [← in_mod hi, z] at q
      unfold Qr.in_ at q
      simp at q
    · rw [may_all, List.all_eq_true] at hm ⊢
      intro x hx
      have := hm x (List.mem_append.mpr (.inl hx))
      unfold mayF at this ⊢
      rw [in_mod (hl x hx).1, in_mod (hl x hx).2]
      exact this
  have any_low : ∀ (i j : Nat), i < n → j < n → ((Qr.cells n' (l ++ l')).any fun c => in_ c i && !in_ c j) = true → ((Qr.cells n l).any fun c => in_ c i && !in_ c j) = true := fun i j hi hj q => by
    obtain ⟨c, hc, q⟩ := List.any_eq_true.mp q
    have q' := Bool.and_eq_true_iff.mp q
    exact List.any_eq_true.mpr ⟨_, low c hc i hi q'.1, by rw [in_mod hi, in_mod hj]; exact q⟩
  have any_both : ∀ (i j : Nat), i < n → j < n → ((Qr.cells n' (l ++ l')).any fun c => in_ c i && in_ c j) = true → ((Qr.cells n l).any fun c => in_ c i && in_ c j) = true := fun i j hi hj q => by
    obtain ⟨c, hc, q⟩ := List.any_eq_true.mp q
    have q' := Bool.and_eq_true_iff.mp q
    exact List.any_eq_true.mpr ⟨_, low c hc i hi q'.1, by rw [in_mod hi, in_mod hj]; exact q⟩
  constructor
  · intro i hi
    have hi := List.mem_range.mp hi
    obtain ⟨c, hc, q⟩ := List.any_eq_true.mp (h1 i (List.mem_range.mpr (by omega)))
    exact List.any_eq_true.mpr ⟨_, low c hc i hi q, by rw [in_mod hi]; exact q⟩
  · intro x hx
    obtain ⟨hi, hj⟩ := hl x hx
    have := h2 x (List.mem_append.mpr (.inl hx))
    unfold fullF at this ⊢
    by_cases c1 : x.r = 1
    · rw [if_pos c1, Bool.and_eq_true, Bool.and_eq_true] at this ⊢
      exact ⟨any_both _ _ hi hj this.1, any_low _ _ hi hj this.2.1, any_low _ _ hj hi this.2.2⟩
    · by_cases c2 : x.r = 2
      · rw [if_neg c1, if_pos c2] at this ⊢
        exact any_low _ _ hj hi this
      · by_cases c4 : x.r = 4
        · rw [if_neg c1, if_neg c2, if_pos c4] at this ⊢
          exact any_low _ _ hi hj this
        · rw [if_neg c1, if_neg c2, if_neg c4]
theorem mono_set (n : Nat) : Mono 2 n := fun l x o h => can_less (Nat.le_refl n) (fun y hy => by
  have := o y (List.mem_append.mpr (.inl hy))
  exact ⟨this.1, this.2.1⟩) h

/-! ### all relations -/
theorem choicesOf_prod (left : List Nat) (first : Nat) : ∀ m, choicesOf left first m = prod ((List.range m).map fun i => Qr.list 2 (left.getD (first + i) 0))
  | 0 => rfl
  | m + 1 => by
    rw [choicesOf, choicesOf_prod left first m, List.range_succ, List.map_append, prod_append]
    congr 1
    funext r
    show _ = ((Qr.list 2 (left.getD (first + m) 0)).flatMap fun t => [[]].map (t :: ·)).map (r ++ ·)
    rw [map_flatMap']
    show List.map _ _ = (Qr.list 2 (left.getD (first + m) 0)).flatMap fun t => [r ++ [t]]
    rw [List.map_eq_flatMap]
theorem take_more {left : List Nat} : ∀ (a m : Nat), a + m ≤ left.length → left.take (a + m) = left.take a ++ (List.range m).map fun i => left.getD (a + i) 0
  | a, 0, _ => by simp
  | a, m + 1, h => by
    rw [List.range_succ, List.map_append, ← List.append_assoc, ← take_more a m (by omega)]
    show left.take (a + m + 1) = left.take (a + m) ++ [left.getD (a + m) 0]
    rw [List.take_add_one, List.getD_eq_getElem?_getD, List.getElem?_eq_getElem (by omega)]
    rfl
theorem flatMap_filter {α β : Type} {p : α → Bool} {g : α → List β} : ∀ l : List α, (∀ x ∈ l, p x = false → g x = []) → (l.filter p).flatMap g = l.flatMap g
  | [], _ => rfl
  | a :: l, h => by
    have ih := flatMap_filter l fun x hx => h x (List.mem_cons_of_mem _ hx)
    cases c : p a with
    | true => rw [List.filter_cons_of_pos c, List.flatMap_cons, List.flatMap_cons, ih]
    | false => rw [List.filter_cons_of_neg (by rw [c]; decide), List.flatMap_cons, h a List.mem_cons_self c, List.nil_append, ih]
theorem flatMap_congr' {α β : Type} {f g : α → List β} : ∀ l : List α, (∀ x ∈ l, f x = g x) → l.flatMap f = l.flatMap g
  | [], _ => rfl
  | a :: l, h => by rw [List.flatMap_cons, List.flatMap_cons, h a List.mem_cons_self, flatMap_congr' l fun x hx => h x (List.mem_cons_of_mem _ hx)]
theorem canHold_less {n : Nat} {a c : List Nat} (ha : a.length = nPairs n) (hc : c.length = n) (hr : ∀ r ∈ a ++ c, r < 5) (h : canHold (a ++ c) (n + 1) = true) : canHold a n = true := by
  rw [canHold_can (by rw [List.length_append, ha, hc, nPairs_succ]) hr, pairs_succ, facts_append _ _ _ _ (by rw [pairs_len, ha])] at h
  rw [canHold_can ha fun r q => hr r (List.mem_append.mpr (.inl q))]
  refine can_less (by omega) (fun x hx => ?_) h
  obtain ⟨q, _, h2, _⟩ := (mem_facts (by rw [pairs_len, ha])).mp hx
  have := mem_pairs.mp (List.mem_of_getElem? h2)
  simp only at this
  omega
theorem mem_prod_lt {l : List Nat} {rs : List Nat} (h : rs ∈ prod (l.map (Qr.list 2))) : rs.length = l.length ∧ ∀ r ∈ rs, r < 5 := by
  obtain ⟨h1, h2⟩ := mem_prod.mp h
  rw [List.length_map] at h1 h2
  refine ⟨h1, fun r hr => ?_⟩
  obtain ⟨i, hi, rfl⟩ := mem_at0 hr
  have := h2 i (by omega)
  rw [getD_map _ _ _ _ _ (List.getElem?_eq_getElem (show i < l.length by omega)), mem_list] at this
  exact this.1
theorem allRels_eq (left : List Nat) : ∀ n, nPairs n ≤ left.length → allRels left n = (prod ((left.take (nPairs n)).map (Qr.list 2))).filter fun r => canHold r n
  | 0, _ => by
    show [[]] = ((prod ((left.take 0).map (Qr.list 2))).filter fun r => canHold r 0)
    rw [List.take_zero]
    rfl
  | n + 1, h => by
    rw [nPairs_succ] at h
    rw [allRels, allRels_eq left n (by omega), nPairs_succ, take_more _ _ h, List.map_append, List.map_map, prod_append, List.filter_flatMap]
    rw [flatMap_filter]
    · apply flatMap_congr'
      intro r hr
      have hl := (mem_prod_lt hr).1
      rw [List.length_take, Nat.min_eq_left (by omega)] at hl
      rw [hl, choicesOf_prod]
      rfl
    · intro r hr c
      obtain ⟨hl, h5⟩ := mem_prod_lt hr
      rw [List.length_take, Nat.min_eq_left (by omega)] at hl
      rw [List.filter_eq_nil_iff]
      intro s hs q
      obtain ⟨m, hm, rfl⟩ := List.mem_map.mp hs
      rw [hl, choicesOf_prod] at hm
      have e : (List.range n).map (fun i => Qr.list 2 (left.getD (nPairs n + i) 0)) = ((List.range n).map fun i => left.getD (nPairs n + i) 0).map (Qr.list 2) := by
        rw [List.map_map]
        rfl
      rw [e] at hm
      obtain ⟨ml, m5⟩ := mem_prod_lt hm
      rw [List.length_map, List.length_range] at ml
      have := canHold_less hl ml (fun r hr => by
        rcases List.mem_append.mp hr with hr | hr
        · exact h5 r hr
        · exact m5 r hr) q
      rw [c] at this
      cases this
theorem set_eq {b : Book} (hk : b.kind = 2) : setP b = scenP b := by
  unfold setP scenP scen
  rw [allRels_eq _ _ (by rw [leftL_len]; exact Nat.le_refl _), ← leftL_len b, List.take_length, lefts_leftL, hk]
  have e : ((prod ((leftL b).map (Qr.list 2))).filter fun r => canHold r b.things) = (prod ((leftL b).map (Qr.list 2))).filter fun rs => Qr.can 2 b.things (facts (pairs b.things) rs) := by
    apply List.filter_congr
    intro r hr
    obtain ⟨h1, h2⟩ := mem_prod_lt hr
    exact canHold_can (by rw [h1, leftL_len]) h2
  rw [e]
  apply List.map_congr_left
  intro r hr
  obtain ⟨h1, h2⟩ := List.mem_filter.mp hr
  have hl := (mem_prod_lt h1).1
  rw [leftL_len] at hl
  unfold picOf
  rw [hk, pic_set h2, cellsOf_eq hl]
  rfl
end Rd

set_option autoImplicit false
/-! RdM8: the masks that are left, row by row. -/
namespace Rd
open Qr
open Qr02 (Book News)
def turnedM (k : Nat) (r : Nat × Nat × Nat) : Nat := if r.1 < r.2.1 then r.2.2 else Qr.turnedAll k r.2.2
def idxOf (r : Nat × Nat × Nat) : Nat := nPairs (max r.1 r.2.1) + min r.1 r.2.1
def leftStep (k : Nat) (L : List Nat) (r : Nat × Nat × Nat) : List Nat := L.set (idxOf r) (L.getD (idxOf r) 0 &&& turnedM k r)
def leftRows (k n : Nat) (rows : List (Nat × Nat × Nat)) : List Nat := rows.foldl (leftStep k) ((List.range (nPairs n)).map fun _ => Qr.all k)
def newsR (k : Nat) (r : Nat × Nat × Nat) : News := if r.1 < r.2.1 then ⟨r.1, r.2.1, r.2.2⟩ else ⟨r.2.1, r.1, Qr.turnedAll k r.2.2⟩
theorem newsR_eq (k : Nat) {r : Nat × Nat × Nat} (h : r.1 ≠ r.2.1) : newsR k r = ⟨min r.1 r.2.1, max r.1 r.2.1, turnedM k r⟩ := by
  unfold newsR turnedM
  by_cases c : r.1 < r.2.1
  · rw [if_pos c, if_pos c, Nat.min_eq_left (by omega), Nat.max_eq_right (by omega)]
  · rw [if_neg c, if_neg c, Nat.min_eq_right (by omega), Nat.max_eq_left (by omega)]
theorem idx_lt {n : Nat} {r : Nat × Nat × Nat} (h : r.1 < n ∧ r.2.1 < n ∧ r.1 ≠ r.2.1) : idxOf r < nPairs n := by
  unfold idxOf
  exact pairs_lt (by omega) (by omega)
theorem left_one {n k : Nat} (g : Nat × Nat → Nat) {r : Nat × Nat × Nat} (h : r.1 < n ∧ r.2.1 < n ∧ r.1 ≠ r.2.1) :
    leftStep k ((pairs n).map g) r = (pairs n).map fun p => if (newsR k r).i = p.1 ∧ (newsR k r).j = p.2 then Qr.meet (g p) (newsR k r).m else g p := by
  rw [newsR_eq k h.2.2]
  unfold leftStep
  apply List.ext_getElem
  · simp
  intro q h1 h2
  rw [List.length_map] at h2
  have hp := List.getElem?_eq_getElem h2
  have hat : (pairs n)[idxOf r]? = some (min r.1 r.2.1, max r.1 r.2.1) := by
    unfold idxOf
    exact pairs_at (by omega) (by omega)
  rw [List.getElem_set, List.getElem_map, List.getElem_map]
  by_cases c : idxOf r = q
  · subst c
    have e := Option.some.inj (hp.symm.trans hat)
    rw [if_pos rfl, e, if_pos ⟨rfl, rfl⟩, getD_map _ _ _ _ _ hat]
    rfl
  · rw [if_neg c, if_neg]
    rintro ⟨e1, e2⟩
    apply c
    have e : (pairs n)[q] = (min r.1 r.2.1, max r.1 r.2.1) := Prod.ext e1.symm e2.symm
    rw [e] at hp
    have := (pairs_get.mp hp).2.2
    unfold idxOf
    omega
theorem left_all {n k : Nat} : ∀ (rows : List (Nat × Nat × Nat)) (g : Nat × Nat → Nat), (∀ r ∈ rows, r.1 < n ∧ r.2.1 < n ∧ r.1 ≠ r.2.1) →
    rows.foldl (leftStep k) ((pairs n).map g) = (pairs n).map fun p => (rows.map (newsR k)).foldl (fun m x => if x.i = p.1 ∧ x.j = p.2 then Qr.meet m x.m else m) (g p)
  | [], g, _ => rfl
  | r :: rows, g, h => by
    rw [List.foldl_cons, left_one g (h r List.mem_cons_self), left_all rows _ fun x hx => h x (List.mem_cons_of_mem _ hx)]
    rfl
theorem leftRows_eq {k n : Nat} {rows : List (Nat × Nat × Nat)} (h : ∀ r ∈ rows, r.1 < n ∧ r.2.1 < n ∧ r.1 ≠ r.2.1) : leftRows k n rows = leftL ⟨k, n, rows.map (newsR k)⟩ := by
  have e : ((List.range (nPairs n)).map fun _ => Qr.all k) = (pairs n).map fun _ => Qr.all k := by
    apply List.ext_getElem
    · rw [List.length_map, List.length_map, List.length_range, pairs_len]
    · intro i h1 h2
      rw [List.getElem_map, List.getElem_map]
  unfold leftRows
  rw [e, left_all rows _ h]
  rfl
theorem leftStep_len (k : Nat) : ∀ (rows : List (Nat × Nat × Nat)) (L : List Nat), (rows.foldl (leftStep k) L).length = L.length
  | [], _ => rfl
  | r :: rows, L => by
    rw [List.foldl_cons, leftStep_len k rows]
    unfold leftStep
    rw [List.length_set]
end Rd

set_option Elab.async false
set_option autoImplicit false
set_option linter.all false
set_option maxRecDepth 100000
set_option maxHeartbeats 2000000
/-! RdY: readings over two heaps: B, the data that stand for ever; H, all (what is being built stands in H alone). -/
namespace RdW
open PySem L2
open Evl (Ex)

abbrev RP := V → Hp → Prop
class MoC (R : RP) : Prop where
  up : ∀ {v : V} {H H' : Hp}, Ex H H' → R v H → R v H'
def isI (n : Nat) : RP := fun v _ => v = .int (n : Int)
def isZ (n : Int) : RP := fun v _ => v = .int n
def isB (b : Bool) : RP := fun v _ => v = .bl b
def isV (w : V) : RP := fun v _ => v = w
def Al {α : Type} (r : α → RP) (H : Hp) : List α → List V → Prop
  | [], [] => True
  | a :: l, v :: vs => r a v H ∧ Al r H l vs
  | [], _ :: _ => False
  | _ :: _, [] => False
def LL (K : PySem.W.Frag) {α : Type} (r : α → RP) (l : List α) : RP := fun v H => ∃ a xs, v = .ref a ∧ H a = some (.lst xs) ∧ Al r H l xs
def TU (K : PySem.W.Frag) {α : Type} (r : α → RP) (l : List α) : RP := fun v H => ∃ a xs, v = .ref a ∧ SqT K H a xs ∧ Al r H l xs
/-- a tuple of two -/
def PR (K : PySem.W.Frag) {α β : Type} (r : α → RP) (s : β → RP) (p : α × β) : RP := fun v H => ∃ a x y, v = .ref a ∧ SqT K H a [x, y] ∧ r p.1 x H ∧ s p.2 y H
/-- a tuple of three -/
def P3 (K : PySem.W.Frag) {α β γ : Type} (r : α → RP) (s : β → RP) (t : γ → RP) (p : α × β × γ) : RP := fun v H => ∃ a x y z, v = .ref a ∧ SqT K H a [x, y, z] ∧ r p.1 x H ∧ s p.2.1 y H ∧ t p.2.2 z H
instance (n : Nat) : MoC (isI n) := ⟨fun _ h => h⟩
instance (n : Int) : MoC (isZ n) := ⟨fun _ h => h⟩
instance (n : Bool) : MoC (isB n) := ⟨fun _ h => h⟩
instance (n : V) : MoC (isV n) := ⟨fun _ h => h⟩
theorem Al.up {α : Type} {r : α → RP} [hr : ∀ a, MoC (r a)] {H H' : Hp} (e : Ex H H') : ∀ {l : List α} {vs : List V}, Al r H l vs → Al r H' l vs
  | [], [], _ => trivial
  | a :: l, v :: vs, h => ⟨(hr a).up e h.1, Al.up e h.2⟩
  | [], _ :: _, h => h.elim
  | _ :: _, [], h => h.elim
instance (K : PySem.W.Frag) {α : Type} (r : α → RP) [∀ a, MoC (r a)] (l : List α) : MoC (LL K r l) := ⟨fun e ⟨a, xs, h1, h2, h3⟩ => ⟨a, xs, h1, e _ _ h2, h3.up e⟩⟩
instance (K : PySem.W.Frag) {α : Type} (r : α → RP) [∀ a, MoC (r a)] (l : List α) : MoC (TU K r l) := ⟨fun e ⟨a, xs, h1, h2, h3⟩ => ⟨a, xs, h1, Evl.ex_t e h2, h3.up e⟩⟩
instance (K : PySem.W.Frag) {α β : Type} (r : α → RP) (s : β → RP) [hr : ∀ a, MoC (r a)] [hs : ∀ a, MoC (s a)] (p : α × β) : MoC (PR K r s p) := ⟨fun e ⟨a, x, y, h1, h2, h3, h4⟩ => ⟨a, x, y, h1, Evl.ex_t e h2, (hr _).up e h3, (hs _).up e h4⟩⟩
instance (K : PySem.W.Frag) {α β γ : Type} (r : α → RP) (s : β → RP) (t : γ → RP) [hr : ∀ a, MoC (r a)] [hs : ∀ a, MoC (s a)] [ht : ∀ a, MoC (t a)] (p : α × β × γ) : MoC (P3 K r s t p) :=
  ⟨fun e ⟨a, x, y, z, h1, h2, h3, h4, h5⟩ => ⟨a, x, y, z, h1, Evl.ex_t e h2, (hr _).up e h3, (hs _).up e h4, (ht _).up e h5⟩⟩

section
variable {α : Type} {r : α → RP} {H : Hp}
theorem Al.length : ∀ {l : List α} {vs : List V}, Al r H l vs → l.length = vs.length
  | [], [], _ => rfl
  | a :: l, v :: vs, h => congrArg (· + 1) (Al.length h.2)
  | [], _ :: _, h => h.elim
  | _ :: _, [], h => h.elim
theorem Al.get : ∀ {l : List α} {vs : List V} {i : Nat} {v : V}, Al r H l vs → vs[i]? = some v → ∃ a, l[i]? = some a ∧ r a v H
  | [], [], _, _, _, h => by simp at h
  | a :: l, v :: vs, 0, w, h, e => by
    have e' : v = w := by simpa using e
    subst e'
    exact ⟨a, rfl, h.1⟩
  | a :: l, v :: vs, i + 1, w, h, e => by
    obtain ⟨b, h1, h2⟩ := Al.get (i := i) h.2 (by simpa using e)
    exact ⟨b, by simpa using h1, h2⟩
  | [], _ :: _, _, _, h, _ => h.elim
  | _ :: _, [], _, _, h, _ => h.elim
theorem Al.at : ∀ {l : List α} {vs : List V} {i : Nat} {a : α}, Al r H l vs → l[i]? = some a → ∃ v, vs[i]? = some v ∧ r a v H
  | [], [], _, _, _, h => by simp at h
  | a :: l, v :: vs, 0, w, h, e => by
    have e' : a = w := by simpa using e
    subst e'
    exact ⟨v, rfl, h.1⟩
  | a :: l, v :: vs, i + 1, w, h, e => by
    obtain ⟨b, h1, h2⟩ := Al.at (i := i) h.2 (by simpa using e)
    exact ⟨b, by simpa using h1, h2⟩
  | [], _ :: _, _, _, h, _ => h.elim
  | _ :: _, [], _, _, h, _ => h.elim
theorem Al.append : ∀ {l m : List α} {vs ws : List V}, Al r H l vs → Al r H m ws → Al r H (l ++ m) (vs ++ ws)
  | [], _, [], _, _, h => h
  | a :: l, m, v :: vs, ws, h, h' => ⟨h.1, Al.append h.2 h'⟩
  | [], _, _ :: _, _, h, _ => h.elim
  | _ :: _, _, [], _, h, _ => h.elim
theorem Al.one {a : α} {v : V} (h : r a v H) : Al r H [a] [v] := ⟨h, trivial⟩
theorem Al.snoc {l : List α} {vs : List V} {a : α} {v : V} (h : Al r H l vs) (h' : r a v H) : Al r H (l ++ [a]) (vs ++ [v]) := h.append (.one h')
theorem Al.imp {β : Type} {s : β → RP} {f : α → β} (h : ∀ a v, r a v H → s (f a) v H) : ∀ {l : List α} {vs : List V}, Al r H l vs → Al s H (l.map f) vs
  | [], [], _ => trivial
  | a :: l, v :: vs, q => ⟨h _ _ q.1, Al.imp h q.2⟩
  | [], _ :: _, q => q.elim
  | _ :: _, [], q => q.elim
theorem Al.impM {β : Type} {s : β → RP} {f : α → β} : ∀ {l : List α} {vs : List V}, (∀ a ∈ l, ∀ v, r a v H → s (f a) v H) → Al r H l vs → Al s H (l.map f) vs
  | [], [], _, _ => trivial
  | a :: l, v :: vs, h, q => ⟨h _ List.mem_cons_self _ q.1, Al.impM (fun b hb => h b (List.mem_cons_of_mem _ hb)) q.2⟩
  | [], _ :: _, _, q => q.elim
  | _ :: _, [], _, q => q.elim
theorem Al.take : ∀ {l : List α} {vs : List V} (n : Nat), Al r H l vs → Al r H (l.take n) (vs.take n)
  | [], [], n, _ => by simp [Al]
  | a :: l, v :: vs, 0, _ => trivial
  | a :: l, v :: vs, n + 1, h => ⟨h.1, Al.take n h.2⟩
  | [], _ :: _, _, h => h.elim
  | _ :: _, [], _, h => h.elim
theorem Al.drop : ∀ {l : List α} {vs : List V} (n : Nat), Al r H l vs → Al r H (l.drop n) (vs.drop n)
  | [], [], n, _ => by simp [Al]
  | a :: l, v :: vs, 0, h => h
  | a :: l, v :: vs, n + 1, h => Al.drop n h.2
  | [], _ :: _, _, h => h.elim
  | _ :: _, [], _, h => h.elim
theorem Al.set : ∀ {l : List α} {vs : List V} (n : Nat) {a : α} {v : V}, Al r H l vs → r a v H → Al r H (l.set n a) (vs.set n v)
  | [], [], n, _, _, _, _ => trivial
  | a :: l, v :: vs, 0, _, _, h, h' => ⟨h', h.2⟩
  | a :: l, v :: vs, n + 1, _, _, h, h' => ⟨h.1, Al.set n h.2 h'⟩
  | [], _ :: _, _, _, _, h, _ => h.elim
  | _ :: _, [], _, _, _, h, _ => h.elim
end
theorem al_ints {H : Hp} : ∀ {l : List Nat} {vs : List V}, Al isI H l vs → vs = l.map fun (n : Nat) => V.int n
  | [], [], _ => rfl
  | a :: l, v :: vs, h => by
    have h1 : v = .int (a : Int) := h.1
    rw [List.map_cons, ← al_ints h.2, h1]
  | [], _ :: _, h => h.elim
  | _ :: _, [], h => h.elim
theorem ints_al {H : Hp} : ∀ (l : List Nat), Al isI H l (l.map fun (n : Nat) => V.int n)
  | [] => trivial
  | a :: l => ⟨rfl, ints_al l⟩
theorem al_bools {H : Hp} : ∀ {l : List Bool} {vs : List V}, Al isB H l vs → vs = l.map V.bl
  | [], [], _ => rfl
  | a :: l, v :: vs, h => by
    have h1 : v = .bl a := h.1
    rw [List.map_cons, ← al_bools h.2, h1]
  | [], _ :: _, h => h.elim
  | _ :: _, [], h => h.elim

/-! ### what has grown -/
structure Gr0 (B H B2 H2 : Hp) : Prop where
  b : Ex B B2
  e : Ex B2 H2
  n : ∀ a, B2 a ≠ none → B a ≠ none ∨ H a = none
  h : Ex H H2
/-- a mode: what may change, and what holds of it -/
structure Md where
  x : Addr → Prop
  I : Hp → Hp → Prop
  xt : ∀ {B H : Hp} {a : Addr}, I B H → x a → H a ≠ none
  st : ∀ {B H B2 H2 : Hp}, I B H → Ex B B2 → Ex B2 H2 → (∀ a, x a → B2 a = B a ∧ H2 a = H a) → I B2 H2
structure Gr (M : Md) (B H B2 H2 : Hp) : Prop where
  b : Ex B B2
  e : Ex B2 H2
  n : ∀ a, B2 a ≠ none → B a ≠ none ∨ H a = none
  h : ∀ a o, ¬ M.x a → H a = some o → H2 a = some o
  d : ∀ a, H a ≠ none → H2 a ≠ none
  i : M.I B2 H2
/-- nothing changes -/
def pm : Md := ⟨fun _ => False, fun _ _ => True, fun _ h => h.elim, fun _ _ _ _ => trivial⟩
section
variable {M : Md} {B H B2 H2 B3 H3 : Hp}
theorem none_back {H H2 : Hp} {p : Addr} (h : H2 p = none) (k : ∀ o, H p = some o → H2 p = some o) : H p = none := by
  cases q : H p with
  | none => rfl
  | some o => rw [k o q] at h; cases h
theorem Gr0.refl (e : Ex B H) : Gr0 B H B H := ⟨.refl _, e, fun _ h => .inl h, .refl _⟩
theorem Gr.refl (e : Ex B H) (i : M.I B H) : Gr M B H B H := ⟨.refl _, e, fun _ h => .inl h, fun _ _ _ h => h, fun _ h => h, i⟩
theorem Gr0.trans (a : Gr0 B H B2 H2) (c : Gr0 B2 H2 B3 H3) : Gr0 B H B3 H3 := ⟨a.b.trans c.b, c.e, fun p h => by
  rcases c.n p h with h | h
  · exact a.n p h
  · right
    exact none_back h (a.h p), a.h.trans c.h⟩
theorem Gr.trans (a : Gr M B H B2 H2) (c : Gr M B2 H2 B3 H3) : Gr M B H B3 H3 := ⟨a.b.trans c.b, c.e, fun p h => by
  rcases c.n p h with h | h
  · exact a.n p h
  · right
    exact Classical.byContradiction fun q => a.d p q h, fun p o m h => c.h p o m (a.h p o m h), fun p h => c.d p (a.d p h), c.i⟩
theorem Gr0.inv (i : M.I B H) (g : Gr0 B H B2 H2) : M.I B2 H2 := M.st i g.b g.e fun a m => by
  have ha := M.xt i m
  have hh : H2 a = H a := by
    cases q : H a with
    | none => exact absurd q ha
    | some o => exact g.h a o q
  refine ⟨?_, hh⟩
  cases q : B a with
  | none =>
    cases z : B2 a with
    | none => rfl
    | some o =>
      rcases g.n a (by rw [z]; exact fun z => nomatch z) with y | y
      · exact absurd q y
      · exact absurd y ha
  | some o => exact g.b a o q
theorem Gr.of0 (i : M.I B H) (g : Gr0 B H B2 H2) : Gr M B H B2 H2 := ⟨g.b, g.e, g.n, fun p o _ h => g.h p o h, fun p h z => by
  exact h (none_back z (g.h p)), g.inv i⟩
theorem Gr.to0 (g : Gr pm B H B2 H2) : Gr0 B H B2 H2 := ⟨g.b, g.e, g.n, fun p o h => g.h p o (fun z => z) h⟩
theorem Ex.none {H H' : Hp} {p : Addr} (e : Ex H H') (h : H' p = none) : H p = none := Evl.fresh_back e h
/-- a new thing that stands for ever -/
theorem Gr0.new {p : Addr} {o : HO} (e : Ex B H) (h : H p = none) : Gr0 B H (upd B p o) (upd H p o) := ⟨.new (Ex.none e h), fun a u q => by
  by_cases c : a = p
  · subst c; rw [upd_same] at q ⊢; exact q
  · rw [upd_ne c] at q ⊢; exact e a u q, fun a q => by
  by_cases c : a = p
  · subst c; exact .inr h
  · rw [upd_ne c] at q; exact .inl q, .new h⟩
/-- a new thing that is being built: not yet among the data -/
theorem Gr0.raw {p : Addr} {o : HO} (e : Ex B H) (h : H p = none) : Gr0 B H B (upd H p o) := ⟨.refl _, e.mut (Ex.none e h), fun _ q => .inl q, .new h⟩
/-- it is changed: seen from a time when it was not there -/
theorem Gr.nx (i : M.I B H) {p : Addr} (h : H p = none) : ¬ M.x p := fun m => M.xt i m h
theorem Gr.mut {p : Addr} {o : HO} (g : Gr M B H B2 H2) (m : ¬ M.x p) (h : H p = none) (hb : B2 p = none) : Gr M B H B2 (upd H2 p o) :=
  ⟨g.b, g.e.mut hb, g.n, fun a u m q => by rw [upd_ne (ne_of_none q h)]; exact g.h a u m q, fun a q => by
    by_cases c : a = p
    · subst c; rw [upd_same]; exact fun z => nomatch z
    · rw [upd_ne c]; exact g.d a q, M.st g.i (.refl _) (g.e.mut hb) fun a ma => ⟨rfl, upd_ne fun z => m (z ▸ ma)⟩⟩
theorem Gr.frz {p : Addr} {o : HO} (g : Gr M B H B2 H2) (m : ¬ M.x p) (h : H p = none) (hb : B2 p = none) (hp : H2 p = some o) : Gr M B H (upd B2 p o) H2 := by
  have e : Ex (upd B2 p o) H2 := fun a u q => by
    by_cases c : a = p
    · subst c; rw [upd_same] at q; rw [hp]; exact q
    · rw [upd_ne c] at q; exact g.e a u q
  exact ⟨g.b.trans (.new hb), e, fun a q => by
    by_cases c : a = p
    · subst c; exact .inr h
    · rw [upd_ne c] at q; exact g.n a q, g.h, g.d, M.st g.i (.new hb) e fun a ma => ⟨upd_ne fun z => m (z ▸ ma), rfl⟩⟩
theorem Gr0.mut {p : Addr} {o : HO} (g : Gr0 B H B2 H2) (h : H p = none) (hb : B2 p = none) : Gr0 B H B2 (upd H2 p o) :=
  ⟨g.b, g.e.mut hb, g.n, fun a u q => by rw [upd_ne (ne_of_none q h)]; exact g.h a u q⟩
/-- it is ready: among the data from now on -/
theorem Gr0.frz {p : Addr} {o : HO} (g : Gr0 B H B2 H2) (h : H p = none) (hb : B2 p = none) (hp : H2 p = some o) : Gr0 B H (upd B2 p o) H2 :=
  ⟨g.b.trans (.new hb), fun a u q => by
    by_cases c : a = p
    · subst c; rw [upd_same] at q; rw [hp]; exact q
    · rw [upd_ne c] at q; exact g.e a u q, fun a q => by
    by_cases c : a = p
    · subst c; exact .inr h
    · rw [upd_ne c] at q; exact g.n a q, g.h⟩
/-- what is being built is not touched -/
theorem Gr.keep {p : Addr} {o : HO} (g : Gr M B H B2 H2) (m : ¬ M.x p) (hb : B p = none) (hp : H p = some o) : B2 p = none ∧ H2 p = some o := by
  refine ⟨?_, g.h p o m hp⟩
  cases q : B2 p with
  | none => rfl
  | some u =>
    rcases g.n p (by rw [q]; exact fun z => nomatch z) with z | z
    · exact absurd hb z
    · rw [hp] at z; cases z
theorem Gr0.keep {p : Addr} {o : HO} (g : Gr0 B H B2 H2) (hb : B p = none) (hp : H p = some o) : B2 p = none ∧ H2 p = some o := by
  refine ⟨?_, g.h p o hp⟩
  cases q : B2 p with
  | none => rfl
  | some u =>
    rcases g.n p (by rw [q]; exact fun z => nomatch z) with z | z
    · exact absurd hb z
    · rw [hp] at z; cases z
end

/-! ### expressions -/
section
variable {M : Md} {K : PySem.W.Frag} {σ : L2.St} {B B' : Hp} {ta tb te tc : TE} {R S T U Z : RP}
def Yl (M : Md) (te : TE) (σ : L2.St) (B : Hp) (R : RP) : Prop := ∀ B1 H1, Ex B B1 → Ex B1 H1 → M.I B1 H1 → ∀ Q : VK, (∀ v B2 H2, Gr M B1 H1 B2 H2 → R v B2 → Q v H2) → te σ H1 Q
def YT (M : Md) (tt : TT) (σ : L2.St) (B : Hp) (b : Bool) : Prop := ∀ B1 H1, Ex B B1 → Ex B1 H1 → M.I B1 H1 → ∀ Q : Bool → Hp → Prop, (∀ B2 H2, Gr M B1 H1 B2 H2 → Q b H2) → tt σ H1 Q
def YA (M : Md) (ta : TA) (σ : L2.St) (B : Hp) (R : List V → Hp → Prop) : Prop := ∀ B1 H1, Ex B B1 → Ex B1 H1 → M.I B1 H1 → ∀ Q : List V → Hp → Prop, (∀ vs B2 H2, Gr M B1 H1 B2 H2 → R vs B2 → Q vs H2) → ta σ H1 Q
theorem Yl.up (h : Yl M te σ B R) (e : Ex B B') : Yl M te σ B' R := fun B1 H1 a => h B1 H1 (e.trans a)
theorem YT.up {tt : TT} {b : Bool} (h : YT M tt σ B b) (e : Ex B B') : YT M tt σ B' b := fun B1 H1 a => h B1 H1 (e.trans a)
theorem Yl.imp (h : Yl M te σ B R) (k : ∀ v B1, Ex B B1 → R v B1 → S v B1) : Yl M te σ B S := fun B1 H1 e1 e2 i Q q => h B1 H1 e1 e2 i Q fun v B2 H2 g r => q v B2 H2 g (k v B2 (e1.trans g.b) r)
theorem Yl.to {x y : Nat} (h : Yl M te σ B (isI x)) (e : x = y) : Yl M te σ B (isI y) := e ▸ h
theorem Yl.toB {x y : Bool} (h : Yl M te σ B (isB x)) (e : x = y) : Yl M te σ B (isB y) := e ▸ h
theorem YT.to {tt : TT} {x y : Bool} (h : YT M tt σ B x) (e : x = y) : YT M tt σ B y := e ▸ h
theorem yl_var {i : Nat} {v : V} [m : MoC R] (h : σ[i]? = some (some v)) (r : R v B) : Yl M (tVar i) σ B R := fun B1 H1 e1 e2 i Q q => ⟨v, h, q v B1 H1 (.refl e2 i) (m.up e1 r)⟩
theorem yl_c {v : V} [m : MoC R] (r : R v B) : Yl M (tC v) σ B R := fun B1 H1 e1 e2 i Q q => q v B1 H1 (.refl e2 i) (m.up e1 r)
theorem yl_n (n : Nat) : Yl M (tC (.int (n : Int))) σ B (isI n) := yl_c rfl
/-- an operation by what its sides are -/
def RO (M : Md) (r : R2) (x y : V) (B : Hp) (R : RP) : Prop := ∀ H, Ex B H → M.I B H → ∀ Q : VK, (∀ v B2 H2, Gr M B H B2 H2 → R v B2 → Q v H2) → r x y H Q
theorem yl_op {r : R2} [m : MoC R] (ha : Yl M ta σ B R) (hb : Yl M tb σ B S) (hr : ∀ x y B1, Ex B B1 → R x B1 → S y B1 → RO M r x y B1 T) : Yl M (tOp r ta tb) σ B T := fun B1 H1 e1 e2 i Q q =>
  ha B1 H1 e1 e2 i _ fun x B2 H2 g2 rx => hb B2 H2 (e1.trans g2.b) g2.e g2.i _ fun y B3 H3 g3 ry =>
    hr x y B3 ((e1.trans g2.b).trans g3.b) (m.up g3.b rx) ry H3 g3.e g3.i Q fun v B4 H4 g4 rv => q v B4 H4 ((g2.trans g3).trans g4) rv
theorem ro_I0 {g : Int → Int → V} {i j : Int} {B : Hp} {R : RP} (h : R (g i j) B) : RO M (rI0 g) (.int i) (.int j) B R := fun H e i' Q q => ⟨i, j, rfl, rfl, q _ B H (.refl e i') h⟩
theorem ro_I {C : Int → Int → Prop} {g : Int → Int → V} {i j : Int} {B : Hp} {R : RP} (c : C i j) (h : R (g i j) B) : RO M (rI C g) (.int i) (.int j) B R := fun H e i' Q q => ⟨i, j, rfl, rfl, c, q _ B H (.refl e i') h⟩
/-- of two numbers -/
theorem yl_I0 {g : Int → Int → V} {i j : Int} [m : MoC R] (ha : Yl M ta σ B (isZ i)) (hb : Yl M tb σ B (isZ j)) (h : R (g i j) B) : Yl M (tOp (rI0 g) ta tb) σ B R :=
  yl_op ha hb fun x y B1 e hx hy => by
    cases hx; cases hy
    exact ro_I0 (m.up e h)
theorem yl_I {C : Int → Int → Prop} {g : Int → Int → V} {i j : Int} [m : MoC R] (ha : Yl M ta σ B (isZ i)) (hb : Yl M tb σ B (isZ j)) (c : C i j) (h : R (g i j) B) : Yl M (tOp (rI C g) ta tb) σ B R :=
  yl_op ha hb fun x y B1 e hx hy => by
    cases hx; cases hy
    exact ro_I c (m.up e h)
theorem Yl.z {n : Nat} (h : Yl M te σ B (isI n)) : Yl M te σ B (isZ n) := h.imp fun _ _ _ q => q
theorem Yl.i {z : Int} {n : Nat} (h : Yl M te σ B (isZ z)) (e : z = (n : Int)) : Yl M te σ B (isI n) := h.imp fun _ _ _ q => by
  show _ = _
  rw [← e]; exact q
theorem yl_zc (n : Int) : Yl M (tC (.int n)) σ B (isZ n) := yl_c rfl
theorem yl_add {i j : Int} (ha : Yl M ta σ B (isZ i)) (hb : Yl M tb σ B (isZ j)) : Yl M (tOp (rI0 fun i j => .int (i + j)) ta tb) σ B (isZ (i + j)) := yl_I0 ha hb rfl
theorem yl_sub {i j : Int} (ha : Yl M ta σ B (isZ i)) (hb : Yl M tb σ B (isZ j)) : Yl M (tOp (rI0 fun i j => .int (i - j)) ta tb) σ B (isZ (i - j)) := yl_I0 ha hb rfl
theorem yl_mul {i j : Int} (ha : Yl M ta σ B (isZ i)) (hb : Yl M tb σ B (isZ j)) (c : CMul i j) : Yl M (tOp (rI CMul fun i j => .int (i * j)) ta tb) σ B (isZ (i * j)) := yl_I ha hb c rfl
theorem yl_neg {i : Int} (ha : Yl M ta σ B (isZ i)) : Yl M (tUn (rU fun i => .int (-i)) ta) σ B (isZ (-i)) := fun B1 H1 e1 e2 i' Q q =>
  ha B1 H1 e1 e2 i' _ fun x B2 H2 g2 rx => by
    cases rx
    exact ⟨i, rfl, q _ B2 H2 g2 rfl⟩
/-- an item of a list, of a tuple -/
theorem yl_ixL {α : Type} {r : α → RP} {l : List α} {i : Int} {a : α} [∀ a, MoC (r a)] (ha : Yl M ta σ B (LL K r l)) (hb : Yl M tb σ B (isZ i)) (h : atI l i = some a) : Yl M (tOp (rIxL K) ta tb) σ B (r a) :=
  yl_op ha hb fun x y B1 e hx hy H e2 i' Q q => by
    cases hy
    obtain ⟨p, xs, rfl, h1, h2⟩ := hx
    unfold atI at h
    rw [h2.length] at h
    cases hj : ixN xs.length i with
    | none => rw [hj] at h; cases h
    | some j =>
      rw [hj] at h
      obtain ⟨v, h3, h4⟩ := h2.at h
      refine ⟨p, xs, i, v, rfl, rfl, .of (e2 _ _ h1), ?_, q v B1 H (.refl e2 i') h4⟩
      unfold atI
      rw [hj]
      exact h3
theorem yl_ixT {α : Type} {r : α → RP} {l : List α} {i : Int} {a : α} [∀ a, MoC (r a)] (ha : Yl M ta σ B (TU K r l)) (hb : Yl M tb σ B (isZ i)) (h : atI l i = some a) : Yl M (tOp (rIxT K) ta tb) σ B (r a) :=
  yl_op ha hb fun x y B1 e hx hy H e2 i' Q q => by
    cases hy
    obtain ⟨p, xs, rfl, h1, h2⟩ := hx
    unfold atI at h
    rw [h2.length] at h
    cases hj : ixN xs.length i with
    | none => rw [hj] at h; cases h
    | some j =>
      rw [hj] at h
      obtain ⟨v, h3, h4⟩ := h2.at h
      refine ⟨p, xs, i, v, rfl, rfl, Evl.ex_t e2 h1, ?_, q v B1 H (.refl e2 i') h4⟩
      unfold atI
      rw [hj]
      exact h3
/-! comparisons, tests -/
theorem yl_eq {i j : Int} (ha : Yl M ta σ B (isZ i)) (hb : Yl M tb σ B (isZ j)) : Yl M (tOp rEq ta tb) σ B (isB (decide (i = j))) :=
  yl_op ha hb fun x y B1 e hx hy H e2 i' Q q => by
    cases hx; cases hy
    refine ⟨rfl, ?_⟩
    have : decide ((V.int i) = V.int j) = decide (i = j) := decide_eq_decide.mpr ⟨fun z => V.int.inj z, fun z => by rw [z]⟩
    rw [this]
    exact q _ B1 H (.refl e2 i') rfl
theorem yl_ne {i j : Int} (ha : Yl M ta σ B (isZ i)) (hb : Yl M tb σ B (isZ j)) : Yl M (tOp rNe ta tb) σ B (isB (!decide (i = j))) :=
  yl_op ha hb fun x y B1 e hx hy H e2 i' Q q => by
    cases hx; cases hy
    refine ⟨rfl, ?_⟩
    have : decide ((V.int i) = V.int j) = decide (i = j) := decide_eq_decide.mpr ⟨fun z => V.int.inj z, fun z => by rw [z]⟩
    rw [this]
    exact q _ B1 H (.refl e2 i') rfl
theorem yl_neB {i j : Bool} (ha : Yl M ta σ B (isB i)) (hb : Yl M tb σ B (isB j)) : Yl M (tOp rNe ta tb) σ B (isB (i != j)) :=
  yl_op ha hb fun x y B1 e hx hy H e2 i' Q q => by
    cases hx; cases hy
    refine ⟨rfl, ?_⟩
    have : (!decide ((V.bl i) = V.bl j)) = (i != j) := by cases i <;> cases j <;> rfl
    rw [this]
    exact q _ B1 H (.refl e2 i') rfl
theorem yt_test {b : Bool} (h : Yl M te σ B (isB b)) : YT M (tTest te) σ B b := fun B1 H1 e1 e2 i Q q => h B1 H1 e1 e2 i _ fun v B2 H2 g r => by
  cases r
  exact ⟨b, rfl, q B2 H2 g⟩
theorem yt_B {b : Bool} (h : Yl M te σ B (isB b)) : YT M (tB te) σ B b := fun B1 H1 e1 e2 i Q q => h B1 H1 e1 e2 i _ fun v B2 H2 g r => by
  cases r
  exact ⟨b, rfl, q B2 H2 g⟩
theorem yt_not {t : TT} {b : Bool} (h : YT M t σ B b) : YT M (tNot t) σ B (!b) := fun B1 H1 e1 e2 i Q q => h B1 H1 e1 e2 i _ q
theorem yt_and {t u : TT} {a b : Bool} (h1 : YT M t σ B a) (h2 : a = true → YT M u σ B b) : YT M (tAnd t u) σ B (a && b) := fun B1 H1 e1 e2 i Q q => h1 B1 H1 e1 e2 i _ fun B2 H2 g => by
  cases a with
  | true =>
    show u σ H2 Q
    exact h2 rfl B2 H2 (e1.trans g.b) g.e g.i Q fun B3 H3 g3 => q B3 H3 (g.trans g3)
  | false =>
    show Q false H2
    exact q B2 H2 g
theorem yt_or {t u : TT} {a b : Bool} (h1 : YT M t σ B a) (h2 : a = false → YT M u σ B b) : YT M (tOr t u) σ B (a || b) := fun B1 H1 e1 e2 i Q q => h1 B1 H1 e1 e2 i _ fun B2 H2 g => by
  cases a with
  | true =>
    show Q true H2
    exact q B2 H2 g
  | false =>
    show u σ H2 Q
    exact h2 rfl B2 H2 (e1.trans g.b) g.e g.i Q fun B3 H3 g3 => q B3 H3 (g.trans g3)
theorem yl_andV {a b : Bool} (h1 : Yl M ta σ B (isB a)) (h2 : a = true → Yl M tb σ B (isB b)) : Yl M (tAndV ta tb) σ B (isB (a && b)) := fun B1 H1 e1 e2 i Q q => h1 B1 H1 e1 e2 i _ fun v B2 H2 g r => by
  cases r
  refine ⟨a, rfl, ?_⟩
  cases a with
  | true =>
    show tb σ H2 Q
    exact h2 rfl B2 H2 (e1.trans g.b) g.e g.i Q fun v B3 H3 g3 r => q v B3 H3 (g.trans g3) r
  | false =>
    show Q (.bl false) H2
    exact q _ B2 H2 g rfl
theorem yl_notV {a : Bool} (h1 : Yl M ta σ B (isB a)) : Yl M (tNotV ta) σ B (isB (!a)) := fun B1 H1 e1 e2 i Q q => h1 B1 H1 e1 e2 i _ fun v B2 H2 g r => by
  cases r
  exact ⟨a, rfl, q _ B2 H2 g rfl⟩
theorem yl_if {t : TT} {b : Bool} (h : YT M t σ B b) (h1 : b = true → Yl M ta σ B R) (h2 : b = false → Yl M tb σ B R) : Yl M (tIf t ta tb) σ B R := fun B1 H1 e1 e2 i Q q => h B1 H1 e1 e2 i _ fun B2 H2 g => by
  cases b with
  | true =>
    show ta σ H2 Q
    exact h1 rfl B2 H2 (e1.trans g.b) g.e g.i Q fun v B3 H3 g3 r => q v B3 H3 (g.trans g3) r
  | false =>
    show tb σ H2 Q
    exact h2 rfl B2 H2 (e1.trans g.b) g.e g.i Q fun v B3 H3 g3 r => q v B3 H3 (g.trans g3) r
/-! arguments -/
def A0 : List V → Hp → Prop := fun vs _ => vs = []
def AC (R : RP) (P : List V → Hp → Prop) : List V → Hp → Prop := fun vs H => ∃ v r, vs = v :: r ∧ R v H ∧ P r H
theorem ya_nil : YA M tNil σ B A0 := fun B1 H1 e1 e2 i Q q => q [] B1 H1 (.refl e2 i) rfl
theorem ya_cons {tr : TA} {P : List V → Hp → Prop} [m : MoC R] (h : Yl M ta σ B R) (hr : YA M tr σ B P) : YA M (tCons ta tr) σ B (AC R P) := fun B1 H1 e1 e2 i Q q =>
  h B1 H1 e1 e2 i _ fun x B2 H2 g2 rx => hr B2 H2 (e1.trans g2.b) g2.e g2.i _ fun xs B3 H3 g3 rs => q _ B3 H3 (g2.trans g3) ⟨x, xs, rfl, m.up g3.b rx, rs⟩
/-- a display of a tuple, of a list -/
theorem yl_tup {t : TA} {P : List V → Hp → Prop} {n : Nat} (h : YA M t σ B P) (hl : ∀ vs B1, P vs B1 → vs.length ≤ sizeLine) (hz : ∀ vs B1 p, Ex B B1 → P vs B1 → B1 p = none → Z (.ref p) (upd B1 p (.tup vs))) : Yl M (tTup t) σ B Z := fun B1 H1 e1 e2 i Q q =>
  h B1 H1 e1 e2 i _ fun vs B2 H2 g2 r => ⟨hl vs B2 r, fun p hp => q _ _ _ (g2.trans (.of0 g2.i (.new g2.e hp))) (hz vs B2 p (e1.trans g2.b) r (Ex.none g2.e hp))⟩
theorem yl_lst {t : TA} {P : List V → Hp → Prop} (h : YA M t σ B P) (hl : ∀ vs B1, P vs B1 → vs.length ≤ sizeLine) (hz : ∀ vs B1 p, Ex B B1 → P vs B1 → B1 p = none → Z (.ref p) (upd B1 p (.lst vs))) : Yl M (tLst t) σ B Z := fun B1 H1 e1 e2 i Q q =>
  h B1 H1 e1 e2 i _ fun vs B2 H2 g2 r => ⟨hl vs B2 r, fun p hp => q _ _ _ (g2.trans (.of0 g2.i (.new g2.e hp))) (hz vs B2 p (e1.trans g2.b) r (Ex.none g2.e hp))⟩
theorem ll_new {α : Type} {r : α → RP} [∀ a, MoC (r a)] {l : List α} {vs : List V} {p : Addr} {H : Hp} (h : Al r H l vs) (hp : H p = none) : LL K r l (.ref p) (upd H p (.lst vs)) := ⟨p, vs, rfl, upd_same, h.up (.new hp)⟩
theorem tt_new {α : Type} {r : α → RP} [∀ a, MoC (r a)] {l : List α} {vs : List V} {p : Addr} {H : Hp} (h : Al r H l vs) (hp : H p = none) : TU K r l (.ref p) (upd H p (.tup vs)) := ⟨p, vs, rfl, .of upd_same, h.up (.new hp)⟩
theorem yl_lst0 {α : Type} {r : α → RP} [∀ a, MoC (r a)] : Yl M (tLst tNil) σ B (LL K r []) := yl_lst ya_nil (fun vs _ h => by cases h; exact Nat.zero_le _) fun vs B1 p _ h hp => by
  cases h
  exact ll_new trivial hp
theorem yl_lst1 {α : Type} {r : α → RP} [∀ a, MoC (r a)] {a : α} (h : Yl M ta σ B (r a)) : Yl M (tLst (tCons ta tNil)) σ B (LL K r [a]) := yl_lst (ya_cons h ya_nil) (fun vs _ h => by
    obtain ⟨v, w, rfl, _, rfl⟩ := h
    exact (by decide : 1 ≤ sizeLine)) fun vs B1 p _ h hp => by
  obtain ⟨v, w, rfl, h1, rfl⟩ := h
  exact ll_new ⟨h1, trivial⟩ hp
theorem yl_lst2 {α : Type} {r : α → RP} [∀ a, MoC (r a)] {a b : α} (h : Yl M ta σ B (r a)) (h' : Yl M tb σ B (r b)) : Yl M (tLst (tCons ta (tCons tb tNil))) σ B (LL K r [a, b]) := yl_lst (ya_cons h (ya_cons h' ya_nil)) (fun vs _ h => by
    obtain ⟨v, w, rfl, _, v2, w2, rfl, _, rfl⟩ := h
    exact (by decide : 2 ≤ sizeLine)) fun vs B1 p _ h hp => by
  obtain ⟨v, w, rfl, h1, v2, w2, rfl, h2, rfl⟩ := h
  exact ll_new ⟨h1, h2, trivial⟩ hp
theorem yl_tup0 {α : Type} {r : α → RP} [∀ a, MoC (r a)] : Yl M (tTup tNil) σ B (TU K r []) := yl_tup (n := 0) ya_nil (fun vs _ h => by cases h; exact Nat.zero_le _) fun vs B1 p _ h hp => by
  cases h
  exact tt_new trivial hp
theorem yl_tup1 {α : Type} {r : α → RP} [∀ a, MoC (r a)] {a : α} (h : Yl M ta σ B (r a)) : Yl M (tTup (tCons ta tNil)) σ B (TU K r [a]) := yl_tup (n := 0) (ya_cons h ya_nil) (fun vs _ h => by
    obtain ⟨v, w, rfl, _, rfl⟩ := h
    exact (by decide : 1 ≤ sizeLine)) fun vs B1 p _ h hp => by
  obtain ⟨v, w, rfl, h1, rfl⟩ := h
  exact tt_new ⟨h1, trivial⟩ hp
theorem yl_pr {α β : Type} {r : α → RP} {s : β → RP} [hr : ∀ a, MoC (r a)] [hs : ∀ a, MoC (s a)] {a : α} {b : β} (h : Yl M ta σ B (r a)) (h' : Yl M tb σ B (s b)) : Yl M (tTup (tCons ta (tCons tb tNil))) σ B (PR K r s (a, b)) := yl_tup (n := 0) (ya_cons h (ya_cons h' ya_nil)) (fun vs _ h => by
    obtain ⟨v, w, rfl, _, v2, w2, rfl, _, rfl⟩ := h
    exact (by decide : 2 ≤ sizeLine)) fun vs B1 p _ h hp => by
  obtain ⟨v, w, rfl, h1, v2, w2, rfl, h2, rfl⟩ := h
  exact ⟨p, v, v2, rfl, .of upd_same, (hr _).up (.new hp) h1, (hs _).up (.new hp) h2⟩
theorem yl_p3 {α β γ : Type} {r : α → RP} {s : β → RP} {t : γ → RP} [hr : ∀ a, MoC (r a)] [hs : ∀ a, MoC (s a)] [ht : ∀ a, MoC (t a)] {a : α} {b : β} {c : γ} (h : Yl M ta σ B (r a)) (h' : Yl M tb σ B (s b)) (h'' : Yl M tc σ B (t c)) :
    Yl M (tTup (tCons ta (tCons tb (tCons tc tNil)))) σ B (P3 K r s t (a, b, c)) := yl_tup (n := 0) (ya_cons h (ya_cons h' (ya_cons h'' ya_nil))) (fun vs _ h => by
    obtain ⟨v, w, rfl, _, v2, w2, rfl, _, v3, w3, rfl, _, rfl⟩ := h
    exact (by decide : 3 ≤ sizeLine)) fun vs B1 p _ h hp => by
  obtain ⟨v, w, rfl, h1, v2, w2, rfl, h2, v3, w3, rfl, h3, rfl⟩ := h
  exact ⟨p, v, v2, v3, rfl, .of upd_same, (hr _).up (.new hp) h1, (hs _).up (.new hp) h2, (ht _).up (.new hp) h3⟩

/-! ### calls of defs that change nothing -/
/-- the promise of such a def: A what is handed in, P what is asked of it, Z what comes back -/
def spG {ι : Type} (A : ι → List V → Hp → Prop) (P : ι → Prop) (Z : ι → RP) : Sp := fun vs H Q _ => ∃ (B : Hp) (x : ι), Ex B H ∧ A x vs B ∧ P x ∧ ∀ v B2 H2, Gr0 B H B2 H2 → Z x v B2 → Q v H2
theorem yl_call {ι : Type} {A : ι → List V → Hp → Prop} {P : ι → Prop} {Z : ι → RP} {t : TA} {E : XK} (x : ι) (h : YA M t σ B (A x)) (p : P x) : Yl M (tCall (spG A P Z) [] E t) σ B (Z x) := fun B1 H1 e1 e2 i Q q =>
  h B1 H1 e1 e2 i _ fun vs B2 H2 g2 r => ⟨B2, x, g2.e, by rw [List.append_nil]; exact r, p, fun v B3 H3 g3 rv => q v B3 H3 (g2.trans (.of0 g2.i g3)) rv⟩
abbrev sp1 {α : Type} (a : α → RP) (P : α → Prop) (Z : α → RP) : Sp := spG (fun x => AC (a x) A0) P Z
abbrev sp2 {α β : Type} (a : α → RP) (b : β → RP) (P : α × β → Prop) (Z : α × β → RP) : Sp := spG (fun x => AC (a x.1) (AC (b x.2) A0)) P Z
abbrev sp3 {α β γ : Type} (a : α → RP) (b : β → RP) (c : γ → RP) (P : α × β × γ → Prop) (Z : α × β × γ → RP) : Sp := spG (fun x => AC (a x.1) (AC (b x.2.1) (AC (c x.2.2) A0))) P Z
abbrev sp4 {α β γ δ : Type} (a : α → RP) (b : β → RP) (c : γ → RP) (d : δ → RP) (P : α × β × γ × δ → Prop) (Z : α × β × γ × δ → RP) : Sp := spG (fun x => AC (a x.1) (AC (b x.2.1) (AC (c x.2.2.1) (AC (d x.2.2.2) A0)))) P Z

/-! ### comprehensions -/
/-- one item more, if the test holds -/
theorem filter_snoc {α β : Type} {f : α → Bool} {g : α → β} {l : List α} {i : Nat} {a : α} (h : l[i]? = some a) : ((l.take (i + 1)).filter f).map g = ((l.take i).filter f).map g ++ (if f a = true then [g a] else []) := by
  rw [List.take_add_one, h, List.filter_append, List.map_append]
  congr 1
  show (List.filter f [a]).map g = _
  by_cases c : f a = true
  · rw [List.filter_cons_of_pos c, if_pos c]; rfl
  · rw [List.filter_cons_of_neg c, if_neg c]; rfl
theorem filter_take_le {α β : Type} {f : α → Bool} {g : α → β} (l : List α) (i : Nat) : (((l.take i).filter f).map g).length ≤ i := by
  rw [List.length_map]
  exact Nat.le_trans (List.length_filter_le _ _) (by rw [List.length_take]; omega)
/-- what the new list of a comprehension is behind i items -/
def Cp (M : Md) {α β : Type} (B H : Hp) (D : Addr) (rb : β → RP) (l : List α) (f : α → Bool) (g : α → β) (i : Nat) (H' : Hp) : Prop :=
  ∃ B' acc, Gr M B H B' H' ∧ B' D = none ∧ H' D = some (.lst acc) ∧ Al rb B' (((l.take i).filter f).map g) acc
theorem Cp.start {α β : Type} {B H : Hp} {D : Addr} {rb : β → RP} {l : List α} {f : α → Bool} {g : α → β} (e : Ex B H) (i : M.I B H) (hD : H D = none) : Cp M B H D rb l f g 0 (upd H D (.lst [])) :=
  ⟨B, [], .of0 i (.raw e hD), Ex.none e hD, upd_same, trivial⟩
theorem Cp.turn {α β : Type} {B H H' : Hp} {D : Addr} {rb : β → RP} [∀ b, MoC (rb b)] {l : List α} {f : α → Bool} {g : α → β} {i : Nat} {a : α} {tt : TT} {te : TE} {σ2 : L2.St} (iv : M.I B H) (hD : H D = none) (hi : l[i]? = some a) (hz : i < sizeLine)
    (c : Cp M B H D rb l f g i H') (ht : ∀ B', Ex B B' → YT M tt σ2 B' (f a)) (he : ∀ B', Ex B B' → f a = true → Yl M te σ2 B' (rb (g a))) :
    tt σ2 H' fun b H3 => if b = true then te σ2 H3 fun y H4 => ∃ acc, H4 D = some (.lst acc) ∧ acc.length < sizeLine ∧ Cp M B H D rb l f g (i + 1) (upd H4 D (.lst (acc ++ [y]))) else Cp M B H D rb l f g (i + 1) H3 := by
  obtain ⟨B', acc, g3, hb, hd, al⟩ := c
  have m : ¬ M.x D := Gr.nx iv hD
  refine ht B' g3.b B' H' (.refl _) g3.e g3.i _ fun B4 H4 g4 => ?_
  obtain ⟨b4, d4⟩ := g4.keep m hb hd
  cases hf : f a with
  | true =>
    show te σ2 H4 fun y H4 => ∃ acc, H4 D = some (.lst acc) ∧ acc.length < sizeLine ∧ Cp M B H D rb l f g (i + 1) (upd H4 D (.lst (acc ++ [y])))
    refine he B4 (g3.b.trans g4.b) hf B4 H4 (.refl _) g4.e g4.i _ fun y B5 H5 g5 ry => ?_
    obtain ⟨b5, d5⟩ := g5.keep m b4 d4
    refine ⟨acc, d5, ?_, B5, acc ++ [y], ((g3.trans g4).trans g5).mut m hD b5, b5, upd_same, ?_⟩
    · rw [← al.length]
      exact Nat.lt_of_le_of_lt (filter_take_le _ _) hz
    · rw [filter_snoc hi, if_pos hf]
      exact (al.up (g4.b.trans g5.b)).snoc ry
  | false =>
    show Cp M B H D rb l f g (i + 1) H4
    refine ⟨B4, acc, g3.trans g4, b4, d4, ?_⟩
    rw [filter_snoc hi, if_neg (by rw [hf]; decide), List.append_nil]
    exact al.up g4.b
theorem Cp.fin {α β : Type} {B H H' : Hp} {D : Addr} {rb : β → RP} [∀ b, MoC (rb b)] {l : List α} {f : α → Bool} {g : α → β} (iv : M.I B H) (hD : H D = none) (c : Cp M B H D rb l f g l.length H') :
    ∃ B2, Gr M B H B2 H' ∧ LL K rb ((l.filter f).map g) (.ref D) B2 := by
  obtain ⟨B', acc, g3, hb, hd, al⟩ := c
  rw [List.take_length] at al
  exact ⟨_, g3.frz (Gr.nx iv hD) hD hb hd, ll_new al hb⟩
/-- over a list -/
theorem yl_lcL {α β : Type} {r : α → RP} {rb : β → RP} [∀ b, MoC (rb b)] [mr : ∀ a, MoC (r a)] {l : List α} {tl : TE} {g : TG} {tt : TT} {vs : List Nat} (f : α → Bool) (g' : α → β) (hl : Yl M tl σ B (LL K r l)) (hz : l.length ≤ sizeLine)
    (ht : ∀ a x B', a ∈ l → Ex B B' → r a x B' → ∃ σ2, wipe σ2 vs = wipe σ vs ∧ (∀ H' Q, Ex B' H' → Q σ2 H' → g x (wipe σ vs) H' Q) ∧ (∀ B2, Ex B' B2 → YT M tt σ2 B2 (f a)) ∧ ∀ B2, Ex B' B2 → f a = true → Yl M te σ2 B2 (rb (g' a))) :
    Yl M (tLc (iList K tl) g tt te vs) σ B (LL K rb ((l.filter f).map g')) := fun B1 H1 e1 e2 i Q q =>
  hl B1 H1 e1 e2 i _ fun v B2 H2 g2 ⟨a, xs, ev, h1, h2⟩ => ⟨a, ev, ⟨xs, .of (g2.e _ _ h1)⟩, fun D hD =>
    lc_list (xs := xs) (Cp M B2 H2 D rb l f g') (Cp.start g2.e g2.i hD) (fun i H' _ ⟨B', _, g3, _⟩ => .of ((g3.b.trans g3.e) _ _ h1)) (fun j x H' hx c => by
      obtain ⟨b, hb, hr⟩ := h2.get hx
      obtain ⟨B', acc, g3, hbD, hd, al⟩ := id c
      obtain ⟨σ2, w1, w2, w3, w4⟩ := ht b x B2 (List.mem_of_getElem? hb) (e1.trans g2.b) hr
      refine w2 _ _ (g3.b.trans g3.e) ⟨w1, ?_⟩
      refine c.turn g2.i hD hb ?_ w3 w4
      have := (List.getElem?_eq_some_iff.mp hb).1
      omega) fun H' c => by
      rw [← h2.length] at c
      obtain ⟨B3, g3, hD3⟩ := Cp.fin (K := K) g2.i hD c
      exact q _ B3 H' (g2.trans g3) hD3⟩
/-- over range(n) -/
theorem yl_lcR {β : Type} {rb : β → RP} [∀ b, MoC (rb b)] {n : Nat} {ta : TA} {j : Nat} {tt : TT} {vs : List Nat} (f : Nat → Bool) (g' : Nat → β) (hl : YA M ta σ B (AC (isI n) A0)) (hz : n ≤ sizeLine) (hw : ∀ x, wipe ((wipe σ vs).set j (some x)) vs = wipe σ vs)
    (ht : ∀ a B', a < n → Ex B B' → YT M tt ((wipe σ vs).set j (some (.int (a : Int)))) B' (f a)) (he : ∀ a B', a < n → Ex B B' → f a = true → Yl M te ((wipe σ vs).set j (some (.int (a : Int)))) B' (rb (g' a))) :
    Yl M (tLc (iRng1 ta) (gName j) tt te vs) σ B (LL K rb (((List.range n).filter f).map g')) := fun B1 H1 e1 e2 i Q q =>
  hl B1 H1 e1 e2 i _ fun ws B2 H2 g2 ⟨v, r, ew, hv, hr⟩ => ⟨(n : Int), by rw [ew, hv, hr], by omega, by
    have : sizeLine < 2 ^ 62 := by decide
    omega, fun D hD => by
    rw [Int.toNat_natCast]
    have hlen : (List.range n).length = n := List.length_range
    refine lc_range (lo := 0) (n := n) (Cp M B2 H2 D rb (List.range n) f g') (Cp.start g2.e g2.i hD) (fun j' H' hx c => ?_) fun H' c => ?_
    · have e0 : (0 : Int) + (j' : Int) = (j' : Int) := Int.zero_add _
      rw [e0]
      refine ⟨hw _, c.turn g2.i hD (a := j') (by rw [List.getElem?_range hx]) (by omega) (fun B' eB => ht j' B' hx ((e1.trans g2.b).trans eB)) fun B' eB => he j' B' hx ((e1.trans g2.b).trans eB)⟩
    · obtain ⟨B3, g3, hD3⟩ := Cp.fin (K := K) g2.i hD (by rw [hlen]; exact c)
      exact q _ B3 H' (g2.trans g3) hD3⟩
/-- over range(a, b) -/
theorem yl_lcR2 {β : Type} {rb : β → RP} [∀ b, MoC (rb b)] {lo n : Nat} {ta : TA} {j : Nat} {tt : TT} {vs : List Nat} (f : Nat → Bool) (g' : Nat → β) (hl : YA M ta σ B (AC (isI lo) (AC (isI n) A0))) (hz : lo + n ≤ sizeLine) (hw : ∀ x, wipe ((wipe σ vs).set j (some x)) vs = wipe σ vs)
    (ht : ∀ a B', a < n - lo → Ex B B' → YT M tt ((wipe σ vs).set j (some (.int ((lo + a : Nat) : Int)))) B' (f a)) (he : ∀ a B', a < n - lo → Ex B B' → f a = true → Yl M te ((wipe σ vs).set j (some (.int ((lo + a : Nat) : Int)))) B' (rb (g' a))) :
    Yl M (tLc (iRng2 ta) (gName j) tt te vs) σ B (LL K rb (((List.range (n - lo)).filter f).map g')) := fun B1 H1 e1 e2 i Q q =>
  hl B1 H1 e1 e2 i _ fun ws B2 H2 g2 ⟨v, r, ew, hv, v2, r2, er, hv2, hr2⟩ => ⟨(lo : Int), (n : Int), by rw [ew, hv, er, hv2, hr2], by
    have : sizeLine < 2 ^ 62 := by decide
    omega, fun D hD => by
    have hn : ((n : Int) - (lo : Int)).toNat = n - lo := by omega
    rw [hn]
    have hlen : (List.range (n - lo)).length = n - lo := List.length_range
    refine lc_range (lo := (lo : Int)) (n := n - lo) (Cp M B2 H2 D rb (List.range (n - lo)) f g') (Cp.start g2.e g2.i hD) (fun j' H' hx c => ?_) fun H' c => ?_
    · have e0 : (lo : Int) + (j' : Int) = ((lo + j' : Nat) : Int) := by omega
      rw [e0]
      refine ⟨hw _, c.turn g2.i hD (a := j') (by rw [List.getElem?_range hx]) (by omega) (fun B' eB => ht j' B' hx ((e1.trans g2.b).trans eB)) fun B' eB => he j' B' hx ((e1.trans g2.b).trans eB)⟩
    · obtain ⟨B3, g3, hD3⟩ := Cp.fin (K := K) g2.i hD (by rw [hlen]; exact c)
      exact q _ B3 H' (g2.trans g3) hD3⟩
/-- a name bound to a comprehension's list that is going to change -/
theorem yq_lcRaw {β : Type} {rb : β → RP} [∀ b, MoC (rb b)] {n i : Nat} {ta : TA} {j : Nat} {vs : List Nat} {D : Ends} {H : Hp} {tz : TS} (g' : Nat → β) (e : Ex B H) (iv : M.I B H) (hl : YA M ta σ B (AC (isI n) A0)) (hz : n ≤ sizeLine) (hw : ∀ x, wipe ((wipe σ vs).set j (some x)) vs = wipe σ vs)
    (he : ∀ a B', a < n → Ex B B' → Yl M te ((wipe σ vs).set j (some (.int (a : Int)))) B' (rb (g' a)))
    (k : ∀ p acc B2 H2, H p = none → Gr M B H B2 H2 → B2 p = none → H2 p = some (.lst acc) → Al rb B2 ((List.range n).map g') acc → tz D (σ.set i (some (.ref p))) H2) :
    tSeq (tAsg (tLc (iRng1 ta) (gName j) tYes te vs) (gName i)) tz D σ H :=
  hl B H (.refl _) e iv _ fun ws B2 H2 g2 ⟨v, r, ew, hv, hr⟩ => ⟨(n : Int), by rw [ew, hv, hr], by omega, by
    have : sizeLine < 2 ^ 62 := by decide
    omega, fun L hL => by
    rw [Int.toNat_natCast]
    have hlen : (List.range n).length = n := List.length_range
    refine lc_range (lo := 0) (n := n) (Cp M B2 H2 L rb (List.range n) (fun _ => true) g') (Cp.start g2.e g2.i hL) (fun j' H' hx c => ?_) fun H' c => ?_
    · have e0 : (0 : Int) + (j' : Int) = (j' : Int) := Int.zero_add _
      rw [e0]
      exact ⟨hw _, c.turn g2.i hL (a := j') (by rw [List.getElem?_range hx]) (by omega) (fun B' _ => fun B1 H1 e1 e2 i Q q => q B1 H1 (.refl e2 i)) fun B' eB _ => he j' B' hx (g2.b.trans eB)⟩
    · obtain ⟨B', acc, g3, hb, hd, al⟩ := c
      rw [List.take_of_length_le (by rw [hlen]; exact Nat.le_refl _), List.filter_eq_self.mpr (fun _ _ => rfl)] at al
      exact k L acc B' H' (Classical.byContradiction fun q => g2.d L q hL) (g2.trans g3) hb hd al⟩
theorem yt_yes : YT M tYes σ B true := fun B1 H1 e1 e2 i Q q => q B1 H1 (.refl e2 i)

/-! ### statements -/
variable {D : Ends} {H : Hp} {tu tw tz : TS}
theorem y_asg {i : Nat} (e : Ex B H) (iv : M.I B H) (h : Yl M te σ B R) (k : ∀ v B2 H2, Gr M B H B2 H2 → R v B2 → D.nx (σ.set i (some v)) H2) : tAsg te (gName i) D σ H := h B H (.refl _) e iv _ k
theorem y_ret (e : Ex B H) (iv : M.I B H) (h : Yl M te σ B R) (k : ∀ v B2 H2, Gr M B H B2 H2 → R v B2 → D.rt v H2) : tRet te D σ H := h B H (.refl _) e iv _ k
theorem y_if {t : TT} {b : Bool} (e : Ex B H) (iv : M.I B H) (h : YT M t σ B b) (h1 : b = true → ∀ B2 H2, Gr M B H B2 H2 → tu D σ H2) (h2 : b = false → ∀ B2 H2, Gr M B H B2 H2 → tw D σ H2) : tIfS t tu tw D σ H := h B H (.refl _) e iv _ fun B2 H2 g => by
  cases b with
  | true =>
    show tu D σ H2
    exact h1 rfl B2 H2 g
  | false =>
    show tw D σ H2
    exact h2 rfl B2 H2 g
theorem yq_asg {i : Nat} (e : Ex B H) (iv : M.I B H) (h : Yl M te σ B R) (k : ∀ v B2 H2, Gr M B H B2 H2 → R v B2 → tz D (σ.set i (some v)) H2) : tSeq (tAsg te (gName i)) tz D σ H := y_asg (D := { D with nx := tz D }) e iv h k
theorem yq_if {t : TT} {b : Bool} (e : Ex B H) (iv : M.I B H) (h : YT M t σ B b) (h1 : b = true → ∀ B2 H2, Gr M B H B2 H2 → tu { D with nx := tz D } σ H2) (h2 : b = false → ∀ B2 H2, Gr M B H B2 H2 → tw { D with nx := tz D } σ H2) : tSeq (tIfS t tu tw) tz D σ H :=
  y_if (D := { D with nx := tz D }) e iv h h1 h2
/-- an if whose suite leaves, no else -/
theorem yq_when {t : TT} {b : Bool} (e : Ex B H) (iv : M.I B H) (h : YT M t σ B b) (h1 : b = true → ∀ B2 H2, Gr M B H B2 H2 → tu { D with nx := tz D } σ H2) (h2 : b = false → ∀ B2 H2, Gr M B H B2 H2 → tz D σ H2) : tSeq (tIfS t tu tNext) tz D σ H :=
  y_if (D := { D with nx := tz D }) e iv h h1 h2
/-! loops -/
section
variable {α : Type} {r : α → RP} {l : List α} {tl : TE} {g : TG}
theorem y_forL [mr : ∀ a, MoC (r a)] (e : Ex B H) (iv : M.I B H) (hl : Yl M tl σ B (LL K r l)) (Pv : Nat → L2.St → Hp → Hp → Prop) (h0 : ∀ B2 H2, Gr M B H B2 H2 → Pv 0 σ B2 H2)
    (hs : ∀ i a x σ' B' H' (N : L2.St → Hp → Prop), l[i]? = some a → r a x B' → Ex B' H' → Pv i σ' B' H' → (∀ σ2 B2 H2, Ex B' B2 → Ex B2 H2 → Pv (i + 1) σ2 B2 H2 → N σ2 H2) → g x σ' H' fun σ2 H2 => tu { D with nx := N, ct := N, bk := D.nx } σ2 H2)
    (hd : ∀ σ' B' H', Ex B' H' → Pv l.length σ' B' H' → D.nx σ' H') : tFor (iList K tl) g tu D σ H :=
  hl B H (.refl _) e iv _ fun v B2 H2 g2 ⟨a, xs, ev, h1, h2⟩ => ⟨a, ev, ⟨xs, .of (g2.e _ _ h1)⟩,
    for_list (fun i σ' H' => ∃ B', Ex B2 B' ∧ Ex B' H' ∧ Pv i σ' B' H') ⟨B2, .refl _, g2.e, h0 B2 H2 g2⟩ (fun i σ' H' _ ⟨B', e1, e2, _⟩ => .of ((e1.trans e2) _ _ h1)) (fun i x σ' H' hx ⟨B', e1, e2, p⟩ => by
      obtain ⟨b, hb, hr⟩ := h2.get hx
      exact hs i b x σ' B' H' _ hb ((mr b).up e1 hr) e2 p fun σ3 B3 H3 e3 e4 p3 => ⟨B3, e1.trans e3, e4, p3⟩) fun σ' H' ⟨B', e1, e2, p⟩ => hd σ' B' H' e2 (by rw [h2.length]; exact p)⟩
theorem yq_forL [mr : ∀ a, MoC (r a)] (e : Ex B H) (iv : M.I B H) (hl : Yl M tl σ B (LL K r l)) (Pv : Nat → L2.St → Hp → Hp → Prop) (h0 : ∀ B2 H2, Gr M B H B2 H2 → Pv 0 σ B2 H2)
    (hs : ∀ i a x σ' B' H' (N : L2.St → Hp → Prop), l[i]? = some a → r a x B' → Ex B' H' → Pv i σ' B' H' → (∀ σ2 B2 H2, Ex B' B2 → Ex B2 H2 → Pv (i + 1) σ2 B2 H2 → N σ2 H2) → g x σ' H' fun σ2 H2 => tu { D with nx := N, ct := N, bk := tz D } σ2 H2)
    (hd : ∀ σ' B' H', Ex B' H' → Pv l.length σ' B' H' → tz D σ' H') : tSeq (tFor (iList K tl) g tu) tz D σ H := y_forL (D := { D with nx := tz D }) e iv hl Pv h0 hs hd
theorem y_forR {ta : TA} {j n : Nat} (e : Ex B H) (iv : M.I B H) (hl : YA M ta σ B (AC (isI n) A0)) (hz : n ≤ sizeLine) (Pv : Nat → L2.St → Hp → Hp → Prop) (h0 : ∀ B2 H2, Gr M B H B2 H2 → Pv 0 σ B2 H2)
    (hs : ∀ i σ' B' H' (N : L2.St → Hp → Prop), i < n → Ex B' H' → Pv i σ' B' H' → (∀ σ2 B2 H2, Ex B2 H2 → Pv (i + 1) σ2 B2 H2 → N σ2 H2) → tu { D with nx := N, ct := N, bk := D.nx } (σ'.set j (some (.int (i : Int)))) H')
    (hd : ∀ σ' B' H', Ex B' H' → Pv n σ' B' H' → D.nx σ' H') : tFor (iRng1 ta) (gName j) tu D σ H :=
  hl B H (.refl _) e iv _ fun ws B2 H2 g2 ⟨v, r, ew, hv, hr⟩ => ⟨(n : Int), by rw [ew, hv, hr], by omega, by
    have : sizeLine < 2 ^ 62 := by decide
    omega, by
    rw [Int.toNat_natCast]
    refine for_range (lo := 0) (n := n) (fun i σ' H' => ∃ B', Ex B' H' ∧ Pv i σ' B' H') ⟨B2, g2.e, h0 B2 H2 g2⟩ (fun i σ' H' hi ⟨B', e1, p⟩ => ?_) fun σ' H' ⟨B', e1, p⟩ => hd σ' B' H' e1 p
    have e0 : (0 : Int) + (i : Int) = (i : Int) := Int.zero_add _
    rw [e0]
    exact hs i σ' B' H' _ hi e1 p fun σ3 B3 H3 e3 p3 => ⟨B3, e3, p3⟩⟩
theorem yq_forR {ta : TA} {j n : Nat} (e : Ex B H) (iv : M.I B H) (hl : YA M ta σ B (AC (isI n) A0)) (hz : n ≤ sizeLine) (Pv : Nat → L2.St → Hp → Hp → Prop) (h0 : ∀ B2 H2, Gr M B H B2 H2 → Pv 0 σ B2 H2)
    (hs : ∀ i σ' B' H' (N : L2.St → Hp → Prop), i < n → Ex B' H' → Pv i σ' B' H' → (∀ σ2 B2 H2, Ex B2 H2 → Pv (i + 1) σ2 B2 H2 → N σ2 H2) → tu { D with nx := N, ct := N, bk := tz D } (σ'.set j (some (.int (i : Int)))) H')
    (hd : ∀ σ' B' H', Ex B' H' → Pv n σ' B' H' → tz D σ' H') : tSeq (tFor (iRng1 ta) (gName j) tu) tz D σ H := y_forR (D := { D with nx := tz D }) e iv hl hz Pv h0 hs hd
theorem y_forR2 {ta : TA} {j lo n : Nat} (e : Ex B H) (iv : M.I B H) (hl : YA M ta σ B (AC (isI lo) (AC (isI (lo + n)) A0))) (hz : lo + n ≤ sizeLine) (Pv : Nat → L2.St → Hp → Hp → Prop) (h0 : ∀ B2 H2, Gr M B H B2 H2 → Pv 0 σ B2 H2)
    (hs : ∀ i σ' B' H' (N : L2.St → Hp → Prop), i < n → Ex B' H' → Pv i σ' B' H' → (∀ σ2 B2 H2, Ex B2 H2 → Pv (i + 1) σ2 B2 H2 → N σ2 H2) → tu { D with nx := N, ct := N, bk := D.nx } (σ'.set j (some (.int ((lo + i : Nat) : Int)))) H')
    (hd : ∀ σ' B' H', Ex B' H' → Pv n σ' B' H' → D.nx σ' H') : tFor (iRng2 ta) (gName j) tu D σ H :=
  hl B H (.refl _) e iv _ fun ws B2 H2 g2 ⟨v, r, ew, hv, v2, r2, er, hv2, hr2⟩ => ⟨(lo : Int), ((lo + n : Nat) : Int), by rw [ew, hv, er, hv2, hr2], by
    have : sizeLine < 2 ^ 62 := by decide
    omega, by
    have hn : (((lo + n : Nat) : Int) - (lo : Int)).toNat = n := by omega
    rw [hn]
    refine for_range (lo := (lo : Int)) (n := n) (fun i σ' H' => ∃ B', Ex B' H' ∧ Pv i σ' B' H') ⟨B2, g2.e, h0 B2 H2 g2⟩ (fun i σ' H' hi ⟨B', e1, p⟩ => ?_) fun σ' H' ⟨B', e1, p⟩ => hd σ' B' H' e1 p
    have e0 : (lo : Int) + (i : Int) = ((lo + i : Nat) : Int) := by omega
    rw [e0]
    exact hs i σ' B' H' _ hi e1 p fun σ3 B3 H3 e3 p3 => ⟨B3, e3, p3⟩⟩
theorem yq_forR2 {ta : TA} {j lo n : Nat} (e : Ex B H) (iv : M.I B H) (hl : YA M ta σ B (AC (isI lo) (AC (isI (lo + n)) A0))) (hz : lo + n ≤ sizeLine) (Pv : Nat → L2.St → Hp → Hp → Prop) (h0 : ∀ B2 H2, Gr M B H B2 H2 → Pv 0 σ B2 H2)
    (hs : ∀ i σ' B' H' (N : L2.St → Hp → Prop), i < n → Ex B' H' → Pv i σ' B' H' → (∀ σ2 B2 H2, Ex B2 H2 → Pv (i + 1) σ2 B2 H2 → N σ2 H2) → tu { D with nx := N, ct := N, bk := tz D } (σ'.set j (some (.int ((lo + i : Nat) : Int)))) H')
    (hd : ∀ σ' B' H', Ex B' H' → Pv n σ' B' H' → tz D σ' H') : tSeq (tFor (iRng2 ta) (gName j) tu) tz D σ H := y_forR2 (D := { D with nx := tz D }) e iv hl hz Pv h0 hs hd
end
/-- a new empty list that is going to grow -/
theorem yq_raw {i : Nat} (k : ∀ p, H p = none → tz D (σ.set i (some (.ref p))) (upd H p (.lst []))) : tSeq (tAsg (tLst tNil) (gName i)) tz D σ H := ⟨Nat.zero_le _, k⟩
/-- xs.append(e) -/
theorem y_app {i : Nat} {p : Addr} {acc : List V} (e : Ex B H) (iv : M.I B H) (m : ¬ M.x p) (hi : σ[i]? = some (some (.ref p))) (hb : B p = none) (hp : H p = some (.lst acc)) (h : Yl M te σ B R) (hz : acc.length < sizeLine)
    (k : ∀ v B2 H2, Gr M B H B2 H2 → B2 p = none → H2 p = some (.lst acc) → R v B2 → D.nx σ (upd H2 p (.lst (acc ++ [v])))) : tDrop (tBM K "list" rAppend (tVar i) (tCons te tNil)) D σ H :=
  ⟨.ref p, hi, .inl ⟨rfl, acc, .of hp⟩, h B H (.refl _) e iv _ fun v B2 H2 g2 rv => by
    obtain ⟨b2, h2⟩ := g2.keep m hb hp
    exact ⟨p, acc, v, rfl, rfl, h2, hz, k v B2 H2 g2 b2 h2 rv⟩⟩
/-- xs.extend([..]) -/
theorem y_ext {α : Type} {r : α → RP} {l : List α} {i : Nat} {p : Addr} {acc : List V} (e : Ex B H) (iv : M.I B H) (m : ¬ M.x p) (hi : σ[i]? = some (some (.ref p))) (hb : B p = none) (hp : H p = some (.lst acc)) (h : Yl M te σ B (LL K r l)) (hz : acc.length + l.length ≤ sizeLine)
    (k : ∀ ws B2 H2, Gr M B H B2 H2 → B2 p = none → H2 p = some (.lst acc) → Al r B2 l ws → D.nx σ (upd H2 p (.lst (acc ++ ws)))) : tDrop (tBM K "list" rExtend (tVar i) (tCons te tNil)) D σ H :=
  ⟨.ref p, hi, .inl ⟨rfl, acc, .of hp⟩, h B H (.refl _) e iv _ fun v B2 H2 g2 ⟨a, xs, ev, h1, h3⟩ => by
    obtain ⟨b2, h2⟩ := g2.keep m hb hp
    exact ⟨p, a, acc, xs, rfl, by rw [ev], h2, g2.e _ _ h1, by rw [← h3.length]; exact hz, k xs B2 H2 g2 b2 h2 h3⟩⟩
theorem yq_app {i : Nat} {p : Addr} {acc : List V} (e : Ex B H) (iv : M.I B H) (m : ¬ M.x p) (hi : σ[i]? = some (some (.ref p))) (hb : B p = none) (hp : H p = some (.lst acc)) (h : Yl M te σ B R) (hz : acc.length < sizeLine)
    (k : ∀ v B2 H2, Gr M B H B2 H2 → B2 p = none → H2 p = some (.lst acc) → R v B2 → tz D σ (upd H2 p (.lst (acc ++ [v])))) : tSeq (tDrop (tBM K "list" rAppend (tVar i) (tCons te tNil))) tz D σ H := y_app (D := { D with nx := tz D }) e iv m hi hb hp h hz k
theorem yq_ext {α : Type} {r : α → RP} {l : List α} {i : Nat} {p : Addr} {acc : List V} (e : Ex B H) (iv : M.I B H) (m : ¬ M.x p) (hi : σ[i]? = some (some (.ref p))) (hb : B p = none) (hp : H p = some (.lst acc)) (h : Yl M te σ B (LL K r l)) (hz : acc.length + l.length ≤ sizeLine)
    (k : ∀ ws B2 H2, Gr M B H B2 H2 → B2 p = none → H2 p = some (.lst acc) → Al r B2 l ws → tz D σ (upd H2 p (.lst (acc ++ ws)))) : tSeq (tDrop (tBM K "list" rExtend (tVar i) (tCons te tNil))) tz D σ H := y_ext (D := { D with nx := tz D }) e iv m hi hb hp h hz k
/-- a def's end: the promise's -/
theorem y_fin {Q : VK} {B0 H0 : Hp} (k : ∀ v B2 H2, Gr0 B0 H0 B2 H2 → R v B2 → Q v H2) {B H : Hp} (g : Gr0 B0 H0 B H) (h : Yl pm te σ B R) {nx : L2.St → Hp → Prop} {bk ct} : tRet te ⟨nx, Q, bk, ct⟩ σ H :=
  y_ret (M := pm) g.e trivial h fun v B2 H2 g2 r => k v B2 H2 (g.trans g2.to0) r
end
end RdW

set_option Elab.async false
set_option autoImplicit false
set_option linter.all false
set_option maxRecDepth 100000
set_option maxHeartbeats 2000000
/-! RdT: the text by places; a def as a callable thing; the constants. -/
namespace RdW
open PySem L2
open Evl (Ex)
def topS (i : Nat) : Stmt := PySem.Challenge.pw_relationdesk_s01_answers.main.body.getD i (.Pass ⟨0, 0, 0, 0⟩)

section
variable (P : Program) (w : World) (K : PySem.W.Frag) (mg : Str → Option Value) (base : Heap)
/-- a def of the text that keeps its promise -/
def Cal (k : Nat) (name : Str) (ps : List Str) (sp : Sp) : Prop :=
  ∃ (f : Addr) (fd : FuncData), mg name = some (.ref f) ∧ FnOk P w K mg base CX0 k f fd ps sp ∧ Binds K fd ps [] ∧ PySem.W.keepIn K (.ref f) = true
/-- a constant of the module -/
def CI (x : Str) (v : V) : Prop := ∃ u, mg x = some u ∧ RelV v u
end
/-- what the top has left: constants, and that the built-ins are still theirs -/
structure Txt (K : PySem.W.Frag) (mg : Str → Option Value) : Prop where
  POINTS : CI mg "POINTS" (.int (0))
  INTERVALS : CI mg "INTERVALS" (.int (1))
  SETS : CI mg "SETS" (.int (2))
  POSITIONS : CI mg "POSITIONS" (.int (3))
  APART : CI mg "APART" (.int (0))
  CROSSING : CI mg "CROSSING" (.int (1))
  WITHIN : CI mg "WITHIN" (.int (2))
  EQUAL : CI mg "EQUAL" (.int (3))
  AROUND : CI mg "AROUND" (.int (4))
  BEFORE : CI mg "BEFORE" (.int (0))
  MEETS : CI mg "MEETS" (.int (1))
  MET : CI mg "MET" (.int (11))
  AFTER : CI mg "AFTER" (.int (12))
  NOT_VALID : CI mg "NOT_VALID" (.int (-1))
  NO_STATEMENT : CI mg "NO_STATEMENT" (.int (-2))
  NOT_CONSISTENT : CI mg "NOT_CONSISTENT" (.int (-6))
  TOO_MANY : CI mg "TOO_MANY" (.int (-7))
  MOST_KIND : CI mg "MOST_KIND" (.int (3))
  MOST_OBJECTS : CI mg "MOST_OBJECTS" (.int (4))
  MOST_STATEMENTS : CI mg "MOST_STATEMENTS" (.int (10))
  BEGINS : CI mg "BEGINS" (.int (0))
  TOLD : CI mg "TOLD" (.int (1))
  DROP : CI mg "DROP" (.int (2))
  CAN : CI mg "CAN" (.int (3))
  WAY : CI mg "WAY" (.int (4))
  PICTURE : CI mg "PICTURE" (.int (5))
  MAY : CI mg "MAY" (.int (6))
  ALL : CI mg "ALL" (.int (7))
  COUNT : CI mg "COUNT" (.int (8))
  MANY : ∃ a, CI mg "MANY" (.ref a) ∧ ∀ H, TU K isI [3, 13, 5, 9] (.ref a) H
  INVERSES_OF_SETS : ∃ a, CI mg "INVERSES_OF_SETS" (.ref a) ∧ ∀ H, TU K isI [0, 1, 4, 3, 2] (.ref a) H
  NUMBERS : ∃ a, CI mg "NUMBERS" (.ref a) ∧ ∀ H, TU K isI [2, 3, 1, 0, 0, 0, 2, 0, 0, 2] (.ref a) H
  OVERLAPPING : ∃ a, CI mg "OVERLAPPING" (.ref a) ∧ ∀ H, TU K (TU K isI) [[2, 3, 4], [7, 6, 5], [8, 9, 10]] (.ref a) H
  b_range : mg "range" = none
  b_len : mg "len" = none
  b_any : mg "any" = none
  b_all : mg "all" = none
  b_max : mg "max" = none
  b_min : mg "min" = none
  b_int : mg "int" = none
  b_list : mg "list" = none
  b_tuple : mg "tuple" = none
  b_enumerate : mg "enumerate" = none
  b_zip : mg "zip" = none
  b_sorted : mg "sorted" = none
section
variable {X : Cx}
theorem pe_cal {k : Nat} {name : Str} {ps : List Str} {sp : Sp} {e : Expr} {es : List Expr} {t : TA} {p pos : Pos} (c : Cal X.prog X.w X.K X.mg X.base k name ps sp) (hr : Room k X.A) (ha : PA X (e :: es) t) (hg : Gl X name := by rfl)
    (hdb : (name == ("__debug__" : Str)) = false := by decide) (he : starEach (e :: es) X.env = (false, eval e X.env) :: starEach es X.env := by rfl) (hpl : (backTo pos (starEach es X.env)).any (·.1) = false := by rfl) :
    PE X (.Call (.Name name p) (e :: es) [] pos) (tCall sp [] E0 t) := by
  obtain ⟨f, fd, hm, F, hb, hk⟩ := c
  exact pe_call F hr hg hm hk hb .nil pass0 ha hdb he hpl
theorem pe_cst {x : Str} {v : V} {pos : Pos} (h : CI X.mg x v) (hg : Gl X x := by rfl) (hd : (x == ("__debug__" : Str)) = false := by decide) : PE X (.Name x pos) (tC v) := by
  obtain ⟨u, h1, h2⟩ := h
  exact pe_glob hg h1 h2 hd
end
/-! rules whose reading names K itself (within a comprehension's block) -/
theorem ix_lK {X : Cx} (K : PySem.W.Frag) (h : X.K = K := by rfl) : IxR X (rIxL K) := h ▸ ix_list
theorem ix_tK {X : Cx} (K : PySem.W.Frag) (h : X.K = K := by rfl) : IxR X (rIxT K) := h ▸ ix_tup
theorem any_K {X : Cx} (K : PySem.W.Frag) (hc : X.calm = true) (h : X.K = K := by rfl) : CallR X (.builtin "any") (rAny K) := h ▸ cr_any hc
theorem cat_K {X : Cx} (K : PySem.W.Frag) (h : X.K = K := by rfl) : OpR X (binaryOp .Add) (rCatA K) := h ▸ op_catA
theorem len_K {X : Cx} (K : PySem.W.Frag) (h : X.K = K := by rfl) : CallR X (.builtin "len") (fun xs H Q => ∃ x n, xs = [x] ∧ LenV K x H n ∧ Q (.int n) H) := h ▸ call_len
theorem sp1_len {α : Type} {a : α → RP} {P : α → Prop} {Z : α → RP} : ∀ vs H Q E, sp1 a P Z vs H Q E → vs.length = 1 := by
  rintro vs H Q E ⟨B, x, _, ⟨v, r, rfl, _, rfl⟩, _⟩
  rfl
theorem sp2_len {α β : Type} {a : α → RP} {b : β → RP} {P : α × β → Prop} {Z : α × β → RP} : ∀ vs H Q E, sp2 a b P Z vs H Q E → vs.length = 2 := by
  rintro vs H Q E ⟨B, x, _, ⟨v, r, rfl, _, v2, r2, rfl, _, rfl⟩, _⟩
  rfl
theorem sp3_len {α β γ : Type} {a : α → RP} {b : β → RP} {c : γ → RP} {P : α × β × γ → Prop} {Z : α × β × γ → RP} : ∀ vs H Q E, sp3 a b c P Z vs H Q E → vs.length = 3 := by
  rintro vs H Q E ⟨B, x, _, ⟨v, r, rfl, _, v2, r2, rfl, _, v3, r3, rfl, _, rfl⟩, _⟩
  rfl
theorem sp4_len {α β γ δ : Type} {a : α → RP} {b : β → RP} {c : γ → RP} {d : δ → RP} {P : α × β × γ × δ → Prop} {Z : α × β × γ × δ → RP} : ∀ vs H Q E, sp4 a b c d P Z vs H Q E → vs.length = 4 := by
  rintro vs H Q E ⟨B, x, _, ⟨v, r, rfl, _, v2, r2, rfl, _, v3, r3, rfl, _, v4, r4, rfl, _, rfl⟩, _⟩
  rfl
/-! arguments, by their number -/
section
variable {M : Md} {σ : L2.St} {B : Hp} {ta tb tc td : TE} {R S T U : RP} [MoC R] [MoC S] [MoC T] [MoC U]
theorem ya1 (h : Yl M ta σ B R) : YA M (tCons ta tNil) σ B (AC R A0) := ya_cons h ya_nil
theorem ya2 (h : Yl M ta σ B R) (h2 : Yl M tb σ B S) : YA M (tCons ta (tCons tb tNil)) σ B (AC R (AC S A0)) := ya_cons h (ya_cons h2 ya_nil)
theorem ya3 (h : Yl M ta σ B R) (h2 : Yl M tb σ B S) (h3 : Yl M tc σ B T) : YA M (tCons ta (tCons tb (tCons tc tNil))) σ B (AC R (AC S (AC T A0))) := ya_cons h (ya_cons h2 (ya_cons h3 ya_nil))
theorem ya4 (h : Yl M ta σ B R) (h2 : Yl M tb σ B S) (h3 : Yl M tc σ B T) (h4 : Yl M td σ B U) : YA M (tCons ta (tCons tb (tCons tc (tCons td tNil)))) σ B (AC R (AC S (AC T (AC U A0)))) := ya_cons h (ya_cons h2 (ya_cons h3 (ya_cons h4 ya_nil)))
end
end RdW

set_option Elab.async false
set_option autoImplicit false
set_option linter.all false
set_option maxRecDepth 100000
set_option maxHeartbeats 4000000
/-! RdE: enumerate(tuple), max(list, default=d), sorted of pairs. -/
namespace PySem
theorem rd_newB {v : Value} {o : Obj} {H : Heap → Prop} (B : Begins v o H) :
    Meets (Builtin.«enumerate.__new__» ⟨[.type "enumerate", v], []⟩) (fun _ R s => H s.heap ∧
      R (.ok (.ret (.ref (s.heap.push o).objs.size))) { s with heap := (s.heap.push o).push { cls := .type "enumerate", data := .fields #[.none, .bool false, .ref s.heap.objs.size, rawInt 0, .none, .none] } }) :=
  .of_wp fun prog w A R s h => by
    obtain ⟨hp, g, d, tk, os⟩ := s; obtain ⟨h1, h⟩ := h
    have hsub := sub_enumerate
    have q1 : ∀ {A' : Around} {E : Value → Shared → Prop} {Q : Value → Shared → Prop}, Q (.ref hp.objs.size) ⟨hp.push o, g, d, tk, os⟩ → wpAny (model prog w) A' (pyIter v) Q E ⟨hp, g, d, tk, os⟩ :=
      fun q => B.iter prog w _ _ ⟨hp, g, d, tk, os⟩ _ h1 q
    wp_walk using q1
    refine wpAny_stack_any fun st => wpAny_pure ?_
    split
    · rename_i c _ _ _ _ _
      cases (c == Value.type "enumerate")
      · wp_walk using q1
        exact ⟨_, rfl, h⟩
      · wp_walk using q1
        exact ⟨_, rfl, h⟩
    · wp_walk using q1
      exact ⟨_, rfl, h⟩
section
variable {prog : Program} {w : World} {A : Around} {E : Value → Shared → Prop} {s : Shared}
theorem rd_enum_begins {v : Value} {o : Obj} {H : Heap → Prop} {Q : Value → Shared → Prop} (B : Begins v o H) (h1 : H s.heap)
    (h : ∀ h', IsEnum h' (s.heap.objs.size + 1) s.heap.objs.size 0 .none → h'.get? s.heap.objs.size = some o → h'.objs.size = s.heap.objs.size + 2 →
      (∀ b o, s.heap.get? b = some o → h'.get? b = some o) → Q (.ref (s.heap.objs.size + 1)) { s with heap := h' }) :
    wpAny (model prog w) A (call (.type "enumerate") [v]) Q E s := by
  refine callType_new F.called_enumerate (by decide) (F.typeCall_enumerate_1 _) (F.newCall_enumerate_1 _) (fun obj => F.args_object_init_2 obj _) F.entry_enumerate_new
    (rd_newB B) ⟨h1, ?_⟩
  have hz : (s.heap.push o).objs.size = s.heap.objs.size + 1 := Heap.size_push ..
  show _ ∧ _
  rw [hz]
  have he : IsEnum ((s.heap.push o).push { cls := .type "enumerate", data := .fields #[.none, .bool false, .ref s.heap.objs.size, rawInt 0, .none, .none] }) (s.heap.objs.size + 1) s.heap.objs.size 0 .none := by
    have := Heap.get?_push_size (s.heap.push o) (o := { cls := .type "enumerate", data := .fields #[.none, .bool false, .ref s.heap.objs.size, rawInt 0, .none, .none] }) rfl
    rw [hz] at this; exact this
  exact ⟨⟨_, he, rfl⟩, h _ he (Heap.get?_push_of_some _ (Heap.get?_push_size _ B.free)) (by rw [Heap.size_push, hz]) fun b o x => Heap.get?_push_of_some _ (Heap.get?_push_of_some _ x)⟩
end
end PySem
namespace RdW
open PySem L2
open Evl (Ex)
/-- the tuple at a, each item in a new pair -/
def Iet (K : PySem.W.Frag) (a : Addr) (xs : List V) : It :=
  ⟨fun i H => SqT K H a xs ∧ i < xs.length, fun i H v H' => ∃ T x, v = .ref T ∧ H T = none ∧ H' = upd H T (.tup [.int (i : Nat), x]) ∧ xs[i]? = some x, fun i H => SqT K H a xs ∧ xs.length ≤ i⟩
theorem turn_enumT {P : Program} {w : World} {K : PySem.W.Frag} {elts : List Expr} {kk : Nat} {tpos : Pos} (a e it : Addr) (xs : List V) :
    Turn P w K (.Tuple elts kk tpos) (Iet K a xs) [e, it] e (fun i h => (∃ old, IsEnum h e it ((i : Nat) : Int) old) ∧ h.IsTupleIter it a i ∧ e ≠ it ∧ a ≠ it ∧ a ≠ e ∧ i ≤ xs.length) where
  mem := by simp
  obj := fun i h st b hb => by
    obtain ⟨⟨old, he⟩, ⟨o, ho, hc, hd⟩, _⟩ := st
    have e' : b = e ∨ b = it := by simpa using hb
    rcases e' with z | z
    · rw [z]; exact ⟨_, he, fun v q => nomatch q⟩
    · rw [z]; exact ⟨o, ho, fun v q => by rw [hd] at q; cases q⟩
  keep := fun i h h' st k => let ⟨⟨old, he⟩, hi, hne⟩ := st; ⟨⟨old, k e (by simp) _ he⟩, hi.at fun o q => k it (by simp) o q, hne⟩
  item := by
    intro X hP hw hK hc i pins s σ H E I hf st hg
    subst hP hw hK
    obtain ⟨⟨old, he⟩, hit, hne, hai, hae, hle⟩ := st
    obtain ⟨hq, hx⟩ := hg
    obtain ⟨its, rv, p, hz⟩ := I.tuple hq
    have hl := rv.length
    have hel : e < s.heap.objs.size := Heap.lt_size he
    have hil : it < s.heap.objs.size := by obtain ⟨_, q, _⟩ := hit; exact Heap.lt_size q
    have D := Draws.tuple (prog := X.prog) (w := X.w) (A := X.A.in1) (I.ok.hd hc) it a hai its.toArray
    refine wpAny_pyNext_enum_itemC (c := (i : Int)) D he ⟨hit, p⟩ (by simp; omega) hne (by simp; exact ⟨hne, Ne.symm hae⟩) fun u h' tk hu ho hst hT hsz hk => ?_
    obtain ⟨x, hx', ru⟩ : ∃ x, xs[i]? = some x ∧ RelV x u := by
      have h1 : xs[i]? = some xs[i] := List.getElem?_eq_getElem hx
      obtain ⟨u', hu', ru⟩ := rv.get h1
      have hu2 : its[i]? = some u := by simpa using hu
      rw [hu'] at hu2
      cases hu2
      exact ⟨_, h1, ru⟩
    refine ⟨_, rfl, wpAny_letOwnedTupleGo_enum (s := { s with heap := h', toks := tk + 1 }) ho fun h'' he' sb => ?_⟩
    have hT2 : h''.get? s.heap.objs.size = some { cls := .type "tuple", data := .seq #[.int i tk, u] } := (sb.2 _ (Nat.ne_of_gt hel)).trans hT
    have new : ObjOk X.prog X.w (upd H s.heap.objs.size (.tup [.int (i : Nat), x])) h'' s.heap.objs.size (.tup [.int (i : Nat), x]) :=
      ⟨by show 2 ≤ sizeLine; decide, [.int i tk, u], .cons ⟨_, rfl⟩ (.cons ru .nil), ⟨_, hT2, rfl, _, rfl⟩⟩
    have I1 : Inv X pins σ (upd H s.heap.objs.size (.tup [.int (i : Nat), x])) { s with heap := h'', toks := tk + 1 } :=
      I.turnedNew (ch := [e, it]) (fun b ob hb q => (sb.2 b (fun z => hb (by simp [z]))).trans (hk b ob (fun z => hb (by simp [z])) (fun z => hb (by simp [z])) q)) hf (Nat.le_refl _) new
    refine ⟨.ref s.heap.objs.size, _, I1, rfl, ⟨_, x, rfl, I.hok.fresh (Nat.le_refl _), rfl, hx'⟩, ⟨⟨u, ?_⟩, hst.1.at fun o q => (sb.2 it (Ne.symm hne)).trans q, hne, hai, hae, hx⟩, fun b hb => ?_⟩
    · have e1 : ((i + 1 : Nat) : Int) = (i : Int) + 1 := by omega
      rw [e1]; exact he'
    · have hb' : b < s.heap.objs.size := by
        have e' : b = e ∨ b = it := by simpa using hb
        rcases e' with z | z
        · rw [z]; exact hel
        · rw [z]; exact hil
      rw [upd_ne (Nat.ne_of_lt hb')]
      exact (hf b hb).1
  done := by
    intro X hP hw hK hc i pins s σ H E I hf st hg
    subst hP hw hK
    obtain ⟨⟨old, he⟩, hit, hne, hai, hae, hle⟩ := st
    obtain ⟨hq, hx⟩ := hg
    obtain ⟨its, rv, p, hz⟩ := I.tuple hq
    obtain ⟨f0, f1, f2, f3, f4, f5⟩ := hf it (by simp)
    have hl := rv.length
    have D := Draws.tuple (prog := X.prog) (w := X.w) (A := X.A.in1) (I.ok.hd hc) it a hai its.toArray
    have hend : s.heap.IsTupleIter it a its.toArray.size := by
      have e : its.toArray.size = i := by rw [List.size_toArray]; omega
      rw [e]
      exact hit
    exact wpAny_pyNext_enum_endD D he ⟨hend, p⟩ fun h' eb => ⟨rfl, I.turned (t' := s.toks) (fun b o hb q => eb b o hb q) f0 f1 f3 f4 f5⟩
  self := fun A i s Q E st h => let ⟨⟨_, he⟩, _⟩ := st; wpAny_pyIter_enum he h
def iEnumT (K : PySem.W.Frag) (ta : TA) : TI := fun σ H R => ta σ H fun vs H1 => ∃ a xs, vs = [.ref a] ∧ SqT K H1 a xs ∧ R (Iet K a xs) H1
theorem pi_enumT {X : Cx} {e : Expr} {ta : TA} {p pos tpos : Pos} {elts : List Expr} {kk : Nat} (hg : Gl X "enumerate") (hm : X.mg "enumerate" = none) (ha : PA X [e] ta) (hs : starEach [e] X.env = [(false, eval e X.env)] := by rfl) :
    PI X (.Tuple elts kk tpos) (.Call (.Name "enumerate" p) [e] [] pos) (iEnumT X.K ta) := by
  refine ⟨fun pins s σ H R I h => ?_⟩
  refine PyProof.Rows.Call_ (ld_blt I hg hm PyProof.Rows.boot_enumerate (PyProof.Rows.callWith_type1 (thn (ha.run pos pins s σ H _ I h) fun us s1 ⟨vs, H1, I1, r1, q1⟩ => ?_) hs rfl))
  obtain ⟨a, xs, ex, hq, q⟩ := q1
  subst ex
  cases r1 with
  | cons r rr =>
    cases rr
    cases r
    obtain ⟨its, rv, p', hz⟩ := I1.tuple hq
    refine rd_enum_begins (begins_tuple a its.toArray) p' fun h' he hit hsz hk => wpAny_pyIter_enum he ?_
    have I2 : Inv X pins σ H1 { s1 with heap := h' } := I1.kept (t' := s1.toks) hk
    have hal : a < s1.heap.objs.size := by obtain ⟨o, ho, _⟩ := p'; exact Heap.lt_size ho
    refine ⟨s1.heap.objs.size + 1, [s1.heap.objs.size + 1, s1.heap.objs.size], _, _, H1, rfl, I2, turn_enumT a (s1.heap.objs.size + 1) s1.heap.objs.size xs, ⟨⟨.none, he⟩, ⟨_, hit, rfl, rfl⟩, Nat.succ_ne_self _, Nat.ne_of_lt hal, Nat.ne_of_lt (Nat.lt_succ_of_lt hal), Nat.zero_le _⟩, fun b hb => ?_, q⟩
    have e' : b = s1.heap.objs.size + 1 ∨ b = s1.heap.objs.size := by simpa using hb
    have hle : s1.heap.objs.size ≤ b := by
      rcases e' with z | z
      · rw [z]; exact Nat.le_add_right _ _
      · rw [z]; exact Nat.le_refl _
    exact I1.fpOk hle (I1.hok.fresh hle)
/-- a comprehension over enumerate(a tuple) -/
theorem yl_lcE {M : Md} {K : PySem.W.Frag} {σ : L2.St} {B : Hp} {te : TE} {α β : Type} {r : α → RP} {rb : β → RP} [∀ b, MoC (rb b)] [mr : ∀ a, MoC (r a)] {l : List α} {ta : TA} {i j : Nat} {vs : List Nat} (g' : Nat × α → β) (hl : YA M ta σ B (AC (TU K r l) A0)) (hz : l.length ≤ sizeLine)
    (hw : ∀ x y, wipe (((wipe σ vs).set i (some x)).set j (some y)) vs = wipe σ vs)
    (he : ∀ (n : Nat) a x B', l[n]? = some a → Ex B B' → r a x B' → Yl M te (((wipe σ vs).set i (some (.int (n : Int)))).set j (some x)) B' (rb (g' (n, a)))) :
    Yl M (tLc (iEnumT K ta) (gTup K 2 (gCons (gName i) (gCons (gName j) gNil))) tYes te vs) σ B (LL K rb (((List.range l.length).zip l).map g')) := fun B1 H1 e1 e2 iv Q q =>
  hl B1 H1 e1 e2 iv _ fun ws B2 H2 g2 ⟨v, rr, ew, ⟨a, xs, ev, h1, h2⟩, er⟩ => ⟨a, xs, by rw [ew, ev, er], Evl.ex_t g2.e h1, fun D hD => by
    have hlen : ((List.range l.length).zip l).length = xs.length := by rw [List.length_zip, List.length_range, ← h2.length]; exact Nat.min_self _
    refine ⟨fun i m H' => m = xs.length - i ∧ i ≤ xs.length ∧ Cp M B2 H2 D rb ((List.range l.length).zip l) (fun _ => true) g' i H', ⟨xs.length, by simp, Nat.zero_le _, Cp.start g2.e g2.i hD⟩, ?_⟩
    rintro n m H' ⟨rfl, hn, c⟩
    obtain ⟨B', acc, g3, hb, hd, al⟩ := id c
    by_cases hlt : n < xs.length
    · refine .inr ⟨⟨Evl.ex_t (g3.b.trans g3.e) h1, hlt⟩, Cp M B2 H2 D rb ((List.range l.length).zip l) (fun _ => true) g' (n + 1), fun H'' c' => ⟨xs.length - (n + 1), by omega, rfl, hlt, c'⟩, ?_⟩
      rintro w H3 ⟨T, x, rfl, hT, rfl, hx⟩
      obtain ⟨y, hy, hr⟩ := h2.get hx
      have hne : D ≠ T := ne_of_none hd hT
      have eT : Ex B' (upd H' T (.tup [.int (n : Nat), x])) := g3.e.trans (.new hT)
      have g4 : Gr M B2 H2 B' (upd H' T (.tup [.int (n : Nat), x])) := g3.trans (.of0 g3.i (.raw g3.e hT))
      refine ⟨T, _, rfl, .of upd_same, rfl, _, _, rfl, _, _, rfl, rfl, hw _ _, ?_⟩
      refine Cp.turn (i := n) (a := (n, y)) (f := fun _ => true) g2.i hD ?_ (by have := h2.length; omega) ⟨B', acc, g4, hb, by rw [upd_ne hne]; exact hd, al⟩ (fun B5 _ => yt_yes) fun B5 eB _ => he n y x B5 hy ((e1.trans g2.b).trans eB) ((mr y).up eB hr)
      rw [List.getElem?_zip_eq_some]
      exact ⟨List.getElem?_range (by rw [h2.length]; exact hlt), hy⟩
    · refine .inl ⟨⟨Evl.ex_t (g3.b.trans g3.e) h1, by omega⟩, ?_⟩
      have en : n = ((List.range l.length).zip l).length := by omega
      subst en
      obtain ⟨B3, g5, hD3⟩ := Cp.fin (K := K) g2.i hD c
      rw [List.filter_eq_self.mpr (fun _ _ => rfl)] at hD3
      exact q _ B3 H' (g2.trans g5) hD3⟩

/-! ### max(list, default=d) -/
theorem reads_ints {h : Heap} : ∀ {ns : List Int} {its : List Value}, Vals (ns.map V.int) its → ReadsAll h its (ns.map PyData.int) []
  | [], its, r => by
    rw [List.map_nil] at r
    cases r
    exact .nil
  | n :: ns, its, r => by
    rw [List.map_cons] at r
    cases r with
    | cons r t =>
      obtain ⟨k, rfl⟩ := r
      exact ReadsAll.cons (as := []) (bs := []) (.int n k) (reads_ints t)
theorem depth0 : ∀ ns : List Int, PyData.depthAll (ns.map PyData.int) = 0 := PySem.W.depth_ints
/-- the greatest; d of none -/
def rMaxD (K : PySem.W.Frag) : List V → List V → Hp → VK → Prop := fun vs zs H Q => ∃ (a : Addr) (ns : List Int) (d : Int), vs = [V.ref a] ∧ zs = [V.int d] ∧ SqL K H a (ns.map V.int) ∧ (ns = [] → Q (.int d) H) ∧ ∀ n r, ns = n :: r → Q (.int (r.foldl max n)) H
theorem cr_maxD {X : Cx} (hc : X.calm = true) (hu : X.A.units + 1 < cLine) : CallRK X (.builtin "max") [Str.ofString "default"] (rMaxD X.K) := by
  intro pins s σ H vs zs us ws Q I r rz h
  obtain ⟨a, ns, d, rfl, rfl, hs, q0, q1⟩ := h
  obtain ⟨its, rv, hl, hz⟩ := I.list hs
  obtain rfl := Vals.ref1 r
  obtain ⟨w1, rfl, t1, rfl⟩ := vals1 rz
  refine PySem.W.max_list_default (xs := ns.map PyData.int) (as := []) (I.ok.hd hc) hl.isList (by simpa using reads_ints rv) ⟨?_, ?_⟩ (by rw [depth0]; exact hu) (fun e h' tk hk => ?_) fun y ys i v h' tk bs e hv hr hk => ?_
  · intro x hx y hy
    obtain ⟨m, _, rfl⟩ := List.mem_map.mp hx
    obtain ⟨m', _, rfl⟩ := List.mem_map.mp hy
    simp [PySem.W.alike]
  · intro x hx
    obtain ⟨m, _, rfl⟩ := List.mem_map.mp hx
    exact fun z => nomatch z
  · exact ⟨.int d, H, I.kept (t' := tk) hk, ⟨_, rfl⟩, q0 (by simpa using e)⟩
  · cases ns with
    | nil => cases e
    | cons n ns =>
      injection e with e1 e2
      subst e1 e2
      rw [PySem.W.maxD_ints] at hr
      cases hr
      exact ⟨.int _, H, I.kept (t' := tk) hk, ⟨_, rfl⟩, q1 n ns rfl⟩
end RdW

set_option Elab.async false
set_option autoImplicit false
set_option linter.all false
set_option maxRecDepth 100000
set_option maxHeartbeats 2000000
/-! RdC: calls of built-ins, operators on lists and tuples, over two heaps. -/
namespace RdW
open PySem L2
open Evl (Ex)
section
variable {M : Md} {K : PySem.W.Frag} {σ : L2.St} {B B' : Hp} {ta tb te tc : TE} {R S T U Z : RP}
theorem yl_cb {r : List V → Hp → VK → Prop} {P : List V → Hp → Prop} {t : TA} (h : YA M t σ B P) (hr : ∀ vs B1 H1, Ex B B1 → Ex B1 H1 → M.I B1 H1 → P vs B1 → ∀ Q : VK, (∀ v B2 H2, Gr M B1 H1 B2 H2 → R v B2 → Q v H2) → r vs H1 Q) : Yl M (tCB r t) σ B R := fun B1 H1 e1 e2 i Q q =>
  h B1 H1 e1 e2 i _ fun vs B2 H2 g2 p => hr vs B2 H2 (e1.trans g2.b) g2.e g2.i p Q fun v B3 H3 g3 rv => q v B3 H3 (g2.trans g3) rv
theorem yl_intB {b : Bool} (h : Yl M ta σ B (isB b)) : Yl M (tCB (fun xs H Q => (∃ i, xs = [.int i] ∧ Q (.int i) H) ∨ ∃ k, xs = [.bl k] ∧ Q (.int (if k then 1 else 0)) H) (tCons ta tNil)) σ B (isZ (if b then 1 else 0)) :=
  yl_cb (ya1 h) fun vs B1 H1 e1 e2 i p Q q => by
    obtain ⟨v, w, rfl, hv, rfl⟩ := p
    cases hv
    exact .inr ⟨b, rfl, q _ B1 H1 (.refl e2 i) rfl⟩
theorem yl_lenL {α : Type} {r : α → RP} [∀ a, MoC (r a)] {l : List α} (h : Yl M ta σ B (LL K r l)) : Yl M (tCB (fun xs H Q => ∃ x n, xs = [x] ∧ LenV K x H n ∧ Q (.int n) H) (tCons ta tNil)) σ B (isI l.length) :=
  yl_cb (ya1 h) fun vs B1 H1 e1 e2 i p Q q => by
    obtain ⟨v, w, rfl, ⟨a, xs, rfl, h1, h2⟩, rfl⟩ := p
    exact ⟨.ref a, l.length, rfl, .inl ⟨xs, .of (e2 _ _ h1), h2.length⟩, q _ B1 H1 (.refl e2 i) rfl⟩
theorem yl_lenT {α : Type} {r : α → RP} [∀ a, MoC (r a)] {l : List α} (h : Yl M ta σ B (TU K r l)) : Yl M (tCB (fun xs H Q => ∃ x n, xs = [x] ∧ LenV K x H n ∧ Q (.int n) H) (tCons ta tNil)) σ B (isI l.length) :=
  yl_cb (ya1 h) fun vs B1 H1 e1 e2 i p Q q => by
    obtain ⟨v, w, rfl, ⟨a, xs, rfl, h1, h2⟩, rfl⟩ := p
    exact ⟨.ref a, l.length, rfl, .inr ⟨xs, Evl.ex_t e2 h1, h2.length⟩, q _ B1 H1 (.refl e2 i) rfl⟩
theorem yl_any {l : List Bool} (h : Yl M ta σ B (LL K isB l)) : Yl M (tCB (rAny K) (tCons ta tNil)) σ B (isB (l.any id)) :=
  yl_cb (ya1 h) fun vs B1 H1 e1 e2 i p Q q => by
    obtain ⟨v, w, rfl, ⟨a, xs, rfl, h1, h2⟩, rfl⟩ := p
    rw [al_bools h2] at h1
    exact ⟨a, l, rfl, .of (e2 _ _ h1), q _ B1 H1 (.refl e2 i) rfl⟩
theorem yl_all {l : List Bool} (h : Yl M ta σ B (LL K isB l)) : Yl M (tCB (rAll K) (tCons ta tNil)) σ B (isB (l.all id)) :=
  yl_cb (ya1 h) fun vs B1 H1 e1 e2 i p Q q => by
    obtain ⟨v, w, rfl, ⟨a, xs, rfl, h1, h2⟩, rfl⟩ := p
    rw [al_bools h2] at h1
    exact ⟨a, l, rfl, .of (e2 _ _ h1), q _ B1 H1 (.refl e2 i) rfl⟩
/-- tuple(a list) -/
theorem yl_tupleOf {α : Type} {r : α → RP} [∀ a, MoC (r a)] {l : List α} (h : Yl M ta σ B (LL K r l)) : Yl M (tCB (fun xs H Q => ∃ p ys, xs = [.ref p] ∧ ((SqL K H p ys ∧ ∀ l, H l = none → Q (.ref l) (upd H l (.tup ys))) ∨ (SqT K H p ys ∧ Q (.ref p) H))) (tCons ta tNil)) σ B (TU K r l) :=
  yl_cb (ya1 h) fun vs B1 H1 e1 e2 i p Q q => by
    obtain ⟨v, w, rfl, ⟨a, xs, rfl, h1, h2⟩, rfl⟩ := p
    exact ⟨a, xs, rfl, .inl ⟨.of (e2 _ _ h1), fun p hp => q _ _ _ (.of0 i (.new e2 hp)) (tt_new h2 (Ex.none e2 hp))⟩⟩
/-- list(a list), list(a tuple) -/
theorem yl_listOfL {α : Type} {r : α → RP} [∀ a, MoC (r a)] {l : List α} (h : Yl M ta σ B (LL K r l)) : Yl M (tCB (fun xs H Q => ∃ p ys, xs = [.ref p] ∧ (SqL K H p ys ∨ SqT K H p ys) ∧ ∀ l, H l = none → Q (.ref l) (upd H l (.lst ys))) (tCons ta tNil)) σ B (LL K r l) :=
  yl_cb (ya1 h) fun vs B1 H1 e1 e2 i p Q q => by
    obtain ⟨v, w, rfl, ⟨a, xs, rfl, h1, h2⟩, rfl⟩ := p
    exact ⟨a, xs, rfl, .inl (.of (e2 _ _ h1)), fun p hp => q _ _ _ (.of0 i (.new e2 hp)) (ll_new h2 (Ex.none e2 hp))⟩
theorem yl_listOfT {α : Type} {r : α → RP} [∀ a, MoC (r a)] {l : List α} (h : Yl M ta σ B (TU K r l)) : Yl M (tCB (fun xs H Q => ∃ p ys, xs = [.ref p] ∧ (SqL K H p ys ∨ SqT K H p ys) ∧ ∀ l, H l = none → Q (.ref l) (upd H l (.lst ys))) (tCons ta tNil)) σ B (LL K r l) :=
  yl_cb (ya1 h) fun vs B1 H1 e1 e2 i p Q q => by
    obtain ⟨v, w, rfl, ⟨a, xs, rfl, h1, h2⟩, rfl⟩ := p
    exact ⟨a, xs, rfl, .inr (Evl.ex_t e2 h1), fun p hp => q _ _ _ (.of0 i (.new e2 hp)) (ll_new h2 (Ex.none e2 hp))⟩
theorem yl_min2 {i j : Nat} (ha : Yl M ta σ B (isI i)) (hb : Yl M tb σ B (isI j)) : Yl M (tCB (fun xs H Q => ∃ i j, xs = [.int i, .int j] ∧ Q (.int (if j < i then j else i)) H) (tCons ta (tCons tb tNil))) σ B (isI (min i j)) :=
  yl_cb (ya2 ha hb) fun vs B1 H1 e1 e2 iv p Q q => by
    obtain ⟨v, w, rfl, hv, v2, w2, rfl, hv2, rfl⟩ := p
    cases hv; cases hv2
    refine ⟨i, j, rfl, ?_⟩
    have e : (if (j : Int) < (i : Int) then (j : Int) else (i : Int)) = ((min i j : Nat) : Int) := by split <;> omega
    rw [e]
    exact q _ B1 H1 (.refl e2 iv) rfl
theorem yl_max2 {i j : Nat} (ha : Yl M ta σ B (isI i)) (hb : Yl M tb σ B (isI j)) : Yl M (tCB (fun xs H Q => ∃ i j, xs = [.int i, .int j] ∧ Q (.int (if j > i then j else i)) H) (tCons ta (tCons tb tNil))) σ B (isI (max i j)) :=
  yl_cb (ya2 ha hb) fun vs B1 H1 e1 e2 iv p Q q => by
    obtain ⟨v, w, rfl, hv, v2, w2, rfl, hv2, rfl⟩ := p
    cases hv; cases hv2
    refine ⟨i, j, rfl, ?_⟩
    have e : (if (j : Int) > (i : Int) then (j : Int) else (i : Int)) = ((max i j : Nat) : Int) := by split <;> omega
    rw [e]
    exact q _ B1 H1 (.refl e2 iv) rfl
/-- xs + ys -/
theorem yl_cat {α : Type} {r : α → RP} [mr : ∀ a, MoC (r a)] {l m : List α} (ha : Yl M ta σ B (LL K r l)) (hb : Yl M tb σ B (LL K r m)) (hz : l.length + m.length ≤ sizeLine) : Yl M (tOp rCat ta tb) σ B (LL K r (l ++ m)) :=
  yl_op ha hb fun x y B1 e hx hy H e2 i' Q q => by
    obtain ⟨a, xs, rfl, h1, h2⟩ := hx
    obtain ⟨b, ys, rfl, h3, h4⟩ := hy
    refine ⟨a, b, xs, ys, rfl, rfl, e2 _ _ h1, e2 _ _ h3, by rw [← h2.length, ← h4.length]; exact hz, fun p hp => q _ _ _ (.of0 i' (.new e2 hp)) (ll_new (h2.append h4) (Ex.none e2 hp))⟩
/-- t + u -/
theorem yl_catT {α : Type} {r : α → RP} [mr : ∀ a, MoC (r a)] {l m : List α} (ha : Yl M ta σ B (TU K r l)) (hb : Yl M tb σ B (TU K r m)) (hz : l.length + m.length ≤ sizeLine) : Yl M (tOp (rCatA K) ta tb) σ B (TU K r (l ++ m)) :=
  yl_op ha hb fun x y B1 e hx hy H e2 i' Q q => by
    obtain ⟨a, xs, rfl, h1, h2⟩ := hx
    obtain ⟨b, ys, rfl, h3, h4⟩ := hy
    refine ⟨a, b, xs, ys, rfl, rfl, Evl.ex_t e2 h1, Evl.ex_t e2 h3, by rw [← h2.length, ← h4.length]; exact hz, fun z => ?_, fun z z2 => ?_, fun _ _ p hp => q _ _ _ (.of0 i' (.new e2 hp)) (tt_new (h2.append h4) (Ex.none e2 hp))⟩
    · subst z
      have e0 : l = [] := List.eq_nil_of_length_eq_zero h2.length
      subst e0
      exact q _ B1 H (.refl e2 i') ⟨b, ys, rfl, h3, h4⟩
    · subst z2
      have e0 : m = [] := List.eq_nil_of_length_eq_zero h4.length
      subst e0
      rw [List.append_nil] at q
      exact q _ B1 H (.refl e2 i') ⟨a, xs, rfl, h1, h2⟩
theorem yl_gt {i j : Int} (ha : Yl M ta σ B (isZ i)) (hb : Yl M tb σ B (isZ j)) : Yl M (tOp (rI0 fun i j => .bl (decide (j < i))) ta tb) σ B (isB (decide (j < i))) := yl_I0 ha hb rfl
theorem yl_lt {i j : Int} (ha : Yl M ta σ B (isZ i)) (hb : Yl M tb σ B (isZ j)) : Yl M (tOp (rI0 fun i j => .bl (decide (i < j))) ta tb) σ B (isB (decide (i < j))) := yl_I0 ha hb rfl
theorem yl_le {i j : Int} (ha : Yl M ta σ B (isZ i)) (hb : Yl M tb σ B (isZ j)) : Yl M (tOp (rI0 fun i j => .bl (decide (i ≤ j))) ta tb) σ B (isB (decide (i ≤ j))) := yl_I0 ha hb rfl
theorem yl_ge {i j : Int} (ha : Yl M ta σ B (isZ i)) (hb : Yl M tb σ B (isZ j)) : Yl M (tOp (rI0 fun i j => .bl (decide (j ≤ i))) ta tb) σ B (isB (decide (j ≤ i))) := yl_I0 ha hb rfl
/-- max(xs, default=-1) + what is above -/
theorem yl_maxD {l : List Nat} {tk : TA} {d : Int} (h : Yl M ta σ B (LL K isI l)) (hd : YA M tk σ B (AC (isZ d) A0)) (hd1 : d = -1) : Yl M (tCKw (rMaxD K) (tCons ta tNil) tk) σ B (isZ ((Rd.top l : Nat) - 1 : Int)) := fun B1 H1 e1 e2 i Q q =>
  ya1 h B1 H1 e1 e2 i _ fun vs B2 H2 g2 p => hd B2 H2 (e1.trans g2.b) g2.e g2.i _ fun zs B3 H3 g3 p3 => by
    obtain ⟨v, w, rfl, ⟨a, xs, rfl, h1, h2⟩, rfl⟩ := p
    obtain ⟨v2, w2, rfl, hv2, rfl⟩ := p3
    cases hv2
    have ex : xs = (l.map fun (n : Nat) => (n : Int)).map V.int := by rw [al_ints h2, List.map_map]; rfl
    have e3 := g2.e
    refine ⟨a, l.map fun (n : Nat) => (n : Int), d, rfl, rfl, .of ?_, fun z => ?_, fun n r z => ?_⟩
    · rw [← ex]
      exact g3.e _ _ (g3.b _ _ h1)
    · have e0 : l = [] := by simpa using z
      subst e0 hd1
      exact q _ B3 H3 (g2.trans g3) rfl
    · refine q _ B3 H3 (g2.trans g3) ?_
      show V.int _ = V.int _
      congr 1
      cases l with
      | nil => cases z
      | cons b m =>
        injection z with z1 z2
        subst z1 z2
        clear h2 ex h
        have key : ∀ (m : List Nat) (b : Nat), (m.map fun (n : Nat) => (n : Int)).foldl max (b : Int) + 1 = ((if b + 1 ≤ Rd.top m then Rd.top m else b + 1 : Nat) : Int) := by
          intro m
          induction m with
          | nil => intro b; simp [Rd.top]
          | cons c m ih =>
            intro b
            rw [List.map_cons, List.foldl_cons]
            have e : max (b : Int) (c : Int) = ((max b c : Nat) : Int) := by omega
            rw [e, ih]
            have et : Rd.top (c :: m) = if c + 1 ≤ Rd.top m then Rd.top m else c + 1 := rfl
            rw [et]
            by_cases h1 : c + 1 ≤ Rd.top m
            · rw [if_pos h1]
              by_cases h2 : b + 1 ≤ Rd.top m
              · rw [if_pos (by omega), if_pos h2]
              · rw [if_neg (by omega), if_neg h2]; omega
            · rw [if_neg h1]
              by_cases h2 : b + 1 ≤ c + 1
              · rw [if_neg (by omega), if_pos h2]; omega
              · rw [if_neg (by omega), if_neg h2]; omega
        have := key m b
        show (m.map fun (n : Nat) => (n : Int)).foldl max (b : Int) = (((if b + 1 ≤ Rd.top m then Rd.top m else b + 1 : Nat) : Int)) - 1
        omega
end
end RdW

set_option Elab.async false
set_option autoImplicit false
set_option linter.all false
set_option maxRecDepth 100000
set_option maxHeartbeats 2000000
/-! RdA1: the defs of relations. -/
namespace RdW
open PySem L2
open Evl (Ex)
theorem size_le (k : Nat) : Qr.size k ≤ 13 := by unfold Qr.size; (repeat' split) <;> decide
theorem many_at {k : Nat} (hk : k < 4) : atI [3, 13, 5, 9] (k : Int) = some (Qr.size k) := by
  have : k = 0 ∨ k = 1 ∨ k = 2 ∨ k = 3 := by omega
  rcases this with rfl | rfl | rfl | rfl <;> rfl
theorem pow_cast (r : Nat) : (2 : Int) ^ r = ((2 ^ r : Nat) : Int) := by
  rw [Int.natCast_pow]; rfl
section
variable {P : Program} {w : World} {K : PySem.W.Frag} {mg : Str → Option Value} {base : Heap} {f : Addr} {fd : FuncData}

/-! has -/
abbrev sHas : Stmt := topS 9
theorem scHas : FnScope ["some", "relation"] ["some", "relation"] (defScope sHas) := ⟨rfl, rfl, rfl, by decide +kernel, rfl, by decide +kernel, by decide +kernel⟩
abbrev spHas : Sp := sp2 isI isI (fun _ => True) fun x => isB (Qr.has x.1 x.2)
theorem bitAnd1 (m : Nat) : Builtin.bitAnd (m : Int) 1 = ((m % 2 : Nat) : Int) := by
  have h := PySem.W.os_band m 1
  rw [Nat.and_one_is_mod] at h
  exact h
theorem cal_has (F : Fun K "has" "has" sHas f fd) (hm : mg "has" = some (.ref f)) : Cal P w K mg base 1 "has" ["some", "relation"] spHas := by
  refine ⟨f, fd, hm, F.ok scHas sp2_len (fun cdv A outer s H vs Q E hr h => ?_), F.binds (fun _ _ _ _ _ _ us hl => match us, hl with | [_, _], _ => rfl), F.kp⟩
  obtain ⟨B, ⟨m, r⟩, e, ⟨v1, _, rfl, h1, v2, _, rfl, h2, rfl⟩, p, k⟩ := h
  refine ⟨_, pss_one (ps_ret (pe_cmpR op_eq (pe_op op_and (pe_op op_shr (pv 0) (pv 1)) pe_int) pe_int (nomark _))), ?_⟩
  refine y_fin k (Gr0.refl e) ?_
  refine (yl_eq (yl_I0 (R := isZ ((m / 2 ^ r % 2 : Nat) : Int)) (yl_I (R := isZ ((m / 2 ^ r : Nat) : Int)) (yl_var (R := isZ m) rfl h1) (yl_var (R := isZ r) rfl h2) (Int.natCast_nonneg r) ?_) (yl_zc 1) ?_) (yl_zc 1)).toB ?_
  · show V.int _ = V.int _
    rw [Int.toNat_natCast]
    congr 1
  · show V.int _ = V.int _
    rw [bitAnd1]
  · unfold Qr.has
    rw [Bool.eq_iff_iff, decide_eq_true_iff, beq_iff_eq]
    show ((m / 2 ^ r % 2 : Nat) : Int) = 1 ↔ m / 2 ^ r % 2 = 1
    omega

/-! inverse -/
abbrev sInverse : Stmt := topS 7
theorem scInverse : FnScope ["kind", "relation"] ["kind", "relation"] (defScope sInverse) := ⟨rfl, rfl, rfl, by decide +kernel, rfl, by decide +kernel, by decide +kernel⟩
abbrev spInverse : Sp := sp2 isI isI (fun x => x.1 < 4 ∧ x.2 < Qr.size x.1) fun x => isI (Qr.turned x.1 x.2)
theorem cal_inverse (T : Txt K mg) (F : Fun K "inverse" "inverse" sInverse f fd) (hm : mg "inverse" = some (.ref f)) : Cal P w K mg base 1 "inverse" ["kind", "relation"] spInverse := by
  obtain ⟨aM, hM, sM⟩ := T.MANY
  obtain ⟨aI, hI, sI⟩ := T.INVERSES_OF_SETS
  refine ⟨f, fd, hm, F.ok scInverse sp2_len (fun cdv A outer s H vs Q E hr h => ?_), F.binds (fun _ _ _ _ _ _ us hl => match us, hl with | [_, _], _ => rfl), F.kp⟩
  obtain ⟨B, ⟨kd, r⟩, e, ⟨v1, _, rfl, h1, v2, _, rfl, h2, rfl⟩, ⟨p1, p2⟩, k⟩ := h
  refine ⟨_, pss_cons (ps_if (pt_cmpR op_eq (pv 0) (pe_cst T.SETS) (nomark _)) (pss_one (ps_ret (pe_ix ix_tup (pe_cst hI) (pv 1) (fun _ _ => rfl)))) pss_nil)
    (pss_one (ps_ret (pe_op op_sub (pe_op op_sub (pe_ix ix_tup (pe_cst hM) (pv 0) (fun _ _ => rfl)) pe_int) (pv 1)))), ?_⟩
  refine yq_when (M := pm) e trivial (yt_test (yl_eq (yl_var (R := isZ kd) rfl h1) (yl_zc 2))) (fun c B2 H2 g => ?_) (fun c B2 H2 g => ?_)
  · have c : kd = 2 := by
      have := of_decide_eq_true c
      omega
    subst c
    refine y_fin k g.to0 ((yl_ixT (K := K) (yl_c (sI _)) (yl_var (R := isZ r) rfl h2) (a := Qr.turned 2 r) ?_))
    have : r = 0 ∨ r = 1 ∨ r = 2 ∨ r = 3 ∨ r = 4 := by
      have : r < 5 := p2
      omega
    rcases this with rfl | rfl | rfl | rfl | rfl <;> rfl
  · have c : kd ≠ 2 := by
      have := of_decide_eq_false c
      omega
    refine y_fin k g.to0 ((yl_sub (yl_sub (yl_ixT (K := K) (yl_c (sM _)) (yl_var (R := isZ kd) rfl h1) (many_at p1)).z (yl_zc 1)) (yl_var (R := isZ r) rfl h2)).i ?_)
    unfold Qr.turned
    have p2 : r < Qr.size kd := p2
    rw [if_neg c]
    dsimp only
    omega

/-! every -/
abbrev sEvery : Stmt := topS 8
theorem scEvery : FnScope ["kind"] ["kind"] (defScope sEvery) := ⟨rfl, rfl, rfl, by decide +kernel, rfl, by decide +kernel, by decide +kernel⟩
abbrev spEvery : Sp := sp1 isI (fun x => x < 4) fun x => isI (Qr.all x)
theorem cal_every (T : Txt K mg) (F : Fun K "every" "every" sEvery f fd) (hm : mg "every" = some (.ref f)) : Cal P w K mg base 1 "every" ["kind"] spEvery := by
  obtain ⟨aM, hM, sM⟩ := T.MANY
  refine ⟨f, fd, hm, F.ok scEvery sp1_len (fun cdv A outer s H vs Q E hr h => ?_), F.binds (fun _ _ _ _ _ _ us hl => match us, hl with | [_], _ => rfl), F.kp⟩
  obtain ⟨B, kd, e, ⟨v1, _, rfl, h1, rfl⟩, p, k⟩ := h
  refine ⟨_, pss_one (ps_ret (pe_op op_sub (pe_op op_shl pe_int (pe_ix ix_tup (pe_cst hM) (pv 0) (fun _ _ => rfl))) pe_int)), ?_⟩
  refine y_fin k (Gr0.refl e) ((yl_sub (yl_I (R := isZ ((2 ^ Qr.size kd : Nat) : Int)) (yl_zc 1) (yl_ixT (K := K) (yl_c (sM _)) (yl_var (R := isZ kd) rfl h1) (many_at p)).z ?_ ?_) (yl_zc 1)).i ?_)
  · have := size_le kd
    exact ⟨by omega, by omega, by decide⟩
  · show V.int _ = V.int _
    rw [Int.toNat_natCast, pow_cast]
    congr 1
    omega
  · unfold Qr.all
    have := Nat.two_pow_pos (Qr.size kd)
    omega

/-! members -/
abbrev sMembers : Stmt := topS 10
theorem scMembers : FnScope ["kind", "some", "relation"] ["kind", "some"] (defScope sMembers) := ⟨rfl, rfl, rfl, by decide +kernel, rfl, by decide +kernel, by decide +kernel⟩
abbrev spMembers (K : PySem.W.Frag) : Sp := sp2 isI isI (fun x => x.1 < 4) fun x => LL K isI (Qr.list x.1 x.2)
theorem cal_members (T : Txt K mg) (cH : Cal P w K mg base 1 "has" ["some", "relation"] spHas) (F : Fun K "members" "members" sMembers f fd) (hm : mg "members" = some (.ref f)) : Cal P w K mg base 2 "members" ["kind", "some"] (spMembers K) := by
  obtain ⟨aM, hM, sM⟩ := T.MANY
  refine ⟨f, fd, hm, F.ok scMembers sp2_len (fun cdv A outer s H vs Q E hr h => ?_), F.binds (fun _ _ _ _ _ _ us hl => match us, hl with | [_, _], _ => rfl), F.kp⟩
  obtain ⟨B, ⟨kd, m⟩, e, ⟨v1, _, rfl, h1, v2, _, rfl, h2, rfl⟩, p, k⟩ := h
  refine ⟨_, pss_one (ps_ret (pe_lc (own := [("relation", 2)]) (g := gName 2) rfl scMembers.nd (pi_range1 rfl T.b_range (pa_cons (pe_ix ix_tup (pe_cst hM) (pv 0) (fun _ _ => rfl)) pa_nil)) (blkOk_by (N := ["kind", "some", "relation"]) (sc := defScope sMembers) (by decide +kernel))
    (fun _ _ _ _ _ => pg_name (i := 2) scMembers.nd rfl (Or.inl rfl)) (fun _ _ _ _ _ => pts_one (pt_val (pe_cal cH hr (pa_cons (pv 1) (pa_cons (pv 2) pa_nil))))) (fun _ _ _ _ _ => pv 2))), ?_⟩
  refine y_fin k (Gr0.refl e) ((yl_lcR (K := K) (rb := isI) (n := Qr.size kd) (Qr.has m) id (ya1 (yl_ixT (K := K) (yl_c (sM _)) (yl_var (R := isZ kd) rfl h1) (many_at p))) ?_ (fun x => rfl) (fun a B' ha eB => ?_) (fun a B' ha eB _ => ?_)).imp fun v B1 _ h => ?_)
  · exact Nat.le_trans (size_le kd) (by decide)
  · exact yt_B (yl_call (m, a) (ya2 (yl_var rfl h2) (yl_var rfl rfl)) trivial)
  · exact yl_var rfl rfl
  · rw [List.map_id] at h
    exact h

/-! set_of -/
abbrev sSetOf : Stmt := topS 11
theorem scSetOf : FnScope ["relations", "found", "relation"] ["relations"] (defScope sSetOf) := ⟨rfl, rfl, rfl, by decide +kernel, rfl, by decide +kernel, by decide +kernel⟩
abbrev spSetOf (K : PySem.W.Frag) : Sp := sp1 (LL K isI) (fun l => ∀ r ∈ l, r < 100) fun l => isI (Rd.orAll l)
theorem bitOr_nat (a b : Nat) : Builtin.bitOr (a : Int) (b : Int) = ((a ||| b : Nat) : Int) := by
  rw [Bits.bitOr_pp (Int.natCast_nonneg a) (Int.natCast_nonneg b)]
  rfl
theorem orAll_take {l : List Nat} {i a : Nat} (h : l[i]? = some a) : Rd.orAll (l.take (i + 1)) = Rd.orAll (l.take i) ||| 2 ^ a := by
  unfold Rd.orAll
  rw [List.take_add_one, h, List.foldl_append]
  rfl
theorem cal_set_of (T : Txt K mg) (F : Fun K "set_of" "set_of" sSetOf f fd) (hm : mg "set_of" = some (.ref f)) : Cal P w K mg base 1 "set_of" ["relations"] (spSetOf K) := by
  refine ⟨f, fd, hm, F.ok scSetOf sp1_len (fun cdv A outer s H vs Q E hr h => ?_), F.binds (fun _ _ _ _ _ _ us hl => match us, hl with | [_], _ => rfl), F.kp⟩
  obtain ⟨B, l, e, ⟨v1, _, rfl, h1, rfl⟩, p, k⟩ := h
  refine ⟨_, pss_cons (ps_set (i := 1) scSetOf.nd rfl (.inl rfl) pe_int) (pss_cons (ps_for PassesOwn.never rfl (pi_list (pv 0)) (pg_name (i := 2) scSetOf.nd rfl (Or.inl rfl))
    (pss_one (ps_set (i := 1) scSetOf.nd rfl (.inl rfl) (pe_op op_or (pv 1) (pe_op op_shl pe_int (pv 2)))))) (pss_one (ps_ret (pv 1)))), ?_⟩
  refine yq_asg (M := pm) e trivial (yl_n 0) fun v B1 H1 g1 r1 => ?_
  refine yq_forL (M := pm) (K := K) (r := isI) (l := l) g1.e trivial (yl_var rfl (MoC.up g1.b h1)) (fun i σ B' H' => Gr0 B H B' H' ∧ ∃ x, σ = [some v1, some (.int (Rd.orAll (l.take i) : Nat)), x]) ?_ ?_ ?_
  · intro B2 H2 g2
    refine ⟨(g1.trans g2).to0, none, ?_⟩
    cases r1
    rfl
  · rintro i a x σ' B' H' N hi hx e' ⟨g', y, rfl⟩ hN
    cases hx
    refine y_asg (M := pm) e' trivial (yl_I0 (R := isI (Rd.orAll (l.take (i + 1)))) (yl_var (R := isZ _) rfl rfl) (yl_I (R := isZ ((2 ^ a : Nat) : Int)) (yl_zc 1) (yl_var (R := isZ a) rfl rfl) ?_ ?_) ?_) fun v B2 H2 g2 r2 => ?_
    · have := p a (List.mem_of_getElem? hi)
      exact ⟨by omega, by omega, by decide⟩
    · show V.int _ = V.int _
      rw [Int.toNat_natCast, pow_cast]
      congr 1
      omega
    · show V.int _ = V.int _
      rw [bitOr_nat, orAll_take hi]
    · refine hN _ B2 H2 g2.b g2.e ⟨g'.trans g2.to0, some (.int a), ?_⟩
      cases r2
      rfl
  · rintro σ' B' H' e' ⟨g', y, rfl⟩
    rw [List.take_length]
    exact y_fin k g' (yl_var rfl rfl)

/-! inverse_set -/
abbrev sInverseSet : Stmt := topS 12
theorem scInverseSet : FnScope ["kind", "some", "relation"] ["kind", "some"] (defScope sInverseSet) := ⟨rfl, rfl, rfl, by decide +kernel, rfl, by decide +kernel, by decide +kernel⟩
abbrev spInverseSet : Sp := sp2 isI isI (fun x => x.1 < 4) fun x => isI (Qr.turnedAll x.1 x.2)
theorem turned_lt {k r : Nat} (h : r < Qr.size k) : Qr.turned k r < 100 := by
  have := size_le k
  unfold Qr.turned
  repeat' split
  all_goals omega
theorem cal_inverse_set (T : Txt K mg) (cI : Cal P w K mg base 1 "inverse" ["kind", "relation"] spInverse) (cM : Cal P w K mg base 2 "members" ["kind", "some"] (spMembers K)) (cS : Cal P w K mg base 1 "set_of" ["relations"] (spSetOf K))
    (F : Fun K "inverse_set" "inverse_set" sInverseSet f fd) (hm : mg "inverse_set" = some (.ref f)) : Cal P w K mg base 3 "inverse_set" ["kind", "some"] spInverseSet := by
  refine ⟨f, fd, hm, F.ok scInverseSet sp2_len (fun cdv A outer s H vs Q E hr h => ?_), F.binds (fun _ _ _ _ _ _ us hl => match us, hl with | [_, _], _ => rfl), F.kp⟩
  obtain ⟨B, ⟨kd, m⟩, e, ⟨v1, _, rfl, h1, v2, _, rfl, h2, rfl⟩, p, k⟩ := h
  refine ⟨_, pss_one (ps_ret (pe_cal cS (hr.mono (by decide)) (pa_cons (pe_lc (own := [("relation", 2)]) (g := gName 2) rfl scInverseSet.nd (pi_list (pe_cal cM hr (pa_cons (pv 0) (pa_cons (pv 1) pa_nil)))) (blkOk_by (N := ["kind", "some", "relation"]) (sc := defScope sInverseSet) (by decide +kernel))
    (fun _ _ _ _ _ => pg_name (i := 2) scInverseSet.nd rfl (Or.inl rfl)) (fun _ _ _ _ _ => pts_nil) (fun _ _ _ _ _ => pe_cal cI (hr.mono (by decide)) (pa_cons (pv 0) (pa_cons (pv 2) pa_nil)))) pa_nil))), ?_⟩
  refine y_fin k (Gr0.refl e) ((yl_call ((Qr.list kd m).map (Qr.turned kd)) (ya1 ((yl_lcL (K := K) (r := isI) (rb := isI) (l := Qr.list kd m) (fun _ => true) (Qr.turned kd) (yl_call (kd, m) (ya2 (yl_var rfl h1) (yl_var rfl h2)) p) ?_ ?_).imp fun v B1 _ h => ?_)) ?_).to ?_)
  · refine Nat.le_trans (List.length_filter_le _ _) ?_
    rw [List.length_range]
    exact Nat.le_trans (size_le kd) (by decide)
  · rintro a x B' ha eB hx
    cases hx
    refine ⟨_, ?_, fun H' Q _ q => q, fun B2 _ => yt_yes, fun B2 _ _ => yl_call (kd, a) (ya2 (yl_var rfl h1) (yl_var rfl rfl)) ⟨p, (Rd.mem_list.mp ha).1⟩⟩
    rfl
  · rw [List.filter_eq_self.mpr (fun _ _ => rfl)] at h
    exact h
  · intro r hr
    obtain ⟨t, ht, rfl⟩ := List.mem_map.mp hr
    exact turned_lt (Rd.mem_list.mp ht).1
  · unfold Qr.turnedAll
    rw [Rd.mask_eq]

/-! pair_number, many_pairs -/
abbrev sPairNumber : Stmt := topS 13
theorem scPairNumber : FnScope ["lower", "higher"] ["lower", "higher"] (defScope sPairNumber) := ⟨rfl, rfl, rfl, by decide +kernel, rfl, by decide +kernel, by decide +kernel⟩
abbrev spPairNumber : Sp := sp2 isI isI (fun x => x.2 ≤ 4) fun x => isI (Rd.nPairs x.2 + x.1)
theorem nPairs_int {n : Nat} (h : n ≤ 4) : ((n : Int) * ((n : Int) - 1)) / 2 = ((Rd.nPairs n : Nat) : Int) := by
  have : n = 0 ∨ n = 1 ∨ n = 2 ∨ n = 3 ∨ n = 4 := by omega
  rcases this with rfl | rfl | rfl | rfl | rfl <;> rfl
theorem cal_pair_number (F : Fun K "pair_number" "pair_number" sPairNumber f fd) (hm : mg "pair_number" = some (.ref f)) : Cal P w K mg base 1 "pair_number" ["lower", "higher"] spPairNumber := by
  refine ⟨f, fd, hm, F.ok scPairNumber sp2_len (fun cdv A outer s H vs Q E hr h => ?_), F.binds (fun _ _ _ _ _ _ us hl => match us, hl with | [_, _], _ => rfl), F.kp⟩
  obtain ⟨B, ⟨i, j⟩, e, ⟨v1, _, rfl, h1, v2, _, rfl, h2, rfl⟩, p, k⟩ := h
  refine ⟨_, pss_one (ps_ret (pe_op op_add (pe_op op_fdiv (pe_op op_mul (pv 1) (pe_op op_sub (pv 1) pe_int)) pe_int) (pv 0))), ?_⟩
  have p : j ≤ 4 := p
  refine y_fin k (Gr0.refl e) ((yl_add (yl_I (R := isZ ((Rd.nPairs j : Nat) : Int)) (yl_mul (yl_var (R := isZ j) rfl h2) (yl_sub (yl_var (R := isZ j) rfl h2) (yl_zc 1)) (.inl ⟨by omega, by omega⟩)) (yl_zc 2) ⟨by decide, by decide⟩ ?_) (yl_var (R := isZ i) rfl h1)).i ?_)
  · show V.int _ = V.int _
    rw [nPairs_int p]
  · dsimp only
    omega
abbrev sManyPairs : Stmt := topS 14
theorem scManyPairs : FnScope ["objects"] ["objects"] (defScope sManyPairs) := ⟨rfl, rfl, rfl, by decide +kernel, rfl, by decide +kernel, by decide +kernel⟩
abbrev spManyPairs : Sp := sp1 isI (fun x => x ≤ 4) fun x => isI (Rd.nPairs x)
theorem cal_many_pairs (F : Fun K "many_pairs" "many_pairs" sManyPairs f fd) (hm : mg "many_pairs" = some (.ref f)) : Cal P w K mg base 1 "many_pairs" ["objects"] spManyPairs := by
  refine ⟨f, fd, hm, F.ok scManyPairs sp1_len (fun cdv A outer s H vs Q E hr h => ?_), F.binds (fun _ _ _ _ _ _ us hl => match us, hl with | [_], _ => rfl), F.kp⟩
  obtain ⟨B, j, e, ⟨v1, _, rfl, h1, rfl⟩, p, k⟩ := h
  refine ⟨_, pss_one (ps_ret (pe_op op_fdiv (pe_op op_mul (pv 0) (pe_op op_sub (pv 0) pe_int)) pe_int)), ?_⟩
  have p : j ≤ 4 := p
  refine y_fin k (Gr0.refl e) (yl_I (R := isI (Rd.nPairs j)) (yl_mul (yl_var (R := isZ j) rfl h1) (yl_sub (yl_var (R := isZ j) rfl h1) (yl_zc 1)) (.inl ⟨by omega, by omega⟩)) (yl_zc 2) ⟨by decide, by decide⟩ ?_)
  show V.int _ = V.int _
  rw [nPairs_int p]
end
end RdW

set_option Elab.async false
set_option autoImplicit false
set_option linter.all false
set_option maxRecDepth 100000
set_option maxHeartbeats 2000000
/-! RdA2: the defs of orders. -/
namespace RdW
open PySem L2
open Evl (Ex)
section
variable {P : Program} {w : World} {K : PySem.W.Frag} {mg : Str → Option Value} {base : Heap} {f : Addr} {fd : FuncData}

/-! compared -/
abbrev sCompared : Stmt := topS 34
theorem scCompared : FnScope ["one", "other"] ["one", "other"] (defScope sCompared) := ⟨rfl, rfl, rfl, by decide +kernel, rfl, by decide +kernel, by decide +kernel⟩
abbrev spCompared : Sp := sp2 isI isI (fun _ => True) fun x => isI (Rd.cmp x.1 x.2)
theorem cal_compared (T : Txt K mg) (F : Fun K "compared" "compared" sCompared f fd) (hm : mg "compared" = some (.ref f)) : Cal P w K mg base 1 "compared" ["one", "other"] spCompared := by
  refine ⟨f, fd, hm, F.ok scCompared sp2_len (fun cdv A outer s H vs Q E hr h => ?_), F.binds (fun _ _ _ _ _ _ us hl => match us, hl with | [_, _], _ => rfl), F.kp⟩
  obtain ⟨B, ⟨a, b⟩, e, ⟨v1, _, rfl, h1, v2, _, rfl, h2, rfl⟩, p, k⟩ := h
  refine ⟨_, pss_one (ps_ret (pe_op op_sub (pe_op op_add pe_int (pe_callTy call_int1 rfl T.b_int (by decide +kernel) (pa_cons (pe_cmpR op_gt (pv 0) (pv 1) (nomark _)) pa_nil)))
    (pe_callTy call_int1 rfl T.b_int (by decide +kernel) (pa_cons (pe_cmpR op_lt (pv 0) (pv 1) (nomark _)) pa_nil)))), ?_⟩
  refine y_fin k (Gr0.refl e) ((yl_sub (yl_add (yl_zc 1) (yl_intB (yl_gt (yl_var (R := isZ a) rfl h1) (yl_var (R := isZ b) rfl h2)))) (yl_intB (yl_lt (yl_var (R := isZ a) rfl h1) (yl_var (R := isZ b) rfl h2)))).i ?_)
  unfold Rd.cmp
  dsimp only
  by_cases c1 : a < b
  · rw [if_pos c1, decide_eq_false (by omega), decide_eq_true (by omega)]; rfl
  · rw [if_neg c1]
    by_cases c2 : a = b
    · rw [if_pos c2, decide_eq_false (by omega), decide_eq_false (by omega)]; rfl
    · rw [if_neg c2, decide_eq_true (by omega), decide_eq_false (by omega)]; rfl

/-! interval_relation -/
abbrev sIntervalRelation : Stmt := topS 35
theorem scIntervalRelation : FnScope ["start", "end", "other_start", "other_end"] ["start", "end", "other_start", "other_end"] (defScope sIntervalRelation) := ⟨rfl, rfl, rfl, by decide +kernel, rfl, by decide +kernel, by decide +kernel⟩
abbrev spIntervalRelation : Sp := sp4 isI isI isI isI (fun _ => True) fun x => isI (Rd.irel x.1 x.2.1 x.2.2.1 x.2.2.2)
theorem cmp_int (i : Nat) (h : i < 3) {α : Type} (a b c : α) : atI [a, b, c] (i : Int) = some (if i = 0 then a else if i = 1 then b else c) := by
  have : i = 0 ∨ i = 1 ∨ i = 2 := by omega
  rcases this with rfl | rfl | rfl <;> rfl
theorem cal_interval_relation (T : Txt K mg) (cC : Cal P w K mg base 1 "compared" ["one", "other"] spCompared) (F : Fun K "interval_relation" "interval_relation" sIntervalRelation f fd) (hm : mg "interval_relation" = some (.ref f)) :
    Cal P w K mg base 2 "interval_relation" ["start", "end", "other_start", "other_end"] spIntervalRelation := by
  obtain ⟨aO, hO, sO⟩ := T.OVERLAPPING
  refine ⟨f, fd, hm, F.ok scIntervalRelation sp4_len (fun cdv A outer s H vs Q E hr h => ?_), F.binds (fun _ _ _ _ _ _ us hl => match us, hl with | [_, _, _, _], _ => rfl), F.kp⟩
  obtain ⟨B, ⟨a, b, c, d⟩, e, ⟨v1, _, rfl, h1, v2, _, rfl, h2, v3, _, rfl, h3, v4, _, rfl, h4, rfl⟩, p, k⟩ := h
  have x1 : ∀ {B'}, Ex B B' → Yl pm (tVar 0) (start ["start", "end", "other_start", "other_end"] [v1, v2, v3, v4]) B' (isI a) := fun eB => yl_var rfl h1
  have x2 : ∀ {B'}, Ex B B' → Yl pm (tVar 1) (start ["start", "end", "other_start", "other_end"] [v1, v2, v3, v4]) B' (isI b) := fun eB => yl_var rfl h2
  have x3 : ∀ {B'}, Ex B B' → Yl pm (tVar 2) (start ["start", "end", "other_start", "other_end"] [v1, v2, v3, v4]) B' (isI c) := fun eB => yl_var rfl h3
  have x4 : ∀ {B'}, Ex B B' → Yl pm (tVar 3) (start ["start", "end", "other_start", "other_end"] [v1, v2, v3, v4]) B' (isI d) := fun eB => yl_var rfl h4
  refine ⟨_, pss_cons (ps_if (pt_cmpR op_le (pv 1) (pv 2) (nomark _)) (pss_one (ps_ret (pe_ifExp (pt_cmpR op_eq (pv 1) (pv 2) (nomark _)) (pe_cst T.MEETS) (pe_cst T.BEFORE)))) pss_nil)
    (pss_cons (ps_if (pt_cmpR op_ge (pv 0) (pv 3) (nomark _)) (pss_one (ps_ret (pe_ifExp (pt_cmpR op_eq (pv 0) (pv 3) (nomark _)) (pe_cst T.MET) (pe_cst T.AFTER)))) pss_nil)
    (pss_one (ps_ret (pe_ix ix_tup (pe_ix ix_tup (pe_cst hO) (pe_cal cC hr (pa_cons (pv 1) (pa_cons (pv 3) pa_nil))) (fun _ _ => rfl)) (pe_cal cC hr (pa_cons (pv 0) (pa_cons (pv 2) pa_nil))) (fun _ _ => rfl))))), ?_⟩
  have en : ∀ {i j : Nat}, decide ((i : Int) = (j : Int)) = decide (i = j) := fun {i j} => decide_eq_decide.mpr (by omega)
  refine yq_when (M := pm) e trivial (yt_test (yl_le (x2 (.refl _)).z (x3 (.refl _)).z)) (fun q B2 H2 g => ?_) (fun q B2 H2 g => ?_)
  · have q := of_decide_eq_true q
    refine y_fin k g.to0 ((yl_if (R := isI (if b = c then 1 else 0)) (yt_test (yl_eq (x2 g.b).z (x3 g.b).z)) (fun z => ?_) (fun z => ?_)).to ?_)
    · rw [en] at z
      rw [if_pos (of_decide_eq_true z)]
      exact yl_n 1
    · rw [en] at z
      rw [if_neg (of_decide_eq_false z)]
      exact yl_n 0
    · unfold Rd.irel
      dsimp only
      rw [if_pos (show b ≤ c by omega)]
  · have q := of_decide_eq_false q
    refine yq_when (M := pm) g.e trivial (yt_test (yl_ge (x1 g.b).z (x4 g.b).z)) (fun q2 B3 H3 g3 => ?_) (fun q2 B3 H3 g3 => ?_)
    · have q2 := of_decide_eq_true q2
      refine y_fin k (g.trans g3).to0 ((yl_if (R := isI (if a = d then 11 else 12)) (yt_test (yl_eq (x1 (g.b.trans g3.b)).z (x4 (g.b.trans g3.b)).z)) (fun z => ?_) (fun z => ?_)).to ?_)
      · rw [en] at z
        rw [if_pos (of_decide_eq_true z)]
        exact yl_n 11
      · rw [en] at z
        rw [if_neg (of_decide_eq_false z)]
        exact yl_n 12
      · unfold Rd.irel
        dsimp only
        rw [if_neg (show ¬ b ≤ c by omega), if_pos (show d ≤ a by omega)]
    · have q2 := of_decide_eq_false q2
      refine y_fin k (g.trans g3).to0 ((yl_ixT (K := K) (yl_ixT (K := K) (r := TU K isI) (yl_c (sO _)) (yl_call (b, d) (ya2 (x2 (g.b.trans g3.b)) (x4 (g.b.trans g3.b))) trivial).z (cmp_int _ (Rd.cmp_lt _ _) _ _ _))
        (yl_call (a, c) (ya2 (x1 (g.b.trans g3.b)) (x3 (g.b.trans g3.b))) trivial).z (a := Rd.irel a b c d) ?_))
      unfold Rd.irel
      rw [if_neg (show ¬ b ≤ c by omega), if_neg (show ¬ d ≤ a by omega)]
      unfold Rd.cmp
      dsimp only
      by_cases c1 : b < d
      · rw [if_pos c1, if_pos c1]
        by_cases c2 : a < c
        · rw [if_pos c2, if_pos c2]; rfl
        · rw [if_neg c2, if_neg c2]
          by_cases c3 : a = c
          · rw [if_pos c3, if_pos c3]; rfl
          · rw [if_neg c3, if_neg c3]; rfl
      · rw [if_neg c1, if_neg c1]
        by_cases c4 : b = d
        · rw [if_pos c4, if_pos c4]
          by_cases c2 : a < c
          · rw [if_pos c2, if_pos c2]; rfl
          · rw [if_neg c2, if_neg c2]
            by_cases c3 : a = c
            · rw [if_pos c3, if_pos c3]; rfl
            · rw [if_neg c3, if_neg c3]; rfl
        · rw [if_neg c4, if_neg c4]
          by_cases c2 : a < c
          · rw [if_pos c2, if_pos c2]; rfl
          · rw [if_neg c2, if_neg c2]
            by_cases c3 : a = c
            · rw [if_pos c3, if_pos c3]; rfl
            · rw [if_neg c3, if_neg c3]; rfl
end
end RdW

set_option Elab.async false
set_option autoImplicit false
set_option linter.all false
set_option maxRecDepth 100000
set_option maxHeartbeats 2000000
/-! RdA3: figures. -/
namespace RdW
open PySem L2
open Evl (Ex)
open Rd (Fig)
abbrev FG (K : PySem.W.Frag) : Fig → RP := LL K (LL K isI)
theorem atI_n {α : Type} {l : List α} {i : Nat} {a : α} (h : l[i]? = some a) : atI l (i : Int) = some a := atI_nat h
theorem at0_get {o : List Nat} {i : Nat} (h : i < o.length) : o[i]? = some (Rd.at0 o i) := by
  rw [Rd.at0_lt h, List.getElem?_eq_getElem h]
theorem fig_get0 {k n : Nat} {g : Fig} (G : Rd.FigOk k n g) : g[0]? = some (g.getD 0 []) := by
  obtain ⟨_, _, sh, _⟩ := G
  rcases sh with ⟨_, rfl⟩ | ⟨_, sh⟩
  · rfl
  · split at sh
    · obtain ⟨o, p, rfl⟩ := sh; rfl
    · obtain ⟨o, rfl⟩ := sh; rfl
theorem fig_get1 {n : Nat} {g : Fig} (G : Rd.FigOk 3 n g) : g[1]? = some (g.getD 1 []) := by
  obtain ⟨_, _, sh, _⟩ := G
  rcases sh with ⟨_, rfl⟩ | ⟨_, sh⟩
  · rfl
  · rw [if_pos rfl] at sh
    obtain ⟨o, p, rfl⟩ := sh; rfl
theorem relOf_1 (g : Fig) (i j : Nat) : Rd.relOf 1 (Rd.crd 1 g) i j = Rd.irel (Rd.at0 (g.getD 0 []) (2 * i)) (Rd.at0 (g.getD 0 []) (2 * i + 1)) (Rd.at0 (g.getD 0 []) (2 * j)) (Rd.at0 (g.getD 0 []) (2 * j + 1)) := by
  rw [Rd.crd_ne (by decide)]
  rfl
theorem relOf_0 {k : Nat} (h1 : k ≠ 1) (h3 : k ≠ 3) (g : Fig) (i j : Nat) : Rd.relOf k (Rd.crd k g) i j = Rd.cmp (Rd.at0 (g.getD 0 []) i) (Rd.at0 (g.getD 0 []) j) := by
  rw [Rd.crd_ne h3]
  unfold Rd.relOf
  rw [if_neg h1, if_neg h3]
theorem relOf_3 (g : Fig) (i j : Nat) : Rd.relOf 3 (Rd.crd 3 g) i j = 3 * Rd.cmp (Rd.at0 (g.getD 0 []) i) (Rd.at0 (g.getD 0 []) j) + Rd.cmp (Rd.at0 (g.getD 1 []) i) (Rd.at0 (g.getD 1 []) j) := by
  unfold Rd.relOf
  rw [if_neg (by decide), if_pos rfl, Rd.crd3_even, Rd.crd3_even, Rd.crd3_odd, Rd.crd3_odd]
section
variable {P : Program} {w : World} {K : PySem.W.Frag} {mg : Str → Option Value} {base : Heap} {f : Addr} {fd : FuncData}

/-! relation_in -/
abbrev sRelationIn : Stmt := topS 36
abbrev nRelationIn : List Str := ["kind", "figure", "one", "other", "row", "found"]
theorem scRelationIn : FnScope nRelationIn ["kind", "figure", "one", "other"] (defScope sRelationIn) := ⟨rfl, rfl, rfl, by decide +kernel, rfl, by decide +kernel, by decide +kernel⟩
abbrev spRelationIn (K : PySem.W.Frag) : Sp := sp4 isI (FG K) isI isI (fun x => Rd.KO x.1 ∧ ∃ n, Rd.FigOk x.1 n x.2.1 ∧ x.2.2.1 < n ∧ x.2.2.2 < n) fun x => isI (Rd.relOf x.1 (Rd.crd x.1 x.2.1) x.2.2.1 x.2.2.2)
theorem cal_relation_in (T : Txt K mg) (cC : Cal P w K mg base 1 "compared" ["one", "other"] spCompared) (cI : Cal P w K mg base 2 "interval_relation" ["start", "end", "other_start", "other_end"] spIntervalRelation)
    (F : Fun K "relation_in" "relation_in" sRelationIn f fd) (hm : mg "relation_in" = some (.ref f)) : Cal P w K mg base 3 "relation_in" ["kind", "figure", "one", "other"] (spRelationIn K) := by
  refine ⟨f, fd, hm, F.ok scRelationIn sp4_len (fun cdv A outer s H vs Q E hr h => ?_), F.binds (fun _ _ _ _ _ _ us hl => match us, hl with | [_, _, _, _], _ => rfl), F.kp⟩
  obtain ⟨B, ⟨kd, g, i, j⟩, e, ⟨v1, _, rfl, h1, v2, _, rfl, h2, v3, _, rfl, h3, v4, _, rfl, h4, rfl⟩, ⟨hk, n, G, hi, hj⟩, k⟩ := h
  replace hk : Rd.KO kd := hk
  replace G : Rd.FigOk kd n g := G
  replace hi : i < n := hi
  replace hj : j < n := hj
  replace h1 : isI kd v1 B := h1
  replace h2 : FG K g v2 B := h2
  replace h3 : isI i v3 B := h3
  replace h4 : isI j v4 B := h4
  have hr1 : Room 1 _ := hr.mono (by decide)
  refine ⟨_, pss_cons (ps_set (i := 4) scRelationIn.nd rfl (.inl rfl) (pe_ix ix_list (pv 1) pe_int (fun _ _ => rfl)))
    (pss_cons (ps_if (pt_cmpR op_eq (pv 0) (pe_cst T.INTERVALS) (nomark _)) (pss_one (ps_ret (pe_cal cI hr (pa_cons (pe_ix ix_list (pv 4) (pe_op op_mul pe_int (pv 2)) (fun _ _ => rfl)) (pa_cons (pe_ix ix_list (pv 4) (pe_op op_add (pe_op op_mul pe_int (pv 2)) pe_int) (fun _ _ => rfl))
      (pa_cons (pe_ix ix_list (pv 4) (pe_op op_mul pe_int (pv 3)) (fun _ _ => rfl)) (pa_cons (pe_ix ix_list (pv 4) (pe_op op_add (pe_op op_mul pe_int (pv 3)) pe_int) (fun _ _ => rfl)) pa_nil))))))) pss_nil)
    (pss_cons (ps_set (i := 5) scRelationIn.nd rfl (.inl rfl) (pe_cal cC hr1 (pa_cons (pe_ix ix_list (pv 4) (pv 2) (fun _ _ => rfl)) (pa_cons (pe_ix ix_list (pv 4) (pv 3) (fun _ _ => rfl)) pa_nil))))
    (pss_cons (ps_if (pt_cmpR op_eq (pv 0) (pe_cst T.POSITIONS) (nomark _)) (pss_one (ps_set (i := 5) scRelationIn.nd rfl (.inl rfl) (pe_op op_add (pe_op op_mul pe_int (pv 5)) (pe_cal cC hr1 (pa_cons (pe_ix ix_list (pe_ix ix_list (pv 1) pe_int (fun _ _ => rfl)) (pv 2) (fun _ _ => rfl)) (pa_cons (pe_ix ix_list (pe_ix ix_list (pv 1) pe_int (fun _ _ => rfl)) (pv 3) (fun _ _ => rfl)) pa_nil)))))) pss_nil)
    (pss_one (ps_ret (pv 5)))))), ?_⟩
  refine yq_asg (M := pm) (R := LL K isI (g.getD 0 [])) e trivial (yl_ixL (K := K) (r := LL K isI) (l := g) (yl_var rfl h2) (yl_zc 0) (atI_n (fig_get0 G))) fun vr B2 H2 g2 rr => ?_
  have eB := g2.b
  have xk : ∀ {B'}, Ex B2 B' → Yl pm (tVar 0) [some v1, some v2, some v3, some v4, some vr, none] B' (isI kd) := fun eB => yl_var rfl h1
  have xi : ∀ {B'}, Ex B2 B' → Yl pm (tVar 2) [some v1, some v2, some v3, some v4, some vr, none] B' (isI i) := fun eB => yl_var rfl h3
  have xj : ∀ {B'}, Ex B2 B' → Yl pm (tVar 3) [some v1, some v2, some v3, some v4, some vr, none] B' (isI j) := fun eB => yl_var rfl h4
  have xr : ∀ {B'}, Ex B2 B' → Yl pm (tVar 4) [some v1, some v2, some v3, some v4, some vr, none] B' (LL K isI (g.getD 0 [])) := fun eB => yl_var rfl (MoC.up eB rr)
  refine yq_when (M := pm) g2.e trivial (yt_test (yl_eq (xk (.refl _)).z (yl_zc 1))) (fun q B3 H3 g3 => ?_) (fun q B3 H3 g3 => ?_)
  · have q : kd = 1 := by
      have := of_decide_eq_true q
      omega
    subst q
    have hl : (g.getD 0 []).length = 2 * n := by
      have := G.2.1
      rw [if_neg (by decide), Rd.m1] at this
      exact this
    have m0 : ∀ (x : Nat), -(2 ^ 64) < (2 : Int) ∧ (2 : Int) < 2 ^ 64 := fun _ => by decide
    have ix0 : ∀ {te : TE} {x : Nat}, x < n → Yl pm te [some v1, some v2, some v3, some v4, some vr, none] B3 (isI x) → Yl pm (tOp (rIxL K) (tVar 4) (tOp (rI CMul fun i j => .int (i * j)) (tC (.int 2)) te)) [some v1, some v2, some v3, some v4, some vr, none] B3 (isI (Rd.at0 (g.getD 0 []) (2 * x))) := fun {te x} hx h =>
      yl_ixL (K := K) (xr g3.b) ((yl_mul (yl_zc 2) h.z (.inl (m0 0))).i (n := 2 * x) (by omega)).z (atI_n (at0_get (by omega)))
    have ix1 : ∀ {te : TE} {x : Nat}, x < n → Yl pm te [some v1, some v2, some v3, some v4, some vr, none] B3 (isI x) → Yl pm (tOp (rIxL K) (tVar 4) (tOp (rI0 fun i j => .int (i + j)) (tOp (rI CMul fun i j => .int (i * j)) (tC (.int 2)) te) (tC (.int 1)))) [some v1, some v2, some v3, some v4, some vr, none] B3 (isI (Rd.at0 (g.getD 0 []) (2 * x + 1))) := fun {te x} hx h =>
      yl_ixL (K := K) (xr g3.b) ((yl_add (yl_mul (yl_zc 2) h.z (.inl (m0 0))) (yl_zc 1)).i (n := 2 * x + 1) (by omega)).z (atI_n (at0_get (by omega)))
    refine y_fin k (g2.trans g3).to0 ((yl_call (_, _, _, _) (ya4 (ix0 hi (xi g3.b)) (ix1 hi (xi g3.b)) (ix0 hj (xj g3.b)) (ix1 hj (xj g3.b))) trivial).to (relOf_1 g i j).symm)
  · have q : kd ≠ 1 := by
      have := of_decide_eq_false q
      omega
    have hl : (g.getD 0 []).length = n := by
      have := G.2.1
      rcases hk with rfl | rfl | rfl
      · rw [if_neg (by decide), Rd.m0] at this
        exact this
      · exact absurd rfl q
      · rw [if_pos rfl] at this
        exact this.1
    refine yq_asg (M := pm) (R := isI (Rd.cmp (Rd.at0 (g.getD 0 []) i) (Rd.at0 (g.getD 0 []) j))) g3.e trivial (yl_call (Rd.at0 (g.getD 0 []) i, Rd.at0 (g.getD 0 []) j) (ya2 (yl_ixL (K := K) (xr g3.b) (xi g3.b).z (atI_n (at0_get (by omega)))) (yl_ixL (K := K) (xr g3.b) (xj g3.b).z (atI_n (at0_get (by omega))))) trivial) fun vf B4 H4 g4 rf => ?_
    have eB4 := (g2.b.trans g3.b).trans g4.b
    refine yq_if (M := pm) g4.e trivial (yt_test (yl_eq (yl_var (R := isZ kd) rfl h1) (yl_zc 3))) (fun q2 B5 H5 g5 => ?_) (fun q2 B5 H5 g5 => ?_)
    · have q2 : kd = 3 := by
        have := of_decide_eq_true q2
        omega
      subst q2
      have hl1 : (g.getD 1 []).length = n := by
        have := G.2.1
        rw [if_pos rfl] at this
        exact this.2.2
      have row1 : ∀ {σ : L2.St}, σ[1]? = some (some v2) → Yl pm (tOp (rIxL K) (tVar 1) (tC (.int 1))) σ B5 (LL K isI (g.getD 1 [])) := fun hσ => yl_ixL (K := K) (r := LL K isI) (l := g) (yl_var hσ (MoC.up (eB4.trans g5.b) h2)) (yl_zc 1) (atI_n (fig_get1 G))
      refine y_asg (M := pm) (R := isI (Rd.relOf 3 (Rd.crd 3 g) i j)) g5.e trivial ((yl_add (yl_mul (yl_zc 3) (yl_var (R := isZ (Rd.cmp (Rd.at0 (g.getD 0 []) i) (Rd.at0 (g.getD 0 []) j) : Nat)) rfl rf) (.inl (by decide)))
        (yl_call (Rd.at0 (g.getD 1 []) i, Rd.at0 (g.getD 1 []) j) (ya2 (yl_ixL (K := K) (row1 rfl) (yl_var (R := isZ i) rfl h3) (atI_n (at0_get (by omega)))) (yl_ixL (K := K) (row1 rfl) (yl_var (R := isZ j) rfl h4) (atI_n (at0_get (by omega))))) trivial).z).i ?_) fun vz B6 H6 g6 rz => ?_
      · rw [relOf_3]
        show (3 : Int) * (Rd.cmp (Rd.at0 (g.getD 0 []) i) (Rd.at0 (g.getD 0 []) j) : Nat) + (Rd.cmp (Rd.at0 (g.getD 1 []) i) (Rd.at0 (g.getD 1 []) j) : Nat) = _
        omega
      · exact y_fin k ((((g2.trans g3).trans g4).trans g5).trans g6).to0 (yl_var rfl rz)
    · have q2 : kd ≠ 3 := by
        have := of_decide_eq_false q2
        omega
      exact y_fin k (((g2.trans g3).trans g4).trans g5).to0 ((yl_var (R := isI _) rfl (MoC.up g5.b rf)).to (relOf_0 q q2 g i j).symm)

/-! with_number -/
abbrev sWithNumber : Stmt := topS 37
abbrev nWithNumber : List Str := ["order", "many", "number", "found", "one"]
theorem scWithNumber : FnScope nWithNumber ["order"] (defScope sWithNumber) := ⟨rfl, rfl, rfl, by decide +kernel, rfl, by decide +kernel, by decide +kernel⟩
abbrev spWithNumber (K : PySem.W.Frag) : Sp := sp1 (LL K isI) (fun o => Rd.Dense o ∧ o.length ≤ 8) fun o => FG K (Rd.withNumber o)
theorem cal_with_number (T : Txt K mg) (F : Fun K "with_number" "with_number" sWithNumber f fd) (hm : mg "with_number" = some (.ref f)) : Cal P w K mg base 1 "with_number" ["order"] (spWithNumber K) := by
  refine ⟨f, fd, hm, F.ok scWithNumber sp1_len (fun cdv A outer s H vs Q E hr h => ?_), F.binds (fun _ _ _ _ _ _ us hl => match us, hl with | [_], _ => rfl), F.kp⟩
  obtain ⟨B, o, e, ⟨v1, _, rfl, h1, rfl⟩, ⟨hd, ho⟩, k⟩ := h
  have ht := Rd.top_len o hd
  have line : 100 ≤ sizeLine := by decide
  refine ⟨_, pss_cons (ps_set (i := 1) scWithNumber.nd rfl (.inl rfl) (pe_op op_add (pe_callBK (cr_maxD rfl (hu_of hr)) rfl T.b_max (by decide +kernel) (pa_cons (pv 0) pa_nil) (pk_cons (pe_un un_neg pe_int) pk_nil)) pe_int))
    (pss_cons (ps_setLc (i := 3) (own := [("number", 2)]) (g := gName 2) rfl scWithNumber.nd rfl rfl (sw_true rfl rfl rfl (by decide +kernel)) (pi_range1 rfl T.b_range (pa_cons (pv 1) pa_nil)) (blkOk_by (N := nWithNumber) (sc := defScope sWithNumber) (by decide +kernel))
      (fun _ _ _ _ _ => pg_name (i := 2) scWithNumber.nd rfl (Or.inl rfl)) (fun _ _ _ _ _ => pts_nil) (fun _ _ _ _ _ => pe_op op_cat (pv 0) (pe_lst (pa_cons (pv 2) pa_nil))))
    (pss_cons (ps_for PassesOwn.never rfl (pi_range1 rfl T.b_range (pa_cons (pe_op op_add (pv 1) pe_int) pa_nil)) (pg_name (i := 2) scWithNumber.nd rfl (Or.inr rfl))
      (pss_one (ps_expr (pe_bm PySem.F.plainAttrs_list PySem.F.slot_list_append PySem.F.type_list_append mt_append (pv 3) (pa_cons (pe_op op_cat
        (pe_lc (own := [("one", 4)]) (g := gName 4) rfl scWithNumber.nd (pi_list (pv 0)) (blkOk_by (N := nWithNumber) (sc := defScope sWithNumber) (by decide +kernel))
          (fun _ _ _ _ _ => pg_name (i := 4) scWithNumber.nd rfl (Or.inl rfl)) (fun _ _ _ _ _ => pts_nil) (fun _ _ _ _ _ => pe_op op_add (pv 4) (pe_callTy call_int1 rfl T.b_int (by decide +kernel) (pa_cons (pe_cmpR op_ge (pv 4) (pv 2) (nomark _)) pa_nil))))
        (pe_lst (pa_cons (pv 2) pa_nil))) pa_nil)))))
    (pss_one (ps_ret (pv 3))))), ?_⟩
  refine yq_asg (M := pm) (R := isI (Rd.top o)) e trivial ((yl_add (yl_maxD (K := K) (yl_var rfl h1) (ya1 (yl_neg (yl_zc 1))) rfl) (yl_zc 1)).i (by omega)) fun v2 B2 H2 g2 r2 => ?_
  cases r2
  refine yq_lcRaw (M := pm) (rb := LL K isI) (n := Rd.top o) (fun v => o ++ [v]) g2.e trivial (ya1 (yl_var rfl rfl)) (by omega) (fun x => rfl) (fun a B' ha eB => ?_) fun p acc B3 H3 hp g3 hb3 hp3 al3 => ?_
  · exact yl_cat (yl_var rfl (MoC.up (g2.b.trans eB) h1)) (yl_lst1 (r := isI) (yl_var rfl rfl)) (by simp; omega)
  have hp0 : H p = none := Ex.none (H := H) (H' := H2) g2.to0.h hp
  refine yq_forR (M := pm) (n := Rd.top o + 1) g3.e trivial (ya1 ((yl_add (yl_var (R := isZ (Rd.top o)) rfl rfl) (yl_zc 1)).i (by omega))) (by omega)
    (fun i σ B' H' => Gr pm B H B' H' ∧ B' p = none ∧ ∃ x acc', σ = [some v1, some (.int (Rd.top o)), x, some (.ref p), none] ∧ H' p = some (.lst acc') ∧ Al (LL K isI) B' (((List.range (Rd.top o)).map fun v => o ++ [v]) ++ (List.range i).map fun v => o.map (Rd.bump v) ++ [v]) acc') ?_ ?_ ?_
  · intro B4 H4 g4
    obtain ⟨b4, h4⟩ := g4.keep (fun z => z) hb3 hp3
    refine ⟨(g2.trans g3).trans g4, b4, none, acc, rfl, h4, ?_⟩
    rw [List.range_zero, List.map_nil, List.append_nil]
    exact al3.up g4.b
  · rintro i σ' B' H' N hi e' ⟨g', hb', x, acc', rfl, hp', al'⟩ hN
    refine y_app (M := pm) (R := LL K isI (o.map (Rd.bump i) ++ [i])) e' trivial (fun z => z) rfl hb' hp' ?_ ?_ fun v B5 H5 g5 b5 h5 r5 => ?_
    · refine yl_cat ((yl_lcL (K := K) (r := isI) (rb := isI) (l := o) (fun _ => true) (Rd.bump i) (yl_var rfl (MoC.up g'.b h1)) (by omega) ?_).imp fun v _ _ q => by
          rw [List.filter_eq_self.mpr (fun _ _ => rfl)] at q
          exact q) (yl_lst1 (r := isI) (yl_var rfl rfl)) (by simp; omega)
      rintro a y B6 ha eB hy
      cases hy
      refine ⟨_, ?_, fun H' Q _ q => q, fun B2 _ => yt_yes, fun B2 _ _ => (yl_add (yl_var (R := isZ a) rfl rfl) (yl_intB (yl_ge (yl_var (R := isZ a) rfl rfl) (yl_var (R := isZ i) rfl rfl)))).i ?_⟩
      · rfl
      · unfold Rd.bump
        by_cases c : i ≤ a
        · rw [if_pos c, decide_eq_true (by omega)]; simp
        · rw [if_neg c, decide_eq_false (by omega)]; simp
    · have := al'.length
      rw [List.length_append, List.length_map, List.length_map, List.length_range, List.length_range] at this
      omega
    · refine hN _ B5 _ (g5.e.mut b5) ⟨(g'.trans g5).mut (fun z => z) hp0 b5, b5, some (.int i), acc' ++ [v], rfl, upd_same, ?_⟩
      rw [List.range_succ, List.map_append, ← List.append_assoc]
      exact (al'.up g5.b).snoc r5
  · rintro σ' B' H' e' ⟨g', hb', x, acc', rfl, hp', al'⟩
    exact y_fin k (g'.to0.frz hp0 hb' hp') (yl_var rfl (ll_new al' hb'))
end
end RdW

set_option Elab.async false
set_option autoImplicit false
set_option linter.all false
set_option maxRecDepth 100000
set_option maxHeartbeats 2000000
/-! RdA4: more figures. -/
namespace RdW
open PySem L2
open Evl (Ex)
open Rd (Fig)
theorem flatMap_take {α β : Type} {g : α → List β} {l : List α} {i : Nat} {a : α} (h : l[i]? = some a) : (l.take (i + 1)).flatMap g = (l.take i).flatMap g ++ g a := by
  rw [List.take_add_one, h, List.flatMap_append]
  congr 1
  show [a].flatMap g = g a
  rw [List.flatMap_cons, List.flatMap_nil, List.append_nil]
/-- how long what comes of the items is -/
theorem flatMap_len {α β : Type} {g : α → List β} {c : Nat} : ∀ (l : List α), (∀ x ∈ l, (g x).length ≤ c) → (l.flatMap g).length ≤ l.length * c
  | [], _ => by simp
  | a :: l, h => by
    have := flatMap_len l fun x hx => h x (List.mem_cons_of_mem _ hx)
    have := h a List.mem_cons_self
    rw [List.flatMap_cons, List.length_append, List.length_cons, Nat.succ_mul]
    omega
theorem mem_take' {α : Type} {l : List α} {i : Nat} {x : α} (h : x ∈ l.take i) : x ∈ l := List.mem_of_mem_take h
theorem atI_neg {α : Type} {l : List α} {m : Nat} {a : α} (hm : 0 < m) (hl : m ≤ l.length) (h : l[l.length - m]? = some a) : atI l (-(m : Int)) = some a := by
  unfold atI ixN
  rw [if_neg (by omega), if_pos (by omega)]
  have e : (-(m : Int) + (l.length : Int)).toNat = l.length - m := by omega
  show l[(-(m : Int) + (l.length : Int)).toNat]? = some a
  rw [e]
  exact h
section
variable {P : Program} {w : World} {K : PySem.W.Frag} {mg : Str → Option Value} {base : Heap} {f : Addr} {fd : FuncData}

/-! with_interval -/
abbrev sWithInterval : Stmt := topS 38
abbrev nWithInterval : List Str := ["order", "found", "started", "ended"]
theorem scWithInterval : FnScope nWithInterval ["order"] (defScope sWithInterval) := ⟨rfl, rfl, rfl, by decide +kernel, rfl, by decide +kernel, by decide +kernel⟩
abbrev spWithInterval (K : PySem.W.Frag) : Sp := sp1 (LL K isI) (fun o => Rd.Dense o ∧ o.length ≤ 6) fun o => FG K (Rd.withInterval o)
theorem withInterval_len {o : List Nat} (hd : Rd.Dense o) (ho : o.length ≤ 6) (l : List (List Nat)) (hl : ∀ p ∈ l, p ∈ Rd.withNumber o) (hn : l.length ≤ (Rd.withNumber o).length) :
    (l.flatMap fun p => (Rd.withNumber p).filter fun q => decide (Rd.at0 q (q.length - 2) < Rd.at0 q (q.length - 1))).length ≤ 300 := by
  have h1 := Rd.withNumber_len o hd
  have h2 := flatMap_len (g := fun p => (Rd.withNumber p).filter fun q => decide (Rd.at0 q (q.length - 2) < Rd.at0 q (q.length - 1))) (c := 15) l fun p hp => by
    obtain ⟨d, hl', _⟩ := Rd.withNumber_sound hd (hl p hp)
    have := Rd.withNumber_len p d
    exact Nat.le_trans (List.length_filter_le _ _) (by omega)
  have : l.length * 15 ≤ 13 * 15 := Nat.mul_le_mul_right _ (by omega)
  omega
theorem cal_with_interval (cW : Cal P w K mg base 1 "with_number" ["order"] (spWithNumber K)) (F : Fun K "with_interval" "with_interval" sWithInterval f fd) (hm : mg "with_interval" = some (.ref f)) : Cal P w K mg base 2 "with_interval" ["order"] (spWithInterval K) := by
  refine ⟨f, fd, hm, F.ok scWithInterval sp1_len (fun cdv A outer s H vs Q E hr h => ?_), F.binds (fun _ _ _ _ _ _ us hl => match us, hl with | [_], _ => rfl), F.kp⟩
  obtain ⟨B, o, e, ⟨v1, _, rfl, h1, rfl⟩, ⟨hd, ho⟩, k⟩ := h
  have line : 1000 ≤ sizeLine := by decide
  refine ⟨_, pss_cons (ps_set (i := 1) scWithInterval.nd rfl (.inl rfl) (pe_lst pa_nil))
    (pss_cons (ps_for PassesOwn.never rfl (pi_list (pe_cal cW hr (pa_cons (pv 0) pa_nil))) (pg_name (i := 2) scWithInterval.nd rfl (Or.inl rfl))
      (pss_one (ps_expr (pe_bm PySem.F.plainAttrs_list PySem.F.slot_list_extend PySem.F.type_list_extend mt_extend (pv 1) (pa_cons
        (pe_lc (own := [("ended", 3)]) (g := gName 3) rfl scWithInterval.nd (pi_list (pe_cal cW hr (pa_cons (pv 2) pa_nil))) (blkOk_by (N := nWithInterval) (sc := defScope sWithInterval) (by decide +kernel))
          (fun _ _ _ _ _ => pg_name (i := 3) scWithInterval.nd rfl (Or.inl rfl)) (fun _ _ _ _ _ => pts_one (pt_cmpR op_lt (pe_ix (ix_lK K) (pv 3) (pe_un un_neg pe_int) (fun _ _ => rfl)) (pe_ix (ix_lK K) (pv 3) (pe_un un_neg pe_int) (fun _ _ => rfl)) (nomark _))) (fun _ _ _ _ _ => pv 3)) pa_nil)))))
    (pss_one (ps_ret (pv 1)))), ?_⟩
  refine yq_raw fun p hp => ?_
  have hb : B p = none := Ex.none e hp
  refine yq_forL (M := pm) (K := K) (r := LL K isI) (l := Rd.withNumber o) (B := B) (Gr0.raw e hp).e trivial (yl_call o (ya1 (yl_var rfl h1)) ⟨hd, Nat.le_trans ho (by decide)⟩)
    (fun i σ B' H' => Gr pm B H B' H' ∧ B' p = none ∧ ∃ x acc, σ = [some v1, some (.ref p), x, none] ∧ H' p = some (.lst acc) ∧ Al (LL K isI) B' (((Rd.withNumber o).take i).flatMap fun p => (Rd.withNumber p).filter fun q => decide (Rd.at0 q (q.length - 2) < Rd.at0 q (q.length - 1))) acc) ?_ ?_ ?_
  · intro B2 H2 g2
    obtain ⟨b2, h2⟩ := g2.keep (fun z => z) hb upd_same
    exact ⟨(Gr.of0 trivial (Gr0.raw e hp)).trans g2, b2, none, [], rfl, h2, trivial⟩
  · rintro i a x σ' B' H' N hi hx e' ⟨g', hb', y, acc, rfl, hp', al⟩ hN
    have ha := List.mem_of_getElem? hi
    obtain ⟨da, la, _⟩ := Rd.withNumber_sound hd ha
    have key := (withInterval_len hd ho ((Rd.withNumber o).take (i + 1)) (fun p hp => mem_take' hp) (by rw [List.length_take]; exact Nat.min_le_right _ _))
    rw [flatMap_take hi, List.length_append] at key
    refine y_ext (M := pm) (r := LL K isI) (l := (Rd.withNumber a).filter fun q => decide (Rd.at0 q (q.length - 2) < Rd.at0 q (q.length - 1))) e' trivial (fun z => z) rfl hb' hp' ?_ ?_ fun ws B5 H5 g5 b5 h5 al5 => ?_
    · refine (yl_lcL (K := K) (r := LL K isI) (rb := LL K isI) (l := Rd.withNumber a) (fun q => decide (Rd.at0 q (q.length - 2) < Rd.at0 q (q.length - 1))) id (yl_call a (ya1 (yl_var rfl hx)) ⟨da, by omega⟩) ?_ ?_).imp fun v _ _ q => by
          rw [List.map_id] at q
          exact q
      · have := Rd.withNumber_len a da
        omega
      · rintro q z B6 hq eB hz
        obtain ⟨dq, lq, _⟩ := Rd.withNumber_sound da hq
        refine ⟨_, ?_, fun H' Q _ q => q, fun B2 eB2 => ?_, fun B2 eB2 _ => yl_var rfl (MoC.up eB2 hz)⟩
        · rfl
        · refine (yt_test (yl_lt (yl_ixL (K := K) (yl_var rfl (MoC.up eB2 hz)) (yl_neg (yl_zc 2)) (a := Rd.at0 q (q.length - 2)) ?_).z (yl_ixL (K := K) (yl_var rfl (MoC.up eB2 hz)) (yl_neg (yl_zc 1)) (a := Rd.at0 q (q.length - 1)) ?_).z)).to ?_
          · exact atI_neg (m := 2) (by decide) (by omega) (at0_get (by omega))
          · exact atI_neg (m := 1) (by decide) (by omega) (at0_get (by omega))
          · exact decide_eq_decide.mpr (by omega)
    · have := al.length
      omega
    · refine hN _ B5 _ g5.b (g5.e.mut b5) ⟨(g'.trans g5).mut (fun z => z) hp b5, b5, some x, acc ++ ws, rfl, upd_same, ?_⟩
      rw [flatMap_take hi]
      exact (al.up g5.b).append al5
  · rintro σ' B' H' e' ⟨g', hb', x, acc, rfl, hp', al⟩
    rw [List.take_length] at al
    exact y_fin k (g'.to0.frz hp hb' hp') (yl_var rfl (ll_new al hb'))

/-! with_object -/
abbrev sWithObject : Stmt := topS 39
abbrev nWithObject : List Str := ["kind", "figure", "order", "found", "other"]
theorem scWithObject : FnScope nWithObject ["kind", "figure"] (defScope sWithObject) := ⟨rfl, rfl, rfl, by decide +kernel, rfl, by decide +kernel, by decide +kernel⟩
abbrev spWithObject (K : PySem.W.Frag) : Sp := sp2 isI (FG K) (fun x => Rd.KO x.1 ∧ ∃ n, Rd.FigOk x.1 n x.2 ∧ n ≤ 3) fun x => LL K (FG K) (Rd.withObject x.1 x.2)
theorem cal_with_object (T : Txt K mg) (cW : Cal P w K mg base 1 "with_number" ["order"] (spWithNumber K)) (cI : Cal P w K mg base 2 "with_interval" ["order"] (spWithInterval K)) (F : Fun K "with_object" "with_object" sWithObject f fd) (hm : mg "with_object" = some (.ref f)) :
    Cal P w K mg base 3 "with_object" ["kind", "figure"] (spWithObject K) := by
  refine ⟨f, fd, hm, F.ok scWithObject sp2_len (fun cdv A outer s H vs Q E hr h => ?_), F.binds (fun _ _ _ _ _ _ us hl => match us, hl with | [_, _], _ => rfl), F.kp⟩
  obtain ⟨B, ⟨kd, g⟩, e, ⟨v1, _, rfl, h1, v2, _, rfl, h2, rfl⟩, ⟨hk, n, G, hn⟩, k⟩ := h
  replace hk : Rd.KO kd := hk
  replace G : Rd.FigOk kd n g := G
  replace h1 : isI kd v1 B := h1
  replace h2 : FG K g v2 B := h2
  have line : 1000 ≤ sizeLine := by decide
  have hr1 : Room 1 _ := hr.mono (by decide)
  refine ⟨_, pss_cons (ps_if (pt_cmpR op_eq (pv 0) (pe_cst T.INTERVALS) (nomark _)) (pss_one (ps_ret
      (pe_lc (own := [("order", 2)]) (g := gName 2) rfl scWithObject.nd (pi_list (pe_cal cI hr (pa_cons (pe_ix ix_list (pv 1) pe_int (fun _ _ => rfl)) pa_nil))) (blkOk_by (N := nWithObject) (sc := defScope sWithObject) (by decide +kernel))
          (fun _ _ _ _ _ => pg_name (i := 2) scWithObject.nd rfl (Or.inl rfl)) (fun _ _ _ _ _ => pts_nil) (fun _ _ _ _ _ => pe_lst (pa_cons (pv 2) pa_nil))))) pss_nil)
    (pss_cons (ps_if (pt_cmpR op_ne (pv 0) (pe_cst T.POSITIONS) (nomark _)) (pss_one (ps_ret
      (pe_lc (own := [("order", 2)]) (g := gName 2) rfl scWithObject.nd (pi_list (pe_cal cW hr1 (pa_cons (pe_ix ix_list (pv 1) pe_int (fun _ _ => rfl)) pa_nil))) (blkOk_by (N := nWithObject) (sc := defScope sWithObject) (by decide +kernel))
          (fun _ _ _ _ _ => pg_name (i := 2) scWithObject.nd rfl (Or.inl rfl)) (fun _ _ _ _ _ => pts_nil) (fun _ _ _ _ _ => pe_lst (pa_cons (pv 2) pa_nil))))) pss_nil)
    (pss_cons (ps_set (i := 3) scWithObject.nd rfl (.inl rfl) (pe_lst pa_nil))
    (pss_cons (ps_for PassesOwn.never rfl (pi_list (pe_cal cW hr1 (pa_cons (pe_ix ix_list (pv 1) pe_int (fun _ _ => rfl)) pa_nil))) (pg_name (i := 2) scWithObject.nd rfl (Or.inr rfl))
      (pss_one (ps_expr (pe_bm PySem.F.plainAttrs_list PySem.F.slot_list_extend PySem.F.type_list_extend mt_extend (pv 3) (pa_cons
        (pe_lc (own := [("other", 4)]) (g := gName 4) rfl scWithObject.nd (pi_list (pe_cal cW hr1 (pa_cons (pe_ix ix_list (pv 1) pe_int (fun _ _ => rfl)) pa_nil))) (blkOk_by (N := nWithObject) (sc := defScope sWithObject) (by decide +kernel))
          (fun _ _ _ _ _ => pg_name (i := 4) scWithObject.nd rfl (Or.inl rfl)) (fun _ _ _ _ _ => pts_nil) (fun _ _ _ _ _ => pe_lst (pa_cons (pv 2) (pa_cons (pv 4) pa_nil)))) pa_nil)))))
    (pss_one (ps_ret (pv 3)))))), ?_⟩
  have d0 : Rd.Dense (g.getD 0 []) := G.1
  have row0 : ∀ {σ : L2.St} {B'}, Ex B B' → σ[1]? = some (some v2) → Yl pm (tOp (rIxL K) (tVar 1) (tC (.int 0))) σ B' (LL K isI (g.getD 0 [])) := fun eB hσ => yl_ixL (K := K) (r := LL K isI) (l := g) (yl_var hσ (MoC.up eB h2)) (yl_zc 0) (atI_n (fig_get0 G))
  refine yq_when (M := pm) e trivial (yt_test (yl_eq (yl_var (R := isZ kd) rfl h1) (yl_zc 1))) (fun q B2 H2 g2 => ?_) (fun q B2 H2 g2 => ?_)
  · have q : kd = 1 := by
      have := of_decide_eq_true q
      omega
    subst q
    have hl : (g.getD 0 []).length = 2 * n := by
      have := G.2.1
      rw [if_neg (by decide), Rd.m1] at this
      exact this
    refine y_fin k g2.to0 ((yl_lcL (K := K) (r := LL K isI) (rb := FG K) (l := Rd.withInterval (g.getD 0 [])) (fun _ => true) (fun o => [o]) (yl_call (g.getD 0 []) (ya1 (row0 g2.b rfl)) ⟨d0, by omega⟩) ?_ ?_).imp fun v _ _ q => ?_)
    · have := withInterval_len d0 (by omega) (Rd.withNumber (g.getD 0 [])) (fun _ h => h) (Nat.le_refl _)
      exact Nat.le_trans this (by omega)
    · rintro a x B' ha eB hx
      refine ⟨_, ?_, fun H' Q _ q => q, fun _ _ => yt_yes, fun B2 eB2 _ => yl_lst1 (r := LL K isI) (yl_var rfl (MoC.up eB2 hx))⟩
      rfl
    · rw [List.filter_eq_self.mpr (fun _ _ => rfl)] at q
      exact q
  · have q : kd ≠ 1 := by
      have := of_decide_eq_false q
      omega
    have hl : (g.getD 0 []).length = n := by
      have := G.2.1
      rcases hk with rfl | rfl | rfl
      · rw [if_neg (by decide), Rd.m0] at this
        exact this
      · exact absurd rfl q
      · rw [if_pos rfl] at this
        exact this.1
    have hw0 := Rd.withNumber_len (g.getD 0 []) d0
    have callW : ∀ {σ : L2.St} {B'}, Ex B B' → σ[1]? = some (some v2) → Yl pm (tCall (spWithNumber K) [] E0 (tCons (tOp (rIxL K) (tVar 1) (tC (.int 0))) tNil)) σ B' (FG K (Rd.withNumber (g.getD 0 []))) := fun eB hσ => yl_call (g.getD 0 []) (ya1 (row0 eB hσ)) ⟨d0, by omega⟩
    refine yq_when (M := pm) g2.e trivial (yt_test (yl_ne (yl_var (R := isZ kd) rfl h1) (yl_zc 3))) (fun q2 B3 H3 g3 => ?_) (fun q2 B3 H3 g3 => ?_)
    · have q2 : kd ≠ 3 := by
        rw [Bool.not_eq_true'] at q2
        have := of_decide_eq_false q2
        omega
      refine y_fin k (g2.trans g3).to0 ((yl_lcL (K := K) (r := LL K isI) (rb := FG K) (l := Rd.withNumber (g.getD 0 [])) (fun _ => true) (fun o => [o]) (callW (g2.b.trans g3.b) rfl) (by omega) ?_).imp fun v _ _ z => ?_)
      · rintro a x B' ha eB hx
        refine ⟨_, ?_, fun H' Q _ q => q, fun _ _ => yt_yes, fun B2 eB2 _ => yl_lst1 (r := LL K isI) (yl_var rfl (MoC.up eB2 hx))⟩
        rfl
      · rw [List.filter_eq_self.mpr (fun _ _ => rfl)] at z
        show LL K (FG K) (Rd.withObject kd g) v _
        unfold Rd.withObject
        rw [if_neg q, if_neg q2]
        exact z
    · have q2 : kd = 3 := by
        rw [Bool.not_eq_false'] at q2
        have := of_decide_eq_true q2
        omega
      subst q2
      have hl1 : (g.getD 1 []).length = n ∧ Rd.Dense (g.getD 1 []) := by
        have := G.2.1
        rw [if_pos rfl] at this
        exact ⟨this.2.2, this.2.1⟩
      have hw1 := Rd.withNumber_len (g.getD 1 []) hl1.2
      have row1 : ∀ {σ : L2.St} {B'}, Ex B B' → σ[1]? = some (some v2) → Yl pm (tCall (spWithNumber K) [] E0 (tCons (tOp (rIxL K) (tVar 1) (tC (.int 1))) tNil)) σ B' (FG K (Rd.withNumber (g.getD 1 []))) := fun eB hσ => yl_call (g.getD 1 []) (ya1 (yl_ixL (K := K) (r := LL K isI) (l := g) (yl_var hσ (MoC.up eB h2)) (yl_zc 1) (atI_n (fig_get1 G)))) ⟨hl1.2, by omega⟩
      have eB3 := g2.b.trans g3.b
      refine yq_raw fun p hp => ?_
      have hb : B3 p = none := Ex.none g3.e hp
      have hp0 : H p = none := Ex.none (g2.to0.h.trans g3.to0.h) hp
      refine yq_forL (M := pm) (K := K) (r := LL K isI) (l := Rd.withNumber (g.getD 0 [])) (B := B3) (Gr0.raw g3.e hp).e trivial (callW eB3 rfl)
        (fun i σ B' H' => Gr pm B H B' H' ∧ B' p = none ∧ ∃ x acc, σ = [some v1, some v2, x, some (.ref p), none] ∧ H' p = some (.lst acc) ∧ Al (FG K) B' (((Rd.withNumber (g.getD 0 [])).take i).flatMap fun o => (Rd.withNumber (g.getD 1 [])).map fun p => [o, p]) acc) ?_ ?_ ?_
      · intro B4 H4 g4
        obtain ⟨b4, h4⟩ := g4.keep (fun z => z) hb upd_same
        exact ⟨((g2.trans g3).trans (Gr.of0 trivial (Gr0.raw g3.e hp))).trans g4, b4, none, [], rfl, h4, trivial⟩
      · rintro i a x σ' B' H' N hi hx e' ⟨g', hb', y, acc, rfl, hp', al⟩ hN
        have key := flatMap_len (g := fun o => (Rd.withNumber (g.getD 1 [])).map fun p => [o, p]) (c := 7) ((Rd.withNumber (g.getD 0 [])).take (i + 1)) fun x _ => by rw [List.length_map]; omega
        have k2 : ((Rd.withNumber (g.getD 0 [])).take (i + 1)).length * 7 ≤ 7 * 7 := Nat.mul_le_mul_right _ (by rw [List.length_take]; omega)
        rw [flatMap_take hi, List.length_append] at key
        refine y_ext (M := pm) (r := FG K) (l := (Rd.withNumber (g.getD 1 [])).map fun p => [a, p]) e' trivial (fun z => z) rfl hb' hp' ?_ ?_ fun ws B5 H5 g5 b5 h5 al5 => ?_
        · refine (yl_lcL (K := K) (r := LL K isI) (rb := FG K) (l := Rd.withNumber (g.getD 1 [])) (fun _ => true) (fun p => [a, p]) (row1 g'.b rfl) (by omega) ?_).imp fun v _ _ q => by
              rw [List.filter_eq_self.mpr (fun _ _ => rfl)] at q
              exact q
          rintro b z B6 hq eB hz
          refine ⟨_, ?_, fun H' Q _ q => q, fun _ _ => yt_yes, fun B2 eB2 _ => yl_lst2 (r := LL K isI) (yl_var rfl (MoC.up (eB.trans eB2) hx)) (yl_var rfl (MoC.up eB2 hz))⟩
          rfl
        · have := al.length
          omega
        · refine hN _ B5 _ g5.b (g5.e.mut b5) ⟨(g'.trans g5).mut (fun z => z) hp0 b5, b5, some x, acc ++ ws, rfl, upd_same, ?_⟩
          rw [flatMap_take hi]
          exact (al.up g5.b).append al5
      · rintro σ' B' H' e' ⟨g', hb', x, acc, rfl, hp', al⟩
        rw [List.take_length] at al
        exact y_fin k (g'.to0.frz hp0 hb' hp') (yl_var rfl (ll_new al hb'))

/-! relations_to_last -/
abbrev sRelationsToLast : Stmt := topS 40
abbrev nRelationsToLast : List Str := ["kind", "figure", "last", "one"]
theorem scRelationsToLast : FnScope nRelationsToLast ["kind", "figure", "last"] (defScope sRelationsToLast) := ⟨rfl, rfl, rfl, by decide +kernel, rfl, by decide +kernel, by decide +kernel⟩
abbrev spRelationsToLast (K : PySem.W.Frag) : Sp := sp3 isI (FG K) isI (fun x => Rd.KO x.1 ∧ x.2.2 ≤ 3 ∧ Rd.FigOk x.1 (x.2.2 + 1) x.2.1) fun x => TU K isI (Rd.relsToLast x.1 x.2.1 x.2.2)
theorem cal_relations_to_last (T : Txt K mg) (cR : Cal P w K mg base 3 "relation_in" ["kind", "figure", "one", "other"] (spRelationIn K)) (F : Fun K "relations_to_last" "relations_to_last" sRelationsToLast f fd) (hm : mg "relations_to_last" = some (.ref f)) :
    Cal P w K mg base 4 "relations_to_last" ["kind", "figure", "last"] (spRelationsToLast K) := by
  refine ⟨f, fd, hm, F.ok scRelationsToLast sp3_len (fun cdv A outer s H vs Q E hr h => ?_), F.binds (fun _ _ _ _ _ _ us hl => match us, hl with | [_, _, _], _ => rfl), F.kp⟩
  obtain ⟨B, ⟨kd, g, n⟩, e, ⟨v1, _, rfl, h1, v2, _, rfl, h2, v3, _, rfl, h3, rfl⟩, ⟨hk, hn, G⟩, k⟩ := h
  replace hn : n ≤ 3 := hn
  have line : 1000 ≤ sizeLine := by decide
  refine ⟨_, pss_one (ps_ret (pe_callTy call_tuple_of rfl T.b_tuple (by decide +kernel) (pa_cons (pe_lc (own := [("one", 3)]) (g := gName 3) rfl scRelationsToLast.nd (pi_range1 rfl T.b_range (pa_cons (pv 2) pa_nil)) (blkOk_by (N := nRelationsToLast) (sc := defScope sRelationsToLast) (by decide +kernel))
          (fun _ _ _ _ _ => pg_name (i := 3) scRelationsToLast.nd rfl (Or.inl rfl)) (fun _ _ _ _ _ => pts_nil) (fun _ _ _ _ _ => pe_cal cR hr (pa_cons (pv 0) (pa_cons (pv 1) (pa_cons (pv 3) (pa_cons (pv 2) pa_nil)))))) pa_nil))), ?_⟩
  refine y_fin k (Gr0.refl e) (yl_tupleOf (K := K) (r := isI) ((yl_lcR (K := K) (rb := isI) (n := n) (fun _ => true) (fun i => Rd.relOf kd (Rd.crd kd g) i n) (ya1 (yl_var rfl h3)) (by omega) (fun x => rfl) (fun _ _ _ _ => yt_yes) (fun a B' ha eB _ => ?_)).imp fun v _ _ q => ?_))
  · exact yl_call (kd, g, a, n) (ya4 (yl_var rfl h1) (yl_var rfl (MoC.up eB h2)) (yl_var rfl rfl) (yl_var rfl h3)) ⟨hk, n + 1, G, by show a < n + 1; omega, by show n < n + 1; omega⟩
  · rw [List.filter_eq_self.mpr (fun _ _ => rfl)] at q
    exact q

/-! are_left -/
abbrev sAreLeft : Stmt := topS 41
abbrev nAreLeft : List Str := ["left", "first", "relations", "at", "relation"]
theorem scAreLeft : FnScope nAreLeft ["left", "first", "relations"] (defScope sAreLeft) := ⟨rfl, rfl, rfl, by decide +kernel, rfl, by decide +kernel, by decide +kernel⟩
abbrev spAreLeft (K : PySem.W.Frag) : Sp := sp3 (LL K isI) isI (TU K isI) (fun x => x.2.1 + x.2.2.length ≤ x.1.length ∧ x.1.length ≤ 6) fun x => isB (Rd.areLeft x.1 x.2.1 x.2.2)
theorem areLeft_zip (left : List Nat) (first : Nat) (rels : List Nat) : ((((List.range rels.length).zip rels).map fun p => Qr.has (left.getD (first + p.1) 0) p.2).all id) = Rd.areLeft left first rels := by
  rw [Bool.eq_iff_iff, Rd.areLeft_iff, List.all_map, List.all_eq_true]
  constructor
  · intro h i hi
    exact h (i, Rd.at0 rels i) (List.mem_of_getElem? (i := i) (by
      rw [List.getElem?_zip_eq_some]
      exact ⟨List.getElem?_range hi, at0_get hi⟩))
  · rintro h ⟨i, a⟩ hm
    obtain ⟨j, hj⟩ := List.getElem?_of_mem hm
    rw [List.getElem?_zip_eq_some] at hj
    obtain ⟨h1, h2⟩ := hj
    have hl := (List.getElem?_eq_some_iff.mp h2).1
    rw [List.getElem?_range hl] at h1
    have e := Option.some.inj h1
    simp only at e
    subst e
    have := h j hl
    rw [at0_get hl] at h2
    have e2 := Option.some.inj h2
    simp only at e2
    rw [e2] at this
    exact this
theorem cal_are_left (T : Txt K mg) (cH : Cal P w K mg base 1 "has" ["some", "relation"] spHas) (F : Fun K "are_left" "are_left" sAreLeft f fd) (hm : mg "are_left" = some (.ref f)) : Cal P w K mg base 2 "are_left" ["left", "first", "relations"] (spAreLeft K) := by
  refine ⟨f, fd, hm, F.ok scAreLeft sp3_len (fun cdv A outer s H vs Q E hr h => ?_), F.binds (fun _ _ _ _ _ _ us hl => match us, hl with | [_, _, _], _ => rfl), F.kp⟩
  obtain ⟨B, ⟨left, first, rels⟩, e, ⟨v1, _, rfl, h1, v2, _, rfl, h2, v3, _, rfl, h3, rfl⟩, ⟨p1, p2⟩, k⟩ := h
  replace p1 : first + rels.length ≤ left.length := p1
  replace p2 : left.length ≤ 6 := p2
  have line : 1000 ≤ sizeLine := by decide
  refine ⟨_, pss_one (ps_ret (pe_callB (cr_all rfl) rfl T.b_all (by decide +kernel) (pa_cons (pe_lc (own := [("at", 3), ("relation", 4)]) (g := gTup K 2 (gCons (gName 3) (gCons (gName 4) gNil))) rfl scAreLeft.nd (pi_enumT rfl T.b_enumerate (pa_cons (pv 2) pa_nil)) (blkOk_by (N := nAreLeft) (sc := defScope sAreLeft) (by decide +kernel))
          (fun _ _ _ _ _ => pg_tup rfl (pgs_cons (pg_name (i := 3) scAreLeft.nd rfl (Or.inl rfl)) (pgs_cons (pg_name (i := 4) scAreLeft.nd rfl (Or.inl rfl)) pgs_nil))) (fun _ _ _ _ _ => pts_nil)
          (fun _ _ _ _ _ => pe_cal cH hr (pa_cons (pe_ix (ix_lK K) (pv 0) (pe_op op_add (pv 1) (pv 3)) (fun _ _ => rfl)) (pa_cons (pv 4) pa_nil)))) pa_nil))), ?_⟩
  refine y_fin k (Gr0.refl e) ((yl_all (K := K) (yl_lcE (K := K) (r := isI) (rb := isB) (l := rels) (fun p => Qr.has (left.getD (first + p.1) 0) p.2) (ya1 (yl_var rfl h3)) (by omega) (fun x y => rfl) (fun n a x B' ha eB hx => ?_))).toB (areLeft_zip left first rels))
  have hn := (List.getElem?_eq_some_iff.mp ha).1
  refine yl_call (left.getD (first + n) 0, a) (ya2 (yl_ixL (K := K) (r := isI) (l := left) (yl_var rfl (MoC.up eB h1)) ((yl_add (yl_var (R := isZ first) rfl h2) (yl_var (R := isZ n) rfl rfl)).i (n := first + n) (by omega)).z (atI_n (at0_get (by omega)))) (yl_var rfl hx)) trivial
end
end RdW

set_option Elab.async false
set_option autoImplicit false
set_option linter.all false
set_option maxRecDepth 100000
set_option maxHeartbeats 2000000
/-! RdA5: all figures; the numbers of one. -/
namespace RdW
open PySem L2
open Evl (Ex)
open Rd (Fig)
/-- a scenario on its way: relations, figure -/
abbrev RF (K : PySem.W.Frag) : List Nat × Fig → RP := PR K (TU K isI) (FG K)
theorem withObject_len {k n : Nat} (hk : Rd.KO k) {g : Fig} (G : Rd.FigOk k n g) : (Rd.withObject k g).length ≤ (4 * n + 1) * (4 * n + 3) := by
  have d0 := G.1
  have h1 : 2 * n + 1 ≤ (4 * n + 1) * (4 * n + 3) := by
    have := Nat.mul_le_mul (show 1 ≤ 4 * n + 1 by omega) (show 2 * n + 1 ≤ 4 * n + 3 by omega)
    omega
  have hw := Rd.withNumber_len _ d0
  have hl := G.2.1
  unfold Rd.withObject
  rcases hk with rfl | rfl | rfl
  · rw [if_neg (by decide), Rd.m0] at hl
    rw [if_neg (by decide), if_neg (by decide), List.length_map]
    omega
  · rw [if_neg (by decide), Rd.m1] at hl
    rw [if_pos rfl, List.length_map]
    unfold Rd.withInterval
    have h2 := flatMap_len (g := fun p => (Rd.withNumber p).filter fun q => decide (Rd.at0 q (q.length - 2) < Rd.at0 q (q.length - 1))) (c := 4 * n + 3) (Rd.withNumber (g.getD 0 [])) fun p hp => by
      obtain ⟨d, hl', _⟩ := Rd.withNumber_sound d0 hp
      have := Rd.withNumber_len p d
      exact Nat.le_trans (List.length_filter_le _ _) (by omega)
    have h3 : (Rd.withNumber (g.getD 0 [])).length * (4 * n + 3) ≤ (4 * n + 1) * (4 * n + 3) := Nat.mul_le_mul_right _ (by omega)
    omega
  · rw [if_pos rfl] at hl
    rw [if_neg (by decide), if_pos rfl]
    have hw1 := Rd.withNumber_len _ hl.2.1
    have h2 := flatMap_len (g := fun o => (Rd.withNumber (g.getD 1 [])).map fun p => [o, p]) (c := 2 * n + 1) (Rd.withNumber (g.getD 0 [])) fun p hp => by
      rw [List.length_map]
      omega
    have h3 : (Rd.withNumber (g.getD 0 [])).length * (2 * n + 1) ≤ (4 * n + 1) * (4 * n + 3) := Nat.mul_le_mul (by omega) (by omega)
    omega
def cMost : Nat → Nat
  | 0 => 1
  | n + 1 => cMost n * ((4 * n + 1) * (4 * n + 3))
theorem longer_len {k : Nat} (hk : Rd.KO k) (left : List Nat) (n : Nat) {x : List Nat × Fig} (G : Rd.FigOk k n x.2) : (Rd.longer k left n x).length ≤ (4 * n + 1) * (4 * n + 3) := by
  unfold Rd.longer
  rw [List.length_map]
  exact Nat.le_trans (List.length_filter_le _ _) (withObject_len hk G)
theorem allFigs_len {k : Nat} (hk : Rd.KO k) (left : List Nat) : ∀ n, (Rd.allFigs k left n).length ≤ cMost n
  | 0 => Nat.le_refl _
  | n + 1 => by
    have ih := allFigs_len hk left n
    have := flatMap_len (g := Rd.longer k left n) (c := (4 * n + 1) * (4 * n + 3)) (Rd.allFigs k left n) fun x hx => longer_len hk left n ((Rd.allFigs_ok hk left n).sound x hx).1
    have h3 := Nat.mul_le_mul_right ((4 * n + 1) * (4 * n + 3)) ih
    exact Nat.le_trans this h3
theorem nPairs_le {a b : Nat} (h : a ≤ b) : Rd.nPairs a ≤ Rd.nPairs b := by
  induction h with
  | refl => exact Nat.le_refl _
  | step _ ih => rw [Rd.nPairs_succ]; omega
section
variable {P : Program} {w : World} {K : PySem.W.Frag} {mg : Str → Option Value} {base : Heap} {f : Addr} {fd : FuncData}

/-! all_figures -/
abbrev sAllFigures : Stmt := topS 42
abbrev nAllFigures : List Str := ["kind", "objects", "left", "found", "last", "longer", "relations", "figure", "other", "more"]
theorem scAllFigures : FnScope nAllFigures ["kind", "objects", "left"] (defScope sAllFigures) := ⟨rfl, rfl, rfl, by decide +kernel, rfl, by decide +kernel, by decide +kernel⟩
abbrev spAllFigures (K : PySem.W.Frag) : Sp := sp3 isI isI (LL K isI) (fun x => Rd.KO x.1 ∧ x.2.1 ≤ 4 ∧ x.2.2.length = Rd.nPairs x.2.1) fun x => LL K (RF K) (Rd.allFigs x.1 x.2.2 x.2.1)
theorem cal_all_figures (T : Txt K mg) (cW : Cal P w K mg base 3 "with_object" ["kind", "figure"] (spWithObject K)) (cR : Cal P w K mg base 4 "relations_to_last" ["kind", "figure", "last"] (spRelationsToLast K)) (cA : Cal P w K mg base 2 "are_left" ["left", "first", "relations"] (spAreLeft K))
    (F : Fun K "all_figures" "all_figures" sAllFigures f fd) (hm : mg "all_figures" = some (.ref f)) : Cal P w K mg base 5 "all_figures" ["kind", "objects", "left"] (spAllFigures K) := by
  refine ⟨f, fd, hm, F.ok scAllFigures sp3_len (fun cdv A outer s H vs Q E hr h => ?_), F.binds (fun _ _ _ _ _ _ us hl => match us, hl with | [_, _, _], _ => rfl), F.kp⟩
  obtain ⟨B, ⟨kd, m, left⟩, e, ⟨v1, _, rfl, h1, v2, _, rfl, h2, v3, _, rfl, h3, rfl⟩, ⟨hk, hm4, hleft⟩, k⟩ := h
  replace hk : Rd.KO kd := hk
  replace hm4 : m ≤ 4 := hm4
  replace hleft : left.length = Rd.nPairs m := hleft
  replace h1 : isI kd v1 B := h1
  replace h2 : isI m v2 B := h2
  replace h3 : LL K isI left v3 B := h3
  have line : 10000000 ≤ sizeLine := by decide
  have hl6 : left.length ≤ 6 := by
    rw [hleft]
    exact Nat.le_trans (nPairs_le hm4) (by decide)
  have hc4 : ∀ n, n ≤ 4 → cMost n ≤ 2100000 := by
    intro n hn
    have : n = 0 ∨ n = 1 ∨ n = 2 ∨ n = 3 ∨ n = 4 := by omega
    rcases this with rfl | rfl | rfl | rfl | rfl <;> decide
  have hr3 : Room 3 _ := hr.mono (by decide)
  have hr2 : Room 2 _ := hr.mono (by decide)
  refine ⟨_, pss_cons (ps_set (i := 3) scAllFigures.nd rfl (.inl rfl) (pe_lst (pa_cons (pe_tup (pa_cons (pe_tup pa_nil) (pa_cons (pe_lst (pa_cons (pe_lst pa_nil) (pa_cons (pe_lst pa_nil) pa_nil))) pa_nil))) pa_nil)))
    (pss_cons (ps_for PassesOwn.never rfl (pi_range1 rfl T.b_range (pa_cons (pv 1) pa_nil)) (pg_name (i := 4) scAllFigures.nd rfl (Or.inl rfl))
      (pss_cons (ps_set (i := 5) scAllFigures.nd rfl (.inl rfl) (pe_lst pa_nil))
      (pss_cons (ps_for PassesOwn.never rfl (pi_list (pv 3)) (pg_tup rfl (pgs_cons (pg_name (i := 6) scAllFigures.nd rfl (Or.inl rfl)) (pgs_cons (pg_name (i := 7) scAllFigures.nd rfl (Or.inl rfl)) pgs_nil)))
        (pss_one (ps_for PassesOwn.never rfl (pi_list (pe_cal cW hr3 (pa_cons (pv 0) (pa_cons (pv 7) pa_nil)))) (pg_name (i := 8) scAllFigures.nd rfl (Or.inl rfl))
          (pss_cons (ps_set (i := 9) scAllFigures.nd rfl (.inl rfl) (pe_cal cR hr (pa_cons (pv 0) (pa_cons (pv 8) (pa_cons (pv 4) pa_nil)))))
          (pss_one (ps_if (pt_val (pe_cal cA hr2 (pa_cons (pv 2) (pa_cons (pe_callB call_len rfl T.b_len (by decide +kernel) (pa_cons (pv 6) pa_nil)) (pa_cons (pv 9) pa_nil)))))
            (pss_one (ps_expr (pe_bm PySem.F.plainAttrs_list PySem.F.slot_list_append PySem.F.type_list_append mt_append (pv 5) (pa_cons (pe_tup (pa_cons (pe_op op_catA (pv 6) (pv 9)) (pa_cons (pv 8) pa_nil))) pa_nil)))) pss_nil))))))
      (pss_one (ps_set (i := 3) scAllFigures.nd rfl (.inl rfl) (pv 5))))))
    (pss_one (ps_ret (pv 3)))), ?_⟩
  refine yq_asg (M := pm) (R := LL K (RF K) [([], [[], []])]) e trivial (yl_lst1 (yl_pr (r := TU K isI) (s := FG K) (a := []) (b := [[], []]) yl_tup0 (yl_lst2 yl_lst0 yl_lst0))) fun vf B1 H1 g1 rf => ?_
  refine yq_forR (M := pm) (n := m) g1.e trivial (ya1 (yl_var rfl h2)) (by omega)
    (fun i σ B' H' => Gr pm B H B' H' ∧ ∃ vf x4 x5 x6 x7 x8 x9, σ = [some v1, some v2, some v3, some vf, x4, x5, x6, x7, x8, x9] ∧ LL K (RF K) (Rd.allFigs kd left i) vf B') ?_ ?_ ?_
  · intro B2 H2 g2
    exact ⟨g1.trans g2, vf, none, none, none, none, none, none, rfl, MoC.up g2.b rf⟩
  · rintro last σ1 B1 H1 N1 hlast e1 ⟨gg1, vf, x4, x5, x6, x7, x8, x9, rfl, rf⟩ hN1
    have AO := Rd.allFigs_ok hk left last
    have hfl := allFigs_len hk left last
    refine yq_raw fun p hp => ?_
    have hb : B1 p = none := Ex.none e1 hp
    have hp0 : H p = none := Ex.none gg1.to0.h hp
    refine yq_forL (M := pm) (K := K) (r := RF K) (l := Rd.allFigs kd left last) (B := B1) (Gr0.raw e1 hp).e trivial (yl_var rfl rf)
      (fun i σ B' H' => Gr pm B H B' H' ∧ B' p = none ∧ ∃ x6 x7 x8 x9 acc, σ = [some v1, some v2, some v3, some vf, some (.int (last : Int)), some (.ref p), x6, x7, x8, x9] ∧ H' p = some (.lst acc) ∧ Al (RF K) B' (((Rd.allFigs kd left last).take i).flatMap (Rd.longer kd left last)) acc) ?_ ?_ ?_
    · intro B2 H2 g2
      obtain ⟨b2, h2'⟩ := g2.keep (fun z => z) hb upd_same
      exact ⟨(gg1.trans (Gr.of0 trivial (Gr0.raw e1 hp))).trans g2, b2, x6, x7, x8, x9, [], rfl, h2', trivial⟩
    · rintro i2 ⟨rels, g⟩ x σ2 B2 H2 N2 hi2 ⟨at_, vr, vg, rfl, hsq, hvr, hvg⟩ e2 ⟨gg2, b2, x6, x7, x8, x9, acc, rfl, hp2, al2⟩ hN2
      obtain ⟨G, er, hL⟩ := AO.sound _ (List.mem_of_getElem? hi2)
      replace G : Rd.FigOk kd last g := G
      replace hvr : TU K isI rels vr B2 := hvr
      replace hvg : FG K g vg B2 := hvg
      have hrl : rels.length = Rd.nPairs last := by rw [show rels = _ from er, Rd.relsOf_len]
      have hwl := withObject_len hk G
      -- how long the new list can become
      have hsz : ((Rd.allFigs kd left last).take i2).flatMap (Rd.longer kd left last) |>.length |> (· + (4 * last + 1) * (4 * last + 3) ≤ 2100000) := by
        have h1 := flatMap_len (g := Rd.longer kd left last) (c := (4 * last + 1) * (4 * last + 3)) ((Rd.allFigs kd left last).take i2) fun x hx => longer_len hk left last (AO.sound x (mem_take' hx)).1
        have h2 : ((Rd.allFigs kd left last).take i2).length + 1 ≤ cMost last := by
          have := (List.getElem?_eq_some_iff.mp hi2).1
          rw [List.length_take]
          omega
        have h3 := Nat.mul_le_mul_right ((4 * last + 1) * (4 * last + 3)) h2
        have h4 := hc4 (last + 1) (by omega)
        rw [Nat.succ_mul] at h3
        show _ + _ ≤ 2100000
        have h5 : cMost (last + 1) = cMost last * ((4 * last + 1) * (4 * last + 3)) := rfl
        omega
      refine ⟨at_, [vr, vg], rfl, Evl.ex_t e2 hsq, rfl, vr, [vg], rfl, vg, [], rfl, rfl, ?_⟩
      refine y_forL (M := pm) (K := K) (r := FG K) (l := Rd.withObject kd g) e2 trivial (yl_call (kd, g) (ya2 (yl_var rfl h1) (yl_var rfl hvg)) ⟨hk, last, G, by omega⟩)
        (fun i σ B' H' => Gr pm B H B' H' ∧ Ex B2 B' ∧ B' p = none ∧ ∃ x8 x9 acc, σ = [some v1, some v2, some v3, some vf, some (.int (last : Int)), some (.ref p), some vr, some vg, x8, x9] ∧ H' p = some (.lst acc) ∧
          Al (RF K) B' (((Rd.allFigs kd left last).take i2).flatMap (Rd.longer kd left last) ++ (((Rd.withObject kd g).take i).filter fun g' => Rd.areLeft left rels.length (Rd.relsToLast kd g' last)).map fun g' => (rels ++ Rd.relsToLast kd g' last, g')) acc) ?_ ?_ ?_
      · intro B3 H3 g3
        obtain ⟨b3, h3'⟩ := g3.keep (fun z => z) b2 hp2
        refine ⟨gg2.trans g3, g3.b, b3, x8, x9, acc, rfl, h3', ?_⟩
        rw [List.take_zero, List.filter_nil, List.map_nil, List.append_nil]
        exact al2.up g3.b
      · rintro i3 g' vg' σ3 B3 H3 N3 hi3 hvg' e3 ⟨gg3, e23, b3, x8, x9, acc3, rfl, hp3, al3⟩ hN3
        have hmem := List.mem_of_getElem? hi3
        obtain ⟨G', S'⟩ := Rd.withObject_sound hk G hmem
        refine yq_asg (M := pm) (R := TU K isI (Rd.relsToLast kd g' last)) e3 trivial (yl_call (kd, g', last) (ya3 (yl_var rfl h1) (yl_var rfl hvg') (yl_var rfl rfl)) ⟨hk, by show last ≤ 3; omega, G'⟩) fun vm B4 H4 g4 rm => ?_
        obtain ⟨b4, hp4⟩ := g4.keep (fun z => z) b3 hp3
        have hml : (Rd.relsToLast kd g' last).length = last := by
          unfold Rd.relsToLast
          rw [List.length_map, List.length_range]
        have hsum : rels.length + (Rd.relsToLast kd g' last).length ≤ left.length := by
          rw [hml, hrl, hleft, ← Rd.nPairs_succ]
          exact nPairs_le (by omega)
        have hlen3 : acc3.length < sizeLine := by
          have h1 := al3.length
          rw [List.length_append] at h1
          have h2 := filter_take_le (f := fun g' => Rd.areLeft left rels.length (Rd.relsToLast kd g' last)) (g := fun g' => (rels ++ Rd.relsToLast kd g' last, g')) (Rd.withObject kd g) i3
          have h3 := (List.getElem?_eq_some_iff.mp hi3).1
          have h4 : (((Rd.allFigs kd left last).take i2).flatMap (Rd.longer kd left last)).length + (4 * last + 1) * (4 * last + 3) ≤ 2100000 := hsz
          omega
        refine y_if (M := pm) g4.e trivial (yt_B (yl_call (left, rels.length, Rd.relsToLast kd g' last) (ya3 (yl_var rfl (MoC.up (gg3.b.trans g4.b) h3)) (yl_lenT (K := K) (r := isI) (yl_var rfl (MoC.up (e23.trans g4.b) hvr))) (yl_var rfl rm)) ⟨hsum, hl6⟩)) (fun q B5 H5 g5 => ?_) (fun q B5 H5 g5 => ?_)
        · obtain ⟨b5, hp5⟩ := g5.keep (fun z => z) b4 hp4
          replace q : Rd.areLeft left rels.length (Rd.relsToLast kd g' last) = true := q
          refine y_app (M := pm) (R := RF K (rels ++ Rd.relsToLast kd g' last, g')) g5.e trivial (fun z => z) rfl b5 hp5 (yl_pr (yl_catT (K := K) (r := isI) (yl_var rfl (MoC.up ((e23.trans g4.b).trans g5.b) hvr)) (yl_var rfl (MoC.up g5.b rm)) (by omega)) (yl_var rfl (MoC.up (g4.b.trans g5.b) hvg'))) hlen3 fun v B6 H6 g6 b6 hp6 r6 => ?_
          refine hN3 _ B6 _ (((g4.b.trans g5.b).trans g6.b)) (g6.e.mut b6) ⟨(((gg3.trans g4).trans g5).trans g6).mut (fun z => z) hp0 b6, e23.trans ((g4.b.trans g5.b).trans g6.b), b6, some vg', some vm, acc3 ++ [v], rfl, upd_same, ?_⟩
          rw [filter_snoc hi3, if_pos q, ← List.append_assoc]
          exact (al3.up ((g4.b.trans g5.b).trans g6.b)).snoc r6
        · obtain ⟨b5, hp5⟩ := g5.keep (fun z => z) b4 hp4
          replace q : Rd.areLeft left rels.length (Rd.relsToLast kd g' last) = false := q
          refine hN3 _ B5 _ (g4.b.trans g5.b) g5.e ⟨(gg3.trans g4).trans g5, e23.trans (g4.b.trans g5.b), b5, some vg', some vm, acc3, rfl, hp5, ?_⟩
          rw [filter_snoc hi3, if_neg (by rw [q]; decide), List.append_nil]
          exact al3.up (g4.b.trans g5.b)
      · rintro σ3 B3 H3 e3 ⟨gg3, e23, b3, x8, x9, acc3, rfl, hp3, al3⟩
        refine hN2 _ B3 H3 e23 e3 ⟨gg3, b3, some vr, some vg, x8, x9, acc3, rfl, hp3, ?_⟩
        rw [flatMap_take hi2]
        rw [List.take_length] at al3
        exact al3
    · rintro σ2 B2 H2 e2 ⟨gg2, b2, x6, x7, x8, x9, acc, rfl, hp2, al2⟩
      rw [List.take_length] at al2
      refine ⟨.ref p, rfl, hN1 _ (upd B2 p (.lst acc)) H2 (gg2.frz (fun z => z) hp0 b2 hp2).e ⟨gg2.frz (fun z => z) hp0 b2 hp2, .ref p, some (.int (last : Int)), some (.ref p), x6, x7, x8, x9, rfl, ?_⟩⟩
      exact ll_new al2 b2
  · rintro σ' B' H' e' ⟨gg, vf, x4, x5, x6, x7, x8, x9, rfl, rf⟩
    exact y_fin k gg.to0 (yl_var rfl rf)

/-! numbers_of -/
abbrev sNumbersOf : Stmt := topS 43
abbrev nNumbersOf : List Str := ["kind", "figure", "found", "one", "other"]
theorem scNumbersOf : FnScope nNumbersOf ["kind", "figure"] (defScope sNumbersOf) := ⟨rfl, rfl, rfl, by decide +kernel, rfl, by decide +kernel, by decide +kernel⟩
abbrev spNumbersOf (K : PySem.W.Frag) : Sp := sp2 isI (FG K) (fun x => Rd.KO x.1 ∧ ∃ n, Rd.FigOk x.1 n x.2 ∧ n ≤ 4) fun x => LL K isI (Rd.numsOf x.1 x.2)
theorem yq_forZ {ta : TA} {g : TG} {tb tz : TS} {D : Ends} {σ : L2.St} {H : Hp} (h : ta σ H fun vs H1 => ∃ a b xs ys, vs = [.ref a, .ref b] ∧ SqL K H1 a xs ∧ SqL K H1 b ys ∧ (∃ W : Nat → Nat → L2.St → Hp → Prop, (∃ m, W 0 m σ H1) ∧ ∀ i m σ H, W i m σ H →
    ((Itz K a b).stop i H ∧ tz D σ H) ∨ ((Itz K a b).go i H ∧ ∃ N : L2.St → Hp → Prop, (∀ σ' H', N σ' H' → ∃ m', m' < m ∧ W (i + 1) m' σ' H') ∧ ∀ x H', (Itz K a b).yld i H x H' → g x σ H' fun σ2 H2 => tb { D with nx := N, ct := N, bk := tz D } σ2 H2))) : tSeq (tFor (iZip K ta) g tb) tz D σ H := h
theorem zip_take {a b : List Nat} {i x y : Nat} (hx : a[i]? = some x) (hy : b[i]? = some y) : ((a.zip b).take (i + 1)).flatMap (fun p => [p.1, p.2]) = ((a.zip b).take i).flatMap (fun p => [p.1, p.2]) ++ [x, y] :=
  flatMap_take (g := fun (p : Nat × Nat) => [p.1, p.2]) (a := (x, y)) (List.getElem?_zip_eq_some.mpr ⟨hx, hy⟩)
theorem cal_numbers_of (T : Txt K mg) (F : Fun K "numbers_of" "numbers_of" sNumbersOf f fd) (hm : mg "numbers_of" = some (.ref f)) : Cal P w K mg base 1 "numbers_of" ["kind", "figure"] (spNumbersOf K) := by
  refine ⟨f, fd, hm, F.ok scNumbersOf sp2_len (fun cdv A outer s H vs Q E hr h => ?_), F.binds (fun _ _ _ _ _ _ us hl => match us, hl with | [_, _], _ => rfl), F.kp⟩
  obtain ⟨B, ⟨kd, g⟩, e, ⟨v1, _, rfl, h1, v2, _, rfl, h2, rfl⟩, ⟨hk, n, G, hn⟩, k⟩ := h
  replace hk : Rd.KO kd := hk
  replace G : Rd.FigOk kd n g := G
  replace h1 : isI kd v1 B := h1
  replace h2 : FG K g v2 B := h2
  have line : 1000 ≤ sizeLine := by decide
  refine ⟨_, pss_cons (ps_if (pt_cmpR op_ne (pv 0) (pe_cst T.POSITIONS) (nomark _)) (pss_one (ps_ret (pe_callTy call_list_of rfl T.b_list (by decide +kernel) (pa_cons (pe_ix ix_list (pv 1) pe_int (fun _ _ => rfl)) pa_nil)))) pss_nil)
    (pss_cons (ps_set (i := 2) scNumbersOf.nd rfl (.inl rfl) (pe_lst pa_nil))
    (pss_cons (ps_for PassesOwn.never rfl (pi_zip (by rfl) T.b_zip (pa_cons (pe_ix ix_list (pv 1) pe_int (fun _ _ => rfl)) (pa_cons (pe_ix ix_list (pv 1) pe_int (fun _ _ => rfl)) pa_nil))) (pg_tup rfl (pgs_cons (pg_name (i := 3) scNumbersOf.nd rfl (Or.inl rfl)) (pgs_cons (pg_name (i := 4) scNumbersOf.nd rfl (Or.inl rfl)) pgs_nil)))
      (pss_one (ps_expr (pe_bm PySem.F.plainAttrs_list PySem.F.slot_list_extend PySem.F.type_list_extend mt_extend (pv 2) (pa_cons (pe_lst (pa_cons (pv 3) (pa_cons (pv 4) pa_nil))) pa_nil)))))
    (pss_one (ps_ret (pv 2))))), ?_⟩
  have row0 : ∀ {σ : L2.St} {B'}, Ex B B' → σ[1]? = some (some v2) → Yl pm (tOp (rIxL K) (tVar 1) (tC (.int 0))) σ B' (LL K isI (g.getD 0 [])) := fun eB hσ => yl_ixL (K := K) (r := LL K isI) (l := g) (yl_var hσ (MoC.up eB h2)) (yl_zc 0) (atI_n (fig_get0 G))
  refine yq_when (M := pm) e trivial (yt_test (yl_ne (yl_var (R := isZ kd) rfl h1) (yl_zc 3))) (fun q B2 H2 g2 => ?_) (fun q B2 H2 g2 => ?_)
  · have q : kd ≠ 3 := by
      rw [Bool.not_eq_true'] at q
      have := of_decide_eq_false q
      omega
    refine y_fin k g2.to0 ((yl_listOfL (K := K) (r := isI) (row0 g2.b rfl)).imp fun v _ _ z => ?_)
    show LL K isI (Rd.numsOf kd g) v _
    unfold Rd.numsOf
    rw [if_neg q]
    exact z
  · have q : kd = 3 := by
      rw [Bool.not_eq_false'] at q
      have := of_decide_eq_true q
      omega
    subst q
    have hl : (g.getD 0 []).length = n ∧ (g.getD 1 []).length = n := by
      have := G.2.1
      rw [if_pos rfl] at this
      exact ⟨this.1, this.2.2⟩
    have row1 : ∀ {σ : L2.St} {B'}, Ex B B' → σ[1]? = some (some v2) → Yl pm (tOp (rIxL K) (tVar 1) (tC (.int 1))) σ B' (LL K isI (g.getD 1 [])) := fun eB hσ => yl_ixL (K := K) (r := LL K isI) (l := g) (yl_var hσ (MoC.up eB h2)) (yl_zc 1) (atI_n (fig_get1 G))
    refine yq_raw fun p hp => ?_
    have hb : B2 p = none := Ex.none g2.e hp
    have hp0 : H p = none := Ex.none g2.to0.h hp
    refine yq_forZ (K := K) ?_
    refine ya2 (M := pm) (row0 (σ := [some v1, some v2, some (.ref p), none, none]) g2.b rfl) (row1 (σ := [some v1, some v2, some (.ref p), none, none]) g2.b rfl) B2 _ (.refl _) (Gr0.raw g2.e hp).e trivial _ fun ws B3 H3 g3 pw => ?_
    obtain ⟨w1, _, rfl, ⟨a1, xs, rfl, hx1, hx2⟩, w2, _, rfl, ⟨a2, ys, rfl, hy1, hy2⟩, rfl⟩ := pw
    obtain ⟨b3, hp3⟩ := g3.keep (fun z => z) hb upd_same
    have gg3 := (g2.trans (Gr.of0 trivial (Gr0.raw (o := .lst []) g2.e hp))).trans g3
    refine ⟨a1, a2, xs, ys, rfl, .of (g3.e _ _ hx1), .of (g3.e _ _ hy1), ?_⟩
    have lx := hx2.length
    have ly := hy2.length
    refine RZ.for_zipL (D := { nx := tRet (tVar 2) { nx := fun _ H' => Q .non H', rt := Q }, rt := Q }) (show xs.length = ys.length by omega) (fun i σ H' => ∃ B', Gr pm B H B' H' ∧ Ex B3 B' ∧ B' p = none ∧ ∃ x3 x4 acc, σ = [some v1, some v2, some (.ref p), x3, x4] ∧ H' p = some (.lst acc) ∧ Al isI B' ((((g.getD 0 []).zip (g.getD 1 [])).take i).flatMap fun p => [p.1, p.2]) acc) ?_ ?_ ?_ ?_
    · exact ⟨B3, gg3, .refl _, b3, none, none, [], rfl, hp3, trivial⟩
    · rintro i σ H' ⟨B', gg, e3, _⟩
      exact ⟨.of ((e3.trans gg.e) _ _ hx1), .of ((e3.trans gg.e) _ _ hy1)⟩
    · rintro i x y t σ H' hx hy ⟨B', gg, e3, b', x3, x4, acc, rfl, hp', al⟩ ht
      obtain ⟨x', hx', rx⟩ := hx2.get hx
      obtain ⟨y', hy', ry⟩ := hy2.get hy
      have hne : p ≠ t := ne_of_none hp' ht
      have g4 : Gr pm B' H' B' (upd H' t (.tup [x, y])) := Gr.of0 trivial (Gr0.raw gg.e ht)
      refine ⟨t, [x, y], rfl, .of upd_same, rfl, x, [y], rfl, y, [], rfl, rfl, ?_⟩
      have hlen : acc.length + 2 ≤ sizeLine := by
        have h1 := al.length
        have h2 := flatMap_len (g := fun (p : Nat × Nat) => [p.1, p.2]) (c := 2) (((g.getD 0 []).zip (g.getD 1 [])).take i) fun x _ => Nat.le_refl _
        have h3 : (((g.getD 0 []).zip (g.getD 1 [])).take i).length ≤ n := by
          rw [List.length_take, List.length_zip]
          omega
        omega
      refine y_ext (M := pm) (r := isI) (l := [x', y']) g4.e trivial (fun z => z) rfl b' (by rw [upd_ne hne]; exact hp') (yl_lst2 (r := isI) (yl_var rfl rx) (yl_var rfl ry)) hlen fun ws B5 H5 g5 b5 h5 al5 => ?_
      refine ⟨B5, ((gg.trans g4).trans g5).mut (fun z => z) hp0 b5, (e3.trans g4.b).trans g5.b, b5, some x, some y, acc ++ ws, rfl, upd_same, ?_⟩
      rw [zip_take hx' hy']
      exact (al.up g5.b).append al5
    · rintro σ H' ⟨B', gg, e3, b', x3, x4, acc, rfl, hp', al⟩
      rw [List.take_of_length_le (by rw [List.length_zip]; omega)] at al
      refine y_fin k (gg.to0.frz hp0 b' hp') (yl_var rfl ?_)
      exact ll_new al b'
end
end RdW

set_option Elab.async false
set_option autoImplicit false
set_option linter.all false
set_option maxRecDepth 100000
set_option maxHeartbeats 2000000
/-! RdA6: sets. -/
namespace RdW
open PySem L2
open Evl (Ex)
theorem any_snoc {p : Nat → Bool} {n : Nat} : (List.range (n + 1)).any p = ((List.range n).any p || p n) := by
  rw [List.range_succ, List.any_append]
  simp
theorem all_snoc {p : Nat → Bool} {n : Nat} : (List.range (n + 1)).all p = ((List.range n).all p && p n) := by
  rw [List.range_succ, List.all_append]
  simp
theorem any_true {p : Nat → Bool} {n i : Nat} (h : i < n) (q : p i = true) : (List.range n).any p = true := List.any_eq_true.mpr ⟨i, List.mem_range.mpr h, q⟩
theorem all_false {p : Nat → Bool} {n i : Nat} (h : i < n) (q : p i = false) : (List.range n).all p = false := by
  rw [List.all_eq_false]
  exact ⟨i, List.mem_range.mpr h, by rw [q]; decide⟩
theorem pt_B1 {X : Cx} {e : Expr} {t : TE} (h : PE X e t) (he : ∀ whole, isTrue e X.env whole = (do let v ← whole; standAt e.pos; holding [v] (truthy v)) := by intro _; rfl) : PT X e (tB t) := pt_val h he
section
variable {P : Program} {w : World} {K : PySem.W.Frag} {mg : Str → Option Value} {base : Heap} {f : Addr} {fd : FuncData}

/-! excludes -/
abbrev sExcludes : Stmt := topS 21
theorem scExcludes : FnScope ["relation", "in_one", "in_other"] ["relation", "in_one", "in_other"] (defScope sExcludes) := ⟨rfl, rfl, rfl, by decide +kernel, rfl, by decide +kernel, by decide +kernel⟩
abbrev spExcludes : Sp := sp3 isI isB isB (fun _ => True) fun x => isB (Rd.excl x.1 x.2.1 x.2.2)
theorem cal_excludes (T : Txt K mg) (F : Fun K "excludes" "excludes" sExcludes f fd) (hm : mg "excludes" = some (.ref f)) : Cal P w K mg base 1 "excludes" ["relation", "in_one", "in_other"] spExcludes := by
  refine ⟨f, fd, hm, F.ok scExcludes sp3_len (fun cdv A outer s H vs Q E hr h => ?_), F.binds (fun _ _ _ _ _ _ us hl => match us, hl with | [_, _, _], _ => rfl), F.kp⟩
  obtain ⟨B, ⟨r, a, b⟩, e, ⟨v1, _, rfl, h1, v2, _, rfl, h2, v3, _, rfl, h3, rfl⟩, p, k⟩ := h
  replace h1 : isI r v1 B := h1
  replace h2 : isB a v2 B := h2
  replace h3 : isB b v3 B := h3
  have x1 : ∀ {B'}, Yl pm (tVar 0) (start ["relation", "in_one", "in_other"] [v1, v2, v3]) B' (isZ r) := yl_var rfl h1
  have x2 : ∀ {B'}, Yl pm (tVar 1) (start ["relation", "in_one", "in_other"] [v1, v2, v3]) B' (isB a) := yl_var rfl h2
  have x3 : ∀ {B'}, Yl pm (tVar 2) (start ["relation", "in_one", "in_other"] [v1, v2, v3]) B' (isB b) := yl_var rfl h3
  refine ⟨_, pss_cons (ps_if (pt_cmpR op_eq (pv 0) (pe_cst T.APART) (nomark _)) (pss_one (ps_ret (pe_and (pv 1) (pe_one (pv 2))))) pss_nil)
    (pss_cons (ps_if (pt_cmpR op_eq (pv 0) (pe_cst T.WITHIN) (nomark _)) (pss_one (ps_ret (pe_and (pv 1) (pe_one (pe_not (pv 2)))))) pss_nil)
    (pss_cons (ps_if (pt_cmpR op_eq (pv 0) (pe_cst T.AROUND) (nomark _)) (pss_one (ps_ret (pe_and (pv 2) (pe_one (pe_not (pv 1)))))) pss_nil)
    (pss_one (ps_ret (pe_and (pe_cmpR op_eq (pv 0) (pe_cst T.EQUAL) (nomark _)) (pe_one (pe_cmpR op_ne (pv 1) (pv 2) (nomark _)))))))), ?_⟩
  have dn : ∀ {m n : Nat}, decide ((m : Int) = (n : Int)) = decide (m = n) := fun {m n} => decide_eq_decide.mpr (by omega)
  refine yq_when (M := pm) e trivial (yt_test (yl_eq x1 (yl_zc 0))) (fun q B2 H2 g2 => ?_) (fun q B2 H2 g2 => ?_)
  · have q : r = 0 := by
      have := of_decide_eq_true q
      omega
    refine y_fin k g2.to0 ((yl_andV x2 fun _ => x3).toB ?_)
    subst q; rfl
  have q0 : r ≠ 0 := by
    have := of_decide_eq_false q
    omega
  refine yq_when (M := pm) g2.e trivial (yt_test (yl_eq x1 (yl_zc 2))) (fun q B3 H3 g3 => ?_) (fun q B3 H3 g3 => ?_)
  · have q : r = 2 := by
      have := of_decide_eq_true q
      omega
    refine y_fin k (g2.trans g3).to0 ((yl_andV x2 fun _ => yl_notV x3).toB ?_)
    subst q; rfl
  have q2 : r ≠ 2 := by
    have := of_decide_eq_false q
    omega
  refine yq_when (M := pm) g3.e trivial (yt_test (yl_eq x1 (yl_zc 4))) (fun q B4 H4 g4 => ?_) (fun q B4 H4 g4 => ?_)
  · have q : r = 4 := by
      have := of_decide_eq_true q
      omega
    refine y_fin k ((g2.trans g3).trans g4).to0 ((yl_andV x3 fun _ => yl_notV x2).toB ?_)
    subst q; rfl
  have q4 : r ≠ 4 := by
    have := of_decide_eq_false q
    omega
  refine y_fin k ((g2.trans g3).trans g4).to0 ((yl_andV (yl_eq x1 (yl_zc 3)) fun _ => yl_neB x2 x3).toB ?_)
  unfold Rd.excl
  dsimp only
  rw [if_neg q0, if_neg q2, if_neg q4]
  congr 1
  exact dn (m := r) (n := 3)

/-! is_excluded -/
abbrev sIsExcluded : Stmt := topS 22
abbrev nIsExcluded : List Str := ["relations", "objects", "cell", "higher", "lower"]
theorem scIsExcluded : FnScope nIsExcluded ["relations", "objects", "cell"] (defScope sIsExcluded) := ⟨rfl, rfl, rfl, by decide +kernel, rfl, by decide +kernel, by decide +kernel⟩
abbrev spIsExcluded (K : PySem.W.Frag) : Sp := sp3 (TU K isI) isI isI (fun x => x.2.1 ≤ 4 ∧ x.1.length = Rd.nPairs x.2.1) fun x => isB (Rd.isExcl x.1 x.2.1 x.2.2)
theorem cal_is_excluded (T : Txt K mg) (cE : Cal P w K mg base 1 "excludes" ["relation", "in_one", "in_other"] spExcludes) (cP : Cal P w K mg base 1 "pair_number" ["lower", "higher"] spPairNumber) (cH : Cal P w K mg base 1 "has" ["some", "relation"] spHas)
    (F : Fun K "is_excluded" "is_excluded" sIsExcluded f fd) (hm : mg "is_excluded" = some (.ref f)) : Cal P w K mg base 2 "is_excluded" ["relations", "objects", "cell"] (spIsExcluded K) := by
  refine ⟨f, fd, hm, F.ok scIsExcluded sp3_len (fun cdv A outer s H vs Q E hr h => ?_), F.binds (fun _ _ _ _ _ _ us hl => match us, hl with | [_, _, _], _ => rfl), F.kp⟩
  obtain ⟨B, ⟨rels, n, c⟩, e, ⟨v1, _, rfl, h1, v2, _, rfl, h2, v3, _, rfl, h3, rfl⟩, ⟨hn, hl⟩, k⟩ := h
  replace hn : n ≤ 4 := hn
  replace hl : rels.length = Rd.nPairs n := hl
  have line : 1000 ≤ sizeLine := by decide
  refine ⟨_, pss_cons (ps_for PassesOwn.never rfl (pi_range1 rfl T.b_range (pa_cons (pv 1) pa_nil)) (pg_name (i := 3) scIsExcluded.nd rfl (Or.inl rfl))
      (pss_one (ps_for PassesOwn.never rfl (pi_range1 rfl T.b_range (pa_cons (pv 3) pa_nil)) (pg_name (i := 4) scIsExcluded.nd rfl (Or.inl rfl))
        (pss_one (ps_if (pt_val (pe_cal cE hr (pa_cons (pe_ix ix_tup (pv 0) (pe_cal cP hr (pa_cons (pv 4) (pa_cons (pv 3) pa_nil))) (fun _ _ => rfl)) (pa_cons (pe_cal cH hr (pa_cons (pv 2) (pa_cons (pv 4) pa_nil))) (pa_cons (pe_cal cH hr (pa_cons (pv 2) (pa_cons (pv 3) pa_nil))) pa_nil)))))
          (pss_one (ps_ret pe_bl)) pss_nil)))))
    (pss_one (ps_ret pe_bl)), ?_⟩
  refine yq_forR (M := pm) (n := n) e trivial (ya1 (yl_var rfl h2)) (by omega)
    (fun j σ B' H' => Gr pm B H B' H' ∧ ((List.range j).any fun j => (List.range j).any fun i => Rd.excl (Rd.at0 rels (Rd.nPairs j + i)) (Qr.in_ c i) (Qr.in_ c j)) = false ∧ ∃ x3 x4, σ = [some v1, some v2, some v3, x3, x4]) ?_ ?_ ?_
  · exact fun B2 H2 g2 => ⟨g2, rfl, none, none, rfl⟩
  · rintro j σ' B' H' N hj e' ⟨g', ha, x3, x4, rfl⟩ hN
    refine y_forR (M := pm) (n := j) e' trivial (ya1 (yl_var rfl rfl)) (by omega)
      (fun i σ B' H' => Gr pm B H B' H' ∧ ((List.range i).any fun i => Rd.excl (Rd.at0 rels (Rd.nPairs j + i)) (Qr.in_ c i) (Qr.in_ c j)) = false ∧ ∃ x4, σ = [some v1, some v2, some v3, some (.int (j : Int)), x4]) ?_ ?_ ?_
    · exact fun B2 H2 g2 => ⟨g'.trans g2, rfl, x4, rfl⟩
    · rintro i σ'' B2 H2 N2 hi e2 ⟨g2, hb, x4', rfl⟩ hN2
      have hlt := Rd.pairs_lt hi hj
      refine y_if (M := pm) e2 trivial (yt_B (yl_call (Rd.at0 rels (Rd.nPairs j + i), Qr.in_ c i, Qr.in_ c j) (ya3 (yl_ixT (K := K) (r := isI) (l := rels) (yl_var rfl (MoC.up g2.b h1)) (yl_call (i, j) (ya2 (yl_var rfl rfl) (yl_var rfl rfl)) (by show j ≤ 4; omega)).z (atI_n (at0_get (by omega))))
        (yl_call (c, i) (ya2 (yl_var rfl h3) (yl_var rfl rfl)) trivial) (yl_call (c, j) (ya2 (yl_var rfl h3) (yl_var rfl rfl)) trivial)) trivial)) (fun q B3 H3 g3 => ?_) (fun q B3 H3 g3 => ?_)
      · replace q : Rd.excl (Rd.at0 rels (Rd.nPairs j + i)) (Qr.in_ c i) (Qr.in_ c j) = true := q
        refine y_fin k (g2.trans g3).to0 ((yl_c (R := isB true) rfl).toB ?_)
        unfold Rd.isExcl
        exact (any_true hj (any_true hi q)).symm
      · replace q : Rd.excl (Rd.at0 rels (Rd.nPairs j + i)) (Qr.in_ c i) (Qr.in_ c j) = false := q
        exact hN2 _ B3 H3 g3.e ⟨g2.trans g3, by rw [any_snoc, hb, q]; rfl, some (.int (i : Int)), rfl⟩
    · rintro σ'' B2 H2 e2 ⟨g2, hb, x4', rfl⟩
      exact hN _ B2 H2 e2 ⟨g2, by rw [any_snoc, ha, hb]; rfl, some (.int (j : Int)), x4', rfl⟩
  · rintro σ' B' H' e' ⟨g', ha, x3, x4, rfl⟩
    exact y_fin k g'.to0 ((yl_c (R := isB false) rfl).toB ha.symm)

/-! cells_of -/
abbrev sCellsOf : Stmt := topS 23
abbrev nCellsOf : List Str := ["relations", "objects", "cell"]
theorem scCellsOf : FnScope nCellsOf ["relations", "objects"] (defScope sCellsOf) := ⟨rfl, rfl, rfl, by decide +kernel, rfl, by decide +kernel, by decide +kernel⟩
abbrev spCellsOf (K : PySem.W.Frag) : Sp := sp2 (TU K isI) isI (fun x => x.2 ≤ 4 ∧ x.1.length = Rd.nPairs x.2) fun x => LL K isI (Rd.cellsOf x.1 x.2)
theorem cal_cells_of (T : Txt K mg) (cX : Cal P w K mg base 2 "is_excluded" ["relations", "objects", "cell"] (spIsExcluded K)) (F : Fun K "cells_of" "cells_of" sCellsOf f fd) (hm : mg "cells_of" = some (.ref f)) : Cal P w K mg base 3 "cells_of" ["relations", "objects"] (spCellsOf K) := by
  refine ⟨f, fd, hm, F.ok scCellsOf sp2_len (fun cdv A outer s H vs Q E hr h => ?_), F.binds (fun _ _ _ _ _ _ us hl => match us, hl with | [_, _], _ => rfl), F.kp⟩
  obtain ⟨B, ⟨rels, n⟩, e, ⟨v1, _, rfl, h1, v2, _, rfl, h2, rfl⟩, ⟨hn, hl⟩, k⟩ := h
  replace hn : n ≤ 4 := hn
  replace hl : rels.length = Rd.nPairs n := hl
  have line : 1000 ≤ sizeLine := by decide
  have h16 : 2 ^ n ≤ 16 := Nat.pow_le_pow_right (by decide) hn
  refine ⟨_, pss_one (ps_ret (pe_lc (own := [("cell", 2)]) (g := gName 2) rfl scCellsOf.nd (pi_range2 rfl T.b_range (pa_cons pe_int (pa_cons (pe_op op_shl pe_int (pv 1)) pa_nil))) (blkOk_by (N := nCellsOf) (sc := defScope sCellsOf) (by decide +kernel))
    (fun _ _ _ _ _ => pg_name (i := 2) scCellsOf.nd rfl (Or.inl rfl)) (fun _ _ _ _ _ => pts_one (pt_not (pt_val (pe_cal cX hr (pa_cons (pv 0) (pa_cons (pv 1) (pa_cons (pv 2) pa_nil))))))) (fun _ _ _ _ _ => pv 2))), ?_⟩
  refine y_fin k (Gr0.refl e) ((yl_lcR2 (K := K) (rb := isI) (lo := 1) (n := 2 ^ n) (fun a => !Rd.isExcl rels n (1 + a)) (fun a => 1 + a) (ya2 (yl_n 1) (yl_I (R := isI (2 ^ n)) (yl_zc 1) (yl_var (R := isZ n) rfl h2) ?_ ?_)) (by omega) (fun x => rfl) (fun a B' ha eB => ?_) (fun a B' ha eB _ => ?_)).imp fun v _ _ z => ?_)
  · exact ⟨by omega, by omega, by decide⟩
  · show V.int _ = V.int _
    rw [Int.toNat_natCast, pow_cast]
    congr 1
    omega
  · exact yt_not (yt_B (yl_call (rels, n, 1 + a) (ya3 (yl_var rfl (MoC.up eB h1)) (yl_var rfl h2) (yl_var rfl rfl)) ⟨hn, hl⟩))
  · exact yl_var rfl rfl
  · show LL K isI (Rd.cellsOf rels n) v _
    unfold Rd.cellsOf
    rw [List.filter_map]
    have e1 : (fun a => 1 + a) = fun (a : Nat) => a + 1 := by funext a; omega
    rw [e1] at z
    have e2 : ((fun c => !Rd.isExcl rels n c) ∘ fun x => x + 1) = fun a => !Rd.isExcl rels n (1 + a) := by
      funext a
      show (!Rd.isExcl rels n (a + 1)) = _
      rw [Nat.add_comm]
    rw [e2]
    exact z

/-! relation_by -/
abbrev sRelationBy : Stmt := topS 24
abbrev nRelationBy : List Str := ["cells", "one", "other", "has_both", "is_more", "is_less", "cell"]
theorem scRelationBy : FnScope nRelationBy ["cells", "one", "other"] (defScope sRelationBy) := ⟨rfl, rfl, rfl, by decide +kernel, rfl, by decide +kernel, by decide +kernel⟩
abbrev spRelationBy (K : PySem.W.Frag) : Sp := sp3 (LL K isI) isI isI (fun x => x.1.length ≤ 1000) fun x => isI (Rd.relBy x.1 x.2.1 x.2.2)
theorem any_map {p : Nat → Bool} (l : List Nat) : (((l.filter fun _ => true).map p).any id) = l.any p := by
  rw [List.filter_eq_self.mpr (fun _ _ => rfl), List.any_map]
  rfl
theorem cal_relation_by (T : Txt K mg) (cH : Cal P w K mg base 1 "has" ["some", "relation"] spHas) (F : Fun K "relation_by" "relation_by" sRelationBy f fd) (hm : mg "relation_by" = some (.ref f)) : Cal P w K mg base 2 "relation_by" ["cells", "one", "other"] (spRelationBy K) := by
  refine ⟨f, fd, hm, F.ok scRelationBy sp3_len (fun cdv A outer s H vs Q E hr h => ?_), F.binds (fun _ _ _ _ _ _ us hl => match us, hl with | [_, _, _], _ => rfl), F.kp⟩
  obtain ⟨B, ⟨cs, i, j⟩, e, ⟨v1, _, rfl, h1, v2, _, rfl, h2, v3, _, rfl, h3, rfl⟩, hz, k⟩ := h
  replace hz : cs.length ≤ 1000 := hz
  replace h1 : LL K isI cs v1 B := h1
  have line : 1000 ≤ sizeLine := by decide
  refine ⟨_, pss_cons (ps_set (i := 3) scRelationBy.nd rfl (.inl rfl) (pe_callB (cr_any rfl) rfl T.b_any (by decide +kernel) (pa_cons
      (pe_lc (own := [("cell", 6)]) (g := gName 6) rfl scRelationBy.nd (pi_list (pv 0)) (blkOk_by (N := nRelationBy) (sc := defScope sRelationBy) (by decide +kernel)) (fun _ _ _ _ _ => pg_name (i := 6) scRelationBy.nd rfl (Or.inl rfl)) (fun _ _ _ _ _ => pts_nil)
        (fun _ _ _ _ _ => pe_and (pe_cal cH hr (pa_cons (pv 6) (pa_cons (pv 1) pa_nil))) (pe_one (pe_cal cH hr (pa_cons (pv 6) (pa_cons (pv 2) pa_nil)))))) pa_nil)))
    (pss_cons (ps_set (i := 4) scRelationBy.nd rfl (.inl rfl) (pe_callB (cr_any rfl) rfl T.b_any (by decide +kernel) (pa_cons
      (pe_lc (own := [("cell", 6)]) (g := gName 6) rfl scRelationBy.nd (pi_list (pv 0)) (blkOk_by (N := nRelationBy) (sc := defScope sRelationBy) (by decide +kernel)) (fun _ _ _ _ _ => pg_name (i := 6) scRelationBy.nd rfl (Or.inl rfl)) (fun _ _ _ _ _ => pts_nil)
        (fun _ _ _ _ _ => pe_and (pe_cal cH hr (pa_cons (pv 6) (pa_cons (pv 1) pa_nil))) (pe_one (pe_not (pe_cal cH hr (pa_cons (pv 6) (pa_cons (pv 2) pa_nil))))))) pa_nil)))
    (pss_cons (ps_set (i := 5) scRelationBy.nd rfl (.inl rfl) (pe_callB (cr_any rfl) rfl T.b_any (by decide +kernel) (pa_cons
      (pe_lc (own := [("cell", 6)]) (g := gName 6) rfl scRelationBy.nd (pi_list (pv 0)) (blkOk_by (N := nRelationBy) (sc := defScope sRelationBy) (by decide +kernel)) (fun _ _ _ _ _ => pg_name (i := 6) scRelationBy.nd rfl (Or.inl rfl)) (fun _ _ _ _ _ => pts_nil)
        (fun _ _ _ _ _ => pe_and (pe_cal cH hr (pa_cons (pv 6) (pa_cons (pv 2) pa_nil))) (pe_one (pe_not (pe_cal cH hr (pa_cons (pv 6) (pa_cons (pv 1) pa_nil))))))) pa_nil)))
    (pss_cons (ps_if (pt_not (pt_val (pv 3))) (pss_one (ps_ret (pe_cst T.APART))) pss_nil)
    (pss_cons (ps_if (pt_val (pv 4)) (pss_one (ps_ret (pe_ifExp (pt_val (pv 5)) (pe_cst T.CROSSING) (pe_cst T.AROUND)))) pss_nil)
    (pss_one (ps_ret (pe_ifExp (pt_val (pv 5)) (pe_cst T.WITHIN) (pe_cst T.EQUAL)))))))), ?_⟩
  refine yq_asg (M := pm) (R := isB (cs.any fun c => Qr.in_ c i && Qr.in_ c j)) e trivial ((yl_any (K := K) (yl_lcL (K := K) (r := isI) (rb := isB) (l := cs) (fun _ => true) (fun c => Qr.in_ c i && Qr.in_ c j) (yl_var rfl h1) (by omega) ?_)).toB (any_map cs)) fun vb B2 H2 g2 rb => ?_
  · rintro c x B' hc eB hx
    refine ⟨_, ?_, fun H' Q _ q => q, fun _ _ => yt_yes, fun B2 eB2 _ => yl_andV (yl_call (c, i) (ya2 (yl_var rfl hx) (yl_var rfl h2)) trivial) fun _ => yl_call (c, j) (ya2 (yl_var rfl hx) (yl_var rfl h3)) trivial⟩
    rfl
  refine yq_asg (M := pm) (R := isB (cs.any fun c => Qr.in_ c i && !Qr.in_ c j)) g2.e trivial ((yl_any (K := K) (yl_lcL (K := K) (r := isI) (rb := isB) (l := cs) (fun _ => true) (fun c => Qr.in_ c i && !Qr.in_ c j) (yl_var rfl (MoC.up g2.b h1)) (by omega) ?_)).toB (any_map cs)) fun vm B3 H3 g3 rm => ?_
  · rintro c x B' hc eB hx
    refine ⟨_, ?_, fun H' Q _ q => q, fun _ _ => yt_yes, fun B2 eB2 _ => yl_andV (yl_call (c, i) (ya2 (yl_var rfl hx) (yl_var rfl h2)) trivial) fun _ => yl_notV (yl_call (c, j) (ya2 (yl_var rfl hx) (yl_var rfl h3)) trivial)⟩
    rfl
  refine yq_asg (M := pm) (R := isB (cs.any fun c => Qr.in_ c j && !Qr.in_ c i)) g3.e trivial ((yl_any (K := K) (yl_lcL (K := K) (r := isI) (rb := isB) (l := cs) (fun _ => true) (fun c => Qr.in_ c j && !Qr.in_ c i) (yl_var rfl (MoC.up (g2.b.trans g3.b) h1)) (by omega) ?_)).toB (any_map cs)) fun vl B4 H4 g4 rl => ?_
  · rintro c x B' hc eB hx
    refine ⟨_, ?_, fun H' Q _ q => q, fun _ _ => yt_yes, fun B2 eB2 _ => yl_andV (yl_call (c, j) (ya2 (yl_var rfl hx) (yl_var rfl h3)) trivial) fun _ => yl_notV (yl_call (c, i) (ya2 (yl_var rfl hx) (yl_var rfl h2)) trivial)⟩
    rfl
  have g24 := (g2.trans g3).trans g4
  refine yq_when (M := pm) g4.e trivial (yt_not (yt_B (yl_var (R := isB _) rfl (MoC.up (g3.b.trans g4.b) rb)))) (fun q B5 H5 g5 => ?_) (fun q B5 H5 g5 => ?_)
  · rw [Bool.not_eq_true'] at q
    refine y_fin k (g24.trans g5).to0 ((yl_n 0).to ?_)
    unfold Rd.relBy
    dsimp only
    rw [if_pos q]
  · rw [Bool.not_eq_false'] at q
    refine yq_when (M := pm) g5.e trivial (yt_B (yl_var (R := isB _) rfl (MoC.up (g4.b.trans g5.b) rm))) (fun q2 B6 H6 g6 => ?_) (fun q2 B6 H6 g6 => ?_)
    · refine y_fin k ((g24.trans g5).trans g6).to0 ((yl_if (R := isI (if (cs.any fun c => Qr.in_ c j && !Qr.in_ c i) = true then 1 else 4)) (yt_B (yl_var (R := isB _) rfl (MoC.up (g5.b.trans g6.b) rl))) (fun z => ?_) (fun z => ?_)).to ?_)
      · rw [if_pos z]; exact yl_n 1
      · rw [if_neg (by rw [z]; decide)]; exact yl_n 4
      · unfold Rd.relBy
        dsimp only
        rw [if_neg (c := (cs.any fun c => Qr.in_ c i && Qr.in_ c j) = false) (by rw [q]; decide), if_pos q2]
    · refine y_fin k ((g24.trans g5).trans g6).to0 ((yl_if (R := isI (if (cs.any fun c => Qr.in_ c j && !Qr.in_ c i) = true then 2 else 3)) (yt_B (yl_var (R := isB _) rfl (MoC.up (g5.b.trans g6.b) rl))) (fun z => ?_) (fun z => ?_)).to ?_)
      · rw [if_pos z]; exact yl_n 2
      · rw [if_neg (by rw [z]; decide)]; exact yl_n 3
      · unfold Rd.relBy
        dsimp only
        rw [if_neg (c := (cs.any fun c => Qr.in_ c i && Qr.in_ c j) = false) (by rw [q]; decide), if_neg (c := (cs.any fun c => Qr.in_ c i && !Qr.in_ c j) = true) (by rw [q2]; decide)]
end
end RdW

set_option Elab.async false
set_option autoImplicit false
set_option linter.all false
set_option maxRecDepth 100000
set_option maxHeartbeats 2000000
/-! RdA7: all relations of sets. -/
namespace RdW
open PySem L2
open Evl (Ex)
theorem all_map' {p : Nat → Bool} (n : Nat) : ((((List.range n).filter fun _ => true).map p).all id) = (List.range n).all p := by
  rw [List.filter_eq_self.mpr (fun _ _ => rfl), List.all_map]
  rfl
theorem list2_len (m : Nat) : (Qr.list 2 m).length ≤ 5 := by
  unfold Qr.list
  refine Nat.le_trans (List.length_filter_le _ _) ?_
  rw [List.length_range]
  decide
theorem choicesOf_len (left : List Nat) (first : Nat) : ∀ m, (Rd.choicesOf left first m).length ≤ 5 ^ m
  | 0 => Nat.le_refl _
  | m + 1 => by
    have ih := choicesOf_len left first m
    have := flatMap_len (g := fun r => (Qr.list 2 (left.getD (first + m) 0)).map fun t => r ++ [t]) (c := 5) (Rd.choicesOf left first m) fun x _ => by
      rw [List.length_map]
      exact list2_len _
    rw [Rd.choicesOf, Nat.pow_succ]
    have h2 := Nat.mul_le_mul_right 5 ih
    omega
theorem choicesOf_each (left : List Nat) (first : Nat) : ∀ m, ∀ r ∈ Rd.choicesOf left first m, r.length = m
  | 0, r, h => by
    rw [Rd.choicesOf, List.mem_singleton] at h
    subst h
    rfl
  | m + 1, r, h => by
    rw [Rd.choicesOf] at h
    obtain ⟨x, hx, h⟩ := List.mem_flatMap.mp h
    obtain ⟨t, _, rfl⟩ := List.mem_map.mp h
    rw [List.length_append, choicesOf_each left first m x hx]
    rfl
theorem allRels_each (left : List Nat) : ∀ n, ∀ r ∈ Rd.allRels left n, r.length = Rd.nPairs n
  | 0, r, h => by
    rw [Rd.allRels, List.mem_singleton] at h
    subst h
    rfl
  | n + 1, r, h => by
    rw [Rd.allRels] at h
    obtain ⟨x, hx, h⟩ := List.mem_flatMap.mp h
    obtain ⟨y, hy, rfl⟩ := List.mem_map.mp (List.mem_filter.mp h).1
    rw [List.length_append, allRels_each left n x hx, choicesOf_each _ _ _ _ hy, Rd.nPairs_succ]
theorem allRels_len (left : List Nat) : ∀ n, (Rd.allRels left n).length ≤ 5 ^ Rd.nPairs n
  | 0 => Nat.le_refl _
  | n + 1 => by
    have ih := allRels_len left n
    have := flatMap_len (g := fun r => ((Rd.choicesOf left r.length n).map (r ++ ·)).filter fun s => Rd.canHold s (n + 1)) (c := 5 ^ n) (Rd.allRels left n) fun x _ => by
      refine Nat.le_trans (List.length_filter_le _ _) ?_
      rw [List.length_map]
      exact choicesOf_len _ _ _
    rw [Rd.allRels, Rd.nPairs_succ, Nat.pow_add]
    exact Nat.le_trans this (Nat.mul_le_mul_right _ ih)
section
variable {P : Program} {w : World} {K : PySem.W.Frag} {mg : Str → Option Value} {base : Heap} {f : Addr} {fd : FuncData}

/-! can_hold -/
abbrev sCanHold : Stmt := topS 25
abbrev nCanHold : List Str := ["relations", "objects", "cells", "higher", "lower", "one", "cell"]
theorem scCanHold : FnScope nCanHold ["relations", "objects"] (defScope sCanHold) := ⟨rfl, rfl, rfl, by decide +kernel, rfl, by decide +kernel, by decide +kernel⟩
/-- the scope of the comprehension around the inner one -/
abbrev scOne : Scope := { kind := .function, names := [(".0", .local), ("one", .cell), ("any", .globalImplicit), ("cells", .cell)], isGenerator := false, isCoroutine := false }
abbrev spCanHold (K : PySem.W.Frag) : Sp := sp2 (TU K isI) isI (fun x => x.2 ≤ 4 ∧ x.1.length = Rd.nPairs x.2) fun x => isB (Rd.canHold x.1 x.2)
theorem cal_can_hold (T : Txt K mg) (cC : Cal P w K mg base 3 "cells_of" ["relations", "objects"] (spCellsOf K)) (cH : Cal P w K mg base 1 "has" ["some", "relation"] spHas) (cR : Cal P w K mg base 2 "relation_by" ["cells", "one", "other"] (spRelationBy K))
    (cP : Cal P w K mg base 1 "pair_number" ["lower", "higher"] spPairNumber) (F : Fun K "can_hold" "can_hold" sCanHold f fd) (hm : mg "can_hold" = some (.ref f)) : Cal P w K mg base 4 "can_hold" ["relations", "objects"] (spCanHold K) := by
  refine ⟨f, fd, hm, F.ok scCanHold sp2_len (fun cdv A outer s H vs Q E hr h => ?_), F.binds (fun _ _ _ _ _ _ us hl => match us, hl with | [_, _], _ => rfl), F.kp⟩
  obtain ⟨B, ⟨rels, n⟩, e, ⟨v1, _, rfl, h1, v2, _, rfl, h2, rfl⟩, ⟨hn, hl⟩, k⟩ := h
  replace hn : n ≤ 4 := hn
  replace hl : rels.length = Rd.nPairs n := hl
  have line : 1000 ≤ sizeLine := by decide
  have hcl : (Rd.cellsOf rels n).length ≤ 1000 := by
    unfold Rd.cellsOf
    refine Nat.le_trans (List.length_filter_le _ _) ?_
    rw [List.length_map, List.length_range]
    have h16 : 2 ^ n ≤ 16 := Nat.pow_le_pow_right (by decide) hn
    omega
  have hr1 : Room 1 _ := hr.mono (by decide)
  have hr2 : Room 2 _ := hr.mono (by decide)
  refine ⟨_, pss_cons (ps_set (i := 2) scCanHold.nd rfl (.inr rfl) (pe_cal cC hr (pa_cons (pv 0) (pa_cons (pv 1) pa_nil))))
    (pss_cons (ps_if (pt_not (pt_val (pe_callB (cr_all rfl) rfl T.b_all (by decide +kernel) (pa_cons
        (pe_lc (own := [("one", 5)]) (g := gName 5) rfl scCanHold.nd (pi_range1 rfl T.b_range (pa_cons (pv 1) pa_nil)) (blkOk_by (N := nCanHold) (sc := defScope sCanHold) (by decide +kernel)) (fun _ _ _ _ _ => pg_name (i := 5) scCanHold.nd rfl (Or.inr rfl)) (fun _ _ _ _ _ => pts_nil)
          (fun _ _ _ _ _ => pe_callB (any_K K rfl) rfl T.b_any (by decide +kernel) (pa_cons
            (pe_lc (own := [("cell", 6)]) (g := gName 6) (wi := iList K (tVar 2)) rfl scCanHold.nd (pi_list (pv 2)) (blkOk_by (N := nCanHold) (sc := scOne) (by decide +kernel)) (fun _ _ _ _ _ => pg_name (i := 6) scCanHold.nd rfl (Or.inl rfl)) (fun _ _ _ _ _ => pts_nil)
              (fun _ _ _ _ _ => pe_cal cH hr1 (pa_cons (pv 6) (pa_cons (pv 5) pa_nil)))) pa_nil))) pa_nil)))) (pss_one (ps_ret pe_bl)) pss_nil)
    (pss_cons (ps_for PassesOwn.never rfl (pi_range1 rfl T.b_range (pa_cons (pv 1) pa_nil)) (pg_name (i := 3) scCanHold.nd rfl (Or.inl rfl))
      (pss_one (ps_for PassesOwn.never rfl (pi_range1 rfl T.b_range (pa_cons (pv 3) pa_nil)) (pg_name (i := 4) scCanHold.nd rfl (Or.inl rfl))
        (pss_one (ps_if (pt_cmpR op_ne (pe_cal cR hr2 (pa_cons (pv 2) (pa_cons (pv 4) (pa_cons (pv 3) pa_nil)))) (pe_ix ix_tup (pv 0) (pe_cal cP hr1 (pa_cons (pv 4) (pa_cons (pv 3) pa_nil))) (fun _ _ => rfl)) (nomark _))
          (pss_one (ps_ret pe_bl)) pss_nil)))))
    (pss_one (ps_ret pe_bl)))), ?_⟩
  refine yq_asg (M := pm) (R := LL K isI (Rd.cellsOf rels n)) e trivial (yl_call (rels, n) (ya2 (yl_var rfl h1) (yl_var rfl h2)) ⟨hn, hl⟩) fun vc B2 H2 g2 rc => ?_
  refine yq_when (M := pm) (b := !((List.range n).all fun i => (Rd.cellsOf rels n).any fun c => Qr.in_ c i)) g2.e trivial (yt_not (yt_B ((yl_all (K := K) (yl_lcR (K := K) (rb := isB) (n := n) (fun _ => true) (fun i => (Rd.cellsOf rels n).any fun c => Qr.in_ c i) (ya1 (yl_var (R := isI n) rfl (MoC.up g2.b h2))) (by omega) (fun x => rfl) (fun _ _ _ _ => yt_yes) (fun i B' hi eB _ => ?_))).toB (all_map' n)))) (fun q B3 H3 g3 => ?_) (fun q B3 H3 g3 => ?_)
  · refine (yl_any (K := K) (yl_lcL (K := K) (r := isI) (rb := isB) (l := Rd.cellsOf rels n) (fun _ => true) (fun c => Qr.in_ c i) (yl_var rfl (MoC.up eB rc)) (by omega) ?_)).toB (any_map _)
    rintro c x B'' hc eB2 hx
    refine ⟨_, ?_, fun H' Q _ q => q, fun _ _ => yt_yes, fun B3 eB3 _ => yl_call (c, i) (ya2 (yl_var rfl hx) (yl_var rfl rfl)) trivial⟩
    rfl
  · rw [Bool.not_eq_true'] at q
    refine y_fin k (g2.trans g3).to0 ((yl_c (R := isB false) rfl).toB ?_)
    show false = Rd.canHold rels n
    unfold Rd.canHold
    rw [q, Bool.false_and]
  · rw [Bool.not_eq_false'] at q
    refine yq_forR (M := pm) (n := n) g3.e trivial (ya1 (yl_var rfl h2)) (by omega)
      (fun j σ B' H' => Gr pm B H B' H' ∧ Ex B2 B' ∧ ((List.range j).all fun j => (List.range j).all fun i => decide (Rd.relBy (Rd.cellsOf rels n) i j = Rd.at0 rels (Rd.nPairs j + i))) = true ∧ ∃ x3 x4, σ = [some v1, some v2, some vc, x3, x4, none, none]) ?_ ?_ ?_
    · exact fun B4 H4 g4 => ⟨(g2.trans g3).trans g4, g3.b.trans g4.b, rfl, none, none, rfl⟩
    · rintro j σ' B' H' N hj e' ⟨g', eb', ha, x3, x4, rfl⟩ hN
      refine y_forR (M := pm) (n := j) e' trivial (ya1 (yl_var rfl rfl)) (by omega)
        (fun i σ B' H' => Gr pm B H B' H' ∧ Ex B2 B' ∧ ((List.range i).all fun i => decide (Rd.relBy (Rd.cellsOf rels n) i j = Rd.at0 rels (Rd.nPairs j + i))) = true ∧ ∃ x4, σ = [some v1, some v2, some vc, some (.int (j : Int)), x4, none, none]) ?_ ?_ ?_
      · exact fun B4 H4 g4 => ⟨g'.trans g4, eb'.trans g4.b, rfl, x4, rfl⟩
      · rintro i σ'' B4 H4 N2 hi e4 ⟨g4, eb4, hb, x4', rfl⟩ hN2
        have hlt := Rd.pairs_lt hi hj
        have dn : ∀ {m n : Nat}, decide ((m : Int) = (n : Int)) = decide (m = n) := fun {m n} => decide_eq_decide.mpr (by omega)
        refine y_if (M := pm) e4 trivial (yt_test (yl_ne (yl_call (Rd.cellsOf rels n, i, j) (ya3 (yl_var rfl (MoC.up eb4 rc)) (yl_var rfl rfl) (yl_var rfl rfl)) hcl).z (yl_ixT (K := K) (r := isI) (l := rels) (yl_var rfl (MoC.up g4.b h1)) (yl_call (i, j) (ya2 (yl_var rfl rfl) (yl_var rfl rfl)) (by show j ≤ 4; omega)).z (atI_n (at0_get (i := Rd.nPairs j + i) (by omega)))).z)) (fun q2 B5 H5 g5 => ?_) (fun q2 B5 H5 g5 => ?_)
        · rw [Bool.not_eq_true', dn] at q2
          refine y_fin k (g4.trans g5).to0 ((yl_c (R := isB false) rfl).toB ?_)
          show false = Rd.canHold rels n
          unfold Rd.canHold
          have hB : ((List.range n).all fun j => (List.range j).all fun i => decide (Rd.relBy (Rd.cellsOf rels n) i j = Rd.at0 rels (Rd.nPairs j + i))) = false := all_false hj (all_false hi q2)
          rw [hB, Bool.and_false]
        · rw [Bool.not_eq_false', dn] at q2
          exact hN2 _ B5 H5 g5.e ⟨g4.trans g5, eb4.trans g5.b, by rw [all_snoc, hb, q2]; rfl, some (.int (i : Int)), rfl⟩
      · rintro σ'' B4 H4 e4 ⟨g4, eb4, hb, x4', rfl⟩
        exact hN _ B4 H4 e4 ⟨g4, eb4, by rw [all_snoc, ha, hb]; rfl, some (.int (j : Int)), x4', rfl⟩
    · rintro σ' B' H' e' ⟨g', eb', ha, x3, x4, rfl⟩
      refine y_fin k g'.to0 ((yl_c (R := isB true) rfl).toB ?_)
      show true = Rd.canHold rels n
      unfold Rd.canHold
      rw [q, ha]
      rfl

/-! choices -/
abbrev sChoices : Stmt := topS 26
abbrev nChoices : List Str := ["left", "first", "many", "found", "at", "longer", "relations", "relation"]
theorem scChoices : FnScope nChoices ["left", "first", "many"] (defScope sChoices) := ⟨rfl, rfl, rfl, by decide +kernel, rfl, by decide +kernel, by decide +kernel⟩
abbrev spChoices (K : PySem.W.Frag) : Sp := sp3 (LL K isI) isI isI (fun x => x.2.2 ≤ 3 ∧ x.2.1 + x.2.2 ≤ x.1.length ∧ x.1.length ≤ 6) fun x => LL K (TU K isI) (Rd.choicesOf x.1 x.2.1 x.2.2)
theorem cal_choices (T : Txt K mg) (cM : Cal P w K mg base 2 "members" ["kind", "some"] (spMembers K)) (F : Fun K "choices" "choices" sChoices f fd) (hm : mg "choices" = some (.ref f)) : Cal P w K mg base 3 "choices" ["left", "first", "many"] (spChoices K) := by
  refine ⟨f, fd, hm, F.ok scChoices sp3_len (fun cdv A outer s H vs Q E hr h => ?_), F.binds (fun _ _ _ _ _ _ us hl => match us, hl with | [_, _, _], _ => rfl), F.kp⟩
  obtain ⟨B, ⟨left, first, m⟩, e, ⟨v1, _, rfl, h1, v2, _, rfl, h2, v3, _, rfl, h3, rfl⟩, ⟨hm3, hsum, hl6⟩, k⟩ := h
  replace hm3 : m ≤ 3 := hm3
  replace hsum : first + m ≤ left.length := hsum
  replace hl6 : left.length ≤ 6 := hl6
  replace h1 : LL K isI left v1 B := h1
  have line : 100000 ≤ sizeLine := by decide
  have hc : ∀ n, n ≤ 3 → 5 ^ n ≤ 125 := fun n hn => Nat.pow_le_pow_right (by decide) hn
  refine ⟨_, pss_cons (ps_set (i := 3) scChoices.nd rfl (.inl rfl) (pe_lst (pa_cons (pe_tup pa_nil) pa_nil)))
    (pss_cons (ps_for PassesOwn.never rfl (pi_range2 rfl T.b_range (pa_cons (pv 1) (pa_cons (pe_op op_add (pv 1) (pv 2)) pa_nil))) (pg_name (i := 4) scChoices.nd rfl (Or.inl rfl))
      (pss_cons (ps_set (i := 5) scChoices.nd rfl (.inl rfl) (pe_lst pa_nil))
      (pss_cons (ps_for PassesOwn.never rfl (pi_list (pv 3)) (pg_name (i := 6) scChoices.nd rfl (Or.inr rfl))
        (pss_one (ps_expr (pe_bm PySem.F.plainAttrs_list PySem.F.slot_list_extend PySem.F.type_list_extend mt_extend (pv 5) (pa_cons
          (pe_lc (own := [("relation", 7)]) (g := gName 7) rfl scChoices.nd (pi_list (pe_cal cM hr (pa_cons (pe_cst T.SETS) (pa_cons (pe_ix ix_list (pv 0) (pv 4) (fun _ _ => rfl)) pa_nil)))) (blkOk_by (N := nChoices) (sc := defScope sChoices) (by decide +kernel)) (fun _ _ _ _ _ => pg_name (i := 7) scChoices.nd rfl (Or.inl rfl)) (fun _ _ _ _ _ => pts_nil)
            (fun _ _ _ _ _ => pe_op (cat_K K) (pv 6) (pe_tup (pa_cons (pv 7) pa_nil)))) pa_nil)))))
      (pss_one (ps_set (i := 3) scChoices.nd rfl (.inl rfl) (pv 5))))))
    (pss_one (ps_ret (pv 3)))), ?_⟩
  refine yq_asg (M := pm) (R := LL K (TU K isI) [[]]) e trivial (yl_lst1 (r := TU K isI) yl_tup0) fun vf B1 H1 g1 rf => ?_
  refine yq_forR2 (M := pm) (lo := first) (n := m) g1.e trivial (ya2 (yl_var rfl h2) ((yl_add (yl_var (R := isZ first) rfl h2) (yl_var (R := isZ m) rfl h3)).i (by omega))) (by omega)
    (fun i σ B' H' => Gr pm B H B' H' ∧ ∃ vf x4 x5 x6, σ = [some v1, some v2, some v3, some vf, x4, x5, x6, none] ∧ LL K (TU K isI) (Rd.choicesOf left first i) vf B') ?_ ?_ ?_
  · exact fun B2 H2 g2 => ⟨g1.trans g2, vf, none, none, none, rfl, MoC.up g2.b rf⟩
  · rintro i σ1 B1 H1 N1 hi e1 ⟨gg1, vf, x4, x5, x6, rfl, rf⟩ hN1
    have hfl := choicesOf_len left first i
    refine yq_raw fun p hp => ?_
    have hb : B1 p = none := Ex.none e1 hp
    have hp0 : H p = none := Ex.none gg1.to0.h hp
    refine yq_forL (M := pm) (K := K) (r := TU K isI) (l := Rd.choicesOf left first i) (B := B1) (Gr0.raw e1 hp).e trivial (yl_var rfl rf)
      (fun j σ B' H' => Gr pm B H B' H' ∧ B' p = none ∧ ∃ x6 acc, σ = [some v1, some v2, some v3, some vf, some (.int ((first + i : Nat) : Int)), some (.ref p), x6, none] ∧ H' p = some (.lst acc) ∧
        Al (TU K isI) B' (((Rd.choicesOf left first i).take j).flatMap fun r => (Qr.list 2 (left.getD (first + i) 0)).map fun t => r ++ [t]) acc) ?_ ?_ ?_
    · intro B2 H2 g2
      obtain ⟨b2, h2'⟩ := g2.keep (fun z => z) hb upd_same
      exact ⟨(gg1.trans (Gr.of0 trivial (Gr0.raw e1 hp))).trans g2, b2, x6, [], rfl, h2', trivial⟩
    · rintro j rels x σ2 B2 H2 N2 hj hx e2 ⟨gg2, b2, x6, acc, rfl, hp2, al2⟩ hN2
      have hrl := choicesOf_each left first i rels (List.mem_of_getElem? hj)
      have key := flatMap_len (g := fun r => (Qr.list 2 (left.getD (first + i) 0)).map fun t => r ++ [t]) (c := 5) ((Rd.choicesOf left first i).take (j + 1)) fun x _ => by
        rw [List.length_map]
        exact list2_len _
      have k2 : ((Rd.choicesOf left first i).take (j + 1)).length ≤ 125 := by
        rw [List.length_take]
        have := hc i (by omega)
        omega
      rw [flatMap_take hj, List.length_append] at key
      refine y_ext (M := pm) (r := TU K isI) (l := (Qr.list 2 (left.getD (first + i) 0)).map fun t => rels ++ [t]) e2 trivial (fun z => z) rfl b2 hp2 ?_ ?_ fun ws B5 H5 g5 b5 h5 al5 => ?_
      · refine (yl_lcL (K := K) (r := isI) (rb := TU K isI) (l := Qr.list 2 (left.getD (first + i) 0)) (fun _ => true) (fun t => rels ++ [t]) (yl_call (2, left.getD (first + i) 0) (ya2 (yl_n 2) (yl_ixL (K := K) (r := isI) (l := left) (yl_var rfl (MoC.up gg2.b h1)) (yl_var (R := isZ ((first + i : Nat) : Int)) rfl rfl) (atI_n (at0_get (by omega))))) (show 2 < 4 by decide)) ?_ ?_).imp fun v _ _ q => by
            rw [List.filter_eq_self.mpr (fun _ _ => rfl)] at q
            exact q
        · have := list2_len (left.getD (first + i) 0)
          omega
        · rintro t y B6 ht eB hy
          refine ⟨_, ?_, fun H' Q _ q => q, fun _ _ => yt_yes, fun B7 eB7 _ => yl_catT (K := K) (r := isI) (yl_var rfl (MoC.up (eB.trans eB7) hx)) (yl_tup1 (r := isI) (yl_var rfl hy)) ?_⟩
          · rfl
          · rw [hrl]
            show i + 1 ≤ sizeLine
            omega
      · have := al2.length
        omega
      · refine hN2 _ B5 _ g5.b (g5.e.mut b5) ⟨(gg2.trans g5).mut (fun z => z) hp0 b5, b5, some x, acc ++ ws, rfl, upd_same, ?_⟩
        rw [flatMap_take hj]
        exact (al2.up g5.b).append al5
    · rintro σ2 B2 H2 e2 ⟨gg2, b2, x6, acc, rfl, hp2, al2⟩
      rw [List.take_length] at al2
      exact ⟨.ref p, rfl, hN1 _ (upd B2 p (.lst acc)) H2 (gg2.frz (fun z => z) hp0 b2 hp2).e ⟨gg2.frz (fun z => z) hp0 b2 hp2, .ref p, some (.int ((first + i : Nat) : Int)), some (.ref p), x6, rfl, ll_new al2 b2⟩⟩
  · rintro σ' B' H' e' ⟨gg, vf, x4, x5, x6, rfl, rf⟩
    exact y_fin k gg.to0 (yl_var rfl rf)

/-! all_relations -/
abbrev sAllRelations : Stmt := topS 27
abbrev nAllRelations : List Str := ["objects", "left", "found", "last", "longer", "relations", "some", "more", "one"]
theorem scAllRelations : FnScope nAllRelations ["objects", "left"] (defScope sAllRelations) := ⟨rfl, rfl, rfl, by decide +kernel, rfl, by decide +kernel, by decide +kernel⟩
abbrev spAllRelations (K : PySem.W.Frag) : Sp := sp2 isI (LL K isI) (fun x => x.1 ≤ 4 ∧ x.2.length = Rd.nPairs x.1) fun x => LL K (TU K isI) (Rd.allRels x.2 x.1)
theorem cal_all_relations (T : Txt K mg) (cC : Cal P w K mg base 3 "choices" ["left", "first", "many"] (spChoices K)) (cH : Cal P w K mg base 4 "can_hold" ["relations", "objects"] (spCanHold K)) (F : Fun K "all_relations" "all_relations" sAllRelations f fd) (hm : mg "all_relations" = some (.ref f)) :
    Cal P w K mg base 5 "all_relations" ["objects", "left"] (spAllRelations K) := by
  refine ⟨f, fd, hm, F.ok scAllRelations sp2_len (fun cdv A outer s H vs Q E hr h => ?_), F.binds (fun _ _ _ _ _ _ us hl => match us, hl with | [_, _], _ => rfl), F.kp⟩
  obtain ⟨B, ⟨m, left⟩, e, ⟨v1, _, rfl, h1, v2, _, rfl, h2, rfl⟩, ⟨hm4, hleft⟩, k⟩ := h
  replace hm4 : m ≤ 4 := hm4
  replace hleft : left.length = Rd.nPairs m := hleft
  replace h2 : LL K isI left v2 B := h2
  have line : 100000 ≤ sizeLine := by decide
  have hl6 : left.length ≤ 6 := by
    rw [hleft]
    exact Nat.le_trans (nPairs_le hm4) (by decide)
  have h56 : ∀ n, n ≤ 4 → 5 ^ Rd.nPairs n ≤ 15625 := fun n hn => Nat.pow_le_pow_right (by decide) (Nat.le_trans (nPairs_le hn) (by decide) : Rd.nPairs n ≤ 6)
  have h53 : ∀ n, n ≤ 3 → 5 ^ n ≤ 125 := fun n hn => Nat.pow_le_pow_right (by decide) hn
  have hr3 : Room 3 _ := hr.mono (by decide)
  refine ⟨_, pss_cons (ps_set (i := 2) scAllRelations.nd rfl (.inl rfl) (pe_lst (pa_cons (pe_tup pa_nil) pa_nil)))
    (pss_cons (ps_for PassesOwn.never rfl (pi_range1 rfl T.b_range (pa_cons (pv 0) pa_nil)) (pg_name (i := 3) scAllRelations.nd rfl (Or.inr rfl))
      (pss_cons (ps_set (i := 4) scAllRelations.nd rfl (.inl rfl) (pe_lst pa_nil))
      (pss_cons (ps_for PassesOwn.never rfl (pi_list (pv 2)) (pg_name (i := 5) scAllRelations.nd rfl (Or.inr rfl))
        (pss_cons (ps_setLc (i := 6) (own := [("more", 7)]) (g := gName 7) rfl scAllRelations.nd rfl rfl (sw_true rfl rfl rfl (by decide +kernel)) (pi_list (pe_cal cC hr3 (pa_cons (pv 1) (pa_cons (pe_callB call_len rfl T.b_len (by decide +kernel) (pa_cons (pv 5) pa_nil)) (pa_cons (pv 3) pa_nil))))) (blkOk_by (N := nAllRelations) (sc := defScope sAllRelations) (by decide +kernel)) (fun _ _ _ _ _ => pg_name (i := 7) scAllRelations.nd rfl (Or.inl rfl)) (fun _ _ _ _ _ => pts_nil)
            (fun _ _ _ _ _ => pe_op (cat_K K) (pv 5) (pv 7)))
        (pss_one (ps_expr (pe_bm PySem.F.plainAttrs_list PySem.F.slot_list_extend PySem.F.type_list_extend mt_extend (pv 4) (pa_cons
          (pe_lc (own := [("one", 8)]) (g := gName 8) rfl scAllRelations.nd (pi_list (pv 6)) (blkOk_by (N := nAllRelations) (sc := defScope sAllRelations) (by decide +kernel)) (fun _ _ _ _ _ => pg_name (i := 8) scAllRelations.nd rfl (Or.inl rfl))
            (fun _ _ _ _ _ => pts_one (pt_val (pe_cal cH hr (pa_cons (pv 8) (pa_cons (pe_op op_add (pv 3) pe_int) pa_nil))))) (fun _ _ _ _ _ => pv 8)) pa_nil))))))
      (pss_one (ps_set (i := 2) scAllRelations.nd rfl (.inl rfl) (pv 4))))))
    (pss_one (ps_ret (pv 2)))), ?_⟩
  refine yq_asg (M := pm) (R := LL K (TU K isI) [[]]) e trivial (yl_lst1 (r := TU K isI) yl_tup0) fun vf B1 H1 g1 rf => ?_
  refine yq_forR (M := pm) (n := m) g1.e trivial (ya1 (yl_var rfl h1)) (by omega)
    (fun i σ B' H' => Gr pm B H B' H' ∧ ∃ vf x3 x4 x5 x6, σ = [some v1, some v2, some vf, x3, x4, x5, x6, none, none] ∧ LL K (TU K isI) (Rd.allRels left i) vf B') ?_ ?_ ?_
  · exact fun B2 H2 g2 => ⟨g1.trans g2, vf, none, none, none, none, rfl, MoC.up g2.b rf⟩
  · rintro last σ1 B1 H1 N1 hlast e1 ⟨gg1, vf, x3, x4, x5, x6, rfl, rf⟩ hN1
    have hfl := allRels_len left last
    have hfl2 := h56 last (by omega)
    refine yq_raw fun p hp => ?_
    have hb : B1 p = none := Ex.none e1 hp
    have hp0 : H p = none := Ex.none gg1.to0.h hp
    refine yq_forL (M := pm) (K := K) (r := TU K isI) (l := Rd.allRels left last) (B := B1) (Gr0.raw e1 hp).e trivial (yl_var rfl rf)
      (fun j σ B' H' => Gr pm B H B' H' ∧ B' p = none ∧ ∃ x5 x6 acc, σ = [some v1, some v2, some vf, some (.int (last : Int)), some (.ref p), x5, x6, none, none] ∧ H' p = some (.lst acc) ∧
        Al (TU K isI) B' (((Rd.allRels left last).take j).flatMap fun r => ((Rd.choicesOf left r.length last).map (r ++ ·)).filter fun s => Rd.canHold s (last + 1)) acc) ?_ ?_ ?_
    · intro B2 H2 g2
      obtain ⟨b2, h2'⟩ := g2.keep (fun z => z) hb upd_same
      exact ⟨(gg1.trans (Gr.of0 trivial (Gr0.raw e1 hp))).trans g2, b2, x5, x6, [], rfl, h2', trivial⟩
    · rintro j rels x σ2 B2 H2 N2 hj hx e2 ⟨gg2, b2, x5, x6, acc, rfl, hp2, al2⟩ hN2
      have hrl := allRels_each left last rels (List.mem_of_getElem? hj)
      have hch := choicesOf_len left rels.length last
      have hch3 := h53 last (by omega)
      have hsum : rels.length + last ≤ left.length := by
        rw [hrl, hleft, ← Rd.nPairs_succ]
        exact nPairs_le (by omega)
      have hrl3 : rels.length ≤ 6 := by omega
      refine yq_asg (M := pm) (R := LL K (TU K isI) ((Rd.choicesOf left rels.length last).map (rels ++ ·))) e2 trivial ((yl_lcL (K := K) (r := TU K isI) (rb := TU K isI) (l := Rd.choicesOf left rels.length last) (fun _ => true) (rels ++ ·) (yl_call (left, rels.length, last) (ya3 (yl_var rfl (MoC.up gg2.b h2)) (yl_lenT (K := K) (r := isI) (yl_var rfl hx)) (yl_var rfl rfl)) ⟨by show last ≤ 3; omega, hsum, hl6⟩) (by omega) ?_).imp fun v _ _ q => by
            rw [List.filter_eq_self.mpr (fun _ _ => rfl)] at q
            exact q) fun vs B3 H3 g3 rs => ?_
      · rintro t y B6 ht eB hy
        have htl := choicesOf_each _ _ _ _ ht
        refine ⟨_, ?_, fun H' Q _ q => q, fun _ _ => yt_yes, fun B7 eB7 _ => yl_catT (K := K) (r := isI) (yl_var rfl (MoC.up (eB.trans eB7) hx)) (yl_var rfl (MoC.up eB7 hy)) (by omega)⟩
        rfl
      obtain ⟨b3, hp3⟩ := g3.keep (fun z => z) b2 hp2
      have key := flatMap_len (g := fun r => ((Rd.choicesOf left r.length last).map (r ++ ·)).filter fun s => Rd.canHold s (last + 1)) (c := 125) ((Rd.allRels left last).take (j + 1)) fun x _ => by
        refine Nat.le_trans (List.length_filter_le _ _) ?_
        rw [List.length_map]
        exact Nat.le_trans (choicesOf_len _ _ _) hch3
      have k2 : ((Rd.allRels left last).take (j + 1)).length ≤ 5 ^ Rd.nPairs 3 := by
        rw [List.length_take]
        have := Nat.pow_le_pow_right (show 0 < 5 by decide) (nPairs_le (show last ≤ 3 by omega))
        omega
      have k3 : 5 ^ Rd.nPairs 3 = 125 := by decide
      rw [flatMap_take hj, List.length_append] at key
      refine y_ext (M := pm) (r := TU K isI) (l := ((Rd.choicesOf left rels.length last).map (rels ++ ·)).filter fun s => Rd.canHold s (last + 1)) g3.e trivial (fun z => z) rfl b3 hp3 ?_ ?_ fun ws B5 H5 g5 b5 h5 al5 => ?_
      · refine (yl_lcL (K := K) (r := TU K isI) (rb := TU K isI) (l := (Rd.choicesOf left rels.length last).map (rels ++ ·)) (fun s => Rd.canHold s (last + 1)) id (yl_var rfl rs) (by rw [List.length_map]; omega) ?_).imp fun v _ _ q => by
            rw [List.map_id] at q
            exact q
        rintro t y B6 ht eB hy
        obtain ⟨t', ht', rfl⟩ := List.mem_map.mp ht
        have htl := choicesOf_each _ _ _ _ ht'
        refine ⟨_, ?_, fun H' Q _ q => q, fun B7 eB7 => yt_B (yl_call (rels ++ t', last + 1) (ya2 (yl_var rfl (MoC.up eB7 hy)) ((yl_add (yl_var (R := isZ last) rfl rfl) (yl_zc 1)).i (by omega))) ⟨by show last + 1 ≤ 4; omega, ?_⟩), fun B7 eB7 _ => yl_var rfl (MoC.up eB7 hy)⟩
        · rfl
        · show (rels ++ t').length = Rd.nPairs (last + 1)
          rw [List.length_append, Rd.nPairs_succ, hrl, htl]
      · have := al2.length
        omega
      · refine hN2 _ B5 _ (g3.b.trans g5.b) (g5.e.mut b5) ⟨((gg2.trans g3).trans g5).mut (fun z => z) hp0 b5, b5, some x, some vs, acc ++ ws, rfl, upd_same, ?_⟩
        rw [flatMap_take hj]
        exact (al2.up (g3.b.trans g5.b)).append al5
    · rintro σ2 B2 H2 e2 ⟨gg2, b2, x5, x6, acc, rfl, hp2, al2⟩
      rw [List.take_length] at al2
      exact ⟨.ref p, rfl, hN1 _ (upd B2 p (.lst acc)) H2 (gg2.frz (fun z => z) hp0 b2 hp2).e ⟨gg2.frz (fun z => z) hp0 b2 hp2, .ref p, some (.int (last : Int)), some (.ref p), x5, x6, rfl, ll_new al2 b2⟩⟩
  · rintro σ' B' H' e' ⟨gg, vf, x3, x4, x5, x6, rfl, rf⟩
    exact y_fin k gg.to0 (yl_var rfl rf)
end
end RdW

set_option Elab.async false
set_option autoImplicit false
set_option linter.all false
set_option maxRecDepth 100000
set_option maxHeartbeats 2000000
/-! RdS: sorted of scenarios. -/
namespace RdW
open PySem L2
open Evl (Ex)
/-- a scenario: relations, picture -/
abbrev Sc := List Nat × List Nat
abbrev RS (K : PySem.W.Frag) : Sc → RP := PR K (TU K isI) (LL K isI)
def dInts (l : List Nat) : List PyData := (Rd.zints l).map PyData.int
def enc (x : Sc) : PyData := .tuple [.tuple (dInts x.1), .list (dInts x.2)]
def leS : Sc → Sc → Bool := PySem.W.dataLe false enc

/-! ### the order -/
theorem lt_asymm' : ∀ {a b : List Int}, a < b → ¬ b < a
  | [], [], h, _ => List.not_lt_nil _ h
  | [], _ :: _, _, h2 => List.not_lt_nil _ h2
  | _ :: _, [], h, _ => List.not_lt_nil _ h
  | x :: a, y :: b, h, h2 => by
    have k1 := List.cons_lt_cons_iff.mp h
    have k2 := List.cons_lt_cons_iff.mp h2
    clear h h2
    rcases k1 with k1 | ⟨e1, k1⟩
    · rcases k2 with k2 | ⟨e2, _⟩ <;> omega
    · rcases k2 with k2 | ⟨_, k2⟩
      · omega
      · exact lt_asymm' k1 k2
theorem lt_tri : ∀ {a b : List Int}, ¬ a < b → ¬ b < a → a = b
  | [], [], _, _ => rfl
  | [], y :: b, h, _ => absurd (List.nil_lt_cons y b) h
  | x :: a, [], _, h => absurd (List.nil_lt_cons x a) h
  | x :: a, y :: b, h, h2 => by
    rw [List.cons_lt_cons_iff] at h h2
    have e : x = y := by
      have h1 : ¬ x < y := fun q => h (.inl q)
      have h3 : ¬ y < x := fun q => h2 (.inl q)
      omega
    subst e
    rw [lt_tri (fun q => h (.inr ⟨rfl, q⟩)) (fun q => h2 (.inr ⟨rfl, q⟩))]
theorem ints_inj : ∀ {a b : List Nat}, Rd.zints a = Rd.zints b → a = b
  | [], [], _ => rfl
  | [], _ :: _, h => nomatch h
  | _ :: _, [], h => nomatch h
  | x :: a, y :: b, h => by
    injection h with h1 h2
    have h1' : (x : Int) = (y : Int) := h1
    have e : x = y := by omega
    subst e
    rw [ints_inj h2]
theorem eqv_ints : ∀ (a b : List Int), PyData.eqvAll (a.map .int) (b.map .int) = decide (a = b)
  | [], [] => by simp [PyData.eqvAll]
  | [], y :: b => by simp [PyData.eqvAll]
  | x :: a, [] => by simp [PyData.eqvAll]
  | x :: a, y :: b => by
    rw [List.map_cons, List.map_cons, PyData.eqvAll, eqv_ints a b]
    simp only [PyData.eqv]
    by_cases h : x = y
    · subst h; simp
    · have : (x == y) = false := by simpa using h
      simp [this, h]
theorem alike_enc (x y : Sc) : PySem.W.alike (enc x) (enc y) = true := by
  simp only [enc, dInts, PySem.W.alike, PySem.W.alikeAll, PySem.W.alike_ints, Bool.and_self]
theorem lt_enc {x y : Sc} (h : x.1 ≠ y.1) : PySem.W.dataLt (enc x) (enc y) = decide (Rd.zints x.1 < Rd.zints y.1) := by
  unfold enc
  rw [PySem.W.dataLt_pair (by simp only [dInts, PySem.W.alike, PySem.W.alike_ints]) (by simp only [dInts, PySem.W.alike, PySem.W.alike_ints])]
  have e : PyData.eqv (.tuple (dInts x.1)) (.tuple (dInts y.1)) = false := by
    show PyData.eqv (.tuple _) (.tuple _) = false
    rw [PyData.eqv]
    unfold dInts
    rw [eqv_ints]
    exact decide_eq_false fun q => h (ints_inj q)
  rw [e, if_neg (by decide)]
  exact PySem.W.dataLt_ints _ _
theorem le_enc {x y : Sc} (h : x.1 ≠ y.1) : leS x y = !decide (Rd.zints y.1 < Rd.zints x.1) := by
  show (!PySem.W.dataLt (enc y) (enc x)) = _
  rw [lt_enc (fun e => h e.symm)]
theorem sort_scen (b : Qr02.Book) {l : List Sc} (h : l.Perm (Rd.scenP b)) : l.mergeSort leS = Rd.scenP b := by
  have tot : PySem.W.TotalLe leS := PySem.W.sortLe_total (PyProof.Rows.listOrd PyProof.Rows.itemOrd) false fun b => PySem.W.keyToks (enc b)
  have hp := (List.mergeSort_perm l leS).trans h
  have mem : ∀ a ∈ Rd.scenP b, a.2 = Rd.picOf b a.1 := fun a ha => by
    obtain ⟨rs, _, rfl⟩ := List.mem_map.mp ha
    rfl
  refine List.Perm.eq_of_pairwise (le := fun a b => leS a b = true) ?_ (PySem.W.sort_pairwise tot l) ?_ hp
  · intro x y hx hy h1 h2
    have hx' := hp.mem_iff.mp hx
    by_cases e : x.1 = y.1
    · exact Prod.ext e (by rw [mem x hx', mem y hy, e])
    · rw [le_enc e, Bool.not_eq_true'] at h1
      rw [le_enc (fun q => e q.symm), Bool.not_eq_true'] at h2
      exact absurd (ints_inj (lt_tri (of_decide_eq_false h2) (of_decide_eq_false h1))) e
  · unfold Rd.scenP
    rw [List.pairwise_map]
    refine (Rd.scen_sorted b).imp fun {u v} q => ?_
    have e : u ≠ v := fun e => by
      subst e
      exact lt_asymm' q q
    rw [le_enc e, Bool.not_eq_true']
    exact decide_eq_false (lt_asymm' q)

/-! ### the call -/
def rSortedS (K : PySem.W.Frag) : List V → Hp → VK → Prop := fun vs H Q => ∃ (B : Hp) (a : Addr) (l : List Sc), Ex B H ∧ vs = [V.ref a] ∧ LL K (RS K) l (.ref a) B ∧ l.length ≤ sizeLine ∧ ∀ p ys, H p = none → Al (RS K) B (l.mergeSort leS) ys → Q (.ref p) (upd H p (.lst ys))
theorem al_vals {H : Hp} : ∀ {l : List Nat} {xs : List V} {its : List Value}, Al isI H l xs → Vals xs its → ∀ h : Heap, ReadsAll h its (dInts l) []
  | [], [], its, _, r, h => by
    cases r
    exact .nil
  | a :: l, v :: vs, its, ha, r, h => by
    cases r with
    | cons r t =>
      have e : v = .int (a : Int) := ha.1
      subst e
      obtain ⟨k, rfl⟩ := r
      exact ReadsAll.cons (as := []) (bs := []) (.int _ k) (al_vals ha.2 t h)
  | [], _ :: _, _, h, _, _ => h.elim
  | _ :: _, [], _, h, _, _ => h.elim
theorem each_al {P : Value → Sc → Prop} {K : PySem.W.Frag} {H : Hp} : ∀ {l : List Sc} {xs : List V} {its : List Value}, Al (RS K) H l xs → Vals xs its → (∀ b x u, RS K b x H → RelV x u → P u b) → PySem.W.EachIs P its l
  | [], [], its, _, r, _ => by
    cases r
    exact .nil
  | a :: l, v :: vs, its, ha, r, h => by
    cases r with
    | cons r t => exact .cons (h a v _ ha.1 r) (each_al ha.2 t h)
  | [], _ :: _, _, h, _, _ => h.elim
  | _ :: _, [], _, h, _, _ => h.elim
theorem each_back {K : PySem.W.Frag} {H : Hp} : ∀ {l : List Sc} {out : List Value}, PySem.W.EachIs (fun u b => ∃ x, RelV x u ∧ RS K b x H) out l → ∃ ys, Vals ys out ∧ Al (RS K) H l ys
  | [], _, h => by
    cases h
    exact ⟨[], .nil, trivial⟩
  | b :: l, _, h => by
    cases h with
    | cons h1 h2 =>
      obtain ⟨x, r, hx⟩ := h1
      obtain ⟨ys, r2, h3⟩ := each_back h2
      exact ⟨x :: ys, .cons r r2, hx, h3⟩
theorem depth_enc (x : Sc) : (enc x).depth = 2 := by
  have e1 : PyData.depthAll ((Rd.zints x.1).map PyData.int) = 0 := PySem.W.depth_ints _
  have e2 : PyData.depthAll ((Rd.zints x.2).map PyData.int) = 0 := PySem.W.depth_ints _
  simp only [enc, dInts, PyData.depth, PyData.depthAll, e1, e2]
  rfl
theorem cr_sortedS {X : Cx} (hu : X.A.units + 64 < cLine) : CallR X (.builtin "sorted") (rSortedS X.K) := by
  intro pins s σ H vs us Q I r h
  obtain ⟨B, a, l, eB, rfl, ⟨a', xs, ea, hs, hal⟩, hlen, q⟩ := h
  cases ea
  obtain ⟨its, rv, hl, hz⟩ := I.list (.of (eB _ _ hs) : SqL X.K H a xs)
  rw [Vals.ref1 r]
  have rd : ∀ b x u, RS X.K b x B → RelV x u → ∃ as, Reads s.heap u (enc b) as := by
    intro b x u hb
    have hb := MoC.up eB hb
    revert hb
    rintro ⟨t, y, z, rfl, ht, ⟨t2, ys, rfl, ht2, hys⟩, ⟨l2, zs, rfl, hl2, hzs⟩⟩ ru
    cases ru
    obtain ⟨it1, r1, ⟨o1, g1, c1, n1, d1⟩, _⟩ := I.tuple ht
    obtain ⟨it2, r2, ⟨o2, g2, c2, n2, d2⟩, _⟩ := I.tuple ht2
    obtain ⟨it3, r3, ⟨o3, n3, g3, c3, _, d3⟩, _⟩ := I.list (.of hl2 : SqL X.K H l2 zs)
    obtain ⟨u1, u2, rfl, ru1, ru2⟩ := vals2 r1
    cases ru1
    cases ru2
    have t1 : Reads s.heap (.ref t2) (.tuple (dInts b.1)) [] := .tuple g2 c2 d2 (by simpa using al_vals hys r2 s.heap)
    have t3 : Reads s.heap (.ref l2) (.list (dInts b.2)) [l2] := .list g3 c3 d3 (by simpa using al_vals hzs r3 s.heap)
    exact ⟨_, .tuple g1 c1 d1 (.cons t1 (.cons t3 .nil))⟩
  refine PySem.W.sorted_data (enc := enc) (bs := l) (R := fun u b => ∃ x, RelV x u ∧ RS X.K b x B) hl.isList (each_al hal rv fun b x u hb ru => ⟨x, ru, hb⟩) (each_al hal rv rd) (.of alike_enc) (.tuples fun b => ⟨_, _, rfl⟩) hlen
    (fun b _ => by rw [depth_enc]; omega) fun out ho he => ?_
  obtain ⟨ys, r2, hal2⟩ := each_back he
  obtain ⟨ep, he'⟩ := PyProof.Rows.sortedAll_at s.heap its out.toArray
  have hylen : ys.length ≤ sizeLine := by
    rw [r2.length, ho]
    exact hlen
  exact ⟨.ref _, upd H (s.heap.objs.size + 1) (.lst ys), I.laid (t' := s.toks) (fun _ _ => PyProof.Rows.sortedAll_old) (Nat.le_succ _) ⟨hylen, out, ep, r2, he'⟩, rfl, q _ ys (I.hok.fresh (Nat.le_succ _)) hal2⟩
section
variable {M : Md} {K : PySem.W.Frag} {σ : L2.St} {B : Hp} {ta : TE}
theorem yl_sortedS {l : List Sc} (h : Yl M ta σ B (LL K (RS K) l)) (hz : l.length ≤ sizeLine) : Yl M (tCB (rSortedS K) (tCons ta tNil)) σ B (LL K (RS K) (l.mergeSort leS)) :=
  yl_cb (ya1 h) fun vs B1 H1 e1 e2 i p Q q => by
    obtain ⟨v, w, rfl, hv, rfl⟩ := p
    obtain ⟨a, xs, rfl, h1, h2⟩ := id hv
    exact ⟨B1, a, l, e2, rfl, hv, hz, fun p ys hp hal => q _ _ _ (.of0 i (.new e2 hp)) (ll_new hal (Ex.none e2 hp))⟩
end
end RdW

set_option Elab.async false
set_option autoImplicit false
set_option linter.all false
set_option maxRecDepth 100000
set_option maxHeartbeats 2000000
/-! RdB: the object; methods that keep its state or change it. -/
namespace RdW
open PySem L2
open Evl (Ex)
/-- what the object stands for -/
structure SS where
  kind : Nat
  things : Nat
  rows : List (Nat × Nat × Nat)
abbrev newsOf := Rd.newsR
def SS.book (t : SS) : Qr02.Book := ⟨t.kind, t.things, t.rows.map (newsOf t.kind)⟩
def RowOk (k n : Nat) (r : Nat × Nat × Nat) : Prop := r.1 < n ∧ r.2.1 < n ∧ r.1 ≠ r.2.1
structure SS.Ok (t : SS) : Prop where
  k : t.kind < 4
  n : t.things ≤ 4
  r : ∀ r ∈ t.rows, RowOk t.kind t.things r
  l : t.rows.length ≤ 10
abbrev RW (K : PySem.W.Frag) : Nat × Nat × Nat → RP := P3 K isI isI isI
def fF (t : SS) (vr vk : V) : List (Str × V) := [("kind", .int t.kind), ("objects", .int t.things), ("rows", vr), ("known", vk)]
/-- the object at s -/
def ObjAt (K : PySem.W.Frag) (C s dx : Addr) (t : SS) (B H : Hp) : Prop := B s = none ∧ ∃ vr vk, H s = some (.ins C dx (fF t vr vk)) ∧ LL K (RW K) t.rows vr B ∧ (vk = .non ∨ LL K (RS K) (Rd.scenP t.book) vk B) ∧ t.Ok
/-- the object keeps its state -/
def MO (K : PySem.W.Frag) (C s dx : Addr) (t : SS) : Md where
  x := fun a => a = s
  I := ObjAt K C s dx t
  xt := fun {B H a} i e => by
    subst e
    obtain ⟨_, vr, vk, h, _⟩ := i
    rw [h]
    exact fun z => nomatch z
  st := fun {B H B2 H2} i eB _ k => by
    obtain ⟨b, vr, vk, h, h1, h2, h3⟩ := i
    obtain ⟨k1, k2⟩ := k s rfl
    exact ⟨k1.trans b, vr, vk, k2.trans h, MoC.up eB h1, h2.imp (fun z => z) (MoC.up eB), h3⟩
/-- the object may change -/
def M1 (s : Addr) : Md where
  x := fun a => a = s
  I := fun B H => B s = none ∧ H s ≠ none
  xt := fun {B H a} i e => by subst e; exact i.2
  st := fun {B H B2 H2} i eB _ k => by
    obtain ⟨k1, k2⟩ := k s rfl
    exact ⟨k1.trans i.1, by rw [k2]; exact i.2⟩
section
variable {K : PySem.W.Frag} {C s dx : Addr} {t : SS} {B H B2 H2 : Hp}
theorem ObjAt.m1 (o : ObjAt K C s dx t B H) : (M1 s).I B H := by
  obtain ⟨b, vr, vk, h, _⟩ := o
  exact ⟨b, by rw [h]; exact fun z => nomatch z⟩
theorem Gr.toM1 (g : Gr (MO K C s dx t) B H B2 H2) : Gr (M1 s) B H B2 H2 := ⟨g.b, g.e, g.n, g.h, g.d, g.i.m1⟩
theorem Gr.toMO (g : Gr (M1 s) B H B2 H2) (o : ObjAt K C s dx t B2 H2) : Gr (MO K C s dx t) B H B2 H2 := ⟨g.b, g.e, g.n, g.h, g.d, o⟩
end
/-- a method's promise: A what is handed in, P what is asked, N the state behind it, Z what comes back -/
def spM (K : PySem.W.Frag) (C : Addr) {ι : Type} (A : ι → List V → Hp → Prop) (P : SS → ι → Prop) (N : SS → ι → SS) (Z : SS → ι → RP) : Sp := fun vs H Q _ =>
  ∃ (B : Hp) (s dx : Addr) (t : SS) (x : ι) (r : List V), Ex B H ∧ ObjAt K C s dx t B H ∧ vs = .ref s :: r ∧ A x r B ∧ P t x ∧ ∀ v B2 H2, Gr (M1 s) B H B2 H2 → ObjAt K C s dx (N t x) B2 H2 → Z t x v B2 → Q v H2
/-- one that keeps the state -/
abbrev spK (K : PySem.W.Frag) (C : Addr) {ι : Type} (A : ι → List V → Hp → Prop) (P : SS → ι → Prop) (Z : SS → ι → RP) : Sp := spM K C A P (fun t _ => t) Z
def CalM (P : Program) (w : World) (K : PySem.W.Frag) (mg : Str → Option Value) (base : Heap) (C : Addr) (k : Nat) (name : Str) (ps : List Str) (sp : Sp) : Prop :=
  ∃ (f : Addr) (fd : FuncData), Meth K C name f ∧ FnOk P w K mg base CX0 k f fd ps sp ∧ Binds K fd ps []
section
variable {X : Cx} {C : Addr} {k : Nat} {m : Str} {ps : List Str} {sp : Sp} {o e : Expr} {es : List Expr} {ta : TE} {t : TA} {pos apos : Pos}
theorem pe_mcal {pl : Sem Bool} (c : CalM X.prog X.w X.K X.mg X.base C k m ps sp) (hc : Cls X.K C) (hr : Room k X.A) (he : PE X o ta) (ha : PA X (e :: es) t)
    (hst : starEach (e :: es) X.env = (false, eval e X.env) :: starEach es X.env := by rfl) (hpl : (backTo pos (starEach es X.env)).any (·.1) = false := by rfl)
    (ht : eval (.Call (.Attribute o m apos) (e :: es) [] pos) X.env = (do
      let ov ← eval o X.env
      standAt apos.atName
      let (f, first) ← holding [ov] (getMethod ov m pl)
      callWith pos f first (backTo pos (starEach (e :: es) X.env)) (backToKw pos (keywordEach [] X.env))) := by rfl) :
    PE X (.Call (.Attribute o m apos) (e :: es) [] pos) (tMeth C m sp [] E0 ta t) := by
  obtain ⟨f, fd, hm, F, hb⟩ := c
  exact pe_meth he hc hm F hr hb .nil pass0 ha hst hpl ht
theorem pe_mcal0 {pl : Sem Bool} (c : CalM X.prog X.w X.K X.mg X.base C k m ps sp) (hc : Cls X.K C) (hr : Room k X.A) (he : PE X o ta)
    (ht : eval (.Call (.Attribute o m apos) [] [] pos) X.env = (do
      let ov ← eval o X.env
      standAt apos.atName
      let (f, first) ← holding [ov] (getMethod ov m pl)
      callWith pos f first (backTo pos (starEach [] X.env)) (backToKw pos (keywordEach [] X.env))) := by rfl) :
    PE X (.Call (.Attribute o m apos) [] [] pos) (tMeth C m sp [] E0 ta tNil) := by
  obtain ⟨f, fd, hm, F, hb⟩ := c
  exact pe_meth0 he hc hm F hr hb .nil pass0 ht
theorem fld_K {X : Cx} (K : PySem.W.Frag) {e : Expr} {ta : TE} {f : Str} {pos : Pos} (he : PE X e ta) (hb : attributeBase e f X.env (eval e X.env) = eval e X.env) (h : X.K = K := by rfl) : PE X (.Attribute e f pos) (tFld K ta f) := h ▸ pe_fld he hb
end
/-- what the class has -/
structure TxC (K : PySem.W.Frag) (C : Addr) : Prop where
  cl : Cls K C
  nK : NoAttr K C "kind"
  nO : NoAttr K C "objects"
  nR : NoAttr K C "rows"
  nN : NoAttr K C "known"
section
variable {K : PySem.W.Frag} {C s dx : Addr} {t : SS} {B : Hp} {σ : L2.St} {ta tb : TE} {i : Nat}
theorem lk_here {k : Str} {v : V} {r : List (Str × V)} : List.lookup k ((k, v) :: r) = some v := by
  have e : (k == k) = true := beq_self_eq_true k
  simp only [List.lookup, e]
theorem lk_past {k g : Str} {v : V} {r : List (Str × V)} (h : (k == g) = false) : List.lookup k ((g, v) :: r) = List.lookup k r := by
  simp only [List.lookup, h]
theorem fF_kind (t : SS) (vr vk : V) : (fF t vr vk).lookup ("kind" : Str) = some (.int t.kind) := lk_here
theorem fF_objects (t : SS) (vr vk : V) : (fF t vr vk).lookup ("objects" : Str) = some (.int t.things) := (lk_past (by decide +kernel)).trans lk_here
theorem fF_rows (t : SS) (vr vk : V) : (fF t vr vk).lookup ("rows" : Str) = some vr := (lk_past (by decide +kernel)).trans ((lk_past (by decide +kernel)).trans lk_here)
theorem fF_known (t : SS) (vr vk : V) : (fF t vr vk).lookup ("known" : Str) = some vk := (lk_past (by decide +kernel)).trans ((lk_past (by decide +kernel)).trans ((lk_past (by decide +kernel)).trans lk_here))
/-- a method's name is none of the attributes -/
def Far (m : Str) : Bool := (m == ("kind" : Str)) || (m == ("objects" : Str)) || (m == ("rows" : Str)) || (m == ("known" : Str))
theorem fF_far {m : Str} (h : Far m = false) (t : SS) (vr vk : V) : (fF t vr vk).lookup m = none := by
  unfold Far at h
  rw [Bool.or_eq_false_iff, Bool.or_eq_false_iff, Bool.or_eq_false_iff] at h
  obtain ⟨⟨⟨h1, h2⟩, h3⟩, h4⟩ := h
  exact (lk_past h1).trans ((lk_past h2).trans ((lk_past h3).trans ((lk_past h4).trans rfl)))
/-- self, in the i-th slot -/
def isS (s : Addr) : RP := isV (.ref s)
instance (s : Addr) : MoC (isS s) := ⟨fun _ h => h⟩
theorem yl_self {M : Md} (h : σ[i]? = some (some (.ref s))) : Yl M (tVar i) σ B (isS s) := yl_var h rfl
theorem yl_kind (T : TxC K C) (h : Yl (MO K C s dx t) ta σ B (isS s)) : Yl (MO K C s dx t) (tFld K ta "kind") σ B (isI t.kind) := fun B1 H1 e1 e2 iv Q q =>
  h B1 H1 e1 e2 iv _ fun v B2 H2 g r => by
    obtain ⟨_, vr, vk, h1, _⟩ := id g.i
    exact ⟨s, C, dx, _, _, r, h1, T.cl, T.nK, fF_kind t vr vk, q _ B2 H2 g rfl⟩
theorem yl_objects (T : TxC K C) (h : Yl (MO K C s dx t) ta σ B (isS s)) : Yl (MO K C s dx t) (tFld K ta "objects") σ B (isI t.things) := fun B1 H1 e1 e2 iv Q q =>
  h B1 H1 e1 e2 iv _ fun v B2 H2 g r => by
    obtain ⟨_, vr, vk, h1, _⟩ := id g.i
    exact ⟨s, C, dx, _, _, r, h1, T.cl, T.nO, fF_objects t vr vk, q _ B2 H2 g rfl⟩
theorem yl_rows (T : TxC K C) (h : Yl (MO K C s dx t) ta σ B (isS s)) : Yl (MO K C s dx t) (tFld K ta "rows") σ B (LL K (RW K) t.rows) := fun B1 H1 e1 e2 iv Q q =>
  h B1 H1 e1 e2 iv _ fun v B2 H2 g r => by
    obtain ⟨_, vr, vk, h1, h2, _⟩ := id g.i
    exact ⟨s, C, dx, _, _, r, h1, T.cl, T.nR, fF_rows t vr vk, q _ B2 H2 g h2⟩
/-- a method that keeps the state -/
theorem yl_meth {ι : Type} {A : ι → List V → Hp → Prop} {P : SS → ι → Prop} {Z : SS → ι → RP} {m : Str} {ts : TA} (hf : Far m = false) (x : ι) (h : Yl (MO K C s dx t) ta σ B (isS s)) (ha : YA (MO K C s dx t) ts σ B (A x)) (p : P t x) :
    Yl (MO K C s dx t) (tMeth C m (spK K C A P Z) [] E0 ta ts) σ B (Z t x) := fun B1 H1 e1 e2 iv Q q =>
  h B1 H1 e1 e2 iv _ fun v B2 H2 g r => by
    obtain ⟨_, vr, vk, h1, _⟩ := id g.i
    refine ⟨s, dx, _, r, h1, fF_far hf t vr vk, ha B2 H2 (e1.trans g.b) g.e g.i _ fun vs B3 H3 g3 r3 => ?_⟩
    have ev : v = .ref s := r
    subst ev
    exact ⟨B3, s, dx, t, x, vs, g3.e, g3.i, by rw [List.append_nil], r3, p, fun v B4 H4 g4 o4 rv => q v B4 H4 ((g.trans g3).trans (g4.toMO o4)) rv⟩
/-- a def's end that keeps the state -/
theorem y_finM {te : TE} {R : RP} {Q : VK} {B0 H0 : Hp} (k : ∀ v B2 H2, Gr (M1 s) B0 H0 B2 H2 → ObjAt K C s dx t B2 H2 → R v B2 → Q v H2) {B H : Hp} (g : Gr (MO K C s dx t) B0 H0 B H) (h : Yl (MO K C s dx t) te σ B R) {nx : L2.St → Hp → Prop} {bk ct} :
    tRet te ⟨nx, Q, bk, ct⟩ σ H := y_ret (M := MO K C s dx t) g.e g.i h fun v B2 H2 g2 r => k v B2 H2 (g.trans g2).toM1 g2.i r
/-- is the list of scenarios empty? -/
theorem dp_ints {H : Hp} : ∀ {l : List Nat} {xs : List V}, Al isI H l xs → DpAll K H xs (dInts l)
  | [], [], _ => .nil
  | a :: l, v :: vs, h => by
    have e : v = .int (a : Int) := h.1
    subst e
    exact .cons (.int _) (dp_ints h.2)
  | [], _ :: _, h => h.elim
  | _ :: _, [], h => h.elim
theorem dp_scens {H : Hp} : ∀ {l : List Sc} {xs : List V}, Al (RS K) H l xs → DpAll K H xs (l.map enc)
  | [], [], _ => .nil
  | a :: l, v :: vs, h => by
    obtain ⟨⟨q, y, z, rfl, ht, ⟨t2, ys, rfl, ht2, hys⟩, ⟨l2, zs, rfl, hl2, hzs⟩⟩, h2⟩ := h
    exact .cons (.tup ht (.cons (.tup ht2 (dp_ints hys)) (.cons (.lst (.of hl2) (dp_ints hzs)) .nil))) (dp_scens h2)
  | [], _ :: _, h => h.elim
  | _ :: _, [], h => h.elim
theorem canLay_ints : ∀ l : List Int, PyData.canLayAll0 (l.map .int) = true
  | [] => by simp [PyData.canLayAll0]
  | a :: l => by
    rw [List.map_cons, PyData.canLayAll0, canLay_ints l]
    simp [PyData.canLay0]
theorem shaped_scens (l : List Sc) : SeqAt.shaped (.list (l.map enc)) = true := by
  have h1 : ∀ l : List Sc, PyData.canLayAll0 (l.map enc) = true := by
    intro l
    induction l with
    | nil => simp [PyData.canLayAll0]
    | cons a l ih =>
      rw [List.map_cons, PyData.canLayAll0, ih, enc]
      simp only [PyData.canLay0, PyData.canLayAll0, dInts, canLay_ints, Bool.and_self]
  have h2 : ∀ l : List Sc, PyData.depthAll (l.map enc) ≤ 2 := by
    intro l
    induction l with
    | nil => simp [PyData.depthAll]
    | cons a l ih =>
      rw [List.map_cons, PyData.depthAll, depth_enc]
      omega
  unfold SeqAt.shaped
  have h3 := h2 l
  rw [Bool.and_eq_true]
  refine ⟨by rw [PyData.canLay0]; exact h1 l, decide_eq_true ?_⟩
  rw [PyData.depth]
  omega
theorem eqv_nil (l : List Sc) : PyData.eqv (.list (l.map enc)) (.list []) = decide (l = []) := by
  rw [PyData.eqv]
  cases l with
  | nil => simp [PyData.eqvAll]
  | cons a l => simp [PyData.eqvAll]
theorem shaped_nil : SeqAt.shaped (.list []) = true := shaped_scens []
theorem yl_neNil {M : Md} {l : List Sc} (ha : Yl M ta σ B (LL K (RS K) l)) : Yl M (tOp (rNeD K) ta (tLst tNil)) σ B (isB (!decide (l = []))) :=
  yl_op ha (yl_lst0 (K := K) (r := isI)) fun x y B1 e hx hy H e2 i' Q q => by
    obtain ⟨a, xs, rfl, h1, h2⟩ := MoC.up e2 hx
    obtain ⟨b, ys, rfl, h3, h4⟩ := MoC.up e2 hy
    refine ⟨.list (l.map enc), .list [], .lst (.of h1) (dp_scens h2), .lst (.of h3) (dp_ints h4), shaped_scens l, shaped_nil, ?_⟩
    rw [eqv_nil]
    exact q _ B1 H (.refl e2 i') rfl
theorem yl_eqNil {M : Md} {l : List Sc} (ha : Yl M ta σ B (LL K (RS K) l)) : Yl M (tOp (rEqD K) ta (tLst tNil)) σ B (isB (decide (l = []))) :=
  yl_op ha (yl_lst0 (K := K) (r := isI)) fun x y B1 e hx hy H e2 i' Q q => by
    obtain ⟨a, xs, rfl, h1, h2⟩ := MoC.up e2 hx
    obtain ⟨b, ys, rfl, h3, h4⟩ := MoC.up e2 hy
    refine ⟨.list (l.map enc), .list [], .lst (.of h1) (dp_scens h2), .lst (.of h3) (dp_ints h4), shaped_scens l, shaped_nil, ?_⟩
    rw [eqv_nil]
    exact q _ B1 H (.refl e2 i') rfl
end
end RdW

set_option Elab.async false
set_option autoImplicit false
set_option linter.all false
set_option maxRecDepth 100000
set_option maxHeartbeats 2000000
/-! RdB1: are_two, seen_from, left_of_pairs, made_scenarios, scenarios. -/
namespace RdW
open PySem L2
open Evl (Ex)
theorem spM_len {K : PySem.W.Frag} {C : Addr} {ι : Type} {A : ι → List V → Hp → Prop} {P : SS → ι → Prop} {N : SS → ι → SS} {Z : SS → ι → RP} {n : Nat} (hA : ∀ x r B, A x r B → r.length = n) : ∀ vs H Q E, spM K C A P N Z vs H Q E → vs.length = n + 1 := by
  rintro vs H Q E ⟨B, s, dx, t, x, r, _, _, rfl, h, _⟩
  rw [List.length_cons, hA x r B h]
theorem ac0 {ι : Type} : ∀ (x : ι) r B, (fun (_ : ι) => A0) x r B → r.length = 0 := by
  rintro x r B rfl
  rfl
theorem ac1 {ι : Type} {a : ι → RP} : ∀ x r B, (fun x => AC (a x) A0) x r B → r.length = 1 := by
  rintro x r B ⟨v, w, rfl, _, rfl⟩
  rfl
theorem ac2 {ι : Type} {a b : ι → RP} : ∀ x r B, (fun x => AC (a x) (AC (b x) A0)) x r B → r.length = 2 := by
  rintro x r B ⟨v, w, rfl, _, v2, w2, rfl, _, rfl⟩
  rfl
theorem ac3 {ι : Type} {a b c : ι → RP} : ∀ x r B, (fun x => AC (a x) (AC (b x) (AC (c x) A0))) x r B → r.length = 3 := by
  rintro x r B ⟨v, w, rfl, _, v2, w2, rfl, _, v3, w3, rfl, _, rfl⟩
  rfl
theorem if_true_of {c : Bool} {A B : Prop} (hc : c = true) (h : A) : if c = true then A else B := by
  rw [if_pos hc]
  exact h
theorem if_false_of {c : Bool} {A B : Prop} (hc : c = false) (h : B) : if c = true then A else B := by
  rw [hc, if_neg Bool.false_ne_true]
  exact h
def stmtC (j : Nat) : Stmt := inClass (topS 52) j
/-- two different objects? -/
def two (t : SS) (i j : Nat) : Bool := decide (i < t.things) && (decide (j < t.things) && (i != j))
def seen (t : SS) (i j m : Nat) : Nat := if i < j then m else Qr.turnedAll t.kind m
/-- the scenarios before they are sorted -/
def SS.made (t : SS) : List Sc := if t.kind = 2 then Rd.setP t.book else Rd.ordP t.book
theorem KO_of {k : Nat} (h : k < 4) (h2 : k ≠ 2) : Rd.KO k := by
  unfold Rd.KO
  omega
theorem made_perm {t : SS} (o : t.Ok) : t.made.Perm (Rd.scenP t.book) := by
  unfold SS.made
  by_cases c : t.kind = 2
  · rw [if_pos c, Rd.set_eq (b := t.book) c]
  · rw [if_neg c]
    exact Rd.ord_perm (b := t.book) (KO_of o.k c)
theorem left_book {t : SS} (o : t.Ok) : Rd.leftRows t.kind t.things t.rows = Rd.leftL t.book := Rd.leftRows_eq o.r
theorem leftL_len' (t : SS) : (Rd.leftL t.book).length = Rd.nPairs t.things := Rd.leftL_len t.book
theorem nPairs6 {n : Nat} (h : n ≤ 4) : Rd.nPairs n ≤ 6 := Nat.le_trans (nPairs_le h) (by decide)
section
variable {P : Program} {w : World} {K : PySem.W.Frag} {mg : Str → Option Value} {base : Heap} {C : Addr} {f : Addr} {fd : FuncData}

/-! are_two -/
abbrev sAreTwo : Stmt := stmtC 3
theorem scAreTwo : FnScope ["self", "one", "other"] ["self", "one", "other"] (defScope sAreTwo) := ⟨rfl, rfl, rfl, by decide +kernel, rfl, by decide +kernel, by decide +kernel⟩
abbrev spAreTwo (K : PySem.W.Frag) (C : Addr) : Sp := spK K C (fun (x : Nat × Nat) => AC (isI x.1) (AC (isI x.2) A0)) (fun _ _ => True) fun t x => isB (two t x.1 x.2)
theorem calm_are_two (TC : TxC K C) (F : Fun K "are_two" "Statements.are_two" sAreTwo f fd) (hm : Meth K C "are_two" f) : CalM P w K mg base C 1 "are_two" ["self", "one", "other"] (spAreTwo K C) := by
  refine ⟨f, fd, hm, F.ok scAreTwo (spM_len ac2) (fun cdv A outer s₀ H vs Q E hr h => ?_), F.binds (fun _ _ _ _ _ _ us hl => match us, hl with | [_, _, _], _ => rfl)⟩
  obtain ⟨B, s, dx, t, ⟨i, j⟩, r, e, o, rfl, ⟨v1, _, rfl, h1, v2, _, rfl, h2, rfl⟩, hP, k⟩ := h
  refine ⟨_, pss_one (ps_ret (pe_and (pe_cmpR op_lt (pv 1) (pe_fld (pv 0) rfl) (nomark _)) (pe_and (pe_cmpR op_lt (pv 2) (pe_fld (pv 0) rfl) (nomark _)) (pe_one (pe_cmpR op_ne (pv 1) (pv 2) (nomark _)))))), ?_⟩
  refine y_finM (K := K) (C := C) (s := s) (dx := dx) (t := t) k (Gr.refl e o) ((yl_andV (yl_lt (yl_var (R := isZ i) rfl h1) (yl_objects TC (yl_self rfl)).z) fun _ => yl_andV (yl_lt (yl_var (R := isZ j) rfl h2) (yl_objects TC (yl_self rfl)).z) fun _ => yl_ne (yl_var (R := isZ i) rfl h1) (yl_var (R := isZ j) rfl h2)).toB ?_)
  unfold two
  dsimp only
  have e1 : ∀ a b : Nat, decide ((a : Int) < (b : Int)) = decide (a < b) := fun a b => decide_eq_decide.mpr (by omega)
  have e2 : (!decide ((i : Int) = (j : Int))) = (i != j) := by
    have : decide ((i : Int) = (j : Int)) = decide (i = j) := decide_eq_decide.mpr (by omega)
    rw [this]
    by_cases q : i = j <;> simp [q]
  rw [e1, e1, e2]

/-! seen_from -/
abbrev sSeenFrom : Stmt := stmtC 13
theorem scSeenFrom : FnScope ["self", "one", "other", "some"] ["self", "one", "other", "some"] (defScope sSeenFrom) := ⟨rfl, rfl, rfl, by decide +kernel, rfl, by decide +kernel, by decide +kernel⟩
abbrev spSeenFrom (K : PySem.W.Frag) (C : Addr) : Sp := spK K C (fun (x : Nat × Nat × Nat) => AC (isI x.1) (AC (isI x.2.1) (AC (isI x.2.2) A0))) (fun _ _ => True) fun t x => isI (seen t x.1 x.2.1 x.2.2)
theorem calm_seen_from (TC : TxC K C) (cI : Cal P w K mg base 3 "inverse_set" ["kind", "some"] spInverseSet) (F : Fun K "seen_from" "Statements.seen_from" sSeenFrom f fd) (hm : Meth K C "seen_from" f) : CalM P w K mg base C 4 "seen_from" ["self", "one", "other", "some"] (spSeenFrom K C) := by
  refine ⟨f, fd, hm, F.ok scSeenFrom (spM_len ac3) (fun cdv A outer s₀ H vs Q E hr h => ?_), F.binds (fun _ _ _ _ _ _ us hl => match us, hl with | [_, _, _, _], _ => rfl)⟩
  obtain ⟨B, s, dx, t, ⟨i, j, m⟩, r, e, o, rfl, ⟨v1, _, rfl, h1, v2, _, rfl, h2, v3, _, rfl, h3, rfl⟩, hP, k⟩ := h
  have ok : t.Ok := by obtain ⟨_, _, _, _, _, _, ok⟩ := o; exact ok
  refine ⟨_, pss_one (ps_ret (pe_ifExp (pt_cmpR op_lt (pv 1) (pv 2) (nomark _)) (pv 3) (pe_cal cI hr (pa_cons (pe_fld (pv 0) rfl) (pa_cons (pv 3) pa_nil))))), ?_⟩
  refine y_finM (K := K) (C := C) (s := s) (dx := dx) (t := t) k (Gr.refl e o) (yl_if (R := isI (seen t i j m)) (yt_test (yl_lt (yl_var (R := isZ i) rfl h1) (yl_var (R := isZ j) rfl h2))) (fun q => ?_) (fun q => ?_))
  · have q := of_decide_eq_true q
    refine (yl_var (R := isI m) rfl h3).to ?_
    unfold seen
    rw [if_pos (show i < j by omega)]
  · have q := of_decide_eq_false q
    refine (yl_call (t.kind, m) (ya2 (yl_kind TC (yl_self rfl)) (yl_var rfl h3)) ok.k).to ?_
    unfold seen
    rw [if_neg (show ¬ i < j by omega)]

/-! left_of_pairs -/
abbrev sLeftOfPairs : Stmt := stmtC 6
abbrev nLeftOfPairs : List Str := ["self", "pair", "found", "one", "other", "some", "turned"]
theorem scLeftOfPairs : FnScope nLeftOfPairs ["self"] (defScope sLeftOfPairs) := ⟨rfl, rfl, rfl, by decide +kernel, rfl, by decide +kernel, by decide +kernel⟩
abbrev spLeftOfPairs (K : PySem.W.Frag) (C : Addr) : Sp := spK K C (fun (_ : Unit) => A0) (fun _ _ => True) fun t _ => LL K isI (Rd.leftL t.book)
theorem al_range {H : Hp} {n : Nat} {g : Nat → Nat} {acc : List V} (h : Al isI H ((List.range n).map g) acc) : acc.length = n := by
  have := h.length
  rw [List.length_map, List.length_range] at this
  exact this.symm
theorem calm_left_of_pairs (T : Txt K mg) (TC : TxC K C) (cE : Cal P w K mg base 1 "every" ["kind"] spEvery) (cM : Cal P w K mg base 1 "many_pairs" ["objects"] spManyPairs) (cI : Cal P w K mg base 3 "inverse_set" ["kind", "some"] spInverseSet) (cP : Cal P w K mg base 1 "pair_number" ["lower", "higher"] spPairNumber)
    (F : Fun K "left_of_pairs" "Statements.left_of_pairs" sLeftOfPairs f fd) (hm : Meth K C "left_of_pairs" f) : CalM P w K mg base C 4 "left_of_pairs" ["self"] (spLeftOfPairs K C) := by
  refine ⟨f, fd, hm, F.ok scLeftOfPairs (spM_len ac0) (fun cdv A outer s₀ H vs Q E hr h => ?_), F.binds (fun _ _ _ _ _ _ us hl => match us, hl with | [_], _ => rfl)⟩
  obtain ⟨B, s, dx, t, u, r, e, o, rfl, rfl, hP, k⟩ := h
  have ok : t.Ok := by obtain ⟨_, _, _, _, _, _, ok⟩ := o; exact ok
  have line : 1000 ≤ sizeLine := by decide
  have h6 := nPairs6 ok.n
  have hr1 : Room 1 _ := hr.mono (by decide)
  refine ⟨_, pss_cons (ps_setLc (i := 2) (own := [("pair", 1)]) (g := gName 1) rfl scLeftOfPairs.nd rfl rfl (sw_true rfl rfl rfl (by decide +kernel)) (pi_range1 rfl T.b_range (pa_cons (pe_cal cM hr1 (pa_cons (pe_fld (pv 0) rfl) pa_nil)) pa_nil)) (blkOk_by (N := nLeftOfPairs) (sc := defScope sLeftOfPairs) (by decide +kernel)) (fun _ _ _ _ _ => pg_name (i := 1) scLeftOfPairs.nd rfl (Or.inl rfl)) (fun _ _ _ _ _ => pts_nil)
      (fun _ _ _ _ _ => pe_cal cE hr1 (pa_cons (fld_K K (pv 0) rfl) pa_nil)))
    (pss_cons (ps_for PassesOwn.never rfl (pi_list (pe_fld (pv 0) rfl)) (pg_tup rfl (pgs_cons (pg_name (i := 3) scLeftOfPairs.nd rfl (Or.inl rfl)) (pgs_cons (pg_name (i := 4) scLeftOfPairs.nd rfl (Or.inl rfl)) (pgs_cons (pg_name (i := 5) scLeftOfPairs.nd rfl (Or.inl rfl)) pgs_nil))))
      (pss_cons (ps_set (i := 6) scLeftOfPairs.nd rfl (.inl rfl) (pe_ifExp (pt_cmpR op_lt (pv 3) (pv 4) (nomark _)) (pv 5) (pe_cal cI hr (pa_cons (pe_fld (pv 0) rfl) (pa_cons (pv 5) pa_nil)))))
      (pss_cons (ps_set (i := 1) scLeftOfPairs.nd rfl (.inl rfl) (pe_cal cP hr1 (pa_cons (pe_callB (call_min2 rfl) rfl T.b_min (by decide +kernel) (pa_cons (pv 3) (pa_cons (pv 4) pa_nil))) (pa_cons (pe_callB (call_max2 rfl) rfl T.b_max (by decide +kernel) (pa_cons (pv 3) (pa_cons (pv 4) pa_nil))) pa_nil))))
      (pss_one (ps_asg (pe_op op_and (pe_ix ix_list (pv 2) (pv 1) (fun _ _ => rfl)) (pv 6)) (pg_sub (pv 2) (pv 1) set_list))))))
    (pss_one (ps_ret (pv 2)))), ?_⟩
  refine yq_lcRaw (M := MO K C s dx t) (rb := isI) (n := Rd.nPairs t.things) (fun _ => Qr.all t.kind) e o (ya1 (yl_call t.things (ya1 (yl_objects TC (yl_self rfl))) ok.n)) (by omega) (fun x => rfl) (fun a B' ha eB => ?_) fun p acc B2 H2 hp g2 b2 hp2 al2 => ?_
  · exact yl_call t.kind (ya1 (yl_kind TC (yl_self rfl))) ok.k
  have hps : p ≠ s := fun z => (MO K C s dx t).xt o z hp
  refine yq_forL (M := MO K C s dx t) (K := K) (r := RW K) (l := t.rows) g2.e g2.i (yl_rows TC (yl_self rfl))
    (fun i σ B' H' => Gr (MO K C s dx t) B H B' H' ∧ B' p = none ∧ ∃ x1 x3 x4 x5 x6 acc, σ = [some (.ref s), x1, some (.ref p), x3, x4, x5, x6] ∧ H' p = some (.lst acc) ∧ Al isI B' ((t.rows.take i).foldl (Rd.leftStep t.kind) ((List.range (Rd.nPairs t.things)).map fun _ => Qr.all t.kind)) acc) ?_ ?_ ?_
  · intro B3 H3 g3
    obtain ⟨b3, hp3⟩ := g3.keep hps b2 hp2
    exact ⟨g2.trans g3, b3, none, none, none, none, none, acc, rfl, hp3, al2.up g3.b⟩
  · rintro i ⟨a, b, m⟩ x σ' B3 H3 N hi ⟨q, y1, y2, y3, rfl, hsq, hy1, hy2, hy3⟩ e3 ⟨g3, b3, x1, x3, x4, x5, x6, acc3, rfl, hp3, al3⟩ hN
    obtain ⟨ha, hb, hne⟩ : a < t.things ∧ b < t.things ∧ a ≠ b := ok.r _ (List.mem_of_getElem? hi)
    have htn := ok.n
    refine ⟨q, [y1, y2, y3], rfl, Evl.ex_t e3 hsq, rfl, y1, [y2, y3], rfl, y2, [y3], rfl, y3, [], rfl, rfl, ?_⟩
    refine yq_asg (M := MO K C s dx t) (R := isI (Rd.turnedM t.kind (a, b, m))) e3 g3.i (yl_if (yt_test (yl_lt (yl_var (R := isZ a) rfl hy1) (yl_var (R := isZ b) rfl hy2))) (fun q => ?_) (fun q => ?_)) fun vt B4 H4 g4 rt => ?_
    · have q := of_decide_eq_true q
      refine (yl_var (R := isI m) rfl hy3).to ?_
      unfold Rd.turnedM
      rw [if_pos (show a < b by omega)]
    · have q := of_decide_eq_false q
      refine (yl_call (t.kind, m) (ya2 (yl_kind TC (yl_self rfl)) (yl_var rfl hy3)) ok.k).to ?_
      unfold Rd.turnedM
      rw [if_neg (show ¬ a < b by omega)]
    refine yq_asg (M := MO K C s dx t) (R := isI (Rd.idxOf (a, b, m))) g4.e g4.i (yl_call (min a b, max a b) (ya2 (yl_min2 (yl_var (R := isI a) rfl hy1) (yl_var (R := isI b) rfl hy2)) (yl_max2 (yl_var (R := isI a) rfl hy1) (yl_var (R := isI b) rfl hy2))) (show max a b ≤ 4 by omega)) fun vi B5 H5 g5 ri => ?_
    obtain ⟨b4, hp4⟩ := g4.keep hps b3 hp3
    obtain ⟨b5, hp5⟩ := g5.keep hps b4 hp4
    cases rt
    cases ri
    have al5 := al3.up (g4.b.trans g5.b)
    have hlen := al5.length
    rw [Rd.leftStep_len, List.length_map, List.length_range] at hlen
    have hidx : Rd.idxOf (a, b, m) < acc3.length := by
      rw [← hlen]
      exact Rd.idx_lt ⟨ha, hb, hne⟩
    obtain ⟨z, hz, hz2⟩ := al5.at (i := Rd.idxOf (a, b, m)) (at0_get (by rw [Rd.leftStep_len, List.length_map, List.length_range, hlen]; exact hidx))
    cases hz2
    refine ⟨.ref p, rfl, .int (Rd.idxOf (a, b, m) : Nat), rfl, p, acc3, _, _, rfl, rfl, .of hp5, atI_n hz, .int (Rd.turnedM t.kind (a, b, m) : Nat), rfl, _, _, rfl, rfl, ?_⟩
    refine ⟨.ref p, rfl, .int (Rd.idxOf (a, b, m) : Nat), rfl, p, acc3, _, Rd.idxOf (a, b, m), rfl, rfl, hp5, Evl.ixN_nat hidx, ?_⟩
    refine hN _ B5 _ (g4.b.trans g5.b) (g5.e.mut b5) ⟨((g3.trans g4).trans g5).mut hps hp b5, b5, some (.int (Rd.idxOf (a, b, m) : Nat)), some y1, some y2, some y3, some (.int (Rd.turnedM t.kind (a, b, m) : Nat)), _, rfl, upd_same, ?_⟩
    have eT : t.rows.take (i + 1) = t.rows.take i ++ [(a, b, m)] := by
      rw [List.take_add_one, hi]
      rfl
    rw [eT, List.foldl_append]
    refine Al.set _ al5 ?_
    show V.int _ = V.int _
    rw [PySem.W.os_band]
  · rintro σ' B3 H3 e3 ⟨g3, b3, x1, x3, x4, x5, x6, acc3, rfl, hp3, al3⟩
    rw [List.take_length] at al3
    refine y_finM (K := K) (C := C) (s := s) (dx := dx) (t := t) k (g3.frz hps hp b3 hp3) (yl_var rfl ?_)
    show LL K isI (Rd.leftL t.book) _ _
    rw [← left_book ok]
    exact ll_new al3 b3

/-! made_scenarios -/
abbrev sMade : Stmt := stmtC 7
abbrev nMade : List Str := ["self", "left", "rows", "relations", "figure"]
theorem scMade : FnScope nMade ["self"] (defScope sMade) := ⟨rfl, rfl, rfl, by decide +kernel, rfl, by decide +kernel, by decide +kernel⟩
abbrev spMade (K : PySem.W.Frag) (C : Addr) : Sp := spK K C (fun (_ : Unit) => A0) (fun _ _ => True) fun t _ => LL K (RS K) t.made
theorem calm_made (T : Txt K mg) (TC : TxC K C) (cL : CalM P w K mg base C 4 "left_of_pairs" ["self"] (spLeftOfPairs K C)) (cR : Cal P w K mg base 5 "all_relations" ["objects", "left"] (spAllRelations K)) (cC : Cal P w K mg base 3 "cells_of" ["relations", "objects"] (spCellsOf K))
    (cF : Cal P w K mg base 5 "all_figures" ["kind", "objects", "left"] (spAllFigures K)) (cN : Cal P w K mg base 1 "numbers_of" ["kind", "figure"] (spNumbersOf K))
    (F : Fun K "made_scenarios" "Statements.made_scenarios" sMade f fd) (hm : Meth K C "made_scenarios" f) : CalM P w K mg base C 6 "made_scenarios" ["self"] (spMade K C) := by
  refine ⟨f, fd, hm, F.ok scMade (spM_len ac0) (fun cdv A outer s₀ H vs Q E hr h => ?_), F.binds (fun _ _ _ _ _ _ us hl => match us, hl with | [_], _ => rfl)⟩
  obtain ⟨B, s, dx, t, u, r, e, o, rfl, rfl, hP, k⟩ := h
  have ok : t.Ok := by obtain ⟨_, _, _, _, _, _, ok⟩ := o; exact ok
  have line : 10000000 ≤ sizeLine := by decide
  have htn := ok.n
  have hll : (Rd.leftL t.book).length = Rd.nPairs t.things := leftL_len' t
  have hr1 : Room 1 _ := hr.mono (by decide)
  have hr3 : Room 3 _ := hr.mono (by decide)
  have hr4 : Room 4 _ := hr.mono (by decide)
  refine ⟨_, pss_cons (ps_set (i := 1) scMade.nd rfl (.inl rfl) (pe_mcal0 cL TC.cl hr4 (pv 0)))
    (pss_cons (ps_if (pt_cmpR op_eq (pe_fld (pv 0) rfl) (pe_cst T.SETS) (nomark _))
      (pss_cons (ps_set (i := 2) scMade.nd rfl (.inl rfl) (pe_cal cR hr (pa_cons (pe_fld (pv 0) rfl) (pa_cons (pv 1) pa_nil))))
      (pss_one (ps_ret (pe_lc (own := [("relations", 3)]) (g := gName 3) rfl scMade.nd (pi_list (pv 2)) (blkOk_by (N := nMade) (sc := defScope sMade) (by decide +kernel)) (fun _ _ _ _ _ => pg_name (i := 3) scMade.nd rfl (Or.inl rfl)) (fun _ _ _ _ _ => pts_nil)
        (fun _ _ _ _ _ => pe_tup (pa_cons (pv 3) (pa_cons (pe_cal cC hr3 (pa_cons (pv 3) (pa_cons (fld_K K (pv 0) rfl) pa_nil))) pa_nil))))))) pss_nil)
    (pss_cons (ps_set (i := 2) scMade.nd rfl (.inl rfl) (pe_cal cF hr (pa_cons (pe_fld (pv 0) rfl) (pa_cons (pe_fld (pv 0) rfl) (pa_cons (pv 1) pa_nil)))))
    (pss_one (ps_ret (pe_lc (own := [("relations", 3), ("figure", 4)]) (g := gTup K 2 (gCons (gName 3) (gCons (gName 4) gNil))) rfl scMade.nd (pi_list (pv 2)) (blkOk_by (N := nMade) (sc := defScope sMade) (by decide +kernel))
        (fun _ _ _ _ _ => pg_tup rfl (pgs_cons (pg_name (i := 3) scMade.nd rfl (Or.inl rfl)) (pgs_cons (pg_name (i := 4) scMade.nd rfl (Or.inl rfl)) pgs_nil))) (fun _ _ _ _ _ => pts_nil)
        (fun _ _ _ _ _ => pe_tup (pa_cons (pv 3) (pa_cons (pe_cal cN hr1 (pa_cons (fld_K K (pv 0) rfl) (pa_cons (pv 4) pa_nil))) pa_nil)))))))), ?_⟩
  refine yq_asg (M := MO K C s dx t) (R := LL K isI (Rd.leftL t.book)) e o (yl_meth (by decide +kernel) () (yl_self rfl) ya_nil trivial) fun vl B2 H2 g2 rl => ?_
  refine yq_when (M := MO K C s dx t) g2.e g2.i (yt_test (yl_eq (yl_kind TC (yl_self rfl)).z (yl_zc 2))) (fun q B3 H3 g3 => ?_) (fun q B3 H3 g3 => ?_)
  · have q : t.kind = 2 := by
      have := of_decide_eq_true q
      omega
    refine yq_asg (M := MO K C s dx t) (R := LL K (TU K isI) (Rd.allRels (Rd.leftL t.book) t.things)) g3.e g3.i (yl_call (t.things, Rd.leftL t.book) (ya2 (yl_objects TC (yl_self rfl)) (yl_var rfl (MoC.up g3.b rl))) ⟨ok.n, hll⟩) fun vr B4 H4 g4 rr => ?_
    have hlen : (Rd.allRels (Rd.leftL t.book) t.things).length ≤ sizeLine := by
      have h1 := allRels_len (Rd.leftL t.book) t.things
      have h2 := Nat.pow_le_pow_right (show 0 < 5 by decide) (nPairs6 ok.n)
      have h3 : 5 ^ 6 = 15625 := by decide
      omega
    refine y_finM (K := K) (C := C) (s := s) (dx := dx) (t := t) k ((g2.trans g3).trans g4) ((yl_lcL (K := K) (r := TU K isI) (rb := RS K) (l := Rd.allRels (Rd.leftL t.book) t.things) (fun _ => true) (fun r => (r, Rd.cellsOf r t.things)) (yl_var rfl rr) hlen ?_).imp fun v _ _ z => ?_)
    · rintro a x B' ha eB hx
      have hal := allRels_each _ _ a ha
      refine ⟨_, ?_, fun H' Q _ q => q, fun _ _ => yt_yes, fun B5 eB5 _ => yl_pr (r := TU K isI) (s := LL K isI) (yl_var rfl (MoC.up eB5 hx)) (yl_call (a, t.things) (ya2 (yl_var rfl (MoC.up eB5 hx)) (yl_objects TC (yl_self rfl))) ⟨ok.n, hal⟩)⟩
      rfl
    · rw [List.filter_eq_self.mpr (fun _ _ => rfl)] at z
      show LL K (RS K) t.made v _
      unfold SS.made
      rw [if_pos q]
      exact z
  · have q : t.kind ≠ 2 := by
      have := of_decide_eq_false q
      omega
    have hk := KO_of ok.k q
    refine yq_asg (M := MO K C s dx t) (R := LL K (RF K) (Rd.allFigs t.kind (Rd.leftL t.book) t.things)) g3.e g3.i (yl_call (t.kind, t.things, Rd.leftL t.book) (ya3 (yl_kind TC (yl_self rfl)) (yl_objects TC (yl_self rfl)) (yl_var rfl (MoC.up g3.b rl))) ⟨hk, ok.n, hll⟩) fun vr B4 H4 g4 rr => ?_
    have hlen : (Rd.allFigs t.kind (Rd.leftL t.book) t.things).length ≤ sizeLine := by
      have h1 := allFigs_len hk (Rd.leftL t.book) t.things
      have h2 : cMost t.things ≤ 2100000 := by
        have : t.things = 0 ∨ t.things = 1 ∨ t.things = 2 ∨ t.things = 3 ∨ t.things = 4 := by omega
        rcases this with h | h | h | h | h <;> rw [h] <;> decide
      omega
    refine y_finM (K := K) (C := C) (s := s) (dx := dx) (t := t) k ((g2.trans g3).trans g4) ((yl_lcL (K := K) (r := RF K) (rb := RS K) (l := Rd.allFigs t.kind (Rd.leftL t.book) t.things) (fun _ => true) (fun x => (x.1, Rd.numsOf t.kind x.2)) (yl_var rfl rr) hlen ?_).imp fun v _ _ z => ?_)
    · rintro ⟨rels, g⟩ x B' ha eB ⟨a, y1, y2, rfl, hsq, hy1, hy2⟩
      have G := ((Rd.allFigs_ok hk (Rd.leftL t.book) t.things).sound _ ha).1
      refine ⟨((wipe [some (.ref s), some vl, some vr, none, none] [3, 4]).set 3 (some y1)).set 4 (some y2), ?_, fun H' Q eH q => ⟨a, [y1, y2], rfl, Evl.ex_t eH hsq, rfl, y1, [y2], rfl, y2, [], rfl, rfl, q⟩, fun _ _ => yt_yes, fun B5 eB5 _ => ?_⟩
      · rfl
      · exact yl_pr (r := TU K isI) (s := LL K isI) (yl_var rfl (MoC.up eB5 hy1)) (yl_call (t.kind, g) (ya2 (yl_kind TC (yl_self rfl)) (yl_var rfl (MoC.up eB5 hy2))) ⟨hk, t.things, G, ok.n⟩)
    · rw [List.filter_eq_self.mpr (fun _ _ => rfl)] at z
      show LL K (RS K) t.made v _
      unfold SS.made
      rw [if_neg q]
      exact z

/-! scenarios -/
abbrev sScenarios : Stmt := stmtC 8
theorem scScenarios : FnScope ["self"] ["self"] (defScope sScenarios) := ⟨rfl, rfl, rfl, by decide +kernel, rfl, by decide +kernel, by decide +kernel⟩
abbrev spScenarios (K : PySem.W.Frag) (C : Addr) : Sp := spK K C (fun (_ : Unit) => A0) (fun _ _ => True) fun t _ => LL K (RS K) (Rd.scenP t.book)
theorem Gr.setS {s : Addr} {B H B2 H2 : Hp} {o o' : HO} (g : Gr (M1 s) B H B2 H2) (h : H2 s = some o) : Gr (M1 s) B H B2 (upd H2 s o') :=
  ⟨g.b, g.e.mut g.i.1, g.n, fun a u m q => by rw [upd_ne m]; exact g.h a u m q, fun a q => by
    by_cases c : a = s
    · subst c; rw [upd_same]; exact fun z => nomatch z
    · rw [upd_ne c]; exact g.d a q, ⟨g.i.1, by rw [upd_same]; exact fun z => nomatch z⟩⟩
theorem put_here {f : Str} {v x : V} {r : List (Str × V)} : putF f v ((f, x) :: r) = (f, v) :: r := if_pos rfl
theorem put_past {f g : Str} {v x : V} {r : List (Str × V)} (h : ¬ g = f) : putF f v ((g, x) :: r) = (g, x) :: putF f v r := if_neg h
theorem put_known (t : SS) (vr vk v : V) : putF "known" v (fF t vr vk) = fF t vr v := by
  unfold fF
  rw [put_past (by decide +kernel), put_past (by decide +kernel), put_past (by decide +kernel), put_here]
theorem put_rows (t : SS) (rows : List (Nat × Nat × Nat)) (vr vk v : V) : putF "rows" v (fF t vr vk) = fF { t with rows := rows } v vk := by
  unfold fF
  rw [put_past (by decide +kernel), put_past (by decide +kernel), put_here]
theorem put_kind (t : SS) (kd : Nat) (vr vk : V) : putF "kind" (.int kd) (fF t vr vk) = fF { t with kind := kd } vr vk := by
  unfold fF
  rw [put_here]
theorem put_objects (t : SS) (n : Nat) (vr vk : V) : putF "objects" (.int n) (fF t vr vk) = fF { t with things := n } vr vk := by
  unfold fF
  rw [put_past (by decide +kernel), put_here]
theorem made_len (t : SS) (ok : t.Ok) : t.made.length ≤ sizeLine := by
  have line : 10000000 ≤ sizeLine := by decide
  have htn := ok.n
  unfold SS.made
  by_cases c : t.kind = 2
  · rw [if_pos c]
    unfold Rd.setP
    rw [List.length_map]
    have h1 := allRels_len (Rd.leftL t.book) t.things
    have h2 := Nat.pow_le_pow_right (show 0 < 5 by decide) (nPairs6 ok.n)
    have h3 : 5 ^ 6 = 15625 := by decide
    show (Rd.allRels (Rd.leftL t.book) t.things).length ≤ _
    omega
  · rw [if_neg c]
    unfold Rd.ordP
    rw [List.length_map]
    have h1 := allFigs_len (KO_of ok.k c) (Rd.leftL t.book) t.things
    have h2 : cMost t.things ≤ 2100000 := by
      have : t.things = 0 ∨ t.things = 1 ∨ t.things = 2 ∨ t.things = 3 ∨ t.things = 4 := by omega
      rcases this with h | h | h | h | h <;> rw [h] <;> decide
    show (Rd.allFigs t.kind (Rd.leftL t.book) t.things).length ≤ _
    omega
theorem calm_scenarios (T : Txt K mg) (TC : TxC K C) (cM : CalM P w K mg base C 6 "made_scenarios" ["self"] (spMade K C)) (F : Fun K "scenarios" "Statements.scenarios" sScenarios f fd) (hm : Meth K C "scenarios" f) : CalM P w K mg base C 7 "scenarios" ["self"] (spScenarios K C) := by
  refine ⟨f, fd, hm, F.ok scScenarios (spM_len ac0) (fun cdv A outer s₀ H vs Q E hr h => ?_), F.binds (fun _ _ _ _ _ _ us hl => match us, hl with | [_], _ => rfl)⟩
  obtain ⟨B, s, dx, t, u, r, e, o, rfl, rfl, hP, k⟩ := h
  have hu64 : ∀ {A' : Around} {j : Nat}, Room j A' → A'.units + 64 < cLine := fun r => by have := r.un; omega
  refine ⟨_, pss_cons (ps_if (pt_cmpR op_isN (pe_fld (pv 0) rfl) pe_non (nomark _)) (pss_one (ps_fld (pv 0) (pe_callB (cr_sortedS (hu64 hr)) rfl T.b_sorted (by decide +kernel) (pa_cons (pe_mcal0 cM TC.cl hr (pv 0)) pa_nil)) rfl)) pss_nil)
    (pss_one (ps_ret (pe_fld (pv 0) rfl))), ?_⟩
  obtain ⟨b0, vr, vk, hs, hrows, hk, ok⟩ := id o
  -- what is read off the object
  refine ⟨.ref s, rfl, s, C, dx, _, vk, rfl, hs, TC.cl, TC.nN, fF_known t vr vk, rfl, decide (vk = .non), rfl, ?_⟩
  rcases hk with rfl | hk
  · refine if_true_of (decide_eq_true rfl) ?_
    refine (yl_sortedS (K := K) (M := MO K C s dx t) (l := t.made) (yl_meth (by decide +kernel) () (yl_self rfl) ya_nil trivial) (made_len t ok)) B H (.refl _) e o _ fun v B2 H2 g2 rv => ?_
    obtain ⟨b2, vr2, vk2, hs2, hrows2, hk2, _⟩ := id g2.i
    rw [sort_scen t.book (made_perm ok)] at rv
    refine ⟨.ref s, rfl, s, C, dx, _, rfl, hs2, TC.cl, TC.nN, (by show 4 < 1000; decide), ?_⟩
    refine ⟨.ref s, rfl, s, C, dx, _, v, rfl, upd_same, TC.cl, TC.nN, ?_, ?_⟩
    · rw [put_known]
      exact fF_known t vr2 v
    · refine k v B2 _ (g2.toM1.setS hs2) ⟨b2, vr2, v, ?_, hrows2, .inr rv, ok⟩ rv
      rw [put_known]
      exact upd_same
  · obtain ⟨a, xs, rfl, h1, h2⟩ := id hk
    refine if_false_of (decide_eq_false fun z => nomatch z) ?_
    exact ⟨.ref s, rfl, s, C, dx, _, .ref a, rfl, hs, TC.cl, TC.nN, fF_known t vr _, k _ B H (Gr.refl e o.m1) o hk⟩
end
end RdW

set_option Elab.async false
set_option autoImplicit false
set_option linter.all false
set_option maxRecDepth 100000
set_option maxHeartbeats 2000000
/-! RdB2: the operations that ask. -/
namespace RdW
open PySem L2
open Evl (Ex)
abbrev LZ (K : PySem.W.Frag) : List Int → RP := LL K isZ
def aCan (t : SS) : List Int := [if Rd.scenP t.book = [] then 0 else 1]
def aWay (t : SS) : List Int := match Rd.scenP t.book with
  | [] => [-6]
  | x :: _ => (x.1.length : Int) :: Rd.zints x.1
def aPicture (t : SS) : List Int := match Rd.scenP t.book with
  | [] => [-6]
  | x :: _ => (x.2.length : Int) :: Rd.zints x.2
def relsAt (t : SS) (q : Nat) : Nat := Rd.orAll ((Rd.scenP t.book).map fun x => Rd.at0 x.1 q)
def idx2 (i j : Nat) : Nat := Rd.nPairs (max i j) + min i j
def aMay (t : SS) (i j : Nat) : List Int := if two t i j = true then [(seen t i j (relsAt t (idx2 i j)) : Nat)] else [-1]
def aAll (t : SS) : List Int := if Rd.scenP t.book = [] then [-6] else (Rd.nPairs t.things : Int) :: (List.range (Rd.nPairs t.things)).map fun q => ((relsAt t q : Nat) : Int)
def aCount (t : SS) : List Int := if t.kind = 1 ∧ t.things = 4 then [-7] else [((Rd.scenP t.book).length : Int)]
def aLeft (t : SS) (i j : Nat) : List Int := if two t i j = true then [(seen t i j ((Rd.leftL t.book).getD (idx2 i j) 0) : Nat)] else [-1]
theorem ll_ints {K : PySem.W.Frag} {l : List Nat} {v : V} {H : Hp} (h : LL K isI l v H) : LZ K (Rd.zints l) v H := by
  obtain ⟨a, xs, e, h1, h2⟩ := h
  exact ⟨a, xs, e, h1, h2.imp (f := fun (x : Nat) => (x : Int)) fun _ _ q => q⟩
theorem scen_rels {t : SS} (o : t.Ok) {x : Sc} (h : x ∈ Rd.scenP t.book) : x.1.length = Rd.nPairs t.things ∧ ∀ r ∈ x.1, r < 100 := by
  obtain ⟨rs, hrs, rfl⟩ := List.mem_map.mp h
  obtain ⟨h1, _, h3⟩ := Rd.mem_prod_left.mp (List.mem_filter.mp hrs).1
  exact ⟨h1, fun r hr => by have := h3 r hr; have := size_le t.kind; show r < 100; have : r < Qr.size t.kind := h3 r hr; omega⟩
theorem scen_plen {t : SS} (o : t.Ok) : (Rd.scenP t.book).length ≤ sizeLine := by
  rw [← (made_perm o).length_eq]
  exact made_len t o
theorem two_iff {t : SS} {i j : Nat} (h : two t i j = true) : i < t.things ∧ j < t.things ∧ i ≠ j := by
  unfold two at h
  rw [Bool.and_eq_true, Bool.and_eq_true] at h
  exact ⟨of_decide_eq_true h.1, of_decide_eq_true h.2.1, by simpa using h.2.2⟩
theorem idx2_lt {t : SS} {i j : Nat} (h : two t i j = true) : idx2 i j < Rd.nPairs t.things := by
  obtain ⟨h1, h2, h3⟩ := two_iff h
  exact Rd.pairs_lt (by omega) (by omega)
section
variable {K : PySem.W.Frag} {M : Md} {σ : L2.St} {B H : Hp} {te : TE} {D : Ends} {tz : TS}
/-- a, b = e -/
theorem yq_asg2 {α β : Type} {r : α → RP} {s : β → RP} {a : α} {b : β} {i j : Nat} (e : Ex B H) (iv : M.I B H) (h : Yl M te σ B (PR K r s (a, b))) (k : ∀ v w B2 H2, Gr M B H B2 H2 → r a v B2 → s b w B2 → tz D ((σ.set i (some v)).set j (some w)) H2) :
    tSeq (tAsg te (gTup K 2 (gCons (gName i) (gCons (gName j) gNil)))) tz D σ H := h B H (.refl _) e iv _ fun v B2 H2 g ⟨q, x, y, ev, hsq, hx, hy⟩ =>
  ⟨q, [x, y], ev, Evl.ex_t g.e hsq, rfl, x, [y], rfl, y, [], rfl, rfl, k x y B2 H2 g hx hy⟩
end
section
variable {P : Program} {w : World} {K : PySem.W.Frag} {mg : Str → Option Value} {base : Heap} {C : Addr} {f : Addr} {fd : FuncData}
theorem room64 {A' : Around} {j : Nat} (r : Room j A') : A'.units + 64 < cLine := by have := r.un; omega

/-! can -/
abbrev sCan : Stmt := stmtC 9
theorem scCan : FnScope ["self"] ["self"] (defScope sCan) := ⟨rfl, rfl, rfl, by decide +kernel, rfl, by decide +kernel, by decide +kernel⟩
abbrev spA0 (K : PySem.W.Frag) (C : Addr) (a : SS → List Int) : Sp := spK K C (fun (_ : Unit) => A0) (fun _ _ => True) fun t _ => LZ K (a t)
theorem calm_can (T : Txt K mg) (TC : TxC K C) (cS : CalM P w K mg base C 7 "scenarios" ["self"] (spScenarios K C)) (F : Fun K "can" "Statements.can" sCan f fd) (hm : Meth K C "can" f) : CalM P w K mg base C 8 "can" ["self"] (spA0 K C aCan) := by
  refine ⟨f, fd, hm, F.ok scCan (spM_len ac0) (fun cdv A outer s₀ H vs Q E hr h => ?_), F.binds (fun _ _ _ _ _ _ us hl => match us, hl with | [_], _ => rfl)⟩
  obtain ⟨B, s, dx, t, u, r, e, o, rfl, rfl, hP, k⟩ := h
  refine ⟨_, pss_one (ps_ret (pe_lst (pa_cons (pe_callTy call_int1 rfl T.b_int (by decide +kernel) (pa_cons (pe_cmpR (op_neD (room64 hr)) (pe_mcal0 cS TC.cl hr (pv 0)) (pe_lst pa_nil) (nomark _)) pa_nil)) pa_nil))), ?_⟩
  refine y_finM (K := K) (C := C) (s := s) (dx := dx) (t := t) k (Gr.refl e o) ((yl_lst1 (K := K) (r := isZ) (yl_intB (yl_neNil (l := Rd.scenP t.book) (yl_meth (by decide +kernel) () (yl_self rfl) ya_nil trivial)))).imp fun v _ _ z => ?_)
  show LZ K (aCan t) v _
  unfold aCan
  by_cases c : Rd.scenP t.book = []
  · rw [decide_eq_true c] at z
    rw [if_pos c]
    exact z
  · rw [decide_eq_false c] at z
    rw [if_neg c]
    exact z

/-! way, picture -/
abbrev sWay : Stmt := stmtC 10
abbrev nWay : List Str := ["self", "relations", "picture"]
theorem scWay : FnScope nWay ["self"] (defScope sWay) := ⟨rfl, rfl, rfl, by decide +kernel, rfl, by decide +kernel, by decide +kernel⟩
theorem calm_way (T : Txt K mg) (TC : TxC K C) (cS : CalM P w K mg base C 7 "scenarios" ["self"] (spScenarios K C)) (F : Fun K "way" "Statements.way" sWay f fd) (hm : Meth K C "way" f) : CalM P w K mg base C 8 "way" ["self"] (spA0 K C aWay) := by
  refine ⟨f, fd, hm, F.ok scWay (spM_len ac0) (fun cdv A outer s₀ H vs Q E hr h => ?_), F.binds (fun _ _ _ _ _ _ us hl => match us, hl with | [_], _ => rfl)⟩
  obtain ⟨B, s, dx, t, u, r, e, o, rfl, rfl, hP, k⟩ := h
  have ok : t.Ok := by obtain ⟨_, _, _, _, _, _, ok⟩ := o; exact ok
  have line : 1000 ≤ sizeLine := by decide
  refine ⟨_, pss_cons (ps_if (pt_cmpR (op_eqD (room64 hr)) (pe_mcal0 cS TC.cl hr (pv 0)) (pe_lst pa_nil) (nomark _)) (pss_one (ps_ret (pe_lst (pa_cons (pe_cst T.NOT_CONSISTENT) pa_nil)))) pss_nil)
    (pss_cons (ps_asg (pe_ix ix_list (pe_mcal0 cS TC.cl hr (pv 0)) pe_int (fun _ _ => rfl)) (pg_tup rfl (pgs_cons (pg_name (i := 1) scWay.nd rfl (Or.inl rfl)) (pgs_cons (pg_name (i := 2) scWay.nd rfl (Or.inl rfl)) pgs_nil))))
    (pss_one (ps_ret (pe_op op_cat (pe_lst (pa_cons (pe_callB call_len rfl T.b_len (by decide +kernel) (pa_cons (pv 1) pa_nil)) pa_nil)) (pe_callTy call_list_of rfl T.b_list (by decide +kernel) (pa_cons (pv 1) pa_nil)))))), ?_⟩
  have cs : ∀ {σ : L2.St} {B' : Hp}, σ[0]? = some (some (.ref s)) → Yl (MO K C s dx t) (tMeth C "scenarios" (spScenarios K C) [] E0 (tVar 0) tNil) σ B' (LL K (RS K) (Rd.scenP t.book)) := fun h => yl_meth (by decide +kernel) () (yl_self h) ya_nil trivial
  refine yq_when (M := MO K C s dx t) e o (yt_test (yl_eqNil (cs rfl))) (fun q B2 H2 g2 => ?_) (fun q B2 H2 g2 => ?_)
  · have q := of_decide_eq_true q
    refine y_finM (K := K) (C := C) (s := s) (dx := dx) (t := t) k g2 ((yl_lst1 (K := K) (r := isZ) (yl_zc (-6))).imp fun v _ _ z => ?_)
    show LZ K (aWay t) v _
    unfold aWay
    rw [q]
    exact z
  · have q := of_decide_eq_false q
    cases hS : Rd.scenP t.book with
    | nil => exact absurd hS q
    | cons x l =>
      have hx := scen_rels ok (x := x) (by rw [hS]; exact List.mem_cons_self)
      have h6 := nPairs6 ok.n
      refine yq_asg2 (M := MO K C s dx t) (K := K) (r := TU K isI) (s := LL K isI) (a := x.1) (b := x.2) g2.e g2.i (yl_ixL (K := K) (r := RS K) (l := Rd.scenP t.book) (cs rfl) (yl_zc 0) (by rw [hS]; exact atI_n (i := 0) rfl)) fun v1 v2 B3 H3 g3 r1 r2 => ?_
      refine y_finM (K := K) (C := C) (s := s) (dx := dx) (t := t) k (g2.trans g3) ((yl_cat (K := K) (r := isZ) (yl_lst1 (K := K) (r := isZ) (yl_lenT (K := K) (r := isI) (yl_var rfl r1)).z) ((yl_listOfT (K := K) (r := isI) (yl_var rfl r1)).imp fun v _ _ z => ll_ints z) (by rw [List.length_map]; show 1 + _ ≤ _; omega)).imp fun v _ _ z => ?_)
      show LZ K (aWay t) v _
      unfold aWay
      rw [hS]
      exact z
abbrev sPicture : Stmt := stmtC 11
theorem scPicture : FnScope nWay ["self"] (defScope sPicture) := ⟨rfl, rfl, rfl, by decide +kernel, rfl, by decide +kernel, by decide +kernel⟩
theorem pic_len {t : SS} (o : t.Ok) {x : Sc} (h : x ∈ Rd.scenP t.book) : x.2.length ≤ 1000 := by
  have hn := o.n
  have h2 := (made_perm o).mem_iff.mpr h
  unfold SS.made at h2
  by_cases c : t.kind = 2
  · rw [if_pos c] at h2
    obtain ⟨r, _, rfl⟩ := List.mem_map.mp h2
    show (Rd.cellsOf r t.things).length ≤ 1000
    unfold Rd.cellsOf
    refine Nat.le_trans (List.length_filter_le _ _) ?_
    rw [List.length_map, List.length_range]
    have h16 : 2 ^ t.things ≤ 16 := Nat.pow_le_pow_right (by decide) hn
    omega
  · rw [if_neg c] at h2
    obtain ⟨y, hy, rfl⟩ := List.mem_map.mp h2
    have hk := KO_of o.k c
    have G := ((Rd.allFigs_ok hk (Rd.leftL t.book) t.things).sound y hy).1
    have := (Rd.numsOf_crd hk G).1
    show (Rd.numsOf t.kind y.2).length ≤ 1000
    rw [this]
    have hm : Qr.marks t.kind ≤ 2 := by unfold Qr.marks; split <;> decide
    have := Nat.mul_le_mul hn hm
    omega
theorem calm_picture (T : Txt K mg) (TC : TxC K C) (cS : CalM P w K mg base C 7 "scenarios" ["self"] (spScenarios K C)) (F : Fun K "picture" "Statements.picture" sPicture f fd) (hm : Meth K C "picture" f) : CalM P w K mg base C 8 "picture" ["self"] (spA0 K C aPicture) := by
  refine ⟨f, fd, hm, F.ok scPicture (spM_len ac0) (fun cdv A outer s₀ H vs Q E hr h => ?_), F.binds (fun _ _ _ _ _ _ us hl => match us, hl with | [_], _ => rfl)⟩
  obtain ⟨B, s, dx, t, u, r, e, o, rfl, rfl, hP, k⟩ := h
  have ok : t.Ok := by obtain ⟨_, _, _, _, _, _, ok⟩ := o; exact ok
  have line : 10000 ≤ sizeLine := by decide
  refine ⟨_, pss_cons (ps_if (pt_cmpR (op_eqD (room64 hr)) (pe_mcal0 cS TC.cl hr (pv 0)) (pe_lst pa_nil) (nomark _)) (pss_one (ps_ret (pe_lst (pa_cons (pe_cst T.NOT_CONSISTENT) pa_nil)))) pss_nil)
    (pss_cons (ps_asg (pe_ix ix_list (pe_mcal0 cS TC.cl hr (pv 0)) pe_int (fun _ _ => rfl)) (pg_tup rfl (pgs_cons (pg_name (i := 1) scPicture.nd rfl (Or.inl rfl)) (pgs_cons (pg_name (i := 2) scPicture.nd rfl (Or.inl rfl)) pgs_nil))))
    (pss_one (ps_ret (pe_op op_cat (pe_lst (pa_cons (pe_callB call_len rfl T.b_len (by decide +kernel) (pa_cons (pv 2) pa_nil)) pa_nil)) (pv 2))))), ?_⟩
  have cs : ∀ {σ : L2.St} {B' : Hp}, σ[0]? = some (some (.ref s)) → Yl (MO K C s dx t) (tMeth C "scenarios" (spScenarios K C) [] E0 (tVar 0) tNil) σ B' (LL K (RS K) (Rd.scenP t.book)) := fun h => yl_meth (by decide +kernel) () (yl_self h) ya_nil trivial
  refine yq_when (M := MO K C s dx t) e o (yt_test (yl_eqNil (cs rfl))) (fun q B2 H2 g2 => ?_) (fun q B2 H2 g2 => ?_)
  · have q := of_decide_eq_true q
    refine y_finM (K := K) (C := C) (s := s) (dx := dx) (t := t) k g2 ((yl_lst1 (K := K) (r := isZ) (yl_zc (-6))).imp fun v _ _ z => ?_)
    show LZ K (aPicture t) v _
    unfold aPicture
    rw [q]
    exact z
  · have q := of_decide_eq_false q
    cases hS : Rd.scenP t.book with
    | nil => exact absurd hS q
    | cons x l =>
      have hx := pic_len ok (x := x) (by rw [hS]; exact List.mem_cons_self)
      refine yq_asg2 (M := MO K C s dx t) (K := K) (r := TU K isI) (s := LL K isI) (a := x.1) (b := x.2) g2.e g2.i (yl_ixL (K := K) (r := RS K) (l := Rd.scenP t.book) (cs rfl) (yl_zc 0) (by rw [hS]; exact atI_n (i := 0) rfl)) fun v1 v2 B3 H3 g3 r1 r2 => ?_
      refine y_finM (K := K) (C := C) (s := s) (dx := dx) (t := t) k (g2.trans g3) ((yl_cat (K := K) (r := isZ) (yl_lst1 (K := K) (r := isZ) (yl_lenL (K := K) (r := isI) (yl_var rfl r2)).z) ((yl_var (R := LL K isI x.2) rfl r2).imp fun v _ _ z => ll_ints z) (by rw [List.length_map]; show 1 + _ ≤ _; omega)).imp fun v _ _ z => ?_)
      show LZ K (aPicture t) v _
      unfold aPicture
      rw [hS]
      exact z

/-! relations_of -/
abbrev sRelationsOf : Stmt := stmtC 12
abbrev nRelationsOf : List Str := ["self", "pair", "relations", "picture"]
theorem scRelationsOf : FnScope nRelationsOf ["self", "pair"] (defScope sRelationsOf) := ⟨rfl, rfl, rfl, by decide +kernel, rfl, by decide +kernel, by decide +kernel⟩
abbrev spRelationsOf (K : PySem.W.Frag) (C : Addr) : Sp := spK K C (fun (x : Nat) => AC (isI x) A0) (fun t x => x < Rd.nPairs t.things) fun t x => isI (relsAt t x)
theorem calm_relations_of (T : Txt K mg) (TC : TxC K C) (cS : CalM P w K mg base C 7 "scenarios" ["self"] (spScenarios K C)) (cO : Cal P w K mg base 1 "set_of" ["relations"] (spSetOf K)) (F : Fun K "relations_of" "Statements.relations_of" sRelationsOf f fd) (hm : Meth K C "relations_of" f) :
    CalM P w K mg base C 8 "relations_of" ["self", "pair"] (spRelationsOf K C) := by
  refine ⟨f, fd, hm, F.ok scRelationsOf (spM_len ac1) (fun cdv A outer s₀ H vs Q E hr h => ?_), F.binds (fun _ _ _ _ _ _ us hl => match us, hl with | [_, _], _ => rfl)⟩
  obtain ⟨B, s, dx, t, q, r, e, o, rfl, ⟨v1, _, rfl, h1, rfl⟩, hP, k⟩ := h
  have ok : t.Ok := by obtain ⟨_, _, _, _, _, _, ok⟩ := o; exact ok
  refine ⟨_, pss_one (ps_ret (pe_cal cO (hr.mono (by decide)) (pa_cons (pe_lc (own := [("relations", 2), ("picture", 3)]) (g := gTup K 2 (gCons (gName 2) (gCons (gName 3) gNil))) rfl scRelationsOf.nd (pi_list (pe_mcal0 cS TC.cl hr (pv 0))) (blkOk_by (N := nRelationsOf) (sc := defScope sRelationsOf) (by decide +kernel))
    (fun _ _ _ _ _ => pg_tup rfl (pgs_cons (pg_name (i := 2) scRelationsOf.nd rfl (Or.inl rfl)) (pgs_cons (pg_name (i := 3) scRelationsOf.nd rfl (Or.inl rfl)) pgs_nil))) (fun _ _ _ _ _ => pts_nil) (fun _ _ _ _ _ => pe_ix (ix_tK K) (pv 2) (pv 1) (fun _ _ => rfl))) pa_nil))), ?_⟩
  refine y_finM (K := K) (C := C) (s := s) (dx := dx) (t := t) k (Gr.refl e o) (yl_call ((Rd.scenP t.book).map fun x => Rd.at0 x.1 q) (ya1 ((yl_lcL (K := K) (r := RS K) (rb := isI) (l := Rd.scenP t.book) (fun _ => true) (fun x => Rd.at0 x.1 q) (yl_meth (by decide +kernel) () (yl_self rfl) ya_nil trivial) (scen_plen ok) ?_).imp fun v _ _ z => ?_)) ?_)
  · rintro ⟨rels, pic⟩ x B' ha eB ⟨a, y1, y2, rfl, hsq, hy1, hy2⟩
    have hx := scen_rels ok ha
    have hq : q < rels.length := by rw [hx.1]; exact hP
    refine ⟨((wipe [some (.ref s), some v1, none, none] [2, 3]).set 2 (some y1)).set 3 (some y2), ?_, fun H' Q eH q => ⟨a, [y1, y2], rfl, Evl.ex_t eH hsq, rfl, y1, [y2], rfl, y2, [], rfl, rfl, q⟩, fun _ _ => yt_yes, fun B5 eB5 _ => ?_⟩
    · rfl
    · exact yl_ixT (K := K) (r := isI) (l := rels) (yl_var rfl (MoC.up eB5 hy1)) (yl_var (R := isZ q) rfl h1) (atI_n (at0_get hq))
  · rw [List.filter_eq_self.mpr (fun _ _ => rfl)] at z
    exact z
  · intro r hr
    obtain ⟨x, hx, rfl⟩ := List.mem_map.mp hr
    have hx2 := scen_rels ok hx
    exact hx2.2 _ (Rd.at0_mem (by rw [hx2.1]; exact hP))

/-! may, left -/
abbrev sMay : Stmt := stmtC 14
abbrev nMay : List Str := ["self", "one", "other", "found"]
theorem scMay : FnScope nMay ["self", "one", "other"] (defScope sMay) := ⟨rfl, rfl, rfl, by decide +kernel, rfl, by decide +kernel, by decide +kernel⟩
abbrev spA2 (K : PySem.W.Frag) (C : Addr) (a : SS → Nat → Nat → List Int) : Sp := spK K C (fun (x : Nat × Nat) => AC (isI x.1) (AC (isI x.2) A0)) (fun _ _ => True) fun t x => LZ K (a t x.1 x.2)
theorem calm_may (T : Txt K mg) (TC : TxC K C) (cT : CalM P w K mg base C 1 "are_two" ["self", "one", "other"] (spAreTwo K C)) (cR : CalM P w K mg base C 8 "relations_of" ["self", "pair"] (spRelationsOf K C)) (cV : CalM P w K mg base C 4 "seen_from" ["self", "one", "other", "some"] (spSeenFrom K C))
    (cP : Cal P w K mg base 1 "pair_number" ["lower", "higher"] spPairNumber) (F : Fun K "may" "Statements.may" sMay f fd) (hm : Meth K C "may" f) : CalM P w K mg base C 9 "may" ["self", "one", "other"] (spA2 K C aMay) := by
  refine ⟨f, fd, hm, F.ok scMay (spM_len ac2) (fun cdv A outer s₀ H vs Q E hr h => ?_), F.binds (fun _ _ _ _ _ _ us hl => match us, hl with | [_, _, _], _ => rfl)⟩
  obtain ⟨B, s, dx, t, ⟨i, j⟩, r, e, o, rfl, ⟨v1, _, rfl, h1, v2, _, rfl, h2, rfl⟩, hP, k⟩ := h
  have ok : t.Ok := by obtain ⟨_, _, _, _, _, _, ok⟩ := o; exact ok
  have hr1 : Room 1 _ := hr.mono (by decide)
  have hr4 : Room 4 _ := hr.mono (by decide)
  refine ⟨_, pss_cons (ps_if (pt_not (pt_val (pe_mcal cT TC.cl hr1 (pv 0) (pa_cons (pv 1) (pa_cons (pv 2) pa_nil))))) (pss_one (ps_ret (pe_lst (pa_cons (pe_cst T.NOT_VALID) pa_nil)))) pss_nil)
    (pss_cons (ps_set (i := 3) scMay.nd rfl (.inl rfl) (pe_mcal cR TC.cl hr (pv 0) (pa_cons (pe_cal cP hr1 (pa_cons (pe_callB (call_min2 rfl) rfl T.b_min (by decide +kernel) (pa_cons (pv 1) (pa_cons (pv 2) pa_nil))) (pa_cons (pe_callB (call_max2 rfl) rfl T.b_max (by decide +kernel) (pa_cons (pv 1) (pa_cons (pv 2) pa_nil))) pa_nil))) pa_nil)))
    (pss_one (ps_ret (pe_lst (pa_cons (pe_mcal cV TC.cl hr4 (pv 0) (pa_cons (pv 1) (pa_cons (pv 2) (pa_cons (pv 3) pa_nil)))) pa_nil))))), ?_⟩
  refine yq_when (M := MO K C s dx t) e o (yt_not (yt_B (yl_meth (by decide +kernel) (i, j) (yl_self rfl) (ya2 (yl_var rfl h1) (yl_var rfl h2)) trivial))) (fun q B2 H2 g2 => ?_) (fun q B2 H2 g2 => ?_)
  · rw [Bool.not_eq_true'] at q
    refine y_finM (K := K) (C := C) (s := s) (dx := dx) (t := t) k g2 ((yl_lst1 (K := K) (r := isZ) (yl_zc (-1))).imp fun v _ _ z => ?_)
    show LZ K (aMay t i j) v _
    unfold aMay
    rw [if_neg (by rw [show two t i j = false from q]; decide)]
    exact z
  · rw [Bool.not_eq_false'] at q
    replace q : two t i j = true := q
    obtain ⟨hi, hj, hne⟩ := two_iff q
    have hn := ok.n
    refine yq_asg (M := MO K C s dx t) (R := isI (relsAt t (idx2 i j))) g2.e g2.i (yl_meth (by decide +kernel) (idx2 i j) (yl_self rfl) (ya1 (yl_call (min i j, max i j) (ya2 (yl_min2 (yl_var (R := isI i) rfl (MoC.up g2.b h1)) (yl_var (R := isI j) rfl (MoC.up g2.b h2))) (yl_max2 (yl_var (R := isI i) rfl (MoC.up g2.b h1)) (yl_var (R := isI j) rfl (MoC.up g2.b h2)))) (show max i j ≤ 4 by omega))) (idx2_lt q)) fun vf B3 H3 g3 rf => ?_
    refine y_finM (K := K) (C := C) (s := s) (dx := dx) (t := t) k (g2.trans g3) ((yl_lst1 (K := K) (r := isZ) (yl_meth (by decide +kernel) (i, j, relsAt t (idx2 i j)) (yl_self rfl) (ya3 (yl_var rfl (MoC.up (g2.b.trans g3.b) h1)) (yl_var rfl (MoC.up (g2.b.trans g3.b) h2)) (yl_var rfl rf)) trivial).z).imp fun v _ _ z => ?_)
    show LZ K (aMay t i j) v _
    unfold aMay
    rw [if_pos q]
    exact z
abbrev sLeft : Stmt := stmtC 17
theorem scLeft : FnScope nMay ["self", "one", "other"] (defScope sLeft) := ⟨rfl, rfl, rfl, by decide +kernel, rfl, by decide +kernel, by decide +kernel⟩
theorem calm_left (T : Txt K mg) (TC : TxC K C) (cT : CalM P w K mg base C 1 "are_two" ["self", "one", "other"] (spAreTwo K C)) (cL : CalM P w K mg base C 4 "left_of_pairs" ["self"] (spLeftOfPairs K C)) (cV : CalM P w K mg base C 4 "seen_from" ["self", "one", "other", "some"] (spSeenFrom K C))
    (cP : Cal P w K mg base 1 "pair_number" ["lower", "higher"] spPairNumber) (F : Fun K "left" "Statements.left" sLeft f fd) (hm : Meth K C "left" f) : CalM P w K mg base C 5 "left" ["self", "one", "other"] (spA2 K C aLeft) := by
  refine ⟨f, fd, hm, F.ok scLeft (spM_len ac2) (fun cdv A outer s₀ H vs Q E hr h => ?_), F.binds (fun _ _ _ _ _ _ us hl => match us, hl with | [_, _, _], _ => rfl)⟩
  obtain ⟨B, s, dx, t, ⟨i, j⟩, r, e, o, rfl, ⟨v1, _, rfl, h1, v2, _, rfl, h2, rfl⟩, hP, k⟩ := h
  have ok : t.Ok := by obtain ⟨_, _, _, _, _, _, ok⟩ := o; exact ok
  have hr1 : Room 1 _ := hr.mono (by decide)
  refine ⟨_, pss_cons (ps_if (pt_not (pt_val (pe_mcal cT TC.cl hr1 (pv 0) (pa_cons (pv 1) (pa_cons (pv 2) pa_nil))))) (pss_one (ps_ret (pe_lst (pa_cons (pe_cst T.NOT_VALID) pa_nil)))) pss_nil)
    (pss_cons (ps_set (i := 3) scLeft.nd rfl (.inl rfl) (pe_ix ix_list (pe_mcal0 cL TC.cl hr (pv 0)) (pe_cal cP hr1 (pa_cons (pe_callB (call_min2 rfl) rfl T.b_min (by decide +kernel) (pa_cons (pv 1) (pa_cons (pv 2) pa_nil))) (pa_cons (pe_callB (call_max2 rfl) rfl T.b_max (by decide +kernel) (pa_cons (pv 1) (pa_cons (pv 2) pa_nil))) pa_nil))) (fun _ _ => rfl)))
    (pss_one (ps_ret (pe_lst (pa_cons (pe_mcal cV TC.cl hr (pv 0) (pa_cons (pv 1) (pa_cons (pv 2) (pa_cons (pv 3) pa_nil)))) pa_nil))))), ?_⟩
  refine yq_when (M := MO K C s dx t) e o (yt_not (yt_B (yl_meth (by decide +kernel) (i, j) (yl_self rfl) (ya2 (yl_var rfl h1) (yl_var rfl h2)) trivial))) (fun q B2 H2 g2 => ?_) (fun q B2 H2 g2 => ?_)
  · rw [Bool.not_eq_true'] at q
    refine y_finM (K := K) (C := C) (s := s) (dx := dx) (t := t) k g2 ((yl_lst1 (K := K) (r := isZ) (yl_zc (-1))).imp fun v _ _ z => ?_)
    show LZ K (aLeft t i j) v _
    unfold aLeft
    rw [if_neg (by rw [show two t i j = false from q]; decide)]
    exact z
  · rw [Bool.not_eq_false'] at q
    replace q : two t i j = true := q
    obtain ⟨hi, hj, hne⟩ := two_iff q
    have hn := ok.n
    have hix := idx2_lt q
    have hll := leftL_len' t
    refine yq_asg (M := MO K C s dx t) (R := isI ((Rd.leftL t.book).getD (idx2 i j) 0)) g2.e g2.i (yl_ixL (K := K) (r := isI) (l := Rd.leftL t.book) (yl_meth (by decide +kernel) () (yl_self rfl) ya_nil trivial) (yl_call (min i j, max i j) (ya2 (yl_min2 (yl_var (R := isI i) rfl (MoC.up g2.b h1)) (yl_var (R := isI j) rfl (MoC.up g2.b h2))) (yl_max2 (yl_var (R := isI i) rfl (MoC.up g2.b h1)) (yl_var (R := isI j) rfl (MoC.up g2.b h2)))) (show max i j ≤ 4 by omega)).z (atI_n (at0_get (i := idx2 i j) (by omega)))) fun vf B3 H3 g3 rf => ?_
    refine y_finM (K := K) (C := C) (s := s) (dx := dx) (t := t) k (g2.trans g3) ((yl_lst1 (K := K) (r := isZ) (yl_meth (by decide +kernel) (i, j, (Rd.leftL t.book).getD (idx2 i j) 0) (yl_self rfl) (ya3 (yl_var rfl (MoC.up (g2.b.trans g3.b) h1)) (yl_var rfl (MoC.up (g2.b.trans g3.b) h2)) (yl_var rfl rf)) trivial).z).imp fun v _ _ z => ?_)
    show LZ K (aLeft t i j) v _
    unfold aLeft
    rw [if_pos q]
    exact z

/-! all, count -/
abbrev sToldAll : Stmt := stmtC 15
abbrev nToldAll : List Str := ["self", "many", "pair"]
theorem scToldAll : FnScope nToldAll ["self"] (defScope sToldAll) := ⟨rfl, rfl, rfl, by decide +kernel, rfl, by decide +kernel, by decide +kernel⟩
theorem calm_told_all (T : Txt K mg) (TC : TxC K C) (cS : CalM P w K mg base C 7 "scenarios" ["self"] (spScenarios K C)) (cR : CalM P w K mg base C 8 "relations_of" ["self", "pair"] (spRelationsOf K C)) (cM : Cal P w K mg base 1 "many_pairs" ["objects"] spManyPairs)
    (F : Fun K "told_all" "Statements.told_all" sToldAll f fd) (hm : Meth K C "told_all" f) : CalM P w K mg base C 9 "told_all" ["self"] (spA0 K C aAll) := by
  refine ⟨f, fd, hm, F.ok scToldAll (spM_len ac0) (fun cdv A outer s₀ H vs Q E hr h => ?_), F.binds (fun _ _ _ _ _ _ us hl => match us, hl with | [_], _ => rfl)⟩
  obtain ⟨B, s, dx, t, u, r, e, o, rfl, rfl, hP, k⟩ := h
  have ok : t.Ok := by obtain ⟨_, _, _, _, _, _, ok⟩ := o; exact ok
  have line : 1000 ≤ sizeLine := by decide
  have h6 := nPairs6 ok.n
  have hr1 : Room 1 _ := hr.mono (by decide)
  have hr7 : Room 7 _ := hr.mono (by decide)
  refine ⟨_, pss_cons (ps_if (pt_cmpR (op_eqD (room64 hr)) (pe_mcal0 cS TC.cl hr7 (pv 0)) (pe_lst pa_nil) (nomark _)) (pss_one (ps_ret (pe_lst (pa_cons (pe_cst T.NOT_CONSISTENT) pa_nil)))) pss_nil)
    (pss_cons (ps_set (i := 1) scToldAll.nd rfl (.inl rfl) (pe_cal cM hr1 (pa_cons (pe_fld (pv 0) rfl) pa_nil)))
    (pss_one (ps_ret (pe_op op_cat (pe_lst (pa_cons (pv 1) pa_nil)) (pe_lc (own := [("pair", 2)]) (g := gName 2) rfl scToldAll.nd (pi_range1 rfl T.b_range (pa_cons (pv 1) pa_nil)) (blkOk_by (N := nToldAll) (sc := defScope sToldAll) (by decide +kernel)) (fun _ _ _ _ _ => pg_name (i := 2) scToldAll.nd rfl (Or.inl rfl)) (fun _ _ _ _ _ => pts_nil)
      (fun _ _ _ _ _ => pe_mcal cR TC.cl hr (pv 0) (pa_cons (pv 2) pa_nil))))))), ?_⟩
  refine yq_when (M := MO K C s dx t) e o (yt_test (yl_eqNil (l := Rd.scenP t.book) (yl_meth (by decide +kernel) () (yl_self rfl) ya_nil trivial))) (fun q B2 H2 g2 => ?_) (fun q B2 H2 g2 => ?_)
  · have q := of_decide_eq_true q
    refine y_finM (K := K) (C := C) (s := s) (dx := dx) (t := t) k g2 ((yl_lst1 (K := K) (r := isZ) (yl_zc (-6))).imp fun v _ _ z => ?_)
    show LZ K (aAll t) v _
    unfold aAll
    rw [if_pos q]
    exact z
  · have q := of_decide_eq_false q
    refine yq_asg (M := MO K C s dx t) (R := isI (Rd.nPairs t.things)) g2.e g2.i (yl_call t.things (ya1 (yl_objects TC (yl_self rfl))) ok.n) fun vm B3 H3 g3 rm => ?_
    refine y_finM (K := K) (C := C) (s := s) (dx := dx) (t := t) k (g2.trans g3) ((yl_cat (K := K) (r := isZ) (yl_lst1 (K := K) (r := isZ) (yl_var (R := isZ (Rd.nPairs t.things : Nat)) rfl rm)) ((yl_lcR (K := K) (rb := isI) (n := Rd.nPairs t.things) (fun _ => true) (relsAt t) (ya1 (yl_var rfl rm)) (by omega) (fun x => rfl) (fun _ _ _ _ => yt_yes) (fun a B' ha eB _ => yl_meth (by decide +kernel) a (yl_self rfl) (ya1 (yl_var rfl rfl)) ha)).imp fun v _ _ z => ll_ints z) (by
      rw [List.length_map, List.length_map, List.filter_eq_self.mpr (fun _ _ => rfl), List.length_range]
      show 1 + _ ≤ _
      omega)).imp fun v _ _ z => ?_)
    show LZ K (aAll t) v _
    unfold aAll
    rw [if_neg q]
    rw [List.filter_eq_self.mpr (fun _ _ => rfl)] at z
    have e1 : Rd.zints ((List.range (Rd.nPairs t.things)).map (relsAt t)) = (List.range (Rd.nPairs t.things)).map fun q => ((relsAt t q : Nat) : Int) := by
      show List.map _ (List.map _ _) = _
      rw [List.map_map]
      rfl
    rw [e1] at z
    exact z
abbrev sCount : Stmt := stmtC 16
theorem scCount : FnScope ["self"] ["self"] (defScope sCount) := ⟨rfl, rfl, rfl, by decide +kernel, rfl, by decide +kernel, by decide +kernel⟩
theorem calm_count (T : Txt K mg) (TC : TxC K C) (cS : CalM P w K mg base C 7 "scenarios" ["self"] (spScenarios K C)) (F : Fun K "count" "Statements.count" sCount f fd) (hm : Meth K C "count" f) : CalM P w K mg base C 8 "count" ["self"] (spA0 K C aCount) := by
  refine ⟨f, fd, hm, F.ok scCount (spM_len ac0) (fun cdv A outer s₀ H vs Q E hr h => ?_), F.binds (fun _ _ _ _ _ _ us hl => match us, hl with | [_], _ => rfl)⟩
  obtain ⟨B, s, dx, t, u, r, e, o, rfl, rfl, hP, k⟩ := h
  refine ⟨_, pss_cons (ps_if (PW.pt (pw_and (pt_cmpR op_eq (pe_fld (pv 0) rfl) (pe_cst T.INTERVALS) (nomark _)) (pw_and1 (pt_cmpR op_eq (pe_fld (pv 0) rfl) (pe_cst T.MOST_OBJECTS) (nomark _))))) (pss_one (ps_ret (pe_lst (pa_cons (pe_cst T.TOO_MANY) pa_nil)))) pss_nil)
    (pss_one (ps_ret (pe_lst (pa_cons (pe_callB call_len rfl T.b_len (by decide +kernel) (pa_cons (pe_mcal0 cS TC.cl hr (pv 0)) pa_nil)) pa_nil)))), ?_⟩
  refine yq_when (M := MO K C s dx t) e o (yt_and (yt_test (yl_eq (yl_kind TC (yl_self rfl)).z (yl_zc 1))) fun _ => yt_test (yl_eq (yl_objects TC (yl_self rfl)).z (yl_zc 4))) (fun q B2 H2 g2 => ?_) (fun q B2 H2 g2 => ?_)
  · rw [Bool.and_eq_true, decide_eq_true_iff, decide_eq_true_iff] at q
    refine y_finM (K := K) (C := C) (s := s) (dx := dx) (t := t) k g2 ((yl_lst1 (K := K) (r := isZ) (yl_zc (-7))).imp fun v _ _ z => ?_)
    show LZ K (aCount t) v _
    unfold aCount
    rw [if_pos ⟨by omega, by omega⟩]
    exact z
  · have q : ¬ (t.kind = 1 ∧ t.things = 4) := by
      rintro ⟨h1, h2⟩
      rw [h1, h2] at q
      exact absurd q (by decide)
    refine y_finM (K := K) (C := C) (s := s) (dx := dx) (t := t) k g2 ((yl_lst1 (K := K) (r := isZ) (yl_lenL (K := K) (r := RS K) (l := Rd.scenP t.book) (yl_meth (by decide +kernel) () (yl_self rfl) ya_nil trivial)).z).imp fun v _ _ z => ?_)
    show LZ K (aCount t) v _
    unfold aCount
    rw [if_neg q]
    exact z
end
end RdW

set_option Elab.async false
set_option autoImplicit false
set_option linter.all false
set_option maxRecDepth 100000
set_option maxHeartbeats 2000000
/-! RdB3: the operations that change the object. -/
namespace RdW
open PySem L2
open Evl (Ex)
/-- the thing at s stays as it is, and is not among the data -/
def MF (s : Addr) (o : HO) : Md where
  x := fun a => a = s
  I := fun B H => B s = none ∧ H s = some o
  xt := fun {B H a} i e => by subst e; rw [i.2]; exact fun z => nomatch z
  st := fun {B H B2 H2} i eB _ k => by
    obtain ⟨k1, k2⟩ := k s rfl
    exact ⟨k1.trans i.1, by rw [k2]; exact i.2⟩
theorem Gr.ofMF {s : Addr} {o : HO} {B H B2 H2 : Hp} (g : Gr (MF s o) B H B2 H2) : Gr (M1 s) B H B2 H2 := ⟨g.b, g.e, g.n, g.h, g.d, g.i.1, by rw [g.i.2]; exact fun z => nomatch z⟩
section
variable {M : Md} {K : PySem.W.Frag} {σ : L2.St} {B : Hp} {ta tb tc te : TE}
theorem yl_chainLe {x y z : Int} (ha : Yl M ta σ B (isZ x)) (hb : Yl M tb σ B (isZ y)) (hc : Yl M tc σ B (isZ z)) :
    Yl M (tChain (rI0 fun i j => .bl (decide (i ≤ j))) (rI0 fun i j => .bl (decide (i ≤ j))) ta tb tc) σ B (isB (decide (x ≤ y) && decide (y ≤ z))) := fun B1 H1 e1 e2 i Q q =>
  ha B1 H1 e1 e2 i _ fun v B2 H2 g2 r2 => hb B2 H2 (e1.trans g2.b) g2.e g2.i _ fun w B3 H3 g3 r3 => by
    refine ⟨x, y, r2, r3, decide (x ≤ y), rfl, ?_⟩
    by_cases c : x ≤ y
    · rw [if_pos (decide_eq_true c)]
      refine hc B3 H3 (e1.trans (g2.b.trans g3.b)) g3.e g3.i _ fun u B4 H4 g4 r4 => ⟨y, z, r3, r4, q _ B4 H4 ((g2.trans g3).trans g4) ?_⟩
      rw [decide_eq_true c, Bool.true_and]
      rfl
    · rw [if_neg (by rw [decide_eq_true_iff]; exact c)]
      refine q _ B3 H3 (g2.trans g3) ?_
      rw [decide_eq_false c, Bool.false_and]
      rfl
/-- xs[:n] -/
theorem yl_slT {α : Type} {r : α → RP} [mr : ∀ a, MoC (r a)] {l : List α} {n : Nat} (ha : Yl M ta σ B (LL K r l)) (hb : Yl M tb σ B (isI n)) : Yl M (tSl (rSlL K) ta tNoPart (tPart tb)) σ B (LL K r (l.take n)) := fun B1 H1 e1 e2 i Q q =>
  ha B1 H1 e1 e2 i _ fun v B2 H2 g2 r2 => hb B2 H2 (e1.trans g2.b) g2.e g2.i _ fun w B3 H3 g3 r3 => by
    obtain ⟨a, xs, rfl, h1, h2⟩ := MoC.up (R := LL K r l) g3.b r2
    refine ⟨(n : Int), r3, a, xs, rfl, .of (g3.e _ _ h1), fun p hp => ?_⟩
    refine q _ _ _ ((g2.trans g3).trans (.of0 g3.i (.new g3.e hp))) ?_
    have e : cutV xs none (some (n : Int)) = xs.take n := by
      unfold cutV
      rw [HT.sIx_none, HT.sIx_nat, List.drop_zero, Nat.sub_zero]
      by_cases c : n ≤ xs.length
      · rw [Nat.min_eq_left c]
      · rw [Nat.min_eq_right (by omega), List.take_of_length_le (Nat.le_refl _), List.take_of_length_le (by omega)]
    rw [e]
    exact ll_new (h2.take n) (Ex.none g3.e hp)
/-- xs[n:] -/
theorem yl_slD {α : Type} {r : α → RP} [mr : ∀ a, MoC (r a)] {l : List α} {n : Nat} (ha : Yl M ta σ B (LL K r l)) (hb : Yl M tb σ B (isI n)) : Yl M (tSl (rSlL K) ta (tPart tb) tNoPart) σ B (LL K r (l.drop n)) := fun B1 H1 e1 e2 i Q q =>
  ha B1 H1 e1 e2 i _ fun v B2 H2 g2 r2 => hb B2 H2 (e1.trans g2.b) g2.e g2.i _ fun w B3 H3 g3 r3 => by
    obtain ⟨a, xs, rfl, h1, h2⟩ := MoC.up (R := LL K r l) g3.b r2
    refine ⟨(n : Int), r3, a, xs, rfl, .of (g3.e _ _ h1), fun p hp => ?_⟩
    refine q _ _ _ ((g2.trans g3).trans (.of0 g3.i (.new g3.e hp))) ?_
    have e : cutV xs (some (n : Int)) none = xs.drop n := by
      unfold cutV
      rw [HT.sIx_none, HT.sIx_nat]
      by_cases c : n ≤ xs.length
      · rw [Nat.min_eq_left c, List.take_of_length_le (by rw [List.length_drop]; exact Nat.le_refl _)]
      · rw [Nat.min_eq_right (by omega), List.drop_of_length_le (by omega : xs.length ≤ n), List.drop_of_length_le (Nat.le_refl _), List.take_nil]
    rw [e]
    exact ll_new (h2.drop n) (Ex.none g3.e hp)
end
section
variable {P : Program} {w : World} {K : PySem.W.Frag} {mg : Str → Option Value} {base : Heap} {C : Addr} {f : Addr} {fd : FuncData}

/-! __init__ -/
abbrev sInit : Stmt := stmtC 0
theorem scInit : FnScope ["self"] ["self"] (defScope sInit) := ⟨rfl, rfl, rfl, by decide +kernel, rfl, by decide +kernel, by decide +kernel⟩
def spInit (K : PySem.W.Frag) (C : Addr) : Sp := fun vs H Q _ => ∃ (B : Hp) (s dx : Addr), Ex B H ∧ B s = none ∧ H s = some (.ins C dx []) ∧ vs = [.ref s] ∧ ∀ B2 H2, Gr (M1 s) B H B2 H2 → ObjAt K C s dx ⟨0, 0, []⟩ B2 H2 → Q .non H2
theorem spInit_len : ∀ vs H Q E, spInit K C vs H Q E → vs.length = 1 := by
  rintro vs H Q E ⟨B, s, dx, _, _, _, rfl, _⟩
  rfl
theorem init_ok (T : Txt K mg) (TC : TxC K C) (F : Fun K "__init__" "Statements.__init__" sInit f fd) : FnOk P w K mg base CX0 1 f fd ["self"] (spInit K C) ∧ Binds K fd ["self"] [] := by
  refine ⟨F.ok scInit spInit_len (fun cdv A outer s₀ H vs Q E hr h => ?_), F.binds (fun _ _ _ _ _ _ us hl => match us, hl with | [_], _ => rfl)⟩
  obtain ⟨B, s, dx, e, b0, hs, rfl, k⟩ := h
  have small : (4 : Nat) < 1000 := by decide
  refine ⟨_, pss_cons (ps_fld (pv 0) (pe_cst T.POINTS) rfl) (pss_cons (ps_fld (pv 0) pe_int rfl) (pss_cons (ps_fld (pv 0) (pe_lst pa_nil) rfl) (pss_one (ps_fld (pv 0) pe_non rfl)))), ?_⟩
  refine ⟨.ref s, rfl, s, C, dx, [], rfl, hs, TC.cl, TC.nK, by decide, ?_⟩
  have p1 : putF "kind" (.int 0) [] = [(("kind" : Str), V.int 0)] := rfl
  rw [p1]
  refine ⟨.ref s, rfl, s, C, dx, _, rfl, upd_same, TC.cl, TC.nO, (by show 1 < 1000; decide), ?_⟩
  have p2 : putF "objects" (.int 0) [(("kind" : Str), V.int 0)] = [(("kind" : Str), V.int 0), (("objects" : Str), V.int 0)] := by
    rw [put_past (by decide +kernel)]
    rfl
  rw [p2]
  have g0 : Gr (M1 s) B H B H := Gr.refl e ⟨b0, by rw [hs]; exact fun z => nomatch z⟩
  have g1 := (g0.setS (o' := .ins C dx [(("kind" : Str), V.int 0)]) hs).setS (o' := .ins C dx [(("kind" : Str), V.int 0), (("objects" : Str), V.int 0)]) upd_same
  refine ⟨Nat.zero_le _, fun p hp => ?_⟩
  have g2 : Gr (MF s (.ins C dx [(("kind" : Str), V.int 0), (("objects" : Str), V.int 0)])) B _ (upd B p (.lst [])) _ := .of0 ⟨b0, upd_same⟩ (.new g1.e hp)
  have rv : LL K (RW K) [] (.ref p) (upd B p (.lst [])) := ll_new trivial (Ex.none g1.e hp)
  obtain ⟨b2, hs2⟩ := g2.i
  refine ⟨.ref s, rfl, s, C, dx, _, rfl, hs2, TC.cl, TC.nR, (by show 2 < 1000; decide), ?_⟩
  have p3 : putF "rows" (.ref p) [(("kind" : Str), V.int 0), (("objects" : Str), V.int 0)] = [(("kind" : Str), V.int 0), (("objects" : Str), V.int 0), (("rows" : Str), .ref p)] := by
    rw [put_past (by decide +kernel), put_past (by decide +kernel)]
    rfl
  rw [p3]
  refine ⟨.ref s, rfl, s, C, dx, _, rfl, upd_same, TC.cl, TC.nN, (by show 3 < 1000; decide), ?_⟩
  have p4 : putF "known" .non [(("kind" : Str), V.int 0), (("objects" : Str), V.int 0), (("rows" : Str), .ref p)] = fF ⟨0, 0, []⟩ (.ref p) .non := by
    rw [put_past (by decide +kernel), put_past (by decide +kernel), put_past (by decide +kernel)]
    rfl
  rw [p4]
  have g3 := ((g1.trans g2.ofMF).setS (o' := .ins C dx [(("kind" : Str), V.int 0), (("objects" : Str), V.int 0), (("rows" : Str), .ref p)]) hs2).setS (o' := .ins C dx (fF ⟨0, 0, []⟩ (.ref p) .non)) upd_same
  exact k _ _ g3 ⟨b2, .ref p, .non, upd_same, rv, .inl rfl, (by decide), (by decide), (fun r hr => nomatch hr), (by decide)⟩

/-! put -/
abbrev sPut : Stmt := stmtC 2
theorem scPut : FnScope ["self", "rows"] ["self", "rows"] (defScope sPut) := ⟨rfl, rfl, rfl, by decide +kernel, rfl, by decide +kernel, by decide +kernel⟩
def spPut (K : PySem.W.Frag) (C : Addr) : Sp := fun vs H Q _ => ∃ (B : Hp) (s dx : Addr) (t : SS) (vr vk v : V), Ex B H ∧ B s = none ∧ H s = some (.ins C dx (fF t vr vk)) ∧ vs = [.ref s, v] ∧ LL K (RW K) t.rows v B ∧ t.Ok ∧
  ∀ B2 H2, Gr (M1 s) B H B2 H2 → ObjAt K C s dx t B2 H2 → Q .non H2
theorem spPut_len : ∀ vs H Q E, spPut K C vs H Q E → vs.length = 2 := by
  rintro vs H Q E ⟨B, s, dx, t, vr, vk, v, _, _, _, rfl, _⟩
  rfl
theorem calm_put (TC : TxC K C) (F : Fun K "put" "Statements.put" sPut f fd) (hm : Meth K C "put" f) : CalM P w K mg base C 1 "put" ["self", "rows"] (spPut K C) := by
  refine ⟨f, fd, hm, F.ok scPut spPut_len (fun cdv A outer s₀ H vs Q E hr h => ?_), F.binds (fun _ _ _ _ _ _ us hl => match us, hl with | [_, _], _ => rfl)⟩
  obtain ⟨B, s, dx, t, vr, vk, v, e, b0, hs, rfl, hv, ok, k⟩ := h
  refine ⟨_, pss_cons (ps_fld (pv 0) (pv 1) rfl) (pss_one (ps_fld (pv 0) pe_non rfl)), ?_⟩
  have p1 : putF "rows" v (fF t vr vk) = fF t v vk := put_rows t t.rows vr vk v
  have p2 : putF "known" .non (fF t v vk) = fF t v .non := put_known t v vk .non
  refine ⟨v, rfl, .ref s, rfl, s, C, dx, _, rfl, hs, TC.cl, TC.nR, (by show 4 < 1000; decide), ?_⟩
  rw [p1]
  refine ⟨.ref s, rfl, s, C, dx, _, rfl, upd_same, TC.cl, TC.nN, (by show 4 < 1000; decide), ?_⟩
  rw [p2]
  have g0 : Gr (M1 s) B H B H := Gr.refl e ⟨b0, by rw [hs]; exact fun z => nomatch z⟩
  exact k B _ ((g0.setS hs).setS upd_same) ⟨b0, v, .non, upd_same, hv, .inl rfl, ok⟩
/-- self.put(e) -/
theorem y_put {M : Md} {s dx : Addr} {t t' : SS} {σ : L2.St} {B H : Hp} {te : TE} {D : Ends} {tz : TS} (hx : ∀ B H B2 H2, Gr M B H B2 H2 → Gr (M1 s) B H B2 H2) (hI : ∀ B H, M.I B H → B s = none ∧ ∃ vr vk, H s = some (.ins C dx (fF t vr vk)))
    (e : Ex B H) (iv : M.I B H) (hs : σ[0]? = some (some (.ref s))) (h : Yl M te σ B (LL K (RW K) t'.rows)) (hk : t'.kind = t.kind) (hn : t'.things = t.things) (ok : t'.Ok) (k : ∀ B2 H2, Gr (M1 s) B H B2 H2 → ObjAt K C s dx t' B2 H2 → tz D σ H2) :
    tSeq (tDrop (tMeth C "put" (spPut K C) [] E0 (tVar 0) (tCons te tNil))) tz D σ H := by
  obtain ⟨b0, vr0, vk0, hs0⟩ := hI B H iv
  refine ⟨.ref s, hs, s, dx, _, rfl, hs0, fF_far (by decide +kernel) t vr0 vk0, ?_⟩
  refine h B H (.refl _) e iv _ fun v B2 H2 g2 rv => ?_
  obtain ⟨b2, vr, vk, hs2⟩ := hI B2 H2 g2.i
  have ef : fF t vr vk = fF t' vr vk := by unfold fF; rw [hk, hn]
  rw [ef] at hs2
  exact ⟨B2, s, dx, t', vr, vk, v, g2.e, b2, hs2, rfl, rv, ok, fun B3 H3 g3 o3 => k B3 H3 ((hx _ _ _ _ g2).trans g3) o3⟩

/-! begins -/
abbrev sBegins : Stmt := stmtC 1
theorem scBegins : FnScope ["self", "kind", "objects"] ["self", "kind", "objects"] (defScope sBegins) := ⟨rfl, rfl, rfl, by decide +kernel, rfl, by decide +kernel, by decide +kernel⟩
def okB (x : Nat × Nat) : Bool := decide (x.1 < 4) && (decide (1 ≤ x.2) && decide (x.2 ≤ 4))
def nBegins (t : SS) (x : Nat × Nat) : SS := if okB x = true then ⟨x.1, x.2, []⟩ else t
def aBegins (x : Nat × Nat) : List Int := if okB x = true then [0] else [-1]
abbrev spBegins (K : PySem.W.Frag) (C : Addr) : Sp := spM K C (fun (x : Nat × Nat) => AC (isI x.1) (AC (isI x.2) A0)) (fun _ _ => True) nBegins fun _ x => LZ K (aBegins x)
theorem calm_begins (T : Txt K mg) (TC : TxC K C) (cP : CalM P w K mg base C 1 "put" ["self", "rows"] (spPut K C)) (F : Fun K "begins" "Statements.begins" sBegins f fd) (hm : Meth K C "begins" f) : CalM P w K mg base C 2 "begins" ["self", "kind", "objects"] (spBegins K C) := by
  refine ⟨f, fd, hm, F.ok scBegins (spM_len ac2) (fun cdv A outer s₀ H vs Q E hr h => ?_), F.binds (fun _ _ _ _ _ _ us hl => match us, hl with | [_, _, _], _ => rfl)⟩
  obtain ⟨B, s, dx, t, ⟨kd, n⟩, r, e, o, rfl, ⟨v1, _, rfl, h1, v2, _, rfl, h2, rfl⟩, hP, k⟩ := h
  replace k : ∀ v B2 H2, Gr (M1 s) B H B2 H2 → ObjAt K C s dx (nBegins t (kd, n)) B2 H2 → LZ K (aBegins (kd, n)) v B2 → Q v H2 := k
  refine ⟨_, pss_cons (ps_if (PW.pt (pw_or (pt_cmpR op_gt (pv 1) (pe_cst T.MOST_KIND) (nomark _)) (pw_or1 (pt_not (pt_chain op_le op_le pe_int (pv 2) (pe_cst T.MOST_OBJECTS)))))) (pss_one (ps_ret (pe_lst (pa_cons (pe_cst T.NOT_VALID) pa_nil)))) pss_nil)
    (pss_cons (ps_fld (pv 0) (pv 1) rfl) (pss_cons (ps_fld (pv 0) (pv 2) rfl) (pss_cons (ps_expr (pe_mcal cP TC.cl hr (pv 0) (pa_cons (pe_lst pa_nil) pa_nil)))
    (pss_one (ps_ret (pe_lst (pa_cons pe_int pa_nil))))))), ?_⟩
  refine yq_when (M := MO K C s dx t) e o (yt_or (yt_test (yl_gt (yl_var (R := isZ kd) rfl h1) (yl_zc 3))) fun _ => yt_not (yt_test (yl_chainLe (yl_zc 1) (yl_var (R := isZ n) rfl h2) (yl_zc 4)))) (fun q B2 H2 g2 => ?_) (fun q B2 H2 g2 => ?_)
  · have q2 : okB (kd, n) = false := by
      unfold okB
      rw [Bool.or_eq_true, Bool.not_eq_true', Bool.and_eq_false_iff, decide_eq_true_iff, decide_eq_false_iff_not, decide_eq_false_iff_not] at q
      dsimp only
      rw [Bool.and_eq_false_iff, Bool.and_eq_false_iff, decide_eq_false_iff_not, decide_eq_false_iff_not, decide_eq_false_iff_not]
      omega
    have eN : nBegins t (kd, n) = t := by unfold nBegins; rw [q2]; rfl
    have eA : aBegins (kd, n) = [-1] := by unfold aBegins; rw [q2]; rfl
    refine y_finM (K := K) (C := C) (s := s) (dx := dx) (t := t) (R := LZ K [-1]) (fun v B2 H2 g o r => k v B2 H2 g (by rw [eN]; exact o) (by rw [eA]; exact r)) g2 (yl_lst1 (K := K) (r := isZ) (yl_zc (-1)))
  · have q2 : okB (kd, n) = true := by
      unfold okB
      rw [Bool.or_eq_false_iff, Bool.not_eq_false', Bool.and_eq_true, decide_eq_true_iff, decide_eq_true_iff, decide_eq_false_iff_not] at q
      dsimp only
      rw [Bool.and_eq_true, Bool.and_eq_true, decide_eq_true_iff, decide_eq_true_iff, decide_eq_true_iff]
      omega
    have eN : nBegins t (kd, n) = ⟨kd, n, []⟩ := by unfold nBegins; rw [q2]; rfl
    have eA : aBegins (kd, n) = [0] := by unfold aBegins; rw [q2]; rfl
    rw [eN, eA] at k
    have q3 := q2
    unfold okB at q3
    rw [Bool.and_eq_true, Bool.and_eq_true, decide_eq_true_iff, decide_eq_true_iff, decide_eq_true_iff] at q3
    obtain ⟨b2, vr, vk, hs2, _⟩ := id g2.i
    cases h1
    cases h2
    have p1 : putF "kind" (.int kd) (fF t vr vk) = fF { t with kind := kd } vr vk := put_kind t kd vr vk
    have p2 : putF "objects" (.int n) (fF { t with kind := kd } vr vk) = fF { t with kind := kd, things := n } vr vk := put_objects _ n vr vk
    refine ⟨.int kd, rfl, .ref s, rfl, s, C, dx, _, rfl, hs2, TC.cl, TC.nK, (by show 4 < 1000; decide), ?_⟩
    rw [p1]
    refine ⟨.int n, rfl, .ref s, rfl, s, C, dx, _, rfl, upd_same, TC.cl, TC.nO, (by show 4 < 1000; decide), ?_⟩
    rw [p2]
    have g3 := (g2.toM1.setS (o' := .ins C dx (fF { t with kind := kd } vr vk)) hs2).setS (o' := .ins C dx (fF { t with kind := kd, things := n } vr vk)) upd_same
    refine y_put (K := K) (C := C) (s := s) (dx := dx) (M := MF s (.ins C dx (fF { t with kind := kd, things := n } vr vk))) (t := { t with kind := kd, things := n }) (t' := ⟨kd, n, []⟩) (fun B H B2 H2 g => g.ofMF) (fun B H i => ⟨i.1, vr, vk, i.2⟩) g3.e ⟨b2, upd_same⟩ rfl
      (yl_lst0 (K := K) (r := RW K)) rfl rfl ⟨q3.1, q3.2.2, fun r hr => (nomatch hr), Nat.zero_le _⟩ fun B4 H4 g4 o4 => ?_
    exact y_finM (K := K) (C := C) (s := s) (dx := dx) (t := ⟨kd, n, []⟩) (R := LZ K [0]) (fun v B2 H2 g o r => k v B2 H2 ((g3.trans g4).trans g) o r) (Gr.refl g4.e o4) (yl_lst1 (K := K) (r := isZ) (yl_zc 0))

/-! told -/
abbrev sTold : Stmt := stmtC 4
theorem scTold : FnScope ["self", "one", "other", "some"] ["self", "one", "other", "some"] (defScope sTold) := ⟨rfl, rfl, rfl, by decide +kernel, rfl, by decide +kernel, by decide +kernel⟩
def badT (t : SS) (x : Nat × Nat × Nat) : Bool := !two t x.1 x.2.1 || decide (2 ^ Qr.size t.kind ≤ x.2.2)
def nTold (t : SS) (x : Nat × Nat × Nat) : SS := if badT t x = true then t else if t.rows.length = 10 then t else { t with rows := t.rows ++ [x] }
def aTold (t : SS) (x : Nat × Nat × Nat) : List Int := if badT t x = true then [-1] else if t.rows.length = 10 then [-7] else [(t.rows.length : Int)]
abbrev spTold (K : PySem.W.Frag) (C : Addr) : Sp := spM K C (fun (x : Nat × Nat × Nat) => AC (isI x.1) (AC (isI x.2.1) (AC (isI x.2.2) A0))) (fun _ _ => True) nTold fun t x => LZ K (aTold t x)
theorem calm_told (T : Txt K mg) (TC : TxC K C) (cT : CalM P w K mg base C 1 "are_two" ["self", "one", "other"] (spAreTwo K C)) (cP : CalM P w K mg base C 1 "put" ["self", "rows"] (spPut K C)) (F : Fun K "told" "Statements.told" sTold f fd) (hm : Meth K C "told" f) :
    CalM P w K mg base C 2 "told" ["self", "one", "other", "some"] (spTold K C) := by
  obtain ⟨aM, hM, sM⟩ := T.MANY
  refine ⟨f, fd, hm, F.ok scTold (spM_len ac3) (fun cdv A outer s₀ H vs Q E hr h => ?_), F.binds (fun _ _ _ _ _ _ us hl => match us, hl with | [_, _, _, _], _ => rfl)⟩
  obtain ⟨B, s, dx, t, ⟨i, j, m⟩, r, e, o, rfl, ⟨v1, _, rfl, h1, v2, _, rfl, h2, v3, _, rfl, h3, rfl⟩, hP, k⟩ := h
  replace k : ∀ v B2 H2, Gr (M1 s) B H B2 H2 → ObjAt K C s dx (nTold t (i, j, m)) B2 H2 → LZ K (aTold t (i, j, m)) v B2 → Q v H2 := k
  have ok : t.Ok := by obtain ⟨_, _, _, _, _, _, ok⟩ := o; exact ok
  refine ⟨_, pss_cons (ps_if (PW.pt (pw_or (pt_not (pt_val (pe_mcal cT TC.cl hr (pv 0) (pa_cons (pv 1) (pa_cons (pv 2) pa_nil))))) (pw_or1 (pt_cmpR op_ge (pv 3) (pe_op op_shl pe_int (pe_ix ix_tup (pe_cst hM) (pe_fld (pv 0) rfl) (fun _ _ => rfl))) (nomark _))))) (pss_one (ps_ret (pe_lst (pa_cons (pe_cst T.NOT_VALID) pa_nil)))) pss_nil)
    (pss_cons (ps_if (pt_cmpR op_eq (pe_callB call_len rfl T.b_len (by decide +kernel) (pa_cons (pe_fld (pv 0) rfl) pa_nil)) (pe_cst T.MOST_STATEMENTS) (nomark _)) (pss_one (ps_ret (pe_lst (pa_cons (pe_cst T.TOO_MANY) pa_nil)))) pss_nil)
    (pss_cons (ps_expr (pe_mcal cP TC.cl hr (pv 0) (pa_cons (pe_op op_cat (pe_fld (pv 0) rfl) (pe_lst (pa_cons (pe_tup (pa_cons (pv 1) (pa_cons (pv 2) (pa_cons (pv 3) pa_nil)))) pa_nil))) pa_nil)))
    (pss_one (ps_ret (pe_lst (pa_cons (pe_op op_sub (pe_callB call_len rfl T.b_len (by decide +kernel) (pa_cons (pe_fld (pv 0) rfl) pa_nil)) pe_int) pa_nil)))))), ?_⟩
  have hsz := size_le t.kind
  refine yq_when (M := MO K C s dx t) (b := badT t (i, j, m)) e o ((yt_or (yt_not (yt_B (yl_meth (by decide +kernel) (i, j) (yl_self rfl) (ya2 (yl_var rfl h1) (yl_var rfl h2)) trivial))) fun _ => yt_test (yl_ge (yl_var (R := isZ m) rfl h3) (yl_I (R := isZ ((2 ^ Qr.size t.kind : Nat) : Int)) (yl_zc 1) (yl_ixT (K := K) (yl_c (sM _)) (yl_kind TC (yl_self rfl)).z (many_at ok.k)).z ?_ ?_))).to ?_) (fun q B2 H2 g2 => ?_) (fun q B2 H2 g2 => ?_)
  · exact ⟨by omega, by omega, by decide⟩
  · show V.int _ = V.int _
    rw [Int.toNat_natCast, pow_cast]
    congr 1
    omega
  · unfold badT
    have : decide (((2 ^ Qr.size t.kind : Nat) : Int) ≤ (m : Int)) = decide (2 ^ Qr.size t.kind ≤ m) := decide_eq_decide.mpr (by omega)
    rw [this]
  · have eN : nTold t (i, j, m) = t := by unfold nTold; rw [if_pos q]
    have eA : aTold t (i, j, m) = [-1] := by unfold aTold; rw [if_pos q]
    exact y_finM (K := K) (C := C) (s := s) (dx := dx) (t := t) (R := LZ K [-1]) (fun v B2 H2 g o r => k v B2 H2 g (by rw [eN]; exact o) (by rw [eA]; exact r)) g2 (yl_lst1 (K := K) (r := isZ) (yl_zc (-1)))
  have hq : ¬ badT t (i, j, m) = true := by rw [q]; exact Bool.false_ne_true
  refine yq_when (M := MO K C s dx t) g2.e g2.i (yt_test (yl_eq (yl_lenL (K := K) (r := RW K) (l := t.rows) (yl_rows TC (yl_self rfl))).z (yl_zc 10))) (fun q2 B3 H3 g3 => ?_) (fun q2 B3 H3 g3 => ?_)
  · have q2 : t.rows.length = 10 := by
      have := of_decide_eq_true q2
      omega
    have eN : nTold t (i, j, m) = t := by unfold nTold; rw [if_neg hq, if_pos q2]
    have eA : aTold t (i, j, m) = [-7] := by unfold aTold; rw [if_neg hq, if_pos q2]
    exact y_finM (K := K) (C := C) (s := s) (dx := dx) (t := t) (R := LZ K [-7]) (fun v B2 H2 g o r => k v B2 H2 g (by rw [eN]; exact o) (by rw [eA]; exact r)) (g2.trans g3) (yl_lst1 (K := K) (r := isZ) (yl_zc (-7)))
  · have q2 : ¬ t.rows.length = 10 := by
      have := of_decide_eq_false q2
      omega
    have hl := ok.l
    have eN : nTold t (i, j, m) = { t with rows := t.rows ++ [(i, j, m)] } := by unfold nTold; rw [if_neg hq, if_neg q2]
    have eA : aTold t (i, j, m) = [(t.rows.length : Int)] := by unfold aTold; rw [if_neg hq, if_neg q2]
    rw [eN, eA] at k
    have ht : two t i j = true := by
      unfold badT at q
      rw [Bool.or_eq_false_iff] at q
      have := q.1
      rw [Bool.not_eq_false'] at this
      exact this
    have line : 1000 ≤ sizeLine := by decide
    have g23 := g2.b.trans g3.b
    have ok2 : SS.Ok { t with rows := t.rows ++ [(i, j, m)] } := ⟨ok.k, ok.n, fun r hr => by
      rcases List.mem_append.mp hr with hr | hr
      · exact ok.r r hr
      · rw [List.mem_singleton] at hr
        subst hr
        exact two_iff ht, by show (t.rows ++ [(i, j, m)]).length ≤ 10; rw [List.length_append]; show t.rows.length + 1 ≤ 10; omega⟩
    refine y_put (K := K) (C := C) (s := s) (dx := dx) (M := MO K C s dx t) (t := t) (t' := { t with rows := t.rows ++ [(i, j, m)] }) (fun B H B2 H2 g => g.toM1) (fun B H i => by obtain ⟨b, vr, vk, hs, _⟩ := i; exact ⟨b, vr, vk, hs⟩) g3.e g3.i rfl
      (yl_cat (K := K) (r := RW K) (yl_rows TC (yl_self rfl)) (yl_lst1 (K := K) (r := RW K) (a := (i, j, m)) (yl_p3 (r := isI) (s := isI) (t := isI) (yl_var rfl (MoC.up g23 h1)) (yl_var rfl (MoC.up g23 h2)) (yl_var rfl (MoC.up g23 h3)))) (by show t.rows.length + 1 ≤ _; omega)) rfl rfl ok2 fun B4 H4 g4 o4 => ?_
    refine y_finM (K := K) (C := C) (s := s) (dx := dx) (t := { t with rows := t.rows ++ [(i, j, m)] }) (R := LZ K [(t.rows.length : Int)]) (fun v B2 H2 g o r => k v B2 H2 (((g2.trans g3).toM1.trans g4).trans g) o r) (Gr.refl g4.e o4)
      (yl_lst1 (K := K) (r := isZ) ((yl_sub (yl_lenL (K := K) (r := RW K) (l := t.rows ++ [(i, j, m)]) (yl_rows TC (yl_self rfl))).z (yl_zc 1)).imp fun v _ _ z => ?_))
    have ez : (((t.rows ++ [(i, j, m)]).length : Nat) : Int) - 1 = (t.rows.length : Int) := by
      rw [List.length_append]
      show ((t.rows.length + 1 : Nat) : Int) - 1 = _
      omega
    rw [ez] at z
    exact z

/-! drop -/
abbrev sDrop : Stmt := stmtC 5
theorem scDrop : FnScope ["self", "index"] ["self", "index"] (defScope sDrop) := ⟨rfl, rfl, rfl, by decide +kernel, rfl, by decide +kernel, by decide +kernel⟩
def nDrop (t : SS) (i : Nat) : SS := if t.rows.length ≤ i then t else { t with rows := t.rows.take i ++ t.rows.drop (i + 1) }
def aDrop (t : SS) (i : Nat) : List Int := if t.rows.length ≤ i then [-2] else [((t.rows.take i ++ t.rows.drop (i + 1)).length : Int)]
abbrev spDrop (K : PySem.W.Frag) (C : Addr) : Sp := spM K C (fun (x : Nat) => AC (isI x) A0) (fun _ _ => True) nDrop fun t x => LZ K (aDrop t x)
theorem calm_drop (T : Txt K mg) (TC : TxC K C) (cP : CalM P w K mg base C 1 "put" ["self", "rows"] (spPut K C)) (F : Fun K "drop" "Statements.drop" sDrop f fd) (hm : Meth K C "drop" f) : CalM P w K mg base C 2 "drop" ["self", "index"] (spDrop K C) := by
  refine ⟨f, fd, hm, F.ok scDrop (spM_len ac1) (fun cdv A outer s₀ H vs Q E hr h => ?_), F.binds (fun _ _ _ _ _ _ us hl => match us, hl with | [_, _], _ => rfl)⟩
  obtain ⟨B, s, dx, t, i, r, e, o, rfl, ⟨v1, _, rfl, h1, rfl⟩, hP, k⟩ := h
  replace k : ∀ v B2 H2, Gr (M1 s) B H B2 H2 → ObjAt K C s dx (nDrop t i) B2 H2 → LZ K (aDrop t i) v B2 → Q v H2 := k
  have ok : t.Ok := by obtain ⟨_, _, _, _, _, _, ok⟩ := o; exact ok
  refine ⟨_, pss_cons (ps_if (pt_cmpR op_ge (pv 1) (pe_callB call_len rfl T.b_len (by decide +kernel) (pa_cons (pe_fld (pv 0) rfl) pa_nil)) (nomark _)) (pss_one (ps_ret (pe_lst (pa_cons (pe_cst T.NO_STATEMENT) pa_nil)))) pss_nil)
    (pss_cons (ps_expr (pe_mcal cP TC.cl hr (pv 0) (pa_cons (pe_op op_cat (pe_slice sl_list (pe_fld (pv 0) rfl) po_none (po_some (pv 1))) (pe_slice sl_list (pe_fld (pv 0) rfl) (po_some (pe_op op_add (pv 1) pe_int)) po_none)) pa_nil)))
    (pss_one (ps_ret (pe_lst (pa_cons (pe_callB call_len rfl T.b_len (by decide +kernel) (pa_cons (pe_fld (pv 0) rfl) pa_nil)) pa_nil))))), ?_⟩
  refine yq_when (M := MO K C s dx t) e o (yt_test (yl_ge (yl_var (R := isZ i) rfl h1) (yl_lenL (K := K) (r := RW K) (l := t.rows) (yl_rows TC (yl_self rfl))).z)) (fun q B2 H2 g2 => ?_) (fun q B2 H2 g2 => ?_)
  · have q : t.rows.length ≤ i := by
      have := of_decide_eq_true q
      omega
    have eN : nDrop t i = t := by unfold nDrop; rw [if_pos q]
    have eA : aDrop t i = [-2] := by unfold aDrop; rw [if_pos q]
    exact y_finM (K := K) (C := C) (s := s) (dx := dx) (t := t) (R := LZ K [-2]) (fun v B2 H2 g o r => k v B2 H2 g (by rw [eN]; exact o) (by rw [eA]; exact r)) g2 (yl_lst1 (K := K) (r := isZ) (yl_zc (-2)))
  · have q : ¬ t.rows.length ≤ i := by
      have := of_decide_eq_false q
      omega
    have eN : nDrop t i = { t with rows := t.rows.take i ++ t.rows.drop (i + 1) } := by unfold nDrop; rw [if_neg q]
    have eA : aDrop t i = [((t.rows.take i ++ t.rows.drop (i + 1)).length : Int)] := by unfold aDrop; rw [if_neg q]
    rw [eN, eA] at k
    have hl := ok.l
    have line : 1000 ≤ sizeLine := by decide
    have hlen : (t.rows.take i ++ t.rows.drop (i + 1)).length ≤ 10 := by
      rw [List.length_append, List.length_take, List.length_drop]
      omega
    have ok2 : SS.Ok { t with rows := t.rows.take i ++ t.rows.drop (i + 1) } := ⟨ok.k, ok.n, fun r hr => by
      rcases List.mem_append.mp hr with hr | hr
      · exact ok.r r (List.mem_of_mem_take hr)
      · exact ok.r r (List.mem_of_mem_drop hr), hlen⟩
    refine y_put (K := K) (C := C) (s := s) (dx := dx) (M := MO K C s dx t) (t := t) (t' := { t with rows := t.rows.take i ++ t.rows.drop (i + 1) }) (fun B H B2 H2 g => g.toM1) (fun B H i => by obtain ⟨b, vr, vk, hs, _⟩ := i; exact ⟨b, vr, vk, hs⟩) g2.e g2.i rfl
      (yl_cat (K := K) (r := RW K) (yl_slT (r := RW K) (yl_rows TC (yl_self rfl)) (yl_var (R := isI i) rfl (MoC.up g2.b h1))) (yl_slD (r := RW K) (n := i + 1) (yl_rows TC (yl_self rfl)) ((yl_add (yl_var (R := isZ i) rfl (MoC.up g2.b h1)) (yl_zc 1)).i (by omega))) (by rw [List.length_append] at hlen; omega)) rfl rfl ok2 fun B4 H4 g4 o4 => ?_
    exact y_finM (K := K) (C := C) (s := s) (dx := dx) (t := { t with rows := t.rows.take i ++ t.rows.drop (i + 1) }) (R := LZ K [((t.rows.take i ++ t.rows.drop (i + 1)).length : Int)]) (fun v B2 H2 g o r => k v B2 H2 ((g2.toM1.trans g4).trans g) o r) (Gr.refl g4.e o4)
      (yl_lst1 (K := K) (r := isZ) (yl_lenL (K := K) (r := RW K) (l := t.rows.take i ++ t.rows.drop (i + 1)) (yl_rows TC (yl_self rfl))).z)
end
end RdW

set_option Elab.async false
set_option autoImplicit false
set_option linter.all false
set_option maxRecDepth 100000
set_option maxHeartbeats 2000000
/-! RdB4: the session. -/
namespace RdW
open PySem L2
open Evl (Ex)
def aPlain (t : SS) (c : Nat) : List Int := if c = 3 then aCan t else if c = 4 then aWay t else if c = 5 then aPicture t else if c = 7 then aAll t else aCount t
def isPlain (c : Nat) : Bool := c == 3 || (c == 4 || (c == 5 || (c == 7 || c == 8)))
def need (c : Nat) : Nat := [2, 3, 1, 0, 0, 0, 2, 0, 0, 2].getD c 0
def aAns (t : SS) (x : Nat × List Nat) : List Int :=
  if isPlain x.1 = true then aPlain t x.1 else if x.1 = 0 then aBegins (Rd.at0 x.2 0, Rd.at0 x.2 1) else if x.1 = 1 then aTold t (Rd.at0 x.2 0, Rd.at0 x.2 1, Rd.at0 x.2 2) else if x.1 = 2 then aDrop t (Rd.at0 x.2 0)
  else if x.1 = 6 then aMay t (Rd.at0 x.2 0) (Rd.at0 x.2 1) else aLeft t (Rd.at0 x.2 0) (Rd.at0 x.2 1)
def nAns (t : SS) (x : Nat × List Nat) : SS :=
  if isPlain x.1 = true then t else if x.1 = 0 then nBegins t (Rd.at0 x.2 0, Rd.at0 x.2 1) else if x.1 = 1 then nTold t (Rd.at0 x.2 0, Rd.at0 x.2 1, Rd.at0 x.2 2) else if x.1 = 2 then nDrop t (Rd.at0 x.2 0) else t
/-- the calls one behind another -/
def play : Nat → SS → List Nat → List Int
  | 0, _, _ => []
  | _ + 1, _, [] => []
  | f + 1, t, c :: r => ((aAns t (c, r.take (need c))).length : Int) :: aAns t (c, r.take (need c)) ++ play f (nAns t (c, r.take (need c))) (r.drop (need c))
def okCalls : Nat → List Nat → Bool
  | _, [] => true
  | 0, _ :: _ => false
  | f + 1, c :: r => decide (c < 10) && (decide (need c ≤ r.length) && okCalls f (r.drop (need c)))
section
variable {K : PySem.W.Frag} {C s dx : Addr} {t : SS} {B H : Hp} {σ : L2.St} {ta : TE} {ts : TA} {D : Ends} {tz : TS}
/-- a call of a def on the object that keeps its state -/
theorem yl_callK {ι : Type} {A : ι → List V → Hp → Prop} {P : SS → ι → Prop} {Z : SS → ι → RP} (x : ι) (h : Yl (MO K C s dx t) ta σ B (isS s)) (ha : YA (MO K C s dx t) ts σ B (A x)) (p : P t x) :
    Yl (MO K C s dx t) (tCall (spK K C A P Z) [] E0 (tCons ta ts)) σ B (Z t x) := fun B1 H1 e1 e2 iv Q q =>
  h B1 H1 e1 e2 iv _ fun v B2 H2 g r => ha B2 H2 (e1.trans g.b) g.e g.i _ fun vs B3 H3 g3 r3 => by
    have ev : v = .ref s := r
    subst ev
    exact ⟨B3, s, dx, t, x, vs, g3.e, g3.i, by rw [List.append_nil], r3, p, fun v B4 H4 g4 o4 rv => q v B4 H4 ((g.trans g3).trans (g4.toMO o4)) rv⟩
/-- .. that may change it -/
theorem yq_callS {ι : Type} {i : Nat} {A : ι → List V → Hp → Prop} {P : SS → ι → Prop} {N : SS → ι → SS} {Z : SS → ι → RP} (x : ι) (e : Ex B H) (o : ObjAt K C s dx t B H) (h : Yl (MO K C s dx t) ta σ B (isS s)) (ha : YA (MO K C s dx t) ts σ B (A x)) (p : P t x)
    (k : ∀ v B2 H2, Gr (M1 s) B H B2 H2 → ObjAt K C s dx (N t x) B2 H2 → Z t x v B2 → tz D (σ.set i (some v)) H2) : tSeq (tAsg (tCall (spM K C A P N Z) [] E0 (tCons ta ts)) (gName i)) tz D σ H :=
  h B H (.refl _) e o _ fun v B2 H2 g r => ha B2 H2 g.b g.e g.i _ fun vs B3 H3 g3 r3 => by
    have ev : v = .ref s := r
    subst ev
    exact ⟨B3, s, dx, t, x, vs, g3.e, g3.i, by rw [List.append_nil], r3, p, fun v B4 H4 g4 o4 rv => k v B4 H4 ((g.trans g3).toM1.trans g4) o4 rv⟩
/-- return o.m(..) where m may change the state -/
theorem y_retS {ι : Type} {m : Str} {A : ι → List V → Hp → Prop} {P : SS → ι → Prop} {N : SS → ι → SS} {Z : SS → ι → RP} (hf : Far m = false) (x : ι) (e : Ex B H) (o : ObjAt K C s dx t B H) (h : Yl (MO K C s dx t) ta σ B (isS s)) (ha : YA (MO K C s dx t) ts σ B (A x)) (p : P t x)
    (k : ∀ v B2 H2, Gr (M1 s) B H B2 H2 → ObjAt K C s dx (N t x) B2 H2 → Z t x v B2 → D.rt v H2) : tRet (tMeth C m (spM K C A P N Z) [] E0 ta ts) D σ H :=
  h B H (.refl _) e o _ fun v B2 H2 g r => by
    obtain ⟨_, vr, vk, h1, _⟩ := id g.i
    refine ⟨s, dx, _, r, h1, fF_far hf t vr vk, ha B2 H2 g.b g.e g.i _ fun vs B3 H3 g3 r3 => ?_⟩
    have ev : v = .ref s := r
    subst ev
    exact ⟨B3, s, dx, t, x, vs, g3.e, g3.i, by rw [List.append_nil], r3, p, fun v B4 H4 g4 o4 rv => k v B4 H4 ((g.trans g3).toM1.trans g4) o4 rv⟩
/-- a call's number within five -/
theorem yt_in5 {M : Md} {x : Nat} {a b c d e : Int} (ha : Yl M ta σ B (isI x)) : YT M (tTest (tOp (rIn K false) ta (tTup (tCons (tC (.int a)) (tCons (tC (.int b)) (tCons (tC (.int c)) (tCons (tC (.int d)) (tCons (tC (.int e)) tNil)))))))) σ B (inV (.int x) [.int a, .int b, .int c, .int d, .int e]) := fun B1 H1 e1 e2 i Q q =>
  ha B1 H1 e1 e2 i _ fun v B2 H2 g r => by
    cases r
    refine ⟨(by show 5 ≤ sizeLine; decide), fun p hp => ⟨p, [.int a, .int b, .int c, .int d, .int e], rfl, .inr (.of upd_same), rfl, rfl, _, rfl, ?_⟩⟩
    exact q _ _ (g.trans (.of0 g.i (.new g.e hp)))
theorem in_plain (x : Nat) : inV (.int (x : Int)) [.int 3, .int 4, .int 5, .int 7, .int 8] = isPlain x := by
  have e : ∀ k : Nat, eqV (.int (k : Int)) (.int (x : Int)) = (x == k) := fun k => by
    show ((k : Int) == (x : Int)) = (x == k)
    by_cases c : x = k
    · subst c
      simp
    · have h1 : ((k : Int) == (x : Int)) = false := by rw [beq_eq_false_iff_ne]; omega
      rw [h1]
      exact (beq_eq_false_iff_ne.mpr c).symm
  have e3 := e 3
  have e4 := e 4
  have e5 := e 5
  have e7 := e 7
  have e8 := e 8
  unfold inV isPlain
  simp only [List.any_cons, List.any_nil, Bool.or_false]
  rw [← e3, ← e4, ← e5, ← e7, ← e8]
  rfl
/-- the list of calls, as it is handed in -/
def CL (K : PySem.W.Frag) (l : List Nat) : RP := fun v H => ∃ a, v = .ref a ∧ SqL K H a (l.map fun (n : Nat) => V.int (n : Int))
instance (l : List Nat) : MoC (CL K l) := ⟨fun e ⟨a, h1, h2⟩ => ⟨a, h1, Evl.ex_l e h2⟩⟩
theorem yl_lenQ {M : Md} {l : List Nat} (h : Yl M ta σ B (CL K l)) : Yl M (tCB (fun xs H Q => ∃ x n, xs = [x] ∧ LenV K x H n ∧ Q (.int n) H) (tCons ta tNil)) σ B (isI l.length) :=
  yl_cb (ya1 h) fun vs B1 H1 e1 e2 i p Q q => by
    obtain ⟨v, w, rfl, ⟨a, rfl, h1⟩, rfl⟩ := p
    exact ⟨.ref a, l.length, rfl, .inl ⟨_, Evl.ex_l e2 h1, by rw [List.length_map]⟩, q _ B1 H1 (.refl e2 i) rfl⟩
theorem yl_ixQ {M : Md} {tb : TE} {l : List Nat} {i : Nat} {a : Nat} (ha : Yl M ta σ B (CL K l)) (hb : Yl M tb σ B (isI i)) (h : l[i]? = some a) : Yl M (tOp (rIxL K) ta tb) σ B (isI a) :=
  yl_op ha hb fun x y B1 e hx hy H e2 i' Q q => by
    cases hy
    obtain ⟨p, rfl, h1⟩ := hx
    refine ⟨p, _, i, .int a, rfl, rfl, Evl.ex_l e2 h1, ?_, q _ B1 H (.refl e2 i') rfl⟩
    refine atI_n ?_
    rw [List.getElem?_map, h]
    rfl
theorem yl_slQ {M : Md} {tb tc : TE} {l : List Nat} {i j : Nat} (ha : Yl M ta σ B (CL K l)) (hb : Yl M tb σ B (isI i)) (hc : Yl M tc σ B (isI j)) (hi : i ≤ j) (hj : j ≤ l.length) : Yl M (tSl (rSlL K) ta (tPart tb) (tPart tc)) σ B (LL K isI ((l.drop i).take (j - i))) := fun B1 H1 e1 e2 iv Q q =>
  ha B1 H1 e1 e2 iv _ fun v B2 H2 g2 r2 => hb B2 H2 (e1.trans g2.b) g2.e g2.i _ fun w B3 H3 g3 r3 => ⟨(i : Int), r3, hc B3 H3 (e1.trans (g2.b.trans g3.b)) g3.e g3.i _ fun u B4 H4 g4 r4 => by
    obtain ⟨a, rfl, h1⟩ := MoC.up (R := CL K l) (g3.b.trans g4.b) r2
    refine ⟨(j : Int), r4, a, _, rfl, Evl.ex_l g4.e h1, fun p hp => ?_⟩
    refine q _ _ _ (((g2.trans g3).trans g4).trans (.of0 g4.i (.new g4.e hp))) ?_
    have e : cutV (l.map fun (n : Nat) => V.int (n : Int)) (some (i : Int)) (some (j : Int)) = ((l.drop i).take (j - i)).map fun (n : Nat) => V.int (n : Int) := by
      unfold cutV
      rw [HT.sIx_nat, HT.sIx_nat, List.length_map, Nat.min_eq_left (Nat.le_trans hi hj), Nat.min_eq_left hj, List.map_take, List.map_drop]
    rw [e]
    exact ll_new (ints_al _) (Ex.none g4.e hp)⟩
end
section
variable {P : Program} {w : World} {K : PySem.W.Frag} {mg : Str → Option Value} {base : Heap} {C : Addr} {f : Addr} {fd : FuncData}

/-! plain_answer -/
abbrev sPlain : Stmt := topS 64
theorem scPlain : FnScope ["statements", "call"] ["statements", "call"] (defScope sPlain) := ⟨rfl, rfl, rfl, by decide +kernel, rfl, by decide +kernel, by decide +kernel⟩
abbrev spPlain (K : PySem.W.Frag) (C : Addr) : Sp := spK K C (fun (c : Nat) => AC (isI c) A0) (fun _ _ => True) fun t c => LZ K (aPlain t c)
theorem cal_plain (T : Txt K mg) (TC : TxC K C) (c1 : CalM P w K mg base C 8 "can" ["self"] (spA0 K C aCan)) (c2 : CalM P w K mg base C 8 "way" ["self"] (spA0 K C aWay)) (c3 : CalM P w K mg base C 8 "picture" ["self"] (spA0 K C aPicture)) (c4 : CalM P w K mg base C 9 "told_all" ["self"] (spA0 K C aAll)) (c5 : CalM P w K mg base C 8 "count" ["self"] (spA0 K C aCount))
    (F : Fun K "plain_answer" "plain_answer" sPlain f fd) (hm : mg "plain_answer" = some (.ref f)) : Cal P w K mg base 10 "plain_answer" ["statements", "call"] (spPlain K C) := by
  refine ⟨f, fd, hm, F.ok scPlain (spM_len ac1) (fun cdv A outer s₀ H vs Q E hr h => ?_), F.binds (fun _ _ _ _ _ _ us hl => match us, hl with | [_, _], _ => rfl), F.kp⟩
  obtain ⟨B, s, dx, t, c, r, e, o, rfl, ⟨v1, _, rfl, h1, rfl⟩, hP, k⟩ := h
  have hr8 : Room 8 _ := hr.mono (by decide)
  refine ⟨_, pss_cons (ps_if (pt_cmpR op_eq (pv 1) (pe_cst T.CAN) (nomark _)) (pss_one (ps_ret (pe_mcal0 c1 TC.cl hr8 (pv 0)))) pss_nil)
    (pss_cons (ps_if (pt_cmpR op_eq (pv 1) (pe_cst T.WAY) (nomark _)) (pss_one (ps_ret (pe_mcal0 c2 TC.cl hr8 (pv 0)))) pss_nil)
    (pss_cons (ps_if (pt_cmpR op_eq (pv 1) (pe_cst T.PICTURE) (nomark _)) (pss_one (ps_ret (pe_mcal0 c3 TC.cl hr8 (pv 0)))) pss_nil)
    (pss_one (ps_ret (pe_ifExp (pt_cmpR op_eq (pv 1) (pe_cst T.ALL) (nomark _)) (pe_mcal0 c4 TC.cl hr (pv 0)) (pe_mcal0 c5 TC.cl hr8 (pv 0))))))), ?_⟩
  have ee : ∀ {a : Nat} {b : Bool}, decide ((c : Int) = (a : Int)) = b → decide (c = a) = b := fun h => by rw [← h]; exact decide_eq_decide.mpr (by omega)
  refine yq_when (M := MO K C s dx t) e o (yt_test (yl_eq (yl_var (R := isZ c) rfl h1) (yl_zc 3))) (fun q B2 H2 g2 => ?_) (fun q B2 H2 g2 => ?_)
  · have q := of_decide_eq_true (ee (a := 3) q)
    refine y_finM (K := K) (C := C) (s := s) (dx := dx) (t := t) k g2 ((yl_meth (by decide +kernel) () (yl_self rfl) ya_nil trivial).imp fun v _ _ z => ?_)
    show LZ K (aPlain t c) v _
    unfold aPlain
    rw [if_pos q]
    exact z
  have q3 := of_decide_eq_false (ee (a := 3) q)
  refine yq_when (M := MO K C s dx t) g2.e g2.i (yt_test (yl_eq (yl_var (R := isZ c) rfl h1) (yl_zc 4))) (fun q B3 H3 g3 => ?_) (fun q B3 H3 g3 => ?_)
  · have q := of_decide_eq_true (ee (a := 4) q)
    refine y_finM (K := K) (C := C) (s := s) (dx := dx) (t := t) k (g2.trans g3) ((yl_meth (by decide +kernel) () (yl_self rfl) ya_nil trivial).imp fun v _ _ z => ?_)
    show LZ K (aPlain t c) v _
    unfold aPlain
    rw [if_neg q3, if_pos q]
    exact z
  have q4 := of_decide_eq_false (ee (a := 4) q)
  refine yq_when (M := MO K C s dx t) g3.e g3.i (yt_test (yl_eq (yl_var (R := isZ c) rfl h1) (yl_zc 5))) (fun q B4 H4 g4 => ?_) (fun q B4 H4 g4 => ?_)
  · have q := of_decide_eq_true (ee (a := 5) q)
    refine y_finM (K := K) (C := C) (s := s) (dx := dx) (t := t) k ((g2.trans g3).trans g4) ((yl_meth (by decide +kernel) () (yl_self rfl) ya_nil trivial).imp fun v _ _ z => ?_)
    show LZ K (aPlain t c) v _
    unfold aPlain
    rw [if_neg q3, if_neg q4, if_pos q]
    exact z
  have q5 := of_decide_eq_false (ee (a := 5) q)
  refine y_finM (K := K) (C := C) (s := s) (dx := dx) (t := t) k ((g2.trans g3).trans g4) (yl_if (R := LZ K (aPlain t c)) (yt_test (yl_eq (yl_var (R := isZ c) rfl h1) (yl_zc 7))) (fun q => ?_) (fun q => ?_))
  · have q := of_decide_eq_true (ee (a := 7) q)
    refine (yl_meth (by decide +kernel) () (yl_self rfl) ya_nil trivial).imp fun v _ _ z => ?_
    unfold aPlain
    rw [if_neg q3, if_neg q4, if_neg q5, if_pos q]
    exact z
  · have q := of_decide_eq_false (ee (a := 7) q)
    refine (yl_meth (by decide +kernel) () (yl_self rfl) ya_nil trivial).imp fun v _ _ z => ?_
    unfold aPlain
    rw [if_neg q3, if_neg q4, if_neg q5, if_neg q]
    exact z

/-! answer -/
abbrev sAnswer : Stmt := topS 65
abbrev nAnswer : List Str := ["statements", "call", "n"]
theorem scAnswer : FnScope nAnswer ["statements", "call", "n"] (defScope sAnswer) := ⟨rfl, rfl, rfl, by decide +kernel, rfl, by decide +kernel, by decide +kernel⟩
abbrev spAnswer (K : PySem.W.Frag) (C : Addr) : Sp := spM K C (fun (x : Nat × List Nat) => AC (isI x.1) (AC (LL K isI x.2) A0)) (fun _ x => x.1 < 10 ∧ x.2.length = need x.1) nAns fun t x => LZ K (aAns t x)
theorem cal_answer (T : Txt K mg) (TC : TxC K C) (c0 : Cal P w K mg base 10 "plain_answer" ["statements", "call"] (spPlain K C)) (c1 : CalM P w K mg base C 2 "begins" ["self", "kind", "objects"] (spBegins K C)) (c2 : CalM P w K mg base C 2 "told" ["self", "one", "other", "some"] (spTold K C))
    (c3 : CalM P w K mg base C 2 "drop" ["self", "index"] (spDrop K C)) (c4 : CalM P w K mg base C 9 "may" ["self", "one", "other"] (spA2 K C aMay)) (c5 : CalM P w K mg base C 5 "left" ["self", "one", "other"] (spA2 K C aLeft))
    (F : Fun K "answer" "answer" sAnswer f fd) (hm : mg "answer" = some (.ref f)) : Cal P w K mg base 11 "answer" ["statements", "call", "n"] (spAnswer K C) := by
  refine ⟨f, fd, hm, F.ok scAnswer (spM_len ac2) (fun cdv A outer s₀ H vs Q E hr h => ?_), F.binds (fun _ _ _ _ _ _ us hl => match us, hl with | [_, _, _], _ => rfl), F.kp⟩
  obtain ⟨B, s, dx, t, ⟨c, n⟩, r, e, o, rfl, ⟨v1, _, rfl, h1, v2, _, rfl, h2, rfl⟩, hP, k⟩ := h
  obtain ⟨hc, hn⟩ := hP
  replace hc : c < 10 := hc
  replace hn : n.length = need c := hn
  replace k : ∀ v B2 H2, Gr (M1 s) B H B2 H2 → ObjAt K C s dx (nAns t (c, n)) B2 H2 → LZ K (aAns t (c, n)) v B2 → Q v H2 := k
  have hr2 : Room 2 _ := hr.mono (by decide)
  have hr9 : Room 9 _ := hr.mono (by decide)
  have hr5 : Room 5 _ := hr.mono (by decide)
  refine ⟨_, pss_cons (ps_if (pt_cmpR op_in_seq (pv 1) (pe_tup (pa_cons (pe_cst T.CAN) (pa_cons (pe_cst T.WAY) (pa_cons (pe_cst T.PICTURE) (pa_cons (pe_cst T.ALL) (pa_cons (pe_cst T.COUNT) pa_nil)))))) (by with_unfolding_all rfl)) (pss_one (ps_ret (pe_cal c0 hr (pa_cons (pv 0) (pa_cons (pv 1) pa_nil))))) pss_nil)
    (pss_cons (ps_if (pt_cmpR op_eq (pv 1) (pe_cst T.BEGINS) (nomark _)) (pss_one (ps_ret (pe_mcal c1 TC.cl hr2 (pv 0) (pa_cons (pe_ix ix_list (pv 2) pe_int (fun _ _ => rfl)) (pa_cons (pe_ix ix_list (pv 2) pe_int (fun _ _ => rfl)) pa_nil))))) pss_nil)
    (pss_cons (ps_if (pt_cmpR op_eq (pv 1) (pe_cst T.TOLD) (nomark _)) (pss_one (ps_ret (pe_mcal c2 TC.cl hr2 (pv 0) (pa_cons (pe_ix ix_list (pv 2) pe_int (fun _ _ => rfl)) (pa_cons (pe_ix ix_list (pv 2) pe_int (fun _ _ => rfl)) (pa_cons (pe_ix ix_list (pv 2) pe_int (fun _ _ => rfl)) pa_nil)))))) pss_nil)
    (pss_cons (ps_if (pt_cmpR op_eq (pv 1) (pe_cst T.DROP) (nomark _)) (pss_one (ps_ret (pe_mcal c3 TC.cl hr2 (pv 0) (pa_cons (pe_ix ix_list (pv 2) pe_int (fun _ _ => rfl)) pa_nil)))) pss_nil)
    (pss_one (ps_ret (pe_ifExp (pt_cmpR op_eq (pv 1) (pe_cst T.MAY) (nomark _)) (pe_mcal c4 TC.cl hr9 (pv 0) (pa_cons (pe_ix ix_list (pv 2) pe_int (fun _ _ => rfl)) (pa_cons (pe_ix ix_list (pv 2) pe_int (fun _ _ => rfl)) pa_nil)))
      (pe_mcal c5 TC.cl hr5 (pv 0) (pa_cons (pe_ix ix_list (pv 2) pe_int (fun _ _ => rfl)) (pa_cons (pe_ix ix_list (pv 2) pe_int (fun _ _ => rfl)) pa_nil))))))))), ?_⟩
  have ee : ∀ {a : Nat} {b : Bool}, decide ((c : Int) = (a : Int)) = b → decide (c = a) = b := fun h => by rw [← h]; exact decide_eq_decide.mpr (by omega)
  refine yq_when (M := MO K C s dx t) (b := isPlain c) e o ((yt_in5 (K := K) (yl_var (R := isI c) rfl h1)).to (in_plain c)) (fun q B2 H2 g2 => ?_) (fun q B2 H2 g2 => ?_)
  · have eN : nAns t (c, n) = t := by unfold nAns; rw [if_pos q]
    have eA : aAns t (c, n) = aPlain t c := by unfold aAns; rw [if_pos q]
    rw [eN, eA] at k
    exact y_finM (K := K) (C := C) (s := s) (dx := dx) (t := t) (R := LZ K (aPlain t c)) k g2 (yl_callK c (yl_self rfl) (ya1 (yl_var rfl (MoC.up g2.b h1))) trivial)
  have q0 : ¬ isPlain c = true := by rw [q]; exact Bool.false_ne_true
  have at2 : ∀ {B' : Hp} (eB : Ex B B') {σ : L2.St} (hσ : σ[2]? = some (some v2)) {M : Md} (j : Nat) (hj : j < n.length), Yl M (tOp (rIxL K) (tVar 2) (tC (.int (j : Int)))) σ B' (isI (Rd.at0 n j)) := fun eB σ hσ M j hj => yl_ixL (K := K) (r := isI) (l := n) (yl_var hσ (MoC.up eB h2)) (yl_zc (j : Int)) (atI_n (at0_get hj))
  refine yq_when (M := MO K C s dx t) g2.e g2.i (yt_test (yl_eq (yl_var (R := isZ c) rfl h1) (yl_zc 0))) (fun q B3 H3 g3 => ?_) (fun q B3 H3 g3 => ?_)
  · have q := of_decide_eq_true (ee (a := 0) q)
    have eN : nAns t (c, n) = nBegins t (Rd.at0 n 0, Rd.at0 n 1) := by unfold nAns; rw [if_neg q0, if_pos q]
    have eA : aAns t (c, n) = aBegins (Rd.at0 n 0, Rd.at0 n 1) := by unfold aAns; rw [if_neg q0, if_pos q]
    rw [eN, eA] at k
    have hl : n.length = 2 := by rw [hn, q]; rfl
    exact y_retS (K := K) (C := C) (by decide +kernel) (Rd.at0 n 0, Rd.at0 n 1) g3.e g3.i (yl_self rfl) (ya2 (at2 (g2.b.trans g3.b) rfl 0 (by omega)) (at2 (g2.b.trans g3.b) rfl 1 (by omega))) trivial fun v B4 H4 g4 o4 r4 => k v B4 H4 ((g2.trans g3).toM1.trans g4) o4 r4
  have q1 := of_decide_eq_false (ee (a := 0) q)
  refine yq_when (M := MO K C s dx t) g3.e g3.i (yt_test (yl_eq (yl_var (R := isZ c) rfl h1) (yl_zc 1))) (fun q B4 H4 g4 => ?_) (fun q B4 H4 g4 => ?_)
  · have q := of_decide_eq_true (ee (a := 1) q)
    have eN : nAns t (c, n) = nTold t (Rd.at0 n 0, Rd.at0 n 1, Rd.at0 n 2) := by unfold nAns; rw [if_neg q0, if_neg q1, if_pos q]
    have eA : aAns t (c, n) = aTold t (Rd.at0 n 0, Rd.at0 n 1, Rd.at0 n 2) := by unfold aAns; rw [if_neg q0, if_neg q1, if_pos q]
    rw [eN, eA] at k
    have hl : n.length = 3 := by rw [hn, q]; rfl
    have eB := (g2.b.trans g3.b).trans g4.b
    exact y_retS (K := K) (C := C) (by decide +kernel) (Rd.at0 n 0, Rd.at0 n 1, Rd.at0 n 2) g4.e g4.i (yl_self rfl) (ya3 (at2 eB rfl 0 (by omega)) (at2 eB rfl 1 (by omega)) (at2 eB rfl 2 (by omega))) trivial fun v B5 H5 g5 o5 r5 => k v B5 H5 (((g2.trans g3).trans g4).toM1.trans g5) o5 r5
  have q2 := of_decide_eq_false (ee (a := 1) q)
  refine yq_when (M := MO K C s dx t) g4.e g4.i (yt_test (yl_eq (yl_var (R := isZ c) rfl h1) (yl_zc 2))) (fun q B5 H5 g5 => ?_) (fun q B5 H5 g5 => ?_)
  · have q := of_decide_eq_true (ee (a := 2) q)
    have eN : nAns t (c, n) = nDrop t (Rd.at0 n 0) := by unfold nAns; rw [if_neg q0, if_neg q1, if_neg q2, if_pos q]
    have eA : aAns t (c, n) = aDrop t (Rd.at0 n 0) := by unfold aAns; rw [if_neg q0, if_neg q1, if_neg q2, if_pos q]
    rw [eN, eA] at k
    have hl : n.length = 1 := by rw [hn, q]; rfl
    have eB := ((g2.b.trans g3.b).trans g4.b).trans g5.b
    exact y_retS (K := K) (C := C) (by decide +kernel) (Rd.at0 n 0) g5.e g5.i (yl_self rfl) (ya1 (at2 eB rfl 0 (by omega))) trivial fun v B6 H6 g6 o6 r6 => k v B6 H6 ((((g2.trans g3).trans g4).trans g5).toM1.trans g6) o6 r6
  have q3 := of_decide_eq_false (ee (a := 2) q)
  have eN : nAns t (c, n) = t := by unfold nAns; rw [if_neg q0, if_neg q1, if_neg q2, if_neg q3]
  have hl : n.length = 2 := by
    have : c = 6 ∨ c = 9 := by
      unfold isPlain at q0
      simp only [Bool.or_eq_true, beq_iff_eq, not_or] at q0
      omega
    rcases this with z | z <;> rw [hn, z] <;> rfl
  have eB := ((g2.b.trans g3.b).trans g4.b).trans g5.b
  rw [eN] at k
  refine y_finM (K := K) (C := C) (s := s) (dx := dx) (t := t) (R := LZ K (aAns t (c, n))) k (((g2.trans g3).trans g4).trans g5) (yl_if (R := LZ K (aAns t (c, n))) (yt_test (yl_eq (yl_var (R := isZ c) rfl h1) (yl_zc 6))) (fun q => ?_) (fun q => ?_))
  · have q := of_decide_eq_true (ee (a := 6) q)
    refine (yl_meth (by decide +kernel) (Rd.at0 n 0, Rd.at0 n 1) (yl_self rfl) (ya2 (at2 eB rfl 0 (by omega)) (at2 eB rfl 1 (by omega))) trivial).imp fun v _ _ z => ?_
    unfold aAns
    rw [if_neg q0, if_neg q1, if_neg q2, if_neg q3, if_pos q]
    exact z
  · have q := of_decide_eq_false (ee (a := 6) q)
    refine (yl_meth (by decide +kernel) (Rd.at0 n 0, Rd.at0 n 1) (yl_self rfl) (ya2 (at2 eB rfl 0 (by omega)) (at2 eB rfl 1 (by omega))) trivial).imp fun v _ _ z => ?_
    unfold aAns
    rw [if_neg q0, if_neg q1, if_neg q2, if_neg q3, if_neg q]
    exact z
end
end RdW

set_option Elab.async false
set_option autoImplicit false
set_option linter.all false
set_option maxRecDepth 100000
set_option maxHeartbeats 2000000
/-! RdB5: answers. -/
namespace RdW
open PySem L2
open Evl (Ex)
theorem al_zs {H : Hp} : ∀ {l : List Int} {vs : List V}, Al isZ H l vs → vs = l.map V.int
  | [], [], _ => rfl
  | a :: l, v :: vs, h => by
    have h1 : v = .int a := h.1
    rw [List.map_cons, ← al_zs h.2, h1]
  | [], _ :: _, h => h.elim
  | _ :: _, [], h => h.elim
theorem need_at {c : Nat} (h : c < 10) : atI [2, 3, 1, 0, 0, 0, 2, 0, 0, 2] ((c : Nat) : Int) = some (need c) := by
  refine atI_n ?_
  have : c = 0 ∨ c = 1 ∨ c = 2 ∨ c = 3 ∨ c = 4 ∨ c = 5 ∨ c = 6 ∨ c = 7 ∨ c = 8 ∨ c = 9 := by omega
  rcases this with rfl | rfl | rfl | rfl | rfl | rfl | rfl | rfl | rfl | rfl <;> rfl
def spAnswers (K : PySem.W.Frag) : Sp := fun vs H Q _ => ∃ (a : Addr) (l : List Nat), vs = [.ref a] ∧ SqL K H a (l.map fun (n : Nat) => V.int (n : Int)) ∧ okCalls l.length l = true ∧ (play l.length ⟨0, 0, []⟩ l).length ≤ sizeLine ∧
  ∀ (H' : Hp) (p : Addr), H' p = some (.lst ((play l.length ⟨0, 0, []⟩ l).map V.int)) → Q (.ref p) H'
theorem spAnswers_len {K : PySem.W.Frag} : ∀ vs H Q E, spAnswers K vs H Q E → vs.length = 1 := by
  rintro vs H Q E ⟨a, l, rfl, _⟩
  rfl
section
variable {P : Program} {w : World} {K : PySem.W.Frag} {mg : Str → Option Value} {base : Heap} {C : Addr} {f : Addr} {fd : FuncData}
abbrev sAnswers : Stmt := topS 66
abbrev nAnswers : List Str := ["calls", "statements", "found", "at", "behind", "told"]
theorem scAnswers : FnScope nAnswers ["calls"] (defScope sAnswers) := ⟨rfl, rfl, rfl, by decide +kernel, rfl, by decide +kernel, by decide +kernel⟩
theorem answers_ok (T : Txt K mg) (TC : TxC K C) (gC : mg "Statements" = some (.ref C)) {f1 : Addr} {fd1 : FuncData} (mk : Mk K C f1) (h1 : FnOk P w K mg base CX0 1 f1 fd1 ["self"] (spInit K C) ∧ Binds K fd1 ["self"] [])
    (cA : Cal P w K mg base 11 "answer" ["statements", "call", "n"] (spAnswer K C)) (F : Fun K "answers" "answers" sAnswers f fd) : FnOk P w K mg base CX0 12 f fd ["calls"] (spAnswers K) := by
  obtain ⟨aN, hN, sN⟩ := T.NUMBERS
  refine F.ok scAnswers spAnswers_len (fun cdv A outer s₀ H vs Q E hr h => ?_)
  obtain ⟨a, l, rfl, ha, hok, hlen, k⟩ := h
  have hr2 : Room 2 _ := hr.mono (by decide)
  refine ⟨_, pss_cons (ps_par3 (i := 1) (j := 2) (l := 3) rfl scAnswers.nd rfl rfl rfl (by decide) (by decide) (by decide) rfl rfl rfl (pa_cons (pe_make0 mk h1.1 hr2 rfl gC h1.2 .nil pass0) (pa_cons (pe_lst pa_nil) (pa_cons pe_int pa_nil))) rfl)
    (pss_cons (ps_while PassesOwn.never (pt_cmpR op_lt (pv 3) (pe_callB call_len rfl T.b_len (by decide +kernel) (pa_cons (pv 0) pa_nil)) (nomark _))
      (pss_cons (ps_set (i := 4) scAnswers.nd rfl (.inl rfl) (pe_op op_add (pe_op op_add (pv 3) pe_int) (pe_ix ix_tup (pe_cst hN) (pe_ix ix_list (pv 0) (pv 3) (fun _ _ => rfl)) (fun _ _ => rfl))))
      (pss_cons (ps_set (i := 5) scAnswers.nd rfl (.inl rfl) (pe_cal cA hr (pa_cons (pv 1) (pa_cons (pe_ix ix_list (pv 0) (pv 3) (fun _ _ => rfl)) (pa_cons (pe_slice sl_list (pv 0) (po_some (pe_op op_add (pv 3) pe_int)) (po_some (pv 4))) pa_nil)))))
      (pss_cons (ps_expr (pe_bm PySem.F.plainAttrs_list PySem.F.slot_list_extend PySem.F.type_list_extend mt_extend (pv 2) (pa_cons (pe_op op_cat (pe_lst (pa_cons (pe_callB call_len rfl T.b_len (by decide +kernel) (pa_cons (pv 5) pa_nil)) pa_nil)) (pv 5)) pa_nil)))
      (pss_one (ps_set (i := 3) scAnswers.nd rfl (.inl rfl) (pv 4)))))))
    (pss_one (ps_ret (pv 2)))), ?_⟩
  intro x dx hx hdx hne
  have hx2 : (upd H dx (.own x)) x = none := by rw [upd_ne (Ne.symm hne)]; exact hx
  have e1 : Ex H (upd (upd H dx (.own x)) x (.ins C dx [])) := (Ex.new hdx).trans (Ex.new hx2)
  refine ⟨H, x, dx, e1, hx, upd_same, rfl, fun B2 H2 g2 o2 => ⟨rfl, ?_⟩⟩
  refine ⟨Nat.zero_le _, fun p hp => ⟨_, _, _, rfl, ?_⟩⟩
  have hpx : p ≠ x := fun z => by subst z; exact g2.i.2 hp
  have bp : B2 p = none := Ex.none g2.e hp
  have g3 : Gr (MO K C x dx ⟨0, 0, []⟩) B2 H2 B2 (upd H2 p (.lst [])) := .of0 o2 (.raw g2.e hp)
  have hsq : SqL K B2 a (l.map fun (n : Nat) => V.int (n : Int)) := Evl.ex_l g2.b ha
  refine ⟨fun m σ H' => ∃ (B : Hp) (t : SS) (at' fu : Nat) (acc : List V) (x4 x5 : Option V), σ = [some (.ref a), some (.ref x), some (.ref p), some (.int (at' : Int)), x4, x5] ∧ Ex B H' ∧ SqL K B a (l.map fun (n : Nat) => V.int (n : Int)) ∧ ObjAt K C x dx t B H' ∧ B p = none ∧ H' p = some (.lst acc) ∧
    okCalls fu (l.drop at') = true ∧ at' ≤ l.length ∧ m = (l.drop at').length ∧ (l.drop at').length ≤ fu ∧ acc ++ (play fu t (l.drop at')).map V.int = (play l.length ⟨0, 0, []⟩ l).map V.int, ⟨l.length, B2, ⟨0, 0, []⟩, 0, l.length, [], none, none, rfl, g3.e, hsq, g3.i, bp, upd_same, hok, Nat.zero_le _, rfl, Nat.le_refl _, rfl⟩, ?_⟩
  rintro m σ H' ⟨B, t, at', fu, acc, x4, x5, rfl, e, hs, o, b0, hp', hok', hat, rfl, hfu, htot⟩
  have cl : CL K l (.ref a) B := ⟨a, rfl, hs⟩
  refine (yt_test (yl_lt (M := MO K C x dx t) (B := B) (yl_var (R := isZ at') rfl rfl) (yl_lenQ (K := K) (l := l) (yl_var rfl cl)).z)) B H' (.refl _) e o _ fun B3 H3 g3 => ?_
  by_cases c : at' < l.length
  · refine if_true_of (decide_eq_true (by omega)) ?_
    refine ⟨fun σ' H'' => ∃ m', m' < (l.drop at').length ∧ _, fun σ' H'' h => h, ?_⟩
    have hcell : l[at']? = some (l[at']'c) := List.getElem?_eq_getElem c
    generalize hcd : l[at']'c = cd at hcell
    have hdrop : l.drop at' = cd :: l.drop (at' + 1) := by rw [← hcd]; exact List.drop_eq_getElem_cons c
    rw [hdrop] at hok' hfu htot
    obtain ⟨fu, rfl⟩ : ∃ g, fu = g + 1 := ⟨fu - 1, by rw [List.length_cons] at hfu; omega⟩
    have hok2 : (decide (cd < 10) && (decide (need cd ≤ (l.drop (at' + 1)).length) && okCalls fu ((l.drop (at' + 1)).drop (need cd)))) = true := hok'
    rw [Bool.and_eq_true, Bool.and_eq_true, decide_eq_true_iff, decide_eq_true_iff] at hok2
    obtain ⟨h10, hneed, hok3⟩ := hok2
    rw [List.length_drop] at hneed
    have hbeh : at' + 1 + need cd ≤ l.length := by omega
    obtain ⟨b3, hp3⟩ := g3.keep (fun z => hpx z) b0 hp'
    have cl3 := MoC.up g3.b cl
    refine yq_asg (M := MO K C x dx t) (R := isI (at' + 1 + need cd)) g3.e g3.i ((yl_add (yl_add (yl_var (R := isZ at') rfl rfl) (yl_zc 1)) (yl_ixT (K := K) (r := isI) (yl_c (sN _)) (yl_ixQ (K := K) (l := l) (i := at') (yl_var rfl cl3) (yl_var rfl rfl) hcell).z (need_at h10)).z).i (by omega)) fun vb B4 H4 g4 rb => ?_
    cases rb
    have cl4 := MoC.up g4.b cl3
    obtain ⟨b4, hp4⟩ := g4.keep (fun z => hpx z) b3 hp3
    have htake : (l.drop (at' + 1)).take (at' + 1 + need cd - (at' + 1)) = (l.drop (at' + 1)).take (need cd) := by
      congr 1
      omega
    have hargs : YA (MO K C x dx t) (tCons (tOp (rIxL K) (tVar 0) (tVar 3)) (tCons (tSl (rSlL K) (tVar 0) (tPart (tOp (rI0 fun i j => .int (i + j)) (tVar 3) (tC (.int 1)))) (tPart (tVar 4))) tNil)) [some (.ref a), some (.ref x), some (.ref p), some (.int (at' : Int)), some (.int ((at' + 1 + need cd : Nat) : Int)), x5] B4
        (AC (isI cd) (AC (LL K isI ((l.drop (at' + 1)).take (need cd))) A0)) := by
      refine ya2 (yl_ixQ (K := K) (l := l) (i := at') (yl_var rfl cl4) (yl_var rfl rfl) hcell) ?_
      rw [← htake]
      exact yl_slQ (K := K) (l := l) (i := at' + 1) (j := at' + 1 + need cd) (yl_var rfl cl4) ((yl_add (yl_var (R := isZ at') rfl rfl) (yl_zc 1)).i (by omega)) (yl_var rfl rfl) (by omega) hbeh
    refine yq_callS (K := K) (C := C) (s := x) (dx := dx) (t := t) (cd, (l.drop (at' + 1)).take (need cd)) g4.e g4.i (yl_self rfl) hargs ⟨h10, by show ((l.drop (at' + 1)).take (need cd)).length = need cd; rw [List.length_take, List.length_drop]; omega⟩ fun vt B5 H5 g5 o5 rt => ?_
    replace o5 : ObjAt K C x dx (nAns t (cd, (l.drop (at' + 1)).take (need cd))) B5 H5 := o5
    replace rt : LZ K (aAns t (cd, (l.drop (at' + 1)).take (need cd))) vt B5 := rt
    have hplay : play (fu + 1) t (cd :: l.drop (at' + 1)) = (((aAns t (cd, (l.drop (at' + 1)).take (need cd))).length : Int) :: aAns t (cd, (l.drop (at' + 1)).take (need cd))) ++ play fu (nAns t (cd, (l.drop (at' + 1)).take (need cd))) ((l.drop (at' + 1)).drop (need cd)) := rfl
    rw [hplay] at htot
    clear hplay
    generalize aAns t (cd, (l.drop (at' + 1)).take (need cd)) = told at htot rt
    generalize nAns t (cd, (l.drop (at' + 1)).take (need cd)) = t2 at htot o5
    rw [List.drop_drop] at htot hok3
    have hsz : acc.length + (1 + told.length) ≤ sizeLine := by
      have h2 := congrArg List.length htot
      rw [List.length_append, List.length_map, List.length_map, List.length_append, List.length_cons] at h2
      omega
    obtain ⟨b5, hp5⟩ := g5.keep (fun z => hpx z) b4 hp4
    refine yq_ext (M := MO K C x dx t2) (K := K) (r := isZ) (l := (told.length : Int) :: told) (p := p) (acc := acc) g5.e o5 (fun z => hpx z) rfl b5 hp5 (yl_cat (K := K) (r := isZ) (l := [(told.length : Int)]) (m := told) (yl_lst1 (K := K) (r := isZ) (yl_lenL (K := K) (r := isZ) (l := told) (yl_var rfl rt)).z) (yl_var rfl rt) (by show 1 + told.length ≤ sizeLine; omega)) (by rw [List.length_cons]; omega) fun ws B6 H6 g6 b6 hp6 al => ?_
    have ews := al_zs al
    subst ews
    have cl6 := MoC.up (g5.b.trans g6.b) cl4
    obtain ⟨a6, ea6, hs6⟩ := cl6
    cases ea6
    have o6 : ObjAt K C x dx t2 B6 (upd H6 p (.lst (acc ++ ((told.length : Int) :: told).map V.int))) :=
      (MO K C x dx t2).st g6.i (.refl _) (g6.e.mut b6) fun a ma => ⟨rfl, upd_ne (fun z => hpx (z.symm.trans ma))⟩
    have hlt : (l.drop (at' + 1 + need cd)).length < (l.drop at').length := by
      rw [List.length_drop, List.length_drop]
      omega
    have hf2 : (l.drop (at' + 1 + need cd)).length ≤ fu := by
      rw [List.length_cons, List.length_drop] at hfu
      rw [List.length_drop]
      omega
    have ht2 : acc ++ ((told.length : Int) :: told).map V.int ++ (play fu t2 (l.drop (at' + 1 + need cd))).map V.int = (play l.length ⟨0, 0, []⟩ l).map V.int := by
      rw [← htot, List.map_append, List.append_assoc]
    exact ⟨_, rfl, _, hlt, B6, t2, at' + 1 + need cd, fu, _, _, _, rfl, g6.e.mut b6, hs6, o6, b6, upd_same, hok3, hbeh, rfl, hf2, ht2⟩
  · refine if_false_of (decide_eq_false (by omega)) ?_
    have hdrop : l.drop at' = [] := List.drop_eq_nil_of_le (by omega)
    rw [hdrop] at htot
    have hpl : play fu t [] = [] := by cases fu <;> rfl
    rw [hpl, List.map_nil, List.append_nil] at htot
    obtain ⟨b3, hp3⟩ := g3.keep (fun z => hpx z) b0 hp'
    rw [htot] at hp3
    exact ⟨.ref p, rfl, k H3 p hp3⟩
end
end RdW

set_option Elab.async false
set_option autoImplicit false
set_option linter.all false
set_option maxRecDepth 100000
set_option maxHeartbeats 2000000
/-! RdN: what the walk computes is what the specification says. -/
namespace RdW
open PySem L2
theorem bookM {t : SS} (o : t.Ok) : Rd.Mono t.book.kind t.book.things := by
  by_cases c : t.kind = 2
  · show Rd.Mono t.kind t.things
    rw [c]
    exact Rd.mono_set _
  · exact Rd.mono_ord (KO_of o.k c) _
abbrev hs (t : SS) : Qr02.House := ⟨t.book⟩
theorem out_ok (v : Int) : Qr02Neutral.out (Qr02.ok v) = [v] := rfl
theorem scen_nil {t : SS} : Rd.scenP t.book = [] ↔ Rd.scen t.book = [] := by
  unfold Rd.scenP
  rw [List.map_eq_nil_iff]
theorem isPair_two (t : SS) (i j : Nat) : Qr02.isPair (hs t) i j = two t i j := rfl
theorem s_can {t : SS} (o : t.Ok) : Qr02Neutral.out (Qr02.step (hs t) .can).2 = aCan t := by
  have h := Rd.way_isSome t.book (bookM o)
  show [((Qr02.flag t.book.way.isSome : Nat) : Int)] = aCan t
  unfold aCan
  by_cases c : Rd.scenP t.book = []
  · rw [if_pos c]
    have : t.book.way.isSome = false := by
      rw [Bool.eq_false_iff, ne_eq, h, Classical.not_not]
      exact scen_nil.mp c
    rw [this]
    rfl
  · rw [if_neg c]
    have : t.book.way.isSome = true := h.mpr (fun z => c (scen_nil.mpr z))
    rw [this]
    rfl
theorem pairs_len' (t : SS) : (Qr02.pairs t.book.things).length = Rd.nPairs t.things := Rd.pairs_len t.things
theorem s_way {t : SS} (o : t.Ok) : Qr02Neutral.out (Qr02.step (hs t) .way).2 = aWay t := by
  have h := Rd.way_eq t.book (bookM o)
  show Qr02Neutral.out (match t.book.way with | none => Qr02.ok (-6) | some l => ⟨(l.length : Nat), l.map fun f => f.r⟩) = aWay t
  rw [h]
  unfold aWay Rd.scenP
  cases hs : Rd.scen t.book with
  | nil => rfl
  | cons rs r =>
    have hl := Rd.scen_len (b := t.book) (rs := rs) (by rw [hs]; exact List.mem_cons_self)
    show (((Rd.facts (Qr02.pairs t.book.things) rs).length : Nat) : Int) :: ((Rd.facts (Qr02.pairs t.book.things) rs).map fun f => f.r).map (fun (n : Nat) => (n : Int)) = (rs.length : Int) :: Rd.zints rs
    rw [Rd.facts_len _ _ hl.symm, Rd.facts_map_r _ _ hl.symm]
theorem s_picture {t : SS} (o : t.Ok) : Qr02Neutral.out (Qr02.step (hs t) .picture).2 = aPicture t := by
  have h := Rd.way_eq t.book (bookM o)
  show Qr02Neutral.out (match t.book.way with | none => Qr02.ok (-6) | some l => match Qr.picture t.book.kind t.book.things l with | none => Qr02.ok (-6) | some p => ⟨(p.length : Nat), p⟩) = aPicture t
  rw [h]
  unfold aPicture Rd.scenP
  cases hs : Rd.scen t.book with
  | nil => rfl
  | cons rs r =>
    have hm : rs ∈ Rd.scen t.book := by rw [hs]; exact List.mem_cons_self
    have hc : Qr.can t.book.kind t.book.things (Rd.facts (Qr02.pairs t.book.things) rs) = true := (List.mem_filter.mp hm).2
    show Qr02Neutral.out (match Qr.picture t.book.kind t.book.things (Rd.facts (Qr02.pairs t.book.things) rs) with | none => Qr02.ok (-6) | some p => ⟨(p.length : Nat), p⟩) = ((Rd.picOf t.book rs).length : Int) :: Rd.zints (Rd.picOf t.book rs)
    unfold Rd.picOf
    unfold Qr.can at hc
    cases hp : Qr.picture t.book.kind t.book.things (Rd.facts (Qr02.pairs t.book.things) rs) with
    | none => rw [hp] at hc; cases hc
    | some p => rfl
theorem relsAt_eq (t : SS) (q : Nat) : relsAt t q = Rd.orAll ((Rd.scen t.book).map fun rs => Rd.at0 rs q) := by
  unfold relsAt Rd.scenP
  rw [List.map_map]
  rfl
theorem may_at {t : SS} (o : t.Ok) {i j : Nat} (h1 : i < j) (h2 : j < t.things) : t.book.may i j = relsAt t (Rd.nPairs j + i) := by
  rw [relsAt_eq]
  exact Rd.may_eq t.book (bookM o) (Rd.pairs_at h1 h2) fun q' h => (Rd.pairs_get.mp h).2.2
theorem idx2_comm (i j : Nat) : idx2 i j = idx2 j i := by
  unfold idx2
  rw [Nat.max_comm, Nat.min_comm]
theorem idx2_of {i j : Nat} (h : i < j) : idx2 i j = Rd.nPairs j + i := by
  unfold idx2
  rw [Nat.max_eq_right (Nat.le_of_lt h), Nat.min_eq_left (Nat.le_of_lt h)]
theorem s_may {t : SS} (o : t.Ok) (i j : Nat) : Qr02Neutral.out (Qr02.step (hs t) (.may i j)).2 = aMay t i j := by
  show Qr02Neutral.out (if two t i j = false then (hs t, Qr02.ok (-1)) else (hs t, Qr02.ok ((if i < j then t.book.may (Qr02.ordered (hs t) i j 0).i (Qr02.ordered (hs t) i j 0).j else Qr.turnedAll t.kind (t.book.may (Qr02.ordered (hs t) i j 0).i (Qr02.ordered (hs t) i j 0).j)) : Nat))).2 = aMay t i j
  unfold aMay
  by_cases c : two t i j = true
  · obtain ⟨hi, hj, hne⟩ := two_iff c
    rw [if_neg (by rw [c]; decide), if_pos c]
    show [(((if i < j then t.book.may (Qr02.ordered (hs t) i j 0).i (Qr02.ordered (hs t) i j 0).j else Qr.turnedAll t.kind (t.book.may (Qr02.ordered (hs t) i j 0).i (Qr02.ordered (hs t) i j 0).j)) : Nat) : Int)] = _
    unfold seen Qr02.ordered
    by_cases d : i < j
    · rw [if_pos d, if_pos d, if_pos d, may_at o d hj, idx2_of d]
    · have d2 : j < i := by omega
      rw [if_neg d, if_neg d, if_neg d, may_at o d2 hi, idx2_comm, idx2_of d2]
  · rw [if_neg c, if_pos (by simpa using c)]
    rfl
theorem s_left {t : SS} (o : t.Ok) (i j : Nat) : Qr02Neutral.out (Qr02.step (hs t) (.left i j)).2 = aLeft t i j := by
  show Qr02Neutral.out (if two t i j = false then (hs t, Qr02.ok (-1)) else (hs t, Qr02.ok ((if i < j then t.book.left (Qr02.ordered (hs t) i j 0).i (Qr02.ordered (hs t) i j 0).j else Qr.turnedAll t.kind (t.book.left (Qr02.ordered (hs t) i j 0).i (Qr02.ordered (hs t) i j 0).j)) : Nat))).2 = aLeft t i j
  have key : ∀ {a b : Nat}, a < b → b < t.things → (Rd.leftL t.book).getD (Rd.nPairs b + a) 0 = t.book.left a b := fun {a b} h1 h2 =>
    Rd.getD_map (fun (p : Nat × Nat) => t.book.left p.1 p.2) (Qr02.pairs t.book.things) (Rd.nPairs b + a) 0 (a, b) (Rd.pairs_at h1 h2)
  unfold aLeft
  by_cases c : two t i j = true
  · obtain ⟨hi, hj, hne⟩ := two_iff c
    rw [if_neg (by rw [c]; decide), if_pos c]
    show [(((if i < j then t.book.left (Qr02.ordered (hs t) i j 0).i (Qr02.ordered (hs t) i j 0).j else Qr.turnedAll t.kind (t.book.left (Qr02.ordered (hs t) i j 0).i (Qr02.ordered (hs t) i j 0).j)) : Nat) : Int)] = _
    unfold seen Qr02.ordered
    by_cases d : i < j
    · rw [if_pos d, if_pos d, if_pos d, idx2_of d, key d hj]
    · have d2 : j < i := by omega
      rw [if_neg d, if_neg d, if_neg d, idx2_comm, idx2_of d2, key d2 hi]
  · rw [if_neg c, if_pos (by simpa using c)]
    rfl
theorem s_all {t : SS} (o : t.Ok) : Qr02Neutral.out (Qr02.step (hs t) .all).2 = aAll t := by
  have h := Rd.way_isSome t.book (bookM o)
  show Qr02Neutral.out (if t.book.way.isSome = false then Qr02.ok (-6) else ⟨((Qr02.pairs t.book.things).length : Nat), (Qr02.pairs t.book.things).map fun p => t.book.may p.1 p.2⟩) = aAll t
  unfold aAll
  by_cases c : Rd.scenP t.book = []
  · have : t.book.way.isSome = false := by
      rw [Bool.eq_false_iff, ne_eq, h, Classical.not_not]
      exact scen_nil.mp c
    rw [if_pos c, if_pos this]
    rfl
  · have : t.book.way.isSome = true := h.mpr (fun z => c (scen_nil.mpr z))
    rw [if_neg c, if_neg (by rw [this]; decide)]
    show (((Qr02.pairs t.book.things).length : Nat) : Int) :: ((Qr02.pairs t.book.things).map fun p => t.book.may p.1 p.2).map (fun (n : Nat) => (n : Int)) = _
    rw [pairs_len', List.map_map]
    congr 1
    refine List.ext_getElem? fun q => ?_
    rw [List.getElem?_map, List.getElem?_map]
    cases hq : (Qr02.pairs t.book.things)[q]? with
    | none =>
      have := List.getElem?_eq_none_iff.mp hq
      rw [pairs_len'] at this
      rw [List.getElem?_eq_none_iff.mpr (by rw [List.length_range]; exact this)]
      rfl
    | some p =>
      obtain ⟨i, j⟩ := p
      obtain ⟨h1, h2, h3⟩ := Rd.pairs_get.mp hq
      have hlt := Rd.pairs_lt h1 h2
      rw [List.getElem?_range (by rw [h3]; exact hlt)]
      show some (((t.book.may i j : Nat)) : Int) = some ((relsAt t q : Nat) : Int)
      rw [may_at o h1 h2, h3]
theorem s_count {t : SS} (o : t.Ok) : Qr02Neutral.out (Qr02.step (hs t) .count).2 = aCount t ∧ (Qr02.step (hs t) .count).1 = hs t := by
  have h := Rd.countAll_eq t.book (bookM o)
  have hn := o.n
  show Qr02Neutral.out (if t.kind = 1 ∧ 3 < t.things then (hs t, Qr02.ok (-7)) else (hs t, Qr02.ok (if Qr.can t.book.kind t.book.things [] = true then Qr02.count t.book (Qr02.pairs t.book.things) [] else 0 : Nat))).2 = aCount t ∧ (if t.kind = 1 ∧ 3 < t.things then (hs t, Qr02.ok (-7)) else (hs t, Qr02.ok (if Qr.can t.book.kind t.book.things [] = true then Qr02.count t.book (Qr02.pairs t.book.things) [] else 0 : Nat))).1 = hs t
  unfold aCount
  by_cases c : t.kind = 1 ∧ t.things = 4
  · rw [if_pos c, if_pos ⟨c.1, by omega⟩]
    exact ⟨rfl, rfl⟩
  · rw [if_neg c, if_neg (fun z => c ⟨z.1, by omega⟩), h]
    refine ⟨?_, rfl⟩
    show [(((Rd.scen t.book).length : Nat) : Int)] = _
    unfold Rd.scenP
    rw [List.length_map]
theorem s_begins (t : SS) (k n : Nat) : Qr02.step (hs t) (.begins k n) = (hs (nBegins t (k, n)), if okB (k, n) = true then Qr02.ok 0 else Qr02.ok (-1)) := by
  show (if Qr.KINDS ≤ k ∨ n = 0 ∨ Qr02.THINGS < n then (hs t, Qr02.ok (-1)) else (⟨⟨k, n, []⟩⟩, Qr02.ok 0)) = _
  unfold nBegins
  by_cases c : okB (k, n) = true
  · have c2 := c
    unfold okB at c2
    rw [Bool.and_eq_true, Bool.and_eq_true, decide_eq_true_iff, decide_eq_true_iff, decide_eq_true_iff] at c2
    rw [if_pos c, if_pos c, if_neg (by unfold Qr.KINDS Qr02.THINGS; omega)]
    rfl
  · have c2 := c
    unfold okB at c2
    rw [Bool.and_eq_true, Bool.and_eq_true, decide_eq_true_iff, decide_eq_true_iff, decide_eq_true_iff] at c2
    rw [if_neg c, if_neg c, if_pos (by unfold Qr.KINDS Qr02.THINGS; omega)]
theorem s_told (t : SS) (i j m : Nat) : (Qr02.step (hs t) (.told i j m)).1 = hs (nTold t (i, j, m)) ∧ Qr02Neutral.out (Qr02.step (hs t) (.told i j m)).2 = aTold t (i, j, m) := by
  have e : Qr02.step (hs t) (.told i j m) = if two t i j = false ∨ Qr.all t.kind < m then (hs t, Qr02.ok (-1)) else if (t.rows.map (newsOf t.kind)).length = 10 then (hs t, Qr02.ok (-7)) else (⟨t.book.with_ (newsOf t.kind (i, j, m))⟩, Qr02.ok ((t.rows.map (newsOf t.kind)).length : Nat)) := rfl
  rw [e, List.length_map]
  unfold nTold aTold
  have h2 := Nat.two_pow_pos (Qr.size t.kind)
  have hb : badT t (i, j, m) = true ↔ (two t i j = false ∨ Qr.all t.kind < m) := by
    unfold badT Qr.all
    rw [Bool.or_eq_true, Bool.not_eq_true', decide_eq_true_iff]
    show two t i j = false ∨ 2 ^ Qr.size t.kind ≤ m ↔ _
    constructor
    · rintro (h | h)
      · exact .inl h
      · exact .inr (by omega)
    · rintro (h | h)
      · exact .inl h
      · exact .inr (by omega)
  by_cases c : badT t (i, j, m) = true
  · rw [if_pos c, if_pos c, if_pos (hb.mp c)]
    exact ⟨rfl, rfl⟩
  · rw [if_neg c, if_neg c, if_neg (fun z => c (hb.mpr z))]
    by_cases d : t.rows.length = 10
    · rw [if_pos d, if_pos d, if_pos d]
      exact ⟨rfl, rfl⟩
    · rw [if_neg d, if_neg d, if_neg d]
      refine ⟨?_, rfl⟩
      show Qr02.House.mk ⟨t.kind, t.things, t.rows.map (newsOf t.kind) ++ [newsOf t.kind (i, j, m)]⟩ = Qr02.House.mk ⟨t.kind, t.things, (t.rows ++ [(i, j, m)]).map (newsOf t.kind)⟩
      rw [List.map_append]
      rfl
theorem s_drop (t : SS) (i : Nat) : (Qr02.step (hs t) (.drop i)).1 = hs (nDrop t i) ∧ Qr02Neutral.out (Qr02.step (hs t) (.drop i)).2 = aDrop t i := by
  have e : Qr02.step (hs t) (.drop i) = if (t.rows.map (newsOf t.kind)).length ≤ i then (hs t, Qr02.ok (-2)) else (⟨⟨t.kind, t.things, (t.rows.map (newsOf t.kind)).take i ++ (t.rows.map (newsOf t.kind)).drop (i + 1)⟩⟩, Qr02.ok ((t.rows.map (newsOf t.kind)).length - 1 : Nat)) := rfl
  rw [e, List.length_map]
  unfold nDrop aDrop
  by_cases c : t.rows.length ≤ i
  · rw [if_pos c, if_pos c, if_pos c]
    exact ⟨rfl, rfl⟩
  · rw [if_neg c, if_neg c, if_neg c]
    constructor
    · show Qr02.House.mk ⟨t.kind, t.things, (t.rows.map (newsOf t.kind)).take i ++ (t.rows.map (newsOf t.kind)).drop (i + 1)⟩ = Qr02.House.mk ⟨t.kind, t.things, (t.rows.take i ++ t.rows.drop (i + 1)).map (newsOf t.kind)⟩
      rw [List.map_append, List.map_take, List.map_drop]
    · show [((t.rows.length - 1 : Nat) : Int)] = _
      have : (t.rows.take i ++ t.rows.drop (i + 1)).length = t.rows.length - 1 := by
        rw [List.length_append, List.length_take, List.length_drop]
        omega
      rw [this]
theorem ok_begins {t : SS} (o : t.Ok) (x : Nat × Nat) : (nBegins t x).Ok := by
  unfold nBegins
  by_cases c : okB x = true
  · rw [if_pos c]
    unfold okB at c
    rw [Bool.and_eq_true, Bool.and_eq_true, decide_eq_true_iff, decide_eq_true_iff, decide_eq_true_iff] at c
    exact ⟨c.1, c.2.2, (fun r hr => nomatch hr), Nat.zero_le _⟩
  · rw [if_neg c]
    exact o
theorem ok_told {t : SS} (o : t.Ok) (x : Nat × Nat × Nat) : (nTold t x).Ok := by
  unfold nTold
  by_cases c : badT t x = true
  · rw [if_pos c]; exact o
  · rw [if_neg c]
    by_cases d : t.rows.length = 10
    · rw [if_pos d]; exact o
    · rw [if_neg d]
      have hl := o.l
      have ht : two t x.1 x.2.1 = true := by
        unfold badT at c
        rw [Bool.or_eq_true, not_or, Bool.not_eq_true'] at c
        simpa using c.1
      refine ⟨o.k, o.n, fun r hr => ?_, ?_⟩
      · rcases List.mem_append.mp hr with hr | hr
        · exact o.r r hr
        · rw [List.mem_singleton] at hr
          subst hr
          exact two_iff ht
      · show (t.rows ++ [x]).length ≤ 10
        rw [List.length_append]
        show t.rows.length + 1 ≤ 10
        omega
theorem ok_drop {t : SS} (o : t.Ok) (i : Nat) : (nDrop t i).Ok := by
  unfold nDrop
  by_cases c : t.rows.length ≤ i
  · rw [if_pos c]; exact o
  · rw [if_neg c]
    have hl := o.l
    refine ⟨o.k, o.n, fun r hr => ?_, ?_⟩
    · rcases List.mem_append.mp hr with hr | hr
      · exact o.r r (List.mem_of_mem_take hr)
      · exact o.r r (List.mem_of_mem_drop hr)
    · show (t.rows.take i ++ t.rows.drop (i + 1)).length ≤ 10
      rw [List.length_append, List.length_take, List.length_drop]
      omega
theorem ok_ans {t : SS} (o : t.Ok) (x : Nat × List Nat) : (nAns t x).Ok := by
  unfold nAns
  split
  · exact o
  · split
    · exact ok_begins o _
    · split
      · exact ok_told o _
      · split
        · exact ok_drop o _
        · exact o
/-- a call, as the specification's list of its numbers -/
def rowC (c : Nat) (n : List Nat) : List (List Int) := [((c : Int) :: n.map fun (x : Nat) => (x : Int))]
theorem step_is {t : SS} (o : t.Ok) {c : Nat} {n : List Nat} (hc : c < 10) (hn : n.length = need c) : Qr02Neutral.step (hs t) (rowC c n) = (hs (nAns t (c, n)), aAns t (c, n)) := by
  have e : ∀ {cl : Qr02.Call}, Qr02Neutral.callOf (rowC c n) = some cl → Qr02Neutral.step (hs t) (rowC c n) = ((Qr02.step (hs t) cl).1, Qr02Neutral.out (Qr02.step (hs t) cl).2) := fun h => by
    unfold Qr02Neutral.step
    rw [h]
  have h10 : c = 0 ∨ c = 1 ∨ c = 2 ∨ c = 3 ∨ c = 4 ∨ c = 5 ∨ c = 6 ∨ c = 7 ∨ c = 8 ∨ c = 9 := by omega
  rcases h10 with rfl | rfl | rfl | rfl | rfl | rfl | rfl | rfl | rfl | rfl
  · match n, hn with
    | [a, b], _ =>
      rw [e (cl := .begins a b) rfl, s_begins]
      show (_, Qr02Neutral.out (if okB (a, b) = true then Qr02.ok 0 else Qr02.ok (-1))) = (hs (nBegins t (a, b)), aBegins (a, b))
      unfold aBegins
      by_cases q : okB (a, b) = true
      · rw [if_pos q, if_pos q]; rfl
      · rw [if_neg q, if_neg q]; rfl
  · match n, hn with
    | [a, b, d], _ =>
      rw [e (cl := .told a b d) rfl, (s_told t a b d).1, (s_told t a b d).2]
      rfl
  · match n, hn with
    | [a], _ =>
      rw [e (cl := .drop a) rfl, (s_drop t a).1, (s_drop t a).2]
      rfl
  · match n, hn with
    | [], _ => rw [e (cl := .can) rfl, s_can o]; rfl
  · match n, hn with
    | [], _ => rw [e (cl := .way) rfl, s_way o]; rfl
  · match n, hn with
    | [], _ => rw [e (cl := .picture) rfl, s_picture o]; rfl
  · match n, hn with
    | [a, b], _ =>
      rw [e (cl := .may a b) rfl, s_may o]
      have h1 : (Qr02.step (hs t) (.may a b)).1 = hs t := by
        show (if _ then _ else _ : Qr02.House × Qr02.Ans).1 = _
        split <;> rfl
      rw [h1]
      rfl
  · match n, hn with
    | [], _ => rw [e (cl := .all) rfl, s_all o]; rfl
  · match n, hn with
    | [], _ => rw [e (cl := .count) rfl, (s_count o).1, (s_count o).2]; rfl
  · match n, hn with
    | [a, b], _ =>
      rw [e (cl := .left a b) rfl, s_left o]
      have h1 : (Qr02.step (hs t) (.left a b)).1 = hs t := by
        show (if _ then _ else _ : Qr02.House × Qr02.Ans).1 = _
        split <;> rfl
      rw [h1]
      rfl
theorem shape_nat (c : Nat) : PyQr02.shape (c : Int) = if c < 10 then some (need c, 0) else none := by
  by_cases h : c < 10
  · rw [if_pos h]
    have h10 : c = 0 ∨ c = 1 ∨ c = 2 ∨ c = 3 ∨ c = 4 ∨ c = 5 ∨ c = 6 ∨ c = 7 ∨ c = 8 ∨ c = 9 := by omega
    rcases h10 with rfl | rfl | rfl | rfl | rfl | rfl | rfl | rfl | rfl | rfl <;> rfl
  · rw [if_neg h]
    unfold PyQr02.shape
    rw [if_neg (by omega), if_neg (by omega), if_neg (by omega), if_neg (by omega), if_neg (by omega), if_neg (by omega), if_neg (by omega), if_neg (by omega), if_neg (by omega), if_neg (by omega)]
theorem whole_id (c : List (List Int)) : PyQr02.whole c = c := by
  unfold PyQr02.whole
  split <;> rfl
abbrev toI (l : List Nat) : List Int := l.map fun (n : Nat) => (n : Int)
theorem calls_play : ∀ (f : Nat) (l : List Nat) (raw : List (List (List Int))), PyFlat.calls PyQr02.shape f (toI l) = some raw → okCalls f l = true ∧ ∀ t : SS, t.Ok → PyFlat.told (PyFlat.played Qr02Neutral.step (hs t) (raw.map PyQr02.whole)) = play f t l
  | 0, [], raw, h => by
    have h : some [] = some raw := h
    cases h
    exact ⟨rfl, fun t o => rfl⟩
  | f + 1, [], raw, h => by
    have h : some [] = some raw := h
    cases h
    exact ⟨rfl, fun t o => rfl⟩
  | 0, c :: r, raw, h => by
    have h : none = some raw := h
    cases h
  | f + 1, c :: r, raw, h => by
    have e1 : PyFlat.call PyQr02.shape (toI (c :: r)) = match PyQr02.shape (c : Int) with
      | none => none
      | some (n, k) => if (toI r).length < n then none else match PyFlat.rows k ((toI r).drop n) with
        | none => none
        | some (xs, t) => some (((c : Int) :: (toI r).take n) :: xs, t) := rfl
    have e2 : PyFlat.calls PyQr02.shape (f + 1) (toI (c :: r)) = match PyFlat.call PyQr02.shape (toI (c :: r)) with
      | none => none
      | some (c, t) => match PyFlat.calls PyQr02.shape f t with
        | none => none
        | some cs => some (c :: cs) := rfl
    rw [e2, e1, shape_nat] at h
    by_cases hc : c < 10
    · rw [if_pos hc] at h
      dsimp only at h
      by_cases hn : (toI r).length < need c
      · rw [if_pos hn] at h
        cases h
      · rw [if_neg hn] at h
        rw [List.length_map] at hn
        have e3 : PyFlat.rows 0 ((toI r).drop (need c)) = some ([], toI (r.drop (need c))) := by
          show some ([], (r.map fun (n : Nat) => (n : Int)).drop (need c)) = some ([], (r.drop (need c)).map fun (n : Nat) => (n : Int))
          rw [List.map_drop]
        rw [e3] at h
        dsimp only at h
        cases hr : PyFlat.calls PyQr02.shape f (toI (r.drop (need c))) with
        | none => rw [hr] at h; cases h
        | some cs =>
          rw [hr] at h
          cases h
          obtain ⟨h1, h2⟩ := calls_play f (r.drop (need c)) cs hr
          refine ⟨?_, fun t o => ?_⟩
          · show (decide (c < 10) && (decide (need c ≤ r.length) && okCalls f (r.drop (need c)))) = true
            rw [decide_eq_true hc, decide_eq_true (by omega), h1]
            rfl
          · have hl : (r.take (need c)).length = need c := by rw [List.length_take]; omega
            have e4 : ((c : Int) :: (toI r).take (need c)) :: ([] : List (List Int)) = rowC c (r.take (need c)) := by
              unfold rowC
              rw [List.map_take]
            rw [e4, List.map_cons, whole_id]
            show PyFlat.told ((Qr02Neutral.step (hs t) (rowC c (r.take (need c)))).2 :: PyFlat.played Qr02Neutral.step (Qr02Neutral.step (hs t) (rowC c (r.take (need c)))).1 (cs.map PyQr02.whole)) = _
            rw [step_is o hc hl]
            show (((aAns t (c, r.take (need c))).length : Int) :: aAns t (c, r.take (need c))) ++ PyFlat.told (PyFlat.played Qr02Neutral.step (hs (nAns t (c, r.take (need c)))) (cs.map PyQr02.whole)) = _
            rw [h2 _ (ok_ans o _)]
            rfl
    · rw [if_neg hc] at h
      cases h
theorem asked_play {ns : List Int} (h1 : ns.all (PySem.W.Codec.inInt 0 4294967295) = true) (h : PyQr02.answers_asked ns = true) : ∃ l : List Nat, ns = l.map (fun (n : Nat) => (n : Int)) ∧ okCalls l.length l = true ∧ play l.length ⟨0, 0, []⟩ l = PyQr02.answers ns ∧ (play l.length ⟨0, 0, []⟩ l).length ≤ 10000000 := by
  have key : ∀ l : List Int, l.all (PySem.W.Codec.inInt 0 4294967295) = true → l = toI (l.map Int.toNat) := by
    intro l
    induction l with
    | nil => intro _; rfl
    | cons z l ih =>
      intro q
      rw [List.all_cons, Bool.and_eq_true] at q
      have q1 := PySem.W.Codec.inInt_iff.mp q.1
      show z :: l = ((z.toNat : Nat) : Int) :: toI (l.map Int.toNat)
      rw [← ih q.2, Int.toNat_of_nonneg q1.1]
  have e := key ns h1
  have hlen : ns.length = (ns.map Int.toNat).length := (List.length_map _).symm
  have ha : PyQr02.answers_asked ns = match PyFlat.calls PyQr02.shape ns.length ns with
    | none => false
    | some raw => !raw.isEmpty && PyFlat.atMost 60 raw && PyInside.calls PyQr02.bound raw && Qr02Neutral.asked (raw.map PyQr02.whole) && PyFlat.short 10000000 (PyQr02.answers ns) := rfl
  have hb : PyQr02.answers ns = match (match PyFlat.calls PyQr02.shape ns.length ns with | none => none | some cs => some (cs.map PyQr02.whole)) with
    | none => []
    | some cs => PyFlat.told (PyFlat.played Qr02Neutral.step Qr02Neutral.start cs) := rfl
  rw [ha] at h
  cases hr : PyFlat.calls PyQr02.shape ns.length ns with
  | none => rw [hr] at h; cases h
  | some raw =>
    rw [hr] at h hb
    dsimp only at h hb
    rw [Bool.and_eq_true] at h
    have hs2 : (PyQr02.answers ns).length ≤ 10000000 := of_decide_eq_true h.2
    have hr2 : PyFlat.calls PyQr02.shape (ns.map Int.toNat).length (toI (ns.map Int.toNat)) = some raw := by rw [← e, ← hlen]; exact hr
    obtain ⟨h3, h4⟩ := calls_play _ _ raw hr2
    have h5 : play (ns.map Int.toNat).length ⟨0, 0, []⟩ (ns.map Int.toNat) = PyQr02.answers ns := by
      rw [hb]
      exact (h4 ⟨0, 0, []⟩ ⟨by decide, by decide, (fun r hr => nomatch hr), by decide⟩).symm
    exact ⟨ns.map Int.toNat, e, h3, h5, by rw [h5]; exact hs2⟩
end RdW

set_option Elab.async false
set_option autoImplicit false
set_option linter.all false
set_option maxRecDepth 100000
set_option maxHeartbeats 8000000
/-! RdZ: the end. -/
namespace RdW
open PySem PySem.Spec PyProof.Rows L2
open PySem.W (Codec)
theorem sqT_ints {K : PySem.W.Frag} {p : Addr} {d : Option Addr} {its : Array Value} {n : Nat} {s : Array (Option Value)} {l : List Nat} (h : K.lookup p = some ⟨.type "tuple", d, .seq its n, s⟩) (hz : its.size ≤ 1000) (hv : Vals (l.map fun (n : Nat) => V.int (n : Int)) its.toList) (H : Hp) : TU K isI l (.ref p) H :=
  ⟨p, _, rfl, .inr ⟨_, its, n, h, rfl, rfl, Nat.le_trans hz (by decide), hv⟩, ints_al l⟩
theorem all_mk {P : Program} {w : World} {K : PySem.W.Frag} {h : Heap} {mg : Str → Option Value} {fa C f0 f1 f2 f3 f4 f5 f6 f7 f8 f9 f10 f11 f12 f13 f14 f15 f16 f17 f18 f19 f20 f21 f22 f23 f24 f25 f26 f27 fm0 fm1 fm2 fm3 fm4 fm5 fm6 fm7 fm8 fm9 fm10 fm11 fm12 fm13 fm14 fm15 fm16 fm17 pMANY pINVERSES_OF_SETS pNUMBERS pOVERLAPPING pOV0 pOV1 pOV2 : Addr} (X : K.In h) (G : h.Ns mainGlobals mg) (hfa : mg "answers" = some (.ref fa))
    {oc0 kV0 dc0 pm0 cd0 ct0 oc1 kV1 dc1 pm1 cd1 ct1 oc2 kV2 dc2 pm2 cd2 ct2 oc3 kV3 dc3 pm3 cd3 ct3 oc4 kV4 dc4 pm4 cd4 ct4 oc5 kV5 dc5 pm5 cd5 ct5 oc6 kV6 dc6 pm6 cd6 ct6 oc7 kV7 dc7 pm7 cd7 ct7 oc8 kV8 dc8 pm8 cd8 ct8 oc9 kV9 dc9 pm9 cd9 ct9 oc10 kV10 dc10 pm10 cd10 ct10 oc11 kV11 dc11 pm11 cd11 ct11 oc12 kV12 dc12 pm12 cd12 ct12 oc13 kV13 dc13 pm13 cd13 ct13 oc14 kV14 dc14 pm14 cd14 ct14 oc15 kV15 dc15 pm15 cd15 ct15 oc16 kV16 dc16 pm16 cd16 ct16 oc17 kV17 dc17 pm17 cd17 ct17 oc18 kV18 dc18 pm18 cd18 ct18 oc19 kV19 dc19 pm19 cd19 ct19 oc20 kV20 dc20 pm20 cd20 ct20 oc21 kV21 dc21 pm21 cd21 ct21 oc22 kV22 dc22 pm22 cd22 ct22 oc23 kV23 dc23 pm23 cd23 ct23 oc24 kV24 dc24 pm24 cd24 ct24 oc25 kV25 dc25 pm25 cd25 ct25 oc26 kV26 dc26 pm26 cd26 ct26 oc27 kV27 dc27 pm27 cd27 ct27 ocm0 kVm0 dcm0 pmm0 cdm0 ctm0 ocm1 kVm1 dcm1 pmm1 cdm1 ctm1 ocm2 kVm2 dcm2 pmm2 cdm2 ctm2 ocm3 kVm3 dcm3 pmm3 cdm3 ctm3 ocm4 kVm4 dcm4 pmm4 cdm4 ctm4 ocm5 kVm5 dcm5 pmm5 cdm5 ctm5 ocm6 kVm6 dcm6 pmm6 cdm6 ctm6 ocm7 kVm7 dcm7 pmm7 cdm7 ctm7 ocm8 kVm8 dcm8 pmm8 cdm8 ctm8 ocm9 kVm9 dcm9 pmm9 cdm9 ctm9 ocm10 kVm10 dcm10 pmm10 cdm10 ctm10 ocm11 kVm11 dcm11 pmm11 cdm11 ctm11 ocm12 kVm12 dcm12 pmm12 cdm12 ctm12 ocm13 kVm13 dcm13 pmm13 cdm13 ctm13 ocm14 kVm14 dcm14 pmm14 cdm14 ctm14 ocm15 kVm15 dcm15 pmm15 cdm15 ctm15 ocm16 kVm16 dcm16 pmm16 cdm16 ctm16 ocm17 kVm17 dcm17 pmm17 cdm17 ctm17 : Value} {od0 an0 od1 an1 od2 an2 od3 an3 od4 an4 od5 an5 od6 an6 od7 an7 od8 an8 od9 an9 od10 an10 od11 an11 od12 an12 od13 an13 od14 an14 od15 an15 od16 an16 od17 an17 od18 an18 od19 an19 od20 an20 od21 an21 od22 an22 od23 an23 od24 an24 od25 an25 od26 an26 od27 an27 odm0 anm0 odm1 anm1 odm2 anm2 odm3 anm3 odm4 anm4 odm5 anm5 odm6 anm6 odm7 anm7 odm8 anm8 odm9 anm9 odm10 anm10 odm11 anm11 odm12 anm12 odm13 anm13 odm14 anm14 odm15 anm15 odm16 anm16 odm17 anm17 : Option Addr} {sl0 sl1 sl2 sl3 sl4 sl5 sl6 sl7 sl8 sl9 sl10 sl11 sl12 sl13 sl14 sl15 sl16 sl17 sl18 sl19 sl20 sl21 sl22 sl23 sl24 sl25 sl26 sl27 slm0 slm1 slm2 slm3 slm4 slm5 slm6 slm7 slm8 slm9 slm10 slm11 slm12 slm13 slm14 slm15 slm16 slm17 sMANY sINVERSES_OF_SETS sNUMBERS sOVERLAPPING sOV0 sOV1 sOV2 : Array (Option Value)} {tPOINTS tINTERVALS tSETS tPOSITIONS tAPART tCROSSING tWITHIN tEQUAL tAROUND tBEFORE tMEETS tMET tAFTER tNOT_VALID tNO_STATEMENT tNOT_CONSISTENT tTOO_MANY tMOST_KIND tMOST_OBJECTS tMOST_STATEMENTS tBEGINS tTOLD tDROP tCAN tWAY tPICTURE tMAY tALL tCOUNT tMANY0 tMANY1 tMANY2 tMANY3 tINVERSES_OF_SETS0 tINVERSES_OF_SETS1 tINVERSES_OF_SETS2 tINVERSES_OF_SETS3 tINVERSES_OF_SETS4 tNUMBERS0 tNUMBERS1 tNUMBERS2 tNUMBERS3 tNUMBERS4 tNUMBERS5 tNUMBERS6 tNUMBERS7 tNUMBERS8 tNUMBERS9 tOV00 tOV01 tOV02 tOV10 tOV11 tOV12 tOV20 tOV21 tOV22 : Tok} {nMANY nINVERSES_OF_SETS nNUMBERS nOVERLAPPING nOV0 nOV1 nOV2 : Nat} {dMANY dINVERSES_OF_SETS dNUMBERS dOVERLAPPING dOV0 dOV1 dOV2 : Option Addr}
    (a0 : PySem.W.nsIn K mainGlobals "has" = some (some (.ref f0)))
    (l0 : K.lookup f0 = some ⟨oc0, od0, .func (PySem.W.fnOf "has" "has" (defArgs sHas) (defBody sHas) (defScope sHas) .none kV0 dc0 pm0 an0 cd0 ct0), sl0⟩)
    (c0 : PySem.W.codeIn K cd0 "has" = true)
    (k0 : PySem.W.keepIn K (.ref f0) = true)
    (a1 : PySem.W.nsIn K mainGlobals "inverse" = some (some (.ref f1)))
    (l1 : K.lookup f1 = some ⟨oc1, od1, .func (PySem.W.fnOf "inverse" "inverse" (defArgs sInverse) (defBody sInverse) (defScope sInverse) .none kV1 dc1 pm1 an1 cd1 ct1), sl1⟩)
    (c1 : PySem.W.codeIn K cd1 "inverse" = true)
    (k1 : PySem.W.keepIn K (.ref f1) = true)
    (a2 : PySem.W.nsIn K mainGlobals "every" = some (some (.ref f2)))
    (l2 : K.lookup f2 = some ⟨oc2, od2, .func (PySem.W.fnOf "every" "every" (defArgs sEvery) (defBody sEvery) (defScope sEvery) .none kV2 dc2 pm2 an2 cd2 ct2), sl2⟩)
    (c2 : PySem.W.codeIn K cd2 "every" = true)
    (k2 : PySem.W.keepIn K (.ref f2) = true)
    (a3 : PySem.W.nsIn K mainGlobals "members" = some (some (.ref f3)))
    (l3 : K.lookup f3 = some ⟨oc3, od3, .func (PySem.W.fnOf "members" "members" (defArgs sMembers) (defBody sMembers) (defScope sMembers) .none kV3 dc3 pm3 an3 cd3 ct3), sl3⟩)
    (c3 : PySem.W.codeIn K cd3 "members" = true)
    (k3 : PySem.W.keepIn K (.ref f3) = true)
    (a4 : PySem.W.nsIn K mainGlobals "set_of" = some (some (.ref f4)))
    (l4 : K.lookup f4 = some ⟨oc4, od4, .func (PySem.W.fnOf "set_of" "set_of" (defArgs sSetOf) (defBody sSetOf) (defScope sSetOf) .none kV4 dc4 pm4 an4 cd4 ct4), sl4⟩)
    (c4 : PySem.W.codeIn K cd4 "set_of" = true)
    (k4 : PySem.W.keepIn K (.ref f4) = true)
    (a5 : PySem.W.nsIn K mainGlobals "inverse_set" = some (some (.ref f5)))
    (l5 : K.lookup f5 = some ⟨oc5, od5, .func (PySem.W.fnOf "inverse_set" "inverse_set" (defArgs sInverseSet) (defBody sInverseSet) (defScope sInverseSet) .none kV5 dc5 pm5 an5 cd5 ct5), sl5⟩)
    (c5 : PySem.W.codeIn K cd5 "inverse_set" = true)
    (k5 : PySem.W.keepIn K (.ref f5) = true)
    (a6 : PySem.W.nsIn K mainGlobals "pair_number" = some (some (.ref f6)))
    (l6 : K.lookup f6 = some ⟨oc6, od6, .func (PySem.W.fnOf "pair_number" "pair_number" (defArgs sPairNumber) (defBody sPairNumber) (defScope sPairNumber) .none kV6 dc6 pm6 an6 cd6 ct6), sl6⟩)
    (c6 : PySem.W.codeIn K cd6 "pair_number" = true)
    (k6 : PySem.W.keepIn K (.ref f6) = true)
    (a7 : PySem.W.nsIn K mainGlobals "many_pairs" = some (some (.ref f7)))
    (l7 : K.lookup f7 = some ⟨oc7, od7, .func (PySem.W.fnOf "many_pairs" "many_pairs" (defArgs sManyPairs) (defBody sManyPairs) (defScope sManyPairs) .none kV7 dc7 pm7 an7 cd7 ct7), sl7⟩)
    (c7 : PySem.W.codeIn K cd7 "many_pairs" = true)
    (k7 : PySem.W.keepIn K (.ref f7) = true)
    (a8 : PySem.W.nsIn K mainGlobals "compared" = some (some (.ref f8)))
    (l8 : K.lookup f8 = some ⟨oc8, od8, .func (PySem.W.fnOf "compared" "compared" (defArgs sCompared) (defBody sCompared) (defScope sCompared) .none kV8 dc8 pm8 an8 cd8 ct8), sl8⟩)
    (c8 : PySem.W.codeIn K cd8 "compared" = true)
    (k8 : PySem.W.keepIn K (.ref f8) = true)
    (a9 : PySem.W.nsIn K mainGlobals "interval_relation" = some (some (.ref f9)))
    (l9 : K.lookup f9 = some ⟨oc9, od9, .func (PySem.W.fnOf "interval_relation" "interval_relation" (defArgs sIntervalRelation) (defBody sIntervalRelation) (defScope sIntervalRelation) .none kV9 dc9 pm9 an9 cd9 ct9), sl9⟩)
    (c9 : PySem.W.codeIn K cd9 "interval_relation" = true)
    (k9 : PySem.W.keepIn K (.ref f9) = true)
    (a10 : PySem.W.nsIn K mainGlobals "relation_in" = some (some (.ref f10)))
    (l10 : K.lookup f10 = some ⟨oc10, od10, .func (PySem.W.fnOf "relation_in" "relation_in" (defArgs sRelationIn) (defBody sRelationIn) (defScope sRelationIn) .none kV10 dc10 pm10 an10 cd10 ct10), sl10⟩)
    (c10 : PySem.W.codeIn K cd10 "relation_in" = true)
    (k10 : PySem.W.keepIn K (.ref f10) = true)
    (a11 : PySem.W.nsIn K mainGlobals "with_number" = some (some (.ref f11)))
    (l11 : K.lookup f11 = some ⟨oc11, od11, .func (PySem.W.fnOf "with_number" "with_number" (defArgs sWithNumber) (defBody sWithNumber) (defScope sWithNumber) .none kV11 dc11 pm11 an11 cd11 ct11), sl11⟩)
    (c11 : PySem.W.codeIn K cd11 "with_number" = true)
    (k11 : PySem.W.keepIn K (.ref f11) = true)
    (a12 : PySem.W.nsIn K mainGlobals "with_interval" = some (some (.ref f12)))
    (l12 : K.lookup f12 = some ⟨oc12, od12, .func (PySem.W.fnOf "with_interval" "with_interval" (defArgs sWithInterval) (defBody sWithInterval) (defScope sWithInterval) .none kV12 dc12 pm12 an12 cd12 ct12), sl12⟩)
    (c12 : PySem.W.codeIn K cd12 "with_interval" = true)
    (k12 : PySem.W.keepIn K (.ref f12) = true)
    (a13 : PySem.W.nsIn K mainGlobals "with_object" = some (some (.ref f13)))
    (l13 : K.lookup f13 = some ⟨oc13, od13, .func (PySem.W.fnOf "with_object" "with_object" (defArgs sWithObject) (defBody sWithObject) (defScope sWithObject) .none kV13 dc13 pm13 an13 cd13 ct13), sl13⟩)
    (c13 : PySem.W.codeIn K cd13 "with_object" = true)
    (k13 : PySem.W.keepIn K (.ref f13) = true)
    (a14 : PySem.W.nsIn K mainGlobals "relations_to_last" = some (some (.ref f14)))
    (l14 : K.lookup f14 = some ⟨oc14, od14, .func (PySem.W.fnOf "relations_to_last" "relations_to_last" (defArgs sRelationsToLast) (defBody sRelationsToLast) (defScope sRelationsToLast) .none kV14 dc14 pm14 an14 cd14 ct14), sl14⟩)
    (c14 : PySem.W.codeIn K cd14 "relations_to_last" = true)
    (k14 : PySem.W.keepIn K (.ref f14) = true)
    (a15 : PySem.W.nsIn K mainGlobals "are_left" = some (some (.ref f15)))
    (l15 : K.lookup f15 = some ⟨oc15, od15, .func (PySem.W.fnOf "are_left" "are_left" (defArgs sAreLeft) (defBody sAreLeft) (defScope sAreLeft) .none kV15 dc15 pm15 an15 cd15 ct15), sl15⟩)
    (c15 : PySem.W.codeIn K cd15 "are_left" = true)
    (k15 : PySem.W.keepIn K (.ref f15) = true)
    (a16 : PySem.W.nsIn K mainGlobals "all_figures" = some (some (.ref f16)))
    (l16 : K.lookup f16 = some ⟨oc16, od16, .func (PySem.W.fnOf "all_figures" "all_figures" (defArgs sAllFigures) (defBody sAllFigures) (defScope sAllFigures) .none kV16 dc16 pm16 an16 cd16 ct16), sl16⟩)
    (c16 : PySem.W.codeIn K cd16 "all_figures" = true)
    (k16 : PySem.W.keepIn K (.ref f16) = true)
    (a17 : PySem.W.nsIn K mainGlobals "numbers_of" = some (some (.ref f17)))
    (l17 : K.lookup f17 = some ⟨oc17, od17, .func (PySem.W.fnOf "numbers_of" "numbers_of" (defArgs sNumbersOf) (defBody sNumbersOf) (defScope sNumbersOf) .none kV17 dc17 pm17 an17 cd17 ct17), sl17⟩)
    (c17 : PySem.W.codeIn K cd17 "numbers_of" = true)
    (k17 : PySem.W.keepIn K (.ref f17) = true)
    (a18 : PySem.W.nsIn K mainGlobals "excludes" = some (some (.ref f18)))
    (l18 : K.lookup f18 = some ⟨oc18, od18, .func (PySem.W.fnOf "excludes" "excludes" (defArgs sExcludes) (defBody sExcludes) (defScope sExcludes) .none kV18 dc18 pm18 an18 cd18 ct18), sl18⟩)
    (c18 : PySem.W.codeIn K cd18 "excludes" = true)
    (k18 : PySem.W.keepIn K (.ref f18) = true)
    (a19 : PySem.W.nsIn K mainGlobals "is_excluded" = some (some (.ref f19)))
    (l19 : K.lookup f19 = some ⟨oc19, od19, .func (PySem.W.fnOf "is_excluded" "is_excluded" (defArgs sIsExcluded) (defBody sIsExcluded) (defScope sIsExcluded) .none kV19 dc19 pm19 an19 cd19 ct19), sl19⟩)
    (c19 : PySem.W.codeIn K cd19 "is_excluded" = true)
    (k19 : PySem.W.keepIn K (.ref f19) = true)
    (a20 : PySem.W.nsIn K mainGlobals "cells_of" = some (some (.ref f20)))
    (l20 : K.lookup f20 = some ⟨oc20, od20, .func (PySem.W.fnOf "cells_of" "cells_of" (defArgs sCellsOf) (defBody sCellsOf) (defScope sCellsOf) .none kV20 dc20 pm20 an20 cd20 ct20), sl20⟩)
    (c20 : PySem.W.codeIn K cd20 "cells_of" = true)
    (k20 : PySem.W.keepIn K (.ref f20) = true)
    (a21 : PySem.W.nsIn K mainGlobals "relation_by" = some (some (.ref f21)))
    (l21 : K.lookup f21 = some ⟨oc21, od21, .func (PySem.W.fnOf "relation_by" "relation_by" (defArgs sRelationBy) (defBody sRelationBy) (defScope sRelationBy) .none kV21 dc21 pm21 an21 cd21 ct21), sl21⟩)
    (c21 : PySem.W.codeIn K cd21 "relation_by" = true)
    (k21 : PySem.W.keepIn K (.ref f21) = true)
    (a22 : PySem.W.nsIn K mainGlobals "can_hold" = some (some (.ref f22)))
    (l22 : K.lookup f22 = some ⟨oc22, od22, .func (PySem.W.fnOf "can_hold" "can_hold" (defArgs sCanHold) (defBody sCanHold) (defScope sCanHold) .none kV22 dc22 pm22 an22 cd22 ct22), sl22⟩)
    (c22 : PySem.W.codeIn K cd22 "can_hold" = true)
    (k22 : PySem.W.keepIn K (.ref f22) = true)
    (a23 : PySem.W.nsIn K mainGlobals "choices" = some (some (.ref f23)))
    (l23 : K.lookup f23 = some ⟨oc23, od23, .func (PySem.W.fnOf "choices" "choices" (defArgs sChoices) (defBody sChoices) (defScope sChoices) .none kV23 dc23 pm23 an23 cd23 ct23), sl23⟩)
    (c23 : PySem.W.codeIn K cd23 "choices" = true)
    (k23 : PySem.W.keepIn K (.ref f23) = true)
    (a24 : PySem.W.nsIn K mainGlobals "all_relations" = some (some (.ref f24)))
    (l24 : K.lookup f24 = some ⟨oc24, od24, .func (PySem.W.fnOf "all_relations" "all_relations" (defArgs sAllRelations) (defBody sAllRelations) (defScope sAllRelations) .none kV24 dc24 pm24 an24 cd24 ct24), sl24⟩)
    (c24 : PySem.W.codeIn K cd24 "all_relations" = true)
    (k24 : PySem.W.keepIn K (.ref f24) = true)
    (a25 : PySem.W.nsIn K mainGlobals "plain_answer" = some (some (.ref f25)))
    (l25 : K.lookup f25 = some ⟨oc25, od25, .func (PySem.W.fnOf "plain_answer" "plain_answer" (defArgs sPlain) (defBody sPlain) (defScope sPlain) .none kV25 dc25 pm25 an25 cd25 ct25), sl25⟩)
    (c25 : PySem.W.codeIn K cd25 "plain_answer" = true)
    (k25 : PySem.W.keepIn K (.ref f25) = true)
    (a26 : PySem.W.nsIn K mainGlobals "answer" = some (some (.ref f26)))
    (l26 : K.lookup f26 = some ⟨oc26, od26, .func (PySem.W.fnOf "answer" "answer" (defArgs sAnswer) (defBody sAnswer) (defScope sAnswer) .none kV26 dc26 pm26 an26 cd26 ct26), sl26⟩)
    (c26 : PySem.W.codeIn K cd26 "answer" = true)
    (k26 : PySem.W.keepIn K (.ref f26) = true)
    (a27 : PySem.W.nsIn K mainGlobals "answers" = some (some (.ref f27)))
    (l27 : K.lookup f27 = some ⟨oc27, od27, .func (PySem.W.fnOf "answers" "answers" (defArgs sAnswers) (defBody sAnswers) (defScope sAnswers) .none kV27 dc27 pm27 an27 cd27 ct27), sl27⟩)
    (c27 : PySem.W.codeIn K cd27 "answers" = true)
    (k27 : PySem.W.keepIn K (.ref f27) = true)
    (aC : PySem.W.nsIn K mainGlobals "Statements" = some (some (.ref C)))
    (am0 : PySem.W.findIn K (.ref C) "__init__" = some (some (.ref fm0)))
    (im0 : PySem.W.isFn K (.ref fm0) = true)
    (lm0 : K.lookup fm0 = some ⟨ocm0, odm0, .func (PySem.W.fnOf "__init__" "Statements.__init__" (defArgs sInit) (defBody sInit) (defScope sInit) .none kVm0 dcm0 pmm0 anm0 cdm0 ctm0), slm0⟩)
    (cm0 : PySem.W.codeIn K cdm0 "Statements.__init__" = true)
    (km0 : PySem.W.keepIn K (.ref fm0) = true)
    (am1 : PySem.W.findIn K (.ref C) "begins" = some (some (.ref fm1)))
    (im1 : PySem.W.isFn K (.ref fm1) = true)
    (lm1 : K.lookup fm1 = some ⟨ocm1, odm1, .func (PySem.W.fnOf "begins" "Statements.begins" (defArgs sBegins) (defBody sBegins) (defScope sBegins) .none kVm1 dcm1 pmm1 anm1 cdm1 ctm1), slm1⟩)
    (cm1 : PySem.W.codeIn K cdm1 "Statements.begins" = true)
    (km1 : PySem.W.keepIn K (.ref fm1) = true)
    (am2 : PySem.W.findIn K (.ref C) "put" = some (some (.ref fm2)))
    (im2 : PySem.W.isFn K (.ref fm2) = true)
    (lm2 : K.lookup fm2 = some ⟨ocm2, odm2, .func (PySem.W.fnOf "put" "Statements.put" (defArgs sPut) (defBody sPut) (defScope sPut) .none kVm2 dcm2 pmm2 anm2 cdm2 ctm2), slm2⟩)
    (cm2 : PySem.W.codeIn K cdm2 "Statements.put" = true)
    (km2 : PySem.W.keepIn K (.ref fm2) = true)
    (am3 : PySem.W.findIn K (.ref C) "are_two" = some (some (.ref fm3)))
    (im3 : PySem.W.isFn K (.ref fm3) = true)
    (lm3 : K.lookup fm3 = some ⟨ocm3, odm3, .func (PySem.W.fnOf "are_two" "Statements.are_two" (defArgs sAreTwo) (defBody sAreTwo) (defScope sAreTwo) .none kVm3 dcm3 pmm3 anm3 cdm3 ctm3), slm3⟩)
    (cm3 : PySem.W.codeIn K cdm3 "Statements.are_two" = true)
    (km3 : PySem.W.keepIn K (.ref fm3) = true)
    (am4 : PySem.W.findIn K (.ref C) "told" = some (some (.ref fm4)))
    (im4 : PySem.W.isFn K (.ref fm4) = true)
    (lm4 : K.lookup fm4 = some ⟨ocm4, odm4, .func (PySem.W.fnOf "told" "Statements.told" (defArgs sTold) (defBody sTold) (defScope sTold) .none kVm4 dcm4 pmm4 anm4 cdm4 ctm4), slm4⟩)
    (cm4 : PySem.W.codeIn K cdm4 "Statements.told" = true)
    (km4 : PySem.W.keepIn K (.ref fm4) = true)
    (am5 : PySem.W.findIn K (.ref C) "drop" = some (some (.ref fm5)))
    (im5 : PySem.W.isFn K (.ref fm5) = true)
    (lm5 : K.lookup fm5 = some ⟨ocm5, odm5, .func (PySem.W.fnOf "drop" "Statements.drop" (defArgs sDrop) (defBody sDrop) (defScope sDrop) .none kVm5 dcm5 pmm5 anm5 cdm5 ctm5), slm5⟩)
    (cm5 : PySem.W.codeIn K cdm5 "Statements.drop" = true)
    (km5 : PySem.W.keepIn K (.ref fm5) = true)
    (am6 : PySem.W.findIn K (.ref C) "left_of_pairs" = some (some (.ref fm6)))
    (im6 : PySem.W.isFn K (.ref fm6) = true)
    (lm6 : K.lookup fm6 = some ⟨ocm6, odm6, .func (PySem.W.fnOf "left_of_pairs" "Statements.left_of_pairs" (defArgs sLeftOfPairs) (defBody sLeftOfPairs) (defScope sLeftOfPairs) .none kVm6 dcm6 pmm6 anm6 cdm6 ctm6), slm6⟩)
    (cm6 : PySem.W.codeIn K cdm6 "Statements.left_of_pairs" = true)
    (km6 : PySem.W.keepIn K (.ref fm6) = true)
    (am7 : PySem.W.findIn K (.ref C) "made_scenarios" = some (some (.ref fm7)))
    (im7 : PySem.W.isFn K (.ref fm7) = true)
    (lm7 : K.lookup fm7 = some ⟨ocm7, odm7, .func (PySem.W.fnOf "made_scenarios" "Statements.made_scenarios" (defArgs sMade) (defBody sMade) (defScope sMade) .none kVm7 dcm7 pmm7 anm7 cdm7 ctm7), slm7⟩)
    (cm7 : PySem.W.codeIn K cdm7 "Statements.made_scenarios" = true)
    (km7 : PySem.W.keepIn K (.ref fm7) = true)
    (am8 : PySem.W.findIn K (.ref C) "scenarios" = some (some (.ref fm8)))
    (im8 : PySem.W.isFn K (.ref fm8) = true)
    (lm8 : K.lookup fm8 = some ⟨ocm8, odm8, .func (PySem.W.fnOf "scenarios" "Statements.scenarios" (defArgs sScenarios) (defBody sScenarios) (defScope sScenarios) .none kVm8 dcm8 pmm8 anm8 cdm8 ctm8), slm8⟩)
    (cm8 : PySem.W.codeIn K cdm8 "Statements.scenarios" = true)
    (km8 : PySem.W.keepIn K (.ref fm8) = true)
    (am9 : PySem.W.findIn K (.ref C) "can" = some (some (.ref fm9)))
    (im9 : PySem.W.isFn K (.ref fm9) = true)
    (lm9 : K.lookup fm9 = some ⟨ocm9, odm9, .func (PySem.W.fnOf "can" "Statements.can" (defArgs sCan) (defBody sCan) (defScope sCan) .none kVm9 dcm9 pmm9 anm9 cdm9 ctm9), slm9⟩)
    (cm9 : PySem.W.codeIn K cdm9 "Statements.can" = true)
    (km9 : PySem.W.keepIn K (.ref fm9) = true)
    (am10 : PySem.W.findIn K (.ref C) "way" = some (some (.ref fm10)))
    (im10 : PySem.W.isFn K (.ref fm10) = true)
    (lm10 : K.lookup fm10 = some ⟨ocm10, odm10, .func (PySem.W.fnOf "way" "Statements.way" (defArgs sWay) (defBody sWay) (defScope sWay) .none kVm10 dcm10 pmm10 anm10 cdm10 ctm10), slm10⟩)
    (cm10 : PySem.W.codeIn K cdm10 "Statements.way" = true)
    (km10 : PySem.W.keepIn K (.ref fm10) = true)
    (am11 : PySem.W.findIn K (.ref C) "picture" = some (some (.ref fm11)))
    (im11 : PySem.W.isFn K (.ref fm11) = true)
    (lm11 : K.lookup fm11 = some ⟨ocm11, odm11, .func (PySem.W.fnOf "picture" "Statements.picture" (defArgs sPicture) (defBody sPicture) (defScope sPicture) .none kVm11 dcm11 pmm11 anm11 cdm11 ctm11), slm11⟩)
    (cm11 : PySem.W.codeIn K cdm11 "Statements.picture" = true)
    (km11 : PySem.W.keepIn K (.ref fm11) = true)
    (am12 : PySem.W.findIn K (.ref C) "relations_of" = some (some (.ref fm12)))
    (im12 : PySem.W.isFn K (.ref fm12) = true)
    (lm12 : K.lookup fm12 = some ⟨ocm12, odm12, .func (PySem.W.fnOf "relations_of" "Statements.relations_of" (defArgs sRelationsOf) (defBody sRelationsOf) (defScope sRelationsOf) .none kVm12 dcm12 pmm12 anm12 cdm12 ctm12), slm12⟩)
    (cm12 : PySem.W.codeIn K cdm12 "Statements.relations_of" = true)
    (km12 : PySem.W.keepIn K (.ref fm12) = true)
    (am13 : PySem.W.findIn K (.ref C) "seen_from" = some (some (.ref fm13)))
    (im13 : PySem.W.isFn K (.ref fm13) = true)
    (lm13 : K.lookup fm13 = some ⟨ocm13, odm13, .func (PySem.W.fnOf "seen_from" "Statements.seen_from" (defArgs sSeenFrom) (defBody sSeenFrom) (defScope sSeenFrom) .none kVm13 dcm13 pmm13 anm13 cdm13 ctm13), slm13⟩)
    (cm13 : PySem.W.codeIn K cdm13 "Statements.seen_from" = true)
    (km13 : PySem.W.keepIn K (.ref fm13) = true)
    (am14 : PySem.W.findIn K (.ref C) "may" = some (some (.ref fm14)))
    (im14 : PySem.W.isFn K (.ref fm14) = true)
    (lm14 : K.lookup fm14 = some ⟨ocm14, odm14, .func (PySem.W.fnOf "may" "Statements.may" (defArgs sMay) (defBody sMay) (defScope sMay) .none kVm14 dcm14 pmm14 anm14 cdm14 ctm14), slm14⟩)
    (cm14 : PySem.W.codeIn K cdm14 "Statements.may" = true)
    (km14 : PySem.W.keepIn K (.ref fm14) = true)
    (am15 : PySem.W.findIn K (.ref C) "told_all" = some (some (.ref fm15)))
    (im15 : PySem.W.isFn K (.ref fm15) = true)
    (lm15 : K.lookup fm15 = some ⟨ocm15, odm15, .func (PySem.W.fnOf "told_all" "Statements.told_all" (defArgs sToldAll) (defBody sToldAll) (defScope sToldAll) .none kVm15 dcm15 pmm15 anm15 cdm15 ctm15), slm15⟩)
    (cm15 : PySem.W.codeIn K cdm15 "Statements.told_all" = true)
    (km15 : PySem.W.keepIn K (.ref fm15) = true)
    (am16 : PySem.W.findIn K (.ref C) "count" = some (some (.ref fm16)))
    (im16 : PySem.W.isFn K (.ref fm16) = true)
    (lm16 : K.lookup fm16 = some ⟨ocm16, odm16, .func (PySem.W.fnOf "count" "Statements.count" (defArgs sCount) (defBody sCount) (defScope sCount) .none kVm16 dcm16 pmm16 anm16 cdm16 ctm16), slm16⟩)
    (cm16 : PySem.W.codeIn K cdm16 "Statements.count" = true)
    (km16 : PySem.W.keepIn K (.ref fm16) = true)
    (am17 : PySem.W.findIn K (.ref C) "left" = some (some (.ref fm17)))
    (im17 : PySem.W.isFn K (.ref fm17) = true)
    (lm17 : K.lookup fm17 = some ⟨ocm17, odm17, .func (PySem.W.fnOf "left" "Statements.left" (defArgs sLeft) (defBody sLeft) (defScope sLeft) .none kVm17 dcm17 pmm17 anm17 cdm17 ctm17), slm17⟩)
    (cm17 : PySem.W.codeIn K cdm17 "Statements.left" = true)
    (km17 : PySem.W.keepIn K (.ref fm17) = true)
    (pg : PySem.W.plainGet K C Str.empty = true)
    (hd : PySem.W.hasDictIn K C = true)
    (po : PySem.W.plainOver K C = true)
    (sa : PySem.W.findIn K (.ref C) "__setattr__" = some (some (.builtin "object.__setattr__")))
    (mk : PySem.W.makesIn K C = true)
    (kc : PySem.W.keepIn K (.ref C) = true)
    (nK : PySem.W.findIn K (.ref C) "kind" = some none)
    (nO : PySem.W.findIn K (.ref C) "objects" = some none)
    (nR : PySem.W.findIn K (.ref C) "rows" = some none)
    (nN : PySem.W.findIn K (.ref C) "known" = some none)
    (zPOINTS : PySem.W.nsIn K mainGlobals "POINTS" = some (some (.int 0 tPOINTS)))
    (zINTERVALS : PySem.W.nsIn K mainGlobals "INTERVALS" = some (some (.int 1 tINTERVALS)))
    (zSETS : PySem.W.nsIn K mainGlobals "SETS" = some (some (.int 2 tSETS)))
    (zPOSITIONS : PySem.W.nsIn K mainGlobals "POSITIONS" = some (some (.int 3 tPOSITIONS)))
    (zAPART : PySem.W.nsIn K mainGlobals "APART" = some (some (.int 0 tAPART)))
    (zCROSSING : PySem.W.nsIn K mainGlobals "CROSSING" = some (some (.int 1 tCROSSING)))
    (zWITHIN : PySem.W.nsIn K mainGlobals "WITHIN" = some (some (.int 2 tWITHIN)))
    (zEQUAL : PySem.W.nsIn K mainGlobals "EQUAL" = some (some (.int 3 tEQUAL)))
    (zAROUND : PySem.W.nsIn K mainGlobals "AROUND" = some (some (.int 4 tAROUND)))
    (zBEFORE : PySem.W.nsIn K mainGlobals "BEFORE" = some (some (.int 0 tBEFORE)))
    (zMEETS : PySem.W.nsIn K mainGlobals "MEETS" = some (some (.int 1 tMEETS)))
    (zMET : PySem.W.nsIn K mainGlobals "MET" = some (some (.int 11 tMET)))
    (zAFTER : PySem.W.nsIn K mainGlobals "AFTER" = some (some (.int 12 tAFTER)))
    (zNOT_VALID : PySem.W.nsIn K mainGlobals "NOT_VALID" = some (some (.int (-1) tNOT_VALID)))
    (zNO_STATEMENT : PySem.W.nsIn K mainGlobals "NO_STATEMENT" = some (some (.int (-2) tNO_STATEMENT)))
    (zNOT_CONSISTENT : PySem.W.nsIn K mainGlobals "NOT_CONSISTENT" = some (some (.int (-6) tNOT_CONSISTENT)))
    (zTOO_MANY : PySem.W.nsIn K mainGlobals "TOO_MANY" = some (some (.int (-7) tTOO_MANY)))
    (zMOST_KIND : PySem.W.nsIn K mainGlobals "MOST_KIND" = some (some (.int 3 tMOST_KIND)))
    (zMOST_OBJECTS : PySem.W.nsIn K mainGlobals "MOST_OBJECTS" = some (some (.int 4 tMOST_OBJECTS)))
    (zMOST_STATEMENTS : PySem.W.nsIn K mainGlobals "MOST_STATEMENTS" = some (some (.int 10 tMOST_STATEMENTS)))
    (zBEGINS : PySem.W.nsIn K mainGlobals "BEGINS" = some (some (.int 0 tBEGINS)))
    (zTOLD : PySem.W.nsIn K mainGlobals "TOLD" = some (some (.int 1 tTOLD)))
    (zDROP : PySem.W.nsIn K mainGlobals "DROP" = some (some (.int 2 tDROP)))
    (zCAN : PySem.W.nsIn K mainGlobals "CAN" = some (some (.int 3 tCAN)))
    (zWAY : PySem.W.nsIn K mainGlobals "WAY" = some (some (.int 4 tWAY)))
    (zPICTURE : PySem.W.nsIn K mainGlobals "PICTURE" = some (some (.int 5 tPICTURE)))
    (zMAY : PySem.W.nsIn K mainGlobals "MAY" = some (some (.int 6 tMAY)))
    (zALL : PySem.W.nsIn K mainGlobals "ALL" = some (some (.int 7 tALL)))
    (zCOUNT : PySem.W.nsIn K mainGlobals "COUNT" = some (some (.int 8 tCOUNT)))
    (zMANY : PySem.W.nsIn K mainGlobals "MANY" = some (some (.ref pMANY)))
    (uMANY : K.lookup pMANY = some ⟨.type "tuple", dMANY, .seq #[.int 3 tMANY0, .int 13 tMANY1, .int 5 tMANY2, .int 9 tMANY3] nMANY, sMANY⟩)
    (zINVERSES_OF_SETS : PySem.W.nsIn K mainGlobals "INVERSES_OF_SETS" = some (some (.ref pINVERSES_OF_SETS)))
    (uINVERSES_OF_SETS : K.lookup pINVERSES_OF_SETS = some ⟨.type "tuple", dINVERSES_OF_SETS, .seq #[.int 0 tINVERSES_OF_SETS0, .int 1 tINVERSES_OF_SETS1, .int 4 tINVERSES_OF_SETS2, .int 3 tINVERSES_OF_SETS3, .int 2 tINVERSES_OF_SETS4] nINVERSES_OF_SETS, sINVERSES_OF_SETS⟩)
    (zNUMBERS : PySem.W.nsIn K mainGlobals "NUMBERS" = some (some (.ref pNUMBERS)))
    (uNUMBERS : K.lookup pNUMBERS = some ⟨.type "tuple", dNUMBERS, .seq #[.int 2 tNUMBERS0, .int 3 tNUMBERS1, .int 1 tNUMBERS2, .int 0 tNUMBERS3, .int 0 tNUMBERS4, .int 0 tNUMBERS5, .int 2 tNUMBERS6, .int 0 tNUMBERS7, .int 0 tNUMBERS8, .int 2 tNUMBERS9] nNUMBERS, sNUMBERS⟩)
    (zOVERLAPPING : PySem.W.nsIn K mainGlobals "OVERLAPPING" = some (some (.ref pOVERLAPPING)))
    (uOVERLAPPING : K.lookup pOVERLAPPING = some ⟨.type "tuple", dOVERLAPPING, .seq #[.ref pOV0, .ref pOV1, .ref pOV2] nOVERLAPPING, sOVERLAPPING⟩)
    (uOV0 : K.lookup pOV0 = some ⟨.type "tuple", dOV0, .seq #[.int 2 tOV00, .int 3 tOV01, .int 4 tOV02] nOV0, sOV0⟩)
    (uOV1 : K.lookup pOV1 = some ⟨.type "tuple", dOV1, .seq #[.int 7 tOV10, .int 6 tOV11, .int 5 tOV12] nOV1, sOV1⟩)
    (uOV2 : K.lookup pOV2 = some ⟨.type "tuple", dOV2, .seq #[.int 8 tOV20, .int 9 tOV21, .int 10 tOV22] nOV2, sOV2⟩)
    (brange : PySem.W.nsIn K mainGlobals "range" = some none)
    (blen : PySem.W.nsIn K mainGlobals "len" = some none)
    (bany : PySem.W.nsIn K mainGlobals "any" = some none)
    (ball : PySem.W.nsIn K mainGlobals "all" = some none)
    (bmax : PySem.W.nsIn K mainGlobals "max" = some none)
    (bmin : PySem.W.nsIn K mainGlobals "min" = some none)
    (bint : PySem.W.nsIn K mainGlobals "int" = some none)
    (blist : PySem.W.nsIn K mainGlobals "list" = some none)
    (btuple : PySem.W.nsIn K mainGlobals "tuple" = some none)
    (benumerate : PySem.W.nsIn K mainGlobals "enumerate" = some none)
    (bzip : PySem.W.nsIn K mainGlobals "zip" = some none)
    (bsorted : PySem.W.nsIn K mainGlobals "sorted" = some none)
    : ∃ fd : FuncData, (∀ (s : Shared) (us : List Value), us.length = (["calls"] : List Str).length → BindsTo s fd ⟨us, []⟩ ((["calls"] : List Str).zip us)) ∧ ∀ base : Heap, K.In base → base.Ns mainGlobals mg → FnOk P w K mg base CX0 12 fa fd ["calls"] (spAnswers K) := by
  have e := hfa.symm.trans (PySem.W.mg_of X G a27)
  cases e
  have T : Txt K mg := {
    POINTS := ⟨_, PySem.W.mg_of X G zPOINTS, _, rfl⟩
    INTERVALS := ⟨_, PySem.W.mg_of X G zINTERVALS, _, rfl⟩
    SETS := ⟨_, PySem.W.mg_of X G zSETS, _, rfl⟩
    POSITIONS := ⟨_, PySem.W.mg_of X G zPOSITIONS, _, rfl⟩
    APART := ⟨_, PySem.W.mg_of X G zAPART, _, rfl⟩
    CROSSING := ⟨_, PySem.W.mg_of X G zCROSSING, _, rfl⟩
    WITHIN := ⟨_, PySem.W.mg_of X G zWITHIN, _, rfl⟩
    EQUAL := ⟨_, PySem.W.mg_of X G zEQUAL, _, rfl⟩
    AROUND := ⟨_, PySem.W.mg_of X G zAROUND, _, rfl⟩
    BEFORE := ⟨_, PySem.W.mg_of X G zBEFORE, _, rfl⟩
    MEETS := ⟨_, PySem.W.mg_of X G zMEETS, _, rfl⟩
    MET := ⟨_, PySem.W.mg_of X G zMET, _, rfl⟩
    AFTER := ⟨_, PySem.W.mg_of X G zAFTER, _, rfl⟩
    NOT_VALID := ⟨_, PySem.W.mg_of X G zNOT_VALID, _, rfl⟩
    NO_STATEMENT := ⟨_, PySem.W.mg_of X G zNO_STATEMENT, _, rfl⟩
    NOT_CONSISTENT := ⟨_, PySem.W.mg_of X G zNOT_CONSISTENT, _, rfl⟩
    TOO_MANY := ⟨_, PySem.W.mg_of X G zTOO_MANY, _, rfl⟩
    MOST_KIND := ⟨_, PySem.W.mg_of X G zMOST_KIND, _, rfl⟩
    MOST_OBJECTS := ⟨_, PySem.W.mg_of X G zMOST_OBJECTS, _, rfl⟩
    MOST_STATEMENTS := ⟨_, PySem.W.mg_of X G zMOST_STATEMENTS, _, rfl⟩
    BEGINS := ⟨_, PySem.W.mg_of X G zBEGINS, _, rfl⟩
    TOLD := ⟨_, PySem.W.mg_of X G zTOLD, _, rfl⟩
    DROP := ⟨_, PySem.W.mg_of X G zDROP, _, rfl⟩
    CAN := ⟨_, PySem.W.mg_of X G zCAN, _, rfl⟩
    WAY := ⟨_, PySem.W.mg_of X G zWAY, _, rfl⟩
    PICTURE := ⟨_, PySem.W.mg_of X G zPICTURE, _, rfl⟩
    MAY := ⟨_, PySem.W.mg_of X G zMAY, _, rfl⟩
    ALL := ⟨_, PySem.W.mg_of X G zALL, _, rfl⟩
    COUNT := ⟨_, PySem.W.mg_of X G zCOUNT, _, rfl⟩
    MANY := ⟨pMANY, ⟨_, PySem.W.mg_of X G zMANY, rfl⟩, sqT_ints uMANY (by show 4 ≤ 1000; decide) (.cons ⟨_, rfl⟩ (.cons ⟨_, rfl⟩ (.cons ⟨_, rfl⟩ (.cons ⟨_, rfl⟩ .nil))))⟩
    INVERSES_OF_SETS := ⟨pINVERSES_OF_SETS, ⟨_, PySem.W.mg_of X G zINVERSES_OF_SETS, rfl⟩, sqT_ints uINVERSES_OF_SETS (by show 5 ≤ 1000; decide) (.cons ⟨_, rfl⟩ (.cons ⟨_, rfl⟩ (.cons ⟨_, rfl⟩ (.cons ⟨_, rfl⟩ (.cons ⟨_, rfl⟩ .nil)))))⟩
    NUMBERS := ⟨pNUMBERS, ⟨_, PySem.W.mg_of X G zNUMBERS, rfl⟩, sqT_ints uNUMBERS (by show 10 ≤ 1000; decide) (.cons ⟨_, rfl⟩ (.cons ⟨_, rfl⟩ (.cons ⟨_, rfl⟩ (.cons ⟨_, rfl⟩ (.cons ⟨_, rfl⟩ (.cons ⟨_, rfl⟩ (.cons ⟨_, rfl⟩ (.cons ⟨_, rfl⟩ (.cons ⟨_, rfl⟩ (.cons ⟨_, rfl⟩ .nil))))))))))⟩
    OVERLAPPING := ⟨pOVERLAPPING, ⟨_, PySem.W.mg_of X G zOVERLAPPING, rfl⟩, fun H => ⟨pOVERLAPPING, [.ref pOV0, .ref pOV1, .ref pOV2], rfl, .inr ⟨_, _, _, uOVERLAPPING, rfl, rfl, (by show 3 ≤ sizeLine; decide), .cons rfl (.cons rfl (.cons rfl .nil))⟩,
      sqT_ints uOV0 (by show 3 ≤ 1000; decide) (.cons ⟨_, rfl⟩ (.cons ⟨_, rfl⟩ (.cons ⟨_, rfl⟩ .nil))) H, sqT_ints uOV1 (by show 3 ≤ 1000; decide) (.cons ⟨_, rfl⟩ (.cons ⟨_, rfl⟩ (.cons ⟨_, rfl⟩ .nil))) H, sqT_ints uOV2 (by show 3 ≤ 1000; decide) (.cons ⟨_, rfl⟩ (.cons ⟨_, rfl⟩ (.cons ⟨_, rfl⟩ .nil))) H, trivial⟩⟩
    b_range := PySem.W.mg_none_of X G brange
    b_len := PySem.W.mg_none_of X G blen
    b_any := PySem.W.mg_none_of X G bany
    b_all := PySem.W.mg_none_of X G ball
    b_max := PySem.W.mg_none_of X G bmax
    b_min := PySem.W.mg_none_of X G bmin
    b_int := PySem.W.mg_none_of X G bint
    b_list := PySem.W.mg_none_of X G blist
    b_tuple := PySem.W.mg_none_of X G btuple
    b_enumerate := PySem.W.mg_none_of X G benumerate
    b_zip := PySem.W.mg_none_of X G bzip
    b_sorted := PySem.W.mg_none_of X G bsorted
  }
  have TC : TxC K C := ⟨⟨pg, hd, po, sa⟩, nK, nO, nR, nN⟩
  have F0 := fun_mk (st := sHas) l0 c0 k0
  have F1 := fun_mk (st := sInverse) l1 c1 k1
  have F2 := fun_mk (st := sEvery) l2 c2 k2
  have F3 := fun_mk (st := sMembers) l3 c3 k3
  have F4 := fun_mk (st := sSetOf) l4 c4 k4
  have F5 := fun_mk (st := sInverseSet) l5 c5 k5
  have F6 := fun_mk (st := sPairNumber) l6 c6 k6
  have F7 := fun_mk (st := sManyPairs) l7 c7 k7
  have F8 := fun_mk (st := sCompared) l8 c8 k8
  have F9 := fun_mk (st := sIntervalRelation) l9 c9 k9
  have F10 := fun_mk (st := sRelationIn) l10 c10 k10
  have F11 := fun_mk (st := sWithNumber) l11 c11 k11
  have F12 := fun_mk (st := sWithInterval) l12 c12 k12
  have F13 := fun_mk (st := sWithObject) l13 c13 k13
  have F14 := fun_mk (st := sRelationsToLast) l14 c14 k14
  have F15 := fun_mk (st := sAreLeft) l15 c15 k15
  have F16 := fun_mk (st := sAllFigures) l16 c16 k16
  have F17 := fun_mk (st := sNumbersOf) l17 c17 k17
  have F18 := fun_mk (st := sExcludes) l18 c18 k18
  have F19 := fun_mk (st := sIsExcluded) l19 c19 k19
  have F20 := fun_mk (st := sCellsOf) l20 c20 k20
  have F21 := fun_mk (st := sRelationBy) l21 c21 k21
  have F22 := fun_mk (st := sCanHold) l22 c22 k22
  have F23 := fun_mk (st := sChoices) l23 c23 k23
  have F24 := fun_mk (st := sAllRelations) l24 c24 k24
  have F25 := fun_mk (st := sPlain) l25 c25 k25
  have F26 := fun_mk (st := sAnswer) l26 c26 k26
  have F27 := fun_mk (st := sAnswers) l27 c27 k27
  have Fm0 := fun_mk (st := sInit) lm0 cm0 km0
  have Fm1 := fun_mk (st := sBegins) lm1 cm1 km1
  have Fm2 := fun_mk (st := sPut) lm2 cm2 km2
  have Fm3 := fun_mk (st := sAreTwo) lm3 cm3 km3
  have Fm4 := fun_mk (st := sTold) lm4 cm4 km4
  have Fm5 := fun_mk (st := sDrop) lm5 cm5 km5
  have Fm6 := fun_mk (st := sLeftOfPairs) lm6 cm6 km6
  have Fm7 := fun_mk (st := sMade) lm7 cm7 km7
  have Fm8 := fun_mk (st := sScenarios) lm8 cm8 km8
  have Fm9 := fun_mk (st := sCan) lm9 cm9 km9
  have Fm10 := fun_mk (st := sWay) lm10 cm10 km10
  have Fm11 := fun_mk (st := sPicture) lm11 cm11 km11
  have Fm12 := fun_mk (st := sRelationsOf) lm12 cm12 km12
  have Fm13 := fun_mk (st := sSeenFrom) lm13 cm13 km13
  have Fm14 := fun_mk (st := sMay) lm14 cm14 km14
  have Fm15 := fun_mk (st := sToldAll) lm15 cm15 km15
  have Fm16 := fun_mk (st := sCount) lm16 cm16 km16
  have Fm17 := fun_mk (st := sLeft) lm17 cm17 km17
  refine ⟨PySem.W.fnOf "answers" "answers" (defArgs sAnswers) (defBody sAnswers) (defScope sAnswers) .none kV27 dc27 pm27 an27 cd27 ct27, fun s us hu => match us, hu with | [_], _ => .of_eq rfl, fun base _ _ => ?_⟩
  have c_has := cal_has (P := P) (w := w) (mg := mg) (base := base) F0 (PySem.W.mg_of X G a0)
  have c_inverse := cal_inverse (P := P) (w := w) (mg := mg) (base := base) T F1 (PySem.W.mg_of X G a1)
  have c_every := cal_every (P := P) (w := w) (mg := mg) (base := base) T F2 (PySem.W.mg_of X G a2)
  have c_members := cal_members T c_has F3 (PySem.W.mg_of X G a3)
  have c_set_of := cal_set_of (P := P) (w := w) (mg := mg) (base := base) T F4 (PySem.W.mg_of X G a4)
  have c_inverse_set := cal_inverse_set T c_inverse c_members c_set_of F5 (PySem.W.mg_of X G a5)
  have c_pair_number := cal_pair_number (P := P) (w := w) (mg := mg) (base := base) F6 (PySem.W.mg_of X G a6)
  have c_many_pairs := cal_many_pairs (P := P) (w := w) (mg := mg) (base := base) F7 (PySem.W.mg_of X G a7)
  have c_compared := cal_compared (P := P) (w := w) (mg := mg) (base := base) T F8 (PySem.W.mg_of X G a8)
  have c_interval_relation := cal_interval_relation T c_compared F9 (PySem.W.mg_of X G a9)
  have c_relation_in := cal_relation_in T c_compared c_interval_relation F10 (PySem.W.mg_of X G a10)
  have c_with_number := cal_with_number (P := P) (w := w) (mg := mg) (base := base) T F11 (PySem.W.mg_of X G a11)
  have c_with_interval := cal_with_interval c_with_number F12 (PySem.W.mg_of X G a12)
  have c_with_object := cal_with_object T c_with_number c_with_interval F13 (PySem.W.mg_of X G a13)
  have c_relations_to_last := cal_relations_to_last T c_relation_in F14 (PySem.W.mg_of X G a14)
  have c_are_left := cal_are_left T c_has F15 (PySem.W.mg_of X G a15)
  have c_all_figures := cal_all_figures T c_with_object c_relations_to_last c_are_left F16 (PySem.W.mg_of X G a16)
  have c_numbers_of := cal_numbers_of (P := P) (w := w) (mg := mg) (base := base) T F17 (PySem.W.mg_of X G a17)
  have c_excludes := cal_excludes (P := P) (w := w) (mg := mg) (base := base) T F18 (PySem.W.mg_of X G a18)
  have c_is_excluded := cal_is_excluded T c_excludes c_pair_number c_has F19 (PySem.W.mg_of X G a19)
  have c_cells_of := cal_cells_of T c_is_excluded F20 (PySem.W.mg_of X G a20)
  have c_relation_by := cal_relation_by T c_has F21 (PySem.W.mg_of X G a21)
  have c_can_hold := cal_can_hold T c_cells_of c_has c_relation_by c_pair_number F22 (PySem.W.mg_of X G a22)
  have c_choices := cal_choices T c_members F23 (PySem.W.mg_of X G a23)
  have c_all_relations := cal_all_relations T c_choices c_can_hold F24 (PySem.W.mg_of X G a24)
  have c_are_two := calm_are_two (P := P) (w := w) (mg := mg) (base := base) TC Fm3 ⟨am3, im3, km3⟩
  have c_seen_from := calm_seen_from TC c_inverse_set Fm13 ⟨am13, im13, km13⟩
  have c_left_of_pairs := calm_left_of_pairs T TC c_every c_many_pairs c_inverse_set c_pair_number Fm6 ⟨am6, im6, km6⟩
  have c_made := calm_made T TC c_left_of_pairs c_all_relations c_cells_of c_all_figures c_numbers_of Fm7 ⟨am7, im7, km7⟩
  have c_scenarios := calm_scenarios T TC c_made Fm8 ⟨am8, im8, km8⟩
  have c_can := calm_can T TC c_scenarios Fm9 ⟨am9, im9, km9⟩
  have c_way := calm_way T TC c_scenarios Fm10 ⟨am10, im10, km10⟩
  have c_picture := calm_picture T TC c_scenarios Fm11 ⟨am11, im11, km11⟩
  have c_relations_of := calm_relations_of T TC c_scenarios c_set_of Fm12 ⟨am12, im12, km12⟩
  have c_may := calm_may T TC c_are_two c_relations_of c_seen_from c_pair_number Fm14 ⟨am14, im14, km14⟩
  have c_left := calm_left T TC c_are_two c_left_of_pairs c_seen_from c_pair_number Fm17 ⟨am17, im17, km17⟩
  have c_told_all := calm_told_all T TC c_scenarios c_relations_of c_many_pairs Fm15 ⟨am15, im15, km15⟩
  have c_count := calm_count T TC c_scenarios Fm16 ⟨am16, im16, km16⟩
  have h_init := init_ok (P := P) (w := w) (mg := mg) (base := base) T TC Fm0
  have c_put := calm_put (P := P) (w := w) (mg := mg) (base := base) TC Fm2 ⟨am2, im2, km2⟩
  have c_begins := calm_begins T TC c_put Fm1 ⟨am1, im1, km1⟩
  have c_told := calm_told T TC c_are_two c_put Fm4 ⟨am4, im4, km4⟩
  have c_drop := calm_drop T TC c_put Fm5 ⟨am5, im5, km5⟩
  have c_plain := cal_plain T TC c_can c_way c_picture c_told_all c_count F25 (PySem.W.mg_of X G a25)
  have c_answer := cal_answer T TC c_plain c_begins c_told c_drop c_may c_left F26 (PySem.W.mg_of X G a26)
  exact answers_ok T TC (PySem.W.mg_of X G aC) ⟨mk, am0, im0, kc⟩ h_init c_answer F27
end RdW
open PySem PySem.W PyProof.Rows
set_option maxRecDepth 100000 in
set_option maxHeartbeats 8000000 in
theorem PySem.Challenge.cw_relationdesk_s01_answers_holds : PySem.Challenge.rw_relationdesk_s01_answers.Holds := by
  w_on; k_headS; (case hw => exact ⟨[.list [.int 3]], by decide +kernel, by decide +kernel⟩)
  k_fillS
  refine L2.walk_specK (r := PySem.Challenge.rw_relationdesk_s01_answers) (k := 12) (CX := L2.CX0) (ps := ["calls"]) (sp := RdW.spAnswers) (by decide +kernel) rfl rfl ⟨rfl, by decide, by decide⟩ (fun w h Y => PySem.W.kIn_of Y) ?F ?S (fun _ _ _ _ z => z)
  case F =>
    intro w mg fa h Y KX G hmg
    refine' RdW.all_mk KX G hmg ?a0 ?l0 ?c0 ?k0 ?a1 ?l1 ?c1 ?k1 ?a2 ?l2 ?c2 ?k2 ?a3 ?l3 ?c3 ?k3 ?a4 ?l4 ?c4 ?k4 ?a5 ?l5 ?c5 ?k5 ?a6 ?l6 ?c6 ?k6 ?a7 ?l7 ?c7 ?k7 ?a8 ?l8 ?c8 ?k8 ?a9 ?l9 ?c9 ?k9 ?a10 ?l10 ?c10 ?k10 ?a11 ?l11 ?c11 ?k11 ?a12 ?l12 ?c12 ?k12 ?a13 ?l13 ?c13 ?k13 ?a14 ?l14 ?c14 ?k14 ?a15 ?l15 ?c15 ?k15 ?a16 ?l16 ?c16 ?k16 ?a17 ?l17 ?c17 ?k17 ?a18 ?l18 ?c18 ?k18 ?a19 ?l19 ?c19 ?k19 ?a20 ?l20 ?c20 ?k20 ?a21 ?l21 ?c21 ?k21 ?a22 ?l22 ?c22 ?k22 ?a23 ?l23 ?c23 ?k23 ?a24 ?l24 ?c24 ?k24 ?a25 ?l25 ?c25 ?k25 ?a26 ?l26 ?c26 ?k26 ?a27 ?l27 ?c27 ?k27 ?aC ?am0 ?im0 ?lm0 ?cm0 ?km0 ?am1 ?im1 ?lm1 ?cm1 ?km1 ?am2 ?im2 ?lm2 ?cm2 ?km2 ?am3 ?im3 ?lm3 ?cm3 ?km3 ?am4 ?im4 ?lm4 ?cm4 ?km4 ?am5 ?im5 ?lm5 ?cm5 ?km5 ?am6 ?im6 ?lm6 ?cm6 ?km6 ?am7 ?im7 ?lm7 ?cm7 ?km7 ?am8 ?im8 ?lm8 ?cm8 ?km8 ?am9 ?im9 ?lm9 ?cm9 ?km9 ?am10 ?im10 ?lm10 ?cm10 ?km10 ?am11 ?im11 ?lm11 ?cm11 ?km11 ?am12 ?im12 ?lm12 ?cm12 ?km12 ?am13 ?im13 ?lm13 ?cm13 ?km13 ?am14 ?im14 ?lm14 ?cm14 ?km14 ?am15 ?im15 ?lm15 ?cm15 ?km15 ?am16 ?im16 ?lm16 ?cm16 ?km16 ?am17 ?im17 ?lm17 ?cm17 ?km17 ?pg ?hd ?po ?sa ?mk ?kc ?nK ?nO ?nR ?nN ?zPOINTS ?zINTERVALS ?zSETS ?zPOSITIONS ?zAPART ?zCROSSING ?zWITHIN ?zEQUAL ?zAROUND ?zBEFORE ?zMEETS ?zMET ?zAFTER ?zNOT_VALID ?zNO_STATEMENT ?zNOT_CONSISTENT ?zTOO_MANY ?zMOST_KIND ?zMOST_OBJECTS ?zMOST_STATEMENTS ?zBEGINS ?zTOLD ?zDROP ?zCAN ?zWAY ?zPICTURE ?zMAY ?zALL ?zCOUNT ?zMANY ?uMANY ?zINVERSES_OF_SETS ?uINVERSES_OF_SETS ?zNUMBERS ?uNUMBERS ?zOVERLAPPING ?uOVERLAPPING ?uOV0 ?uOV1 ?uOV2 ?brange ?blen ?bany ?ball ?bmax ?bmin ?bint ?blist ?btuple ?benumerate ?bzip ?bsorted
    (case a0 => k_is)
    (case l0 => k_is)
    (case c0 => k_is)
    (case k0 => k_is)
    (case a1 => k_is)
    (case l1 => k_is)
    (case c1 => k_is)
    (case k1 => k_is)
    (case a2 => k_is)
    (case l2 => k_is)
    (case c2 => k_is)
    (case k2 => k_is)
    (case a3 => k_is)
    (case l3 => k_is)
    (case c3 => k_is)
    (case k3 => k_is)
    (case a4 => k_is)
    (case l4 => k_is)
    (case c4 => k_is)
    (case k4 => k_is)
    (case a5 => k_is)
    (case l5 => k_is)
    (case c5 => k_is)
    (case k5 => k_is)
    (case a6 => k_is)
    (case l6 => k_is)
    (case c6 => k_is)
    (case k6 => k_is)
    (case a7 => k_is)
    (case l7 => k_is)
    (case c7 => k_is)
    (case k7 => k_is)
    (case a8 => k_is)
    (case l8 => k_is)
    (case c8 => k_is)
    (case k8 => k_is)
    (case a9 => k_is)
    (case l9 => k_is)
    (case c9 => k_is)
    (case k9 => k_is)
    (case a10 => k_is)
    (case l10 => k_is)
    (case c10 => k_is)
    (case k10 => k_is)
    (case a11 => k_is)
    (case l11 => k_is)
    (case c11 => k_is)
    (case k11 => k_is)
    (case a12 => k_is)
    (case l12 => k_is)
    (case c12 => k_is)
    (case k12 => k_is)
    (case a13 => k_is)
    (case l13 => k_is)
    (case c13 => k_is)
    (case k13 => k_is)
    (case a14 => k_is)
    (case l14 => k_is)
    (case c14 => k_is)
    (case k14 => k_is)
    (case a15 => k_is)
    (case l15 => k_is)
    (case c15 => k_is)
    (case k15 => k_is)
    (case a16 => k_is)
    (case l16 => k_is)
    (case c16 => k_is)
    (case k16 => k_is)
    (case a17 => k_is)
    (case l17 => k_is)
    (case c17 => k_is)
    (case k17 => k_is)
    (case a18 => k_is)
    (case l18 => k_is)
    (case c18 => k_is)
    (case k18 => k_is)
    (case a19 => k_is)
    (case l19 => k_is)
    (case c19 => k_is)
    (case k19 => k_is)
    (case a20 => k_is)
    (case l20 => k_is)
    (case c20 => k_is)
    (case k20 => k_is)
    (case a21 => k_is)
    (case l21 => k_is)
    (case c21 => k_is)
    (case k21 => k_is)
    (case a22 => k_is)
    (case l22 => k_is)
    (case c22 => k_is)
    (case k22 => k_is)
    (case a23 => k_is)
    (case l23 => k_is)
    (case c23 => k_is)
    (case k23 => k_is)
    (case a24 => k_is)
    (case l24 => k_is)
    (case c24 => k_is)
    (case k24 => k_is)
    (case a25 => k_is)
    (case l25 => k_is)
    (case c25 => k_is)
    (case k25 => k_is)
    (case a26 => k_is)
    (case l26 => k_is)
    (case c26 => k_is)
    (case k26 => k_is)
    (case a27 => k_is)
    (case l27 => k_is)
    (case c27 => k_is)
    (case k27 => k_is)
    (case aC => k_is)
    (case am0 => k_is)
    (case im0 => k_is)
    (case lm0 => k_is)
    (case cm0 => k_is)
    (case km0 => k_is)
    (case am1 => k_is)
    (case im1 => k_is)
    (case lm1 => k_is)
    (case cm1 => k_is)
    (case km1 => k_is)
    (case am2 => k_is)
    (case im2 => k_is)
    (case lm2 => k_is)
    (case cm2 => k_is)
    (case km2 => k_is)
    (case am3 => k_is)
    (case im3 => k_is)
    (case lm3 => k_is)
    (case cm3 => k_is)
    (case km3 => k_is)
    (case am4 => k_is)
    (case im4 => k_is)
    (case lm4 => k_is)
    (case cm4 => k_is)
    (case km4 => k_is)
    (case am5 => k_is)
    (case im5 => k_is)
    (case lm5 => k_is)
    (case cm5 => k_is)
    (case km5 => k_is)
    (case am6 => k_is)
    (case im6 => k_is)
    (case lm6 => k_is)
    (case cm6 => k_is)
    (case km6 => k_is)
    (case am7 => k_is)
    (case im7 => k_is)
    (case lm7 => k_is)
    (case cm7 => k_is)
    (case km7 => k_is)
    (case am8 => k_is)
    (case im8 => k_is)
    (case lm8 => k_is)
    (case cm8 => k_is)
    (case km8 => k_is)
    (case am9 => k_is)
    (case im9 => k_is)
    (case lm9 => k_is)
    (case cm9 => k_is)
    (case km9 => k_is)
    (case am10 => k_is)
    (case im10 => k_is)
    (case lm10 => k_is)
    (case cm10 => k_is)
    (case km10 => k_is)
    (case am11 => k_is)
    (case im11 => k_is)
    (case lm11 => k_is)
    (case cm11 => k_is)
    (case km11 => k_is)
    (case am12 => k_is)
    (case im12 => k_is)
    (case lm12 => k_is)
    (case cm12 => k_is)
    (case km12 => k_is)
    (case am13 => k_is)
    (case im13 => k_is)
    (case lm13 => k_is)
    (case cm13 => k_is)
    (case km13 => k_is)
    (case am14 => k_is)
    (case im14 => k_is)
    (case lm14 => k_is)
    (case cm14 => k_is)
    (case km14 => k_is)
    (case am15 => k_is)
    (case im15 => k_is)
    (case lm15 => k_is)
    (case cm15 => k_is)
    (case km15 => k_is)
    (case am16 => k_is)
    (case im16 => k_is)
    (case lm16 => k_is)
    (case cm16 => k_is)
    (case km16 => k_is)
    (case am17 => k_is)
    (case im17 => k_is)
    (case lm17 => k_is)
    (case cm17 => k_is)
    (case km17 => k_is)
    (case pg => k_is)
    (case hd => k_is)
    (case po => k_is)
    (case sa => k_is)
    (case mk => k_is)
    (case kc => k_is)
    (case nK => k_is)
    (case nO => k_is)
    (case nR => k_is)
    (case nN => k_is)
    (case zPOINTS => k_is)
    (case zINTERVALS => k_is)
    (case zSETS => k_is)
    (case zPOSITIONS => k_is)
    (case zAPART => k_is)
    (case zCROSSING => k_is)
    (case zWITHIN => k_is)
    (case zEQUAL => k_is)
    (case zAROUND => k_is)
    (case zBEFORE => k_is)
    (case zMEETS => k_is)
    (case zMET => k_is)
    (case zAFTER => k_is)
    (case zNOT_VALID => k_is)
    (case zNO_STATEMENT => k_is)
    (case zNOT_CONSISTENT => k_is)
    (case zTOO_MANY => k_is)
    (case zMOST_KIND => k_is)
    (case zMOST_OBJECTS => k_is)
    (case zMOST_STATEMENTS => k_is)
    (case zBEGINS => k_is)
    (case zTOLD => k_is)
    (case zDROP => k_is)
    (case zCAN => k_is)
    (case zWAY => k_is)
    (case zPICTURE => k_is)
    (case zMAY => k_is)
    (case zALL => k_is)
    (case zCOUNT => k_is)
    (case zMANY => k_is)
    (case uMANY => k_is)
    (case zINVERSES_OF_SETS => k_is)
    (case uINVERSES_OF_SETS => k_is)
    (case zNUMBERS => k_is)
    (case uNUMBERS => k_is)
    (case zOVERLAPPING => k_is)
    (case uOVERLAPPING => k_is)
    (case uOV0 => k_is)
    (case uOV1 => k_is)
    (case uOV2 => k_is)
    (case brange => k_is)
    (case blen => k_is)
    (case bany => k_is)
    (case ball => k_is)
    (case bmax => k_is)
    (case bmin => k_is)
    (case bint => k_is)
    (case blist => k_is)
    (case btuple => k_is)
    (case benumerate => k_is)
    (case bzip => k_is)
    (case bsorted => k_is)
  case S =>
    intro K H xs a hO hwi hask hx
    cases hx with
    | cons h1 h2 =>
      cases h2
      cases h1 with
      | lst hs ha =>
        have e := L2.ints_dw a.1 _ ha
        subst e
        have q : ((Codec.inLen 0 240 a.1 && a.1.all (Codec.inInt 0 4294967295)) && true) = true := hwi
        rw [Bool.and_eq_true, Bool.and_eq_true] at q
        have hask : PyQr02.answers_asked a.1 = true := hask
        obtain ⟨l, el, hok, hpl, hlen⟩ := RdW.asked_play q.1.2 hask
        refine ⟨_, l, rfl, ?_, hok, Nat.le_trans hlen (by decide), fun H' p hp => ?_⟩
        · have e2 : (l.map fun (n : Nat) => L2.V.int (n : Int)) = a.1.map L2.V.int := by
            rw [el, List.map_map]
            rfl
          rw [e2]
          exact hs
        · rw [hpl] at hp
          exact .lst (L2.SqL.of hp) (L2.dw_ints _)
#print axioms PySem.Challenge.cw_relationdesk_s01_answers_holds


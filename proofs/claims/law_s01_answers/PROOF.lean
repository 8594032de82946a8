import PyProof.Rows.All
import Wide.All
import OpenK.AllK
import Wide.FinOn
import PyProof.EqAt
import PyProof.EqKinds
import PyProof.TupleCall
import Open.SpecLaws
import KE.OsGo
import PySem.Challenge.RW_stillfirst_s01_answers
import HandS.ForSpec
import HandS.Comp
import HandS.Iter
import HandS.SetFor
import HandS.Zip
import KE.BitLaws
set_option Elab.async false
set_option linter.all false
set_option maxRecDepth 100000
set_option maxHeartbeats 4000000
namespace Mth
open Sj10
/-! ### orientations: the set that stands in the way -/
/-- edges with both ends in a set -/
def inner (es : List (Nat × Nat)) (S : Nat → Bool) : Nat := (es.filter fun b => S b.1 && S b.2).length
def indeg (es : List (Nat × Nat)) (o : List Nat) (k : Nat) : Nat := ((es.zip o).filter fun x => winner x.1 x.2 == k).length
def own (es : List (Nat × Nat)) (i : Nat) : Nat := (es.filter fun b => b.1 == i || b.2 == i).length
def csum (c : Nat → Int) (S : Nat → Bool) : Nat → Int
  | 0 => 0
  | n + 1 => csum c S n + (if S n then c n else 0)
def b2 (b : Bool) : Nat := if b then 1 else 0
theorem inner_cons (e : Nat × Nat) (es : List (Nat × Nat)) (S : Nat → Bool) : inner (e :: es) S = inner es S + b2 (S e.1 && S e.2) := by
  unfold inner b2
  rw [List.filter_cons]
  split <;> simp
theorem indeg_cons (e : Nat × Nat) (es : List (Nat × Nat)) (x : Nat) (o : List Nat) (k : Nat) : indeg (e :: es) (x :: o) k = indeg es o k + b2 (winner e x == k) := by
  unfold indeg b2
  rw [List.zip_cons_cons, List.filter_cons]
  split <;> simp_all
theorem own_cons (e : Nat × Nat) (es : List (Nat × Nat)) (i : Nat) : own (e :: es) i = own es i + b2 (e.1 == i || e.2 == i) := by
  unfold own b2
  rw [List.filter_cons]
  split <;> simp
theorem csum_dec (c : Nat → Int) (S : Nat → Bool) (a : Nat) : ∀ n, csum (fun k => if k = a then c k - 1 else c k) S n = csum c S n - (if a < n ∧ S a = true then 1 else 0)
  | 0 => by simp [csum]
  | n + 1 => by
    rw [csum, csum, csum_dec c S a n]
    by_cases e : n = a
    · subst e
      by_cases h : S n = true
      · simp [h]; omega
      · simp [h]
    · have q : (a < n + 1) ↔ (a < n) := by omega
      rw [if_neg e]
      simp only [q]
      omega
theorem csum_union (c : Nat → Int) (S T : Nat → Bool) : ∀ n, csum c (fun k => S k || T k) n + csum c (fun k => S k && T k) n = csum c S n + csum c T n
  | 0 => by simp [csum]
  | n + 1 => by
    have ih := csum_union c S T n
    simp only [csum]
    by_cases h1 : S n = true <;> by_cases h2 : T n = true <;> simp [h1, h2] <;> omega
theorem inner_union (S T : Nat → Bool) : ∀ es, inner es S + inner es T ≤ inner es (fun k => S k || T k) + inner es (fun k => S k && T k)
  | [] => by simp [inner]
  | e :: es => by
    have ih := inner_union S T es
    simp only [inner_cons]
    cases h1 : S e.1 <;> cases h2 : S e.2 <;> cases h3 : T e.1 <;> cases h4 : T e.2 <;> simp [b2] <;> omega
theorem csum_one (c : Nat → Int) (k : Nat) : ∀ n, csum c (fun j => j == k) n = if k < n then c k else 0
  | 0 => by simp [csum]
  | n + 1 => by
    rw [csum, csum_one c k n]
    by_cases e : n = k
    · subst e; simp
    · have q : (k < n + 1) ↔ (k < n) := by omega
      have e' : (n == k) = false := by simpa using e
      simp [e', q]
/-- Hakimi: where no set is over full, the edges can be turned so that nobody is; i gets all its own -/
theorem orient (i n : Nat) : ∀ (es : List (Nat × Nat)) (c : Nat → Int), (∀ e ∈ es, e.1 < n ∧ e.2 < n ∧ e.1 ≠ e.2) → (∀ S : Nat → Bool, S i = false → (inner es S : Int) ≤ csum c S n) →
    ∃ o : List Nat, o.length = es.length ∧ (∀ x ∈ o, x < 2) ∧ (∀ k, k < n → k ≠ i → (indeg es o k : Int) ≤ c k) ∧ indeg es o i = own es i
  | [], c, _, hc => by
    refine ⟨[], rfl, by simp, fun k hk hi => ?_, rfl⟩
    have := hc (fun j => j == k) (by simpa using Ne.symm hi)
    rw [csum_one, if_pos hk] at this
    simpa [inner, indeg] using this
  | (a, b) :: r, c, he, hc => by
    have hr : ∀ e ∈ r, e.1 < n ∧ e.2 < n ∧ e.1 ≠ e.2 := fun e h => he e (List.mem_cons_of_mem _ h)
    obtain ⟨ha, hb, hab⟩ := he (a, b) List.mem_cons_self
    simp only at ha hb hab
    by_cases ai : a = i
    · obtain ⟨o, h1, h2, h3, h4⟩ := orient i n r c hr fun S hS => by
        have := hc S hS
        rw [inner_cons] at this
        simp [ai, hS, b2] at this
        exact this
      refine ⟨1 :: o, by simp [h1], by simpa using h2, fun k hk hi => ?_, ?_⟩
      · rw [indeg_cons]
        have e : (winner (a, b) 1 == k) = false := by simp [winner, ai, Ne.symm hi]
        rw [e]
        have := h3 k hk hi
        simpa [b2] using this
      · rw [indeg_cons, own_cons, h4]
        simp [winner, ai, b2]
    · by_cases bi : b = i
      · obtain ⟨o, h1, h2, h3, h4⟩ := orient i n r c hr fun S hS => by
          have := hc S hS
          rw [inner_cons] at this
          simp [bi, hS, b2] at this
          exact this
        refine ⟨0 :: o, by simp [h1], by simpa using h2, fun k hk hi => ?_, ?_⟩
        · rw [indeg_cons]
          have e : (winner (a, b) 0 == k) = false := by simp [winner, bi, Ne.symm hi]
          rw [e]
          have := h3 k hk hi
          simpa [b2] using this
        · rw [indeg_cons, own_cons, h4]
          simp [winner, bi, b2]
      · have no : (a == i || b == i) = false := by simp [ai, bi]
        by_cases hA : ∀ S : Nat → Bool, S i = false → (inner r S : Int) ≤ csum (fun k => if k = a then c k - 1 else c k) S n
        · obtain ⟨o, h1, h2, h3, h4⟩ := orient i n r _ hr hA
          refine ⟨1 :: o, by simp [h1], by simpa using h2, fun k hk hi => ?_, ?_⟩
          · rw [indeg_cons]
            have := h3 k hk hi
            by_cases e : k = a
            · rw [if_pos e] at this
              have w : (winner (a, b) 1 == k) = true := by simp [winner, e]
              rw [w]
              simp [b2]; omega
            · rw [if_neg e] at this
              have w : (winner (a, b) 1 == k) = false := by simp [winner, Ne.symm e]
              rw [w]
              simpa [b2] using this
          · rw [indeg_cons, own_cons, h4, no]
            simp [winner, ai, b2]
        · by_cases hB : ∀ S : Nat → Bool, S i = false → (inner r S : Int) ≤ csum (fun k => if k = b then c k - 1 else c k) S n
          · obtain ⟨o, h1, h2, h3, h4⟩ := orient i n r _ hr hB
            refine ⟨0 :: o, by simp [h1], by simpa using h2, fun k hk hi => ?_, ?_⟩
            · rw [indeg_cons]
              have := h3 k hk hi
              by_cases e : k = b
              · rw [if_pos e] at this
                have w : (winner (a, b) 0 == k) = true := by simp [winner, e]
                rw [w]
                simp [b2]; omega
              · rw [if_neg e] at this
                have w : (winner (a, b) 0 == k) = false := by simp [winner, Ne.symm e]
                rw [w]
                simpa [b2] using this
            · rw [indeg_cons, own_cons, h4, no]
              simp [winner, bi, b2]
          · exfalso
            simp only [Classical.not_forall, Int.not_le] at hA hB
            obtain ⟨S, hSi, hS⟩ := hA
            obtain ⟨T, hTi, hT⟩ := hB
            rw [csum_dec] at hS hT
            have cS := hc S hSi
            have cT := hc T hTi
            have cU := hc (fun k => S k || T k) (by simp [hSi, hTi])
            have cI := hc (fun k => S k && T k) (by simp [hSi, hTi])
            have u1 := csum_union c S T n
            have u2 := inner_union S T r
            rw [inner_cons] at cS cT cU cI
            simp only [ha, hb, true_and] at hS hT
            cases h1 : S a <;> cases h2 : S b <;> cases h3 : T a <;> cases h4 : T b <;> simp [h1, h2, h3, h4, b2] at * <;> omega
end Mth
namespace Mth
open Sj10
structure WF (s : Standing) : Prop where
  c6 : s.wins.length ≤ 6
  w15 : ∀ w ∈ s.wins, w ≤ 15
  b9 : s.bouts.length ≤ 9
  bs : ∀ b ∈ s.bouts, b.1 < s.wins.length ∧ b.2 < s.wins.length ∧ b.1 ≠ b.2
/-! ### the outcomes -/
def turnR (o : List Nat) : List (List Nat) := [o ++ [0], o ++ [1]]
def rowsP : Nat → List (List Nat)
  | 0 => [[]]
  | n + 1 => (rowsP n).flatMap turnR
theorem flat_cons (z : Nat) : ∀ l : List (List Nat), (l.map fun o => z :: o).flatMap turnR = (l.flatMap turnR).map fun o => z :: o
  | [] => rfl
  | a :: l => by
    rw [List.map_cons, List.flatMap_cons, List.flatMap_cons, List.map_append, flat_cons z l]
    rfl
theorem rows_succ : ∀ n, Sj10.rows (n + 1) = (Sj10.rows n).flatMap turnR
  | 0 => rfl
  | n + 1 => by
    have ih := rows_succ n
    show ((Sj10.rows (n + 1)).map fun l => 0 :: l) ++ ((Sj10.rows (n + 1)).map fun l => 1 :: l) = (((Sj10.rows n).map fun l => 0 :: l) ++ (Sj10.rows n).map fun l => 1 :: l).flatMap turnR
    rw [List.flatMap_append, flat_cons, flat_cons, ← ih]
theorem rowsP_eq : ∀ n, rowsP n = Sj10.rows n
  | 0 => rfl
  | n + 1 => by rw [rowsP, rowsP_eq n, rows_succ]
theorem rows_length : ∀ n, (Sj10.rows n).length = 2 ^ n
  | 0 => rfl
  | n + 1 => by
    simp only [Sj10.rows, List.length_append, List.length_map, rows_length n]
    omega
theorem mem_rows : ∀ {n : Nat} {o : List Nat}, o ∈ Sj10.rows n ↔ o.length = n ∧ ∀ x ∈ o, x < 2
  | 0, o => by
    simp only [Sj10.rows, List.mem_singleton]
    constructor
    · rintro rfl; simp
    · rintro ⟨h, _⟩; exact List.length_eq_zero_iff.mp h
  | n + 1, o => by
    simp only [Sj10.rows, List.mem_append, List.mem_map, mem_rows (n := n)]
    constructor
    · rintro (⟨a, ⟨h1, h2⟩, rfl⟩ | ⟨a, ⟨h1, h2⟩, rfl⟩)
      · exact ⟨by simp [h1], by simpa using h2⟩
      · exact ⟨by simp [h1], by simpa using h2⟩
    · rintro ⟨h1, h2⟩
      match o, h1, h2 with
      | x :: r, h1, h2 =>
        have hr : r.length = n ∧ ∀ x ∈ r, x < 2 := ⟨by simpa using h1, fun y hy => h2 y (List.mem_cons_of_mem _ hy)⟩
        have hx := h2 x List.mem_cons_self
        match x, hx with
        | 0, _ => exact .inl ⟨r, hr, rfl⟩
        | 1, _ => exact .inr ⟨r, hr, rfl⟩
/-! ### ends -/
def endsL (s : Standing) (o : List Nat) : List Nat := (List.range s.count).map fun k => s.ends o k
theorem endsL_length (s : Standing) (o : List Nat) : (endsL s o).length = s.count := by simp [endsL]
theorem endsL_get {s : Standing} {o : List Nat} {k : Nat} (h : k < s.count) : (endsL s o).getD k 0 = s.ends o k := by
  simp [endsL, h]
/-- behind i bouts -/
def endsI (s : Standing) (o : List Nat) (i : Nat) : List Nat := (List.range s.count).map fun k => s.wins.getD k 0 + (((s.bouts.zip o).take i).filter fun x => winner x.1 x.2 == k).length
theorem endsI_length (s : Standing) (o : List Nat) (i : Nat) : (endsI s o i).length = s.count := by simp [endsI]
theorem endsI_zero (s : Standing) (o : List Nat) : endsI s o 0 = s.wins := by
  apply List.ext_getElem
  · simp [endsI, Standing.count]
  · intro k h1 h2
    simp [endsI, h2]
theorem endsI_all (s : Standing) (o : List Nat) {i : Nat} (h : (s.bouts.zip o).length ≤ i) : endsI s o i = endsL s o := by
  unfold endsI endsL Standing.ends
  rw [List.take_of_length_le h]
theorem endsI_step {s : Standing} {o : List Nat} {i : Nat} {b : Nat × Nat} {x : Nat} (hb : s.bouts[i]? = some b) (ho : o[i]? = some x) :
    endsI s o (i + 1) = (endsI s o i).set (winner b x) ((endsI s o i).getD (winner b x) 0 + 1) := by
  have hz : (s.bouts.zip o)[i]? = some (b, x) := by
    rw [List.getElem?_zip_eq_some]
    exact ⟨hb, ho⟩
  have ht : (s.bouts.zip o).take (i + 1) = (s.bouts.zip o).take i ++ [(b, x)] := by
    rw [List.take_add_one, hz]; rfl
  apply List.ext_getElem
  · simp [endsI]
  · intro k h1 h2
    have hk : k < s.count := by simpa [endsI] using h1
    simp only [List.getElem_set]
    by_cases e : winner b x = k
    · subst e
      rw [if_pos rfl]
      simp [endsI, ht, hk, List.filter_append]
      omega
    · rw [if_neg e]
      have e' : (winner b x == k) = false := by simpa using e
      simp [endsI, ht, List.filter_append, e']
/-! ### first, alone -/
def firstL (l : List Nat) (i : Nat) : Bool := l.all fun x => decide (x ≤ l.getD i 0)
def aloneL (l : List Nat) (i : Nat) : Bool := firstL l i && decide (l.count (l.getD i 0) = 1)
theorem first_eq {s : Standing} {o : List Nat} {i : Nat} (h : i < s.count) : s.first o i = firstL (endsL s o) i := by
  unfold firstL
  rw [endsL_get h]
  simp only [endsL, Standing.first, List.all_map]
  rfl
theorem first_of_max {l : List Nat} {i m : Nat} (hi : i < l.length) (hm : m ∈ l) (hle : ∀ x ∈ l, x ≤ m) : decide (l.getD i 0 = m) = firstL l i := by
  have e : l.getD i 0 = l[i] := by simp [hi]
  unfold firstL
  rw [e]
  rw [Bool.eq_iff_iff, decide_eq_true_iff, List.all_eq_true]
  constructor
  · rintro rfl x hx
    exact decide_eq_true (hle x hx)
  · intro h
    have h1 := of_decide_eq_true (h m hm)
    have h2 := hle _ (List.getElem_mem hi)
    omega
/-- one place alone holds the value -/
theorem count_one_iff : ∀ {l : List Nat} {i v : Nat} (hi : i < l.length), l[i] = v → (l.count v = 1 ↔ ∀ k (hk : k < l.length), k ≠ i → l[k] ≠ v)
  | [], i, v, hi, _ => absurd hi (Nat.not_lt_zero _)
  | a :: l, 0, v, _, e => by
    have e : a = v := e
    subst e
    rw [List.count_cons_self]
    constructor
    · intro h k hk hne
      match k, hk, hne with
      | k + 1, hk, _ =>
        have h0 : l.count a = 0 := by omega
        have hn := List.count_eq_zero.mp h0
        simp only [List.getElem_cons_succ]
        intro e
        exact hn (e ▸ List.getElem_mem _)
    · intro h
      have hn : l.count a = 0 := by
        rw [List.count_eq_zero]
        intro hm
        obtain ⟨j, hj, e⟩ := List.getElem_of_mem hm
        exact h (j + 1) (by simpa using hj) (by omega) (by simpa using e)
      omega
  | a :: l, i + 1, v, hi, e => by
    have hi' : i < l.length := by simpa using hi
    have e' : l[i] = v := by simpa using e
    have ih := count_one_iff hi' e'
    by_cases ha : a = v
    · subst ha
      rw [List.count_cons_self]
      constructor
      · intro h
        have h0 : l.count a = 0 := by omega
        exact absurd (e' ▸ List.getElem_mem hi') (List.count_eq_zero.mp h0)
      · intro h
        exact absurd rfl (h 0 (by simp) (by omega))
    · rw [List.count_cons_of_ne ha, ih]
      constructor
      · intro h k hk hne
        match k, hk, hne with
        | 0, _, _ => simpa using ha
        | k + 1, hk, hne => simpa using h k (by simpa using hk) (by omega)
      · intro h k hk hne
        exact h (k + 1) (by simpa using hk) (by omega)
theorem alone_eq {s : Standing} {o : List Nat} {i : Nat} (h : i < s.count) : s.alone o i = aloneL (endsL s o) i := by
  have hl : i < (endsL s o).length := by rw [endsL_length]; exact h
  have g : ∀ k (hk : k < (endsL s o).length), (endsL s o)[k] = s.ends o k := fun k hk => by simp [endsL]
  unfold aloneL
  rw [← first_eq h, endsL_get h]
  rw [Bool.eq_iff_iff, Bool.and_eq_true, decide_eq_true_iff, count_one_iff hl (g i hl)]
  simp only [Standing.alone, Standing.first, List.all_eq_true, List.mem_range, Bool.or_eq_true, decide_eq_true_iff, beq_iff_eq]
  constructor
  · intro q
    refine ⟨fun k hk => ?_, fun k hk hne => ?_⟩
    · rcases q k hk with rfl | z
      · exact Nat.le_refl _
      · exact Nat.le_of_lt z
    · rw [endsL_length] at hk
      rw [g]
      rcases q k hk with z | z
      · exact absurd z hne
      · omega
  · rintro ⟨q1, q2⟩ k hk
    by_cases e : k = i
    · exact .inl e
    · right
      have a := q1 k hk
      have b := q2 k (by rw [endsL_length]; exact hk) e
      rw [g] at b
      omega
theorem alone_first {s : Standing} {o : List Nat} {i : Nat} (h : i < s.count) (q : s.alone o i = true) : s.first o i = true := by
  rw [alone_eq h] at q
  unfold aloneL at q
  rw [first_eq h]
  exact (Bool.and_eq_true _ _ ▸ q).1
/-! ### odds -/
theorem odds_split {α : Type} (f g : α → Bool) : ∀ l : List α, (∀ x ∈ l, g x = true → f x = true) → (l.filter fun x => f x && !g x).length = (l.filter f).length - (l.filter g).length ∧ (l.filter g).length ≤ (l.filter f).length
  | [], _ => by simp
  | a :: l, h => by
    have ih := odds_split f g l fun x hx => h x (List.mem_cons_of_mem _ hx)
    have ha := h a List.mem_cons_self
    simp only [List.filter_cons]
    cases hf : f a <;> cases hg : g a <;> simp_all <;> omega
/-! ### needs -/
theorem own_eq (s : Standing) (o : List Nat) (i : Nat) : s.ends o i = s.wins.getD i 0 + s.own o i := rfl
/-- the wins of those outcomes that fail -/
def fails (s : Standing) (i : Nat) : List Nat := (s.all_.filter fun o => !s.first o i).map fun o => s.own o i
theorem find_range (p : Nat → Bool) (a n : Nat) (hp : ∀ k, p k = true ↔ a ≤ k) : (List.range n).find? p = if a < n then some a else none := by
  by_cases h : a < n
  · rw [if_pos h, List.find?_range_eq_some]
    refine ⟨(hp a).mpr (Nat.le_refl _), List.mem_range.mpr h, fun j hj => ?_⟩
    cases e : p j with
    | false => rfl
    | true => exact absurd ((hp j).mp e) (by omega)
  · rw [if_neg h, List.find?_eq_none]
    intro x hx e
    have := List.mem_range.mp hx
    have := (hp x).mp e
    omega
theorem needs_eq {s : Standing} {i : Nat} {a : Nat} (h1 : ∀ x ∈ fails s i, x < a) (h2 : a = 0 ∨ a - 1 ∈ fails s i) : s.needs i = if a ≤ s.left i then some a else none := by
  unfold Standing.needs
  rw [find_range _ a]
  · by_cases c : a ≤ s.left i
    · rw [if_pos c, if_pos (by omega)]
    · rw [if_neg c, if_neg (by omega)]
  · intro k
    rw [List.all_eq_true]
    constructor
    · intro h
      rcases h2 with h2 | h2
      · omega
      · obtain ⟨o, ho, e⟩ := List.mem_map.mp h2
        obtain ⟨ho1, ho2⟩ := List.mem_filter.mp ho
        have := h o ho1
        rw [Bool.or_eq_true] at this
        rcases this with q | q
        · have := of_decide_eq_true q
          omega
        · rw [q] at ho2; cases ho2
    · intro h o ho
      rw [Bool.or_eq_true]
      cases hf : s.first o i with
      | true => exact .inr rfl
      | false =>
        left
        have := h1 (s.own o i) (List.mem_map.mpr ⟨o, List.mem_filter.mpr ⟨ho, by rw [hf]; rfl⟩, rfl⟩)
        exact decide_eq_true (by omega)
/-! ### who can't be first has a set in the way -/
def bitsOf (S : Nat → Bool) : Nat → Nat
  | 0 => 0
  | n + 1 => bitsOf S n + (if S n then 2 ^ n else 0)
theorem bitsOf_lt (S : Nat → Bool) : ∀ n, bitsOf S n < 2 ^ n
  | 0 => by simp [bitsOf]
  | n + 1 => by
    have := bitsOf_lt S n
    rw [bitsOf]
    split <;> omega
theorem bitsOf_test (S : Nat → Bool) : ∀ n k, k < n → (bitsOf S n).testBit k = S k
  | 0, k, h => absurd h (Nat.not_lt_zero _)
  | n + 1, k, h => by
    have hl := bitsOf_lt S n
    rw [bitsOf]
    by_cases e : k = n
    · subst e
      by_cases c : S k = true
      · rw [if_pos c, Nat.add_comm, Nat.testBit_two_pow_add_eq, Nat.testBit_lt_two_pow hl, c]; rfl
      · rw [if_neg c, Nat.add_zero, Nat.testBit_lt_two_pow hl]; simpa using (Bool.eq_false_iff.mpr c).symm
    · have hk : k < n := by omega
      rw [← bitsOf_test S n k hk]
      by_cases c : S n = true
      · rw [if_pos c, Nat.add_comm, Nat.testBit_two_pow_add_gt hk]
      · rw [if_neg c, Nat.add_zero]
theorem csum_members (s : Standing) (S : Nat → Bool) (t M : Nat) : ∀ n, (∀ k, k < n → t.testBit k = S k) →
    csum (fun k => (M : Int) - (s.wins.getD k 0 : Int)) S n = (((List.range n).filter fun k => t.testBit k).length * M : Nat) - ((((List.range n).filter fun k => t.testBit k).map fun k => s.wins.getD k 0).sum : Nat)
  | 0, _ => by simp [csum]
  | n + 1, h => by
    have ih := csum_members s S t M n fun k hk => h k (by omega)
    have hn := h n (by omega)
    rw [csum, ih, List.range_succ, List.filter_append]
    by_cases c : S n = true
    · rw [if_pos c]
      have e : (List.filter (fun k => t.testBit k) [n]) = [n] := by simp [hn, c]
      rw [e, List.length_append, List.map_append, List.sum_append]
      simp only [List.length_singleton, List.map_cons, List.map_nil, List.sum_cons, List.sum_nil, Nat.add_mul]
      omega
    · rw [if_neg c]
      have e : (List.filter (fun k => t.testBit k) [n]) = [] := by simp [hn, c]
      rw [e]
      simp
theorem why_some {s : Standing} (W : WF s) {i : Nat} (hi : i < s.count) (hc : s.can i = none) : ∃ t, s.why i = some t := by
  cases e : s.why i with
  | some t => exact ⟨t, rfl⟩
  | none =>
    exfalso
    unfold Standing.why at e
    rw [List.find?_eq_none] at e
    obtain ⟨o, h1, h2, h3, h4⟩ := orient i s.count s.bouts (fun k => (s.top i : Int) - (s.wins.getD k 0 : Int)) W.bs fun S hS => by
      have ht := bitsOf_test S s.count
      have q := e (bitsOf S s.count) (List.mem_range.mpr (bitsOf_lt _ _))
      rw [ht i hi, hS] at q
      simp only [Bool.not_false, Bool.true_and, decide_eq_true_eq, Nat.not_lt] at q
      rw [csum_members s S _ (s.top i) s.count ht]
      have ein : (s.bouts.filter fun b => (bitsOf S s.count).testBit b.1 && (bitsOf S s.count).testBit b.2).length = inner s.bouts S := by
        unfold inner
        congr 1
        apply List.filter_congr
        intro b hb
        obtain ⟨b1, b2, _⟩ := W.bs b hb
        rw [ht b.1 b1, ht b.2 b2]
      unfold Standing.share Standing.members at q
      rw [ein] at q
      omega
    unfold Standing.can at hc
    rw [List.find?_eq_none] at hc
    refine hc o (mem_rows.mpr ⟨h1, h2⟩) ?_
    have ei : s.ends o i = s.top i := by
      show s.wins.getD i 0 + indeg s.bouts o i = s.wins.getD i 0 + own s.bouts i
      rw [h4]
    unfold Standing.first
    rw [List.all_eq_true]
    intro k hk
    have hk := List.mem_range.mp hk
    apply decide_eq_true
    rw [ei]
    by_cases c : k = i
    · rw [c, ei]; exact Nat.le_refl _
    · have := h3 k hk c
      show s.wins.getD k 0 + indeg s.bouts o k ≤ s.top i
      omega
end Mth
namespace Mth
open Sj10
/-! ### a call as the program reads it -/
def ofN (l : List Nat) : List Int := l.map fun (n : Nat) => (n : Int)
theorem ofN_toNat : ∀ {l : List Int}, (∀ x ∈ l, 0 ≤ x) → ofN (l.map Int.toNat) = l
  | [], _ => rfl
  | a :: l, h => by
    have ih := ofN_toNat (l := l) fun x hx => h x (List.mem_cons_of_mem _ hx)
    have ha := h a List.mem_cons_self
    show ((a.toNat : Nat) : Int) :: ofN (l.map Int.toNat) = a :: l
    rw [ih]
    congr 1
    omega
inductive Enc : Int → List Int → List (List Int) → Sj10.Call → Prop
  | begins : Enc 0 [] [] .begins
  | wrestler (w : Nat) : Enc 1 [(w : Int)] [] (.wrestler w)
  | bout (i k : Nat) : Enc 2 [(i : Int), (k : Int)] [] (.bout i k)
  | check (o : List Nat) : o.length ≤ 12 → Enc 3 [] [ofN o] (.check o)
  | can (i : Nat) : Enc 4 [(i : Int)] [] (.can i)
  | odds (i : Nat) : Enc 5 [(i : Int)] [] (.odds i)
  | needs (i : Nat) : Enc 6 [(i : Int)] [] (.needs i)
/-- what stands at a call's place: the numbers; then the rows with their lengths; then the rest -/
inductive Lies : Int → List Int → List (List Int) → List Int → List Int → Prop
  | none {p : Int} {ns t : List Int} : Lies p ns [] (p :: ns ++ t) t
  | one {p : Int} {x t : List Int} : Lies p [] [x] (p :: (x.length : Int) :: x ++ t) t
def nums : Int → Nat := fun p => if p = 1 then 1 else if p = 2 then 2 else if p = 4 then 1 else if p = 5 then 1 else if p = 6 then 1 else 0
theorem take_one {x : Int} {r : List Int} : (x :: r).take 1 = [x] := rfl
theorem nat_of {z : Int} {b : Nat} (h : Sj10Neutral.natural z b = true) : ((z.toNat : Nat) : Int) = z := by
  unfold Sj10Neutral.natural at h
  rw [Bool.and_eq_true] at h
  have := of_decide_eq_true h.1
  omega
theorem asked1_head {c : List (List Int)} (h : Sj10Neutral.asked1 c = true) : (∀ z ∈ c.headD [], Sj10Neutral.natural z 32 = true) ∧ (Sj10Neutral.callOf (c.headD [])).isSome = true := by
  unfold Sj10Neutral.asked1 at h
  rw [Bool.and_eq_true, Bool.and_eq_true, List.all_eq_true] at h
  exact h.2
theorem shape_cases {p : Int} {n k : Nat} (h : PySj10.shape p = some (n, k)) : (p = 0 ∧ n = 0 ∧ k = 0) ∨ (p = 1 ∧ n = 1 ∧ k = 0) ∨ (p = 2 ∧ n = 2 ∧ k = 0) ∨ (p = 3 ∧ n = 0 ∧ k = 1) ∨ (p = 4 ∧ n = 1 ∧ k = 0) ∨ (p = 5 ∧ n = 1 ∧ k = 0) ∨ (p = 6 ∧ n = 1 ∧ k = 0) := by
  unfold PySj10.shape at h
  repeat (split at h; · rename_i e; simp only [Option.some.injEq, Prod.mk.injEq] at h; omega)
  cases h
theorem enc_of {p : Int} {r t : List Int} {c : List (List Int)} (h : PyFlat.call PySj10.shape (p :: r) = some (c, t)) (ha : Sj10Neutral.asked1 (PySj10.whole c) = true) :
    ∃ ns ls q, Enc p ns ls q ∧ Lies p ns ls (p :: r) t ∧ Sj10Neutral.callOf ((PySj10.whole c).headD []) = some q := by
  unfold PyFlat.call at h
  simp only at h
  cases es : PySj10.shape p with
  | none => rw [es] at h; cases h
  | some nk =>
    obtain ⟨n, k⟩ := nk
    rw [es] at h
    simp only at h
    by_cases hl : r.length < n
    · rw [if_pos hl] at h; cases h
    rw [if_neg hl] at h
    rcases shape_cases es with ⟨rfl, rfl, rfl⟩ | ⟨rfl, rfl, rfl⟩ | ⟨rfl, rfl, rfl⟩ | ⟨rfl, rfl, rfl⟩ | ⟨rfl, rfl, rfl⟩ | ⟨rfl, rfl, rfl⟩ | ⟨rfl, rfl, rfl⟩
    · simp [PyFlat.rows] at h
      obtain ⟨rfl, rfl⟩ := h
      exact ⟨[], [], _, .begins, .none (ns := []), rfl⟩
    · match r, hl with
      | x :: r, _ =>
        simp [PyFlat.rows] at h
        obtain ⟨rfl, rfl⟩ := h
        have q := (asked1_head ha).1 x (by show x ∈ [1, x]; simp)
        refine ⟨[x], [], _, ?_, .none (ns := [x]), rfl⟩
        have e := Enc.wrestler x.toNat
        rw [nat_of q] at e; exact e
    · match r, hl with
      | [x], hl => simp at hl
      | x :: y :: r, _ =>
        simp [PyFlat.rows] at h
        obtain ⟨rfl, rfl⟩ := h
        have q := (asked1_head ha).1 x (by show x ∈ [2, x, y]; simp)
        have q' := (asked1_head ha).1 y (by show y ∈ [2, x, y]; simp)
        refine ⟨[x, y], [], _, ?_, .none (ns := [x, y]), rfl⟩
        have e := Enc.bout x.toNat y.toNat
        rw [nat_of q, nat_of q'] at e; exact e
    · match r with
      | [] => simp [PyFlat.rows, PyFlat.row] at h
      | m :: r =>
        simp only [PyFlat.rows, PyFlat.row, List.drop_zero, List.take_zero] at h
        by_cases hm : 0 ≤ m ∧ m.toNat ≤ r.length
        · rw [if_pos hm] at h
          simp only [Option.some.injEq, Prod.mk.injEq] at h
          obtain ⟨rfl, rfl⟩ := h
          obtain ⟨a1, a2⟩ := asked1_head ha
          have hd : (PySj10.whole [[3], r.take m.toNat]).headD [] = 3 :: r.take m.toNat := rfl
          rw [hd] at a1 a2 ⊢
          have hlen : (r.take m.toNat).length = m.toNat := by rw [List.length_take]; omega
          by_cases h12 : ((r.take m.toNat).map Int.toNat).length ≤ 12
          · have ec : Sj10Neutral.callOf (3 :: r.take m.toNat) = some (.check ((r.take m.toNat).map Int.toNat)) := by
              show (if ((r.take m.toNat).map Int.toNat).length ≤ 12 then some (Sj10.Call.check ((r.take m.toNat).map Int.toNat)) else none) = _
              rw [if_pos h12]
            refine ⟨[], [r.take m.toNat], _, ?_, ?_, ec⟩
            · have e := Enc.check ((r.take m.toNat).map Int.toNat) h12
              rw [ofN_toNat] at e
              · exact e
              · intro x hx
                have := nat_of (a1 x (List.mem_cons_of_mem _ hx))
                omega
            · have e := Lies.one (p := 3) (x := r.take m.toNat) (t := r.drop m.toNat)
              rw [hlen, List.cons_append, List.cons_append, List.take_append_drop] at e
              have em : ((m.toNat : Nat) : Int) = m := by omega
              rw [em] at e
              exact e
          · have ec : Sj10Neutral.callOf (3 :: r.take m.toNat) = none := by
              show (if ((r.take m.toNat).map Int.toNat).length ≤ 12 then some (Sj10.Call.check ((r.take m.toNat).map Int.toNat)) else none) = _
              rw [if_neg h12]
            rw [ec] at a2; cases a2
        · rw [if_neg hm] at h; cases h
    · match r, hl with
      | x :: r, _ =>
        simp [PyFlat.rows] at h
        obtain ⟨rfl, rfl⟩ := h
        have q := (asked1_head ha).1 x (by show x ∈ [4, x]; simp)
        refine ⟨[x], [], _, ?_, .none (ns := [x]), rfl⟩
        have e := Enc.can x.toNat
        rw [nat_of q] at e; exact e
    · match r, hl with
      | x :: r, _ =>
        simp [PyFlat.rows] at h
        obtain ⟨rfl, rfl⟩ := h
        have q := (asked1_head ha).1 x (by show x ∈ [5, x]; simp)
        refine ⟨[x], [], _, ?_, .none (ns := [x]), rfl⟩
        have e := Enc.odds x.toNat
        rw [nat_of q] at e; exact e
    · match r, hl with
      | x :: r, _ =>
        simp [PyFlat.rows] at h
        obtain ⟨rfl, rfl⟩ := h
        have q := (asked1_head ha).1 x (by show x ∈ [6, x]; simp)
        refine ⟨[x], [], _, ?_, .none (ns := [x]), rfl⟩
        have e := Enc.needs x.toNat
        rw [nat_of q] at e; exact e
/-! ### the whole line -/
def ans (s : Standing) (q : Sj10.Call) : List Int := (Sj10.step s q).2.v :: (Sj10.step s q).2.l
/-- from the standing s the calls that still stand in rest are answered by due -/
def Rest (s : Standing) (rest due : List Int) : Prop := ∃ f cs, PyFlat.calls PySj10.shape f rest = some cs ∧ (∀ c ∈ cs, Sj10Neutral.asked1 (PySj10.whole c) = true) ∧
  PyFlat.told (PyFlat.played Sj10Neutral.step s (cs.map PySj10.whole)) = due
theorem rest_nil {s : Standing} {due : List Int} (h : Rest s [] due) : due = [] := by
  obtain ⟨f, cs, h1, _, h3⟩ := h
  cases f <;> (simp [PyFlat.calls] at h1; subst h1; exact h3.symm)
theorem rest_cons {s : Standing} {p : Int} {r due : List Int} (h : Rest s (p :: r) due) : ∃ ns ls q t due', Enc p ns ls q ∧ Lies p ns ls (p :: r) t ∧ Rest (Sj10.step s q).1 t due' ∧ due = ((ans s q).length : Int) :: ans s q ++ due' := by
  obtain ⟨f, cs, h1, h2, h3⟩ := h
  cases f with
  | zero => simp [PyFlat.calls] at h1
  | succ f =>
    rw [PyFlat.calls] at h1
    cases e : PyFlat.call PySj10.shape (p :: r) with
    | none => rw [e] at h1; cases h1
    | some ct =>
      obtain ⟨c, t⟩ := ct
      rw [e] at h1
      simp only at h1
      cases e2 : PyFlat.calls PySj10.shape f t with
      | none => rw [e2] at h1; cases h1
      | some cs' =>
        rw [e2] at h1
        have h1 := Option.some.inj h1
        subst h1
        obtain ⟨ns, ls, q, a1, a2, a3⟩ := enc_of e (h2 c List.mem_cons_self)
        refine ⟨ns, ls, q, t, PyFlat.told (PyFlat.played Sj10Neutral.step (Sj10.step s q).1 (cs'.map PySj10.whole)), a1, a2, ⟨f, cs', e2, fun c hc => h2 c (List.mem_cons_of_mem _ hc), rfl⟩, ?_⟩
        rw [← h3]
        have es : Sj10Neutral.step s (PySj10.whole c) = ((Sj10.step s q).1, ans s q) := by
          unfold Sj10Neutral.step
          rw [a3]
          rfl
        show PyFlat.told (PyFlat.played Sj10Neutral.step s (PySj10.whole c :: cs'.map PySj10.whole)) = _
        rw [PyFlat.played, es]
        rfl
theorem rest_all {l : List Int} (h : PySj10.answers_asked l = true) : Rest Sj10.init l (PySj10.answers l) ∧ (PySj10.answers l).length ≤ 10000000 := by
  unfold PySj10.answers_asked at h
  cases e : PyFlat.calls PySj10.shape l.length l with
  | none => rw [e] at h; cases h
  | some raw =>
    rw [e] at h
    simp only [Bool.and_eq_true] at h
    obtain ⟨⟨⟨⟨_, _⟩, _⟩, h4⟩, h5⟩ := h
    refine ⟨⟨l.length, raw, e, fun c hc => ?_, ?_⟩, of_decide_eq_true h5⟩
    · unfold Sj10Neutral.asked at h4
      rw [Bool.and_eq_true, List.all_eq_true] at h4
      exact h4.1 _ (List.mem_map.mpr ⟨c, hc, rfl⟩)
    · unfold PySj10.answers PySj10.calls
      rw [e]
      rfl
theorem wf_init : WF Sj10.init := ⟨by decide, by simp [Sj10.init], by decide, by simp [Sj10.init]⟩
theorem wf_step {s : Standing} (W : WF s) (q : Sj10.Call) : WF (Sj10.step s q).1 := by
  cases q with
  | begins => exact wf_init
  | wrestler w =>
    unfold Sj10.step
    simp only
    split
    · exact W
    · split
      · exact W
      · rename_i h1 h2
        have h1 : ¬ 15 < w := h1
        have h2 : ¬ 6 ≤ s.wins.length := h2
        refine ⟨by simp; omega, ?_, W.b9, fun b hb => ?_⟩
        · intro x hx
          rcases List.mem_append.mp hx with z | z
          · exact W.w15 x z
          · have := List.mem_singleton.mp z; omega
        · obtain ⟨a, b, c⟩ := W.bs b hb
          simp only [List.length_append, List.length_singleton]
          exact ⟨by omega, by omega, c⟩
  | bout i k =>
    unfold Sj10.step
    simp only
    split
    · exact W
    · split
      · exact W
      · split
        · exact W
        · rename_i h1 h2 h3
          have h1 : ¬ (s.wins.length ≤ i ∨ s.wins.length ≤ k) := h1
          have h3 : ¬ 9 ≤ s.bouts.length := h3
          refine ⟨W.c6, W.w15, by simp; omega, fun b hb => ?_⟩
          rcases List.mem_append.mp hb with z | z
          · exact W.bs b z
          · have := List.mem_singleton.mp z
            subst this
            exact ⟨by simp only; omega, by simp only; omega, h2⟩
  | check o => unfold Sj10.step; simp only; split <;> exact W
  | can i => unfold Sj10.step; simp only; split <;> exact W
  | odds i => unfold Sj10.step; simp only; split <;> exact W
  | needs i => unfold Sj10.step; simp only; split <;> exact W
end Mth
namespace PySem
namespace RefX
open PySem.W PySem.Calls PyProof.Rows PySem.HandSPX
def iA (p1 p2 : Pos) : Arguments := { posonlyargs := [], args := [{ arg := "self", annotation := none, pos := p1 }, { arg := "number", annotation := none, pos := p2 }], vararg := none, kwonlyargs := [], kw_defaults := [], kwarg := none, defaults := [] }
def iB (q1 q2 q3 q4 : Pos) : List Stmt := [.Assign [.Attribute (.Name "self" q1) "number" q2] (.Name "number" q3) q4]
def iS : Scope := { kind := .function, names := [(PySem.Str.ofString "self", .local), (PySem.Str.ofString "number", .local)], isGenerator := false, isCoroutine := false, more := [] }
structure RefTxt (K : Frag) (mg : Str → Option Value) (C fI : Addr) : Prop where
  gC : mg "Refusal" = some (.ref C)
  cls : ∃ nm q N bs bm sn sub ab col dd k0 k1 k2 k3 k5, K.lookup C = some (excClassObj nm q C N bs bm true sn sub ab col dd k0 k1 k2 k3 k5 "ValueError.__new__") ∧ refsVE bm = true
  sa : findIn K (.ref C) "__setattr__" = some (some (.builtin "object.__setattr__"))
  ga : findIn K (.ref C) "__getattribute__" = some (some (.builtin "BaseException.__getattribute__"))
  gg : findIn K (.ref C) "__getattr__" = some none
  noN : findIn K (.ref C) "number" = some none
  iC : findIn K (.ref C) "__init__" = some (some (.ref fI))
  tC : typeIn K (.ref fI) = some (.type "function")
  kC : keepIn K (.ref C) = true
  exC : subIn K (.ref C) (.type "BaseException") = some true
  tyC : typeIn K (.ref C) = some (.type "type")
  hdC : hasDictIn K C = true
  te : exmOne K (.ref C) (.ref C) = some true
  fn : ∃ (oc : Value) (od : Option Addr) (doc pm : Value) (an : Option Addr) (cdv ct : Value) (osl : Array (Option Value)) (p1 p2 q1 q2 q3 q4 : Pos),
    K.lookup fI = some ⟨oc, od, .func (fnOf "__init__" "Refusal.__init__" (iA p1 p2) (iB q1 q2 q3 q4) iS .none .none doc pm an cdv ct), osl⟩ ∧ codeIn K cdv "Refusal.__init__" = true
theorem one_size (v : Value) : [v].length ≤ sizeLine := by
  rw [sizeLine_eq]
  exact (by decide : 1 ≤ 16777216)
theorem kept_but {K : Frag} {h h' : Heap} {x : Addr} (X : K.In h) (hx : K.lookup x = none) (k : ∀ b o, b ≠ x → h.get? b = some o → h'.get? b = some o) : K.In h' := fun a o e =>
  k a o (fun z => by rw [z, hx] at e; cases e) (X a o e)
theorem ldC {M : Model} {s : Shared} {name : Str} {scope : Scope} {L a : Addr} {cd : Value} {m : Str → Option Value} {x : Str} {pos : Pos} {v : Value} {Q : Value → Shared → Prop} {A : Around} {E : Value → Shared → Prop} (hn : s.heap.Ns L m) (hv : m x = some v) (h : Q v s)
    (hk : scope.kind = .function := by rfl) (hl : (envOfC name scope L a cd).kindOf x = some .local := by rfl) (hd : (x == ("__debug__" : Str)) = false := by decide) :
    wpAny M A (eval (.Name x pos) (envOfC name scope L a cd)) Q E s := wpAny_Name (wpAny_loadName_local hk hl hn hv h) hd
structure InitEnd (h h' : Heap) (x C dx t1 : Addr) (v : Value) : Prop where
  keep : ∀ b o, b ≠ x → h.get? b = some o → h'.get? b = some o
  obj : h'.get? x = some { cls := .ref C, dict := some dx, data := .fields #[.ref t1, .none, .none, .none, .bool false, .none] }
  dbig : h.objs.size ≤ dx
  dne : dx ≠ x
  ns : h'.Ns1 dx (fun y => if y = "number" then some v else none)
structure OwnMade (h h' : Heap) (e C d : Addr) (v : Value) : Prop where
  keep : ∀ b o, h.get? b = some o → h'.get? b = some o
  new : h.objs.size ≤ e
  obj : ∃ oe vs, h'.get? e = some oe ∧ oe.cls = .ref C ∧ oe.dict = some d ∧ oe.data = .fields vs ∧ vs[1]? = some .none
  dbig : h.objs.size ≤ d
  dne : d ≠ e
  ns : h'.Ns1 d (fun y => if y = "number" then some v else none)
section
variable {prog : Program} {w : World} {A : Around} {E : Value → Shared → Prop} {R : Result → Shared → Prop} {s : Shared} {K : Frag} {mg : Str → Option Value} {C fI : Addr}
theorem ref_init (T : RefTxt K mg C fI) {x t0 : Addr} {v : Value} (X : K.In s.heap) (hlim : s.heap.NoLimit) (hx : s.heap.get? x = some (excO C t0)) (hnx : K.lookup x = none) (hroom : A.depth < recursionLimit)
    (hq : ∀ h' tk dx, InitEnd s.heap h' x C dx t0 v → R (.ok (.ret .none)) { s with heap := h', toks := tk }) :
    codeAny (model prog w) A (.call (.ref fI) ⟨[.ref x, v], []⟩) R s := by
  obtain ⟨oc, od, doc, pm, an, cdv, ct, osl, p1, p2, q1, q2, q3, q4, ho, hcd⟩ := T.fn
  obtain ⟨nm, q, N, bs, bm, sn, sub, ab, col, dd, k0, k1, k2, k3, k5, hC, hbm⟩ := T.cls
  have hcl : clsIn K C = some { name := nm, bases := bs, mro := .ref C :: bm, ns := N, qualname := q, hasDict := true, slotNames := sn, subclasses := sub, abstract := ab, collection := col, hasDel := false } := by unfold clsIn; rw [hC] <;> rfl
  refine Att.call_fn (binds := [("self", .ref x), ("number", v)]) X hlim ho hcd hroom (BindsTo.of_eq (by first | rfl | with_unfolding_all rfl)) (by first | rfl | decide | with_unfolding_all rfl) (fun s₁ IC => ?_) rfl rfl rfl
  obtain ⟨h₁, tk₁, rfl⟩ := IC.toInCall.same
  have k : ∀ b o, s.heap.get? b = some o → h₁.get? b = some o := IC.toInCall.keep
  have hn := IC.toInCall.ns
  have hxL : s.heap.objs.size ≠ x := Nat.ne_of_gt (Heap.lt_size hx)
  have X₁ : K.In h₁ := X.keeps k
  have hx₁ := k _ _ hx
  show wpAny _ _ (execs _ _) _ _ _
  refine wpAny_execs_cons (plainObj_wpAny_Assign_Attribute ?_)
  refine ldC (v := v) hn (by first | rfl | with_unfolding_all rfl | kernel_rfl) (ldC (v := .ref x) hn (by first | rfl | with_unfolding_all rfl | kernel_rfl) ?_)
  refine set_plain X₁ (ox := excO C t0) (od := none) ⟨hx₁, rfl, rfl, trivial⟩ T.sa ?_
  refine exc_osa X₁ hx₁ hcl (show refsVE (.ref C :: bm) = true from hbm) rfl T.noN (fun h₃ tk₃ dx k₃ dn dne hx₃ hn₃ => ?_)
  show wpAny _ _ (execs _ _) _ _ _
  have z : s.heap.objs.size < h₁.objs.size := hn.lt
  exact wpAny_execs_nil (hq h₃ tk₃ dx ⟨fun b o hb e => k₃ b o hb (k b o e), hx₃, Nat.le_of_lt (Nat.lt_of_lt_of_le z dn), dne, hn₃⟩)
theorem ref_made (T : RefTxt K mg C fI) {v : Value} (X : K.In s.heap) (hlim : s.heap.NoLimit) (hroom : A.depth + 1 < recursionLimit)
    (hq : ∀ h' tk e d, OwnMade s.heap h' e C d v → R (.ok (.ret (.ref e))) { s with heap := h', toks := tk }) :
    codeAny (model prog w) A (.call (.ref C) ⟨[v], []⟩) R s := by
  obtain ⟨nm, q, N, bs, bm, sn, sub, ab, col, dd, k0, k1, k2, k3, k5, hC, hbm⟩ := T.cls
  obtain ⟨hp, g, dr, tk, os⟩ := s
  have k : ∀ b o, hp.get? b = some o → ((hp.push (kdv_tup [v])).push (excO C hp.objs.size)).get? b = some o := fun b o e => Heap.get?_push_of_some _ (Heap.get?_push_of_some _ e)
  have hget : ((hp.push (kdv_tup [v])).push (excO C hp.objs.size)).get? (hp.objs.size + 1) = some (excO C hp.objs.size) := by heap_get
  have hnx : K.lookup (hp.objs.size + 1) = none := by
    cases e : K.lookup (hp.objs.size + 1) with
    | none => rfl
    | some o =>
      have z : hp.get? (hp.objs.size + 1) = some o := X _ _ e
      exact absurd (Nat.lt_of_succ_lt (Heap.lt_size z)) (Nat.lt_irrefl _)
  refine call_own F.excBase_ValueError (fun X => refsVE_contains X bm hbm) (X _ _ hC) (looks_findIn X T.iC) (fun self => bind_fn X self T.tC) (one_size v) ?_
  refine ref_init (s := ⟨(hp.push (kdv_tup [v])).push (excO C hp.objs.size), g, dr, tk, os⟩) T (X.keeps k) (hlim.keeps k) hget hnx ?_ fun h' tk' dx ⟨k', hx, dn, dne, hns⟩ => ?_
  · show A.depth + 1 < recursionLimit
    exact hroom
  · have old : ∀ b o, hp.get? b = some o → h'.get? b = some o := fun b o e => k' b o (Nat.ne_of_lt (Nat.lt_succ_of_lt (Heap.lt_size e))) (k b o e)
    have z : hp.objs.size + 1 + 1 ≤ dx := by
      first
        | (simpa only [Heap.size_push] using dn)
        | exact dn
        | (have q := dn; rw [Heap.size_push, Heap.size_push] at q; exact q)
    exact ⟨rfl, hq h' tk' (hp.objs.size + 1) dx ⟨old, Nat.le_succ _, ⟨_, _, hx, rfl, rfl, rfl, rfl⟩, Nat.le_trans (Nat.le_trans (Nat.le_succ _) (Nat.le_succ _)) z, dne, hns⟩⟩
end
end RefX
end PySem
namespace L2
open PySem PySem.Spec PyProof.Rows
theorem relO_ref {v : V} {v' : Value} (r : RelV v v') (f : Str) : RelO (List.lookup f [(("number" : Str), v)]) (if f = "number" then some v' else none) := by
  by_cases hw : f = "number"
  · subst hw
    rw [if_pos rfl]
    have q : List.lookup ("number" : Str) [(("number" : Str), v)] = some v := by simp [List.lookup]
    rw [q]
    exact r
  · rw [if_neg hw]
    have qw : (f == ("number" : Str)) = false := by simpa using hw
    have q2 : List.lookup f [(("number" : Str), v)] = none := by simp [List.lookup, qw]
    rw [q2]
    trivial
section
variable {X : Cx} {C fI : Addr}
def tMkRef (C : Addr) (ta : TA) : St → Hp → XK → Prop := fun σ H Q => ta σ H fun vs H1 => ∃ v, vs = [v] ∧ ∀ d, H1 d = none → Q (.ref C) (some d) (upd H1 d (.xd [(("number" : Str), v)]))
theorem pmk_ref {a : Expr} {ta : TA} {p pos : Pos} {k : Nat} (T : PySem.RefX.RefTxt X.K X.mg C fI) (hr : Room k X.A) (ha : PA X [a] ta) (hg : Gl X "Refusal" := by rfl)
    (he : starEach (a :: []) X.env = (false, eval a X.env) :: starEach [] X.env := by rfl) (hpl : (backTo pos (starEach [] X.env)).any (·.1) = false := by rfl) :
    PMk X (.Call (.Name "Refusal" p) [a] [] pos) (tMkRef C ta) := by
  intro pins s σ H Q I h
  refine wpAny_Call_Name_kw (ld_glob I hg T.gC ?_)
  refine PySem.W.callWith_K (h₀ := X.base) I.ok.mod.kin T.kC (thn (ha.run pos pins s σ H _ I h) fun us s1 hh => ?_) he hpl
  obtain ⟨vs, H1, I1, r1, v, ev, q1⟩ := hh
  subst ev
  refine ⟨I1.kIn, ?_⟩
  cases r1 with
  | cons rv rn =>
    rename_i v' us'
    cases rn
    show wpAny _ _ (call (.ref C) [v']) _ _ _
    have hlim := I1.nolimit
    obtain ⟨hp, g, dr, tk, os⟩ := s1
    refine wpAny_call (PySem.RefX.ref_made T I1.kIn hlim (by have := hr.dp; omega) fun h' tk' e d M => ?_)
    show MkP X pins σ Q (.ref e) ⟨h', g, dr, tk', os⟩
    obtain ⟨oe, fv, hoe, hc, hd, hdat, h1⟩ := M.obj
    have hns := M.ns
    obtain ⟨G', g1, g2⟩ := restrict h' fun b => decide (b ≠ e)
    have gk : ∀ b, b ≠ e → G'.get? b = h'.get? b := fun b hb => g1 b (decide_eq_true hb)
    have ge : G'.get? e = none := g2 e (by simp)
    have old : ∀ b o, hp.get? b = some o → G'.get? b = some o := fun b o q => (gk b (Nat.ne_of_lt (Nat.lt_of_lt_of_le (Heap.lt_size q) M.new))).trans (M.keep b o q)
    have ob : ObjOk X.prog X.w (upd H1 d (.xd [(("number" : Str), v)])) G' d (.xd [(("number" : Str), v)]) :=
      ⟨_, hns.at (fun o q => (gk d M.dne).trans q), fun f => relO_ref rv f⟩
    have J : Inv X pins σ (upd H1 d (.xd [(("number" : Str), v)])) ⟨G', g, dr, tk', os⟩ := I1.laid (t' := tk') old M.dbig ob
    refine ⟨e, oe, fv, ⟨G', g, dr, tk', os⟩, _, .ref C, some d, rfl, J, fun b o q => ?_, ge, hoe, ⟨hc, hd⟩, hdat, h1, ?_, rfl, I1.bare, raises_own T.exC T.tyC, q1 d (I1.hok.fresh M.dbig)⟩
    · by_cases hb : b = e
      · have q' : G'.get? b = some o := q
        rw [hb, ge] at q'; cases q'
      · exact (gk b hb).symm.trans q
    · rw [upd_ne (Ne.symm M.dne)]
      exact I1.hok.fresh M.new
def tRaiseRef (C : Addr) (W : WX) (ta : TA) : TS := fun _ σ H => tMkRef C ta σ H fun cls d H' => W cls d σ H'
theorem ps_raiseRef {a : Expr} {ta : TA} {W : WX} {p pos pos2 : Pos} {k : Nat} (hc : X.calm = true) (T : PySem.RefX.RefTxt X.K X.mg C fI) (hr : Room k X.A) (tk : Takes X W) (ha : PA X [a] ta) (hg : Gl X "Refusal" := by rfl)
    (he : starEach (a :: []) X.env = (false, eval a X.env) :: starEach [] X.env := by rfl) (hpl : (backTo pos (starEach [] X.env)).any (·.1) = false := by rfl) :
    PS X (.Raise (some (.Call (.Name "Refusal" p) [a] [] pos)) none pos2) (tRaiseRef C W ta) := ps_raise hc tk (pmk_ref T hr ha hg he hpl)
def tNumRef (C : Addr) (a : Addr) (cls : Value) (d : Option Addr) (te : TE) : TE := fun σ H Q => te σ H fun x H1 => x = .ref a ∧ cls = .ref C ∧ ∃ (dd : Addr) (v : V), d = some dd ∧ H1 dd = some (.xd [(("number" : Str), v)]) ∧ Q v H1
theorem pe_numRef {a : Addr} {oe : Obj} {cls : Value} {d : Option Addr} {pn : List (Addr × Obj)} {e : Expr} {te : TE} {pos : Pos} (T : PySem.RefX.RefTxt X.K X.mg C fI) (hz : Zc cls d oe) (hf : ∃ vs, oe.data = .fields vs) (he : PE (X.suite a ((a, oe) :: pn)) e te)
    (hb : attributeBase e "number" X.env (eval e X.env) = eval e X.env := by rfl) :
    PE (X.suite a ((a, oe) :: pn)) (.Attribute e "number" pos) (tNumRef C a cls d te) := by
  refine ⟨fun pins s σ H Q I h => ?_⟩
  refine attr_of hb (thn (he.run pins s σ H _ I h) fun u s1 hh => ?_)
  obtain ⟨x, H1, I1, rx, ex, ec, dd, v, ed, ea, q⟩ := hh
  subst ex
  obtain rfl : u = Value.ref a := rx
  subst ec
  subst ed
  obtain ⟨ha, _⟩ := I1.pin (a, oe) (List.mem_append_left _ List.mem_cons_self)
  obtain ⟨vs, hd⟩ := hf
  have hx : ObjOk X.prog X.w H1 s1.heap dd (.xd [(("number" : Str), v)]) := I1.hok dd _ ea
  obtain ⟨mA, hns, hr⟩ := hx
  obtain ⟨od, ho, hl⟩ := lookIn_ns hns
  have l : List.lookup ("number" : Str) [(("number" : Str), v)] = some v := by simp [List.lookup]
  obtain ⟨u, hu, ru⟩ := RelO.some_of (v := v) (o := mA "number") (by rw [← l]; exact hr "number")
  have J : PySem.W.InstAt s1.heap a oe C (some od) := ⟨ha, hz.1, by unfold PySem.W.notCls; rw [hd] <;> rfl, by rw [hz.2]; exact ho⟩
  exact HandSPX.exc_get I1.kIn J T.ga T.gg T.exC (PySem.W.findObj_own T.hdC T.noN rfl (by rw [hl, hu])) (handed_of ru) ⟨v, H1, I1.tok _, ru, q⟩
end
end L2

namespace L2
open PySem PySem.Spec PyProof.Rows
theorem if_true_of {c : Bool} {A B : Prop} (hc : c = true) (h : A) : if c = true then A else B := by
  rw [if_pos hc]
  exact h
theorem if_false_of {c : Bool} {A B : Prop} (hc : c = false) (h : B) : if c = true then A else B := by
  rw [hc, if_neg Bool.false_ne_true]
  exact h
end L2
namespace Sf
open PySem PySem.Spec PyProof.Rows L2
open Mth (WF ofN)
open Sj10 (Standing)
/-! ### what stands where in the heap -/
def top (i : Nat) : Stmt := PySem.Challenge.pw_stillfirst_s01_answers.main.body.getD i (.Pass ⟨0, 0, 0, 0⟩)
def nl (l : List Nat) : List V := (ofN l).map V.int
theorem nl_length (l : List Nat) : (nl l).length = l.length := by simp [nl, ofN]
theorem ofN_length (l : List Nat) : (ofN l).length = l.length := by simp [ofN]
theorem nl_get {l : List Nat} {i n : Nat} (h : l[i]? = some n) : (nl l)[i]? = some (.int n) := by simp [nl, ofN, h]
theorem nl_getI {l : List Nat} {i : Nat} {x : V} (h : (nl l)[i]? = some x) : ∃ n : Nat, l[i]? = some n ∧ x = .int n := by
  simp only [nl, ofN, List.map_map, List.getElem?_map, Option.map_eq_some_iff] at h
  obtain ⟨n, h1, h2⟩ := h
  exact ⟨n, h1, h2.symm⟩
theorem nl_append (l r : List Nat) : nl (l ++ r) = nl l ++ nl r := by simp [nl, ofN]
theorem nl_set (l : List Nat) (i n : Nat) : (nl l).set i (.int n) = nl (l.set i n) := by simp [nl, ofN, List.map_set]
theorem getD_of {l : List Nat} {i : Nat} (h : i < l.length) : l[i]? = some (l.getD i 0) := by simp [h]
theorem nl_at {l : List Nat} {i : Nat} (h : i < l.length) : atI (nl l) (i : Int) = some (.int (l.getD i 0 : Nat)) := atI_nat (nl_get (getD_of h))
theorem nl_ix {l : List Nat} {i : Nat} (h : i < l.length) : ixN (nl l).length (i : Int) = some i := by
  unfold ixN
  rw [nl_length, if_pos (by omega), if_pos (by omega)]
  simp
abbrev SqN (K : PySem.W.Frag) (H : Hp) (a : Addr) (l : List Nat) : Prop := SqL K H a (nl l)
/-- the wrestlers' pairs at their places -/
def Tups (H : Hp) (ts : List Addr) (bs : List (Nat × Nat)) : Prop := ts.length = bs.length ∧ ∀ (i : Nat) (t : Addr) (p : Nat × Nat), ts[i]? = some t → bs[i]? = some p → H t = some (.tup [.int p.1, .int p.2])
theorem Tups.same {H H' : Hp} {ts : List Addr} {bs : List (Nat × Nat)} (h : Tups H ts bs) (e : Same H H') : Tups H' ts bs := ⟨h.1, fun i t p a b => e _ _ (h.2 i t p a b)⟩
def stF (w b : Addr) : List (Str × V) := [("wins", .ref w), ("bouts", .ref b)]
structure StAt (C : Addr) (H : Hp) (st w b : Addr) (s : Standing) : Prop where
  ob : ∃ dx, H st = some (.ins C dx (stF w b))
  wi : H w = some (.lst (nl s.wins))
  bo : ∃ ts : List Addr, H b = some (.lst (ts.map V.ref)) ∧ Tups H ts s.bouts
  ne : w ≠ b
theorem StAt.same {C : Addr} {H H' : Hp} {st w b : Addr} {s : Standing} (h : StAt C H st w b s) (e : Same H H') : StAt C H' st w b s := by
  obtain ⟨⟨dx, h1⟩, h2, ⟨ts, h3, h4⟩, h5⟩ := h
  exact ⟨⟨dx, e _ _ h1⟩, e _ _ h2, ⟨ts, e _ _ h3, h4.same e⟩, h5⟩
/-- lists of numbers at their places, in a list at p -/
def Lists (H : Hp) (ts : List Addr) (ls : List (List Nat)) : Prop := ts.length = ls.length ∧ ∀ (i : Nat) (t : Addr) (l : List Nat), ts[i]? = some t → ls[i]? = some l → H t = some (.lst (nl l))
def LL (B H : Hp) (p : Addr) (ls : List (List Nat)) : Prop := ∃ ts : List Addr, H p = some (.lst (ts.map V.ref)) ∧ Lists H ts ls ∧ ∀ t ∈ ts, t ≠ p ∧ B t = none
theorem Lists.same {H H' : Hp} {ts : List Addr} {ls : List (List Nat)} (h : Lists H ts ls) (e : Same H H') : Lists H' ts ls := ⟨h.1, fun i t l a b => e _ _ (h.2 i t l a b)⟩
theorem LL.same {B H H' : Hp} {p : Addr} {ls : List (List Nat)} (h : LL B H p ls) (e : Same H H') : LL B H' p ls := by
  obtain ⟨ts, h1, h2, h3⟩ := h
  exact ⟨ts, e _ _ h1, h2.same e, h3⟩
theorem same_upd {H : Hp} {p : Addr} {o : HO} (h : H p = none) : Same H (upd H p o) := fun b u e => by
  rw [upd_ne (ne_of_none e h)]; exact e
/-- a store at p, which the earlier heap doesn't track -/
theorem Same.over {H H' : Hp} {p : Addr} {o : HO} (e : Same H H') (h : H p = none) : Same H (upd H' p o) := fun b u q => by
  rw [upd_ne (ne_of_none q h)]; exact e _ _ q
/-- a new object comes back; a value comes back -/
def Ret (H : Hp) (o : HO) (Q : VK) : Prop := ∀ (H' : Hp) (p : Addr), Same H H' → H p = none → H' p = some o → Q (.ref p) H'
def RetV (H : Hp) (v : V) (Q : VK) : Prop := ∀ H' : Hp, Same H H' → Q v H'
theorem Ret.same {H H1 : Hp} {o : HO} {Q : VK} (h : Ret H o Q) (e : Same H H1) : Ret H1 o Q := fun H' p e' n q => h H' p (e.trans e') (e.free n) q
theorem RetV.same {H H1 : Hp} {v : V} {Q : VK} (h : RetV H v Q) (e : Same H H1) : RetV H1 v Q := fun H' e' => h H' (e.trans e')
def rAdd : R2 := rI0 fun i j => .int (i + j)
def rSub : R2 := rI0 fun i j => .int (i - j)
def rGt : R2 := rI0 fun i j => .bl (decide (j < i))
/-- what the top has written -/
structure Txt (K : PySem.W.Frag) (mg : Str → Option Value) (CS CD CR fR : Addr) : Prop where
  ref : PySem.RefX.RefTxt K mg CR fR
  clS : Cls K CS
  nW : NoAttr K CS "wins"
  nB : NoAttr K CS "bouts"
  gS : mg "Standing" = some (.ref CS)
  clD : Cls K CD
  nD : NoAttr K CD "standing"
  gD : mg "Desk" = some (.ref CD)
  list : mg "list" = none
  range : mg "range" = none
  zip : mg "zip" = none
  max : mg "max" = none
  len : mg "len" = none
  sum : mg "sum" = none
theorem lk_here {k : Str} {v : V} {r : List (Str × V)} : List.lookup k ((k, v) :: r) = some v := by
  have e : (k == k) = true := beq_self_eq_true k
  simp only [List.lookup, e]
theorem lk_past {k g : Str} {v : V} {r : List (Str × V)} (h : (k == g) = false) : List.lookup k ((g, v) :: r) = List.lookup k r := by
  simp only [List.lookup, h]
theorem stF_w (w b : Addr) : (stF w b).lookup ("wins" : Str) = some (.ref w) := lk_here
theorem stF_b (w b : Addr) : (stF w b).lookup ("bouts" : Str) = some (.ref b) := (lk_past (by decide +kernel)).trans lk_here
section
variable {P : Program} {w : World} {K : PySem.W.Frag} {mg : Str → Option Value} {base : Heap} {CS CD CR fR : Addr}
/-! ### outcomes(many). Slots: many, found, bout, some, outcome -/
def spOut : Sp := fun vs H Q _ => ∃ n : Nat, vs = [.int n] ∧ n ≤ 9 ∧ ∀ (H' : Hp) (p : Addr), Same H H' → H p = none → LL H H' p (Sj10.rows n) → Q (.ref p) H'
abbrev sOut : Stmt := top 2
theorem scOut : FnScope ["many", "found", "bout", "some", "outcome"] ["many"] (defScope sOut) := ⟨rfl, rfl, rfl, by decide +kernel, rfl, by decide +kernel, by decide +kernel⟩
def t_out (K : PySem.W.Frag) : TS :=
  tSeq (tAsg (tLst (tCons (tLst tNil) tNil)) (gName 1))
    (tSeq (tFor (iRng1 (tCons (tVar 0) tNil)) (gName 2)
      (tSeq (tAsg (tLst tNil) (gName 3))
        (tSeq (tFor (iList K (tVar 1)) (gName 4)
          (tDrop (tBM K "list" rExtend (tVar 3) (tCons (tLst (tCons (tOp rCat (tVar 4) (tLst (tCons (tC (.int 0)) tNil))) (tCons (tOp rCat (tVar 4) (tLst (tCons (tC (.int 1)) tNil))) tNil))) tNil))))
        (tAsg (tVar 3) (gName 1)))))
    (tRet (tVar 1)))
theorem le_line {n : Nat} (h : n ≤ 1000000) : n ≤ sizeLine := by rw [sizeLine_eq]; omega
theorem lt_line {n : Nat} (h : n ≤ 1000000) : n < sizeLine := by rw [sizeLine_eq]; omega
theorem ll_nil {B H : Hp} {p : Addr} (h : H p = some (.lst [])) : LL B H p [] := ⟨[], h, ⟨rfl, fun i t l a _ => by simp at a⟩, fun t ht => by cases ht⟩
theorem rowsP_len : ∀ n, (Mth.rowsP n).length = 2 ^ n := fun n => by rw [Mth.rowsP_eq, Mth.rows_length]
theorem small_pow {n : Nat} (h : n ≤ 9) : 2 ^ n ≤ 512 := Nat.le_trans (Nat.pow_le_pow_right (by decide) h) (by decide)
theorem flat_len : ∀ l : List (List Nat), (l.flatMap Mth.turnR).length = 2 * l.length
  | [] => rfl
  | a :: l => by
    rw [List.flatMap_cons, List.length_append, flat_len l, List.length_cons]
    show 2 + 2 * l.length = _
    omega
theorem row_len {n : Nat} {l : List Nat} (h : l ∈ Mth.rowsP n) : l.length = n := by
  rw [Mth.rowsP_eq] at h
  exact (Mth.mem_rows.mp h).1
/-- two lists more -/
theorem ll_two {B H H' : Hp} {p o0 o1 : Addr} {ls : List (List Nat)} {l0 l1 : List Nat} {ts : List Addr} (h2 : Lists H ts ls) (h3 : ∀ t ∈ ts, t ≠ p ∧ B t = none) (e : ∀ b u, b ≠ p → H b = some u → H' b = some u)
    (hp : H' p = some (.lst (ts.map V.ref ++ [.ref o0, .ref o1]))) (h0 : H' o0 = some (.lst (nl l0))) (h1 : H' o1 = some (.lst (nl l1))) (n0 : o0 ≠ p ∧ B o0 = none) (n1 : o1 ≠ p ∧ B o1 = none) : LL B H' p (ls ++ [l0, l1]) := by
  refine ⟨ts ++ [o0, o1], by rw [hp, List.map_append]; rfl, ⟨by simp [h2.1], fun i t l a b => ?_⟩, fun t ht => ?_⟩
  · by_cases c : i < ts.length
    · rw [List.getElem?_append_left c] at a
      rw [List.getElem?_append_left (by rw [← h2.1]; exact c)] at b
      exact e _ _ (h3 t (List.mem_of_getElem? a)).1 (h2.2 i t l a b)
    · rw [List.getElem?_append_right (by omega)] at a
      rw [List.getElem?_append_right (by rw [← h2.1]; omega), ← h2.1] at b
      match i - ts.length, a, b with
      | 0, a, b => cases a; cases b; exact h0
      | 1, a, b => cases a; cases b; exact h1
      | k + 2, a, b => simp at a
  · rcases List.mem_append.mp ht with z | z
    · exact h3 t z
    · rcases List.mem_cons.mp z with rfl | z
      · exact n0
      · have := List.mem_singleton.mp z
        subst this; exact n1
theorem pure_out (vs : List V) (H : Hp) (Q : VK) (E : XK) (h : spOut vs H Q E) : t_out K { nx := fun _ H' => Q .non H', rt := Q } (start ["many", "found", "bout", "some", "outcome"] vs) H := by
  obtain ⟨n, rfl, hn, k⟩ := h
  refine ⟨by decide, fun a ha => ⟨le_line (by simp), fun f hf => ?_⟩⟩
  have hfa : f ≠ a := (ne_of_none upd_same hf).symm
  have hf0 : H f = none := by rw [upd_ne hfa] at hf; exact hf
  refine ⟨_, rfl, n, rfl, by omega, by omega, for_range (lo := 0) (n := (n : Int).toNat) (fun i σ H' => ∃ (f : Addr) (v2 v3 v4 : Option V), σ = [some (.int n), some (.ref f), v2, v3, v4] ∧ Same H H' ∧ H f = none ∧ LL H H' f (Mth.rowsP i))
    ⟨f, none, none, none, rfl, ?_, hf0, ?_⟩ ?_ ?_⟩
  · exact Same.over (same_upd ha) hf0
  · refine ⟨[a], upd_same, ⟨rfl, fun i t l q1 q2 => ?_⟩, fun t ht => ?_⟩
    · match i, q1, q2 with
      | 0, q1, q2 =>
        cases q1; cases q2
        rw [upd_ne hfa.symm, upd_same]; rfl
      | i + 1, q1, q2 => simp at q1
    · have := List.mem_singleton.mp ht
      subst this; exact ⟨hfa.symm, ha⟩
  · rintro i σ H1 hi ⟨f, v2, v3, v4, rfl, s1, hf0, hL⟩
    have hi9 : i < 9 := by omega
    obtain ⟨ts, h1, h2, h3⟩ := hL
    refine ⟨Nat.zero_le _, fun p hp => ?_⟩
    have hlen : ts.length ≤ 512 := by rw [h2.1, rowsP_len]; exact small_pow (by omega)
    refine ⟨_, rfl, f, rfl, ⟨_, .inl (.inl (same_upd hp _ _ h1))⟩, for_list (K := K) (a := f) (xs := ts.map V.ref)
      (fun j σ H' => ∃ v : Option V, σ = [some (.int n), some (.ref f), some (.int (0 + i)), some (.ref p), v] ∧ Same H1 H' ∧ LL H H' p (((Mth.rowsP i).take j).flatMap Mth.turnR))
      ⟨v4, rfl, same_upd hp, ll_nil upd_same⟩ (fun j σ H' _ ⟨_, _, s2, _⟩ => .inl (.inl (s2 _ _ h1))) ?_ ?_⟩
    · rintro j x σ A0 hx ⟨v, rfl, s2, us, e1, e2, e3⟩
      obtain ⟨t, ht, rfl⟩ : ∃ t, ts[j]? = some t ∧ x = V.ref t := by
        rw [List.getElem?_map, Option.map_eq_some_iff] at hx
        obtain ⟨t, a, b⟩ := hx
        exact ⟨t, a, b.symm⟩
      have hj : j < (Mth.rowsP i).length := by rw [← h2.1]; exact (List.getElem?_eq_some_iff.mp ht).1
      have hl : (Mth.rowsP i)[j]? = some (Mth.rowsP i)[j] := List.getElem?_eq_getElem hj
      generalize hll : (Mth.rowsP i)[j] = l at hl
      have hll5 : l.length = i := row_len (List.mem_of_getElem? hl)
      have b0 : A0 t = some (.lst (nl l)) := s2 _ _ (h2.2 j t l ht hl)
      have hus : us.length ≤ 1024 := by
        rw [e2.1, flat_len, List.length_take]
        have := rowsP_len i
        have := small_pow (n := i) (by omega)
        omega
      refine ⟨_, rfl, ⟨.inl ⟨rfl, _, .inl (.inl e1)⟩, _, rfl, le_line (by simp), fun z hz => ?_⟩⟩
      have q1 := same_upd (o := .lst [V.int 0]) hz
      refine ⟨t, z, _, _, rfl, rfl, q1 _ _ b0, upd_same, le_line (by simp [nl_length]; omega), fun o0 ho0 => ?_⟩
      have q2 := same_upd (o := .lst (nl l ++ [V.int 0])) ho0
      refine ⟨_, rfl, le_line (by simp), fun z1 hz1 => ?_⟩
      have q3 := same_upd (o := .lst [V.int 1]) hz1
      refine ⟨t, z1, _, _, rfl, rfl, q3 _ _ (q2 _ _ (q1 _ _ b0)), upd_same, le_line (by simp [nl_length]; omega), fun o1 ho1 => ?_⟩
      have q4 := same_upd (o := .lst (nl l ++ [V.int 1])) ho1
      refine ⟨le_line (by simp), fun d hd => ?_⟩
      have q5 := same_upd (o := .lst [V.ref o0, V.ref o1]) hd
      have q := (((q1.trans q2).trans q3).trans q4).trans q5
      refine ⟨p, d, _, _, rfl, rfl, q _ _ e1, upd_same, le_line (by simp; omega), ?_⟩
      have n0 : o0 ≠ p := (ne_of_none (q1 _ _ e1) ho0).symm
      have n1 : o1 ≠ p := (ne_of_none (q3 _ _ (q2 _ _ (q1 _ _ e1))) ho1).symm
      have m0 : H o0 = none := ((s1.trans s2).trans q1).free ho0
      have m1 : H o1 = none := ((((s1.trans s2).trans q1).trans q2).trans q3).free ho1
      refine ⟨some (.ref t), rfl, Same.over (s2.trans q) hp, ?_⟩
      rw [List.take_add_one, hl, Option.toList_some, List.flatMap_append]
      refine ll_two (l0 := l ++ [0]) (l1 := l ++ [1]) e2 e3 (fun b u hb e => by rw [upd_ne hb]; exact q _ _ e) upd_same ?_ ?_ ⟨n0, m0⟩ ⟨n1, m1⟩
      · rw [upd_ne n0, nl_append]
        exact q5 _ _ (q4 _ _ (q3 _ _ upd_same))
      · rw [upd_ne n1, nl_append]
        exact q5 _ _ upd_same
    · rintro σ A0 ⟨v, rfl, s2, hL⟩
      rw [List.length_map, h2.1, List.take_length] at hL
      exact ⟨_, rfl, p, _, _, _, rfl, s1.trans s2, s1.free hp, hL⟩
  · rintro σ H1 ⟨f, v2, v3, v4, rfl, s1, hf0, hL⟩
    refine ⟨_, rfl, k H1 f s1 hf0 ?_⟩
    rw [Mth.rowsP_eq] at hL
    exact hL
theorem ok_out {f : Addr} {fd : FuncData} (F : Fun K "outcomes" "outcomes" sOut f fd) (T : Txt K mg CS CD CR fR) : FnOk P w K mg base CX0 1 f fd ["many"] spOut := by
  refine F.ok scOut (fun vs H Q E h => ?_) (fun cdv A outer s H vs Q E hr h => ⟨t_out K, ?_, pure_out vs H Q E h⟩)
  · obtain ⟨n, rfl, _⟩ := h
    rfl
  · exact pss_cons (ps_set (i := 1) scOut.nd rfl (Or.inl rfl) (pe_lst (pa_cons (pe_lst pa_nil) pa_nil)))
      (pss_cons (ps_for PassesOwn.never rfl (pi_range1 rfl T.range (pa_cons (pv 0) pa_nil)) (pg_name (i := 2) scOut.nd rfl (Or.inl rfl))
        (pss_cons (ps_set (i := 3) scOut.nd rfl (Or.inl rfl) (pe_lst pa_nil))
          (pss_cons (ps_for PassesOwn.never rfl (pi_list (pv 1)) (pg_name (i := 4) scOut.nd rfl (Or.inl rfl))
            (pss_one (ps_expr (pe_bm PySem.F.plainAttrs_list PySem.F.slot_list_extend PySem.F.type_list_extend mt_extend (pv 3)
              (pa_cons (pe_lst (pa_cons (pe_op op_cat (pv 4) (pe_lst (pa_cons pe_int pa_nil))) (pa_cons (pe_op op_cat (pv 4) (pe_lst (pa_cons pe_int pa_nil))) pa_nil))) pa_nil)))))
          (pss_one (ps_set (i := 1) scOut.nd rfl (Or.inl rfl) (pv 3))))))
      (pss_one (ps_ret (pv 1))))
end
end Sf
namespace Sf
open PySem PySem.Spec PyProof.Rows L2
open Mth (WF ofN)
open Sj10 (Standing)
section
variable {P : Program} {w : World} {K : PySem.W.Frag} {mg : Str → Option Value} {base : Heap} {CS CD CR fR : Addr}
/-! ### Standing.__init__(self) -/
def spSI (CS : Addr) : Sp := fun vs H Q _ => ∃ (x dx : Addr), vs = [.ref x] ∧ H x = some (.ins CS dx []) ∧
  ∀ (H' : Hp) (w b : Addr), StAt CS H' x w b Sj10.init → H w = none → H b = none → (∀ c o, H c = some o → c ≠ x → H' c = some o) → Q .non H'
abbrev sSI : Stmt := inClass (top 1) 0
theorem scSI : FnScope ["self"] ["self"] (defScope sSI) := ⟨rfl, rfl, rfl, by decide +kernel, rfl, by decide +kernel, by decide +kernel⟩
def t_SI (K : PySem.W.Frag) : TS := tSeq (sFld K (tVar 0) (tLst tNil) "wins") (sFld K (tVar 0) (tLst tNil) "bouts")
theorem put_here {f : Str} {v x : V} {r : List (Str × V)} : putF f v ((f, x) :: r) = (f, v) :: r := if_pos rfl
theorem put_past {f g : Str} {v x : V} {r : List (Str × V)} (h : ¬ g = f) : putF f v ((g, x) :: r) = (g, x) :: putF f v r := if_neg h
theorem stF_new (w b : Addr) : putF "bouts" (.ref b) (putF "wins" (.ref w) []) = stF w b := (put_past (by decide +kernel)).trans rfl
theorem pure_SI (T : Txt K mg CS CD CR fR) (vs : List V) (H : Hp) (Q : VK) (E : XK) (h : spSI CS vs H Q E) : t_SI K { nx := fun _ H' => Q .non H', rt := Q } (start ["self"] vs) H := by
  obtain ⟨x, dx, rfl, hx, k⟩ := h
  refine ⟨Nat.zero_le _, fun w hw => ?_⟩
  have wx := (ne_of_none hx hw).symm
  refine ⟨_, rfl, x, CS, dx, [], rfl, same_upd hw _ _ hx, T.clS, T.nW, (by show 0 < 1000; decide), ?_⟩
  refine ⟨Nat.zero_le _, fun b hb => ?_⟩
  have bx : b ≠ x := (ne_of_none upd_same hb).symm
  have hbw : b ≠ w := by
    intro z; subst z
    rw [upd_ne bx, upd_same] at hb; cases hb
  have hb0 : H b = none := by rw [upd_ne bx, upd_ne hbw] at hb; exact hb
  refine ⟨_, rfl, x, CS, dx, _, rfl, same_upd hb _ _ upd_same, T.clS, T.nB, (by show 1 < 1000; decide), ?_⟩
  refine k _ w b ⟨⟨dx, ?_⟩, ?_, ⟨[], ?_, rfl, fun i t p a _ => by simp at a⟩, hbw.symm⟩ hw hb0 fun c o e hc => ?_
  · rw [upd_same, stF_new]
  · rw [upd_ne wx, upd_ne hbw.symm, upd_ne wx, upd_same]; rfl
  · rw [upd_ne bx, upd_same]; rfl
  · rw [upd_ne hc, upd_ne (ne_of_none e hb0), upd_ne hc, upd_ne (ne_of_none e hw)]; exact e
theorem ok_SI {f : Addr} {fd : FuncData} (F : Fun K "__init__" "Standing.__init__" sSI f fd) (T : Txt K mg CS CD CR fR) : FnOk P w K mg base CX0 1 f fd ["self"] (spSI CS) := by
  refine F.ok scSI (fun vs H Q E h => ?_) (fun cdv A outer s H vs Q E hr h => ⟨t_SI K, ?_, pure_SI T vs H Q E h⟩)
  · obtain ⟨x, dx, rfl, _⟩ := h
    rfl
  · exact pss_cons (ps_fld (pv 0) (pe_lst pa_nil) rfl) (pss_one (ps_fld (pv 0) (pe_lst pa_nil) rfl))
/-! ### winner_of(bout, won) -/
def spWo (K : PySem.W.Frag) : Sp := fun vs H Q _ => ∃ (t : Addr) (p : Nat × Nat) (x : Nat), vs = [.ref t, .int x] ∧ x < 2 ∧ H t = some (.tup [.int p.1, .int p.2]) ∧ Q (.int (Sj10.winner p x : Nat)) H
abbrev sWo : Stmt := top 3
theorem scWo : FnScope ["bout", "won"] ["bout", "won"] (defScope sWo) := ⟨rfl, rfl, rfl, by decide +kernel, rfl, by decide +kernel, by decide +kernel⟩
def t_wo (K : PySem.W.Frag) : TS := tRet (tOp (rIxT K) (tVar 0) (tOp rSub (tC (.int 1)) (tVar 1)))
theorem pure_wo (vs : List V) (H : Hp) (Q : VK) (E : XK) (h : spWo K vs H Q E) : t_wo K { nx := fun _ H' => Q .non H', rt := Q } (start ["bout", "won"] vs) H := by
  obtain ⟨t, p, x, rfl, hx, ht, q⟩ := h
  refine ⟨_, rfl, _, rfl, _, _, rfl, rfl, t, _, _, _, rfl, rfl, .inl (.inl ht), ?_, q⟩
  match x, hx with
  | 0, _ => rfl
  | 1, _ => rfl
theorem ok_wo {f : Addr} {fd : FuncData} (F : Fun K "winner_of" "winner_of" sWo f fd) : FnOk P w K mg base CX0 1 f fd ["bout", "won"] (spWo K) := by
  refine F.ok scWo (fun vs H Q E h => ?_) (fun cdv A outer s H vs Q E hr h => ⟨t_wo K, ?_, pure_wo vs H Q E h⟩)
  · obtain ⟨t, p, x, rfl, _⟩ := h
    rfl
  · exact pss_one (ps_ret (pe_ix ix_tup (pv 0) (pe_op op_sub pe_int (pv 1)) (fun _ _ => rfl)))
/-! ### is_first(wins, who) -/
def spFi (K : PySem.W.Frag) : Sp := fun vs H Q _ => ∃ (a : Addr) (l : List Nat) (i : Nat), vs = [.ref a, .int i] ∧ SqN K H a l ∧ i < l.length ∧ Q (.bl (Mth.firstL l i)) H
abbrev sFi : Stmt := top 5
theorem scFi : FnScope ["wins", "who"] ["wins", "who"] (defScope sFi) := ⟨rfl, rfl, rfl, by decide +kernel, rfl, by decide +kernel, by decide +kernel⟩
def t_fi (K : PySem.W.Frag) : TS := tRet (tOp rEq (tOp (rIxL K) (tVar 0) (tVar 1)) (tCB (rMax K) (tCons (tVar 0) tNil)))
theorem pure_fi (vs : List V) (H : Hp) (Q : VK) (E : XK) (h : spFi K vs H Q E) : t_fi K { nx := fun _ H' => Q .non H', rt := Q } (start ["wins", "who"] vs) H := by
  obtain ⟨a, l, i, rfl, hS, hi, q⟩ := h
  refine ⟨_, rfl, _, rfl, a, _, _, _, rfl, rfl, hS, nl_at hi, _, rfl, a, ofN l, rfl, hS, by rw [ofN_length]; omega, fun m hm hle => ⟨rfl, ?_⟩⟩
  obtain ⟨n, hn, rfl⟩ := List.mem_map.mp hm
  have e : decide (V.int (l.getD i 0 : Nat) = V.int ((n : Nat) : Int)) = Mth.firstL l i := by
    rw [← Mth.first_of_max hi hn fun x hx => by
      have := hle (x : Int) (List.mem_map.mpr ⟨x, hx, rfl⟩)
      omega]
    apply decide_eq_decide.mpr
    constructor
    · intro z; injection z with z; omega
    · intro z; rw [z]
  show Q (.bl (decide (V.int (l.getD i 0 : Nat) = V.int ((n : Nat) : Int)))) H
  rw [e]; exact q
theorem ok_fi {f : Addr} {fd : FuncData} (F : Fun K "is_first" "is_first" sFi f fd) (T : Txt K mg CS CD CR fR) : FnOk P w K mg base CX0 1 f fd ["wins", "who"] (spFi K) := by
  refine F.ok scFi (fun vs H Q E h => ?_) (fun cdv A outer s H vs Q E hr h => ⟨t_fi K, ?_, pure_fi vs H Q E h⟩)
  · obtain ⟨a, l, i, rfl, _⟩ := h
    rfl
  · exact pss_one (ps_ret (pe_cmpR op_eq (pe_ix ix_list (pv 0) (pv 1) (fun _ _ => rfl)) (pe_callB (cr_max rfl) (by rfl) T.max (by decide +kernel) (pa_cons (pv 0) pa_nil)) (nomark _)))
/-! ### is_alone(wins, who) -/
theorem count_ofN (n : Nat) : ∀ l : List Nat, (ofN l).count (n : Int) = l.count n
  | [] => rfl
  | a :: l => by
    have ih := count_ofN n l
    show ((a : Int) :: ofN l).count (n : Int) = _
    by_cases e : a = n
    · subst e
      rw [List.count_cons_self, List.count_cons_self, ih]
    · rw [List.count_cons_of_ne e, List.count_cons_of_ne (by omega), ih]
def spAl (K : PySem.W.Frag) : Sp := fun vs H Q _ => ∃ (a : Addr) (l : List Nat) (i : Nat), vs = [.ref a, .int i] ∧ SqN K H a l ∧ i < l.length ∧ Q (.bl (Mth.aloneL l i)) H
abbrev sAl : Stmt := top 6
theorem scAl : FnScope ["wins", "who"] ["wins", "who"] (defScope sAl) := ⟨rfl, rfl, rfl, by decide +kernel, rfl, by decide +kernel, by decide +kernel⟩
def t_al (K : PySem.W.Frag) : TS := tRet (tAndV (tCall (spFi K) [] E0 (tCons (tVar 0) (tCons (tVar 1) tNil))) (tOp rEq (tBM K "list" (rCntI K) (tVar 0) (tCons (tOp (rIxL K) (tVar 0) (tVar 1)) tNil)) (tC (.int 1))))
theorem tyL {H : Hp} {a : Addr} {xs : List V} (h : SqL K H a xs) : tyV K "list" (.ref a) H := .inl ⟨rfl, _, h⟩
theorem pure_al (vs : List V) (H : Hp) (Q : VK) (E : XK) (h : spAl K vs H Q E) : t_al K { nx := fun _ H' => Q .non H', rt := Q } (start ["wins", "who"] vs) H := by
  obtain ⟨a, l, i, rfl, hS, hi, q⟩ := h
  refine ⟨_, rfl, _, rfl, a, l, i, rfl, hS, hi, _, rfl, ?_⟩
  unfold Mth.aloneL at q
  cases hf : Mth.firstL l i with
  | false =>
    refine iteF ?_
    rw [hf] at q
    exact q
  | true =>
    refine iteT ?_
    rw [hf, Bool.true_and] at q
    refine ⟨_, rfl, tyL hS, _, rfl, _, rfl, a, _, _, _, rfl, rfl, hS, nl_at hi, a, ofN l, _, rfl, rfl, hS, rfl, ?_⟩
    rw [count_ofN]
    have e : decide (V.int ((l.count (l.getD i 0) : Nat) : Int) = V.int 1) = decide (l.count (l.getD i 0) = 1) := by
      apply decide_eq_decide.mpr
      constructor
      · intro z; injection z with z; omega
      · intro z; rw [z]; rfl
    rw [e]; exact q
theorem ok_al {f fF : Addr} {fd fdF : FuncData} (F : Fun K "is_alone" "is_alone" sAl f fd) (GF : FnOk P w K mg base CX0 1 fF fdF ["wins", "who"] (spFi K)) (gF : mg "is_first" = some (.ref fF)) (kF : PySem.W.keepIn K (.ref fF) = true) (bF : Binds K fdF ["wins", "who"] []) :
    FnOk P w K mg base CX0 2 f fd ["wins", "who"] (spAl K) := by
  refine F.ok scAl (fun vs H Q E h => ?_) (fun cdv A outer s H vs Q E hr h => ⟨t_al K, ?_, pure_al vs H Q E h⟩)
  · obtain ⟨a, l, i, rfl, _⟩ := h
    rfl
  · exact pss_one (ps_ret (pe_and (pe_call GF hr rfl gF kF bF .nil pass0 (pa_cons (pv 0) (pa_cons (pv 1) pa_nil)))
      (pe_one (pe_cmpR op_eq (pe_bm PySem.F.plainAttrs_list PySem.F.slot_list_count PySem.F.type_list_count mt_lcount (pv 0) (pa_cons (pe_ix ix_list (pv 0) (pv 1) (fun _ _ => rfl)) pa_nil)) pe_int (nomark _)))))
/-! ### own_bouts(standing, who). Slots: standing, who, bout -/
theorem inV_two (a b i : Nat) : inV (.int i) [.int a, .int b] = (a == i || b == i) := by
  show (((a : Int) == (i : Int)) || (((b : Int) == (i : Int)) || false)) = _
  rw [Bool.or_false]
  have e : ∀ x y : Nat, ((x : Int) == (y : Int)) = (x == y) := fun x y => by
    show decide ((x : Int) = (y : Int)) = decide (x = y)
    apply decide_eq_decide.mpr
    omega
  rw [e, e]
def spOb (CS : Addr) : Sp := fun vs H Q _ => ∃ (st w b : Addr) (s : Standing) (i : Nat), vs = [.ref st, .int i] ∧ StAt CS H st w b s ∧ WF s ∧ RetV H (.int (s.left i : Nat)) Q
abbrev sOb : Stmt := top 7
theorem scOb : FnScope ["standing", "who", "bout"] ["standing", "who"] (defScope sOb) := ⟨rfl, rfl, rfl, by decide +kernel, rfl, by decide +kernel, by decide +kernel⟩
abbrev rLen (K : PySem.W.Frag) : List V → Hp → VK → Prop := fun xs H Q => ∃ p ys, xs = [.ref p] ∧ (SqL K H p ys ∨ SqT K H p ys) ∧ Q (.int ys.length) H
def t_ob (K : PySem.W.Frag) : TS := tRet (tCB (rLen K) (tCons (tLc (iList K (tFld K (tVar 0) "bouts")) (gName 2) (tTest (tOp (rIn K false) (tVar 1) (tVar 2))) (tVar 2) [2]) tNil))
/-- the pairs that are kept -/
theorem pair_at {H : Hp} {ts : List Addr} {bs : List (Nat × Nat)} (h : Tups H ts bs) {i : Nat} {x : V} (hx : (ts.map V.ref)[i]? = some x) : ∃ (t : Addr) (p : Nat × Nat), ts[i]? = some t ∧ x = .ref t ∧ bs[i]? = some p ∧ H t = some (.tup [.int p.1, .int p.2]) := by
  rw [List.getElem?_map, Option.map_eq_some_iff] at hx
  obtain ⟨t, a, rfl⟩ := hx
  have hi : i < bs.length := by rw [← h.1]; exact (List.getElem?_eq_some_iff.mp a).1
  have hb : bs[i]? = some bs[i] := List.getElem?_eq_getElem hi
  exact ⟨t, bs[i], a, rfl, hb, h.2 i t _ a hb⟩
theorem filt_more {α : Type} {f : α → Bool} {l : List α} {i : Nat} {x : α} (h : l[i]? = some x) : (l.take (i + 1)).filter f = (l.take i).filter f ++ (if f x = true then [x] else []) := by
  rw [List.take_add_one, h, List.filter_append, Option.toList_some]
  congr 1
  rw [List.filter_cons]
  rfl
theorem pure_ob (T : Txt K mg CS CD CR fR) (vs : List V) (H : Hp) (Q : VK) (E : XK) (h : spOb CS vs H Q E) : t_ob K { nx := fun _ H' => Q .non H', rt := Q } (start ["standing", "who", "bout"] vs) H := by
  obtain ⟨st, w, b, s, i, rfl, ⟨⟨dx, h1⟩, h2, ⟨ts, h3, h4⟩, h5⟩, W, k⟩ := h
  refine ⟨_, rfl, st, CS, dx, _, _, rfl, h1, T.clS, T.nB, stF_b w b, b, rfl, ⟨_, .inl (.inl h3)⟩, fun D hD => ?_⟩
  refine lc_list (K := K) (a := b) (xs := ts.map V.ref) (fun j H' => Same H H' ∧ ∃ acc : List V, H' D = some (.lst acc) ∧ acc.length = ((s.bouts.take j).filter fun b => b.1 == i || b.2 == i).length)
    ⟨same_upd hD, [], upd_same, rfl⟩ (fun j H' _ ⟨s1, _⟩ => .inl (.inl (s1 _ _ h3))) ?_ ?_
  · rintro j x H' hx ⟨s1, acc, hacc, hl⟩
    obtain ⟨t, p, ht, rfl, hp, e⟩ := pair_at h4 hx
    have e' := s1 _ _ e
    refine ⟨rfl, _, rfl, _, rfl, t, _, rfl, .inr (.inl (.inl e')), rfl, rfl, _, rfl, ?_⟩
    have hlen : acc.length ≤ 9 := by
      rw [hl]
      refine Nat.le_trans (List.length_filter_le _ _) ?_
      rw [List.length_take]
      have := W.b9
      omega
    rw [show inV (V.int (i : Int)) [V.int p.1, V.int p.2] = (p.1 == i || p.2 == i) from inV_two p.1 p.2 i]
    have fm := filt_more (f := fun b : Nat × Nat => b.1 == i || b.2 == i) hp
    cases c : (p.1 == i || p.2 == i) with
    | true =>
      refine iteT ⟨_, rfl, acc, hacc, lt_line (by omega), Same.over s1 hD, _, upd_same, ?_⟩
      rw [fm, if_pos c, List.length_append, List.length_append, hl]; rfl
    | false =>
      refine iteF ⟨s1, acc, hacc, ?_⟩
      rw [fm, if_neg (by rw [c]; exact Bool.false_ne_true), List.append_nil, hl]
  · rintro H' ⟨s1, acc, hacc, hl⟩
    rw [List.length_map, h4.1, List.take_length] at hl
    refine ⟨D, acc, rfl, .inl (.inl (.inl hacc)), ?_⟩
    rw [hl]
    exact k H' s1
theorem ok_ob {f : Addr} {fd : FuncData} (F : Fun K "own_bouts" "own_bouts" sOb f fd) (T : Txt K mg CS CD CR fR) : FnOk P w K mg base CX0 1 f fd ["standing", "who"] (spOb CS) := by
  refine F.ok scOb (fun vs H Q E h => ?_) (fun cdv A outer s H vs Q E hr h => ⟨t_ob K, ?_, pure_ob T vs H Q E h⟩)
  · obtain ⟨st, w, b, s, i, rfl, _⟩ := h
    rfl
  · exact pss_one (ps_ret (pe_callB call_len_seq (by rfl) T.len PySem.boot_len (pa_cons
      (pe_lc (own := [("bout", 2)]) (g := gName 2) (tt := tTest (tOp (rIn K false) (tVar 1) (tVar 2))) rfl scOb.nd (pi_list (pe_fld (pv 0) rfl)) (blkOk_by (N := ["standing", "who", "bout"]) (sc := defScope sOb) (by decide +kernel))
        (fun _ _ _ _ _ => pg_name (i := 2) scOb.nd rfl (Or.inl rfl)) (fun _ _ _ _ _ => pts_one (pt_cmpR op_in_seq (pv 1) (pv 2) (by rfl))) (fun _ _ _ _ _ => pv 2)) pa_nil)))
end
end Sf
namespace Sf
open PySem PySem.Spec PyProof.Rows L2
open Mth (WF ofN)
open Sj10 (Standing)
section
variable {P : Program} {w : World} {K : PySem.W.Frag} {mg : Str → Option Value} {base : Heap} {CS CD CR fR : Addr}
/-! ### members(number, many). Slots: number, many, who -/
def spMe : Sp := fun vs H Q _ => ∃ (t n : Nat), vs = [.int t, .int n] ∧ n ≤ 6 ∧ Ret H (.lst (nl ((List.range n).filter fun k => t.testBit k))) Q
abbrev sMe : Stmt := top 10
theorem scMe : FnScope ["number", "many", "who"] ["number", "many"] (defScope sMe) := ⟨rfl, rfl, rfl, by decide +kernel, rfl, by decide +kernel, by decide +kernel⟩
def rShr : R2 := rI (fun _ j => 0 ≤ j) fun i j => .int (i / 2 ^ j.toNat)
def rBAnd : R2 := rI0 fun i j => .int (Builtin.bitAnd i j)
def t_me : TS := tRet (tLc (iRng1 (tCons (tVar 1) tNil)) (gName 2) (tTest (tOp rEq (tOp rBAnd (tOp rShr (tVar 0) (tVar 2)) (tC (.int 1))) (tC (.int 1)))) (tVar 2) [2])
theorem bit_is (t k : Nat) : decide (V.int (Builtin.bitAnd ((t : Int) / 2 ^ ((k : Int)).toNat) 1) = V.int 1) = t.testBit k := by
  rw [PyProof.Rows.bitAnd_m1]
  have e : ((t : Int) / 2 ^ ((k : Int)).toNat) % 2 = (((t / 2 ^ k) % 2 : Nat) : Int) := by
    rw [Int.toNat_natCast]
    have e2 : ((2 : Int) ^ k) = ((2 ^ k : Nat) : Int) := by rw [Int.natCast_pow]; rfl
    rw [e2]
    omega
  rw [e, Nat.testBit_eq_decide_div_mod_eq]
  apply decide_eq_decide.mpr
  constructor
  · intro z; injection z with z; omega
  · intro z; rw [z]; rfl
theorem range_more (f : Nat → Bool) (i : Nat) : (List.range (i + 1)).filter f = (List.range i).filter f ++ (if f i = true then [i] else []) := by
  rw [List.range_succ, List.filter_append]
  congr 1
  rw [List.filter_cons]
  rfl
theorem pure_me (vs : List V) (H : Hp) (Q : VK) (E : XK) (h : spMe vs H Q E) : t_me { nx := fun _ H' => Q .non H', rt := Q } (start ["number", "many", "who"] vs) H := by
  obtain ⟨t, n, rfl, hn, k⟩ := h
  refine ⟨_, rfl, n, rfl, by omega, by omega, fun D hD => ?_⟩
  refine lc_range (lo := 0) (n := (n : Int).toNat) (fun j H' => Same H H' ∧ H' D = some (.lst (nl ((List.range j).filter fun k => t.testBit k)))) ⟨same_upd hD, upd_same⟩ ?_ ?_
  · rintro j H' hj ⟨s1, hacc⟩
    have ej : (0 : Int) + (j : Int) = (j : Int) := Int.zero_add _
    have hj6 : j < 6 := by omega
    refine ⟨rfl, _, rfl, _, rfl, (t : Int), (0 + j : Int), rfl, rfl, by omega, _, _, rfl, rfl, rfl, _, rfl, ?_⟩
    rw [ej, bit_is t j]
    have rm := range_more (fun k => t.testBit k) j
    cases c : t.testBit j with
    | true =>
      refine iteT ⟨_, rfl, _, hacc, ?_, Same.over s1 hD, ?_⟩
      · rw [nl_length]
        refine lt_line (Nat.le_trans (List.length_filter_le _ _) ?_)
        rw [List.length_range]; omega
      · rw [upd_same, rm, if_pos c, nl_append]; rfl
    | false =>
      refine iteF ⟨s1, ?_⟩
      rw [hacc, rm, if_neg (by rw [c]; exact Bool.false_ne_true), List.append_nil]
  · rintro H' ⟨s1, hacc⟩
    rw [Int.toNat_natCast] at hacc
    exact k H' D s1 hD hacc
theorem ok_me {f : Addr} {fd : FuncData} (F : Fun K "members" "members" sMe f fd) (T : Txt K mg CS CD CR fR) : FnOk P w K mg base CX0 1 f fd ["number", "many"] spMe := by
  refine F.ok scMe (fun vs H Q E h => ?_) (fun cdv A outer s H vs Q E hr h => ⟨t_me, ?_, pure_me vs H Q E h⟩)
  · obtain ⟨t, n, rfl, _⟩ := h
    rfl
  · exact pss_one (ps_ret (pe_lc (own := [("who", 2)]) (g := gName 2) (tt := tTest (tOp rEq (tOp rBAnd (tOp rShr (tVar 0) (tVar 2)) (tC (.int 1))) (tC (.int 1)))) rfl scMe.nd (pi_range1 rfl T.range (pa_cons (pv 1) pa_nil)) (blkOk_by (N := ["number", "many", "who"]) (sc := defScope sMe) (by decide +kernel))
        (fun _ _ _ _ _ => pg_name (i := 2) scMe.nd rfl (Or.inl rfl)) (fun _ _ _ _ _ => pts_one (pt_cmpR op_eq (pe_op op_and (pe_op op_shr (pv 0) (pv 2)) pe_int) pe_int (nomark _))) (fun _ _ _ _ _ => pv 2)))
/-! ### shared_out(standing, some). Slots: standing, some, inner, bout, who -/
theorem inV_nl (x : Nat) : ∀ l : List Nat, inV (.int x) (nl l) = decide (x ∈ l)
  | [] => rfl
  | a :: l => by
    have ih := inV_nl x l
    show (((a : Int) == (x : Int)) || inV (.int x) (nl l)) = _
    rw [ih, Bool.eq_iff_iff, Bool.or_eq_true, decide_eq_true_iff, decide_eq_true_iff, List.mem_cons, beq_iff_eq]
    constructor
    · rintro (h | h)
      · exact .inl (by omega)
      · exact .inr h
    · rintro (h | h)
      · exact .inl (by omega)
      · exact .inr h
theorem flat_nl (l : List Nat) : (nl l).all flatV = true := by
  rw [List.all_eq_true]
  intro x hx
  obtain ⟨i, hi⟩ := List.getElem?_of_mem hx
  obtain ⟨n, _, rfl⟩ := nl_getI hi
  rfl
theorem mem_members {s : Standing} {t k : Nat} (h : k < s.wins.length) : decide (k ∈ s.members t) = t.testBit k := by
  rw [Bool.eq_iff_iff, decide_eq_true_iff]
  unfold Standing.members
  rw [List.mem_filter, List.mem_range]
  exact ⟨fun a => a.2, fun a => ⟨h, a⟩⟩
theorem sum_ofN : ∀ l : List Nat, (ofN l).sum = ((l.sum : Nat) : Int)
  | [] => rfl
  | a :: l => by
    show ((a : Int) :: ofN l).sum = _
    rw [List.sum_cons, List.sum_cons, sum_ofN l]
    omega
theorem members_len (s : Standing) (t : Nat) : (s.members t).length ≤ s.wins.length := by
  unfold Standing.members
  refine Nat.le_trans (List.length_filter_le _ _) ?_
  rw [List.length_range]
  exact Nat.le_refl _
theorem members_lt {s : Standing} {t k : Nat} (h : k ∈ s.members t) : k < s.wins.length := by
  unfold Standing.members at h
  exact List.mem_range.mp (List.mem_filter.mp h).1
def spSh (CS : Addr) : Sp := fun vs H Q _ => ∃ (st w b a : Addr) (s : Standing) (t : Nat), vs = [.ref st, .ref a] ∧ StAt CS H st w b s ∧ WF s ∧ H a = some (.lst (nl (s.members t))) ∧ RetV H (.int (s.share t : Nat)) Q
abbrev sSh : Stmt := top 11
abbrev nSh : List Str := ["standing", "some", "inner", "bout", "who"]
theorem scSh : FnScope nSh ["standing", "some"] (defScope sSh) := ⟨rfl, rfl, rfl, by decide +kernel, rfl, by decide +kernel, by decide +kernel⟩
def t_shIn (K : PySem.W.Frag) : TT := tAnd (tTest (tOp (rIn K false) (tOp (rIxT K) (tVar 3) (tC (.int 0))) (tVar 1))) (tTest (tOp (rIn K false) (tOp (rIxT K) (tVar 3) (tC (.int 1))) (tVar 1)))
def t_sh (K : PySem.W.Frag) : TS :=
  tSeq (tAsg (tLc (iList K (tFld K (tVar 0) "bouts")) (gName 3) (t_shIn K) (tVar 3) [3]) (gName 2))
    (tRet (tOp rAdd (tCB (rSum K) (tCons (tLc (iList K (tVar 1)) (gName 4) tYes (tOp (rIxL K) (tFld K (tVar 0) "wins") (tVar 4)) [4]) tNil)) (tCB (rLen K) (tCons (tVar 2) tNil))))
theorem pure_sh (T : Txt K mg CS CD CR fR) (vs : List V) (H : Hp) (Q : VK) (E : XK) (h : spSh CS vs H Q E) : t_sh K { nx := fun _ H' => Q .non H', rt := Q } (start nSh vs) H := by
  obtain ⟨st, w, b, a, s, t, rfl, ⟨⟨dx, h1⟩, h2, ⟨ts, h3, h4⟩, h5⟩, W, ha, k⟩ := h
  refine ⟨_, rfl, st, CS, dx, _, _, rfl, h1, T.clS, T.nB, stF_b w b, b, rfl, ⟨_, .inl (.inl h3)⟩, fun D hD => ?_⟩
  refine lc_list (K := K) (a := b) (xs := ts.map V.ref) (fun j H' => Same H H' ∧ ∃ acc : List V, H' D = some (.lst acc) ∧ acc.length = ((s.bouts.take j).filter fun b => t.testBit b.1 && t.testBit b.2).length)
    ⟨same_upd hD, [], upd_same, rfl⟩ (fun j H' _ ⟨s1, _⟩ => .inl (.inl (s1 _ _ h3))) ?_ ?_
  · rintro j x H' hx ⟨s1, acc, hacc, hl⟩
    obtain ⟨c, p, ht, rfl, hp, e⟩ := pair_at h4 hx
    have e' := s1 _ _ e
    have ha' := s1 _ _ ha
    obtain ⟨p1, p2, _⟩ := W.bs p (List.mem_of_getElem? hp)
    have hlen : acc.length ≤ 9 := by
      rw [hl]
      refine Nat.le_trans (List.length_filter_le _ _) ?_
      rw [List.length_take]
      have := W.b9
      omega
    have fm := filt_more (f := fun b : Nat × Nat => t.testBit b.1 && t.testBit b.2) hp
    have no : (t.testBit p.1 && t.testBit p.2) = false → Same H H' ∧ ∃ acc : List V, H' D = some (.lst acc) ∧ acc.length = ((s.bouts.take (j + 1)).filter fun b => t.testBit b.1 && t.testBit b.2).length := fun c => by
      refine ⟨s1, acc, hacc, ?_⟩
      rw [fm, if_neg (by rw [c]; exact Bool.false_ne_true), List.append_nil, hl]
    refine ⟨rfl, _, rfl, _, _, _, _, rfl, rfl, .inl (.inl e'), rfl, _, rfl, a, _, rfl, .inl (.inl (.inl ha')), rfl, flat_nl _, _, rfl, ?_⟩
    rw [show inV (V.int (p.1 : Int)) (nl (s.members t)) = t.testBit p.1 from (inV_nl _ _).trans (mem_members p1)]
    cases c1 : t.testBit p.1 with
    | false => exact iteF (iteF (no (by rw [c1]; rfl)))
    | true =>
      refine iteT ⟨_, rfl, _, _, _, _, rfl, rfl, .inl (.inl e'), rfl, _, rfl, a, _, rfl, .inl (.inl (.inl ha')), rfl, flat_nl _, _, rfl, ?_⟩
      rw [show inV (V.int (p.2 : Int)) (nl (s.members t)) = t.testBit p.2 from (inV_nl _ _).trans (mem_members p2)]
      cases c2 : t.testBit p.2 with
      | false => exact iteF (no (by rw [c1, c2]; rfl))
      | true =>
        refine iteT ⟨_, rfl, acc, hacc, lt_line (by omega), Same.over s1 hD, _, upd_same, ?_⟩
        rw [fm, if_pos (by rw [c1, c2]; rfl), List.length_append, List.length_append, hl]; rfl
  · rintro H1 ⟨s1, acc, hacc, hl⟩
    rw [List.length_map, h4.1, List.take_length] at hl
    have ha1 := s1 _ _ ha
    refine ⟨_, rfl, a, rfl, ⟨_, .inl (.inl ha1)⟩, fun D2 hD2 => ?_⟩
    refine lc_list (K := K) (a := a) (xs := nl (s.members t)) (fun j H' => Same H1 H' ∧ H' D2 = some (.lst (nl (((s.members t).take j).map fun k => s.wins.getD k 0))))
      ⟨same_upd hD2, upd_same⟩ (fun j H' _ ⟨s2, _⟩ => .inl (.inl (s2 _ _ ha1))) ?_ ?_
    · rintro j x H' hx ⟨s2, hacc2⟩
      obtain ⟨n, hn, rfl⟩ := nl_getI hx
      have hlt := members_lt (List.mem_of_getElem? hn)
      have s12 := s1.trans s2
      refine ⟨rfl, ?_⟩
      dsimp only [tYes]
      rw [if_pos rfl]
      refine ⟨_, rfl, st, CS, dx, _, _, rfl, s12 _ _ h1, T.clS, T.nW, stF_w w b, _, rfl, w, _, _, _, rfl, rfl, .inl (.inl (s12 _ _ h2)), nl_at hlt, _, hacc2, ?_, Same.over s2 hD2, ?_⟩
      · rw [nl_length, List.length_map, List.length_take]
        have := members_len s t
        have := W.c6
        exact lt_line (by omega)
      · rw [upd_same, List.take_add_one, hn, Option.toList_some, List.map_append, nl_append]; rfl
    · rintro H2 ⟨s2, hacc2⟩
      rw [nl_length, List.take_length] at hacc2
      refine ⟨D2, ofN ((s.members t).map fun k => s.wins.getD k 0), rfl, .inl (.inl hacc2), _, rfl, D, acc, rfl, .inl (.inl (.inl (s2 _ _ hacc))), _, _, rfl, rfl, ?_⟩
      rw [sum_ofN, hl]
      exact k H2 (s1.trans s2)
theorem ok_sh {f : Addr} {fd : FuncData} (F : Fun K "shared_out" "shared_out" sSh f fd) (T : Txt K mg CS CD CR fR) : FnOk P w K mg base CX0 1 f fd ["standing", "some"] (spSh CS) := by
  refine F.ok scSh (fun vs H Q E h => ?_) (fun cdv A outer s H vs Q E hr h => ⟨t_sh K, ?_, pure_sh T vs H Q E h⟩)
  · obtain ⟨st, w, b, a, s, t, rfl, _⟩ := h
    rfl
  · exact pss_cons (ps_setLc (i := 2) (own := [("bout", 3)]) (g := gName 3) (tt := t_shIn K) rfl scSh.nd rfl rfl (sw_true rfl rfl rfl (by decide +kernel)) (pi_list (pe_fld (pv 0) rfl)) (blkOk_by (N := nSh) (sc := defScope sSh) (by decide +kernel))
        (fun _ _ _ _ _ => pg_name (i := 3) scSh.nd rfl (Or.inl rfl))
        (fun _ _ _ _ _ => pts_one (PW.pt (pw_and (pt_cmpR op_in_seq (pe_ix ix_tup (pv 3) pe_int (fun _ _ => rfl)) (pv 1) (by rfl)) (pw_and1 (pt_cmpR op_in_seq (pe_ix ix_tup (pv 3) pe_int (fun _ _ => rfl)) (pv 1) (by rfl))))))
        (fun _ _ _ _ _ => pv 3))
      (pss_one (ps_ret (pe_op op_add
        (pe_callB (cr_sum rfl) (by rfl) T.sum (by decide +kernel) (pa_cons
          (pe_lc (own := [("who", 4)]) (g := gName 4) (tt := tYes) rfl scSh.nd (pi_list (pv 1)) (blkOk_by (N := nSh) (sc := defScope sSh) (by decide +kernel))
            (fun _ _ _ _ _ => pg_name (i := 4) scSh.nd rfl (Or.inl rfl)) (fun _ _ _ _ _ => pts_nil) (fun _ _ _ _ _ => pe_ix ix_list (pe_fld (pv 0) rfl) (pv 4) (fun _ _ => rfl))) pa_nil))
        (pe_callB call_len_seq (by rfl) T.len PySem.boot_len (pa_cons (pv 2) pa_nil)))))
end
end Sf
namespace Sf
open PySem PySem.Spec PyProof.Rows L2
open Mth (WF ofN)
open Sj10 (Standing)
section
variable {P : Program} {w : World} {K : PySem.W.Frag} {mg : Str → Option Value} {base : Heap} {CS CD CR fR : Addr}
/-! ### wins_by(standing, outcome). Slots: standing, outcome, found, bout, won, winner -/
def spWB (K : PySem.W.Frag) (CS : Addr) : Sp := fun vs H Q _ => ∃ (st w b o : Addr) (s : Standing) (x : List Nat), vs = [.ref st, .ref o] ∧ StAt CS H st w b s ∧ WF s ∧ SqN K H o x ∧ x.length = s.bouts.length ∧ (∀ y ∈ x, y < 2) ∧ Ret H (.lst (nl (Mth.endsL s x))) Q
abbrev sWB : Stmt := top 4
abbrev nWB : List Str := ["standing", "outcome", "found", "bout", "won", "winner"]
theorem scWB : FnScope nWB ["standing", "outcome"] (defScope sWB) := ⟨rfl, rfl, rfl, by decide +kernel, rfl, by decide +kernel, by decide +kernel⟩
abbrev rList (K : PySem.W.Frag) : List V → Hp → VK → Prop := fun xs H Q => ∃ p ys, xs = [.ref p] ∧ (SqL K H p ys ∨ SqT K H p ys) ∧ ∀ l, H l = none → Q (.ref l) (upd H l (.lst ys))
def t_wb (K : PySem.W.Frag) : TS :=
  tSeq (tAsg (tCB (rList K) (tCons (tFld K (tVar 0) "wins") tNil)) (gName 2))
    (tSeq (tFor (iZip K (tCons (tFld K (tVar 0) "bouts") (tCons (tVar 1) tNil))) (gTup K 2 (gCons (gName 3) (gCons (gName 4) gNil)))
      (tSeq (tAsg (tCall (spWo K) [] E0 (tCons (tVar 3) (tCons (tVar 4) tNil))) (gName 5))
        (tAsg (tOp rAdd (tOp (rIxL K) (tVar 2) (tVar 5)) (tC (.int 1))) (gSub (tVar 2) (tVar 5) rSetL))))
    (tRet (tVar 2)))
theorem winner_lt {s : Standing} (W : WF s) {p : Nat × Nat} (h : p ∈ s.bouts) (x : Nat) : Sj10.winner p x < s.wins.length := by
  obtain ⟨a, b, _⟩ := W.bs p h
  unfold Sj10.winner
  split
  · exact a
  · exact b
theorem pure_wb (T : Txt K mg CS CD CR fR) (vs : List V) (H : Hp) (Q : VK) (E : XK) (h : spWB K CS vs H Q E) : t_wb K { nx := fun _ H' => Q .non H', rt := Q } (start nWB vs) H := by
  obtain ⟨st, w, b, o, s, x, rfl, ⟨⟨dx, h1⟩, h2, ⟨ts, h3, h4⟩, h5⟩, W, ho, hl, hx2, k⟩ := h
  refine ⟨_, rfl, st, CS, dx, _, _, rfl, h1, T.clS, T.nW, stF_w w b, w, _, rfl, .inl (.inl (.inl h2)), fun f hf => ?_⟩
  have q1 := same_upd (o := .lst (nl s.wins)) hf
  refine ⟨_, rfl, st, CS, dx, _, _, rfl, q1 _ _ h1, T.clS, T.nB, stF_b w b, _, rfl, b, o, _, _, rfl, .inl (.inl (q1 _ _ h3)), q1.seq ho, ?_⟩
  refine RZ.for_zipL (K := K) (a := b) (b := o) (xs := ts.map V.ref) (ys := nl x) (by rw [List.length_map, nl_length, h4.1, hl])
    (fun i σ H' => ∃ v3 v4 v5 : Option V, σ = [some (.ref st), some (.ref o), some (.ref f), v3, v4, v5] ∧ Same H H' ∧ H' f = some (.lst (nl (Mth.endsI s x i))))
    ⟨none, none, none, rfl, q1, ?_⟩ (fun i σ H' ⟨_, _, _, _, s1, _⟩ => ⟨.inl (.inl (s1 _ _ h3)), s1.seq ho⟩) ?_ ?_
  · rw [upd_same, Mth.endsI_zero]
  · rintro i y z t σ A hy hz ⟨v3, v4, v5, rfl, s1, hA⟩ ht
    obtain ⟨c, p, hc, rfl, hp, e⟩ := pair_at h4 hy
    obtain ⟨u, hu, rfl⟩ := nl_getI hz
    have hu2 := hx2 u (List.mem_of_getElem? hu)
    have q2 := same_upd (o := .tup [V.ref c, V.int u]) ht
    have hwl := winner_lt W (List.mem_of_getElem? hp) u
    have hwl' : Sj10.winner p u < (Mth.endsI s x i).length := by rw [Mth.endsI_length]; exact hwl
    have hft : f ≠ t := ne_of_none hA ht
    refine ⟨t, _, rfl, .inl (.inl upd_same), rfl, _, _, rfl, _, _, rfl, rfl, ?_⟩
    refine ⟨_, rfl, _, rfl, c, p, u, rfl, hu2, q2 _ _ (s1 _ _ e), ?_⟩
    refine ⟨_, rfl, _, rfl, f, _, _, _, rfl, rfl, .inl (.inl (q2 _ _ hA)), nl_at hwl', _, _, rfl, rfl, ?_⟩
    refine ⟨_, rfl, _, rfl, f, _, _, Sj10.winner p u, rfl, rfl, q2 _ _ hA, nl_ix hwl', ?_⟩
    refine ⟨_, _, _, rfl, Same.over (s1.trans q2) hf, ?_⟩
    rw [upd_same, Mth.endsI_step hp hu, ← nl_set]
    rfl
  · rintro σ A ⟨v3, v4, v5, rfl, s1, hA⟩
    refine ⟨_, rfl, k A f s1 hf ?_⟩
    rw [hA, Mth.endsI_all]
    rw [List.length_zip, List.length_map, h4.1]
    omega
theorem ok_wb {f fW : Addr} {fd fdW : FuncData} (F : Fun K "wins_by" "wins_by" sWB f fd) (T : Txt K mg CS CD CR fR) (GW : FnOk P w K mg base CX0 1 fW fdW ["bout", "won"] (spWo K)) (gW : mg "winner_of" = some (.ref fW)) (kW : PySem.W.keepIn K (.ref fW) = true) (bW : Binds K fdW ["bout", "won"] []) :
    FnOk P w K mg base CX0 2 f fd ["standing", "outcome"] (spWB K CS) := by
  refine F.ok scWB (fun vs H Q E h => ?_) (fun cdv A outer s H vs Q E hr h => ⟨t_wb K, ?_, pure_wb T vs H Q E h⟩)
  · obtain ⟨st, w, b, o, s, x, rfl, _⟩ := h
    rfl
  · exact pss_cons (ps_set (i := 2) scWB.nd rfl (Or.inl rfl) (pe_callTy call_list_of (by rfl) T.list (by decide +kernel) (pa_cons (pe_fld (pv 0) rfl) pa_nil)))
      (pss_cons (ps_for PassesOwn.never rfl (pi_zip (by rfl) T.zip (pa_cons (pe_fld (pv 0) rfl) (pa_cons (pv 1) pa_nil))) (pg_tup rfl (pgs_cons (pg_name (i := 3) scWB.nd rfl (Or.inl rfl)) (pgs_cons (pg_name (i := 4) scWB.nd rfl (Or.inl rfl)) pgs_nil)))
        (pss_cons (ps_set (i := 5) scWB.nd rfl (Or.inl rfl) (pe_call GW hr rfl gW kW bW .nil pass0 (pa_cons (pv 3) (pa_cons (pv 4) pa_nil))))
          (pss_one (ps_asg (pe_op op_add (pe_ix ix_list (pv 2) (pv 5) (fun _ _ => rfl)) pe_int) (pg_sub (pv 2) (pv 5) set_list)))))
      (pss_one (ps_ret (pv 2))))
/-! ### own_wins(standing, outcome, who) -/
def spOw (K : PySem.W.Frag) (CS : Addr) : Sp := fun vs H Q _ => ∃ (st w b o : Addr) (s : Standing) (x : List Nat) (i : Nat), vs = [.ref st, .ref o, .int i] ∧ StAt CS H st w b s ∧ WF s ∧ SqN K H o x ∧ x.length = s.bouts.length ∧ (∀ y ∈ x, y < 2) ∧ i < s.wins.length ∧ RetV H (.int (s.own x i : Nat)) Q
abbrev sOw : Stmt := top 8
theorem scOw : FnScope ["standing", "outcome", "who"] ["standing", "outcome", "who"] (defScope sOw) := ⟨rfl, rfl, rfl, by decide +kernel, rfl, by decide +kernel, by decide +kernel⟩
def t_ow (K : PySem.W.Frag) (CS : Addr) : TS := tRet (tOp rSub (tOp (rIxL K) (tCall (spWB K CS) [] E0 (tCons (tVar 0) (tCons (tVar 1) tNil))) (tVar 2)) (tOp (rIxL K) (tFld K (tVar 0) "wins") (tVar 2)))
theorem pure_ow (T : Txt K mg CS CD CR fR) (vs : List V) (H : Hp) (Q : VK) (E : XK) (h : spOw K CS vs H Q E) : t_ow K CS { nx := fun _ H' => Q .non H', rt := Q } (start ["standing", "outcome", "who"] vs) H := by
  obtain ⟨st, w, b, o, s, x, i, rfl, S, W, ho, hl, hx2, hi, k⟩ := h
  refine ⟨_, rfl, _, rfl, st, w, b, o, s, x, rfl, S, W, ho, hl, hx2, fun H' p s1 hp hv => ?_⟩
  obtain ⟨⟨dx, h1⟩, h2, _, _⟩ := S.same s1
  have hi' : i < (Mth.endsL s x).length := by rw [Mth.endsL_length]; exact hi
  refine ⟨_, rfl, p, _, _, _, rfl, rfl, .inl (.inl hv), nl_at hi', _, rfl, st, CS, dx, _, _, rfl, h1, T.clS, T.nW, stF_w w b, _, rfl, w, _, _, _, rfl, rfl, .inl (.inl h2), nl_at hi, _, _, rfl, rfl, ?_⟩
  have e : (((Mth.endsL s x).getD i 0 : Nat) : Int) - ((s.wins.getD i 0 : Nat) : Int) = ((s.own x i : Nat) : Int) := by
    rw [Mth.endsL_get hi, Mth.own_eq]
    omega
  show Q (.int (((Mth.endsL s x).getD i 0 : Nat) - ((s.wins.getD i 0 : Nat) : Int))) H'
  rw [e]
  exact k H' s1
theorem ok_ow {f fW : Addr} {fd fdW : FuncData} (F : Fun K "own_wins" "own_wins" sOw f fd) (T : Txt K mg CS CD CR fR) (GW : FnOk P w K mg base CX0 2 fW fdW ["standing", "outcome"] (spWB K CS)) (gW : mg "wins_by" = some (.ref fW)) (kW : PySem.W.keepIn K (.ref fW) = true) (bW : Binds K fdW ["standing", "outcome"] []) :
    FnOk P w K mg base CX0 3 f fd ["standing", "outcome", "who"] (spOw K CS) := by
  refine F.ok scOw (fun vs H Q E h => ?_) (fun cdv A outer s H vs Q E hr h => ⟨t_ow K CS, ?_, pure_ow T vs H Q E h⟩)
  · obtain ⟨st, w, b, o, s, x, i, rfl, _⟩ := h
    rfl
  · exact pss_one (ps_ret (pe_op op_sub (pe_ix ix_list (pe_call GW hr rfl gW kW bW .nil pass0 (pa_cons (pv 0) (pa_cons (pv 1) pa_nil))) (pv 2) (fun _ _ => rfl)) (pe_ix ix_list (pe_fld (pv 0) rfl) (pv 2) (fun _ _ => rfl))))
/-! ### could_have(standing, who) -/
def spCh (CS : Addr) : Sp := fun vs H Q _ => ∃ (st w b : Addr) (s : Standing) (i : Nat), vs = [.ref st, .int i] ∧ StAt CS H st w b s ∧ WF s ∧ i < s.wins.length ∧ RetV H (.int (s.top i : Nat)) Q
abbrev sCh : Stmt := top 12
theorem scCh : FnScope ["standing", "who"] ["standing", "who"] (defScope sCh) := ⟨rfl, rfl, rfl, by decide +kernel, rfl, by decide +kernel, by decide +kernel⟩
def t_ch (K : PySem.W.Frag) (CS : Addr) : TS := tRet (tOp rAdd (tOp (rIxL K) (tFld K (tVar 0) "wins") (tVar 1)) (tCall (spOb CS) [] E0 (tCons (tVar 0) (tCons (tVar 1) tNil))))
theorem pure_ch (T : Txt K mg CS CD CR fR) (vs : List V) (H : Hp) (Q : VK) (E : XK) (h : spCh CS vs H Q E) : t_ch K CS { nx := fun _ H' => Q .non H', rt := Q } (start ["standing", "who"] vs) H := by
  obtain ⟨st, w, b, s, i, rfl, S, W, hi, k⟩ := h
  obtain ⟨⟨dx, h1⟩, h2, h3, h5⟩ := S
  refine ⟨_, rfl, st, CS, dx, _, _, rfl, h1, T.clS, T.nW, stF_w w b, _, rfl, w, _, _, _, rfl, rfl, .inl (.inl h2), nl_at hi, _, rfl, _, rfl, st, w, b, s, i, rfl, ⟨⟨dx, h1⟩, h2, h3, h5⟩, W, fun H' s1 => ?_⟩
  refine ⟨_, _, rfl, rfl, ?_⟩
  have e : ((s.wins.getD i 0 : Nat) : Int) + ((s.left i : Nat) : Int) = ((s.top i : Nat) : Int) := by
    unfold Standing.top
    omega
  show Q (.int (((s.wins.getD i 0 : Nat) : Int) + ((s.left i : Nat) : Int))) H'
  rw [e]
  exact k H' s1
theorem ok_ch {f fB : Addr} {fd fdB : FuncData} (F : Fun K "could_have" "could_have" sCh f fd) (T : Txt K mg CS CD CR fR) (GB : FnOk P w K mg base CX0 1 fB fdB ["standing", "who"] (spOb CS)) (gB : mg "own_bouts" = some (.ref fB)) (kB : PySem.W.keepIn K (.ref fB) = true) (bB : Binds K fdB ["standing", "who"] []) :
    FnOk P w K mg base CX0 2 f fd ["standing", "who"] (spCh CS) := by
  refine F.ok scCh (fun vs H Q E h => ?_) (fun cdv A outer s H vs Q E hr h => ⟨t_ch K CS, ?_, pure_ch T vs H Q E h⟩)
  · obtain ⟨st, w, b, s, i, rfl, _⟩ := h
    rfl
  · exact pss_one (ps_ret (pe_op op_add (pe_ix ix_list (pe_fld (pv 0) rfl) (pv 1) (fun _ _ => rfl)) (pe_call GB hr rfl gB kB bB .nil pass0 (pa_cons (pv 0) (pa_cons (pv 1) pa_nil)))))
end
end Sf
namespace Sf
open PySem PySem.Spec PyProof.Rows L2
open Mth (WF ofN)
open Sj10 (Standing)
/-- a def that stands under a name and keeps a promise -/
def Cal (P : Program) (w : World) (K : PySem.W.Frag) (mg : Str → Option Value) (base : Heap) (x : Str) (CX : CXT) (k : Nat) (ps : List Str) (sp : Sp) : Prop :=
  ∃ (f : Addr) (fd : FuncData), FnOk P w K mg base CX k f fd ps sp ∧ mg x = some (.ref f) ∧ PySem.W.keepIn K (.ref f) = true ∧ Binds K fd ps []
theorem pe_cal {X : Cx} {CX : CXT} {k : Nat} {ps : List Str} {sp : Sp} {E : XK} {x : Str} {p pos : Pos} {e : Expr} {es : List Expr} {t : TA} (C : Cal X.prog X.w X.K X.mg X.base x CX k ps sp) (hr : Room k X.A) (hg : Gl X x) (hx : Passes CX X E)
    (ha : PA X (e :: es) t) (hdb : (x == ("__debug__" : Str)) = false := by decide) (he : starEach (e :: es) X.env = (false, eval e X.env) :: starEach es X.env := by rfl) (hpl : (backTo pos (starEach es X.env)).any (·.1) = false := by rfl) :
    PE X (.Call (.Name x p) (e :: es) [] pos) (tCall sp [] E t) := by
  obtain ⟨f, fd, G, g, kp, b⟩ := C
  exact pe_call G hr hg g kp b .nil hx ha hdb he hpl
section
variable {P : Program} {w : World} {K : PySem.W.Frag} {mg : Str → Option Value} {base : Heap} {CS CD CR fR : Addr}
/-! ### stands_in_way(standing, who, number). Slots: standing, who, number, some -/
def inWay (s : Standing) (i t : Nat) : Bool := !t.testBit i && decide ((s.members t).length * s.top i < s.share t)
def spSw (CS : Addr) : Sp := fun vs H Q _ => ∃ (st w b : Addr) (s : Standing) (i t : Nat), vs = [.ref st, .int i, .int t] ∧ StAt CS H st w b s ∧ WF s ∧ i < s.wins.length ∧ RetV H (.bl (inWay s i t)) Q
abbrev sSw : Stmt := top 13
abbrev nSw : List Str := ["standing", "who", "number", "some"]
theorem scSw : FnScope nSw ["standing", "who", "number"] (defScope sSw) := ⟨rfl, rfl, rfl, by decide +kernel, rfl, by decide +kernel, by decide +kernel⟩
def rMul : R2 := rI CMul fun i j => .int (i * j)
def t_sw (K : PySem.W.Frag) (CS : Addr) : TS :=
  tSeq (tAsg (tCall spMe [] E0 (tCons (tVar 2) (tCons (tCB (rLen K) (tCons (tFld K (tVar 0) "wins") tNil)) tNil))) (gName 3))
    (tSeq (tIfS (tTest (tOp (rIn K false) (tVar 1) (tVar 3))) (tRet (tC (.bl false))) tNext)
    (tRet (tOp rGt (tCall (spSh CS) [] E0 (tCons (tVar 0) (tCons (tVar 3) tNil))) (tOp rMul (tCB (rLen K) (tCons (tVar 3) tNil)) (tCall (spCh CS) [] E0 (tCons (tVar 0) (tCons (tVar 1) tNil)))))))
theorem pure_sw (T : Txt K mg CS CD CR fR) (vs : List V) (H : Hp) (Q : VK) (E : XK) (h : spSw CS vs H Q E) : t_sw K CS { nx := fun _ H' => Q .non H', rt := Q } (start nSw vs) H := by
  obtain ⟨st, w, b, s, i, t, rfl, S, W, hi, k⟩ := h
  obtain ⟨⟨dx, h1⟩, h2, h3, h5⟩ := id S
  refine ⟨_, rfl, _, rfl, st, CS, dx, _, _, rfl, h1, T.clS, T.nW, stF_w w b, w, _, rfl, .inl (.inl (.inl h2)), t, s.wins.length, by rw [nl_length]; rfl, W.c6, fun H1 a s1 ha hv => ?_⟩
  have hv' : H1 a = some (.lst (nl (s.members t))) := hv
  refine ⟨_, rfl, _, rfl, a, _, rfl, .inl (.inl (.inl hv')), rfl, flat_nl _, _, rfl, ?_⟩
  rw [show inV (V.int (i : Int)) (nl (s.members t)) = t.testBit i from (inV_nl _ _).trans (mem_members hi)]
  cases c : t.testBit i with
  | true =>
    refine iteT ?_
    have e : inWay s i t = false := by unfold inWay; rw [c]; rfl
    rw [e] at k
    exact k H1 s1
  | false =>
    refine iteF ⟨_, rfl, _, rfl, st, w, b, a, s, t, rfl, S.same s1, W, hv', fun H2 s2 => ?_⟩
    refine ⟨_, rfl, a, _, rfl, .inl (.inl (.inl (s2 _ _ hv'))), _, rfl, _, rfl, st, w, b, s, i, rfl, S.same (s1.trans s2), W, hi, fun H3 s3 => ?_⟩
    have ml := members_len s t
    have := W.c6
    refine ⟨_, _, rfl, rfl, .inl ⟨by rw [nl_length]; omega, by rw [nl_length]; omega⟩, _, _, rfl, rfl, ?_⟩
    have e : decide ((((nl (s.members t)).length : Nat) : Int) * ((s.top i : Nat) : Int) < ((s.share t : Nat) : Int)) = inWay s i t := by
      unfold inWay
      rw [c, nl_length, Bool.not_false, Bool.true_and]
      apply decide_eq_decide.mpr
      rw [← Int.natCast_mul]
      omega
    show Q (.bl (decide ((((nl (s.members t)).length : Nat) : Int) * ((s.top i : Nat) : Int) < ((s.share t : Nat) : Int)))) H3
    rw [e]
    exact k H3 ((s1.trans s2).trans s3)
theorem ok_sw {f : Addr} {fd : FuncData} (F : Fun K "stands_in_way" "stands_in_way" sSw f fd) (T : Txt K mg CS CD CR fR) (C1 : Cal P w K mg base "members" CX0 1 ["number", "many"] spMe) (C2 : Cal P w K mg base "shared_out" CX0 1 ["standing", "some"] (spSh CS)) (C3 : Cal P w K mg base "could_have" CX0 2 ["standing", "who"] (spCh CS)) :
    FnOk P w K mg base CX0 3 f fd ["standing", "who", "number"] (spSw CS) := by
  refine F.ok scSw (fun vs H Q E h => ?_) (fun cdv A outer s H vs Q E hr h => ⟨t_sw K CS, ?_, pure_sw T vs H Q E h⟩)
  · obtain ⟨st, w, b, s, i, t, rfl, _⟩ := h
    rfl
  · have hr1 : Room 1 _ := hr.mono (by decide)
    exact pss_cons (ps_set (i := 3) scSw.nd rfl (Or.inl rfl) (pe_cal C1 hr1 rfl pass0 (pa_cons (pv 2) (pa_cons (pe_callB call_len_seq (by rfl) T.len PySem.boot_len (pa_cons (pe_fld (pv 0) rfl) pa_nil)) pa_nil))))
      (pss_cons (ps_if (pt_cmpR op_in_seq (pv 1) (pv 3) (by rfl)) (pss_one (ps_ret pe_bl)) pss_nil)
      (pss_one (ps_ret (pe_cmpR op_gt (pe_cal C2 hr1 rfl pass0 (pa_cons (pv 0) (pa_cons (pv 3) pa_nil)))
        (pe_op op_mul (pe_callB call_len_seq (by rfl) T.len PySem.boot_len (pa_cons (pv 3) pa_nil)) (pe_cal C3 hr rfl pass0 (pa_cons (pv 0) (pa_cons (pv 1) pa_nil)))) (nomark _)))))
/-! ### set_in_way(standing, who). Slots: standing, who, number -/
def optV : Option Nat → V
  | none => .non
  | some t => .int t
def spSi (CS : Addr) : Sp := fun vs H Q _ => ∃ (st w b : Addr) (s : Standing) (i : Nat), vs = [.ref st, .int i] ∧ StAt CS H st w b s ∧ WF s ∧ i < s.wins.length ∧ RetV H (optV (s.why i)) Q
abbrev sSi : Stmt := top 14
abbrev nSi : List Str := ["standing", "who", "number"]
theorem scSi : FnScope nSi ["standing", "who"] (defScope sSi) := ⟨rfl, rfl, rfl, by decide +kernel, rfl, by decide +kernel, by decide +kernel⟩
def rShl : R2 := rI CPow fun i j => .int (i * 2 ^ j.toNat)
def t_si (K : PySem.W.Frag) (CS : Addr) : TS :=
  tSeq (tFor (iRng1 (tCons (tOp rShl (tC (.int 1)) (tCB (rLen K) (tCons (tFld K (tVar 0) "wins") tNil))) tNil)) (gName 2)
      (tIfS (tB (tCall (spSw CS) [] E0 (tCons (tVar 0) (tCons (tVar 1) (tCons (tVar 2) tNil))))) (tRet (tVar 2)) tNext))
    (tRet (tC .non))
theorem why_at {s : Standing} {i t : Nat} (ht : t < 2 ^ s.count) (h : inWay s i t = true) (hn : ∀ j, j < t → inWay s i j = false) : s.why i = some t := by
  unfold Standing.why
  rw [List.find?_range_eq_some]
  exact ⟨h, List.mem_range.mpr ht, fun j hj => by
    have := hn j hj
    unfold inWay at this
    rw [this]; rfl⟩
theorem why_no {s : Standing} {i : Nat} (hn : ∀ j, j < 2 ^ s.count → inWay s i j = false) : s.why i = none := by
  unfold Standing.why
  rw [List.find?_eq_none]
  intro x hx
  have := hn x (List.mem_range.mp hx)
  unfold inWay at this
  rw [this]
  exact Bool.false_ne_true
theorem pure_si (T : Txt K mg CS CD CR fR) (vs : List V) (H : Hp) (Q : VK) (E : XK) (h : spSi CS vs H Q E) : t_si K CS { nx := fun _ H' => Q .non H', rt := Q } (start nSi vs) H := by
  obtain ⟨st, w, b, s, i, rfl, S, W, hi, k⟩ := h
  obtain ⟨⟨dx, h1⟩, h2, h3, h5⟩ := id S
  have c6 := W.c6
  obtain ⟨N, hN⟩ : ∃ N : Nat, N = 2 ^ s.wins.length := ⟨_, rfl⟩
  have e2 : (1 : Int) * 2 ^ (((nl s.wins).length : Nat) : Int).toNat = (N : Int) := by
    rw [nl_length, Int.toNat_natCast, Int.one_mul, hN, Int.natCast_pow]; rfl
  have small : N ≤ 64 := by rw [hN]; exact Nat.le_trans (Nat.pow_le_pow_right (by decide) c6) (by decide)
  refine ⟨_, rfl, st, CS, dx, _, _, rfl, h1, T.clS, T.nW, stF_w w b, w, _, rfl, .inl (.inl (.inl h2)), _, _, rfl, rfl, ⟨by rw [nl_length]; omega, by rw [nl_length]; omega, by decide⟩, (N : Int), by rw [← e2], by omega, by omega, ?_⟩
  refine for_range (lo := 0) (n := (N : Int).toNat) (fun j σ H' => ∃ v : Option V, σ = [some (.ref st), some (.int i), v] ∧ Same H H' ∧ ∀ m, m < j → inWay s i m = false)
    ⟨none, rfl, Same.refl _, fun m hm => absurd hm (Nat.not_lt_zero _)⟩ ?_ ?_
  · rintro j σ H' hj ⟨v, rfl, s1, hn⟩
    have ej : (0 : Int) + (j : Int) = (j : Int) := Int.zero_add _
    rw [Int.toNat_natCast] at hj
    refine ⟨_, rfl, _, rfl, _, rfl, st, w, b, s, i, j, by rw [ej]; rfl, S.same s1, W, hi, fun H2 s2 => ?_⟩
    refine ⟨_, rfl, ?_⟩
    cases c : inWay s i j with
    | true =>
      refine iteT ⟨_, rfl, ?_⟩
      have e := why_at (s := s) (by show j < 2 ^ s.wins.length; rw [← hN]; exact hj) c hn
      rw [e] at k
      show Q (.int (0 + (j : Int))) H2
      rw [ej]
      exact k H2 (s1.trans s2)
    | false =>
      refine iteF ⟨_, rfl, s1.trans s2, fun m hm => ?_⟩
      by_cases e : m = j
      · rw [e]; exact c
      · exact hn m (by omega)
  · rintro σ H' ⟨v, rfl, s1, hn⟩
    rw [Int.toNat_natCast, hN] at hn
    rw [why_no (s := s) hn] at k
    exact k H' s1
theorem ok_si {f : Addr} {fd : FuncData} (F : Fun K "set_in_way" "set_in_way" sSi f fd) (T : Txt K mg CS CD CR fR) (C1 : Cal P w K mg base "stands_in_way" CX0 3 ["standing", "who", "number"] (spSw CS)) :
    FnOk P w K mg base CX0 4 f fd ["standing", "who"] (spSi CS) := by
  refine F.ok scSi (fun vs H Q E h => ?_) (fun cdv A outer s H vs Q E hr h => ⟨t_si K CS, ?_, pure_si T vs H Q E h⟩)
  · obtain ⟨st, w, b, s, i, rfl, _⟩ := h
    rfl
  · exact pss_cons (ps_for PassesOwn.never rfl (pi_range1 rfl T.range (pa_cons (pe_op op_shl pe_int (pe_callB call_len_seq (by rfl) T.len PySem.boot_len (pa_cons (pe_fld (pv 0) rfl) pa_nil))) pa_nil)) (pg_name (i := 2) scSi.nd rfl (Or.inl rfl))
        (pss_one (ps_if (pt_val (pe_cal C1 hr rfl pass0 (pa_cons (pv 0) (pa_cons (pv 1) (pa_cons (pv 2) pa_nil))))) (pss_one (ps_ret (pv 2))) pss_nil)))
      (pss_one (ps_ret pe_non))
end
end Sf
namespace Sf
open PySem PySem.Spec PyProof.Rows L2
open Mth (WF ofN)
open Sj10 (Standing)
theorem find_at {α : Type} {f : α → Bool} : ∀ {l : List α} {j : Nat} {x : α}, l[j]? = some x → f x = true → (∀ y ∈ l.take j, f y = false) → l.find? f = some x
  | [], j, x, h, _, _ => by simp at h
  | a :: l, 0, x, h, hx, _ => by
    have e : a = x := Option.some.inj h
    subst e
    rw [List.find?_cons_of_pos hx]
  | a :: l, j + 1, x, h, hx, hn => by
    have ha := hn a (by simp)
    rw [List.find?_cons_of_neg (by rw [ha]; exact Bool.false_ne_true)]
    exact find_at (l := l) (j := j) (by simpa using h) hx fun y hy => hn y (by simp [hy])
theorem list_at {H : Hp} {ts : List Addr} {ls : List (List Nat)} (h : Lists H ts ls) {i : Nat} {x : V} (hx : (ts.map V.ref)[i]? = some x) : ∃ (t : Addr) (l : List Nat), ts[i]? = some t ∧ x = .ref t ∧ ls[i]? = some l ∧ H t = some (.lst (nl l)) := by
  rw [List.getElem?_map, Option.map_eq_some_iff] at hx
  obtain ⟨t, a, rfl⟩ := hx
  have hi : i < ls.length := by rw [← h.1]; exact (List.getElem?_eq_some_iff.mp a).1
  have hb : ls[i]? = some ls[i] := List.getElem?_eq_getElem hi
  exact ⟨t, ls[i], a, rfl, hb, h.2 i t _ a hb⟩
theorem rows_small {s : Standing} (W : WF s) : (Sj10.rows s.bouts.length).length ≤ 512 := by
  rw [Mth.rows_length]; exact small_pow W.b9
/-- one list more -/
theorem ll_one {B H H' : Hp} {p o0 : Addr} {ls : List (List Nat)} {l0 : List Nat} {ts : List Addr} (h2 : Lists H ts ls) (h3 : ∀ t ∈ ts, t ≠ p ∧ B t = none) (e : ∀ b u, b ≠ p → H b = some u → H' b = some u)
    (hp : H' p = some (.lst (ts.map V.ref ++ [.ref o0]))) (h0 : H' o0 = some (.lst (nl l0))) (n0 : o0 ≠ p ∧ B o0 = none) : LL B H' p (ls ++ [l0]) := by
  refine ⟨ts ++ [o0], by rw [hp, List.map_append]; rfl, ⟨by simp [h2.1], fun i t l a b => ?_⟩, fun t ht => ?_⟩
  · by_cases c : i < ts.length
    · rw [List.getElem?_append_left c] at a
      rw [List.getElem?_append_left (by rw [← h2.1]; exact c)] at b
      exact e _ _ (h3 t (List.mem_of_getElem? a)).1 (h2.2 i t l a b)
    · rw [List.getElem?_append_right (by omega)] at a
      rw [List.getElem?_append_right (by rw [← h2.1]; omega), ← h2.1] at b
      match i - ts.length, a, b with
      | 0, a, b => cases a; cases b; exact h0
      | k + 1, a, b => simp at a
  · rcases List.mem_append.mp ht with z | z
    · exact h3 t z
    · have := List.mem_singleton.mp z
      subst this; exact n0
section
variable {P : Program} {w : World} {K : PySem.W.Frag} {mg : Str → Option Value} {base : Heap} {CS CD CR fR : Addr}
/-! ### earliest_for(standing, who). Slots: standing, who, outcome -/
def spEf (CS : Addr) : Sp := fun vs H Q _ => ∃ (st w b : Addr) (s : Standing) (i : Nat), vs = [.ref st, .int i] ∧ StAt CS H st w b s ∧ WF s ∧ i < s.wins.length ∧ (s.can i = none → RetV H .non Q) ∧
  ∀ o, s.can i = some o → ∀ (H' : Hp) (p : Addr), Same H H' → H' p = some (.lst (nl o)) → Q (.ref p) H'
abbrev sEf : Stmt := top 16
abbrev nEf : List Str := ["standing", "who", "outcome"]
theorem scEf : FnScope nEf ["standing", "who"] (defScope sEf) := ⟨rfl, rfl, rfl, by decide +kernel, rfl, by decide +kernel, by decide +kernel⟩
abbrev tOuts (K : PySem.W.Frag) : TE := tCall spOut [] E0 (tCons (tCB (rLen K) (tCons (tFld K (tVar 0) "bouts") tNil)) tNil)
def t_ef (K : PySem.W.Frag) (CS : Addr) : TS :=
  tSeq (tFor (iList K (tOuts K)) (gName 2)
      (tIfS (tB (tCall (spFi K) [] E0 (tCons (tCall (spWB K CS) [] E0 (tCons (tVar 0) (tCons (tVar 2) tNil))) (tCons (tVar 1) tNil)))) (tRet (tVar 2)) tNext))
    (tRet (tC .non))
theorem pure_ef (T : Txt K mg CS CD CR fR) (vs : List V) (H : Hp) (Q : VK) (E : XK) (h : spEf CS vs H Q E) : t_ef K CS { nx := fun _ H' => Q .non H', rt := Q } (start nEf vs) H := by
  obtain ⟨st, w, b, s, i, rfl, S, W, hi, kN, kS⟩ := h
  obtain ⟨⟨dx, h1⟩, h2, ⟨ts, h3, h4⟩, h5⟩ := id S
  refine ⟨_, rfl, st, CS, dx, _, _, rfl, h1, T.clS, T.nB, stF_b w b, b, _, rfl, .inl (.inl (.inl h3)), s.bouts.length, by rw [List.length_map, h4.1]; rfl, W.b9, fun H1 p s1 hp hL => ?_⟩
  obtain ⟨us, g1, g2, g3⟩ := hL
  refine ⟨p, rfl, ⟨_, .inl (.inl g1)⟩, for_list (K := K) (a := p) (xs := us.map V.ref) (fun j σ H' => ∃ v : Option V, σ = [some (.ref st), some (.int i), v] ∧ Same H1 H' ∧ ∀ o ∈ (Sj10.rows s.bouts.length).take j, s.first o i = false)
    ⟨none, rfl, Same.refl _, fun o ho => by simp at ho⟩ (fun j σ H' _ ⟨_, _, s2, _⟩ => .inl (.inl (s2 _ _ g1))) ?_ ?_⟩
  · rintro j x σ H' hx ⟨v, rfl, s2, hn⟩
    obtain ⟨t, o, ht, rfl, ho, e⟩ := list_at g2 hx
    obtain ⟨o1, o2⟩ := Mth.mem_rows.mp (List.mem_of_getElem? ho)
    refine ⟨_, rfl, _, rfl, st, w, b, t, s, o, rfl, S.same (s1.trans s2), W, .inl (.inl (s2 _ _ e)), o1, o2, fun H3 q s3 hq hv => ?_⟩
    refine ⟨_, rfl, q, Mth.endsL s o, i, rfl, .inl (.inl hv), by rw [Mth.endsL_length]; exact hi, _, rfl, ?_⟩
    rw [← Mth.first_eq hi]
    cases c : s.first o i with
    | true =>
      refine iteT ⟨_, rfl, ?_⟩
      exact kS o (find_at ho c hn) H3 t (s1.trans (s2.trans s3)) (s3 _ _ (s2 _ _ e))
    | false =>
      refine iteF ⟨_, rfl, s2.trans s3, fun y hy => ?_⟩
      rw [List.take_add_one, ho, List.mem_append] at hy
      rcases hy with z | z
      · exact hn y z
      · have := List.mem_singleton.mp z
        rw [this]; exact c
  · rintro σ H' ⟨v, rfl, s2, hn⟩
    rw [List.length_map, g2.1, List.take_length] at hn
    refine kN ?_ H' (s1.trans s2)
    unfold Standing.can
    rw [List.find?_eq_none]
    intro o ho
    rw [hn o ho]
    exact Bool.false_ne_true
theorem ok_ef {f : Addr} {fd : FuncData} (F : Fun K "earliest_for" "earliest_for" sEf f fd) (T : Txt K mg CS CD CR fR) (C1 : Cal P w K mg base "outcomes" CX0 1 ["many"] spOut) (C2 : Cal P w K mg base "wins_by" CX0 2 ["standing", "outcome"] (spWB K CS)) (C3 : Cal P w K mg base "is_first" CX0 1 ["wins", "who"] (spFi K)) :
    FnOk P w K mg base CX0 3 f fd ["standing", "who"] (spEf CS) := by
  refine F.ok scEf (fun vs H Q E h => ?_) (fun cdv A outer s H vs Q E hr h => ⟨t_ef K CS, ?_, pure_ef T vs H Q E h⟩)
  · obtain ⟨st, w, b, s, i, rfl, _⟩ := h
    rfl
  · have hr1 : Room 1 _ := hr.mono (by decide)
    exact pss_cons (ps_for PassesOwn.never rfl (pi_list (pe_cal C1 hr1 rfl pass0 (pa_cons (pe_callB call_len_seq (by rfl) T.len PySem.boot_len (pa_cons (pe_fld (pv 0) rfl) pa_nil)) pa_nil))) (pg_name (i := 2) scEf.nd rfl (Or.inl rfl))
        (pss_one (ps_if (pt_val (pe_cal C3 hr1 rfl pass0 (pa_cons (pe_cal C2 hr rfl pass0 (pa_cons (pv 0) (pa_cons (pv 2) pa_nil))) (pa_cons (pv 1) pa_nil)))) (pss_one (ps_ret (pv 2))) pss_nil)))
      (pss_one (ps_ret pe_non))
/-! ### wins_that_fail(standing, who). Slots: standing, who, found, outcome -/
def spWf (CS : Addr) : Sp := fun vs H Q _ => ∃ (st w b : Addr) (s : Standing) (i : Nat), vs = [.ref st, .int i] ∧ StAt CS H st w b s ∧ WF s ∧ i < s.wins.length ∧ Ret H (.lst (nl (Mth.fails s i))) Q
abbrev sWf : Stmt := top 18
abbrev nWf : List Str := ["standing", "who", "found", "outcome"]
theorem scWf : FnScope nWf ["standing", "who"] (defScope sWf) := ⟨rfl, rfl, rfl, by decide +kernel, rfl, by decide +kernel, by decide +kernel⟩
def t_wf (K : PySem.W.Frag) (CS : Addr) : TS :=
  tSeq (tAsg (tLst tNil) (gName 2))
    (tSeq (tFor (iList K (tOuts K)) (gName 3)
      (tIfS (tNot (tB (tCall (spFi K) [] E0 (tCons (tCall (spWB K CS) [] E0 (tCons (tVar 0) (tCons (tVar 3) tNil))) (tCons (tVar 1) tNil)))))
        (tDrop (tBM K "list" rAppend (tVar 2) (tCons (tCall (spOw K CS) [] E0 (tCons (tVar 0) (tCons (tVar 3) (tCons (tVar 1) tNil)))) tNil))) tNext))
    (tRet (tVar 2)))
theorem pure_wf (T : Txt K mg CS CD CR fR) (vs : List V) (H : Hp) (Q : VK) (E : XK) (h : spWf CS vs H Q E) : t_wf K CS { nx := fun _ H' => Q .non H', rt := Q } (start nWf vs) H := by
  obtain ⟨st, w, b, s, i, rfl, S, W, hi, k⟩ := h
  refine ⟨Nat.zero_le _, fun f hf => ?_⟩
  have q0 := same_upd (o := .lst []) hf
  obtain ⟨⟨dx, h1⟩, h2, ⟨ts, h3, h4⟩, h5⟩ := S.same q0
  refine ⟨_, rfl, st, CS, dx, _, _, rfl, h1, T.clS, T.nB, stF_b w b, b, _, rfl, .inl (.inl (.inl h3)), s.bouts.length, by rw [List.length_map, h4.1]; rfl, W.b9, fun H1 p s1 hp hL => ?_⟩
  obtain ⟨us, g1, g2, g3⟩ := hL
  have hfp : f ≠ p := ne_of_none upd_same hp
  have s01 := q0.trans s1
  refine ⟨p, rfl, ⟨_, .inl (.inl g1)⟩, for_list (K := K) (a := p) (xs := us.map V.ref) (fun j σ H' => ∃ v : Option V, σ = [some (.ref st), some (.int i), some (.ref f), v] ∧ Same H H' ∧ (∀ c u, c ≠ f → H1 c = some u → H' c = some u) ∧
      H' f = some (.lst (nl ((((Sj10.rows s.bouts.length).take j).filter fun o => !s.first o i).map fun o => s.own o i))))
    ⟨none, rfl, s01, fun c u _ e => e, s1 _ _ upd_same⟩ (fun j σ H' _ ⟨_, _, _, s2, _⟩ => .inl (.inl (s2 _ _ hfp.symm g1))) ?_ ?_⟩
  · rintro j x σ H' hx ⟨v, rfl, sH, s2, hF⟩
    obtain ⟨t, o, ht, rfl, ho, e⟩ := list_at g2 hx
    obtain ⟨o1, o2⟩ := Mth.mem_rows.mp (List.mem_of_getElem? ho)
    have htf : t ≠ f := by
      exact (ne_of_none upd_same (g3 t (List.mem_of_getElem? ht)).2).symm
    have et := s2 _ _ htf e
    refine ⟨_, rfl, _, rfl, st, w, b, t, s, o, rfl, S.same sH, W, .inl (.inl et), o1, o2, fun H3 q s3 hq hv => ?_⟩
    refine ⟨_, rfl, q, Mth.endsL s o, i, rfl, .inl (.inl hv), by rw [Mth.endsL_length]; exact hi, _, rfl, ?_⟩
    rw [← Mth.first_eq hi]
    have fm := filt_more (f := fun o => !s.first o i) ho
    cases c : s.first o i with
    | true =>
      refine iteF ⟨_, rfl, sH.trans s3, fun c u hc e => s3 _ _ (s2 _ _ hc e), ?_⟩
      rw [fm, if_neg (by rw [c]; exact Bool.false_ne_true), List.append_nil]
      exact s3 _ _ hF
    | false =>
      have hF3 := s3 _ _ hF
      refine iteT ⟨_, rfl, ⟨tyL (.inl (.inl hF3)), _, rfl, _, rfl, _, rfl, st, w, b, t, s, o, i, rfl, S.same (sH.trans s3), W, .inl (.inl (s3 _ _ et)), o1, o2, hi, fun H4 s4 => ?_⟩⟩
      have hF4 := s4 _ _ hF3
      refine ⟨f, _, _, rfl, rfl, hF4, ?_, ?_⟩
      · rw [nl_length, List.length_map]
        refine lt_line (Nat.le_trans (List.length_filter_le _ _) ?_)
        rw [List.length_take]
        have := rows_small W
        omega
      · refine ⟨_, rfl, Same.over ((sH.trans s3).trans s4) hf, fun c u hc e => ?_, ?_⟩
        · rw [upd_ne hc]; exact s4 _ _ (s3 _ _ (s2 _ _ hc e))
        · rw [upd_same, fm, if_pos (by rw [c]; rfl), List.map_append, nl_append]; rfl
  · rintro σ H' ⟨v, rfl, sH, s2, hF⟩
    rw [List.length_map, g2.1, List.take_length] at hF
    exact ⟨_, rfl, k H' f sH hf hF⟩
end
end Sf
namespace Sf
open PySem PySem.Spec PyProof.Rows L2
open Mth (WF ofN)
open Sj10 (Standing)
theorem map_len_filter {α β : Type} (g : α → β) (f : β → Bool) : ∀ l : List α, ((l.map g).filter f).length = (l.filter fun x => f (g x)).length
  | [] => rfl
  | a :: l => by
    rw [List.map_cons, List.filter_cons, List.filter_cons]
    cases f (g a) <;> simp [map_len_filter g f l]
theorem filter_len_congr {α : Type} {f g : α → Bool} (l : List α) (h : ∀ x ∈ l, f x = g x) : (l.filter f).length = (l.filter g).length := by rw [List.filter_congr h]
section
variable {P : Program} {w : World} {K : PySem.W.Frag} {mg : Str → Option Value} {base : Heap} {CS CD CR fR : Addr}
/-! ### odds_of(standing, who). Slots: standing, who, ends, firsts, alone, outcome, wins -/
def spOd (CS : Addr) : Sp := fun vs H Q _ => ∃ (st w b : Addr) (s : Standing) (i : Nat), vs = [.ref st, .int i] ∧ StAt CS H st w b s ∧ WF s ∧ i < s.wins.length ∧ Ret H (.lst (nl [(s.odds i).1, (s.odds i).2, 2 ^ s.bouts.length])) Q
abbrev sOd : Stmt := top 17
abbrev nOd : List Str := ["standing", "who", "ends", "firsts", "alone", "outcome", "wins"]
theorem scOd : FnScope nOd ["standing", "who"] (defScope sOd) := ⟨rfl, rfl, rfl, by decide +kernel, rfl, by decide +kernel, by decide +kernel⟩
abbrev tIsF (K : PySem.W.Frag) : TE := tCall (spFi K) [] E0 (tCons (tVar 6) (tCons (tVar 1) tNil))
abbrev tIsA (K : PySem.W.Frag) : TE := tCall (spAl K) [] E0 (tCons (tVar 6) (tCons (tVar 1) tNil))
def t_od (K : PySem.W.Frag) (CS : Addr) : TS :=
  tSeq (tAsg (tLc (iList K (tOuts K)) (gName 5) tYes (tCall (spWB K CS) [] E0 (tCons (tVar 0) (tCons (tVar 5) tNil))) [5]) (gName 2))
    (tSeq (tAsg (tCB (rLen K) (tCons (tLc (iList K (tVar 2)) (gName 6) (tB (tIsF K)) (tVar 6) [6]) tNil)) (gName 3))
    (tSeq (tAsg (tCB (rLen K) (tCons (tLc (iList K (tVar 2)) (gName 6) (tB (tIsA K)) (tVar 6) [6]) tNil)) (gName 4))
    (tRet (tLst (tCons (tVar 4) (tCons (tOp rSub (tVar 3) (tVar 4)) (tCons (tCB (rLen K) (tCons (tVar 2) tNil)) tNil)))))))
theorem pure_od (T : Txt K mg CS CD CR fR) (vs : List V) (H : Hp) (Q : VK) (E : XK) (h : spOd CS vs H Q E) : t_od K CS { nx := fun _ H' => Q .non H', rt := Q } (start nOd vs) H := by
  obtain ⟨st, w, b, s, i, rfl, S, W, hi, k⟩ := h
  obtain ⟨⟨dx, h1⟩, h2, ⟨ts, h3, h4⟩, h5⟩ := id S
  have small := rows_small W
  refine ⟨_, rfl, st, CS, dx, _, _, rfl, h1, T.clS, T.nB, stF_b w b, b, _, rfl, .inl (.inl (.inl h3)), s.bouts.length, by rw [List.length_map, h4.1]; rfl, W.b9, fun H1 p s1 hp hL => ?_⟩
  obtain ⟨us, g1, g2, g3⟩ := hL
  refine ⟨p, rfl, ⟨_, .inl (.inl g1)⟩, fun D hD => ?_⟩
  refine lc_list (K := K) (a := p) (xs := us.map V.ref) (fun j H' => Same H1 H' ∧ LL H H' D (((Sj10.rows s.bouts.length).take j).map (Mth.endsL s)))
    ⟨same_upd hD, ll_nil upd_same⟩ (fun j H' _ ⟨s2, _⟩ => .inl (.inl (s2 _ _ g1))) ?_ ?_
  · rintro j x A hx ⟨s2, es, e1, e2, e3⟩
    obtain ⟨t, o, ht, rfl, ho, e⟩ := list_at g2 hx
    obtain ⟨o1, o2⟩ := Mth.mem_rows.mp (List.mem_of_getElem? ho)
    refine ⟨rfl, ?_⟩
    dsimp only [tYes]
    rw [if_pos rfl]
    refine ⟨_, rfl, _, rfl, st, w, b, t, s, o, rfl, S.same (s1.trans s2), W, .inl (.inl (s2 _ _ e)), o1, o2, fun H3 q s3 hq hv => ?_⟩
    have hqD : q ≠ D := (ne_of_none e1 hq).symm
    have hqH : H q = none := (s1.trans s2).free hq
    refine ⟨_, s3 _ _ e1, ?_, Same.over (s2.trans s3) hD, ?_⟩
    · rw [List.length_map, e2.1, List.length_map, List.length_take]
      exact lt_line (by omega)
    · rw [List.take_add_one, ho, Option.toList_some, List.map_append]
      refine ll_one (l0 := Mth.endsL s o) e2 e3 (fun b u hb e => by rw [upd_ne hb]; exact s3 _ _ e) upd_same ?_ ⟨hqD, hqH⟩
      rw [upd_ne hqD]; exact hv
  · rintro A ⟨s2, hL⟩
    rw [List.length_map, g2.1, List.take_length] at hL
    obtain ⟨es, e1, e2, e3⟩ := hL
    have sA := s1.trans s2
    have lenE : (es.map V.ref).length = 2 ^ s.bouts.length := by rw [List.length_map, e2.1, List.length_map, Mth.rows_length]
    have cnt : ∀ (f : List Nat → Bool) (j : Nat) (l : List Nat) (n : Nat), (((Sj10.rows s.bouts.length).map (Mth.endsL s)))[j]? = some l → n = (((((Sj10.rows s.bouts.length).map (Mth.endsL s))).take j).filter f).length →
        n < sizeLine ∧ (f l = true → n + 1 = (((((Sj10.rows s.bouts.length).map (Mth.endsL s))).take (j + 1)).filter f).length) ∧ (f l = false → n = (((((Sj10.rows s.bouts.length).map (Mth.endsL s))).take (j + 1)).filter f).length) := fun f j l n hl hn => by
      have fm := filt_more (f := f) hl
      refine ⟨?_, fun c => ?_, fun c => ?_⟩
      · rw [hn]
        refine lt_line (Nat.le_trans (List.length_filter_le _ _) ?_)
        rw [List.length_take, List.length_map]; omega
      · rw [fm, if_pos c, List.length_append, ← hn]; rfl
      · rw [fm, if_neg (by rw [c]; exact Bool.false_ne_true), List.append_nil, ← hn]
    have rowlen : ∀ (j : Nat) (l : List Nat), (((Sj10.rows s.bouts.length).map (Mth.endsL s)))[j]? = some l → l.length = s.wins.length := fun j l hl => by
      obtain ⟨o, _, rfl⟩ := List.mem_map.mp (List.mem_of_getElem? hl)
      exact Mth.endsL_length s o
    -- firsts
    refine ⟨_, rfl, D, rfl, ⟨_, .inl (.inl e1)⟩, fun D2 hD2 => ?_⟩
    refine lc_list (K := K) (a := D) (xs := es.map V.ref) (fun j H' => Same A H' ∧ ∃ acc : List V, H' D2 = some (.lst acc) ∧ acc.length = ((((Sj10.rows s.bouts.length).map (Mth.endsL s)).take j).filter fun l => Mth.firstL l i).length)
      ⟨same_upd hD2, [], upd_same, rfl⟩ (fun j H' _ ⟨s3, _⟩ => .inl (.inl (s3 _ _ e1))) ?_ ?_
    · rintro j x B hx ⟨s3, acc, ha, hl⟩
      obtain ⟨t, l, ht, rfl, hl2, e⟩ := list_at e2 hx
      obtain ⟨c1, c2, c3⟩ := cnt (fun l => Mth.firstL l i) j l _ hl2 hl
      refine ⟨rfl, _, rfl, _, rfl, t, l, i, rfl, .inl (.inl (s3 _ _ e)), by rw [rowlen j l hl2]; exact hi, _, rfl, ?_⟩
      cases c : Mth.firstL l i with
      | true => exact iteT ⟨_, rfl, acc, ha, c1, Same.over s3 hD2, _, upd_same, by rw [List.length_append]; exact c2 c⟩
      | false => exact iteF ⟨s3, acc, ha, c3 c⟩
    · rintro B ⟨s3, acc, ha, hl⟩
      rw [List.length_map, e2.1, List.take_length] at hl
      refine ⟨D2, acc, rfl, .inl (.inl (.inl ha)), ?_⟩
      -- alone
      refine ⟨_, rfl, D, rfl, ⟨_, .inl (.inl (s3 _ _ e1))⟩, fun D3 hD3 => ?_⟩
      refine lc_list (K := K) (a := D) (xs := es.map V.ref) (fun j H' => Same B H' ∧ ∃ acc : List V, H' D3 = some (.lst acc) ∧ acc.length = ((((Sj10.rows s.bouts.length).map (Mth.endsL s)).take j).filter fun l => Mth.aloneL l i).length)
        ⟨same_upd hD3, [], upd_same, rfl⟩ (fun j H' _ ⟨s4, _⟩ => .inl (.inl (s4 _ _ (s3 _ _ e1)))) ?_ ?_
      · rintro j x G hx ⟨s4, acc2, ha2, hl3⟩
        obtain ⟨t, l, ht, rfl, hl2, e⟩ := list_at e2 hx
        obtain ⟨c1, c2, c3⟩ := cnt (fun l => Mth.aloneL l i) j l _ hl2 hl3
        refine ⟨rfl, _, rfl, _, rfl, t, l, i, rfl, .inl (.inl (s4 _ _ (s3 _ _ e))), by rw [rowlen j l hl2]; exact hi, _, rfl, ?_⟩
        cases c : Mth.aloneL l i with
        | true => exact iteT ⟨_, rfl, acc2, ha2, c1, Same.over s4 hD3, _, upd_same, by rw [List.length_append]; exact c2 c⟩
        | false => exact iteF ⟨s4, acc2, ha2, c3 c⟩
      · rintro G ⟨s4, acc2, ha2, hl3⟩
        rw [List.length_map, e2.1, List.take_length] at hl3
        refine ⟨D3, acc2, rfl, .inl (.inl (.inl ha2)), ?_⟩
        refine ⟨_, rfl, _, rfl, _, rfl, _, _, rfl, rfl, _, rfl, D, _, rfl, .inl (.inl (.inl (s4 _ _ (s3 _ _ e1)))), le_line (by simp), fun r hr => ?_⟩
        have sG := (sA.trans s3).trans s4
        refine k _ r (Same.over sG (sG.free hr)) (sG.free hr) ?_
        rw [upd_same]
        have eA : acc2.length = (s.odds i).1 := by
          rw [hl3, map_len_filter]
          exact filter_len_congr _ fun o _ => (Mth.alone_eq hi).symm
        have eF : acc.length = ((Sj10.rows s.bouts.length).filter fun o => s.first o i).length := by
          rw [hl, map_len_filter]
          exact filter_len_congr _ fun o _ => (Mth.first_eq hi).symm
        obtain ⟨d1, d2⟩ := Mth.odds_split (fun o => s.first o i) (fun o => s.alone o i) (Sj10.rows s.bouts.length) fun o _ q => Mth.alone_first hi q
        have eB : ((acc.length : Nat) : Int) - ((acc2.length : Nat) : Int) = (((s.odds i).2 : Nat) : Int) := by
          rw [eF, eA]
          show _ = (((((Sj10.rows s.bouts.length).filter fun o => s.first o i && !s.alone o i).length : Nat)) : Int)
          rw [d1]
          show _ - (((((Sj10.rows s.bouts.length).filter fun o => s.alone o i).length : Nat)) : Int) = _
          omega
        have goal : (HO.lst [V.int (acc2.length : Nat), V.int (((acc.length : Nat) : Int) - ((acc2.length : Nat) : Int)), V.int ((es.map V.ref).length : Nat)]) = HO.lst (nl [(s.odds i).1, (s.odds i).2, 2 ^ s.bouts.length]) := by
          rw [eB, eA, lenE]; rfl
        exact congrArg some goal
theorem ok_od {f : Addr} {fd : FuncData} (F : Fun K "odds_of" "odds_of" sOd f fd) (T : Txt K mg CS CD CR fR) (C1 : Cal P w K mg base "outcomes" CX0 1 ["many"] spOut) (C2 : Cal P w K mg base "wins_by" CX0 2 ["standing", "outcome"] (spWB K CS)) (C3 : Cal P w K mg base "is_first" CX0 1 ["wins", "who"] (spFi K))
    (C4 : Cal P w K mg base "is_alone" CX0 2 ["wins", "who"] (spAl K)) : FnOk P w K mg base CX0 3 f fd ["standing", "who"] (spOd CS) := by
  refine F.ok scOd (fun vs H Q E h => ?_) (fun cdv A outer s H vs Q E hr h => ⟨t_od K CS, ?_, pure_od T vs H Q E h⟩)
  · obtain ⟨st, w, b, s, i, rfl, _⟩ := h
    rfl
  · have hr1 : Room 1 _ := hr.mono (by decide)
    exact pss_cons (ps_setLc (i := 2) (own := [("outcome", 5)]) (g := gName 5) (tt := tYes) rfl scOd.nd rfl rfl (sw_true rfl rfl rfl (by decide +kernel))
        (pi_list (pe_cal C1 hr1 rfl pass0 (pa_cons (pe_callB call_len_seq (by rfl) T.len PySem.boot_len (pa_cons (pe_fld (pv 0) rfl) pa_nil)) pa_nil))) (blkOk_by (N := nOd) (sc := defScope sOd) (by decide +kernel))
        (fun _ _ _ _ _ => pg_name (i := 5) scOd.nd rfl (Or.inl rfl)) (fun _ _ _ _ _ => pts_nil) (fun _ _ _ _ _ => pe_cal C2 hr rfl pass0 (pa_cons (pv 0) (pa_cons (pv 5) pa_nil))))
      (pss_cons (ps_set (i := 3) scOd.nd rfl (Or.inl rfl) (pe_callB call_len_seq (by rfl) T.len PySem.boot_len (pa_cons
        (pe_lc (own := [("wins", 6)]) (g := gName 6) (tt := tB (tIsF K)) rfl scOd.nd (pi_list (pv 2)) (blkOk_by (N := nOd) (sc := defScope sOd) (by decide +kernel))
          (fun _ _ _ _ _ => pg_name (i := 6) scOd.nd rfl (Or.inl rfl)) (fun _ _ _ _ _ => pts_one (pt_val (pe_cal C3 hr1 rfl pass0 (pa_cons (pv 6) (pa_cons (pv 1) pa_nil))))) (fun _ _ _ _ _ => pv 6)) pa_nil)))
      (pss_cons (ps_set (i := 4) scOd.nd rfl (Or.inl rfl) (pe_callB call_len_seq (by rfl) T.len PySem.boot_len (pa_cons
        (pe_lc (own := [("wins", 6)]) (g := gName 6) (tt := tB (tIsA K)) rfl scOd.nd (pi_list (pv 2)) (blkOk_by (N := nOd) (sc := defScope sOd) (by decide +kernel))
          (fun _ _ _ _ _ => pg_name (i := 6) scOd.nd rfl (Or.inl rfl)) (fun _ _ _ _ _ => pts_one (pt_val (pe_cal C4 hr rfl pass0 (pa_cons (pv 6) (pa_cons (pv 1) pa_nil))))) (fun _ _ _ _ _ => pv 6)) pa_nil)))
      (pss_one (ps_ret (pe_lst (pa_cons (pv 4) (pa_cons (pe_op op_sub (pv 3) (pv 4)) (pa_cons (pe_callB call_len_seq (by rfl) T.len PySem.boot_len (pa_cons (pv 2) pa_nil)) pa_nil))))))))
/-! ### wins_needed(standing, who). Slots: standing, who, needed -/
def spWn (CS : Addr) : Sp := fun vs H Q _ => ∃ (st w b : Addr) (s : Standing) (i : Nat), vs = [.ref st, .int i] ∧ StAt CS H st w b s ∧ WF s ∧ i < s.wins.length ∧ RetV H (optV (s.needs i)) Q
abbrev sWn : Stmt := top 19
abbrev nWn : List Str := ["standing", "who", "needed"]
theorem scWn : FnScope nWn ["standing", "who"] (defScope sWn) := ⟨rfl, rfl, rfl, by decide +kernel, rfl, by decide +kernel, by decide +kernel⟩
def rNeg : V → Hp → VK → Prop := rU fun i => .int (-i)
def t_wn (K : PySem.W.Frag) (CS : Addr) : TS :=
  tSeq (tAsg (tOp rAdd (tC (.int 1)) (tCB (rMax K) (tCons (tOp rCat (tLst (tCons (tUn rNeg (tC (.int 1))) tNil)) (tCall (spWf CS) [] E0 (tCons (tVar 0) (tCons (tVar 1) tNil)))) tNil))) (gName 2))
    (tSeq (tIfS (tTest (tOp rGt (tVar 2) (tCall (spOb CS) [] E0 (tCons (tVar 0) (tCons (tVar 1) tNil))))) (tRet (tC .non)) tNext)
    (tRet (tVar 2)))
theorem fails_len {s : Standing} (W : WF s) (i : Nat) : (Mth.fails s i).length ≤ 512 := by
  unfold Mth.fails
  rw [List.length_map]
  exact Nat.le_trans (List.length_filter_le _ _) (rows_small W)
theorem pure_wn (T : Txt K mg CS CD CR fR) (vs : List V) (H : Hp) (Q : VK) (E : XK) (h : spWn CS vs H Q E) : t_wn K CS { nx := fun _ H' => Q .non H', rt := Q } (start nWn vs) H := by
  obtain ⟨st, w, b, s, i, rfl, S, W, hi, k⟩ := h
  have fl := fails_len W i
  refine ⟨_, rfl, le_line (by simp), fun z hz => ?_⟩
  have q1 := same_upd (o := .lst [V.int (-1)]) hz
  refine ⟨_, rfl, _, rfl, st, w, b, s, i, rfl, S.same q1, W, hi, fun H1 p s1 hp hv => ?_⟩
  refine ⟨z, p, _, _, rfl, rfl, s1 _ _ upd_same, hv, le_line (by rw [nl_length]; simp; omega), fun r hr => ?_⟩
  have q2 := same_upd (o := .lst ([V.int (-1)] ++ nl (Mth.fails s i))) hr
  have s2 := (q1.trans s1).trans q2
  refine ⟨r, (-1) :: ofN (Mth.fails s i), rfl, .inl (.inl upd_same), by simp, fun m hm hle => ?_⟩
  refine ⟨_, _, rfl, rfl, ?_⟩
  have hm1 : -1 ≤ m := hle (-1) List.mem_cons_self
  obtain ⟨a, ha⟩ : ∃ a : Nat, (1 : Int) + m = a := ⟨(1 + m).toNat, by omega⟩
  have h1 : ∀ x ∈ Mth.fails s i, x < a := fun x hx => by
    have := hle (x : Int) (List.mem_cons_of_mem _ (List.mem_map.mpr ⟨x, hx, rfl⟩))
    omega
  have h2 : a = 0 ∨ a - 1 ∈ Mth.fails s i := by
    rcases List.mem_cons.mp hm with e | e
    · left; omega
    · right
      obtain ⟨x, hx, e⟩ := List.mem_map.mp e
      have : a - 1 = x := by omega
      rw [this]; exact hx
  have en := Mth.needs_eq h1 h2
  refine ⟨_, rfl, _, rfl, _, rfl, st, w, b, s, i, rfl, S.same s2, W, fun H3 s3 => ?_⟩
  refine ⟨_, _, rfl, rfl, _, rfl, ?_⟩
  by_cases c : a ≤ s.left i
  · rw [if_pos c] at en
    rw [en] at k
    have e : decide (((s.left i : Nat) : Int) < 1 + m) = false := by
      apply decide_eq_false
      omega
    rw [e]
    refine iteF ⟨_, rfl, ?_⟩
    have k' := k H3 (s2.trans s3)
    show Q (.int (1 + m)) H3
    rw [ha]
    exact k'
  · rw [if_neg c] at en
    rw [en] at k
    have e : decide (((s.left i : Nat) : Int) < 1 + m) = true := by
      apply decide_eq_true
      omega
    rw [e]
    exact iteT (k H3 (s2.trans s3))
theorem ok_wn {f : Addr} {fd : FuncData} (F : Fun K "wins_needed" "wins_needed" sWn f fd) (T : Txt K mg CS CD CR fR) (C1 : Cal P w K mg base "wins_that_fail" CX0 4 ["standing", "who"] (spWf CS)) (C2 : Cal P w K mg base "own_bouts" CX0 1 ["standing", "who"] (spOb CS)) :
    FnOk P w K mg base CX0 5 f fd ["standing", "who"] (spWn CS) := by
  refine F.ok scWn (fun vs H Q E h => ?_) (fun cdv A outer s H vs Q E hr h => ⟨t_wn K CS, ?_, pure_wn T vs H Q E h⟩)
  · obtain ⟨st, w, b, s, i, rfl, _⟩ := h
    rfl
  · have hr1 : Room 1 _ := hr.mono (by decide)
    exact pss_cons (ps_set (i := 2) scWn.nd rfl (Or.inl rfl) (pe_op op_add pe_int (pe_callB (cr_max rfl) (by rfl) T.max (by decide +kernel) (pa_cons
        (pe_op op_cat (pe_lst (pa_cons (pe_un un_neg pe_int) pa_nil)) (pe_cal C1 hr rfl pass0 (pa_cons (pv 0) (pa_cons (pv 1) pa_nil)))) pa_nil))))
      (pss_cons (ps_if (pt_cmpR op_gt (pv 2) (pe_cal C2 hr1 rfl pass0 (pa_cons (pv 0) (pa_cons (pv 1) pa_nil))) (nomark _)) (pss_one (ps_ret pe_non)) pss_nil)
      (pss_one (ps_ret (pv 2))))
theorem ok_wf {f : Addr} {fd : FuncData} (F : Fun K "wins_that_fail" "wins_that_fail" sWf f fd) (T : Txt K mg CS CD CR fR) (C1 : Cal P w K mg base "outcomes" CX0 1 ["many"] spOut) (C2 : Cal P w K mg base "wins_by" CX0 2 ["standing", "outcome"] (spWB K CS)) (C3 : Cal P w K mg base "is_first" CX0 1 ["wins", "who"] (spFi K))
    (C4 : Cal P w K mg base "own_wins" CX0 3 ["standing", "outcome", "who"] (spOw K CS)) : FnOk P w K mg base CX0 4 f fd ["standing", "who"] (spWf CS) := by
  refine F.ok scWf (fun vs H Q E h => ?_) (fun cdv A outer s H vs Q E hr h => ⟨t_wf K CS, ?_, pure_wf T vs H Q E h⟩)
  · obtain ⟨st, w, b, s, i, rfl, _⟩ := h
    rfl
  · have hr1 : Room 1 _ := hr.mono (by decide)
    have hr2 : Room 2 _ := hr.mono (by decide)
    exact pss_cons (ps_set (i := 2) scWf.nd rfl (Or.inl rfl) (pe_lst pa_nil))
      (pss_cons (ps_for PassesOwn.never rfl (pi_list (pe_cal C1 hr1 rfl pass0 (pa_cons (pe_callB call_len_seq (by rfl) T.len PySem.boot_len (pa_cons (pe_fld (pv 0) rfl) pa_nil)) pa_nil))) (pg_name (i := 3) scWf.nd rfl (Or.inl rfl))
        (pss_one (ps_if (pt_not (pt_val (pe_cal C3 hr1 rfl pass0 (pa_cons (pe_cal C2 hr2 rfl pass0 (pa_cons (pv 0) (pa_cons (pv 3) pa_nil))) (pa_cons (pv 1) pa_nil)))))
          (pss_one (ps_expr (pe_bm PySem.F.plainAttrs_list PySem.F.slot_list_append PySem.F.type_list_append mt_append (pv 2) (pa_cons (pe_cal C4 hr rfl pass0 (pa_cons (pv 0) (pa_cons (pv 3) (pa_cons (pv 1) pa_nil)))) pa_nil)))) pss_nil)))
      (pss_one (ps_ret (pv 2))))
end
end Sf
namespace Sf
open PySem PySem.Spec PyProof.Rows L2
open Mth (WF ofN)
open Sj10 (Standing)
/-! ### the module's numbers -/
structure Kon (mg : Str → Option Value) : Prop where
  out : ∃ t, mg "OUT" = some (.int (-1) t)
  such : ∃ t, mg "NO_SUCH" = some (.int (-2) t)
  same : ∃ t, mg "SAME" = some (.int (-4) t)
  full : ∃ t, mg "FULL" = some (.int (-5) t)
  sure : ∃ t, mg "NOT_SURE" = some (.int (-6) t)
  mWins : ∃ t, mg "MOST_WINS" = some (.int 15 t)
  mWres : ∃ t, mg "MOST_WRESTLERS" = some (.int 6 t)
  mBout : ∃ t, mg "MOST_BOUTS" = some (.int 9 t)
theorem pe_k {X : Cx} {x : Str} {z : Int} {pos : Pos} (h : ∃ t, X.mg x = some (.int z t)) (hg : Gl X x := by rfl) (hd : (x == ("__debug__" : Str)) = false := by decide) : PE X (.Name x pos) (tC (.int z)) := by
  obtain ⟨t, e⟩ := h
  exact pe_glob hg e ⟨t, rfl⟩ hd
/-- a refusal leaves -/
def Refuse (CR : Addr) (H : Hp) (E : XK) (z : Int) : Prop := ∀ (H' : Hp) (d : Addr), Same H H' → H' d = some (.xd [(("number" : Str), .int z)]) → E (.ref CR) (some d) H'
theorem Refuse.same {CR : Addr} {H H1 : Hp} {E : XK} {z : Int} (h : Refuse CR H E z) (e : Same H H1) : Refuse CR H1 E z := fun H' d e' q => h H' d (e.trans e') q
abbrev WD (E : XK) : WX := fun cls d _ H => E cls d H
section
variable {P : Program} {w : World} {K : PySem.W.Frag} {mg : Str → Option Value} {base : Heap} {CS CD CR fR : Addr}
/-! ### refuse_if(asked, number) -/
def spRi (CR : Addr) : Sp := fun vs H Q E => ∃ (b : Bool) (z : Int), vs = [.bl b, .int z] ∧ (b = true → Refuse CR H E z) ∧ (b = false → Q .non H)
abbrev sRi : Stmt := top 31
theorem scRi : FnScope ["asked", "number"] ["asked", "number"] (defScope sRi) := ⟨rfl, rfl, rfl, by decide +kernel, rfl, by decide +kernel, by decide +kernel⟩
def t_ri (CR : Addr) (E : XK) : TS := tIfS (tB (tVar 0)) (tRaiseRef CR (WD E) (tCons (tVar 1) tNil)) tNext
theorem pure_ri (vs : List V) (H : Hp) (Q : VK) (E : XK) (h : spRi CR vs H Q E) : t_ri CR E { nx := fun _ H' => Q .non H', rt := Q } (start ["asked", "number"] vs) H := by
  obtain ⟨b, z, rfl, k1, k2⟩ := h
  refine ⟨_, rfl, b, rfl, ?_⟩
  cases b with
  | true => exact iteT ⟨_, rfl, _, rfl, fun d hd => k1 rfl _ d (same_upd hd) upd_same⟩
  | false => exact iteF (k2 rfl)
theorem ok_ri {f : Addr} {fd : FuncData} (F : Fun K "refuse_if" "refuse_if" sRi f fd) (T : Txt K mg CS CD CR fR) : FnOk P w K mg base (L2.CX P w) 3 f fd ["asked", "number"] (spRi CR) := by
  refine F.okX scRi (fun vs H Q E h => ?_) (fun cdv A outer s H vs Q E hr h => ⟨t_ri CR E, ?_, pure_ri vs H Q E h⟩)
  · obtain ⟨b, z, rfl, _⟩ := h
    rfl
  · exact pss_one (ps_if (pt_val (pv 0)) (pss_one (ps_raiseRef rfl T.ref hr (takes_of rfl rfl rfl rfl) (by exact (pa_cons (pv 1) pa_nil)))) pss_nil)
/-! ### check_there(standing, who) -/
def spCt (CS CR : Addr) : Sp := fun vs H Q E => ∃ (st w b : Addr) (s : Standing) (i : Nat), vs = [.ref st, .int i] ∧ StAt CS H st w b s ∧ (s.wins.length ≤ i → Refuse CR H E (-2)) ∧ (i < s.wins.length → Q .non H)
abbrev sCt : Stmt := top 32
theorem scCt : FnScope ["standing", "who"] ["standing", "who"] (defScope sCt) := ⟨rfl, rfl, rfl, by decide +kernel, rfl, by decide +kernel, by decide +kernel⟩
def rGe : R2 := rI0 fun i j => .bl (decide (j ≤ i))
def t_ct (K : PySem.W.Frag) (CR : Addr) (E : XK) : TS := tDrop (tCall (spRi CR) [] E (tCons (tOp rGe (tVar 1) (tCB (rLen K) (tCons (tFld K (tVar 0) "wins") tNil))) (tCons (tC (.int (-2))) tNil)))
theorem pure_ct (T : Txt K mg CS CD CR fR) (vs : List V) (H : Hp) (Q : VK) (E : XK) (h : spCt CS CR vs H Q E) : t_ct K CR E { nx := fun _ H' => Q .non H', rt := Q } (start ["standing", "who"] vs) H := by
  obtain ⟨st, w, b, s, i, rfl, ⟨⟨dx, h1⟩, h2, h3, h5⟩, k1, k2⟩ := h
  refine ⟨_, rfl, _, rfl, st, CS, dx, _, _, rfl, h1, T.clS, T.nW, stF_w w b, w, _, rfl, .inl (.inl (.inl h2)), _, _, rfl, rfl, _, _, rfl, fun c => ?_, fun c => ?_⟩
  · refine k1 ?_
    have := of_decide_eq_true c
    rw [nl_length] at this
    omega
  · refine k2 ?_
    have := of_decide_eq_false c
    rw [nl_length] at this
    omega
theorem ok_ct {f : Addr} {fd : FuncData} (F : Fun K "check_there" "check_there" sCt f fd) (T : Txt K mg CS CD CR fR) (N : Kon mg) (C1 : Cal P w K mg base "refuse_if" (L2.CX P w) 3 ["asked", "number"] (spRi CR)) : FnOk P w K mg base (L2.CX P w) 4 f fd ["standing", "who"] (spCt CS CR) := by
  refine F.okX scCt (fun vs H Q E h => ?_) (fun cdv A outer s H vs Q E hr h => ⟨t_ct K CR E, ?_, pure_ct T vs H Q E h⟩)
  · obtain ⟨st, w, b, s, i, rfl, _⟩ := h
    rfl
  · exact pss_one (ps_expr (pe_cal C1 hr rfl (passes_call (W := WD E) (takes_of rfl rfl rfl rfl) (fun _ _ _ _ h => h)) (pa_cons (pe_cmpR op_ge (pv 1) (pe_callB call_len_seq (by rfl) T.len PySem.boot_len (pa_cons (pe_fld (pv 0) rfl) pa_nil)) (nomark _)) (pa_cons (pe_k N.such) pa_nil))))
theorem free_but {H H' : Hp} {d p : Addr} {u : HO} (kp : ∀ c o, H c = some o → c ≠ d → H' c = some o) (hd : H' d = some u) (hp : H' p = none) : H p = none := by
  cases q : H p with
  | none => rfl
  | some o =>
    by_cases e : p = d
    · rw [e, hd] at hp; cases hp
    · rw [kp p o q e] at hp; cases hp
/-! ### the desk -/
def dF (st : Addr) : List (Str × V) := [("standing", .ref st)]
structure DeskAt (CD CS : Addr) (H : Hp) (d st w b : Addr) (s : Standing) : Prop where
  ob : ∃ dx, H d = some (.ins CD dx (dF st))
  at_ : StAt CS H st w b s
theorem DeskAt.same {CD CS : Addr} {H H' : Hp} {d st w b : Addr} {s : Standing} (h : DeskAt CD CS H d st w b s) (e : Same H H') : DeskAt CD CS H' d st w b s := ⟨let ⟨dx, q⟩ := h.ob; ⟨dx, e _ _ q⟩, h.at_.same e⟩
theorem dF_s (st : Addr) : (dF st).lookup ("standing" : Str) = some (.ref st) := lk_here
/-- Standing's own maker -/
def CalS (P : Program) (w : World) (K : PySem.W.Frag) (mg : Str → Option Value) (base : Heap) (CS : Addr) : Prop := ∃ (f : Addr) (fd : FuncData), Mk K CS f ∧ FnOk P w K mg base CX0 1 f fd ["self"] (spSI CS) ∧ Binds K fd ["self"] []
theorem pe_mkS {X : Cx} {p pos : Pos} (C : CalS X.prog X.w X.K X.mg X.base CS) (hr : Room 2 X.A) (gS : X.mg "Standing" = some (.ref CS)) (hg : Gl X "Standing" := by rfl) : PE X (.Call (.Name "Standing" p) [] [] pos) (tMake CS (spSI CS) [] E0 tNil) := by
  obtain ⟨f, fd, M, G, b⟩ := C
  exact pe_make0 M G hr hg gS b .nil pass0
def spDI (CD CS : Addr) : Sp := fun vs H Q _ => ∃ (x dx : Addr), vs = [.ref x] ∧ H x = some (.ins CD dx []) ∧
  ∀ (H' : Hp) (st w b : Addr), DeskAt CD CS H' x st w b Sj10.init → H st = none → H w = none → H b = none → (∀ c o, H c = some o → c ≠ x → H' c = some o) → Q .non H'
abbrev sDI : Stmt := inClass (top 30) 0
theorem scDI : FnScope ["self"] ["self"] (defScope sDI) := ⟨rfl, rfl, rfl, by decide +kernel, rfl, by decide +kernel, by decide +kernel⟩
def t_DI (K : PySem.W.Frag) (CS : Addr) : TS := sFld K (tVar 0) (tMake CS (spSI CS) [] E0 tNil) "standing"
theorem pure_DI (T : Txt K mg CS CD CR fR) (vs : List V) (H : Hp) (Q : VK) (E : XK) (h : spDI CD CS vs H Q E) : t_DI K CS { nx := fun _ H' => Q .non H', rt := Q } (start ["self"] vs) H := by
  obtain ⟨x, dx, rfl, hx, k⟩ := h
  intro y dy ny nd ne
  refine ⟨y, dy, rfl, upd_same, fun H1 w b S nw nb kp => ⟨rfl, ?_⟩⟩
  have s1 : Same H H1 := Same.made ny nd kp
  have xy := ne_of_none hx ny
  refine ⟨_, rfl, x, CD, dx, _, rfl, s1 _ _ hx, T.clD, T.nD, (by show 0 < 1000; decide), ?_⟩
  have hw0 : H w = none := ((same_upd nd).trans (same_upd (by rw [upd_ne ne.symm]; exact ny))).free nw
  have hb0 : H b = none := ((same_upd nd).trans (same_upd (by rw [upd_ne ne.symm]; exact ny))).free nb
  obtain ⟨⟨dz, h1⟩, h2, ⟨ts, h3, h4⟩, h5⟩ := S
  have hwx : w ≠ x := (ne_of_none hx hw0).symm
  have hbx : b ≠ x := (ne_of_none hx hb0).symm
  refine k _ y w b ⟨⟨dx, upd_same⟩, ⟨dz, ?_⟩, ?_, ⟨ts, ?_, h4.1, fun i t p a b => ?_⟩, h5⟩ ny hw0 hb0 fun c o e hc => ?_
  · rw [upd_ne xy.symm]; exact h1
  · rw [upd_ne hwx]; exact h2
  · rw [upd_ne hbx]; exact h3
  · have : Sj10.init.bouts = [] := rfl
    rw [this] at b; simp at b
  · rw [upd_ne hc]; exact s1 _ _ e
theorem ok_DI {f : Addr} {fd : FuncData} (F : Fun K "__init__" "Desk.__init__" sDI f fd) (T : Txt K mg CS CD CR fR) (C : CalS P w K mg base CS) : FnOk P w K mg base CX0 3 f fd ["self"] (spDI CD CS) := by
  refine F.ok scDI (fun vs H Q E h => ?_) (fun cdv A outer s H vs Q E hr h => ⟨t_DI K CS, ?_, pure_DI T vs H Q E h⟩)
  · obtain ⟨x, dx, rfl, _⟩ := h
    rfl
  · exact pss_one (ps_fld (pv 0) (pe_mkS C hr T.gS) rfl)
/-! ### begins(desk) -/
def spBe (CD CS : Addr) : Sp := fun vs H Q _ => ∃ (d dx st : Addr), vs = [.ref d] ∧ H d = some (.ins CD dx (dF st)) ∧
  ∀ (H' : Hp) (p st' w' b' : Addr), DeskAt CD CS H' d st' w' b' Sj10.init → H st' = none → H w' = none → H b' = none → (∀ c o, H c = some o → c ≠ d → H' c = some o) → H p = none → H' p = some (.lst [V.int 0]) → Q (.ref p) H'
abbrev sBe : Stmt := top 33
theorem scBe : FnScope ["desk"] ["desk"] (defScope sBe) := ⟨rfl, rfl, rfl, by decide +kernel, rfl, by decide +kernel, by decide +kernel⟩
def t_be (K : PySem.W.Frag) (CS : Addr) : TS := tSeq (sFld K (tVar 0) (tMake CS (spSI CS) [] E0 tNil) "standing") (tRet (tLst (tCons (tC (.int 0)) tNil)))
theorem dF_put (a b : Addr) : putF "standing" (.ref b) (dF a) = dF b := put_here
theorem pure_be (T : Txt K mg CS CD CR fR) (vs : List V) (H : Hp) (Q : VK) (E : XK) (h : spBe CD CS vs H Q E) : t_be K CS { nx := fun _ H' => Q .non H', rt := Q } (start ["desk"] vs) H := by
  obtain ⟨x, dx, st, rfl, hx, k⟩ := h
  intro y dy ny nd ne
  refine ⟨y, dy, rfl, upd_same, fun H1 w b S nw nb kp => ⟨rfl, ?_⟩⟩
  have s1 : Same H H1 := Same.made ny nd kp
  have xy := ne_of_none hx ny
  refine ⟨_, rfl, x, CD, dx, _, rfl, s1 _ _ hx, T.clD, T.nD, (by show 1 < 1000; decide), ?_⟩
  rw [dF_put]
  have hw0 : H w = none := ((same_upd nd).trans (same_upd (by rw [upd_ne ne.symm]; exact ny))).free nw
  have hb0 : H b = none := ((same_upd nd).trans (same_upd (by rw [upd_ne ne.symm]; exact ny))).free nb
  obtain ⟨⟨dz, h1⟩, h2, ⟨ts, h3, h4⟩, h5⟩ := S
  have hwx : w ≠ x := (ne_of_none hx hw0).symm
  have hbx : b ≠ x := (ne_of_none hx hb0).symm
  refine ⟨le_line (by simp), fun p hp => ?_⟩
  have D : DeskAt CD CS (upd H1 x (.ins CD dx (dF y))) x y w b Sj10.init := by
    refine ⟨⟨dx, upd_same⟩, ⟨dz, ?_⟩, ?_, ⟨ts, ?_, h4.1, fun i t p a b => ?_⟩, h5⟩
    · rw [upd_ne xy.symm]; exact h1
    · rw [upd_ne hwx]; exact h2
    · rw [upd_ne hbx]; exact h3
    · have : Sj10.init.bouts = [] := rfl
      rw [this] at b; simp at b
  have kx : ∀ c o, H c = some o → c ≠ x → upd H1 x (.ins CD dx (dF y)) c = some o := fun c o e hc => by rw [upd_ne hc]; exact s1 _ _ e
  exact k _ p y w b (D.same (same_upd hp)) ny hw0 hb0 (fun c o e hc => same_upd hp _ _ (kx c o e hc)) (free_but kx upd_same hp) upd_same
theorem ok_be {f : Addr} {fd : FuncData} (F : Fun K "begins" "begins" sBe f fd) (T : Txt K mg CS CD CR fR) (C : CalS P w K mg base CS) : FnOk P w K mg base CX0 3 f fd ["desk"] (spBe CD CS) := by
  refine F.ok scBe (fun vs H Q E h => ?_) (fun cdv A outer s H vs Q E hr h => ⟨t_be K CS, ?_, pure_be T vs H Q E h⟩)
  · obtain ⟨x, dx, st, rfl, _⟩ := h
    rfl
  · exact pss_cons (ps_fld (pv 0) (pe_mkS C hr T.gS) rfl) (pss_one (ps_ret (pe_lst (pa_cons pe_int pa_nil))))
/-! ### wrestler(standing, wins) -/
def spWr (CS CR : Addr) : Sp := fun vs H Q E => ∃ (st w b : Addr) (s : Standing) (n : Nat), vs = [.ref st, .int n] ∧ StAt CS H st w b s ∧ WF s ∧ (15 < n → Refuse CR H E (-1)) ∧ (¬ 15 < n → 6 ≤ s.wins.length → Refuse CR H E (-5)) ∧
  (¬ 15 < n → ¬ 6 ≤ s.wins.length → ∀ (H' : Hp) (p : Addr), StAt CS H' st w b { s with wins := s.wins ++ [n] } → (∀ c o, H c = some o → c ≠ w → H' c = some o) → H p = none → H' p = some (.lst [V.int (s.wins.length : Nat)]) → Q (.ref p) H')
abbrev sWr : Stmt := top 34
theorem scWr : FnScope ["standing", "wins"] ["standing", "wins"] (defScope sWr) := ⟨rfl, rfl, rfl, by decide +kernel, rfl, by decide +kernel, by decide +kernel⟩
abbrev tLenW (K : PySem.W.Frag) : TE := tCB (rLen K) (tCons (tFld K (tVar 0) "wins") tNil)
def t_wr (K : PySem.W.Frag) (CR : Addr) (E : XK) : TS :=
  tSeq (tDrop (tCall (spRi CR) [] E (tCons (tOp rGt (tVar 1) (tC (.int 15))) (tCons (tC (.int (-1))) tNil))))
    (tSeq (tDrop (tCall (spRi CR) [] E (tCons (tOp rEq (tLenW K) (tC (.int 6))) (tCons (tC (.int (-5))) tNil))))
    (tSeq (tDrop (tBM K "list" rAppend (tFld K (tVar 0) "wins") (tCons (tVar 1) tNil)))
    (tRet (tLst (tCons (tOp rSub (tLenW K) (tC (.int 1))) tNil)))))
theorem pure_wr (T : Txt K mg CS CD CR fR) (vs : List V) (H : Hp) (Q : VK) (E : XK) (h : spWr CS CR vs H Q E) : t_wr K CR E { nx := fun _ H' => Q .non H', rt := Q } (start ["standing", "wins"] vs) H := by
  obtain ⟨st, w, b, s, n, rfl, ⟨⟨dx, h1⟩, h2, ⟨ts, h3, h4⟩, h5⟩, W, k1, k2, k3⟩ := h
  have c6 := W.c6
  refine ⟨_, rfl, _, _, rfl, rfl, _, _, rfl, fun c => k1 ?_, fun c1 => ?_⟩
  · have := of_decide_eq_true c
    omega
  have c1 : ¬ 15 < n := by
    have := of_decide_eq_false c1
    omega
  refine ⟨_, rfl, st, CS, dx, _, _, rfl, h1, T.clS, T.nW, stF_w w b, w, _, rfl, .inl (.inl (.inl h2)), rfl, _, _, rfl, fun c => k2 c1 ?_, fun c2 => ?_⟩
  · have c := of_decide_eq_true c
    injection c with c
    rw [nl_length] at c
    omega
  have c2 : ¬ 6 ≤ s.wins.length := by
    have c := of_decide_eq_false c2
    intro z
    apply c
    rw [nl_length, show s.wins.length = 6 by omega]
    rfl
  have stw : st ≠ w := ne_of h1 h2 (by intro z; cases z)
  refine ⟨_, rfl, st, CS, dx, _, _, rfl, h1, T.clS, T.nW, stF_w w b, tyL (.inl (.inl h2)), _, rfl, w, _, _, rfl, rfl, h2, by rw [nl_length]; exact lt_line (by omega), ?_⟩
  have hs : upd H w (.lst (nl s.wins ++ [V.int n])) st = some (.ins CS dx (stF w b)) := by rw [upd_ne stw]; exact h1
  refine ⟨_, rfl, st, CS, dx, _, _, rfl, hs, T.clS, T.nW, stF_w w b, w, _, rfl, .inl (.inl (.inl upd_same)), _, _, rfl, rfl, le_line (by simp), fun p hp => ?_⟩
  have q := same_upd (o := .lst [V.int ((((nl s.wins ++ [V.int n]).length : Nat) : Int) - 1)]) hp
  refine k3 c1 c2 _ p ⟨⟨dx, q _ _ hs⟩, q _ _ ?_, ⟨ts, q _ _ ?_, h4.1, fun i t p a b => q _ _ ?_⟩, h5⟩ (fun c o e hc => q _ _ (by rw [upd_ne hc]; exact e)) (free_but (fun c o e hc => by rw [upd_ne hc]; exact e) upd_same hp) ?_
  · rw [upd_same]
    show _ = some (HO.lst (nl (s.wins ++ [n])))
    rw [nl_append]; rfl
  · rw [upd_ne h5.symm]; exact h3
  · rw [upd_ne (ne_of (h4.2 i t p a b) h2 (by intro z; cases z))]; exact h4.2 i t p a b
  · rw [upd_same, List.length_append, nl_length]
    have e : (((s.wins.length + [V.int (n : Int)].length : Nat) : Int) - 1) = ((s.wins.length : Nat) : Int) := by
      simp
    exact congrArg (fun z => some (HO.lst [V.int z])) e
theorem ok_wr {f : Addr} {fd : FuncData} (F : Fun K "wrestler" "wrestler" sWr f fd) (T : Txt K mg CS CD CR fR) (N : Kon mg) (C1 : Cal P w K mg base "refuse_if" (L2.CX P w) 3 ["asked", "number"] (spRi CR)) : FnOk P w K mg base (L2.CX P w) 4 f fd ["standing", "wins"] (spWr CS CR) := by
  refine F.okX scWr (fun vs H Q E h => ?_) (fun cdv A outer s H vs Q E hr h => ⟨t_wr K CR E, ?_, pure_wr T vs H Q E h⟩)
  · obtain ⟨st, w, b, s, i, rfl, _⟩ := h
    rfl
  · exact pss_cons (ps_expr (pe_cal C1 hr rfl (passes_call (W := WD E) (takes_of rfl rfl rfl rfl) (fun _ _ _ _ h => h)) (pa_cons (pe_cmpR op_gt (pv 1) (pe_k N.mWins) (nomark _)) (pa_cons (pe_k N.out) pa_nil))))
      (pss_cons (ps_expr (pe_cal C1 hr rfl (passes_call (W := WD E) (takes_of rfl rfl rfl rfl) (fun _ _ _ _ h => h)) (pa_cons (pe_cmpR op_eq (pe_callB call_len_seq (by rfl) T.len PySem.boot_len (pa_cons (pe_fld (pv 0) rfl) pa_nil)) (pe_k N.mWres) (nomark _)) (pa_cons (pe_k N.full) pa_nil))))
      (pss_cons (ps_expr (pe_bm PySem.F.plainAttrs_list PySem.F.slot_list_append PySem.F.type_list_append mt_append (pe_fld (pv 0) rfl) (pa_cons (pv 1) pa_nil)))
      (pss_one (ps_ret (pe_lst (pa_cons (pe_op op_sub (pe_callB call_len_seq (by rfl) T.len PySem.boot_len (pa_cons (pe_fld (pv 0) rfl) pa_nil)) pe_int) pa_nil))))))
end
end Sf
namespace Sf
open PySem PySem.Spec PyProof.Rows L2
open Mth (WF ofN)
open Sj10 (Standing)
/-- what is told: a refusal leaves, else a list comes back -/
def Res (CR : Addr) (H : Hp) (Q : VK) (E : XK) (a : Sj10.Ans) : Prop := (a.v < 0 → a.l = [] → Refuse CR H E a.v) ∧ (0 ≤ a.v → ∀ (H' : Hp) (p : Addr), Same H H' → H p = none → H' p = some (.lst ((a.v :: a.l).map V.int)) → Q (.ref p) H')
section
variable {P : Program} {w : World} {K : PySem.W.Frag} {mg : Str → Option Value} {base : Heap} {CS CD CR fR : Addr}
/-! ### bout(standing, one, other) -/
def spBo (CS CR : Addr) : Sp := fun vs H Q E => ∃ (st w b : Addr) (s : Standing) (i k : Nat), vs = [.ref st, .int i, .int k] ∧ StAt CS H st w b s ∧ WF s ∧ (s.wins.length ≤ i ∨ s.wins.length ≤ k → Refuse CR H E (-2)) ∧ (¬ (s.wins.length ≤ i ∨ s.wins.length ≤ k) → i = k → Refuse CR H E (-4)) ∧
  (¬ (s.wins.length ≤ i ∨ s.wins.length ≤ k) → ¬ i = k → 9 ≤ s.bouts.length → Refuse CR H E (-5)) ∧
  (¬ (s.wins.length ≤ i ∨ s.wins.length ≤ k) → ¬ i = k → ¬ 9 ≤ s.bouts.length → ∀ (H' : Hp) (p : Addr), StAt CS H' st w b { s with bouts := s.bouts ++ [(i, k)] } → (∀ c o, H c = some o → c ≠ b → H' c = some o) → H p = none → H' p = some (.lst [V.int (s.bouts.length : Nat)]) → Q (.ref p) H')
abbrev sBo : Stmt := top 35
abbrev nBo : List Str := ["standing", "one", "other"]
theorem scBo : FnScope nBo nBo (defScope sBo) := ⟨rfl, rfl, rfl, by decide +kernel, rfl, by decide +kernel, by decide +kernel⟩
abbrev tLenB (K : PySem.W.Frag) : TE := tCB (rLen K) (tCons (tFld K (tVar 0) "bouts") tNil)
def t_bo (K : PySem.W.Frag) (CS CR : Addr) (E : XK) : TS :=
  tSeq (tDrop (tCall (spCt CS CR) [] E (tCons (tVar 0) (tCons (tVar 1) tNil))))
    (tSeq (tDrop (tCall (spCt CS CR) [] E (tCons (tVar 0) (tCons (tVar 2) tNil))))
    (tSeq (tDrop (tCall (spRi CR) [] E (tCons (tOp rEq (tVar 1) (tVar 2)) (tCons (tC (.int (-4))) tNil))))
    (tSeq (tDrop (tCall (spRi CR) [] E (tCons (tOp rEq (tLenB K) (tC (.int 9))) (tCons (tC (.int (-5))) tNil))))
    (tSeq (tDrop (tBM K "list" rAppend (tFld K (tVar 0) "bouts") (tCons (tTup (tCons (tVar 1) (tCons (tVar 2) tNil))) tNil)))
    (tRet (tLst (tCons (tOp rSub (tLenB K) (tC (.int 1))) tNil)))))))
theorem pure_bo (T : Txt K mg CS CD CR fR) (vs : List V) (H : Hp) (Q : VK) (E : XK) (h : spBo CS CR vs H Q E) : t_bo K CS CR E { nx := fun _ H' => Q .non H', rt := Q } (start nBo vs) H := by
  obtain ⟨st, w, b, s, i, k, rfl, S, W, k1, k2, k3, k4⟩ := h
  obtain ⟨⟨dx, h1⟩, h2, ⟨ts, h3, h4⟩, h5⟩ := id S
  have b9 := W.b9
  have tl : (ts.map V.ref).length = s.bouts.length := by rw [List.length_map, h4.1]
  refine ⟨_, rfl, _, rfl, st, w, b, s, i, rfl, S, fun c => k1 (.inl c), fun c1 => ?_⟩
  refine ⟨_, rfl, _, rfl, st, w, b, s, k, rfl, S, fun c => k1 (.inr c), fun c2 => ?_⟩
  have c3 : ¬ (s.wins.length ≤ i ∨ s.wins.length ≤ k) := by omega
  refine ⟨_, rfl, _, rfl, rfl, _, _, rfl, fun c => k2 c3 ?_, fun c4 => ?_⟩
  · have c := of_decide_eq_true c
    injection c with c
    omega
  have c4 : ¬ i = k := by
    have c := of_decide_eq_false c4
    intro z
    exact c (by rw [z])
  refine ⟨_, rfl, st, CS, dx, _, _, rfl, h1, T.clS, T.nB, stF_b w b, b, _, rfl, .inl (.inl (.inl h3)), rfl, _, _, rfl, fun c => k3 c3 c4 ?_, fun c5 => ?_⟩
  · have c := of_decide_eq_true c
    injection c with c
    rw [tl] at c
    omega
  have c5 : ¬ 9 ≤ s.bouts.length := by
    have c := of_decide_eq_false c5
    intro z
    apply c
    rw [tl, show s.bouts.length = 9 by omega]
    rfl
  refine ⟨_, rfl, st, CS, dx, _, _, rfl, h1, T.clS, T.nB, stF_b w b, tyL (.inl (.inl h3)), _, rfl, _, rfl, le_line (by simp), fun t ht => ?_⟩
  have q0 := same_upd (o := .tup [V.int i, V.int k]) ht
  have htb : t ≠ b := (ne_of_none h3 ht).symm
  refine ⟨b, _, _, rfl, rfl, q0 _ _ h3, by rw [tl]; exact lt_line (by omega), ?_⟩
  have stb : st ≠ b := ne_of h1 h3 (by intro z; cases z)
  have keep : ∀ c o, H c = some o → c ≠ b → upd (upd H t (.tup [V.int i, V.int k])) b (.lst (ts.map V.ref ++ [V.ref t])) c = some o := fun c o e hc => by
    rw [upd_ne hc]; exact q0 _ _ e
  refine ⟨_, rfl, st, CS, dx, _, _, rfl, keep _ _ h1 stb, T.clS, T.nB, stF_b w b, b, _, rfl, .inl (.inl (.inl upd_same)), _, _, rfl, rfl, le_line (by simp), fun p hp => ?_⟩
  have q := same_upd (o := .lst [V.int ((((ts.map V.ref ++ [V.ref t]).length : Nat) : Int) - 1)]) hp
  refine k4 c3 c4 c5 _ p ⟨⟨dx, q _ _ (keep _ _ h1 stb)⟩, q _ _ (keep _ _ h2 h5), ⟨ts ++ [t], q _ _ ?_, by simp [h4.1], fun j u y a c => q _ _ ?_⟩, h5⟩ (fun c o e hc => q _ _ (keep _ _ e hc)) (free_but keep upd_same hp) ?_
  · rw [upd_same, List.map_append]; rfl
  · by_cases cj : j < ts.length
    · rw [List.getElem?_append_left cj] at a
      rw [List.getElem?_append_left (by rw [← h4.1]; exact cj)] at c
      have e := h4.2 j u y a c
      exact keep _ _ e (ne_of e h3 (by intro z; cases z))
    · rw [List.getElem?_append_right (by omega)] at a
      rw [List.getElem?_append_right (by rw [← h4.1]; omega), ← h4.1] at c
      match j - ts.length, a, c with
      | 0, a, c =>
        cases a; cases c
        rw [upd_ne htb, upd_same]
      | m + 1, a, c => simp at a
  · rw [upd_same]
    have e : ((((ts.map V.ref ++ [V.ref t]).length : Nat) : Int) - 1) = ((s.bouts.length : Nat) : Int) := by
      rw [List.length_append, tl]; simp
    exact congrArg (fun z => some (HO.lst [V.int z])) e
theorem ok_bo {f : Addr} {fd : FuncData} (F : Fun K "bout" "bout" sBo f fd) (T : Txt K mg CS CD CR fR) (N : Kon mg) (C1 : Cal P w K mg base "refuse_if" (L2.CX P w) 3 ["asked", "number"] (spRi CR)) (C2 : Cal P w K mg base "check_there" (L2.CX P w) 4 ["standing", "who"] (spCt CS CR)) :
    FnOk P w K mg base (L2.CX P w) 5 f fd nBo (spBo CS CR) := by
  refine F.okX scBo (fun vs H Q E h => ?_) (fun cdv A outer s H vs Q E hr h => ⟨t_bo K CS CR E, ?_, pure_bo T vs H Q E h⟩)
  · obtain ⟨st, w, b, s, i, k, rfl, _⟩ := h
    rfl
  · have hr3 : Room 3 _ := hr.mono (by decide)
    exact pss_cons (ps_expr (pe_cal C2 hr rfl (passes_call (W := WD E) (takes_of rfl rfl rfl rfl) (fun _ _ _ _ h => h)) (pa_cons (pv 0) (pa_cons (pv 1) pa_nil))))
      (pss_cons (ps_expr (pe_cal C2 hr rfl (passes_call (W := WD E) (takes_of rfl rfl rfl rfl) (fun _ _ _ _ h => h)) (pa_cons (pv 0) (pa_cons (pv 2) pa_nil))))
      (pss_cons (ps_expr (pe_cal C1 hr3 rfl (passes_call (W := WD E) (takes_of rfl rfl rfl rfl) (fun _ _ _ _ h => h)) (pa_cons (pe_cmpR op_eq (pv 1) (pv 2) (nomark _)) (pa_cons (pe_k N.same) pa_nil))))
      (pss_cons (ps_expr (pe_cal C1 hr3 rfl (passes_call (W := WD E) (takes_of rfl rfl rfl rfl) (fun _ _ _ _ h => h)) (pa_cons (pe_cmpR op_eq (pe_callB call_len_seq (by rfl) T.len PySem.boot_len (pa_cons (pe_fld (pv 0) rfl) pa_nil)) (pe_k N.mBout) (nomark _)) (pa_cons (pe_k N.full) pa_nil))))
      (pss_cons (ps_expr (pe_bm PySem.F.plainAttrs_list PySem.F.slot_list_append PySem.F.type_list_append mt_append (pe_fld (pv 0) rfl) (pa_cons (pe_tup (pa_cons (pv 1) (pa_cons (pv 2) pa_nil))) pa_nil)))
      (pss_one (ps_ret (pe_lst (pa_cons (pe_op op_sub (pe_callB call_len_seq (by rfl) T.len PySem.boot_len (pa_cons (pe_fld (pv 0) rfl) pa_nil)) pe_int) pa_nil))))))))
/-! ### can(standing, who). Slots: standing, who, outcome -/
def spCa (CS CR : Addr) : Sp := fun vs H Q E => ∃ (st w b : Addr) (s : Standing) (i : Nat), vs = [.ref st, .int i] ∧ StAt CS H st w b s ∧ WF s ∧ Res CR H Q E (Sj10.step s (.can i)).2
abbrev sCa : Stmt := top 37
abbrev nCa : List Str := ["standing", "who", "outcome"]
theorem scCa : FnScope nCa ["standing", "who"] (defScope sCa) := ⟨rfl, rfl, rfl, by decide +kernel, rfl, by decide +kernel, by decide +kernel⟩
def t_ca (K : PySem.W.Frag) (CS CR : Addr) (E : XK) : TS :=
  tSeq (tDrop (tCall (spCt CS CR) [] E (tCons (tVar 0) (tCons (tVar 1) tNil))))
    (tSeq (tAsg (tCall (spEf CS) [] E0 (tCons (tVar 0) (tCons (tVar 1) tNil))) (gName 2))
    (tSeq (tIfS (tB (tNotN (tVar 2))) (tRet (tOp rCat (tLst (tCons (tC (.int 1)) tNil)) (tVar 2))) tNext)
    (tRet (tLst (tCons (tC (.int 0)) (tCons (tCall (spSi CS) [] E0 (tCons (tVar 0) (tCons (tVar 1) tNil))) tNil))))))
theorem can_out {s : Standing} {i : Nat} (h : s.wins.length ≤ i) : (Sj10.step s (.can i)).2 = Sj10.ok (-2) := by
  unfold Sj10.step
  simp only
  rw [if_pos (show s.count ≤ i from h)]
theorem can_in {s : Standing} {i : Nat} (h : ¬ s.wins.length ≤ i) : (Sj10.step s (.can i)).2 = match s.can i with | some o => ⟨1, Sj10.ints o⟩ | none => ⟨0, Sj10.ints [(s.why i).getD 0]⟩ := by
  unfold Sj10.step
  simp only
  rw [if_neg (show ¬ s.count ≤ i from h)]
  rfl
theorem pure_ca (T : Txt K mg CS CD CR fR) (vs : List V) (H : Hp) (Q : VK) (E : XK) (h : spCa CS CR vs H Q E) : t_ca K CS CR E { nx := fun _ H' => Q .non H', rt := Q } (start nCa vs) H := by
  obtain ⟨st, w, b, s, i, rfl, S, W, kR, kV⟩ := h
  refine ⟨_, rfl, _, rfl, st, w, b, s, i, rfl, S, fun c => ?_, fun c1 => ?_⟩
  · rw [can_out c] at kR
    exact kR (by decide) rfl
  have e := can_in (s := s) (i := i) (by omega)
  refine ⟨_, rfl, _, rfl, st, w, b, s, i, rfl, S, W, c1, fun c => ?_, fun o c H1 q s1 hq => ?_⟩
  · intro H1 s1
    refine ⟨_, rfl, _, rfl, ?_⟩
    refine iteF ?_
    refine ⟨_, rfl, _, rfl, st, w, b, s, i, rfl, S.same s1, W, c1, fun H2 s2 => ⟨le_line (by simp), fun p hp => ?_⟩⟩
    obtain ⟨t, ht⟩ := Mth.why_some W c1 c
    rw [e, c] at kV
    refine kV (by show (0 : Int) ≤ 0; decide) _ p ((s1.trans s2).trans (same_upd hp)) ((s1.trans s2).free hp) ?_
    rw [upd_same, ht]; rfl
  · refine ⟨_, rfl, _, rfl, ?_⟩
    refine iteT ?_
    have ho := Mth.mem_rows.mp (List.mem_of_find?_eq_some c)
    have b9 := W.b9
    refine ⟨le_line (by simp), fun z hz => ⟨_, rfl, z, q, _, _, rfl, rfl, upd_same, same_upd hz _ _ hq, le_line (by rw [nl_length]; simp; omega), fun p hp => ?_⟩⟩
    rw [e, c] at kV
    refine kV (by show (0 : Int) ≤ 1; decide) _ p ((s1.trans (same_upd hz)).trans (same_upd hp)) ((s1.trans (same_upd hz)).free hp) ?_
    rw [upd_same]; rfl
theorem ok_ca {f : Addr} {fd : FuncData} (F : Fun K "can" "can" sCa f fd) (T : Txt K mg CS CD CR fR) (C1 : Cal P w K mg base "check_there" (L2.CX P w) 4 ["standing", "who"] (spCt CS CR)) (C2 : Cal P w K mg base "earliest_for" CX0 3 ["standing", "who"] (spEf CS)) (C3 : Cal P w K mg base "set_in_way" CX0 4 ["standing", "who"] (spSi CS)) :
    FnOk P w K mg base (L2.CX P w) 5 f fd ["standing", "who"] (spCa CS CR) := by
  refine F.okX scCa (fun vs H Q E h => ?_) (fun cdv A outer s H vs Q E hr h => ⟨t_ca K CS CR E, ?_, pure_ca T vs H Q E h⟩)
  · obtain ⟨st, w, b, s, i, rfl, _⟩ := h
    rfl
  · have hr3 : Room 3 _ := hr.mono (by decide)
    exact pss_cons (ps_expr (pe_cal C1 hr rfl (passes_call (W := WD E) (takes_of rfl rfl rfl rfl) (fun _ _ _ _ h => h)) (pa_cons (pv 0) (pa_cons (pv 1) pa_nil))))
      (pss_cons (ps_set (i := 2) scCa.nd rfl (Or.inl rfl) (pe_cal C2 hr3 rfl pass0 (pa_cons (pv 0) (pa_cons (pv 1) pa_nil))))
      (pss_cons (ps_if (pt_cmp (pc_notN (pv 2))) (pss_one (ps_ret (pe_op op_cat (pe_lst (pa_cons pe_int pa_nil)) (pv 2)))) pss_nil)
      (pss_one (ps_ret (pe_lst (pa_cons pe_int (pa_cons (pe_cal C3 hr rfl pass0 (pa_cons (pv 0) (pa_cons (pv 1) pa_nil))) pa_nil)))))))
/-! ### odds(standing, who) -/
def spOs (CS CR : Addr) : Sp := fun vs H Q E => ∃ (st w b : Addr) (s : Standing) (i : Nat), vs = [.ref st, .int i] ∧ StAt CS H st w b s ∧ WF s ∧ Res CR H Q E (Sj10.step s (.odds i)).2
abbrev sOs : Stmt := top 38
theorem scOs : FnScope ["standing", "who"] ["standing", "who"] (defScope sOs) := ⟨rfl, rfl, rfl, by decide +kernel, rfl, by decide +kernel, by decide +kernel⟩
def t_os (CS CR : Addr) (E : XK) : TS :=
  tSeq (tDrop (tCall (spCt CS CR) [] E (tCons (tVar 0) (tCons (tVar 1) tNil))))
    (tRet (tCall (spOd CS) [] E0 (tCons (tVar 0) (tCons (tVar 1) tNil))))
theorem odds_out {s : Standing} {i : Nat} (h : s.wins.length ≤ i) : (Sj10.step s (.odds i)).2 = Sj10.ok (-2) := by
  unfold Sj10.step
  simp only
  rw [if_pos (show s.count ≤ i from h)]
theorem odds_in {s : Standing} {i : Nat} (h : ¬ s.wins.length ≤ i) : (Sj10.step s (.odds i)).2 = ⟨(((s.odds i).1 : Nat) : Int), Sj10.ints [(s.odds i).2, 2 ^ s.bouts.length]⟩ := by
  unfold Sj10.step
  simp only
  rw [if_neg (show ¬ s.count ≤ i from h)]
theorem pure_os (vs : List V) (H : Hp) (Q : VK) (E : XK) (h : spOs CS CR vs H Q E) : t_os CS CR E { nx := fun _ H' => Q .non H', rt := Q } (start ["standing", "who"] vs) H := by
  obtain ⟨st, w, b, s, i, rfl, S, W, kR, kV⟩ := h
  refine ⟨_, rfl, _, rfl, st, w, b, s, i, rfl, S, fun c => ?_, fun c1 => ?_⟩
  · rw [odds_out c] at kR
    exact kR (by decide) rfl
  rw [odds_in (s := s) (i := i) (by omega)] at kV
  exact ⟨_, rfl, _, rfl, st, w, b, s, i, rfl, S, W, c1, fun H1 p s1 hp hv => kV (by show (0 : Int) ≤ ((_ : Nat) : Int); omega) H1 p s1 hp hv⟩
theorem ok_os {f : Addr} {fd : FuncData} (F : Fun K "odds" "odds" sOs f fd) (C1 : Cal P w K mg base "check_there" (L2.CX P w) 4 ["standing", "who"] (spCt CS CR)) (C2 : Cal P w K mg base "odds_of" CX0 3 ["standing", "who"] (spOd CS)) :
    FnOk P w K mg base (L2.CX P w) 5 f fd ["standing", "who"] (spOs CS CR) := by
  refine F.okX scOs (fun vs H Q E h => ?_) (fun cdv A outer s H vs Q E hr h => ⟨t_os CS CR E, ?_, pure_os vs H Q E h⟩)
  · obtain ⟨st, w, b, s, i, rfl, _⟩ := h
    rfl
  · have hr3 : Room 3 _ := hr.mono (by decide)
    exact pss_cons (ps_expr (pe_cal C1 hr rfl (passes_call (W := WD E) (takes_of rfl rfl rfl rfl) (fun _ _ _ _ h => h)) (pa_cons (pv 0) (pa_cons (pv 1) pa_nil))))
      (pss_one (ps_ret (pe_cal C2 hr3 rfl pass0 (pa_cons (pv 0) (pa_cons (pv 1) pa_nil)))))
/-! ### needs(standing, who). Slots: standing, who, found -/
def spNe (CS CR : Addr) : Sp := fun vs H Q E => ∃ (st w b : Addr) (s : Standing) (i : Nat), vs = [.ref st, .int i] ∧ StAt CS H st w b s ∧ WF s ∧ Res CR H Q E (Sj10.step s (.needs i)).2
abbrev sNe : Stmt := top 39
abbrev nNe : List Str := ["standing", "who", "found"]
theorem scNe : FnScope nNe ["standing", "who"] (defScope sNe) := ⟨rfl, rfl, rfl, by decide +kernel, rfl, by decide +kernel, by decide +kernel⟩
def t_ne (CS CR : Addr) (E : XK) : TS :=
  tSeq (tDrop (tCall (spCt CS CR) [] E (tCons (tVar 0) (tCons (tVar 1) tNil))))
    (tSeq (tAsg (tCall (spWn CS) [] E0 (tCons (tVar 0) (tCons (tVar 1) tNil))) (gName 2))
    (tSeq (tDrop (tCall (spRi CR) [] E (tCons (tIsN (tVar 2)) (tCons (tC (.int (-6))) tNil))))
    (tRet (tLst (tCons (tVar 2) tNil)))))
theorem needs_out {s : Standing} {i : Nat} (h : s.wins.length ≤ i) : (Sj10.step s (.needs i)).2 = Sj10.ok (-2) := by
  unfold Sj10.step
  simp only
  rw [if_pos (show s.count ≤ i from h)]
theorem needs_in {s : Standing} {i : Nat} (h : ¬ s.wins.length ≤ i) : (Sj10.step s (.needs i)).2 = match s.needs i with | none => Sj10.ok (-6) | some n => Sj10.ok ((n : Nat) : Int) := by
  unfold Sj10.step
  simp only
  rw [if_neg (show ¬ s.count ≤ i from h)]
  rfl
theorem pure_ne (vs : List V) (H : Hp) (Q : VK) (E : XK) (h : spNe CS CR vs H Q E) : t_ne CS CR E { nx := fun _ H' => Q .non H', rt := Q } (start nNe vs) H := by
  obtain ⟨st, w, b, s, i, rfl, S, W, kR, kV⟩ := h
  refine ⟨_, rfl, _, rfl, st, w, b, s, i, rfl, S, fun c => ?_, fun c1 => ?_⟩
  · rw [needs_out c] at kR
    exact kR (by decide) rfl
  have e := needs_in (s := s) (i := i) (by omega)
  refine ⟨_, rfl, _, rfl, st, w, b, s, i, rfl, S, W, c1, fun H1 s1 => ?_⟩
  cases c : s.needs i with
  | none =>
    rw [e, c] at kR
    exact ⟨_, rfl, _, _, rfl, fun _ => Refuse.same (kR (by decide) rfl) s1, fun z => by cases z⟩
  | some n =>
    rw [e, c] at kV
    refine ⟨_, rfl, _, _, rfl, (fun z => by cases z), fun _ => ⟨_, rfl, le_line (by simp), fun p hp => ?_⟩⟩
    refine kV (by show (0 : Int) ≤ ((_ : Nat) : Int); omega) _ p (s1.trans (same_upd hp)) (s1.free hp) ?_
    rw [upd_same]; rfl
theorem ok_ne {f : Addr} {fd : FuncData} (F : Fun K "needs" "needs" sNe f fd) (N : Kon mg) (C1 : Cal P w K mg base "check_there" (L2.CX P w) 4 ["standing", "who"] (spCt CS CR)) (C2 : Cal P w K mg base "wins_needed" CX0 5 ["standing", "who"] (spWn CS)) (C3 : Cal P w K mg base "refuse_if" (L2.CX P w) 3 ["asked", "number"] (spRi CR)) :
    FnOk P w K mg base (L2.CX P w) 6 f fd ["standing", "who"] (spNe CS CR) := by
  refine F.okX scNe (fun vs H Q E h => ?_) (fun cdv A outer s H vs Q E hr h => ⟨t_ne CS CR E, ?_, pure_ne vs H Q E h⟩)
  · obtain ⟨st, w, b, s, i, rfl, _⟩ := h
    rfl
  · have hr3 : Room 3 _ := hr.mono (by decide)
    have hr4 : Room 4 _ := hr.mono (by decide)
    exact pss_cons (ps_expr (pe_cal C1 hr4 rfl (passes_call (W := WD E) (takes_of rfl rfl rfl rfl) (fun _ _ _ _ h => h)) (pa_cons (pv 0) (pa_cons (pv 1) pa_nil))))
      (pss_cons (ps_set (i := 2) scNe.nd rfl (Or.inl rfl) (pe_cal C2 hr rfl pass0 (pa_cons (pv 0) (pa_cons (pv 1) pa_nil))))
      (pss_cons (ps_expr (pe_cal C3 hr3 rfl (passes_call (W := WD E) (takes_of rfl rfl rfl rfl) (fun _ _ _ _ h => h)) (pa_cons (pe_cmp (pc_isN (pv 2)) rfl) (pa_cons (pe_k N.sure) pa_nil))))
      (pss_one (ps_ret (pe_lst (pa_cons (pv 2) pa_nil))))))
end
end Sf
namespace Sf
open PySem PySem.Spec PyProof.Rows L2
open Mth (WF ofN)
open Sj10 (Standing)
/-! ### a list of numbers against the empty one -/
def dl (l : List Nat) : List PyData := l.map fun (n : Nat) => PyData.int (n : Int)
theorem dpAll_nl (K : PySem.W.Frag) (H : Hp) : ∀ l : List Nat, DpAll K H (nl l) (dl l)
  | [] => .nil
  | a :: l => .cons (.int a) (dpAll_nl K H l)
theorem lay_dl : ∀ l : List Nat, PyData.canLayAll0 (dl l) = true
  | [] => rfl
  | a :: l => by
    show (PyData.canLay0 (.int a) && PyData.canLayAll0 (dl l)) = true
    rw [lay_dl l]; rfl
theorem depth_dl : ∀ l : List Nat, PyData.depthAll (dl l) = 0
  | [] => rfl
  | a :: l => by
    show max (PyData.depth (.int a)) (PyData.depthAll (dl l)) = 0
    rw [depth_dl l]; rfl
theorem shaped_dl (l : List Nat) : SeqAt.shaped (.list (dl l)) = true := by
  unfold SeqAt.shaped
  rw [Bool.and_eq_true]
  refine ⟨?_, decide_eq_true ?_⟩
  · show PyData.canLayAll0 (dl l) = true
    exact lay_dl l
  · show PyData.depthAll (dl l) + 1 ≤ 64
    rw [depth_dl]; decide
theorem eqv_dl (l : List Nat) : (!PyData.eqv (.list (dl l)) (.list [])) = !l.isEmpty := by
  cases l with
  | nil => rfl
  | cons a l => rfl
theorem filt_empty {x : List Nat} : (x.filter fun y => decide (1 < y)).isEmpty = true ↔ (x.all fun y => decide (y < 2)) = true := by
  rw [List.isEmpty_iff, List.filter_eq_nil_iff, List.all_eq_true]
  constructor
  · intro h y hy
    have := h y hy
    rw [decide_eq_true_iff] at this ⊢
    omega
  · intro h y hy
    have := h y hy
    rw [decide_eq_true_iff] at this ⊢
    omega
section
variable {P : Program} {w : World} {K : PySem.W.Frag} {mg : Str → Option Value} {base : Heap} {CS CD CR fR : Addr}
/-! ### check(standing, outcome). Slots: standing, outcome, wins, won, who -/
def spCk (K : PySem.W.Frag) (CS CR : Addr) : Sp := fun vs H Q E => ∃ (st w b o : Addr) (s : Standing) (x : List Nat), vs = [.ref st, .ref o] ∧ StAt CS H st w b s ∧ WF s ∧ SqN K H o x ∧ x.length ≤ 12 ∧ Res CR H Q E (Sj10.step s (.check x)).2
abbrev sCk : Stmt := top 36
abbrev nCk : List Str := ["standing", "outcome", "wins", "won", "who"]
theorem scCk : FnScope nCk ["standing", "outcome"] (defScope sCk) := ⟨rfl, rfl, rfl, by decide +kernel, rfl, by decide +kernel, by decide +kernel⟩
abbrev tBad (K : PySem.W.Frag) : TE := tLc (iList K (tVar 1)) (gName 3) (tTest (tOp rGt (tVar 3) (tC (.int 1)))) (tVar 3) [3]
abbrev tFis (K : PySem.W.Frag) : TE := tCall (spFi K) [] E0 (tCons (tVar 2) (tCons (tVar 4) tNil))
abbrev tWho (K : PySem.W.Frag) : TE := tLc (iRng1 (tCons (tCB (rLen K) (tCons (tVar 2) tNil)) tNil)) (gName 4) (tB (tFis K)) (tVar 4) [4]
def t_ck (K : PySem.W.Frag) (CS CR : Addr) (E : XK) : TS :=
  tSeq (tDrop (tCall (spRi CR) [] E (tCons (tOrV (tOp rNe (tCB (rLen K) (tCons (tVar 1) tNil)) (tLenB K)) (tOp (rNeD K) (tBad K) (tLst tNil))) (tCons (tC (.int (-1))) tNil))))
    (tSeq (tAsg (tCall (spWB K CS) [] E0 (tCons (tVar 0) (tCons (tVar 1) tNil))) (gName 2))
    (tRet (tOp rCat (tLst (tCons (tCB (rLen K) (tCons (tWho K) tNil)) tNil)) (tVar 2))))
theorem check_out {s : Standing} {x : List Nat} (h : x.length ≠ s.bouts.length ∨ (x.all fun y => decide (y < 2)) = false) : (Sj10.step s (.check x)).2 = Sj10.ok (-1) := by
  unfold Sj10.step
  simp only
  rw [if_pos h]
theorem check_in {s : Standing} {x : List Nat} (h : ¬ (x.length ≠ s.bouts.length ∨ (x.all fun y => decide (y < 2)) = false)) :
    (Sj10.step s (.check x)).2 = ⟨(((List.range s.count).filter fun i => s.first x i).length : Nat), ofN (Mth.endsL s x)⟩ := by
  unfold Sj10.step
  simp only
  rw [if_neg h]
  rfl
theorem pure_ck (T : Txt K mg CS CD CR fR) (vs : List V) (H : Hp) (Q : VK) (E : XK) (h : spCk K CS CR vs H Q E) : t_ck K CS CR E { nx := fun _ H' => Q .non H', rt := Q } (start nCk vs) H := by
  obtain ⟨st, w, b, o, s, x, rfl, S, W, hx, hx12, kR, kV⟩ := h
  obtain ⟨⟨dx, h1⟩, h2, ⟨ts, h3, h4⟩, h5⟩ := id S
  have c6 := W.c6
  have tl : (ts.map V.ref).length = s.bouts.length := by rw [List.length_map, h4.1]
  have bad : (x.length ≠ s.bouts.length ∨ (x.all fun y => decide (y < 2)) = false) → Refuse CR H E (-1) := fun c => by
    rw [check_out c] at kR
    exact kR (by decide) rfl
  refine ⟨_, rfl, o, _, rfl, .inl hx, _, rfl, st, CS, dx, _, _, rfl, h1, T.clS, T.nB, stF_b w b, b, _, rfl, .inl (.inl (.inl h3)), rfl, _, rfl, ?_⟩
  have el : (!decide (V.int (((nl x).length : Nat) : Int) = V.int (((ts.map V.ref).length : Nat) : Int))) = !decide (x.length = s.bouts.length) := by
    rw [nl_length, tl]
    congr 1
    apply decide_eq_decide.mpr
    constructor
    · intro z; injection z with z; omega
    · intro z; rw [z]
  rw [el]
  by_cases cl : x.length = s.bouts.length
  case neg =>
    rw [decide_eq_false cl]
    exact iteT ⟨true, -1, rfl, fun _ => bad (.inl cl), fun z => by cases z⟩
  rw [decide_eq_true cl]
  refine iteF ?_
  refine ⟨_, rfl, o, rfl, ⟨_, hx⟩, fun D hD => ?_⟩
  refine lc_list (K := K) (a := o) (xs := nl x) (fun j H' => Same H H' ∧ H' D = some (.lst (nl ((x.take j).filter fun y => decide (1 < y))))) ⟨same_upd hD, upd_same⟩ (fun j H' _ ⟨s1, _⟩ => s1.seq hx) ?_ ?_
  · rintro j y A hy ⟨s1, hA⟩
    obtain ⟨n, hn, rfl⟩ := nl_getI hy
    have fm := filt_more (f := fun y => decide (1 < y)) hn
    refine ⟨rfl, _, rfl, _, _, rfl, rfl, _, rfl, ?_⟩
    have e1 : decide ((1 : Int) < (n : Int)) = decide (1 < n) := by
      apply decide_eq_decide.mpr; omega
    rw [e1]
    cases c : decide (1 < n) with
    | true =>
      refine iteT ⟨_, rfl, _, hA, ?_, Same.over s1 hD, ?_⟩
      · rw [nl_length]
        refine lt_line (Nat.le_trans (List.length_filter_le _ _) ?_)
        rw [List.length_take]; omega
      · rw [upd_same, fm, if_pos c, nl_append]; rfl
    | false =>
      refine iteF ⟨s1, ?_⟩
      rw [fm, if_neg (by rw [c]; exact Bool.false_ne_true), List.append_nil]; exact hA
  · rintro A ⟨s1, hA⟩
    rw [nl_length, List.take_length] at hA
    refine ⟨Nat.zero_le _, fun z hz => ?_⟩
    have q1 := same_upd (o := .lst []) hz
    refine ⟨.list (dl (x.filter fun y => decide (1 < y))), .list [], .lst (.inl (.inl (q1 _ _ hA))) (dpAll_nl K _ _), .lst (.inl (.inl upd_same)) .nil, shaped_dl _, by decide, ?_⟩
    rw [eqv_dl]
    have s2 := s1.trans q1
    refine ⟨_, _, rfl, fun c => ?_, fun c => ?_⟩
    · refine Refuse.same (bad (.inr ?_)) s2
      cases q : x.all fun y => decide (y < 2) with
      | false => rfl
      | true =>
        rw [filt_empty.mpr q] at c; cases c
    have ok2 : (x.all fun y => decide (y < 2)) = true := filt_empty.mp (by
      cases q : (x.filter fun y => decide (1 < y)).isEmpty with
      | true => rfl
      | false => rw [q] at c; cases c)
    have hx2 : ∀ y ∈ x, y < 2 := fun y hy => of_decide_eq_true (List.all_eq_true.mp ok2 y hy)
    have good := check_in (s := s) (x := x) (by
      rintro (z | z)
      · exact z cl
      · rw [ok2] at z; cases z)
    rw [good] at kV
    refine ⟨_, rfl, _, rfl, st, w, b, o, s, x, rfl, S.same s2, W, s2.seq hx, cl, hx2, fun H1 q s3 hq hv => ?_⟩
    have s4 := s2.trans s3
    have el2 : (nl (Mth.endsL s x)).length = s.wins.length := by rw [nl_length, Mth.endsL_length]; rfl
    refine ⟨_, rfl, q, _, rfl, .inl (.inl (.inl hv)), ((s.wins.length : Nat) : Int), by rw [el2], by omega, by omega, fun D2 hD2 => ?_⟩
    refine lc_range (lo := 0) (n := (((s.wins.length : Nat) : Int)).toNat) (fun j H' => Same H1 H' ∧ ∃ acc : List V, H' D2 = some (.lst acc) ∧ acc.length = ((List.range j).filter fun i => s.first x i).length)
      ⟨same_upd hD2, [], upd_same, rfl⟩ ?_ ?_
    · rintro j B hj ⟨s5, acc, ha, hl⟩
      rw [Int.toNat_natCast] at hj
      have ej : (0 : Int) + (j : Int) = (j : Int) := Int.zero_add _
      have rm := range_more (fun i => s.first x i) j
      refine ⟨rfl, _, rfl, _, rfl, q, Mth.endsL s x, j, by rw [ej]; rfl, .inl (.inl (s5 _ _ hv)), by rw [Mth.endsL_length]; exact hj, _, rfl, ?_⟩
      rw [← Mth.first_eq (show j < s.count from hj)]
      cases c : s.first x j with
      | true =>
        refine iteT ⟨_, rfl, acc, ha, ?_, Same.over s5 hD2, _, upd_same, ?_⟩
        · rw [hl]
          refine lt_line (Nat.le_trans (List.length_filter_le _ _) ?_)
          rw [List.length_range]; omega
        · rw [rm, if_pos c, List.length_append, List.length_append, hl]; rfl
      | false =>
        refine iteF ⟨s5, acc, ha, ?_⟩
        rw [rm, if_neg (by rw [c]; exact Bool.false_ne_true), List.append_nil, hl]
    · rintro B ⟨s5, acc, ha, hl⟩
      rw [Int.toNat_natCast] at hl
      refine ⟨D2, acc, rfl, .inl (.inl (.inl ha)), le_line (by simp), fun r hr => ?_⟩
      have q6 := same_upd (o := .lst [V.int (acc.length : Nat)]) hr
      refine ⟨_, rfl, r, q, _, _, rfl, rfl, upd_same, q6 _ _ (s5 _ _ hv), le_line (by rw [el2]; simp; omega), fun p hp => ?_⟩
      refine kV (by show (0 : Int) ≤ ((_ : Nat) : Int); omega) _ p (((s4.trans s5).trans q6).trans (same_upd hp)) (((s4.trans s5).trans q6).free hp) ?_
      rw [upd_same, hl]; rfl
theorem ok_ck {f : Addr} {fd : FuncData} (F : Fun K "check" "check" sCk f fd) (T : Txt K mg CS CD CR fR) (N : Kon mg) (C1 : Cal P w K mg base "refuse_if" (L2.CX P w) 3 ["asked", "number"] (spRi CR)) (C2 : Cal P w K mg base "wins_by" CX0 2 ["standing", "outcome"] (spWB K CS)) (C3 : Cal P w K mg base "is_first" CX0 1 ["wins", "who"] (spFi K)) :
    FnOk P w K mg base (L2.CX P w) 4 f fd ["standing", "outcome"] (spCk K CS CR) := by
  refine F.okX scCk (fun vs H Q E h => ?_) (fun cdv A outer s H vs Q E hr h => ⟨t_ck K CS CR E, ?_, pure_ck T vs H Q E h⟩)
  · obtain ⟨st, w, b, o, s, x, rfl, _⟩ := h
    rfl
  · have hr1 : Room 1 _ := hr.mono (by decide)
    have hr2 : Room 2 _ := hr.mono (by decide)
    exact pss_cons (ps_expr (pe_cal C1 hr rfl (passes_call (W := WD E) (takes_of rfl rfl rfl rfl) (fun _ _ _ _ h => h)) (pa_cons
          (pe_or (pe_cmpR op_ne (pe_callB call_len_seq (by rfl) T.len PySem.boot_len (pa_cons (pv 1) pa_nil)) (pe_callB call_len_seq (by rfl) T.len PySem.boot_len (pa_cons (pe_fld (pv 0) rfl) pa_nil)) (nomark _))
            (pe_one (pe_cmpR (op_neD hr.units) (pe_lc (own := [("won", 3)]) (g := gName 3) (tt := tTest (tOp rGt (tVar 3) (tC (.int 1)))) rfl scCk.nd (pi_list (pv 1)) (blkOk_by (N := nCk) (sc := defScope sCk) (by decide +kernel))
              (fun _ _ _ _ _ => pg_name (i := 3) scCk.nd rfl (Or.inl rfl)) (fun _ _ _ _ _ => pts_one (pt_cmpR op_gt (pv 3) pe_int (nomark _))) (fun _ _ _ _ _ => pv 3)) (pe_lst pa_nil) (nomark _)))) (pa_cons (pe_k N.out) pa_nil))))
      (pss_cons (ps_set (i := 2) scCk.nd rfl (Or.inr rfl) (pe_cal C2 hr2 rfl pass0 (pa_cons (pv 0) (pa_cons (pv 1) pa_nil))))
      (pss_one (ps_ret (pe_op op_cat (pe_lst (pa_cons (pe_callB call_len_seq (by rfl) T.len PySem.boot_len (pa_cons
          (pe_lc (own := [("who", 4)]) (g := gName 4) (tt := tB (tFis K)) rfl scCk.nd (pi_range1 rfl T.range (pa_cons (pe_callB call_len_seq (by rfl) T.len PySem.boot_len (pa_cons (pv 2) pa_nil)) pa_nil)) (blkOk_by (N := nCk) (sc := defScope sCk) (by decide +kernel))
            (fun _ _ _ _ _ => pg_name (i := 4) scCk.nd rfl (Or.inl rfl)) (fun _ _ _ _ _ => pts_one (pt_val (pe_cal C3 hr1 rfl pass0 (pa_cons (pv 2) (pa_cons (pv 4) pa_nil))))) (fun _ _ _ _ _ => pv 4)) pa_nil)) pa_nil)) (pv 2)))))
end
end Sf
namespace Sf
open PySem PySem.Spec PyProof.Rows L2
open Mth (WF ofN Enc)
open Sj10 (Standing)
/-- an if whose test is known -/
theorem ifT {c : Bool} {A B : Prop} (hc : c = true) (h : A) : if c = true then A else B := by
  rw [if_pos hc]; exact h
theorem ifF {c : Bool} {A B : Prop} (hc : c = false) (h : B) : if c = true then A else B := by
  rw [hc]; exact iteF h
/-- a list of lists of numbers, as the program reads them -/
def LsAt (K : PySem.W.Frag) (H : Hp) (a : Addr) (ls : List (List Int)) : Prop := ∃ ts : List Addr, SqL K H a (ts.map V.ref) ∧ ts.length = ls.length ∧ ∀ (i : Nat) (t : Addr) (l : List Int), ts[i]? = some t → ls[i]? = some l → SqL K H t (l.map V.int)
theorem LsAt.same {K : PySem.W.Frag} {H H' : Hp} {a : Addr} {ls : List (List Int)} (h : LsAt K H a ls) (e : Same H H') : LsAt K H' a ls := by
  obtain ⟨ts, h1, h2, h3⟩ := h
  exact ⟨ts, e.seq h1, h2, fun i t l a b => e.seq (h3 i t l a b)⟩
/-- what a call leaves: the desk with its new standing, all else as it was -/
structure Left (CD CS : Addr) (H H' : Hp) (d w b w' b' st' : Addr) (s' : Standing) : Prop where
  desk : DeskAt CD CS H' d st' w' b' s'
  kept : ∀ c o, H c = some o → c ≠ d → c ≠ w → c ≠ b → H' c = some o
  wn : w' = w ∨ H w' = none
  bn : b' = b ∨ H b' = none
theorem Left.over {CD CS : Addr} {H H1 H2 : Hp} {d w b w' b' st' : Addr} {s' : Standing} (h : Left CD CS H H1 d w b w' b' st' s') (e : Same H1 H2) : Left CD CS H H2 d w b w' b' st' s' := ⟨h.desk.same e, fun c o q n1 n2 n3 => e _ _ (h.kept c o q n1 n2 n3), h.wn, h.bn⟩
theorem left_same {CD CS : Addr} {H H' : Hp} {d st w b : Addr} {s : Standing} (h : DeskAt CD CS H d st w b s) (e : Same H H') : Left CD CS H H' d w b w b st s := ⟨h.same e, fun c o q _ _ _ => e _ _ q, .inl rfl, .inl rfl⟩
section
variable {P : Program} {w : World} {K : PySem.W.Frag} {mg : Str → Option Value} {base : Heap} {CS CD CR fR : Addr}
/-! ### call_on(desk, call, n, lists). Slots: desk, call, n, lists, standing -/
def spCo (K : PySem.W.Frag) (CS CD CR : Addr) : Sp := fun vs H Q E => ∃ (d st w b aN aL : Addr) (s : Standing) (p : Int) (ns : List Int) (ls : List (List Int)) (q : Sj10.Call), vs = [.ref d, .int p, .ref aN, .ref aL] ∧ DeskAt CD CS H d st w b s ∧ WF s ∧ Enc p ns ls q ∧
  SqL K H aN (ns.map V.int) ∧ LsAt K H aL ls ∧ ((Sj10.step s q).2.v < 0 → (Sj10.step s q).2.l = [] → (Sj10.step s q).1 = s → Refuse CR H E (Sj10.step s q).2.v) ∧
  (0 ≤ (Sj10.step s q).2.v → ∀ (H' : Hp) (x st' w' b' : Addr), Left CD CS H H' d w b w' b' st' (Sj10.step s q).1 → H x = none → H' x = some (.lst ((Mth.ans s q).map V.int)) → Q (.ref x) H')
abbrev sCo : Stmt := top 43
abbrev nCo : List Str := ["desk", "call", "n", "lists", "standing"]
theorem scCo : FnScope nCo ["desk", "call", "n", "lists"] (defScope sCo) := ⟨rfl, rfl, rfl, by decide +kernel, rfl, by decide +kernel, by decide +kernel⟩
abbrev tIs (z : Int) : TT := tTest (tOp rEq (tVar 1) (tC (.int z)))
abbrev tN (K : PySem.W.Frag) (i : Int) : TE := tOp (rIxL K) (tVar 2) (tC (.int i))
abbrev tL0 (K : PySem.W.Frag) : TE := tOp (rIxL K) (tVar 3) (tC (.int 0))
def t_co (K : PySem.W.Frag) (CS CD CR : Addr) (E : XK) : TS :=
  tSeq (tAsg (tFld K (tVar 0) "standing") (gName 4))
    (tSeq (tIfS (tIs 0) (tRet (tCall (spBe CD CS) [] E0 (tCons (tVar 0) tNil))) tNext)
    (tSeq (tIfS (tIs 1) (tRet (tCall (spWr CS CR) [] E (tCons (tVar 4) (tCons (tN K 0) tNil)))) tNext)
    (tSeq (tIfS (tIs 2) (tRet (tCall (spBo CS CR) [] E (tCons (tVar 4) (tCons (tN K 0) (tCons (tN K 1) tNil))))) tNext)
    (tSeq (tIfS (tIs 3) (tRet (tCall (spCk K CS CR) [] E (tCons (tVar 4) (tCons (tL0 K) tNil)))) tNext)
    (tSeq (tIfS (tIs 4) (tRet (tCall (spCa CS CR) [] E (tCons (tVar 4) (tCons (tN K 0) tNil)))) tNext)
    (tSeq (tIfS (tIs 5) (tRet (tCall (spOs CS CR) [] E (tCons (tVar 4) (tCons (tN K 0) tNil)))) tNext)
    (tRet (tCall (spNe CS CR) [] E (tCons (tVar 4) (tCons (tN K 0) tNil))))))))))
theorem pure_co (T : Txt K mg CS CD CR fR) (vs : List V) (H : Hp) (Q : VK) (E : XK) (h : spCo K CS CD CR vs H Q E) : t_co K CS CD CR E { nx := fun _ H' => Q .non H', rt := Q } (start nCo vs) H := by
  obtain ⟨d, st, w, b, aN, aL, s, p, ns, ls, q, rfl, D, W, en, hN, hL, kR, kV⟩ := h
  obtain ⟨⟨dx, hd⟩, S⟩ := id D
  refine ⟨_, rfl, d, CD, dx, _, _, rfl, hd, T.clD, T.nD, dF_s st, ?_⟩
  cases en with
  | begins =>
    refine ⟨_, rfl, rfl, _, rfl, ifT (by decide) ?_⟩
    refine ⟨_, rfl, d, dx, st, rfl, hd, fun H' x st' w' b' D' _ nw nb kp hn hv => ?_⟩
    exact kV (show (0 : Int) ≤ 0 by decide) H' x st' w' b' ⟨D', fun c o e n1 _ _ => kp c o e n1, .inr nw, .inr nb⟩ hn hv
  | wrestler n =>
    refine ⟨_, rfl, rfl, _, rfl, ifF (by decide) ⟨_, rfl, rfl, _, rfl, ifT (by decide) ?_⟩⟩
    refine ⟨_, rfl, _, rfl, aN, _, _, _, rfl, rfl, hN, rfl, st, w, b, s, n, rfl, S, W, fun c => ?_, fun c1 c2 => ?_, fun c1 c2 H' x S' kp hn hv => ?_⟩
    · have e : Sj10.step s (.wrestler n) = (s, Sj10.ok (-1)) := by unfold Sj10.step; simp only; rw [if_pos (show Sj10.WINS < n from c)]
      rw [e] at kR
      exact kR (show (-1 : Int) < 0 by decide) rfl rfl
    · have e : Sj10.step s (.wrestler n) = (s, Sj10.ok (-5)) := by unfold Sj10.step; simp only; rw [if_neg (show ¬ Sj10.WINS < n from c1), if_pos (show Sj10.COUNT ≤ s.count from c2)]
      rw [e] at kR
      exact kR (show (-5 : Int) < 0 by decide) rfl rfl
    · have e : Sj10.step s (.wrestler n) = ({ s with wins := s.wins ++ [n] }, Sj10.ok ((s.count : Nat) : Int)) := by unfold Sj10.step; simp only; rw [if_neg (show ¬ Sj10.WINS < n from c1), if_neg (show ¬ Sj10.COUNT ≤ s.count from c2)]
      have stw : d ≠ w := ne_of hd S.wi (by intro z; cases z)
      unfold Mth.ans at kV
      rw [e] at kV
      exact kV (by show (0 : Int) ≤ ((_ : Nat) : Int); omega) H' x st w b ⟨⟨⟨dx, kp _ _ hd stw⟩, S'⟩, fun c o e _ n2 _ => kp c o e n2, .inl rfl, .inl rfl⟩ hn hv
  | bout i k =>
    refine ⟨_, rfl, rfl, _, rfl, ifF (by decide) ⟨_, rfl, rfl, _, rfl, ifF (by decide) ⟨_, rfl, rfl, _, rfl, ifT (by decide) ?_⟩⟩⟩
    refine ⟨_, rfl, _, rfl, aN, _, _, _, rfl, rfl, hN, rfl, _, rfl, aN, _, _, _, rfl, rfl, hN, rfl, st, w, b, s, i, k, rfl, S, W, fun c => ?_, fun c1 c2 => ?_, fun c1 c2 c3 => ?_, fun c1 c2 c3 H' x S' kp hn hv => ?_⟩
    · have e : Sj10.step s (.bout i k) = (s, Sj10.ok (-2)) := by unfold Sj10.step; simp only; rw [if_pos (show s.count ≤ i ∨ s.count ≤ k from c)]
      rw [e] at kR
      exact kR (show (-2 : Int) < 0 by decide) rfl rfl
    · have e : Sj10.step s (.bout i k) = (s, Sj10.ok (-4)) := by unfold Sj10.step; simp only; rw [if_neg (show ¬ (s.count ≤ i ∨ s.count ≤ k) from c1), if_pos c2]
      rw [e] at kR
      exact kR (show (-4 : Int) < 0 by decide) rfl rfl
    · have e : Sj10.step s (.bout i k) = (s, Sj10.ok (-5)) := by unfold Sj10.step; simp only; rw [if_neg (show ¬ (s.count ≤ i ∨ s.count ≤ k) from c1), if_neg c2, if_pos (show Sj10.BOUTS ≤ s.bouts.length from c3)]
      rw [e] at kR
      exact kR (show (-5 : Int) < 0 by decide) rfl rfl
    · have e : Sj10.step s (.bout i k) = ({ s with bouts := s.bouts ++ [(i, k)] }, Sj10.ok ((s.bouts.length : Nat) : Int)) := by unfold Sj10.step; simp only; rw [if_neg (show ¬ (s.count ≤ i ∨ s.count ≤ k) from c1), if_neg c2, if_neg (show ¬ Sj10.BOUTS ≤ s.bouts.length from c3)]
      obtain ⟨ts, h3, _⟩ := S.bo
      have stb : d ≠ b := ne_of hd h3 (by intro z; cases z)
      unfold Mth.ans at kV
      rw [e] at kV
      exact kV (by show (0 : Int) ≤ ((_ : Nat) : Int); omega) H' x st w b ⟨⟨⟨dx, kp _ _ hd stb⟩, S'⟩, fun c o e _ _ n3 => kp c o e n3, .inl rfl, .inl rfl⟩ hn hv
  | check o ho =>
    refine ⟨_, rfl, rfl, _, rfl, ifF (by decide) ⟨_, rfl, rfl, _, rfl, ifF (by decide) ⟨_, rfl, rfl, _, rfl, ifF (by decide) ⟨_, rfl, rfl, _, rfl, ifT (by decide) ?_⟩⟩⟩⟩
    obtain ⟨ts, g1, g2, g3⟩ := hL
    match ts, g2, g1, g3 with
    | [t], _, g1, g3 =>
      have e1 : (Sj10.step s (.check o)).1 = s := by unfold Sj10.step; simp only; split <;> rfl
      refine ⟨_, rfl, _, rfl, aL, _, _, _, rfl, rfl, g1, rfl, st, w, b, t, s, o, rfl, S, W, g3 0 t _ rfl rfl, ho, fun c1 c2 => kR c1 c2 e1, fun c1 H' x s1 hn hv => ?_⟩
      exact kV c1 H' x st w b (by rw [e1]; exact left_same D s1) hn hv
  | can i =>
    refine ⟨_, rfl, rfl, _, rfl, ifF (by decide) ⟨_, rfl, rfl, _, rfl, ifF (by decide) ⟨_, rfl, rfl, _, rfl, ifF (by decide) ⟨_, rfl, rfl, _, rfl, ifF (by decide) ⟨_, rfl, rfl, _, rfl, ifT (by decide) ?_⟩⟩⟩⟩⟩
    have e1 : (Sj10.step s (.can i)).1 = s := by unfold Sj10.step; simp only; split <;> rfl
    refine ⟨_, rfl, _, rfl, aN, _, _, _, rfl, rfl, hN, rfl, st, w, b, s, i, rfl, S, W, fun c1 c2 => kR c1 c2 e1, fun c1 H' x s1 hn hv => ?_⟩
    exact kV c1 H' x st w b (by rw [e1]; exact left_same D s1) hn hv
  | odds i =>
    refine ⟨_, rfl, rfl, _, rfl, ifF (by decide) ⟨_, rfl, rfl, _, rfl, ifF (by decide) ⟨_, rfl, rfl, _, rfl, ifF (by decide) ⟨_, rfl, rfl, _, rfl, ifF (by decide) ⟨_, rfl, rfl, _, rfl, ifF (by decide) ⟨_, rfl, rfl, _, rfl, ifT (by decide) ?_⟩⟩⟩⟩⟩⟩
    have e1 : (Sj10.step s (.odds i)).1 = s := by unfold Sj10.step; simp only; split <;> rfl
    refine ⟨_, rfl, _, rfl, aN, _, _, _, rfl, rfl, hN, rfl, st, w, b, s, i, rfl, S, W, fun c1 c2 => kR c1 c2 e1, fun c1 H' x s1 hn hv => ?_⟩
    exact kV c1 H' x st w b (by rw [e1]; exact left_same D s1) hn hv
  | needs i =>
    refine ⟨_, rfl, rfl, _, rfl, ifF (by decide) ⟨_, rfl, rfl, _, rfl, ifF (by decide) ⟨_, rfl, rfl, _, rfl, ifF (by decide) ⟨_, rfl, rfl, _, rfl, ifF (by decide) ⟨_, rfl, rfl, _, rfl, ifF (by decide) ⟨_, rfl, rfl, _, rfl, ifF (by decide) ?_⟩⟩⟩⟩⟩⟩
    have e1 : (Sj10.step s (.needs i)).1 = s := by unfold Sj10.step; simp only; split <;> rfl
    refine ⟨_, rfl, _, rfl, aN, _, _, _, rfl, rfl, hN, rfl, st, w, b, s, i, rfl, S, W, fun c1 c2 => kR c1 c2 e1, fun c1 H' x s1 hn hv => ?_⟩
    exact kV c1 H' x st w b (by rw [e1]; exact left_same D s1) hn hv
theorem ok_co {f : Addr} {fd : FuncData} (F : Fun K "call_on" "call_on" sCo f fd) (T : Txt K mg CS CD CR fR) (C0 : Cal P w K mg base "begins" CX0 3 ["desk"] (spBe CD CS)) (C1 : Cal P w K mg base "wrestler" (L2.CX P w) 4 ["standing", "wins"] (spWr CS CR)) (C2 : Cal P w K mg base "bout" (L2.CX P w) 5 nBo (spBo CS CR))
    (C3 : Cal P w K mg base "check" (L2.CX P w) 4 ["standing", "outcome"] (spCk K CS CR)) (C4 : Cal P w K mg base "can" (L2.CX P w) 5 ["standing", "who"] (spCa CS CR)) (C5 : Cal P w K mg base "odds" (L2.CX P w) 5 ["standing", "who"] (spOs CS CR)) (C6 : Cal P w K mg base "needs" (L2.CX P w) 6 ["standing", "who"] (spNe CS CR)) :
    FnOk P w K mg base (L2.CX P w) 7 f fd ["desk", "call", "n", "lists"] (spCo K CS CD CR) := by
  refine F.okX scCo (fun vs H Q E h => ?_) (fun cdv A outer s H vs Q E hr h => ⟨t_co K CS CD CR E, ?_, pure_co T vs H Q E h⟩)
  · obtain ⟨d, st, w, b, aN, aL, s, p, ns, ls, q, rfl, _⟩ := h
    rfl
  · have hr3 : Room 3 _ := hr.mono (by decide)
    have hr4 : Room 4 _ := hr.mono (by decide)
    have hr5 : Room 5 _ := hr.mono (by decide)
    exact pss_cons (ps_set (i := 4) scCo.nd rfl (Or.inl rfl) (pe_fld (pv 0) rfl))
      (pss_cons (ps_if (pt_cmpR op_eq (pv 1) pe_int (nomark _)) (pss_one (ps_ret (pe_cal C0 hr3 rfl pass0 (pa_cons (pv 0) pa_nil)))) pss_nil)
      (pss_cons (ps_if (pt_cmpR op_eq (pv 1) pe_int (nomark _)) (pss_one (ps_ret (pe_cal C1 hr4 rfl (passes_call (W := WD E) (takes_of rfl rfl rfl rfl) (fun _ _ _ _ h => h)) (pa_cons (pv 4) (pa_cons (pe_ix ix_list (pv 2) pe_int (fun _ _ => rfl)) pa_nil))))) pss_nil)
      (pss_cons (ps_if (pt_cmpR op_eq (pv 1) pe_int (nomark _)) (pss_one (ps_ret (pe_cal C2 hr5 rfl (passes_call (W := WD E) (takes_of rfl rfl rfl rfl) (fun _ _ _ _ h => h)) (pa_cons (pv 4) (pa_cons (pe_ix ix_list (pv 2) pe_int (fun _ _ => rfl)) (pa_cons (pe_ix ix_list (pv 2) pe_int (fun _ _ => rfl)) pa_nil)))))) pss_nil)
      (pss_cons (ps_if (pt_cmpR op_eq (pv 1) pe_int (nomark _)) (pss_one (ps_ret (pe_cal C3 hr4 rfl (passes_call (W := WD E) (takes_of rfl rfl rfl rfl) (fun _ _ _ _ h => h)) (pa_cons (pv 4) (pa_cons (pe_ix ix_list (pv 3) pe_int (fun _ _ => rfl)) pa_nil))))) pss_nil)
      (pss_cons (ps_if (pt_cmpR op_eq (pv 1) pe_int (nomark _)) (pss_one (ps_ret (pe_cal C4 hr5 rfl (passes_call (W := WD E) (takes_of rfl rfl rfl rfl) (fun _ _ _ _ h => h)) (pa_cons (pv 4) (pa_cons (pe_ix ix_list (pv 2) pe_int (fun _ _ => rfl)) pa_nil))))) pss_nil)
      (pss_cons (ps_if (pt_cmpR op_eq (pv 1) pe_int (nomark _)) (pss_one (ps_ret (pe_cal C5 hr5 rfl (passes_call (W := WD E) (takes_of rfl rfl rfl rfl) (fun _ _ _ _ h => h)) (pa_cons (pv 4) (pa_cons (pe_ix ix_list (pv 2) pe_int (fun _ _ => rfl)) pa_nil))))) pss_nil)
      (pss_one (ps_ret (pe_cal C6 hr rfl (passes_call (W := WD E) (takes_of rfl rfl rfl rfl) (fun _ _ _ _ h => h)) (pa_cons (pv 4) (pa_cons (pe_ix ix_list (pv 2) pe_int (fun _ _ => rfl)) pa_nil))))))))))) 
/-! ### answer_to(desk, call, n, lists). Slots: desk, call, n, lists, refusal -/
def spAt (K : PySem.W.Frag) (CS CD : Addr) : Sp := fun vs H Q _ => ∃ (d st w b aN aL : Addr) (s : Standing) (p : Int) (ns : List Int) (ls : List (List Int)) (q : Sj10.Call), vs = [.ref d, .int p, .ref aN, .ref aL] ∧ DeskAt CD CS H d st w b s ∧ WF s ∧ Enc p ns ls q ∧
  SqL K H aN (ns.map V.int) ∧ LsAt K H aL ls ∧ ∀ (H' : Hp) (x st' w' b' : Addr), Left CD CS H H' d w b w' b' st' (Sj10.step s q).1 → H x = none → H' x = some (.lst ((Mth.ans s q).map V.int)) → Q (.ref x) H'
abbrev sAt : Stmt := top 44
abbrev nAt : List Str := ["desk", "call", "n", "lists", "refusal"]
theorem scAt : FnScope nAt ["desk", "call", "n", "lists"] (defScope sAt) := ⟨rfl, rfl, rfl, by decide +kernel, rfl, by decide +kernel, by decide +kernel⟩
def ts_at (CR : Addr) : Addr → Value → Option Addr → TS := fun a cls d => tRet (tLst (tCons (tNumRef CR a cls d (tVar 4)) tNil))
def tb_at (K : PySem.W.Frag) (CS CD CR : Addr) : WX → TS := fun W => tRet (tCallS (spCo K CS CD CR) (WE W) (tCons (tVar 0) (tCons (tVar 1) (tCons (tVar 2) (tCons (tVar 3) tNil)))))
def t_at (K : PySem.W.Frag) (CS CD CR : Addr) : TS := fun D σ H => tb_at K CS CD CR (wAs K (.ref CR) 4 (ts_at CR) (fun _ _ _ _ => False) D) D σ H
theorem pure_at (T : Txt K mg CS CD CR fR) (vs : List V) (H : Hp) (Q : VK) (E : XK) (h : spAt K CS CD vs H Q E) : t_at K CS CD CR { nx := fun _ H' => Q .non H', rt := Q } (start nAt vs) H := by
  obtain ⟨d, st, w, b, aN, aL, s, p, ns, ls, q, rfl, D, W, en, hN, hL, kV⟩ := h
  refine ⟨_, rfl, _, rfl, _, rfl, _, rfl, d, st, w, b, aN, aL, s, p, ns, ls, q, rfl, D, W, en, hN, hL, fun c1 c2 c3 => ?_, fun _ H' x st' w' b' L hn hv => kV H' x st' w' b' L hn hv⟩
  intro H1 dd s1 hd
  refine ⟨true, T.ref.te, fun _ a0 _ => ?_, fun z => Bool.noConfusion z⟩
  refine ⟨_, rfl, rfl, rfl, dd, _, rfl, hd, le_line (by simp), fun x hx => ?_⟩
  refine kV _ x st w b (by rw [c3]; exact left_same D (s1.trans (same_upd hx))) (s1.free hx) ?_
  rw [upd_same]
  unfold Mth.ans
  rw [c2]; rfl
theorem ok_at {f : Addr} {fd : FuncData} (F : Fun K "answer_to" "answer_to" sAt f fd) (T : Txt K mg CS CD CR fR) (C1 : Cal P w K mg base "call_on" (L2.CX P w) 7 ["desk", "call", "n", "lists"] (spCo K CS CD CR)) : FnOk P w K mg base CX0 8 f fd ["desk", "call", "n", "lists"] (spAt K CS CD) := by
  obtain ⟨fC, fdC, G, gC, kC, bC⟩ := C1
  refine F.ok scAt (fun vs H Q E h => ?_) (fun cdv A outer s H vs Q E hr h => ⟨t_at K CS CD CR, ?_, pure_at T vs H Q E h⟩)
  · obtain ⟨d, st, w, b, aN, aL, s, p, ns, ls, q, rfl, _⟩ := h
    rfl
  · exact pss_one (ps_try_as (i := 4) (tb := tb_at K CS CD CR) (ts := ts_at CR) (Wout := fun _ _ _ _ => False) rfl rfl scAt.nd rfl rfl ⟨rfl, by decide, Or.inl T.ref.gC⟩ takes0
      (fun W pn xe tk _ => pss_one (ps_ret (by exact (pe_callS G hr rfl gC kC bC (fun σ => passAt tk σ) (by exact (pa_cons (pv 0) (pa_cons (pv 1) (pa_cons (pv 2) (pa_cons (pv 3) pa_nil)))))))))
      (fun a oe cls d pn hz hf => pss_one (ps_ret (by exact (pe_lst (pa_cons (pe_numRef T.ref hz hf (pv 4)) pa_nil))))))
end
end Sf
namespace Sf
open PySem PySem.Spec PyProof.Rows L2
open Mth (WF ofN Enc Lies Rest)
open Sj10 (Standing)
/-! ### slices of the line -/
theorem cut_nat {l : List Int} {a b : Nat} (ha : a ≤ l.length) (hb : b ≤ l.length) : cutV (l.map V.int) (some (a : Int)) (some (b : Int)) = ((l.drop a).take (b - a)).map V.int := by
  unfold cutV
  rw [List.length_map, HT.sIx_nat, HT.sIx_nat, Nat.min_eq_left ha, Nat.min_eq_left hb, ← List.map_drop, ← List.map_take]
theorem drop_split {l x t : List Int} {i : Nat} (h : l.drop i = x ++ t) : (l.drop i).take x.length = x ∧ l.drop (i + x.length) = t ∧ (x = [] ∨ i + x.length ≤ l.length) := by
  have h2 : l.drop (i + x.length) = t := by rw [← List.drop_drop, h, List.drop_left]
  refine ⟨by rw [h, List.take_left], h2, ?_⟩
  cases x with
  | nil => exact .inl rfl
  | cons a x =>
    right
    have e := congrArg List.length h
    rw [List.length_drop, List.length_append, List.length_cons] at e
    rw [List.length_cons]
    omega
theorem drop_head {l t : List Int} {p : Int} {i : Nat} (h : l.drop i = p :: t) : l[i]? = some p ∧ i < l.length ∧ l.drop (i + 1) = t := by
  have e : l[i]? = some p := by
    have := congrArg (fun q => q[0]?) h
    simpa using this
  refine ⟨e, (List.getElem?_eq_some_iff.mp e).1, ?_⟩
  rw [← List.drop_drop, h]
  rfl
/-- the lists that stand from a place on; the place behind them -/
def Rows (l : List Int) (i : Nat) (m : Nat) (ls : List (List Int)) (j : Nat) : Prop := (m = 0 ∧ ls = [] ∧ j = i) ∨ (m = 1 ∧ ∃ x t, l.drop i = (x.length : Int) :: x ++ t ∧ ls = [x] ∧ j = i + 1 + x.length)
section
variable {P : Program} {w : World} {K : PySem.W.Frag} {mg : Str → Option Value} {base : Heap} {CS CD CR fR : Addr}
/-! ### lists_from(calls, at, many). Slots: calls, at, many, found, one, end -/
def spLf (K : PySem.W.Frag) : Sp := fun vs H Q _ => ∃ (a : Addr) (l : List Int) (i m j : Nat) (ls : List (List Int)), vs = [.ref a, .int i, .int m] ∧ SqL K H a (l.map V.int) ∧ Rows l i m ls j ∧
  ∀ (H' : Hp) (p L : Addr), Same H H' → H' p = some (.tup [.ref L, .int j]) → LsAt K H' L ls → Q (.ref p) H'
abbrev sLf : Stmt := top 45
abbrev nLf : List Str := ["calls", "at", "many", "found", "one", "end"]
theorem scLf : FnScope nLf ["calls", "at", "many"] (defScope sLf) := ⟨rfl, rfl, rfl, by decide +kernel, rfl, by decide +kernel, by decide +kernel⟩
def t_lf (K : PySem.W.Frag) : TS :=
  tSeq (tAsg (tLst tNil) (gName 3))
    (tSeq (tFor (iRng1 (tCons (tVar 2) tNil)) (gName 4)
      (tSeq (tAsg (tOp rAdd (tOp rAdd (tVar 1) (tC (.int 1))) (tOp (rIxL K) (tVar 0) (tVar 1))) (gName 5))
      (tSeq (tDrop (tBM K "list" rAppend (tVar 3) (tCons (tSl (rSlL K) (tVar 0) (tPart (tOp rAdd (tVar 1) (tC (.int 1)))) (tPart (tVar 5))) tNil)))
        (tAsg (tVar 5) (gName 1)))))
    (tRet (tTup (tCons (tVar 3) (tCons (tVar 1) tNil)))))
theorem pure_lf (vs : List V) (H : Hp) (Q : VK) (E : XK) (h : spLf K vs H Q E) : t_lf K { nx := fun _ H' => Q .non H', rt := Q } (start nLf vs) H := by
  obtain ⟨a, l, i, m, j, ls, rfl, hS, hR, k⟩ := h
  refine ⟨Nat.zero_le _, fun f hf => ?_⟩
  have q0 := same_upd (o := .lst []) hf
  have hm : m ≤ 1 := by rcases hR with ⟨e, _⟩ | ⟨e, _⟩ <;> omega
  refine ⟨_, rfl, (m : Int), rfl, by omega, by omega, ?_⟩
  refine for_range (lo := 0) (n := (m : Int).toNat) (fun c σ H' => ∃ v4 v5 : Option V, (c = 0 ∧ σ = [some (.ref a), some (.int i), some (.int m), some (.ref f), v4, v5] ∧ Same H H' ∧ H' f = some (.lst [])) ∨
      (c = 1 ∧ σ = [some (.ref a), some (.int j), some (.int m), some (.ref f), v4, v5] ∧ Same H H' ∧ ∃ r x, ls = [x] ∧ H' f = some (.lst [.ref r]) ∧ H' r = some (.lst (x.map V.int))))
    ⟨none, none, .inl ⟨rfl, rfl, q0, upd_same⟩⟩ ?_ ?_
  · rintro c σ H1 hc ⟨v4, v5, hv⟩
    rw [Int.toNat_natCast] at hc
    rcases hv with ⟨e, rfl, s1, hF⟩ | ⟨e, _⟩
    case inr => omega
    rcases hR with ⟨e', _⟩ | ⟨em, x, t, hd, hls, hj⟩
    case inl => omega
    have hd' : l.drop i = (x.length : Int) :: (x ++ t) := hd
    obtain ⟨g1, g2, g3⟩ := drop_head hd'
    obtain ⟨d1, d2, d3⟩ := drop_split g3
    have hjl : j ≤ l.length := by
      rcases d3 with z | z
      · rw [hj, z]; show i + 1 + 0 ≤ l.length; omega
      · omega
    have ej : ((i : Int) + 1) + (x.length : Int) = (j : Int) := by omega
    have ei : (i : Int) + 1 = ((i + 1 : Nat) : Int) := by omega
    refine ⟨_, rfl, _, _, rfl, rfl, _, rfl, _, rfl, a, _, _, .int (x.length : Int), rfl, rfl, s1.seq hS, atI_nat (by rw [List.getElem?_map, g1]; rfl), _, _, rfl, rfl, ?_⟩
    refine ⟨_, rfl, tyL (.inl (.inl hF)), _, rfl, _, rfl, _, _, rfl, rfl, _, rfl, _, rfl, _, rfl, a, _, rfl, s1.seq hS, fun r hr => ?_⟩
    have q1 := same_upd (o := .lst (cutV (l.map V.int) (some ((i : Int) + 1)) (some ((i : Int) + 1 + (x.length : Int))))) hr
    have hrf : r ≠ f := (ne_of_none hF hr).symm
    refine ⟨f, _, _, rfl, rfl, q1 _ _ hF, by show 0 < sizeLine; exact lt_line (by omega), ?_⟩
    refine ⟨_, rfl, some (.int (0 + (c : Int))), some (.int ((i : Int) + 1 + (x.length : Int))), .inr ⟨by omega, ?_, Same.over (s1.trans q1) hf, r, x, hls, ?_, ?_⟩⟩
    · show [some (V.ref a), some (V.int ((i : Int) + 1 + (x.length : Int))), some (V.int (m : Int)), some (V.ref f), some (V.int (0 + (c : Int))), some (V.int ((i : Int) + 1 + (x.length : Int)))] = _
      rw [ej]
    · rw [upd_same]; rfl
    · rw [upd_ne hrf, upd_same, ej, ei, cut_nat (by omega) hjl, show j - (i + 1) = x.length by omega, d1]
  · rintro σ H1 ⟨v4, v5, hv⟩
    rw [Int.toNat_natCast] at hv
    rcases hv with ⟨e, rfl, s1, hF⟩ | ⟨e, rfl, s1, r, x, hx, hF, hr⟩
    · rcases hR with ⟨_, hls, hj⟩ | ⟨em, _⟩
      case inr => omega
      refine ⟨_, rfl, _, rfl, le_line (by simp), fun p hp => ?_⟩
      have q := same_upd (o := .tup [V.ref f, V.int i]) hp
      refine k _ p f (s1.trans q) (by rw [hj]; exact upd_same) ⟨[], .inl (.inl (q _ _ hF)), by rw [hls]; rfl, fun i t l a b => by simp at a⟩
    · refine ⟨_, rfl, _, rfl, le_line (by simp), fun p hp => ?_⟩
      have q := same_upd (o := .tup [V.ref f, V.int j]) hp
      refine k _ p f (s1.trans q) upd_same ⟨[r], .inl (.inl (q _ _ hF)), by rw [hx]; rfl, fun i t l a b => ?_⟩
      match i, a with
      | 0, a =>
        cases a
        rw [hx] at b
        cases b
        exact .inl (.inl (q _ _ hr))
      | i + 1, a => simp at a
theorem ok_lf {f : Addr} {fd : FuncData} (F : Fun K "lists_from" "lists_from" sLf f fd) (T : Txt K mg CS CD CR fR) : FnOk P w K mg base CX0 1 f fd ["calls", "at", "many"] (spLf K) := by
  refine F.ok scLf (fun vs H Q E h => ?_) (fun cdv A outer s H vs Q E hr h => ⟨t_lf K, ?_, pure_lf vs H Q E h⟩)
  · obtain ⟨a, l, i, m, j, ls, rfl, _⟩ := h
    rfl
  · exact pss_cons (ps_set (i := 3) scLf.nd rfl (Or.inl rfl) (pe_lst pa_nil))
      (pss_cons (ps_for PassesOwn.never rfl (pi_range1 rfl T.range (pa_cons (pv 2) pa_nil)) (pg_name (i := 4) scLf.nd rfl (Or.inl rfl))
        (pss_cons (ps_set (i := 5) scLf.nd rfl (Or.inl rfl) (pe_op op_add (pe_op op_add (pv 1) pe_int) (pe_ix ix_list (pv 0) (pv 1) (fun _ _ => rfl))))
        (pss_cons (ps_expr (pe_bm PySem.F.plainAttrs_list PySem.F.slot_list_append PySem.F.type_list_append mt_append (pv 3) (pa_cons (pe_slice sl_list (pv 0) (po_some (pe_op op_add (pv 1) pe_int)) (po_some (pv 5))) pa_nil)))
        (pss_one (ps_set (i := 1) scLf.nd rfl (Or.inl rfl) (pv 5))))))
      (pss_one (ps_ret (pe_tup (pa_cons (pv 3) (pa_cons (pv 1) pa_nil))))))
/-! ### answers(calls). Slots: calls, desk, found, at, call, behind, lists, end, answer -/
def numsV : List V := [.int 0, .int 1, .int 2, .int 0, .int 1, .int 1, .int 1]
def lstsV : List V := [.int 0, .int 0, .int 0, .int 1, .int 0, .int 0, .int 0]
structure Tabs (K : PySem.W.Frag) (mg : Str → Option Value) (aN aL : Addr) : Prop where
  gN : mg "NUMBERS" = some (.ref aN)
  gL : mg "LISTS" = some (.ref aL)
  tN : ∀ H, SqT K H aN numsV
  tL : ∀ H, SqT K H aL lstsV
def CalD (P : Program) (w : World) (K : PySem.W.Frag) (mg : Str → Option Value) (base : Heap) (CS CD : Addr) : Prop := ∃ (f : Addr) (fd : FuncData), Mk K CD f ∧ FnOk P w K mg base CX0 3 f fd ["self"] (spDI CD CS) ∧ Binds K fd ["self"] []
theorem pe_mkD {X : Cx} {p pos : Pos} (C : CalD X.prog X.w X.K X.mg X.base CS CD) (hr : Room 4 X.A) (gD : X.mg "Desk" = some (.ref CD)) (hg : Gl X "Desk" := by rfl) : PE X (.Call (.Name "Desk" p) [] [] pos) (tMake CD (spDI CD CS) [] E0 tNil) := by
  obtain ⟨f, fd, M, G, b⟩ := C
  exact pe_make0 M G hr hg gD b .nil pass0
def spAns (K : PySem.W.Frag) : Sp := fun vs H Q _ => ∃ (a : Addr) (l due : List Int), vs = [.ref a] ∧ SqL K H a (l.map V.int) ∧ Rest Sj10.init l due ∧ due.length ≤ 10000000 ∧
  ∀ (H' : Hp) (p : Addr), H' p = some (.lst (due.map V.int)) → Q (.ref p) H'
abbrev sAns : Stmt := top 46
abbrev nAns : List Str := ["calls", "desk", "found", "at", "call", "behind", "lists", "end", "answer"]
theorem scAns : FnScope nAns ["calls"] (defScope sAns) := ⟨rfl, rfl, rfl, by decide +kernel, rfl, by decide +kernel, by decide +kernel⟩
def rLt : R2 := rI0 fun i j => .bl (decide (i < j))
abbrev tGo (K : PySem.W.Frag) : TT := tTest (tOp rLt (tVar 3) (tCB (rLen K) (tCons (tVar 0) tNil)))
abbrev tAt1 : TE := tOp rAdd (tVar 3) (tC (.int 1))
def t_ans (K : PySem.W.Frag) (CS CD aN aL : Addr) : TS :=
  tSeq (tAsg (tMake CD (spDI CD CS) [] E0 tNil) (gName 1))
    (tSeq (tAsg (tLst tNil) (gName 2))
    (tSeq (tAsg (tC (.int 0)) (gName 3))
    (tSeq (tWhile (tGo K)
      (tSeq (tAsg (tOp (rIxL K) (tVar 0) (tVar 3)) (gName 4))
      (tSeq (tAsg (tOp rAdd tAt1 (tOp (rIxT K) (tC (.ref aN)) (tVar 4))) (gName 5))
      (tSeq (tAsg (tCall (spLf K) [] E0 (tCons (tVar 0) (tCons (tVar 5) (tCons (tOp (rIxT K) (tC (.ref aL)) (tVar 4)) tNil)))) (gTup K 2 (gCons (gName 6) (gCons (gName 7) gNil))))
      (tSeq (tAsg (tCall (spAt K CS CD) [] E0 (tCons (tVar 1) (tCons (tVar 4) (tCons (tSl (rSlL K) (tVar 0) (tPart tAt1) (tPart (tVar 5))) (tCons (tVar 6) tNil))))) (gName 8))
      (tSeq (tDrop (tBM K "list" rAppend (tVar 2) (tCons (tCB (rLen K) (tCons (tVar 8) tNil)) tNil)))
      (tSeq (tDrop (tBM K "list" rExtend (tVar 2) (tCons (tVar 8) tNil)))
        (tAsg (tVar 7) (gName 3)))))))))
    (tRet (tVar 2)))))
def muA (n : Nat) (σ : L2.St) : Nat := match (σ[3]? : Option (Option V)) with
  | some (some (V.int z)) => n - z.toNat
  | _ => 0
/-- what the tables say of a call, and what stands behind its place -/
theorem call_at {l : List Int} {i : Nat} {p : Int} {r ns t : List Int} {ls : List (List Int)} {q : Sj10.Call} (h : l.drop i = p :: r) (en : Enc p ns ls q) (li : Lies p ns ls (p :: r) t) :
    ∃ n m j : Nat, atI numsV p = some (.int n) ∧ atI lstsV p = some (.int m) ∧ i + 1 + n ≤ l.length ∧ (l.drop (i + 1)).take n = ns ∧ Rows l (i + 1 + n) m ls j ∧ l.drop j = t ∧ i < j ∧ j ≤ l.length := by
  obtain ⟨g1, g2, g3⟩ := drop_head h
  have zero : ∀ (n : Nat), ls = [] → r = ns ++ t → ns.length = n → i + 1 + n ≤ l.length ∧ (l.drop (i + 1)).take n = ns ∧ Rows l (i + 1 + n) 0 ls (i + 1 + n) ∧ l.drop (i + 1 + n) = t ∧ i < i + 1 + n ∧ i + 1 + n ≤ l.length := fun n e er en => by
    rw [er] at g3
    obtain ⟨d1, d2, d3⟩ := drop_split g3
    rw [en] at d1 d2 d3
    have hle : i + 1 + n ≤ l.length := by
      rcases d3 with z | z
      · rw [z] at en
        have : n = 0 := en.symm
        omega
      · exact z
    exact ⟨hle, d1, .inl ⟨rfl, e, rfl⟩, d2, by omega, hle⟩
  have lz : ls = [] → r = ns ++ t := fun e => by
    cases li with
    | none => rfl
    | one => cases e
  cases en with
  | begins => exact ⟨0, 0, _, rfl, rfl, zero 0 rfl (lz rfl) rfl⟩
  | wrestler w => exact ⟨1, 0, _, rfl, rfl, zero 1 rfl (lz rfl) rfl⟩
  | bout a b => exact ⟨2, 0, _, rfl, rfl, zero 2 rfl (lz rfl) rfl⟩
  | check o ho =>
    cases li with
    | one =>
      have g3' : l.drop (i + 1) = (((ofN o).length : Nat) : Int) :: (ofN o ++ t) := g3
      obtain ⟨k1, k2, k3⟩ := drop_head g3'
      obtain ⟨d1, d2, d3⟩ := drop_split k3
      refine ⟨0, 1, i + 1 + 0 + 1 + (ofN o).length, rfl, rfl, by omega, rfl, .inr ⟨rfl, ofN o, t, g3', rfl, rfl⟩, d2, by omega, ?_⟩
      rcases d3 with z | z
      · rw [z]; show i + 1 + 0 + 1 + 0 ≤ _; omega
      · omega
  | can a => exact ⟨1, 0, _, rfl, rfl, zero 1 rfl (lz rfl) rfl⟩
  | odds a => exact ⟨1, 0, _, rfl, rfl, zero 1 rfl (lz rfl) rfl⟩
  | needs a => exact ⟨1, 0, _, rfl, rfl, zero 1 rfl (lz rfl) rfl⟩
end
end Sf
namespace Sf
open PySem PySem.Spec PyProof.Rows L2
open Mth (WF ofN Enc Lies Rest)
open Sj10 (Standing)
section
variable {P : Program} {w : World} {K : PySem.W.Frag} {mg : Str → Option Value} {base : Heap} {CS CD CR fR aN aL : Addr}
theorem go_mono (σ : L2.St) (H : Hp) (Q Q' : Bool → Hp → Prop) (hq : ∀ b H1, Q b H1 → Q' b H1) (h : tGo K σ H Q) : tGo K σ H Q' := by
  obtain ⟨v, e1, u, e2, p, ys, e3, e4, i, j, e5, e6, k, e7, q⟩ := h
  exact ⟨v, e1, u, e2, p, ys, e3, e4, i, j, e5, e6, k, e7, hq _ _ q⟩
theorem pure_ans (T : Txt K mg CS CD CR fR) (B : Tabs K mg aN aL) (vs : List V) (H : Hp) (Q : VK) (E : XK) (h : spAns K vs H Q E) : t_ans K CS CD aN aL { nx := fun _ H' => Q .non H', rt := Q } (start nAns vs) H := by
  obtain ⟨a, l, due, rfl, hS, hR, hlen, k⟩ := h
  intro x dx nx nd ne
  refine ⟨x, dx, rfl, upd_same, fun H1 st w b D nst nw nb kp => ⟨rfl, ?_⟩⟩
  have s1 : Same H H1 := Same.made nx nd kp
  have s0 : Same H (upd (upd H dx (.own x)) x (.ins CD dx [])) := (same_upd nd).trans (same_upd (by rw [upd_ne ne.symm]; exact nx))
  have hw : H w = none := s0.free nw
  have hb : H b = none := s0.free nb
  refine ⟨Nat.zero_le _, fun f hf => ?_⟩
  have q0 := same_upd (o := .lst []) hf
  have hf0 : H f = none := s1.free hf
  obtain ⟨dd, hd1⟩ := D.ob
  have hw1 := D.at_.wi
  obtain ⟨ts, hb1, _⟩ := D.at_.bo
  show tWhile (tGo K) _ _ _ _
  refine while_by (fun σ H' => ∃ (i : Nat) (s : Standing) (st w b : Addr) (done due' : List Int) (v4 v5 v6 v7 v8 : Option V), σ = [some (.ref a), some (.ref x), some (.ref f), some (.int i), v4, v5, v6, v7, v8] ∧ Same H H' ∧ DeskAt CD CS H' x st w b s ∧ WF s ∧ H w = none ∧ H b = none ∧
      H' f = some (.lst (done.map V.int)) ∧ f ≠ x ∧ f ≠ w ∧ f ≠ b ∧ i ≤ l.length ∧ Rest s (l.drop i) due' ∧ due = done ++ due') (fun σ _ => muA l.length σ) ?_ ?_ go_mono
  · exact ⟨0, Sj10.init, st, w, b, [], due, none, none, none, none, none, rfl, s1.trans q0, D.same q0, Mth.wf_init, hw, hb, upd_same, (ne_of_none hd1 hf).symm, (ne_of_none hw1 hf).symm, (ne_of_none hb1 hf).symm, Nat.zero_le _, hR, rfl⟩
  · rintro σ H2 ⟨i, s, st, w, b, done, due', v4, v5, v6, v7, v8, rfl, s2, D2, W, hw, hb, hF, fx, fw, fb, hi, hRest, hdue⟩
    refine ⟨_, rfl, _, rfl, a, _, rfl, .inl (s2.seq hS), _, _, rfl, rfl, _, rfl, ?_⟩
    by_cases hlt : i < l.length
    case neg =>
      refine ifF (decide_eq_false (by rw [List.length_map]; omega)) ?_
      have e : l.drop i = [] := List.drop_eq_nil_iff.mpr (by omega)
      rw [e] at hRest
      have e2 := Mth.rest_nil hRest
      refine ⟨_, rfl, k H2 f ?_⟩
      rw [hF, hdue, e2, List.append_nil]
    refine ifT (decide_eq_true (by rw [List.length_map]; omega)) ?_
    obtain ⟨p, r, hpr⟩ : ∃ p r, l.drop i = p :: r := ⟨_, _, List.drop_eq_getElem_cons hlt⟩
    rw [hpr] at hRest
    obtain ⟨ns, ls, q, t, due2, en, li, hRest2, edue⟩ := Mth.rest_cons hRest
    obtain ⟨g1, _, _⟩ := drop_head hpr
    obtain ⟨n, m, j, hn, hm, hle, hns, hRows, hdj, hij, hjl⟩ := call_at hpr en li
    have ei : (i : Int) + 1 = ((i + 1 : Nat) : Int) := by omega
    have en1 : (i : Int) + 1 + (n : Int) = ((i + 1 + n : Nat) : Int) := by omega
    -- call, behind
    refine ⟨_, rfl, _, rfl, a, _, _, .int p, rfl, rfl, s2.seq hS, atI_nat (by rw [List.getElem?_map, g1]; rfl), ?_⟩
    refine ⟨_, rfl, _, _, rfl, rfl, _, rfl, aN, _, _, _, rfl, rfl, B.tN _, hn, _, _, rfl, rfl, ?_⟩
    -- lists, end
    refine ⟨_, rfl, _, rfl, _, rfl, aL, _, _, _, rfl, rfl, B.tL _, hm, a, l, i + 1 + n, m, j, ls, by rw [← en1]; rfl, s2.seq hS, hRows, fun H3 p3 L s3 ht hL => ?_⟩
    refine ⟨p3, _, rfl, .inl (.inl ht), rfl, _, _, rfl, _, _, rfl, rfl, ?_⟩
    -- answer
    have s23 := s2.trans s3
    refine ⟨_, rfl, _, rfl, _, rfl, _, rfl, _, _, rfl, rfl, _, rfl, _, rfl, _, rfl, a, _, rfl, s23.seq hS, fun z hz => ?_⟩
    have q3 := same_upd (o := .lst (cutV (l.map V.int) (some ((i : Int) + 1)) (some ((i : Int) + 1 + (n : Int))))) hz
    have s33 := s3.trans q3
    have s4 := s2.trans s33
    have hz1 : SqL K (upd H3 z (.lst (cutV (l.map V.int) (some ((i : Int) + 1)) (some ((i : Int) + 1 + (n : Int)))))) z (ns.map V.int) := by
      refine .inl (.inl ?_)
      rw [upd_same, en1, ei, cut_nat (by omega) hle, show i + 1 + n - (i + 1) = n by omega, hns]
    have hF3 := s33 _ _ hF
    refine ⟨_, rfl, x, st, w, b, z, L, s, p, ns, ls, q, rfl, D2.same s33, W, en, hz1, hL.same q3, fun H4 y st' w' b' lf yn hy => ?_⟩
    have hyf : y ≠ f := (ne_of_none hF3 yn).symm
    have hF4 := lf.kept f _ hF3 fx fw fb
    have hfw' : f ≠ w' := by
      rcases lf.wn with e | e
      · rw [e]; exact fw
      · exact ne_of_none hF3 e
    have hfb' : f ≠ b' := by
      rcases lf.bn with e | e
      · rw [e]; exact fb
      · exact ne_of_none hF3 e
    have hw' : H w' = none := by
      rcases lf.wn with e | e
      · rw [e]; exact hw
      · exact s4.free e
    have hb' : H b' = none := by
      rcases lf.bn with e | e
      · rw [e]; exact hb
      · exact s4.free e
    have s44 : Same H H4 := fun c o e => lf.kept c o (s4 _ _ e) (ne_of_none e nx) (ne_of_none e hw) (ne_of_none e hb)
    have hl1 : done.length + (((Mth.ans s q).length : Int) :: Mth.ans s q).length ≤ due.length := by
      rw [hdue, edue, List.length_append, List.length_append]
      omega
    rw [List.length_cons] at hl1
    -- found.append(len(answer)); found.extend(answer); at = end
    refine ⟨_, rfl, tyL (.inl (.inl hF4)), _, rfl, y, _, rfl, .inl (.inl (.inl hy)), f, _, _, rfl, rfl, hF4, ?_, ?_⟩
    · rw [List.length_map, sizeLine_eq]; omega
    refine ⟨_, rfl, tyL (.inl (.inl upd_same)), _, rfl, f, y, _, _, rfl, rfl, upd_same, (upd_ne hyf).trans hy, ?_, ?_⟩
    · rw [List.length_append, List.length_map, List.length_map, sizeLine_eq]
      show done.length + 1 + (Mth.ans s q).length ≤ 16777216
      omega
    have other : ∀ c o, c ≠ f → H4 c = some o → upd (upd H4 f (.lst (done.map V.int ++ [V.int (((Mth.ans s q).map V.int).length : Nat)]))) f (.lst (done.map V.int ++ [V.int (((Mth.ans s q).map V.int).length : Nat)] ++ (Mth.ans s q).map V.int)) c = some o := fun c o hc e => by
      rw [upd_ne hc, upd_ne hc]; exact e
    obtain ⟨⟨d5, e5⟩, ⟨⟨d6, e6⟩, e7, ⟨ts2, e8, e9⟩, e10⟩⟩ := lf.desk
    refine ⟨_, rfl, ⟨j, (Sj10.step s q).1, st', w', b', done ++ (((Mth.ans s q).length : Int) :: Mth.ans s q), due2, _, _, _, _, _, rfl, ?_, ?_, Mth.wf_step W q, hw', hb', ?_, fx, hfw', hfb', hjl, ?_, ?_⟩, ?_⟩
    · exact fun c o e => other c o (ne_of_none e hf0) (s44 _ _ e)
    · refine ⟨⟨d5, other _ _ fx.symm e5⟩, ⟨d6, other _ _ (ne_of e6 hF4 (by intro z; cases z)) e6⟩, other _ _ hfw'.symm e7, ⟨ts2, other _ _ hfb'.symm e8, e9.1, fun i t p a b => ?_⟩, e10⟩
      have e := e9.2 i t p a b
      exact other _ _ (ne_of e hF4 (by intro z; cases z)) e
    · rw [upd_same, List.map_append, List.length_map, List.append_assoc]; rfl
    · rw [hdj]; exact hRest2
    · rw [hdue, edue, List.append_assoc]
    · show l.length - ((j : Int)).toNat < l.length - ((i : Int)).toNat
      rw [Int.toNat_natCast, Int.toNat_natCast]
      omega
theorem ok_ans {f : Addr} {fd : FuncData} (F : Fun K "answers" "answers" sAns f fd) (T : Txt K mg CS CD CR fR) (B : Tabs K mg aN aL) (C0 : CalD P w K mg base CS CD) (C1 : Cal P w K mg base "lists_from" CX0 1 ["calls", "at", "many"] (spLf K)) (C2 : Cal P w K mg base "answer_to" CX0 8 ["desk", "call", "n", "lists"] (spAt K CS CD)) :
    FnOk P w K mg base CX0 9 f fd ["calls"] (spAns K) := by
  refine F.ok scAns (fun vs H Q E h => ?_) (fun cdv A outer s H vs Q E hr h => ⟨t_ans K CS CD aN aL, ?_, pure_ans T B vs H Q E h⟩)
  · obtain ⟨a, l, due, rfl, _⟩ := h
    rfl
  · have hr1 : Room 1 _ := hr.mono (by decide)
    have hr4 : Room 4 _ := hr.mono (by decide)
    exact pss_cons (ps_set (i := 1) scAns.nd rfl (Or.inl rfl) (pe_mkD C0 hr4 T.gD))
      (pss_cons (ps_set (i := 2) scAns.nd rfl (Or.inl rfl) (pe_lst pa_nil))
      (pss_cons (ps_set (i := 3) scAns.nd rfl (Or.inl rfl) pe_int)
      (pss_cons (ps_while PassesOwn.never (pt_cmpR op_lt (pv 3) (pe_callB call_len_seq (by rfl) T.len PySem.boot_len (pa_cons (pv 0) pa_nil)) (nomark _))
        (pss_cons (ps_set (i := 4) scAns.nd rfl (Or.inl rfl) (pe_ix ix_list (pv 0) (pv 3) (fun _ _ => rfl)))
        (pss_cons (ps_set (i := 5) scAns.nd rfl (Or.inl rfl) (pe_op op_add (pe_op op_add (pv 3) pe_int) (pe_ix ix_tup (pe_glob rfl B.gN rfl) (pv 4) (fun _ _ => rfl))))
        (pss_cons (ps_asg (pe_cal C1 hr1 rfl pass0 (pa_cons (pv 0) (pa_cons (pv 5) (pa_cons (pe_ix ix_tup (pe_glob rfl B.gL rfl) (pv 4) (fun _ _ => rfl)) pa_nil)))) (pg_tup rfl (pgs_cons (pg_name (i := 6) scAns.nd rfl (Or.inl rfl)) (pgs_cons (pg_name (i := 7) scAns.nd rfl (Or.inl rfl)) pgs_nil))))
        (pss_cons (ps_set (i := 8) scAns.nd rfl (Or.inl rfl) (pe_cal C2 hr rfl pass0 (pa_cons (pv 1) (pa_cons (pv 4) (pa_cons (pe_slice sl_list (pv 0) (po_some (pe_op op_add (pv 3) pe_int)) (po_some (pv 5))) (pa_cons (pv 6) pa_nil))))))
        (pss_cons (ps_expr (pe_bm PySem.F.plainAttrs_list PySem.F.slot_list_append PySem.F.type_list_append mt_append (pv 2) (pa_cons (pe_callB call_len_seq (by rfl) T.len PySem.boot_len (pa_cons (pv 8) pa_nil)) pa_nil)))
        (pss_cons (ps_expr (pe_bm PySem.F.plainAttrs_list PySem.F.slot_list_extend PySem.F.type_list_extend mt_extend (pv 2) (pa_cons (pv 8) pa_nil)))
        (pss_one (ps_set (i := 3) scAns.nd rfl (Or.inl rfl) (pv 7))))))))))
      (pss_one (ps_ret (pv 2))))))
end
end Sf
namespace Sf
open PySem PySem.Spec PyProof.Rows L2
/-- an error of the class at S is what «except S» names -/
theorem exm_self {K : PySem.W.Frag} {S : Addr} (h1 : PySem.W.subIn K (.ref S) (.type "BaseException") = some true) (h2 : PySem.W.isClsIn K S = true) (h3 : PySem.W.typeIn K (.ref S) = some (.type "type")) (h4 : PySem.W.subIn K (.ref S) (.ref S) = some true) :
    PySem.W.exmOne K (.ref S) (.ref S) = some true := by
  have e1 : (PySem.W.subIn K (.ref S) (.type "BaseException") == some true) = true := by rw [h1] <;> rfl
  have e2 : ((PySem.W.clsIn K S).isSome && PySem.W.typeIn K (.ref S) == some (.type "type")) = true := by
    have h2' : (PySem.W.clsIn K S).isSome = true := h2
    rw [h2', h3] <;> rfl
  show (if (PySem.W.subIn K (.ref S) (.type "BaseException") == some true) = true then (if ((PySem.W.clsIn K S).isSome && PySem.W.typeIn K (.ref S) == some (.type "type")) = true then PySem.W.subIn K (.ref S) (.ref S) else none) else none) = some true
  rw [if_pos e1, if_pos e2]
  exact h4
theorem tab_at {K : PySem.W.Frag} {a : Addr} {od : Option Addr} {sl : Array (Option Value)} {n : Nat} {i0 i1 i2 i3 i4 i5 i6 : Int} {u0 u1 u2 u3 u4 u5 u6 : Tok}
    (l : K.lookup a = some ⟨.type "tuple", od, .seq #[.int i0 u0, .int i1 u1, .int i2 u2, .int i3 u3, .int i4 u4, .int i5 u5, .int i6 u6] n, sl⟩) (H : Hp) : SqT K H a [.int i0, .int i1, .int i2, .int i3, .int i4, .int i5, .int i6] :=
  .inr ⟨_, _, _, l, rfl, rfl, le_line (by show 7 ≤ 1000000; decide), .cons ⟨_, rfl⟩ (.cons ⟨_, rfl⟩ (.cons ⟨_, rfl⟩ (.cons ⟨_, rfl⟩ (.cons ⟨_, rfl⟩ (.cons ⟨_, rfl⟩ (.cons ⟨_, rfl⟩ .nil))))))⟩
theorem all_mk {P : Program} {w : World} {K : PySem.W.Frag} {h : Heap} {mg : Str → Option Value} {fa CS CD CR fR aN aL : Addr} (X : K.In h) (G : h.Ns mainGlobals mg) (hfa : mg "answers" = some (.ref fa))
    {fOut : Addr} {odOut anOut : Option Addr} {slOut : Array (Option Value)} {ocOut kVOut dcOut pmOut cdOut ctOut : Value}
    {fWo : Addr} {odWo anWo : Option Addr} {slWo : Array (Option Value)} {ocWo kVWo dcWo pmWo cdWo ctWo : Value}
    {fWB : Addr} {odWB anWB : Option Addr} {slWB : Array (Option Value)} {ocWB kVWB dcWB pmWB cdWB ctWB : Value}
    {fFi : Addr} {odFi anFi : Option Addr} {slFi : Array (Option Value)} {ocFi kVFi dcFi pmFi cdFi ctFi : Value}
    {fAl : Addr} {odAl anAl : Option Addr} {slAl : Array (Option Value)} {ocAl kVAl dcAl pmAl cdAl ctAl : Value}
    {fOb : Addr} {odOb anOb : Option Addr} {slOb : Array (Option Value)} {ocOb kVOb dcOb pmOb cdOb ctOb : Value}
    {fOw : Addr} {odOw anOw : Option Addr} {slOw : Array (Option Value)} {ocOw kVOw dcOw pmOw cdOw ctOw : Value}
    {fMe : Addr} {odMe anMe : Option Addr} {slMe : Array (Option Value)} {ocMe kVMe dcMe pmMe cdMe ctMe : Value}
    {fSh : Addr} {odSh anSh : Option Addr} {slSh : Array (Option Value)} {ocSh kVSh dcSh pmSh cdSh ctSh : Value}
    {fCh : Addr} {odCh anCh : Option Addr} {slCh : Array (Option Value)} {ocCh kVCh dcCh pmCh cdCh ctCh : Value}
    {fSw : Addr} {odSw anSw : Option Addr} {slSw : Array (Option Value)} {ocSw kVSw dcSw pmSw cdSw ctSw : Value}
    {fSi : Addr} {odSi anSi : Option Addr} {slSi : Array (Option Value)} {ocSi kVSi dcSi pmSi cdSi ctSi : Value}
    {fEf : Addr} {odEf anEf : Option Addr} {slEf : Array (Option Value)} {ocEf kVEf dcEf pmEf cdEf ctEf : Value}
    {fOd : Addr} {odOd anOd : Option Addr} {slOd : Array (Option Value)} {ocOd kVOd dcOd pmOd cdOd ctOd : Value}
    {fWf : Addr} {odWf anWf : Option Addr} {slWf : Array (Option Value)} {ocWf kVWf dcWf pmWf cdWf ctWf : Value}
    {fWn : Addr} {odWn anWn : Option Addr} {slWn : Array (Option Value)} {ocWn kVWn dcWn pmWn cdWn ctWn : Value}
    {fRi : Addr} {odRi anRi : Option Addr} {slRi : Array (Option Value)} {ocRi kVRi dcRi pmRi cdRi ctRi : Value}
    {fCt : Addr} {odCt anCt : Option Addr} {slCt : Array (Option Value)} {ocCt kVCt dcCt pmCt cdCt ctCt : Value}
    {fBe : Addr} {odBe anBe : Option Addr} {slBe : Array (Option Value)} {ocBe kVBe dcBe pmBe cdBe ctBe : Value}
    {fWr : Addr} {odWr anWr : Option Addr} {slWr : Array (Option Value)} {ocWr kVWr dcWr pmWr cdWr ctWr : Value}
    {fBo : Addr} {odBo anBo : Option Addr} {slBo : Array (Option Value)} {ocBo kVBo dcBo pmBo cdBo ctBo : Value}
    {fCk : Addr} {odCk anCk : Option Addr} {slCk : Array (Option Value)} {ocCk kVCk dcCk pmCk cdCk ctCk : Value}
    {fCa : Addr} {odCa anCa : Option Addr} {slCa : Array (Option Value)} {ocCa kVCa dcCa pmCa cdCa ctCa : Value}
    {fOs : Addr} {odOs anOs : Option Addr} {slOs : Array (Option Value)} {ocOs kVOs dcOs pmOs cdOs ctOs : Value}
    {fNe : Addr} {odNe anNe : Option Addr} {slNe : Array (Option Value)} {ocNe kVNe dcNe pmNe cdNe ctNe : Value}
    {fCo : Addr} {odCo anCo : Option Addr} {slCo : Array (Option Value)} {ocCo kVCo dcCo pmCo cdCo ctCo : Value}
    {fAt : Addr} {odAt anAt : Option Addr} {slAt : Array (Option Value)} {ocAt kVAt dcAt pmAt cdAt ctAt : Value}
    {fLf : Addr} {odLf anLf : Option Addr} {slLf : Array (Option Value)} {ocLf kVLf dcLf pmLf cdLf ctLf : Value}
    {fAns : Addr} {odAns anAns : Option Addr} {slAns : Array (Option Value)} {ocAns kVAns dcAns pmAns cdAns ctAns : Value}
    {fSI : Addr} {odSI anSI : Option Addr} {slSI : Array (Option Value)} {ocSI kVSI dcSI pmSI cdSI ctSI : Value}
    {fDI : Addr} {odDI anDI : Option Addr} {slDI : Array (Option Value)} {ocDI kVDI dcDI pmDI cdDI ctDI : Value}
    {nm q : Str} {N : Addr} {bs : List Value} {sn : List Str} {sub : List Value} {ab : Bool} {col : Option Bool} {dd : Option Addr} {m0 m1 m2 m3 m5 : Option Value} {odR anR : Option Addr} {slR : Array (Option Value)} {ocR dcR pmR cdR ctR : Value}
    {odN odL : Option Addr} {slN slL : Array (Option Value)} {nN nL : Nat} {u0 u1 u2 u3 u4 u5 u6 x0 x1 x2 x3 x4 x5 x6 : Tok} {tout tsuch tsame tfull tsure tmWins tmWres tmBout : Tok}
    (gS : PySem.W.nsIn K mainGlobals "Standing" = some (some (.ref CS)))
    (gD : PySem.W.nsIn K mainGlobals "Desk" = some (some (.ref CD)))
    (gR : PySem.W.nsIn K mainGlobals "Refusal" = some (some (.ref CR)))
    (aOut : PySem.W.nsIn K mainGlobals "outcomes" = some (some (.ref fOut)))
    (lOut : K.lookup fOut = some ⟨ocOut, odOut, .func (PySem.W.fnOf "outcomes" "outcomes" (defArgs sOut) (defBody sOut) (defScope sOut) .none kVOut dcOut pmOut anOut cdOut ctOut), slOut⟩)
    (cOut : PySem.W.codeIn K cdOut "outcomes" = true)
    (kOut : PySem.W.keepIn K (.ref fOut) = true)
    (aWo : PySem.W.nsIn K mainGlobals "winner_of" = some (some (.ref fWo)))
    (lWo : K.lookup fWo = some ⟨ocWo, odWo, .func (PySem.W.fnOf "winner_of" "winner_of" (defArgs sWo) (defBody sWo) (defScope sWo) .none kVWo dcWo pmWo anWo cdWo ctWo), slWo⟩)
    (cWo : PySem.W.codeIn K cdWo "winner_of" = true)
    (kWo : PySem.W.keepIn K (.ref fWo) = true)
    (aWB : PySem.W.nsIn K mainGlobals "wins_by" = some (some (.ref fWB)))
    (lWB : K.lookup fWB = some ⟨ocWB, odWB, .func (PySem.W.fnOf "wins_by" "wins_by" (defArgs sWB) (defBody sWB) (defScope sWB) .none kVWB dcWB pmWB anWB cdWB ctWB), slWB⟩)
    (cWB : PySem.W.codeIn K cdWB "wins_by" = true)
    (kWB : PySem.W.keepIn K (.ref fWB) = true)
    (aFi : PySem.W.nsIn K mainGlobals "is_first" = some (some (.ref fFi)))
    (lFi : K.lookup fFi = some ⟨ocFi, odFi, .func (PySem.W.fnOf "is_first" "is_first" (defArgs sFi) (defBody sFi) (defScope sFi) .none kVFi dcFi pmFi anFi cdFi ctFi), slFi⟩)
    (cFi : PySem.W.codeIn K cdFi "is_first" = true)
    (kFi : PySem.W.keepIn K (.ref fFi) = true)
    (aAl : PySem.W.nsIn K mainGlobals "is_alone" = some (some (.ref fAl)))
    (lAl : K.lookup fAl = some ⟨ocAl, odAl, .func (PySem.W.fnOf "is_alone" "is_alone" (defArgs sAl) (defBody sAl) (defScope sAl) .none kVAl dcAl pmAl anAl cdAl ctAl), slAl⟩)
    (cAl : PySem.W.codeIn K cdAl "is_alone" = true)
    (kAl : PySem.W.keepIn K (.ref fAl) = true)
    (aOb : PySem.W.nsIn K mainGlobals "own_bouts" = some (some (.ref fOb)))
    (lOb : K.lookup fOb = some ⟨ocOb, odOb, .func (PySem.W.fnOf "own_bouts" "own_bouts" (defArgs sOb) (defBody sOb) (defScope sOb) .none kVOb dcOb pmOb anOb cdOb ctOb), slOb⟩)
    (cOb : PySem.W.codeIn K cdOb "own_bouts" = true)
    (kOb : PySem.W.keepIn K (.ref fOb) = true)
    (aOw : PySem.W.nsIn K mainGlobals "own_wins" = some (some (.ref fOw)))
    (lOw : K.lookup fOw = some ⟨ocOw, odOw, .func (PySem.W.fnOf "own_wins" "own_wins" (defArgs sOw) (defBody sOw) (defScope sOw) .none kVOw dcOw pmOw anOw cdOw ctOw), slOw⟩)
    (cOw : PySem.W.codeIn K cdOw "own_wins" = true)
    (kOw : PySem.W.keepIn K (.ref fOw) = true)
    (aMe : PySem.W.nsIn K mainGlobals "members" = some (some (.ref fMe)))
    (lMe : K.lookup fMe = some ⟨ocMe, odMe, .func (PySem.W.fnOf "members" "members" (defArgs sMe) (defBody sMe) (defScope sMe) .none kVMe dcMe pmMe anMe cdMe ctMe), slMe⟩)
    (cMe : PySem.W.codeIn K cdMe "members" = true)
    (kMe : PySem.W.keepIn K (.ref fMe) = true)
    (aSh : PySem.W.nsIn K mainGlobals "shared_out" = some (some (.ref fSh)))
    (lSh : K.lookup fSh = some ⟨ocSh, odSh, .func (PySem.W.fnOf "shared_out" "shared_out" (defArgs sSh) (defBody sSh) (defScope sSh) .none kVSh dcSh pmSh anSh cdSh ctSh), slSh⟩)
    (cSh : PySem.W.codeIn K cdSh "shared_out" = true)
    (kSh : PySem.W.keepIn K (.ref fSh) = true)
    (aCh : PySem.W.nsIn K mainGlobals "could_have" = some (some (.ref fCh)))
    (lCh : K.lookup fCh = some ⟨ocCh, odCh, .func (PySem.W.fnOf "could_have" "could_have" (defArgs sCh) (defBody sCh) (defScope sCh) .none kVCh dcCh pmCh anCh cdCh ctCh), slCh⟩)
    (cCh : PySem.W.codeIn K cdCh "could_have" = true)
    (kCh : PySem.W.keepIn K (.ref fCh) = true)
    (aSw : PySem.W.nsIn K mainGlobals "stands_in_way" = some (some (.ref fSw)))
    (lSw : K.lookup fSw = some ⟨ocSw, odSw, .func (PySem.W.fnOf "stands_in_way" "stands_in_way" (defArgs sSw) (defBody sSw) (defScope sSw) .none kVSw dcSw pmSw anSw cdSw ctSw), slSw⟩)
    (cSw : PySem.W.codeIn K cdSw "stands_in_way" = true)
    (kSw : PySem.W.keepIn K (.ref fSw) = true)
    (aSi : PySem.W.nsIn K mainGlobals "set_in_way" = some (some (.ref fSi)))
    (lSi : K.lookup fSi = some ⟨ocSi, odSi, .func (PySem.W.fnOf "set_in_way" "set_in_way" (defArgs sSi) (defBody sSi) (defScope sSi) .none kVSi dcSi pmSi anSi cdSi ctSi), slSi⟩)
    (cSi : PySem.W.codeIn K cdSi "set_in_way" = true)
    (kSi : PySem.W.keepIn K (.ref fSi) = true)
    (aEf : PySem.W.nsIn K mainGlobals "earliest_for" = some (some (.ref fEf)))
    (lEf : K.lookup fEf = some ⟨ocEf, odEf, .func (PySem.W.fnOf "earliest_for" "earliest_for" (defArgs sEf) (defBody sEf) (defScope sEf) .none kVEf dcEf pmEf anEf cdEf ctEf), slEf⟩)
    (cEf : PySem.W.codeIn K cdEf "earliest_for" = true)
    (kEf : PySem.W.keepIn K (.ref fEf) = true)
    (aOd : PySem.W.nsIn K mainGlobals "odds_of" = some (some (.ref fOd)))
    (lOd : K.lookup fOd = some ⟨ocOd, odOd, .func (PySem.W.fnOf "odds_of" "odds_of" (defArgs sOd) (defBody sOd) (defScope sOd) .none kVOd dcOd pmOd anOd cdOd ctOd), slOd⟩)
    (cOd : PySem.W.codeIn K cdOd "odds_of" = true)
    (kOd : PySem.W.keepIn K (.ref fOd) = true)
    (aWf : PySem.W.nsIn K mainGlobals "wins_that_fail" = some (some (.ref fWf)))
    (lWf : K.lookup fWf = some ⟨ocWf, odWf, .func (PySem.W.fnOf "wins_that_fail" "wins_that_fail" (defArgs sWf) (defBody sWf) (defScope sWf) .none kVWf dcWf pmWf anWf cdWf ctWf), slWf⟩)
    (cWf : PySem.W.codeIn K cdWf "wins_that_fail" = true)
    (kWf : PySem.W.keepIn K (.ref fWf) = true)
    (aWn : PySem.W.nsIn K mainGlobals "wins_needed" = some (some (.ref fWn)))
    (lWn : K.lookup fWn = some ⟨ocWn, odWn, .func (PySem.W.fnOf "wins_needed" "wins_needed" (defArgs sWn) (defBody sWn) (defScope sWn) .none kVWn dcWn pmWn anWn cdWn ctWn), slWn⟩)
    (cWn : PySem.W.codeIn K cdWn "wins_needed" = true)
    (kWn : PySem.W.keepIn K (.ref fWn) = true)
    (aRi : PySem.W.nsIn K mainGlobals "refuse_if" = some (some (.ref fRi)))
    (lRi : K.lookup fRi = some ⟨ocRi, odRi, .func (PySem.W.fnOf "refuse_if" "refuse_if" (defArgs sRi) (defBody sRi) (defScope sRi) .none kVRi dcRi pmRi anRi cdRi ctRi), slRi⟩)
    (cRi : PySem.W.codeIn K cdRi "refuse_if" = true)
    (kRi : PySem.W.keepIn K (.ref fRi) = true)
    (aCt : PySem.W.nsIn K mainGlobals "check_there" = some (some (.ref fCt)))
    (lCt : K.lookup fCt = some ⟨ocCt, odCt, .func (PySem.W.fnOf "check_there" "check_there" (defArgs sCt) (defBody sCt) (defScope sCt) .none kVCt dcCt pmCt anCt cdCt ctCt), slCt⟩)
    (cCt : PySem.W.codeIn K cdCt "check_there" = true)
    (kCt : PySem.W.keepIn K (.ref fCt) = true)
    (aBe : PySem.W.nsIn K mainGlobals "begins" = some (some (.ref fBe)))
    (lBe : K.lookup fBe = some ⟨ocBe, odBe, .func (PySem.W.fnOf "begins" "begins" (defArgs sBe) (defBody sBe) (defScope sBe) .none kVBe dcBe pmBe anBe cdBe ctBe), slBe⟩)
    (cBe : PySem.W.codeIn K cdBe "begins" = true)
    (kBe : PySem.W.keepIn K (.ref fBe) = true)
    (aWr : PySem.W.nsIn K mainGlobals "wrestler" = some (some (.ref fWr)))
    (lWr : K.lookup fWr = some ⟨ocWr, odWr, .func (PySem.W.fnOf "wrestler" "wrestler" (defArgs sWr) (defBody sWr) (defScope sWr) .none kVWr dcWr pmWr anWr cdWr ctWr), slWr⟩)
    (cWr : PySem.W.codeIn K cdWr "wrestler" = true)
    (kWr : PySem.W.keepIn K (.ref fWr) = true)
    (aBo : PySem.W.nsIn K mainGlobals "bout" = some (some (.ref fBo)))
    (lBo : K.lookup fBo = some ⟨ocBo, odBo, .func (PySem.W.fnOf "bout" "bout" (defArgs sBo) (defBody sBo) (defScope sBo) .none kVBo dcBo pmBo anBo cdBo ctBo), slBo⟩)
    (cBo : PySem.W.codeIn K cdBo "bout" = true)
    (kBo : PySem.W.keepIn K (.ref fBo) = true)
    (aCk : PySem.W.nsIn K mainGlobals "check" = some (some (.ref fCk)))
    (lCk : K.lookup fCk = some ⟨ocCk, odCk, .func (PySem.W.fnOf "check" "check" (defArgs sCk) (defBody sCk) (defScope sCk) .none kVCk dcCk pmCk anCk cdCk ctCk), slCk⟩)
    (cCk : PySem.W.codeIn K cdCk "check" = true)
    (kCk : PySem.W.keepIn K (.ref fCk) = true)
    (aCa : PySem.W.nsIn K mainGlobals "can" = some (some (.ref fCa)))
    (lCa : K.lookup fCa = some ⟨ocCa, odCa, .func (PySem.W.fnOf "can" "can" (defArgs sCa) (defBody sCa) (defScope sCa) .none kVCa dcCa pmCa anCa cdCa ctCa), slCa⟩)
    (cCa : PySem.W.codeIn K cdCa "can" = true)
    (kCa : PySem.W.keepIn K (.ref fCa) = true)
    (aOs : PySem.W.nsIn K mainGlobals "odds" = some (some (.ref fOs)))
    (lOs : K.lookup fOs = some ⟨ocOs, odOs, .func (PySem.W.fnOf "odds" "odds" (defArgs sOs) (defBody sOs) (defScope sOs) .none kVOs dcOs pmOs anOs cdOs ctOs), slOs⟩)
    (cOs : PySem.W.codeIn K cdOs "odds" = true)
    (kOs : PySem.W.keepIn K (.ref fOs) = true)
    (aNe : PySem.W.nsIn K mainGlobals "needs" = some (some (.ref fNe)))
    (lNe : K.lookup fNe = some ⟨ocNe, odNe, .func (PySem.W.fnOf "needs" "needs" (defArgs sNe) (defBody sNe) (defScope sNe) .none kVNe dcNe pmNe anNe cdNe ctNe), slNe⟩)
    (cNe : PySem.W.codeIn K cdNe "needs" = true)
    (kNe : PySem.W.keepIn K (.ref fNe) = true)
    (aCo : PySem.W.nsIn K mainGlobals "call_on" = some (some (.ref fCo)))
    (lCo : K.lookup fCo = some ⟨ocCo, odCo, .func (PySem.W.fnOf "call_on" "call_on" (defArgs sCo) (defBody sCo) (defScope sCo) .none kVCo dcCo pmCo anCo cdCo ctCo), slCo⟩)
    (cCo : PySem.W.codeIn K cdCo "call_on" = true)
    (kCo : PySem.W.keepIn K (.ref fCo) = true)
    (aAt : PySem.W.nsIn K mainGlobals "answer_to" = some (some (.ref fAt)))
    (lAt : K.lookup fAt = some ⟨ocAt, odAt, .func (PySem.W.fnOf "answer_to" "answer_to" (defArgs sAt) (defBody sAt) (defScope sAt) .none kVAt dcAt pmAt anAt cdAt ctAt), slAt⟩)
    (cAt : PySem.W.codeIn K cdAt "answer_to" = true)
    (kAt : PySem.W.keepIn K (.ref fAt) = true)
    (aLf : PySem.W.nsIn K mainGlobals "lists_from" = some (some (.ref fLf)))
    (lLf : K.lookup fLf = some ⟨ocLf, odLf, .func (PySem.W.fnOf "lists_from" "lists_from" (defArgs sLf) (defBody sLf) (defScope sLf) .none kVLf dcLf pmLf anLf cdLf ctLf), slLf⟩)
    (cLf : PySem.W.codeIn K cdLf "lists_from" = true)
    (kLf : PySem.W.keepIn K (.ref fLf) = true)
    (aAns : PySem.W.nsIn K mainGlobals "answers" = some (some (.ref fAns)))
    (lAns : K.lookup fAns = some ⟨ocAns, odAns, .func (PySem.W.fnOf "answers" "answers" (defArgs sAns) (defBody sAns) (defScope sAns) .none kVAns dcAns pmAns anAns cdAns ctAns), slAns⟩)
    (cAns : PySem.W.codeIn K cdAns "answers" = true)
    (kAns : PySem.W.keepIn K (.ref fAns) = true)
    (aSI : PySem.W.findIn K (.ref CS) "__init__" = some (some (.ref fSI)))
    (iSI : PySem.W.isFn K (.ref fSI) = true)
    (lSI : K.lookup fSI = some ⟨ocSI, odSI, .func (PySem.W.fnOf "__init__" "Standing.__init__" (defArgs sSI) (defBody sSI) (defScope sSI) .none kVSI dcSI pmSI anSI cdSI ctSI), slSI⟩)
    (cSI : PySem.W.codeIn K cdSI "Standing.__init__" = true)
    (kSI : PySem.W.keepIn K (.ref fSI) = true)
    (pgCS : PySem.W.plainGet K CS Str.empty = true)
    (hdCS : PySem.W.hasDictIn K CS = true)
    (poCS : PySem.W.plainOver K CS = true)
    (saCS : PySem.W.findIn K (.ref CS) "__setattr__" = some (some (.builtin "object.__setattr__")))
    (mkCS : PySem.W.makesIn K CS = true)
    (kcCS : PySem.W.keepIn K (.ref CS) = true)
    (aDI : PySem.W.findIn K (.ref CD) "__init__" = some (some (.ref fDI)))
    (iDI : PySem.W.isFn K (.ref fDI) = true)
    (lDI : K.lookup fDI = some ⟨ocDI, odDI, .func (PySem.W.fnOf "__init__" "Desk.__init__" (defArgs sDI) (defBody sDI) (defScope sDI) .none kVDI dcDI pmDI anDI cdDI ctDI), slDI⟩)
    (cDI : PySem.W.codeIn K cdDI "Desk.__init__" = true)
    (kDI : PySem.W.keepIn K (.ref fDI) = true)
    (pgCD : PySem.W.plainGet K CD Str.empty = true)
    (hdCD : PySem.W.hasDictIn K CD = true)
    (poCD : PySem.W.plainOver K CD = true)
    (saCD : PySem.W.findIn K (.ref CD) "__setattr__" = some (some (.builtin "object.__setattr__")))
    (mkCD : PySem.W.makesIn K CD = true)
    (kcCD : PySem.W.keepIn K (.ref CD) = true)
    (nW : PySem.W.findIn K (.ref CS) "wins" = some none)
    (nB : PySem.W.findIn K (.ref CS) "bouts" = some none)
    (nD : PySem.W.findIn K (.ref CD) "standing" = some none)
    (xR : K.lookup CR = some (excClassObj nm q CR N bs [.type "ValueError", .type "Exception", .type "BaseException", .type "object"] true sn sub ab col dd m0 m1 m2 m3 m5 "ValueError.__new__"))
    (saR : PySem.W.findIn K (.ref CR) "__setattr__" = some (some (.builtin "object.__setattr__")))
    (gaR : PySem.W.findIn K (.ref CR) "__getattribute__" = some (some (.builtin "BaseException.__getattribute__")))
    (ggR : PySem.W.findIn K (.ref CR) "__getattr__" = some none)
    (nbR : PySem.W.findIn K (.ref CR) "number" = some none)
    (aR : PySem.W.findIn K (.ref CR) "__init__" = some (some (.ref fR)))
    (tR : PySem.W.typeIn K (.ref fR) = some (.type "function"))
    (lR : K.lookup fR = some ⟨ocR, odR, .func (PySem.W.fnOf "__init__" "Refusal.__init__" (PySem.RefX.iA ⟨82, 17, 82, 21⟩ ⟨82, 23, 82, 29⟩) (PySem.RefX.iB ⟨83, 8, 83, 12⟩ ⟨83, 8, 83, 19⟩ ⟨83, 22, 83, 28⟩ ⟨83, 8, 83, 28⟩) PySem.RefX.iS .none .none dcR pmR anR cdR ctR), slR⟩)
    (cR : PySem.W.codeIn K cdR "Refusal.__init__" = true)
    (kR : PySem.W.keepIn K (.ref CR) = true)
    (eR : PySem.W.subIn K (.ref CR) (.type "BaseException") = some true)
    (tyR : PySem.W.typeIn K (.ref CR) = some (.type "type"))
    (hR : PySem.W.hasDictIn K CR = true)
    (iR : PySem.W.isClsIn K CR = true)
    (sR : PySem.W.subIn K (.ref CR) (.ref CR) = some true)
    (v_out : PySem.W.nsIn K mainGlobals "OUT" = some (some (.int (-1) tout)))
    (v_such : PySem.W.nsIn K mainGlobals "NO_SUCH" = some (some (.int (-2) tsuch)))
    (v_same : PySem.W.nsIn K mainGlobals "SAME" = some (some (.int (-4) tsame)))
    (v_full : PySem.W.nsIn K mainGlobals "FULL" = some (some (.int (-5) tfull)))
    (v_sure : PySem.W.nsIn K mainGlobals "NOT_SURE" = some (some (.int (-6) tsure)))
    (v_mWins : PySem.W.nsIn K mainGlobals "MOST_WINS" = some (some (.int 15 tmWins)))
    (v_mWres : PySem.W.nsIn K mainGlobals "MOST_WRESTLERS" = some (some (.int 6 tmWres)))
    (v_mBout : PySem.W.nsIn K mainGlobals "MOST_BOUTS" = some (some (.int 9 tmBout)))
    (z_list : PySem.W.nsIn K mainGlobals "list" = some none)
    (z_range : PySem.W.nsIn K mainGlobals "range" = some none)
    (z_zip : PySem.W.nsIn K mainGlobals "zip" = some none)
    (z_max : PySem.W.nsIn K mainGlobals "max" = some none)
    (z_len : PySem.W.nsIn K mainGlobals "len" = some none)
    (z_sum : PySem.W.nsIn K mainGlobals "sum" = some none)
    (vN : PySem.W.nsIn K mainGlobals "NUMBERS" = some (some (.ref aN)))
    (vL : PySem.W.nsIn K mainGlobals "LISTS" = some (some (.ref aL)))
    (lN : K.lookup aN = some ⟨.type "tuple", odN, .seq #[.int 0 u0, .int 1 u1, .int 2 u2, .int 0 u3, .int 1 u4, .int 1 u5, .int 1 u6] nN, slN⟩)
    (lL : K.lookup aL = some ⟨.type "tuple", odL, .seq #[.int 0 x0, .int 0 x1, .int 0 x2, .int 1 x3, .int 0 x4, .int 0 x5, .int 0 x6] nL, slL⟩) :
    ∃ fd : FuncData, (∀ (s : Shared) (us : List Value), us.length = (["calls"] : List Str).length → BindsTo s fd ⟨us, []⟩ ((["calls"] : List Str).zip us)) ∧ ∀ base : Heap, K.In base → base.Ns mainGlobals mg → FnOk P w K mg base CX0 9 fa fd ["calls"] (spAns K) := by
  have e := hfa.symm.trans (PySem.W.mg_of X G aAns)
  cases e
  have ref : PySem.RefX.RefTxt K mg CR fR :=
    { gC := PySem.W.mg_of X G gR, cls := ⟨nm, q, N, bs, _, sn, sub, ab, col, dd, m0, m1, m2, m3, m5, xR, by decide +kernel⟩, sa := saR, ga := gaR, gg := ggR, noN := nbR, iC := aR, tC := tR, kC := kR, exC := eR, tyC := tyR, hdC := hR, te := exm_self eR iR tyR sR,
      fn := ⟨_, _, _, _, _, _, _, _, _, _, _, _, _, _, lR, cR⟩ }
  have T : Txt K mg CS CD CR fR := ⟨ref, ⟨pgCS, hdCS, poCS, saCS⟩, nW, nB, PySem.W.mg_of X G gS, ⟨pgCD, hdCD, poCD, saCD⟩, nD, PySem.W.mg_of X G gD, PySem.W.mg_none_of X G z_list, PySem.W.mg_none_of X G z_range, PySem.W.mg_none_of X G z_zip, PySem.W.mg_none_of X G z_max, PySem.W.mg_none_of X G z_len, PySem.W.mg_none_of X G z_sum⟩
  have N : Kon mg := ⟨⟨_, PySem.W.mg_of X G v_out⟩, ⟨_, PySem.W.mg_of X G v_such⟩, ⟨_, PySem.W.mg_of X G v_same⟩, ⟨_, PySem.W.mg_of X G v_full⟩, ⟨_, PySem.W.mg_of X G v_sure⟩, ⟨_, PySem.W.mg_of X G v_mWins⟩, ⟨_, PySem.W.mg_of X G v_mWres⟩, ⟨_, PySem.W.mg_of X G v_mBout⟩⟩
  have B : Tabs K mg aN aL := ⟨PySem.W.mg_of X G vN, PySem.W.mg_of X G vL, tab_at lN, tab_at lL⟩
  have FOut := fun_mk (st := sOut) lOut cOut kOut
  have bOut := FOut.binds (ps := ["many"]) fun _ _ _ _ _ _ us hl => match us, hl with | [_], _ => rfl
  have FWo := fun_mk (st := sWo) lWo cWo kWo
  have bWo := FWo.binds (ps := ["bout", "won"]) fun _ _ _ _ _ _ us hl => match us, hl with | [_, _], _ => rfl
  have FWB := fun_mk (st := sWB) lWB cWB kWB
  have bWB := FWB.binds (ps := ["standing", "outcome"]) fun _ _ _ _ _ _ us hl => match us, hl with | [_, _], _ => rfl
  have FFi := fun_mk (st := sFi) lFi cFi kFi
  have bFi := FFi.binds (ps := ["wins", "who"]) fun _ _ _ _ _ _ us hl => match us, hl with | [_, _], _ => rfl
  have FAl := fun_mk (st := sAl) lAl cAl kAl
  have bAl := FAl.binds (ps := ["wins", "who"]) fun _ _ _ _ _ _ us hl => match us, hl with | [_, _], _ => rfl
  have FOb := fun_mk (st := sOb) lOb cOb kOb
  have bOb := FOb.binds (ps := ["standing", "who"]) fun _ _ _ _ _ _ us hl => match us, hl with | [_, _], _ => rfl
  have FOw := fun_mk (st := sOw) lOw cOw kOw
  have bOw := FOw.binds (ps := ["standing", "outcome", "who"]) fun _ _ _ _ _ _ us hl => match us, hl with | [_, _, _], _ => rfl
  have FMe := fun_mk (st := sMe) lMe cMe kMe
  have bMe := FMe.binds (ps := ["number", "many"]) fun _ _ _ _ _ _ us hl => match us, hl with | [_, _], _ => rfl
  have FSh := fun_mk (st := sSh) lSh cSh kSh
  have bSh := FSh.binds (ps := ["standing", "some"]) fun _ _ _ _ _ _ us hl => match us, hl with | [_, _], _ => rfl
  have FCh := fun_mk (st := sCh) lCh cCh kCh
  have bCh := FCh.binds (ps := ["standing", "who"]) fun _ _ _ _ _ _ us hl => match us, hl with | [_, _], _ => rfl
  have FSw := fun_mk (st := sSw) lSw cSw kSw
  have bSw := FSw.binds (ps := ["standing", "who", "number"]) fun _ _ _ _ _ _ us hl => match us, hl with | [_, _, _], _ => rfl
  have FSi := fun_mk (st := sSi) lSi cSi kSi
  have bSi := FSi.binds (ps := ["standing", "who"]) fun _ _ _ _ _ _ us hl => match us, hl with | [_, _], _ => rfl
  have FEf := fun_mk (st := sEf) lEf cEf kEf
  have bEf := FEf.binds (ps := ["standing", "who"]) fun _ _ _ _ _ _ us hl => match us, hl with | [_, _], _ => rfl
  have FOd := fun_mk (st := sOd) lOd cOd kOd
  have bOd := FOd.binds (ps := ["standing", "who"]) fun _ _ _ _ _ _ us hl => match us, hl with | [_, _], _ => rfl
  have FWf := fun_mk (st := sWf) lWf cWf kWf
  have bWf := FWf.binds (ps := ["standing", "who"]) fun _ _ _ _ _ _ us hl => match us, hl with | [_, _], _ => rfl
  have FWn := fun_mk (st := sWn) lWn cWn kWn
  have bWn := FWn.binds (ps := ["standing", "who"]) fun _ _ _ _ _ _ us hl => match us, hl with | [_, _], _ => rfl
  have FRi := fun_mk (st := sRi) lRi cRi kRi
  have bRi := FRi.binds (ps := ["asked", "number"]) fun _ _ _ _ _ _ us hl => match us, hl with | [_, _], _ => rfl
  have FCt := fun_mk (st := sCt) lCt cCt kCt
  have bCt := FCt.binds (ps := ["standing", "who"]) fun _ _ _ _ _ _ us hl => match us, hl with | [_, _], _ => rfl
  have FBe := fun_mk (st := sBe) lBe cBe kBe
  have bBe := FBe.binds (ps := ["desk"]) fun _ _ _ _ _ _ us hl => match us, hl with | [_], _ => rfl
  have FWr := fun_mk (st := sWr) lWr cWr kWr
  have bWr := FWr.binds (ps := ["standing", "wins"]) fun _ _ _ _ _ _ us hl => match us, hl with | [_, _], _ => rfl
  have FBo := fun_mk (st := sBo) lBo cBo kBo
  have bBo := FBo.binds (ps := ["standing", "one", "other"]) fun _ _ _ _ _ _ us hl => match us, hl with | [_, _, _], _ => rfl
  have FCk := fun_mk (st := sCk) lCk cCk kCk
  have bCk := FCk.binds (ps := ["standing", "outcome"]) fun _ _ _ _ _ _ us hl => match us, hl with | [_, _], _ => rfl
  have FCa := fun_mk (st := sCa) lCa cCa kCa
  have bCa := FCa.binds (ps := ["standing", "who"]) fun _ _ _ _ _ _ us hl => match us, hl with | [_, _], _ => rfl
  have FOs := fun_mk (st := sOs) lOs cOs kOs
  have bOs := FOs.binds (ps := ["standing", "who"]) fun _ _ _ _ _ _ us hl => match us, hl with | [_, _], _ => rfl
  have FNe := fun_mk (st := sNe) lNe cNe kNe
  have bNe := FNe.binds (ps := ["standing", "who"]) fun _ _ _ _ _ _ us hl => match us, hl with | [_, _], _ => rfl
  have FCo := fun_mk (st := sCo) lCo cCo kCo
  have bCo := FCo.binds (ps := ["desk", "call", "n", "lists"]) fun _ _ _ _ _ _ us hl => match us, hl with | [_, _, _, _], _ => rfl
  have FAt := fun_mk (st := sAt) lAt cAt kAt
  have bAt := FAt.binds (ps := ["desk", "call", "n", "lists"]) fun _ _ _ _ _ _ us hl => match us, hl with | [_, _, _, _], _ => rfl
  have FLf := fun_mk (st := sLf) lLf cLf kLf
  have bLf := FLf.binds (ps := ["calls", "at", "many"]) fun _ _ _ _ _ _ us hl => match us, hl with | [_, _, _], _ => rfl
  have FAns := fun_mk (st := sAns) lAns cAns kAns
  have FSI := fun_mk (st := sSI) lSI cSI kSI
  have bSI := FSI.binds (ps := ["self"]) fun _ _ _ _ _ _ us hl => match us, hl with | [_], _ => rfl
  have FDI := fun_mk (st := sDI) lDI cDI kDI
  have bDI := FDI.binds (ps := ["self"]) fun _ _ _ _ _ _ us hl => match us, hl with | [_], _ => rfl
  refine ⟨PySem.W.fnOf "answers" "answers" (defArgs sAns) (defBody sAns) (defScope sAns) .none kVAns dcAns pmAns anAns cdAns ctAns, fun s us hu => match us, hu with | [_], _ => .of_eq rfl, fun base _ _ => ?_⟩
  have COut : Cal P w K mg base "outcomes" CX0 1 ["many"] spOut := ⟨fOut, _, ok_out FOut T, PySem.W.mg_of X G aOut, kOut, bOut⟩
  have CWo : Cal P w K mg base "winner_of" CX0 1 ["bout", "won"] (spWo K) := ⟨fWo, _, ok_wo FWo , PySem.W.mg_of X G aWo, kWo, bWo⟩
  have CWB : Cal P w K mg base "wins_by" CX0 2 ["standing", "outcome"] (spWB K CS) := ⟨fWB, _, ok_wb FWB T (ok_wo FWo) (PySem.W.mg_of X G aWo) kWo bWo, PySem.W.mg_of X G aWB, kWB, bWB⟩
  have CFi : Cal P w K mg base "is_first" CX0 1 ["wins", "who"] (spFi K) := ⟨fFi, _, ok_fi FFi T, PySem.W.mg_of X G aFi, kFi, bFi⟩
  have CAl : Cal P w K mg base "is_alone" CX0 2 ["wins", "who"] (spAl K) := ⟨fAl, _, ok_al FAl (ok_fi FFi T) (PySem.W.mg_of X G aFi) kFi bFi, PySem.W.mg_of X G aAl, kAl, bAl⟩
  have COb : Cal P w K mg base "own_bouts" CX0 1 ["standing", "who"] (spOb CS) := ⟨fOb, _, ok_ob FOb T, PySem.W.mg_of X G aOb, kOb, bOb⟩
  have COw : Cal P w K mg base "own_wins" CX0 3 ["standing", "outcome", "who"] (spOw K CS) := ⟨fOw, _, ok_ow FOw T (ok_wb FWB T (ok_wo FWo) (PySem.W.mg_of X G aWo) kWo bWo) (PySem.W.mg_of X G aWB) kWB bWB, PySem.W.mg_of X G aOw, kOw, bOw⟩
  have CMe : Cal P w K mg base "members" CX0 1 ["number", "many"] spMe := ⟨fMe, _, ok_me FMe T, PySem.W.mg_of X G aMe, kMe, bMe⟩
  have CSh : Cal P w K mg base "shared_out" CX0 1 ["standing", "some"] (spSh CS) := ⟨fSh, _, ok_sh FSh T, PySem.W.mg_of X G aSh, kSh, bSh⟩
  have CCh : Cal P w K mg base "could_have" CX0 2 ["standing", "who"] (spCh CS) := ⟨fCh, _, ok_ch FCh T (ok_ob FOb T) (PySem.W.mg_of X G aOb) kOb bOb, PySem.W.mg_of X G aCh, kCh, bCh⟩
  have CSw : Cal P w K mg base "stands_in_way" CX0 3 ["standing", "who", "number"] (spSw CS) := ⟨fSw, _, ok_sw FSw T CMe CSh CCh, PySem.W.mg_of X G aSw, kSw, bSw⟩
  have CSi : Cal P w K mg base "set_in_way" CX0 4 ["standing", "who"] (spSi CS) := ⟨fSi, _, ok_si FSi T CSw, PySem.W.mg_of X G aSi, kSi, bSi⟩
  have CEf : Cal P w K mg base "earliest_for" CX0 3 ["standing", "who"] (spEf CS) := ⟨fEf, _, ok_ef FEf T COut CWB CFi, PySem.W.mg_of X G aEf, kEf, bEf⟩
  have COd : Cal P w K mg base "odds_of" CX0 3 ["standing", "who"] (spOd CS) := ⟨fOd, _, ok_od FOd T COut CWB CFi CAl, PySem.W.mg_of X G aOd, kOd, bOd⟩
  have CWf : Cal P w K mg base "wins_that_fail" CX0 4 ["standing", "who"] (spWf CS) := ⟨fWf, _, ok_wf FWf T COut CWB CFi COw, PySem.W.mg_of X G aWf, kWf, bWf⟩
  have CWn : Cal P w K mg base "wins_needed" CX0 5 ["standing", "who"] (spWn CS) := ⟨fWn, _, ok_wn FWn T CWf COb, PySem.W.mg_of X G aWn, kWn, bWn⟩
  have CRi : Cal P w K mg base "refuse_if" (L2.CX P w) 3 ["asked", "number"] (spRi CR) := ⟨fRi, _, ok_ri FRi T, PySem.W.mg_of X G aRi, kRi, bRi⟩
  have CCt : Cal P w K mg base "check_there" (L2.CX P w) 4 ["standing", "who"] (spCt CS CR) := ⟨fCt, _, ok_ct FCt T N CRi, PySem.W.mg_of X G aCt, kCt, bCt⟩
  have CSt : CalS P w K mg base CS := ⟨fSI, _, ⟨mkCS, aSI, iSI, kcCS⟩, ok_SI FSI T, bSI⟩
  have CDk : CalD P w K mg base CS CD := ⟨fDI, _, ⟨mkCD, aDI, iDI, kcCD⟩, ok_DI FDI T CSt, bDI⟩
  have CBe : Cal P w K mg base "begins" CX0 3 ["desk"] (spBe CD CS) := ⟨fBe, _, ok_be FBe T CSt, PySem.W.mg_of X G aBe, kBe, bBe⟩
  have CWr : Cal P w K mg base "wrestler" (L2.CX P w) 4 ["standing", "wins"] (spWr CS CR) := ⟨fWr, _, ok_wr FWr T N CRi, PySem.W.mg_of X G aWr, kWr, bWr⟩
  have CBo : Cal P w K mg base "bout" (L2.CX P w) 5 ["standing", "one", "other"] (spBo CS CR) := ⟨fBo, _, ok_bo FBo T N CRi CCt, PySem.W.mg_of X G aBo, kBo, bBo⟩
  have CCk : Cal P w K mg base "check" (L2.CX P w) 4 ["standing", "outcome"] (spCk K CS CR) := ⟨fCk, _, ok_ck FCk T N CRi CWB CFi, PySem.W.mg_of X G aCk, kCk, bCk⟩
  have CCa : Cal P w K mg base "can" (L2.CX P w) 5 ["standing", "who"] (spCa CS CR) := ⟨fCa, _, ok_ca FCa T CCt CEf CSi, PySem.W.mg_of X G aCa, kCa, bCa⟩
  have COs : Cal P w K mg base "odds" (L2.CX P w) 5 ["standing", "who"] (spOs CS CR) := ⟨fOs, _, ok_os FOs CCt COd, PySem.W.mg_of X G aOs, kOs, bOs⟩
  have CNe : Cal P w K mg base "needs" (L2.CX P w) 6 ["standing", "who"] (spNe CS CR) := ⟨fNe, _, ok_ne FNe N CCt CWn CRi, PySem.W.mg_of X G aNe, kNe, bNe⟩
  have CCo : Cal P w K mg base "call_on" (L2.CX P w) 7 ["desk", "call", "n", "lists"] (spCo K CS CD CR) := ⟨fCo, _, ok_co FCo T CBe CWr CBo CCk CCa COs CNe, PySem.W.mg_of X G aCo, kCo, bCo⟩
  have CAt : Cal P w K mg base "answer_to" CX0 8 ["desk", "call", "n", "lists"] (spAt K CS CD) := ⟨fAt, _, ok_at FAt T CCo, PySem.W.mg_of X G aAt, kAt, bAt⟩
  have CLf : Cal P w K mg base "lists_from" CX0 1 ["calls", "at", "many"] (spLf K) := ⟨fLf, _, ok_lf FLf T, PySem.W.mg_of X G aLf, kLf, bLf⟩
  exact ok_ans FAns T B CDk CLf CAt
end Sf
open PySem PySem.W PyProof.Rows
set_option maxRecDepth 100000 in
set_option maxHeartbeats 8000000 in
theorem PySem.Challenge.cw_stillfirst_s01_answers_holds : PySem.Challenge.rw_stillfirst_s01_answers.Holds := by
  w_on; k_headS; (case hw => exact ⟨[.list [.int 0]], by decide +kernel, by decide +kernel⟩)
  k_fillS
  refine L2.walk_specK (r := PySem.Challenge.rw_stillfirst_s01_answers) (k := 9) (CX := L2.CX0) (ps := ["calls"]) (sp := Sf.spAns) (by decide +kernel) rfl rfl ⟨rfl, by decide, by decide⟩ (fun w h Y => PySem.W.kIn_of Y) ?F ?S (fun _ _ _ _ z => z)
  case F =>
    intro w mg fa h Y KX G hmg
    refine' Sf.all_mk KX G hmg ?gS ?gD ?gR ?aOut ?lOut ?cOut ?kOut ?aWo ?lWo ?cWo ?kWo ?aWB ?lWB ?cWB ?kWB ?aFi ?lFi ?cFi ?kFi ?aAl ?lAl ?cAl ?kAl ?aOb ?lOb ?cOb ?kOb ?aOw ?lOw ?cOw ?kOw ?aMe ?lMe ?cMe ?kMe ?aSh ?lSh ?cSh ?kSh ?aCh ?lCh ?cCh ?kCh ?aSw ?lSw ?cSw ?kSw ?aSi ?lSi ?cSi ?kSi ?aEf ?lEf ?cEf ?kEf ?aOd ?lOd ?cOd ?kOd ?aWf ?lWf ?cWf ?kWf ?aWn ?lWn ?cWn ?kWn ?aRi ?lRi ?cRi ?kRi ?aCt ?lCt ?cCt ?kCt ?aBe ?lBe ?cBe ?kBe ?aWr ?lWr ?cWr ?kWr ?aBo ?lBo ?cBo ?kBo ?aCk ?lCk ?cCk ?kCk ?aCa ?lCa ?cCa ?kCa ?aOs ?lOs ?cOs ?kOs ?aNe ?lNe ?cNe ?kNe ?aCo ?lCo ?cCo ?kCo ?aAt ?lAt ?cAt ?kAt ?aLf ?lLf ?cLf ?kLf ?aAns ?lAns ?cAns ?kAns ?aSI ?iSI ?lSI ?cSI ?kSI ?pgCS ?hdCS ?poCS ?saCS ?mkCS ?kcCS ?aDI ?iDI ?lDI ?cDI ?kDI ?pgCD ?hdCD ?poCD ?saCD ?mkCD ?kcCD ?nW ?nB ?nD ?xR ?saR ?gaR ?ggR ?nbR ?aR ?tR ?lR ?cR ?kR ?eR ?tyR ?hR ?iR ?sR ?v_out ?v_such ?v_same ?v_full ?v_sure ?v_mWins ?v_mWres ?v_mBout ?z_list ?z_range ?z_zip ?z_max ?z_len ?z_sum ?vN ?vL ?lN ?lL
    (case gS => k_is); (case gD => k_is); (case gR => k_is); (case aOut => k_is); (case lOut => k_is)
    (case cOut => k_is); (case kOut => k_is); (case aWo => k_is); (case lWo => k_is); (case cWo => k_is)
    (case kWo => k_is); (case aWB => k_is); (case lWB => k_is); (case cWB => k_is); (case kWB => k_is)
    (case aFi => k_is); (case lFi => k_is); (case cFi => k_is); (case kFi => k_is); (case aAl => k_is)
    (case lAl => k_is); (case cAl => k_is); (case kAl => k_is); (case aOb => k_is); (case lOb => k_is)
    (case cOb => k_is); (case kOb => k_is); (case aOw => k_is); (case lOw => k_is); (case cOw => k_is)
    (case kOw => k_is); (case aMe => k_is); (case lMe => k_is); (case cMe => k_is); (case kMe => k_is)
    (case aSh => k_is); (case lSh => k_is); (case cSh => k_is); (case kSh => k_is); (case aCh => k_is)
    (case lCh => k_is); (case cCh => k_is); (case kCh => k_is); (case aSw => k_is); (case lSw => k_is)
    (case cSw => k_is); (case kSw => k_is); (case aSi => k_is); (case lSi => k_is); (case cSi => k_is)
    (case kSi => k_is); (case aEf => k_is); (case lEf => k_is); (case cEf => k_is); (case kEf => k_is)
    (case aOd => k_is); (case lOd => k_is); (case cOd => k_is); (case kOd => k_is); (case aWf => k_is)
    (case lWf => k_is); (case cWf => k_is); (case kWf => k_is); (case aWn => k_is); (case lWn => k_is)
    (case cWn => k_is); (case kWn => k_is); (case aRi => k_is); (case lRi => k_is); (case cRi => k_is)
    (case kRi => k_is); (case aCt => k_is); (case lCt => k_is); (case cCt => k_is); (case kCt => k_is)
    (case aBe => k_is); (case lBe => k_is); (case cBe => k_is); (case kBe => k_is); (case aWr => k_is)
    (case lWr => k_is); (case cWr => k_is); (case kWr => k_is); (case aBo => k_is); (case lBo => k_is)
    (case cBo => k_is); (case kBo => k_is); (case aCk => k_is); (case lCk => k_is); (case cCk => k_is)
    (case kCk => k_is); (case aCa => k_is); (case lCa => k_is); (case cCa => k_is); (case kCa => k_is)
    (case aOs => k_is); (case lOs => k_is); (case cOs => k_is); (case kOs => k_is); (case aNe => k_is)
    (case lNe => k_is); (case cNe => k_is); (case kNe => k_is); (case aCo => k_is); (case lCo => k_is)
    (case cCo => k_is); (case kCo => k_is); (case aAt => k_is); (case lAt => k_is); (case cAt => k_is)
    (case kAt => k_is); (case aLf => k_is); (case lLf => k_is); (case cLf => k_is); (case kLf => k_is)
    (case aAns => k_is); (case lAns => k_is); (case cAns => k_is); (case kAns => k_is); (case aSI => k_is)
    (case iSI => k_is); (case lSI => k_is); (case cSI => k_is); (case kSI => k_is); (case pgCS => k_is)
    (case hdCS => k_is); (case poCS => k_is); (case saCS => k_is); (case mkCS => k_is); (case kcCS => k_is)
    (case aDI => k_is); (case iDI => k_is); (case lDI => k_is); (case cDI => k_is); (case kDI => k_is)
    (case pgCD => k_is); (case hdCD => k_is); (case poCD => k_is); (case saCD => k_is); (case mkCD => k_is)
    (case kcCD => k_is); (case nW => k_is); (case nB => k_is); (case nD => k_is); (case xR => k_is)
    (case saR => k_is); (case gaR => k_is); (case ggR => k_is); (case nbR => k_is); (case aR => k_is)
    (case tR => k_is); (case lR => k_is); (case cR => k_is); (case kR => k_is); (case eR => k_is)
    (case tyR => k_is); (case hR => k_is); (case iR => k_is); (case sR => first | rfl | k_is); (case v_out => k_is)
    (case v_such => k_is); (case v_same => k_is); (case v_full => k_is); (case v_sure => k_is); (case v_mWins => k_is)
    (case v_mWres => k_is); (case v_mBout => k_is); (case z_list => k_is); (case z_range => k_is); (case z_zip => k_is)
    (case z_max => k_is); (case z_len => k_is); (case z_sum => k_is); (case vN => k_is); (case vL => k_is)
    (case lN => k_is); (case lL => k_is)
  case S =>
    intro K H xs a hO hwi hask hx
    cases hx with
    | cons h1 h2 =>
      cases h2
      cases h1 with
      | lst hs ha =>
        have e := L2.ints_dw a.1 _ ha
        subst e
        obtain ⟨r1, r2⟩ := Mth.rest_all (l := a.1) hask
        exact ⟨_, a.1, _, rfl, hs, r1, r2, fun H' p hp => .lst (L2.SqL.of hp) (L2.dw_ints _)⟩
#print axioms PySem.Challenge.cw_stillfirst_s01_answers_holds
